import JvmDerived
import JvmDerived.Pilot.@@N@@Statement
import JvmDerived.Pilot.@@N@@Code
set_option linter.unusedVariables false
set_option linter.unusedSimpArgs false
namespace Jvm.Own
open Jvm Jvm.ClassFile Sem Op Lib Jvm.Free Jvm.Stand Jvm.LawKit Jvm.RoadKit Bundle
/-! ## values, cells, heaps of the small view -/
theorem leb {a b : Nat} (h : Nat.ble a b = true) : a ≤ b := Nat.le_of_ble_eq_true h
abbrev dc (b : ByteArray) (pc : Nat) (i : Instr) (n : Nat) : Prop := decode b pc = .ok (i, n)
abbrev OwnC : Type := Sum (List Value) (Sum (List Int32) (Sum (List Int64) (List Int32)))
abbrev cO (vs : List Value) : OwnC := .inl vs
abbrev cI (xs : List Int32) : OwnC := .inr (.inl xs)
abbrev cJ (xs : List Int64) : OwnC := .inr (.inr (.inl xs))
abbrev cZ (xs : List Int32) : OwnC := .inr (.inr (.inr xs))
def rf (ad : Nat → Addr) : Value → Value
  | .ref i => .ref (ad i)
  | .int x => .int x
  | .long x => .long x
  | .float x => .float x
  | .double x => .double x
  | .null => .null
  | .retAddr x => .retAddr x
theorem rf_cat (ad : Nat → Addr) (v : Value) : (rf ad v).category = v.category := by cases v <;> rfl
theorem rf_isRef (ad : Nat → Addr) (v : Value) : (rf ad v).isRef = v.isRef := by cases v <;> rfl
theorem rf_cats (ad : Nat → Addr) (S : List Value) : ((S.map (rf ad)).map fun v => v.category) = S.map fun v => v.category := by
  simp [List.map_map, Function.comp_def, rf_cat]
def CelOk (Z : State) (C : String) (lay : List (String × String)) (ad : Nat → Addr) (h : Heap) (a : Addr) : OwnC → Prop
  | .inl vs => Exa Z h a C ∧ ∀ (i : Nat) (f : String × String) (v : Value), lay[i]? = some f → vs[i]? = some v → Fld Z h a C f.1 f.2 (rf ad v)
  | .inr (.inl xs) => ∃ cl : Cell, Arr Z h a cl .int ∧ cl.slots.toList = xs.map Value.int
  | .inr (.inr (.inl xs)) => ∃ cl : Cell, Arr Z h a cl .long ∧ cl.slots.toList = xs.map Value.long
  | .inr (.inr (.inr xs)) => ∃ cl : Cell, Arr Z h a cl .boolean ∧ cl.slots.toList = xs.map Value.int
def HR (Z : State) (C : String) (lay : List (String × String)) (n0 ro : Nat) (ad : Nat → Addr) (H : List OwnC) (h : Heap) : Prop :=
  (∀ i c, H[i]? = some c → CelOk Z C lay ad h (ad i) c) ∧ (∀ i j, i < H.length → j < H.length → ad i = ad j → i = j) ∧ (∀ t, ad (H.length + t) = h.size + t) ∧ (∀ i, i < H.length → ro ≤ i → n0 ≤ ad i) ∧ n0 ≤ h.size
def Kp (ad : Nat → Addr) (N : Nat) (h h' : Heap) : Prop := h.size ≤ h'.size ∧ ∀ (a : Addr) (c : Cell), h[a]? = some c → (∀ i, i < N → ad i ≠ a) → h'[a]? = some c
theorem CelOk.keep {Z : State} {C : String} {lay : List (String × String)} {ad : Nat → Addr} {h h' : Heap} {a : Addr} {c : OwnC} (q : ∀ cz : Cell, h[a]? = some cz → h'[a]? = some cz) (F : CelOk Z C lay ad h a c) : CelOk Z C lay ad h' a c := by
  rcases c with vs | xs | xs | xs
  · obtain ⟨⟨cell, k, h1, r⟩, F2⟩ := F
    refine ⟨⟨cell, k, q _ h1, r⟩, fun i f v hf hv => ?_⟩
    obtain ⟨cell, cf, k, i, f, h1, r⟩ := F2 i f v hf hv
    exact ⟨cell, cf, k, i, f, q _ h1, r⟩
  all_goals
    obtain ⟨cl, ⟨h1, r⟩, h2⟩ := F
    exact ⟨cl, ⟨q _ h1, r⟩, h2⟩
theorem CelOk.lt {Z : State} {C : String} {lay : List (String × String)} {ad : Nat → Addr} {h : Heap} {a : Addr} {c : OwnC} (F : CelOk Z C lay ad h a c) : a < h.size := by
  rcases c with vs | xs | xs | xs
  · exact F.1.lt
  all_goals
    obtain ⟨cl, A, h2⟩ := F
    exact A.lt
theorem Kp.refl (ad : Nat → Addr) (N : Nat) (h : Heap) : Kp ad N h h := ⟨Nat.le_refl _, fun _ _ q _ => q⟩
theorem get_lt {α : Type} {L : List α} {i : Nat} {c : α} (h : L[i]? = some c) : i < L.length := (List.getElem?_eq_some_iff.mp h).1
section HRs
variable {Z : State} {C : String} {lay : List (String × String)} {n0 ro : Nat} {ad : Nat → Addr} {H H' : List OwnC} {h h' h'' : Heap}
/-- the addresses at or above H.length lie at or above the heap's size -/
theorem HR.new (R : HR Z C lay n0 ro ad H h) {i : Nat} (hi : H.length ≤ i) : h.size ≤ ad i := by
  obtain ⟨t, rfl⟩ := Nat.exists_eq_add_of_le hi
  rw [R.2.2.1 t]; exact Nat.le_add_right _ _
theorem Kp.trans (R : HR Z C lay n0 ro ad H h) (K : Kp ad H.length h h') {N : Nat} (K' : Kp ad N h' h'') : Kp ad H.length h h'' := by
  refine ⟨Nat.le_trans K.1 K'.1, fun a c hc hn => K'.2 a c (K.2 a c hc hn) fun i hi q => ?_⟩
  by_cases hl : i < H.length
  · exact hn i hl q
  · have h1 := R.new (Nat.le_of_not_lt hl)
    rw [q] at h1
    exact absurd (Array.getElem?_eq_some_iff.mp hc).1 (Nat.not_lt.mpr h1)
/-- one cell of the small heap is written anew, at its own address -/
theorem HR.put (R : HR Z C lay n0 ro ad H h) {i : Nat} {c : OwnC} (hi : i < H.length) (hs : h'.size = h.size) (ho : ∀ a cz, a ≠ ad i → h[a]? = some cz → h'[a]? = some cz) (hc : CelOk Z C lay ad h' (ad i) c) :
    HR Z C lay n0 ro ad (H.set i c) h' ∧ Kp ad H.length h h' := by
  refine ⟨⟨fun j c' hj => ?_, fun i' j' hi' hj' => ?_, fun t => ?_, fun i' hi' => ?_, by rw [hs]; exact R.2.2.2.2⟩, by rw [hs]; exact Nat.le_refl _, fun a cz hz hn => ho a cz (fun q => hn i hi q.symm) hz⟩
  · rw [List.getElem?_set] at hj
    by_cases e : i = j
    · subst e
      simp [hi] at hj
      subst hj; exact hc
    · rw [if_neg e] at hj
      exact (R.1 j c' hj).keep fun cz q => ho _ cz (fun q' => e (R.2.1 _ _ hi (get_lt hj) q'.symm)) q
  · simp only [List.length_set] at hi' hj'; exact R.2.1 _ _ hi' hj'
  · rw [List.length_set, hs]; exact R.2.2.1 t
  · simp only [List.length_set] at hi'; exact R.2.2.2.1 _ hi'
/-- a new cell behind all others -/
theorem HR.push (R : HR Z C lay n0 ro ad H h) {c : OwnC} (hs : h'.size = h.size + 1) (hE : Ext h h') (hc : CelOk Z C lay ad h' h.size c) :
    HR Z C lay n0 ro ad (H ++ [c]) h' ∧ Kp ad H.length h h' ∧ ad H.length = h.size := by
  have e0 : ad H.length = h.size := R.2.2.1 0
  refine ⟨⟨fun j c' hj => ?_, fun i j hi hj q => ?_, fun t => ?_, fun i hi hr => ?_, by rw [hs]; exact Nat.le_succ_of_le R.2.2.2.2⟩, ⟨hE.1, fun a cz hz _ => hE.2 _ _ hz⟩, e0⟩
  · by_cases hl : j < H.length
    · rw [List.getElem?_append_left hl] at hj
      exact (R.1 j c' hj).keep fun cz q => hE.2 _ _ q
    · have hl' := get_lt hj
      simp only [List.length_append, List.length_singleton] at hl'
      obtain rfl : j = H.length := by omega
      simp at hj
      subst hj; rw [e0]; exact hc
  · simp only [List.length_append, List.length_singleton] at hi hj
    by_cases h1 : i < H.length
    · by_cases h2 : j < H.length
      · exact R.2.1 _ _ h1 h2 q
      · have a1 := (R.1 i _ (List.getElem?_eq_getElem h1)).lt
        have a2 := R.new (Nat.le_of_not_lt h2)
        rw [q] at a1
        exact absurd a1 (Nat.not_lt.mpr a2)
    · by_cases h2 : j < H.length
      · have a1 := (R.1 j _ (List.getElem?_eq_getElem h2)).lt
        have a2 := R.new (Nat.le_of_not_lt h1)
        rw [q] at a2
        exact absurd a1 (Nat.not_lt.mpr a2)
      · omega
  · rw [hs]
    have := R.2.2.1 (1 + t)
    simp only [List.length_append, List.length_singleton]
    rw [Nat.add_assoc, this]; exact (Nat.add_assoc _ _ _).symm
  · simp only [List.length_append, List.length_singleton] at hi
    by_cases h1 : i < H.length
    · exact R.2.2.2.1 _ h1 hr
    · exact Nat.le_trans R.2.2.2.2 (R.new (Nat.le_of_not_lt h1))
end HRs
/-! ## local variables: 'unset' in the small view says nothing -/
def WFs (f : Nat → Option Slot) : Prop := (∀ i, f i = some .second → ∃ j v, i = j + 1 ∧ f j = some (.val v) ∧ v.category = 2) ∧ ∀ i v, f i = some (.val v) → v.category = 2 → f (i + 1) = some .second
def LR (ad : Nat → Addr) (L : List Slot) (Ls : Array Slot) : Prop :=
  L.length = Ls.size ∧ (∀ (i : Nat) (v : Value), L[i]? = some (.val v) → Ls[i]? = some (.val (rf ad v))) ∧ (∀ i : Nat, L[i]? = some .second → Ls[i]? = some .second) ∧ WFs fun i => Ls[i]?
def kill2 : Slot → Slot
  | .val (.long _) => .unset
  | .val (.double _) => .unset
  | s => s
def killS : Slot → Slot
  | .second => .unset
  | s => s
def hd1 (f : Slot → Slot) : List Slot → List Slot
  | [] => []
  | y :: t => f y :: t
def st1 : List Slot → Nat → Value → List Slot
  | [], _, _ => []
  | _ :: t, 0, v => .val v :: hd1 killS t
  | y :: t, n + 1, v => match n with
    | 0 => kill2 y :: st1 t 0 v
    | k + 1 => y :: st1 t (k + 1) v
def st2 : List Slot → Nat → Value → List Slot
  | [], _, _ => []
  | _ :: t, 0, v => .val v :: (match t with | [] => [] | _ :: t' => .second :: hd1 killS t')
  | y :: t, n + 1, v => match n with
    | 0 => kill2 y :: st2 t 0 v
    | k + 1 => y :: st2 t (k + 1) v
theorem st1_len (v : Value) : ∀ (L : List Slot) (i : Nat), (st1 L i v).length = L.length
  | [], _ => rfl
  | y :: [], 0 => rfl
  | y :: z :: t, 0 => rfl
  | y :: t, 1 => congrArg Nat.succ (st1_len v t 0)
  | y :: t, k + 2 => congrArg Nat.succ (st1_len v t (k + 1))
theorem st2_len (v : Value) : ∀ (L : List Slot) (i : Nat), (st2 L i v).length = L.length
  | [], _ => rfl
  | y :: [], 0 => rfl
  | y :: z :: [], 0 => rfl
  | y :: z :: w :: t, 0 => rfl
  | y :: t, 1 => congrArg Nat.succ (st2_len v t 0)
  | y :: t, k + 2 => congrArg Nat.succ (st2_len v t (k + 1))
theorem kill2_e {y s : Slot} (h : kill2 y = s) (hs : s ≠ .unset) : y = s ∧ ∀ w, s = .val w → w.category = 1 := by
  subst h
  rcases y with _ | _ | w
  · exact absurd rfl hs
  · exact ⟨rfl, fun w h => by cases h⟩
  · cases w <;> first | exact absurd rfl hs | exact ⟨rfl, fun w h => by cases h; rfl⟩
theorem killS_e {y s : Slot} (h : killS y = s) (hs : s ≠ .unset) : y = s ∧ s ≠ .second := by
  subst h
  rcases y with _ | _ | w
  · exact absurd rfl hs
  · exact absurd rfl hs
  · exact ⟨rfl, fun h => by cases h⟩
theorem hd1_e {t : List Slot} {j : Nat} {s : Slot} (h : (hd1 killS t)[j]? = some s) (hs : s ≠ .unset) : t[j]? = some s ∧ (j = 0 → s ≠ .second) := by
  cases t with
  | nil => simp [hd1] at h
  | cons y t =>
    cases j with
    | zero =>
      have h' : killS y = s := by simpa [hd1] using h
      obtain ⟨e1, e2⟩ := killS_e h' hs
      exact ⟨by simp [e1], fun _ => e2⟩
    | succ j => exact ⟨by simpa [hd1] using h, fun q => by cases q⟩
theorem st1_at (v : Value) : ∀ (L : List Slot) (i : Nat), i < L.length → (st1 L i v)[i]? = some (.val v)
  | [], _, h => absurd h (by simp)
  | y :: t, 0, _ => rfl
  | y :: t, 1, h => by simpa [st1] using st1_at v t 0 (by simp at h; omega)
  | y :: t, k + 2, h => by simpa [st1] using st1_at v t (k + 1) (by simp at h; omega)
theorem st1_else (v : Value) : ∀ (L : List Slot) (i j : Nat) (s : Slot), j ≠ i → (st1 L i v)[j]? = some s → s ≠ .unset → L[j]? = some s ∧ (j + 1 = i → ∀ w, s = .val w → w.category = 1) ∧ (j = i + 1 → s ≠ .second)
  | [], _, j, s, _, h, _ => by simp [st1] at h
  | y :: t, 0, 0, s, hj, _, _ => absurd rfl hj
  | y :: t, 0, j + 1, s, hj, h, hs => by
    obtain ⟨e1, e2⟩ := hd1_e (t := t) (j := j) (by simpa [st1] using h) hs
    exact ⟨by simpa using e1, fun q => by omega, fun q => e2 (by omega)⟩
  | y :: t, 1, 0, s, hj, h, hs => by
    obtain ⟨e1, e2⟩ := kill2_e (y := y) (by simpa [st1] using h) hs
    exact ⟨by simp [e1], fun _ => e2, fun q => by omega⟩
  | y :: t, 1, j + 1, s, hj, h, hs => by
    obtain ⟨e1, e2, e3⟩ := st1_else v t 0 j s (by omega) (by simpa [st1] using h) hs
    exact ⟨by simpa using e1, fun q => by omega, fun q => e3 (by omega)⟩
  | y :: t, k + 2, 0, s, hj, h, hs => ⟨by simpa [st1] using h, fun q => by omega, fun q => by omega⟩
  | y :: t, k + 2, j + 1, s, hj, h, hs => by
    obtain ⟨e1, e2, e3⟩ := st1_else v t (k + 1) j s (by omega) (by simpa [st1] using h) hs
    exact ⟨by simpa using e1, fun q => e2 (by omega), fun q => e3 (by omega)⟩
theorem st2_at (v : Value) : ∀ (L : List Slot) (i : Nat), i + 1 < L.length → (st2 L i v)[i]? = some (.val v) ∧ (st2 L i v)[i + 1]? = some .second
  | [], _, h => absurd h (by simp)
  | y :: [], 0, h => absurd h (by simp)
  | y :: z :: t, 0, _ => ⟨rfl, rfl⟩
  | y :: t, 1, h => by simpa [st2] using st2_at v t 0 (by simp at h; omega)
  | y :: t, k + 2, h => by simpa [st2] using st2_at v t (k + 1) (by simp at h; omega)
theorem st2_else (v : Value) : ∀ (L : List Slot) (i j : Nat) (s : Slot), j ≠ i → j ≠ i + 1 → (st2 L i v)[j]? = some s → s ≠ .unset → L[j]? = some s ∧ (j + 1 = i → ∀ w, s = .val w → w.category = 1) ∧ (j = i + 2 → s ≠ .second)
  | [], _, j, s, _, _, h, _ => by simp [st2] at h
  | y :: t, 0, 0, s, hj, _, _, _ => absurd rfl hj
  | y :: t, 0, 1, s, _, hj, _, _ => absurd rfl hj
  | y :: [], 0, j + 2, s, _, _, h, _ => by simp [st2] at h
  | y :: z :: t, 0, j + 2, s, hj, _, h, hs => by
    obtain ⟨e1, e2⟩ := hd1_e (t := t) (j := j) (by simpa [st2] using h) hs
    exact ⟨by simpa using e1, fun q => by omega, fun q => e2 (by omega)⟩
  | y :: t, 1, 0, s, hj, _, h, hs => by
    obtain ⟨e1, e2⟩ := kill2_e (y := y) (by simpa [st2] using h) hs
    exact ⟨by simp [e1], fun _ => e2, fun q => by omega⟩
  | y :: t, 1, j + 1, s, hj, hj', h, hs => by
    obtain ⟨e1, e2, e3⟩ := st2_else v t 0 j s (by omega) (by omega) (by simpa [st2] using h) hs
    exact ⟨by simpa using e1, fun q => by omega, fun q => e3 (by omega)⟩
  | y :: t, k + 2, 0, s, hj, _, h, hs => ⟨by simpa [st2] using h, fun q => by omega, fun q => by omega⟩
  | y :: t, k + 2, j + 1, s, hj, hj', h, hs => by
    obtain ⟨e1, e2, e3⟩ := st2_else v t (k + 1) j s (by omega) (by omega) (by simpa [st2] using h) hs
    exact ⟨by simpa using e1, fun q => e2 (by omega), fun q => e3 (by omega)⟩
theorem setAt_ok {l : Array Slot} {i : Nat} (h : i < l.size) (x : Slot) : setAt l i x = some (l.setIfInBounds i x) := if_pos h
/-- which neighbours a store at i wipes -/
def Bad (Ls : Array Slot) (i j : Nat) : Prop := (j + 1 = i ∧ Ls[i]? = some .second) ∨ (j = i + 1 ∧ ∃ o, Ls[i]? = some (.val o) ∧ o.category = 2)
def Pre1 (Ls Ls1 : Array Slot) (i : Nat) : Prop := Ls1.size = Ls.size ∧ ∀ j, j ≠ i → (¬ Bad Ls i j ∧ Ls1[j]? = Ls[j]?) ∨ (Bad Ls i j ∧ Ls1[j]? = some .unset)
theorem storeLocals_pre {Ls : Array Slot} (wf : WFs fun i => Ls[i]?) {i : Nat} (hi : i < Ls.size) (w : Value) : ∃ Ls1, Pre1 Ls Ls1 i ∧ storeLocals Ls i w = storeSelf Ls1 i w := by
  have hg : Ls[i]? = some Ls[i] := Array.getElem?_eq_getElem hi
  rcases hs : Ls[i] with _ | _ | old
  · rw [hs] at hg
    refine ⟨Ls, ⟨rfl, fun j hj => Or.inl ⟨?_, rfl⟩⟩, ?_⟩
    · rintro (⟨-, q⟩ | ⟨-, o, q, -⟩) <;> (rw [hg] at q; cases q)
    · show (Ls[i]?).bind _ = _; rw [hg]; rfl
  · rw [hs] at hg
    obtain ⟨j0, v, rfl, hv, hc⟩ := wf.1 i hg
    have h0 : j0 < Ls.size := by omega
    refine ⟨Ls.setIfInBounds j0 .unset, ⟨by simp, fun j hj => ?_⟩, ?_⟩
    · by_cases e : j = j0
      · subst e; right; exact ⟨Or.inl ⟨rfl, hg⟩, by simp [h0]⟩
      · left
        refine ⟨?_, by rw [Array.getElem?_setIfInBounds_ne (Ne.symm e)]⟩
        rintro (⟨q', q⟩ | ⟨-, o, q, -⟩)
        · exact e (by omega)
        · rw [hg] at q; cases q
    · show (Ls[j0 + 1]?).bind _ = _; rw [hg]
      show (setAt Ls (j0 + 1 - 1) .unset).bind _ = _
      rw [Nat.add_sub_cancel, setAt_ok h0]; rfl
  · rw [hs] at hg
    by_cases hc : old.category = 2
    · have h1 := wf.2 i old hg hc
      have h1' : i + 1 < Ls.size := (Array.getElem?_eq_some_iff.mp h1).1
      refine ⟨Ls.setIfInBounds (i + 1) .unset, ⟨by simp, fun j hj => ?_⟩, ?_⟩
      · by_cases e : j = i + 1
        · subst e; right; exact ⟨Or.inr ⟨rfl, old, hg, hc⟩, by simp [h1']⟩
        · left
          refine ⟨?_, by rw [Array.getElem?_setIfInBounds_ne (Ne.symm e)]⟩
          rintro (⟨-, q⟩ | ⟨q, -⟩)
          · rw [hg] at q; cases q
          · exact e q
      · show (Ls[i]?).bind _ = _; rw [hg]
        show (if old.category = 2 then _ else _) = _
        rw [if_pos hc]
        show (setAt Ls (i + 1) .unset).bind _ = _
        rw [setAt_ok h1']; rfl
    · refine ⟨Ls, ⟨rfl, fun j hj => Or.inl ⟨?_, rfl⟩⟩, ?_⟩
      · rintro (⟨-, q⟩ | ⟨-, o, q, q'⟩) <;> (rw [hg] at q; cases q)
        exact hc q'
      · show (Ls[i]?).bind _ = _; rw [hg]
        show (if old.category = 2 then _ else _) = _
        rw [if_neg hc]
section St
variable {Ls : Array Slot} {i j : Nat}
/-- a value of one word is not wiped -/
theorem not_bad_val (wf : WFs fun i => Ls[i]?) {w : Value} (hj : Ls[j]? = some (.val w)) (hw : j + 1 = i → w.category = 1) : ¬ Bad Ls i j := by
  rintro (⟨rfl, q⟩ | ⟨rfl, o, q, q'⟩)
  · obtain ⟨j0, v, e, h1, h2⟩ := wf.1 _ q
    obtain rfl : j0 = j := by omega
    cases h1.symm.trans hj
    rw [hw rfl] at h2; cases h2
  · have := wf.2 _ _ q q'
    cases this.symm.trans hj
theorem not_bad_second (wf : WFs fun i => Ls[i]?) (hj : Ls[j]? = some .second) (hne : j ≠ i + 1) : ¬ Bad Ls i j := by
  rintro (⟨rfl, q⟩ | ⟨q, -⟩)
  · obtain ⟨j0, v, e, h1, h2⟩ := wf.1 _ q
    obtain rfl : j0 = j := by omega
    cases h1.symm.trans hj
  · exact hne q
end St
theorem LR.store1 {ad : Nat → Addr} {L : List Slot} {Ls : Array Slot} (hL : LR ad L Ls) {i : Nat} (hi : i < L.length) {v : Value} (hv : v.category = 1) : ∃ Ls', storeLocals Ls i (rf ad v) = some Ls' ∧ LR ad (st1 L i v) Ls' ∧ Ls'.size = Ls.size := by
  obtain ⟨l1, l2, l3, wf⟩ := hL
  have hi' : i < Ls.size := l1 ▸ hi
  have hv' : (rf ad v).category = 1 := by rw [rf_cat]; exact hv
  obtain ⟨Ls1, ⟨p1, p2⟩, e⟩ := storeLocals_pre wf hi' (rf ad v)
  have hi1 : i < Ls1.size := by rw [p1]; exact hi'
  have e2 : storeSelf Ls1 i (rf ad v) = some (Ls1.setIfInBounds i (.val (rf ad v))) := by
    show (setAt Ls1 i _).bind _ = _
    rw [setAt_ok hi1]
    show (if (rf ad v).category = 2 then _ else _) = _
    rw [if_neg (by rw [hv']; decide)]
  have at_i : (Ls1.setIfInBounds i (.val (rf ad v)))[i]? = some (.val (rf ad v)) := by simp [hi1]
  have at_j : ∀ j, j ≠ i → (Ls1.setIfInBounds i (.val (rf ad v)))[j]? = Ls1[j]? := fun j hj => Array.getElem?_setIfInBounds_ne (Ne.symm hj)
  have good : ∀ j, j ≠ i → ¬ Bad Ls i j → (Ls1.setIfInBounds i (.val (rf ad v)))[j]? = Ls[j]? := fun j hj hb => by
    rw [at_j j hj]
    rcases p2 j hj with ⟨-, q⟩ | ⟨q, -⟩
    · exact q
    · exact absurd q hb
  have back : ∀ j s, j ≠ i → s ≠ .unset → (Ls1.setIfInBounds i (.val (rf ad v)))[j]? = some s → ¬ Bad Ls i j ∧ Ls[j]? = some s := fun j s hj hs h => by
    rw [at_j j hj] at h
    rcases p2 j hj with ⟨q, q'⟩ | ⟨-, q⟩
    · exact ⟨q, by rw [← q']; exact h⟩
    · rw [q] at h; cases h; exact absurd rfl hs
  refine ⟨_, e.trans e2, ⟨by rw [st1_len, l1]; simp [p1], fun j w hj => ?_, fun j hj => ?_, fun j hj => ?_, fun j w hj hc => ?_⟩, by simp [p1]⟩
  · by_cases q : j = i
    · subst q
      rw [st1_at v L j hi] at hj
      cases hj; exact at_i
    · obtain ⟨a1, a2, -⟩ := st1_else v L i j _ q hj (by simp)
      have b1 := l2 j w a1
      rw [good j q (not_bad_val wf b1 fun z => by rw [rf_cat]; exact a2 z w rfl)]; exact b1
  · by_cases q : j = i
    · subst q
      rw [st1_at v L j hi] at hj
      cases hj
    · obtain ⟨a1, -, a3⟩ := st1_else v L i j _ q hj (by simp)
      have b1 := l3 j a1
      rw [good j q (not_bad_second wf b1 fun z => a3 z rfl)]; exact b1
  · dsimp only at hj ⊢
    have q : j ≠ i := fun q => by subst q; rw [at_i] at hj; cases hj
    obtain ⟨b1, b2⟩ := back j _ q (by simp) hj
    obtain ⟨j0, v', rfl, h1, h2⟩ := wf.1 j b2
    refine ⟨j0, v', rfl, ?_, h2⟩
    have q0 : j0 ≠ i := fun z => b1 (Or.inr ⟨by omega, v', z ▸ h1, h2⟩)
    rw [good j0 q0 ?_]; exact h1
    rintro (⟨z, -⟩ | ⟨z, o, z1, z2⟩)
    · exact q z
    · have := wf.2 _ _ z1 z2
      rw [← z] at this
      cases this.symm.trans h1
  · dsimp only at hj ⊢
    have q : j ≠ i := fun q => by subst q; rw [at_i] at hj; cases hj; rw [hv'] at hc; cases hc
    obtain ⟨b1, b2⟩ := back j _ q (by simp) hj
    have h1 := wf.2 j w b2 hc
    dsimp only at h1
    have q0 : j + 1 ≠ i := fun z => b1 (Or.inl ⟨z, z ▸ h1⟩)
    rw [good (j + 1) q0 ?_]; exact h1
    rintro (⟨z, z1⟩ | ⟨z, -⟩)
    · obtain ⟨j1, v1, e1, e2, -⟩ := wf.1 _ z1
      obtain rfl : j1 = j + 1 := by omega
      cases h1.symm.trans e2
    · omega
theorem LR.store2 {ad : Nat → Addr} {L : List Slot} {Ls : Array Slot} (hL : LR ad L Ls) {i : Nat} (hi : i + 1 < L.length) {v : Value} (hv : v.category = 2) : ∃ Ls', storeLocals Ls i (rf ad v) = some Ls' ∧ LR ad (st2 L i v) Ls' ∧ Ls'.size = Ls.size := by
  obtain ⟨l1, l2, l3, wf⟩ := hL
  have hi' : i + 1 < Ls.size := l1 ▸ hi
  have hv' : (rf ad v).category = 2 := by rw [rf_cat]; exact hv
  obtain ⟨Ls1, ⟨p1, p2⟩, e⟩ := storeLocals_pre wf (by omega : i < Ls.size) (rf ad v)
  have hi1 : i < Ls1.size := by rw [p1]; omega
  have hi2 : i + 1 < Ls1.size := by rw [p1]; omega
  -- what the second half leaves: two slots, and the one behind wiped where a long began at i + 1
  have key : ∃ Ls', storeSelf Ls1 i (rf ad v) = some Ls' ∧ Ls'.size = Ls1.size ∧ Ls'[i]? = some (.val (rf ad v)) ∧ Ls'[i + 1]? = some .second ∧ ∀ j, j ≠ i → j ≠ i + 1 → (Ls'[j]? = Ls1[j]? ∧ ¬ (j = i + 2 ∧ ∃ o, Ls1[i + 1]? = some (.val o) ∧ o.category = 2)) ∨ (Ls'[j]? = some .unset ∧ j = i + 2 ∧ ∃ o, Ls1[i + 1]? = some (.val o) ∧ o.category = 2) := by
    have n1 : (Ls1.setIfInBounds i (.val (rf ad v)))[i + 1]? = Ls1[i + 1]? := Array.getElem?_setIfInBounds_ne (by omega)
    have g1 : Ls1[i + 1]? = some Ls1[i + 1] := Array.getElem?_eq_getElem hi2
    have open1 : storeSelf Ls1 i (rf ad v) = ((Ls1.setIfInBounds i (.val (rf ad v)))[i + 1]?).bind fun x => match x with
      | .val old => if old.category = 2 then (setAt (Ls1.setIfInBounds i (.val (rf ad v))) (i + 2) .unset).bind fun z => setAt z (i + 1) .second else setAt (Ls1.setIfInBounds i (.val (rf ad v))) (i + 1) .second
      | _ => setAt (Ls1.setIfInBounds i (.val (rf ad v))) (i + 1) .second := by
      show (setAt Ls1 i _).bind _ = _
      rw [setAt_ok hi1]
      show (if (rf ad v).category = 2 then _ else _) = _
      rw [if_pos hv']; rfl
    have plain : (∀ o, Ls1[i + 1]? = some (.val o) → o.category ≠ 2) → storeSelf Ls1 i (rf ad v) = setAt (Ls1.setIfInBounds i (.val (rf ad v))) (i + 1) .second := fun hno => by
      rw [open1, n1, g1]
      rcases hs : Ls1[i + 1] with _ | _ | old
      · rfl
      · rfl
      · show (if old.category = 2 then _ else _) = _
        rw [if_neg (hno old (by rw [g1, hs]))]
    have szz : i + 1 < (Ls1.setIfInBounds i (.val (rf ad v))).size := by simpa using hi2
    by_cases hb : ∃ o, Ls1[i + 1]? = some (.val o) ∧ o.category = 2
    · obtain ⟨o, ho, ho2⟩ := hb
      have b1 : Ls[i + 1]? = some (.val o) := by
        rcases p2 (i + 1) (by omega) with ⟨-, q⟩ | ⟨-, q⟩
        · rw [← q]; exact ho
        · rw [q] at ho; cases ho
      have h3 : i + 2 < Ls1.size := by rw [p1]; exact (Array.getElem?_eq_some_iff.mp (wf.2 _ _ b1 ho2)).1
      refine ⟨((Ls1.setIfInBounds i (.val (rf ad v))).setIfInBounds (i + 2) .unset).setIfInBounds (i + 1) .second, ?_, by simp, ?_, ?_, fun j hj hj' => ?_⟩
      · rw [open1, n1, ho]
        show (if o.category = 2 then _ else _) = _
        rw [if_pos ho2, setAt_ok (by simpa using h3)]
        show setAt _ (i + 1) .second = _
        rw [setAt_ok (by simpa using hi2)]
      · rw [Array.getElem?_setIfInBounds_ne (by omega), Array.getElem?_setIfInBounds_ne (by omega)]; simp [hi1]
      · simp [hi2]
      · rw [Array.getElem?_setIfInBounds_ne (by omega)]
        by_cases z : j = i + 2
        · subst z; right; exact ⟨by simp [h3], rfl, o, ho, ho2⟩
        · left; exact ⟨by rw [Array.getElem?_setIfInBounds_ne (by omega), Array.getElem?_setIfInBounds_ne (by omega)], fun q => z q.1⟩
    · refine ⟨(Ls1.setIfInBounds i (.val (rf ad v))).setIfInBounds (i + 1) .second, ?_, by simp, ?_, ?_, fun j hj hj' => Or.inl ⟨?_, fun q => hb q.2⟩⟩
      · rw [plain fun o ho q => hb ⟨o, ho, q⟩, setAt_ok szz]
      · rw [Array.getElem?_setIfInBounds_ne (by omega)]; simp [hi1]
      · simp [hi2]
      · rw [Array.getElem?_setIfInBounds_ne (by omega), Array.getElem?_setIfInBounds_ne (by omega)]
  obtain ⟨Ls', e2, sz, at_i, at_i1, at_j⟩ := key
  -- i + 1 seen from Ls
  have up : ∀ o, Ls1[i + 1]? = some (.val o) → Ls[i + 1]? = some (.val o) := fun o ho => by
    rcases p2 (i + 1) (by omega) with ⟨-, q⟩ | ⟨-, q⟩
    · rw [← q]; exact ho
    · rw [q] at ho; cases ho
  have good : ∀ j, j ≠ i → j ≠ i + 1 → ¬ Bad Ls i j → ¬ (j = i + 2 ∧ ∃ o, Ls[i + 1]? = some (.val o) ∧ o.category = 2) → Ls'[j]? = Ls[j]? := fun j hj hj' hb hb' => by
    rcases at_j j hj hj' with ⟨q, -⟩ | ⟨-, q1, o, q2, q3⟩
    · rw [q]
      rcases p2 j hj with ⟨-, q⟩ | ⟨q, -⟩
      · exact q
      · exact absurd q hb
    · exact absurd ⟨q1, o, up o q2, q3⟩ hb'
  have back : ∀ j s, j ≠ i → j ≠ i + 1 → s ≠ .unset → Ls'[j]? = some s → ¬ Bad Ls i j ∧ Ls[j]? = some s ∧ ¬ (j = i + 2 ∧ ∃ o, Ls1[i + 1]? = some (.val o) ∧ o.category = 2) := fun j s hj hj' hs h => by
    rcases at_j j hj hj' with ⟨q, q0⟩ | ⟨q, -⟩
    · rw [q] at h
      rcases p2 j hj with ⟨q1, q'⟩ | ⟨-, q'⟩
      · exact ⟨q1, by rw [← q']; exact h, q0⟩
      · rw [q'] at h; cases h; exact absurd rfl hs
    · rw [q] at h; cases h; exact absurd rfl hs
  have s2 := st2_at v L i hi
  refine ⟨_, e.trans e2, ⟨by rw [st2_len, l1, sz, p1], fun j w hj => ?_, fun j hj => ?_, fun j hj => ?_, fun j w hj hc => ?_⟩, by rw [sz, p1]⟩
  · by_cases q : j = i
    · subst q
      rw [s2.1] at hj
      cases hj; exact at_i
    · by_cases q1 : j = i + 1
      · subst q1; rw [s2.2] at hj; cases hj
      · obtain ⟨a1, a2, -⟩ := st2_else v L i j _ q q1 hj (by simp)
        have b1 := l2 j w a1
        rw [good j q q1 (not_bad_val wf b1 fun z => by rw [rf_cat]; exact a2 z w rfl) ?_]; exact b1
        rintro ⟨rfl, o, z1, z2⟩
        have := wf.2 _ _ z1 z2
        cases this.symm.trans b1
  · by_cases q : j = i
    · subst q
      rw [s2.1] at hj
      cases hj
    · by_cases q1 : j = i + 1
      · subst q1; exact at_i1
      · obtain ⟨a1, -, a3⟩ := st2_else v L i j _ q q1 hj (by simp)
        have b1 := l3 j a1
        rw [good j q q1 (not_bad_second wf b1 q1) fun z => a3 z.1 rfl]; exact b1
  · dsimp only at hj ⊢
    by_cases q1 : j = i + 1
    · subst q1; exact ⟨i, _, rfl, at_i, hv'⟩
    have q : j ≠ i := fun q => by subst q; rw [at_i] at hj; cases hj
    obtain ⟨b1, b2, b3⟩ := back j _ q q1 (by simp) hj
    obtain ⟨j0, v', rfl, h1, h2⟩ := wf.1 j b2
    dsimp only at h1
    have q0 : j0 ≠ i := fun z => b1 (Or.inr ⟨by omega, v', z ▸ h1, h2⟩)
    -- j0 = i + 1: then j = i + 2 was wiped
    have q0' : j0 ≠ i + 1 := fun z => by
      subst z
      rcases p2 (i + 1) (by omega) with ⟨-, w1⟩ | ⟨w1, -⟩
      · exact b3 ⟨rfl, v', by rw [w1]; exact h1, h2⟩
      · rcases w1 with ⟨w1, -⟩ | ⟨-, o, w1, w2⟩
        · omega
        · have := wf.2 _ _ w1 w2
          cases this.symm.trans h1
    refine ⟨j0, v', rfl, ?_, h2⟩
    rw [good j0 q0 q0' ?_ ?_]; exact h1
    · rintro (⟨z, -⟩ | ⟨z, -⟩)
      · exact q z
      · exact q0' z
    · rintro ⟨rfl, o, z1, z2⟩
      have := wf.2 _ _ z1 z2
      cases this.symm.trans h1
  · dsimp only at hj ⊢
    by_cases q1 : j = i
    · subst q1; exact at_i1
    have q : j ≠ i + 1 := fun q => by subst q; rw [at_i1] at hj; cases hj
    obtain ⟨b1, b2, -⟩ := back j _ q1 q (by simp) hj
    have h1 := wf.2 j w b2 hc
    dsimp only at h1
    have q0 : j + 1 ≠ i := fun z => b1 (Or.inl ⟨z, z ▸ h1⟩)
    rw [good (j + 1) q0 (by omega) ?_ ?_]; exact h1
    · rintro (⟨z, z1⟩ | ⟨z, -⟩)
      · obtain ⟨j1, v1, e1, e2, -⟩ := wf.1 _ z1
        obtain rfl : j1 = j + 1 := by omega
        cases h1.symm.trans e2
      · omega
    · rintro ⟨z, -⟩; omega
/-! what is known less of -/
def leL : List Slot → List Slot → Prop
  | [], [] => True
  | .unset :: a, _ :: b => leL a b
  | x :: a, y :: b => x = y ∧ leL a b
  | _, _ => False
theorem leL_len : ∀ {A B : List Slot}, leL A B → A.length = B.length
  | [], [], _ => rfl
  | .unset :: a, _ :: b, h => congrArg Nat.succ (leL_len (A := a) (B := b) h)
  | .second :: a, _ :: b, h => congrArg Nat.succ (leL_len (A := a) (B := b) h.2)
  | .val _ :: a, _ :: b, h => congrArg Nat.succ (leL_len (A := a) (B := b) h.2)
theorem leL_get : ∀ {A B : List Slot}, leL A B → ∀ {i : Nat} {s : Slot}, A[i]? = some s → s ≠ .unset → B[i]? = some s
  | [], [], _, i, s, h, _ => by simp at h
  | .unset :: a, _ :: b, _, 0, s, h, hs => by simp at h; exact absurd h.symm hs
  | .unset :: a, _ :: b, hl, i + 1, s, h, hs => by simpa using leL_get (A := a) (B := b) hl (by simpa using h) hs
  | .second :: a, _ :: b, hl, 0, s, h, hs => by simp at h; subst h; simp [← hl.1]
  | .second :: a, _ :: b, hl, i + 1, s, h, hs => by simpa using leL_get (A := a) (B := b) hl.2 (by simpa using h) hs
  | .val _ :: a, _ :: b, hl, 0, s, h, hs => by simp at h; subst h; simp [← hl.1]
  | .val _ :: a, _ :: b, hl, i + 1, s, h, hs => by simpa using leL_get (A := a) (B := b) hl.2 (by simpa using h) hs
theorem LR.weak {ad : Nat → Addr} {A B : List Slot} {Ls : Array Slot} (h : leL A B) (hL : LR ad B Ls) : LR ad A Ls :=
  ⟨(leL_len h).trans hL.1, fun i v q => hL.2.1 i v (leL_get h q (by simp)), fun i q => hL.2.2.1 i (leL_get h q (by simp)), hL.2.2.2⟩
theorem wf_cons {x : Slot} {M : List Slot} (hx : x = .unset ∨ ∃ v, x = .val v ∧ v.category = 1) (h : WFs fun i => M[i]?) : WFs fun i => (x :: M)[i]? := by
  refine ⟨fun i hi => ?_, fun i v hi hc => ?_⟩
  · cases i with
    | zero => rcases hx with rfl | ⟨v, rfl, -⟩ <;> (simp at hi)
    | succ i =>
      obtain ⟨j, v, rfl, h1, h2⟩ := h.1 i (by simpa using hi)
      exact ⟨j + 1, v, rfl, by simpa using h1, h2⟩
  · cases i with
    | zero =>
      rcases hx with rfl | ⟨w, rfl, hw⟩
      · simp at hi
      · simp at hi; subst hi; rw [hw] at hc; cases hc
    | succ i => simpa using h.2 i v (by simpa using hi) hc
theorem wf_cons2 {w : Value} {M : List Slot} (hw : w.category = 2) (h : WFs fun i => M[i]?) : WFs fun i => (.val w :: .second :: M)[i]? := by
  refine ⟨fun i hi => ?_, fun i v hi hc => ?_⟩
  · match i, hi with
    | 0, hi => simp at hi
    | 1, _ => exact ⟨0, w, rfl, rfl, hw⟩
    | i + 2, hi =>
      obtain ⟨j, v, rfl, h1, h2⟩ := h.1 i (by simpa using hi)
      exact ⟨j + 2, v, rfl, by simpa using h1, h2⟩
  · match i, hi with
    | 0, _ => rfl
    | 1, hi => simp at hi
    | i + 2, hi => simpa using h.2 i v (by simpa using hi) hc
/-- the local variables at the entry -/
def laid : List Value → List Slot
  | [] => []
  | v :: vs => if v.category = 2 then .val v :: .second :: laid vs else .val v :: laid vs
def entL (as : List Value) (n : Nat) : List Slot := laid as ++ List.replicate (n - (laid as).length) Slot.unset
theorem laid_rel (ad : Nat → Addr) (k : Nat) : ∀ as : List Value, (laid as ++ List.replicate k Slot.unset).length = (laid (as.map (rf ad)) ++ List.replicate k Slot.unset).length ∧ (∀ (i : Nat) (v : Value), (laid as ++ List.replicate k Slot.unset)[i]? = some (.val v) → (laid (as.map (rf ad)) ++ List.replicate k Slot.unset)[i]? = some (.val (rf ad v))) ∧
    (∀ i : Nat, (laid as ++ List.replicate k Slot.unset)[i]? = some .second → (laid (as.map (rf ad)) ++ List.replicate k Slot.unset)[i]? = some .second) ∧ WFs fun i => (laid (as.map (rf ad)) ++ List.replicate k Slot.unset)[i]?
  | [] => by
    refine ⟨rfl, fun i v h => ?_, fun i h => h, fun i h => ?_, fun i v h => ?_⟩
    · simp [laid, List.getElem?_replicate] at h
    · simp [laid, List.getElem?_replicate] at h
    · simp [laid, List.getElem?_replicate] at h
  | v :: vs => by
    obtain ⟨a1, a2, a3, a4⟩ := laid_rel ad k vs
    have hc : (rf ad v).category = v.category := rf_cat ad v
    by_cases h : v.category = 2
    · have e1 : laid (v :: vs) = .val v :: .second :: laid vs := if_pos h
      have e2 : laid ((v :: vs).map (rf ad)) = .val (rf ad v) :: .second :: laid (vs.map (rf ad)) := if_pos (hc.trans h)
      rw [e1, e2]
      refine ⟨by simpa using a1, fun i w hi => ?_, fun i hi => ?_, wf_cons2 (hc.trans h) a4⟩
      · match i, hi with
        | 0, hi => simp at hi; subst hi; rfl
        | 1, hi => simp at hi
        | i + 2, hi => simpa using a2 i w (by simpa using hi)
      · match i, hi with
        | 0, hi => simp at hi
        | 1, hi => rfl
        | i + 2, hi => simpa using a3 i (by simpa using hi)
    · have e1 : laid (v :: vs) = .val v :: laid vs := if_neg h
      have e2 : laid ((v :: vs).map (rf ad)) = .val (rf ad v) :: laid (vs.map (rf ad)) := if_neg (by rw [hc]; exact h)
      have h1 : (rf ad v).category = 1 := by
        rw [hc]; cases v <;> first | rfl | exact absurd rfl h
      rw [e1, e2]
      refine ⟨by simpa using a1, fun i w hi => ?_, fun i hi => ?_, wf_cons (Or.inr ⟨_, rfl, h1⟩) a4⟩
      · match i, hi with
        | 0, hi => simp at hi; subst hi; rfl
        | i + 1, hi => simpa using a2 i w (by simpa using hi)
      · match i, hi with
        | 0, hi => simp at hi
        | i + 1, hi => simpa using a3 i (by simpa using hi)
theorem laid_foldl : ∀ (as : List Value) (acc : Array Slot), (as.foldl (fun acc v => if v.category = 2 then (acc.push (.val v)).push .second else acc.push (.val v)) acc).toList = acc.toList ++ laid as
  | [], acc => by simp [laid]
  | v :: vs, acc => by
    show (List.foldl _ (if v.category = 2 then (acc.push (.val v)).push .second else acc.push (.val v)) vs : Array Slot).toList = _
    rw [laid_foldl vs]
    by_cases h : v.category = 2
    · rw [if_pos h, show laid (v :: vs) = .val v :: .second :: laid vs from if_pos h]; simp
    · rw [if_neg h, show laid (v :: vs) = .val v :: laid vs from if_neg h]; simp
theorem laid_map_len (ad : Nat → Addr) (as : List Value) : (laid (as.map (rf ad))).length = (laid as).length := by
  have := (laid_rel ad 0 as).1
  simpa using this.symm
theorem entry_LR (ad : Nat → Addr) (as : List Value) (n : Nat) (hn : (laid as).length ≤ n) : LR ad (entL as n) (argsToLocals (as.map (rf ad)).toArray n) ∧ (argsToLocals (as.map (rf ad)).toArray n).size = n := by
  have e : (argsToLocals (as.map (rf ad)).toArray n).toList = laid (as.map (rf ad)) ++ List.replicate (n - (laid as).length) Slot.unset := by
    have e1 := laid_foldl (as.map (rf ad)) #[]
    have e2 : ((as.map (rf ad)).toArray.foldl (fun acc v => if v.category = 2 then (acc.push (.val v)).push .second else acc.push (.val v)) #[] : Array Slot).toList = laid (as.map (rf ad)) := by
      rw [List.foldl_toArray']
      · rw [e1]; rfl
      · rfl
    have e3 : ((as.map (rf ad)).toArray.foldl (fun acc v => if v.category = 2 then (acc.push (.val v)).push .second else acc.push (.val v)) #[] : Array Slot).size = (laid as).length := by
      rw [← Array.length_toList, e2, laid_map_len]
    show (_ ++ Array.replicate (n - _) Slot.unset).toList = _
    rw [Array.toList_append, e2, Array.toList_replicate, e3]
  obtain ⟨a1, a2, a3, a4⟩ := laid_rel ad (n - (laid as).length) as
  have g : ∀ i : Nat, (argsToLocals (as.map (rf ad)).toArray n)[i]? = (laid (as.map (rf ad)) ++ List.replicate (n - (laid as).length) Slot.unset)[i]? := fun i => by rw [← e, Array.getElem?_toList]
  have sz : (argsToLocals (as.map (rf ad)).toArray n).size = (laid (as.map (rf ad)) ++ List.replicate (n - (laid as).length) Slot.unset).length := by rw [← e, Array.length_toList]
  refine ⟨⟨by rw [sz]; exact a1, fun i v h => by rw [g]; exact a2 i v h, fun i h => by rw [g]; exact a3 i h, ?_⟩, by rw [sz, ← a1]; simp; omega⟩
  have : (fun i => (argsToLocals (as.map (rf ad)).toArray n)[i]?) = fun i => (laid (as.map (rf ad)) ++ List.replicate (n - (laid as).length) Slot.unset)[i]? := funext g
  rw [this]; exact a4
/-! ## reading and writing a list as Java does an array -/
def rd {α : Type} (xs : List α) (i : Int32) : Option α := if i < 0 then none else xs[i.toNatClampNeg]?
def wr {α : Type} (xs : List α) (i : Int32) (x : α) : Option (List α) := if i < 0 then none else if i.toNatClampNeg < xs.length then some (xs.set i.toNatClampNeg x) else none
theorem rd_slots {α : Type} {f : α → Value} {sl : Array Value} {xs : List α} (h : sl.toList = xs.map f) {j : Int32} {x : α} (hx : rd xs j = some x) : ¬ (j < 0 ∨ sl.size ≤ j.toNatClampNeg) ∧ sl[j.toNatClampNeg]? = some (f x) := by
  unfold rd at hx
  by_cases hj : j < 0
  · rw [if_pos hj] at hx; cases hx
  · rw [if_neg hj] at hx
    have h1 : sl[j.toNatClampNeg]? = some (f x) := by rw [← Array.getElem?_toList, h, List.getElem?_map, hx]; rfl
    exact ⟨fun q => q.elim hj fun q => absurd (Array.getElem?_eq_some_iff.mp h1).1 (Nat.not_lt.mpr q), h1⟩
theorem wr_slots {α : Type} {f : α → Value} {cl : Cell} {xs xs' : List α} (h : cl.slots.toList = xs.map f) {j : Int32} {x : α} (hx : wr xs j x = some xs') : ¬ (j < 0 ∨ cl.slots.size ≤ j.toNatClampNeg) ∧ (cl.setSlot j.toNatClampNeg (f x)).slots.toList = xs'.map f := by
  unfold wr at hx
  by_cases hj : j < 0
  · rw [if_pos hj] at hx; cases hx
  · rw [if_neg hj] at hx
    by_cases hl : j.toNatClampNeg < xs.length
    · rw [if_pos hl] at hx; cases hx
      have sz : cl.slots.size = xs.length := by rw [← Array.length_toList, h, List.length_map]
      refine ⟨fun q => q.elim hj fun q => by omega, ?_⟩
      show (cl.slots.setIfInBounds _ _).toList = _
      rw [Array.toList_setIfInBounds, h, List.map_set]
    · rw [if_neg hl] at hx; cases hx
/-! ## the walk's promise, said of the small view -/
def Am (Z : State) (own mn : String) (bytes : ByteArray) (maxL : Nat) (ret : Option FieldType) (p : Program) (s : State) (m : MethodId) (meth : Method) (c : Code) : Prop :=
  p.tables.exec = Jvm.exec ∧ Z.Warmed39 s.vm ∧ c.code = bytes ∧ c.maxLocals = maxL ∧ meth.sig.returnType = ret ∧ meth.locks = false ∧ s.vm.findClass own = some m.cls ∧ meth.name = mn
def WP (l : Launch) (Z : State) (C : String) (lay : List (String × String)) (own mn : String) (bytes : ByteArray) (maxL : Nat) (ret : Option FieldType) (R : Room) (n0 ro : Nat) (Q : Option Value → List OwnC → Prop) (k n pc : Nat) (L : List Slot) (S : List Value) (H : List OwnC) : Prop :=
  ∀ (p : Program) (e : Env) (s : State) (m : MethodId) (args : Array Value) (below : List Frame) (meth : Method) (c : Code) (T : State) (locs : List Loc) (ad : Nat → Addr) (Ls : Array Slot),
    Stand p l e R s m args below meth c T locs k n → Am Z own mn bytes maxL ret p s m meth c → HR Z C lay n0 ro ad H T.heap → Fr n0 locs → LR ad L Ls → Ls.size = maxL →
    ∃ (s₂ : State) (v : Option Value) (H' : List OwnC) (locs' : List Loc),
      Steps p.tables e below (T.setTop (mkF m pc Ls (S.map (rf ad)))) s₂ ∧ s₂.status = .running ∧ Ended s₂ below (.returned (v.map (rf ad))) ∧ Q v H' ∧ HR Z C lay n0 ro ad H' s₂.heap ∧ Kp ad H.length T.heap s₂.heap ∧ Fr n0 locs' ∧ FrameEnd s (.returned (v.map (rf ad))) s₂ locs' R.cells R.slots
section Rules
variable {l : Launch} {Z : State} {a0 : Array Value} {C : String} {lay : List (String × String)} {own mn : String} {bytes : ByteArray} {maxL : Nat} {ret : Option FieldType} {R : Room} {n0 ro : Nat} {Q : Option Value → List OwnC → Prop} {k n pc pc' : Nat} {L L' : List Slot} {S S' : List Value} {H H' : List OwnC}
theorem WP.weak (h : leL L' L) (nx : WP l Z C lay own mn bytes maxL ret R n0 ro Q k n pc L' S H) : WP l Z C lay own mn bytes maxL ret R n0 ro Q k n pc L S H :=
  fun p e s m args below meth c T locs ad Ls X A hr N hL hz => nx p e s m args below meth c T locs ad Ls X A hr N (LR.weak h hL) hz
theorem WP.of (hs : ∀ (p : Program) (e : Env) (s : State) (m : MethodId) (args : Array Value) (below : List Frame) (meth : Method) (c : Code) (T : State) (locs : List Loc) (ad : Nat → Addr) (Ls : Array Slot), Stand p l e R s m args below meth c T locs k n → Am Z own mn bytes maxL ret p s m meth c → LR ad L Ls → Ls.size = maxL →
      ∃ Ls', LR ad L' Ls' ∧ Ls'.size = maxL ∧ ∀ t, Steps p.tables e below (T.setTop (mkF m pc' Ls' (S'.map (rf ad)))) t → Steps p.tables e below (T.setTop (mkF m pc Ls (S.map (rf ad)))) t)
    (nx : WP l Z C lay own mn bytes maxL ret R n0 ro Q k n pc' L' S' H) : WP l Z C lay own mn bytes maxL ret R n0 ro Q k n pc L S H := by
  intro p e s m args below meth c T locs ad Ls X A hr N hL hz
  obtain ⟨Ls', hL', hz', st⟩ := hs p e s m args below meth c T locs ad Ls X A hL hz
  obtain ⟨s₂, v, H', locs', h1, h2⟩ := nx p e s m args below meth c T locs ad Ls' X A hr N hL' hz'
  exact ⟨s₂, v, H', locs', st _ h1, h2⟩
theorem WP.iload {j : Nat} {x : Int32} (hd : decode bytes pc = .ok (.iload j, 2)) (hl : L[j]? = some (.val (.int x))) (nx : WP l Z C lay own mn bytes maxL ret R n0 ro Q k n (pc + 2) L (.int x :: S) H) : WP l Z C lay own mn bytes maxL ret R n0 ro Q k n pc L (S) H :=
  WP.of (fun p e s m args below meth c T locs ad Ls X A hL hz => ⟨Ls, hL, hz, fun t ht => XS.iload X.here A.1 rfl (hb A.2.2.1 hd) (hL.2.1 _ _ hl) ht⟩) nx
theorem WP.iloadN {j : Fin 4} {x : Int32} (hd : decode bytes pc = .ok (.iload_n j, 1)) (hl : L[j.val]? = some (.val (.int x))) (nx : WP l Z C lay own mn bytes maxL ret R n0 ro Q k n (pc + 1) L (.int x :: S) H) : WP l Z C lay own mn bytes maxL ret R n0 ro Q k n pc L (S) H :=
  WP.of (fun p e s m args below meth c T locs ad Ls X A hL hz => ⟨Ls, hL, hz, fun t ht => XS.iloadN X.here A.1 rfl (hb A.2.2.1 hd) (hL.2.1 _ _ hl) ht⟩) nx
theorem WP.lload {j : Nat} {x : Int64} (hd : decode bytes pc = .ok (.lload j, 2)) (hl : L[j]? = some (.val (.long x))) (nx : WP l Z C lay own mn bytes maxL ret R n0 ro Q k n (pc + 2) L (.long x :: S) H) : WP l Z C lay own mn bytes maxL ret R n0 ro Q k n pc L (S) H :=
  WP.of (fun p e s m args below meth c T locs ad Ls X A hL hz => ⟨Ls, hL, hz, fun t ht => XT.lload X.here A.1 rfl (hb A.2.2.1 hd) (hL.2.1 _ _ hl) ht⟩) nx
theorem WP.lloadN {j : Fin 4} {x : Int64} (hd : decode bytes pc = .ok (.lload_n j, 1)) (hl : L[j.val]? = some (.val (.long x))) (nx : WP l Z C lay own mn bytes maxL ret R n0 ro Q k n (pc + 1) L (.long x :: S) H) : WP l Z C lay own mn bytes maxL ret R n0 ro Q k n pc L (S) H :=
  WP.of (fun p e s m args below meth c T locs ad Ls X A hL hz => ⟨Ls, hL, hz, fun t ht => XT.lloadN X.here A.1 rfl (hb A.2.2.1 hd) (hL.2.1 _ _ hl) ht⟩) nx
theorem WP.aload {j : Nat} {i : Nat} (hd : decode bytes pc = .ok (.aload j, 2)) (hl : L[j]? = some (.val (.ref i))) (nx : WP l Z C lay own mn bytes maxL ret R n0 ro Q k n (pc + 2) L (.ref i :: S) H) : WP l Z C lay own mn bytes maxL ret R n0 ro Q k n pc L (S) H :=
  WP.of (fun p e s m args below meth c T locs ad Ls X A hL hz => ⟨Ls, hL, hz, fun t ht => XS.aload X.here A.1 rfl (hb A.2.2.1 hd) (hL.2.1 _ _ hl) rfl ht⟩) nx
theorem WP.aloadN {j : Fin 4} {i : Nat} (hd : decode bytes pc = .ok (.aload_n j, 1)) (hl : L[j.val]? = some (.val (.ref i))) (nx : WP l Z C lay own mn bytes maxL ret R n0 ro Q k n (pc + 1) L (.ref i :: S) H) : WP l Z C lay own mn bytes maxL ret R n0 ro Q k n pc L (S) H :=
  WP.of (fun p e s m args below meth c T locs ad Ls X A hL hz => ⟨Ls, hL, hz, fun t ht => XS.aloadN X.here A.1 rfl (hb A.2.2.1 hd) (hL.2.1 _ _ hl) rfl ht⟩) nx
theorem WP.iconst {i : Int} (v : Int32) (hd : decode bytes pc = .ok (.iconst i, 1)) (hv : Int32.ofInt i = v) (nx : WP l Z C lay own mn bytes maxL ret R n0 ro Q k n (pc + 1) L (.int v :: S) H) : WP l Z C lay own mn bytes maxL ret R n0 ro Q k n pc L (S) H :=
  WP.of (fun p e s m args below meth c T locs ad Ls X A hL hz => ⟨Ls, hL, hz, fun t ht => XS.iconst X.here A.1 rfl (hb A.2.2.1 hd) (by rw [hv]; exact ht)⟩) nx
theorem WP.bipush {i : Int} (v : Int32) (hd : decode bytes pc = .ok (.bipush i, 2)) (hv : (Int8.ofInt i).toInt32 = v) (nx : WP l Z C lay own mn bytes maxL ret R n0 ro Q k n (pc + 2) L (.int v :: S) H) : WP l Z C lay own mn bytes maxL ret R n0 ro Q k n pc L (S) H :=
  WP.of (fun p e s m args below meth c T locs ad Ls X A hL hz => ⟨Ls, hL, hz, fun t ht => XS.bipush X.here A.1 rfl (hb A.2.2.1 hd) (by rw [hv]; exact ht)⟩) nx
theorem WP.sipush {i : Int} (v : Int32) (hd : decode bytes pc = .ok (.sipush i, 3)) (hv : (Int16.ofInt i).toInt32 = v) (nx : WP l Z C lay own mn bytes maxL ret R n0 ro Q k n (pc + 3) L (.int v :: S) H) : WP l Z C lay own mn bytes maxL ret R n0 ro Q k n pc L (S) H :=
  WP.of (fun p e s m args below meth c T locs ad Ls X A hL hz => ⟨Ls, hL, hz, fun t ht => XS.sipush X.here A.1 rfl (hb A.2.2.1 hd) (by rw [hv]; exact ht)⟩) nx
theorem WP.lconst {j : Fin 2} (v : Int64) (hd : decode bytes pc = .ok (.lconst j, 1)) (hv : Int64.ofNat j = v) (nx : WP l Z C lay own mn bytes maxL ret R n0 ro Q k n (pc + 1) L (.long v :: S) H) : WP l Z C lay own mn bytes maxL ret R n0 ro Q k n pc L (S) H :=
  WP.of (fun p e s m args below meth c T locs ad Ls X A hL hz => ⟨Ls, hL, hz, fun t ht => XT.lconst X.here A.1 rfl (hb A.2.2.1 hd) (by rw [hv]; exact ht)⟩) nx
theorem WP.ldc {idx : Nat} {v : Int32} (hd : decode bytes pc = .ok (.ldc idx, 2)) (hw : (Cond.constant own idx v).before a0 Z = true) (nx : WP l Z C lay own mn bytes maxL ret R n0 ro Q k n (pc + 2) L (.int v :: S) H) : WP l Z C lay own mn bytes maxL ret R n0 ro Q k n pc L (S) H :=
  WP.of (fun p e s m args below meth c T locs ad Ls X A hL hz => ⟨Ls, hL, hz, fun t ht => X.ldcInt A.1 A.2.2.2.2.2.2.1 (mvT A.2.1 hw) (g := mkF m pc Ls (S.map (rf ad))) rfl (hb A.2.2.1 hd) t ht⟩) nx
theorem WP.ldcw {idx : Nat} {v : Int32} (hd : decode bytes pc = .ok (.ldc_w idx, 3)) (hw : (Cond.constant own idx v).before a0 Z = true) (nx : WP l Z C lay own mn bytes maxL ret R n0 ro Q k n (pc + 3) L (.int v :: S) H) : WP l Z C lay own mn bytes maxL ret R n0 ro Q k n pc L (S) H :=
  WP.of (fun p e s m args below meth c T locs ad Ls X A hL hz => ⟨Ls, hL, hz, fun t ht => X.ldcwInt A.1 A.2.2.2.2.2.2.1 (mvT A.2.1 hw) (g := mkF m pc Ls (S.map (rf ad))) rfl (hb A.2.2.1 hd) t ht⟩) nx
theorem WP.ldc2 {idx : Nat} {v : Int64} (hd : decode bytes pc = .ok (.ldc2_w idx, 3)) (hw : (Cond.constantLong own idx v).before a0 Z = true) (nx : WP l Z C lay own mn bytes maxL ret R n0 ro Q k n (pc + 3) L (.long v :: S) H) : WP l Z C lay own mn bytes maxL ret R n0 ro Q k n pc L (S) H :=
  WP.of (fun p e s m args below meth c T locs ad Ls X A hL hz => ⟨Ls, hL, hz, fun t ht => X.ldc2Long A.1 A.2.2.2.2.2.2.1 (mvT A.2.1 hw) (g := mkF m pc Ls (S.map (rf ad))) rfl (hb A.2.2.1 hd) t ht⟩) nx
theorem WP.iadd {x y : Int32} (hd : decode bytes pc = .ok (.iadd, 1)) (nx : WP l Z C lay own mn bytes maxL ret R n0 ro Q k n (pc + 1) L (.int (x + y) :: S) H) : WP l Z C lay own mn bytes maxL ret R n0 ro Q k n pc L (.int y :: .int x :: S) H :=
  WP.of (fun p e s m args below meth c T locs ad Ls X A hL hz => ⟨Ls, hL, hz, fun t ht => XS.iadd X.here A.1 rfl (hb A.2.2.1 hd) rfl ht⟩) nx
theorem WP.ladd {x y : Int64} (hd : decode bytes pc = .ok (.ladd, 1)) (nx : WP l Z C lay own mn bytes maxL ret R n0 ro Q k n (pc + 1) L (.long (x + y) :: S) H) : WP l Z C lay own mn bytes maxL ret R n0 ro Q k n pc L (.long y :: .long x :: S) H :=
  WP.of (fun p e s m args below meth c T locs ad Ls X A hL hz => ⟨Ls, hL, hz, fun t ht => XT.ladd X.here A.1 rfl (hb A.2.2.1 hd) rfl ht⟩) nx
theorem WP.isub {x y : Int32} (hd : decode bytes pc = .ok (.isub, 1)) (nx : WP l Z C lay own mn bytes maxL ret R n0 ro Q k n (pc + 1) L (.int (x - y) :: S) H) : WP l Z C lay own mn bytes maxL ret R n0 ro Q k n pc L (.int y :: .int x :: S) H :=
  WP.of (fun p e s m args below meth c T locs ad Ls X A hL hz => ⟨Ls, hL, hz, fun t ht => XS.isub X.here A.1 rfl (hb A.2.2.1 hd) rfl ht⟩) nx
theorem WP.lsub {x y : Int64} (hd : decode bytes pc = .ok (.lsub, 1)) (nx : WP l Z C lay own mn bytes maxL ret R n0 ro Q k n (pc + 1) L (.long (x - y) :: S) H) : WP l Z C lay own mn bytes maxL ret R n0 ro Q k n pc L (.long y :: .long x :: S) H :=
  WP.of (fun p e s m args below meth c T locs ad Ls X A hL hz => ⟨Ls, hL, hz, fun t ht => XT.lsub X.here A.1 rfl (hb A.2.2.1 hd) rfl ht⟩) nx
theorem WP.imul {x y : Int32} (hd : decode bytes pc = .ok (.imul, 1)) (nx : WP l Z C lay own mn bytes maxL ret R n0 ro Q k n (pc + 1) L (.int (x * y) :: S) H) : WP l Z C lay own mn bytes maxL ret R n0 ro Q k n pc L (.int y :: .int x :: S) H :=
  WP.of (fun p e s m args below meth c T locs ad Ls X A hL hz => ⟨Ls, hL, hz, fun t ht => XS.imul X.here A.1 rfl (hb A.2.2.1 hd) rfl ht⟩) nx
theorem WP.lmul {x y : Int64} (hd : decode bytes pc = .ok (.lmul, 1)) (nx : WP l Z C lay own mn bytes maxL ret R n0 ro Q k n (pc + 1) L (.long (x * y) :: S) H) : WP l Z C lay own mn bytes maxL ret R n0 ro Q k n pc L (.long y :: .long x :: S) H :=
  WP.of (fun p e s m args below meth c T locs ad Ls X A hL hz => ⟨Ls, hL, hz, fun t ht => XT.lmul X.here A.1 rfl (hb A.2.2.1 hd) rfl ht⟩) nx
theorem WP.iand {x y : Int32} (hd : decode bytes pc = .ok (.iand, 1)) (nx : WP l Z C lay own mn bytes maxL ret R n0 ro Q k n (pc + 1) L (.int (x &&& y) :: S) H) : WP l Z C lay own mn bytes maxL ret R n0 ro Q k n pc L (.int y :: .int x :: S) H :=
  WP.of (fun p e s m args below meth c T locs ad Ls X A hL hz => ⟨Ls, hL, hz, fun t ht => XS.iand X.here A.1 rfl (hb A.2.2.1 hd) rfl ht⟩) nx
theorem WP.land {x y : Int64} (hd : decode bytes pc = .ok (.land, 1)) (nx : WP l Z C lay own mn bytes maxL ret R n0 ro Q k n (pc + 1) L (.long (x &&& y) :: S) H) : WP l Z C lay own mn bytes maxL ret R n0 ro Q k n pc L (.long y :: .long x :: S) H :=
  WP.of (fun p e s m args below meth c T locs ad Ls X A hL hz => ⟨Ls, hL, hz, fun t ht => XT.land X.here A.1 rfl (hb A.2.2.1 hd) rfl ht⟩) nx
theorem WP.ior {x y : Int32} (hd : decode bytes pc = .ok (.ior, 1)) (nx : WP l Z C lay own mn bytes maxL ret R n0 ro Q k n (pc + 1) L (.int (x ||| y) :: S) H) : WP l Z C lay own mn bytes maxL ret R n0 ro Q k n pc L (.int y :: .int x :: S) H :=
  WP.of (fun p e s m args below meth c T locs ad Ls X A hL hz => ⟨Ls, hL, hz, fun t ht => XT.ior X.here A.1 rfl (hb A.2.2.1 hd) rfl ht⟩) nx
theorem WP.lor {x y : Int64} (hd : decode bytes pc = .ok (.lor, 1)) (nx : WP l Z C lay own mn bytes maxL ret R n0 ro Q k n (pc + 1) L (.long (x ||| y) :: S) H) : WP l Z C lay own mn bytes maxL ret R n0 ro Q k n pc L (.long y :: .long x :: S) H :=
  WP.of (fun p e s m args below meth c T locs ad Ls X A hL hz => ⟨Ls, hL, hz, fun t ht => XT.lor X.here A.1 rfl (hb A.2.2.1 hd) rfl ht⟩) nx
theorem WP.ixor {x y : Int32} (hd : decode bytes pc = .ok (.ixor, 1)) (nx : WP l Z C lay own mn bytes maxL ret R n0 ro Q k n (pc + 1) L (.int (x ^^^ y) :: S) H) : WP l Z C lay own mn bytes maxL ret R n0 ro Q k n pc L (.int y :: .int x :: S) H :=
  WP.of (fun p e s m args below meth c T locs ad Ls X A hL hz => ⟨Ls, hL, hz, fun t ht => XT.ixor X.here A.1 rfl (hb A.2.2.1 hd) rfl ht⟩) nx
theorem WP.lxor {x y : Int64} (hd : decode bytes pc = .ok (.lxor, 1)) (nx : WP l Z C lay own mn bytes maxL ret R n0 ro Q k n (pc + 1) L (.long (x ^^^ y) :: S) H) : WP l Z C lay own mn bytes maxL ret R n0 ro Q k n pc L (.long y :: .long x :: S) H :=
  WP.of (fun p e s m args below meth c T locs ad Ls X A hL hz => ⟨Ls, hL, hz, fun t ht => XT.lxor X.here A.1 rfl (hb A.2.2.1 hd) rfl ht⟩) nx
theorem WP.idiv {x y : Int32} (hd : decode bytes pc = .ok (.idiv, 1)) (hy : ¬ y = 0) (nx : WP l Z C lay own mn bytes maxL ret R n0 ro Q k n (pc + 1) L (.int (x / y) :: S) H) : WP l Z C lay own mn bytes maxL ret R n0 ro Q k n pc L (.int y :: .int x :: S) H :=
  WP.of (fun p e s m args below meth c T locs ad Ls X A hL hz => ⟨Ls, hL, hz, fun t ht => XS.idiv X.here A.1 rfl (hb A.2.2.1 hd) rfl hy ht⟩) nx
theorem WP.irem {x y : Int32} (hd : decode bytes pc = .ok (.irem, 1)) (hy : ¬ y = 0) (nx : WP l Z C lay own mn bytes maxL ret R n0 ro Q k n (pc + 1) L (.int (x % y) :: S) H) : WP l Z C lay own mn bytes maxL ret R n0 ro Q k n pc L (.int y :: .int x :: S) H :=
  WP.of (fun p e s m args below meth c T locs ad Ls X A hL hz => ⟨Ls, hL, hz, fun t ht => iremM X A.1 rfl (hb A.2.2.1 hd) rfl hy ht⟩) nx
theorem WP.ldiv {x y : Int64} (hd : decode bytes pc = .ok (.ldiv, 1)) (hy : ¬ y = 0) (nx : WP l Z C lay own mn bytes maxL ret R n0 ro Q k n (pc + 1) L (.long (x / y) :: S) H) : WP l Z C lay own mn bytes maxL ret R n0 ro Q k n pc L (.long y :: .long x :: S) H :=
  WP.of (fun p e s m args below meth c T locs ad Ls X A hL hz => ⟨Ls, hL, hz, fun t ht => XT.ldiv X.here A.1 rfl (hb A.2.2.1 hd) rfl hy ht⟩) nx
theorem lrem_mod (x y : Int64) : x - (x / y) * y = x % y := by
  apply Int64.toInt_inj.mp
  have h1 := Int64.le_toInt (x % y)
  have h2 := Int64.toInt_lt (x % y)
  rw [Int64.toInt_sub, Int64.toInt_mul, Int64.toInt_div, Int.bmod_mul_bmod, Int.sub_bmod_bmod, Int.mul_comm (x.toInt.tdiv y.toInt), ← Int.tmod_def, ← Int64.toInt_mod]
  exact Int.bmod_eq_of_le_mul_two (by omega) (by omega)
theorem WP.lrem {x y : Int64} (hd : decode bytes pc = .ok (.lrem, 1)) (hy : ¬ y = 0) (nx : WP l Z C lay own mn bytes maxL ret R n0 ro Q k n (pc + 1) L (.long (x % y) :: S) H) : WP l Z C lay own mn bytes maxL ret R n0 ro Q k n pc L (.long y :: .long x :: S) H :=
  WP.of (fun p e s m args below meth c T locs ad Ls X A hL hz => ⟨Ls, hL, hz, fun t ht => XT.lrem X.here A.1 rfl (hb A.2.2.1 hd) rfl hy (by rw [lrem_mod]; exact ht)⟩) nx
theorem WP.ishl {x y : Int32} (hd : decode bytes pc = .ok (.ishl, 1)) (nx : WP l Z C lay own mn bytes maxL ret R n0 ro Q k n (pc + 1) L (.int (x <<< (y &&& 31)) :: S) H) : WP l Z C lay own mn bytes maxL ret R n0 ro Q k n pc L (.int y :: .int x :: S) H :=
  WP.of (fun p e s m args below meth c T locs ad Ls X A hL hz => ⟨Ls, hL, hz, fun t ht => XT.ishl X.here A.1 rfl (hb A.2.2.1 hd) rfl ht⟩) nx
theorem WP.ishr {x y : Int32} (hd : decode bytes pc = .ok (.ishr, 1)) (nx : WP l Z C lay own mn bytes maxL ret R n0 ro Q k n (pc + 1) L (.int (x >>> (y &&& 31)) :: S) H) : WP l Z C lay own mn bytes maxL ret R n0 ro Q k n pc L (.int y :: .int x :: S) H :=
  WP.of (fun p e s m args below meth c T locs ad Ls X A hL hz => ⟨Ls, hL, hz, fun t ht => XT.ishr X.here A.1 rfl (hb A.2.2.1 hd) rfl ht⟩) nx
theorem WP.iushr {x y : Int32} (hd : decode bytes pc = .ok (.iushr, 1)) (nx : WP l Z C lay own mn bytes maxL ret R n0 ro Q k n (pc + 1) L (.int (XT.ushr x y) :: S) H) : WP l Z C lay own mn bytes maxL ret R n0 ro Q k n pc L (.int y :: .int x :: S) H :=
  WP.of (fun p e s m args below meth c T locs ad Ls X A hL hz => ⟨Ls, hL, hz, fun t ht => XT.iushr X.here A.1 rfl (hb A.2.2.1 hd) rfl ht⟩) nx
theorem WP.lshl {x : Int64} {y : Int32} (hd : decode bytes pc = .ok (.lshl, 1)) (nx : WP l Z C lay own mn bytes maxL ret R n0 ro Q k n (pc + 1) L (.long (x <<< (y.toInt64 &&& 63)) :: S) H) : WP l Z C lay own mn bytes maxL ret R n0 ro Q k n pc L (.int y :: .long x :: S) H :=
  WP.of (fun p e s m args below meth c T locs ad Ls X A hL hz => ⟨Ls, hL, hz, fun t ht => XT.lshl X.here A.1 rfl (hb A.2.2.1 hd) rfl ht⟩) nx
theorem WP.lshr {x : Int64} {y : Int32} (hd : decode bytes pc = .ok (.lshr, 1)) (nx : WP l Z C lay own mn bytes maxL ret R n0 ro Q k n (pc + 1) L (.long (x >>> (y.toInt64 &&& 63)) :: S) H) : WP l Z C lay own mn bytes maxL ret R n0 ro Q k n pc L (.int y :: .long x :: S) H :=
  WP.of (fun p e s m args below meth c T locs ad Ls X A hL hz => ⟨Ls, hL, hz, fun t ht => XT.lshr X.here A.1 rfl (hb A.2.2.1 hd) rfl ht⟩) nx
theorem WP.lushr {x : Int64} {y : Int32} (hd : decode bytes pc = .ok (.lushr, 1)) (nx : WP l Z C lay own mn bytes maxL ret R n0 ro Q k n (pc + 1) L (.long (XT.ushrL x y) :: S) H) : WP l Z C lay own mn bytes maxL ret R n0 ro Q k n pc L (.int y :: .long x :: S) H :=
  WP.of (fun p e s m args below meth c T locs ad Ls X A hL hz => ⟨Ls, hL, hz, fun t ht => XT.lushr X.here A.1 rfl (hb A.2.2.1 hd) rfl ht⟩) nx
theorem WP.ineg {x : Int32} (hd : decode bytes pc = .ok (.ineg, 1)) (nx : WP l Z C lay own mn bytes maxL ret R n0 ro Q k n (pc + 1) L (.int (-x) :: S) H) : WP l Z C lay own mn bytes maxL ret R n0 ro Q k n pc L (.int x :: S) H :=
  WP.of (fun p e s m args below meth c T locs ad Ls X A hL hz => ⟨Ls, hL, hz, fun t ht => XS.ineg X.here A.1 rfl (hb A.2.2.1 hd) rfl ht⟩) nx
theorem WP.lneg {x : Int64} (hd : decode bytes pc = .ok (.lneg, 1)) (nx : WP l Z C lay own mn bytes maxL ret R n0 ro Q k n (pc + 1) L (.long (-x) :: S) H) : WP l Z C lay own mn bytes maxL ret R n0 ro Q k n pc L (.long x :: S) H :=
  WP.of (fun p e s m args below meth c T locs ad Ls X A hL hz => ⟨Ls, hL, hz, fun t ht => XT.lneg X.here A.1 rfl (hb A.2.2.1 hd) rfl ht⟩) nx
theorem WP.i2l {x : Int32} (hd : decode bytes pc = .ok (.i2l, 1)) (nx : WP l Z C lay own mn bytes maxL ret R n0 ro Q k n (pc + 1) L (.long x.toInt64 :: S) H) : WP l Z C lay own mn bytes maxL ret R n0 ro Q k n pc L (.int x :: S) H :=
  WP.of (fun p e s m args below meth c T locs ad Ls X A hL hz => ⟨Ls, hL, hz, fun t ht => XT.i2l X.here A.1 rfl (hb A.2.2.1 hd) rfl ht⟩) nx
theorem WP.l2i {x : Int64} (hd : decode bytes pc = .ok (.l2i, 1)) (nx : WP l Z C lay own mn bytes maxL ret R n0 ro Q k n (pc + 1) L (.int x.toInt32 :: S) H) : WP l Z C lay own mn bytes maxL ret R n0 ro Q k n pc L (.long x :: S) H :=
  WP.of (fun p e s m args below meth c T locs ad Ls X A hL hz => ⟨Ls, hL, hz, fun t ht => XT.l2i X.here A.1 rfl (hb A.2.2.1 hd) rfl ht⟩) nx
theorem WP.lcmp {x y : Int64} (hd : decode bytes pc = .ok (.lcmp, 1)) (nx : WP l Z C lay own mn bytes maxL ret R n0 ro Q k n (pc + 1) L (.int (XT.cmpL x y) :: S) H) : WP l Z C lay own mn bytes maxL ret R n0 ro Q k n pc L (.long y :: .long x :: S) H :=
  WP.of (fun p e s m args below meth c T locs ad Ls X A hL hz => ⟨Ls, hL, hz, fun t ht => XT.lcmp X.here A.1 rfl (hb A.2.2.1 hd) rfl ht⟩) nx
theorem WP.dup {v : Value} (hd : decode bytes pc = .ok (.dup, 1)) (hc : v.category = 1) (nx : WP l Z C lay own mn bytes maxL ret R n0 ro Q k n (pc + 1) L (v :: v :: S) H) : WP l Z C lay own mn bytes maxL ret R n0 ro Q k n pc L (v :: S) H :=
  WP.of (fun p e s m args below meth c T locs ad Ls X A hL hz => ⟨Ls, hL, hz, fun t ht => XS.dup X.here A.1 rfl (hb A.2.2.1 hd) rfl (by rw [rf_cat]; exact hc) ht⟩) nx
theorem WP.dup2 {v w : Value} (hd : decode bytes pc = .ok (.dup2, 1)) (hc : v.category = 1) (hc' : w.category = 1) (nx : WP l Z C lay own mn bytes maxL ret R n0 ro Q k n (pc + 1) L (v :: w :: v :: w :: S) H) : WP l Z C lay own mn bytes maxL ret R n0 ro Q k n pc L (v :: w :: S) H :=
  WP.of (fun p e s m args below meth c T locs ad Ls X A hL hz => ⟨Ls, hL, hz, fun t ht => XT.dup2 X.here A.1 rfl (hb A.2.2.1 hd) rfl (by rw [rf_cat]; exact hc) (by rw [rf_cat]; exact hc') ht⟩) nx
theorem WP.dup2L {x : Int64} (hd : decode bytes pc = .ok (.dup2, 1)) (nx : WP l Z C lay own mn bytes maxL ret R n0 ro Q k n (pc + 1) L (.long x :: .long x :: S) H) : WP l Z C lay own mn bytes maxL ret R n0 ro Q k n pc L (.long x :: S) H :=
  WP.of (fun p e s m args below meth c T locs ad Ls X A hL hz => ⟨Ls, hL, hz, fun t ht => XT.dup2L X.here A.1 rfl (hb A.2.2.1 hd) rfl ht⟩) nx
theorem WP.pop {v : Value} (hd : decode bytes pc = .ok (.pop, 1)) (hc : v.category = 1) (nx : WP l Z C lay own mn bytes maxL ret R n0 ro Q k n (pc + 1) L (S) H) : WP l Z C lay own mn bytes maxL ret R n0 ro Q k n pc L (v :: S) H :=
  WP.of (fun p e s m args below meth c T locs ad Ls X A hL hz => ⟨Ls, hL, hz, fun t ht => XT.pop X.here A.1 rfl (hb A.2.2.1 hd) rfl (by rw [rf_cat]; exact hc) ht⟩) nx
theorem WP.istore {j : Nat} {x : Int32} (hd : decode bytes pc = .ok (.istore j, 2)) (hi : j < L.length) (hL' : st1 L j (.int x) = L') (nx : WP l Z C lay own mn bytes maxL ret R n0 ro Q k n (pc + 2) L' S H) : WP l Z C lay own mn bytes maxL ret R n0 ro Q k n pc L (.int x :: S) H :=
  WP.of (fun p e s m args below meth c T locs ad Ls X A hL hz => by
    obtain ⟨Ls', e1, e2, e3⟩ := hL.store1 hi (v := .int x) rfl
    exact ⟨Ls', hL' ▸ e2, e3.trans hz, fun t ht => XS.istore X.here A.1 rfl (hb A.2.2.1 hd) rfl e1 ht⟩) nx
theorem WP.istoreN {j : Fin 4} {x : Int32} (hd : decode bytes pc = .ok (.istore_n j, 1)) (hi : j.val < L.length) (hL' : st1 L j.val (.int x) = L') (nx : WP l Z C lay own mn bytes maxL ret R n0 ro Q k n (pc + 1) L' S H) : WP l Z C lay own mn bytes maxL ret R n0 ro Q k n pc L (.int x :: S) H :=
  WP.of (fun p e s m args below meth c T locs ad Ls X A hL hz => by
    obtain ⟨Ls', e1, e2, e3⟩ := hL.store1 hi (v := .int x) rfl
    exact ⟨Ls', hL' ▸ e2, e3.trans hz, fun t ht => XS.istoreN X.here A.1 rfl (hb A.2.2.1 hd) rfl e1 ht⟩) nx
theorem WP.astore {j : Nat} {i : Nat} (hd : decode bytes pc = .ok (.astore j, 2)) (hi : j < L.length) (hL' : st1 L j (.ref i) = L') (nx : WP l Z C lay own mn bytes maxL ret R n0 ro Q k n (pc + 2) L' S H) : WP l Z C lay own mn bytes maxL ret R n0 ro Q k n pc L (.ref i :: S) H :=
  WP.of (fun p e s m args below meth c T locs ad Ls X A hL hz => by
    obtain ⟨Ls', e1, e2, e3⟩ := hL.store1 hi (v := .ref i) rfl
    exact ⟨Ls', hL' ▸ e2, e3.trans hz, fun t ht => XS.astore X.here A.1 rfl (hb A.2.2.1 hd) rfl rfl e1 ht⟩) nx
theorem WP.astoreN {j : Fin 4} {i : Nat} (hd : decode bytes pc = .ok (.astore_n j, 1)) (hi : j.val < L.length) (hL' : st1 L j.val (.ref i) = L') (nx : WP l Z C lay own mn bytes maxL ret R n0 ro Q k n (pc + 1) L' S H) : WP l Z C lay own mn bytes maxL ret R n0 ro Q k n pc L (.ref i :: S) H :=
  WP.of (fun p e s m args below meth c T locs ad Ls X A hL hz => by
    obtain ⟨Ls', e1, e2, e3⟩ := hL.store1 hi (v := .ref i) rfl
    exact ⟨Ls', hL' ▸ e2, e3.trans hz, fun t ht => XS.astoreN X.here A.1 rfl (hb A.2.2.1 hd) rfl rfl e1 ht⟩) nx
theorem WP.lstore {j : Nat} {x : Int64} (hd : decode bytes pc = .ok (.lstore j, 2)) (hi : j + 1 < L.length) (hL' : st2 L j (.long x) = L') (nx : WP l Z C lay own mn bytes maxL ret R n0 ro Q k n (pc + 2) L' S H) : WP l Z C lay own mn bytes maxL ret R n0 ro Q k n pc L (.long x :: S) H :=
  WP.of (fun p e s m args below meth c T locs ad Ls X A hL hz => by
    obtain ⟨Ls', e1, e2, e3⟩ := hL.store2 hi (v := .long x) rfl
    exact ⟨Ls', hL' ▸ e2, e3.trans hz, fun t ht => XT.lstore X.here A.1 rfl (hb A.2.2.1 hd) rfl e1 ht⟩) nx
theorem WP.lstoreN {j : Fin 4} {x : Int64} (hd : decode bytes pc = .ok (.lstore_n j, 1)) (hi : j.val + 1 < L.length) (hL' : st2 L j.val (.long x) = L') (nx : WP l Z C lay own mn bytes maxL ret R n0 ro Q k n (pc + 1) L' S H) : WP l Z C lay own mn bytes maxL ret R n0 ro Q k n pc L (.long x :: S) H :=
  WP.of (fun p e s m args below meth c T locs ad Ls X A hL hz => by
    obtain ⟨Ls', e1, e2, e3⟩ := hL.store2 hi (v := .long x) rfl
    exact ⟨Ls', hL' ▸ e2, e3.trans hz, fun t ht => XT.lstoreN X.here A.1 rfl (hb A.2.2.1 hd) rfl e1 ht⟩) nx
theorem WP.iinc {j : Nat} {cst : Int} {x : Int32} (v : Int32) (hd : decode bytes pc = .ok (.iinc j cst, 3)) (hv : Int32.ofInt cst = v) (hl : L[j]? = some (.val (.int x))) (hL' : st1 L j (.int (x + v)) = L') (nx : WP l Z C lay own mn bytes maxL ret R n0 ro Q k n (pc + 3) L' S H) : WP l Z C lay own mn bytes maxL ret R n0 ro Q k n pc L S H :=
  WP.of (fun p e s m args below meth c T locs ad Ls X A hL hz => by
    subst hv
    obtain ⟨Ls', e1, e2, e3⟩ := hL.store1 (get_lt hl) (v := .int (x + Int32.ofInt cst)) rfl
    exact ⟨Ls', hL' ▸ e2, e3.trans hz, fun t ht => XS.iinc X.here A.1 rfl (hb A.2.2.1 hd) (hL.2.1 _ _ hl) e1 ht⟩) nx
theorem iincW {tb : Tables} [Ours tb] {e : Env} {below : List Frame} {T target : State} {m : MethodId} {c : Code} {g : JFrame} (h : At T m c below) (hx : tb.exec = Jvm.exec) (hg : g.method = m) {k : Nat} {cst : Int} {x : Int32} {l' : Array Slot} (hd : decode c.code g.pc = .ok (.iinc k cst, 6)) (hl : g.locals[k]? = some (.val (.int x))) (hl' : storeLocals g.locals k (.int (x + Int32.ofInt cst)) = some l')
    (hr : Steps tb e below (T.setTop { g with pc := g.pc + 6, locals := l' }) target) : Steps tb e below (T.setTop g) target := by
  subst hg
  jvm_step h [h.top, hx, hd, hl, hl']
  exact hr
theorem WP.iincW {j : Nat} {cst : Int} {x : Int32} (v : Int32) (hd : decode bytes pc = .ok (.iinc j cst, 6)) (hv : Int32.ofInt cst = v) (hl : L[j]? = some (.val (.int x))) (hL' : st1 L j (.int (x + v)) = L') (nx : WP l Z C lay own mn bytes maxL ret R n0 ro Q k n (pc + 6) L' S H) : WP l Z C lay own mn bytes maxL ret R n0 ro Q k n pc L S H :=
  WP.of (fun p e s m args below meth c T locs ad Ls X A hL hz => by
    subst hv
    obtain ⟨Ls', e1, e2, e3⟩ := hL.store1 (get_lt hl) (v := .int (x + Int32.ofInt cst)) rfl
    exact ⟨Ls', hL' ▸ e2, e3.trans hz, fun t ht => Own.iincW X.here A.1 rfl (hb A.2.2.1 hd) (hL.2.1 _ _ hl) e1 ht⟩) nx
theorem WP.goto {o : Int} (hd : decode bytes pc = .ok (.goto o, 3)) (ho : 0 ≤ (pc : Int) + o) (hp : ((pc : Int) + o).toNat = pc') (nx : WP l Z C lay own mn bytes maxL ret R n0 ro Q k n pc' L S H) : WP l Z C lay own mn bytes maxL ret R n0 ro Q k n pc L S H :=
  WP.of (fun p e s m args below meth c T locs ad Ls X A hL hz => ⟨Ls, hL, hz, fun t ht => XS.goto X.here A.1 rfl rfl (hb A.2.2.1 hd) ho hp ht⟩) nx
theorem WP.ifY {cd : ClassFile.Cond} {x : Int32} {o : Int} (hd : decode bytes pc = .ok (.ifCond cd o, 3)) (hc : ifCond.holds cd x = true) (ho : 0 ≤ (pc : Int) + o) (hp : ((pc : Int) + o).toNat = pc') (nx : WP l Z C lay own mn bytes maxL ret R n0 ro Q k n pc' L S H) : WP l Z C lay own mn bytes maxL ret R n0 ro Q k n pc L (.int x :: S) H :=
  WP.of (fun p e s m args below meth c T locs ad Ls X A hL hz => ⟨Ls, hL, hz, fun t ht => XS.ifYes X.here A.1 rfl rfl (hb A.2.2.1 hd) rfl hc ho hp ht⟩) nx
theorem WP.ifN {cd : ClassFile.Cond} {x : Int32} {o : Int} (hd : decode bytes pc = .ok (.ifCond cd o, 3)) (hc : ifCond.holds cd x = false) (nx : WP l Z C lay own mn bytes maxL ret R n0 ro Q k n (pc + 3) L S H) : WP l Z C lay own mn bytes maxL ret R n0 ro Q k n pc L (.int x :: S) H :=
  WP.of (fun p e s m args below meth c T locs ad Ls X A hL hz => ⟨Ls, hL, hz, fun t ht => XS.ifNo X.here A.1 rfl (hb A.2.2.1 hd) rfl hc ht⟩) nx
theorem WP.icmpY {cd : ClassFile.Cond} {x y : Int32} {o : Int} (hd : decode bytes pc = .ok (.if_icmp cd o, 3)) (hc : if_icmp.holds cd x y = true) (ho : 0 ≤ (pc : Int) + o) (hp : ((pc : Int) + o).toNat = pc') (nx : WP l Z C lay own mn bytes maxL ret R n0 ro Q k n pc' L S H) : WP l Z C lay own mn bytes maxL ret R n0 ro Q k n pc L (.int y :: .int x :: S) H :=
  WP.of (fun p e s m args below meth c T locs ad Ls X A hL hz => ⟨Ls, hL, hz, fun t ht => XS.icmpYes X.here A.1 rfl rfl (hb A.2.2.1 hd) rfl hc ho hp ht⟩) nx
theorem WP.icmpN {cd : ClassFile.Cond} {x y : Int32} {o : Int} (hd : decode bytes pc = .ok (.if_icmp cd o, 3)) (hc : if_icmp.holds cd x y = false) (nx : WP l Z C lay own mn bytes maxL ret R n0 ro Q k n (pc + 3) L S H) : WP l Z C lay own mn bytes maxL ret R n0 ro Q k n pc L (.int y :: .int x :: S) H :=
  WP.of (fun p e s m args below meth c T locs ad Ls X A hL hz => ⟨Ls, hL, hz, fun t ht => XS.icmpNo X.here A.1 rfl (hb A.2.2.1 hd) rfl hc ht⟩) nx
theorem WP.nonnull {i : Nat} {o : Int} (hd : decode bytes pc = .ok (.ifnonnull o, 3)) (ho : 0 ≤ (pc : Int) + o) (hp : ((pc : Int) + o).toNat = pc') (nx : WP l Z C lay own mn bytes maxL ret R n0 ro Q k n pc' L S H) : WP l Z C lay own mn bytes maxL ret R n0 ro Q k n pc L (.ref i :: S) H :=
  WP.of (fun p e s m args below meth c T locs ad Ls X A hL hz => ⟨Ls, hL, hz, fun t ht => XT.ifnonnullYes X.here A.1 rfl rfl (hb A.2.2.1 hd) rfl ho hp ht⟩) nx
theorem WP.tswIn {dflt low high o : Int} {offs : Array Int} {len : Nat} {i : Int32} (hd : decode bytes pc = .ok (.tableswitch dflt low high offs, len)) (hin : ¬ (i.toInt < low ∨ i.toInt > high)) (hoff : offs[(i.toInt - low).toNat]? = some o) (ho : 0 ≤ (pc : Int) + o) (hp : ((pc : Int) + o).toNat = pc') (nx : WP l Z C lay own mn bytes maxL ret R n0 ro Q k n pc' L S H) : WP l Z C lay own mn bytes maxL ret R n0 ro Q k n pc L (.int i :: S) H :=
  WP.of (fun p e s m args below meth c T locs ad Ls X A hL hz => ⟨Ls, hL, hz, fun t ht => XS.tswIn X.here A.1 rfl rfl (hb A.2.2.1 hd) rfl hin hoff ho hp ht⟩) nx
theorem WP.tswOut {dflt low high : Int} {offs : Array Int} {len : Nat} {i : Int32} (hd : decode bytes pc = .ok (.tableswitch dflt low high offs, len)) (hout : i.toInt < low ∨ i.toInt > high) (ho : 0 ≤ (pc : Int) + dflt) (hp : ((pc : Int) + dflt).toNat = pc') (nx : WP l Z C lay own mn bytes maxL ret R n0 ro Q k n pc' L S H) : WP l Z C lay own mn bytes maxL ret R n0 ro Q k n pc L (.int i :: S) H :=
  WP.of (fun p e s m args below meth c T locs ad Ls X A hL hz => ⟨Ls, hL, hz, fun t ht => XS.tswOut X.here A.1 rfl rfl (hb A.2.2.1 hd) rfl hout ho hp ht⟩) nx
theorem tsw_miss {i : Int32} {low high : Int} (h : ∀ z : Int, low ≤ z → z ≤ high → ¬ i = Int32.ofInt z) : i.toInt < low ∨ i.toInt > high := by
  by_cases a : i.toInt < low
  · exact Or.inl a
  · by_cases b : i.toInt > high
    · exact Or.inr b
    · exact absurd (by rw [Int32.ofInt_toInt]) (h i.toInt (by omega) (by omega))
theorem WP.moved (hs : ∀ (p : Program) (e : Env) (s : State) (m : MethodId) (args : Array Value) (below : List Frame) (meth : Method) (c : Code) (T : State) (locs : List Loc) (ad : Nat → Addr) (Ls : Array Slot), Stand p l e R s m args below meth c T locs k n → Am Z own mn bytes maxL ret p s m meth c → HR Z C lay n0 ro ad H T.heap → Fr n0 locs → LR ad L Ls → Ls.size = maxL →
      ∃ T' locs', Stand p l e R s m args below meth c T' locs' k' n' ∧ HR Z C lay n0 ro ad H' T'.heap ∧ Kp ad H.length T.heap T'.heap ∧ Fr n0 locs' ∧ ∀ t, Steps p.tables e below (T'.setTop (mkF m pc' Ls (S'.map (rf ad)))) t → Steps p.tables e below (T.setTop (mkF m pc Ls (S.map (rf ad)))) t)
    (nx : WP l Z C lay own mn bytes maxL ret R n0 ro Q k' n' pc' L S' H') : WP l Z C lay own mn bytes maxL ret R n0 ro Q k n pc L S H := by
  intro p e s m args below meth c T locs ad Ls X A hr N hL hz
  obtain ⟨T', locs', X', hr', K, N', st⟩ := hs p e s m args below meth c T locs ad Ls X A hr N hL hz
  obtain ⟨s₂, v, H2, locs2, h1, h2, h3, h4, h5, h6, h7⟩ := nx p e s m args below meth c T' locs' ad Ls X' A hr' N' hL hz
  exact ⟨s₂, v, H2, locs2, st _ h1, h2, h3, h4, h5, Kp.trans hr K h6, h7⟩
theorem WP.getfield {idx i j : Nat} {f d : String} {vs : List Value} {v : Value} (hd : decode bytes pc = .ok (.getfield idx, 3)) (hw : (Cond.fieldLink own idx C f d).before a0 Z = true) (hj : lay[j]? = some (f, d)) (hH : H[i]? = some (.inl vs)) (hv : vs[j]? = some v) (nx : WP l Z C lay own mn bytes maxL ret R n0 ro Q k n (pc + 3) L (v :: S) H) : WP l Z C lay own mn bytes maxL ret R n0 ro Q k n pc L (.ref i :: S) H :=
  WP.moved (fun p e s m args below meth c T locs ad Ls X A hr N hL hz => by
    have F := (hr.1 i _ hH).2 j _ v hj hv
    obtain ⟨T', X', e', st⟩ := getF X A.1 A.2.1 A.2.2.2.2.2.2.1 (host := "") (Or.inl hw) Via.refl rfl F (g := mkF m pc Ls (.ref (ad i) :: S.map (rf ad))) rfl rfl (hb A.2.2.1 hd)
    exact ⟨T', locs, X', by rw [e']; exact hr, by rw [e']; exact Kp.refl _ _ _, N, fun t ht => st t ht⟩) nx
theorem WP.iaload {i : Nat} {xs : List Int32} {j x : Int32} (hd : decode bytes pc = .ok (.iaload, 1)) (hH : H[i]? = some (cI xs)) (hx : rd xs j = some x) (nx : WP l Z C lay own mn bytes maxL ret R n0 ro Q k n (pc + 1) L (.int x :: S) H) : WP l Z C lay own mn bytes maxL ret R n0 ro Q k n pc L (.int j :: .ref i :: S) H :=
  WP.moved (fun p e s m args below meth c T locs ad Ls X A hr N hL hz => by
    obtain ⟨cl, Ar, hsl⟩ := hr.1 i _ hH
    obtain ⟨q1, q2⟩ := rd_slots hsl hx
    exact ⟨T, locs, X, hr, Kp.refl _ _ _, N, fun t ht => X.iaload A.1 (j := j) Ar.1 (State.isArrayOf_alike A.2.1.alike Ar.2.1) Ar.2.2 q1 q2 (g := mkF m pc Ls (.int j :: .ref (ad i) :: S.map (rf ad))) rfl rfl (hb A.2.2.1 hd) _ ht⟩) nx
theorem WP.laload {i : Nat} {xs : List Int64} {j : Int32} {x : Int64} (hd : decode bytes pc = .ok (.laload, 1)) (hH : H[i]? = some (cJ xs)) (hx : rd xs j = some x) (nx : WP l Z C lay own mn bytes maxL ret R n0 ro Q k n (pc + 1) L (.long x :: S) H) : WP l Z C lay own mn bytes maxL ret R n0 ro Q k n pc L (.int j :: .ref i :: S) H :=
  WP.moved (fun p e s m args below meth c T locs ad Ls X A hr N hL hz => by
    obtain ⟨cl, Ar, hsl⟩ := hr.1 i _ hH
    obtain ⟨q1, q2⟩ := rd_slots hsl hx
    exact ⟨T, locs, X, hr, Kp.refl _ _ _, N, fun t ht => X.laload A.1 (j := j) Ar.1 (State.isArrayOf_alike A.2.1.alike Ar.2.1) Ar.2.2 q1 q2 (g := mkF m pc Ls (.int j :: .ref (ad i) :: S.map (rf ad))) rfl rfl (hb A.2.2.1 hd) _ ht⟩) nx
theorem baloadZ {p : Program} {e : Env} {s : State} {m : MethodId} {args : Array Value} {below : List Frame} {meth : Method} {c : Code} {T : State} {locs : List Loc} {cells slots : Nat} (X : Stand p l e R s m args below meth c T locs cells slots) (hexec : p.tables.exec = Jvm.exec) {a : Addr} {cell : Cell} {j : Int32} {v : Value} (hcell : T.heap[a]? = some cell) (harr : s.isArrayOf cell .boolean) (hknown : cell.vm ≠ .unknown)
    (hin : ¬ (j < 0 ∨ cell.slots.size ≤ j.toNatClampNeg)) (hv : cell.slots[j.toNatClampNeg]? = some v) {g : JFrame} (hg : g.method = m) {rest : List Value} (hstack : g.stack = .int j :: .ref a :: rest) (hdg : decode c.code g.pc = .ok (.baload, 1)) (target : State)
    (hrest : Steps p.tables e below (T.setTop { g with pc := g.pc + 1, stack := v :: rest }) target) : Steps p.tables e below (T.setTop g) target := by
  have hT := State.isArrayOf_alike X.warmed.alike harr
  subst hg
  jvm_step X.here [hexec, hdg, baload.wp_booleans (e := e) (s := T) (f := g) X.here.top hstack hcell hT hin hknown hv]
  exact hrest
theorem WP.baload {i : Nat} {xs : List Int32} {j x : Int32} (hd : decode bytes pc = .ok (.baload, 1)) (hH : H[i]? = some (cZ xs)) (hx : rd xs j = some x) (nx : WP l Z C lay own mn bytes maxL ret R n0 ro Q k n (pc + 1) L (.int x :: S) H) : WP l Z C lay own mn bytes maxL ret R n0 ro Q k n pc L (.int j :: .ref i :: S) H :=
  WP.moved (fun p e s m args below meth c T locs ad Ls X A hr N hL hz => by
    obtain ⟨cl, Ar, hsl⟩ := hr.1 i _ hH
    obtain ⟨q1, q2⟩ := rd_slots hsl hx
    exact ⟨T, locs, X, hr, Kp.refl _ _ _, N, fun t ht => baloadZ X A.1 (j := j) Ar.1 (State.isArrayOf_alike A.2.1.alike Ar.2.1) Ar.2.2 q1 q2 (g := mkF m pc Ls (.int j :: .ref (ad i) :: S.map (rf ad))) rfl rfl (hb A.2.2.1 hd) _ ht⟩) nx
theorem WP.arraylength {i : Nat} {xs : List Int32} (hd : decode bytes pc = .ok (.arraylength, 1)) (hH : H[i]? = some (cI xs)) (nx : WP l Z C lay own mn bytes maxL ret R n0 ro Q k n (pc + 1) L (.int xs.length.toInt32 :: S) H) : WP l Z C lay own mn bytes maxL ret R n0 ro Q k n pc L (.ref i :: S) H :=
  WP.moved (fun p e s m args below meth c T locs ad Ls X A hr N hL hz => by
    obtain ⟨cl, Ar, hsl⟩ := hr.1 i _ hH
    have e1 : cl.slots.size = xs.length := by rw [← Array.length_toList, hsl, List.length_map]
    refine ⟨T, locs, X, hr, Kp.refl _ _ _, N, fun t ht => X.arraylength A.1 Ar.1 (State.isArrayOf_alike A.2.1.alike Ar.2.1) (g := mkF m pc Ls (.ref (ad i) :: S.map (rf ad))) rfl rfl (hb A.2.2.1 hd) _ ?_⟩
    rw [e1]; exact ht) nx
theorem WP.iastore {i : Nat} {xs xs' : List Int32} {j : Int32} {x : Int32} (hd : decode bytes pc = .ok (.iastore, 1)) (hH : H[i]? = some (cI xs)) (hi : ro ≤ i) (hx : wr xs j x = some xs') (hH' : H.set i (cI xs') = H') (nx : WP l Z C lay own mn bytes maxL ret R n0 ro Q k n (pc + 1) L S H') : WP l Z C lay own mn bytes maxL ret R n0 ro Q k n pc L (.int x :: .int j :: .ref i :: S) H :=
  WP.moved (fun p e s m args below meth c T locs ad Ls X A hr N hL hz => by
    obtain ⟨cl, Ar, hsl⟩ := hr.1 i _ hH
    obtain ⟨q1, q2⟩ := wr_slots hsl hx
    obtain ⟨T', h', X', e', w, st⟩ := stI X A.1 A.2.1 rfl Ar (j := j) (x := x) q1 (g := mkF m pc Ls (.int x :: .int j :: .ref (ad i) :: S.map (rf ad))) rfl rfl (hb A.2.2.1 hd)
    subst e'
    have hi' := get_lt hH
    have P := hr.put (h' := T'.heap) (c := cI xs') hi' w.size (fun a cz hne q => by
      obtain ⟨c', g1, -, -, -, g5, -⟩ := wr_at w q
      rw [g5 hne] at g1; exact g1) ⟨_, Ar.same w, q2⟩
    exact ⟨T', _, X', hH' ▸ P.1, P.2, Fr.snoc X' N (hr.2.2.2.1 i hi' hi), fun t ht => st t ht⟩) nx
theorem WP.lastore {i : Nat} {xs xs' : List Int64} {j : Int32} {x : Int64} (hd : decode bytes pc = .ok (.lastore, 1)) (hH : H[i]? = some (cJ xs)) (hi : ro ≤ i) (hx : wr xs j x = some xs') (hH' : H.set i (cJ xs') = H') (nx : WP l Z C lay own mn bytes maxL ret R n0 ro Q k n (pc + 1) L S H') : WP l Z C lay own mn bytes maxL ret R n0 ro Q k n pc L (.long x :: .int j :: .ref i :: S) H :=
  WP.moved (fun p e s m args below meth c T locs ad Ls X A hr N hL hz => by
    obtain ⟨cl, Ar, hsl⟩ := hr.1 i _ hH
    obtain ⟨q1, q2⟩ := wr_slots hsl hx
    obtain ⟨T', h', X', e', w, st⟩ := stJ X A.1 A.2.1 rfl Ar (j := j) (x := x) q1 (g := mkF m pc Ls (.long x :: .int j :: .ref (ad i) :: S.map (rf ad))) rfl rfl (hb A.2.2.1 hd)
    subst e'
    have hi' := get_lt hH
    have P := hr.put (h' := T'.heap) (c := cJ xs') hi' w.size (fun a cz hne q => by
      obtain ⟨c', g1, -, -, -, g5, -⟩ := wr_at w q
      rw [g5 hne] at g1; exact g1) ⟨_, Ar.same w, q2⟩
    exact ⟨T', _, X', hH' ▸ P.1, P.2, Fr.snoc X' N (hr.2.2.2.1 i hi' hi), fun t ht => st t ht⟩) nx
theorem WP.bastore {i : Nat} {xs xs' : List Int32} {j : Int32} {x : Int32} (hd : decode bytes pc = .ok (.bastore, 1)) (hH : H[i]? = some (cZ xs)) (hi : ro ≤ i) (hx : wr xs j (x &&& 1) = some xs') (hH' : H.set i (cZ xs') = H') (nx : WP l Z C lay own mn bytes maxL ret R n0 ro Q k n (pc + 1) L S H') : WP l Z C lay own mn bytes maxL ret R n0 ro Q k n pc L (.int x :: .int j :: .ref i :: S) H :=
  WP.moved (fun p e s m args below meth c T locs ad Ls X A hr N hL hz => by
    obtain ⟨cl, Ar, hsl⟩ := hr.1 i _ hH
    obtain ⟨q1, q2⟩ := wr_slots hsl hx
    obtain ⟨T', h', X', e', w, st⟩ := stZ X A.1 A.2.1 rfl Ar (j := j) (x := x) q1 (g := mkF m pc Ls (.int x :: .int j :: .ref (ad i) :: S.map (rf ad))) rfl rfl (hb A.2.2.1 hd)
    subst e'
    have hi' := get_lt hH
    have P := hr.put (h' := T'.heap) (c := cZ xs') hi' w.size (fun a cz hne q => by
      obtain ⟨c', g1, -, -, -, g5, -⟩ := wr_at w q
      rw [g5 hne] at g1; exact g1) ⟨_, Ar.same w, q2⟩
    exact ⟨T', _, X', hH' ▸ P.1, P.2, Fr.snoc X' N (hr.2.2.2.1 i hi' hi), fun t ht => st t ht⟩) nx
/-- a field of the one class is written -/
theorem WP.put {idx i j kk : Nat} {f d : String} {vs : List Value} {v v' old : Value} {ty : FieldType} (hd : decode bytes pc = .ok (.putfield idx, 3)) (hw : (Cond.fieldLink own idx C f d).before a0 Z = true) (hl : (Cond.lays C C f d).before a0 Z = true ∨ ((Cond.laysFinal C C f d).before a0 Z = true ∧ own = C ∧ mn = "<init>")) (wi : (Cond.instantiable C kk).before a0 Z = true)
    (hlay : ∀ (a b : Nat) (f g : String × String), lay[a]? = some f → lay[b]? = some g → a ≠ b → RoadKit.slotOf Z C f.1 f.2 ≠ RoadKit.slotOf Z C g.1 g.2) (hty : parseFieldDescriptor d = some ty) (hn : ∀ ad, narrow ty (rf ad v) = rf ad v') (hf : ∀ ad, fits ty (rf ad v') = true)
    (hj : lay[j]? = some (f, d)) (hH : H[i]? = some (.inl vs)) (hv : vs[j]? = some old) (hi : ro ≤ i) (hH' : H.set i (.inl (vs.set j v')) = H') (nx : WP l Z C lay own mn bytes maxL ret R n0 ro Q k n (pc + 3) L S H') : WP l Z C lay own mn bytes maxL ret R n0 ro Q k n pc L (v :: .ref i :: S) H :=
  WP.moved (fun p e s m args below meth c T locs ad Ls X A hr N hL hz => by
    obtain ⟨E, F⟩ := hr.1 i _ hH
    obtain ⟨T', h', X', e', w, st⟩ := putFN X A.1 A.2.1 A.2.2.2.2.2.2.1 hw Via.refl rfl (F j _ old hj hv) E (hl.imp id fun q => ⟨q.1, q.2.1, A.2.2.2.2.2.2.2.trans q.2.2⟩) wi hty (hn ad) (hf ad) (g := mkF m pc Ls (rf ad v :: .ref (ad i) :: S.map (rf ad))) rfl rfl (hb A.2.2.1 hd)
    subst e'
    have hi' := get_lt hH
    have P := hr.put (h' := T'.heap) (c := .inl (vs.set j v')) hi' w.size (fun a cz hne q => by
      obtain ⟨c', g1, -, -, -, g5, -⟩ := wr_at w q
      rw [g5 hne] at g1; exact g1) ⟨E.wr w, fun a g u hg hu => by
        rw [List.getElem?_set] at hu
        by_cases e : j = a
        · subst e
          cases hj.symm.trans hg
          rw [if_pos rfl, if_pos (get_lt hv)] at hu
          cases hu
          exact (F j _ old hj hv).same w
        · rw [if_neg e] at hu
          exact (F a g u hg hu).other w (Or.inr (hlay a j g (f, d) hg hj (Ne.symm e)))⟩
    exact ⟨T', _, X', hH' ▸ P.1, P.2, Fr.snoc X' N (hr.2.2.2.1 i hi' hi), fun t ht => st t ht⟩) nx
/-- newarray -/
theorem WP.newarray {aty : ArrayType} {c0 : OwnC} {cnt : Int32} (hd : decode bytes pc = .ok (.newarray aty, 2)) (hw : (Cond.arrayClass (newarray.typeOf aty)).before a0 Z = true) (hn : ¬ cnt < 0) (hb8 : cnt.toNatClampNeg * 8 ≤ 536870912) (hc : k + 1 ≤ R.cells) (hl : n + cnt.toNatClampNeg ≤ R.slots)
    (h0 : (aty = .int ∧ c0 = cI (List.replicate cnt.toNatClampNeg 0)) ∨ (aty = .long ∧ c0 = cJ (List.replicate cnt.toNatClampNeg 0)) ∨ (aty = .boolean ∧ c0 = cZ (List.replicate cnt.toNatClampNeg 0)))
    (nx : WP l Z C lay own mn bytes maxL ret R n0 ro Q (k + 1) (n + cnt.toNatClampNeg) (pc + 2) L (.ref H.length :: S) (H ++ [c0])) : WP l Z C lay own mn bytes maxL ret R n0 ro Q k n pc L (.int cnt :: S) H :=
  WP.moved (fun p e s m args below meth c T locs ad Ls X A hr N hL hz => by
    have hcb : componentBytes (newarray.typeOf aty) ≤ 8 := by cases aty <;> decide
    obtain ⟨cA, kA, comp, h1, h2, h3, X', st⟩ := X.newarrayPrim A.1 (mvA A.2.1 hw) (g := mkF m pc Ls (.int cnt :: S.map (rf ad))) rfl (hb A.2.2.1 hd) rfl hn (Nat.le_trans (Nat.mul_le_mul (Nat.le_refl _) hcb) hb8) hc hl
    rw [A.2.1.alike.findClass] at h1
    obtain ⟨kZ, z1, -⟩ := Vm.findClass_spec h1
    obtain ⟨k', z2, z3⟩ := A.2.1.alike.2.2 _ _ z1
    cases h2.symm.trans z2
    have hE : Ext T.heap (T.heap.push { cls := cA, slots := Array.replicate cnt.toNatClampNeg (defaultValue (newarray.typeOf aty)), vm := .none }) := ⟨by simp, fun a c h => by
      rw [Array.getElem?_push_lt (Array.getElem?_eq_some_iff.mp h).1]; exact (Array.getElem?_eq_getElem _).symm.trans h⟩
    have Ar : Arr Z (T.heap.push { cls := cA, slots := Array.replicate cnt.toNatClampNeg (defaultValue (newarray.typeOf aty)), vm := .none }) T.heap.size { cls := cA, slots := Array.replicate cnt.toNatClampNeg (defaultValue (newarray.typeOf aty)), vm := .none } (newarray.typeOf aty) :=
      ⟨by simp, ⟨by simp, kZ, z1, comp, by rw [← h3, z3]⟩, by simp⟩
    have hc0 : CelOk Z C lay ad (T.heap.push { cls := cA, slots := Array.replicate cnt.toNatClampNeg (defaultValue (newarray.typeOf aty)), vm := .none }) T.heap.size c0 := by
      rcases h0 with ⟨rfl, rfl⟩ | ⟨rfl, rfl⟩ | ⟨rfl, rfl⟩
      all_goals exact ⟨_, Ar, by simp [defaultValue, newarray.typeOf]⟩
    have P := hr.push (h' := T.heap.push _) (by simp) hE hc0
    refine ⟨_, locs, X', P.1, P.2.1, N, fun t ht => st t ?_⟩
    have e0 : (List.map (rf ad) (.ref H.length :: S)) = .ref T.heap.size :: S.map (rf ad) := by show (Value.ref (ad H.length) :: _) = _; rw [P.2.2]
    rw [e0] at ht; exact ht) nx
theorem rf_default (ad : Nat → Addr) (ty : FieldType) : rf ad (defaultValue ty) = defaultValue ty := by cases ty <;> rfl
/-- new -/
theorem WP.new {idx kk : Nat} {vs : List Value} (hd : decode bytes pc = .ok (.new idx, 3)) (hw : (Cond.classLink own idx C).before a0 Z = true) (wi : (Cond.instantiable C kk).before a0 Z = true) (wz : (Cond.initialized C).before a0 Z = true) (hc : k + 1 ≤ R.cells) (hl : n + kk ≤ R.slots)
    (h0 : ∀ (i : Nat) (f : String × String) (v : Value), lay[i]? = some f → vs[i]? = some v → Laid Z a0 C C f.1 f.2 ∧ ∃ ty, parseFieldDescriptor f.2 = some ty ∧ v = defaultValue ty)
    (nx : WP l Z C lay own mn bytes maxL ret R n0 ro Q (k + 1) (n + kk) (pc + 3) L (.ref H.length :: S) (H ++ [.inl vs])) : WP l Z C lay own mn bytes maxL ret R n0 ro Q k n pc L S H :=
  WP.moved (fun p e s m args below meth c T locs ad Ls X A hr N hL hz => by
    obtain ⟨vm', cC, kC, h1, h2, h3, h4, X', st⟩ := X.newCold A.1 A.2.2.2.2.2.2.1 (mv A.2.1 hw) (mv A.2.1 wi) (mv A.2.1 wz) (g := mkF m pc Ls (S.map (rf ad))) rfl (hb A.2.2.1 hd) hc hl
    rw [A.2.1.alike.findClass] at h1
    obtain ⟨kZ, z1, -⟩ := Vm.findClass_spec h1
    obtain ⟨k', z2, z3⟩ := A.2.1.alike.2.2 _ _ z1
    cases h2.symm.trans z2
    have ei : kC.instanceTypes = kZ.instanceTypes := by rw [z3]
    have hN : (T.heap.push { cls := cC, slots := kC.instanceTypes.map defaultValue, vm := .none })[T.heap.size]? = some { cls := cC, slots := kC.instanceTypes.map defaultValue, vm := .none } := by simp
    have hE : Ext T.heap (T.heap.push { cls := cC, slots := kC.instanceTypes.map defaultValue, vm := .none }) := ⟨by simp, fun a c h => by
      rw [Array.getElem?_push_lt (Array.getElem?_eq_some_iff.mp h).1]; exact (Array.getElem?_eq_getElem _).symm.trans h⟩
    have hc0 : CelOk Z C lay ad (T.heap.push { cls := cC, slots := kC.instanceTypes.map defaultValue, vm := .none }) T.heap.size (.inl vs) := by
      refine ⟨⟨_, kZ, hN, h1, z1, rfl, fun _ => by simp [ei]⟩, fun i f v hf hv => ?_⟩
      obtain ⟨La, ty, ht, rfl⟩ := h0 i f v hf hv
      obtain ⟨c1, k1, cf, kf, i1, f1, a1, a2, a3, a4, a5, a6, -⟩ := La.spec
      cases h1.symm.trans a1
      cases z1.symm.trans a2
      rw [rf_default]
      exact ⟨_, cf, kf, i1, f1, hN, a3, a4, by simp, rfl, a5, by simp [ei, a6, (State.fieldFound?_type a3 ht).2]⟩
    have P := hr.push (h' := T.heap.push _) (by simp) hE hc0
    refine ⟨_, locs, X', P.1, P.2.1, N, fun t ht => st t ?_⟩
    have e0 : (List.map (rf ad) (.ref H.length :: S)) = .ref T.heap.size :: S.map (rf ad) := by show (Value.ref (ad H.length) :: _) = _; rw [P.2.2]
    rw [e0] at ht; exact ht) nx
/-- Object.<init> -/
theorem WP.initO {idx i : Nat} (hd : decode bytes pc = .ok (.invokespecial idx, 3)) (w1 : (Cond.methodLink own idx Lib.objectInit).before a0 Z = true) (w2 : (Cond.instanceMethod Lib.objectInit).before a0 Z = true) (w3 : (Cond.code Lib.objectInit ⟨#[0xb1]⟩ 1 none).before a0 Z = true) (hf : 1 ≤ R.frames) (hl : (S.map fun v => v.category).sum + 12 ≤ R.locals)
    (nx : WP l Z C lay own mn bytes maxL ret R n0 ro Q k n (pc + 3) L S H) : WP l Z C lay own mn bytes maxL ret R n0 ro Q k n pc L (.ref i :: S) H :=
  WP.moved (fun p e s m args below meth c T locs ad Ls X A hr N hL hz => by
    obtain ⟨T', X', e', st⟩ := RoadKit.initO X A.1 A.2.1 A.2.2.2.2.2.2.1 w1 w2 w3 rfl (g := mkF m pc Ls (.ref (ad i) :: S.map (rf ad))) rfl (hz.trans A.2.2.2.1.symm) rfl (hb A.2.2.1 hd) hf (W := (S.map fun v => v.category).sum) (by show 2 * 0 + _ ≤ _; rw [rf_cats]; omega) hl
    exact ⟨T', locs, X', by rw [e']; exact hr, by rw [e']; exact Kp.refl _ _ _, N, fun t ht => st t ht⟩) nx
theorem WP.leave {v : Option Value} (hk : k ≤ R.cells) (hn : n ≤ R.slots) (hv : ret = none → v = none) (hq : Q v H)
    (hs : ∀ (p : Program) (e : Env) (s : State) (m : MethodId) (args : Array Value) (below : List Frame) (meth : Method) (c : Code) (T : State) (locs : List Loc) (ad : Nat → Addr) (Ls : Array Slot) (fs : List Frame), Stand p l e R s m args below meth c T locs k n → Am Z own mn bytes maxL ret p s m meth c →
      (∀ (f : JFrame) (acts : List Action), f.method = m → f.locked = none → f.entered = [] → (doReturn e (T.setTop f) acts (v.map (rf ad))).1 = T.setFrames fs) → Steps p.tables e below (T.setTop (mkF m pc Ls (S.map (rf ad)))) (T.setFrames fs)) : WP l Z C lay own mn bytes maxL ret R n0 ro Q k n pc L S H := by
  intro p e s m args below meth c T locs ad Ls X A hr N hL hz
  obtain ⟨fs, hr', hrun, hended, hW, hsame⟩ := X.leave (v := v.map (rf ad)) (fun q => by rw [hv (A.2.2.2.2.1.symm.trans q)]; rfl) A.2.2.2.2.2.1
  exact ⟨_, v, H, locs, hs p e s m args below meth c T locs ad Ls fs X A hr', hrun, hended, hq, hr, Kp.refl _ _ _, N, ⟨_, rfl⟩, hW, hsame.mono hk hn⟩
theorem retI' {p : Program} {e : Env} {s : State} {m : MethodId} {args : Array Value} {below : List Frame} {meth : Method} {c : Code} {T : State} {locs : List Loc} {cells slots : Nat} (X : Stand p l e R s m args below meth c T locs cells slots) (hx : p.tables.exec = Jvm.exec) {pc : Nat} {Ls : Array Slot} {z : Int32} {rest : List Value} (hret : meth.sig.returnType = some .int) (hd : decode c.code pc = .ok (.ireturn, 1)) {fs : List Frame}
    (hl : ∀ (f : JFrame) (acts : List Action), f.method = m → f.locked = none → f.entered = [] → (doReturn e (T.setTop f) acts (some (.int z))).1 = T.setFrames fs) : Steps p.tables e below (T.setTop (mkF m pc Ls (.int z :: rest))) (T.setFrames fs) := by
  have hm' : T.vm.method? m = some meth := X.method'
  have hn : narrow .int (.int z) = .int z := rfl
  show Steps p.tables e below (T.setTop { method := m, pc := pc, locals := Ls, stack := _ :: rest, locked := none }) _
  jvm_step X.here [X.here.top, hx, hd, hm', hret, hn]
  first | (intro acts; rw [hl _ acts rfl rfl rfl]) | rw [hl _ _ rfl rfl rfl]
  exact Steps.refl _
theorem WP.ireturn {x : Int32} (hd : decode bytes pc = .ok (.ireturn, 1)) (hret : ret = some .int) (hk : k ≤ R.cells) (hn : n ≤ R.slots) (hq : Q (some (.int x)) H) : WP l Z C lay own mn bytes maxL ret R n0 ro Q k n pc L (.int x :: S) H :=
  WP.leave (v := some (.int x)) hk hn (fun q => by rw [hret] at q; cases q) hq fun p e s m args below meth c T locs ad Ls fs X A hr' => retI' X A.1 (A.2.2.2.2.1.trans hret) (hb A.2.2.1 hd) hr'
theorem WP.zreturn {x : Int32} (hd : decode bytes pc = .ok (.ireturn, 1)) (hret : ret = some .boolean) (hk : k ≤ R.cells) (hn : n ≤ R.slots) (hq : Q (some (.int (x &&& 1))) H) : WP l Z C lay own mn bytes maxL ret R n0 ro Q k n pc L (.int x :: S) H :=
  WP.leave (v := some (.int (x &&& 1))) hk hn (fun q => by rw [hret] at q; cases q) hq fun p e s m args below meth c T locs ad Ls fs X A hr' => retN X A.1 (t := .boolean) (A.2.2.2.2.1.trans hret) (Or.inl rfl) (hb A.2.2.1 hd) hr'
theorem WP.lreturn {x : Int64} (hd : decode bytes pc = .ok (.lreturn, 1)) (hret : ret = some .long) (hk : k ≤ R.cells) (hn : n ≤ R.slots) (hq : Q (some (.long x)) H) : WP l Z C lay own mn bytes maxL ret R n0 ro Q k n pc L [.long x] H :=
  WP.leave (v := some (.long x)) hk hn (fun q => by rw [hret] at q; cases q) hq fun p e s m args below meth c T locs ad Ls fs X A hr' => X.lreturnOut A.1 (A.2.2.2.2.1.trans hret) (hb A.2.2.1 hd) hr'
theorem WP.vreturn (hd : decode bytes pc = .ok (.return_, 1)) (hret : ret = none) (hk : k ≤ R.cells) (hn : n ≤ R.slots) (hq : Q none H) : WP l Z C lay own mn bytes maxL ret R n0 ro Q k n pc L [] H :=
  WP.leave (v := none) hk hn (fun _ => rfl) hq fun p e s m args below meth c T locs ad Ls fs X A hr' => X.returnOut A.1 (A.2.2.2.2.1.trans hret) (hb A.2.2.1 hd) hr'
end Rules
/-! ## a callee's promise, said of the small view -/
def QQ (Z : State) (C : String) (lay : List (String × String)) (n0 ro : Nat) (ad : Nat → Addr) (N : Nat) (h : Heap) (Q : Option Value → List OwnC → Prop) (v : Option Value) (h' : Heap) (L : List Loc) : Prop :=
  ∃ w H', v = w.map (rf ad) ∧ Q w H' ∧ HR Z C lay n0 ro ad H' h' ∧ Kp ad N h h' ∧ Fr n0 L
def CS (l : Launch) (Z : State) (C : String) (lay : List (String × String)) (y : MethodName) (bytes : ByteArray) (maxL : Nat) (ret : Option FieldType) (R : Room) (ro : Nat) (as : List Value) (H : List OwnC) (Q : Option Value → List OwnC → Prop) : Prop :=
  ∀ (ws : List Cond) (n0 : Nat) (ad : Nat → Addr) (h : Heap), HR Z C lay n0 ro ad H h →
    MetFree l y (head1 (Cond.code y bytes maxL ret :: ws) R) (fun a U => a = (as.map (rf ad)).toArray ∧ Z.Warmed39 U.vm ∧ U.heap = h) (fun _ _ _ _ _ => True)
      (fun _ U o U' => ∃ v L, o = .returned v ∧ QQ Z C lay n0 ro ad H.length h Q v U'.heap L ∧ FrameEnd U o U' L R.cells R.slots)
section Calls
variable {l : Launch} {Z : State} {a0 : Array Value} {C : String} {lay : List (String × String)} {own mn : String} {bytes cb : ByteArray} {maxL cm : Nat} {ret cr : Option FieldType} {R Rc : Room} {n0 ro : Nat} {Q Qc : Option Value → List OwnC → Prop} {k n pc pc' : Nat} {L L' : List Slot} {S S0 as : List Value} {H H' : List OwnC} {y : MethodName}
theorem CS.of_wp (hx : plainName y.cls = true) (hn : (laid as).length ≤ maxL) (w : ∀ n0, WP l Z C lay y.cls y.name bytes maxL ret R n0 ro Q 0 0 0 (entL as maxL) [] H) : CS l Z C lay y bytes maxL ret R ro as H Q := by
  intro ws n0 ad h hr
  refine MetFree.of_bodySF (plainFor_of_name hx) hisR ?_
  intro p e s m args below meth c s₁ Bd hml0 hP hK
  obtain ⟨rfl, hZ, hh⟩ := hP
  have e0 : s₁.heap = h := by rw [← hh, Bd.state]; rfl
  obtain ⟨E1, E2⟩ := entry_LR ad as maxL hn
  obtain ⟨s₂, v, H', locs', h1, h2, h3, h4, h5, h6, h7, h8⟩ := w n0 p e s m _ below meth c s₁ [] ad _ (Stand.of_body Bd) ⟨Bd.exec, hZ, Bd.bytes, hml0, Bd.returns, Bd.notSynchronized, findClass_of_methodNamed Bd.named, (name_of_methodNamed Bd.named Bd.method).1⟩ (by rw [e0]; exact hr) (Fr.nil n0) E1 E2
  rw [e0] at h6
  exact ⟨s₂, _, h1, h2, h3, _, locs', rfl, ⟨v, H', rfl, h4, h5, h6, h7⟩, h8⟩
theorem CS.mono (cs : CS l Z C lay y bytes maxL ret R ro as H Q) (h : ∀ v H', Q v H' → Qc v H') : CS l Z C lay y bytes maxL ret R ro as H Qc := by
  intro ws n0 ad hh hr p e ha hc hk s m args below hf happ hP hK
  obtain ⟨N, o, h1, h2, h3, v, L, h4, ⟨w, H', g1, g2, g3⟩, h5⟩ := cs ws n0 ad hh hr p e ha hc hk s m args below hf happ hP hK
  exact ⟨N, o, h1, h2, h3, v, L, h4, ⟨w, H', g1, h _ _ g2, g3⟩, h5⟩
/-- what every call leaves: the walk goes on behind it -/
theorem go_on {p : Program} {e : Env} {s : State} {m : MethodId} {args : Array Value} {below : List Frame} {meth : Method} {c : Code} {T : State} {locs : List Loc} {ad : Nat → Addr} {Ls : Array Slot} {B : Pt} {v : Option Value} {Lc : List Loc} {s₀ : State}
    (nx : ∀ v H', Qc v H' → WP l Z C lay own mn bytes maxL ret R n0 ro Q (k + Rc.cells) (n + Rc.slots) (pc + 3) L (v.toList ++ S) H') (X : Stand p l e R s m args below meth c B.U B.locs B.cells B.slots) (A : Am Z own mn bytes maxL ret p s m meth c) (hr : HR Z C lay n0 ro ad H T.heap) (N : Fr n0 locs) (hL : LR ad L Ls) (hz : Ls.size = maxL)
    (hQ : QQ Z C lay n0 ro ad H.length T.heap Qc v B.U.heap Lc) (e1 : B.locs = locs ++ Lc) (e2 : B.cells = k + Rc.cells) (e3 : B.slots = n + Rc.slots) (st : Steps p.tables e below s₀ (B.U.setTop (mkF m (pc + 3) Ls (v.toList ++ S.map (rf ad))))) :
    ∃ (s₂ : State) (v : Option Value) (H' : List OwnC) (locs' : List Loc), Steps p.tables e below s₀ s₂ ∧ s₂.status = .running ∧ Ended s₂ below (.returned (v.map (rf ad))) ∧ Q v H' ∧ HR Z C lay n0 ro ad H' s₂.heap ∧ Kp ad H.length T.heap s₂.heap ∧ Fr n0 locs' ∧ FrameEnd s (.returned (v.map (rf ad))) s₂ locs' R.cells R.slots := by
  obtain ⟨w, H1, rfl, g2, g3, g4, g5⟩ := hQ
  rw [e1, e2, e3] at X
  obtain ⟨s₂, v, H2, locs2, h1, h2, h3, h4, h5, h6, h7⟩ := nx w H1 g2 p e s m args below meth c B.U _ ad Ls X A g3 (N.app g5) hL hz
  refine ⟨s₂, v, H2, locs2, st.trans ?_, h2, h3, h4, h5, Kp.trans hr g4 h6, h7⟩
  have e0 : (w.toList ++ S).map (rf ad) = (w.map (rf ad)).toList ++ S.map (rf ad) := by cases w <;> rfl
  rw [← e0]; exact h1
theorem stack_of (ad : Nat → Addr) (h : S0 = as.reverse ++ S) : S0.map (rf ad) = (as.map (rf ad)).reverse ++ S.map (rf ad) := by rw [h, List.map_append, List.map_reverse]
theorem stack_of1 {i : Nat} (ad : Nat → Addr) (h : S0 = as.reverse ++ .ref i :: S) : S0.map (rf ad) = (as.map (rf ad)).reverse ++ .ref (ad i) :: S.map (rf ad) := by rw [h, List.map_append, List.map_reverse]; rfl
theorem WP.callS {idx : Nat} (hd : decode bytes pc = .ok (.invokestatic idx, 3)) (w1 : (Cond.methodLink own idx y).before a0 Z = true) (w2 : (Cond.static y).before a0 Z = true) (w3 : (Cond.initialized y.cls).before a0 Z = true) (w4 : (Cond.code y cb cm cr).before a0 Z = true) (hy : y.cls ≠ "java/lang/invoke/MethodHandle" ∧ y.cls ≠ "java/lang/invoke/VarHandle")
    (cs : CS l Z C lay y cb cm cr Rc ro as H Qc) (hS : S0 = as.reverse ++ S) (hlen : ∀ sig, parseMethodDescriptor y.desc = some sig → as.length = sig.parameters.length) (hf : Rc.frames + 1 ≤ R.frames) (hl : (S.map fun v => v.category).sum + (cm + 11) + Rc.locals ≤ R.locals) (hc : k + Rc.cells ≤ R.cells) (hs : n + Rc.slots ≤ R.slots)
    (nx : ∀ v H', Qc v H' → WP l Z C lay own mn bytes maxL ret R n0 ro Q (k + Rc.cells) (n + Rc.slots) (pc + 3) L (v.toList ++ S) H') : WP l Z C lay own mn bytes maxL ret R n0 ro Q k n pc L S0 H := by
  intro p e s m args below meth c T locs ad Ls X A hr N hL hz
  obtain ⟨v, vm₁, B, hW₁, X', ⟨Lc, hQ, e1, e2, e3⟩, st⟩ := Jvm.LawKit.callS X A.1 (y := y) A.2.2.2.2.2.2.1 (mvT A.2.1 w1) (mvT A.2.1 w2) (mvT A.2.1 w3) (mvT A.2.1 w4) hy
    (backOf (W := (S.map fun v => v.category).sum) (cs [] n0 ad T.heap hr) A.2.1 w4 w3 hf hl) (g := mkF m pc Ls (S0.map (rf ad))) rfl (hz.trans A.2.2.2.1.symm) (argsL := as.map (rf ad)) (rest := S.map (rf ad)) (fun sig q => by rw [List.length_map]; exact hlen sig q) (stack_of ad hS) (by show 2 * 0 + _ ≤ _; rw [rf_cats]; omega) (hb A.2.2.1 hd) (fun _ _ => ⟨rfl, rfl, hc, hs⟩)
  exact go_on (T := T) nx X' A hr N hL hz hQ e1 e2 e3 (st _ (Steps.refl _))
theorem WP.callV {idx i : Nat} {vs : List Value} (hd : decode bytes pc = .ok (.invokevirtual idx, 3)) (w1 : (Cond.methodLink own idx y).before a0 Z = true) (w2 : (Cond.declares y).before a0 Z = true) (w3 : (Cond.selects C y y).before a0 Z = true) (w4 : (Cond.instanceMethod y).before a0 Z = true) (w5 : (Cond.code y cb cm cr).before a0 Z = true) (w6 : (Cond.initialized y.cls).before a0 Z = true) (hy : y.cls ≠ "java/lang/invoke/MethodHandle" ∧ y.cls ≠ "java/lang/invoke/VarHandle")
    (hH : H[i]? = some (.inl vs)) (cs : CS l Z C lay y cb cm cr Rc ro (.ref i :: as) H Qc) (hS : S0 = as.reverse ++ .ref i :: S) (hlen : ∀ sig, parseMethodDescriptor y.desc = some sig → as.length = sig.parameters.length) (hf : Rc.frames + 1 ≤ R.frames) (hl : (S.map fun v => v.category).sum + (cm + 11) + Rc.locals ≤ R.locals) (hc : k + Rc.cells ≤ R.cells) (hs : n + Rc.slots ≤ R.slots)
    (nx : ∀ v H', Qc v H' → WP l Z C lay own mn bytes maxL ret R n0 ro Q (k + Rc.cells) (n + Rc.slots) (pc + 3) L (v.toList ++ S) H') : WP l Z C lay own mn bytes maxL ret R n0 ro Q k n pc L S0 H := by
  intro p e s m args below meth c T locs ad Ls X A hr N hL hz
  obtain ⟨cq, kq, qa, qb, qc⟩ := isOf A.2.1 rfl (hr.1 i _ hH).1
  obtain ⟨v, vm₁, B, hW₁, X', ⟨Lc, hQ, e1, e2, e3⟩, st⟩ := X.virtualBack A.1 (y := y) (z := y) A.2.2.2.2.2.2.1 (mvT A.2.1 w1) (mvT A.2.1 w2) (notFace_of_selects (args := #[]) (mvT A.2.1 w3)) (mvT A.2.1 w3) (mvT A.2.1 w4) hy
    (backOf (W := (S.map fun v => v.category).sum) (cs [] n0 ad T.heap hr) A.2.1 w5 w6 hf hl) qa qc (g := mkF m pc Ls (S0.map (rf ad))) rfl (hz.trans A.2.2.2.1.symm) (Steps.refl _) (argsL := as.map (rf ad)) (rest := S.map (rf ad)) (fun sig q => by rw [List.length_map]; exact hlen sig q) (stack_of1 ad hS) (by show 2 * 0 + _ ≤ _; rw [rf_cats]; omega) (hb A.2.2.1 hd) (fun _ _ => ⟨rfl, rfl, hc, hs⟩)
  exact go_on (T := T) nx X' A hr N hL hz hQ e1 e2 e3 st
theorem WP.callP {idx i kk : Nat} {vs : List Value} (hd : decode bytes pc = .ok (.invokevirtual idx, 3)) (w1 : (Cond.methodLink own idx y).before a0 Z = true) (w2 : (Cond.privateMethod y).before a0 Z = true) (wi : (Cond.instantiable y.cls kk).before a0 Z = true) (w4 : (Cond.instanceMethod y).before a0 Z = true) (w5 : (Cond.code y cb cm cr).before a0 Z = true) (w6 : (Cond.initialized y.cls).before a0 Z = true) (hy : y.cls ≠ "java/lang/invoke/MethodHandle" ∧ y.cls ≠ "java/lang/invoke/VarHandle")
    (hH : H[i]? = some (.inl vs)) (cs : CS l Z C lay y cb cm cr Rc ro (.ref i :: as) H Qc) (hS : S0 = as.reverse ++ .ref i :: S) (hlen : ∀ sig, parseMethodDescriptor y.desc = some sig → as.length = sig.parameters.length) (hf : Rc.frames + 1 ≤ R.frames) (hl : (S.map fun v => v.category).sum + (cm + 11) + Rc.locals ≤ R.locals) (hc : k + Rc.cells ≤ R.cells) (hs : n + Rc.slots ≤ R.slots)
    (nx : ∀ v H', Qc v H' → WP l Z C lay own mn bytes maxL ret R n0 ro Q (k + Rc.cells) (n + Rc.slots) (pc + 3) L (v.toList ++ S) H') : WP l Z C lay own mn bytes maxL ret R n0 ro Q k n pc L S0 H := by
  intro p e s m args below meth c T locs ad Ls X A hr N hL hz
  obtain ⟨cq, q, q'⟩ := (hr.1 i _ hH).1.cell
  have hpr : s.PrivateAt y := Cond.privateMethod_at (mvP A.2.1 w2 (args := #[]))
  have hin : (Cond.instanceMethod y).before args s = true := mvT A.2.1 w4
  have hsel : (Cond.selects y.cls y y).before args s = true := by
    have wi' : (Cond.instantiable y.cls kk).before args s = true := mvT A.2.1 wi
    obtain ⟨c1, k1, g1, g2, g3, g4, -⟩ := Cond.instantiable_spec wi'
    have g5 : k1.isInterface = false := by
      cases hq : k1.isInterface
      · rfl
      · rw [hq] at g4; cases g4
    exact selects_self_of_private g1 g2 g5 hpr hin hy
  obtain ⟨v, vm₁, B, hW₁, X', ⟨Lc, hQ, e1, e2, e3⟩, st⟩ := X.privateBack A.1 (y := y) A.2.2.2.2.2.2.1 (mvT A.2.1 w1) hin hsel hpr (mvT A.2.1 w5) hy
    (backOf (W := (S.map fun v => v.category).sum) (cs [] n0 ad T.heap hr) A.2.1 w5 w6 hf hl) (g := mkF m pc Ls (S0.map (rf ad))) rfl (hz.trans A.2.2.2.1.symm) (Steps.refl _) q q' (argsL := as.map (rf ad)) (rest := S.map (rf ad)) (fun sig q => by rw [List.length_map]; exact hlen sig q) (stack_of1 ad hS) (by show 2 * 0 + _ ≤ _; rw [rf_cats]; omega) (hb A.2.2.1 hd) (fun _ _ => ⟨rfl, rfl, hc, hs⟩)
  exact go_on (T := T) nx X' A hr N hL hz hQ e1 e2 e3 st
theorem WP.callI {idx i : Nat} (hd : decode bytes pc = .ok (.invokespecial idx, 3)) (hn1 : y.name = "<init>") (w1 : (Cond.methodLink own idx y).before a0 Z = true) (w4 : (Cond.instanceMethod y).before a0 Z = true) (w5 : (Cond.code y cb cm none).before a0 Z = true) (w6 : (Cond.initialized y.cls).before a0 Z = true) (hy : y.cls ≠ "java/lang/invoke/MethodHandle" ∧ y.cls ≠ "java/lang/invoke/VarHandle")
    (cs : CS l Z C lay y cb cm none Rc ro (.ref i :: as) H Qc) (hS : S0 = as.reverse ++ .ref i :: S) (hlen : ∀ sig, parseMethodDescriptor y.desc = some sig → as.length = sig.parameters.length) (hf : Rc.frames + 1 ≤ R.frames) (hl : (S.map fun v => v.category).sum + (cm + 11) + Rc.locals ≤ R.locals) (hc : k + Rc.cells ≤ R.cells) (hs : n + Rc.slots ≤ R.slots)
    (nx : ∀ v H', Qc v H' → WP l Z C lay own mn bytes maxL ret R n0 ro Q (k + Rc.cells) (n + Rc.slots) (pc + 3) L (v.toList ++ S) H') : WP l Z C lay own mn bytes maxL ret R n0 ro Q k n pc L S0 H := by
  intro p e s m args below meth c T locs ad Ls X A hr N hL hz
  obtain ⟨v, vm₁, B, hW₁, X', ⟨Lc, hQ, e1, e2, e3⟩, st⟩ := X.specialBack A.1 (y := y) hn1 A.2.2.2.2.2.2.1 (mvT A.2.1 w1) (mvT A.2.1 w4) (mvT A.2.1 w5) hy
    (backOf (W := (S.map fun v => v.category).sum) (cs [] n0 ad T.heap hr) A.2.1 w5 w6 hf hl) (g := mkF m pc Ls (S0.map (rf ad))) rfl (hz.trans A.2.2.2.1.symm) (Steps.refl _) (a := ad i) (argsL := as.map (rf ad)) (rest := S.map (rf ad)) (fun sig q => by rw [List.length_map]; exact hlen sig q) (stack_of1 ad hS) (by show 2 * 0 + _ ≤ _; rw [rf_cats]; omega) (hb A.2.2.1 hd) (fun _ _ => ⟨rfl, rfl, hc, hs⟩)
  exact go_on (T := T) nx X' A hr N hL hz hQ e1 e2 e3 st
end Calls
/-! ## a callee that sees a part of the heap -/
def rn (ρ : Nat → Nat) : Value → Value
  | .ref i => .ref (ρ i)
  | .int x => .int x
  | .long x => .long x
  | .float x => .float x
  | .double x => .double x
  | .null => .null
  | .retAddr x => .retAddr x
theorem rf_rn (ad : Nat → Addr) (ρ : Nat → Nat) (v : Value) : rf ad (rn ρ v) = rf (fun j => ad (ρ j)) v := by cases v <;> rfl
def rnC (ρ : Nat → Nat) : OwnC → OwnC
  | .inl vs => .inl (vs.map (rn ρ))
  | .inr x => .inr x
theorem CelOk_rn {Z : State} {C : String} {lay : List (String × String)} {ad : Nat → Addr} {ρ : Nat → Nat} {h : Heap} {a : Addr} {c : OwnC} : CelOk Z C lay ad h a (rnC ρ c) ↔ CelOk Z C lay (fun j => ad (ρ j)) h a c := by
  rcases c with vs | xs | xs | xs
  · constructor
    · rintro ⟨E, F⟩
      refine ⟨E, fun i f v hf hv => ?_⟩
      have := F i f (rn ρ v) hf (by rw [List.getElem?_map, hv]; rfl)
      rwa [rf_rn] at this
    · rintro ⟨E, F⟩
      refine ⟨E, fun i f v hf hv => ?_⟩
      rw [List.getElem?_map] at hv
      obtain ⟨w, hw, rfl⟩ := Option.map_eq_some_iff.mp hv
      rw [rf_rn]; exact F i f w hf hw
  all_goals exact Iff.rfl
def patch (ρ : Nat → Nat) : List Nat → List OwnC → List OwnC → List OwnC
  | [], D, H => H ++ D.map (rnC ρ)
  | i :: is, c :: D, H => patch ρ is D (H.set i (rnC ρ c))
  | _ :: _, [], H => H
theorem patch_seg (ρ : Nat → Nat) : ∀ (D B A C : List OwnC), B.length = D.length → patch ρ (List.range' A.length D.length) D (A ++ (B ++ C)) = A ++ (D.map (rnC ρ) ++ C)
  | [], B, A, C, h => by
    obtain rfl : B = [] := List.eq_nil_of_length_eq_zero h
    simp [patch]
  | d :: D, [], A, C, h => by simp at h
  | d :: D, b :: B, A, C, h => by
    have h' : B.length = D.length := by simpa using h
    have ih := patch_seg ρ D B (A ++ [rnC ρ d]) C h'
    rw [List.length_append] at ih
    show patch ρ (List.range' (A.length + 1) D.length) D ((A ++ (b :: B ++ C)).set A.length (rnC ρ d)) = _
    rw [List.set_append_right _ _ (Nat.le_refl _), Nat.sub_self]
    simpa using ih
theorem patch_len (ρ : Nat → Nat) : ∀ (foot : List Nat) (D H : List OwnC), foot.length ≤ D.length → (patch ρ foot D H).length = H.length + (D.length - foot.length)
  | [], D, H, _ => by simp [patch]
  | i :: is, [], H, h => by simp at h
  | i :: is, c :: D, H, h => by
    show (patch ρ is D (H.set i (rnC ρ c))).length = _
    rw [patch_len ρ is D _ (by simpa using h)]; simp
theorem patch_out (ρ : Nat → Nat) : ∀ (foot : List Nat) (D H : List OwnC) (i : Nat), i < H.length → i ∉ foot → (patch ρ foot D H)[i]? = H[i]?
  | [], D, H, i, hi, _ => by simp [patch, List.getElem?_append_left hi]
  | j :: is, [], H, i, _, _ => rfl
  | j :: is, c :: D, H, i, hi, hn => by
    show (patch ρ is D (H.set j (rnC ρ c)))[i]? = _
    rw [patch_out ρ is D _ i (by simpa using hi) (fun q => hn (List.mem_cons_of_mem _ q)), List.getElem?_set_ne (fun q => hn (by rw [q]; exact List.mem_cons_self ..))]
theorem patch_new (ρ : Nat → Nat) : ∀ (foot : List Nat) (D H : List OwnC) (t : Nat), foot.length ≤ D.length → (patch ρ foot D H)[H.length + t]? = (D[foot.length + t]?).map (rnC ρ)
  | [], D, H, t, _ => by simp [patch, List.getElem?_append_right (Nat.le_add_right _ _)]
  | i :: is, [], H, _, h => by simp at h
  | i :: is, c :: D, H, t, h => by
    show (patch ρ is D (H.set i (rnC ρ c)))[H.length + t]? = _
    have := patch_new ρ is D (H.set i (rnC ρ c)) t (by simpa using h)
    rw [List.length_set] at this
    rw [this]; simp [Nat.add_right_comm _ 1 t]
theorem patch_in (ρ : Nat → Nat) : ∀ (foot : List Nat) (D H : List OwnC) (j i : Nat), foot.Nodup → (∀ x ∈ foot, x < H.length) → foot[j]? = some i → foot.length ≤ D.length → (patch ρ foot D H)[i]? = (D[j]?).map (rnC ρ)
  | [], D, H, j, i, _, _, h, _ => by simp at h
  | x :: is, [], H, j, i, _, _, _, h => by simp at h
  | x :: is, c :: D, H, 0, i, nd, hl, h, _ => by
    obtain rfl : x = i := by simpa using h
    show (patch ρ is D (H.set x (rnC ρ c)))[x]? = _
    rw [patch_out ρ is D _ x (by simpa using hl x (List.mem_cons_self ..)) (List.nodup_cons.mp nd).1]
    simp [hl x (List.mem_cons_self ..)]
  | x :: is, c :: D, H, j + 1, i, nd, hl, h, hd => by
    show (patch ρ is D (H.set x (rnC ρ c)))[i]? = _
    rw [patch_in ρ is D _ j i (List.nodup_cons.mp nd).2 (fun y hy => by simpa using hl y (List.mem_cons_of_mem _ hy)) (by simpa using h) (by simpa using hd)]
    simp
def ro1 (foot : List Nat) (N : Nat) (j : Nat) : Nat := if j < foot.length then foot.getD j 0 else N + (j - foot.length)
theorem ro1_in {foot : List Nat} {N j i : Nat} (h : foot[j]? = some i) : ro1 foot N j = i := by
  have hj := get_lt h
  unfold ro1
  rw [if_pos hj, List.getD_eq_getElem?_getD, h]; rfl
theorem ro1_new (foot : List Nat) (N t : Nat) : ro1 foot N (foot.length + t) = N + t := by
  unfold ro1
  rw [if_neg (by omega)]; omega
theorem CS.frame {l : Launch} {Z : State} {C : String} {lay : List (String × String)} {y : MethodName} {bytes : ByteArray} {maxL : Nat} {ret : Option FieldType} {R : Room} {ro roc : Nat} {as asc : List Value} {H Hc : List OwnC} {Qc : Option Value → List OwnC → Prop} (foot : List Nat)
    (cs : CS l Z C lay y bytes maxL ret R roc asc Hc Qc) (hlen : Hc.length = foot.length) (hnd : foot.Nodup) (hlt : ∀ x ∈ foot, x < H.length) (hcell : foot.map (fun i => H[i]?) = Hc.map (fun c => some (rnC (ro1 foot H.length) c))) (hro : ∀ x ∈ foot.drop roc, ro ≤ x) (has : asc.map (rn (ro1 foot H.length)) = as) :
    CS l Z C lay y bytes maxL ret R ro as H (fun v H' => ∃ vc D, Qc vc D ∧ v = vc.map (rn (ro1 foot H.length)) ∧ H' = patch (ro1 foot H.length) foot D H) := by
  intro ws n0 ad h hr
  obtain ⟨r1, r2, r3, r4, r5⟩ := hr
  have cellAt : ∀ (j i : Nat), foot[j]? = some i → ∃ c, Hc[j]? = some c ∧ H[i]? = some (rnC (ro1 foot H.length) c) := fun j i hj => by
    have h1 : (foot.map (fun i => H[i]?))[j]? = some H[i]? := by rw [List.getElem?_map, hj]; rfl
    rw [hcell, List.getElem?_map] at h1
    obtain ⟨c, e1, e2⟩ := Option.map_eq_some_iff.mp h1
    exact ⟨c, e1, e2.symm⟩
  have idx : ∀ j : Nat, j < foot.length → ∃ i, foot[j]? = some i ∧ i < H.length := fun j hj => ⟨_, List.getElem?_eq_getElem hj, hlt _ (List.getElem_mem hj)⟩
  have hrc : HR Z C lay n0 roc (fun j => ad (ro1 foot H.length j)) Hc h := by
    refine ⟨fun j c hj => ?_, fun i j hi hj q => ?_, fun t => ?_, fun j hj hr => ?_, r5⟩
    · obtain ⟨i, e1, e2⟩ := idx j (hlen ▸ get_lt hj)
      obtain ⟨c', g1, g2⟩ := cellAt j i e1
      cases g1.symm.trans hj
      show CelOk Z C lay (fun j => ad (ro1 foot H.length j)) h (ad (ro1 foot H.length j)) c
      rw [ro1_in e1]
      exact CelOk_rn.mp (r1 i _ g2)
    · rw [hlen] at hi hj
      obtain ⟨i', e1, e2⟩ := idx i hi
      obtain ⟨j', g1, g2⟩ := idx j hj
      dsimp only at q
      rw [ro1_in e1, ro1_in g1] at q
      have q' := r2 _ _ e2 g2 q
      subst q'
      exact (List.getElem?_inj hi hnd).mp (e1.trans g1.symm)
    · dsimp only
      rw [hlen, ro1_new]; exact r3 t
    · rw [hlen] at hj
      obtain ⟨i', e1, e2⟩ := idx j hj
      dsimp only
      rw [ro1_in e1]; refine r4 _ e2 (hro i' (List.mem_of_getElem? (i := j - roc) ?_)); rw [List.getElem?_drop, Nat.add_sub_cancel' hr]; exact e1
  intro p e ha hc hk s m args below hf happ hP hK
  have eas : (asc.map (rf fun j => ad (ro1 foot H.length j))) = as.map (rf ad) := by
    rw [← has, List.map_map]; congr 1; funext v; exact (rf_rn ad _ v).symm
  obtain ⟨N, o, h1, h2, h3, v, L, h4, ⟨w, D, rfl, g2, g3, g4, g5⟩, h5⟩ := cs ws n0 _ h hrc p e ha hc hk s m args below hf happ (by rw [eas]; exact hP) hK
  refine ⟨N, o, h1, h2, h3, _, L, h4, ⟨w.map (rn (ro1 foot H.length)), patch (ro1 foot H.length) foot D H, ?_, ⟨w, D, g2, rfl, rfl⟩, ?_, ?_, g5⟩, h5⟩
  · cases w with
    | none => rfl
    | some w => exact congrArg some (rf_rn ad _ w).symm
  · generalize hU : (stepsAlone p.tables e N s).heap = h' at g3 g4
    obtain ⟨d1, d2, d3, d4, d5⟩ := g3
    have hD : foot.length ≤ D.length := by
      by_cases q : foot.length ≤ D.length
      · exact q
      · exfalso
        obtain ⟨i, e1, e2⟩ := idx D.length (by omega)
        have z := d3 0
        simp only [Nat.add_zero] at z
        rw [ro1_in e1] at z
        obtain ⟨c', -, g2'⟩ := cellAt _ i e1
        have a1 := (r1 i _ g2').lt
        rw [z] at a1
        exact absurd a1 (Nat.not_lt.mpr g4.1)
    have hPl := patch_len (ro1 foot H.length) foot D H hD
    have old : ∀ i, i < H.length → ad i < h.size := fun i hi => (r1 i _ (List.getElem?_eq_getElem hi)).lt
    have new : ∀ i, H.length ≤ i → h.size ≤ ad i := fun i hi => by
      obtain ⟨t, rfl⟩ := Nat.exists_eq_add_of_le hi
      rw [r3 t]; exact Nat.le_add_right _ _
    refine ⟨fun i c hi => ?_, fun i j hi hj q => ?_, fun t => ?_, fun i hi hr => ?_, Nat.le_trans r5 g4.1⟩
    · by_cases hl : i < H.length
      · by_cases hm : i ∈ foot
        · obtain ⟨j, hj⟩ := List.getElem?_of_mem hm
          rw [patch_in _ foot D H j i hnd hlt hj hD] at hi
          obtain ⟨c', e1, rfl⟩ := Option.map_eq_some_iff.mp hi
          have := d1 j c' e1
          dsimp only at this
          rw [ro1_in hj] at this
          exact CelOk_rn.mpr this
        · rw [patch_out _ foot D H i hl hm] at hi
          refine (r1 i c hi).keep fun cz q => g4.2 _ cz q fun j hj q' => ?_
          rw [hlen] at hj
          obtain ⟨i', e1, e2⟩ := idx j hj
          dsimp only at q'
          rw [ro1_in e1] at q'
          have := r2 _ _ e2 hl q'
          subst this
          exact hm (List.mem_of_getElem? e1)
      · obtain ⟨t, rfl⟩ := Nat.exists_eq_add_of_le (Nat.le_of_not_lt hl)
        rw [patch_new _ foot D H t hD] at hi
        obtain ⟨c', e1, rfl⟩ := Option.map_eq_some_iff.mp hi
        have := d1 _ c' e1
        dsimp only at this
        rw [ro1_new] at this
        exact CelOk_rn.mpr this
    · by_cases a1 : i < H.length
      · by_cases a2 : j < H.length
        · exact r2 _ _ a1 a2 q
        · have b1 := old i a1
          rw [q] at b1
          exact absurd b1 (Nat.not_lt.mpr (new j (Nat.le_of_not_lt a2)))
      · by_cases a2 : j < H.length
        · have b1 := new i (Nat.le_of_not_lt a1)
          rw [q] at b1
          exact absurd (old j a2) (Nat.not_lt.mpr b1)
        · obtain ⟨t, rfl⟩ := Nat.exists_eq_add_of_le (Nat.le_of_not_lt a1)
          obtain ⟨t', rfl⟩ := Nat.exists_eq_add_of_le (Nat.le_of_not_lt a2)
          rw [r3, r3] at q; exact congrArg (H.length + ·) (Nat.add_left_cancel q)
    · have z := d3 t
      dsimp only at z
      have e1 : D.length + t = foot.length + (D.length - foot.length + t) := by omega
      rw [e1, ro1_new] at z
      rw [hPl, Nat.add_assoc]; exact z
    · by_cases a1 : i < H.length
      · exact r4 i a1 hr
      · exact Nat.le_trans r5 (new i (Nat.le_of_not_lt a1))
  · refine ⟨g4.1, fun a cz hz hn => g4.2 a cz hz fun j hj q => ?_⟩
    rw [hlen] at hj
    obtain ⟨i', e1, e2⟩ := idx j hj
    dsimp only at q
    rw [ro1_in e1] at q
    exact hn i' e2 q
/-! ## an object's state: ints (and booleans), longs, int[] (and boolean[]), long[], each by a number -/
abbrev St : Type := (Nat → Int32) × (Nat → Int64) × (Nat → List Int32) × (Nat → List Int64)
def upd {α : Type} (f : Nat → α) (i : Nat) (v : α) : Nat → α := fun j => if j = i then v else f j
def gI (s : St) (i : Nat) : Int32 := s.1 i
def gJ (s : St) (i : Nat) : Int64 := s.2.1 i
def gA (s : St) (i : Nat) : List Int32 := s.2.2.1 i
def gB (s : St) (i : Nat) : List Int64 := s.2.2.2 i
def sI (s : St) (i : Nat) (v : Int32) : St := (upd s.1 i v, s.2.1, s.2.2.1, s.2.2.2)
def sJ (s : St) (i : Nat) (v : Int64) : St := (s.1, upd s.2.1 i v, s.2.2.1, s.2.2.2)
def sA (s : St) (i : Nat) (v : List Int32) : St := (s.1, s.2.1, upd s.2.2.1 i v, s.2.2.2)
def sB (s : St) (i : Nat) (v : List Int64) : St := (s.1, s.2.1, s.2.2.1, upd s.2.2.2 i v)
theorem gI_sI (s : St) (i j : Nat) (v : Int32) : gI (sI s i v) j = if j = i then v else gI s j := rfl
theorem gI_sJ (s : St) (i j : Nat) (v : Int64) : gI (sJ s i v) j = gI s j := rfl
theorem gI_sA (s : St) (i j : Nat) (v : List Int32) : gI (sA s i v) j = gI s j := rfl
theorem gI_sB (s : St) (i j : Nat) (v : List Int64) : gI (sB s i v) j = gI s j := rfl
theorem gJ_sI (s : St) (i j : Nat) (v : Int32) : gJ (sI s i v) j = gJ s j := rfl
theorem gJ_sJ (s : St) (i j : Nat) (v : Int64) : gJ (sJ s i v) j = if j = i then v else gJ s j := rfl
theorem gJ_sA (s : St) (i j : Nat) (v : List Int32) : gJ (sA s i v) j = gJ s j := rfl
theorem gJ_sB (s : St) (i j : Nat) (v : List Int64) : gJ (sB s i v) j = gJ s j := rfl
theorem gA_sI (s : St) (i j : Nat) (v : Int32) : gA (sI s i v) j = gA s j := rfl
theorem gA_sJ (s : St) (i j : Nat) (v : Int64) : gA (sJ s i v) j = gA s j := rfl
theorem gA_sA (s : St) (i j : Nat) (v : List Int32) : gA (sA s i v) j = if j = i then v else gA s j := rfl
theorem gA_sB (s : St) (i j : Nat) (v : List Int64) : gA (sB s i v) j = gA s j := rfl
theorem gB_sI (s : St) (i j : Nat) (v : Int32) : gB (sI s i v) j = gB s j := rfl
theorem gB_sJ (s : St) (i j : Nat) (v : Int64) : gB (sJ s i v) j = gB s j := rfl
theorem gB_sA (s : St) (i j : Nat) (v : List Int32) : gB (sA s i v) j = gB s j := rfl
theorem gB_sB (s : St) (i j : Nat) (v : List Int64) : gB (sB s i v) j = if j = i then v else gB s j := rfl
def wrA (s : St) (i : Nat) (j x : Int32) : Option St := (wr (gA s i) j x).map (sA s i)
def wrB (s : St) (i : Nat) (j : Int32) (x : Int64) : Option St := (wr (gB s i) j x).map (sB s i)
theorem wrA_e {s s' : St} {i : Nat} {j x : Int32} (h : wrA s i j x = some s') : ∃ ys, wr (gA s i) j x = some ys ∧ s' = sA s i ys := by
  obtain ⟨ys, h1, h2⟩ := Option.map_eq_some_iff.mp h
  exact ⟨ys, h1, h2.symm⟩
theorem wrB_e {s s' : St} {i : Nat} {j : Int32} {x : Int64} (h : wrB s i j x = some s') : ∃ ys, wr (gB s i) j x = some ys ∧ s' = sB s i ys := by
  obtain ⟨ys, h1, h2⟩ := Option.map_eq_some_iff.mp h
  exact ⟨ys, h1, h2.symm⟩
def lt {α β : Type} (x : α) (f : α → β) : β := f x
theorem lt_e {α β : Type} {x : α} {f : α → β} {r : β} (h : lt x f = r) : ∃ y, y = x ∧ f y = r := ⟨x, rfl, h⟩
theorem ite_e {α : Type} {c : Prop} [Decidable c] {a b r : α} (h : (if c then a else b) = r) : (c ∧ a = r) ∨ (¬ c ∧ b = r) := by
  by_cases hc : c
  · rw [if_pos hc] at h; exact Or.inl ⟨hc, h⟩
  · rw [if_neg hc] at h; exact Or.inr ⟨hc, h⟩
theorem nz_e {α : Type} {c : Prop} [Decidable c] {b : Option α} {r : α} (h : (if c then none else b) = some r) : ¬ c ∧ b = some r := by
  by_cases hc : c
  · rw [if_pos hc] at h; cases h
  · rw [if_neg hc] at h; exact ⟨hc, h⟩
/-! the class's fields -/
def LaidAll (Z : State) (a0 : Array Value) (C : String) : List (String × String) → List Value → Prop
  | f :: fs, v :: vs => (Laid Z a0 C C f.1 f.2 ∧ ∃ ty, parseFieldDescriptor f.2 = some ty ∧ v = defaultValue ty) ∧ LaidAll Z a0 C fs vs
  | [], [] => True
  | _, _ => False
theorem LaidAll.new {Z : State} {a0 : Array Value} {C : String} : ∀ {lay : List (String × String)} {vs : List Value}, LaidAll Z a0 C lay vs → ∀ (i : Nat) (f : String × String) (v : Value), lay[i]? = some f → vs[i]? = some v → Laid Z a0 C C f.1 f.2 ∧ ∃ ty, parseFieldDescriptor f.2 = some ty ∧ v = defaultValue ty
  | [], [], _, i, f, v, h, _ => by simp at h
  | g :: fs, w :: vs, h, 0, f, v, h1, h2 => by
    obtain rfl : g = f := by simpa using h1
    obtain rfl : w = v := by simpa using h2
    exact h.1
  | g :: fs, w :: vs, h, i + 1, f, v, h1, h2 => LaidAll.new h.2 i f v (by simpa using h1) (by simpa using h2)
theorem LaidAll.len {Z : State} {a0 : Array Value} {C : String} : ∀ {lay : List (String × String)} {vs : List Value}, LaidAll Z a0 C lay vs → lay.length = vs.length
  | [], [], _ => rfl
  | g :: fs, w :: vs, h => congrArg Nat.succ (LaidAll.len h.2)
theorem LaidAll.ne {Z : State} {a0 : Array Value} {C : String} {lay : List (String × String)} {vs : List Value} (h : LaidAll Z a0 C lay vs) (nd : (lay.map Prod.fst).Nodup) : ∀ (a b : Nat) (f g : String × String), lay[a]? = some f → lay[b]? = some g → a ≠ b → RoadKit.slotOf Z C f.1 f.2 ≠ RoadKit.slotOf Z C g.1 g.2 := by
  intro a b f g ha hb' hne
  have la := get_lt ha
  have lb := get_lt hb'
  obtain ⟨L1, t1, e1, -⟩ := h.new a f _ ha (List.getElem?_eq_getElem (h.len ▸ la))
  obtain ⟨L2, t2, e2, -⟩ := h.new b g _ hb' (List.getElem?_eq_getElem (h.len ▸ lb))
  refine slot_ne L1 L2 (fun q => hne ?_) e1 e2
  have h1 : (lay.map Prod.fst)[a]? = some f.1 := by rw [List.getElem?_map, ha]; rfl
  have h2 : (lay.map Prod.fst)[b]? = some g.1 := by rw [List.getElem?_map, hb']; rfl
  exact (List.getElem?_inj (by simpa using la) nd).mp (h1.trans (by rw [q]; exact h2.symm))
section Puts
variable {l : Launch} {Z : State} {a0 : Array Value} {C : String} {lay : List (String × String)} {own mn : String} {bytes : ByteArray} {maxL : Nat} {ret : Option FieldType} {R : Room} {n0 ro : Nat} {Q : Option Value → List OwnC → Prop} {k n pc pc' : Nat} {L L' : List Slot} {S S' : List Value} {H H' : List OwnC}
theorem WP.putI {idx i j kk : Nat} {f : String} {vs : List Value} {x : Int32} {old : Value} (hd : decode bytes pc = .ok (.putfield idx, 3)) (hw : (Cond.fieldLink own idx C f "I").before a0 Z = true) (hl : (Cond.lays C C f "I").before a0 Z = true ∨ ((Cond.laysFinal C C f "I").before a0 Z = true ∧ own = C ∧ mn = "<init>")) (wi : (Cond.instantiable C kk).before a0 Z = true)
    (hlay : ∀ (a b : Nat) (f g : String × String), lay[a]? = some f → lay[b]? = some g → a ≠ b → RoadKit.slotOf Z C f.1 f.2 ≠ RoadKit.slotOf Z C g.1 g.2) (hj : lay[j]? = some (f, "I")) (hH : H[i]? = some (.inl vs)) (hv : vs[j]? = some old) (hi : ro ≤ i) (hH' : H.set i (.inl (vs.set j (.int x))) = H') (nx : WP l Z C lay own mn bytes maxL ret R n0 ro Q k n (pc + 3) L S H') : WP l Z C lay own mn bytes maxL ret R n0 ro Q k n pc L (.int x :: .ref i :: S) H :=
  WP.put hd hw hl wi hlay (ty := .int) (by decide) (fun _ => rfl) (fun _ => rfl) hj hH hv hi hH' nx
theorem WP.putJ {idx i j kk : Nat} {f : String} {vs : List Value} {x : Int64} {old : Value} (hd : decode bytes pc = .ok (.putfield idx, 3)) (hw : (Cond.fieldLink own idx C f "J").before a0 Z = true) (hl : (Cond.lays C C f "J").before a0 Z = true ∨ ((Cond.laysFinal C C f "J").before a0 Z = true ∧ own = C ∧ mn = "<init>")) (wi : (Cond.instantiable C kk).before a0 Z = true)
    (hlay : ∀ (a b : Nat) (f g : String × String), lay[a]? = some f → lay[b]? = some g → a ≠ b → RoadKit.slotOf Z C f.1 f.2 ≠ RoadKit.slotOf Z C g.1 g.2) (hj : lay[j]? = some (f, "J")) (hH : H[i]? = some (.inl vs)) (hv : vs[j]? = some old) (hi : ro ≤ i) (hH' : H.set i (.inl (vs.set j (.long x))) = H') (nx : WP l Z C lay own mn bytes maxL ret R n0 ro Q k n (pc + 3) L S H') : WP l Z C lay own mn bytes maxL ret R n0 ro Q k n pc L (.long x :: .ref i :: S) H :=
  WP.put hd hw hl wi hlay (ty := .long) (by decide) (fun _ => rfl) (fun _ => rfl) hj hH hv hi hH' nx
theorem WP.putZ {idx i j kk : Nat} {f : String} {vs : List Value} {x : Int32} {old : Value} (hd : decode bytes pc = .ok (.putfield idx, 3)) (hw : (Cond.fieldLink own idx C f "Z").before a0 Z = true) (hl : (Cond.lays C C f "Z").before a0 Z = true ∨ ((Cond.laysFinal C C f "Z").before a0 Z = true ∧ own = C ∧ mn = "<init>")) (wi : (Cond.instantiable C kk).before a0 Z = true)
    (hlay : ∀ (a b : Nat) (f g : String × String), lay[a]? = some f → lay[b]? = some g → a ≠ b → RoadKit.slotOf Z C f.1 f.2 ≠ RoadKit.slotOf Z C g.1 g.2) (hj : lay[j]? = some (f, "Z")) (hH : H[i]? = some (.inl vs)) (hv : vs[j]? = some old) (hi : ro ≤ i) (hH' : H.set i (.inl (vs.set j (.int (x &&& 1)))) = H') (nx : WP l Z C lay own mn bytes maxL ret R n0 ro Q k n (pc + 3) L S H') : WP l Z C lay own mn bytes maxL ret R n0 ro Q k n pc L (.int x :: .ref i :: S) H :=
  WP.put (v' := .int (x &&& 1)) hd hw hl wi hlay (ty := .boolean) (by decide) (fun _ => rfl) (fun _ => fits_nar_bool x) hj hH hv hi hH' nx
theorem WP.putR {idx i j kk i2 : Nat} {f d : String} {vs : List Value} {old : Value} {ty : FieldType} (hd : decode bytes pc = .ok (.putfield idx, 3)) (hw : (Cond.fieldLink own idx C f d).before a0 Z = true) (hl : (Cond.lays C C f d).before a0 Z = true ∨ ((Cond.laysFinal C C f d).before a0 Z = true ∧ own = C ∧ mn = "<init>")) (wi : (Cond.instantiable C kk).before a0 Z = true)
    (hlay : ∀ (a b : Nat) (f g : String × String), lay[a]? = some f → lay[b]? = some g → a ≠ b → RoadKit.slotOf Z C f.1 f.2 ≠ RoadKit.slotOf Z C g.1 g.2) (hty : parseFieldDescriptor d = some ty) (hn : ∀ a, narrow ty (.ref a) = .ref a) (hf : ∀ a, fits ty (.ref a) = true) (hj : lay[j]? = some (f, d)) (hH : H[i]? = some (.inl vs)) (hv : vs[j]? = some old) (hi : ro ≤ i) (hH' : H.set i (.inl (vs.set j (.ref i2))) = H') (nx : WP l Z C lay own mn bytes maxL ret R n0 ro Q k n (pc + 3) L S H') : WP l Z C lay own mn bytes maxL ret R n0 ro Q k n pc L (.ref i2 :: .ref i :: S) H :=
  WP.put (v' := .ref i2) hd hw hl wi hlay hty (fun ad => hn (ad i2)) (fun ad => hf (ad i2)) hj hH hv hi hH' nx
end Puts
/-! ## the start of a law -/
theorem HR.start0 (s : State) (C : String) (lay : List (String × String)) : HR s C lay s.heap.size 0 (fun t => s.heap.size + t) [] s.heap :=
  ⟨fun i c h => by simp at h, fun i j h => by simp at h, fun t => by simp, fun i h => by simp at h, Nat.le_refl _⟩
theorem script_ints {s : State} {a : Addr} {c : Cell} (hf : Fit s) (A : Arr s s.heap a c .int) : ∃ xs : List Int32, c.slots.toList = xs.map Value.int := by
  have h : ∀ v ∈ c.slots.toList, ∃ x : Int32, v = Value.int x := fun v hv => by
    obtain ⟨i, hi, e⟩ := List.mem_iff_getElem.mp hv
    have hi' : i < c.slots.size := by simpa using hi
    have q := hf A.1 hi'
    obtain ⟨hs, k, hk, comp, hkind⟩ := A.2.1
    have e2 : s.slotType? c.cls c.vm i = some .int := by
      cases hq : c.vm <;> first | exact absurd hq (hs _) | simp [State.slotType?, hk, hkind]
    have e3 : c.slots[i] = v := by rw [← e]; simp
    have q2 : fits .int v = true := by rw [← e3]; simpa [State.fitsSlot, e2] using q
    exact fit_I q2 (by simp)
  generalize c.slots.toList = L at h
  induction L with
  | nil => exact ⟨[], rfl⟩
  | cons v L ih =>
    obtain ⟨x, rfl⟩ := h v (List.mem_cons_self ..)
    obtain ⟨xs, rfl⟩ := ih fun w hw => h w (List.mem_cons_of_mem _ hw)
    exact ⟨x :: xs, rfl⟩
def ad1 (a N : Nat) : Nat → Addr
  | 0 => a
  | t + 1 => N + t
theorem HR.start1 {s : State} (C : String) (lay : List (String × String)) {a : Addr} {c : Cell} {xs : List Int32} (A : Arr s s.heap a c .int) (hx : c.slots.toList = xs.map Value.int) : HR s C lay s.heap.size 1 (ad1 a s.heap.size) [cI xs] s.heap := by
  refine ⟨fun i cc h => ?_, fun i j hi hj _ => ?_, fun t => ?_, fun i hi hr => ?_, Nat.le_refl _⟩
  · have hi := get_lt h
    simp at hi; subst hi
    simp at h; subst h
    exact ⟨c, A, hx⟩
  · simp at hi hj; omega
  · show ad1 a s.heap.size (1 + t) = _; rw [Nat.add_comm 1 t]; rfl
  · simp at hi; omega
theorem script_len {s : State} {a : Addr} {c : Cell} {n : Nat} {args : Array Value} {t : Term} (ev : t.eval args s none [] s = some (.ref a)) (A : Arr s s.heap a c .int) (e1 : c.slots.size = n) (h : (Cond.le (Term.length t) (Term.int (260 : Int32))).value args s none s [] = some true) : n ≤ 260 := by
  have hat := A.fin (Vm.Alike.refl _)
  have hl : (Term.length t).eval args s none [] s = if n < 2 ^ 31 then some (.int n.toInt32) else none := by
    simp only [Term.eval, ev, hat, Option.bind_eq_bind, Option.bind_some, e1]; rfl
  by_cases hn : n < 2 ^ 31
  · rw [if_pos hn] at hl
    have h1 := gotT (Cond.le_ints hl (Term.int_eval (260 : Int32))) h
    have h2 : n.toInt32.toInt = n := by
      show (Int32.ofNat n).toInt = n
      exact Int32.toInt_ofNat_of_lt hn
    have h3 := Int32.le_iff_toInt_le.mp h1
    rw [h2] at h3
    have : (260 : Int32).toInt = 260 := by decide
    omega
  · rw [if_neg hn] at hl
    simp [Cond.value, hl] at h
/-! ## plain laws -/
/-- with fuel enough it answers r -/
def Ev {α : Type} (f : Nat → Option α) (r : α) : Prop := ∃ N, ∀ n, N ≤ n → f n = some r
theorem Ev.const {α : Type} {x : Option α} {r : α} (h : x = some r) : Ev (fun _ => x) r := ⟨0, fun _ _ => h⟩
theorem Ev.get {α : Type} {f : Nat → Option α} {r : α} (h : Ev f r) : ∃ n, f n = some r := by obtain ⟨N, h⟩ := h; exact ⟨N, h N (Nat.le_refl _)⟩
theorem Ev.step {α : Type} {f g : Nat → Option α} {r : α} (e : ∀ n, f (n + 1) = g n) (h : Ev g r) : Ev f r := by
  obtain ⟨N, h⟩ := h
  refine ⟨N + 1, fun n hn => ?_⟩
  cases n with
  | zero => omega
  | succ n => rw [e n]; exact h n (by omega)
theorem Ev.congr {α : Type} {f g : Nat → Option α} {r : α} (e : ∀ n, f n = g n) (h : Ev g r) : Ev f r := by
  obtain ⟨N, h⟩ := h
  exact ⟨N, fun n hn => (e n).trans (h n hn)⟩
theorem Ev.bind {α β : Type} {f : Nat → Option β} {g : Nat → β → Option α} {c : β} {r : α} (h1 : Ev f c) (h2 : Ev (fun n => g n c) r) : Ev (fun n => (f n).bind (g n)) r := by
  obtain ⟨N, h1⟩ := h1
  obtain ⟨M, h2⟩ := h2
  refine ⟨N + M, fun n hn => ?_⟩
  show (f n).bind (g n) = some r
  rw [h1 n (by omega)]; exact h2 n (by omega)
theorem Ev.uniq {α : Type} {f : Nat → Option α} {r r' : α} (h : Ev f r) (h' : Ev f r') : r = r' := by
  obtain ⟨N, h⟩ := h
  obtain ⟨M, h'⟩ := h'
  exact Option.some.inj ((h (N + M) (by omega)).symm.trans (h' (N + M) (by omega)))
/-! Int32 as Int -/
theorem x32_lt {x y : Int32} : x < y ↔ x.toInt < y.toInt := Int32.lt_iff_toInt_lt
theorem x32_eq {x y : Int32} : x = y ↔ x.toInt = y.toInt := Int32.toInt_inj.symm
theorem x32_add {x y : Int32} (h1 : -2147483648 ≤ x.toInt + y.toInt) (h2 : x.toInt + y.toInt < 2147483648) : (x + y).toInt = x.toInt + y.toInt := by
  rw [Int32.toInt_add]; exact Int.bmod_eq_of_le (by omega) (by omega)
theorem x32_sub {x y : Int32} (h1 : -2147483648 ≤ x.toInt - y.toInt) (h2 : x.toInt - y.toInt < 2147483648) : (x - y).toInt = x.toInt - y.toInt := by
  rw [Int32.toInt_sub]; exact Int.bmod_eq_of_le (by omega) (by omega)
theorem x32_mul {x y : Int32} (h1 : -2147483648 ≤ x.toInt * y.toInt) (h2 : x.toInt * y.toInt < 2147483648) : (x * y).toInt = x.toInt * y.toInt := by
  rw [Int32.toInt_mul]; exact Int.bmod_eq_of_le (by omega) (by omega)
theorem clamp_nat (x : Int32) : x.toNatClampNeg = x.toInt.toNat := rfl
/-! reading and writing -/
theorem rd_of {α : Type} {xs : List α} {i : Int32} {k : Nat} {x : α} (hi : i.toInt = k) (h : xs[k]? = some x) : rd xs i = some x := by
  have h0 : ¬ i < 0 := by rw [x32_lt, hi]; show ¬ (k : Int) < 0; omega
  unfold rd
  rw [if_neg h0, clamp_nat, hi]; exact h
theorem wr_of {α : Type} {xs : List α} {i : Int32} {k : Nat} (x : α) (hi : i.toInt = k) (h : k < xs.length) : wr xs i x = some (xs.set k x) := by
  have h0 : ¬ i < 0 := by rw [x32_lt, hi]; show ¬ (k : Int) < 0; omega
  unfold wr
  rw [if_neg h0, clamp_nat, hi]; exact if_pos h
theorem wrA_of {s : St} {f : Nat} {i : Int32} {k : Nat} (x : Int32) (hi : i.toInt = k) (h : k < (gA s f).length) : wrA s f i x = some (sA s f ((gA s f).set k x)) := by
  unfold wrA; rw [wr_of x hi h]; rfl
theorem wrB_of {s : St} {f : Nat} {i : Int32} {k : Nat} (x : Int64) (hi : i.toInt = k) (h : k < (gB s f).length) : wrB s f i x = some (sB s f ((gB s f).set k x)) := by
  unfold wrB; rw [wr_of x hi h]; rfl
theorem nn_of {i : Int32} (h : ¬ i < 0) : ∃ k : Nat, i.toInt = k := ⟨i.toInt.toNat, by
  rw [x32_lt] at h
  have : (0 : Int32).toInt = 0 := by decide
  omega⟩
theorem Ev.all {α : Type} {f : Nat → Option α} {r : α} (h : ∀ n, f n = some r) : Ev f r := ⟨0, fun n _ => h n⟩
theorem ofN_int {k : Nat} (h : k < 2147483648) : (Int32.ofNat k).toInt = k := Int32.toInt_ofNat_of_lt (by omega)
theorem ofN_lt {i m : Nat} (hi : i < 2147483648) (hm : m < 2147483648) : Int32.ofNat i < Int32.ofNat m ↔ i < m := by
  rw [x32_lt, ofN_int hi, ofN_int hm]; omega
theorem ofN_succ (k : Nat) : Int32.ofNat k + 1 = Int32.ofNat (k + 1) := (Int32.ofNat_add k 1).symm
theorem ofN_eq {i m : Nat} (hi : i < 2147483648) (hm : m < 2147483648) : Int32.ofNat i = Int32.ofNat m ↔ i = m := by
  rw [x32_eq, ofN_int hi, ofN_int hm]; omega
theorem ofN_of {x : Int32} {k : Nat} (h : x.toInt = k) : x = Int32.ofNat k := by
  have h2 := Int32.toInt_lt x
  rw [x32_eq, ofN_int (by omega)]; exact h
/-- a loop that counts up to N -/
theorem loop_up {α σ : Type} {F : Nat → Int32 → σ → Option α} {E : Nat → σ → Option α} {N : Nat} (Inv : Nat → σ → Prop)
    (hstep : ∀ (i : Nat) (s : σ), i < N → Inv i s → ∃ s', Inv (i + 1) s' ∧ ∀ n, F (n + 1) (Int32.ofNat i) s = F n (Int32.ofNat (i + 1)) s')
    (hend : ∀ s, Inv N s → ∀ n, F (n + 1) (Int32.ofNat N) s = E n s) : ∀ (k i : Nat) (s : σ), i + k = N → Inv i s → ∃ s', Inv N s' ∧ ∀ r, Ev (fun n => E n s') r → Ev (fun n => F n (Int32.ofNat i) s) r := by
  intro k
  induction k with
  | zero =>
    intro i s hi h
    obtain rfl : i = N := by omega
    exact ⟨s, h, fun r hr => Ev.step (hend s h) hr⟩
  | succ k ih =>
    intro i s hi h
    obtain ⟨s', h1, h2⟩ := hstep i s (by omega) h
    obtain ⟨s2, h3, h4⟩ := ih (i + 1) s' (by omega) h1
    exact ⟨s2, h3, fun r hr => Ev.step h2 (h4 r hr)⟩
theorem set_len {α : Type} (xs : List α) (k : Nat) (x : α) : (xs.set k x).length = xs.length := List.length_set
theorem ofN_ltL {i m : Nat} (hi : i < 2147483648) (hm : m < 2147483648) : Int32.ofNat i < (OfNat.ofNat m : Int32) ↔ i < m := ofN_lt hi hm
theorem ofN_gtL {i m : Nat} (hi : i < 2147483648) (hm : m < 2147483648) : (OfNat.ofNat m : Int32) < Int32.ofNat i ↔ m < i := ofN_lt hm hi
theorem ofN_eqL {i m : Nat} (hi : i < 2147483648) (hm : m < 2147483648) : Int32.ofNat i = (OfNat.ofNat m : Int32) ↔ i = m := ofN_eq hi hm
theorem ofN_nn {i : Nat} (hi : i < 2147483648) : ¬ Int32.ofNat i < 0 := fun h => Nat.not_lt_zero _ ((ofN_ltL hi (by decide)).mp h)
theorem lit_int {m : Nat} (hm : m < 2147483648) : (OfNat.ofNat m : Int32).toInt = m := ofN_int hm
theorem upd_upd {α : Type} (f : Nat → α) (i : Nat) (x y : α) : upd (upd f i x) i y = upd f i y := by
  funext j; unfold upd; by_cases h : j = i <;> simp [h]
theorem upd_self {α : Type} (f : Nat → α) (i : Nat) : upd f i (f i) = f := by
  funext j; unfold upd; by_cases h : j = i <;> simp [h]
theorem sA_sA (s : St) (i : Nat) (x y : List Int32) : sA (sA s i x) i y = sA s i y := by unfold sA; dsimp only; rw [upd_upd]
theorem sB_sB (s : St) (i : Nat) (x y : List Int64) : sB (sB s i x) i y = sB s i y := by unfold sB; dsimp only; rw [upd_upd]
theorem sI_sI (s : St) (i : Nat) (x y : Int32) : sI (sI s i x) i y = sI s i y := by unfold sI; dsimp only; rw [upd_upd]
theorem sA_self {s : St} {i : Nat} {x : List Int32} (h : gA s i = x) : sA s i x = s := by
  subst h; unfold sA gA; rw [upd_self]
theorem sB_self {s : St} {i : Nat} {x : List Int64} (h : gB s i = x) : sB s i x = s := by
  subst h; unfold sB gB; rw [upd_self]
theorem sI_self {s : St} {i : Nat} {x : Int32} (h : gI s i = x) : sI s i x = s := by
  subst h; unfold sI gI; rw [upd_self]
theorem fill_set {α : Type} (a b : α) (n i : Nat) (h : i < n) : (List.replicate i a ++ List.replicate (n - i) b).set i a = List.replicate (i + 1) a ++ List.replicate (n - (i + 1)) b := by
  rw [List.set_append_right _ _ (by simp), List.length_replicate, Nat.sub_self]
  obtain ⟨m, hm⟩ : ∃ m, n - i = m + 1 := ⟨n - i - 1, by omega⟩
  have hm2 : n - (i + 1) = m := by omega
  rw [hm, hm2, List.replicate_succ, List.set_cons_zero, List.replicate_succ', List.append_assoc]; rfl
theorem and_nat (x : Int32) (m : Nat) (hm : m < 2147483648) : ∃ k, k ≤ m ∧ (x &&& Int32.ofNat m) = Int32.ofNat k := by
  refine ⟨(x.toBitVec &&& BitVec.ofNat 32 m).toNat, ?_, ?_⟩
  · rw [BitVec.toNat_and, BitVec.toNat_ofNat, Nat.mod_eq_of_lt (by omega)]
    exact Nat.and_le_right
  · apply Int32.toBitVec_inj.mp
    show x.toBitVec &&& BitVec.ofNat 32 m = BitVec.ofNat 32 _
    rw [BitVec.ofNat_toNat, BitVec.setWidth_eq]
theorem and_natL (x : Int32) (m : Nat) (hm : m < 2147483648) : ∃ k, k ≤ m ∧ (x &&& (OfNat.ofNat m : Int32)) = Int32.ofNat k := and_nat x m hm
theorem nat_lt {i : Int32} {m : Nat} (h : ¬ i < 0) (h2 : i < (OfNat.ofNat m : Int32)) (hm : m < 2147483648) : ∃ k : Nat, k < m ∧ i = Int32.ofNat k := by
  obtain ⟨k, hk⟩ := nn_of h
  rw [x32_lt, lit_int hm, hk] at h2
  exact ⟨k, by omega, ofN_of hk⟩
theorem nat_le {i : Int32} {m : Nat} (h : ¬ i < 0) (h2 : ¬ (OfNat.ofNat m : Int32) < i) (hm : m < 2147483648) : ∃ k : Nat, k ≤ m ∧ i = Int32.ofNat k := by
  obtain ⟨k, hk⟩ := nn_of h
  rw [x32_lt, lit_int hm, hk] at h2
  exact ⟨k, by omega, ofN_of hk⟩
theorem rd_at {α : Type} {xs : List α} {k : Nat} {x : α} (hk : k < 2147483648) (h : xs[k]? = some x) : rd xs (Int32.ofNat k) = some x := rd_of (ofN_int hk) h
theorem wr_at' {α : Type} {xs : List α} {k : Nat} (x : α) (hk : k < 2147483648) (h : k < xs.length) : wr xs (Int32.ofNat k) x = some (xs.set k x) := wr_of x (ofN_int hk) h
theorem rep_get {α : Type} {n k : Nat} (a : α) (h : k < n) : (List.replicate n a)[k]? = some a := by rw [List.getElem?_replicate, if_pos h]
theorem get_set_self {α : Type} {xs : List α} {k : Nat} (x : α) (h : k < xs.length) : (xs.set k x)[k]? = some x := by rw [List.getElem?_set_self h]
theorem get_set_ne {α : Type} {xs : List α} {k j : Nat} (x : α) (h : k ≠ j) : (xs.set k x)[j]? = xs[j]? := List.getElem?_set_ne h
theorem upd_comm {α : Type} (f : Nat → α) {i j : Nat} (h : i ≠ j) (x y : α) : upd (upd f i x) j y = upd (upd f j y) i x := by
  funext m; unfold upd
  by_cases h1 : m = j
  · subst h1; rw [if_pos rfl, if_neg (Ne.symm h), if_pos rfl]
  · rw [if_neg h1]; by_cases h2 : m = i
    · rw [if_pos h2, if_pos h2]
    · rw [if_neg h2, if_neg h2, if_neg h1]
theorem sA_comm {s : St} {i j : Nat} (h : i ≠ j) {x y : List Int32} : sA (sA s i x) j y = sA (sA s j y) i x := by unfold sA; dsimp only; rw [upd_comm _ h]
theorem sB_comm {s : St} {i j : Nat} (h : i ≠ j) {x y : List Int64} : sB (sB s i x) j y = sB (sB s j y) i x := by unfold sB; dsimp only; rw [upd_comm _ h]
theorem sI_comm {s : St} {i j : Nat} (h : i ≠ j) {x y : Int32} : sI (sI s i x) j y = sI (sI s j y) i x := by unfold sI; dsimp only; rw [upd_comm _ h]
theorem sJ_self {s : St} {i : Nat} {x : Int64} (h : gJ s i = x) : sJ s i x = s := by
  subst h; unfold sJ gJ; rw [upd_self]
theorem wrA_nop {s : St} {f N k : Nat} {v : Int32} (h : gA s f = List.replicate N v) (hk : k < N) (hN : N ≤ 2147483647) : wrA s f (Int32.ofNat k) v = some s := by
  rw [wrA_of (k := k) v (ofN_int (by omega)) (by rw [h, List.length_replicate]; exact hk), sA_self (by rw [h, List.set_replicate_self])]
theorem wrB_nop {s : St} {f N k : Nat} {v : Int64} (h : gB s f = List.replicate N v) (hk : k < N) (hN : N ≤ 2147483647) : wrB s f (Int32.ofNat k) v = some s := by
  rw [wrB_of (k := k) v (ofN_int (by omega)) (by rw [h, List.length_replicate]; exact hk), sB_self (by rw [h, List.set_replicate_self])]
/-- a loop that fills -/
theorem wrA_fill {s : St} {f N k : Nat} {u v : Int32} (hk : k < N) (hN : N ≤ 2147483647) : wrA (sA s f (List.replicate k v ++ List.replicate (N - k) u)) f (Int32.ofNat k) v = some (sA s f (List.replicate (k + 1) v ++ List.replicate (N - (k + 1)) u)) := by
  rw [wrA_of (k := k) v (ofN_int (by omega)) (by rw [gA_sA, if_pos rfl]; simp; omega), gA_sA, if_pos rfl, fill_set _ _ _ _ hk, sA_sA]
theorem fill_start {s : St} {f N : Nat} {u v : Int32} (h : gA s f = List.replicate N u) : s = sA s f (List.replicate 0 v ++ List.replicate (N - 0) u) := (sA_self (by rw [h]; rfl)).symm
theorem fill_end {s : St} {f N : Nat} {u v : Int32} : sA s f (List.replicate N v ++ List.replicate (N - N) u) = sA s f (List.replicate N v) := by rw [Nat.sub_self]; simp
theorem x32_neg {x : Int32} (h : -2147483648 < x.toInt) : (-x).toInt = -x.toInt := by
  have := Int32.toInt_lt x
  rw [Int32.toInt_neg]; exact Int.bmod_eq_of_le (by omega) (by omega)
theorem x64_neg {x : Int64} (h : -9223372036854775808 < x.toInt) : (-x).toInt = -x.toInt := by
  have := Int64.toInt_lt x
  rw [Int64.toInt_neg]; exact Int.bmod_eq_of_le (by omega) (by omega)
theorem x64_lt {x y : Int64} : x < y ↔ x.toInt < y.toInt := Int64.lt_iff_toInt_lt
theorem x64_eq {x y : Int64} : x = y ↔ x.toInt = y.toInt := Int64.toInt_inj.symm
theorem x64_add {x y : Int64} (h1 : -9223372036854775808 ≤ x.toInt + y.toInt) (h2 : x.toInt + y.toInt < 9223372036854775808) : (x + y).toInt = x.toInt + y.toInt := by
  rw [Int64.toInt_add]; exact Int.bmod_eq_of_le (by omega) (by omega)
theorem x64_sub {x y : Int64} (h1 : -9223372036854775808 ≤ x.toInt - y.toInt) (h2 : x.toInt - y.toInt < 9223372036854775808) : (x - y).toInt = x.toInt - y.toInt := by
  rw [Int64.toInt_sub]; exact Int.bmod_eq_of_le (by omega) (by omega)
theorem x64_mul {x y : Int64} (h1 : -9223372036854775808 ≤ x.toInt * y.toInt) (h2 : x.toInt * y.toInt < 9223372036854775808) : (x * y).toInt = x.toInt * y.toInt := by
  rw [Int64.toInt_mul]; exact Int.bmod_eq_of_le (by omega) (by omega)
end Jvm.Own
namespace Jvm.Pilot.@@N@@
open Jvm Jvm.ClassFile Sem Op Lib Jvm.Free Jvm.Stand Jvm.LawKit Jvm.RoadKit Bundle Jvm.Pilot.@@N@@.Jvm.D Jvm.Own
abbrev HW (a0 : Array Value) (Z : State) : Prop := ∀ d ∈ tables_1, d.before a0 Z = true
abbrev CN : String := "FatPointerC"
def lay : List (String × String) := [("memCells", "I"), ("maxDepth", "I"), ("nTok", "I"), ("tokK", "[I"), ("tokV", "[I"), ("compiled", "Z"), ("status", "I"), ("trapSite", "I"), ("framesAt", "I"), ("resKind", "I"), ("resVal", "I"), ("resSize", "I"), ("outN", "I"), ("outVals", "[I"), ("fnDef", "[Z"), ("fnTok", "[I"), ("fnParams", "[I"), ("fnObjCount", "[I"), ("fnFrame", "[I"), ("fnBody", "[I"), ("nameIdx", "[I"), ("nameArr", "[Z"), ("fnObjSize", "[I"), ("callArgs", "[I"), ("matchEnd", "[I"), ("braceOwner", "[I"), ("pp", "I"), ("pok", "Z"), ("curFn", "I"), ("openStack", "[I"), ("cellK", "[I"), ("cellV", "[I"), ("cellO", "[I"), ("objBase", "[I"), ("objSize", "[I"), ("objAlive", "[Z"), ("nextObj", "I"), ("frFunc", "[I"), ("frFirst", "[I"), ("frBase", "[I"), ("frRetPc", "[I"), ("frTarget", "[I"), ("depth", "I"), ("liveCells", "I"), ("fuel", "I"), ("running", "Z"), ("regK", "[I"), ("regV", "[I"), ("regO", "[I"), ("argK", "[I"), ("argV", "[I"), ("argO", "[I")]
abbrev vs0 : List Value := [.int 0, .int 0, .int 0, .null, .null, .int 0, .int 0, .int 0, .int 0, .int 0, .int 0, .int 0, .int 0, .null, .null, .null, .null, .null, .null, .null, .null, .null, .null, .null, .null, .null, .int 0, .int 0, .int 0, .null, .null, .null, .null, .null, .null, .null, .int 0, .null, .null, .null, .null, .null, .int 0, .int 0, .int 0, .int 0, .null, .null, .null, .null, .null, .null]
abbrev Hb (b : Nat) (s : St) : List OwnC := [cO [.int (gI s 0), .int (gI s 1), .int (gI s 2), .ref (b + 1), .ref (b + 2), .int (gI s 3), .int (gI s 4), .int (gI s 5), .int (gI s 6), .int (gI s 7), .int (gI s 8), .int (gI s 9), .int (gI s 10), .ref (b + 3), .ref (b + 4), .ref (b + 5), .ref (b + 6), .ref (b + 7), .ref (b + 8), .ref (b + 9), .ref (b + 10), .ref (b + 11), .ref (b + 12), .ref (b + 13), .ref (b + 14), .ref (b + 15), .int (gI s 11), .int (gI s 12), .int (gI s 13), .ref (b + 16), .ref (b + 17), .ref (b + 18), .ref (b + 19), .ref (b + 20), .ref (b + 21), .ref (b + 22), .int (gI s 14), .ref (b + 23), .ref (b + 24), .ref (b + 25), .ref (b + 26), .ref (b + 27), .int (gI s 15), .int (gI s 16), .int (gI s 17), .int (gI s 18), .ref (b + 28), .ref (b + 29), .ref (b + 30), .ref (b + 31), .ref (b + 32), .ref (b + 33)], cI (gA s 0), cI (gA s 1), cI (gA s 2), cZ (gA s 3), cI (gA s 4), cI (gA s 5), cI (gA s 6), cI (gA s 7), cI (gA s 8), cI (gA s 9), cZ (gA s 10), cI (gA s 11), cI (gA s 12), cI (gA s 13), cI (gA s 14), cI (gA s 15), cI (gA s 16), cI (gA s 17), cI (gA s 18), cI (gA s 19), cI (gA s 20), cZ (gA s 21), cI (gA s 22), cI (gA s 23), cI (gA s 24), cI (gA s 25), cI (gA s 26), cI (gA s 27), cI (gA s 28), cI (gA s 29), cI (gA s 30), cI (gA s 31), cI (gA s 32)]
def st0 : St := (fun _ => 0, fun _ => 0, fun i => ([List.replicate 256 0, List.replicate 256 0, List.replicate 16 0, List.replicate 4 0, List.replicate 4 0, List.replicate 4 0, List.replicate 4 0, List.replicate 4 0, List.replicate 4 0, List.replicate 32 0, List.replicate 32 0, List.replicate 32 0, List.replicate 256 0, List.replicate 256 0, List.replicate 256 0, List.replicate 16 0, List.replicate 64 0, List.replicate 64 0, List.replicate 64 0, List.replicate 4096 0, List.replicate 4096 0, List.replicate 4096 0, List.replicate 8 0, List.replicate 8 0, List.replicate 8 0, List.replicate 8 0, List.replicate 8 0, List.replicate 4 0, List.replicate 4 0, List.replicate 4 0, List.replicate 8 0, List.replicate 8 0, List.replicate 8 0] : List (List Int32)).getD i [], fun i => ([] : List (List Int64)).getD i [])
theorem m_0 : (Jvm.Cond.classLink "FatPointerCL3" (7 : Nat) "FatPointerC") ∈ tables_1 := List.mem_of_getElem? (i := 0) rfl
theorem m_1 : (Jvm.Cond.instantiable "FatPointerC" (52 : Nat)) ∈ tables_1 := List.mem_of_getElem? (i := 1) rfl
theorem m_2 : (Jvm.Cond.initialized "FatPointerC") ∈ tables_1 := List.mem_of_getElem? (i := 2) rfl
theorem m_3 : (Jvm.Cond.methodLink "FatPointerCL3" (9 : Nat) ({ cls := "FatPointerC", name := "<init>", desc := "(II)V" } : Jvm.MethodName)) ∈ tables_1 := List.mem_of_getElem? (i := 3) rfl
theorem m_4 : (Jvm.Cond.instanceMethod ({ cls := "FatPointerC", name := "<init>", desc := "(II)V" } : Jvm.MethodName)) ∈ tables_1 := List.mem_of_getElem? (i := 4) rfl
theorem m_5 : (Jvm.Cond.code ({ cls := "FatPointerC", name := "<init>", desc := "(II)V" } : Jvm.MethodName) prog_1_method_1_code (5 : Nat) (Option.none : Option Jvm.ClassFile.FieldType)) ∈ tables_1 := List.mem_of_getElem? (i := 5) rfl
theorem m_6 : (Jvm.Cond.methodLink "FatPointerC" (1 : Nat) ({ cls := "java/lang/Object", name := "<init>", desc := "()V" } : Jvm.MethodName)) ∈ tables_1 := List.mem_of_getElem? (i := 6) rfl
theorem m_7 : (Jvm.Cond.instanceMethod ({ cls := "java/lang/Object", name := "<init>", desc := "()V" } : Jvm.MethodName)) ∈ tables_1 := List.mem_of_getElem? (i := 7) rfl
theorem m_8 : (Jvm.Cond.code ({ cls := "java/lang/Object", name := "<init>", desc := "()V" } : Jvm.MethodName) object_method_1_code (1 : Nat) (Option.none : Option Jvm.ClassFile.FieldType)) ∈ tables_1 := List.mem_of_getElem? (i := 8) rfl
theorem m_9 : (Jvm.Cond.arrayClass Jvm.ClassFile.FieldType.int) ∈ tables_1 := List.mem_of_getElem? (i := 9) rfl
theorem m_10 : (Jvm.Cond.fieldLink "FatPointerC" (7 : Nat) "FatPointerC" "tokK" "[I") ∈ tables_1 := List.mem_of_getElem? (i := 10) rfl
theorem m_11 : (Jvm.Cond.lays "FatPointerC" "FatPointerC" "tokK" "[I") ∈ tables_1 := List.mem_of_getElem? (i := 11) rfl
theorem m_12 : (Jvm.Cond.fieldLink "FatPointerC" (13 : Nat) "FatPointerC" "tokV" "[I") ∈ tables_1 := List.mem_of_getElem? (i := 12) rfl
theorem m_13 : (Jvm.Cond.lays "FatPointerC" "FatPointerC" "tokV" "[I") ∈ tables_1 := List.mem_of_getElem? (i := 13) rfl
theorem m_14 : (Jvm.Cond.fieldLink "FatPointerC" (16 : Nat) "FatPointerC" "outVals" "[I") ∈ tables_1 := List.mem_of_getElem? (i := 14) rfl
theorem m_15 : (Jvm.Cond.lays "FatPointerC" "FatPointerC" "outVals" "[I") ∈ tables_1 := List.mem_of_getElem? (i := 15) rfl
theorem m_16 : (Jvm.Cond.arrayClass Jvm.ClassFile.FieldType.boolean) ∈ tables_1 := List.mem_of_getElem? (i := 16) rfl
theorem m_17 : (Jvm.Cond.fieldLink "FatPointerC" (19 : Nat) "FatPointerC" "fnDef" "[Z") ∈ tables_1 := List.mem_of_getElem? (i := 17) rfl
theorem m_18 : (Jvm.Cond.lays "FatPointerC" "FatPointerC" "fnDef" "[Z") ∈ tables_1 := List.mem_of_getElem? (i := 18) rfl
theorem m_19 : (Jvm.Cond.fieldLink "FatPointerC" (23 : Nat) "FatPointerC" "fnTok" "[I") ∈ tables_1 := List.mem_of_getElem? (i := 19) rfl
theorem m_20 : (Jvm.Cond.lays "FatPointerC" "FatPointerC" "fnTok" "[I") ∈ tables_1 := List.mem_of_getElem? (i := 20) rfl
theorem m_21 : (Jvm.Cond.fieldLink "FatPointerC" (26 : Nat) "FatPointerC" "fnParams" "[I") ∈ tables_1 := List.mem_of_getElem? (i := 21) rfl
theorem m_22 : (Jvm.Cond.lays "FatPointerC" "FatPointerC" "fnParams" "[I") ∈ tables_1 := List.mem_of_getElem? (i := 22) rfl
theorem m_23 : (Jvm.Cond.fieldLink "FatPointerC" (29 : Nat) "FatPointerC" "fnObjCount" "[I") ∈ tables_1 := List.mem_of_getElem? (i := 23) rfl
theorem m_24 : (Jvm.Cond.lays "FatPointerC" "FatPointerC" "fnObjCount" "[I") ∈ tables_1 := List.mem_of_getElem? (i := 24) rfl
theorem m_25 : (Jvm.Cond.fieldLink "FatPointerC" (32 : Nat) "FatPointerC" "fnFrame" "[I") ∈ tables_1 := List.mem_of_getElem? (i := 25) rfl
theorem m_26 : (Jvm.Cond.lays "FatPointerC" "FatPointerC" "fnFrame" "[I") ∈ tables_1 := List.mem_of_getElem? (i := 26) rfl
theorem m_27 : (Jvm.Cond.fieldLink "FatPointerC" (35 : Nat) "FatPointerC" "fnBody" "[I") ∈ tables_1 := List.mem_of_getElem? (i := 27) rfl
theorem m_28 : (Jvm.Cond.lays "FatPointerC" "FatPointerC" "fnBody" "[I") ∈ tables_1 := List.mem_of_getElem? (i := 28) rfl
theorem m_29 : (Jvm.Cond.fieldLink "FatPointerC" (38 : Nat) "FatPointerC" "nameIdx" "[I") ∈ tables_1 := List.mem_of_getElem? (i := 29) rfl
theorem m_30 : (Jvm.Cond.lays "FatPointerC" "FatPointerC" "nameIdx" "[I") ∈ tables_1 := List.mem_of_getElem? (i := 30) rfl
theorem m_31 : (Jvm.Cond.fieldLink "FatPointerC" (41 : Nat) "FatPointerC" "nameArr" "[Z") ∈ tables_1 := List.mem_of_getElem? (i := 31) rfl
theorem m_32 : (Jvm.Cond.lays "FatPointerC" "FatPointerC" "nameArr" "[Z") ∈ tables_1 := List.mem_of_getElem? (i := 32) rfl
theorem m_33 : (Jvm.Cond.fieldLink "FatPointerC" (44 : Nat) "FatPointerC" "fnObjSize" "[I") ∈ tables_1 := List.mem_of_getElem? (i := 33) rfl
theorem m_34 : (Jvm.Cond.lays "FatPointerC" "FatPointerC" "fnObjSize" "[I") ∈ tables_1 := List.mem_of_getElem? (i := 34) rfl
theorem m_35 : (Jvm.Cond.fieldLink "FatPointerC" (47 : Nat) "FatPointerC" "callArgs" "[I") ∈ tables_1 := List.mem_of_getElem? (i := 35) rfl
theorem m_36 : (Jvm.Cond.lays "FatPointerC" "FatPointerC" "callArgs" "[I") ∈ tables_1 := List.mem_of_getElem? (i := 36) rfl
theorem m_37 : (Jvm.Cond.fieldLink "FatPointerC" (50 : Nat) "FatPointerC" "matchEnd" "[I") ∈ tables_1 := List.mem_of_getElem? (i := 37) rfl
theorem m_38 : (Jvm.Cond.lays "FatPointerC" "FatPointerC" "matchEnd" "[I") ∈ tables_1 := List.mem_of_getElem? (i := 38) rfl
theorem m_39 : (Jvm.Cond.fieldLink "FatPointerC" (53 : Nat) "FatPointerC" "braceOwner" "[I") ∈ tables_1 := List.mem_of_getElem? (i := 39) rfl
theorem m_40 : (Jvm.Cond.lays "FatPointerC" "FatPointerC" "braceOwner" "[I") ∈ tables_1 := List.mem_of_getElem? (i := 40) rfl
theorem m_41 : (Jvm.Cond.fieldLink "FatPointerC" (56 : Nat) "FatPointerC" "openStack" "[I") ∈ tables_1 := List.mem_of_getElem? (i := 41) rfl
theorem m_42 : (Jvm.Cond.lays "FatPointerC" "FatPointerC" "openStack" "[I") ∈ tables_1 := List.mem_of_getElem? (i := 42) rfl
theorem m_43 : (Jvm.Cond.fieldLink "FatPointerC" (59 : Nat) "FatPointerC" "cellK" "[I") ∈ tables_1 := List.mem_of_getElem? (i := 43) rfl
theorem m_44 : (Jvm.Cond.lays "FatPointerC" "FatPointerC" "cellK" "[I") ∈ tables_1 := List.mem_of_getElem? (i := 44) rfl
theorem m_45 : (Jvm.Cond.fieldLink "FatPointerC" (62 : Nat) "FatPointerC" "cellV" "[I") ∈ tables_1 := List.mem_of_getElem? (i := 45) rfl
theorem m_46 : (Jvm.Cond.lays "FatPointerC" "FatPointerC" "cellV" "[I") ∈ tables_1 := List.mem_of_getElem? (i := 46) rfl
theorem m_47 : (Jvm.Cond.fieldLink "FatPointerC" (65 : Nat) "FatPointerC" "cellO" "[I") ∈ tables_1 := List.mem_of_getElem? (i := 47) rfl
theorem m_48 : (Jvm.Cond.lays "FatPointerC" "FatPointerC" "cellO" "[I") ∈ tables_1 := List.mem_of_getElem? (i := 48) rfl
theorem m_49 : (Jvm.Cond.fieldLink "FatPointerC" (68 : Nat) "FatPointerC" "objBase" "[I") ∈ tables_1 := List.mem_of_getElem? (i := 49) rfl
theorem m_50 : (Jvm.Cond.lays "FatPointerC" "FatPointerC" "objBase" "[I") ∈ tables_1 := List.mem_of_getElem? (i := 50) rfl
theorem m_51 : (Jvm.Cond.fieldLink "FatPointerC" (71 : Nat) "FatPointerC" "objSize" "[I") ∈ tables_1 := List.mem_of_getElem? (i := 51) rfl
theorem m_52 : (Jvm.Cond.lays "FatPointerC" "FatPointerC" "objSize" "[I") ∈ tables_1 := List.mem_of_getElem? (i := 52) rfl
theorem m_53 : (Jvm.Cond.fieldLink "FatPointerC" (74 : Nat) "FatPointerC" "objAlive" "[Z") ∈ tables_1 := List.mem_of_getElem? (i := 53) rfl
theorem m_54 : (Jvm.Cond.lays "FatPointerC" "FatPointerC" "objAlive" "[Z") ∈ tables_1 := List.mem_of_getElem? (i := 54) rfl
theorem m_55 : (Jvm.Cond.fieldLink "FatPointerC" (77 : Nat) "FatPointerC" "frFunc" "[I") ∈ tables_1 := List.mem_of_getElem? (i := 55) rfl
theorem m_56 : (Jvm.Cond.lays "FatPointerC" "FatPointerC" "frFunc" "[I") ∈ tables_1 := List.mem_of_getElem? (i := 56) rfl
theorem m_57 : (Jvm.Cond.fieldLink "FatPointerC" (80 : Nat) "FatPointerC" "frFirst" "[I") ∈ tables_1 := List.mem_of_getElem? (i := 57) rfl
theorem m_58 : (Jvm.Cond.lays "FatPointerC" "FatPointerC" "frFirst" "[I") ∈ tables_1 := List.mem_of_getElem? (i := 58) rfl
theorem m_59 : (Jvm.Cond.fieldLink "FatPointerC" (83 : Nat) "FatPointerC" "frBase" "[I") ∈ tables_1 := List.mem_of_getElem? (i := 59) rfl
theorem m_60 : (Jvm.Cond.lays "FatPointerC" "FatPointerC" "frBase" "[I") ∈ tables_1 := List.mem_of_getElem? (i := 60) rfl
theorem m_61 : (Jvm.Cond.fieldLink "FatPointerC" (86 : Nat) "FatPointerC" "frRetPc" "[I") ∈ tables_1 := List.mem_of_getElem? (i := 61) rfl
theorem m_62 : (Jvm.Cond.lays "FatPointerC" "FatPointerC" "frRetPc" "[I") ∈ tables_1 := List.mem_of_getElem? (i := 62) rfl
theorem m_63 : (Jvm.Cond.fieldLink "FatPointerC" (89 : Nat) "FatPointerC" "frTarget" "[I") ∈ tables_1 := List.mem_of_getElem? (i := 63) rfl
theorem m_64 : (Jvm.Cond.lays "FatPointerC" "FatPointerC" "frTarget" "[I") ∈ tables_1 := List.mem_of_getElem? (i := 64) rfl
theorem m_65 : (Jvm.Cond.fieldLink "FatPointerC" (92 : Nat) "FatPointerC" "regK" "[I") ∈ tables_1 := List.mem_of_getElem? (i := 65) rfl
theorem m_66 : (Jvm.Cond.lays "FatPointerC" "FatPointerC" "regK" "[I") ∈ tables_1 := List.mem_of_getElem? (i := 66) rfl
theorem m_67 : (Jvm.Cond.fieldLink "FatPointerC" (95 : Nat) "FatPointerC" "regV" "[I") ∈ tables_1 := List.mem_of_getElem? (i := 67) rfl
theorem m_68 : (Jvm.Cond.lays "FatPointerC" "FatPointerC" "regV" "[I") ∈ tables_1 := List.mem_of_getElem? (i := 68) rfl
theorem m_69 : (Jvm.Cond.fieldLink "FatPointerC" (98 : Nat) "FatPointerC" "regO" "[I") ∈ tables_1 := List.mem_of_getElem? (i := 69) rfl
theorem m_70 : (Jvm.Cond.lays "FatPointerC" "FatPointerC" "regO" "[I") ∈ tables_1 := List.mem_of_getElem? (i := 70) rfl
theorem m_71 : (Jvm.Cond.fieldLink "FatPointerC" (101 : Nat) "FatPointerC" "argK" "[I") ∈ tables_1 := List.mem_of_getElem? (i := 71) rfl
theorem m_72 : (Jvm.Cond.lays "FatPointerC" "FatPointerC" "argK" "[I") ∈ tables_1 := List.mem_of_getElem? (i := 72) rfl
theorem m_73 : (Jvm.Cond.fieldLink "FatPointerC" (104 : Nat) "FatPointerC" "argV" "[I") ∈ tables_1 := List.mem_of_getElem? (i := 73) rfl
theorem m_74 : (Jvm.Cond.lays "FatPointerC" "FatPointerC" "argV" "[I") ∈ tables_1 := List.mem_of_getElem? (i := 74) rfl
theorem m_75 : (Jvm.Cond.fieldLink "FatPointerC" (107 : Nat) "FatPointerC" "argO" "[I") ∈ tables_1 := List.mem_of_getElem? (i := 75) rfl
theorem m_76 : (Jvm.Cond.lays "FatPointerC" "FatPointerC" "argO" "[I") ∈ tables_1 := List.mem_of_getElem? (i := 76) rfl
theorem m_77 : (Jvm.Cond.fieldLink "FatPointerC" (110 : Nat) "FatPointerC" "memCells" "I") ∈ tables_1 := List.mem_of_getElem? (i := 77) rfl
theorem m_78 : (Jvm.Cond.lays "FatPointerC" "FatPointerC" "memCells" "I") ∈ tables_1 := List.mem_of_getElem? (i := 78) rfl
theorem m_79 : (Jvm.Cond.fieldLink "FatPointerC" (114 : Nat) "FatPointerC" "maxDepth" "I") ∈ tables_1 := List.mem_of_getElem? (i := 79) rfl
theorem m_80 : (Jvm.Cond.lays "FatPointerC" "FatPointerC" "maxDepth" "I") ∈ tables_1 := List.mem_of_getElem? (i := 80) rfl
theorem m_81 : (Jvm.Cond.methodLink "FatPointerC" (117 : Nat) ({ cls := "FatPointerC", name := "clearResults", desc := "()V" } : Jvm.MethodName)) ∈ tables_1 := List.mem_of_getElem? (i := 81) rfl
theorem m_82 : (Jvm.Cond.instanceMethod ({ cls := "FatPointerC", name := "clearResults", desc := "()V" } : Jvm.MethodName)) ∈ tables_1 := List.mem_of_getElem? (i := 82) rfl
theorem m_83 : (Jvm.Cond.privateMethod ({ cls := "FatPointerC", name := "clearResults", desc := "()V" } : Jvm.MethodName)) ∈ tables_1 := List.mem_of_getElem? (i := 83) rfl
theorem m_84 : (Jvm.Cond.code ({ cls := "FatPointerC", name := "clearResults", desc := "()V" } : Jvm.MethodName) prog_1_method_15_code (1 : Nat) (Option.none : Option Jvm.ClassFile.FieldType)) ∈ tables_1 := List.mem_of_getElem? (i := 84) rfl
theorem m_85 : (Jvm.Cond.fieldLink "FatPointerC" (150 : Nat) "FatPointerC" "status" "I") ∈ tables_1 := List.mem_of_getElem? (i := 85) rfl
theorem m_86 : (Jvm.Cond.lays "FatPointerC" "FatPointerC" "status" "I") ∈ tables_1 := List.mem_of_getElem? (i := 86) rfl
theorem m_87 : (Jvm.Cond.fieldLink "FatPointerC" (162 : Nat) "FatPointerC" "trapSite" "I") ∈ tables_1 := List.mem_of_getElem? (i := 87) rfl
theorem m_88 : (Jvm.Cond.lays "FatPointerC" "FatPointerC" "trapSite" "I") ∈ tables_1 := List.mem_of_getElem? (i := 88) rfl
theorem m_89 : (Jvm.Cond.fieldLink "FatPointerC" (165 : Nat) "FatPointerC" "framesAt" "I") ∈ tables_1 := List.mem_of_getElem? (i := 89) rfl
theorem m_90 : (Jvm.Cond.lays "FatPointerC" "FatPointerC" "framesAt" "I") ∈ tables_1 := List.mem_of_getElem? (i := 90) rfl
theorem m_91 : (Jvm.Cond.fieldLink "FatPointerC" (168 : Nat) "FatPointerC" "resKind" "I") ∈ tables_1 := List.mem_of_getElem? (i := 91) rfl
theorem m_92 : (Jvm.Cond.lays "FatPointerC" "FatPointerC" "resKind" "I") ∈ tables_1 := List.mem_of_getElem? (i := 92) rfl
theorem m_93 : (Jvm.Cond.fieldLink "FatPointerC" (171 : Nat) "FatPointerC" "resVal" "I") ∈ tables_1 := List.mem_of_getElem? (i := 93) rfl
theorem m_94 : (Jvm.Cond.lays "FatPointerC" "FatPointerC" "resVal" "I") ∈ tables_1 := List.mem_of_getElem? (i := 94) rfl
theorem m_95 : (Jvm.Cond.fieldLink "FatPointerC" (174 : Nat) "FatPointerC" "resSize" "I") ∈ tables_1 := List.mem_of_getElem? (i := 95) rfl
theorem m_96 : (Jvm.Cond.lays "FatPointerC" "FatPointerC" "resSize" "I") ∈ tables_1 := List.mem_of_getElem? (i := 96) rfl
theorem m_97 : (Jvm.Cond.fieldLink "FatPointerC" (177 : Nat) "FatPointerC" "outN" "I") ∈ tables_1 := List.mem_of_getElem? (i := 97) rfl
theorem m_98 : (Jvm.Cond.lays "FatPointerC" "FatPointerC" "outN" "I") ∈ tables_1 := List.mem_of_getElem? (i := 98) rfl
theorem m_99 : (Jvm.Cond.methodLink "FatPointerCL3" (12 : Nat) ({ cls := "FatPointerC", name := "tok", desc := "(II)Z" } : Jvm.MethodName)) ∈ tables_1 := List.mem_of_getElem? (i := 99) rfl
theorem m_100 : (Jvm.Cond.declares ({ cls := "FatPointerC", name := "tok", desc := "(II)Z" } : Jvm.MethodName)) ∈ tables_1 := List.mem_of_getElem? (i := 100) rfl
theorem m_101 : (Jvm.Cond.instanceMethod ({ cls := "FatPointerC", name := "tok", desc := "(II)Z" } : Jvm.MethodName)) ∈ tables_1 := List.mem_of_getElem? (i := 101) rfl
theorem m_102 : (Jvm.Cond.selects "FatPointerC" ({ cls := "FatPointerC", name := "tok", desc := "(II)Z" } : Jvm.MethodName) ({ cls := "FatPointerC", name := "tok", desc := "(II)Z" } : Jvm.MethodName)) ∈ tables_1 := List.mem_of_getElem? (i := 102) rfl
theorem m_103 : (Jvm.Cond.code ({ cls := "FatPointerC", name := "tok", desc := "(II)Z" } : Jvm.MethodName) prog_1_method_3_code (4 : Nat) (Option.some Jvm.ClassFile.FieldType.boolean)) ∈ tables_1 := List.mem_of_getElem? (i := 103) rfl
theorem m_104 : (Jvm.Cond.fieldLink "FatPointerC" (120 : Nat) "FatPointerC" "nTok" "I") ∈ tables_1 := List.mem_of_getElem? (i := 104) rfl
theorem m_105 : (Jvm.Cond.lays "FatPointerC" "FatPointerC" "nTok" "I") ∈ tables_1 := List.mem_of_getElem? (i := 105) rfl
theorem m_106 : (Jvm.Cond.fieldLink "FatPointerC" (123 : Nat) "FatPointerC" "compiled" "Z") ∈ tables_1 := List.mem_of_getElem? (i := 106) rfl
theorem m_107 : (Jvm.Cond.lays "FatPointerC" "FatPointerC" "compiled" "Z") ∈ tables_1 := List.mem_of_getElem? (i := 107) rfl
theorem m_108 : (Jvm.Cond.methodLink "FatPointerCL3" (16 : Nat) ({ cls := "FatPointerC", name := "compile", desc := "()Z" } : Jvm.MethodName)) ∈ tables_1 := List.mem_of_getElem? (i := 108) rfl
theorem m_109 : (Jvm.Cond.declares ({ cls := "FatPointerC", name := "compile", desc := "()Z" } : Jvm.MethodName)) ∈ tables_1 := List.mem_of_getElem? (i := 109) rfl
theorem m_110 : (Jvm.Cond.instanceMethod ({ cls := "FatPointerC", name := "compile", desc := "()Z" } : Jvm.MethodName)) ∈ tables_1 := List.mem_of_getElem? (i := 110) rfl
theorem m_111 : (Jvm.Cond.selects "FatPointerC" ({ cls := "FatPointerC", name := "compile", desc := "()Z" } : Jvm.MethodName) ({ cls := "FatPointerC", name := "compile", desc := "()Z" } : Jvm.MethodName)) ∈ tables_1 := List.mem_of_getElem? (i := 111) rfl
theorem m_112 : (Jvm.Cond.code ({ cls := "FatPointerC", name := "compile", desc := "()Z" } : Jvm.MethodName) prog_1_method_5_code (1 : Nat) (Option.some Jvm.ClassFile.FieldType.boolean)) ∈ tables_1 := List.mem_of_getElem? (i := 112) rfl
theorem m_113 : (Jvm.Cond.methodLink "FatPointerC" (127 : Nat) ({ cls := "FatPointerC", name := "parseProgram", desc := "()Z" } : Jvm.MethodName)) ∈ tables_1 := List.mem_of_getElem? (i := 113) rfl
theorem m_114 : (Jvm.Cond.instanceMethod ({ cls := "FatPointerC", name := "parseProgram", desc := "()Z" } : Jvm.MethodName)) ∈ tables_1 := List.mem_of_getElem? (i := 114) rfl
theorem m_115 : (Jvm.Cond.privateMethod ({ cls := "FatPointerC", name := "parseProgram", desc := "()Z" } : Jvm.MethodName)) ∈ tables_1 := List.mem_of_getElem? (i := 115) rfl
theorem m_116 : (Jvm.Cond.code ({ cls := "FatPointerC", name := "parseProgram", desc := "()Z" } : Jvm.MethodName) prog_1_method_18_code (2 : Nat) (Option.some Jvm.ClassFile.FieldType.boolean)) ∈ tables_1 := List.mem_of_getElem? (i := 116) rfl
theorem m_117 : (Jvm.Cond.fieldLink "FatPointerC" (180 : Nat) "FatPointerC" "pok" "Z") ∈ tables_1 := List.mem_of_getElem? (i := 117) rfl
theorem m_118 : (Jvm.Cond.lays "FatPointerC" "FatPointerC" "pok" "Z") ∈ tables_1 := List.mem_of_getElem? (i := 118) rfl
theorem m_119 : (Jvm.Cond.fieldLink "FatPointerC" (183 : Nat) "FatPointerC" "pp" "I") ∈ tables_1 := List.mem_of_getElem? (i := 119) rfl
theorem m_120 : (Jvm.Cond.lays "FatPointerC" "FatPointerC" "pp" "I") ∈ tables_1 := List.mem_of_getElem? (i := 120) rfl
theorem m_121 : (Jvm.Cond.methodLink "FatPointerC" (186 : Nat) ({ cls := "FatPointerC", name := "parseFunc", desc := "()V" } : Jvm.MethodName)) ∈ tables_1 := List.mem_of_getElem? (i := 121) rfl
theorem m_122 : (Jvm.Cond.instanceMethod ({ cls := "FatPointerC", name := "parseFunc", desc := "()V" } : Jvm.MethodName)) ∈ tables_1 := List.mem_of_getElem? (i := 122) rfl
theorem m_123 : (Jvm.Cond.privateMethod ({ cls := "FatPointerC", name := "parseFunc", desc := "()V" } : Jvm.MethodName)) ∈ tables_1 := List.mem_of_getElem? (i := 123) rfl
theorem m_124 : (Jvm.Cond.code ({ cls := "FatPointerC", name := "parseFunc", desc := "()V" } : Jvm.MethodName) prog_1_method_21_code (3 : Nat) (Option.none : Option Jvm.ClassFile.FieldType)) ∈ tables_1 := List.mem_of_getElem? (i := 124) rfl
theorem m_125 : (Jvm.Cond.methodLink "FatPointerC" (195 : Nat) ({ cls := "FatPointerC", name := "expect", desc := "(I)V" } : Jvm.MethodName)) ∈ tables_1 := List.mem_of_getElem? (i := 125) rfl
theorem m_126 : (Jvm.Cond.instanceMethod ({ cls := "FatPointerC", name := "expect", desc := "(I)V" } : Jvm.MethodName)) ∈ tables_1 := List.mem_of_getElem? (i := 126) rfl
theorem m_127 : (Jvm.Cond.privateMethod ({ cls := "FatPointerC", name := "expect", desc := "(I)V" } : Jvm.MethodName)) ∈ tables_1 := List.mem_of_getElem? (i := 127) rfl
theorem m_128 : (Jvm.Cond.code ({ cls := "FatPointerC", name := "expect", desc := "(I)V" } : Jvm.MethodName) prog_1_method_20_code (2 : Nat) (Option.none : Option Jvm.ClassFile.FieldType)) ∈ tables_1 := List.mem_of_getElem? (i := 128) rfl
theorem m_129 : (Jvm.Cond.methodLink "FatPointerC" (192 : Nat) ({ cls := "FatPointerC", name := "kindAt", desc := "(I)I" } : Jvm.MethodName)) ∈ tables_1 := List.mem_of_getElem? (i := 129) rfl
theorem m_130 : (Jvm.Cond.instanceMethod ({ cls := "FatPointerC", name := "kindAt", desc := "(I)I" } : Jvm.MethodName)) ∈ tables_1 := List.mem_of_getElem? (i := 130) rfl
theorem m_131 : (Jvm.Cond.privateMethod ({ cls := "FatPointerC", name := "kindAt", desc := "(I)I" } : Jvm.MethodName)) ∈ tables_1 := List.mem_of_getElem? (i := 131) rfl
theorem m_132 : (Jvm.Cond.code ({ cls := "FatPointerC", name := "kindAt", desc := "(I)I" } : Jvm.MethodName) prog_1_method_16_code (2 : Nat) (Option.some Jvm.ClassFile.FieldType.int)) ∈ tables_1 := List.mem_of_getElem? (i := 132) rfl
theorem m_133 : (Jvm.Cond.methodLink "FatPointerC" (199 : Nat) ({ cls := "FatPointerC", name := "valAt", desc := "(I)I" } : Jvm.MethodName)) ∈ tables_1 := List.mem_of_getElem? (i := 133) rfl
theorem m_134 : (Jvm.Cond.instanceMethod ({ cls := "FatPointerC", name := "valAt", desc := "(I)I" } : Jvm.MethodName)) ∈ tables_1 := List.mem_of_getElem? (i := 134) rfl
theorem m_135 : (Jvm.Cond.privateMethod ({ cls := "FatPointerC", name := "valAt", desc := "(I)I" } : Jvm.MethodName)) ∈ tables_1 := List.mem_of_getElem? (i := 135) rfl
theorem m_136 : (Jvm.Cond.code ({ cls := "FatPointerC", name := "valAt", desc := "(I)I" } : Jvm.MethodName) prog_1_method_17_code (2 : Nat) (Option.some Jvm.ClassFile.FieldType.int)) ∈ tables_1 := List.mem_of_getElem? (i := 136) rfl
theorem m_137 : (Jvm.Cond.fieldLink "FatPointerC" (202 : Nat) "FatPointerC" "curFn" "I") ∈ tables_1 := List.mem_of_getElem? (i := 137) rfl
theorem m_138 : (Jvm.Cond.lays "FatPointerC" "FatPointerC" "curFn" "I") ∈ tables_1 := List.mem_of_getElem? (i := 138) rfl
theorem m_139 : (Jvm.Cond.methodLink "FatPointerC" (205 : Nat) ({ cls := "FatPointerC", name := "parseParams", desc := "()V" } : Jvm.MethodName)) ∈ tables_1 := List.mem_of_getElem? (i := 139) rfl
theorem m_140 : (Jvm.Cond.instanceMethod ({ cls := "FatPointerC", name := "parseParams", desc := "()V" } : Jvm.MethodName)) ∈ tables_1 := List.mem_of_getElem? (i := 140) rfl
theorem m_141 : (Jvm.Cond.privateMethod ({ cls := "FatPointerC", name := "parseParams", desc := "()V" } : Jvm.MethodName)) ∈ tables_1 := List.mem_of_getElem? (i := 141) rfl
theorem m_142 : (Jvm.Cond.code ({ cls := "FatPointerC", name := "parseParams", desc := "()V" } : Jvm.MethodName) prog_1_method_22_code (2 : Nat) (Option.none : Option Jvm.ClassFile.FieldType)) ∈ tables_1 := List.mem_of_getElem? (i := 142) rfl
theorem m_143 : (Jvm.Cond.methodLink "FatPointerC" (208 : Nat) ({ cls := "FatPointerC", name := "parseDecls", desc := "()V" } : Jvm.MethodName)) ∈ tables_1 := List.mem_of_getElem? (i := 143) rfl
theorem m_144 : (Jvm.Cond.instanceMethod ({ cls := "FatPointerC", name := "parseDecls", desc := "()V" } : Jvm.MethodName)) ∈ tables_1 := List.mem_of_getElem? (i := 144) rfl
theorem m_145 : (Jvm.Cond.privateMethod ({ cls := "FatPointerC", name := "parseDecls", desc := "()V" } : Jvm.MethodName)) ∈ tables_1 := List.mem_of_getElem? (i := 145) rfl
theorem m_146 : (Jvm.Cond.code ({ cls := "FatPointerC", name := "parseDecls", desc := "()V" } : Jvm.MethodName) prog_1_method_23_code (5 : Nat) (Option.none : Option Jvm.ClassFile.FieldType)) ∈ tables_1 := List.mem_of_getElem? (i := 146) rfl
theorem m_147 : (Jvm.Cond.methodLink "FatPointerC" (218 : Nat) ({ cls := "FatPointerC", name := "declName", desc := "()I" } : Jvm.MethodName)) ∈ tables_1 := List.mem_of_getElem? (i := 147) rfl
theorem m_148 : (Jvm.Cond.instanceMethod ({ cls := "FatPointerC", name := "declName", desc := "()I" } : Jvm.MethodName)) ∈ tables_1 := List.mem_of_getElem? (i := 148) rfl
theorem m_149 : (Jvm.Cond.privateMethod ({ cls := "FatPointerC", name := "declName", desc := "()I" } : Jvm.MethodName)) ∈ tables_1 := List.mem_of_getElem? (i := 149) rfl
theorem m_150 : (Jvm.Cond.code ({ cls := "FatPointerC", name := "declName", desc := "()I" } : Jvm.MethodName) prog_1_method_24_code (2 : Nat) (Option.some Jvm.ClassFile.FieldType.int)) ∈ tables_1 := List.mem_of_getElem? (i := 150) rfl
theorem m_151 : (Jvm.Cond.methodLink "FatPointerC" (222 : Nat) ({ cls := "FatPointerC", name := "arrSize", desc := "()I" } : Jvm.MethodName)) ∈ tables_1 := List.mem_of_getElem? (i := 151) rfl
theorem m_152 : (Jvm.Cond.instanceMethod ({ cls := "FatPointerC", name := "arrSize", desc := "()I" } : Jvm.MethodName)) ∈ tables_1 := List.mem_of_getElem? (i := 152) rfl
theorem m_153 : (Jvm.Cond.privateMethod ({ cls := "FatPointerC", name := "arrSize", desc := "()I" } : Jvm.MethodName)) ∈ tables_1 := List.mem_of_getElem? (i := 153) rfl
theorem m_154 : (Jvm.Cond.code ({ cls := "FatPointerC", name := "arrSize", desc := "()I" } : Jvm.MethodName) prog_1_method_25_code (2 : Nat) (Option.some Jvm.ClassFile.FieldType.int)) ∈ tables_1 := List.mem_of_getElem? (i := 154) rfl
theorem m_155 : (Jvm.Cond.methodLink "FatPointerC" (214 : Nat) ({ cls := "FatPointerC", name := "addName", desc := "(IIZ)V" } : Jvm.MethodName)) ∈ tables_1 := List.mem_of_getElem? (i := 155) rfl
theorem m_156 : (Jvm.Cond.instanceMethod ({ cls := "FatPointerC", name := "addName", desc := "(IIZ)V" } : Jvm.MethodName)) ∈ tables_1 := List.mem_of_getElem? (i := 156) rfl
theorem m_157 : (Jvm.Cond.privateMethod ({ cls := "FatPointerC", name := "addName", desc := "(IIZ)V" } : Jvm.MethodName)) ∈ tables_1 := List.mem_of_getElem? (i := 157) rfl
theorem m_158 : (Jvm.Cond.code ({ cls := "FatPointerC", name := "addName", desc := "(IIZ)V" } : Jvm.MethodName) prog_1_method_26_code (6 : Nat) (Option.none : Option Jvm.ClassFile.FieldType)) ∈ tables_1 := List.mem_of_getElem? (i := 158) rfl
theorem m_159 : (Jvm.Cond.methodLink "FatPointerC" (211 : Nat) ({ cls := "FatPointerC", name := "parseBody", desc := "()V" } : Jvm.MethodName)) ∈ tables_1 := List.mem_of_getElem? (i := 159) rfl
theorem m_160 : (Jvm.Cond.instanceMethod ({ cls := "FatPointerC", name := "parseBody", desc := "()V" } : Jvm.MethodName)) ∈ tables_1 := List.mem_of_getElem? (i := 160) rfl
theorem m_161 : (Jvm.Cond.privateMethod ({ cls := "FatPointerC", name := "parseBody", desc := "()V" } : Jvm.MethodName)) ∈ tables_1 := List.mem_of_getElem? (i := 161) rfl
theorem m_162 : (Jvm.Cond.code ({ cls := "FatPointerC", name := "parseBody", desc := "()V" } : Jvm.MethodName) prog_1_method_27_code (5 : Nat) (Option.none : Option Jvm.ClassFile.FieldType)) ∈ tables_1 := List.mem_of_getElem? (i := 162) rfl
theorem m_163 : (Jvm.Cond.methodLink "FatPointerC" (225 : Nat) ({ cls := "FatPointerC", name := "parseStmt", desc := "()V" } : Jvm.MethodName)) ∈ tables_1 := List.mem_of_getElem? (i := 163) rfl
theorem m_164 : (Jvm.Cond.instanceMethod ({ cls := "FatPointerC", name := "parseStmt", desc := "()V" } : Jvm.MethodName)) ∈ tables_1 := List.mem_of_getElem? (i := 164) rfl
theorem m_165 : (Jvm.Cond.privateMethod ({ cls := "FatPointerC", name := "parseStmt", desc := "()V" } : Jvm.MethodName)) ∈ tables_1 := List.mem_of_getElem? (i := 165) rfl
theorem m_166 : (Jvm.Cond.code ({ cls := "FatPointerC", name := "parseStmt", desc := "()V" } : Jvm.MethodName) prog_1_method_28_code (2 : Nat) (Option.none : Option Jvm.ClassFile.FieldType)) ∈ tables_1 := List.mem_of_getElem? (i := 166) rfl
theorem m_167 : (Jvm.Cond.methodLink "FatPointerC" (231 : Nat) ({ cls := "FatPointerC", name := "parseVarStmt", desc := "()V" } : Jvm.MethodName)) ∈ tables_1 := List.mem_of_getElem? (i := 167) rfl
theorem m_168 : (Jvm.Cond.instanceMethod ({ cls := "FatPointerC", name := "parseVarStmt", desc := "()V" } : Jvm.MethodName)) ∈ tables_1 := List.mem_of_getElem? (i := 168) rfl
theorem m_169 : (Jvm.Cond.privateMethod ({ cls := "FatPointerC", name := "parseVarStmt", desc := "()V" } : Jvm.MethodName)) ∈ tables_1 := List.mem_of_getElem? (i := 169) rfl
theorem m_170 : (Jvm.Cond.code ({ cls := "FatPointerC", name := "parseVarStmt", desc := "()V" } : Jvm.MethodName) prog_1_method_29_code (2 : Nat) (Option.none : Option Jvm.ClassFile.FieldType)) ∈ tables_1 := List.mem_of_getElem? (i := 170) rfl
theorem m_171 : (Jvm.Cond.methodLink "FatPointerC" (234 : Nat) ({ cls := "FatPointerC", name := "useVar", desc := "()I" } : Jvm.MethodName)) ∈ tables_1 := List.mem_of_getElem? (i := 171) rfl
theorem m_172 : (Jvm.Cond.instanceMethod ({ cls := "FatPointerC", name := "useVar", desc := "()I" } : Jvm.MethodName)) ∈ tables_1 := List.mem_of_getElem? (i := 172) rfl
theorem m_173 : (Jvm.Cond.privateMethod ({ cls := "FatPointerC", name := "useVar", desc := "()I" } : Jvm.MethodName)) ∈ tables_1 := List.mem_of_getElem? (i := 173) rfl
theorem m_174 : (Jvm.Cond.code ({ cls := "FatPointerC", name := "useVar", desc := "()I" } : Jvm.MethodName) prog_1_method_30_code (2 : Nat) (Option.some Jvm.ClassFile.FieldType.int)) ∈ tables_1 := List.mem_of_getElem? (i := 174) rfl
theorem m_175 : (Jvm.Cond.methodLink "FatPointerC" (240 : Nat) ({ cls := "FatPointerC", name := "parseAtom", desc := "()V" } : Jvm.MethodName)) ∈ tables_1 := List.mem_of_getElem? (i := 175) rfl
theorem m_176 : (Jvm.Cond.instanceMethod ({ cls := "FatPointerC", name := "parseAtom", desc := "()V" } : Jvm.MethodName)) ∈ tables_1 := List.mem_of_getElem? (i := 176) rfl
theorem m_177 : (Jvm.Cond.privateMethod ({ cls := "FatPointerC", name := "parseAtom", desc := "()V" } : Jvm.MethodName)) ∈ tables_1 := List.mem_of_getElem? (i := 177) rfl
theorem m_178 : (Jvm.Cond.code ({ cls := "FatPointerC", name := "parseAtom", desc := "()V" } : Jvm.MethodName) prog_1_method_36_code (1 : Nat) (Option.none : Option Jvm.ClassFile.FieldType)) ∈ tables_1 := List.mem_of_getElem? (i := 178) rfl
theorem m_179 : (Jvm.Cond.methodLink "FatPointerC" (228 : Nat) ({ cls := "FatPointerC", name := "parseExpr", desc := "()V" } : Jvm.MethodName)) ∈ tables_1 := List.mem_of_getElem? (i := 179) rfl
theorem m_180 : (Jvm.Cond.instanceMethod ({ cls := "FatPointerC", name := "parseExpr", desc := "()V" } : Jvm.MethodName)) ∈ tables_1 := List.mem_of_getElem? (i := 180) rfl
theorem m_181 : (Jvm.Cond.privateMethod ({ cls := "FatPointerC", name := "parseExpr", desc := "()V" } : Jvm.MethodName)) ∈ tables_1 := List.mem_of_getElem? (i := 181) rfl
theorem m_182 : (Jvm.Cond.code ({ cls := "FatPointerC", name := "parseExpr", desc := "()V" } : Jvm.MethodName) prog_1_method_32_code (2 : Nat) (Option.none : Option Jvm.ClassFile.FieldType)) ∈ tables_1 := List.mem_of_getElem? (i := 182) rfl
theorem m_183 : (Jvm.Cond.methodLink "FatPointerC" (243 : Nat) ({ cls := "FatPointerC", name := "parseSum", desc := "()V" } : Jvm.MethodName)) ∈ tables_1 := List.mem_of_getElem? (i := 183) rfl
theorem m_184 : (Jvm.Cond.instanceMethod ({ cls := "FatPointerC", name := "parseSum", desc := "()V" } : Jvm.MethodName)) ∈ tables_1 := List.mem_of_getElem? (i := 184) rfl
theorem m_185 : (Jvm.Cond.privateMethod ({ cls := "FatPointerC", name := "parseSum", desc := "()V" } : Jvm.MethodName)) ∈ tables_1 := List.mem_of_getElem? (i := 185) rfl
theorem m_186 : (Jvm.Cond.code ({ cls := "FatPointerC", name := "parseSum", desc := "()V" } : Jvm.MethodName) prog_1_method_33_code (3 : Nat) (Option.none : Option Jvm.ClassFile.FieldType)) ∈ tables_1 := List.mem_of_getElem? (i := 186) rfl
theorem m_187 : (Jvm.Cond.methodLink "FatPointerC" (246 : Nat) ({ cls := "FatPointerC", name := "parseTerm", desc := "()V" } : Jvm.MethodName)) ∈ tables_1 := List.mem_of_getElem? (i := 187) rfl
theorem m_188 : (Jvm.Cond.instanceMethod ({ cls := "FatPointerC", name := "parseTerm", desc := "()V" } : Jvm.MethodName)) ∈ tables_1 := List.mem_of_getElem? (i := 188) rfl
theorem m_189 : (Jvm.Cond.privateMethod ({ cls := "FatPointerC", name := "parseTerm", desc := "()V" } : Jvm.MethodName)) ∈ tables_1 := List.mem_of_getElem? (i := 189) rfl
theorem m_190 : (Jvm.Cond.code ({ cls := "FatPointerC", name := "parseTerm", desc := "()V" } : Jvm.MethodName) prog_1_method_34_code (2 : Nat) (Option.none : Option Jvm.ClassFile.FieldType)) ∈ tables_1 := List.mem_of_getElem? (i := 190) rfl
theorem m_191 : (Jvm.Cond.methodLink "FatPointerC" (249 : Nat) ({ cls := "FatPointerC", name := "parseOperand", desc := "()V" } : Jvm.MethodName)) ∈ tables_1 := List.mem_of_getElem? (i := 191) rfl
theorem m_192 : (Jvm.Cond.instanceMethod ({ cls := "FatPointerC", name := "parseOperand", desc := "()V" } : Jvm.MethodName)) ∈ tables_1 := List.mem_of_getElem? (i := 192) rfl
theorem m_193 : (Jvm.Cond.privateMethod ({ cls := "FatPointerC", name := "parseOperand", desc := "()V" } : Jvm.MethodName)) ∈ tables_1 := List.mem_of_getElem? (i := 193) rfl
theorem m_194 : (Jvm.Cond.code ({ cls := "FatPointerC", name := "parseOperand", desc := "()V" } : Jvm.MethodName) prog_1_method_35_code (2 : Nat) (Option.none : Option Jvm.ClassFile.FieldType)) ∈ tables_1 := List.mem_of_getElem? (i := 194) rfl
theorem m_195 : (Jvm.Cond.methodLink "FatPointerC" (189 : Nat) ({ cls := "FatPointerC", name := "checkCalls", desc := "()Z" } : Jvm.MethodName)) ∈ tables_1 := List.mem_of_getElem? (i := 195) rfl
theorem m_196 : (Jvm.Cond.instanceMethod ({ cls := "FatPointerC", name := "checkCalls", desc := "()Z" } : Jvm.MethodName)) ∈ tables_1 := List.mem_of_getElem? (i := 196) rfl
theorem m_197 : (Jvm.Cond.privateMethod ({ cls := "FatPointerC", name := "checkCalls", desc := "()Z" } : Jvm.MethodName)) ∈ tables_1 := List.mem_of_getElem? (i := 197) rfl
theorem m_198 : (Jvm.Cond.code ({ cls := "FatPointerC", name := "checkCalls", desc := "()Z" } : Jvm.MethodName) prog_1_method_19_code (4 : Nat) (Option.some Jvm.ClassFile.FieldType.boolean)) ∈ tables_1 := List.mem_of_getElem? (i := 198) rfl
theorem m_199 : (Jvm.Cond.methodLink "FatPointerCL3" (20 : Nat) ({ cls := "FatPointerC", name := "run", desc := "()I" } : Jvm.MethodName)) ∈ tables_1 := List.mem_of_getElem? (i := 199) rfl
theorem m_200 : (Jvm.Cond.declares ({ cls := "FatPointerC", name := "run", desc := "()I" } : Jvm.MethodName)) ∈ tables_1 := List.mem_of_getElem? (i := 200) rfl
theorem m_201 : (Jvm.Cond.instanceMethod ({ cls := "FatPointerC", name := "run", desc := "()I" } : Jvm.MethodName)) ∈ tables_1 := List.mem_of_getElem? (i := 201) rfl
theorem m_202 : (Jvm.Cond.selects "FatPointerC" ({ cls := "FatPointerC", name := "run", desc := "()I" } : Jvm.MethodName) ({ cls := "FatPointerC", name := "run", desc := "()I" } : Jvm.MethodName)) ∈ tables_1 := List.mem_of_getElem? (i := 202) rfl
theorem m_203 : (Jvm.Cond.code ({ cls := "FatPointerC", name := "run", desc := "()I" } : Jvm.MethodName) prog_1_method_6_code (3 : Nat) (Option.some Jvm.ClassFile.FieldType.int)) ∈ tables_1 := List.mem_of_getElem? (i := 203) rfl
theorem m_204 : (Jvm.Cond.fieldLink "FatPointerC" (131 : Nat) "FatPointerC" "depth" "I") ∈ tables_1 := List.mem_of_getElem? (i := 204) rfl
theorem m_205 : (Jvm.Cond.lays "FatPointerC" "FatPointerC" "depth" "I") ∈ tables_1 := List.mem_of_getElem? (i := 205) rfl
theorem m_206 : (Jvm.Cond.fieldLink "FatPointerC" (134 : Nat) "FatPointerC" "liveCells" "I") ∈ tables_1 := List.mem_of_getElem? (i := 206) rfl
theorem m_207 : (Jvm.Cond.lays "FatPointerC" "FatPointerC" "liveCells" "I") ∈ tables_1 := List.mem_of_getElem? (i := 207) rfl
theorem m_208 : (Jvm.Cond.fieldLink "FatPointerC" (137 : Nat) "FatPointerC" "nextObj" "I") ∈ tables_1 := List.mem_of_getElem? (i := 208) rfl
theorem m_209 : (Jvm.Cond.lays "FatPointerC" "FatPointerC" "nextObj" "I") ∈ tables_1 := List.mem_of_getElem? (i := 209) rfl
theorem m_210 : (Jvm.Cond.fieldLink "FatPointerC" (140 : Nat) "FatPointerC" "fuel" "I") ∈ tables_1 := List.mem_of_getElem? (i := 210) rfl
theorem m_211 : (Jvm.Cond.lays "FatPointerC" "FatPointerC" "fuel" "I") ∈ tables_1 := List.mem_of_getElem? (i := 211) rfl
theorem m_212 : (Jvm.Cond.fieldLink "FatPointerC" (143 : Nat) "FatPointerC" "running" "Z") ∈ tables_1 := List.mem_of_getElem? (i := 212) rfl
theorem m_213 : (Jvm.Cond.lays "FatPointerC" "FatPointerC" "running" "Z") ∈ tables_1 := List.mem_of_getElem? (i := 213) rfl
theorem m_214 : (Jvm.Cond.methodLink "FatPointerC" (153 : Nat) ({ cls := "FatPointerC", name := "pushFrame", desc := "(III)V" } : Jvm.MethodName)) ∈ tables_1 := List.mem_of_getElem? (i := 214) rfl
theorem m_215 : (Jvm.Cond.instanceMethod ({ cls := "FatPointerC", name := "pushFrame", desc := "(III)V" } : Jvm.MethodName)) ∈ tables_1 := List.mem_of_getElem? (i := 215) rfl
theorem m_216 : (Jvm.Cond.privateMethod ({ cls := "FatPointerC", name := "pushFrame", desc := "(III)V" } : Jvm.MethodName)) ∈ tables_1 := List.mem_of_getElem? (i := 216) rfl
theorem m_217 : (Jvm.Cond.code ({ cls := "FatPointerC", name := "pushFrame", desc := "(III)V" } : Jvm.MethodName) prog_1_method_65_code (12 : Nat) (Option.none : Option Jvm.ClassFile.FieldType)) ∈ tables_1 := List.mem_of_getElem? (i := 217) rfl
theorem m_218 : (Jvm.Cond.constant "FatPointerC" (157 : Nat) (1048576 : Int32)) ∈ tables_1 := List.mem_of_getElem? (i := 218) rfl
theorem m_219 : (Jvm.Cond.methodLink "FatPointerC" (158 : Nat) ({ cls := "FatPointerC", name := "step", desc := "(I)I" } : Jvm.MethodName)) ∈ tables_1 := List.mem_of_getElem? (i := 219) rfl
theorem m_220 : (Jvm.Cond.instanceMethod ({ cls := "FatPointerC", name := "step", desc := "(I)I" } : Jvm.MethodName)) ∈ tables_1 := List.mem_of_getElem? (i := 220) rfl
theorem m_221 : (Jvm.Cond.privateMethod ({ cls := "FatPointerC", name := "step", desc := "(I)I" } : Jvm.MethodName)) ∈ tables_1 := List.mem_of_getElem? (i := 221) rfl
theorem m_222 : (Jvm.Cond.code ({ cls := "FatPointerC", name := "step", desc := "(I)I" } : Jvm.MethodName) prog_1_method_56_code (3 : Nat) (Option.some Jvm.ClassFile.FieldType.int)) ∈ tables_1 := List.mem_of_getElem? (i := 222) rfl
theorem m_223 : (Jvm.Cond.methodLink "FatPointerC" (300 : Nat) ({ cls := "FatPointerC", name := "execVarStmt", desc := "(I)I" } : Jvm.MethodName)) ∈ tables_1 := List.mem_of_getElem? (i := 223) rfl
theorem m_224 : (Jvm.Cond.instanceMethod ({ cls := "FatPointerC", name := "execVarStmt", desc := "(I)I" } : Jvm.MethodName)) ∈ tables_1 := List.mem_of_getElem? (i := 224) rfl
theorem m_225 : (Jvm.Cond.privateMethod ({ cls := "FatPointerC", name := "execVarStmt", desc := "(I)I" } : Jvm.MethodName)) ∈ tables_1 := List.mem_of_getElem? (i := 225) rfl
theorem m_226 : (Jvm.Cond.code ({ cls := "FatPointerC", name := "execVarStmt", desc := "(I)I" } : Jvm.MethodName) prog_1_method_57_code (4 : Nat) (Option.some Jvm.ClassFile.FieldType.int)) ∈ tables_1 := List.mem_of_getElem? (i := 226) rfl
theorem m_227 : (Jvm.Cond.methodLink "FatPointerC" (323 : Nat) ({ cls := "FatPointerC", name := "execIndexStore", desc := "(I)I" } : Jvm.MethodName)) ∈ tables_1 := List.mem_of_getElem? (i := 227) rfl
theorem m_228 : (Jvm.Cond.instanceMethod ({ cls := "FatPointerC", name := "execIndexStore", desc := "(I)I" } : Jvm.MethodName)) ∈ tables_1 := List.mem_of_getElem? (i := 228) rfl
theorem m_229 : (Jvm.Cond.privateMethod ({ cls := "FatPointerC", name := "execIndexStore", desc := "(I)I" } : Jvm.MethodName)) ∈ tables_1 := List.mem_of_getElem? (i := 229) rfl
theorem m_230 : (Jvm.Cond.code ({ cls := "FatPointerC", name := "execIndexStore", desc := "(I)I" } : Jvm.MethodName) prog_1_method_58_code (9 : Nat) (Option.some Jvm.ClassFile.FieldType.int)) ∈ tables_1 := List.mem_of_getElem? (i := 230) rfl
theorem m_231 : (Jvm.Cond.methodLink "FatPointerC" (266 : Nat) ({ cls := "FatPointerC", name := "loadVar", desc := "(II)V" } : Jvm.MethodName)) ∈ tables_1 := List.mem_of_getElem? (i := 231) rfl
theorem m_232 : (Jvm.Cond.instanceMethod ({ cls := "FatPointerC", name := "loadVar", desc := "(II)V" } : Jvm.MethodName)) ∈ tables_1 := List.mem_of_getElem? (i := 232) rfl
theorem m_233 : (Jvm.Cond.privateMethod ({ cls := "FatPointerC", name := "loadVar", desc := "(II)V" } : Jvm.MethodName)) ∈ tables_1 := List.mem_of_getElem? (i := 233) rfl
theorem m_234 : (Jvm.Cond.code ({ cls := "FatPointerC", name := "loadVar", desc := "(II)V" } : Jvm.MethodName) prog_1_method_43_code (4 : Nat) (Option.none : Option Jvm.ClassFile.FieldType)) ∈ tables_1 := List.mem_of_getElem? (i := 234) rfl
theorem m_235 : (Jvm.Cond.methodLink "FatPointerC" (256 : Nat) ({ cls := "FatPointerC", name := "objOf", desc := "(I)I" } : Jvm.MethodName)) ∈ tables_1 := List.mem_of_getElem? (i := 235) rfl
theorem m_236 : (Jvm.Cond.instanceMethod ({ cls := "FatPointerC", name := "objOf", desc := "(I)I" } : Jvm.MethodName)) ∈ tables_1 := List.mem_of_getElem? (i := 236) rfl
theorem m_237 : (Jvm.Cond.privateMethod ({ cls := "FatPointerC", name := "objOf", desc := "(I)I" } : Jvm.MethodName)) ∈ tables_1 := List.mem_of_getElem? (i := 237) rfl
theorem m_238 : (Jvm.Cond.code ({ cls := "FatPointerC", name := "objOf", desc := "(I)I" } : Jvm.MethodName) prog_1_method_41_code (4 : Nat) (Option.some Jvm.ClassFile.FieldType.int)) ∈ tables_1 := List.mem_of_getElem? (i := 238) rfl
theorem m_239 : (Jvm.Cond.methodLink "FatPointerC" (259 : Nat) ({ cls := "FatPointerC", name := "isArr", desc := "(I)Z" } : Jvm.MethodName)) ∈ tables_1 := List.mem_of_getElem? (i := 239) rfl
theorem m_240 : (Jvm.Cond.instanceMethod ({ cls := "FatPointerC", name := "isArr", desc := "(I)Z" } : Jvm.MethodName)) ∈ tables_1 := List.mem_of_getElem? (i := 240) rfl
theorem m_241 : (Jvm.Cond.privateMethod ({ cls := "FatPointerC", name := "isArr", desc := "(I)Z" } : Jvm.MethodName)) ∈ tables_1 := List.mem_of_getElem? (i := 241) rfl
theorem m_242 : (Jvm.Cond.code ({ cls := "FatPointerC", name := "isArr", desc := "(I)Z" } : Jvm.MethodName) prog_1_method_42_code (3 : Nat) (Option.some Jvm.ClassFile.FieldType.boolean)) ∈ tables_1 := List.mem_of_getElem? (i := 242) rfl
theorem m_243 : (Jvm.Cond.methodLink "FatPointerC" (252 : Nat) ({ cls := "FatPointerC", name := "setReg", desc := "(IIII)V" } : Jvm.MethodName)) ∈ tables_1 := List.mem_of_getElem? (i := 243) rfl
theorem m_244 : (Jvm.Cond.instanceMethod ({ cls := "FatPointerC", name := "setReg", desc := "(IIII)V" } : Jvm.MethodName)) ∈ tables_1 := List.mem_of_getElem? (i := 244) rfl
theorem m_245 : (Jvm.Cond.privateMethod ({ cls := "FatPointerC", name := "setReg", desc := "(IIII)V" } : Jvm.MethodName)) ∈ tables_1 := List.mem_of_getElem? (i := 245) rfl
theorem m_246 : (Jvm.Cond.code ({ cls := "FatPointerC", name := "setReg", desc := "(IIII)V" } : Jvm.MethodName) prog_1_method_39_code (5 : Nat) (Option.none : Option Jvm.ClassFile.FieldType)) ∈ tables_1 := List.mem_of_getElem? (i := 246) rfl
theorem m_247 : (Jvm.Cond.methodLink "FatPointerC" (289 : Nat) ({ cls := "FatPointerC", name := "loadAtom", desc := "(II)V" } : Jvm.MethodName)) ∈ tables_1 := List.mem_of_getElem? (i := 247) rfl
theorem m_248 : (Jvm.Cond.instanceMethod ({ cls := "FatPointerC", name := "loadAtom", desc := "(II)V" } : Jvm.MethodName)) ∈ tables_1 := List.mem_of_getElem? (i := 248) rfl
theorem m_249 : (Jvm.Cond.privateMethod ({ cls := "FatPointerC", name := "loadAtom", desc := "(II)V" } : Jvm.MethodName)) ∈ tables_1 := List.mem_of_getElem? (i := 249) rfl
theorem m_250 : (Jvm.Cond.code ({ cls := "FatPointerC", name := "loadAtom", desc := "(II)V" } : Jvm.MethodName) prog_1_method_44_code (3 : Nat) (Option.none : Option Jvm.ClassFile.FieldType)) ∈ tables_1 := List.mem_of_getElem? (i := 250) rfl
theorem m_251 : (Jvm.Cond.methodLink "FatPointerC" (326 : Nat) ({ cls := "FatPointerC", name := "evalExpr", desc := "(I)I" } : Jvm.MethodName)) ∈ tables_1 := List.mem_of_getElem? (i := 251) rfl
theorem m_252 : (Jvm.Cond.instanceMethod ({ cls := "FatPointerC", name := "evalExpr", desc := "(I)I" } : Jvm.MethodName)) ∈ tables_1 := List.mem_of_getElem? (i := 252) rfl
theorem m_253 : (Jvm.Cond.privateMethod ({ cls := "FatPointerC", name := "evalExpr", desc := "(I)I" } : Jvm.MethodName)) ∈ tables_1 := List.mem_of_getElem? (i := 253) rfl
theorem m_254 : (Jvm.Cond.code ({ cls := "FatPointerC", name := "evalExpr", desc := "(I)I" } : Jvm.MethodName) prog_1_method_49_code (5 : Nat) (Option.some Jvm.ClassFile.FieldType.int)) ∈ tables_1 := List.mem_of_getElem? (i := 254) rfl
theorem m_255 : (Jvm.Cond.methodLink "FatPointerC" (269 : Nat) ({ cls := "FatPointerC", name := "evalSum", desc := "(I)I" } : Jvm.MethodName)) ∈ tables_1 := List.mem_of_getElem? (i := 255) rfl
theorem m_256 : (Jvm.Cond.instanceMethod ({ cls := "FatPointerC", name := "evalSum", desc := "(I)I" } : Jvm.MethodName)) ∈ tables_1 := List.mem_of_getElem? (i := 256) rfl
theorem m_257 : (Jvm.Cond.privateMethod ({ cls := "FatPointerC", name := "evalSum", desc := "(I)I" } : Jvm.MethodName)) ∈ tables_1 := List.mem_of_getElem? (i := 257) rfl
theorem m_258 : (Jvm.Cond.code ({ cls := "FatPointerC", name := "evalSum", desc := "(I)I" } : Jvm.MethodName) prog_1_method_50_code (6 : Nat) (Option.some Jvm.ClassFile.FieldType.int)) ∈ tables_1 := List.mem_of_getElem? (i := 258) rfl
theorem m_259 : (Jvm.Cond.methodLink "FatPointerC" (279 : Nat) ({ cls := "FatPointerC", name := "evalTerm", desc := "(I)I" } : Jvm.MethodName)) ∈ tables_1 := List.mem_of_getElem? (i := 259) rfl
theorem m_260 : (Jvm.Cond.instanceMethod ({ cls := "FatPointerC", name := "evalTerm", desc := "(I)I" } : Jvm.MethodName)) ∈ tables_1 := List.mem_of_getElem? (i := 260) rfl
theorem m_261 : (Jvm.Cond.privateMethod ({ cls := "FatPointerC", name := "evalTerm", desc := "(I)I" } : Jvm.MethodName)) ∈ tables_1 := List.mem_of_getElem? (i := 261) rfl
theorem m_262 : (Jvm.Cond.code ({ cls := "FatPointerC", name := "evalTerm", desc := "(I)I" } : Jvm.MethodName) prog_1_method_51_code (5 : Nat) (Option.some Jvm.ClassFile.FieldType.int)) ∈ tables_1 := List.mem_of_getElem? (i := 262) rfl
theorem m_263 : (Jvm.Cond.methodLink "FatPointerC" (282 : Nat) ({ cls := "FatPointerC", name := "evalOperand", desc := "(I)I" } : Jvm.MethodName)) ∈ tables_1 := List.mem_of_getElem? (i := 263) rfl
theorem m_264 : (Jvm.Cond.instanceMethod ({ cls := "FatPointerC", name := "evalOperand", desc := "(I)I" } : Jvm.MethodName)) ∈ tables_1 := List.mem_of_getElem? (i := 264) rfl
theorem m_265 : (Jvm.Cond.privateMethod ({ cls := "FatPointerC", name := "evalOperand", desc := "(I)I" } : Jvm.MethodName)) ∈ tables_1 := List.mem_of_getElem? (i := 265) rfl
theorem m_266 : (Jvm.Cond.code ({ cls := "FatPointerC", name := "evalOperand", desc := "(I)I" } : Jvm.MethodName) prog_1_method_52_code (7 : Nat) (Option.some Jvm.ClassFile.FieldType.int)) ∈ tables_1 := List.mem_of_getElem? (i := 266) rfl
theorem m_267 : (Jvm.Cond.methodLink "FatPointerC" (272 : Nat) ({ cls := "FatPointerC", name := "copyReg", desc := "(II)V" } : Jvm.MethodName)) ∈ tables_1 := List.mem_of_getElem? (i := 267) rfl
theorem m_268 : (Jvm.Cond.instanceMethod ({ cls := "FatPointerC", name := "copyReg", desc := "(II)V" } : Jvm.MethodName)) ∈ tables_1 := List.mem_of_getElem? (i := 268) rfl
theorem m_269 : (Jvm.Cond.privateMethod ({ cls := "FatPointerC", name := "copyReg", desc := "(II)V" } : Jvm.MethodName)) ∈ tables_1 := List.mem_of_getElem? (i := 269) rfl
theorem m_270 : (Jvm.Cond.code ({ cls := "FatPointerC", name := "copyReg", desc := "(II)V" } : Jvm.MethodName) prog_1_method_40_code (3 : Nat) (Option.none : Option Jvm.ClassFile.FieldType)) ∈ tables_1 := List.mem_of_getElem? (i := 270) rfl
theorem m_271 : (Jvm.Cond.methodLink "FatPointerC" (285 : Nat) ({ cls := "FatPointerC", name := "check", desc := "(IIIIII)I" } : Jvm.MethodName)) ∈ tables_1 := List.mem_of_getElem? (i := 271) rfl
theorem m_272 : (Jvm.Cond.instanceMethod ({ cls := "FatPointerC", name := "check", desc := "(IIIIII)I" } : Jvm.MethodName)) ∈ tables_1 := List.mem_of_getElem? (i := 272) rfl
theorem m_273 : (Jvm.Cond.privateMethod ({ cls := "FatPointerC", name := "check", desc := "(IIIIII)I" } : Jvm.MethodName)) ∈ tables_1 := List.mem_of_getElem? (i := 273) rfl
theorem m_274 : (Jvm.Cond.code ({ cls := "FatPointerC", name := "check", desc := "(IIIIII)I" } : Jvm.MethodName) prog_1_method_48_code (10 : Nat) (Option.some Jvm.ClassFile.FieldType.int)) ∈ tables_1 := List.mem_of_getElem? (i := 274) rfl
theorem m_275 : (Jvm.Cond.methodLink "FatPointerC" (332 : Nat) ({ cls := "FatPointerC", name := "writeCell", desc := "(II)V" } : Jvm.MethodName)) ∈ tables_1 := List.mem_of_getElem? (i := 275) rfl
theorem m_276 : (Jvm.Cond.instanceMethod ({ cls := "FatPointerC", name := "writeCell", desc := "(II)V" } : Jvm.MethodName)) ∈ tables_1 := List.mem_of_getElem? (i := 276) rfl
theorem m_277 : (Jvm.Cond.privateMethod ({ cls := "FatPointerC", name := "writeCell", desc := "(II)V" } : Jvm.MethodName)) ∈ tables_1 := List.mem_of_getElem? (i := 277) rfl
theorem m_278 : (Jvm.Cond.code ({ cls := "FatPointerC", name := "writeCell", desc := "(II)V" } : Jvm.MethodName) prog_1_method_47_code (3 : Nat) (Option.none : Option Jvm.ClassFile.FieldType)) ∈ tables_1 := List.mem_of_getElem? (i := 278) rfl
theorem m_279 : (Jvm.Cond.methodLink "FatPointerC" (313 : Nat) ({ cls := "FatPointerC", name := "execReturn", desc := "(I)I" } : Jvm.MethodName)) ∈ tables_1 := List.mem_of_getElem? (i := 279) rfl
theorem m_280 : (Jvm.Cond.instanceMethod ({ cls := "FatPointerC", name := "execReturn", desc := "(I)I" } : Jvm.MethodName)) ∈ tables_1 := List.mem_of_getElem? (i := 280) rfl
theorem m_281 : (Jvm.Cond.privateMethod ({ cls := "FatPointerC", name := "execReturn", desc := "(I)I" } : Jvm.MethodName)) ∈ tables_1 := List.mem_of_getElem? (i := 281) rfl
theorem m_282 : (Jvm.Cond.code ({ cls := "FatPointerC", name := "execReturn", desc := "(I)I" } : Jvm.MethodName) prog_1_method_61_code (3 : Nat) (Option.some Jvm.ClassFile.FieldType.int)) ∈ tables_1 := List.mem_of_getElem? (i := 282) rfl
theorem m_283 : (Jvm.Cond.methodLink "FatPointerC" (263 : Nat) ({ cls := "FatPointerC", name := "readCell", desc := "(II)V" } : Jvm.MethodName)) ∈ tables_1 := List.mem_of_getElem? (i := 283) rfl
theorem m_284 : (Jvm.Cond.instanceMethod ({ cls := "FatPointerC", name := "readCell", desc := "(II)V" } : Jvm.MethodName)) ∈ tables_1 := List.mem_of_getElem? (i := 284) rfl
theorem m_285 : (Jvm.Cond.privateMethod ({ cls := "FatPointerC", name := "readCell", desc := "(II)V" } : Jvm.MethodName)) ∈ tables_1 := List.mem_of_getElem? (i := 285) rfl
theorem m_286 : (Jvm.Cond.code ({ cls := "FatPointerC", name := "readCell", desc := "(II)V" } : Jvm.MethodName) prog_1_method_46_code (3 : Nat) (Option.none : Option Jvm.ClassFile.FieldType)) ∈ tables_1 := List.mem_of_getElem? (i := 286) rfl
theorem m_287 : (Jvm.Cond.methodLink "FatPointerC" (335 : Nat) ({ cls := "FatPointerC", name := "doReturn", desc := "(III)I" } : Jvm.MethodName)) ∈ tables_1 := List.mem_of_getElem? (i := 287) rfl
theorem m_288 : (Jvm.Cond.instanceMethod ({ cls := "FatPointerC", name := "doReturn", desc := "(III)I" } : Jvm.MethodName)) ∈ tables_1 := List.mem_of_getElem? (i := 288) rfl
theorem m_289 : (Jvm.Cond.privateMethod ({ cls := "FatPointerC", name := "doReturn", desc := "(III)I" } : Jvm.MethodName)) ∈ tables_1 := List.mem_of_getElem? (i := 289) rfl
theorem m_290 : (Jvm.Cond.code ({ cls := "FatPointerC", name := "doReturn", desc := "(III)I" } : Jvm.MethodName) prog_1_method_66_code (7 : Nat) (Option.some Jvm.ClassFile.FieldType.int)) ∈ tables_1 := List.mem_of_getElem? (i := 290) rfl
theorem m_291 : (Jvm.Cond.methodLink "FatPointerCL3" (24 : Nat) ({ cls := "FatPointerC", name := "status", desc := "()I" } : Jvm.MethodName)) ∈ tables_1 := List.mem_of_getElem? (i := 291) rfl
theorem m_292 : (Jvm.Cond.declares ({ cls := "FatPointerC", name := "status", desc := "()I" } : Jvm.MethodName)) ∈ tables_1 := List.mem_of_getElem? (i := 292) rfl
theorem m_293 : (Jvm.Cond.instanceMethod ({ cls := "FatPointerC", name := "status", desc := "()I" } : Jvm.MethodName)) ∈ tables_1 := List.mem_of_getElem? (i := 293) rfl
theorem m_294 : (Jvm.Cond.selects "FatPointerC" ({ cls := "FatPointerC", name := "status", desc := "()I" } : Jvm.MethodName) ({ cls := "FatPointerC", name := "status", desc := "()I" } : Jvm.MethodName)) ∈ tables_1 := List.mem_of_getElem? (i := 294) rfl
theorem m_295 : (Jvm.Cond.code ({ cls := "FatPointerC", name := "status", desc := "()I" } : Jvm.MethodName) prog_1_method_7_code (1 : Nat) (Option.some Jvm.ClassFile.FieldType.int)) ∈ tables_1 := List.mem_of_getElem? (i := 295) rfl
theorem m_296 : (Jvm.Cond.methodLink "FatPointerCL3" (27 : Nat) ({ cls := "FatPointerC", name := "trapSite", desc := "()I" } : Jvm.MethodName)) ∈ tables_1 := List.mem_of_getElem? (i := 296) rfl
theorem m_297 : (Jvm.Cond.declares ({ cls := "FatPointerC", name := "trapSite", desc := "()I" } : Jvm.MethodName)) ∈ tables_1 := List.mem_of_getElem? (i := 297) rfl
theorem m_298 : (Jvm.Cond.instanceMethod ({ cls := "FatPointerC", name := "trapSite", desc := "()I" } : Jvm.MethodName)) ∈ tables_1 := List.mem_of_getElem? (i := 298) rfl
theorem m_299 : (Jvm.Cond.selects "FatPointerC" ({ cls := "FatPointerC", name := "trapSite", desc := "()I" } : Jvm.MethodName) ({ cls := "FatPointerC", name := "trapSite", desc := "()I" } : Jvm.MethodName)) ∈ tables_1 := List.mem_of_getElem? (i := 299) rfl
theorem m_300 : (Jvm.Cond.code ({ cls := "FatPointerC", name := "trapSite", desc := "()I" } : Jvm.MethodName) prog_1_method_8_code (1 : Nat) (Option.some Jvm.ClassFile.FieldType.int)) ∈ tables_1 := List.mem_of_getElem? (i := 300) rfl
theorem m_301 : (Jvm.Cond.methodLink "FatPointerCL3" (30 : Nat) ({ cls := "FatPointerC", name := "frames", desc := "()I" } : Jvm.MethodName)) ∈ tables_1 := List.mem_of_getElem? (i := 301) rfl
theorem m_302 : (Jvm.Cond.declares ({ cls := "FatPointerC", name := "frames", desc := "()I" } : Jvm.MethodName)) ∈ tables_1 := List.mem_of_getElem? (i := 302) rfl
theorem m_303 : (Jvm.Cond.instanceMethod ({ cls := "FatPointerC", name := "frames", desc := "()I" } : Jvm.MethodName)) ∈ tables_1 := List.mem_of_getElem? (i := 303) rfl
theorem m_304 : (Jvm.Cond.selects "FatPointerC" ({ cls := "FatPointerC", name := "frames", desc := "()I" } : Jvm.MethodName) ({ cls := "FatPointerC", name := "frames", desc := "()I" } : Jvm.MethodName)) ∈ tables_1 := List.mem_of_getElem? (i := 304) rfl
theorem m_305 : (Jvm.Cond.code ({ cls := "FatPointerC", name := "frames", desc := "()I" } : Jvm.MethodName) prog_1_method_9_code (1 : Nat) (Option.some Jvm.ClassFile.FieldType.int)) ∈ tables_1 := List.mem_of_getElem? (i := 305) rfl
theorem m_306 : (Jvm.Cond.methodLink "FatPointerCL3" (33 : Nat) ({ cls := "FatPointerC", name := "resultKind", desc := "()I" } : Jvm.MethodName)) ∈ tables_1 := List.mem_of_getElem? (i := 306) rfl
theorem m_307 : (Jvm.Cond.declares ({ cls := "FatPointerC", name := "resultKind", desc := "()I" } : Jvm.MethodName)) ∈ tables_1 := List.mem_of_getElem? (i := 307) rfl
theorem m_308 : (Jvm.Cond.instanceMethod ({ cls := "FatPointerC", name := "resultKind", desc := "()I" } : Jvm.MethodName)) ∈ tables_1 := List.mem_of_getElem? (i := 308) rfl
theorem m_309 : (Jvm.Cond.selects "FatPointerC" ({ cls := "FatPointerC", name := "resultKind", desc := "()I" } : Jvm.MethodName) ({ cls := "FatPointerC", name := "resultKind", desc := "()I" } : Jvm.MethodName)) ∈ tables_1 := List.mem_of_getElem? (i := 309) rfl
theorem m_310 : (Jvm.Cond.code ({ cls := "FatPointerC", name := "resultKind", desc := "()I" } : Jvm.MethodName) prog_1_method_10_code (1 : Nat) (Option.some Jvm.ClassFile.FieldType.int)) ∈ tables_1 := List.mem_of_getElem? (i := 310) rfl
theorem m_311 : (Jvm.Cond.methodLink "FatPointerCL3" (36 : Nat) ({ cls := "FatPointerC", name := "resultValue", desc := "()I" } : Jvm.MethodName)) ∈ tables_1 := List.mem_of_getElem? (i := 311) rfl
theorem m_312 : (Jvm.Cond.declares ({ cls := "FatPointerC", name := "resultValue", desc := "()I" } : Jvm.MethodName)) ∈ tables_1 := List.mem_of_getElem? (i := 312) rfl
theorem m_313 : (Jvm.Cond.instanceMethod ({ cls := "FatPointerC", name := "resultValue", desc := "()I" } : Jvm.MethodName)) ∈ tables_1 := List.mem_of_getElem? (i := 313) rfl
theorem m_314 : (Jvm.Cond.selects "FatPointerC" ({ cls := "FatPointerC", name := "resultValue", desc := "()I" } : Jvm.MethodName) ({ cls := "FatPointerC", name := "resultValue", desc := "()I" } : Jvm.MethodName)) ∈ tables_1 := List.mem_of_getElem? (i := 314) rfl
theorem m_315 : (Jvm.Cond.code ({ cls := "FatPointerC", name := "resultValue", desc := "()I" } : Jvm.MethodName) prog_1_method_11_code (1 : Nat) (Option.some Jvm.ClassFile.FieldType.int)) ∈ tables_1 := List.mem_of_getElem? (i := 315) rfl
theorem m_316 : (Jvm.Cond.methodLink "FatPointerCL3" (39 : Nat) ({ cls := "FatPointerC", name := "outCount", desc := "()I" } : Jvm.MethodName)) ∈ tables_1 := List.mem_of_getElem? (i := 316) rfl
theorem m_317 : (Jvm.Cond.declares ({ cls := "FatPointerC", name := "outCount", desc := "()I" } : Jvm.MethodName)) ∈ tables_1 := List.mem_of_getElem? (i := 317) rfl
theorem m_318 : (Jvm.Cond.instanceMethod ({ cls := "FatPointerC", name := "outCount", desc := "()I" } : Jvm.MethodName)) ∈ tables_1 := List.mem_of_getElem? (i := 318) rfl
theorem m_319 : (Jvm.Cond.selects "FatPointerC" ({ cls := "FatPointerC", name := "outCount", desc := "()I" } : Jvm.MethodName) ({ cls := "FatPointerC", name := "outCount", desc := "()I" } : Jvm.MethodName)) ∈ tables_1 := List.mem_of_getElem? (i := 319) rfl
theorem m_320 : (Jvm.Cond.code ({ cls := "FatPointerC", name := "outCount", desc := "()I" } : Jvm.MethodName) prog_1_method_13_code (1 : Nat) (Option.some Jvm.ClassFile.FieldType.int)) ∈ tables_1 := List.mem_of_getElem? (i := 320) rfl
theorem m_321 : (Jvm.Cond.methodLink "FatPointerC" (146 : Nat) ({ cls := "FatPointerC", name := "trap", desc := "(II)V" } : Jvm.MethodName)) ∈ tables_1 := List.mem_of_getElem? (i := 321) rfl
theorem m_322 : (Jvm.Cond.instanceMethod ({ cls := "FatPointerC", name := "trap", desc := "(II)V" } : Jvm.MethodName)) ∈ tables_1 := List.mem_of_getElem? (i := 322) rfl
theorem m_323 : (Jvm.Cond.privateMethod ({ cls := "FatPointerC", name := "trap", desc := "(II)V" } : Jvm.MethodName)) ∈ tables_1 := List.mem_of_getElem? (i := 323) rfl
theorem m_324 : (Jvm.Cond.code ({ cls := "FatPointerC", name := "trap", desc := "(II)V" } : Jvm.MethodName) prog_1_method_37_code (3 : Nat) (Option.none : Option Jvm.ClassFile.FieldType)) ∈ tables_1 := List.mem_of_getElem? (i := 324) rfl
theorem laid0 {Z : State} {a0 : Array Value} (hw : HW a0 Z) : LaidAll Z a0 CN lay vs0 :=
  ⟨⟨Or.inl (hw _ m_78), .int, by decide, rfl⟩, ⟨Or.inl (hw _ m_80), .int, by decide, rfl⟩, ⟨Or.inl (hw _ m_105), .int, by decide, rfl⟩, ⟨Or.inl (hw _ m_11), .array .int, by decide, rfl⟩, ⟨Or.inl (hw _ m_13), .array .int, by decide, rfl⟩, ⟨Or.inl (hw _ m_107), .boolean, by decide, rfl⟩, ⟨Or.inl (hw _ m_86), .int, by decide, rfl⟩, ⟨Or.inl (hw _ m_88), .int, by decide, rfl⟩, ⟨Or.inl (hw _ m_90), .int, by decide, rfl⟩, ⟨Or.inl (hw _ m_92), .int, by decide, rfl⟩, ⟨Or.inl (hw _ m_94), .int, by decide, rfl⟩, ⟨Or.inl (hw _ m_96), .int, by decide, rfl⟩, ⟨Or.inl (hw _ m_98), .int, by decide, rfl⟩, ⟨Or.inl (hw _ m_15), .array .int, by decide, rfl⟩, ⟨Or.inl (hw _ m_18), .array .boolean, by decide, rfl⟩, ⟨Or.inl (hw _ m_20), .array .int, by decide, rfl⟩, ⟨Or.inl (hw _ m_22), .array .int, by decide, rfl⟩, ⟨Or.inl (hw _ m_24), .array .int, by decide, rfl⟩, ⟨Or.inl (hw _ m_26), .array .int, by decide, rfl⟩, ⟨Or.inl (hw _ m_28), .array .int, by decide, rfl⟩, ⟨Or.inl (hw _ m_30), .array .int, by decide, rfl⟩, ⟨Or.inl (hw _ m_32), .array .boolean, by decide, rfl⟩, ⟨Or.inl (hw _ m_34), .array .int, by decide, rfl⟩, ⟨Or.inl (hw _ m_36), .array .int, by decide, rfl⟩, ⟨Or.inl (hw _ m_38), .array .int, by decide, rfl⟩, ⟨Or.inl (hw _ m_40), .array .int, by decide, rfl⟩, ⟨Or.inl (hw _ m_120), .int, by decide, rfl⟩, ⟨Or.inl (hw _ m_118), .boolean, by decide, rfl⟩, ⟨Or.inl (hw _ m_138), .int, by decide, rfl⟩, ⟨Or.inl (hw _ m_42), .array .int, by decide, rfl⟩, ⟨Or.inl (hw _ m_44), .array .int, by decide, rfl⟩, ⟨Or.inl (hw _ m_46), .array .int, by decide, rfl⟩, ⟨Or.inl (hw _ m_48), .array .int, by decide, rfl⟩, ⟨Or.inl (hw _ m_50), .array .int, by decide, rfl⟩, ⟨Or.inl (hw _ m_52), .array .int, by decide, rfl⟩, ⟨Or.inl (hw _ m_54), .array .boolean, by decide, rfl⟩, ⟨Or.inl (hw _ m_209), .int, by decide, rfl⟩, ⟨Or.inl (hw _ m_56), .array .int, by decide, rfl⟩, ⟨Or.inl (hw _ m_58), .array .int, by decide, rfl⟩, ⟨Or.inl (hw _ m_60), .array .int, by decide, rfl⟩, ⟨Or.inl (hw _ m_62), .array .int, by decide, rfl⟩, ⟨Or.inl (hw _ m_64), .array .int, by decide, rfl⟩, ⟨Or.inl (hw _ m_205), .int, by decide, rfl⟩, ⟨Or.inl (hw _ m_207), .int, by decide, rfl⟩, ⟨Or.inl (hw _ m_211), .int, by decide, rfl⟩, ⟨Or.inl (hw _ m_213), .boolean, by decide, rfl⟩, ⟨Or.inl (hw _ m_66), .array .int, by decide, rfl⟩, ⟨Or.inl (hw _ m_68), .array .int, by decide, rfl⟩, ⟨Or.inl (hw _ m_70), .array .int, by decide, rfl⟩, ⟨Or.inl (hw _ m_72), .array .int, by decide, rfl⟩, ⟨Or.inl (hw _ m_74), .array .int, by decide, rfl⟩, ⟨Or.inl (hw _ m_76), .array .int, by decide, rfl⟩, trivial⟩
theorem hlay {Z : State} {a0 : Array Value} (hw : HW a0 Z) : ∀ (a b : Nat) (f g : String × String), lay[a]? = some f → lay[b]? = some g → a ≠ b → RoadKit.slotOf Z CN f.1 f.2 ≠ RoadKit.slotOf Z CN g.1 g.2 := (laid0 hw).ne (by decide)
theorem vs0_ok {Z : State} {a0 : Array Value} (hw : HW a0 Z) : ∀ (i : Nat) (f : String × String) (v : Value), lay[i]? = some f → vs0[i]? = some v → Laid Z a0 CN CN f.1 f.2 ∧ ∃ ty, parseFieldDescriptor f.2 = some ty ∧ v = defaultValue ty := (laid0 hw).new
theorem pn_cls : plainName CN = true := by first | (simp [plainName, overriddenIn]; done) | decide +kernel
theorem pn_law : plainName "FatPointerCL3" = true := by first | (simp [plainName, overriddenIn]; done) | decide +kernel
set_option maxRecDepth 65536
set_option maxHeartbeats 4000000
abbrev k0 := prog_1_method_1_code
abbrev k1 := prog_1_method_3_code
abbrev k2 := prog_1_method_5_code
abbrev k3 := prog_1_method_6_code
abbrev k4 := prog_1_method_7_code
abbrev k5 := prog_1_method_8_code
abbrev k6 := prog_1_method_9_code
abbrev k7 := prog_1_method_10_code
abbrev k8 := prog_1_method_11_code
abbrev k9 := prog_1_method_13_code
abbrev k10 := prog_1_method_15_code
abbrev k11 := prog_1_method_16_code
abbrev k12 := prog_1_method_17_code
abbrev k13 := prog_1_method_18_code
abbrev k14 := prog_1_method_19_code
abbrev k15 := prog_1_method_20_code
abbrev k16 := prog_1_method_21_code
abbrev k17 := prog_1_method_22_code
abbrev k18 := prog_1_method_23_code
abbrev k19 := prog_1_method_24_code
abbrev k20 := prog_1_method_25_code
abbrev k21 := prog_1_method_26_code
abbrev k22 := prog_1_method_27_code
abbrev k23 := prog_1_method_28_code
abbrev k24 := prog_1_method_29_code
abbrev k25 := prog_1_method_30_code
abbrev k26 := prog_1_method_32_code
abbrev k27 := prog_1_method_33_code
abbrev k28 := prog_1_method_34_code
abbrev k29 := prog_1_method_35_code
abbrev k30 := prog_1_method_36_code
abbrev k31 := prog_1_method_37_code
abbrev k32 := prog_1_method_39_code
abbrev k33 := prog_1_method_40_code
abbrev k34 := prog_1_method_41_code
abbrev k35 := prog_1_method_42_code
abbrev k36 := prog_1_method_43_code
abbrev k37 := prog_1_method_44_code
abbrev k38 := prog_1_method_46_code
abbrev k39 := prog_1_method_47_code
abbrev k40 := prog_1_method_48_code
abbrev k41 := prog_1_method_49_code
abbrev k42 := prog_1_method_50_code
abbrev k43 := prog_1_method_51_code
abbrev k44 := prog_1_method_52_code
abbrev k45 := prog_1_method_56_code
abbrev k46 := prog_1_method_57_code
abbrev k47 := prog_1_method_58_code
abbrev k48 := prog_1_method_61_code
abbrev k49 := prog_1_method_65_code
abbrev k50 := prog_1_method_66_code
theorem bd {α β : Type} {o : Option α} {f : α → Option β} {r : β} (h : o.bind f = some r) : ∃ c, o = some c ∧ f c = some r := Option.bind_eq_some_iff.mp h
abbrev KT0 := Int32 → St → Option (St)
abbrev KT1 := Int32 → Int32 → St → Option (St)
abbrev KT2 := Int32 → St → Option (Int32 × St)
abbrev KT3 := Int32 → Int32 → Int32 → Int32 → Int32 → St → Option (St)
abbrev KT4 := Int32 → St → Option (Int32)
abbrev KT5 := Int32 → Int32 → Int32 → Int32 → Int32 → Int32 → Int32 → St → Option (St)
abbrev KT6 := Int32 → Int32 → Int32 → Int32 → St → Option (St)
abbrev KT7 := Int32 → Int32 → Int32 → Int32 → Int32 → Int32 → St → Option (Int32 × St)
abbrev KT8 := Int32 → Int32 → St → Option (Int32 × St)
abbrev vU : Slot := .unset
abbrev vS : Slot := .second
abbrev vI (x : Int32) : Slot := .val (.int x)
abbrev vJ (x : Int64) : Slot := .val (.long x)
abbrev vR (x : Nat) : Slot := .val (.ref x)
abbrev oN : Value := .int (0 : Int32)
abbrev oI (n : Nat) : OwnC := cI (List.replicate n 0)
abbrev oZ (n : Nat) : OwnC := cZ (List.replicate n 0)
theorem d1_0 : dc k10 0 (.aload_n 0) 1 := by decide +kernel
theorem d1_1 : dc k10 1 (.iconst (-1)) 1 := by decide +kernel
theorem d1_2 : dc k10 2 (.putfield 150) 3 := by decide +kernel
theorem d1_5 : dc k10 5 (.aload_n 0) 1 := by decide +kernel
theorem d1_6 : dc k10 6 (.iconst (-1)) 1 := by decide +kernel
theorem d1_7 : dc k10 7 (.putfield 162) 3 := by decide +kernel
theorem d1_10 : dc k10 10 (.aload_n 0) 1 := by decide +kernel
theorem d1_11 : dc k10 11 (.iconst 0) 1 := by decide +kernel
theorem d1_12 : dc k10 12 (.putfield 165) 3 := by decide +kernel
theorem d1_15 : dc k10 15 (.aload_n 0) 1 := by decide +kernel
theorem d1_16 : dc k10 16 (.iconst (-1)) 1 := by decide +kernel
theorem d1_17 : dc k10 17 (.putfield 168) 3 := by decide +kernel
theorem d1_20 : dc k10 20 (.aload_n 0) 1 := by decide +kernel
theorem d1_21 : dc k10 21 (.iconst 0) 1 := by decide +kernel
theorem d1_22 : dc k10 22 (.putfield 171) 3 := by decide +kernel
theorem d1_25 : dc k10 25 (.aload_n 0) 1 := by decide +kernel
theorem d1_26 : dc k10 26 (.iconst 0) 1 := by decide +kernel
theorem d1_27 : dc k10 27 (.putfield 174) 3 := by decide +kernel
theorem d1_30 : dc k10 30 (.aload_n 0) 1 := by decide +kernel
theorem d1_31 : dc k10 31 (.iconst 0) 1 := by decide +kernel
theorem d1_32 : dc k10 32 (.putfield 177) 3 := by decide +kernel
theorem d1_35 : dc k10 35 (.return_) 1 := by decide +kernel
abbrev y1 : MethodName := ⟨"FatPointerC", "clearResults", "()V"⟩
theorem hy1 : y1.cls ≠ "java/lang/invoke/MethodHandle" ∧ y1.cls ≠ "java/lang/invoke/VarHandle" := by decide
theorem pd1 : parseMethodDescriptor y1.desc = some ⟨[], none⟩ := by decide +kernel
abbrev R1 : Room := { frames := 0, cells := 0, slots := 0, locals := 0 }
abbrev P1 (r : St) : Option Value → List OwnC → Prop := fun v H' => v = none ∧ H' = (Hb 0 r)
abbrev W1 (l : Launch) (Z : State) (n0 : Nat) (Q : Option Value → List OwnC → Prop) (k n pc : Nat) (L : List Slot) (S : List Value) (H : List OwnC) : Prop := WP l Z CN lay "FatPointerC" "clearResults" prog_1_method_15_code 1 (none) R1 n0 0 Q k n pc L S H
def f_clearResults (s : St) : Option (St) :=
 lt (sI s 4 (-1 : Int32)) fun s1 =>
 lt (sI s1 5 (-1 : Int32)) fun s2 =>
 lt (sI s2 6 (0 : Int32)) fun s3 =>
 lt (sI s3 7 (-1 : Int32)) fun s4 =>
 lt (sI s4 8 (0 : Int32)) fun s5 =>
 lt (sI s5 9 (0 : Int32)) fun s6 =>
 lt (sI s6 10 (0 : Int32)) fun s7 =>
 some s7
theorem ok1 (l : Launch) (Z : State) (a0 : Array Value) (hw : HW a0 Z) (s r : St) (h : f_clearResults s = some r) : CS l Z CN lay y1 prog_1_method_15_code 1 (none) R1 0 [.ref 0] (Hb 0 s) (P1 r) := by
 refine CS.of_wp pn_cls (leb rfl) fun n0 => ?_
 show W1 l Z n0 (P1 r) 0 0 0 (vR 0 :: []) [] (Hb 0 s)
 unfold f_clearResults at h
 refine WP.aloadN d1_0 rfl ?_
 refine WP.iconst (-1 : Int32) d1_1 rfl ?_
 obtain ⟨s1, es1, h⟩ := lt_e h
 refine WP.putI (i := 0) (j := 6) (H' := (Hb 0 s1)) d1_2 (hw _ m_85) (Or.inl (hw _ m_86)) (hw _ m_1) (hlay hw) rfl rfl rfl (leb rfl) (by subst es1; rfl) ?_
 refine WP.aloadN d1_5 rfl ?_
 refine WP.iconst (-1 : Int32) d1_6 rfl ?_
 obtain ⟨s2, es2, h⟩ := lt_e h
 refine WP.putI (i := 0) (j := 7) (H' := (Hb 0 s2)) d1_7 (hw _ m_87) (Or.inl (hw _ m_88)) (hw _ m_1) (hlay hw) rfl rfl rfl (leb rfl) (by subst es2; rfl) ?_
 refine WP.aloadN d1_10 rfl ?_
 refine WP.iconst (0 : Int32) d1_11 rfl ?_
 obtain ⟨s3, es3, h⟩ := lt_e h
 refine WP.putI (i := 0) (j := 8) (H' := (Hb 0 s3)) d1_12 (hw _ m_89) (Or.inl (hw _ m_90)) (hw _ m_1) (hlay hw) rfl rfl rfl (leb rfl) (by subst es3; rfl) ?_
 refine WP.aloadN d1_15 rfl ?_
 refine WP.iconst (-1 : Int32) d1_16 rfl ?_
 obtain ⟨s4, es4, h⟩ := lt_e h
 refine WP.putI (i := 0) (j := 9) (H' := (Hb 0 s4)) d1_17 (hw _ m_91) (Or.inl (hw _ m_92)) (hw _ m_1) (hlay hw) rfl rfl rfl (leb rfl) (by subst es4; rfl) ?_
 refine WP.aloadN d1_20 rfl ?_
 refine WP.iconst (0 : Int32) d1_21 rfl ?_
 obtain ⟨s5, es5, h⟩ := lt_e h
 refine WP.putI (i := 0) (j := 10) (H' := (Hb 0 s5)) d1_22 (hw _ m_93) (Or.inl (hw _ m_94)) (hw _ m_1) (hlay hw) rfl rfl rfl (leb rfl) (by subst es5; rfl) ?_
 refine WP.aloadN d1_25 rfl ?_
 refine WP.iconst (0 : Int32) d1_26 rfl ?_
 obtain ⟨s6, es6, h⟩ := lt_e h
 refine WP.putI (i := 0) (j := 11) (H' := (Hb 0 s6)) d1_27 (hw _ m_95) (Or.inl (hw _ m_96)) (hw _ m_1) (hlay hw) rfl rfl rfl (leb rfl) (by subst es6; rfl) ?_
 refine WP.aloadN d1_30 rfl ?_
 refine WP.iconst (0 : Int32) d1_31 rfl ?_
 obtain ⟨s7, es7, h⟩ := lt_e h
 refine WP.putI (i := 0) (j := 12) (H' := (Hb 0 s7)) d1_32 (hw _ m_97) (Or.inl (hw _ m_98)) (hw _ m_1) (hlay hw) rfl rfl rfl (leb rfl) (by subst es7; rfl) ?_
 cases h
 exact WP.vreturn d1_35 rfl (leb rfl) (leb rfl) ⟨rfl, rfl⟩
theorem d0_0 : dc k0 0 (.aload_n 0) 1 := by decide +kernel
theorem d0_1 : dc k0 1 (.invokespecial 1) 3 := by decide +kernel
theorem d0_4 : dc k0 4 (.aload_n 0) 1 := by decide +kernel
theorem d0_5 : dc k0 5 (.sipush 256) 3 := by decide +kernel
theorem d0_8 : dc k0 8 (.newarray .int) 2 := by decide +kernel
theorem d0_10 : dc k0 10 (.putfield 7) 3 := by decide +kernel
theorem d0_13 : dc k0 13 (.aload_n 0) 1 := by decide +kernel
theorem d0_14 : dc k0 14 (.sipush 256) 3 := by decide +kernel
theorem d0_17 : dc k0 17 (.newarray .int) 2 := by decide +kernel
theorem d0_19 : dc k0 19 (.putfield 13) 3 := by decide +kernel
theorem d0_22 : dc k0 22 (.aload_n 0) 1 := by decide +kernel
theorem d0_23 : dc k0 23 (.bipush 16) 2 := by decide +kernel
theorem d0_25 : dc k0 25 (.newarray .int) 2 := by decide +kernel
theorem d0_27 : dc k0 27 (.putfield 16) 3 := by decide +kernel
theorem d0_30 : dc k0 30 (.aload_n 0) 1 := by decide +kernel
theorem d0_31 : dc k0 31 (.iconst 4) 1 := by decide +kernel
theorem d0_32 : dc k0 32 (.newarray .boolean) 2 := by decide +kernel
theorem d0_34 : dc k0 34 (.putfield 19) 3 := by decide +kernel
theorem d0_37 : dc k0 37 (.aload_n 0) 1 := by decide +kernel
theorem d0_38 : dc k0 38 (.iconst 4) 1 := by decide +kernel
theorem d0_39 : dc k0 39 (.newarray .int) 2 := by decide +kernel
theorem d0_41 : dc k0 41 (.putfield 23) 3 := by decide +kernel
theorem d0_44 : dc k0 44 (.aload_n 0) 1 := by decide +kernel
theorem d0_45 : dc k0 45 (.iconst 4) 1 := by decide +kernel
theorem d0_46 : dc k0 46 (.newarray .int) 2 := by decide +kernel
theorem d0_48 : dc k0 48 (.putfield 26) 3 := by decide +kernel
theorem d0_51 : dc k0 51 (.aload_n 0) 1 := by decide +kernel
theorem d0_52 : dc k0 52 (.iconst 4) 1 := by decide +kernel
theorem d0_53 : dc k0 53 (.newarray .int) 2 := by decide +kernel
theorem d0_55 : dc k0 55 (.putfield 29) 3 := by decide +kernel
theorem d0_58 : dc k0 58 (.aload_n 0) 1 := by decide +kernel
theorem d0_59 : dc k0 59 (.iconst 4) 1 := by decide +kernel
theorem d0_60 : dc k0 60 (.newarray .int) 2 := by decide +kernel
theorem d0_62 : dc k0 62 (.putfield 32) 3 := by decide +kernel
theorem d0_65 : dc k0 65 (.aload_n 0) 1 := by decide +kernel
theorem d0_66 : dc k0 66 (.iconst 4) 1 := by decide +kernel
theorem d0_67 : dc k0 67 (.newarray .int) 2 := by decide +kernel
theorem d0_69 : dc k0 69 (.putfield 35) 3 := by decide +kernel
theorem d0_72 : dc k0 72 (.aload_n 0) 1 := by decide +kernel
theorem d0_73 : dc k0 73 (.bipush 32) 2 := by decide +kernel
theorem d0_75 : dc k0 75 (.newarray .int) 2 := by decide +kernel
theorem d0_77 : dc k0 77 (.putfield 38) 3 := by decide +kernel
theorem d0_80 : dc k0 80 (.aload_n 0) 1 := by decide +kernel
theorem d0_81 : dc k0 81 (.bipush 32) 2 := by decide +kernel
theorem d0_83 : dc k0 83 (.newarray .boolean) 2 := by decide +kernel
theorem d0_85 : dc k0 85 (.putfield 41) 3 := by decide +kernel
theorem d0_88 : dc k0 88 (.aload_n 0) 1 := by decide +kernel
theorem d0_89 : dc k0 89 (.bipush 32) 2 := by decide +kernel
theorem d0_91 : dc k0 91 (.newarray .int) 2 := by decide +kernel
theorem d0_93 : dc k0 93 (.putfield 44) 3 := by decide +kernel
theorem d0_96 : dc k0 96 (.aload_n 0) 1 := by decide +kernel
theorem d0_97 : dc k0 97 (.sipush 256) 3 := by decide +kernel
theorem d0_100 : dc k0 100 (.newarray .int) 2 := by decide +kernel
theorem d0_102 : dc k0 102 (.putfield 47) 3 := by decide +kernel
theorem d0_105 : dc k0 105 (.aload_n 0) 1 := by decide +kernel
theorem d0_106 : dc k0 106 (.sipush 256) 3 := by decide +kernel
theorem d0_109 : dc k0 109 (.newarray .int) 2 := by decide +kernel
theorem d0_111 : dc k0 111 (.putfield 50) 3 := by decide +kernel
theorem d0_114 : dc k0 114 (.aload_n 0) 1 := by decide +kernel
theorem d0_115 : dc k0 115 (.sipush 256) 3 := by decide +kernel
theorem d0_118 : dc k0 118 (.newarray .int) 2 := by decide +kernel
theorem d0_120 : dc k0 120 (.putfield 53) 3 := by decide +kernel
theorem d0_123 : dc k0 123 (.aload_n 0) 1 := by decide +kernel
theorem d0_124 : dc k0 124 (.bipush 16) 2 := by decide +kernel
theorem d0_126 : dc k0 126 (.newarray .int) 2 := by decide +kernel
theorem d0_128 : dc k0 128 (.putfield 56) 3 := by decide +kernel
theorem d0_131 : dc k0 131 (.aload_n 0) 1 := by decide +kernel
theorem d0_132 : dc k0 132 (.bipush 64) 2 := by decide +kernel
theorem d0_134 : dc k0 134 (.newarray .int) 2 := by decide +kernel
theorem d0_136 : dc k0 136 (.putfield 59) 3 := by decide +kernel
theorem d0_139 : dc k0 139 (.aload_n 0) 1 := by decide +kernel
theorem d0_140 : dc k0 140 (.bipush 64) 2 := by decide +kernel
theorem d0_142 : dc k0 142 (.newarray .int) 2 := by decide +kernel
theorem d0_144 : dc k0 144 (.putfield 62) 3 := by decide +kernel
theorem d0_147 : dc k0 147 (.aload_n 0) 1 := by decide +kernel
theorem d0_148 : dc k0 148 (.bipush 64) 2 := by decide +kernel
theorem d0_150 : dc k0 150 (.newarray .int) 2 := by decide +kernel
theorem d0_152 : dc k0 152 (.putfield 65) 3 := by decide +kernel
theorem d0_155 : dc k0 155 (.aload_n 0) 1 := by decide +kernel
theorem d0_156 : dc k0 156 (.sipush 4096) 3 := by decide +kernel
theorem d0_159 : dc k0 159 (.newarray .int) 2 := by decide +kernel
theorem d0_161 : dc k0 161 (.putfield 68) 3 := by decide +kernel
theorem d0_164 : dc k0 164 (.aload_n 0) 1 := by decide +kernel
theorem d0_165 : dc k0 165 (.sipush 4096) 3 := by decide +kernel
theorem d0_168 : dc k0 168 (.newarray .int) 2 := by decide +kernel
theorem d0_170 : dc k0 170 (.putfield 71) 3 := by decide +kernel
theorem d0_173 : dc k0 173 (.aload_n 0) 1 := by decide +kernel
theorem d0_174 : dc k0 174 (.sipush 4096) 3 := by decide +kernel
theorem d0_177 : dc k0 177 (.newarray .boolean) 2 := by decide +kernel
theorem d0_179 : dc k0 179 (.putfield 74) 3 := by decide +kernel
theorem d0_182 : dc k0 182 (.aload_n 0) 1 := by decide +kernel
theorem d0_183 : dc k0 183 (.bipush 8) 2 := by decide +kernel
theorem d0_185 : dc k0 185 (.newarray .int) 2 := by decide +kernel
theorem d0_187 : dc k0 187 (.putfield 77) 3 := by decide +kernel
theorem d0_190 : dc k0 190 (.aload_n 0) 1 := by decide +kernel
theorem d0_191 : dc k0 191 (.bipush 8) 2 := by decide +kernel
theorem d0_193 : dc k0 193 (.newarray .int) 2 := by decide +kernel
theorem d0_195 : dc k0 195 (.putfield 80) 3 := by decide +kernel
theorem d0_198 : dc k0 198 (.aload_n 0) 1 := by decide +kernel
theorem d0_199 : dc k0 199 (.bipush 8) 2 := by decide +kernel
theorem d0_201 : dc k0 201 (.newarray .int) 2 := by decide +kernel
theorem d0_203 : dc k0 203 (.putfield 83) 3 := by decide +kernel
theorem d0_206 : dc k0 206 (.aload_n 0) 1 := by decide +kernel
theorem d0_207 : dc k0 207 (.bipush 8) 2 := by decide +kernel
theorem d0_209 : dc k0 209 (.newarray .int) 2 := by decide +kernel
theorem d0_211 : dc k0 211 (.putfield 86) 3 := by decide +kernel
theorem d0_214 : dc k0 214 (.aload_n 0) 1 := by decide +kernel
theorem d0_215 : dc k0 215 (.bipush 8) 2 := by decide +kernel
theorem d0_217 : dc k0 217 (.newarray .int) 2 := by decide +kernel
theorem d0_219 : dc k0 219 (.putfield 89) 3 := by decide +kernel
theorem d0_222 : dc k0 222 (.aload_n 0) 1 := by decide +kernel
theorem d0_223 : dc k0 223 (.iconst 4) 1 := by decide +kernel
theorem d0_224 : dc k0 224 (.newarray .int) 2 := by decide +kernel
theorem d0_226 : dc k0 226 (.putfield 92) 3 := by decide +kernel
theorem d0_229 : dc k0 229 (.aload_n 0) 1 := by decide +kernel
theorem d0_230 : dc k0 230 (.iconst 4) 1 := by decide +kernel
theorem d0_231 : dc k0 231 (.newarray .int) 2 := by decide +kernel
theorem d0_233 : dc k0 233 (.putfield 95) 3 := by decide +kernel
theorem d0_236 : dc k0 236 (.aload_n 0) 1 := by decide +kernel
theorem d0_237 : dc k0 237 (.iconst 4) 1 := by decide +kernel
theorem d0_238 : dc k0 238 (.newarray .int) 2 := by decide +kernel
theorem d0_240 : dc k0 240 (.putfield 98) 3 := by decide +kernel
theorem d0_243 : dc k0 243 (.aload_n 0) 1 := by decide +kernel
theorem d0_244 : dc k0 244 (.bipush 8) 2 := by decide +kernel
theorem d0_246 : dc k0 246 (.newarray .int) 2 := by decide +kernel
theorem d0_248 : dc k0 248 (.putfield 101) 3 := by decide +kernel
theorem d0_251 : dc k0 251 (.aload_n 0) 1 := by decide +kernel
theorem d0_252 : dc k0 252 (.bipush 8) 2 := by decide +kernel
theorem d0_254 : dc k0 254 (.newarray .int) 2 := by decide +kernel
theorem d0_256 : dc k0 256 (.putfield 104) 3 := by decide +kernel
theorem d0_259 : dc k0 259 (.aload_n 0) 1 := by decide +kernel
theorem d0_260 : dc k0 260 (.bipush 8) 2 := by decide +kernel
theorem d0_262 : dc k0 262 (.newarray .int) 2 := by decide +kernel
theorem d0_264 : dc k0 264 (.putfield 107) 3 := by decide +kernel
theorem d0_267 : dc k0 267 (.iload_n 1) 1 := by decide +kernel
theorem d0_268 : dc k0 268 (.istore_n 3) 1 := by decide +kernel
theorem d0_269 : dc k0 269 (.iload_n 3) 1 := by decide +kernel
theorem d0_270 : dc k0 270 (.bipush 8) 2 := by decide +kernel
theorem d0_272 : dc k0 272 (.if_icmp .ge 6) 3 := by decide +kernel
theorem d0_275 : dc k0 275 (.bipush 8) 2 := by decide +kernel
theorem d0_277 : dc k0 277 (.istore_n 3) 1 := by decide +kernel
theorem d0_278 : dc k0 278 (.iload_n 3) 1 := by decide +kernel
theorem d0_279 : dc k0 279 (.bipush 64) 2 := by decide +kernel
theorem d0_281 : dc k0 281 (.if_icmp .le 6) 3 := by decide +kernel
theorem d0_284 : dc k0 284 (.bipush 64) 2 := by decide +kernel
theorem d0_286 : dc k0 286 (.istore_n 3) 1 := by decide +kernel
theorem d0_287 : dc k0 287 (.aload_n 0) 1 := by decide +kernel
theorem d0_288 : dc k0 288 (.iload_n 3) 1 := by decide +kernel
theorem d0_289 : dc k0 289 (.putfield 110) 3 := by decide +kernel
theorem d0_292 : dc k0 292 (.iload_n 2) 1 := by decide +kernel
theorem d0_293 : dc k0 293 (.istore 4) 2 := by decide +kernel
theorem d0_295 : dc k0 295 (.iload 4) 2 := by decide +kernel
theorem d0_297 : dc k0 297 (.iconst 1) 1 := by decide +kernel
theorem d0_298 : dc k0 298 (.if_icmp .ge 6) 3 := by decide +kernel
theorem d0_301 : dc k0 301 (.iconst 1) 1 := by decide +kernel
theorem d0_302 : dc k0 302 (.istore 4) 2 := by decide +kernel
theorem d0_304 : dc k0 304 (.iload 4) 2 := by decide +kernel
theorem d0_306 : dc k0 306 (.bipush 8) 2 := by decide +kernel
theorem d0_308 : dc k0 308 (.if_icmp .le 7) 3 := by decide +kernel
theorem d0_311 : dc k0 311 (.bipush 8) 2 := by decide +kernel
theorem d0_313 : dc k0 313 (.istore 4) 2 := by decide +kernel
theorem d0_315 : dc k0 315 (.aload_n 0) 1 := by decide +kernel
theorem d0_316 : dc k0 316 (.iload 4) 2 := by decide +kernel
theorem d0_318 : dc k0 318 (.putfield 114) 3 := by decide +kernel
theorem d0_321 : dc k0 321 (.aload_n 0) 1 := by decide +kernel
theorem d0_322 : dc k0 322 (.invokevirtual 117) 3 := by decide +kernel
theorem d0_325 : dc k0 325 (.return_) 1 := by decide +kernel
abbrev y0 : MethodName := ⟨"FatPointerC", "<init>", "(II)V"⟩
theorem hy0 : y0.cls ≠ "java/lang/invoke/MethodHandle" ∧ y0.cls ≠ "java/lang/invoke/VarHandle" := by decide
theorem pd0 : parseMethodDescriptor y0.desc = some ⟨[.int, .int], none⟩ := by decide +kernel
abbrev R0 : Room := { frames := 1, cells := 33, slots := 13988, locals := 12 }
abbrev P0 (r : St) : Option Value → List OwnC → Prop := fun v H' => v = none ∧ H' = (Hb 0 r)
abbrev W0 (l : Launch) (Z : State) (n0 : Nat) (Q : Option Value → List OwnC → Prop) (k n pc : Nat) (L : List Slot) (S : List Value) (H : List OwnC) : Prop := WP l Z CN lay "FatPointerC" "<init>" prog_1_method_1_code 5 (none) R0 n0 0 Q k n pc L S H
def f_init_315 (v4 : Int32) (s : St) : Option (St) :=
 lt (sI s 1 v4) fun s1 =>
 (f_clearResults s1).bind fun c2 =>
 some c2
theorem ok0_315 (l : Launch) (Z : State) (a0 : Array Value) (hw : HW a0 Z) (n0 : Nat) (v4 : Int32) (s r : St) (h : f_init_315 v4 s = some r) : W0 l Z n0 (P0 r) 33 13988 315 (vR 0 :: vU :: vU :: vU :: vI v4 :: []) [] (Hb 0 s) := by
 unfold f_init_315 at h
 refine WP.aloadN d0_315 rfl ?_
 refine WP.iload d0_316 rfl ?_
 obtain ⟨s1, es1, h⟩ := lt_e h
 refine WP.putI (i := 0) (j := 1) (H' := (Hb 0 s1)) d0_318 (hw _ m_79) (Or.inl (hw _ m_80)) (hw _ m_1) (hlay hw) rfl rfl rfl (leb rfl) (by subst es1; rfl) ?_
 refine WP.aloadN d0_321 rfl ?_
 obtain ⟨c2, hc2, h⟩ := bd h
 refine WP.callP (i := 0) (y := y1) (as := []) (S := []) d0_322 (hw _ m_81) (hw _ m_83) (hw _ m_1) (hw _ m_82) (hw _ m_84) (hw _ m_2) hy1 rfl (ok1 l Z a0 hw s1 _ hc2) rfl (lenOf pd1 rfl) (leb rfl) (leb rfl) (leb rfl) (leb rfl) ?_
 rintro _ _ ⟨rfl, rfl⟩
 show W0 l Z n0 (P0 r) 33 13988 325 (vR 0 :: vU :: vU :: vU :: vI v4 :: []) [] (Hb 0 c2)
 cases h
 exact WP.vreturn d0_325 rfl (leb rfl) (leb rfl) ⟨rfl, rfl⟩
def f_init_304 (v4 : Int32) (s : St) : Option (St) :=
 if (8 : Int32) < v4 then
  f_init_315 (8 : Int32) s
 else
  f_init_315 v4 s
theorem ok0_304 (l : Launch) (Z : State) (a0 : Array Value) (hw : HW a0 Z) (n0 : Nat) (v4 : Int32) (s r : St) (h : f_init_304 v4 s = some r) : W0 l Z n0 (P0 r) 33 13988 304 (vR 0 :: vU :: vU :: vU :: vI v4 :: []) [] (Hb 0 s) := by
 unfold f_init_304 at h
 refine WP.iload d0_304 rfl ?_
 refine WP.bipush (8 : Int32) d0_306 rfl ?_
 rcases ite_e h with ⟨hc1, h⟩ | ⟨hc1, h⟩
 ·
  refine WP.icmpN d0_308 (XT.ii_le_f hc1) ?_
  refine WP.bipush (8 : Int32) d0_311 rfl ?_
  refine WP.istore (L' := (vR 0 :: vU :: vU :: vU :: vI (8 : Int32) :: [])) d0_313 (leb rfl) rfl ?_
  exact WP.weak (L' := (vR 0 :: vU :: vU :: vU :: vI (8 : Int32) :: [])) ⟨rfl, rfl, trivial⟩ (ok0_315 l Z a0 hw n0 (8 : Int32) s _ h)
 ·
  refine WP.icmpY (pc' := 315) d0_308 (XT.ii_le_t hc1) (by decide) rfl ?_
  exact WP.weak (L' := (vR 0 :: vU :: vU :: vU :: vI v4 :: [])) ⟨rfl, rfl, trivial⟩ (ok0_315 l Z a0 hw n0 v4 s _ h)
def f_init_287 (v2 v3 : Int32) (s : St) : Option (St) :=
 lt (sI s 0 v3) fun s1 =>
 if v2 < (1 : Int32) then
  f_init_304 (1 : Int32) s1
 else
  f_init_304 v2 s1
theorem ok0_287 (l : Launch) (Z : State) (a0 : Array Value) (hw : HW a0 Z) (n0 : Nat) (v2 v3 : Int32) (s r : St) (h : f_init_287 v2 v3 s = some r) : W0 l Z n0 (P0 r) 33 13988 287 (vR 0 :: vU :: vI v2 :: vI v3 :: vU :: []) [] (Hb 0 s) := by
 unfold f_init_287 at h
 refine WP.aloadN d0_287 rfl ?_
 refine WP.iloadN d0_288 rfl ?_
 obtain ⟨s1, es1, h⟩ := lt_e h
 refine WP.putI (i := 0) (j := 0) (H' := (Hb 0 s1)) d0_289 (hw _ m_77) (Or.inl (hw _ m_78)) (hw _ m_1) (hlay hw) rfl rfl rfl (leb rfl) (by subst es1; rfl) ?_
 refine WP.iloadN d0_292 rfl ?_
 refine WP.istore (L' := (vR 0 :: vU :: vI v2 :: vI v3 :: vI v2 :: [])) d0_293 (leb rfl) rfl ?_
 refine WP.iload d0_295 rfl ?_
 refine WP.iconst (1 : Int32) d0_297 rfl ?_
 rcases ite_e h with ⟨hc2, h⟩ | ⟨hc2, h⟩
 ·
  refine WP.icmpN d0_298 (XT.ii_ge_f hc2) ?_
  refine WP.iconst (1 : Int32) d0_301 rfl ?_
  refine WP.istore (L' := (vR 0 :: vU :: vI v2 :: vI v3 :: vI (1 : Int32) :: [])) d0_302 (leb rfl) rfl ?_
  exact WP.weak (L' := (vR 0 :: vU :: vU :: vU :: vI (1 : Int32) :: [])) ⟨rfl, rfl, trivial⟩ (ok0_304 l Z a0 hw n0 (1 : Int32) s1 _ h)
 ·
  refine WP.icmpY (pc' := 304) d0_298 (XT.ii_ge_t hc2) (by decide) rfl ?_
  exact WP.weak (L' := (vR 0 :: vU :: vU :: vU :: vI v2 :: [])) ⟨rfl, rfl, trivial⟩ (ok0_304 l Z a0 hw n0 v2 s1 _ h)
def f_init_278 (v2 v3 : Int32) (s : St) : Option (St) :=
 if (64 : Int32) < v3 then
  f_init_287 v2 (64 : Int32) s
 else
  f_init_287 v2 v3 s
theorem ok0_278 (l : Launch) (Z : State) (a0 : Array Value) (hw : HW a0 Z) (n0 : Nat) (v2 v3 : Int32) (s r : St) (h : f_init_278 v2 v3 s = some r) : W0 l Z n0 (P0 r) 33 13988 278 (vR 0 :: vU :: vI v2 :: vI v3 :: vU :: []) [] (Hb 0 s) := by
 unfold f_init_278 at h
 refine WP.iloadN d0_278 rfl ?_
 refine WP.bipush (64 : Int32) d0_279 rfl ?_
 rcases ite_e h with ⟨hc1, h⟩ | ⟨hc1, h⟩
 ·
  refine WP.icmpN d0_281 (XT.ii_le_f hc1) ?_
  refine WP.bipush (64 : Int32) d0_284 rfl ?_
  refine WP.istoreN (L' := (vR 0 :: vU :: vI v2 :: vI (64 : Int32) :: vU :: [])) d0_286 (leb rfl) rfl ?_
  exact WP.weak (L' := (vR 0 :: vU :: vI v2 :: vI (64 : Int32) :: vU :: [])) ⟨rfl, rfl, rfl, trivial⟩ (ok0_287 l Z a0 hw n0 v2 (64 : Int32) s _ h)
 ·
  refine WP.icmpY (pc' := 287) d0_281 (XT.ii_le_t hc1) (by decide) rfl ?_
  exact WP.weak (L' := (vR 0 :: vU :: vI v2 :: vI v3 :: vU :: [])) ⟨rfl, rfl, rfl, trivial⟩ (ok0_287 l Z a0 hw n0 v2 v3 s _ h)
def f_init (p1 p2 : Int32) : Option (St) :=
 lt (st0) fun s1 =>
 if p1 < (8 : Int32) then
  f_init_278 p2 (8 : Int32) s1
 else
  f_init_278 p2 p1 s1
theorem ok0 (l : Launch) (Z : State) (a0 : Array Value) (hw : HW a0 Z) (p1 p2 : Int32) (r : St) (h : f_init p1 p2 = some r) : CS l Z CN lay y0 prog_1_method_1_code 5 (none) R0 0 [.ref 0, .int p1, .int p2] [cO vs0] (P0 r) := by
 refine CS.of_wp pn_cls (leb rfl) fun n0 => ?_
 show W0 l Z n0 (P0 r) 0 0 0 (vR 0 :: vI p1 :: vI p2 :: vU :: vU :: []) [] [cO vs0]
 unfold f_init at h
 refine WP.aloadN d0_0 rfl ?_
 refine WP.initO d0_1 (hw _ m_6) (hw _ m_7) (hw _ m_8) (leb rfl) (leb rfl) ?_
 refine WP.aloadN d0_4 rfl ?_
 refine WP.sipush (256 : Int32) d0_5 rfl ?_
 refine WP.newarray d0_8 (hw _ m_9) (by decide) (leb rfl) (leb rfl) (leb rfl) (Or.inl ⟨rfl, rfl⟩) ?_
 show W0 l Z n0 (P0 r) 1 256 10 (vR 0 :: vI p1 :: vI p2 :: vU :: vU :: []) [.ref 1, .ref 0] ([cO [oN, oN, oN, .null, .null, oN, oN, oN, oN, oN, oN, oN, oN, .null, .null, .null, .null, .null, .null, .null, .null, .null, .null, .null, .null, .null, oN, oN, oN, .null, .null, .null, .null, .null, .null, .null, oN, .null, .null, .null, .null, .null, oN, oN, oN, oN, .null, .null, .null, .null, .null, .null], oI 256] : List OwnC)
 refine WP.putR (ty := .array .int) (i := 0) (j := 3) (H' := ([cO [oN, oN, oN, .ref 1, .null, oN, oN, oN, oN, oN, oN, oN, oN, .null, .null, .null, .null, .null, .null, .null, .null, .null, .null, .null, .null, .null, oN, oN, oN, .null, .null, .null, .null, .null, .null, .null, oN, .null, .null, .null, .null, .null, oN, oN, oN, oN, .null, .null, .null, .null, .null, .null], oI 256] : List OwnC)) d0_10 (hw _ m_10) (Or.inl (hw _ m_11)) (hw _ m_1) (hlay hw) (by decide) (fun _ => rfl) (fun _ => rfl) rfl rfl rfl (leb rfl) rfl ?_
 refine WP.aloadN d0_13 rfl ?_
 refine WP.sipush (256 : Int32) d0_14 rfl ?_
 refine WP.newarray d0_17 (hw _ m_9) (by decide) (leb rfl) (leb rfl) (leb rfl) (Or.inl ⟨rfl, rfl⟩) ?_
 show W0 l Z n0 (P0 r) 2 512 19 (vR 0 :: vI p1 :: vI p2 :: vU :: vU :: []) [.ref 2, .ref 0] ([cO [oN, oN, oN, .ref 1, .null, oN, oN, oN, oN, oN, oN, oN, oN, .null, .null, .null, .null, .null, .null, .null, .null, .null, .null, .null, .null, .null, oN, oN, oN, .null, .null, .null, .null, .null, .null, .null, oN, .null, .null, .null, .null, .null, oN, oN, oN, oN, .null, .null, .null, .null, .null, .null], oI 256, oI 256] : List OwnC)
 refine WP.putR (ty := .array .int) (i := 0) (j := 4) (H' := ([cO [oN, oN, oN, .ref 1, .ref 2, oN, oN, oN, oN, oN, oN, oN, oN, .null, .null, .null, .null, .null, .null, .null, .null, .null, .null, .null, .null, .null, oN, oN, oN, .null, .null, .null, .null, .null, .null, .null, oN, .null, .null, .null, .null, .null, oN, oN, oN, oN, .null, .null, .null, .null, .null, .null], oI 256, oI 256] : List OwnC)) d0_19 (hw _ m_12) (Or.inl (hw _ m_13)) (hw _ m_1) (hlay hw) (by decide) (fun _ => rfl) (fun _ => rfl) rfl rfl rfl (leb rfl) rfl ?_
 refine WP.aloadN d0_22 rfl ?_
 refine WP.bipush (16 : Int32) d0_23 rfl ?_
 refine WP.newarray d0_25 (hw _ m_9) (by decide) (leb rfl) (leb rfl) (leb rfl) (Or.inl ⟨rfl, rfl⟩) ?_
 show W0 l Z n0 (P0 r) 3 528 27 (vR 0 :: vI p1 :: vI p2 :: vU :: vU :: []) [.ref 3, .ref 0] ([cO [oN, oN, oN, .ref 1, .ref 2, oN, oN, oN, oN, oN, oN, oN, oN, .null, .null, .null, .null, .null, .null, .null, .null, .null, .null, .null, .null, .null, oN, oN, oN, .null, .null, .null, .null, .null, .null, .null, oN, .null, .null, .null, .null, .null, oN, oN, oN, oN, .null, .null, .null, .null, .null, .null], oI 256, oI 256, oI 16] : List OwnC)
 refine WP.putR (ty := .array .int) (i := 0) (j := 13) (H' := ([cO [oN, oN, oN, .ref 1, .ref 2, oN, oN, oN, oN, oN, oN, oN, oN, .ref 3, .null, .null, .null, .null, .null, .null, .null, .null, .null, .null, .null, .null, oN, oN, oN, .null, .null, .null, .null, .null, .null, .null, oN, .null, .null, .null, .null, .null, oN, oN, oN, oN, .null, .null, .null, .null, .null, .null], oI 256, oI 256, oI 16] : List OwnC)) d0_27 (hw _ m_14) (Or.inl (hw _ m_15)) (hw _ m_1) (hlay hw) (by decide) (fun _ => rfl) (fun _ => rfl) rfl rfl rfl (leb rfl) rfl ?_
 refine WP.aloadN d0_30 rfl ?_
 refine WP.iconst (4 : Int32) d0_31 rfl ?_
 refine WP.newarray d0_32 (hw _ m_16) (by decide) (leb rfl) (leb rfl) (leb rfl) (Or.inr (Or.inr ⟨rfl, rfl⟩)) ?_
 show W0 l Z n0 (P0 r) 4 532 34 (vR 0 :: vI p1 :: vI p2 :: vU :: vU :: []) [.ref 4, .ref 0] ([cO [oN, oN, oN, .ref 1, .ref 2, oN, oN, oN, oN, oN, oN, oN, oN, .ref 3, .null, .null, .null, .null, .null, .null, .null, .null, .null, .null, .null, .null, oN, oN, oN, .null, .null, .null, .null, .null, .null, .null, oN, .null, .null, .null, .null, .null, oN, oN, oN, oN, .null, .null, .null, .null, .null, .null], oI 256, oI 256, oI 16, oZ 4] : List OwnC)
 refine WP.putR (ty := .array .boolean) (i := 0) (j := 14) (H' := ([cO [oN, oN, oN, .ref 1, .ref 2, oN, oN, oN, oN, oN, oN, oN, oN, .ref 3, .ref 4, .null, .null, .null, .null, .null, .null, .null, .null, .null, .null, .null, oN, oN, oN, .null, .null, .null, .null, .null, .null, .null, oN, .null, .null, .null, .null, .null, oN, oN, oN, oN, .null, .null, .null, .null, .null, .null], oI 256, oI 256, oI 16, oZ 4] : List OwnC)) d0_34 (hw _ m_17) (Or.inl (hw _ m_18)) (hw _ m_1) (hlay hw) (by decide) (fun _ => rfl) (fun _ => rfl) rfl rfl rfl (leb rfl) rfl ?_
 refine WP.aloadN d0_37 rfl ?_
 refine WP.iconst (4 : Int32) d0_38 rfl ?_
 refine WP.newarray d0_39 (hw _ m_9) (by decide) (leb rfl) (leb rfl) (leb rfl) (Or.inl ⟨rfl, rfl⟩) ?_
 show W0 l Z n0 (P0 r) 5 536 41 (vR 0 :: vI p1 :: vI p2 :: vU :: vU :: []) [.ref 5, .ref 0] ([cO [oN, oN, oN, .ref 1, .ref 2, oN, oN, oN, oN, oN, oN, oN, oN, .ref 3, .ref 4, .null, .null, .null, .null, .null, .null, .null, .null, .null, .null, .null, oN, oN, oN, .null, .null, .null, .null, .null, .null, .null, oN, .null, .null, .null, .null, .null, oN, oN, oN, oN, .null, .null, .null, .null, .null, .null], oI 256, oI 256, oI 16, oZ 4, oI 4] : List OwnC)
 refine WP.putR (ty := .array .int) (i := 0) (j := 15) (H' := ([cO [oN, oN, oN, .ref 1, .ref 2, oN, oN, oN, oN, oN, oN, oN, oN, .ref 3, .ref 4, .ref 5, .null, .null, .null, .null, .null, .null, .null, .null, .null, .null, oN, oN, oN, .null, .null, .null, .null, .null, .null, .null, oN, .null, .null, .null, .null, .null, oN, oN, oN, oN, .null, .null, .null, .null, .null, .null], oI 256, oI 256, oI 16, oZ 4, oI 4] : List OwnC)) d0_41 (hw _ m_19) (Or.inl (hw _ m_20)) (hw _ m_1) (hlay hw) (by decide) (fun _ => rfl) (fun _ => rfl) rfl rfl rfl (leb rfl) rfl ?_
 refine WP.aloadN d0_44 rfl ?_
 refine WP.iconst (4 : Int32) d0_45 rfl ?_
 refine WP.newarray d0_46 (hw _ m_9) (by decide) (leb rfl) (leb rfl) (leb rfl) (Or.inl ⟨rfl, rfl⟩) ?_
 show W0 l Z n0 (P0 r) 6 540 48 (vR 0 :: vI p1 :: vI p2 :: vU :: vU :: []) [.ref 6, .ref 0] ([cO [oN, oN, oN, .ref 1, .ref 2, oN, oN, oN, oN, oN, oN, oN, oN, .ref 3, .ref 4, .ref 5, .null, .null, .null, .null, .null, .null, .null, .null, .null, .null, oN, oN, oN, .null, .null, .null, .null, .null, .null, .null, oN, .null, .null, .null, .null, .null, oN, oN, oN, oN, .null, .null, .null, .null, .null, .null], oI 256, oI 256, oI 16, oZ 4, oI 4, oI 4] : List OwnC)
 refine WP.putR (ty := .array .int) (i := 0) (j := 16) (H' := ([cO [oN, oN, oN, .ref 1, .ref 2, oN, oN, oN, oN, oN, oN, oN, oN, .ref 3, .ref 4, .ref 5, .ref 6, .null, .null, .null, .null, .null, .null, .null, .null, .null, oN, oN, oN, .null, .null, .null, .null, .null, .null, .null, oN, .null, .null, .null, .null, .null, oN, oN, oN, oN, .null, .null, .null, .null, .null, .null], oI 256, oI 256, oI 16, oZ 4, oI 4, oI 4] : List OwnC)) d0_48 (hw _ m_21) (Or.inl (hw _ m_22)) (hw _ m_1) (hlay hw) (by decide) (fun _ => rfl) (fun _ => rfl) rfl rfl rfl (leb rfl) rfl ?_
 refine WP.aloadN d0_51 rfl ?_
 refine WP.iconst (4 : Int32) d0_52 rfl ?_
 refine WP.newarray d0_53 (hw _ m_9) (by decide) (leb rfl) (leb rfl) (leb rfl) (Or.inl ⟨rfl, rfl⟩) ?_
 show W0 l Z n0 (P0 r) 7 544 55 (vR 0 :: vI p1 :: vI p2 :: vU :: vU :: []) [.ref 7, .ref 0] ([cO [oN, oN, oN, .ref 1, .ref 2, oN, oN, oN, oN, oN, oN, oN, oN, .ref 3, .ref 4, .ref 5, .ref 6, .null, .null, .null, .null, .null, .null, .null, .null, .null, oN, oN, oN, .null, .null, .null, .null, .null, .null, .null, oN, .null, .null, .null, .null, .null, oN, oN, oN, oN, .null, .null, .null, .null, .null, .null], oI 256, oI 256, oI 16, oZ 4, oI 4, oI 4, oI 4] : List OwnC)
 refine WP.putR (ty := .array .int) (i := 0) (j := 17) (H' := ([cO [oN, oN, oN, .ref 1, .ref 2, oN, oN, oN, oN, oN, oN, oN, oN, .ref 3, .ref 4, .ref 5, .ref 6, .ref 7, .null, .null, .null, .null, .null, .null, .null, .null, oN, oN, oN, .null, .null, .null, .null, .null, .null, .null, oN, .null, .null, .null, .null, .null, oN, oN, oN, oN, .null, .null, .null, .null, .null, .null], oI 256, oI 256, oI 16, oZ 4, oI 4, oI 4, oI 4] : List OwnC)) d0_55 (hw _ m_23) (Or.inl (hw _ m_24)) (hw _ m_1) (hlay hw) (by decide) (fun _ => rfl) (fun _ => rfl) rfl rfl rfl (leb rfl) rfl ?_
 refine WP.aloadN d0_58 rfl ?_
 refine WP.iconst (4 : Int32) d0_59 rfl ?_
 refine WP.newarray d0_60 (hw _ m_9) (by decide) (leb rfl) (leb rfl) (leb rfl) (Or.inl ⟨rfl, rfl⟩) ?_
 show W0 l Z n0 (P0 r) 8 548 62 (vR 0 :: vI p1 :: vI p2 :: vU :: vU :: []) [.ref 8, .ref 0] ([cO [oN, oN, oN, .ref 1, .ref 2, oN, oN, oN, oN, oN, oN, oN, oN, .ref 3, .ref 4, .ref 5, .ref 6, .ref 7, .null, .null, .null, .null, .null, .null, .null, .null, oN, oN, oN, .null, .null, .null, .null, .null, .null, .null, oN, .null, .null, .null, .null, .null, oN, oN, oN, oN, .null, .null, .null, .null, .null, .null], oI 256, oI 256, oI 16, oZ 4, oI 4, oI 4, oI 4, oI 4] : List OwnC)
 refine WP.putR (ty := .array .int) (i := 0) (j := 18) (H' := ([cO [oN, oN, oN, .ref 1, .ref 2, oN, oN, oN, oN, oN, oN, oN, oN, .ref 3, .ref 4, .ref 5, .ref 6, .ref 7, .ref 8, .null, .null, .null, .null, .null, .null, .null, oN, oN, oN, .null, .null, .null, .null, .null, .null, .null, oN, .null, .null, .null, .null, .null, oN, oN, oN, oN, .null, .null, .null, .null, .null, .null], oI 256, oI 256, oI 16, oZ 4, oI 4, oI 4, oI 4, oI 4] : List OwnC)) d0_62 (hw _ m_25) (Or.inl (hw _ m_26)) (hw _ m_1) (hlay hw) (by decide) (fun _ => rfl) (fun _ => rfl) rfl rfl rfl (leb rfl) rfl ?_
 refine WP.aloadN d0_65 rfl ?_
 refine WP.iconst (4 : Int32) d0_66 rfl ?_
 refine WP.newarray d0_67 (hw _ m_9) (by decide) (leb rfl) (leb rfl) (leb rfl) (Or.inl ⟨rfl, rfl⟩) ?_
 show W0 l Z n0 (P0 r) 9 552 69 (vR 0 :: vI p1 :: vI p2 :: vU :: vU :: []) [.ref 9, .ref 0] ([cO [oN, oN, oN, .ref 1, .ref 2, oN, oN, oN, oN, oN, oN, oN, oN, .ref 3, .ref 4, .ref 5, .ref 6, .ref 7, .ref 8, .null, .null, .null, .null, .null, .null, .null, oN, oN, oN, .null, .null, .null, .null, .null, .null, .null, oN, .null, .null, .null, .null, .null, oN, oN, oN, oN, .null, .null, .null, .null, .null, .null], oI 256, oI 256, oI 16, oZ 4, oI 4, oI 4, oI 4, oI 4, oI 4] : List OwnC)
 refine WP.putR (ty := .array .int) (i := 0) (j := 19) (H' := ([cO [oN, oN, oN, .ref 1, .ref 2, oN, oN, oN, oN, oN, oN, oN, oN, .ref 3, .ref 4, .ref 5, .ref 6, .ref 7, .ref 8, .ref 9, .null, .null, .null, .null, .null, .null, oN, oN, oN, .null, .null, .null, .null, .null, .null, .null, oN, .null, .null, .null, .null, .null, oN, oN, oN, oN, .null, .null, .null, .null, .null, .null], oI 256, oI 256, oI 16, oZ 4, oI 4, oI 4, oI 4, oI 4, oI 4] : List OwnC)) d0_69 (hw _ m_27) (Or.inl (hw _ m_28)) (hw _ m_1) (hlay hw) (by decide) (fun _ => rfl) (fun _ => rfl) rfl rfl rfl (leb rfl) rfl ?_
 refine WP.aloadN d0_72 rfl ?_
 refine WP.bipush (32 : Int32) d0_73 rfl ?_
 refine WP.newarray d0_75 (hw _ m_9) (by decide) (leb rfl) (leb rfl) (leb rfl) (Or.inl ⟨rfl, rfl⟩) ?_
 show W0 l Z n0 (P0 r) 10 584 77 (vR 0 :: vI p1 :: vI p2 :: vU :: vU :: []) [.ref 10, .ref 0] ([cO [oN, oN, oN, .ref 1, .ref 2, oN, oN, oN, oN, oN, oN, oN, oN, .ref 3, .ref 4, .ref 5, .ref 6, .ref 7, .ref 8, .ref 9, .null, .null, .null, .null, .null, .null, oN, oN, oN, .null, .null, .null, .null, .null, .null, .null, oN, .null, .null, .null, .null, .null, oN, oN, oN, oN, .null, .null, .null, .null, .null, .null], oI 256, oI 256, oI 16, oZ 4, oI 4, oI 4, oI 4, oI 4, oI 4, oI 32] : List OwnC)
 refine WP.putR (ty := .array .int) (i := 0) (j := 20) (H' := ([cO [oN, oN, oN, .ref 1, .ref 2, oN, oN, oN, oN, oN, oN, oN, oN, .ref 3, .ref 4, .ref 5, .ref 6, .ref 7, .ref 8, .ref 9, .ref 10, .null, .null, .null, .null, .null, oN, oN, oN, .null, .null, .null, .null, .null, .null, .null, oN, .null, .null, .null, .null, .null, oN, oN, oN, oN, .null, .null, .null, .null, .null, .null], oI 256, oI 256, oI 16, oZ 4, oI 4, oI 4, oI 4, oI 4, oI 4, oI 32] : List OwnC)) d0_77 (hw _ m_29) (Or.inl (hw _ m_30)) (hw _ m_1) (hlay hw) (by decide) (fun _ => rfl) (fun _ => rfl) rfl rfl rfl (leb rfl) rfl ?_
 refine WP.aloadN d0_80 rfl ?_
 refine WP.bipush (32 : Int32) d0_81 rfl ?_
 refine WP.newarray d0_83 (hw _ m_16) (by decide) (leb rfl) (leb rfl) (leb rfl) (Or.inr (Or.inr ⟨rfl, rfl⟩)) ?_
 show W0 l Z n0 (P0 r) 11 616 85 (vR 0 :: vI p1 :: vI p2 :: vU :: vU :: []) [.ref 11, .ref 0] ([cO [oN, oN, oN, .ref 1, .ref 2, oN, oN, oN, oN, oN, oN, oN, oN, .ref 3, .ref 4, .ref 5, .ref 6, .ref 7, .ref 8, .ref 9, .ref 10, .null, .null, .null, .null, .null, oN, oN, oN, .null, .null, .null, .null, .null, .null, .null, oN, .null, .null, .null, .null, .null, oN, oN, oN, oN, .null, .null, .null, .null, .null, .null], oI 256, oI 256, oI 16, oZ 4, oI 4, oI 4, oI 4, oI 4, oI 4, oI 32, oZ 32] : List OwnC)
 refine WP.putR (ty := .array .boolean) (i := 0) (j := 21) (H' := ([cO [oN, oN, oN, .ref 1, .ref 2, oN, oN, oN, oN, oN, oN, oN, oN, .ref 3, .ref 4, .ref 5, .ref 6, .ref 7, .ref 8, .ref 9, .ref 10, .ref 11, .null, .null, .null, .null, oN, oN, oN, .null, .null, .null, .null, .null, .null, .null, oN, .null, .null, .null, .null, .null, oN, oN, oN, oN, .null, .null, .null, .null, .null, .null], oI 256, oI 256, oI 16, oZ 4, oI 4, oI 4, oI 4, oI 4, oI 4, oI 32, oZ 32] : List OwnC)) d0_85 (hw _ m_31) (Or.inl (hw _ m_32)) (hw _ m_1) (hlay hw) (by decide) (fun _ => rfl) (fun _ => rfl) rfl rfl rfl (leb rfl) rfl ?_
 refine WP.aloadN d0_88 rfl ?_
 refine WP.bipush (32 : Int32) d0_89 rfl ?_
 refine WP.newarray d0_91 (hw _ m_9) (by decide) (leb rfl) (leb rfl) (leb rfl) (Or.inl ⟨rfl, rfl⟩) ?_
 show W0 l Z n0 (P0 r) 12 648 93 (vR 0 :: vI p1 :: vI p2 :: vU :: vU :: []) [.ref 12, .ref 0] ([cO [oN, oN, oN, .ref 1, .ref 2, oN, oN, oN, oN, oN, oN, oN, oN, .ref 3, .ref 4, .ref 5, .ref 6, .ref 7, .ref 8, .ref 9, .ref 10, .ref 11, .null, .null, .null, .null, oN, oN, oN, .null, .null, .null, .null, .null, .null, .null, oN, .null, .null, .null, .null, .null, oN, oN, oN, oN, .null, .null, .null, .null, .null, .null], oI 256, oI 256, oI 16, oZ 4, oI 4, oI 4, oI 4, oI 4, oI 4, oI 32, oZ 32, oI 32] : List OwnC)
 refine WP.putR (ty := .array .int) (i := 0) (j := 22) (H' := ([cO [oN, oN, oN, .ref 1, .ref 2, oN, oN, oN, oN, oN, oN, oN, oN, .ref 3, .ref 4, .ref 5, .ref 6, .ref 7, .ref 8, .ref 9, .ref 10, .ref 11, .ref 12, .null, .null, .null, oN, oN, oN, .null, .null, .null, .null, .null, .null, .null, oN, .null, .null, .null, .null, .null, oN, oN, oN, oN, .null, .null, .null, .null, .null, .null], oI 256, oI 256, oI 16, oZ 4, oI 4, oI 4, oI 4, oI 4, oI 4, oI 32, oZ 32, oI 32] : List OwnC)) d0_93 (hw _ m_33) (Or.inl (hw _ m_34)) (hw _ m_1) (hlay hw) (by decide) (fun _ => rfl) (fun _ => rfl) rfl rfl rfl (leb rfl) rfl ?_
 refine WP.aloadN d0_96 rfl ?_
 refine WP.sipush (256 : Int32) d0_97 rfl ?_
 refine WP.newarray d0_100 (hw _ m_9) (by decide) (leb rfl) (leb rfl) (leb rfl) (Or.inl ⟨rfl, rfl⟩) ?_
 show W0 l Z n0 (P0 r) 13 904 102 (vR 0 :: vI p1 :: vI p2 :: vU :: vU :: []) [.ref 13, .ref 0] ([cO [oN, oN, oN, .ref 1, .ref 2, oN, oN, oN, oN, oN, oN, oN, oN, .ref 3, .ref 4, .ref 5, .ref 6, .ref 7, .ref 8, .ref 9, .ref 10, .ref 11, .ref 12, .null, .null, .null, oN, oN, oN, .null, .null, .null, .null, .null, .null, .null, oN, .null, .null, .null, .null, .null, oN, oN, oN, oN, .null, .null, .null, .null, .null, .null], oI 256, oI 256, oI 16, oZ 4, oI 4, oI 4, oI 4, oI 4, oI 4, oI 32, oZ 32, oI 32, oI 256] : List OwnC)
 refine WP.putR (ty := .array .int) (i := 0) (j := 23) (H' := ([cO [oN, oN, oN, .ref 1, .ref 2, oN, oN, oN, oN, oN, oN, oN, oN, .ref 3, .ref 4, .ref 5, .ref 6, .ref 7, .ref 8, .ref 9, .ref 10, .ref 11, .ref 12, .ref 13, .null, .null, oN, oN, oN, .null, .null, .null, .null, .null, .null, .null, oN, .null, .null, .null, .null, .null, oN, oN, oN, oN, .null, .null, .null, .null, .null, .null], oI 256, oI 256, oI 16, oZ 4, oI 4, oI 4, oI 4, oI 4, oI 4, oI 32, oZ 32, oI 32, oI 256] : List OwnC)) d0_102 (hw _ m_35) (Or.inl (hw _ m_36)) (hw _ m_1) (hlay hw) (by decide) (fun _ => rfl) (fun _ => rfl) rfl rfl rfl (leb rfl) rfl ?_
 refine WP.aloadN d0_105 rfl ?_
 refine WP.sipush (256 : Int32) d0_106 rfl ?_
 refine WP.newarray d0_109 (hw _ m_9) (by decide) (leb rfl) (leb rfl) (leb rfl) (Or.inl ⟨rfl, rfl⟩) ?_
 show W0 l Z n0 (P0 r) 14 1160 111 (vR 0 :: vI p1 :: vI p2 :: vU :: vU :: []) [.ref 14, .ref 0] ([cO [oN, oN, oN, .ref 1, .ref 2, oN, oN, oN, oN, oN, oN, oN, oN, .ref 3, .ref 4, .ref 5, .ref 6, .ref 7, .ref 8, .ref 9, .ref 10, .ref 11, .ref 12, .ref 13, .null, .null, oN, oN, oN, .null, .null, .null, .null, .null, .null, .null, oN, .null, .null, .null, .null, .null, oN, oN, oN, oN, .null, .null, .null, .null, .null, .null], oI 256, oI 256, oI 16, oZ 4, oI 4, oI 4, oI 4, oI 4, oI 4, oI 32, oZ 32, oI 32, oI 256, oI 256] : List OwnC)
 refine WP.putR (ty := .array .int) (i := 0) (j := 24) (H' := ([cO [oN, oN, oN, .ref 1, .ref 2, oN, oN, oN, oN, oN, oN, oN, oN, .ref 3, .ref 4, .ref 5, .ref 6, .ref 7, .ref 8, .ref 9, .ref 10, .ref 11, .ref 12, .ref 13, .ref 14, .null, oN, oN, oN, .null, .null, .null, .null, .null, .null, .null, oN, .null, .null, .null, .null, .null, oN, oN, oN, oN, .null, .null, .null, .null, .null, .null], oI 256, oI 256, oI 16, oZ 4, oI 4, oI 4, oI 4, oI 4, oI 4, oI 32, oZ 32, oI 32, oI 256, oI 256] : List OwnC)) d0_111 (hw _ m_37) (Or.inl (hw _ m_38)) (hw _ m_1) (hlay hw) (by decide) (fun _ => rfl) (fun _ => rfl) rfl rfl rfl (leb rfl) rfl ?_
 refine WP.aloadN d0_114 rfl ?_
 refine WP.sipush (256 : Int32) d0_115 rfl ?_
 refine WP.newarray d0_118 (hw _ m_9) (by decide) (leb rfl) (leb rfl) (leb rfl) (Or.inl ⟨rfl, rfl⟩) ?_
 show W0 l Z n0 (P0 r) 15 1416 120 (vR 0 :: vI p1 :: vI p2 :: vU :: vU :: []) [.ref 15, .ref 0] ([cO [oN, oN, oN, .ref 1, .ref 2, oN, oN, oN, oN, oN, oN, oN, oN, .ref 3, .ref 4, .ref 5, .ref 6, .ref 7, .ref 8, .ref 9, .ref 10, .ref 11, .ref 12, .ref 13, .ref 14, .null, oN, oN, oN, .null, .null, .null, .null, .null, .null, .null, oN, .null, .null, .null, .null, .null, oN, oN, oN, oN, .null, .null, .null, .null, .null, .null], oI 256, oI 256, oI 16, oZ 4, oI 4, oI 4, oI 4, oI 4, oI 4, oI 32, oZ 32, oI 32, oI 256, oI 256, oI 256] : List OwnC)
 refine WP.putR (ty := .array .int) (i := 0) (j := 25) (H' := ([cO [oN, oN, oN, .ref 1, .ref 2, oN, oN, oN, oN, oN, oN, oN, oN, .ref 3, .ref 4, .ref 5, .ref 6, .ref 7, .ref 8, .ref 9, .ref 10, .ref 11, .ref 12, .ref 13, .ref 14, .ref 15, oN, oN, oN, .null, .null, .null, .null, .null, .null, .null, oN, .null, .null, .null, .null, .null, oN, oN, oN, oN, .null, .null, .null, .null, .null, .null], oI 256, oI 256, oI 16, oZ 4, oI 4, oI 4, oI 4, oI 4, oI 4, oI 32, oZ 32, oI 32, oI 256, oI 256, oI 256] : List OwnC)) d0_120 (hw _ m_39) (Or.inl (hw _ m_40)) (hw _ m_1) (hlay hw) (by decide) (fun _ => rfl) (fun _ => rfl) rfl rfl rfl (leb rfl) rfl ?_
 refine WP.aloadN d0_123 rfl ?_
 refine WP.bipush (16 : Int32) d0_124 rfl ?_
 refine WP.newarray d0_126 (hw _ m_9) (by decide) (leb rfl) (leb rfl) (leb rfl) (Or.inl ⟨rfl, rfl⟩) ?_
 show W0 l Z n0 (P0 r) 16 1432 128 (vR 0 :: vI p1 :: vI p2 :: vU :: vU :: []) [.ref 16, .ref 0] ([cO [oN, oN, oN, .ref 1, .ref 2, oN, oN, oN, oN, oN, oN, oN, oN, .ref 3, .ref 4, .ref 5, .ref 6, .ref 7, .ref 8, .ref 9, .ref 10, .ref 11, .ref 12, .ref 13, .ref 14, .ref 15, oN, oN, oN, .null, .null, .null, .null, .null, .null, .null, oN, .null, .null, .null, .null, .null, oN, oN, oN, oN, .null, .null, .null, .null, .null, .null], oI 256, oI 256, oI 16, oZ 4, oI 4, oI 4, oI 4, oI 4, oI 4, oI 32, oZ 32, oI 32, oI 256, oI 256, oI 256, oI 16] : List OwnC)
 refine WP.putR (ty := .array .int) (i := 0) (j := 29) (H' := ([cO [oN, oN, oN, .ref 1, .ref 2, oN, oN, oN, oN, oN, oN, oN, oN, .ref 3, .ref 4, .ref 5, .ref 6, .ref 7, .ref 8, .ref 9, .ref 10, .ref 11, .ref 12, .ref 13, .ref 14, .ref 15, oN, oN, oN, .ref 16, .null, .null, .null, .null, .null, .null, oN, .null, .null, .null, .null, .null, oN, oN, oN, oN, .null, .null, .null, .null, .null, .null], oI 256, oI 256, oI 16, oZ 4, oI 4, oI 4, oI 4, oI 4, oI 4, oI 32, oZ 32, oI 32, oI 256, oI 256, oI 256, oI 16] : List OwnC)) d0_128 (hw _ m_41) (Or.inl (hw _ m_42)) (hw _ m_1) (hlay hw) (by decide) (fun _ => rfl) (fun _ => rfl) rfl rfl rfl (leb rfl) rfl ?_
 refine WP.aloadN d0_131 rfl ?_
 refine WP.bipush (64 : Int32) d0_132 rfl ?_
 refine WP.newarray d0_134 (hw _ m_9) (by decide) (leb rfl) (leb rfl) (leb rfl) (Or.inl ⟨rfl, rfl⟩) ?_
 show W0 l Z n0 (P0 r) 17 1496 136 (vR 0 :: vI p1 :: vI p2 :: vU :: vU :: []) [.ref 17, .ref 0] ([cO [oN, oN, oN, .ref 1, .ref 2, oN, oN, oN, oN, oN, oN, oN, oN, .ref 3, .ref 4, .ref 5, .ref 6, .ref 7, .ref 8, .ref 9, .ref 10, .ref 11, .ref 12, .ref 13, .ref 14, .ref 15, oN, oN, oN, .ref 16, .null, .null, .null, .null, .null, .null, oN, .null, .null, .null, .null, .null, oN, oN, oN, oN, .null, .null, .null, .null, .null, .null], oI 256, oI 256, oI 16, oZ 4, oI 4, oI 4, oI 4, oI 4, oI 4, oI 32, oZ 32, oI 32, oI 256, oI 256, oI 256, oI 16, oI 64] : List OwnC)
 refine WP.putR (ty := .array .int) (i := 0) (j := 30) (H' := ([cO [oN, oN, oN, .ref 1, .ref 2, oN, oN, oN, oN, oN, oN, oN, oN, .ref 3, .ref 4, .ref 5, .ref 6, .ref 7, .ref 8, .ref 9, .ref 10, .ref 11, .ref 12, .ref 13, .ref 14, .ref 15, oN, oN, oN, .ref 16, .ref 17, .null, .null, .null, .null, .null, oN, .null, .null, .null, .null, .null, oN, oN, oN, oN, .null, .null, .null, .null, .null, .null], oI 256, oI 256, oI 16, oZ 4, oI 4, oI 4, oI 4, oI 4, oI 4, oI 32, oZ 32, oI 32, oI 256, oI 256, oI 256, oI 16, oI 64] : List OwnC)) d0_136 (hw _ m_43) (Or.inl (hw _ m_44)) (hw _ m_1) (hlay hw) (by decide) (fun _ => rfl) (fun _ => rfl) rfl rfl rfl (leb rfl) rfl ?_
 refine WP.aloadN d0_139 rfl ?_
 refine WP.bipush (64 : Int32) d0_140 rfl ?_
 refine WP.newarray d0_142 (hw _ m_9) (by decide) (leb rfl) (leb rfl) (leb rfl) (Or.inl ⟨rfl, rfl⟩) ?_
 show W0 l Z n0 (P0 r) 18 1560 144 (vR 0 :: vI p1 :: vI p2 :: vU :: vU :: []) [.ref 18, .ref 0] ([cO [oN, oN, oN, .ref 1, .ref 2, oN, oN, oN, oN, oN, oN, oN, oN, .ref 3, .ref 4, .ref 5, .ref 6, .ref 7, .ref 8, .ref 9, .ref 10, .ref 11, .ref 12, .ref 13, .ref 14, .ref 15, oN, oN, oN, .ref 16, .ref 17, .null, .null, .null, .null, .null, oN, .null, .null, .null, .null, .null, oN, oN, oN, oN, .null, .null, .null, .null, .null, .null], oI 256, oI 256, oI 16, oZ 4, oI 4, oI 4, oI 4, oI 4, oI 4, oI 32, oZ 32, oI 32, oI 256, oI 256, oI 256, oI 16, oI 64, oI 64] : List OwnC)
 refine WP.putR (ty := .array .int) (i := 0) (j := 31) (H' := ([cO [oN, oN, oN, .ref 1, .ref 2, oN, oN, oN, oN, oN, oN, oN, oN, .ref 3, .ref 4, .ref 5, .ref 6, .ref 7, .ref 8, .ref 9, .ref 10, .ref 11, .ref 12, .ref 13, .ref 14, .ref 15, oN, oN, oN, .ref 16, .ref 17, .ref 18, .null, .null, .null, .null, oN, .null, .null, .null, .null, .null, oN, oN, oN, oN, .null, .null, .null, .null, .null, .null], oI 256, oI 256, oI 16, oZ 4, oI 4, oI 4, oI 4, oI 4, oI 4, oI 32, oZ 32, oI 32, oI 256, oI 256, oI 256, oI 16, oI 64, oI 64] : List OwnC)) d0_144 (hw _ m_45) (Or.inl (hw _ m_46)) (hw _ m_1) (hlay hw) (by decide) (fun _ => rfl) (fun _ => rfl) rfl rfl rfl (leb rfl) rfl ?_
 refine WP.aloadN d0_147 rfl ?_
 refine WP.bipush (64 : Int32) d0_148 rfl ?_
 refine WP.newarray d0_150 (hw _ m_9) (by decide) (leb rfl) (leb rfl) (leb rfl) (Or.inl ⟨rfl, rfl⟩) ?_
 show W0 l Z n0 (P0 r) 19 1624 152 (vR 0 :: vI p1 :: vI p2 :: vU :: vU :: []) [.ref 19, .ref 0] ([cO [oN, oN, oN, .ref 1, .ref 2, oN, oN, oN, oN, oN, oN, oN, oN, .ref 3, .ref 4, .ref 5, .ref 6, .ref 7, .ref 8, .ref 9, .ref 10, .ref 11, .ref 12, .ref 13, .ref 14, .ref 15, oN, oN, oN, .ref 16, .ref 17, .ref 18, .null, .null, .null, .null, oN, .null, .null, .null, .null, .null, oN, oN, oN, oN, .null, .null, .null, .null, .null, .null], oI 256, oI 256, oI 16, oZ 4, oI 4, oI 4, oI 4, oI 4, oI 4, oI 32, oZ 32, oI 32, oI 256, oI 256, oI 256, oI 16, oI 64, oI 64, oI 64] : List OwnC)
 refine WP.putR (ty := .array .int) (i := 0) (j := 32) (H' := ([cO [oN, oN, oN, .ref 1, .ref 2, oN, oN, oN, oN, oN, oN, oN, oN, .ref 3, .ref 4, .ref 5, .ref 6, .ref 7, .ref 8, .ref 9, .ref 10, .ref 11, .ref 12, .ref 13, .ref 14, .ref 15, oN, oN, oN, .ref 16, .ref 17, .ref 18, .ref 19, .null, .null, .null, oN, .null, .null, .null, .null, .null, oN, oN, oN, oN, .null, .null, .null, .null, .null, .null], oI 256, oI 256, oI 16, oZ 4, oI 4, oI 4, oI 4, oI 4, oI 4, oI 32, oZ 32, oI 32, oI 256, oI 256, oI 256, oI 16, oI 64, oI 64, oI 64] : List OwnC)) d0_152 (hw _ m_47) (Or.inl (hw _ m_48)) (hw _ m_1) (hlay hw) (by decide) (fun _ => rfl) (fun _ => rfl) rfl rfl rfl (leb rfl) rfl ?_
 refine WP.aloadN d0_155 rfl ?_
 refine WP.sipush (4096 : Int32) d0_156 rfl ?_
 refine WP.newarray d0_159 (hw _ m_9) (by decide) (leb rfl) (leb rfl) (leb rfl) (Or.inl ⟨rfl, rfl⟩) ?_
 show W0 l Z n0 (P0 r) 20 5720 161 (vR 0 :: vI p1 :: vI p2 :: vU :: vU :: []) [.ref 20, .ref 0] ([cO [oN, oN, oN, .ref 1, .ref 2, oN, oN, oN, oN, oN, oN, oN, oN, .ref 3, .ref 4, .ref 5, .ref 6, .ref 7, .ref 8, .ref 9, .ref 10, .ref 11, .ref 12, .ref 13, .ref 14, .ref 15, oN, oN, oN, .ref 16, .ref 17, .ref 18, .ref 19, .null, .null, .null, oN, .null, .null, .null, .null, .null, oN, oN, oN, oN, .null, .null, .null, .null, .null, .null], oI 256, oI 256, oI 16, oZ 4, oI 4, oI 4, oI 4, oI 4, oI 4, oI 32, oZ 32, oI 32, oI 256, oI 256, oI 256, oI 16, oI 64, oI 64, oI 64, oI 4096] : List OwnC)
 refine WP.putR (ty := .array .int) (i := 0) (j := 33) (H' := ([cO [oN, oN, oN, .ref 1, .ref 2, oN, oN, oN, oN, oN, oN, oN, oN, .ref 3, .ref 4, .ref 5, .ref 6, .ref 7, .ref 8, .ref 9, .ref 10, .ref 11, .ref 12, .ref 13, .ref 14, .ref 15, oN, oN, oN, .ref 16, .ref 17, .ref 18, .ref 19, .ref 20, .null, .null, oN, .null, .null, .null, .null, .null, oN, oN, oN, oN, .null, .null, .null, .null, .null, .null], oI 256, oI 256, oI 16, oZ 4, oI 4, oI 4, oI 4, oI 4, oI 4, oI 32, oZ 32, oI 32, oI 256, oI 256, oI 256, oI 16, oI 64, oI 64, oI 64, oI 4096] : List OwnC)) d0_161 (hw _ m_49) (Or.inl (hw _ m_50)) (hw _ m_1) (hlay hw) (by decide) (fun _ => rfl) (fun _ => rfl) rfl rfl rfl (leb rfl) rfl ?_
 refine WP.aloadN d0_164 rfl ?_
 refine WP.sipush (4096 : Int32) d0_165 rfl ?_
 refine WP.newarray d0_168 (hw _ m_9) (by decide) (leb rfl) (leb rfl) (leb rfl) (Or.inl ⟨rfl, rfl⟩) ?_
 show W0 l Z n0 (P0 r) 21 9816 170 (vR 0 :: vI p1 :: vI p2 :: vU :: vU :: []) [.ref 21, .ref 0] ([cO [oN, oN, oN, .ref 1, .ref 2, oN, oN, oN, oN, oN, oN, oN, oN, .ref 3, .ref 4, .ref 5, .ref 6, .ref 7, .ref 8, .ref 9, .ref 10, .ref 11, .ref 12, .ref 13, .ref 14, .ref 15, oN, oN, oN, .ref 16, .ref 17, .ref 18, .ref 19, .ref 20, .null, .null, oN, .null, .null, .null, .null, .null, oN, oN, oN, oN, .null, .null, .null, .null, .null, .null], oI 256, oI 256, oI 16, oZ 4, oI 4, oI 4, oI 4, oI 4, oI 4, oI 32, oZ 32, oI 32, oI 256, oI 256, oI 256, oI 16, oI 64, oI 64, oI 64, oI 4096, oI 4096] : List OwnC)
 refine WP.putR (ty := .array .int) (i := 0) (j := 34) (H' := ([cO [oN, oN, oN, .ref 1, .ref 2, oN, oN, oN, oN, oN, oN, oN, oN, .ref 3, .ref 4, .ref 5, .ref 6, .ref 7, .ref 8, .ref 9, .ref 10, .ref 11, .ref 12, .ref 13, .ref 14, .ref 15, oN, oN, oN, .ref 16, .ref 17, .ref 18, .ref 19, .ref 20, .ref 21, .null, oN, .null, .null, .null, .null, .null, oN, oN, oN, oN, .null, .null, .null, .null, .null, .null], oI 256, oI 256, oI 16, oZ 4, oI 4, oI 4, oI 4, oI 4, oI 4, oI 32, oZ 32, oI 32, oI 256, oI 256, oI 256, oI 16, oI 64, oI 64, oI 64, oI 4096, oI 4096] : List OwnC)) d0_170 (hw _ m_51) (Or.inl (hw _ m_52)) (hw _ m_1) (hlay hw) (by decide) (fun _ => rfl) (fun _ => rfl) rfl rfl rfl (leb rfl) rfl ?_
 refine WP.aloadN d0_173 rfl ?_
 refine WP.sipush (4096 : Int32) d0_174 rfl ?_
 refine WP.newarray d0_177 (hw _ m_16) (by decide) (leb rfl) (leb rfl) (leb rfl) (Or.inr (Or.inr ⟨rfl, rfl⟩)) ?_
 show W0 l Z n0 (P0 r) 22 13912 179 (vR 0 :: vI p1 :: vI p2 :: vU :: vU :: []) [.ref 22, .ref 0] ([cO [oN, oN, oN, .ref 1, .ref 2, oN, oN, oN, oN, oN, oN, oN, oN, .ref 3, .ref 4, .ref 5, .ref 6, .ref 7, .ref 8, .ref 9, .ref 10, .ref 11, .ref 12, .ref 13, .ref 14, .ref 15, oN, oN, oN, .ref 16, .ref 17, .ref 18, .ref 19, .ref 20, .ref 21, .null, oN, .null, .null, .null, .null, .null, oN, oN, oN, oN, .null, .null, .null, .null, .null, .null], oI 256, oI 256, oI 16, oZ 4, oI 4, oI 4, oI 4, oI 4, oI 4, oI 32, oZ 32, oI 32, oI 256, oI 256, oI 256, oI 16, oI 64, oI 64, oI 64, oI 4096, oI 4096, oZ 4096] : List OwnC)
 refine WP.putR (ty := .array .boolean) (i := 0) (j := 35) (H' := ([cO [oN, oN, oN, .ref 1, .ref 2, oN, oN, oN, oN, oN, oN, oN, oN, .ref 3, .ref 4, .ref 5, .ref 6, .ref 7, .ref 8, .ref 9, .ref 10, .ref 11, .ref 12, .ref 13, .ref 14, .ref 15, oN, oN, oN, .ref 16, .ref 17, .ref 18, .ref 19, .ref 20, .ref 21, .ref 22, oN, .null, .null, .null, .null, .null, oN, oN, oN, oN, .null, .null, .null, .null, .null, .null], oI 256, oI 256, oI 16, oZ 4, oI 4, oI 4, oI 4, oI 4, oI 4, oI 32, oZ 32, oI 32, oI 256, oI 256, oI 256, oI 16, oI 64, oI 64, oI 64, oI 4096, oI 4096, oZ 4096] : List OwnC)) d0_179 (hw _ m_53) (Or.inl (hw _ m_54)) (hw _ m_1) (hlay hw) (by decide) (fun _ => rfl) (fun _ => rfl) rfl rfl rfl (leb rfl) rfl ?_
 refine WP.aloadN d0_182 rfl ?_
 refine WP.bipush (8 : Int32) d0_183 rfl ?_
 refine WP.newarray d0_185 (hw _ m_9) (by decide) (leb rfl) (leb rfl) (leb rfl) (Or.inl ⟨rfl, rfl⟩) ?_
 show W0 l Z n0 (P0 r) 23 13920 187 (vR 0 :: vI p1 :: vI p2 :: vU :: vU :: []) [.ref 23, .ref 0] ([cO [oN, oN, oN, .ref 1, .ref 2, oN, oN, oN, oN, oN, oN, oN, oN, .ref 3, .ref 4, .ref 5, .ref 6, .ref 7, .ref 8, .ref 9, .ref 10, .ref 11, .ref 12, .ref 13, .ref 14, .ref 15, oN, oN, oN, .ref 16, .ref 17, .ref 18, .ref 19, .ref 20, .ref 21, .ref 22, oN, .null, .null, .null, .null, .null, oN, oN, oN, oN, .null, .null, .null, .null, .null, .null], oI 256, oI 256, oI 16, oZ 4, oI 4, oI 4, oI 4, oI 4, oI 4, oI 32, oZ 32, oI 32, oI 256, oI 256, oI 256, oI 16, oI 64, oI 64, oI 64, oI 4096, oI 4096, oZ 4096, oI 8] : List OwnC)
 refine WP.putR (ty := .array .int) (i := 0) (j := 37) (H' := ([cO [oN, oN, oN, .ref 1, .ref 2, oN, oN, oN, oN, oN, oN, oN, oN, .ref 3, .ref 4, .ref 5, .ref 6, .ref 7, .ref 8, .ref 9, .ref 10, .ref 11, .ref 12, .ref 13, .ref 14, .ref 15, oN, oN, oN, .ref 16, .ref 17, .ref 18, .ref 19, .ref 20, .ref 21, .ref 22, oN, .ref 23, .null, .null, .null, .null, oN, oN, oN, oN, .null, .null, .null, .null, .null, .null], oI 256, oI 256, oI 16, oZ 4, oI 4, oI 4, oI 4, oI 4, oI 4, oI 32, oZ 32, oI 32, oI 256, oI 256, oI 256, oI 16, oI 64, oI 64, oI 64, oI 4096, oI 4096, oZ 4096, oI 8] : List OwnC)) d0_187 (hw _ m_55) (Or.inl (hw _ m_56)) (hw _ m_1) (hlay hw) (by decide) (fun _ => rfl) (fun _ => rfl) rfl rfl rfl (leb rfl) rfl ?_
 refine WP.aloadN d0_190 rfl ?_
 refine WP.bipush (8 : Int32) d0_191 rfl ?_
 refine WP.newarray d0_193 (hw _ m_9) (by decide) (leb rfl) (leb rfl) (leb rfl) (Or.inl ⟨rfl, rfl⟩) ?_
 show W0 l Z n0 (P0 r) 24 13928 195 (vR 0 :: vI p1 :: vI p2 :: vU :: vU :: []) [.ref 24, .ref 0] ([cO [oN, oN, oN, .ref 1, .ref 2, oN, oN, oN, oN, oN, oN, oN, oN, .ref 3, .ref 4, .ref 5, .ref 6, .ref 7, .ref 8, .ref 9, .ref 10, .ref 11, .ref 12, .ref 13, .ref 14, .ref 15, oN, oN, oN, .ref 16, .ref 17, .ref 18, .ref 19, .ref 20, .ref 21, .ref 22, oN, .ref 23, .null, .null, .null, .null, oN, oN, oN, oN, .null, .null, .null, .null, .null, .null], oI 256, oI 256, oI 16, oZ 4, oI 4, oI 4, oI 4, oI 4, oI 4, oI 32, oZ 32, oI 32, oI 256, oI 256, oI 256, oI 16, oI 64, oI 64, oI 64, oI 4096, oI 4096, oZ 4096, oI 8, oI 8] : List OwnC)
 refine WP.putR (ty := .array .int) (i := 0) (j := 38) (H' := ([cO [oN, oN, oN, .ref 1, .ref 2, oN, oN, oN, oN, oN, oN, oN, oN, .ref 3, .ref 4, .ref 5, .ref 6, .ref 7, .ref 8, .ref 9, .ref 10, .ref 11, .ref 12, .ref 13, .ref 14, .ref 15, oN, oN, oN, .ref 16, .ref 17, .ref 18, .ref 19, .ref 20, .ref 21, .ref 22, oN, .ref 23, .ref 24, .null, .null, .null, oN, oN, oN, oN, .null, .null, .null, .null, .null, .null], oI 256, oI 256, oI 16, oZ 4, oI 4, oI 4, oI 4, oI 4, oI 4, oI 32, oZ 32, oI 32, oI 256, oI 256, oI 256, oI 16, oI 64, oI 64, oI 64, oI 4096, oI 4096, oZ 4096, oI 8, oI 8] : List OwnC)) d0_195 (hw _ m_57) (Or.inl (hw _ m_58)) (hw _ m_1) (hlay hw) (by decide) (fun _ => rfl) (fun _ => rfl) rfl rfl rfl (leb rfl) rfl ?_
 refine WP.aloadN d0_198 rfl ?_
 refine WP.bipush (8 : Int32) d0_199 rfl ?_
 refine WP.newarray d0_201 (hw _ m_9) (by decide) (leb rfl) (leb rfl) (leb rfl) (Or.inl ⟨rfl, rfl⟩) ?_
 show W0 l Z n0 (P0 r) 25 13936 203 (vR 0 :: vI p1 :: vI p2 :: vU :: vU :: []) [.ref 25, .ref 0] ([cO [oN, oN, oN, .ref 1, .ref 2, oN, oN, oN, oN, oN, oN, oN, oN, .ref 3, .ref 4, .ref 5, .ref 6, .ref 7, .ref 8, .ref 9, .ref 10, .ref 11, .ref 12, .ref 13, .ref 14, .ref 15, oN, oN, oN, .ref 16, .ref 17, .ref 18, .ref 19, .ref 20, .ref 21, .ref 22, oN, .ref 23, .ref 24, .null, .null, .null, oN, oN, oN, oN, .null, .null, .null, .null, .null, .null], oI 256, oI 256, oI 16, oZ 4, oI 4, oI 4, oI 4, oI 4, oI 4, oI 32, oZ 32, oI 32, oI 256, oI 256, oI 256, oI 16, oI 64, oI 64, oI 64, oI 4096, oI 4096, oZ 4096, oI 8, oI 8, oI 8] : List OwnC)
 refine WP.putR (ty := .array .int) (i := 0) (j := 39) (H' := ([cO [oN, oN, oN, .ref 1, .ref 2, oN, oN, oN, oN, oN, oN, oN, oN, .ref 3, .ref 4, .ref 5, .ref 6, .ref 7, .ref 8, .ref 9, .ref 10, .ref 11, .ref 12, .ref 13, .ref 14, .ref 15, oN, oN, oN, .ref 16, .ref 17, .ref 18, .ref 19, .ref 20, .ref 21, .ref 22, oN, .ref 23, .ref 24, .ref 25, .null, .null, oN, oN, oN, oN, .null, .null, .null, .null, .null, .null], oI 256, oI 256, oI 16, oZ 4, oI 4, oI 4, oI 4, oI 4, oI 4, oI 32, oZ 32, oI 32, oI 256, oI 256, oI 256, oI 16, oI 64, oI 64, oI 64, oI 4096, oI 4096, oZ 4096, oI 8, oI 8, oI 8] : List OwnC)) d0_203 (hw _ m_59) (Or.inl (hw _ m_60)) (hw _ m_1) (hlay hw) (by decide) (fun _ => rfl) (fun _ => rfl) rfl rfl rfl (leb rfl) rfl ?_
 refine WP.aloadN d0_206 rfl ?_
 refine WP.bipush (8 : Int32) d0_207 rfl ?_
 refine WP.newarray d0_209 (hw _ m_9) (by decide) (leb rfl) (leb rfl) (leb rfl) (Or.inl ⟨rfl, rfl⟩) ?_
 show W0 l Z n0 (P0 r) 26 13944 211 (vR 0 :: vI p1 :: vI p2 :: vU :: vU :: []) [.ref 26, .ref 0] ([cO [oN, oN, oN, .ref 1, .ref 2, oN, oN, oN, oN, oN, oN, oN, oN, .ref 3, .ref 4, .ref 5, .ref 6, .ref 7, .ref 8, .ref 9, .ref 10, .ref 11, .ref 12, .ref 13, .ref 14, .ref 15, oN, oN, oN, .ref 16, .ref 17, .ref 18, .ref 19, .ref 20, .ref 21, .ref 22, oN, .ref 23, .ref 24, .ref 25, .null, .null, oN, oN, oN, oN, .null, .null, .null, .null, .null, .null], oI 256, oI 256, oI 16, oZ 4, oI 4, oI 4, oI 4, oI 4, oI 4, oI 32, oZ 32, oI 32, oI 256, oI 256, oI 256, oI 16, oI 64, oI 64, oI 64, oI 4096, oI 4096, oZ 4096, oI 8, oI 8, oI 8, oI 8] : List OwnC)
 refine WP.putR (ty := .array .int) (i := 0) (j := 40) (H' := ([cO [oN, oN, oN, .ref 1, .ref 2, oN, oN, oN, oN, oN, oN, oN, oN, .ref 3, .ref 4, .ref 5, .ref 6, .ref 7, .ref 8, .ref 9, .ref 10, .ref 11, .ref 12, .ref 13, .ref 14, .ref 15, oN, oN, oN, .ref 16, .ref 17, .ref 18, .ref 19, .ref 20, .ref 21, .ref 22, oN, .ref 23, .ref 24, .ref 25, .ref 26, .null, oN, oN, oN, oN, .null, .null, .null, .null, .null, .null], oI 256, oI 256, oI 16, oZ 4, oI 4, oI 4, oI 4, oI 4, oI 4, oI 32, oZ 32, oI 32, oI 256, oI 256, oI 256, oI 16, oI 64, oI 64, oI 64, oI 4096, oI 4096, oZ 4096, oI 8, oI 8, oI 8, oI 8] : List OwnC)) d0_211 (hw _ m_61) (Or.inl (hw _ m_62)) (hw _ m_1) (hlay hw) (by decide) (fun _ => rfl) (fun _ => rfl) rfl rfl rfl (leb rfl) rfl ?_
 refine WP.aloadN d0_214 rfl ?_
 refine WP.bipush (8 : Int32) d0_215 rfl ?_
 refine WP.newarray d0_217 (hw _ m_9) (by decide) (leb rfl) (leb rfl) (leb rfl) (Or.inl ⟨rfl, rfl⟩) ?_
 show W0 l Z n0 (P0 r) 27 13952 219 (vR 0 :: vI p1 :: vI p2 :: vU :: vU :: []) [.ref 27, .ref 0] ([cO [oN, oN, oN, .ref 1, .ref 2, oN, oN, oN, oN, oN, oN, oN, oN, .ref 3, .ref 4, .ref 5, .ref 6, .ref 7, .ref 8, .ref 9, .ref 10, .ref 11, .ref 12, .ref 13, .ref 14, .ref 15, oN, oN, oN, .ref 16, .ref 17, .ref 18, .ref 19, .ref 20, .ref 21, .ref 22, oN, .ref 23, .ref 24, .ref 25, .ref 26, .null, oN, oN, oN, oN, .null, .null, .null, .null, .null, .null], oI 256, oI 256, oI 16, oZ 4, oI 4, oI 4, oI 4, oI 4, oI 4, oI 32, oZ 32, oI 32, oI 256, oI 256, oI 256, oI 16, oI 64, oI 64, oI 64, oI 4096, oI 4096, oZ 4096, oI 8, oI 8, oI 8, oI 8, oI 8] : List OwnC)
 refine WP.putR (ty := .array .int) (i := 0) (j := 41) (H' := ([cO [oN, oN, oN, .ref 1, .ref 2, oN, oN, oN, oN, oN, oN, oN, oN, .ref 3, .ref 4, .ref 5, .ref 6, .ref 7, .ref 8, .ref 9, .ref 10, .ref 11, .ref 12, .ref 13, .ref 14, .ref 15, oN, oN, oN, .ref 16, .ref 17, .ref 18, .ref 19, .ref 20, .ref 21, .ref 22, oN, .ref 23, .ref 24, .ref 25, .ref 26, .ref 27, oN, oN, oN, oN, .null, .null, .null, .null, .null, .null], oI 256, oI 256, oI 16, oZ 4, oI 4, oI 4, oI 4, oI 4, oI 4, oI 32, oZ 32, oI 32, oI 256, oI 256, oI 256, oI 16, oI 64, oI 64, oI 64, oI 4096, oI 4096, oZ 4096, oI 8, oI 8, oI 8, oI 8, oI 8] : List OwnC)) d0_219 (hw _ m_63) (Or.inl (hw _ m_64)) (hw _ m_1) (hlay hw) (by decide) (fun _ => rfl) (fun _ => rfl) rfl rfl rfl (leb rfl) rfl ?_
 refine WP.aloadN d0_222 rfl ?_
 refine WP.iconst (4 : Int32) d0_223 rfl ?_
 refine WP.newarray d0_224 (hw _ m_9) (by decide) (leb rfl) (leb rfl) (leb rfl) (Or.inl ⟨rfl, rfl⟩) ?_
 show W0 l Z n0 (P0 r) 28 13956 226 (vR 0 :: vI p1 :: vI p2 :: vU :: vU :: []) [.ref 28, .ref 0] ([cO [oN, oN, oN, .ref 1, .ref 2, oN, oN, oN, oN, oN, oN, oN, oN, .ref 3, .ref 4, .ref 5, .ref 6, .ref 7, .ref 8, .ref 9, .ref 10, .ref 11, .ref 12, .ref 13, .ref 14, .ref 15, oN, oN, oN, .ref 16, .ref 17, .ref 18, .ref 19, .ref 20, .ref 21, .ref 22, oN, .ref 23, .ref 24, .ref 25, .ref 26, .ref 27, oN, oN, oN, oN, .null, .null, .null, .null, .null, .null], oI 256, oI 256, oI 16, oZ 4, oI 4, oI 4, oI 4, oI 4, oI 4, oI 32, oZ 32, oI 32, oI 256, oI 256, oI 256, oI 16, oI 64, oI 64, oI 64, oI 4096, oI 4096, oZ 4096, oI 8, oI 8, oI 8, oI 8, oI 8, oI 4] : List OwnC)
 refine WP.putR (ty := .array .int) (i := 0) (j := 46) (H' := ([cO [oN, oN, oN, .ref 1, .ref 2, oN, oN, oN, oN, oN, oN, oN, oN, .ref 3, .ref 4, .ref 5, .ref 6, .ref 7, .ref 8, .ref 9, .ref 10, .ref 11, .ref 12, .ref 13, .ref 14, .ref 15, oN, oN, oN, .ref 16, .ref 17, .ref 18, .ref 19, .ref 20, .ref 21, .ref 22, oN, .ref 23, .ref 24, .ref 25, .ref 26, .ref 27, oN, oN, oN, oN, .ref 28, .null, .null, .null, .null, .null], oI 256, oI 256, oI 16, oZ 4, oI 4, oI 4, oI 4, oI 4, oI 4, oI 32, oZ 32, oI 32, oI 256, oI 256, oI 256, oI 16, oI 64, oI 64, oI 64, oI 4096, oI 4096, oZ 4096, oI 8, oI 8, oI 8, oI 8, oI 8, oI 4] : List OwnC)) d0_226 (hw _ m_65) (Or.inl (hw _ m_66)) (hw _ m_1) (hlay hw) (by decide) (fun _ => rfl) (fun _ => rfl) rfl rfl rfl (leb rfl) rfl ?_
 refine WP.aloadN d0_229 rfl ?_
 refine WP.iconst (4 : Int32) d0_230 rfl ?_
 refine WP.newarray d0_231 (hw _ m_9) (by decide) (leb rfl) (leb rfl) (leb rfl) (Or.inl ⟨rfl, rfl⟩) ?_
 show W0 l Z n0 (P0 r) 29 13960 233 (vR 0 :: vI p1 :: vI p2 :: vU :: vU :: []) [.ref 29, .ref 0] ([cO [oN, oN, oN, .ref 1, .ref 2, oN, oN, oN, oN, oN, oN, oN, oN, .ref 3, .ref 4, .ref 5, .ref 6, .ref 7, .ref 8, .ref 9, .ref 10, .ref 11, .ref 12, .ref 13, .ref 14, .ref 15, oN, oN, oN, .ref 16, .ref 17, .ref 18, .ref 19, .ref 20, .ref 21, .ref 22, oN, .ref 23, .ref 24, .ref 25, .ref 26, .ref 27, oN, oN, oN, oN, .ref 28, .null, .null, .null, .null, .null], oI 256, oI 256, oI 16, oZ 4, oI 4, oI 4, oI 4, oI 4, oI 4, oI 32, oZ 32, oI 32, oI 256, oI 256, oI 256, oI 16, oI 64, oI 64, oI 64, oI 4096, oI 4096, oZ 4096, oI 8, oI 8, oI 8, oI 8, oI 8, oI 4, oI 4] : List OwnC)
 refine WP.putR (ty := .array .int) (i := 0) (j := 47) (H' := ([cO [oN, oN, oN, .ref 1, .ref 2, oN, oN, oN, oN, oN, oN, oN, oN, .ref 3, .ref 4, .ref 5, .ref 6, .ref 7, .ref 8, .ref 9, .ref 10, .ref 11, .ref 12, .ref 13, .ref 14, .ref 15, oN, oN, oN, .ref 16, .ref 17, .ref 18, .ref 19, .ref 20, .ref 21, .ref 22, oN, .ref 23, .ref 24, .ref 25, .ref 26, .ref 27, oN, oN, oN, oN, .ref 28, .ref 29, .null, .null, .null, .null], oI 256, oI 256, oI 16, oZ 4, oI 4, oI 4, oI 4, oI 4, oI 4, oI 32, oZ 32, oI 32, oI 256, oI 256, oI 256, oI 16, oI 64, oI 64, oI 64, oI 4096, oI 4096, oZ 4096, oI 8, oI 8, oI 8, oI 8, oI 8, oI 4, oI 4] : List OwnC)) d0_233 (hw _ m_67) (Or.inl (hw _ m_68)) (hw _ m_1) (hlay hw) (by decide) (fun _ => rfl) (fun _ => rfl) rfl rfl rfl (leb rfl) rfl ?_
 refine WP.aloadN d0_236 rfl ?_
 refine WP.iconst (4 : Int32) d0_237 rfl ?_
 refine WP.newarray d0_238 (hw _ m_9) (by decide) (leb rfl) (leb rfl) (leb rfl) (Or.inl ⟨rfl, rfl⟩) ?_
 show W0 l Z n0 (P0 r) 30 13964 240 (vR 0 :: vI p1 :: vI p2 :: vU :: vU :: []) [.ref 30, .ref 0] ([cO [oN, oN, oN, .ref 1, .ref 2, oN, oN, oN, oN, oN, oN, oN, oN, .ref 3, .ref 4, .ref 5, .ref 6, .ref 7, .ref 8, .ref 9, .ref 10, .ref 11, .ref 12, .ref 13, .ref 14, .ref 15, oN, oN, oN, .ref 16, .ref 17, .ref 18, .ref 19, .ref 20, .ref 21, .ref 22, oN, .ref 23, .ref 24, .ref 25, .ref 26, .ref 27, oN, oN, oN, oN, .ref 28, .ref 29, .null, .null, .null, .null], oI 256, oI 256, oI 16, oZ 4, oI 4, oI 4, oI 4, oI 4, oI 4, oI 32, oZ 32, oI 32, oI 256, oI 256, oI 256, oI 16, oI 64, oI 64, oI 64, oI 4096, oI 4096, oZ 4096, oI 8, oI 8, oI 8, oI 8, oI 8, oI 4, oI 4, oI 4] : List OwnC)
 refine WP.putR (ty := .array .int) (i := 0) (j := 48) (H' := ([cO [oN, oN, oN, .ref 1, .ref 2, oN, oN, oN, oN, oN, oN, oN, oN, .ref 3, .ref 4, .ref 5, .ref 6, .ref 7, .ref 8, .ref 9, .ref 10, .ref 11, .ref 12, .ref 13, .ref 14, .ref 15, oN, oN, oN, .ref 16, .ref 17, .ref 18, .ref 19, .ref 20, .ref 21, .ref 22, oN, .ref 23, .ref 24, .ref 25, .ref 26, .ref 27, oN, oN, oN, oN, .ref 28, .ref 29, .ref 30, .null, .null, .null], oI 256, oI 256, oI 16, oZ 4, oI 4, oI 4, oI 4, oI 4, oI 4, oI 32, oZ 32, oI 32, oI 256, oI 256, oI 256, oI 16, oI 64, oI 64, oI 64, oI 4096, oI 4096, oZ 4096, oI 8, oI 8, oI 8, oI 8, oI 8, oI 4, oI 4, oI 4] : List OwnC)) d0_240 (hw _ m_69) (Or.inl (hw _ m_70)) (hw _ m_1) (hlay hw) (by decide) (fun _ => rfl) (fun _ => rfl) rfl rfl rfl (leb rfl) rfl ?_
 refine WP.aloadN d0_243 rfl ?_
 refine WP.bipush (8 : Int32) d0_244 rfl ?_
 refine WP.newarray d0_246 (hw _ m_9) (by decide) (leb rfl) (leb rfl) (leb rfl) (Or.inl ⟨rfl, rfl⟩) ?_
 show W0 l Z n0 (P0 r) 31 13972 248 (vR 0 :: vI p1 :: vI p2 :: vU :: vU :: []) [.ref 31, .ref 0] ([cO [oN, oN, oN, .ref 1, .ref 2, oN, oN, oN, oN, oN, oN, oN, oN, .ref 3, .ref 4, .ref 5, .ref 6, .ref 7, .ref 8, .ref 9, .ref 10, .ref 11, .ref 12, .ref 13, .ref 14, .ref 15, oN, oN, oN, .ref 16, .ref 17, .ref 18, .ref 19, .ref 20, .ref 21, .ref 22, oN, .ref 23, .ref 24, .ref 25, .ref 26, .ref 27, oN, oN, oN, oN, .ref 28, .ref 29, .ref 30, .null, .null, .null], oI 256, oI 256, oI 16, oZ 4, oI 4, oI 4, oI 4, oI 4, oI 4, oI 32, oZ 32, oI 32, oI 256, oI 256, oI 256, oI 16, oI 64, oI 64, oI 64, oI 4096, oI 4096, oZ 4096, oI 8, oI 8, oI 8, oI 8, oI 8, oI 4, oI 4, oI 4, oI 8] : List OwnC)
 refine WP.putR (ty := .array .int) (i := 0) (j := 49) (H' := ([cO [oN, oN, oN, .ref 1, .ref 2, oN, oN, oN, oN, oN, oN, oN, oN, .ref 3, .ref 4, .ref 5, .ref 6, .ref 7, .ref 8, .ref 9, .ref 10, .ref 11, .ref 12, .ref 13, .ref 14, .ref 15, oN, oN, oN, .ref 16, .ref 17, .ref 18, .ref 19, .ref 20, .ref 21, .ref 22, oN, .ref 23, .ref 24, .ref 25, .ref 26, .ref 27, oN, oN, oN, oN, .ref 28, .ref 29, .ref 30, .ref 31, .null, .null], oI 256, oI 256, oI 16, oZ 4, oI 4, oI 4, oI 4, oI 4, oI 4, oI 32, oZ 32, oI 32, oI 256, oI 256, oI 256, oI 16, oI 64, oI 64, oI 64, oI 4096, oI 4096, oZ 4096, oI 8, oI 8, oI 8, oI 8, oI 8, oI 4, oI 4, oI 4, oI 8] : List OwnC)) d0_248 (hw _ m_71) (Or.inl (hw _ m_72)) (hw _ m_1) (hlay hw) (by decide) (fun _ => rfl) (fun _ => rfl) rfl rfl rfl (leb rfl) rfl ?_
 refine WP.aloadN d0_251 rfl ?_
 refine WP.bipush (8 : Int32) d0_252 rfl ?_
 refine WP.newarray d0_254 (hw _ m_9) (by decide) (leb rfl) (leb rfl) (leb rfl) (Or.inl ⟨rfl, rfl⟩) ?_
 show W0 l Z n0 (P0 r) 32 13980 256 (vR 0 :: vI p1 :: vI p2 :: vU :: vU :: []) [.ref 32, .ref 0] ([cO [oN, oN, oN, .ref 1, .ref 2, oN, oN, oN, oN, oN, oN, oN, oN, .ref 3, .ref 4, .ref 5, .ref 6, .ref 7, .ref 8, .ref 9, .ref 10, .ref 11, .ref 12, .ref 13, .ref 14, .ref 15, oN, oN, oN, .ref 16, .ref 17, .ref 18, .ref 19, .ref 20, .ref 21, .ref 22, oN, .ref 23, .ref 24, .ref 25, .ref 26, .ref 27, oN, oN, oN, oN, .ref 28, .ref 29, .ref 30, .ref 31, .null, .null], oI 256, oI 256, oI 16, oZ 4, oI 4, oI 4, oI 4, oI 4, oI 4, oI 32, oZ 32, oI 32, oI 256, oI 256, oI 256, oI 16, oI 64, oI 64, oI 64, oI 4096, oI 4096, oZ 4096, oI 8, oI 8, oI 8, oI 8, oI 8, oI 4, oI 4, oI 4, oI 8, oI 8] : List OwnC)
 refine WP.putR (ty := .array .int) (i := 0) (j := 50) (H' := ([cO [oN, oN, oN, .ref 1, .ref 2, oN, oN, oN, oN, oN, oN, oN, oN, .ref 3, .ref 4, .ref 5, .ref 6, .ref 7, .ref 8, .ref 9, .ref 10, .ref 11, .ref 12, .ref 13, .ref 14, .ref 15, oN, oN, oN, .ref 16, .ref 17, .ref 18, .ref 19, .ref 20, .ref 21, .ref 22, oN, .ref 23, .ref 24, .ref 25, .ref 26, .ref 27, oN, oN, oN, oN, .ref 28, .ref 29, .ref 30, .ref 31, .ref 32, .null], oI 256, oI 256, oI 16, oZ 4, oI 4, oI 4, oI 4, oI 4, oI 4, oI 32, oZ 32, oI 32, oI 256, oI 256, oI 256, oI 16, oI 64, oI 64, oI 64, oI 4096, oI 4096, oZ 4096, oI 8, oI 8, oI 8, oI 8, oI 8, oI 4, oI 4, oI 4, oI 8, oI 8] : List OwnC)) d0_256 (hw _ m_73) (Or.inl (hw _ m_74)) (hw _ m_1) (hlay hw) (by decide) (fun _ => rfl) (fun _ => rfl) rfl rfl rfl (leb rfl) rfl ?_
 refine WP.aloadN d0_259 rfl ?_
 refine WP.bipush (8 : Int32) d0_260 rfl ?_
 refine WP.newarray d0_262 (hw _ m_9) (by decide) (leb rfl) (leb rfl) (leb rfl) (Or.inl ⟨rfl, rfl⟩) ?_
 show W0 l Z n0 (P0 r) 33 13988 264 (vR 0 :: vI p1 :: vI p2 :: vU :: vU :: []) [.ref 33, .ref 0] ([cO [oN, oN, oN, .ref 1, .ref 2, oN, oN, oN, oN, oN, oN, oN, oN, .ref 3, .ref 4, .ref 5, .ref 6, .ref 7, .ref 8, .ref 9, .ref 10, .ref 11, .ref 12, .ref 13, .ref 14, .ref 15, oN, oN, oN, .ref 16, .ref 17, .ref 18, .ref 19, .ref 20, .ref 21, .ref 22, oN, .ref 23, .ref 24, .ref 25, .ref 26, .ref 27, oN, oN, oN, oN, .ref 28, .ref 29, .ref 30, .ref 31, .ref 32, .null], oI 256, oI 256, oI 16, oZ 4, oI 4, oI 4, oI 4, oI 4, oI 4, oI 32, oZ 32, oI 32, oI 256, oI 256, oI 256, oI 16, oI 64, oI 64, oI 64, oI 4096, oI 4096, oZ 4096, oI 8, oI 8, oI 8, oI 8, oI 8, oI 4, oI 4, oI 4, oI 8, oI 8, oI 8] : List OwnC)
 obtain ⟨s1, es1, h⟩ := lt_e h
 refine WP.putR (ty := .array .int) (i := 0) (j := 51) (H' := (Hb 0 s1)) d0_264 (hw _ m_75) (Or.inl (hw _ m_76)) (hw _ m_1) (hlay hw) (by decide) (fun _ => rfl) (fun _ => rfl) rfl rfl rfl (leb rfl) (by subst es1; rfl) ?_
 refine WP.iloadN d0_267 rfl ?_
 refine WP.istoreN (L' := (vR 0 :: vI p1 :: vI p2 :: vI p1 :: vU :: [])) d0_268 (leb rfl) rfl ?_
 refine WP.iloadN d0_269 rfl ?_
 refine WP.bipush (8 : Int32) d0_270 rfl ?_
 rcases ite_e h with ⟨hc2, h⟩ | ⟨hc2, h⟩
 ·
  refine WP.icmpN d0_272 (XT.ii_ge_f hc2) ?_
  refine WP.bipush (8 : Int32) d0_275 rfl ?_
  refine WP.istoreN (L' := (vR 0 :: vI p1 :: vI p2 :: vI (8 : Int32) :: vU :: [])) d0_277 (leb rfl) rfl ?_
  exact WP.weak (L' := (vR 0 :: vU :: vI p2 :: vI (8 : Int32) :: vU :: [])) ⟨rfl, rfl, rfl, trivial⟩ (ok0_278 l Z a0 hw n0 p2 (8 : Int32) s1 _ h)
 ·
  refine WP.icmpY (pc' := 278) d0_272 (XT.ii_ge_t hc2) (by decide) rfl ?_
  exact WP.weak (L' := (vR 0 :: vU :: vI p2 :: vI p1 :: vU :: [])) ⟨rfl, rfl, rfl, trivial⟩ (ok0_278 l Z a0 hw n0 p2 p1 s1 _ h)
theorem d2_0 : dc k1 0 (.aload_n 0) 1 := by decide +kernel
theorem d2_1 : dc k1 1 (.getfield 120) 3 := by decide +kernel
theorem d2_4 : dc k1 4 (.sipush 256) 3 := by decide +kernel
theorem d2_7 : dc k1 7 (.if_icmp .ne 5) 3 := by decide +kernel
theorem d2_10 : dc k1 10 (.iconst 0) 1 := by decide +kernel
theorem d2_11 : dc k1 11 (.ireturn) 1 := by decide +kernel
theorem d2_12 : dc k1 12 (.iload_n 1) 1 := by decide +kernel
theorem d2_13 : dc k1 13 (.iconst 1) 1 := by decide +kernel
theorem d2_14 : dc k1 14 (.if_icmp .lt 9) 3 := by decide +kernel
theorem d2_17 : dc k1 17 (.iload_n 1) 1 := by decide +kernel
theorem d2_18 : dc k1 18 (.bipush 25) 2 := by decide +kernel
theorem d2_20 : dc k1 20 (.if_icmp .le 5) 3 := by decide +kernel
theorem d2_23 : dc k1 23 (.iconst 0) 1 := by decide +kernel
theorem d2_24 : dc k1 24 (.ireturn) 1 := by decide +kernel
theorem d2_25 : dc k1 25 (.iload_n 1) 1 := by decide +kernel
theorem d2_26 : dc k1 26 (.iconst 2) 1 := by decide +kernel
theorem d2_27 : dc k1 27 (.if_icmp .ne 15) 3 := by decide +kernel
theorem d2_30 : dc k1 30 (.iload_n 2) 1 := by decide +kernel
theorem d2_31 : dc k1 31 (.ifCond .lt 9) 3 := by decide +kernel
theorem d2_34 : dc k1 34 (.iload_n 2) 1 := by decide +kernel
theorem d2_35 : dc k1 35 (.bipush 7) 2 := by decide +kernel
theorem d2_37 : dc k1 37 (.if_icmp .le 5) 3 := by decide +kernel
theorem d2_40 : dc k1 40 (.iconst 0) 1 := by decide +kernel
theorem d2_41 : dc k1 41 (.ireturn) 1 := by decide +kernel
theorem d2_42 : dc k1 42 (.iload_n 1) 1 := by decide +kernel
theorem d2_43 : dc k1 43 (.iconst 3) 1 := by decide +kernel
theorem d2_44 : dc k1 44 (.if_icmp .ne 14) 3 := by decide +kernel
theorem d2_47 : dc k1 47 (.iload_n 2) 1 := by decide +kernel
theorem d2_48 : dc k1 48 (.ifCond .lt 8) 3 := by decide +kernel
theorem d2_51 : dc k1 51 (.iload_n 2) 1 := by decide +kernel
theorem d2_52 : dc k1 52 (.iconst 3) 1 := by decide +kernel
theorem d2_53 : dc k1 53 (.if_icmp .le 5) 3 := by decide +kernel
theorem d2_56 : dc k1 56 (.iconst 0) 1 := by decide +kernel
theorem d2_57 : dc k1 57 (.ireturn) 1 := by decide +kernel
theorem d2_58 : dc k1 58 (.iconst 0) 1 := by decide +kernel
theorem d2_59 : dc k1 59 (.istore_n 3) 1 := by decide +kernel
theorem d2_60 : dc k1 60 (.iload_n 1) 1 := by decide +kernel
theorem d2_61 : dc k1 61 (.iconst 1) 1 := by decide +kernel
theorem d2_62 : dc k1 62 (.if_icmp .eq 13) 3 := by decide +kernel
theorem d2_65 : dc k1 65 (.iload_n 1) 1 := by decide +kernel
theorem d2_66 : dc k1 66 (.iconst 2) 1 := by decide +kernel
theorem d2_67 : dc k1 67 (.if_icmp .eq 8) 3 := by decide +kernel
theorem d2_70 : dc k1 70 (.iload_n 1) 1 := by decide +kernel
theorem d2_71 : dc k1 71 (.iconst 3) 1 := by decide +kernel
theorem d2_72 : dc k1 72 (.if_icmp .ne 5) 3 := by decide +kernel
theorem d2_75 : dc k1 75 (.iload_n 2) 1 := by decide +kernel
theorem d2_76 : dc k1 76 (.istore_n 3) 1 := by decide +kernel
theorem d2_77 : dc k1 77 (.aload_n 0) 1 := by decide +kernel
theorem d2_78 : dc k1 78 (.getfield 7) 3 := by decide +kernel
theorem d2_81 : dc k1 81 (.aload_n 0) 1 := by decide +kernel
theorem d2_82 : dc k1 82 (.getfield 120) 3 := by decide +kernel
theorem d2_85 : dc k1 85 (.iload_n 1) 1 := by decide +kernel
theorem d2_86 : dc k1 86 (.iastore) 1 := by decide +kernel
theorem d2_87 : dc k1 87 (.aload_n 0) 1 := by decide +kernel
theorem d2_88 : dc k1 88 (.getfield 13) 3 := by decide +kernel
theorem d2_91 : dc k1 91 (.aload_n 0) 1 := by decide +kernel
theorem d2_92 : dc k1 92 (.getfield 120) 3 := by decide +kernel
theorem d2_95 : dc k1 95 (.iload_n 3) 1 := by decide +kernel
theorem d2_96 : dc k1 96 (.iastore) 1 := by decide +kernel
theorem d2_97 : dc k1 97 (.aload_n 0) 1 := by decide +kernel
theorem d2_98 : dc k1 98 (.dup) 1 := by decide +kernel
theorem d2_99 : dc k1 99 (.getfield 120) 3 := by decide +kernel
theorem d2_102 : dc k1 102 (.iconst 1) 1 := by decide +kernel
theorem d2_103 : dc k1 103 (.iadd) 1 := by decide +kernel
theorem d2_104 : dc k1 104 (.putfield 120) 3 := by decide +kernel
theorem d2_107 : dc k1 107 (.aload_n 0) 1 := by decide +kernel
theorem d2_108 : dc k1 108 (.iconst 0) 1 := by decide +kernel
theorem d2_109 : dc k1 109 (.putfield 123) 3 := by decide +kernel
theorem d2_112 : dc k1 112 (.aload_n 0) 1 := by decide +kernel
theorem d2_113 : dc k1 113 (.invokevirtual 117) 3 := by decide +kernel
theorem d2_116 : dc k1 116 (.iconst 1) 1 := by decide +kernel
theorem d2_117 : dc k1 117 (.ireturn) 1 := by decide +kernel
abbrev y2 : MethodName := ⟨"FatPointerC", "tok", "(II)Z"⟩
theorem hy2 : y2.cls ≠ "java/lang/invoke/MethodHandle" ∧ y2.cls ≠ "java/lang/invoke/VarHandle" := by decide
theorem pd2 : parseMethodDescriptor y2.desc = some ⟨[.int, .int], some .boolean⟩ := by decide +kernel
abbrev R2 : Room := { frames := 1, cells := 0, slots := 0, locals := 12 }
abbrev P2 (r : Int32 × St) : Option Value → List OwnC → Prop := fun v H' => v = some (.int r.1) ∧ H' = (Hb 0 r.2)
abbrev W2 (l : Launch) (Z : State) (n0 : Nat) (Q : Option Value → List OwnC → Prop) (k n pc : Nat) (L : List Slot) (S : List Value) (H : List OwnC) : Prop := WP l Z CN lay "FatPointerC" "tok" prog_1_method_3_code 4 (some FieldType.boolean) R2 n0 0 Q k n pc L S H
def f_tok_23 (s : St) : Option (Int32 × St) :=
 some ((0 : Int32), s)
theorem ok2_23 (l : Launch) (Z : State) (a0 : Array Value) (hw : HW a0 Z) (n0 : Nat) (s : St) (r : Int32 × St) (h : f_tok_23 s = some r) : W2 l Z n0 (P2 r) 0 0 23 (vU :: vU :: vU :: vU :: []) [] (Hb 0 s) := by
 unfold f_tok_23 at h
 refine WP.iconst (0 : Int32) d2_23 rfl ?_
 cases h
 exact WP.zreturn d2_24 rfl (leb rfl) (leb rfl) ⟨rfl, rfl⟩
def f_tok_40 (s : St) : Option (Int32 × St) :=
 some ((0 : Int32), s)
theorem ok2_40 (l : Launch) (Z : State) (a0 : Array Value) (hw : HW a0 Z) (n0 : Nat) (s : St) (r : Int32 × St) (h : f_tok_40 s = some r) : W2 l Z n0 (P2 r) 0 0 40 (vU :: vU :: vU :: vU :: []) [] (Hb 0 s) := by
 unfold f_tok_40 at h
 refine WP.iconst (0 : Int32) d2_40 rfl ?_
 cases h
 exact WP.zreturn d2_41 rfl (leb rfl) (leb rfl) ⟨rfl, rfl⟩
def f_tok_56 (s : St) : Option (Int32 × St) :=
 some ((0 : Int32), s)
theorem ok2_56 (l : Launch) (Z : State) (a0 : Array Value) (hw : HW a0 Z) (n0 : Nat) (s : St) (r : Int32 × St) (h : f_tok_56 s = some r) : W2 l Z n0 (P2 r) 0 0 56 (vU :: vU :: vU :: vU :: []) [] (Hb 0 s) := by
 unfold f_tok_56 at h
 refine WP.iconst (0 : Int32) d2_56 rfl ?_
 cases h
 exact WP.zreturn d2_57 rfl (leb rfl) (leb rfl) ⟨rfl, rfl⟩
def f_tok_77 (v1 v3 : Int32) (s : St) : Option (Int32 × St) :=
 (wrA s 0 (gI s 2) v1).bind fun s1 =>
 (wrA s1 1 (gI s1 2) v3).bind fun s2 =>
 lt (sI s2 2 ((gI s2 2) + (1 : Int32))) fun s3 =>
 lt (sI s3 3 (0 : Int32)) fun s4 =>
 (f_clearResults s4).bind fun c5 =>
 some ((1 : Int32), c5)
theorem ok2_77 (l : Launch) (Z : State) (a0 : Array Value) (hw : HW a0 Z) (n0 : Nat) (v1 v3 : Int32) (s : St) (r : Int32 × St) (h : f_tok_77 v1 v3 s = some r) : W2 l Z n0 (P2 r) 0 0 77 (vR 0 :: vI v1 :: vU :: vI v3 :: []) [] (Hb 0 s) := by
 unfold f_tok_77 at h
 refine WP.aloadN d2_77 rfl ?_
 refine WP.getfield (i := 0) (j := 3) d2_78 (hw _ m_10) rfl rfl rfl ?_
 refine WP.aloadN d2_81 rfl ?_
 refine WP.getfield (i := 0) (j := 2) d2_82 (hw _ m_104) rfl rfl rfl ?_
 refine WP.iloadN d2_85 rfl ?_
 obtain ⟨s1, hs1, h⟩ := bd h
 obtain ⟨ys1, gs1, es1⟩ := wrA_e hs1
 refine WP.iastore (i := 1) (xs := gA s 0) (H' := (Hb 0 s1)) d2_86 rfl (leb rfl) gs1 (by subst es1; rfl) ?_
 refine WP.aloadN d2_87 rfl ?_
 refine WP.getfield (i := 0) (j := 4) d2_88 (hw _ m_12) rfl rfl rfl ?_
 refine WP.aloadN d2_91 rfl ?_
 refine WP.getfield (i := 0) (j := 2) d2_92 (hw _ m_104) rfl rfl rfl ?_
 refine WP.iloadN d2_95 rfl ?_
 obtain ⟨s2, hs2, h⟩ := bd h
 obtain ⟨ys2, gs2, es2⟩ := wrA_e hs2
 refine WP.iastore (i := 2) (xs := gA s1 1) (H' := (Hb 0 s2)) d2_96 rfl (leb rfl) gs2 (by subst es2; rfl) ?_
 refine WP.aloadN d2_97 rfl ?_
 refine WP.dup d2_98 rfl ?_
 refine WP.getfield (i := 0) (j := 2) d2_99 (hw _ m_104) rfl rfl rfl ?_
 refine WP.iconst (1 : Int32) d2_102 rfl ?_
 refine WP.iadd d2_103 ?_
 obtain ⟨s3, es3, h⟩ := lt_e h
 refine WP.putI (i := 0) (j := 2) (H' := (Hb 0 s3)) d2_104 (hw _ m_104) (Or.inl (hw _ m_105)) (hw _ m_1) (hlay hw) rfl rfl rfl (leb rfl) (by subst es3; rfl) ?_
 refine WP.aloadN d2_107 rfl ?_
 refine WP.iconst (0 : Int32) d2_108 rfl ?_
 obtain ⟨s4, es4, h⟩ := lt_e h
 refine WP.putZ (i := 0) (j := 5) (H' := (Hb 0 s4)) d2_109 (hw _ m_106) (Or.inl (hw _ m_107)) (hw _ m_1) (hlay hw) rfl rfl rfl (leb rfl) (by subst es4; rfl) ?_
 refine WP.aloadN d2_112 rfl ?_
 obtain ⟨c5, hc5, h⟩ := bd h
 refine WP.callP (i := 0) (y := y1) (as := []) (S := []) d2_113 (hw _ m_81) (hw _ m_83) (hw _ m_1) (hw _ m_82) (hw _ m_84) (hw _ m_2) hy1 rfl (ok1 l Z a0 hw s4 _ hc5) rfl (lenOf pd1 rfl) (leb rfl) (leb rfl) (leb rfl) (leb rfl) ?_
 rintro _ _ ⟨rfl, rfl⟩
 show W2 l Z n0 (P2 r) 0 0 116 (vR 0 :: vI v1 :: vU :: vI v3 :: []) [] (Hb 0 c5)
 refine WP.iconst (1 : Int32) d2_116 rfl ?_
 cases h
 exact WP.zreturn d2_117 rfl (leb rfl) (leb rfl) ⟨rfl, rfl⟩
def f_tok_75 (v1 v2 : Int32) (s : St) : Option (Int32 × St) :=
 f_tok_77 v1 v2 s
theorem ok2_75 (l : Launch) (Z : State) (a0 : Array Value) (hw : HW a0 Z) (n0 : Nat) (v1 v2 : Int32) (s : St) (r : Int32 × St) (h : f_tok_75 v1 v2 s = some r) : W2 l Z n0 (P2 r) 0 0 75 (vR 0 :: vI v1 :: vI v2 :: vU :: []) [] (Hb 0 s) := by
 unfold f_tok_75 at h
 refine WP.iloadN d2_75 rfl ?_
 refine WP.istoreN (L' := (vR 0 :: vI v1 :: vI v2 :: vI v2 :: [])) d2_76 (leb rfl) rfl ?_
 exact WP.weak (L' := (vR 0 :: vI v1 :: vU :: vI v2 :: [])) ⟨rfl, rfl, rfl, trivial⟩ (ok2_77 l Z a0 hw n0 v1 v2 s _ h)
def f_tok_58 (v1 v2 : Int32) (s : St) : Option (Int32 × St) :=
 if v1 = (1 : Int32) then
  f_tok_75 v1 v2 s
 else
  if v1 = (2 : Int32) then
   f_tok_75 v1 v2 s
  else
   if v1 = (3 : Int32) then
    f_tok_75 v1 v2 s
   else
    f_tok_77 v1 (0 : Int32) s
theorem ok2_58 (l : Launch) (Z : State) (a0 : Array Value) (hw : HW a0 Z) (n0 : Nat) (v1 v2 : Int32) (s : St) (r : Int32 × St) (h : f_tok_58 v1 v2 s = some r) : W2 l Z n0 (P2 r) 0 0 58 (vR 0 :: vI v1 :: vI v2 :: vU :: []) [] (Hb 0 s) := by
 unfold f_tok_58 at h
 refine WP.iconst (0 : Int32) d2_58 rfl ?_
 refine WP.istoreN (L' := (vR 0 :: vI v1 :: vI v2 :: vI (0 : Int32) :: [])) d2_59 (leb rfl) rfl ?_
 refine WP.iloadN d2_60 rfl ?_
 refine WP.iconst (1 : Int32) d2_61 rfl ?_
 rcases ite_e h with ⟨hc1, h⟩ | ⟨hc1, h⟩
 ·
  refine WP.icmpY (pc' := 75) d2_62 (XT.ii_eq_t hc1) (by decide) rfl ?_
  exact WP.weak (L' := (vR 0 :: vI v1 :: vI v2 :: vU :: [])) ⟨rfl, rfl, rfl, trivial⟩ (ok2_75 l Z a0 hw n0 v1 v2 s _ h)
 ·
  refine WP.icmpN d2_62 (XT.ii_eq_f hc1) ?_
  refine WP.iloadN d2_65 rfl ?_
  refine WP.iconst (2 : Int32) d2_66 rfl ?_
  rcases ite_e h with ⟨hc2, h⟩ | ⟨hc2, h⟩
  ·
   refine WP.icmpY (pc' := 75) d2_67 (XT.ii_eq_t hc2) (by decide) rfl ?_
   exact WP.weak (L' := (vR 0 :: vI v1 :: vI v2 :: vU :: [])) ⟨rfl, rfl, rfl, trivial⟩ (ok2_75 l Z a0 hw n0 v1 v2 s _ h)
  ·
   refine WP.icmpN d2_67 (XT.ii_eq_f hc2) ?_
   refine WP.iloadN d2_70 rfl ?_
   refine WP.iconst (3 : Int32) d2_71 rfl ?_
   rcases ite_e h with ⟨hc3, h⟩ | ⟨hc3, h⟩
   ·
    refine WP.icmpN d2_72 (XT.ii_ne_f hc3) ?_
    exact WP.weak (L' := (vR 0 :: vI v1 :: vI v2 :: vU :: [])) ⟨rfl, rfl, rfl, trivial⟩ (ok2_75 l Z a0 hw n0 v1 v2 s _ h)
   ·
    refine WP.icmpY (pc' := 77) d2_72 (XT.ii_ne_t hc3) (by decide) rfl ?_
    exact WP.weak (L' := (vR 0 :: vI v1 :: vU :: vI (0 : Int32) :: [])) ⟨rfl, rfl, rfl, trivial⟩ (ok2_77 l Z a0 hw n0 v1 (0 : Int32) s _ h)
def f_tok_42 (v1 v2 : Int32) (s : St) : Option (Int32 × St) :=
 if v1 = (3 : Int32) then
  if v2 < 0 then
   f_tok_56 s
  else
   if (3 : Int32) < v2 then
    f_tok_56 s
   else
    f_tok_58 v1 v2 s
 else
  f_tok_58 v1 v2 s
theorem ok2_42 (l : Launch) (Z : State) (a0 : Array Value) (hw : HW a0 Z) (n0 : Nat) (v1 v2 : Int32) (s : St) (r : Int32 × St) (h : f_tok_42 v1 v2 s = some r) : W2 l Z n0 (P2 r) 0 0 42 (vR 0 :: vI v1 :: vI v2 :: vU :: []) [] (Hb 0 s) := by
 unfold f_tok_42 at h
 refine WP.iloadN d2_42 rfl ?_
 refine WP.iconst (3 : Int32) d2_43 rfl ?_
 rcases ite_e h with ⟨hc1, h⟩ | ⟨hc1, h⟩
 ·
  refine WP.icmpN d2_44 (XT.ii_ne_f hc1) ?_
  refine WP.iloadN d2_47 rfl ?_
  rcases ite_e h with ⟨hc2, h⟩ | ⟨hc2, h⟩
  ·
   refine WP.ifY (pc' := 56) d2_48 (XT.i0_lt_t hc2) (by decide) rfl ?_
   exact WP.weak (L' := (vU :: vU :: vU :: vU :: [])) trivial (ok2_56 l Z a0 hw n0 s _ h)
  ·
   refine WP.ifN d2_48 (XT.i0_lt_f hc2) ?_
   refine WP.iloadN d2_51 rfl ?_
   refine WP.iconst (3 : Int32) d2_52 rfl ?_
   rcases ite_e h with ⟨hc3, h⟩ | ⟨hc3, h⟩
   ·
    refine WP.icmpN d2_53 (XT.ii_le_f hc3) ?_
    exact WP.weak (L' := (vU :: vU :: vU :: vU :: [])) trivial (ok2_56 l Z a0 hw n0 s _ h)
   ·
    refine WP.icmpY (pc' := 58) d2_53 (XT.ii_le_t hc3) (by decide) rfl ?_
    exact WP.weak (L' := (vR 0 :: vI v1 :: vI v2 :: vU :: [])) ⟨rfl, rfl, rfl, trivial⟩ (ok2_58 l Z a0 hw n0 v1 v2 s _ h)
 ·
  refine WP.icmpY (pc' := 58) d2_44 (XT.ii_ne_t hc1) (by decide) rfl ?_
  exact WP.weak (L' := (vR 0 :: vI v1 :: vI v2 :: vU :: [])) ⟨rfl, rfl, rfl, trivial⟩ (ok2_58 l Z a0 hw n0 v1 v2 s _ h)
def f_tok (p1 p2 : Int32) (s : St) : Option (Int32 × St) :=
 if (gI s 2) = (256 : Int32) then
  some ((0 : Int32), s)
 else
  if p1 < (1 : Int32) then
   f_tok_23 s
  else
   if (25 : Int32) < p1 then
    f_tok_23 s
   else
    if p1 = (2 : Int32) then
     if p2 < 0 then
      f_tok_40 s
     else
      if (7 : Int32) < p2 then
       f_tok_40 s
      else
       f_tok_42 p1 p2 s
    else
     f_tok_42 p1 p2 s
theorem ok2 (l : Launch) (Z : State) (a0 : Array Value) (hw : HW a0 Z) (p1 p2 : Int32) (s : St) (r : Int32 × St) (h : f_tok p1 p2 s = some r) : CS l Z CN lay y2 prog_1_method_3_code 4 (some FieldType.boolean) R2 0 [.ref 0, .int p1, .int p2] (Hb 0 s) (P2 r) := by
 refine CS.of_wp pn_cls (leb rfl) fun n0 => ?_
 show W2 l Z n0 (P2 r) 0 0 0 (vR 0 :: vI p1 :: vI p2 :: vU :: []) [] (Hb 0 s)
 unfold f_tok at h
 refine WP.aloadN d2_0 rfl ?_
 refine WP.getfield (i := 0) (j := 2) d2_1 (hw _ m_104) rfl rfl rfl ?_
 refine WP.sipush (256 : Int32) d2_4 rfl ?_
 rcases ite_e h with ⟨hc1, h⟩ | ⟨hc1, h⟩
 ·
  refine WP.icmpN d2_7 (XT.ii_ne_f hc1) ?_
  refine WP.iconst (0 : Int32) d2_10 rfl ?_
  cases h
  exact WP.zreturn d2_11 rfl (leb rfl) (leb rfl) ⟨rfl, rfl⟩
 ·
  refine WP.icmpY (pc' := 12) d2_7 (XT.ii_ne_t hc1) (by decide) rfl ?_
  refine WP.iloadN d2_12 rfl ?_
  refine WP.iconst (1 : Int32) d2_13 rfl ?_
  rcases ite_e h with ⟨hc2, h⟩ | ⟨hc2, h⟩
  ·
   refine WP.icmpY (pc' := 23) d2_14 (XT.ii_lt_t hc2) (by decide) rfl ?_
   exact WP.weak (L' := (vU :: vU :: vU :: vU :: [])) trivial (ok2_23 l Z a0 hw n0 s _ h)
  ·
   refine WP.icmpN d2_14 (XT.ii_lt_f hc2) ?_
   refine WP.iloadN d2_17 rfl ?_
   refine WP.bipush (25 : Int32) d2_18 rfl ?_
   rcases ite_e h with ⟨hc3, h⟩ | ⟨hc3, h⟩
   ·
    refine WP.icmpN d2_20 (XT.ii_le_f hc3) ?_
    exact WP.weak (L' := (vU :: vU :: vU :: vU :: [])) trivial (ok2_23 l Z a0 hw n0 s _ h)
   ·
    refine WP.icmpY (pc' := 25) d2_20 (XT.ii_le_t hc3) (by decide) rfl ?_
    refine WP.iloadN d2_25 rfl ?_
    refine WP.iconst (2 : Int32) d2_26 rfl ?_
    rcases ite_e h with ⟨hc4, h⟩ | ⟨hc4, h⟩
    ·
     refine WP.icmpN d2_27 (XT.ii_ne_f hc4) ?_
     refine WP.iloadN d2_30 rfl ?_
     rcases ite_e h with ⟨hc5, h⟩ | ⟨hc5, h⟩
     ·
      refine WP.ifY (pc' := 40) d2_31 (XT.i0_lt_t hc5) (by decide) rfl ?_
      exact WP.weak (L' := (vU :: vU :: vU :: vU :: [])) trivial (ok2_40 l Z a0 hw n0 s _ h)
     ·
      refine WP.ifN d2_31 (XT.i0_lt_f hc5) ?_
      refine WP.iloadN d2_34 rfl ?_
      refine WP.bipush (7 : Int32) d2_35 rfl ?_
      rcases ite_e h with ⟨hc6, h⟩ | ⟨hc6, h⟩
      ·
       refine WP.icmpN d2_37 (XT.ii_le_f hc6) ?_
       exact WP.weak (L' := (vU :: vU :: vU :: vU :: [])) trivial (ok2_40 l Z a0 hw n0 s _ h)
      ·
       refine WP.icmpY (pc' := 42) d2_37 (XT.ii_le_t hc6) (by decide) rfl ?_
       exact WP.weak (L' := (vR 0 :: vI p1 :: vI p2 :: vU :: [])) ⟨rfl, rfl, rfl, trivial⟩ (ok2_42 l Z a0 hw n0 p1 p2 s _ h)
    ·
     refine WP.icmpY (pc' := 42) d2_27 (XT.ii_ne_t hc4) (by decide) rfl ?_
     exact WP.weak (L' := (vR 0 :: vI p1 :: vI p2 :: vU :: [])) ⟨rfl, rfl, rfl, trivial⟩ (ok2_42 l Z a0 hw n0 p1 p2 s _ h)
theorem d7_0 : dc k11 0 (.iload_n 1) 1 := by decide +kernel
theorem d7_1 : dc k11 1 (.ifCond .lt 11) 3 := by decide +kernel
theorem d7_4 : dc k11 4 (.iload_n 1) 1 := by decide +kernel
theorem d7_5 : dc k11 5 (.aload_n 0) 1 := by decide +kernel
theorem d7_6 : dc k11 6 (.getfield 120) 3 := by decide +kernel
theorem d7_9 : dc k11 9 (.if_icmp .lt 5) 3 := by decide +kernel
theorem d7_12 : dc k11 12 (.iconst 0) 1 := by decide +kernel
theorem d7_13 : dc k11 13 (.ireturn) 1 := by decide +kernel
theorem d7_14 : dc k11 14 (.aload_n 0) 1 := by decide +kernel
theorem d7_15 : dc k11 15 (.getfield 7) 3 := by decide +kernel
theorem d7_18 : dc k11 18 (.iload_n 1) 1 := by decide +kernel
theorem d7_19 : dc k11 19 (.iaload) 1 := by decide +kernel
theorem d7_20 : dc k11 20 (.ireturn) 1 := by decide +kernel
abbrev y7 : MethodName := ⟨"FatPointerC", "kindAt", "(I)I"⟩
theorem hy7 : y7.cls ≠ "java/lang/invoke/MethodHandle" ∧ y7.cls ≠ "java/lang/invoke/VarHandle" := by decide
theorem pd7 : parseMethodDescriptor y7.desc = some ⟨[.int], some .int⟩ := by decide +kernel
abbrev R7 : Room := { frames := 0, cells := 0, slots := 0, locals := 0 }
abbrev P7 (s : St) (r : Int32) : Option Value → List OwnC → Prop := fun v H' => v = some (.int r) ∧ H' = (Hb 0 s)
abbrev W7 (l : Launch) (Z : State) (n0 : Nat) (Q : Option Value → List OwnC → Prop) (k n pc : Nat) (L : List Slot) (S : List Value) (H : List OwnC) : Prop := WP l Z CN lay "FatPointerC" "kindAt" prog_1_method_16_code 2 (some FieldType.int) R7 n0 0 Q k n pc L S H
def f_kindAt_12 (s : St) : Option (Int32) :=
 some (0 : Int32)
theorem ok7_12 (l : Launch) (Z : State) (a0 : Array Value) (hw : HW a0 Z) (n0 : Nat) (s : St) (r : Int32) (h : f_kindAt_12 s = some r) : W7 l Z n0 (P7 s r) 0 0 12 (vU :: vU :: []) [] (Hb 0 s) := by
 unfold f_kindAt_12 at h
 refine WP.iconst (0 : Int32) d7_12 rfl ?_
 cases h
 exact WP.ireturn d7_13 rfl (leb rfl) (leb rfl) ⟨rfl, rfl⟩
def f_kindAt (p1 : Int32) (s : St) : Option (Int32) :=
 if p1 < 0 then
  f_kindAt_12 s
 else
  if p1 < (gI s 2) then
   (rd (gA s 0) p1).bind fun x3 =>
   some x3
  else
   f_kindAt_12 s
theorem ok7 (l : Launch) (Z : State) (a0 : Array Value) (hw : HW a0 Z) (p1 : Int32) (s : St) (r : Int32) (h : f_kindAt p1 s = some r) : CS l Z CN lay y7 prog_1_method_16_code 2 (some FieldType.int) R7 0 [.ref 0, .int p1] (Hb 0 s) (P7 s r) := by
 refine CS.of_wp pn_cls (leb rfl) fun n0 => ?_
 show W7 l Z n0 (P7 s r) 0 0 0 (vR 0 :: vI p1 :: []) [] (Hb 0 s)
 unfold f_kindAt at h
 refine WP.iloadN d7_0 rfl ?_
 rcases ite_e h with ⟨hc1, h⟩ | ⟨hc1, h⟩
 ·
  refine WP.ifY (pc' := 12) d7_1 (XT.i0_lt_t hc1) (by decide) rfl ?_
  exact WP.weak (L' := (vU :: vU :: [])) trivial (ok7_12 l Z a0 hw n0 s _ h)
 ·
  refine WP.ifN d7_1 (XT.i0_lt_f hc1) ?_
  refine WP.iloadN d7_4 rfl ?_
  refine WP.aloadN d7_5 rfl ?_
  refine WP.getfield (i := 0) (j := 2) d7_6 (hw _ m_104) rfl rfl rfl ?_
  rcases ite_e h with ⟨hc2, h⟩ | ⟨hc2, h⟩
  ·
   refine WP.icmpY (pc' := 14) d7_9 (XT.ii_lt_t hc2) (by decide) rfl ?_
   refine WP.aloadN d7_14 rfl ?_
   refine WP.getfield (i := 0) (j := 3) d7_15 (hw _ m_10) rfl rfl rfl ?_
   refine WP.iloadN d7_18 rfl ?_
   obtain ⟨x3, hx3, h⟩ := bd h
   refine WP.iaload (i := 1) d7_19 rfl hx3 ?_
   cases h
   exact WP.ireturn d7_20 rfl (leb rfl) (leb rfl) ⟨rfl, rfl⟩
  ·
   refine WP.icmpN d7_9 (XT.ii_lt_f hc2) ?_
   exact WP.weak (L' := (vU :: vU :: [])) trivial (ok7_12 l Z a0 hw n0 s _ h)
theorem d6_0 : dc k15 0 (.aload_n 0) 1 := by decide +kernel
theorem d6_1 : dc k15 1 (.getfield 180) 3 := by decide +kernel
theorem d6_4 : dc k15 4 (.ifCond .ne 4) 3 := by decide +kernel
theorem d6_7 : dc k15 7 (.return_) 1 := by decide +kernel
theorem d6_8 : dc k15 8 (.aload_n 0) 1 := by decide +kernel
theorem d6_9 : dc k15 9 (.aload_n 0) 1 := by decide +kernel
theorem d6_10 : dc k15 10 (.getfield 183) 3 := by decide +kernel
theorem d6_13 : dc k15 13 (.invokevirtual 192) 3 := by decide +kernel
theorem d6_16 : dc k15 16 (.iload_n 1) 1 := by decide +kernel
theorem d6_17 : dc k15 17 (.if_icmp .eq 9) 3 := by decide +kernel
theorem d6_20 : dc k15 20 (.aload_n 0) 1 := by decide +kernel
theorem d6_21 : dc k15 21 (.iconst 0) 1 := by decide +kernel
theorem d6_22 : dc k15 22 (.putfield 180) 3 := by decide +kernel
theorem d6_25 : dc k15 25 (.return_) 1 := by decide +kernel
theorem d6_26 : dc k15 26 (.aload_n 0) 1 := by decide +kernel
theorem d6_27 : dc k15 27 (.dup) 1 := by decide +kernel
theorem d6_28 : dc k15 28 (.getfield 183) 3 := by decide +kernel
theorem d6_31 : dc k15 31 (.iconst 1) 1 := by decide +kernel
theorem d6_32 : dc k15 32 (.iadd) 1 := by decide +kernel
theorem d6_33 : dc k15 33 (.putfield 183) 3 := by decide +kernel
theorem d6_36 : dc k15 36 (.return_) 1 := by decide +kernel
abbrev y6 : MethodName := ⟨"FatPointerC", "expect", "(I)V"⟩
theorem hy6 : y6.cls ≠ "java/lang/invoke/MethodHandle" ∧ y6.cls ≠ "java/lang/invoke/VarHandle" := by decide
theorem pd6 : parseMethodDescriptor y6.desc = some ⟨[.int], none⟩ := by decide +kernel
abbrev R6 : Room := { frames := 1, cells := 0, slots := 0, locals := 13 }
abbrev P6 (r : St) : Option Value → List OwnC → Prop := fun v H' => v = none ∧ H' = (Hb 0 r)
abbrev W6 (l : Launch) (Z : State) (n0 : Nat) (Q : Option Value → List OwnC → Prop) (k n pc : Nat) (L : List Slot) (S : List Value) (H : List OwnC) : Prop := WP l Z CN lay "FatPointerC" "expect" prog_1_method_20_code 2 (none) R6 n0 0 Q k n pc L S H
def f_expect (p1 : Int32) (s : St) : Option (St) :=
 if (gI s 12) = 0 then
  some s
 else
  (f_kindAt (gI s 11) s).bind fun c2 =>
  if c2 = p1 then
   lt (sI s 11 ((gI s 11) + (1 : Int32))) fun s4 =>
   some s4
  else
   lt (sI s 12 (0 : Int32)) fun s5 =>
   some s5
theorem ok6 (l : Launch) (Z : State) (a0 : Array Value) (hw : HW a0 Z) (p1 : Int32) (s r : St) (h : f_expect p1 s = some r) : CS l Z CN lay y6 prog_1_method_20_code 2 (none) R6 0 [.ref 0, .int p1] (Hb 0 s) (P6 r) := by
 refine CS.of_wp pn_cls (leb rfl) fun n0 => ?_
 show W6 l Z n0 (P6 r) 0 0 0 (vR 0 :: vI p1 :: []) [] (Hb 0 s)
 unfold f_expect at h
 refine WP.aloadN d6_0 rfl ?_
 refine WP.getfield (i := 0) (j := 27) d6_1 (hw _ m_117) rfl rfl rfl ?_
 rcases ite_e h with ⟨hc1, h⟩ | ⟨hc1, h⟩
 ·
  refine WP.ifN d6_4 (XT.i0_ne_f hc1) ?_
  cases h
  exact WP.vreturn d6_7 rfl (leb rfl) (leb rfl) ⟨rfl, rfl⟩
 ·
  refine WP.ifY (pc' := 8) d6_4 (XT.i0_ne_t hc1) (by decide) rfl ?_
  refine WP.aloadN d6_8 rfl ?_
  refine WP.aloadN d6_9 rfl ?_
  refine WP.getfield (i := 0) (j := 26) d6_10 (hw _ m_119) rfl rfl rfl ?_
  obtain ⟨c2, hc2, h⟩ := bd h
  refine WP.callP (i := 0) (y := y7) (as := [.int (gI s 11)]) (S := []) d6_13 (hw _ m_129) (hw _ m_131) (hw _ m_1) (hw _ m_130) (hw _ m_132) (hw _ m_2) hy7 rfl (ok7 l Z a0 hw (gI s 11) s _ hc2) rfl (lenOf pd7 rfl) (leb rfl) (leb rfl) (leb rfl) (leb rfl) ?_
  rintro _ _ ⟨rfl, rfl⟩
  show W6 l Z n0 (P6 r) 0 0 16 (vR 0 :: vI p1 :: []) [.int c2] (Hb 0 s)
  refine WP.iloadN d6_16 rfl ?_
  rcases ite_e h with ⟨hc3, h⟩ | ⟨hc3, h⟩
  ·
   refine WP.icmpY (pc' := 26) d6_17 (XT.ii_eq_t hc3) (by decide) rfl ?_
   refine WP.aloadN d6_26 rfl ?_
   refine WP.dup d6_27 rfl ?_
   refine WP.getfield (i := 0) (j := 26) d6_28 (hw _ m_119) rfl rfl rfl ?_
   refine WP.iconst (1 : Int32) d6_31 rfl ?_
   refine WP.iadd d6_32 ?_
   obtain ⟨s4, es4, h⟩ := lt_e h
   refine WP.putI (i := 0) (j := 26) (H' := (Hb 0 s4)) d6_33 (hw _ m_119) (Or.inl (hw _ m_120)) (hw _ m_1) (hlay hw) rfl rfl rfl (leb rfl) (by subst es4; rfl) ?_
   cases h
   exact WP.vreturn d6_36 rfl (leb rfl) (leb rfl) ⟨rfl, rfl⟩
  ·
   refine WP.icmpN d6_17 (XT.ii_eq_f hc3) ?_
   refine WP.aloadN d6_20 rfl ?_
   refine WP.iconst (0 : Int32) d6_21 rfl ?_
   obtain ⟨s5, es5, h⟩ := lt_e h
   refine WP.putZ (i := 0) (j := 27) (H' := (Hb 0 s5)) d6_22 (hw _ m_117) (Or.inl (hw _ m_118)) (hw _ m_1) (hlay hw) rfl rfl rfl (leb rfl) (by subst es5; rfl) ?_
   cases h
   exact WP.vreturn d6_25 rfl (leb rfl) (leb rfl) ⟨rfl, rfl⟩
theorem d8_0 : dc k12 0 (.iload_n 1) 1 := by decide +kernel
theorem d8_1 : dc k12 1 (.ifCond .lt 11) 3 := by decide +kernel
theorem d8_4 : dc k12 4 (.iload_n 1) 1 := by decide +kernel
theorem d8_5 : dc k12 5 (.aload_n 0) 1 := by decide +kernel
theorem d8_6 : dc k12 6 (.getfield 120) 3 := by decide +kernel
theorem d8_9 : dc k12 9 (.if_icmp .lt 5) 3 := by decide +kernel
theorem d8_12 : dc k12 12 (.iconst 0) 1 := by decide +kernel
theorem d8_13 : dc k12 13 (.ireturn) 1 := by decide +kernel
theorem d8_14 : dc k12 14 (.aload_n 0) 1 := by decide +kernel
theorem d8_15 : dc k12 15 (.getfield 13) 3 := by decide +kernel
theorem d8_18 : dc k12 18 (.iload_n 1) 1 := by decide +kernel
theorem d8_19 : dc k12 19 (.iaload) 1 := by decide +kernel
theorem d8_20 : dc k12 20 (.ireturn) 1 := by decide +kernel
abbrev y8 : MethodName := ⟨"FatPointerC", "valAt", "(I)I"⟩
theorem hy8 : y8.cls ≠ "java/lang/invoke/MethodHandle" ∧ y8.cls ≠ "java/lang/invoke/VarHandle" := by decide
theorem pd8 : parseMethodDescriptor y8.desc = some ⟨[.int], some .int⟩ := by decide +kernel
abbrev R8 : Room := { frames := 0, cells := 0, slots := 0, locals := 0 }
abbrev P8 (s : St) (r : Int32) : Option Value → List OwnC → Prop := fun v H' => v = some (.int r) ∧ H' = (Hb 0 s)
abbrev W8 (l : Launch) (Z : State) (n0 : Nat) (Q : Option Value → List OwnC → Prop) (k n pc : Nat) (L : List Slot) (S : List Value) (H : List OwnC) : Prop := WP l Z CN lay "FatPointerC" "valAt" prog_1_method_17_code 2 (some FieldType.int) R8 n0 0 Q k n pc L S H
def f_valAt_12 (s : St) : Option (Int32) :=
 some (0 : Int32)
theorem ok8_12 (l : Launch) (Z : State) (a0 : Array Value) (hw : HW a0 Z) (n0 : Nat) (s : St) (r : Int32) (h : f_valAt_12 s = some r) : W8 l Z n0 (P8 s r) 0 0 12 (vU :: vU :: []) [] (Hb 0 s) := by
 unfold f_valAt_12 at h
 refine WP.iconst (0 : Int32) d8_12 rfl ?_
 cases h
 exact WP.ireturn d8_13 rfl (leb rfl) (leb rfl) ⟨rfl, rfl⟩
def f_valAt (p1 : Int32) (s : St) : Option (Int32) :=
 if p1 < 0 then
  f_valAt_12 s
 else
  if p1 < (gI s 2) then
   (rd (gA s 1) p1).bind fun x3 =>
   some x3
  else
   f_valAt_12 s
theorem ok8 (l : Launch) (Z : State) (a0 : Array Value) (hw : HW a0 Z) (p1 : Int32) (s : St) (r : Int32) (h : f_valAt p1 s = some r) : CS l Z CN lay y8 prog_1_method_17_code 2 (some FieldType.int) R8 0 [.ref 0, .int p1] (Hb 0 s) (P8 s r) := by
 refine CS.of_wp pn_cls (leb rfl) fun n0 => ?_
 show W8 l Z n0 (P8 s r) 0 0 0 (vR 0 :: vI p1 :: []) [] (Hb 0 s)
 unfold f_valAt at h
 refine WP.iloadN d8_0 rfl ?_
 rcases ite_e h with ⟨hc1, h⟩ | ⟨hc1, h⟩
 ·
  refine WP.ifY (pc' := 12) d8_1 (XT.i0_lt_t hc1) (by decide) rfl ?_
  exact WP.weak (L' := (vU :: vU :: [])) trivial (ok8_12 l Z a0 hw n0 s _ h)
 ·
  refine WP.ifN d8_1 (XT.i0_lt_f hc1) ?_
  refine WP.iloadN d8_4 rfl ?_
  refine WP.aloadN d8_5 rfl ?_
  refine WP.getfield (i := 0) (j := 2) d8_6 (hw _ m_104) rfl rfl rfl ?_
  rcases ite_e h with ⟨hc2, h⟩ | ⟨hc2, h⟩
  ·
   refine WP.icmpY (pc' := 14) d8_9 (XT.ii_lt_t hc2) (by decide) rfl ?_
   refine WP.aloadN d8_14 rfl ?_
   refine WP.getfield (i := 0) (j := 4) d8_15 (hw _ m_12) rfl rfl rfl ?_
   refine WP.iloadN d8_18 rfl ?_
   obtain ⟨x3, hx3, h⟩ := bd h
   refine WP.iaload (i := 2) d8_19 rfl hx3 ?_
   cases h
   exact WP.ireturn d8_20 rfl (leb rfl) (leb rfl) ⟨rfl, rfl⟩
  ·
   refine WP.icmpN d8_9 (XT.ii_lt_f hc2) ?_
   exact WP.weak (L' := (vU :: vU :: [])) trivial (ok8_12 l Z a0 hw n0 s _ h)
theorem d13_0 : dc k21 0 (.aload_n 0) 1 := by decide +kernel
theorem d13_1 : dc k21 1 (.getfield 180) 3 := by decide +kernel
theorem d13_4 : dc k21 4 (.ifCond .ne 4) 3 := by decide +kernel
theorem d13_7 : dc k21 7 (.return_) 1 := by decide +kernel
theorem d13_8 : dc k21 8 (.aload_n 0) 1 := by decide +kernel
theorem d13_9 : dc k21 9 (.getfield 202) 3 := by decide +kernel
theorem d13_12 : dc k21 12 (.bipush 8) 2 := by decide +kernel
theorem d13_14 : dc k21 14 (.imul) 1 := by decide +kernel
theorem d13_15 : dc k21 15 (.iload_n 1) 1 := by decide +kernel
theorem d13_16 : dc k21 16 (.bipush 7) 2 := by decide +kernel
theorem d13_18 : dc k21 18 (.iand) 1 := by decide +kernel
theorem d13_19 : dc k21 19 (.iadd) 1 := by decide +kernel
theorem d13_20 : dc k21 20 (.istore 4) 2 := by decide +kernel
theorem d13_22 : dc k21 22 (.aload_n 0) 1 := by decide +kernel
theorem d13_23 : dc k21 23 (.getfield 29) 3 := by decide +kernel
theorem d13_26 : dc k21 26 (.aload_n 0) 1 := by decide +kernel
theorem d13_27 : dc k21 27 (.getfield 202) 3 := by decide +kernel
theorem d13_30 : dc k21 30 (.iaload) 1 := by decide +kernel
theorem d13_31 : dc k21 31 (.istore 5) 2 := by decide +kernel
theorem d13_33 : dc k21 33 (.aload_n 0) 1 := by decide +kernel
theorem d13_34 : dc k21 34 (.getfield 38) 3 := by decide +kernel
theorem d13_37 : dc k21 37 (.iload 4) 2 := by decide +kernel
theorem d13_39 : dc k21 39 (.iaload) 1 := by decide +kernel
theorem d13_40 : dc k21 40 (.ifCond .ge 10) 3 := by decide +kernel
theorem d13_43 : dc k21 43 (.iload 5) 2 := by decide +kernel
theorem d13_45 : dc k21 45 (.bipush 8) 2 := by decide +kernel
theorem d13_47 : dc k21 47 (.if_icmp .lt 9) 3 := by decide +kernel
theorem d13_50 : dc k21 50 (.aload_n 0) 1 := by decide +kernel
theorem d13_51 : dc k21 51 (.iconst 0) 1 := by decide +kernel
theorem d13_52 : dc k21 52 (.putfield 180) 3 := by decide +kernel
theorem d13_55 : dc k21 55 (.return_) 1 := by decide +kernel
theorem d13_56 : dc k21 56 (.aload_n 0) 1 := by decide +kernel
theorem d13_57 : dc k21 57 (.getfield 38) 3 := by decide +kernel
theorem d13_60 : dc k21 60 (.iload 4) 2 := by decide +kernel
theorem d13_62 : dc k21 62 (.iload 5) 2 := by decide +kernel
theorem d13_64 : dc k21 64 (.iastore) 1 := by decide +kernel
theorem d13_65 : dc k21 65 (.aload_n 0) 1 := by decide +kernel
theorem d13_66 : dc k21 66 (.getfield 41) 3 := by decide +kernel
theorem d13_69 : dc k21 69 (.iload 4) 2 := by decide +kernel
theorem d13_71 : dc k21 71 (.iload_n 3) 1 := by decide +kernel
theorem d13_72 : dc k21 72 (.bastore) 1 := by decide +kernel
theorem d13_73 : dc k21 73 (.aload_n 0) 1 := by decide +kernel
theorem d13_74 : dc k21 74 (.getfield 44) 3 := by decide +kernel
theorem d13_77 : dc k21 77 (.aload_n 0) 1 := by decide +kernel
theorem d13_78 : dc k21 78 (.getfield 202) 3 := by decide +kernel
theorem d13_81 : dc k21 81 (.bipush 8) 2 := by decide +kernel
theorem d13_83 : dc k21 83 (.imul) 1 := by decide +kernel
theorem d13_84 : dc k21 84 (.iload 5) 2 := by decide +kernel
theorem d13_86 : dc k21 86 (.iadd) 1 := by decide +kernel
theorem d13_87 : dc k21 87 (.iload_n 2) 1 := by decide +kernel
theorem d13_88 : dc k21 88 (.iastore) 1 := by decide +kernel
theorem d13_89 : dc k21 89 (.aload_n 0) 1 := by decide +kernel
theorem d13_90 : dc k21 90 (.getfield 29) 3 := by decide +kernel
theorem d13_93 : dc k21 93 (.aload_n 0) 1 := by decide +kernel
theorem d13_94 : dc k21 94 (.getfield 202) 3 := by decide +kernel
theorem d13_97 : dc k21 97 (.iload 5) 2 := by decide +kernel
theorem d13_99 : dc k21 99 (.iconst 1) 1 := by decide +kernel
theorem d13_100 : dc k21 100 (.iadd) 1 := by decide +kernel
theorem d13_101 : dc k21 101 (.iastore) 1 := by decide +kernel
theorem d13_102 : dc k21 102 (.aload_n 0) 1 := by decide +kernel
theorem d13_103 : dc k21 103 (.getfield 32) 3 := by decide +kernel
theorem d13_106 : dc k21 106 (.aload_n 0) 1 := by decide +kernel
theorem d13_107 : dc k21 107 (.getfield 202) 3 := by decide +kernel
theorem d13_110 : dc k21 110 (.dup2) 1 := by decide +kernel
theorem d13_111 : dc k21 111 (.iaload) 1 := by decide +kernel
theorem d13_112 : dc k21 112 (.iload_n 2) 1 := by decide +kernel
theorem d13_113 : dc k21 113 (.iadd) 1 := by decide +kernel
theorem d13_114 : dc k21 114 (.iastore) 1 := by decide +kernel
theorem d13_115 : dc k21 115 (.return_) 1 := by decide +kernel
abbrev y13 : MethodName := ⟨"FatPointerC", "addName", "(IIZ)V"⟩
theorem hy13 : y13.cls ≠ "java/lang/invoke/MethodHandle" ∧ y13.cls ≠ "java/lang/invoke/VarHandle" := by decide
theorem pd13 : parseMethodDescriptor y13.desc = some ⟨[.int, .int, .boolean], none⟩ := by decide +kernel
abbrev R13 : Room := { frames := 0, cells := 0, slots := 0, locals := 0 }
abbrev P13 (r : St) : Option Value → List OwnC → Prop := fun v H' => v = none ∧ H' = (Hb 0 r)
abbrev W13 (l : Launch) (Z : State) (n0 : Nat) (Q : Option Value → List OwnC → Prop) (k n pc : Nat) (L : List Slot) (S : List Value) (H : List OwnC) : Prop := WP l Z CN lay "FatPointerC" "addName" prog_1_method_26_code 6 (none) R13 n0 0 Q k n pc L S H
def f_addName_50 (s : St) : Option (St) :=
 lt (sI s 12 (0 : Int32)) fun s1 =>
 some s1
theorem ok13_50 (l : Launch) (Z : State) (a0 : Array Value) (hw : HW a0 Z) (n0 : Nat) (s r : St) (h : f_addName_50 s = some r) : W13 l Z n0 (P13 r) 0 0 50 (vR 0 :: vU :: vU :: vU :: vU :: vU :: []) [] (Hb 0 s) := by
 unfold f_addName_50 at h
 refine WP.aloadN d13_50 rfl ?_
 refine WP.iconst (0 : Int32) d13_51 rfl ?_
 obtain ⟨s1, es1, h⟩ := lt_e h
 refine WP.putZ (i := 0) (j := 27) (H' := (Hb 0 s1)) d13_52 (hw _ m_117) (Or.inl (hw _ m_118)) (hw _ m_1) (hlay hw) rfl rfl rfl (leb rfl) (by subst es1; rfl) ?_
 cases h
 exact WP.vreturn d13_55 rfl (leb rfl) (leb rfl) ⟨rfl, rfl⟩
def f_addName (p1 p2 p3 : Int32) (s : St) : Option (St) :=
 if (gI s 12) = 0 then
  some s
 else
  lt (((gI s 13) * (8 : Int32)) + (p1 &&& (7 : Int32))) fun x2 =>
  (rd (gA s 6) (gI s 13)).bind fun x3 =>
  (rd (gA s 9) x2).bind fun x4 =>
  if x4 < 0 then
   if x3 < (8 : Int32) then
    (wrA s 9 x2 x3).bind fun s7 =>
    (wrA s7 10 x2 (p3 &&& 1)).bind fun s8 =>
    (wrA s8 11 (((gI s8 13) * (8 : Int32)) + x3) p2).bind fun s9 =>
    (wrA s9 6 (gI s9 13) (x3 + (1 : Int32))).bind fun s10 =>
    (rd (gA s10 7) (gI s10 13)).bind fun x11 =>
    (wrA s10 7 (gI s10 13) (x11 + p2)).bind fun s12 =>
    some s12
   else
    f_addName_50 s
  else
   f_addName_50 s
theorem ok13 (l : Launch) (Z : State) (a0 : Array Value) (hw : HW a0 Z) (p1 p2 p3 : Int32) (s r : St) (h : f_addName p1 p2 p3 s = some r) : CS l Z CN lay y13 prog_1_method_26_code 6 (none) R13 0 [.ref 0, .int p1, .int p2, .int p3] (Hb 0 s) (P13 r) := by
 refine CS.of_wp pn_cls (leb rfl) fun n0 => ?_
 show W13 l Z n0 (P13 r) 0 0 0 (vR 0 :: vI p1 :: vI p2 :: vI p3 :: vU :: vU :: []) [] (Hb 0 s)
 unfold f_addName at h
 refine WP.aloadN d13_0 rfl ?_
 refine WP.getfield (i := 0) (j := 27) d13_1 (hw _ m_117) rfl rfl rfl ?_
 rcases ite_e h with ⟨hc1, h⟩ | ⟨hc1, h⟩
 ·
  refine WP.ifN d13_4 (XT.i0_ne_f hc1) ?_
  cases h
  exact WP.vreturn d13_7 rfl (leb rfl) (leb rfl) ⟨rfl, rfl⟩
 ·
  refine WP.ifY (pc' := 8) d13_4 (XT.i0_ne_t hc1) (by decide) rfl ?_
  refine WP.aloadN d13_8 rfl ?_
  refine WP.getfield (i := 0) (j := 28) d13_9 (hw _ m_137) rfl rfl rfl ?_
  refine WP.bipush (8 : Int32) d13_12 rfl ?_
  refine WP.imul d13_14 ?_
  refine WP.iloadN d13_15 rfl ?_
  refine WP.bipush (7 : Int32) d13_16 rfl ?_
  refine WP.iand d13_18 ?_
  refine WP.iadd d13_19 ?_
  obtain ⟨x2, ex2, h⟩ := lt_e h
  refine WP.istore (L' := (vR 0 :: vI p1 :: vI p2 :: vI p3 :: vI x2 :: vU :: [])) d13_20 (leb rfl) (by subst ex2; rfl) ?_
  refine WP.aloadN d13_22 rfl ?_
  refine WP.getfield (i := 0) (j := 17) d13_23 (hw _ m_23) rfl rfl rfl ?_
  refine WP.aloadN d13_26 rfl ?_
  refine WP.getfield (i := 0) (j := 28) d13_27 (hw _ m_137) rfl rfl rfl ?_
  obtain ⟨x3, hx3, h⟩ := bd h
  refine WP.iaload (i := 7) d13_30 rfl hx3 ?_
  refine WP.istore (L' := (vR 0 :: vI p1 :: vI p2 :: vI p3 :: vI x2 :: vI x3 :: [])) d13_31 (leb rfl) rfl ?_
  refine WP.aloadN d13_33 rfl ?_
  refine WP.getfield (i := 0) (j := 20) d13_34 (hw _ m_29) rfl rfl rfl ?_
  refine WP.iload d13_37 rfl ?_
  obtain ⟨x4, hx4, h⟩ := bd h
  refine WP.iaload (i := 10) d13_39 rfl hx4 ?_
  rcases ite_e h with ⟨hc5, h⟩ | ⟨hc5, h⟩
  ·
   refine WP.ifN d13_40 (XT.i0_ge_f hc5) ?_
   refine WP.iload d13_43 rfl ?_
   refine WP.bipush (8 : Int32) d13_45 rfl ?_
   rcases ite_e h with ⟨hc6, h⟩ | ⟨hc6, h⟩
   ·
    refine WP.icmpY (pc' := 56) d13_47 (XT.ii_lt_t hc6) (by decide) rfl ?_
    refine WP.aloadN d13_56 rfl ?_
    refine WP.getfield (i := 0) (j := 20) d13_57 (hw _ m_29) rfl rfl rfl ?_
    refine WP.iload d13_60 rfl ?_
    refine WP.iload d13_62 rfl ?_
    obtain ⟨s7, hs7, h⟩ := bd h
    obtain ⟨ys7, gs7, es7⟩ := wrA_e hs7
    refine WP.iastore (i := 10) (xs := gA s 9) (H' := (Hb 0 s7)) d13_64 rfl (leb rfl) gs7 (by subst es7; rfl) ?_
    refine WP.aloadN d13_65 rfl ?_
    refine WP.getfield (i := 0) (j := 21) d13_66 (hw _ m_31) rfl rfl rfl ?_
    refine WP.iload d13_69 rfl ?_
    refine WP.iloadN d13_71 rfl ?_
    obtain ⟨s8, hs8, h⟩ := bd h
    obtain ⟨ys8, gs8, es8⟩ := wrA_e hs8
    refine WP.bastore (i := 11) (xs := gA s7 10) (H' := (Hb 0 s8)) d13_72 rfl (leb rfl) gs8 (by subst es8; rfl) ?_
    refine WP.aloadN d13_73 rfl ?_
    refine WP.getfield (i := 0) (j := 22) d13_74 (hw _ m_33) rfl rfl rfl ?_
    refine WP.aloadN d13_77 rfl ?_
    refine WP.getfield (i := 0) (j := 28) d13_78 (hw _ m_137) rfl rfl rfl ?_
    refine WP.bipush (8 : Int32) d13_81 rfl ?_
    refine WP.imul d13_83 ?_
    refine WP.iload d13_84 rfl ?_
    refine WP.iadd d13_86 ?_
    refine WP.iloadN d13_87 rfl ?_
    obtain ⟨s9, hs9, h⟩ := bd h
    obtain ⟨ys9, gs9, es9⟩ := wrA_e hs9
    refine WP.iastore (i := 12) (xs := gA s8 11) (H' := (Hb 0 s9)) d13_88 rfl (leb rfl) gs9 (by subst es9; rfl) ?_
    refine WP.aloadN d13_89 rfl ?_
    refine WP.getfield (i := 0) (j := 17) d13_90 (hw _ m_23) rfl rfl rfl ?_
    refine WP.aloadN d13_93 rfl ?_
    refine WP.getfield (i := 0) (j := 28) d13_94 (hw _ m_137) rfl rfl rfl ?_
    refine WP.iload d13_97 rfl ?_
    refine WP.iconst (1 : Int32) d13_99 rfl ?_
    refine WP.iadd d13_100 ?_
    obtain ⟨s10, hs10, h⟩ := bd h
    obtain ⟨ys10, gs10, es10⟩ := wrA_e hs10
    refine WP.iastore (i := 7) (xs := gA s9 6) (H' := (Hb 0 s10)) d13_101 rfl (leb rfl) gs10 (by subst es10; rfl) ?_
    refine WP.aloadN d13_102 rfl ?_
    refine WP.getfield (i := 0) (j := 18) d13_103 (hw _ m_25) rfl rfl rfl ?_
    refine WP.aloadN d13_106 rfl ?_
    refine WP.getfield (i := 0) (j := 28) d13_107 (hw _ m_137) rfl rfl rfl ?_
    refine WP.dup2 d13_110 rfl rfl ?_
    obtain ⟨x11, hx11, h⟩ := bd h
    refine WP.iaload (i := 8) d13_111 rfl hx11 ?_
    refine WP.iloadN d13_112 rfl ?_
    refine WP.iadd d13_113 ?_
    obtain ⟨s12, hs12, h⟩ := bd h
    obtain ⟨ys12, gs12, es12⟩ := wrA_e hs12
    refine WP.iastore (i := 8) (xs := gA s10 7) (H' := (Hb 0 s12)) d13_114 rfl (leb rfl) gs12 (by subst es12; rfl) ?_
    cases h
    exact WP.vreturn d13_115 rfl (leb rfl) (leb rfl) ⟨rfl, rfl⟩
   ·
    refine WP.icmpN d13_47 (XT.ii_lt_f hc6) ?_
    exact WP.weak (L' := (vR 0 :: vU :: vU :: vU :: vU :: vU :: [])) ⟨rfl, trivial⟩ (ok13_50 l Z a0 hw n0 s _ h)
  ·
   refine WP.ifY (pc' := 50) d13_40 (XT.i0_ge_t hc5) (by decide) rfl ?_
   exact WP.weak (L' := (vR 0 :: vU :: vU :: vU :: vU :: vU :: [])) ⟨rfl, trivial⟩ (ok13_50 l Z a0 hw n0 s _ h)
theorem d9_0 : dc k17 0 (.aload_n 0) 1 := by decide +kernel
theorem d9_1 : dc k17 1 (.getfield 180) 3 := by decide +kernel
theorem d9_4 : dc k17 4 (.ifCond .eq 15) 3 := by decide +kernel
theorem d9_7 : dc k17 7 (.aload_n 0) 1 := by decide +kernel
theorem d9_8 : dc k17 8 (.aload_n 0) 1 := by decide +kernel
theorem d9_9 : dc k17 9 (.getfield 183) 3 := by decide +kernel
theorem d9_12 : dc k17 12 (.invokevirtual 192) 3 := by decide +kernel
theorem d9_15 : dc k17 15 (.iconst 2) 1 := by decide +kernel
theorem d9_16 : dc k17 16 (.if_icmp .eq 4) 3 := by decide +kernel
theorem d9_19 : dc k17 19 (.return_) 1 := by decide +kernel
theorem d9_20 : dc k17 20 (.iconst 0) 1 := by decide +kernel
theorem d9_21 : dc k17 21 (.istore_n 1) 1 := by decide +kernel
theorem d9_22 : dc k17 22 (.iload_n 1) 1 := by decide +kernel
theorem d9_23 : dc k17 23 (.bipush 9) 2 := by decide +kernel
theorem d9_25 : dc k17 25 (.if_icmp .ge 95) 3 := by decide +kernel
theorem d9_28 : dc k17 28 (.aload_n 0) 1 := by decide +kernel
theorem d9_29 : dc k17 29 (.getfield 180) 3 := by decide +kernel
theorem d9_32 : dc k17 32 (.ifCond .eq 88) 3 := by decide +kernel
theorem d9_35 : dc k17 35 (.aload_n 0) 1 := by decide +kernel
theorem d9_36 : dc k17 36 (.aload_n 0) 1 := by decide +kernel
theorem d9_37 : dc k17 37 (.getfield 183) 3 := by decide +kernel
theorem d9_40 : dc k17 40 (.invokevirtual 192) 3 := by decide +kernel
theorem d9_43 : dc k17 43 (.iconst 2) 1 := by decide +kernel
theorem d9_44 : dc k17 44 (.if_icmp .eq 9) 3 := by decide +kernel
theorem d9_47 : dc k17 47 (.aload_n 0) 1 := by decide +kernel
theorem d9_48 : dc k17 48 (.iconst 0) 1 := by decide +kernel
theorem d9_49 : dc k17 49 (.putfield 180) 3 := by decide +kernel
theorem d9_52 : dc k17 52 (.return_) 1 := by decide +kernel
theorem d9_53 : dc k17 53 (.aload_n 0) 1 := by decide +kernel
theorem d9_54 : dc k17 54 (.aload_n 0) 1 := by decide +kernel
theorem d9_55 : dc k17 55 (.aload_n 0) 1 := by decide +kernel
theorem d9_56 : dc k17 56 (.getfield 183) 3 := by decide +kernel
theorem d9_59 : dc k17 59 (.invokevirtual 199) 3 := by decide +kernel
theorem d9_62 : dc k17 62 (.iconst 1) 1 := by decide +kernel
theorem d9_63 : dc k17 63 (.iconst 0) 1 := by decide +kernel
theorem d9_64 : dc k17 64 (.invokevirtual 214) 3 := by decide +kernel
theorem d9_67 : dc k17 67 (.aload_n 0) 1 := by decide +kernel
theorem d9_68 : dc k17 68 (.getfield 26) 3 := by decide +kernel
theorem d9_71 : dc k17 71 (.aload_n 0) 1 := by decide +kernel
theorem d9_72 : dc k17 72 (.getfield 202) 3 := by decide +kernel
theorem d9_75 : dc k17 75 (.dup2) 1 := by decide +kernel
theorem d9_76 : dc k17 76 (.iaload) 1 := by decide +kernel
theorem d9_77 : dc k17 77 (.iconst 1) 1 := by decide +kernel
theorem d9_78 : dc k17 78 (.iadd) 1 := by decide +kernel
theorem d9_79 : dc k17 79 (.iastore) 1 := by decide +kernel
theorem d9_80 : dc k17 80 (.aload_n 0) 1 := by decide +kernel
theorem d9_81 : dc k17 81 (.dup) 1 := by decide +kernel
theorem d9_82 : dc k17 82 (.getfield 183) 3 := by decide +kernel
theorem d9_85 : dc k17 85 (.iconst 1) 1 := by decide +kernel
theorem d9_86 : dc k17 86 (.iadd) 1 := by decide +kernel
theorem d9_87 : dc k17 87 (.putfield 183) 3 := by decide +kernel
theorem d9_90 : dc k17 90 (.aload_n 0) 1 := by decide +kernel
theorem d9_91 : dc k17 91 (.aload_n 0) 1 := by decide +kernel
theorem d9_92 : dc k17 92 (.getfield 183) 3 := by decide +kernel
theorem d9_95 : dc k17 95 (.invokevirtual 192) 3 := by decide +kernel
theorem d9_98 : dc k17 98 (.bipush 18) 2 := by decide +kernel
theorem d9_100 : dc k17 100 (.if_icmp .eq 4) 3 := by decide +kernel
theorem d9_103 : dc k17 103 (.return_) 1 := by decide +kernel
theorem d9_104 : dc k17 104 (.aload_n 0) 1 := by decide +kernel
theorem d9_105 : dc k17 105 (.dup) 1 := by decide +kernel
theorem d9_106 : dc k17 106 (.getfield 183) 3 := by decide +kernel
theorem d9_109 : dc k17 109 (.iconst 1) 1 := by decide +kernel
theorem d9_110 : dc k17 110 (.iadd) 1 := by decide +kernel
theorem d9_111 : dc k17 111 (.putfield 183) 3 := by decide +kernel
theorem d9_114 : dc k17 114 (.iinc 1 1) 3 := by decide +kernel
theorem d9_117 : dc k17 117 (.goto (-95)) 3 := by decide +kernel
theorem d9_120 : dc k17 120 (.return_) 1 := by decide +kernel
abbrev y9 : MethodName := ⟨"FatPointerC", "parseParams", "()V"⟩
theorem hy9 : y9.cls ≠ "java/lang/invoke/MethodHandle" ∧ y9.cls ≠ "java/lang/invoke/VarHandle" := by decide
theorem pd9 : parseMethodDescriptor y9.desc = some ⟨[], none⟩ := by decide +kernel
abbrev R9 : Room := { frames := 1, cells := 0, slots := 0, locals := 17 }
abbrev P9 (r : St) : Option Value → List OwnC → Prop := fun v H' => v = none ∧ H' = (Hb 0 r)
abbrev W9 (l : Launch) (Z : State) (n0 : Nat) (Q : Option Value → List OwnC → Prop) (k n pc : Nat) (L : List Slot) (S : List Value) (H : List OwnC) : Prop := WP l Z CN lay "FatPointerC" "parseParams" prog_1_method_22_code 2 (none) R9 n0 0 Q k n pc L S H
def f_parseParams_19 (n : Nat) (s : St) : Option (St) :=
 some s
theorem ok9_19 (l : Launch) (Z : State) (a0 : Array Value) (hw : HW a0 Z) (n0 n : Nat) (s r : St) (h : f_parseParams_19 n s = some r) : W9 l Z n0 (P9 r) 0 0 19 (vU :: vU :: []) [] (Hb 0 s) := by
 unfold f_parseParams_19 at h
 cases h
 exact WP.vreturn d9_19 rfl (leb rfl) (leb rfl) ⟨rfl, rfl⟩
def f_parseParams_120 (n : Nat) (s : St) : Option (St) :=
 some s
theorem ok9_120 (l : Launch) (Z : State) (a0 : Array Value) (hw : HW a0 Z) (n0 n : Nat) (s r : St) (h : f_parseParams_120 n s = some r) : W9 l Z n0 (P9 r) 0 0 120 (vU :: vU :: []) [] (Hb 0 s) := by
 unfold f_parseParams_120 at h
 cases h
 exact WP.vreturn d9_120 rfl (leb rfl) (leb rfl) ⟨rfl, rfl⟩
def g_parseParams_22 (k22 : KT0) (n : Nat) (v1 : Int32) (s : St) : Option (St) :=
 if v1 < (9 : Int32) then
  if (gI s 12) = 0 then
   f_parseParams_120 n s
  else
   (f_kindAt (gI s 11) s).bind fun c3 =>
   if c3 = (2 : Int32) then
    (f_valAt (gI s 11) s).bind fun c5 =>
    (f_addName c5 (1 : Int32) (0 : Int32) s).bind fun c6 =>
    (rd (gA c6 5) (gI c6 13)).bind fun x7 =>
    (wrA c6 5 (gI c6 13) (x7 + (1 : Int32))).bind fun s8 =>
    lt (sI s8 11 ((gI s8 11) + (1 : Int32))) fun s9 =>
    (f_kindAt (gI s9 11) s9).bind fun c10 =>
    if c10 = (18 : Int32) then
     lt (sI s9 11 ((gI s9 11) + (1 : Int32))) fun s12 =>
     lt (v1 + (1 : Int32)) fun x13 =>
     k22 x13 s12
    else
     some s9
   else
    lt (sI s 12 (0 : Int32)) fun s14 =>
    some s14
 else
  f_parseParams_120 n s
abbrev HK9_22 (l : Launch) (Z : State) (n0 : Nat) (k22 : KT0) : Prop := ∀ (v1 : Int32) (s r : St), k22 v1 s = some r → W9 l Z n0 (P9 r) 0 0 22 (vR 0 :: vI v1 :: []) [] (Hb 0 s)
theorem okg9_22 (l : Launch) (Z : State) (a0 : Array Value) (hw : HW a0 Z) (n0 : Nat) (k22 : KT0) (hk22 : HK9_22 l Z n0 k22) (n : Nat) (v1 : Int32) (s r : St) (h : g_parseParams_22 k22 n v1 s = some r) : W9 l Z n0 (P9 r) 0 0 22 (vR 0 :: vI v1 :: []) [] (Hb 0 s) := by
 unfold g_parseParams_22 at h
 refine WP.iloadN d9_22 rfl ?_
 refine WP.bipush (9 : Int32) d9_23 rfl ?_
 rcases ite_e h with ⟨hc1, h⟩ | ⟨hc1, h⟩
 ·
  refine WP.icmpN d9_25 (XT.ii_ge_f hc1) ?_
  refine WP.aloadN d9_28 rfl ?_
  refine WP.getfield (i := 0) (j := 27) d9_29 (hw _ m_117) rfl rfl rfl ?_
  rcases ite_e h with ⟨hc2, h⟩ | ⟨hc2, h⟩
  ·
   refine WP.ifY (pc' := 120) d9_32 (XT.i0_eq_t hc2) (by decide) rfl ?_
   exact WP.weak (L' := (vU :: vU :: [])) trivial (ok9_120 l Z a0 hw n0 n s _ h)
  ·
   refine WP.ifN d9_32 (XT.i0_eq_f hc2) ?_
   refine WP.aloadN d9_35 rfl ?_
   refine WP.aloadN d9_36 rfl ?_
   refine WP.getfield (i := 0) (j := 26) d9_37 (hw _ m_119) rfl rfl rfl ?_
   obtain ⟨c3, hc3, h⟩ := bd h
   refine WP.callP (i := 0) (y := y7) (as := [.int (gI s 11)]) (S := []) d9_40 (hw _ m_129) (hw _ m_131) (hw _ m_1) (hw _ m_130) (hw _ m_132) (hw _ m_2) hy7 rfl (ok7 l Z a0 hw (gI s 11) s _ hc3) rfl (lenOf pd7 rfl) (leb rfl) (leb rfl) (leb rfl) (leb rfl) ?_
   rintro _ _ ⟨rfl, rfl⟩
   show W9 l Z n0 (P9 r) 0 0 43 (vR 0 :: vI v1 :: []) [.int c3] (Hb 0 s)
   refine WP.iconst (2 : Int32) d9_43 rfl ?_
   rcases ite_e h with ⟨hc4, h⟩ | ⟨hc4, h⟩
   ·
    refine WP.icmpY (pc' := 53) d9_44 (XT.ii_eq_t hc4) (by decide) rfl ?_
    refine WP.aloadN d9_53 rfl ?_
    refine WP.aloadN d9_54 rfl ?_
    refine WP.aloadN d9_55 rfl ?_
    refine WP.getfield (i := 0) (j := 26) d9_56 (hw _ m_119) rfl rfl rfl ?_
    obtain ⟨c5, hc5, h⟩ := bd h
    refine WP.callP (i := 0) (y := y8) (as := [.int (gI s 11)]) (S := [.ref 0]) d9_59 (hw _ m_133) (hw _ m_135) (hw _ m_1) (hw _ m_134) (hw _ m_136) (hw _ m_2) hy8 rfl (ok8 l Z a0 hw (gI s 11) s _ hc5) rfl (lenOf pd8 rfl) (leb rfl) (leb rfl) (leb rfl) (leb rfl) ?_
    rintro _ _ ⟨rfl, rfl⟩
    show W9 l Z n0 (P9 r) 0 0 62 (vR 0 :: vI v1 :: []) [.int c5, .ref 0] (Hb 0 s)
    refine WP.iconst (1 : Int32) d9_62 rfl ?_
    refine WP.iconst (0 : Int32) d9_63 rfl ?_
    obtain ⟨c6, hc6, h⟩ := bd h
    refine WP.callP (i := 0) (y := y13) (as := [.int c5, .int (1 : Int32), oN]) (S := []) d9_64 (hw _ m_155) (hw _ m_157) (hw _ m_1) (hw _ m_156) (hw _ m_158) (hw _ m_2) hy13 rfl (ok13 l Z a0 hw c5 (1 : Int32) (0 : Int32) s _ hc6) rfl (lenOf pd13 rfl) (leb rfl) (leb rfl) (leb rfl) (leb rfl) ?_
    rintro _ _ ⟨rfl, rfl⟩
    show W9 l Z n0 (P9 r) 0 0 67 (vR 0 :: vI v1 :: []) [] (Hb 0 c6)
    refine WP.aloadN d9_67 rfl ?_
    refine WP.getfield (i := 0) (j := 16) d9_68 (hw _ m_21) rfl rfl rfl ?_
    refine WP.aloadN d9_71 rfl ?_
    refine WP.getfield (i := 0) (j := 28) d9_72 (hw _ m_137) rfl rfl rfl ?_
    refine WP.dup2 d9_75 rfl rfl ?_
    obtain ⟨x7, hx7, h⟩ := bd h
    refine WP.iaload (i := 6) d9_76 rfl hx7 ?_
    refine WP.iconst (1 : Int32) d9_77 rfl ?_
    refine WP.iadd d9_78 ?_
    obtain ⟨s8, hs8, h⟩ := bd h
    obtain ⟨ys8, gs8, es8⟩ := wrA_e hs8
    refine WP.iastore (i := 6) (xs := gA c6 5) (H' := (Hb 0 s8)) d9_79 rfl (leb rfl) gs8 (by subst es8; rfl) ?_
    refine WP.aloadN d9_80 rfl ?_
    refine WP.dup d9_81 rfl ?_
    refine WP.getfield (i := 0) (j := 26) d9_82 (hw _ m_119) rfl rfl rfl ?_
    refine WP.iconst (1 : Int32) d9_85 rfl ?_
    refine WP.iadd d9_86 ?_
    obtain ⟨s9, es9, h⟩ := lt_e h
    refine WP.putI (i := 0) (j := 26) (H' := (Hb 0 s9)) d9_87 (hw _ m_119) (Or.inl (hw _ m_120)) (hw _ m_1) (hlay hw) rfl rfl rfl (leb rfl) (by subst es9; rfl) ?_
    refine WP.aloadN d9_90 rfl ?_
    refine WP.aloadN d9_91 rfl ?_
    refine WP.getfield (i := 0) (j := 26) d9_92 (hw _ m_119) rfl rfl rfl ?_
    obtain ⟨c10, hc10, h⟩ := bd h
    refine WP.callP (i := 0) (y := y7) (as := [.int (gI s9 11)]) (S := []) d9_95 (hw _ m_129) (hw _ m_131) (hw _ m_1) (hw _ m_130) (hw _ m_132) (hw _ m_2) hy7 rfl (ok7 l Z a0 hw (gI s9 11) s9 _ hc10) rfl (lenOf pd7 rfl) (leb rfl) (leb rfl) (leb rfl) (leb rfl) ?_
    rintro _ _ ⟨rfl, rfl⟩
    show W9 l Z n0 (P9 r) 0 0 98 (vR 0 :: vI v1 :: []) [.int c10] (Hb 0 s9)
    refine WP.bipush (18 : Int32) d9_98 rfl ?_
    rcases ite_e h with ⟨hc11, h⟩ | ⟨hc11, h⟩
    ·
     refine WP.icmpY (pc' := 104) d9_100 (XT.ii_eq_t hc11) (by decide) rfl ?_
     refine WP.aloadN d9_104 rfl ?_
     refine WP.dup d9_105 rfl ?_
     refine WP.getfield (i := 0) (j := 26) d9_106 (hw _ m_119) rfl rfl rfl ?_
     refine WP.iconst (1 : Int32) d9_109 rfl ?_
     refine WP.iadd d9_110 ?_
     obtain ⟨s12, es12, h⟩ := lt_e h
     refine WP.putI (i := 0) (j := 26) (H' := (Hb 0 s12)) d9_111 (hw _ m_119) (Or.inl (hw _ m_120)) (hw _ m_1) (hlay hw) rfl rfl rfl (leb rfl) (by subst es12; rfl) ?_
     obtain ⟨x13, ex13, h⟩ := lt_e h
     refine WP.iinc (L' := (vR 0 :: vI x13 :: [])) (1 : Int32) d9_114 rfl rfl (by subst ex13; rfl) ?_
     refine WP.goto (pc' := 22) d9_117 (by decide) rfl ?_
     exact WP.weak (L' := (vR 0 :: vI x13 :: [])) ⟨rfl, rfl, trivial⟩ (hk22 x13 s12 _ h)
    ·
     refine WP.icmpN d9_100 (XT.ii_eq_f hc11) ?_
     cases h
     exact WP.vreturn d9_103 rfl (leb rfl) (leb rfl) ⟨rfl, rfl⟩
   ·
    refine WP.icmpN d9_44 (XT.ii_eq_f hc4) ?_
    refine WP.aloadN d9_47 rfl ?_
    refine WP.iconst (0 : Int32) d9_48 rfl ?_
    obtain ⟨s14, es14, h⟩ := lt_e h
    refine WP.putZ (i := 0) (j := 27) (H' := (Hb 0 s14)) d9_49 (hw _ m_117) (Or.inl (hw _ m_118)) (hw _ m_1) (hlay hw) rfl rfl rfl (leb rfl) (by subst es14; rfl) ?_
    cases h
    exact WP.vreturn d9_52 rfl (leb rfl) (leb rfl) ⟨rfl, rfl⟩
 ·
  refine WP.icmpY (pc' := 120) d9_25 (XT.ii_ge_t hc1) (by decide) rfl ?_
  exact WP.weak (L' := (vU :: vU :: [])) trivial (ok9_120 l Z a0 hw n0 n s _ h)
def f_parseParams_22 : Nat → Int32 → St → Option (St)
 | 0 => fun _ _ => none
 | n + 1 => g_parseParams_22 (f_parseParams_22 n) n
theorem ok9_22 (l : Launch) (Z : State) (a0 : Array Value) (hw : HW a0 Z) (n0 : Nat) : ∀ (n : Nat) (v1 : Int32) (s r : St), f_parseParams_22 n v1 s = some r → W9 l Z n0 (P9 r) 0 0 22 (vR 0 :: vI v1 :: []) [] (Hb 0 s)
 | 0, v1, s, r, h => nomatch (show none = some r from h)
 | n + 1, v1, s, r, h => okg9_22 l Z a0 hw n0 _ (ok9_22 l Z a0 hw n0 n) n v1 s r h
def f_parseParams (n : Nat) (s : St) : Option (St) :=
 if (gI s 12) = 0 then
  f_parseParams_19 n s
 else
  (f_kindAt (gI s 11) s).bind fun c2 =>
  if c2 = (2 : Int32) then
   f_parseParams_22 n (0 : Int32) s
  else
   f_parseParams_19 n s
theorem ok9 (l : Launch) (Z : State) (a0 : Array Value) (hw : HW a0 Z) (n : Nat) (s r : St) (h : f_parseParams n s = some r) : CS l Z CN lay y9 prog_1_method_22_code 2 (none) R9 0 [.ref 0] (Hb 0 s) (P9 r) := by
 refine CS.of_wp pn_cls (leb rfl) fun n0 => ?_
 show W9 l Z n0 (P9 r) 0 0 0 (vR 0 :: vU :: []) [] (Hb 0 s)
 unfold f_parseParams at h
 refine WP.aloadN d9_0 rfl ?_
 refine WP.getfield (i := 0) (j := 27) d9_1 (hw _ m_117) rfl rfl rfl ?_
 rcases ite_e h with ⟨hc1, h⟩ | ⟨hc1, h⟩
 ·
  refine WP.ifY (pc' := 19) d9_4 (XT.i0_eq_t hc1) (by decide) rfl ?_
  exact WP.weak (L' := (vU :: vU :: [])) trivial (ok9_19 l Z a0 hw n0 n s _ h)
 ·
  refine WP.ifN d9_4 (XT.i0_eq_f hc1) ?_
  refine WP.aloadN d9_7 rfl ?_
  refine WP.aloadN d9_8 rfl ?_
  refine WP.getfield (i := 0) (j := 26) d9_9 (hw _ m_119) rfl rfl rfl ?_
  obtain ⟨c2, hc2, h⟩ := bd h
  refine WP.callP (i := 0) (y := y7) (as := [.int (gI s 11)]) (S := []) d9_12 (hw _ m_129) (hw _ m_131) (hw _ m_1) (hw _ m_130) (hw _ m_132) (hw _ m_2) hy7 rfl (ok7 l Z a0 hw (gI s 11) s _ hc2) rfl (lenOf pd7 rfl) (leb rfl) (leb rfl) (leb rfl) (leb rfl) ?_
  rintro _ _ ⟨rfl, rfl⟩
  show W9 l Z n0 (P9 r) 0 0 15 (vR 0 :: vU :: []) [.int c2] (Hb 0 s)
  refine WP.iconst (2 : Int32) d9_15 rfl ?_
  rcases ite_e h with ⟨hc3, h⟩ | ⟨hc3, h⟩
  ·
   refine WP.icmpY (pc' := 20) d9_16 (XT.ii_eq_t hc3) (by decide) rfl ?_
   refine WP.iconst (0 : Int32) d9_20 rfl ?_
   refine WP.istoreN (L' := (vR 0 :: vI (0 : Int32) :: [])) d9_21 (leb rfl) rfl ?_
   exact WP.weak (L' := (vR 0 :: vI (0 : Int32) :: [])) ⟨rfl, rfl, trivial⟩ (ok9_22 l Z a0 hw n0 n (0 : Int32) s _ h)
  ·
   refine WP.icmpN d9_16 (XT.ii_eq_f hc3) ?_
   exact WP.weak (L' := (vU :: vU :: [])) trivial (ok9_19 l Z a0 hw n0 n s _ h)
theorem d11_0 : dc k19 0 (.aload_n 0) 1 := by decide +kernel
theorem d11_1 : dc k19 1 (.getfield 180) 3 := by decide +kernel
theorem d11_4 : dc k19 4 (.ifCond .ne 5) 3 := by decide +kernel
theorem d11_7 : dc k19 7 (.iconst 0) 1 := by decide +kernel
theorem d11_8 : dc k19 8 (.ireturn) 1 := by decide +kernel
theorem d11_9 : dc k19 9 (.aload_n 0) 1 := by decide +kernel
theorem d11_10 : dc k19 10 (.aload_n 0) 1 := by decide +kernel
theorem d11_11 : dc k19 11 (.getfield 183) 3 := by decide +kernel
theorem d11_14 : dc k19 14 (.invokevirtual 192) 3 := by decide +kernel
theorem d11_17 : dc k19 17 (.iconst 2) 1 := by decide +kernel
theorem d11_18 : dc k19 18 (.if_icmp .eq 10) 3 := by decide +kernel
theorem d11_21 : dc k19 21 (.aload_n 0) 1 := by decide +kernel
theorem d11_22 : dc k19 22 (.iconst 0) 1 := by decide +kernel
theorem d11_23 : dc k19 23 (.putfield 180) 3 := by decide +kernel
theorem d11_26 : dc k19 26 (.iconst 0) 1 := by decide +kernel
theorem d11_27 : dc k19 27 (.ireturn) 1 := by decide +kernel
theorem d11_28 : dc k19 28 (.aload_n 0) 1 := by decide +kernel
theorem d11_29 : dc k19 29 (.aload_n 0) 1 := by decide +kernel
theorem d11_30 : dc k19 30 (.getfield 183) 3 := by decide +kernel
theorem d11_33 : dc k19 33 (.invokevirtual 199) 3 := by decide +kernel
theorem d11_36 : dc k19 36 (.bipush 7) 2 := by decide +kernel
theorem d11_38 : dc k19 38 (.iand) 1 := by decide +kernel
theorem d11_39 : dc k19 39 (.istore_n 1) 1 := by decide +kernel
theorem d11_40 : dc k19 40 (.aload_n 0) 1 := by decide +kernel
theorem d11_41 : dc k19 41 (.dup) 1 := by decide +kernel
theorem d11_42 : dc k19 42 (.getfield 183) 3 := by decide +kernel
theorem d11_45 : dc k19 45 (.iconst 1) 1 := by decide +kernel
theorem d11_46 : dc k19 46 (.iadd) 1 := by decide +kernel
theorem d11_47 : dc k19 47 (.putfield 183) 3 := by decide +kernel
theorem d11_50 : dc k19 50 (.iload_n 1) 1 := by decide +kernel
theorem d11_51 : dc k19 51 (.ireturn) 1 := by decide +kernel
abbrev y11 : MethodName := ⟨"FatPointerC", "declName", "()I"⟩
theorem hy11 : y11.cls ≠ "java/lang/invoke/MethodHandle" ∧ y11.cls ≠ "java/lang/invoke/VarHandle" := by decide
theorem pd11 : parseMethodDescriptor y11.desc = some ⟨[], some .int⟩ := by decide +kernel
abbrev R11 : Room := { frames := 1, cells := 0, slots := 0, locals := 13 }
abbrev P11 (r : Int32 × St) : Option Value → List OwnC → Prop := fun v H' => v = some (.int r.1) ∧ H' = (Hb 0 r.2)
abbrev W11 (l : Launch) (Z : State) (n0 : Nat) (Q : Option Value → List OwnC → Prop) (k n pc : Nat) (L : List Slot) (S : List Value) (H : List OwnC) : Prop := WP l Z CN lay "FatPointerC" "declName" prog_1_method_24_code 2 (some FieldType.int) R11 n0 0 Q k n pc L S H
def f_declName (s : St) : Option (Int32 × St) :=
 if (gI s 12) = 0 then
  some ((0 : Int32), s)
 else
  (f_kindAt (gI s 11) s).bind fun c2 =>
  if c2 = (2 : Int32) then
   (f_valAt (gI s 11) s).bind fun c4 =>
   lt (c4 &&& (7 : Int32)) fun x5 =>
   lt (sI s 11 ((gI s 11) + (1 : Int32))) fun s6 =>
   some (x5, s6)
  else
   lt (sI s 12 (0 : Int32)) fun s7 =>
   some ((0 : Int32), s7)
theorem ok11 (l : Launch) (Z : State) (a0 : Array Value) (hw : HW a0 Z) (s : St) (r : Int32 × St) (h : f_declName s = some r) : CS l Z CN lay y11 prog_1_method_24_code 2 (some FieldType.int) R11 0 [.ref 0] (Hb 0 s) (P11 r) := by
 refine CS.of_wp pn_cls (leb rfl) fun n0 => ?_
 show W11 l Z n0 (P11 r) 0 0 0 (vR 0 :: vU :: []) [] (Hb 0 s)
 unfold f_declName at h
 refine WP.aloadN d11_0 rfl ?_
 refine WP.getfield (i := 0) (j := 27) d11_1 (hw _ m_117) rfl rfl rfl ?_
 rcases ite_e h with ⟨hc1, h⟩ | ⟨hc1, h⟩
 ·
  refine WP.ifN d11_4 (XT.i0_ne_f hc1) ?_
  refine WP.iconst (0 : Int32) d11_7 rfl ?_
  cases h
  exact WP.ireturn d11_8 rfl (leb rfl) (leb rfl) ⟨rfl, rfl⟩
 ·
  refine WP.ifY (pc' := 9) d11_4 (XT.i0_ne_t hc1) (by decide) rfl ?_
  refine WP.aloadN d11_9 rfl ?_
  refine WP.aloadN d11_10 rfl ?_
  refine WP.getfield (i := 0) (j := 26) d11_11 (hw _ m_119) rfl rfl rfl ?_
  obtain ⟨c2, hc2, h⟩ := bd h
  refine WP.callP (i := 0) (y := y7) (as := [.int (gI s 11)]) (S := []) d11_14 (hw _ m_129) (hw _ m_131) (hw _ m_1) (hw _ m_130) (hw _ m_132) (hw _ m_2) hy7 rfl (ok7 l Z a0 hw (gI s 11) s _ hc2) rfl (lenOf pd7 rfl) (leb rfl) (leb rfl) (leb rfl) (leb rfl) ?_
  rintro _ _ ⟨rfl, rfl⟩
  show W11 l Z n0 (P11 r) 0 0 17 (vR 0 :: vU :: []) [.int c2] (Hb 0 s)
  refine WP.iconst (2 : Int32) d11_17 rfl ?_
  rcases ite_e h with ⟨hc3, h⟩ | ⟨hc3, h⟩
  ·
   refine WP.icmpY (pc' := 28) d11_18 (XT.ii_eq_t hc3) (by decide) rfl ?_
   refine WP.aloadN d11_28 rfl ?_
   refine WP.aloadN d11_29 rfl ?_
   refine WP.getfield (i := 0) (j := 26) d11_30 (hw _ m_119) rfl rfl rfl ?_
   obtain ⟨c4, hc4, h⟩ := bd h
   refine WP.callP (i := 0) (y := y8) (as := [.int (gI s 11)]) (S := []) d11_33 (hw _ m_133) (hw _ m_135) (hw _ m_1) (hw _ m_134) (hw _ m_136) (hw _ m_2) hy8 rfl (ok8 l Z a0 hw (gI s 11) s _ hc4) rfl (lenOf pd8 rfl) (leb rfl) (leb rfl) (leb rfl) (leb rfl) ?_
   rintro _ _ ⟨rfl, rfl⟩
   show W11 l Z n0 (P11 r) 0 0 36 (vR 0 :: vU :: []) [.int c4] (Hb 0 s)
   refine WP.bipush (7 : Int32) d11_36 rfl ?_
   refine WP.iand d11_38 ?_
   obtain ⟨x5, ex5, h⟩ := lt_e h
   refine WP.istoreN (L' := (vR 0 :: vI x5 :: [])) d11_39 (leb rfl) (by subst ex5; rfl) ?_
   refine WP.aloadN d11_40 rfl ?_
   refine WP.dup d11_41 rfl ?_
   refine WP.getfield (i := 0) (j := 26) d11_42 (hw _ m_119) rfl rfl rfl ?_
   refine WP.iconst (1 : Int32) d11_45 rfl ?_
   refine WP.iadd d11_46 ?_
   obtain ⟨s6, es6, h⟩ := lt_e h
   refine WP.putI (i := 0) (j := 26) (H' := (Hb 0 s6)) d11_47 (hw _ m_119) (Or.inl (hw _ m_120)) (hw _ m_1) (hlay hw) rfl rfl rfl (leb rfl) (by subst es6; rfl) ?_
   refine WP.iloadN d11_50 rfl ?_
   cases h
   exact WP.ireturn d11_51 rfl (leb rfl) (leb rfl) ⟨rfl, rfl⟩
  ·
   refine WP.icmpN d11_18 (XT.ii_eq_f hc3) ?_
   refine WP.aloadN d11_21 rfl ?_
   refine WP.iconst (0 : Int32) d11_22 rfl ?_
   obtain ⟨s7, es7, h⟩ := lt_e h
   refine WP.putZ (i := 0) (j := 27) (H' := (Hb 0 s7)) d11_23 (hw _ m_117) (Or.inl (hw _ m_118)) (hw _ m_1) (hlay hw) rfl rfl rfl (leb rfl) (by subst es7; rfl) ?_
   refine WP.iconst (0 : Int32) d11_26 rfl ?_
   cases h
   exact WP.ireturn d11_27 rfl (leb rfl) (leb rfl) ⟨rfl, rfl⟩
theorem d12_0 : dc k20 0 (.aload_n 0) 1 := by decide +kernel
theorem d12_1 : dc k20 1 (.getfield 180) 3 := by decide +kernel
theorem d12_4 : dc k20 4 (.ifCond .ne 5) 3 := by decide +kernel
theorem d12_7 : dc k20 7 (.iconst 0) 1 := by decide +kernel
theorem d12_8 : dc k20 8 (.ireturn) 1 := by decide +kernel
theorem d12_9 : dc k20 9 (.aload_n 0) 1 := by decide +kernel
theorem d12_10 : dc k20 10 (.aload_n 0) 1 := by decide +kernel
theorem d12_11 : dc k20 11 (.getfield 183) 3 := by decide +kernel
theorem d12_14 : dc k20 14 (.invokevirtual 192) 3 := by decide +kernel
theorem d12_17 : dc k20 17 (.iconst 1) 1 := by decide +kernel
theorem d12_18 : dc k20 18 (.if_icmp .eq 10) 3 := by decide +kernel
theorem d12_21 : dc k20 21 (.aload_n 0) 1 := by decide +kernel
theorem d12_22 : dc k20 22 (.iconst 0) 1 := by decide +kernel
theorem d12_23 : dc k20 23 (.putfield 180) 3 := by decide +kernel
theorem d12_26 : dc k20 26 (.iconst 0) 1 := by decide +kernel
theorem d12_27 : dc k20 27 (.ireturn) 1 := by decide +kernel
theorem d12_28 : dc k20 28 (.aload_n 0) 1 := by decide +kernel
theorem d12_29 : dc k20 29 (.aload_n 0) 1 := by decide +kernel
theorem d12_30 : dc k20 30 (.getfield 183) 3 := by decide +kernel
theorem d12_33 : dc k20 33 (.invokevirtual 199) 3 := by decide +kernel
theorem d12_36 : dc k20 36 (.istore_n 1) 1 := by decide +kernel
theorem d12_37 : dc k20 37 (.iload_n 1) 1 := by decide +kernel
theorem d12_38 : dc k20 38 (.iconst 1) 1 := by decide +kernel
theorem d12_39 : dc k20 39 (.if_icmp .lt 9) 3 := by decide +kernel
theorem d12_42 : dc k20 42 (.iload_n 1) 1 := by decide +kernel
theorem d12_43 : dc k20 43 (.bipush 16) 2 := by decide +kernel
theorem d12_45 : dc k20 45 (.if_icmp .le 10) 3 := by decide +kernel
theorem d12_48 : dc k20 48 (.aload_n 0) 1 := by decide +kernel
theorem d12_49 : dc k20 49 (.iconst 0) 1 := by decide +kernel
theorem d12_50 : dc k20 50 (.putfield 180) 3 := by decide +kernel
theorem d12_53 : dc k20 53 (.iconst 0) 1 := by decide +kernel
theorem d12_54 : dc k20 54 (.ireturn) 1 := by decide +kernel
theorem d12_55 : dc k20 55 (.aload_n 0) 1 := by decide +kernel
theorem d12_56 : dc k20 56 (.dup) 1 := by decide +kernel
theorem d12_57 : dc k20 57 (.getfield 183) 3 := by decide +kernel
theorem d12_60 : dc k20 60 (.iconst 1) 1 := by decide +kernel
theorem d12_61 : dc k20 61 (.iadd) 1 := by decide +kernel
theorem d12_62 : dc k20 62 (.putfield 183) 3 := by decide +kernel
theorem d12_65 : dc k20 65 (.iload_n 1) 1 := by decide +kernel
theorem d12_66 : dc k20 66 (.ireturn) 1 := by decide +kernel
abbrev y12 : MethodName := ⟨"FatPointerC", "arrSize", "()I"⟩
theorem hy12 : y12.cls ≠ "java/lang/invoke/MethodHandle" ∧ y12.cls ≠ "java/lang/invoke/VarHandle" := by decide
theorem pd12 : parseMethodDescriptor y12.desc = some ⟨[], some .int⟩ := by decide +kernel
abbrev R12 : Room := { frames := 1, cells := 0, slots := 0, locals := 13 }
abbrev P12 (r : Int32 × St) : Option Value → List OwnC → Prop := fun v H' => v = some (.int r.1) ∧ H' = (Hb 0 r.2)
abbrev W12 (l : Launch) (Z : State) (n0 : Nat) (Q : Option Value → List OwnC → Prop) (k n pc : Nat) (L : List Slot) (S : List Value) (H : List OwnC) : Prop := WP l Z CN lay "FatPointerC" "arrSize" prog_1_method_25_code 2 (some FieldType.int) R12 n0 0 Q k n pc L S H
def f_arrSize_48 (s : St) : Option (Int32 × St) :=
 lt (sI s 12 (0 : Int32)) fun s1 =>
 some ((0 : Int32), s1)
theorem ok12_48 (l : Launch) (Z : State) (a0 : Array Value) (hw : HW a0 Z) (n0 : Nat) (s : St) (r : Int32 × St) (h : f_arrSize_48 s = some r) : W12 l Z n0 (P12 r) 0 0 48 (vR 0 :: vU :: []) [] (Hb 0 s) := by
 unfold f_arrSize_48 at h
 refine WP.aloadN d12_48 rfl ?_
 refine WP.iconst (0 : Int32) d12_49 rfl ?_
 obtain ⟨s1, es1, h⟩ := lt_e h
 refine WP.putZ (i := 0) (j := 27) (H' := (Hb 0 s1)) d12_50 (hw _ m_117) (Or.inl (hw _ m_118)) (hw _ m_1) (hlay hw) rfl rfl rfl (leb rfl) (by subst es1; rfl) ?_
 refine WP.iconst (0 : Int32) d12_53 rfl ?_
 cases h
 exact WP.ireturn d12_54 rfl (leb rfl) (leb rfl) ⟨rfl, rfl⟩
def f_arrSize (s : St) : Option (Int32 × St) :=
 if (gI s 12) = 0 then
  some ((0 : Int32), s)
 else
  (f_kindAt (gI s 11) s).bind fun c2 =>
  if c2 = (1 : Int32) then
   (f_valAt (gI s 11) s).bind fun c4 =>
   if c4 < (1 : Int32) then
    f_arrSize_48 s
   else
    if (16 : Int32) < c4 then
     f_arrSize_48 s
    else
     lt (sI s 11 ((gI s 11) + (1 : Int32))) fun s7 =>
     some (c4, s7)
  else
   lt (sI s 12 (0 : Int32)) fun s8 =>
   some ((0 : Int32), s8)
theorem ok12 (l : Launch) (Z : State) (a0 : Array Value) (hw : HW a0 Z) (s : St) (r : Int32 × St) (h : f_arrSize s = some r) : CS l Z CN lay y12 prog_1_method_25_code 2 (some FieldType.int) R12 0 [.ref 0] (Hb 0 s) (P12 r) := by
 refine CS.of_wp pn_cls (leb rfl) fun n0 => ?_
 show W12 l Z n0 (P12 r) 0 0 0 (vR 0 :: vU :: []) [] (Hb 0 s)
 unfold f_arrSize at h
 refine WP.aloadN d12_0 rfl ?_
 refine WP.getfield (i := 0) (j := 27) d12_1 (hw _ m_117) rfl rfl rfl ?_
 rcases ite_e h with ⟨hc1, h⟩ | ⟨hc1, h⟩
 ·
  refine WP.ifN d12_4 (XT.i0_ne_f hc1) ?_
  refine WP.iconst (0 : Int32) d12_7 rfl ?_
  cases h
  exact WP.ireturn d12_8 rfl (leb rfl) (leb rfl) ⟨rfl, rfl⟩
 ·
  refine WP.ifY (pc' := 9) d12_4 (XT.i0_ne_t hc1) (by decide) rfl ?_
  refine WP.aloadN d12_9 rfl ?_
  refine WP.aloadN d12_10 rfl ?_
  refine WP.getfield (i := 0) (j := 26) d12_11 (hw _ m_119) rfl rfl rfl ?_
  obtain ⟨c2, hc2, h⟩ := bd h
  refine WP.callP (i := 0) (y := y7) (as := [.int (gI s 11)]) (S := []) d12_14 (hw _ m_129) (hw _ m_131) (hw _ m_1) (hw _ m_130) (hw _ m_132) (hw _ m_2) hy7 rfl (ok7 l Z a0 hw (gI s 11) s _ hc2) rfl (lenOf pd7 rfl) (leb rfl) (leb rfl) (leb rfl) (leb rfl) ?_
  rintro _ _ ⟨rfl, rfl⟩
  show W12 l Z n0 (P12 r) 0 0 17 (vR 0 :: vU :: []) [.int c2] (Hb 0 s)
  refine WP.iconst (1 : Int32) d12_17 rfl ?_
  rcases ite_e h with ⟨hc3, h⟩ | ⟨hc3, h⟩
  ·
   refine WP.icmpY (pc' := 28) d12_18 (XT.ii_eq_t hc3) (by decide) rfl ?_
   refine WP.aloadN d12_28 rfl ?_
   refine WP.aloadN d12_29 rfl ?_
   refine WP.getfield (i := 0) (j := 26) d12_30 (hw _ m_119) rfl rfl rfl ?_
   obtain ⟨c4, hc4, h⟩ := bd h
   refine WP.callP (i := 0) (y := y8) (as := [.int (gI s 11)]) (S := []) d12_33 (hw _ m_133) (hw _ m_135) (hw _ m_1) (hw _ m_134) (hw _ m_136) (hw _ m_2) hy8 rfl (ok8 l Z a0 hw (gI s 11) s _ hc4) rfl (lenOf pd8 rfl) (leb rfl) (leb rfl) (leb rfl) (leb rfl) ?_
   rintro _ _ ⟨rfl, rfl⟩
   show W12 l Z n0 (P12 r) 0 0 36 (vR 0 :: vU :: []) [.int c4] (Hb 0 s)
   refine WP.istoreN (L' := (vR 0 :: vI c4 :: [])) d12_36 (leb rfl) rfl ?_
   refine WP.iloadN d12_37 rfl ?_
   refine WP.iconst (1 : Int32) d12_38 rfl ?_
   rcases ite_e h with ⟨hc5, h⟩ | ⟨hc5, h⟩
   ·
    refine WP.icmpY (pc' := 48) d12_39 (XT.ii_lt_t hc5) (by decide) rfl ?_
    exact WP.weak (L' := (vR 0 :: vU :: [])) ⟨rfl, trivial⟩ (ok12_48 l Z a0 hw n0 s _ h)
   ·
    refine WP.icmpN d12_39 (XT.ii_lt_f hc5) ?_
    refine WP.iloadN d12_42 rfl ?_
    refine WP.bipush (16 : Int32) d12_43 rfl ?_
    rcases ite_e h with ⟨hc6, h⟩ | ⟨hc6, h⟩
    ·
     refine WP.icmpN d12_45 (XT.ii_le_f hc6) ?_
     exact WP.weak (L' := (vR 0 :: vU :: [])) ⟨rfl, trivial⟩ (ok12_48 l Z a0 hw n0 s _ h)
    ·
     refine WP.icmpY (pc' := 55) d12_45 (XT.ii_le_t hc6) (by decide) rfl ?_
     refine WP.aloadN d12_55 rfl ?_
     refine WP.dup d12_56 rfl ?_
     refine WP.getfield (i := 0) (j := 26) d12_57 (hw _ m_119) rfl rfl rfl ?_
     refine WP.iconst (1 : Int32) d12_60 rfl ?_
     refine WP.iadd d12_61 ?_
     obtain ⟨s7, es7, h⟩ := lt_e h
     refine WP.putI (i := 0) (j := 26) (H' := (Hb 0 s7)) d12_62 (hw _ m_119) (Or.inl (hw _ m_120)) (hw _ m_1) (hlay hw) rfl rfl rfl (leb rfl) (by subst es7; rfl) ?_
     refine WP.iloadN d12_65 rfl ?_
     cases h
     exact WP.ireturn d12_66 rfl (leb rfl) (leb rfl) ⟨rfl, rfl⟩
  ·
   refine WP.icmpN d12_18 (XT.ii_eq_f hc3) ?_
   refine WP.aloadN d12_21 rfl ?_
   refine WP.iconst (0 : Int32) d12_22 rfl ?_
   obtain ⟨s8, es8, h⟩ := lt_e h
   refine WP.putZ (i := 0) (j := 27) (H' := (Hb 0 s8)) d12_23 (hw _ m_117) (Or.inl (hw _ m_118)) (hw _ m_1) (hlay hw) rfl rfl rfl (leb rfl) (by subst es8; rfl) ?_
   refine WP.iconst (0 : Int32) d12_26 rfl ?_
   cases h
   exact WP.ireturn d12_27 rfl (leb rfl) (leb rfl) ⟨rfl, rfl⟩
theorem d10_0 : dc k18 0 (.iconst 0) 1 := by decide +kernel
theorem d10_1 : dc k18 1 (.istore_n 1) 1 := by decide +kernel
theorem d10_2 : dc k18 2 (.iload_n 1) 1 := by decide +kernel
theorem d10_3 : dc k18 3 (.bipush 9) 2 := by decide +kernel
theorem d10_5 : dc k18 5 (.if_icmp .ge 118) 3 := by decide +kernel
theorem d10_8 : dc k18 8 (.aload_n 0) 1 := by decide +kernel
theorem d10_9 : dc k18 9 (.getfield 180) 3 := by decide +kernel
theorem d10_12 : dc k18 12 (.ifCond .eq 111) 3 := by decide +kernel
theorem d10_15 : dc k18 15 (.aload_n 0) 1 := by decide +kernel
theorem d10_16 : dc k18 16 (.aload_n 0) 1 := by decide +kernel
theorem d10_17 : dc k18 17 (.getfield 183) 3 := by decide +kernel
theorem d10_20 : dc k18 20 (.invokevirtual 192) 3 := by decide +kernel
theorem d10_23 : dc k18 23 (.istore_n 2) 1 := by decide +kernel
theorem d10_24 : dc k18 24 (.iload_n 2) 1 := by decide +kernel
theorem d10_25 : dc k18 25 (.iconst 5) 1 := by decide +kernel
theorem d10_26 : dc k18 26 (.if_icmp .ne 34) 3 := by decide +kernel
theorem d10_29 : dc k18 29 (.aload_n 0) 1 := by decide +kernel
theorem d10_30 : dc k18 30 (.dup) 1 := by decide +kernel
theorem d10_31 : dc k18 31 (.getfield 183) 3 := by decide +kernel
theorem d10_34 : dc k18 34 (.iconst 1) 1 := by decide +kernel
theorem d10_35 : dc k18 35 (.iadd) 1 := by decide +kernel
theorem d10_36 : dc k18 36 (.putfield 183) 3 := by decide +kernel
theorem d10_39 : dc k18 39 (.aload_n 0) 1 := by decide +kernel
theorem d10_40 : dc k18 40 (.invokevirtual 218) 3 := by decide +kernel
theorem d10_43 : dc k18 43 (.istore_n 3) 1 := by decide +kernel
theorem d10_44 : dc k18 44 (.aload_n 0) 1 := by decide +kernel
theorem d10_45 : dc k18 45 (.iload_n 3) 1 := by decide +kernel
theorem d10_46 : dc k18 46 (.iconst 1) 1 := by decide +kernel
theorem d10_47 : dc k18 47 (.iconst 0) 1 := by decide +kernel
theorem d10_48 : dc k18 48 (.invokevirtual 214) 3 := by decide +kernel
theorem d10_51 : dc k18 51 (.aload_n 0) 1 := by decide +kernel
theorem d10_52 : dc k18 52 (.bipush 17) 2 := by decide +kernel
theorem d10_54 : dc k18 54 (.invokevirtual 195) 3 := by decide +kernel
theorem d10_57 : dc k18 57 (.goto 60) 3 := by decide +kernel
theorem d10_60 : dc k18 60 (.iload_n 2) 1 := by decide +kernel
theorem d10_61 : dc k18 61 (.bipush 6) 2 := by decide +kernel
theorem d10_63 : dc k18 63 (.if_icmp .ne 53) 3 := by decide +kernel
theorem d10_66 : dc k18 66 (.aload_n 0) 1 := by decide +kernel
theorem d10_67 : dc k18 67 (.dup) 1 := by decide +kernel
theorem d10_68 : dc k18 68 (.getfield 183) 3 := by decide +kernel
theorem d10_71 : dc k18 71 (.iconst 1) 1 := by decide +kernel
theorem d10_72 : dc k18 72 (.iadd) 1 := by decide +kernel
theorem d10_73 : dc k18 73 (.putfield 183) 3 := by decide +kernel
theorem d10_76 : dc k18 76 (.aload_n 0) 1 := by decide +kernel
theorem d10_77 : dc k18 77 (.invokevirtual 218) 3 := by decide +kernel
theorem d10_80 : dc k18 80 (.istore_n 3) 1 := by decide +kernel
theorem d10_81 : dc k18 81 (.aload_n 0) 1 := by decide +kernel
theorem d10_82 : dc k18 82 (.bipush 15) 2 := by decide +kernel
theorem d10_84 : dc k18 84 (.invokevirtual 195) 3 := by decide +kernel
theorem d10_87 : dc k18 87 (.aload_n 0) 1 := by decide +kernel
theorem d10_88 : dc k18 88 (.invokevirtual 222) 3 := by decide +kernel
theorem d10_91 : dc k18 91 (.istore 4) 2 := by decide +kernel
theorem d10_93 : dc k18 93 (.aload_n 0) 1 := by decide +kernel
theorem d10_94 : dc k18 94 (.iload_n 3) 1 := by decide +kernel
theorem d10_95 : dc k18 95 (.iload 4) 2 := by decide +kernel
theorem d10_97 : dc k18 97 (.iconst 1) 1 := by decide +kernel
theorem d10_98 : dc k18 98 (.invokevirtual 214) 3 := by decide +kernel
theorem d10_101 : dc k18 101 (.aload_n 0) 1 := by decide +kernel
theorem d10_102 : dc k18 102 (.bipush 16) 2 := by decide +kernel
theorem d10_104 : dc k18 104 (.invokevirtual 195) 3 := by decide +kernel
theorem d10_107 : dc k18 107 (.aload_n 0) 1 := by decide +kernel
theorem d10_108 : dc k18 108 (.bipush 17) 2 := by decide +kernel
theorem d10_110 : dc k18 110 (.invokevirtual 195) 3 := by decide +kernel
theorem d10_113 : dc k18 113 (.goto 4) 3 := by decide +kernel
theorem d10_116 : dc k18 116 (.return_) 1 := by decide +kernel
theorem d10_117 : dc k18 117 (.iinc 1 1) 3 := by decide +kernel
theorem d10_120 : dc k18 120 (.goto (-118)) 3 := by decide +kernel
theorem d10_123 : dc k18 123 (.return_) 1 := by decide +kernel
abbrev y10 : MethodName := ⟨"FatPointerC", "parseDecls", "()V"⟩
theorem hy10 : y10.cls ≠ "java/lang/invoke/MethodHandle" ∧ y10.cls ≠ "java/lang/invoke/VarHandle" := by decide
theorem pd10 : parseMethodDescriptor y10.desc = some ⟨[], none⟩ := by decide +kernel
abbrev R10 : Room := { frames := 2, cells := 0, slots := 0, locals := 26 }
abbrev P10 (r : St) : Option Value → List OwnC → Prop := fun v H' => v = none ∧ H' = (Hb 0 r)
abbrev W10 (l : Launch) (Z : State) (n0 : Nat) (Q : Option Value → List OwnC → Prop) (k n pc : Nat) (L : List Slot) (S : List Value) (H : List OwnC) : Prop := WP l Z CN lay "FatPointerC" "parseDecls" prog_1_method_23_code 5 (none) R10 n0 0 Q k n pc L S H
def f_parseDecls_117 (k2 : KT0) (n : Nat) (v1 : Int32) (s : St) : Option (St) :=
 lt (v1 + (1 : Int32)) fun x1 =>
 k2 x1 s
abbrev HK10_2 (l : Launch) (Z : State) (n0 : Nat) (k2 : KT0) : Prop := ∀ (v1 : Int32) (s r : St), k2 v1 s = some r → W10 l Z n0 (P10 r) 0 0 2 (vR 0 :: vI v1 :: vU :: vU :: vU :: []) [] (Hb 0 s)
theorem ok10_117 (l : Launch) (Z : State) (a0 : Array Value) (hw : HW a0 Z) (n0 : Nat) (k2 : KT0) (hk2 : HK10_2 l Z n0 k2) (n : Nat) (v1 : Int32) (s r : St) (h : f_parseDecls_117 k2 n v1 s = some r) : W10 l Z n0 (P10 r) 0 0 117 (vR 0 :: vI v1 :: vU :: vU :: vU :: []) [] (Hb 0 s) := by
 unfold f_parseDecls_117 at h
 obtain ⟨x1, ex1, h⟩ := lt_e h
 refine WP.iinc (L' := (vR 0 :: vI x1 :: vU :: vU :: vU :: [])) (1 : Int32) d10_117 rfl rfl (by subst ex1; rfl) ?_
 refine WP.goto (pc' := 2) d10_120 (by decide) rfl ?_
 exact WP.weak (L' := (vR 0 :: vI x1 :: vU :: vU :: vU :: [])) ⟨rfl, rfl, trivial⟩ (hk2 x1 s _ h)
def f_parseDecls_123 (n : Nat) (s : St) : Option (St) :=
 some s
theorem ok10_123 (l : Launch) (Z : State) (a0 : Array Value) (hw : HW a0 Z) (n0 n : Nat) (s r : St) (h : f_parseDecls_123 n s = some r) : W10 l Z n0 (P10 r) 0 0 123 (vU :: vU :: vU :: vU :: vU :: []) [] (Hb 0 s) := by
 unfold f_parseDecls_123 at h
 cases h
 exact WP.vreturn d10_123 rfl (leb rfl) (leb rfl) ⟨rfl, rfl⟩
def g_parseDecls_2 (k2 : KT0) (n : Nat) (v1 : Int32) (s : St) : Option (St) :=
 if v1 < (9 : Int32) then
  if (gI s 12) = 0 then
   f_parseDecls_123 n s
  else
   (f_kindAt (gI s 11) s).bind fun c3 =>
   if c3 = (5 : Int32) then
    lt (sI s 11 ((gI s 11) + (1 : Int32))) fun s5 =>
    (f_declName s5).bind fun c6 =>
    (f_addName c6.1 (1 : Int32) (0 : Int32) c6.2).bind fun c7 =>
    (f_expect (17 : Int32) c7).bind fun c8 =>
    f_parseDecls_117 k2 n v1 c8
   else
    if c3 = (6 : Int32) then
     lt (sI s 11 ((gI s 11) + (1 : Int32))) fun s10 =>
     (f_declName s10).bind fun c11 =>
     (f_expect (15 : Int32) c11.2).bind fun c12 =>
     (f_arrSize c12).bind fun c13 =>
     (f_addName c11.1 c13.1 (1 : Int32) c13.2).bind fun c14 =>
     (f_expect (16 : Int32) c14).bind fun c15 =>
     (f_expect (17 : Int32) c15).bind fun c16 =>
     f_parseDecls_117 k2 n v1 c16
    else
     some s
 else
  f_parseDecls_123 n s
theorem okg10_2 (l : Launch) (Z : State) (a0 : Array Value) (hw : HW a0 Z) (n0 : Nat) (k2 : KT0) (hk2 : HK10_2 l Z n0 k2) (n : Nat) (v1 : Int32) (s r : St) (h : g_parseDecls_2 k2 n v1 s = some r) : W10 l Z n0 (P10 r) 0 0 2 (vR 0 :: vI v1 :: vU :: vU :: vU :: []) [] (Hb 0 s) := by
 unfold g_parseDecls_2 at h
 refine WP.iloadN d10_2 rfl ?_
 refine WP.bipush (9 : Int32) d10_3 rfl ?_
 rcases ite_e h with ⟨hc1, h⟩ | ⟨hc1, h⟩
 ·
  refine WP.icmpN d10_5 (XT.ii_ge_f hc1) ?_
  refine WP.aloadN d10_8 rfl ?_
  refine WP.getfield (i := 0) (j := 27) d10_9 (hw _ m_117) rfl rfl rfl ?_
  rcases ite_e h with ⟨hc2, h⟩ | ⟨hc2, h⟩
  ·
   refine WP.ifY (pc' := 123) d10_12 (XT.i0_eq_t hc2) (by decide) rfl ?_
   exact WP.weak (L' := (vU :: vU :: vU :: vU :: vU :: [])) trivial (ok10_123 l Z a0 hw n0 n s _ h)
  ·
   refine WP.ifN d10_12 (XT.i0_eq_f hc2) ?_
   refine WP.aloadN d10_15 rfl ?_
   refine WP.aloadN d10_16 rfl ?_
   refine WP.getfield (i := 0) (j := 26) d10_17 (hw _ m_119) rfl rfl rfl ?_
   obtain ⟨c3, hc3, h⟩ := bd h
   refine WP.callP (i := 0) (y := y7) (as := [.int (gI s 11)]) (S := []) d10_20 (hw _ m_129) (hw _ m_131) (hw _ m_1) (hw _ m_130) (hw _ m_132) (hw _ m_2) hy7 rfl (ok7 l Z a0 hw (gI s 11) s _ hc3) rfl (lenOf pd7 rfl) (leb rfl) (leb rfl) (leb rfl) (leb rfl) ?_
   rintro _ _ ⟨rfl, rfl⟩
   show W10 l Z n0 (P10 r) 0 0 23 (vR 0 :: vI v1 :: vU :: vU :: vU :: []) [.int c3] (Hb 0 s)
   refine WP.istoreN (L' := (vR 0 :: vI v1 :: vI c3 :: vU :: vU :: [])) d10_23 (leb rfl) rfl ?_
   refine WP.iloadN d10_24 rfl ?_
   refine WP.iconst (5 : Int32) d10_25 rfl ?_
   rcases ite_e h with ⟨hc4, h⟩ | ⟨hc4, h⟩
   ·
    refine WP.icmpN d10_26 (XT.ii_ne_f hc4) ?_
    refine WP.aloadN d10_29 rfl ?_
    refine WP.dup d10_30 rfl ?_
    refine WP.getfield (i := 0) (j := 26) d10_31 (hw _ m_119) rfl rfl rfl ?_
    refine WP.iconst (1 : Int32) d10_34 rfl ?_
    refine WP.iadd d10_35 ?_
    obtain ⟨s5, es5, h⟩ := lt_e h
    refine WP.putI (i := 0) (j := 26) (H' := (Hb 0 s5)) d10_36 (hw _ m_119) (Or.inl (hw _ m_120)) (hw _ m_1) (hlay hw) rfl rfl rfl (leb rfl) (by subst es5; rfl) ?_
    refine WP.aloadN d10_39 rfl ?_
    obtain ⟨c6, hc6, h⟩ := bd h
    refine WP.callP (i := 0) (y := y11) (as := []) (S := []) d10_40 (hw _ m_147) (hw _ m_149) (hw _ m_1) (hw _ m_148) (hw _ m_150) (hw _ m_2) hy11 rfl (ok11 l Z a0 hw s5 _ hc6) rfl (lenOf pd11 rfl) (leb rfl) (leb rfl) (leb rfl) (leb rfl) ?_
    rintro _ _ ⟨rfl, rfl⟩
    show W10 l Z n0 (P10 r) 0 0 43 (vR 0 :: vI v1 :: vI c3 :: vU :: vU :: []) [.int c6.1] (Hb 0 c6.2)
    refine WP.istoreN (L' := (vR 0 :: vI v1 :: vI c3 :: vI c6.1 :: vU :: [])) d10_43 (leb rfl) rfl ?_
    refine WP.aloadN d10_44 rfl ?_
    refine WP.iloadN d10_45 rfl ?_
    refine WP.iconst (1 : Int32) d10_46 rfl ?_
    refine WP.iconst (0 : Int32) d10_47 rfl ?_
    obtain ⟨c7, hc7, h⟩ := bd h
    refine WP.callP (i := 0) (y := y13) (as := [.int c6.1, .int (1 : Int32), oN]) (S := []) d10_48 (hw _ m_155) (hw _ m_157) (hw _ m_1) (hw _ m_156) (hw _ m_158) (hw _ m_2) hy13 rfl (ok13 l Z a0 hw c6.1 (1 : Int32) (0 : Int32) c6.2 _ hc7) rfl (lenOf pd13 rfl) (leb rfl) (leb rfl) (leb rfl) (leb rfl) ?_
    rintro _ _ ⟨rfl, rfl⟩
    show W10 l Z n0 (P10 r) 0 0 51 (vR 0 :: vI v1 :: vI c3 :: vI c6.1 :: vU :: []) [] (Hb 0 c7)
    refine WP.aloadN d10_51 rfl ?_
    refine WP.bipush (17 : Int32) d10_52 rfl ?_
    obtain ⟨c8, hc8, h⟩ := bd h
    refine WP.callP (i := 0) (y := y6) (as := [.int (17 : Int32)]) (S := []) d10_54 (hw _ m_125) (hw _ m_127) (hw _ m_1) (hw _ m_126) (hw _ m_128) (hw _ m_2) hy6 rfl (ok6 l Z a0 hw (17 : Int32) c7 _ hc8) rfl (lenOf pd6 rfl) (leb rfl) (leb rfl) (leb rfl) (leb rfl) ?_
    rintro _ _ ⟨rfl, rfl⟩
    show W10 l Z n0 (P10 r) 0 0 57 (vR 0 :: vI v1 :: vI c3 :: vI c6.1 :: vU :: []) [] (Hb 0 c8)
    refine WP.goto (pc' := 117) d10_57 (by decide) rfl ?_
    exact WP.weak (L' := (vR 0 :: vI v1 :: vU :: vU :: vU :: [])) ⟨rfl, rfl, trivial⟩ (ok10_117 l Z a0 hw n0 _ hk2 n v1 c8 _ h)
   ·
    refine WP.icmpY (pc' := 60) d10_26 (XT.ii_ne_t hc4) (by decide) rfl ?_
    refine WP.iloadN d10_60 rfl ?_
    refine WP.bipush (6 : Int32) d10_61 rfl ?_
    rcases ite_e h with ⟨hc9, h⟩ | ⟨hc9, h⟩
    ·
     refine WP.icmpN d10_63 (XT.ii_ne_f hc9) ?_
     refine WP.aloadN d10_66 rfl ?_
     refine WP.dup d10_67 rfl ?_
     refine WP.getfield (i := 0) (j := 26) d10_68 (hw _ m_119) rfl rfl rfl ?_
     refine WP.iconst (1 : Int32) d10_71 rfl ?_
     refine WP.iadd d10_72 ?_
     obtain ⟨s10, es10, h⟩ := lt_e h
     refine WP.putI (i := 0) (j := 26) (H' := (Hb 0 s10)) d10_73 (hw _ m_119) (Or.inl (hw _ m_120)) (hw _ m_1) (hlay hw) rfl rfl rfl (leb rfl) (by subst es10; rfl) ?_
     refine WP.aloadN d10_76 rfl ?_
     obtain ⟨c11, hc11, h⟩ := bd h
     refine WP.callP (i := 0) (y := y11) (as := []) (S := []) d10_77 (hw _ m_147) (hw _ m_149) (hw _ m_1) (hw _ m_148) (hw _ m_150) (hw _ m_2) hy11 rfl (ok11 l Z a0 hw s10 _ hc11) rfl (lenOf pd11 rfl) (leb rfl) (leb rfl) (leb rfl) (leb rfl) ?_
     rintro _ _ ⟨rfl, rfl⟩
     show W10 l Z n0 (P10 r) 0 0 80 (vR 0 :: vI v1 :: vI c3 :: vU :: vU :: []) [.int c11.1] (Hb 0 c11.2)
     refine WP.istoreN (L' := (vR 0 :: vI v1 :: vI c3 :: vI c11.1 :: vU :: [])) d10_80 (leb rfl) rfl ?_
     refine WP.aloadN d10_81 rfl ?_
     refine WP.bipush (15 : Int32) d10_82 rfl ?_
     obtain ⟨c12, hc12, h⟩ := bd h
     refine WP.callP (i := 0) (y := y6) (as := [.int (15 : Int32)]) (S := []) d10_84 (hw _ m_125) (hw _ m_127) (hw _ m_1) (hw _ m_126) (hw _ m_128) (hw _ m_2) hy6 rfl (ok6 l Z a0 hw (15 : Int32) c11.2 _ hc12) rfl (lenOf pd6 rfl) (leb rfl) (leb rfl) (leb rfl) (leb rfl) ?_
     rintro _ _ ⟨rfl, rfl⟩
     show W10 l Z n0 (P10 r) 0 0 87 (vR 0 :: vI v1 :: vI c3 :: vI c11.1 :: vU :: []) [] (Hb 0 c12)
     refine WP.aloadN d10_87 rfl ?_
     obtain ⟨c13, hc13, h⟩ := bd h
     refine WP.callP (i := 0) (y := y12) (as := []) (S := []) d10_88 (hw _ m_151) (hw _ m_153) (hw _ m_1) (hw _ m_152) (hw _ m_154) (hw _ m_2) hy12 rfl (ok12 l Z a0 hw c12 _ hc13) rfl (lenOf pd12 rfl) (leb rfl) (leb rfl) (leb rfl) (leb rfl) ?_
     rintro _ _ ⟨rfl, rfl⟩
     show W10 l Z n0 (P10 r) 0 0 91 (vR 0 :: vI v1 :: vI c3 :: vI c11.1 :: vU :: []) [.int c13.1] (Hb 0 c13.2)
     refine WP.istore (L' := (vR 0 :: vI v1 :: vI c3 :: vI c11.1 :: vI c13.1 :: [])) d10_91 (leb rfl) rfl ?_
     refine WP.aloadN d10_93 rfl ?_
     refine WP.iloadN d10_94 rfl ?_
     refine WP.iload d10_95 rfl ?_
     refine WP.iconst (1 : Int32) d10_97 rfl ?_
     obtain ⟨c14, hc14, h⟩ := bd h
     refine WP.callP (i := 0) (y := y13) (as := [.int c11.1, .int c13.1, .int (1 : Int32)]) (S := []) d10_98 (hw _ m_155) (hw _ m_157) (hw _ m_1) (hw _ m_156) (hw _ m_158) (hw _ m_2) hy13 rfl (ok13 l Z a0 hw c11.1 c13.1 (1 : Int32) c13.2 _ hc14) rfl (lenOf pd13 rfl) (leb rfl) (leb rfl) (leb rfl) (leb rfl) ?_
     rintro _ _ ⟨rfl, rfl⟩
     show W10 l Z n0 (P10 r) 0 0 101 (vR 0 :: vI v1 :: vI c3 :: vI c11.1 :: vI c13.1 :: []) [] (Hb 0 c14)
     refine WP.aloadN d10_101 rfl ?_
     refine WP.bipush (16 : Int32) d10_102 rfl ?_
     obtain ⟨c15, hc15, h⟩ := bd h
     refine WP.callP (i := 0) (y := y6) (as := [.int (16 : Int32)]) (S := []) d10_104 (hw _ m_125) (hw _ m_127) (hw _ m_1) (hw _ m_126) (hw _ m_128) (hw _ m_2) hy6 rfl (ok6 l Z a0 hw (16 : Int32) c14 _ hc15) rfl (lenOf pd6 rfl) (leb rfl) (leb rfl) (leb rfl) (leb rfl) ?_
     rintro _ _ ⟨rfl, rfl⟩
     show W10 l Z n0 (P10 r) 0 0 107 (vR 0 :: vI v1 :: vI c3 :: vI c11.1 :: vI c13.1 :: []) [] (Hb 0 c15)
     refine WP.aloadN d10_107 rfl ?_
     refine WP.bipush (17 : Int32) d10_108 rfl ?_
     obtain ⟨c16, hc16, h⟩ := bd h
     refine WP.callP (i := 0) (y := y6) (as := [.int (17 : Int32)]) (S := []) d10_110 (hw _ m_125) (hw _ m_127) (hw _ m_1) (hw _ m_126) (hw _ m_128) (hw _ m_2) hy6 rfl (ok6 l Z a0 hw (17 : Int32) c15 _ hc16) rfl (lenOf pd6 rfl) (leb rfl) (leb rfl) (leb rfl) (leb rfl) ?_
     rintro _ _ ⟨rfl, rfl⟩
     show W10 l Z n0 (P10 r) 0 0 113 (vR 0 :: vI v1 :: vI c3 :: vI c11.1 :: vI c13.1 :: []) [] (Hb 0 c16)
     refine WP.goto (pc' := 117) d10_113 (by decide) rfl ?_
     exact WP.weak (L' := (vR 0 :: vI v1 :: vU :: vU :: vU :: [])) ⟨rfl, rfl, trivial⟩ (ok10_117 l Z a0 hw n0 _ hk2 n v1 c16 _ h)
    ·
     refine WP.icmpY (pc' := 116) d10_63 (XT.ii_ne_t hc9) (by decide) rfl ?_
     cases h
     exact WP.vreturn d10_116 rfl (leb rfl) (leb rfl) ⟨rfl, rfl⟩
 ·
  refine WP.icmpY (pc' := 123) d10_5 (XT.ii_ge_t hc1) (by decide) rfl ?_
  exact WP.weak (L' := (vU :: vU :: vU :: vU :: vU :: [])) trivial (ok10_123 l Z a0 hw n0 n s _ h)
def f_parseDecls_2 : Nat → Int32 → St → Option (St)
 | 0 => fun _ _ => none
 | n + 1 => g_parseDecls_2 (f_parseDecls_2 n) n
theorem ok10_2 (l : Launch) (Z : State) (a0 : Array Value) (hw : HW a0 Z) (n0 : Nat) : ∀ (n : Nat) (v1 : Int32) (s r : St), f_parseDecls_2 n v1 s = some r → W10 l Z n0 (P10 r) 0 0 2 (vR 0 :: vI v1 :: vU :: vU :: vU :: []) [] (Hb 0 s)
 | 0, v1, s, r, h => nomatch (show none = some r from h)
 | n + 1, v1, s, r, h => okg10_2 l Z a0 hw n0 _ (ok10_2 l Z a0 hw n0 n) n v1 s r h
def f_parseDecls (n : Nat) (s : St) : Option (St) :=
 f_parseDecls_2 n (0 : Int32) s
theorem ok10 (l : Launch) (Z : State) (a0 : Array Value) (hw : HW a0 Z) (n : Nat) (s r : St) (h : f_parseDecls n s = some r) : CS l Z CN lay y10 prog_1_method_23_code 5 (none) R10 0 [.ref 0] (Hb 0 s) (P10 r) := by
 refine CS.of_wp pn_cls (leb rfl) fun n0 => ?_
 show W10 l Z n0 (P10 r) 0 0 0 (vR 0 :: vU :: vU :: vU :: vU :: []) [] (Hb 0 s)
 unfold f_parseDecls at h
 refine WP.iconst (0 : Int32) d10_0 rfl ?_
 refine WP.istoreN (L' := (vR 0 :: vI (0 : Int32) :: vU :: vU :: vU :: [])) d10_1 (leb rfl) rfl ?_
 exact WP.weak (L' := (vR 0 :: vI (0 : Int32) :: vU :: vU :: vU :: [])) ⟨rfl, rfl, trivial⟩ (ok10_2 l Z a0 hw n0 n (0 : Int32) s _ h)
theorem d17_0 : dc k25 0 (.aload_n 0) 1 := by decide +kernel
theorem d17_1 : dc k25 1 (.getfield 180) 3 := by decide +kernel
theorem d17_4 : dc k25 4 (.ifCond .ne 5) 3 := by decide +kernel
theorem d17_7 : dc k25 7 (.iconst 0) 1 := by decide +kernel
theorem d17_8 : dc k25 8 (.ireturn) 1 := by decide +kernel
theorem d17_9 : dc k25 9 (.aload_n 0) 1 := by decide +kernel
theorem d17_10 : dc k25 10 (.aload_n 0) 1 := by decide +kernel
theorem d17_11 : dc k25 11 (.getfield 183) 3 := by decide +kernel
theorem d17_14 : dc k25 14 (.invokevirtual 192) 3 := by decide +kernel
theorem d17_17 : dc k25 17 (.iconst 2) 1 := by decide +kernel
theorem d17_18 : dc k25 18 (.if_icmp .eq 10) 3 := by decide +kernel
theorem d17_21 : dc k25 21 (.aload_n 0) 1 := by decide +kernel
theorem d17_22 : dc k25 22 (.iconst 0) 1 := by decide +kernel
theorem d17_23 : dc k25 23 (.putfield 180) 3 := by decide +kernel
theorem d17_26 : dc k25 26 (.iconst 0) 1 := by decide +kernel
theorem d17_27 : dc k25 27 (.ireturn) 1 := by decide +kernel
theorem d17_28 : dc k25 28 (.aload_n 0) 1 := by decide +kernel
theorem d17_29 : dc k25 29 (.aload_n 0) 1 := by decide +kernel
theorem d17_30 : dc k25 30 (.getfield 183) 3 := by decide +kernel
theorem d17_33 : dc k25 33 (.invokevirtual 199) 3 := by decide +kernel
theorem d17_36 : dc k25 36 (.bipush 7) 2 := by decide +kernel
theorem d17_38 : dc k25 38 (.iand) 1 := by decide +kernel
theorem d17_39 : dc k25 39 (.istore_n 1) 1 := by decide +kernel
theorem d17_40 : dc k25 40 (.aload_n 0) 1 := by decide +kernel
theorem d17_41 : dc k25 41 (.getfield 38) 3 := by decide +kernel
theorem d17_44 : dc k25 44 (.aload_n 0) 1 := by decide +kernel
theorem d17_45 : dc k25 45 (.getfield 202) 3 := by decide +kernel
theorem d17_48 : dc k25 48 (.bipush 8) 2 := by decide +kernel
theorem d17_50 : dc k25 50 (.imul) 1 := by decide +kernel
theorem d17_51 : dc k25 51 (.iload_n 1) 1 := by decide +kernel
theorem d17_52 : dc k25 52 (.iadd) 1 := by decide +kernel
theorem d17_53 : dc k25 53 (.iaload) 1 := by decide +kernel
theorem d17_54 : dc k25 54 (.ifCond .ge 10) 3 := by decide +kernel
theorem d17_57 : dc k25 57 (.aload_n 0) 1 := by decide +kernel
theorem d17_58 : dc k25 58 (.iconst 0) 1 := by decide +kernel
theorem d17_59 : dc k25 59 (.putfield 180) 3 := by decide +kernel
theorem d17_62 : dc k25 62 (.iconst 0) 1 := by decide +kernel
theorem d17_63 : dc k25 63 (.ireturn) 1 := by decide +kernel
theorem d17_64 : dc k25 64 (.aload_n 0) 1 := by decide +kernel
theorem d17_65 : dc k25 65 (.dup) 1 := by decide +kernel
theorem d17_66 : dc k25 66 (.getfield 183) 3 := by decide +kernel
theorem d17_69 : dc k25 69 (.iconst 1) 1 := by decide +kernel
theorem d17_70 : dc k25 70 (.iadd) 1 := by decide +kernel
theorem d17_71 : dc k25 71 (.putfield 183) 3 := by decide +kernel
theorem d17_74 : dc k25 74 (.iload_n 1) 1 := by decide +kernel
theorem d17_75 : dc k25 75 (.ireturn) 1 := by decide +kernel
abbrev y17 : MethodName := ⟨"FatPointerC", "useVar", "()I"⟩
theorem hy17 : y17.cls ≠ "java/lang/invoke/MethodHandle" ∧ y17.cls ≠ "java/lang/invoke/VarHandle" := by decide
theorem pd17 : parseMethodDescriptor y17.desc = some ⟨[], some .int⟩ := by decide +kernel
abbrev R17 : Room := { frames := 1, cells := 0, slots := 0, locals := 13 }
abbrev P17 (r : Int32 × St) : Option Value → List OwnC → Prop := fun v H' => v = some (.int r.1) ∧ H' = (Hb 0 r.2)
abbrev W17 (l : Launch) (Z : State) (n0 : Nat) (Q : Option Value → List OwnC → Prop) (k n pc : Nat) (L : List Slot) (S : List Value) (H : List OwnC) : Prop := WP l Z CN lay "FatPointerC" "useVar" prog_1_method_30_code 2 (some FieldType.int) R17 n0 0 Q k n pc L S H
def f_useVar (s : St) : Option (Int32 × St) :=
 if (gI s 12) = 0 then
  some ((0 : Int32), s)
 else
  (f_kindAt (gI s 11) s).bind fun c2 =>
  if c2 = (2 : Int32) then
   (f_valAt (gI s 11) s).bind fun c4 =>
   lt (c4 &&& (7 : Int32)) fun x5 =>
   (rd (gA s 9) (((gI s 13) * (8 : Int32)) + x5)).bind fun x6 =>
   if x6 < 0 then
    lt (sI s 12 (0 : Int32)) fun s8 =>
    some ((0 : Int32), s8)
   else
    lt (sI s 11 ((gI s 11) + (1 : Int32))) fun s9 =>
    some (x5, s9)
  else
   lt (sI s 12 (0 : Int32)) fun s10 =>
   some ((0 : Int32), s10)
theorem ok17 (l : Launch) (Z : State) (a0 : Array Value) (hw : HW a0 Z) (s : St) (r : Int32 × St) (h : f_useVar s = some r) : CS l Z CN lay y17 prog_1_method_30_code 2 (some FieldType.int) R17 0 [.ref 0] (Hb 0 s) (P17 r) := by
 refine CS.of_wp pn_cls (leb rfl) fun n0 => ?_
 show W17 l Z n0 (P17 r) 0 0 0 (vR 0 :: vU :: []) [] (Hb 0 s)
 unfold f_useVar at h
 refine WP.aloadN d17_0 rfl ?_
 refine WP.getfield (i := 0) (j := 27) d17_1 (hw _ m_117) rfl rfl rfl ?_
 rcases ite_e h with ⟨hc1, h⟩ | ⟨hc1, h⟩
 ·
  refine WP.ifN d17_4 (XT.i0_ne_f hc1) ?_
  refine WP.iconst (0 : Int32) d17_7 rfl ?_
  cases h
  exact WP.ireturn d17_8 rfl (leb rfl) (leb rfl) ⟨rfl, rfl⟩
 ·
  refine WP.ifY (pc' := 9) d17_4 (XT.i0_ne_t hc1) (by decide) rfl ?_
  refine WP.aloadN d17_9 rfl ?_
  refine WP.aloadN d17_10 rfl ?_
  refine WP.getfield (i := 0) (j := 26) d17_11 (hw _ m_119) rfl rfl rfl ?_
  obtain ⟨c2, hc2, h⟩ := bd h
  refine WP.callP (i := 0) (y := y7) (as := [.int (gI s 11)]) (S := []) d17_14 (hw _ m_129) (hw _ m_131) (hw _ m_1) (hw _ m_130) (hw _ m_132) (hw _ m_2) hy7 rfl (ok7 l Z a0 hw (gI s 11) s _ hc2) rfl (lenOf pd7 rfl) (leb rfl) (leb rfl) (leb rfl) (leb rfl) ?_
  rintro _ _ ⟨rfl, rfl⟩
  show W17 l Z n0 (P17 r) 0 0 17 (vR 0 :: vU :: []) [.int c2] (Hb 0 s)
  refine WP.iconst (2 : Int32) d17_17 rfl ?_
  rcases ite_e h with ⟨hc3, h⟩ | ⟨hc3, h⟩
  ·
   refine WP.icmpY (pc' := 28) d17_18 (XT.ii_eq_t hc3) (by decide) rfl ?_
   refine WP.aloadN d17_28 rfl ?_
   refine WP.aloadN d17_29 rfl ?_
   refine WP.getfield (i := 0) (j := 26) d17_30 (hw _ m_119) rfl rfl rfl ?_
   obtain ⟨c4, hc4, h⟩ := bd h
   refine WP.callP (i := 0) (y := y8) (as := [.int (gI s 11)]) (S := []) d17_33 (hw _ m_133) (hw _ m_135) (hw _ m_1) (hw _ m_134) (hw _ m_136) (hw _ m_2) hy8 rfl (ok8 l Z a0 hw (gI s 11) s _ hc4) rfl (lenOf pd8 rfl) (leb rfl) (leb rfl) (leb rfl) (leb rfl) ?_
   rintro _ _ ⟨rfl, rfl⟩
   show W17 l Z n0 (P17 r) 0 0 36 (vR 0 :: vU :: []) [.int c4] (Hb 0 s)
   refine WP.bipush (7 : Int32) d17_36 rfl ?_
   refine WP.iand d17_38 ?_
   obtain ⟨x5, ex5, h⟩ := lt_e h
   refine WP.istoreN (L' := (vR 0 :: vI x5 :: [])) d17_39 (leb rfl) (by subst ex5; rfl) ?_
   refine WP.aloadN d17_40 rfl ?_
   refine WP.getfield (i := 0) (j := 20) d17_41 (hw _ m_29) rfl rfl rfl ?_
   refine WP.aloadN d17_44 rfl ?_
   refine WP.getfield (i := 0) (j := 28) d17_45 (hw _ m_137) rfl rfl rfl ?_
   refine WP.bipush (8 : Int32) d17_48 rfl ?_
   refine WP.imul d17_50 ?_
   refine WP.iloadN d17_51 rfl ?_
   refine WP.iadd d17_52 ?_
   obtain ⟨x6, hx6, h⟩ := bd h
   refine WP.iaload (i := 10) d17_53 rfl hx6 ?_
   rcases ite_e h with ⟨hc7, h⟩ | ⟨hc7, h⟩
   ·
    refine WP.ifN d17_54 (XT.i0_ge_f hc7) ?_
    refine WP.aloadN d17_57 rfl ?_
    refine WP.iconst (0 : Int32) d17_58 rfl ?_
    obtain ⟨s8, es8, h⟩ := lt_e h
    refine WP.putZ (i := 0) (j := 27) (H' := (Hb 0 s8)) d17_59 (hw _ m_117) (Or.inl (hw _ m_118)) (hw _ m_1) (hlay hw) rfl rfl rfl (leb rfl) (by subst es8; rfl) ?_
    refine WP.iconst (0 : Int32) d17_62 rfl ?_
    cases h
    exact WP.ireturn d17_63 rfl (leb rfl) (leb rfl) ⟨rfl, rfl⟩
   ·
    refine WP.ifY (pc' := 64) d17_54 (XT.i0_ge_t hc7) (by decide) rfl ?_
    refine WP.aloadN d17_64 rfl ?_
    refine WP.dup d17_65 rfl ?_
    refine WP.getfield (i := 0) (j := 26) d17_66 (hw _ m_119) rfl rfl rfl ?_
    refine WP.iconst (1 : Int32) d17_69 rfl ?_
    refine WP.iadd d17_70 ?_
    obtain ⟨s9, es9, h⟩ := lt_e h
    refine WP.putI (i := 0) (j := 26) (H' := (Hb 0 s9)) d17_71 (hw _ m_119) (Or.inl (hw _ m_120)) (hw _ m_1) (hlay hw) rfl rfl rfl (leb rfl) (by subst es9; rfl) ?_
    refine WP.iloadN d17_74 rfl ?_
    cases h
    exact WP.ireturn d17_75 rfl (leb rfl) (leb rfl) ⟨rfl, rfl⟩
  ·
   refine WP.icmpN d17_18 (XT.ii_eq_f hc3) ?_
   refine WP.aloadN d17_21 rfl ?_
   refine WP.iconst (0 : Int32) d17_22 rfl ?_
   obtain ⟨s10, es10, h⟩ := lt_e h
   refine WP.putZ (i := 0) (j := 27) (H' := (Hb 0 s10)) d17_23 (hw _ m_117) (Or.inl (hw _ m_118)) (hw _ m_1) (hlay hw) rfl rfl rfl (leb rfl) (by subst es10; rfl) ?_
   refine WP.iconst (0 : Int32) d17_26 rfl ?_
   cases h
   exact WP.ireturn d17_27 rfl (leb rfl) (leb rfl) ⟨rfl, rfl⟩
theorem d18_0 : dc k30 0 (.aload_n 0) 1 := by decide +kernel
theorem d18_1 : dc k30 1 (.getfield 180) 3 := by decide +kernel
theorem d18_4 : dc k30 4 (.ifCond .ne 4) 3 := by decide +kernel
theorem d18_7 : dc k30 7 (.return_) 1 := by decide +kernel
theorem d18_8 : dc k30 8 (.aload_n 0) 1 := by decide +kernel
theorem d18_9 : dc k30 9 (.aload_n 0) 1 := by decide +kernel
theorem d18_10 : dc k30 10 (.getfield 183) 3 := by decide +kernel
theorem d18_13 : dc k30 13 (.invokevirtual 192) 3 := by decide +kernel
theorem d18_16 : dc k30 16 (.iconst 1) 1 := by decide +kernel
theorem d18_17 : dc k30 17 (.if_icmp .ne 14) 3 := by decide +kernel
theorem d18_20 : dc k30 20 (.aload_n 0) 1 := by decide +kernel
theorem d18_21 : dc k30 21 (.dup) 1 := by decide +kernel
theorem d18_22 : dc k30 22 (.getfield 183) 3 := by decide +kernel
theorem d18_25 : dc k30 25 (.iconst 1) 1 := by decide +kernel
theorem d18_26 : dc k30 26 (.iadd) 1 := by decide +kernel
theorem d18_27 : dc k30 27 (.putfield 183) 3 := by decide +kernel
theorem d18_30 : dc k30 30 (.return_) 1 := by decide +kernel
theorem d18_31 : dc k30 31 (.aload_n 0) 1 := by decide +kernel
theorem d18_32 : dc k30 32 (.invokevirtual 234) 3 := by decide +kernel
theorem d18_35 : dc k30 35 (.pop) 1 := by decide +kernel
theorem d18_36 : dc k30 36 (.return_) 1 := by decide +kernel
abbrev y18 : MethodName := ⟨"FatPointerC", "parseAtom", "()V"⟩
theorem hy18 : y18.cls ≠ "java/lang/invoke/MethodHandle" ∧ y18.cls ≠ "java/lang/invoke/VarHandle" := by decide
theorem pd18 : parseMethodDescriptor y18.desc = some ⟨[], none⟩ := by decide +kernel
abbrev R18 : Room := { frames := 2, cells := 0, slots := 0, locals := 26 }
abbrev P18 (r : St) : Option Value → List OwnC → Prop := fun v H' => v = none ∧ H' = (Hb 0 r)
abbrev W18 (l : Launch) (Z : State) (n0 : Nat) (Q : Option Value → List OwnC → Prop) (k n pc : Nat) (L : List Slot) (S : List Value) (H : List OwnC) : Prop := WP l Z CN lay "FatPointerC" "parseAtom" prog_1_method_36_code 1 (none) R18 n0 0 Q k n pc L S H
def f_parseAtom (s : St) : Option (St) :=
 if (gI s 12) = 0 then
  some s
 else
  (f_kindAt (gI s 11) s).bind fun c2 =>
  if c2 = (1 : Int32) then
   lt (sI s 11 ((gI s 11) + (1 : Int32))) fun s4 =>
   some s4
  else
   (f_useVar s).bind fun c5 =>
   some c5.2
theorem ok18 (l : Launch) (Z : State) (a0 : Array Value) (hw : HW a0 Z) (s r : St) (h : f_parseAtom s = some r) : CS l Z CN lay y18 prog_1_method_36_code 1 (none) R18 0 [.ref 0] (Hb 0 s) (P18 r) := by
 refine CS.of_wp pn_cls (leb rfl) fun n0 => ?_
 show W18 l Z n0 (P18 r) 0 0 0 (vR 0 :: []) [] (Hb 0 s)
 unfold f_parseAtom at h
 refine WP.aloadN d18_0 rfl ?_
 refine WP.getfield (i := 0) (j := 27) d18_1 (hw _ m_117) rfl rfl rfl ?_
 rcases ite_e h with ⟨hc1, h⟩ | ⟨hc1, h⟩
 ·
  refine WP.ifN d18_4 (XT.i0_ne_f hc1) ?_
  cases h
  exact WP.vreturn d18_7 rfl (leb rfl) (leb rfl) ⟨rfl, rfl⟩
 ·
  refine WP.ifY (pc' := 8) d18_4 (XT.i0_ne_t hc1) (by decide) rfl ?_
  refine WP.aloadN d18_8 rfl ?_
  refine WP.aloadN d18_9 rfl ?_
  refine WP.getfield (i := 0) (j := 26) d18_10 (hw _ m_119) rfl rfl rfl ?_
  obtain ⟨c2, hc2, h⟩ := bd h
  refine WP.callP (i := 0) (y := y7) (as := [.int (gI s 11)]) (S := []) d18_13 (hw _ m_129) (hw _ m_131) (hw _ m_1) (hw _ m_130) (hw _ m_132) (hw _ m_2) hy7 rfl (ok7 l Z a0 hw (gI s 11) s _ hc2) rfl (lenOf pd7 rfl) (leb rfl) (leb rfl) (leb rfl) (leb rfl) ?_
  rintro _ _ ⟨rfl, rfl⟩
  show W18 l Z n0 (P18 r) 0 0 16 (vR 0 :: []) [.int c2] (Hb 0 s)
  refine WP.iconst (1 : Int32) d18_16 rfl ?_
  rcases ite_e h with ⟨hc3, h⟩ | ⟨hc3, h⟩
  ·
   refine WP.icmpN d18_17 (XT.ii_ne_f hc3) ?_
   refine WP.aloadN d18_20 rfl ?_
   refine WP.dup d18_21 rfl ?_
   refine WP.getfield (i := 0) (j := 26) d18_22 (hw _ m_119) rfl rfl rfl ?_
   refine WP.iconst (1 : Int32) d18_25 rfl ?_
   refine WP.iadd d18_26 ?_
   obtain ⟨s4, es4, h⟩ := lt_e h
   refine WP.putI (i := 0) (j := 26) (H' := (Hb 0 s4)) d18_27 (hw _ m_119) (Or.inl (hw _ m_120)) (hw _ m_1) (hlay hw) rfl rfl rfl (leb rfl) (by subst es4; rfl) ?_
   cases h
   exact WP.vreturn d18_30 rfl (leb rfl) (leb rfl) ⟨rfl, rfl⟩
  ·
   refine WP.icmpY (pc' := 31) d18_17 (XT.ii_ne_t hc3) (by decide) rfl ?_
   refine WP.aloadN d18_31 rfl ?_
   obtain ⟨c5, hc5, h⟩ := bd h
   refine WP.callP (i := 0) (y := y17) (as := []) (S := []) d18_32 (hw _ m_171) (hw _ m_173) (hw _ m_1) (hw _ m_172) (hw _ m_174) (hw _ m_2) hy17 rfl (ok17 l Z a0 hw s _ hc5) rfl (lenOf pd17 rfl) (leb rfl) (leb rfl) (leb rfl) (leb rfl) ?_
   rintro _ _ ⟨rfl, rfl⟩
   show W18 l Z n0 (P18 r) 0 0 35 (vR 0 :: []) [.int c5.1] (Hb 0 c5.2)
   refine WP.pop d18_35 rfl ?_
   cases h
   exact WP.vreturn d18_36 rfl (leb rfl) (leb rfl) ⟨rfl, rfl⟩
theorem d22_0 : dc k29 0 (.aload_n 0) 1 := by decide +kernel
theorem d22_1 : dc k29 1 (.getfield 180) 3 := by decide +kernel
theorem d22_4 : dc k29 4 (.ifCond .ne 4) 3 := by decide +kernel
theorem d22_7 : dc k29 7 (.return_) 1 := by decide +kernel
theorem d22_8 : dc k29 8 (.aload_n 0) 1 := by decide +kernel
theorem d22_9 : dc k29 9 (.aload_n 0) 1 := by decide +kernel
theorem d22_10 : dc k29 10 (.getfield 183) 3 := by decide +kernel
theorem d22_13 : dc k29 13 (.invokevirtual 192) 3 := by decide +kernel
theorem d22_16 : dc k29 16 (.istore_n 1) 1 := by decide +kernel
theorem d22_17 : dc k29 17 (.iload_n 1) 1 := by decide +kernel
theorem d22_18 : dc k29 18 (.iconst 1) 1 := by decide +kernel
theorem d22_19 : dc k29 19 (.if_icmp .ne 14) 3 := by decide +kernel
theorem d22_22 : dc k29 22 (.aload_n 0) 1 := by decide +kernel
theorem d22_23 : dc k29 23 (.dup) 1 := by decide +kernel
theorem d22_24 : dc k29 24 (.getfield 183) 3 := by decide +kernel
theorem d22_27 : dc k29 27 (.iconst 1) 1 := by decide +kernel
theorem d22_28 : dc k29 28 (.iadd) 1 := by decide +kernel
theorem d22_29 : dc k29 29 (.putfield 183) 3 := by decide +kernel
theorem d22_32 : dc k29 32 (.return_) 1 := by decide +kernel
theorem d22_33 : dc k29 33 (.iload_n 1) 1 := by decide +kernel
theorem d22_34 : dc k29 34 (.bipush 22) 2 := by decide +kernel
theorem d22_36 : dc k29 36 (.if_icmp .eq 9) 3 := by decide +kernel
theorem d22_39 : dc k29 39 (.iload_n 1) 1 := by decide +kernel
theorem d22_40 : dc k29 40 (.bipush 23) 2 := by decide +kernel
theorem d22_42 : dc k29 42 (.if_icmp .ne 19) 3 := by decide +kernel
theorem d22_45 : dc k29 45 (.aload_n 0) 1 := by decide +kernel
theorem d22_46 : dc k29 46 (.dup) 1 := by decide +kernel
theorem d22_47 : dc k29 47 (.getfield 183) 3 := by decide +kernel
theorem d22_50 : dc k29 50 (.iconst 1) 1 := by decide +kernel
theorem d22_51 : dc k29 51 (.iadd) 1 := by decide +kernel
theorem d22_52 : dc k29 52 (.putfield 183) 3 := by decide +kernel
theorem d22_55 : dc k29 55 (.aload_n 0) 1 := by decide +kernel
theorem d22_56 : dc k29 56 (.invokevirtual 234) 3 := by decide +kernel
theorem d22_59 : dc k29 59 (.pop) 1 := by decide +kernel
theorem d22_60 : dc k29 60 (.return_) 1 := by decide +kernel
theorem d22_61 : dc k29 61 (.iload_n 1) 1 := by decide +kernel
theorem d22_62 : dc k29 62 (.iconst 2) 1 := by decide +kernel
theorem d22_63 : dc k29 63 (.if_icmp .eq 9) 3 := by decide +kernel
theorem d22_66 : dc k29 66 (.aload_n 0) 1 := by decide +kernel
theorem d22_67 : dc k29 67 (.iconst 0) 1 := by decide +kernel
theorem d22_68 : dc k29 68 (.putfield 180) 3 := by decide +kernel
theorem d22_71 : dc k29 71 (.return_) 1 := by decide +kernel
theorem d22_72 : dc k29 72 (.aload_n 0) 1 := by decide +kernel
theorem d22_73 : dc k29 73 (.invokevirtual 234) 3 := by decide +kernel
theorem d22_76 : dc k29 76 (.pop) 1 := by decide +kernel
theorem d22_77 : dc k29 77 (.aload_n 0) 1 := by decide +kernel
theorem d22_78 : dc k29 78 (.getfield 180) 3 := by decide +kernel
theorem d22_81 : dc k29 81 (.ifCond .eq 36) 3 := by decide +kernel
theorem d22_84 : dc k29 84 (.aload_n 0) 1 := by decide +kernel
theorem d22_85 : dc k29 85 (.aload_n 0) 1 := by decide +kernel
theorem d22_86 : dc k29 86 (.getfield 183) 3 := by decide +kernel
theorem d22_89 : dc k29 89 (.invokevirtual 192) 3 := by decide +kernel
theorem d22_92 : dc k29 92 (.bipush 15) 2 := by decide +kernel
theorem d22_94 : dc k29 94 (.if_icmp .ne 23) 3 := by decide +kernel
theorem d22_97 : dc k29 97 (.aload_n 0) 1 := by decide +kernel
theorem d22_98 : dc k29 98 (.dup) 1 := by decide +kernel
theorem d22_99 : dc k29 99 (.getfield 183) 3 := by decide +kernel
theorem d22_102 : dc k29 102 (.iconst 1) 1 := by decide +kernel
theorem d22_103 : dc k29 103 (.iadd) 1 := by decide +kernel
theorem d22_104 : dc k29 104 (.putfield 183) 3 := by decide +kernel
theorem d22_107 : dc k29 107 (.aload_n 0) 1 := by decide +kernel
theorem d22_108 : dc k29 108 (.invokevirtual 240) 3 := by decide +kernel
theorem d22_111 : dc k29 111 (.aload_n 0) 1 := by decide +kernel
theorem d22_112 : dc k29 112 (.bipush 16) 2 := by decide +kernel
theorem d22_114 : dc k29 114 (.invokevirtual 195) 3 := by decide +kernel
theorem d22_117 : dc k29 117 (.return_) 1 := by decide +kernel
abbrev y22 : MethodName := ⟨"FatPointerC", "parseOperand", "()V"⟩
theorem hy22 : y22.cls ≠ "java/lang/invoke/MethodHandle" ∧ y22.cls ≠ "java/lang/invoke/VarHandle" := by decide
theorem pd22 : parseMethodDescriptor y22.desc = some ⟨[], none⟩ := by decide +kernel
abbrev R22 : Room := { frames := 3, cells := 0, slots := 0, locals := 38 }
abbrev P22 (r : St) : Option Value → List OwnC → Prop := fun v H' => v = none ∧ H' = (Hb 0 r)
abbrev W22 (l : Launch) (Z : State) (n0 : Nat) (Q : Option Value → List OwnC → Prop) (k n pc : Nat) (L : List Slot) (S : List Value) (H : List OwnC) : Prop := WP l Z CN lay "FatPointerC" "parseOperand" prog_1_method_35_code 2 (none) R22 n0 0 Q k n pc L S H
def f_parseOperand_45 (s : St) : Option (St) :=
 lt (sI s 11 ((gI s 11) + (1 : Int32))) fun s1 =>
 (f_useVar s1).bind fun c2 =>
 some c2.2
theorem ok22_45 (l : Launch) (Z : State) (a0 : Array Value) (hw : HW a0 Z) (n0 : Nat) (s r : St) (h : f_parseOperand_45 s = some r) : W22 l Z n0 (P22 r) 0 0 45 (vR 0 :: vU :: []) [] (Hb 0 s) := by
 unfold f_parseOperand_45 at h
 refine WP.aloadN d22_45 rfl ?_
 refine WP.dup d22_46 rfl ?_
 refine WP.getfield (i := 0) (j := 26) d22_47 (hw _ m_119) rfl rfl rfl ?_
 refine WP.iconst (1 : Int32) d22_50 rfl ?_
 refine WP.iadd d22_51 ?_
 obtain ⟨s1, es1, h⟩ := lt_e h
 refine WP.putI (i := 0) (j := 26) (H' := (Hb 0 s1)) d22_52 (hw _ m_119) (Or.inl (hw _ m_120)) (hw _ m_1) (hlay hw) rfl rfl rfl (leb rfl) (by subst es1; rfl) ?_
 refine WP.aloadN d22_55 rfl ?_
 obtain ⟨c2, hc2, h⟩ := bd h
 refine WP.callP (i := 0) (y := y17) (as := []) (S := []) d22_56 (hw _ m_171) (hw _ m_173) (hw _ m_1) (hw _ m_172) (hw _ m_174) (hw _ m_2) hy17 rfl (ok17 l Z a0 hw s1 _ hc2) rfl (lenOf pd17 rfl) (leb rfl) (leb rfl) (leb rfl) (leb rfl) ?_
 rintro _ _ ⟨rfl, rfl⟩
 show W22 l Z n0 (P22 r) 0 0 59 (vR 0 :: vU :: []) [.int c2.1] (Hb 0 c2.2)
 refine WP.pop d22_59 rfl ?_
 cases h
 exact WP.vreturn d22_60 rfl (leb rfl) (leb rfl) ⟨rfl, rfl⟩
def f_parseOperand_117 (s : St) : Option (St) :=
 some s
theorem ok22_117 (l : Launch) (Z : State) (a0 : Array Value) (hw : HW a0 Z) (n0 : Nat) (s r : St) (h : f_parseOperand_117 s = some r) : W22 l Z n0 (P22 r) 0 0 117 (vU :: vU :: []) [] (Hb 0 s) := by
 unfold f_parseOperand_117 at h
 cases h
 exact WP.vreturn d22_117 rfl (leb rfl) (leb rfl) ⟨rfl, rfl⟩
def f_parseOperand (s : St) : Option (St) :=
 if (gI s 12) = 0 then
  some s
 else
  (f_kindAt (gI s 11) s).bind fun c2 =>
  if c2 = (1 : Int32) then
   lt (sI s 11 ((gI s 11) + (1 : Int32))) fun s4 =>
   some s4
  else
   if c2 = (22 : Int32) then
    f_parseOperand_45 s
   else
    if c2 = (23 : Int32) then
     f_parseOperand_45 s
    else
     if c2 = (2 : Int32) then
      (f_useVar s).bind fun c8 =>
      if (gI c8.2 12) = 0 then
       f_parseOperand_117 c8.2
      else
       (f_kindAt (gI c8.2 11) c8.2).bind fun c10 =>
       if c10 = (15 : Int32) then
        lt (sI c8.2 11 ((gI c8.2 11) + (1 : Int32))) fun s12 =>
        (f_parseAtom s12).bind fun c13 =>
        (f_expect (16 : Int32) c13).bind fun c14 =>
        f_parseOperand_117 c14
       else
        f_parseOperand_117 c8.2
     else
      lt (sI s 12 (0 : Int32)) fun s15 =>
      some s15
theorem ok22 (l : Launch) (Z : State) (a0 : Array Value) (hw : HW a0 Z) (s r : St) (h : f_parseOperand s = some r) : CS l Z CN lay y22 prog_1_method_35_code 2 (none) R22 0 [.ref 0] (Hb 0 s) (P22 r) := by
 refine CS.of_wp pn_cls (leb rfl) fun n0 => ?_
 show W22 l Z n0 (P22 r) 0 0 0 (vR 0 :: vU :: []) [] (Hb 0 s)
 unfold f_parseOperand at h
 refine WP.aloadN d22_0 rfl ?_
 refine WP.getfield (i := 0) (j := 27) d22_1 (hw _ m_117) rfl rfl rfl ?_
 rcases ite_e h with ⟨hc1, h⟩ | ⟨hc1, h⟩
 ·
  refine WP.ifN d22_4 (XT.i0_ne_f hc1) ?_
  cases h
  exact WP.vreturn d22_7 rfl (leb rfl) (leb rfl) ⟨rfl, rfl⟩
 ·
  refine WP.ifY (pc' := 8) d22_4 (XT.i0_ne_t hc1) (by decide) rfl ?_
  refine WP.aloadN d22_8 rfl ?_
  refine WP.aloadN d22_9 rfl ?_
  refine WP.getfield (i := 0) (j := 26) d22_10 (hw _ m_119) rfl rfl rfl ?_
  obtain ⟨c2, hc2, h⟩ := bd h
  refine WP.callP (i := 0) (y := y7) (as := [.int (gI s 11)]) (S := []) d22_13 (hw _ m_129) (hw _ m_131) (hw _ m_1) (hw _ m_130) (hw _ m_132) (hw _ m_2) hy7 rfl (ok7 l Z a0 hw (gI s 11) s _ hc2) rfl (lenOf pd7 rfl) (leb rfl) (leb rfl) (leb rfl) (leb rfl) ?_
  rintro _ _ ⟨rfl, rfl⟩
  show W22 l Z n0 (P22 r) 0 0 16 (vR 0 :: vU :: []) [.int c2] (Hb 0 s)
  refine WP.istoreN (L' := (vR 0 :: vI c2 :: [])) d22_16 (leb rfl) rfl ?_
  refine WP.iloadN d22_17 rfl ?_
  refine WP.iconst (1 : Int32) d22_18 rfl ?_
  rcases ite_e h with ⟨hc3, h⟩ | ⟨hc3, h⟩
  ·
   refine WP.icmpN d22_19 (XT.ii_ne_f hc3) ?_
   refine WP.aloadN d22_22 rfl ?_
   refine WP.dup d22_23 rfl ?_
   refine WP.getfield (i := 0) (j := 26) d22_24 (hw _ m_119) rfl rfl rfl ?_
   refine WP.iconst (1 : Int32) d22_27 rfl ?_
   refine WP.iadd d22_28 ?_
   obtain ⟨s4, es4, h⟩ := lt_e h
   refine WP.putI (i := 0) (j := 26) (H' := (Hb 0 s4)) d22_29 (hw _ m_119) (Or.inl (hw _ m_120)) (hw _ m_1) (hlay hw) rfl rfl rfl (leb rfl) (by subst es4; rfl) ?_
   cases h
   exact WP.vreturn d22_32 rfl (leb rfl) (leb rfl) ⟨rfl, rfl⟩
  ·
   refine WP.icmpY (pc' := 33) d22_19 (XT.ii_ne_t hc3) (by decide) rfl ?_
   refine WP.iloadN d22_33 rfl ?_
   refine WP.bipush (22 : Int32) d22_34 rfl ?_
   rcases ite_e h with ⟨hc5, h⟩ | ⟨hc5, h⟩
   ·
    refine WP.icmpY (pc' := 45) d22_36 (XT.ii_eq_t hc5) (by decide) rfl ?_
    exact WP.weak (L' := (vR 0 :: vU :: [])) ⟨rfl, trivial⟩ (ok22_45 l Z a0 hw n0 s _ h)
   ·
    refine WP.icmpN d22_36 (XT.ii_eq_f hc5) ?_
    refine WP.iloadN d22_39 rfl ?_
    refine WP.bipush (23 : Int32) d22_40 rfl ?_
    rcases ite_e h with ⟨hc6, h⟩ | ⟨hc6, h⟩
    ·
     refine WP.icmpN d22_42 (XT.ii_ne_f hc6) ?_
     exact WP.weak (L' := (vR 0 :: vU :: [])) ⟨rfl, trivial⟩ (ok22_45 l Z a0 hw n0 s _ h)
    ·
     refine WP.icmpY (pc' := 61) d22_42 (XT.ii_ne_t hc6) (by decide) rfl ?_
     refine WP.iloadN d22_61 rfl ?_
     refine WP.iconst (2 : Int32) d22_62 rfl ?_
     rcases ite_e h with ⟨hc7, h⟩ | ⟨hc7, h⟩
     ·
      refine WP.icmpY (pc' := 72) d22_63 (XT.ii_eq_t hc7) (by decide) rfl ?_
      refine WP.aloadN d22_72 rfl ?_
      obtain ⟨c8, hc8, h⟩ := bd h
      refine WP.callP (i := 0) (y := y17) (as := []) (S := []) d22_73 (hw _ m_171) (hw _ m_173) (hw _ m_1) (hw _ m_172) (hw _ m_174) (hw _ m_2) hy17 rfl (ok17 l Z a0 hw s _ hc8) rfl (lenOf pd17 rfl) (leb rfl) (leb rfl) (leb rfl) (leb rfl) ?_
      rintro _ _ ⟨rfl, rfl⟩
      show W22 l Z n0 (P22 r) 0 0 76 (vR 0 :: vI c2 :: []) [.int c8.1] (Hb 0 c8.2)
      refine WP.pop d22_76 rfl ?_
      refine WP.aloadN d22_77 rfl ?_
      refine WP.getfield (i := 0) (j := 27) d22_78 (hw _ m_117) rfl rfl rfl ?_
      rcases ite_e h with ⟨hc9, h⟩ | ⟨hc9, h⟩
      ·
       refine WP.ifY (pc' := 117) d22_81 (XT.i0_eq_t hc9) (by decide) rfl ?_
       exact WP.weak (L' := (vU :: vU :: [])) trivial (ok22_117 l Z a0 hw n0 c8.2 _ h)
      ·
       refine WP.ifN d22_81 (XT.i0_eq_f hc9) ?_
       refine WP.aloadN d22_84 rfl ?_
       refine WP.aloadN d22_85 rfl ?_
       refine WP.getfield (i := 0) (j := 26) d22_86 (hw _ m_119) rfl rfl rfl ?_
       obtain ⟨c10, hc10, h⟩ := bd h
       refine WP.callP (i := 0) (y := y7) (as := [.int (gI c8.2 11)]) (S := []) d22_89 (hw _ m_129) (hw _ m_131) (hw _ m_1) (hw _ m_130) (hw _ m_132) (hw _ m_2) hy7 rfl (ok7 l Z a0 hw (gI c8.2 11) c8.2 _ hc10) rfl (lenOf pd7 rfl) (leb rfl) (leb rfl) (leb rfl) (leb rfl) ?_
       rintro _ _ ⟨rfl, rfl⟩
       show W22 l Z n0 (P22 r) 0 0 92 (vR 0 :: vI c2 :: []) [.int c10] (Hb 0 c8.2)
       refine WP.bipush (15 : Int32) d22_92 rfl ?_
       rcases ite_e h with ⟨hc11, h⟩ | ⟨hc11, h⟩
       ·
        refine WP.icmpN d22_94 (XT.ii_ne_f hc11) ?_
        refine WP.aloadN d22_97 rfl ?_
        refine WP.dup d22_98 rfl ?_
        refine WP.getfield (i := 0) (j := 26) d22_99 (hw _ m_119) rfl rfl rfl ?_
        refine WP.iconst (1 : Int32) d22_102 rfl ?_
        refine WP.iadd d22_103 ?_
        obtain ⟨s12, es12, h⟩ := lt_e h
        refine WP.putI (i := 0) (j := 26) (H' := (Hb 0 s12)) d22_104 (hw _ m_119) (Or.inl (hw _ m_120)) (hw _ m_1) (hlay hw) rfl rfl rfl (leb rfl) (by subst es12; rfl) ?_
        refine WP.aloadN d22_107 rfl ?_
        obtain ⟨c13, hc13, h⟩ := bd h
        refine WP.callP (i := 0) (y := y18) (as := []) (S := []) d22_108 (hw _ m_175) (hw _ m_177) (hw _ m_1) (hw _ m_176) (hw _ m_178) (hw _ m_2) hy18 rfl (ok18 l Z a0 hw s12 _ hc13) rfl (lenOf pd18 rfl) (leb rfl) (leb rfl) (leb rfl) (leb rfl) ?_
        rintro _ _ ⟨rfl, rfl⟩
        show W22 l Z n0 (P22 r) 0 0 111 (vR 0 :: vI c2 :: []) [] (Hb 0 c13)
        refine WP.aloadN d22_111 rfl ?_
        refine WP.bipush (16 : Int32) d22_112 rfl ?_
        obtain ⟨c14, hc14, h⟩ := bd h
        refine WP.callP (i := 0) (y := y6) (as := [.int (16 : Int32)]) (S := []) d22_114 (hw _ m_125) (hw _ m_127) (hw _ m_1) (hw _ m_126) (hw _ m_128) (hw _ m_2) hy6 rfl (ok6 l Z a0 hw (16 : Int32) c13 _ hc14) rfl (lenOf pd6 rfl) (leb rfl) (leb rfl) (leb rfl) (leb rfl) ?_
        rintro _ _ ⟨rfl, rfl⟩
        show W22 l Z n0 (P22 r) 0 0 117 (vR 0 :: vI c2 :: []) [] (Hb 0 c14)
        exact WP.weak (L' := (vU :: vU :: [])) trivial (ok22_117 l Z a0 hw n0 c14 _ h)
       ·
        refine WP.icmpY (pc' := 117) d22_94 (XT.ii_ne_t hc11) (by decide) rfl ?_
        exact WP.weak (L' := (vU :: vU :: [])) trivial (ok22_117 l Z a0 hw n0 c8.2 _ h)
     ·
      refine WP.icmpN d22_63 (XT.ii_eq_f hc7) ?_
      refine WP.aloadN d22_66 rfl ?_
      refine WP.iconst (0 : Int32) d22_67 rfl ?_
      obtain ⟨s15, es15, h⟩ := lt_e h
      refine WP.putZ (i := 0) (j := 27) (H' := (Hb 0 s15)) d22_68 (hw _ m_117) (Or.inl (hw _ m_118)) (hw _ m_1) (hlay hw) rfl rfl rfl (leb rfl) (by subst es15; rfl) ?_
      cases h
      exact WP.vreturn d22_71 rfl (leb rfl) (leb rfl) ⟨rfl, rfl⟩
theorem d21_0 : dc k28 0 (.aload_n 0) 1 := by decide +kernel
theorem d21_1 : dc k28 1 (.invokevirtual 249) 3 := by decide +kernel
theorem d21_4 : dc k28 4 (.iconst 0) 1 := by decide +kernel
theorem d21_5 : dc k28 5 (.istore_n 1) 1 := by decide +kernel
theorem d21_6 : dc k28 6 (.iload_n 1) 1 := by decide +kernel
theorem d21_7 : dc k28 7 (.sipush 256) 3 := by decide +kernel
theorem d21_10 : dc k28 10 (.if_icmp .ge 43) 3 := by decide +kernel
theorem d21_13 : dc k28 13 (.aload_n 0) 1 := by decide +kernel
theorem d21_14 : dc k28 14 (.getfield 180) 3 := by decide +kernel
theorem d21_17 : dc k28 17 (.ifCond .eq 36) 3 := by decide +kernel
theorem d21_20 : dc k28 20 (.aload_n 0) 1 := by decide +kernel
theorem d21_21 : dc k28 21 (.aload_n 0) 1 := by decide +kernel
theorem d21_22 : dc k28 22 (.getfield 183) 3 := by decide +kernel
theorem d21_25 : dc k28 25 (.invokevirtual 192) 3 := by decide +kernel
theorem d21_28 : dc k28 28 (.bipush 22) 2 := by decide +kernel
theorem d21_30 : dc k28 30 (.if_icmp .ne 23) 3 := by decide +kernel
theorem d21_33 : dc k28 33 (.aload_n 0) 1 := by decide +kernel
theorem d21_34 : dc k28 34 (.dup) 1 := by decide +kernel
theorem d21_35 : dc k28 35 (.getfield 183) 3 := by decide +kernel
theorem d21_38 : dc k28 38 (.iconst 1) 1 := by decide +kernel
theorem d21_39 : dc k28 39 (.iadd) 1 := by decide +kernel
theorem d21_40 : dc k28 40 (.putfield 183) 3 := by decide +kernel
theorem d21_43 : dc k28 43 (.aload_n 0) 1 := by decide +kernel
theorem d21_44 : dc k28 44 (.invokevirtual 249) 3 := by decide +kernel
theorem d21_47 : dc k28 47 (.iinc 1 1) 3 := by decide +kernel
theorem d21_50 : dc k28 50 (.goto (-44)) 3 := by decide +kernel
theorem d21_53 : dc k28 53 (.return_) 1 := by decide +kernel
abbrev y21 : MethodName := ⟨"FatPointerC", "parseTerm", "()V"⟩
theorem hy21 : y21.cls ≠ "java/lang/invoke/MethodHandle" ∧ y21.cls ≠ "java/lang/invoke/VarHandle" := by decide
theorem pd21 : parseMethodDescriptor y21.desc = some ⟨[], none⟩ := by decide +kernel
abbrev R21 : Room := { frames := 4, cells := 0, slots := 0, locals := 51 }
abbrev P21 (r : St) : Option Value → List OwnC → Prop := fun v H' => v = none ∧ H' = (Hb 0 r)
abbrev W21 (l : Launch) (Z : State) (n0 : Nat) (Q : Option Value → List OwnC → Prop) (k n pc : Nat) (L : List Slot) (S : List Value) (H : List OwnC) : Prop := WP l Z CN lay "FatPointerC" "parseTerm" prog_1_method_34_code 2 (none) R21 n0 0 Q k n pc L S H
def f_parseTerm_53 (n : Nat) (s : St) : Option (St) :=
 some s
theorem ok21_53 (l : Launch) (Z : State) (a0 : Array Value) (hw : HW a0 Z) (n0 n : Nat) (s r : St) (h : f_parseTerm_53 n s = some r) : W21 l Z n0 (P21 r) 0 0 53 (vU :: vU :: []) [] (Hb 0 s) := by
 unfold f_parseTerm_53 at h
 cases h
 exact WP.vreturn d21_53 rfl (leb rfl) (leb rfl) ⟨rfl, rfl⟩
def g_parseTerm_6 (k6 : KT0) (n : Nat) (v1 : Int32) (s : St) : Option (St) :=
 if v1 < (256 : Int32) then
  if (gI s 12) = 0 then
   f_parseTerm_53 n s
  else
   (f_kindAt (gI s 11) s).bind fun c3 =>
   if c3 = (22 : Int32) then
    lt (sI s 11 ((gI s 11) + (1 : Int32))) fun s5 =>
    (f_parseOperand s5).bind fun c6 =>
    lt (v1 + (1 : Int32)) fun x7 =>
    k6 x7 c6
   else
    f_parseTerm_53 n s
 else
  f_parseTerm_53 n s
abbrev HK21_6 (l : Launch) (Z : State) (n0 : Nat) (k6 : KT0) : Prop := ∀ (v1 : Int32) (s r : St), k6 v1 s = some r → W21 l Z n0 (P21 r) 0 0 6 (vR 0 :: vI v1 :: []) [] (Hb 0 s)
theorem okg21_6 (l : Launch) (Z : State) (a0 : Array Value) (hw : HW a0 Z) (n0 : Nat) (k6 : KT0) (hk6 : HK21_6 l Z n0 k6) (n : Nat) (v1 : Int32) (s r : St) (h : g_parseTerm_6 k6 n v1 s = some r) : W21 l Z n0 (P21 r) 0 0 6 (vR 0 :: vI v1 :: []) [] (Hb 0 s) := by
 unfold g_parseTerm_6 at h
 refine WP.iloadN d21_6 rfl ?_
 refine WP.sipush (256 : Int32) d21_7 rfl ?_
 rcases ite_e h with ⟨hc1, h⟩ | ⟨hc1, h⟩
 ·
  refine WP.icmpN d21_10 (XT.ii_ge_f hc1) ?_
  refine WP.aloadN d21_13 rfl ?_
  refine WP.getfield (i := 0) (j := 27) d21_14 (hw _ m_117) rfl rfl rfl ?_
  rcases ite_e h with ⟨hc2, h⟩ | ⟨hc2, h⟩
  ·
   refine WP.ifY (pc' := 53) d21_17 (XT.i0_eq_t hc2) (by decide) rfl ?_
   exact WP.weak (L' := (vU :: vU :: [])) trivial (ok21_53 l Z a0 hw n0 n s _ h)
  ·
   refine WP.ifN d21_17 (XT.i0_eq_f hc2) ?_
   refine WP.aloadN d21_20 rfl ?_
   refine WP.aloadN d21_21 rfl ?_
   refine WP.getfield (i := 0) (j := 26) d21_22 (hw _ m_119) rfl rfl rfl ?_
   obtain ⟨c3, hc3, h⟩ := bd h
   refine WP.callP (i := 0) (y := y7) (as := [.int (gI s 11)]) (S := []) d21_25 (hw _ m_129) (hw _ m_131) (hw _ m_1) (hw _ m_130) (hw _ m_132) (hw _ m_2) hy7 rfl (ok7 l Z a0 hw (gI s 11) s _ hc3) rfl (lenOf pd7 rfl) (leb rfl) (leb rfl) (leb rfl) (leb rfl) ?_
   rintro _ _ ⟨rfl, rfl⟩
   show W21 l Z n0 (P21 r) 0 0 28 (vR 0 :: vI v1 :: []) [.int c3] (Hb 0 s)
   refine WP.bipush (22 : Int32) d21_28 rfl ?_
   rcases ite_e h with ⟨hc4, h⟩ | ⟨hc4, h⟩
   ·
    refine WP.icmpN d21_30 (XT.ii_ne_f hc4) ?_
    refine WP.aloadN d21_33 rfl ?_
    refine WP.dup d21_34 rfl ?_
    refine WP.getfield (i := 0) (j := 26) d21_35 (hw _ m_119) rfl rfl rfl ?_
    refine WP.iconst (1 : Int32) d21_38 rfl ?_
    refine WP.iadd d21_39 ?_
    obtain ⟨s5, es5, h⟩ := lt_e h
    refine WP.putI (i := 0) (j := 26) (H' := (Hb 0 s5)) d21_40 (hw _ m_119) (Or.inl (hw _ m_120)) (hw _ m_1) (hlay hw) rfl rfl rfl (leb rfl) (by subst es5; rfl) ?_
    refine WP.aloadN d21_43 rfl ?_
    obtain ⟨c6, hc6, h⟩ := bd h
    refine WP.callP (i := 0) (y := y22) (as := []) (S := []) d21_44 (hw _ m_191) (hw _ m_193) (hw _ m_1) (hw _ m_192) (hw _ m_194) (hw _ m_2) hy22 rfl (ok22 l Z a0 hw s5 _ hc6) rfl (lenOf pd22 rfl) (leb rfl) (leb rfl) (leb rfl) (leb rfl) ?_
    rintro _ _ ⟨rfl, rfl⟩
    show W21 l Z n0 (P21 r) 0 0 47 (vR 0 :: vI v1 :: []) [] (Hb 0 c6)
    obtain ⟨x7, ex7, h⟩ := lt_e h
    refine WP.iinc (L' := (vR 0 :: vI x7 :: [])) (1 : Int32) d21_47 rfl rfl (by subst ex7; rfl) ?_
    refine WP.goto (pc' := 6) d21_50 (by decide) rfl ?_
    exact WP.weak (L' := (vR 0 :: vI x7 :: [])) ⟨rfl, rfl, trivial⟩ (hk6 x7 c6 _ h)
   ·
    refine WP.icmpY (pc' := 53) d21_30 (XT.ii_ne_t hc4) (by decide) rfl ?_
    exact WP.weak (L' := (vU :: vU :: [])) trivial (ok21_53 l Z a0 hw n0 n s _ h)
 ·
  refine WP.icmpY (pc' := 53) d21_10 (XT.ii_ge_t hc1) (by decide) rfl ?_
  exact WP.weak (L' := (vU :: vU :: [])) trivial (ok21_53 l Z a0 hw n0 n s _ h)
def f_parseTerm_6 : Nat → Int32 → St → Option (St)
 | 0 => fun _ _ => none
 | n + 1 => g_parseTerm_6 (f_parseTerm_6 n) n
theorem ok21_6 (l : Launch) (Z : State) (a0 : Array Value) (hw : HW a0 Z) (n0 : Nat) : ∀ (n : Nat) (v1 : Int32) (s r : St), f_parseTerm_6 n v1 s = some r → W21 l Z n0 (P21 r) 0 0 6 (vR 0 :: vI v1 :: []) [] (Hb 0 s)
 | 0, v1, s, r, h => nomatch (show none = some r from h)
 | n + 1, v1, s, r, h => okg21_6 l Z a0 hw n0 _ (ok21_6 l Z a0 hw n0 n) n v1 s r h
def f_parseTerm (n : Nat) (s : St) : Option (St) :=
 (f_parseOperand s).bind fun c1 =>
 f_parseTerm_6 n (0 : Int32) c1
theorem ok21 (l : Launch) (Z : State) (a0 : Array Value) (hw : HW a0 Z) (n : Nat) (s r : St) (h : f_parseTerm n s = some r) : CS l Z CN lay y21 prog_1_method_34_code 2 (none) R21 0 [.ref 0] (Hb 0 s) (P21 r) := by
 refine CS.of_wp pn_cls (leb rfl) fun n0 => ?_
 show W21 l Z n0 (P21 r) 0 0 0 (vR 0 :: vU :: []) [] (Hb 0 s)
 unfold f_parseTerm at h
 refine WP.aloadN d21_0 rfl ?_
 obtain ⟨c1, hc1, h⟩ := bd h
 refine WP.callP (i := 0) (y := y22) (as := []) (S := []) d21_1 (hw _ m_191) (hw _ m_193) (hw _ m_1) (hw _ m_192) (hw _ m_194) (hw _ m_2) hy22 rfl (ok22 l Z a0 hw s _ hc1) rfl (lenOf pd22 rfl) (leb rfl) (leb rfl) (leb rfl) (leb rfl) ?_
 rintro _ _ ⟨rfl, rfl⟩
 show W21 l Z n0 (P21 r) 0 0 4 (vR 0 :: vU :: []) [] (Hb 0 c1)
 refine WP.iconst (0 : Int32) d21_4 rfl ?_
 refine WP.istoreN (L' := (vR 0 :: vI (0 : Int32) :: [])) d21_5 (leb rfl) rfl ?_
 exact WP.weak (L' := (vR 0 :: vI (0 : Int32) :: [])) ⟨rfl, rfl, trivial⟩ (ok21_6 l Z a0 hw n0 n (0 : Int32) c1 _ h)
theorem d20_0 : dc k27 0 (.aload_n 0) 1 := by decide +kernel
theorem d20_1 : dc k27 1 (.invokevirtual 246) 3 := by decide +kernel
theorem d20_4 : dc k27 4 (.iconst 0) 1 := by decide +kernel
theorem d20_5 : dc k27 5 (.istore_n 1) 1 := by decide +kernel
theorem d20_6 : dc k27 6 (.iload_n 1) 1 := by decide +kernel
theorem d20_7 : dc k27 7 (.sipush 256) 3 := by decide +kernel
theorem d20_10 : dc k27 10 (.if_icmp .ge 52) 3 := by decide +kernel
theorem d20_13 : dc k27 13 (.aload_n 0) 1 := by decide +kernel
theorem d20_14 : dc k27 14 (.getfield 180) 3 := by decide +kernel
theorem d20_17 : dc k27 17 (.ifCond .eq 45) 3 := by decide +kernel
theorem d20_20 : dc k27 20 (.aload_n 0) 1 := by decide +kernel
theorem d20_21 : dc k27 21 (.aload_n 0) 1 := by decide +kernel
theorem d20_22 : dc k27 22 (.getfield 183) 3 := by decide +kernel
theorem d20_25 : dc k27 25 (.invokevirtual 192) 3 := by decide +kernel
theorem d20_28 : dc k27 28 (.istore_n 2) 1 := by decide +kernel
theorem d20_29 : dc k27 29 (.iload_n 2) 1 := by decide +kernel
theorem d20_30 : dc k27 30 (.bipush 20) 2 := by decide +kernel
theorem d20_32 : dc k27 32 (.if_icmp .eq 10) 3 := by decide +kernel
theorem d20_35 : dc k27 35 (.iload_n 2) 1 := by decide +kernel
theorem d20_36 : dc k27 36 (.bipush 21) 2 := by decide +kernel
theorem d20_38 : dc k27 38 (.if_icmp .eq 4) 3 := by decide +kernel
theorem d20_41 : dc k27 41 (.return_) 1 := by decide +kernel
theorem d20_42 : dc k27 42 (.aload_n 0) 1 := by decide +kernel
theorem d20_43 : dc k27 43 (.dup) 1 := by decide +kernel
theorem d20_44 : dc k27 44 (.getfield 183) 3 := by decide +kernel
theorem d20_47 : dc k27 47 (.iconst 1) 1 := by decide +kernel
theorem d20_48 : dc k27 48 (.iadd) 1 := by decide +kernel
theorem d20_49 : dc k27 49 (.putfield 183) 3 := by decide +kernel
theorem d20_52 : dc k27 52 (.aload_n 0) 1 := by decide +kernel
theorem d20_53 : dc k27 53 (.invokevirtual 246) 3 := by decide +kernel
theorem d20_56 : dc k27 56 (.iinc 1 1) 3 := by decide +kernel
theorem d20_59 : dc k27 59 (.goto (-53)) 3 := by decide +kernel
theorem d20_62 : dc k27 62 (.return_) 1 := by decide +kernel
abbrev y20 : MethodName := ⟨"FatPointerC", "parseSum", "()V"⟩
theorem hy20 : y20.cls ≠ "java/lang/invoke/MethodHandle" ∧ y20.cls ≠ "java/lang/invoke/VarHandle" := by decide
theorem pd20 : parseMethodDescriptor y20.desc = some ⟨[], none⟩ := by decide +kernel
abbrev R20 : Room := { frames := 5, cells := 0, slots := 0, locals := 64 }
abbrev P20 (r : St) : Option Value → List OwnC → Prop := fun v H' => v = none ∧ H' = (Hb 0 r)
abbrev W20 (l : Launch) (Z : State) (n0 : Nat) (Q : Option Value → List OwnC → Prop) (k n pc : Nat) (L : List Slot) (S : List Value) (H : List OwnC) : Prop := WP l Z CN lay "FatPointerC" "parseSum" prog_1_method_33_code 3 (none) R20 n0 0 Q k n pc L S H
def f_parseSum_42 (k6 : KT0) (n : Nat) (v1 : Int32) (s : St) : Option (St) :=
 lt (sI s 11 ((gI s 11) + (1 : Int32))) fun s1 =>
 (f_parseTerm n s1).bind fun c2 =>
 lt (v1 + (1 : Int32)) fun x3 =>
 k6 x3 c2
abbrev HK20_6 (l : Launch) (Z : State) (n0 : Nat) (k6 : KT0) : Prop := ∀ (v1 : Int32) (s r : St), k6 v1 s = some r → W20 l Z n0 (P20 r) 0 0 6 (vR 0 :: vI v1 :: vU :: []) [] (Hb 0 s)
theorem ok20_42 (l : Launch) (Z : State) (a0 : Array Value) (hw : HW a0 Z) (n0 : Nat) (k6 : KT0) (hk6 : HK20_6 l Z n0 k6) (n : Nat) (v1 : Int32) (s r : St) (h : f_parseSum_42 k6 n v1 s = some r) : W20 l Z n0 (P20 r) 0 0 42 (vR 0 :: vI v1 :: vU :: []) [] (Hb 0 s) := by
 unfold f_parseSum_42 at h
 refine WP.aloadN d20_42 rfl ?_
 refine WP.dup d20_43 rfl ?_
 refine WP.getfield (i := 0) (j := 26) d20_44 (hw _ m_119) rfl rfl rfl ?_
 refine WP.iconst (1 : Int32) d20_47 rfl ?_
 refine WP.iadd d20_48 ?_
 obtain ⟨s1, es1, h⟩ := lt_e h
 refine WP.putI (i := 0) (j := 26) (H' := (Hb 0 s1)) d20_49 (hw _ m_119) (Or.inl (hw _ m_120)) (hw _ m_1) (hlay hw) rfl rfl rfl (leb rfl) (by subst es1; rfl) ?_
 refine WP.aloadN d20_52 rfl ?_
 obtain ⟨c2, hc2, h⟩ := bd h
 refine WP.callP (i := 0) (y := y21) (as := []) (S := []) d20_53 (hw _ m_187) (hw _ m_189) (hw _ m_1) (hw _ m_188) (hw _ m_190) (hw _ m_2) hy21 rfl (ok21 l Z a0 hw n s1 _ hc2) rfl (lenOf pd21 rfl) (leb rfl) (leb rfl) (leb rfl) (leb rfl) ?_
 rintro _ _ ⟨rfl, rfl⟩
 show W20 l Z n0 (P20 r) 0 0 56 (vR 0 :: vI v1 :: vU :: []) [] (Hb 0 c2)
 obtain ⟨x3, ex3, h⟩ := lt_e h
 refine WP.iinc (L' := (vR 0 :: vI x3 :: vU :: [])) (1 : Int32) d20_56 rfl rfl (by subst ex3; rfl) ?_
 refine WP.goto (pc' := 6) d20_59 (by decide) rfl ?_
 exact WP.weak (L' := (vR 0 :: vI x3 :: vU :: [])) ⟨rfl, rfl, trivial⟩ (hk6 x3 c2 _ h)
def f_parseSum_62 (n : Nat) (s : St) : Option (St) :=
 some s
theorem ok20_62 (l : Launch) (Z : State) (a0 : Array Value) (hw : HW a0 Z) (n0 n : Nat) (s r : St) (h : f_parseSum_62 n s = some r) : W20 l Z n0 (P20 r) 0 0 62 (vU :: vU :: vU :: []) [] (Hb 0 s) := by
 unfold f_parseSum_62 at h
 cases h
 exact WP.vreturn d20_62 rfl (leb rfl) (leb rfl) ⟨rfl, rfl⟩
def g_parseSum_6 (k6 : KT0) (n : Nat) (v1 : Int32) (s : St) : Option (St) :=
 if v1 < (256 : Int32) then
  if (gI s 12) = 0 then
   f_parseSum_62 n s
  else
   (f_kindAt (gI s 11) s).bind fun c3 =>
   if c3 = (20 : Int32) then
    f_parseSum_42 k6 n v1 s
   else
    if c3 = (21 : Int32) then
     f_parseSum_42 k6 n v1 s
    else
     some s
 else
  f_parseSum_62 n s
theorem okg20_6 (l : Launch) (Z : State) (a0 : Array Value) (hw : HW a0 Z) (n0 : Nat) (k6 : KT0) (hk6 : HK20_6 l Z n0 k6) (n : Nat) (v1 : Int32) (s r : St) (h : g_parseSum_6 k6 n v1 s = some r) : W20 l Z n0 (P20 r) 0 0 6 (vR 0 :: vI v1 :: vU :: []) [] (Hb 0 s) := by
 unfold g_parseSum_6 at h
 refine WP.iloadN d20_6 rfl ?_
 refine WP.sipush (256 : Int32) d20_7 rfl ?_
 rcases ite_e h with ⟨hc1, h⟩ | ⟨hc1, h⟩
 ·
  refine WP.icmpN d20_10 (XT.ii_ge_f hc1) ?_
  refine WP.aloadN d20_13 rfl ?_
  refine WP.getfield (i := 0) (j := 27) d20_14 (hw _ m_117) rfl rfl rfl ?_
  rcases ite_e h with ⟨hc2, h⟩ | ⟨hc2, h⟩
  ·
   refine WP.ifY (pc' := 62) d20_17 (XT.i0_eq_t hc2) (by decide) rfl ?_
   exact WP.weak (L' := (vU :: vU :: vU :: [])) trivial (ok20_62 l Z a0 hw n0 n s _ h)
  ·
   refine WP.ifN d20_17 (XT.i0_eq_f hc2) ?_
   refine WP.aloadN d20_20 rfl ?_
   refine WP.aloadN d20_21 rfl ?_
   refine WP.getfield (i := 0) (j := 26) d20_22 (hw _ m_119) rfl rfl rfl ?_
   obtain ⟨c3, hc3, h⟩ := bd h
   refine WP.callP (i := 0) (y := y7) (as := [.int (gI s 11)]) (S := []) d20_25 (hw _ m_129) (hw _ m_131) (hw _ m_1) (hw _ m_130) (hw _ m_132) (hw _ m_2) hy7 rfl (ok7 l Z a0 hw (gI s 11) s _ hc3) rfl (lenOf pd7 rfl) (leb rfl) (leb rfl) (leb rfl) (leb rfl) ?_
   rintro _ _ ⟨rfl, rfl⟩
   show W20 l Z n0 (P20 r) 0 0 28 (vR 0 :: vI v1 :: vU :: []) [.int c3] (Hb 0 s)
   refine WP.istoreN (L' := (vR 0 :: vI v1 :: vI c3 :: [])) d20_28 (leb rfl) rfl ?_
   refine WP.iloadN d20_29 rfl ?_
   refine WP.bipush (20 : Int32) d20_30 rfl ?_
   rcases ite_e h with ⟨hc4, h⟩ | ⟨hc4, h⟩
   ·
    refine WP.icmpY (pc' := 42) d20_32 (XT.ii_eq_t hc4) (by decide) rfl ?_
    exact WP.weak (L' := (vR 0 :: vI v1 :: vU :: [])) ⟨rfl, rfl, trivial⟩ (ok20_42 l Z a0 hw n0 _ hk6 n v1 s _ h)
   ·
    refine WP.icmpN d20_32 (XT.ii_eq_f hc4) ?_
    refine WP.iloadN d20_35 rfl ?_
    refine WP.bipush (21 : Int32) d20_36 rfl ?_
    rcases ite_e h with ⟨hc5, h⟩ | ⟨hc5, h⟩
    ·
     refine WP.icmpY (pc' := 42) d20_38 (XT.ii_eq_t hc5) (by decide) rfl ?_
     exact WP.weak (L' := (vR 0 :: vI v1 :: vU :: [])) ⟨rfl, rfl, trivial⟩ (ok20_42 l Z a0 hw n0 _ hk6 n v1 s _ h)
    ·
     refine WP.icmpN d20_38 (XT.ii_eq_f hc5) ?_
     cases h
     exact WP.vreturn d20_41 rfl (leb rfl) (leb rfl) ⟨rfl, rfl⟩
 ·
  refine WP.icmpY (pc' := 62) d20_10 (XT.ii_ge_t hc1) (by decide) rfl ?_
  exact WP.weak (L' := (vU :: vU :: vU :: [])) trivial (ok20_62 l Z a0 hw n0 n s _ h)
def f_parseSum_6 : Nat → Int32 → St → Option (St)
 | 0 => fun _ _ => none
 | n + 1 => g_parseSum_6 (f_parseSum_6 n) n
theorem ok20_6 (l : Launch) (Z : State) (a0 : Array Value) (hw : HW a0 Z) (n0 : Nat) : ∀ (n : Nat) (v1 : Int32) (s r : St), f_parseSum_6 n v1 s = some r → W20 l Z n0 (P20 r) 0 0 6 (vR 0 :: vI v1 :: vU :: []) [] (Hb 0 s)
 | 0, v1, s, r, h => nomatch (show none = some r from h)
 | n + 1, v1, s, r, h => okg20_6 l Z a0 hw n0 _ (ok20_6 l Z a0 hw n0 n) n v1 s r h
def f_parseSum (n : Nat) (s : St) : Option (St) :=
 (f_parseTerm n s).bind fun c1 =>
 f_parseSum_6 n (0 : Int32) c1
theorem ok20 (l : Launch) (Z : State) (a0 : Array Value) (hw : HW a0 Z) (n : Nat) (s r : St) (h : f_parseSum n s = some r) : CS l Z CN lay y20 prog_1_method_33_code 3 (none) R20 0 [.ref 0] (Hb 0 s) (P20 r) := by
 refine CS.of_wp pn_cls (leb rfl) fun n0 => ?_
 show W20 l Z n0 (P20 r) 0 0 0 (vR 0 :: vU :: vU :: []) [] (Hb 0 s)
 unfold f_parseSum at h
 refine WP.aloadN d20_0 rfl ?_
 obtain ⟨c1, hc1, h⟩ := bd h
 refine WP.callP (i := 0) (y := y21) (as := []) (S := []) d20_1 (hw _ m_187) (hw _ m_189) (hw _ m_1) (hw _ m_188) (hw _ m_190) (hw _ m_2) hy21 rfl (ok21 l Z a0 hw n s _ hc1) rfl (lenOf pd21 rfl) (leb rfl) (leb rfl) (leb rfl) (leb rfl) ?_
 rintro _ _ ⟨rfl, rfl⟩
 show W20 l Z n0 (P20 r) 0 0 4 (vR 0 :: vU :: vU :: []) [] (Hb 0 c1)
 refine WP.iconst (0 : Int32) d20_4 rfl ?_
 refine WP.istoreN (L' := (vR 0 :: vI (0 : Int32) :: vU :: [])) d20_5 (leb rfl) rfl ?_
 exact WP.weak (L' := (vR 0 :: vI (0 : Int32) :: vU :: [])) ⟨rfl, rfl, trivial⟩ (ok20_6 l Z a0 hw n0 n (0 : Int32) c1 _ h)
theorem d19_0 : dc k26 0 (.aload_n 0) 1 := by decide +kernel
theorem d19_1 : dc k26 1 (.invokevirtual 243) 3 := by decide +kernel
theorem d19_4 : dc k26 4 (.aload_n 0) 1 := by decide +kernel
theorem d19_5 : dc k26 5 (.aload_n 0) 1 := by decide +kernel
theorem d19_6 : dc k26 6 (.getfield 183) 3 := by decide +kernel
theorem d19_9 : dc k26 9 (.invokevirtual 192) 3 := by decide +kernel
theorem d19_12 : dc k26 12 (.istore_n 1) 1 := by decide +kernel
theorem d19_13 : dc k26 13 (.aload_n 0) 1 := by decide +kernel
theorem d19_14 : dc k26 14 (.getfield 180) 3 := by decide +kernel
theorem d19_17 : dc k26 17 (.ifCond .eq 29) 3 := by decide +kernel
theorem d19_20 : dc k26 20 (.iload_n 1) 1 := by decide +kernel
theorem d19_21 : dc k26 21 (.bipush 24) 2 := by decide +kernel
theorem d19_23 : dc k26 23 (.if_icmp .eq 9) 3 := by decide +kernel
theorem d19_26 : dc k26 26 (.iload_n 1) 1 := by decide +kernel
theorem d19_27 : dc k26 27 (.bipush 25) 2 := by decide +kernel
theorem d19_29 : dc k26 29 (.if_icmp .ne 17) 3 := by decide +kernel
theorem d19_32 : dc k26 32 (.aload_n 0) 1 := by decide +kernel
theorem d19_33 : dc k26 33 (.dup) 1 := by decide +kernel
theorem d19_34 : dc k26 34 (.getfield 183) 3 := by decide +kernel
theorem d19_37 : dc k26 37 (.iconst 1) 1 := by decide +kernel
theorem d19_38 : dc k26 38 (.iadd) 1 := by decide +kernel
theorem d19_39 : dc k26 39 (.putfield 183) 3 := by decide +kernel
theorem d19_42 : dc k26 42 (.aload_n 0) 1 := by decide +kernel
theorem d19_43 : dc k26 43 (.invokevirtual 243) 3 := by decide +kernel
theorem d19_46 : dc k26 46 (.return_) 1 := by decide +kernel
abbrev y19 : MethodName := ⟨"FatPointerC", "parseExpr", "()V"⟩
theorem hy19 : y19.cls ≠ "java/lang/invoke/MethodHandle" ∧ y19.cls ≠ "java/lang/invoke/VarHandle" := by decide
theorem pd19 : parseMethodDescriptor y19.desc = some ⟨[], none⟩ := by decide +kernel
abbrev R19 : Room := { frames := 6, cells := 0, slots := 0, locals := 78 }
abbrev P19 (r : St) : Option Value → List OwnC → Prop := fun v H' => v = none ∧ H' = (Hb 0 r)
abbrev W19 (l : Launch) (Z : State) (n0 : Nat) (Q : Option Value → List OwnC → Prop) (k n pc : Nat) (L : List Slot) (S : List Value) (H : List OwnC) : Prop := WP l Z CN lay "FatPointerC" "parseExpr" prog_1_method_32_code 2 (none) R19 n0 0 Q k n pc L S H
def f_parseExpr_46 (n : Nat) (s : St) : Option (St) :=
 some s
theorem ok19_46 (l : Launch) (Z : State) (a0 : Array Value) (hw : HW a0 Z) (n0 n : Nat) (s r : St) (h : f_parseExpr_46 n s = some r) : W19 l Z n0 (P19 r) 0 0 46 (vU :: vU :: []) [] (Hb 0 s) := by
 unfold f_parseExpr_46 at h
 cases h
 exact WP.vreturn d19_46 rfl (leb rfl) (leb rfl) ⟨rfl, rfl⟩
def f_parseExpr_32 (n : Nat) (s : St) : Option (St) :=
 lt (sI s 11 ((gI s 11) + (1 : Int32))) fun s1 =>
 (f_parseSum n s1).bind fun c2 =>
 f_parseExpr_46 n c2
theorem ok19_32 (l : Launch) (Z : State) (a0 : Array Value) (hw : HW a0 Z) (n0 n : Nat) (s r : St) (h : f_parseExpr_32 n s = some r) : W19 l Z n0 (P19 r) 0 0 32 (vR 0 :: vU :: []) [] (Hb 0 s) := by
 unfold f_parseExpr_32 at h
 refine WP.aloadN d19_32 rfl ?_
 refine WP.dup d19_33 rfl ?_
 refine WP.getfield (i := 0) (j := 26) d19_34 (hw _ m_119) rfl rfl rfl ?_
 refine WP.iconst (1 : Int32) d19_37 rfl ?_
 refine WP.iadd d19_38 ?_
 obtain ⟨s1, es1, h⟩ := lt_e h
 refine WP.putI (i := 0) (j := 26) (H' := (Hb 0 s1)) d19_39 (hw _ m_119) (Or.inl (hw _ m_120)) (hw _ m_1) (hlay hw) rfl rfl rfl (leb rfl) (by subst es1; rfl) ?_
 refine WP.aloadN d19_42 rfl ?_
 obtain ⟨c2, hc2, h⟩ := bd h
 refine WP.callP (i := 0) (y := y20) (as := []) (S := []) d19_43 (hw _ m_183) (hw _ m_185) (hw _ m_1) (hw _ m_184) (hw _ m_186) (hw _ m_2) hy20 rfl (ok20 l Z a0 hw n s1 _ hc2) rfl (lenOf pd20 rfl) (leb rfl) (leb rfl) (leb rfl) (leb rfl) ?_
 rintro _ _ ⟨rfl, rfl⟩
 show W19 l Z n0 (P19 r) 0 0 46 (vR 0 :: vU :: []) [] (Hb 0 c2)
 exact WP.weak (L' := (vU :: vU :: [])) trivial (ok19_46 l Z a0 hw n0 n c2 _ h)
def f_parseExpr (n : Nat) (s : St) : Option (St) :=
 (f_parseSum n s).bind fun c1 =>
 (f_kindAt (gI c1 11) c1).bind fun c2 =>
 if (gI c1 12) = 0 then
  f_parseExpr_46 n c1
 else
  if c2 = (24 : Int32) then
   f_parseExpr_32 n c1
  else
   if c2 = (25 : Int32) then
    f_parseExpr_32 n c1
   else
    f_parseExpr_46 n c1
theorem ok19 (l : Launch) (Z : State) (a0 : Array Value) (hw : HW a0 Z) (n : Nat) (s r : St) (h : f_parseExpr n s = some r) : CS l Z CN lay y19 prog_1_method_32_code 2 (none) R19 0 [.ref 0] (Hb 0 s) (P19 r) := by
 refine CS.of_wp pn_cls (leb rfl) fun n0 => ?_
 show W19 l Z n0 (P19 r) 0 0 0 (vR 0 :: vU :: []) [] (Hb 0 s)
 unfold f_parseExpr at h
 refine WP.aloadN d19_0 rfl ?_
 obtain ⟨c1, hc1, h⟩ := bd h
 refine WP.callP (i := 0) (y := y20) (as := []) (S := []) d19_1 (hw _ m_183) (hw _ m_185) (hw _ m_1) (hw _ m_184) (hw _ m_186) (hw _ m_2) hy20 rfl (ok20 l Z a0 hw n s _ hc1) rfl (lenOf pd20 rfl) (leb rfl) (leb rfl) (leb rfl) (leb rfl) ?_
 rintro _ _ ⟨rfl, rfl⟩
 show W19 l Z n0 (P19 r) 0 0 4 (vR 0 :: vU :: []) [] (Hb 0 c1)
 refine WP.aloadN d19_4 rfl ?_
 refine WP.aloadN d19_5 rfl ?_
 refine WP.getfield (i := 0) (j := 26) d19_6 (hw _ m_119) rfl rfl rfl ?_
 obtain ⟨c2, hc2, h⟩ := bd h
 refine WP.callP (i := 0) (y := y7) (as := [.int (gI c1 11)]) (S := []) d19_9 (hw _ m_129) (hw _ m_131) (hw _ m_1) (hw _ m_130) (hw _ m_132) (hw _ m_2) hy7 rfl (ok7 l Z a0 hw (gI c1 11) c1 _ hc2) rfl (lenOf pd7 rfl) (leb rfl) (leb rfl) (leb rfl) (leb rfl) ?_
 rintro _ _ ⟨rfl, rfl⟩
 show W19 l Z n0 (P19 r) 0 0 12 (vR 0 :: vU :: []) [.int c2] (Hb 0 c1)
 refine WP.istoreN (L' := (vR 0 :: vI c2 :: [])) d19_12 (leb rfl) rfl ?_
 refine WP.aloadN d19_13 rfl ?_
 refine WP.getfield (i := 0) (j := 27) d19_14 (hw _ m_117) rfl rfl rfl ?_
 rcases ite_e h with ⟨hc3, h⟩ | ⟨hc3, h⟩
 ·
  refine WP.ifY (pc' := 46) d19_17 (XT.i0_eq_t hc3) (by decide) rfl ?_
  exact WP.weak (L' := (vU :: vU :: [])) trivial (ok19_46 l Z a0 hw n0 n c1 _ h)
 ·
  refine WP.ifN d19_17 (XT.i0_eq_f hc3) ?_
  refine WP.iloadN d19_20 rfl ?_
  refine WP.bipush (24 : Int32) d19_21 rfl ?_
  rcases ite_e h with ⟨hc4, h⟩ | ⟨hc4, h⟩
  ·
   refine WP.icmpY (pc' := 32) d19_23 (XT.ii_eq_t hc4) (by decide) rfl ?_
   exact WP.weak (L' := (vR 0 :: vU :: [])) ⟨rfl, trivial⟩ (ok19_32 l Z a0 hw n0 n c1 _ h)
  ·
   refine WP.icmpN d19_23 (XT.ii_eq_f hc4) ?_
   refine WP.iloadN d19_26 rfl ?_
   refine WP.bipush (25 : Int32) d19_27 rfl ?_
   rcases ite_e h with ⟨hc5, h⟩ | ⟨hc5, h⟩
   ·
    refine WP.icmpN d19_29 (XT.ii_ne_f hc5) ?_
    exact WP.weak (L' := (vR 0 :: vU :: [])) ⟨rfl, trivial⟩ (ok19_32 l Z a0 hw n0 n c1 _ h)
   ·
    refine WP.icmpY (pc' := 46) d19_29 (XT.ii_ne_t hc5) (by decide) rfl ?_
    exact WP.weak (L' := (vU :: vU :: [])) trivial (ok19_46 l Z a0 hw n0 n c1 _ h)
theorem d16_0 : dc k24 0 (.aload_n 0) 1 := by decide +kernel
theorem d16_1 : dc k24 1 (.invokevirtual 234) 3 := by decide +kernel
theorem d16_4 : dc k24 4 (.istore_n 1) 1 := by decide +kernel
theorem d16_5 : dc k24 5 (.aload_n 0) 1 := by decide +kernel
theorem d16_6 : dc k24 6 (.getfield 180) 3 := by decide +kernel
theorem d16_9 : dc k24 9 (.ifCond .ne 4) 3 := by decide +kernel
theorem d16_12 : dc k24 12 (.return_) 1 := by decide +kernel
theorem d16_13 : dc k24 13 (.aload_n 0) 1 := by decide +kernel
theorem d16_14 : dc k24 14 (.aload_n 0) 1 := by decide +kernel
theorem d16_15 : dc k24 15 (.getfield 183) 3 := by decide +kernel
theorem d16_18 : dc k24 18 (.invokevirtual 192) 3 := by decide +kernel
theorem d16_21 : dc k24 21 (.bipush 19) 2 := by decide +kernel
theorem d16_23 : dc k24 23 (.if_icmp .ne 66) 3 := by decide +kernel
theorem d16_26 : dc k24 26 (.aload_n 0) 1 := by decide +kernel
theorem d16_27 : dc k24 27 (.getfield 41) 3 := by decide +kernel
theorem d16_30 : dc k24 30 (.aload_n 0) 1 := by decide +kernel
theorem d16_31 : dc k24 31 (.getfield 202) 3 := by decide +kernel
theorem d16_34 : dc k24 34 (.bipush 8) 2 := by decide +kernel
theorem d16_36 : dc k24 36 (.imul) 1 := by decide +kernel
theorem d16_37 : dc k24 37 (.iload_n 1) 1 := by decide +kernel
theorem d16_38 : dc k24 38 (.iadd) 1 := by decide +kernel
theorem d16_39 : dc k24 39 (.baload) 1 := by decide +kernel
theorem d16_40 : dc k24 40 (.ifCond .eq 9) 3 := by decide +kernel
theorem d16_43 : dc k24 43 (.aload_n 0) 1 := by decide +kernel
theorem d16_44 : dc k24 44 (.iconst 0) 1 := by decide +kernel
theorem d16_45 : dc k24 45 (.putfield 180) 3 := by decide +kernel
theorem d16_48 : dc k24 48 (.return_) 1 := by decide +kernel
theorem d16_49 : dc k24 49 (.aload_n 0) 1 := by decide +kernel
theorem d16_50 : dc k24 50 (.dup) 1 := by decide +kernel
theorem d16_51 : dc k24 51 (.getfield 183) 3 := by decide +kernel
theorem d16_54 : dc k24 54 (.iconst 1) 1 := by decide +kernel
theorem d16_55 : dc k24 55 (.iadd) 1 := by decide +kernel
theorem d16_56 : dc k24 56 (.putfield 183) 3 := by decide +kernel
theorem d16_59 : dc k24 59 (.aload_n 0) 1 := by decide +kernel
theorem d16_60 : dc k24 60 (.aload_n 0) 1 := by decide +kernel
theorem d16_61 : dc k24 61 (.getfield 183) 3 := by decide +kernel
theorem d16_64 : dc k24 64 (.invokevirtual 192) 3 := by decide +kernel
theorem d16_67 : dc k24 67 (.iconst 3) 1 := by decide +kernel
theorem d16_68 : dc k24 68 (.if_icmp .ne 10) 3 := by decide +kernel
theorem d16_71 : dc k24 71 (.aload_n 0) 1 := by decide +kernel
theorem d16_72 : dc k24 72 (.invokevirtual 237) 3 := by decide +kernel
theorem d16_78 : dc k24 78 (.aload_n 0) 1 := by decide +kernel
theorem d16_79 : dc k24 79 (.invokevirtual 228) 3 := by decide +kernel
theorem d16_82 : dc k24 82 (.aload_n 0) 1 := by decide +kernel
theorem d16_83 : dc k24 83 (.bipush 17) 2 := by decide +kernel
theorem d16_85 : dc k24 85 (.invokevirtual 195) 3 := by decide +kernel
theorem d16_88 : dc k24 88 (.return_) 1 := by decide +kernel
theorem d16_89 : dc k24 89 (.aload_n 0) 1 := by decide +kernel
theorem d16_90 : dc k24 90 (.bipush 15) 2 := by decide +kernel
theorem d16_92 : dc k24 92 (.invokevirtual 195) 3 := by decide +kernel
theorem d16_95 : dc k24 95 (.aload_n 0) 1 := by decide +kernel
theorem d16_96 : dc k24 96 (.invokevirtual 240) 3 := by decide +kernel
theorem d16_99 : dc k24 99 (.aload_n 0) 1 := by decide +kernel
theorem d16_100 : dc k24 100 (.bipush 16) 2 := by decide +kernel
theorem d16_102 : dc k24 102 (.invokevirtual 195) 3 := by decide +kernel
theorem d16_105 : dc k24 105 (.aload_n 0) 1 := by decide +kernel
theorem d16_106 : dc k24 106 (.bipush 19) 2 := by decide +kernel
theorem d16_108 : dc k24 108 (.invokevirtual 195) 3 := by decide +kernel
theorem d16_111 : dc k24 111 (.aload_n 0) 1 := by decide +kernel
theorem d16_112 : dc k24 112 (.invokevirtual 228) 3 := by decide +kernel
theorem d16_115 : dc k24 115 (.aload_n 0) 1 := by decide +kernel
theorem d16_116 : dc k24 116 (.bipush 17) 2 := by decide +kernel
theorem d16_118 : dc k24 118 (.invokevirtual 195) 3 := by decide +kernel
theorem d16_121 : dc k24 121 (.return_) 1 := by decide +kernel
abbrev y16 : MethodName := ⟨"FatPointerC", "parseVarStmt", "()V"⟩
theorem hy16 : y16.cls ≠ "java/lang/invoke/MethodHandle" ∧ y16.cls ≠ "java/lang/invoke/VarHandle" := by decide
theorem pd16 : parseMethodDescriptor y16.desc = some ⟨[], none⟩ := by decide +kernel
abbrev R16 : Room := { frames := 7, cells := 0, slots := 0, locals := 91 }
abbrev P16 (r : St) : Option Value → List OwnC → Prop := fun v H' => v = none ∧ H' = (Hb 0 r)
abbrev W16 (l : Launch) (Z : State) (n0 : Nat) (Q : Option Value → List OwnC → Prop) (k n pc : Nat) (L : List Slot) (S : List Value) (H : List OwnC) : Prop := WP l Z CN lay "FatPointerC" "parseVarStmt" prog_1_method_29_code 2 (none) R16 n0 0 Q k n pc L S H
def f_parseVarStmt (n : Nat) (s : St) : Option (St) :=
 (f_useVar s).bind fun c1 =>
 if (gI c1.2 12) = 0 then
  some c1.2
 else
  (f_kindAt (gI c1.2 11) c1.2).bind fun c3 =>
  if c3 = (19 : Int32) then
   (rd (gA c1.2 10) (((gI c1.2 13) * (8 : Int32)) + c1.1)).bind fun x5 =>
   if x5 = 0 then
    lt (sI c1.2 11 ((gI c1.2 11) + (1 : Int32))) fun s7 =>
    (f_kindAt (gI s7 11) s7).bind fun c8 =>
    if c8 = (3 : Int32) then
     none
    else
     (f_parseExpr n s7).bind fun c10 =>
     (f_expect (17 : Int32) c10).bind fun c11 =>
     some c11
   else
    lt (sI c1.2 12 (0 : Int32)) fun s12 =>
    some s12
  else
   (f_expect (15 : Int32) c1.2).bind fun c13 =>
   (f_parseAtom c13).bind fun c14 =>
   (f_expect (16 : Int32) c14).bind fun c15 =>
   (f_expect (19 : Int32) c15).bind fun c16 =>
   (f_parseExpr n c16).bind fun c17 =>
   (f_expect (17 : Int32) c17).bind fun c18 =>
   some c18
theorem ok16 (l : Launch) (Z : State) (a0 : Array Value) (hw : HW a0 Z) (n : Nat) (s r : St) (h : f_parseVarStmt n s = some r) : CS l Z CN lay y16 prog_1_method_29_code 2 (none) R16 0 [.ref 0] (Hb 0 s) (P16 r) := by
 refine CS.of_wp pn_cls (leb rfl) fun n0 => ?_
 show W16 l Z n0 (P16 r) 0 0 0 (vR 0 :: vU :: []) [] (Hb 0 s)
 unfold f_parseVarStmt at h
 refine WP.aloadN d16_0 rfl ?_
 obtain ⟨c1, hc1, h⟩ := bd h
 refine WP.callP (i := 0) (y := y17) (as := []) (S := []) d16_1 (hw _ m_171) (hw _ m_173) (hw _ m_1) (hw _ m_172) (hw _ m_174) (hw _ m_2) hy17 rfl (ok17 l Z a0 hw s _ hc1) rfl (lenOf pd17 rfl) (leb rfl) (leb rfl) (leb rfl) (leb rfl) ?_
 rintro _ _ ⟨rfl, rfl⟩
 show W16 l Z n0 (P16 r) 0 0 4 (vR 0 :: vU :: []) [.int c1.1] (Hb 0 c1.2)
 refine WP.istoreN (L' := (vR 0 :: vI c1.1 :: [])) d16_4 (leb rfl) rfl ?_
 refine WP.aloadN d16_5 rfl ?_
 refine WP.getfield (i := 0) (j := 27) d16_6 (hw _ m_117) rfl rfl rfl ?_
 rcases ite_e h with ⟨hc2, h⟩ | ⟨hc2, h⟩
 ·
  refine WP.ifN d16_9 (XT.i0_ne_f hc2) ?_
  cases h
  exact WP.vreturn d16_12 rfl (leb rfl) (leb rfl) ⟨rfl, rfl⟩
 ·
  refine WP.ifY (pc' := 13) d16_9 (XT.i0_ne_t hc2) (by decide) rfl ?_
  refine WP.aloadN d16_13 rfl ?_
  refine WP.aloadN d16_14 rfl ?_
  refine WP.getfield (i := 0) (j := 26) d16_15 (hw _ m_119) rfl rfl rfl ?_
  obtain ⟨c3, hc3, h⟩ := bd h
  refine WP.callP (i := 0) (y := y7) (as := [.int (gI c1.2 11)]) (S := []) d16_18 (hw _ m_129) (hw _ m_131) (hw _ m_1) (hw _ m_130) (hw _ m_132) (hw _ m_2) hy7 rfl (ok7 l Z a0 hw (gI c1.2 11) c1.2 _ hc3) rfl (lenOf pd7 rfl) (leb rfl) (leb rfl) (leb rfl) (leb rfl) ?_
  rintro _ _ ⟨rfl, rfl⟩
  show W16 l Z n0 (P16 r) 0 0 21 (vR 0 :: vI c1.1 :: []) [.int c3] (Hb 0 c1.2)
  refine WP.bipush (19 : Int32) d16_21 rfl ?_
  rcases ite_e h with ⟨hc4, h⟩ | ⟨hc4, h⟩
  ·
   refine WP.icmpN d16_23 (XT.ii_ne_f hc4) ?_
   refine WP.aloadN d16_26 rfl ?_
   refine WP.getfield (i := 0) (j := 21) d16_27 (hw _ m_31) rfl rfl rfl ?_
   refine WP.aloadN d16_30 rfl ?_
   refine WP.getfield (i := 0) (j := 28) d16_31 (hw _ m_137) rfl rfl rfl ?_
   refine WP.bipush (8 : Int32) d16_34 rfl ?_
   refine WP.imul d16_36 ?_
   refine WP.iloadN d16_37 rfl ?_
   refine WP.iadd d16_38 ?_
   obtain ⟨x5, hx5, h⟩ := bd h
   refine WP.baload (i := 11) d16_39 rfl hx5 ?_
   rcases ite_e h with ⟨hc6, h⟩ | ⟨hc6, h⟩
   ·
    refine WP.ifY (pc' := 49) d16_40 (XT.i0_eq_t hc6) (by decide) rfl ?_
    refine WP.aloadN d16_49 rfl ?_
    refine WP.dup d16_50 rfl ?_
    refine WP.getfield (i := 0) (j := 26) d16_51 (hw _ m_119) rfl rfl rfl ?_
    refine WP.iconst (1 : Int32) d16_54 rfl ?_
    refine WP.iadd d16_55 ?_
    obtain ⟨s7, es7, h⟩ := lt_e h
    refine WP.putI (i := 0) (j := 26) (H' := (Hb 0 s7)) d16_56 (hw _ m_119) (Or.inl (hw _ m_120)) (hw _ m_1) (hlay hw) rfl rfl rfl (leb rfl) (by subst es7; rfl) ?_
    refine WP.aloadN d16_59 rfl ?_
    refine WP.aloadN d16_60 rfl ?_
    refine WP.getfield (i := 0) (j := 26) d16_61 (hw _ m_119) rfl rfl rfl ?_
    obtain ⟨c8, hc8, h⟩ := bd h
    refine WP.callP (i := 0) (y := y7) (as := [.int (gI s7 11)]) (S := []) d16_64 (hw _ m_129) (hw _ m_131) (hw _ m_1) (hw _ m_130) (hw _ m_132) (hw _ m_2) hy7 rfl (ok7 l Z a0 hw (gI s7 11) s7 _ hc8) rfl (lenOf pd7 rfl) (leb rfl) (leb rfl) (leb rfl) (leb rfl) ?_
    rintro _ _ ⟨rfl, rfl⟩
    show W16 l Z n0 (P16 r) 0 0 67 (vR 0 :: vI c1.1 :: []) [.int c8] (Hb 0 s7)
    refine WP.iconst (3 : Int32) d16_67 rfl ?_
    rcases ite_e h with ⟨hc9, h⟩ | ⟨hc9, h⟩
    ·
     refine WP.icmpN d16_68 (XT.ii_ne_f hc9) ?_
     refine WP.aloadN d16_71 rfl ?_
     cases h
    ·
     refine WP.icmpY (pc' := 78) d16_68 (XT.ii_ne_t hc9) (by decide) rfl ?_
     refine WP.aloadN d16_78 rfl ?_
     obtain ⟨c10, hc10, h⟩ := bd h
     refine WP.callP (i := 0) (y := y19) (as := []) (S := []) d16_79 (hw _ m_179) (hw _ m_181) (hw _ m_1) (hw _ m_180) (hw _ m_182) (hw _ m_2) hy19 rfl (ok19 l Z a0 hw n s7 _ hc10) rfl (lenOf pd19 rfl) (leb rfl) (leb rfl) (leb rfl) (leb rfl) ?_
     rintro _ _ ⟨rfl, rfl⟩
     show W16 l Z n0 (P16 r) 0 0 82 (vR 0 :: vI c1.1 :: []) [] (Hb 0 c10)
     refine WP.aloadN d16_82 rfl ?_
     refine WP.bipush (17 : Int32) d16_83 rfl ?_
     obtain ⟨c11, hc11, h⟩ := bd h
     refine WP.callP (i := 0) (y := y6) (as := [.int (17 : Int32)]) (S := []) d16_85 (hw _ m_125) (hw _ m_127) (hw _ m_1) (hw _ m_126) (hw _ m_128) (hw _ m_2) hy6 rfl (ok6 l Z a0 hw (17 : Int32) c10 _ hc11) rfl (lenOf pd6 rfl) (leb rfl) (leb rfl) (leb rfl) (leb rfl) ?_
     rintro _ _ ⟨rfl, rfl⟩
     show W16 l Z n0 (P16 r) 0 0 88 (vR 0 :: vI c1.1 :: []) [] (Hb 0 c11)
     cases h
     exact WP.vreturn d16_88 rfl (leb rfl) (leb rfl) ⟨rfl, rfl⟩
   ·
    refine WP.ifN d16_40 (XT.i0_eq_f hc6) ?_
    refine WP.aloadN d16_43 rfl ?_
    refine WP.iconst (0 : Int32) d16_44 rfl ?_
    obtain ⟨s12, es12, h⟩ := lt_e h
    refine WP.putZ (i := 0) (j := 27) (H' := (Hb 0 s12)) d16_45 (hw _ m_117) (Or.inl (hw _ m_118)) (hw _ m_1) (hlay hw) rfl rfl rfl (leb rfl) (by subst es12; rfl) ?_
    cases h
    exact WP.vreturn d16_48 rfl (leb rfl) (leb rfl) ⟨rfl, rfl⟩
  ·
   refine WP.icmpY (pc' := 89) d16_23 (XT.ii_ne_t hc4) (by decide) rfl ?_
   refine WP.aloadN d16_89 rfl ?_
   refine WP.bipush (15 : Int32) d16_90 rfl ?_
   obtain ⟨c13, hc13, h⟩ := bd h
   refine WP.callP (i := 0) (y := y6) (as := [.int (15 : Int32)]) (S := []) d16_92 (hw _ m_125) (hw _ m_127) (hw _ m_1) (hw _ m_126) (hw _ m_128) (hw _ m_2) hy6 rfl (ok6 l Z a0 hw (15 : Int32) c1.2 _ hc13) rfl (lenOf pd6 rfl) (leb rfl) (leb rfl) (leb rfl) (leb rfl) ?_
   rintro _ _ ⟨rfl, rfl⟩
   show W16 l Z n0 (P16 r) 0 0 95 (vR 0 :: vI c1.1 :: []) [] (Hb 0 c13)
   refine WP.aloadN d16_95 rfl ?_
   obtain ⟨c14, hc14, h⟩ := bd h
   refine WP.callP (i := 0) (y := y18) (as := []) (S := []) d16_96 (hw _ m_175) (hw _ m_177) (hw _ m_1) (hw _ m_176) (hw _ m_178) (hw _ m_2) hy18 rfl (ok18 l Z a0 hw c13 _ hc14) rfl (lenOf pd18 rfl) (leb rfl) (leb rfl) (leb rfl) (leb rfl) ?_
   rintro _ _ ⟨rfl, rfl⟩
   show W16 l Z n0 (P16 r) 0 0 99 (vR 0 :: vI c1.1 :: []) [] (Hb 0 c14)
   refine WP.aloadN d16_99 rfl ?_
   refine WP.bipush (16 : Int32) d16_100 rfl ?_
   obtain ⟨c15, hc15, h⟩ := bd h
   refine WP.callP (i := 0) (y := y6) (as := [.int (16 : Int32)]) (S := []) d16_102 (hw _ m_125) (hw _ m_127) (hw _ m_1) (hw _ m_126) (hw _ m_128) (hw _ m_2) hy6 rfl (ok6 l Z a0 hw (16 : Int32) c14 _ hc15) rfl (lenOf pd6 rfl) (leb rfl) (leb rfl) (leb rfl) (leb rfl) ?_
   rintro _ _ ⟨rfl, rfl⟩
   show W16 l Z n0 (P16 r) 0 0 105 (vR 0 :: vI c1.1 :: []) [] (Hb 0 c15)
   refine WP.aloadN d16_105 rfl ?_
   refine WP.bipush (19 : Int32) d16_106 rfl ?_
   obtain ⟨c16, hc16, h⟩ := bd h
   refine WP.callP (i := 0) (y := y6) (as := [.int (19 : Int32)]) (S := []) d16_108 (hw _ m_125) (hw _ m_127) (hw _ m_1) (hw _ m_126) (hw _ m_128) (hw _ m_2) hy6 rfl (ok6 l Z a0 hw (19 : Int32) c15 _ hc16) rfl (lenOf pd6 rfl) (leb rfl) (leb rfl) (leb rfl) (leb rfl) ?_
   rintro _ _ ⟨rfl, rfl⟩
   show W16 l Z n0 (P16 r) 0 0 111 (vR 0 :: vI c1.1 :: []) [] (Hb 0 c16)
   refine WP.aloadN d16_111 rfl ?_
   obtain ⟨c17, hc17, h⟩ := bd h
   refine WP.callP (i := 0) (y := y19) (as := []) (S := []) d16_112 (hw _ m_179) (hw _ m_181) (hw _ m_1) (hw _ m_180) (hw _ m_182) (hw _ m_2) hy19 rfl (ok19 l Z a0 hw n c16 _ hc17) rfl (lenOf pd19 rfl) (leb rfl) (leb rfl) (leb rfl) (leb rfl) ?_
   rintro _ _ ⟨rfl, rfl⟩
   show W16 l Z n0 (P16 r) 0 0 115 (vR 0 :: vI c1.1 :: []) [] (Hb 0 c17)
   refine WP.aloadN d16_115 rfl ?_
   refine WP.bipush (17 : Int32) d16_116 rfl ?_
   obtain ⟨c18, hc18, h⟩ := bd h
   refine WP.callP (i := 0) (y := y6) (as := [.int (17 : Int32)]) (S := []) d16_118 (hw _ m_125) (hw _ m_127) (hw _ m_1) (hw _ m_126) (hw _ m_128) (hw _ m_2) hy6 rfl (ok6 l Z a0 hw (17 : Int32) c17 _ hc18) rfl (lenOf pd6 rfl) (leb rfl) (leb rfl) (leb rfl) (leb rfl) ?_
   rintro _ _ ⟨rfl, rfl⟩
   show W16 l Z n0 (P16 r) 0 0 121 (vR 0 :: vI c1.1 :: []) [] (Hb 0 c18)
   cases h
   exact WP.vreturn d16_121 rfl (leb rfl) (leb rfl) ⟨rfl, rfl⟩
theorem d15_0 : dc k23 0 (.aload_n 0) 1 := by decide +kernel
theorem d15_1 : dc k23 1 (.aload_n 0) 1 := by decide +kernel
theorem d15_2 : dc k23 2 (.getfield 183) 3 := by decide +kernel
theorem d15_5 : dc k23 5 (.invokevirtual 192) 3 := by decide +kernel
theorem d15_8 : dc k23 8 (.istore_n 1) 1 := by decide +kernel
theorem d15_9 : dc k23 9 (.iload_n 1) 1 := by decide +kernel
theorem d15_10 : dc k23 10 (.bipush 7) 2 := by decide +kernel
theorem d15_12 : dc k23 12 (.if_icmp .eq 9) 3 := by decide +kernel
theorem d15_15 : dc k23 15 (.iload_n 1) 1 := by decide +kernel
theorem d15_16 : dc k23 16 (.bipush 8) 2 := by decide +kernel
theorem d15_18 : dc k23 18 (.if_icmp .ne 36) 3 := by decide +kernel
theorem d15_21 : dc k23 21 (.aload_n 0) 1 := by decide +kernel
theorem d15_22 : dc k23 22 (.dup) 1 := by decide +kernel
theorem d15_23 : dc k23 23 (.getfield 183) 3 := by decide +kernel
theorem d15_26 : dc k23 26 (.iconst 1) 1 := by decide +kernel
theorem d15_27 : dc k23 27 (.iadd) 1 := by decide +kernel
theorem d15_28 : dc k23 28 (.putfield 183) 3 := by decide +kernel
theorem d15_31 : dc k23 31 (.aload_n 0) 1 := by decide +kernel
theorem d15_32 : dc k23 32 (.bipush 11) 2 := by decide +kernel
theorem d15_34 : dc k23 34 (.invokevirtual 195) 3 := by decide +kernel
theorem d15_37 : dc k23 37 (.aload_n 0) 1 := by decide +kernel
theorem d15_38 : dc k23 38 (.invokevirtual 228) 3 := by decide +kernel
theorem d15_41 : dc k23 41 (.aload_n 0) 1 := by decide +kernel
theorem d15_42 : dc k23 42 (.bipush 12) 2 := by decide +kernel
theorem d15_44 : dc k23 44 (.invokevirtual 195) 3 := by decide +kernel
theorem d15_47 : dc k23 47 (.aload_n 0) 1 := by decide +kernel
theorem d15_48 : dc k23 48 (.bipush 13) 2 := by decide +kernel
theorem d15_50 : dc k23 50 (.invokevirtual 195) 3 := by decide +kernel
theorem d15_53 : dc k23 53 (.return_) 1 := by decide +kernel
theorem d15_54 : dc k23 54 (.iload_n 1) 1 := by decide +kernel
theorem d15_55 : dc k23 55 (.iconst 2) 1 := by decide +kernel
theorem d15_56 : dc k23 56 (.if_icmp .ne 8) 3 := by decide +kernel
theorem d15_59 : dc k23 59 (.aload_n 0) 1 := by decide +kernel
theorem d15_60 : dc k23 60 (.invokevirtual 231) 3 := by decide +kernel
theorem d15_63 : dc k23 63 (.return_) 1 := by decide +kernel
theorem d15_64 : dc k23 64 (.iload_n 1) 1 := by decide +kernel
theorem d15_65 : dc k23 65 (.bipush 22) 2 := by decide +kernel
theorem d15_67 : dc k23 67 (.if_icmp .ne 35) 3 := by decide +kernel
theorem d15_70 : dc k23 70 (.aload_n 0) 1 := by decide +kernel
theorem d15_71 : dc k23 71 (.dup) 1 := by decide +kernel
theorem d15_72 : dc k23 72 (.getfield 183) 3 := by decide +kernel
theorem d15_75 : dc k23 75 (.iconst 1) 1 := by decide +kernel
theorem d15_76 : dc k23 76 (.iadd) 1 := by decide +kernel
theorem d15_77 : dc k23 77 (.putfield 183) 3 := by decide +kernel
theorem d15_80 : dc k23 80 (.aload_n 0) 1 := by decide +kernel
theorem d15_81 : dc k23 81 (.invokevirtual 234) 3 := by decide +kernel
theorem d15_84 : dc k23 84 (.pop) 1 := by decide +kernel
theorem d15_85 : dc k23 85 (.aload_n 0) 1 := by decide +kernel
theorem d15_86 : dc k23 86 (.bipush 19) 2 := by decide +kernel
theorem d15_88 : dc k23 88 (.invokevirtual 195) 3 := by decide +kernel
theorem d15_91 : dc k23 91 (.aload_n 0) 1 := by decide +kernel
theorem d15_92 : dc k23 92 (.invokevirtual 228) 3 := by decide +kernel
theorem d15_95 : dc k23 95 (.aload_n 0) 1 := by decide +kernel
theorem d15_96 : dc k23 96 (.bipush 17) 2 := by decide +kernel
theorem d15_98 : dc k23 98 (.invokevirtual 195) 3 := by decide +kernel
theorem d15_101 : dc k23 101 (.return_) 1 := by decide +kernel
theorem d15_102 : dc k23 102 (.iload_n 1) 1 := by decide +kernel
theorem d15_103 : dc k23 103 (.iconst 3) 1 := by decide +kernel
theorem d15_104 : dc k23 104 (.if_icmp .ne 14) 3 := by decide +kernel
theorem d15_107 : dc k23 107 (.aload_n 0) 1 := by decide +kernel
theorem d15_108 : dc k23 108 (.invokevirtual 237) 3 := by decide +kernel
theorem d15_118 : dc k23 118 (.iload_n 1) 1 := by decide +kernel
theorem d15_119 : dc k23 119 (.bipush 10) 2 := by decide +kernel
theorem d15_121 : dc k23 121 (.if_icmp .eq 9) 3 := by decide +kernel
theorem d15_124 : dc k23 124 (.iload_n 1) 1 := by decide +kernel
theorem d15_125 : dc k23 125 (.bipush 9) 2 := by decide +kernel
theorem d15_127 : dc k23 127 (.if_icmp .ne 24) 3 := by decide +kernel
theorem d15_130 : dc k23 130 (.aload_n 0) 1 := by decide +kernel
theorem d15_131 : dc k23 131 (.dup) 1 := by decide +kernel
theorem d15_132 : dc k23 132 (.getfield 183) 3 := by decide +kernel
theorem d15_135 : dc k23 135 (.iconst 1) 1 := by decide +kernel
theorem d15_136 : dc k23 136 (.iadd) 1 := by decide +kernel
theorem d15_137 : dc k23 137 (.putfield 183) 3 := by decide +kernel
theorem d15_140 : dc k23 140 (.aload_n 0) 1 := by decide +kernel
theorem d15_141 : dc k23 141 (.invokevirtual 228) 3 := by decide +kernel
theorem d15_144 : dc k23 144 (.aload_n 0) 1 := by decide +kernel
theorem d15_145 : dc k23 145 (.bipush 17) 2 := by decide +kernel
theorem d15_147 : dc k23 147 (.invokevirtual 195) 3 := by decide +kernel
theorem d15_150 : dc k23 150 (.return_) 1 := by decide +kernel
theorem d15_151 : dc k23 151 (.aload_n 0) 1 := by decide +kernel
theorem d15_152 : dc k23 152 (.iconst 0) 1 := by decide +kernel
theorem d15_153 : dc k23 153 (.putfield 180) 3 := by decide +kernel
theorem d15_156 : dc k23 156 (.return_) 1 := by decide +kernel
abbrev y15 : MethodName := ⟨"FatPointerC", "parseStmt", "()V"⟩
theorem hy15 : y15.cls ≠ "java/lang/invoke/MethodHandle" ∧ y15.cls ≠ "java/lang/invoke/VarHandle" := by decide
theorem pd15 : parseMethodDescriptor y15.desc = some ⟨[], none⟩ := by decide +kernel
abbrev R15 : Room := { frames := 8, cells := 0, slots := 0, locals := 104 }
abbrev P15 (r : St) : Option Value → List OwnC → Prop := fun v H' => v = none ∧ H' = (Hb 0 r)
abbrev W15 (l : Launch) (Z : State) (n0 : Nat) (Q : Option Value → List OwnC → Prop) (k n pc : Nat) (L : List Slot) (S : List Value) (H : List OwnC) : Prop := WP l Z CN lay "FatPointerC" "parseStmt" prog_1_method_28_code 2 (none) R15 n0 0 Q k n pc L S H
def f_parseStmt_21 (n : Nat) (s : St) : Option (St) :=
 lt (sI s 11 ((gI s 11) + (1 : Int32))) fun s1 =>
 (f_expect (11 : Int32) s1).bind fun c2 =>
 (f_parseExpr n c2).bind fun c3 =>
 (f_expect (12 : Int32) c3).bind fun c4 =>
 (f_expect (13 : Int32) c4).bind fun c5 =>
 some c5
theorem ok15_21 (l : Launch) (Z : State) (a0 : Array Value) (hw : HW a0 Z) (n0 n : Nat) (s r : St) (h : f_parseStmt_21 n s = some r) : W15 l Z n0 (P15 r) 0 0 21 (vR 0 :: vU :: []) [] (Hb 0 s) := by
 unfold f_parseStmt_21 at h
 refine WP.aloadN d15_21 rfl ?_
 refine WP.dup d15_22 rfl ?_
 refine WP.getfield (i := 0) (j := 26) d15_23 (hw _ m_119) rfl rfl rfl ?_
 refine WP.iconst (1 : Int32) d15_26 rfl ?_
 refine WP.iadd d15_27 ?_
 obtain ⟨s1, es1, h⟩ := lt_e h
 refine WP.putI (i := 0) (j := 26) (H' := (Hb 0 s1)) d15_28 (hw _ m_119) (Or.inl (hw _ m_120)) (hw _ m_1) (hlay hw) rfl rfl rfl (leb rfl) (by subst es1; rfl) ?_
 refine WP.aloadN d15_31 rfl ?_
 refine WP.bipush (11 : Int32) d15_32 rfl ?_
 obtain ⟨c2, hc2, h⟩ := bd h
 refine WP.callP (i := 0) (y := y6) (as := [.int (11 : Int32)]) (S := []) d15_34 (hw _ m_125) (hw _ m_127) (hw _ m_1) (hw _ m_126) (hw _ m_128) (hw _ m_2) hy6 rfl (ok6 l Z a0 hw (11 : Int32) s1 _ hc2) rfl (lenOf pd6 rfl) (leb rfl) (leb rfl) (leb rfl) (leb rfl) ?_
 rintro _ _ ⟨rfl, rfl⟩
 show W15 l Z n0 (P15 r) 0 0 37 (vR 0 :: vU :: []) [] (Hb 0 c2)
 refine WP.aloadN d15_37 rfl ?_
 obtain ⟨c3, hc3, h⟩ := bd h
 refine WP.callP (i := 0) (y := y19) (as := []) (S := []) d15_38 (hw _ m_179) (hw _ m_181) (hw _ m_1) (hw _ m_180) (hw _ m_182) (hw _ m_2) hy19 rfl (ok19 l Z a0 hw n c2 _ hc3) rfl (lenOf pd19 rfl) (leb rfl) (leb rfl) (leb rfl) (leb rfl) ?_
 rintro _ _ ⟨rfl, rfl⟩
 show W15 l Z n0 (P15 r) 0 0 41 (vR 0 :: vU :: []) [] (Hb 0 c3)
 refine WP.aloadN d15_41 rfl ?_
 refine WP.bipush (12 : Int32) d15_42 rfl ?_
 obtain ⟨c4, hc4, h⟩ := bd h
 refine WP.callP (i := 0) (y := y6) (as := [.int (12 : Int32)]) (S := []) d15_44 (hw _ m_125) (hw _ m_127) (hw _ m_1) (hw _ m_126) (hw _ m_128) (hw _ m_2) hy6 rfl (ok6 l Z a0 hw (12 : Int32) c3 _ hc4) rfl (lenOf pd6 rfl) (leb rfl) (leb rfl) (leb rfl) (leb rfl) ?_
 rintro _ _ ⟨rfl, rfl⟩
 show W15 l Z n0 (P15 r) 0 0 47 (vR 0 :: vU :: []) [] (Hb 0 c4)
 refine WP.aloadN d15_47 rfl ?_
 refine WP.bipush (13 : Int32) d15_48 rfl ?_
 obtain ⟨c5, hc5, h⟩ := bd h
 refine WP.callP (i := 0) (y := y6) (as := [.int (13 : Int32)]) (S := []) d15_50 (hw _ m_125) (hw _ m_127) (hw _ m_1) (hw _ m_126) (hw _ m_128) (hw _ m_2) hy6 rfl (ok6 l Z a0 hw (13 : Int32) c4 _ hc5) rfl (lenOf pd6 rfl) (leb rfl) (leb rfl) (leb rfl) (leb rfl) ?_
 rintro _ _ ⟨rfl, rfl⟩
 show W15 l Z n0 (P15 r) 0 0 53 (vR 0 :: vU :: []) [] (Hb 0 c5)
 cases h
 exact WP.vreturn d15_53 rfl (leb rfl) (leb rfl) ⟨rfl, rfl⟩
def f_parseStmt_130 (n : Nat) (s : St) : Option (St) :=
 lt (sI s 11 ((gI s 11) + (1 : Int32))) fun s1 =>
 (f_parseExpr n s1).bind fun c2 =>
 (f_expect (17 : Int32) c2).bind fun c3 =>
 some c3
theorem ok15_130 (l : Launch) (Z : State) (a0 : Array Value) (hw : HW a0 Z) (n0 n : Nat) (s r : St) (h : f_parseStmt_130 n s = some r) : W15 l Z n0 (P15 r) 0 0 130 (vR 0 :: vU :: []) [] (Hb 0 s) := by
 unfold f_parseStmt_130 at h
 refine WP.aloadN d15_130 rfl ?_
 refine WP.dup d15_131 rfl ?_
 refine WP.getfield (i := 0) (j := 26) d15_132 (hw _ m_119) rfl rfl rfl ?_
 refine WP.iconst (1 : Int32) d15_135 rfl ?_
 refine WP.iadd d15_136 ?_
 obtain ⟨s1, es1, h⟩ := lt_e h
 refine WP.putI (i := 0) (j := 26) (H' := (Hb 0 s1)) d15_137 (hw _ m_119) (Or.inl (hw _ m_120)) (hw _ m_1) (hlay hw) rfl rfl rfl (leb rfl) (by subst es1; rfl) ?_
 refine WP.aloadN d15_140 rfl ?_
 obtain ⟨c2, hc2, h⟩ := bd h
 refine WP.callP (i := 0) (y := y19) (as := []) (S := []) d15_141 (hw _ m_179) (hw _ m_181) (hw _ m_1) (hw _ m_180) (hw _ m_182) (hw _ m_2) hy19 rfl (ok19 l Z a0 hw n s1 _ hc2) rfl (lenOf pd19 rfl) (leb rfl) (leb rfl) (leb rfl) (leb rfl) ?_
 rintro _ _ ⟨rfl, rfl⟩
 show W15 l Z n0 (P15 r) 0 0 144 (vR 0 :: vU :: []) [] (Hb 0 c2)
 refine WP.aloadN d15_144 rfl ?_
 refine WP.bipush (17 : Int32) d15_145 rfl ?_
 obtain ⟨c3, hc3, h⟩ := bd h
 refine WP.callP (i := 0) (y := y6) (as := [.int (17 : Int32)]) (S := []) d15_147 (hw _ m_125) (hw _ m_127) (hw _ m_1) (hw _ m_126) (hw _ m_128) (hw _ m_2) hy6 rfl (ok6 l Z a0 hw (17 : Int32) c2 _ hc3) rfl (lenOf pd6 rfl) (leb rfl) (leb rfl) (leb rfl) (leb rfl) ?_
 rintro _ _ ⟨rfl, rfl⟩
 show W15 l Z n0 (P15 r) 0 0 150 (vR 0 :: vU :: []) [] (Hb 0 c3)
 cases h
 exact WP.vreturn d15_150 rfl (leb rfl) (leb rfl) ⟨rfl, rfl⟩
def f_parseStmt (n : Nat) (s : St) : Option (St) :=
 (f_kindAt (gI s 11) s).bind fun c1 =>
 if c1 = (7 : Int32) then
  f_parseStmt_21 n s
 else
  if c1 = (8 : Int32) then
   f_parseStmt_21 n s
  else
   if c1 = (2 : Int32) then
    (f_parseVarStmt n s).bind fun c5 =>
    some c5
   else
    if c1 = (22 : Int32) then
     lt (sI s 11 ((gI s 11) + (1 : Int32))) fun s7 =>
     (f_useVar s7).bind fun c8 =>
     (f_expect (19 : Int32) c8.2).bind fun c9 =>
     (f_parseExpr n c9).bind fun c10 =>
     (f_expect (17 : Int32) c10).bind fun c11 =>
     some c11
    else
     if c1 = (3 : Int32) then
      none
     else
      if c1 = (10 : Int32) then
       f_parseStmt_130 n s
      else
       if c1 = (9 : Int32) then
        f_parseStmt_130 n s
       else
        lt (sI s 12 (0 : Int32)) fun s15 =>
        some s15
theorem ok15 (l : Launch) (Z : State) (a0 : Array Value) (hw : HW a0 Z) (n : Nat) (s r : St) (h : f_parseStmt n s = some r) : CS l Z CN lay y15 prog_1_method_28_code 2 (none) R15 0 [.ref 0] (Hb 0 s) (P15 r) := by
 refine CS.of_wp pn_cls (leb rfl) fun n0 => ?_
 show W15 l Z n0 (P15 r) 0 0 0 (vR 0 :: vU :: []) [] (Hb 0 s)
 unfold f_parseStmt at h
 refine WP.aloadN d15_0 rfl ?_
 refine WP.aloadN d15_1 rfl ?_
 refine WP.getfield (i := 0) (j := 26) d15_2 (hw _ m_119) rfl rfl rfl ?_
 obtain ⟨c1, hc1, h⟩ := bd h
 refine WP.callP (i := 0) (y := y7) (as := [.int (gI s 11)]) (S := []) d15_5 (hw _ m_129) (hw _ m_131) (hw _ m_1) (hw _ m_130) (hw _ m_132) (hw _ m_2) hy7 rfl (ok7 l Z a0 hw (gI s 11) s _ hc1) rfl (lenOf pd7 rfl) (leb rfl) (leb rfl) (leb rfl) (leb rfl) ?_
 rintro _ _ ⟨rfl, rfl⟩
 show W15 l Z n0 (P15 r) 0 0 8 (vR 0 :: vU :: []) [.int c1] (Hb 0 s)
 refine WP.istoreN (L' := (vR 0 :: vI c1 :: [])) d15_8 (leb rfl) rfl ?_
 refine WP.iloadN d15_9 rfl ?_
 refine WP.bipush (7 : Int32) d15_10 rfl ?_
 rcases ite_e h with ⟨hc2, h⟩ | ⟨hc2, h⟩
 ·
  refine WP.icmpY (pc' := 21) d15_12 (XT.ii_eq_t hc2) (by decide) rfl ?_
  exact WP.weak (L' := (vR 0 :: vU :: [])) ⟨rfl, trivial⟩ (ok15_21 l Z a0 hw n0 n s _ h)
 ·
  refine WP.icmpN d15_12 (XT.ii_eq_f hc2) ?_
  refine WP.iloadN d15_15 rfl ?_
  refine WP.bipush (8 : Int32) d15_16 rfl ?_
  rcases ite_e h with ⟨hc3, h⟩ | ⟨hc3, h⟩
  ·
   refine WP.icmpN d15_18 (XT.ii_ne_f hc3) ?_
   exact WP.weak (L' := (vR 0 :: vU :: [])) ⟨rfl, trivial⟩ (ok15_21 l Z a0 hw n0 n s _ h)
  ·
   refine WP.icmpY (pc' := 54) d15_18 (XT.ii_ne_t hc3) (by decide) rfl ?_
   refine WP.iloadN d15_54 rfl ?_
   refine WP.iconst (2 : Int32) d15_55 rfl ?_
   rcases ite_e h with ⟨hc4, h⟩ | ⟨hc4, h⟩
   ·
    refine WP.icmpN d15_56 (XT.ii_ne_f hc4) ?_
    refine WP.aloadN d15_59 rfl ?_
    obtain ⟨c5, hc5, h⟩ := bd h
    refine WP.callP (i := 0) (y := y16) (as := []) (S := []) d15_60 (hw _ m_167) (hw _ m_169) (hw _ m_1) (hw _ m_168) (hw _ m_170) (hw _ m_2) hy16 rfl (ok16 l Z a0 hw n s _ hc5) rfl (lenOf pd16 rfl) (leb rfl) (leb rfl) (leb rfl) (leb rfl) ?_
    rintro _ _ ⟨rfl, rfl⟩
    show W15 l Z n0 (P15 r) 0 0 63 (vR 0 :: vI c1 :: []) [] (Hb 0 c5)
    cases h
    exact WP.vreturn d15_63 rfl (leb rfl) (leb rfl) ⟨rfl, rfl⟩
   ·
    refine WP.icmpY (pc' := 64) d15_56 (XT.ii_ne_t hc4) (by decide) rfl ?_
    refine WP.iloadN d15_64 rfl ?_
    refine WP.bipush (22 : Int32) d15_65 rfl ?_
    rcases ite_e h with ⟨hc6, h⟩ | ⟨hc6, h⟩
    ·
     refine WP.icmpN d15_67 (XT.ii_ne_f hc6) ?_
     refine WP.aloadN d15_70 rfl ?_
     refine WP.dup d15_71 rfl ?_
     refine WP.getfield (i := 0) (j := 26) d15_72 (hw _ m_119) rfl rfl rfl ?_
     refine WP.iconst (1 : Int32) d15_75 rfl ?_
     refine WP.iadd d15_76 ?_
     obtain ⟨s7, es7, h⟩ := lt_e h
     refine WP.putI (i := 0) (j := 26) (H' := (Hb 0 s7)) d15_77 (hw _ m_119) (Or.inl (hw _ m_120)) (hw _ m_1) (hlay hw) rfl rfl rfl (leb rfl) (by subst es7; rfl) ?_
     refine WP.aloadN d15_80 rfl ?_
     obtain ⟨c8, hc8, h⟩ := bd h
     refine WP.callP (i := 0) (y := y17) (as := []) (S := []) d15_81 (hw _ m_171) (hw _ m_173) (hw _ m_1) (hw _ m_172) (hw _ m_174) (hw _ m_2) hy17 rfl (ok17 l Z a0 hw s7 _ hc8) rfl (lenOf pd17 rfl) (leb rfl) (leb rfl) (leb rfl) (leb rfl) ?_
     rintro _ _ ⟨rfl, rfl⟩
     show W15 l Z n0 (P15 r) 0 0 84 (vR 0 :: vI c1 :: []) [.int c8.1] (Hb 0 c8.2)
     refine WP.pop d15_84 rfl ?_
     refine WP.aloadN d15_85 rfl ?_
     refine WP.bipush (19 : Int32) d15_86 rfl ?_
     obtain ⟨c9, hc9, h⟩ := bd h
     refine WP.callP (i := 0) (y := y6) (as := [.int (19 : Int32)]) (S := []) d15_88 (hw _ m_125) (hw _ m_127) (hw _ m_1) (hw _ m_126) (hw _ m_128) (hw _ m_2) hy6 rfl (ok6 l Z a0 hw (19 : Int32) c8.2 _ hc9) rfl (lenOf pd6 rfl) (leb rfl) (leb rfl) (leb rfl) (leb rfl) ?_
     rintro _ _ ⟨rfl, rfl⟩
     show W15 l Z n0 (P15 r) 0 0 91 (vR 0 :: vI c1 :: []) [] (Hb 0 c9)
     refine WP.aloadN d15_91 rfl ?_
     obtain ⟨c10, hc10, h⟩ := bd h
     refine WP.callP (i := 0) (y := y19) (as := []) (S := []) d15_92 (hw _ m_179) (hw _ m_181) (hw _ m_1) (hw _ m_180) (hw _ m_182) (hw _ m_2) hy19 rfl (ok19 l Z a0 hw n c9 _ hc10) rfl (lenOf pd19 rfl) (leb rfl) (leb rfl) (leb rfl) (leb rfl) ?_
     rintro _ _ ⟨rfl, rfl⟩
     show W15 l Z n0 (P15 r) 0 0 95 (vR 0 :: vI c1 :: []) [] (Hb 0 c10)
     refine WP.aloadN d15_95 rfl ?_
     refine WP.bipush (17 : Int32) d15_96 rfl ?_
     obtain ⟨c11, hc11, h⟩ := bd h
     refine WP.callP (i := 0) (y := y6) (as := [.int (17 : Int32)]) (S := []) d15_98 (hw _ m_125) (hw _ m_127) (hw _ m_1) (hw _ m_126) (hw _ m_128) (hw _ m_2) hy6 rfl (ok6 l Z a0 hw (17 : Int32) c10 _ hc11) rfl (lenOf pd6 rfl) (leb rfl) (leb rfl) (leb rfl) (leb rfl) ?_
     rintro _ _ ⟨rfl, rfl⟩
     show W15 l Z n0 (P15 r) 0 0 101 (vR 0 :: vI c1 :: []) [] (Hb 0 c11)
     cases h
     exact WP.vreturn d15_101 rfl (leb rfl) (leb rfl) ⟨rfl, rfl⟩
    ·
     refine WP.icmpY (pc' := 102) d15_67 (XT.ii_ne_t hc6) (by decide) rfl ?_
     refine WP.iloadN d15_102 rfl ?_
     refine WP.iconst (3 : Int32) d15_103 rfl ?_
     rcases ite_e h with ⟨hc12, h⟩ | ⟨hc12, h⟩
     ·
      refine WP.icmpN d15_104 (XT.ii_ne_f hc12) ?_
      refine WP.aloadN d15_107 rfl ?_
      cases h
     ·
      refine WP.icmpY (pc' := 118) d15_104 (XT.ii_ne_t hc12) (by decide) rfl ?_
      refine WP.iloadN d15_118 rfl ?_
      refine WP.bipush (10 : Int32) d15_119 rfl ?_
      rcases ite_e h with ⟨hc13, h⟩ | ⟨hc13, h⟩
      ·
       refine WP.icmpY (pc' := 130) d15_121 (XT.ii_eq_t hc13) (by decide) rfl ?_
       exact WP.weak (L' := (vR 0 :: vU :: [])) ⟨rfl, trivial⟩ (ok15_130 l Z a0 hw n0 n s _ h)
      ·
       refine WP.icmpN d15_121 (XT.ii_eq_f hc13) ?_
       refine WP.iloadN d15_124 rfl ?_
       refine WP.bipush (9 : Int32) d15_125 rfl ?_
       rcases ite_e h with ⟨hc14, h⟩ | ⟨hc14, h⟩
       ·
        refine WP.icmpN d15_127 (XT.ii_ne_f hc14) ?_
        exact WP.weak (L' := (vR 0 :: vU :: [])) ⟨rfl, trivial⟩ (ok15_130 l Z a0 hw n0 n s _ h)
       ·
        refine WP.icmpY (pc' := 151) d15_127 (XT.ii_ne_t hc14) (by decide) rfl ?_
        refine WP.aloadN d15_151 rfl ?_
        refine WP.iconst (0 : Int32) d15_152 rfl ?_
        obtain ⟨s15, es15, h⟩ := lt_e h
        refine WP.putZ (i := 0) (j := 27) (H' := (Hb 0 s15)) d15_153 (hw _ m_117) (Or.inl (hw _ m_118)) (hw _ m_1) (hlay hw) rfl rfl rfl (leb rfl) (by subst es15; rfl) ?_
        cases h
        exact WP.vreturn d15_156 rfl (leb rfl) (leb rfl) ⟨rfl, rfl⟩
theorem d14_0 : dc k22 0 (.iconst 0) 1 := by decide +kernel
theorem d14_1 : dc k22 1 (.istore_n 1) 1 := by decide +kernel
theorem d14_2 : dc k22 2 (.iconst 0) 1 := by decide +kernel
theorem d14_3 : dc k22 3 (.istore_n 2) 1 := by decide +kernel
theorem d14_4 : dc k22 4 (.iload_n 2) 1 := by decide +kernel
theorem d14_5 : dc k22 5 (.sipush 300) 3 := by decide +kernel
theorem d14_8 : dc k22 8 (.if_icmp .ge 160) 3 := by decide +kernel
theorem d14_11 : dc k22 11 (.aload_n 0) 1 := by decide +kernel
theorem d14_12 : dc k22 12 (.getfield 180) 3 := by decide +kernel
theorem d14_15 : dc k22 15 (.ifCond .eq 153) 3 := by decide +kernel
theorem d14_18 : dc k22 18 (.aload_n 0) 1 := by decide +kernel
theorem d14_19 : dc k22 19 (.aload_n 0) 1 := by decide +kernel
theorem d14_20 : dc k22 20 (.getfield 183) 3 := by decide +kernel
theorem d14_23 : dc k22 23 (.invokevirtual 192) 3 := by decide +kernel
theorem d14_26 : dc k22 26 (.istore_n 3) 1 := by decide +kernel
theorem d14_27 : dc k22 27 (.iload_n 3) 1 := by decide +kernel
theorem d14_28 : dc k22 28 (.bipush 14) 2 := by decide +kernel
theorem d14_30 : dc k22 30 (.if_icmp .ne 28) 3 := by decide +kernel
theorem d14_33 : dc k22 33 (.iload_n 1) 1 := by decide +kernel
theorem d14_34 : dc k22 34 (.ifCond .ne 24) 3 := by decide +kernel
theorem d14_37 : dc k22 37 (.aload_n 0) 1 := by decide +kernel
theorem d14_38 : dc k22 38 (.getfield 53) 3 := by decide +kernel
theorem d14_41 : dc k22 41 (.aload_n 0) 1 := by decide +kernel
theorem d14_42 : dc k22 42 (.getfield 183) 3 := by decide +kernel
theorem d14_45 : dc k22 45 (.iconst (-1)) 1 := by decide +kernel
theorem d14_46 : dc k22 46 (.iastore) 1 := by decide +kernel
theorem d14_47 : dc k22 47 (.aload_n 0) 1 := by decide +kernel
theorem d14_48 : dc k22 48 (.dup) 1 := by decide +kernel
theorem d14_49 : dc k22 49 (.getfield 183) 3 := by decide +kernel
theorem d14_52 : dc k22 52 (.iconst 1) 1 := by decide +kernel
theorem d14_53 : dc k22 53 (.iadd) 1 := by decide +kernel
theorem d14_54 : dc k22 54 (.putfield 183) 3 := by decide +kernel
theorem d14_57 : dc k22 57 (.return_) 1 := by decide +kernel
theorem d14_58 : dc k22 58 (.iload_n 3) 1 := by decide +kernel
theorem d14_59 : dc k22 59 (.bipush 14) 2 := by decide +kernel
theorem d14_61 : dc k22 61 (.if_icmp .ne 49) 3 := by decide +kernel
theorem d14_64 : dc k22 64 (.iinc 1 (-1)) 3 := by decide +kernel
theorem d14_67 : dc k22 67 (.aload_n 0) 1 := by decide +kernel
theorem d14_68 : dc k22 68 (.getfield 56) 3 := by decide +kernel
theorem d14_71 : dc k22 71 (.iload_n 1) 1 := by decide +kernel
theorem d14_72 : dc k22 72 (.iaload) 1 := by decide +kernel
theorem d14_73 : dc k22 73 (.istore 4) 2 := by decide +kernel
theorem d14_75 : dc k22 75 (.aload_n 0) 1 := by decide +kernel
theorem d14_76 : dc k22 76 (.getfield 50) 3 := by decide +kernel
theorem d14_79 : dc k22 79 (.iload 4) 2 := by decide +kernel
theorem d14_81 : dc k22 81 (.aload_n 0) 1 := by decide +kernel
theorem d14_82 : dc k22 82 (.getfield 183) 3 := by decide +kernel
theorem d14_85 : dc k22 85 (.iastore) 1 := by decide +kernel
theorem d14_86 : dc k22 86 (.aload_n 0) 1 := by decide +kernel
theorem d14_87 : dc k22 87 (.getfield 53) 3 := by decide +kernel
theorem d14_90 : dc k22 90 (.aload_n 0) 1 := by decide +kernel
theorem d14_91 : dc k22 91 (.getfield 183) 3 := by decide +kernel
theorem d14_94 : dc k22 94 (.iload 4) 2 := by decide +kernel
theorem d14_96 : dc k22 96 (.iastore) 1 := by decide +kernel
theorem d14_97 : dc k22 97 (.aload_n 0) 1 := by decide +kernel
theorem d14_98 : dc k22 98 (.dup) 1 := by decide +kernel
theorem d14_99 : dc k22 99 (.getfield 183) 3 := by decide +kernel
theorem d14_102 : dc k22 102 (.iconst 1) 1 := by decide +kernel
theorem d14_103 : dc k22 103 (.iadd) 1 := by decide +kernel
theorem d14_104 : dc k22 104 (.putfield 183) 3 := by decide +kernel
theorem d14_107 : dc k22 107 (.goto 55) 3 := by decide +kernel
theorem d14_110 : dc k22 110 (.iload_n 1) 1 := by decide +kernel
theorem d14_111 : dc k22 111 (.bipush 8) 2 := by decide +kernel
theorem d14_113 : dc k22 113 (.if_icmp .le 9) 3 := by decide +kernel
theorem d14_116 : dc k22 116 (.aload_n 0) 1 := by decide +kernel
theorem d14_117 : dc k22 117 (.iconst 0) 1 := by decide +kernel
theorem d14_118 : dc k22 118 (.putfield 180) 3 := by decide +kernel
theorem d14_121 : dc k22 121 (.return_) 1 := by decide +kernel
theorem d14_122 : dc k22 122 (.aload_n 0) 1 := by decide +kernel
theorem d14_123 : dc k22 123 (.getfield 183) 3 := by decide +kernel
theorem d14_126 : dc k22 126 (.istore 4) 2 := by decide +kernel
theorem d14_128 : dc k22 128 (.aload_n 0) 1 := by decide +kernel
theorem d14_129 : dc k22 129 (.invokevirtual 225) 3 := by decide +kernel
theorem d14_132 : dc k22 132 (.aload_n 0) 1 := by decide +kernel
theorem d14_133 : dc k22 133 (.getfield 180) 3 := by decide +kernel
theorem d14_136 : dc k22 136 (.ifCond .eq 26) 3 := by decide +kernel
theorem d14_139 : dc k22 139 (.iload_n 3) 1 := by decide +kernel
theorem d14_140 : dc k22 140 (.bipush 7) 2 := by decide +kernel
theorem d14_142 : dc k22 142 (.if_icmp .eq 9) 3 := by decide +kernel
theorem d14_145 : dc k22 145 (.iload_n 3) 1 := by decide +kernel
theorem d14_146 : dc k22 146 (.bipush 8) 2 := by decide +kernel
theorem d14_148 : dc k22 148 (.if_icmp .ne 14) 3 := by decide +kernel
theorem d14_151 : dc k22 151 (.aload_n 0) 1 := by decide +kernel
theorem d14_152 : dc k22 152 (.getfield 56) 3 := by decide +kernel
theorem d14_155 : dc k22 155 (.iload_n 1) 1 := by decide +kernel
theorem d14_156 : dc k22 156 (.iload 4) 2 := by decide +kernel
theorem d14_158 : dc k22 158 (.iastore) 1 := by decide +kernel
theorem d14_159 : dc k22 159 (.iinc 1 1) 3 := by decide +kernel
theorem d14_162 : dc k22 162 (.iinc 2 1) 3 := by decide +kernel
theorem d14_165 : dc k22 165 (.goto (-161)) 3 := by decide +kernel
theorem d14_168 : dc k22 168 (.aload_n 0) 1 := by decide +kernel
theorem d14_169 : dc k22 169 (.iconst 0) 1 := by decide +kernel
theorem d14_170 : dc k22 170 (.putfield 180) 3 := by decide +kernel
theorem d14_173 : dc k22 173 (.return_) 1 := by decide +kernel
abbrev y14 : MethodName := ⟨"FatPointerC", "parseBody", "()V"⟩
theorem hy14 : y14.cls ≠ "java/lang/invoke/MethodHandle" ∧ y14.cls ≠ "java/lang/invoke/VarHandle" := by decide
theorem pd14 : parseMethodDescriptor y14.desc = some ⟨[], none⟩ := by decide +kernel
abbrev R14 : Room := { frames := 9, cells := 0, slots := 0, locals := 117 }
abbrev P14 (r : St) : Option Value → List OwnC → Prop := fun v H' => v = none ∧ H' = (Hb 0 r)
abbrev W14 (l : Launch) (Z : State) (n0 : Nat) (Q : Option Value → List OwnC → Prop) (k n pc : Nat) (L : List Slot) (S : List Value) (H : List OwnC) : Prop := WP l Z CN lay "FatPointerC" "parseBody" prog_1_method_27_code 5 (none) R14 n0 0 Q k n pc L S H
def f_parseBody_162 (k4 : KT1) (n : Nat) (v1 v2 : Int32) (s : St) : Option (St) :=
 lt (v2 + (1 : Int32)) fun x1 =>
 k4 v1 x1 s
abbrev HK14_4 (l : Launch) (Z : State) (n0 : Nat) (k4 : KT1) : Prop := ∀ (v1 v2 : Int32) (s r : St), k4 v1 v2 s = some r → W14 l Z n0 (P14 r) 0 0 4 (vR 0 :: vI v1 :: vI v2 :: vU :: vU :: []) [] (Hb 0 s)
theorem ok14_162 (l : Launch) (Z : State) (a0 : Array Value) (hw : HW a0 Z) (n0 : Nat) (k4 : KT1) (hk4 : HK14_4 l Z n0 k4) (n : Nat) (v1 v2 : Int32) (s r : St) (h : f_parseBody_162 k4 n v1 v2 s = some r) : W14 l Z n0 (P14 r) 0 0 162 (vR 0 :: vI v1 :: vI v2 :: vU :: vU :: []) [] (Hb 0 s) := by
 unfold f_parseBody_162 at h
 obtain ⟨x1, ex1, h⟩ := lt_e h
 refine WP.iinc (L' := (vR 0 :: vI v1 :: vI x1 :: vU :: vU :: [])) (1 : Int32) d14_162 rfl rfl (by subst ex1; rfl) ?_
 refine WP.goto (pc' := 4) d14_165 (by decide) rfl ?_
 exact WP.weak (L' := (vR 0 :: vI v1 :: vI x1 :: vU :: vU :: [])) ⟨rfl, rfl, rfl, trivial⟩ (hk4 v1 x1 s _ h)
def f_parseBody_151 (k4 : KT1) (n : Nat) (v1 v2 v4 : Int32) (s : St) : Option (St) :=
 (wrA s 15 v1 v4).bind fun s1 =>
 lt (v1 + (1 : Int32)) fun x2 =>
 f_parseBody_162 k4 n x2 v2 s1
theorem ok14_151 (l : Launch) (Z : State) (a0 : Array Value) (hw : HW a0 Z) (n0 : Nat) (k4 : KT1) (hk4 : HK14_4 l Z n0 k4) (n : Nat) (v1 v2 v4 : Int32) (s r : St) (h : f_parseBody_151 k4 n v1 v2 v4 s = some r) : W14 l Z n0 (P14 r) 0 0 151 (vR 0 :: vI v1 :: vI v2 :: vU :: vI v4 :: []) [] (Hb 0 s) := by
 unfold f_parseBody_151 at h
 refine WP.aloadN d14_151 rfl ?_
 refine WP.getfield (i := 0) (j := 29) d14_152 (hw _ m_41) rfl rfl rfl ?_
 refine WP.iloadN d14_155 rfl ?_
 refine WP.iload d14_156 rfl ?_
 obtain ⟨s1, hs1, h⟩ := bd h
 obtain ⟨ys1, gs1, es1⟩ := wrA_e hs1
 refine WP.iastore (i := 16) (xs := gA s 15) (H' := (Hb 0 s1)) d14_158 rfl (leb rfl) gs1 (by subst es1; rfl) ?_
 obtain ⟨x2, ex2, h⟩ := lt_e h
 refine WP.iinc (L' := (vR 0 :: vI x2 :: vI v2 :: vU :: vI v4 :: [])) (1 : Int32) d14_159 rfl rfl (by subst ex2; rfl) ?_
 exact WP.weak (L' := (vR 0 :: vI x2 :: vI v2 :: vU :: vU :: [])) ⟨rfl, rfl, rfl, trivial⟩ (ok14_162 l Z a0 hw n0 _ hk4 n x2 v2 s1 _ h)
def f_parseBody_58 (k4 : KT1) (n : Nat) (v1 v2 v3 : Int32) (s : St) : Option (St) :=
 if v3 = (14 : Int32) then
  lt (v1 + (-1 : Int32)) fun x2 =>
  (rd (gA s 15) x2).bind fun x3 =>
  (wrA s 13 x3 (gI s 11)).bind fun s4 =>
  (wrA s4 14 (gI s4 11) x3).bind fun s5 =>
  lt (sI s5 11 ((gI s5 11) + (1 : Int32))) fun s6 =>
  f_parseBody_162 k4 n x2 v2 s6
 else
  if (8 : Int32) < v1 then
   lt (sI s 12 (0 : Int32)) fun s8 =>
   some s8
  else
   lt (gI s 11) fun x9 =>
   (f_parseStmt n s).bind fun c10 =>
   if (gI c10 12) = 0 then
    f_parseBody_162 k4 n v1 v2 c10
   else
    if v3 = (7 : Int32) then
     f_parseBody_151 k4 n v1 v2 x9 c10
    else
     if v3 = (8 : Int32) then
      f_parseBody_151 k4 n v1 v2 x9 c10
     else
      f_parseBody_162 k4 n v1 v2 c10
theorem ok14_58 (l : Launch) (Z : State) (a0 : Array Value) (hw : HW a0 Z) (n0 : Nat) (k4 : KT1) (hk4 : HK14_4 l Z n0 k4) (n : Nat) (v1 v2 v3 : Int32) (s r : St) (h : f_parseBody_58 k4 n v1 v2 v3 s = some r) : W14 l Z n0 (P14 r) 0 0 58 (vR 0 :: vI v1 :: vI v2 :: vI v3 :: vU :: []) [] (Hb 0 s) := by
 unfold f_parseBody_58 at h
 refine WP.iloadN d14_58 rfl ?_
 refine WP.bipush (14 : Int32) d14_59 rfl ?_
 rcases ite_e h with ⟨hc1, h⟩ | ⟨hc1, h⟩
 ·
  refine WP.icmpN d14_61 (XT.ii_ne_f hc1) ?_
  obtain ⟨x2, ex2, h⟩ := lt_e h
  refine WP.iinc (L' := (vR 0 :: vI x2 :: vI v2 :: vI v3 :: vU :: [])) (-1 : Int32) d14_64 rfl rfl (by subst ex2; rfl) ?_
  refine WP.aloadN d14_67 rfl ?_
  refine WP.getfield (i := 0) (j := 29) d14_68 (hw _ m_41) rfl rfl rfl ?_
  refine WP.iloadN d14_71 rfl ?_
  obtain ⟨x3, hx3, h⟩ := bd h
  refine WP.iaload (i := 16) d14_72 rfl hx3 ?_
  refine WP.istore (L' := (vR 0 :: vI x2 :: vI v2 :: vI v3 :: vI x3 :: [])) d14_73 (leb rfl) rfl ?_
  refine WP.aloadN d14_75 rfl ?_
  refine WP.getfield (i := 0) (j := 24) d14_76 (hw _ m_37) rfl rfl rfl ?_
  refine WP.iload d14_79 rfl ?_
  refine WP.aloadN d14_81 rfl ?_
  refine WP.getfield (i := 0) (j := 26) d14_82 (hw _ m_119) rfl rfl rfl ?_
  obtain ⟨s4, hs4, h⟩ := bd h
  obtain ⟨ys4, gs4, es4⟩ := wrA_e hs4
  refine WP.iastore (i := 14) (xs := gA s 13) (H' := (Hb 0 s4)) d14_85 rfl (leb rfl) gs4 (by subst es4; rfl) ?_
  refine WP.aloadN d14_86 rfl ?_
  refine WP.getfield (i := 0) (j := 25) d14_87 (hw _ m_39) rfl rfl rfl ?_
  refine WP.aloadN d14_90 rfl ?_
  refine WP.getfield (i := 0) (j := 26) d14_91 (hw _ m_119) rfl rfl rfl ?_
  refine WP.iload d14_94 rfl ?_
  obtain ⟨s5, hs5, h⟩ := bd h
  obtain ⟨ys5, gs5, es5⟩ := wrA_e hs5
  refine WP.iastore (i := 15) (xs := gA s4 14) (H' := (Hb 0 s5)) d14_96 rfl (leb rfl) gs5 (by subst es5; rfl) ?_
  refine WP.aloadN d14_97 rfl ?_
  refine WP.dup d14_98 rfl ?_
  refine WP.getfield (i := 0) (j := 26) d14_99 (hw _ m_119) rfl rfl rfl ?_
  refine WP.iconst (1 : Int32) d14_102 rfl ?_
  refine WP.iadd d14_103 ?_
  obtain ⟨s6, es6, h⟩ := lt_e h
  refine WP.putI (i := 0) (j := 26) (H' := (Hb 0 s6)) d14_104 (hw _ m_119) (Or.inl (hw _ m_120)) (hw _ m_1) (hlay hw) rfl rfl rfl (leb rfl) (by subst es6; rfl) ?_
  refine WP.goto (pc' := 162) d14_107 (by decide) rfl ?_
  exact WP.weak (L' := (vR 0 :: vI x2 :: vI v2 :: vU :: vU :: [])) ⟨rfl, rfl, rfl, trivial⟩ (ok14_162 l Z a0 hw n0 _ hk4 n x2 v2 s6 _ h)
 ·
  refine WP.icmpY (pc' := 110) d14_61 (XT.ii_ne_t hc1) (by decide) rfl ?_
  refine WP.iloadN d14_110 rfl ?_
  refine WP.bipush (8 : Int32) d14_111 rfl ?_
  rcases ite_e h with ⟨hc7, h⟩ | ⟨hc7, h⟩
  ·
   refine WP.icmpN d14_113 (XT.ii_le_f hc7) ?_
   refine WP.aloadN d14_116 rfl ?_
   refine WP.iconst (0 : Int32) d14_117 rfl ?_
   obtain ⟨s8, es8, h⟩ := lt_e h
   refine WP.putZ (i := 0) (j := 27) (H' := (Hb 0 s8)) d14_118 (hw _ m_117) (Or.inl (hw _ m_118)) (hw _ m_1) (hlay hw) rfl rfl rfl (leb rfl) (by subst es8; rfl) ?_
   cases h
   exact WP.vreturn d14_121 rfl (leb rfl) (leb rfl) ⟨rfl, rfl⟩
  ·
   refine WP.icmpY (pc' := 122) d14_113 (XT.ii_le_t hc7) (by decide) rfl ?_
   refine WP.aloadN d14_122 rfl ?_
   refine WP.getfield (i := 0) (j := 26) d14_123 (hw _ m_119) rfl rfl rfl ?_
   obtain ⟨x9, ex9, h⟩ := lt_e h
   refine WP.istore (L' := (vR 0 :: vI v1 :: vI v2 :: vI v3 :: vI x9 :: [])) d14_126 (leb rfl) (by subst ex9; rfl) ?_
   refine WP.aloadN d14_128 rfl ?_
   obtain ⟨c10, hc10, h⟩ := bd h
   refine WP.callP (i := 0) (y := y15) (as := []) (S := []) d14_129 (hw _ m_163) (hw _ m_165) (hw _ m_1) (hw _ m_164) (hw _ m_166) (hw _ m_2) hy15 rfl (ok15 l Z a0 hw n s _ hc10) rfl (lenOf pd15 rfl) (leb rfl) (leb rfl) (leb rfl) (leb rfl) ?_
   rintro _ _ ⟨rfl, rfl⟩
   show W14 l Z n0 (P14 r) 0 0 132 (vR 0 :: vI v1 :: vI v2 :: vI v3 :: vI x9 :: []) [] (Hb 0 c10)
   refine WP.aloadN d14_132 rfl ?_
   refine WP.getfield (i := 0) (j := 27) d14_133 (hw _ m_117) rfl rfl rfl ?_
   rcases ite_e h with ⟨hc11, h⟩ | ⟨hc11, h⟩
   ·
    refine WP.ifY (pc' := 162) d14_136 (XT.i0_eq_t hc11) (by decide) rfl ?_
    exact WP.weak (L' := (vR 0 :: vI v1 :: vI v2 :: vU :: vU :: [])) ⟨rfl, rfl, rfl, trivial⟩ (ok14_162 l Z a0 hw n0 _ hk4 n v1 v2 c10 _ h)
   ·
    refine WP.ifN d14_136 (XT.i0_eq_f hc11) ?_
    refine WP.iloadN d14_139 rfl ?_
    refine WP.bipush (7 : Int32) d14_140 rfl ?_
    rcases ite_e h with ⟨hc12, h⟩ | ⟨hc12, h⟩
    ·
     refine WP.icmpY (pc' := 151) d14_142 (XT.ii_eq_t hc12) (by decide) rfl ?_
     exact WP.weak (L' := (vR 0 :: vI v1 :: vI v2 :: vU :: vI x9 :: [])) ⟨rfl, rfl, rfl, rfl, trivial⟩ (ok14_151 l Z a0 hw n0 _ hk4 n v1 v2 x9 c10 _ h)
    ·
     refine WP.icmpN d14_142 (XT.ii_eq_f hc12) ?_
     refine WP.iloadN d14_145 rfl ?_
     refine WP.bipush (8 : Int32) d14_146 rfl ?_
     rcases ite_e h with ⟨hc13, h⟩ | ⟨hc13, h⟩
     ·
      refine WP.icmpN d14_148 (XT.ii_ne_f hc13) ?_
      exact WP.weak (L' := (vR 0 :: vI v1 :: vI v2 :: vU :: vI x9 :: [])) ⟨rfl, rfl, rfl, rfl, trivial⟩ (ok14_151 l Z a0 hw n0 _ hk4 n v1 v2 x9 c10 _ h)
     ·
      refine WP.icmpY (pc' := 162) d14_148 (XT.ii_ne_t hc13) (by decide) rfl ?_
      exact WP.weak (L' := (vR 0 :: vI v1 :: vI v2 :: vU :: vU :: [])) ⟨rfl, rfl, rfl, trivial⟩ (ok14_162 l Z a0 hw n0 _ hk4 n v1 v2 c10 _ h)
def f_parseBody_168 (n : Nat) (s : St) : Option (St) :=
 lt (sI s 12 (0 : Int32)) fun s1 =>
 some s1
theorem ok14_168 (l : Launch) (Z : State) (a0 : Array Value) (hw : HW a0 Z) (n0 n : Nat) (s r : St) (h : f_parseBody_168 n s = some r) : W14 l Z n0 (P14 r) 0 0 168 (vR 0 :: vU :: vU :: vU :: vU :: []) [] (Hb 0 s) := by
 unfold f_parseBody_168 at h
 refine WP.aloadN d14_168 rfl ?_
 refine WP.iconst (0 : Int32) d14_169 rfl ?_
 obtain ⟨s1, es1, h⟩ := lt_e h
 refine WP.putZ (i := 0) (j := 27) (H' := (Hb 0 s1)) d14_170 (hw _ m_117) (Or.inl (hw _ m_118)) (hw _ m_1) (hlay hw) rfl rfl rfl (leb rfl) (by subst es1; rfl) ?_
 cases h
 exact WP.vreturn d14_173 rfl (leb rfl) (leb rfl) ⟨rfl, rfl⟩
def g_parseBody_4 (k4 : KT1) (n : Nat) (v1 v2 : Int32) (s : St) : Option (St) :=
 if v2 < (300 : Int32) then
  if (gI s 12) = 0 then
   f_parseBody_168 n s
  else
   (f_kindAt (gI s 11) s).bind fun c3 =>
   if c3 = (14 : Int32) then
    if v1 = 0 then
     (wrA s 14 (gI s 11) (-1 : Int32)).bind fun s6 =>
     lt (sI s6 11 ((gI s6 11) + (1 : Int32))) fun s7 =>
     some s7
    else
     f_parseBody_58 k4 n v1 v2 c3 s
   else
    f_parseBody_58 k4 n v1 v2 c3 s
 else
  f_parseBody_168 n s
theorem okg14_4 (l : Launch) (Z : State) (a0 : Array Value) (hw : HW a0 Z) (n0 : Nat) (k4 : KT1) (hk4 : HK14_4 l Z n0 k4) (n : Nat) (v1 v2 : Int32) (s r : St) (h : g_parseBody_4 k4 n v1 v2 s = some r) : W14 l Z n0 (P14 r) 0 0 4 (vR 0 :: vI v1 :: vI v2 :: vU :: vU :: []) [] (Hb 0 s) := by
 unfold g_parseBody_4 at h
 refine WP.iloadN d14_4 rfl ?_
 refine WP.sipush (300 : Int32) d14_5 rfl ?_
 rcases ite_e h with ⟨hc1, h⟩ | ⟨hc1, h⟩
 ·
  refine WP.icmpN d14_8 (XT.ii_ge_f hc1) ?_
  refine WP.aloadN d14_11 rfl ?_
  refine WP.getfield (i := 0) (j := 27) d14_12 (hw _ m_117) rfl rfl rfl ?_
  rcases ite_e h with ⟨hc2, h⟩ | ⟨hc2, h⟩
  ·
   refine WP.ifY (pc' := 168) d14_15 (XT.i0_eq_t hc2) (by decide) rfl ?_
   exact WP.weak (L' := (vR 0 :: vU :: vU :: vU :: vU :: [])) ⟨rfl, trivial⟩ (ok14_168 l Z a0 hw n0 n s _ h)
  ·
   refine WP.ifN d14_15 (XT.i0_eq_f hc2) ?_
   refine WP.aloadN d14_18 rfl ?_
   refine WP.aloadN d14_19 rfl ?_
   refine WP.getfield (i := 0) (j := 26) d14_20 (hw _ m_119) rfl rfl rfl ?_
   obtain ⟨c3, hc3, h⟩ := bd h
   refine WP.callP (i := 0) (y := y7) (as := [.int (gI s 11)]) (S := []) d14_23 (hw _ m_129) (hw _ m_131) (hw _ m_1) (hw _ m_130) (hw _ m_132) (hw _ m_2) hy7 rfl (ok7 l Z a0 hw (gI s 11) s _ hc3) rfl (lenOf pd7 rfl) (leb rfl) (leb rfl) (leb rfl) (leb rfl) ?_
   rintro _ _ ⟨rfl, rfl⟩
   show W14 l Z n0 (P14 r) 0 0 26 (vR 0 :: vI v1 :: vI v2 :: vU :: vU :: []) [.int c3] (Hb 0 s)
   refine WP.istoreN (L' := (vR 0 :: vI v1 :: vI v2 :: vI c3 :: vU :: [])) d14_26 (leb rfl) rfl ?_
   refine WP.iloadN d14_27 rfl ?_
   refine WP.bipush (14 : Int32) d14_28 rfl ?_
   rcases ite_e h with ⟨hc4, h⟩ | ⟨hc4, h⟩
   ·
    refine WP.icmpN d14_30 (XT.ii_ne_f hc4) ?_
    refine WP.iloadN d14_33 rfl ?_
    rcases ite_e h with ⟨hc5, h⟩ | ⟨hc5, h⟩
    ·
     refine WP.ifN d14_34 (XT.i0_ne_f hc5) ?_
     refine WP.aloadN d14_37 rfl ?_
     refine WP.getfield (i := 0) (j := 25) d14_38 (hw _ m_39) rfl rfl rfl ?_
     refine WP.aloadN d14_41 rfl ?_
     refine WP.getfield (i := 0) (j := 26) d14_42 (hw _ m_119) rfl rfl rfl ?_
     refine WP.iconst (-1 : Int32) d14_45 rfl ?_
     obtain ⟨s6, hs6, h⟩ := bd h
     obtain ⟨ys6, gs6, es6⟩ := wrA_e hs6
     refine WP.iastore (i := 15) (xs := gA s 14) (H' := (Hb 0 s6)) d14_46 rfl (leb rfl) gs6 (by subst es6; rfl) ?_
     refine WP.aloadN d14_47 rfl ?_
     refine WP.dup d14_48 rfl ?_
     refine WP.getfield (i := 0) (j := 26) d14_49 (hw _ m_119) rfl rfl rfl ?_
     refine WP.iconst (1 : Int32) d14_52 rfl ?_
     refine WP.iadd d14_53 ?_
     obtain ⟨s7, es7, h⟩ := lt_e h
     refine WP.putI (i := 0) (j := 26) (H' := (Hb 0 s7)) d14_54 (hw _ m_119) (Or.inl (hw _ m_120)) (hw _ m_1) (hlay hw) rfl rfl rfl (leb rfl) (by subst es7; rfl) ?_
     cases h
     exact WP.vreturn d14_57 rfl (leb rfl) (leb rfl) ⟨rfl, rfl⟩
    ·
     refine WP.ifY (pc' := 58) d14_34 (XT.i0_ne_t hc5) (by decide) rfl ?_
     exact WP.weak (L' := (vR 0 :: vI v1 :: vI v2 :: vI c3 :: vU :: [])) ⟨rfl, rfl, rfl, rfl, trivial⟩ (ok14_58 l Z a0 hw n0 _ hk4 n v1 v2 c3 s _ h)
   ·
    refine WP.icmpY (pc' := 58) d14_30 (XT.ii_ne_t hc4) (by decide) rfl ?_
    exact WP.weak (L' := (vR 0 :: vI v1 :: vI v2 :: vI c3 :: vU :: [])) ⟨rfl, rfl, rfl, rfl, trivial⟩ (ok14_58 l Z a0 hw n0 _ hk4 n v1 v2 c3 s _ h)
 ·
  refine WP.icmpY (pc' := 168) d14_8 (XT.ii_ge_t hc1) (by decide) rfl ?_
  exact WP.weak (L' := (vR 0 :: vU :: vU :: vU :: vU :: [])) ⟨rfl, trivial⟩ (ok14_168 l Z a0 hw n0 n s _ h)
def f_parseBody_4 : Nat → Int32 → Int32 → St → Option (St)
 | 0 => fun _ _ _ => none
 | n + 1 => g_parseBody_4 (f_parseBody_4 n) n
theorem ok14_4 (l : Launch) (Z : State) (a0 : Array Value) (hw : HW a0 Z) (n0 : Nat) : ∀ (n : Nat) (v1 v2 : Int32) (s r : St), f_parseBody_4 n v1 v2 s = some r → W14 l Z n0 (P14 r) 0 0 4 (vR 0 :: vI v1 :: vI v2 :: vU :: vU :: []) [] (Hb 0 s)
 | 0, v1, v2, s, r, h => nomatch (show none = some r from h)
 | n + 1, v1, v2, s, r, h => okg14_4 l Z a0 hw n0 _ (ok14_4 l Z a0 hw n0 n) n v1 v2 s r h
def f_parseBody (n : Nat) (s : St) : Option (St) :=
 f_parseBody_4 n (0 : Int32) (0 : Int32) s
theorem ok14 (l : Launch) (Z : State) (a0 : Array Value) (hw : HW a0 Z) (n : Nat) (s r : St) (h : f_parseBody n s = some r) : CS l Z CN lay y14 prog_1_method_27_code 5 (none) R14 0 [.ref 0] (Hb 0 s) (P14 r) := by
 refine CS.of_wp pn_cls (leb rfl) fun n0 => ?_
 show W14 l Z n0 (P14 r) 0 0 0 (vR 0 :: vU :: vU :: vU :: vU :: []) [] (Hb 0 s)
 unfold f_parseBody at h
 refine WP.iconst (0 : Int32) d14_0 rfl ?_
 refine WP.istoreN (L' := (vR 0 :: vI (0 : Int32) :: vU :: vU :: vU :: [])) d14_1 (leb rfl) rfl ?_
 refine WP.iconst (0 : Int32) d14_2 rfl ?_
 refine WP.istoreN (L' := (vR 0 :: vI (0 : Int32) :: vI (0 : Int32) :: vU :: vU :: [])) d14_3 (leb rfl) rfl ?_
 exact WP.weak (L' := (vR 0 :: vI (0 : Int32) :: vI (0 : Int32) :: vU :: vU :: [])) ⟨rfl, rfl, rfl, trivial⟩ (ok14_4 l Z a0 hw n0 n (0 : Int32) (0 : Int32) s _ h)
theorem d5_0 : dc k16 0 (.aload_n 0) 1 := by decide +kernel
theorem d5_1 : dc k16 1 (.iconst 4) 1 := by decide +kernel
theorem d5_2 : dc k16 2 (.invokevirtual 195) 3 := by decide +kernel
theorem d5_5 : dc k16 5 (.aload_n 0) 1 := by decide +kernel
theorem d5_6 : dc k16 6 (.getfield 180) 3 := by decide +kernel
theorem d5_9 : dc k16 9 (.ifCond .eq 15) 3 := by decide +kernel
theorem d5_12 : dc k16 12 (.aload_n 0) 1 := by decide +kernel
theorem d5_13 : dc k16 13 (.aload_n 0) 1 := by decide +kernel
theorem d5_14 : dc k16 14 (.getfield 183) 3 := by decide +kernel
theorem d5_17 : dc k16 17 (.invokevirtual 192) 3 := by decide +kernel
theorem d5_20 : dc k16 20 (.iconst 3) 1 := by decide +kernel
theorem d5_21 : dc k16 21 (.if_icmp .eq 9) 3 := by decide +kernel
theorem d5_24 : dc k16 24 (.aload_n 0) 1 := by decide +kernel
theorem d5_25 : dc k16 25 (.iconst 0) 1 := by decide +kernel
theorem d5_26 : dc k16 26 (.putfield 180) 3 := by decide +kernel
theorem d5_29 : dc k16 29 (.return_) 1 := by decide +kernel
theorem d5_30 : dc k16 30 (.aload_n 0) 1 := by decide +kernel
theorem d5_31 : dc k16 31 (.aload_n 0) 1 := by decide +kernel
theorem d5_32 : dc k16 32 (.getfield 183) 3 := by decide +kernel
theorem d5_35 : dc k16 35 (.invokevirtual 199) 3 := by decide +kernel
theorem d5_38 : dc k16 38 (.iconst 3) 1 := by decide +kernel
theorem d5_39 : dc k16 39 (.iand) 1 := by decide +kernel
theorem d5_40 : dc k16 40 (.istore_n 1) 1 := by decide +kernel
theorem d5_41 : dc k16 41 (.aload_n 0) 1 := by decide +kernel
theorem d5_42 : dc k16 42 (.getfield 19) 3 := by decide +kernel
theorem d5_45 : dc k16 45 (.iload_n 1) 1 := by decide +kernel
theorem d5_46 : dc k16 46 (.baload) 1 := by decide +kernel
theorem d5_47 : dc k16 47 (.ifCond .eq 9) 3 := by decide +kernel
theorem d5_50 : dc k16 50 (.aload_n 0) 1 := by decide +kernel
theorem d5_51 : dc k16 51 (.iconst 0) 1 := by decide +kernel
theorem d5_52 : dc k16 52 (.putfield 180) 3 := by decide +kernel
theorem d5_55 : dc k16 55 (.return_) 1 := by decide +kernel
theorem d5_56 : dc k16 56 (.aload_n 0) 1 := by decide +kernel
theorem d5_57 : dc k16 57 (.getfield 19) 3 := by decide +kernel
theorem d5_60 : dc k16 60 (.iload_n 1) 1 := by decide +kernel
theorem d5_61 : dc k16 61 (.iconst 1) 1 := by decide +kernel
theorem d5_62 : dc k16 62 (.bastore) 1 := by decide +kernel
theorem d5_63 : dc k16 63 (.aload_n 0) 1 := by decide +kernel
theorem d5_64 : dc k16 64 (.getfield 23) 3 := by decide +kernel
theorem d5_67 : dc k16 67 (.iload_n 1) 1 := by decide +kernel
theorem d5_68 : dc k16 68 (.aload_n 0) 1 := by decide +kernel
theorem d5_69 : dc k16 69 (.getfield 183) 3 := by decide +kernel
theorem d5_72 : dc k16 72 (.iastore) 1 := by decide +kernel
theorem d5_73 : dc k16 73 (.aload_n 0) 1 := by decide +kernel
theorem d5_74 : dc k16 74 (.iload_n 1) 1 := by decide +kernel
theorem d5_75 : dc k16 75 (.putfield 202) 3 := by decide +kernel
theorem d5_78 : dc k16 78 (.aload_n 0) 1 := by decide +kernel
theorem d5_79 : dc k16 79 (.dup) 1 := by decide +kernel
theorem d5_80 : dc k16 80 (.getfield 183) 3 := by decide +kernel
theorem d5_83 : dc k16 83 (.iconst 1) 1 := by decide +kernel
theorem d5_84 : dc k16 84 (.iadd) 1 := by decide +kernel
theorem d5_85 : dc k16 85 (.putfield 183) 3 := by decide +kernel
theorem d5_88 : dc k16 88 (.iconst 0) 1 := by decide +kernel
theorem d5_89 : dc k16 89 (.istore_n 2) 1 := by decide +kernel
theorem d5_90 : dc k16 90 (.iload_n 2) 1 := by decide +kernel
theorem d5_91 : dc k16 91 (.bipush 8) 2 := by decide +kernel
theorem d5_93 : dc k16 93 (.if_icmp .ge 33) 3 := by decide +kernel
theorem d5_96 : dc k16 96 (.aload_n 0) 1 := by decide +kernel
theorem d5_97 : dc k16 97 (.getfield 38) 3 := by decide +kernel
theorem d5_100 : dc k16 100 (.iload_n 1) 1 := by decide +kernel
theorem d5_101 : dc k16 101 (.bipush 8) 2 := by decide +kernel
theorem d5_103 : dc k16 103 (.imul) 1 := by decide +kernel
theorem d5_104 : dc k16 104 (.iload_n 2) 1 := by decide +kernel
theorem d5_105 : dc k16 105 (.iadd) 1 := by decide +kernel
theorem d5_106 : dc k16 106 (.iconst (-1)) 1 := by decide +kernel
theorem d5_107 : dc k16 107 (.iastore) 1 := by decide +kernel
theorem d5_108 : dc k16 108 (.aload_n 0) 1 := by decide +kernel
theorem d5_109 : dc k16 109 (.getfield 41) 3 := by decide +kernel
theorem d5_112 : dc k16 112 (.iload_n 1) 1 := by decide +kernel
theorem d5_113 : dc k16 113 (.bipush 8) 2 := by decide +kernel
theorem d5_115 : dc k16 115 (.imul) 1 := by decide +kernel
theorem d5_116 : dc k16 116 (.iload_n 2) 1 := by decide +kernel
theorem d5_117 : dc k16 117 (.iadd) 1 := by decide +kernel
theorem d5_118 : dc k16 118 (.iconst 0) 1 := by decide +kernel
theorem d5_119 : dc k16 119 (.bastore) 1 := by decide +kernel
theorem d5_120 : dc k16 120 (.iinc 2 1) 3 := by decide +kernel
theorem d5_123 : dc k16 123 (.goto (-33)) 3 := by decide +kernel
theorem d5_126 : dc k16 126 (.aload_n 0) 1 := by decide +kernel
theorem d5_127 : dc k16 127 (.bipush 11) 2 := by decide +kernel
theorem d5_129 : dc k16 129 (.invokevirtual 195) 3 := by decide +kernel
theorem d5_132 : dc k16 132 (.aload_n 0) 1 := by decide +kernel
theorem d5_133 : dc k16 133 (.invokevirtual 205) 3 := by decide +kernel
theorem d5_136 : dc k16 136 (.aload_n 0) 1 := by decide +kernel
theorem d5_137 : dc k16 137 (.bipush 12) 2 := by decide +kernel
theorem d5_139 : dc k16 139 (.invokevirtual 195) 3 := by decide +kernel
theorem d5_142 : dc k16 142 (.aload_n 0) 1 := by decide +kernel
theorem d5_143 : dc k16 143 (.bipush 13) 2 := by decide +kernel
theorem d5_145 : dc k16 145 (.invokevirtual 195) 3 := by decide +kernel
theorem d5_148 : dc k16 148 (.aload_n 0) 1 := by decide +kernel
theorem d5_149 : dc k16 149 (.invokevirtual 208) 3 := by decide +kernel
theorem d5_152 : dc k16 152 (.aload_n 0) 1 := by decide +kernel
theorem d5_153 : dc k16 153 (.getfield 35) 3 := by decide +kernel
theorem d5_156 : dc k16 156 (.iload_n 1) 1 := by decide +kernel
theorem d5_157 : dc k16 157 (.aload_n 0) 1 := by decide +kernel
theorem d5_158 : dc k16 158 (.getfield 183) 3 := by decide +kernel
theorem d5_161 : dc k16 161 (.iastore) 1 := by decide +kernel
theorem d5_162 : dc k16 162 (.aload_n 0) 1 := by decide +kernel
theorem d5_163 : dc k16 163 (.invokevirtual 211) 3 := by decide +kernel
theorem d5_166 : dc k16 166 (.return_) 1 := by decide +kernel
abbrev y5 : MethodName := ⟨"FatPointerC", "parseFunc", "()V"⟩
theorem hy5 : y5.cls ≠ "java/lang/invoke/MethodHandle" ∧ y5.cls ≠ "java/lang/invoke/VarHandle" := by decide
theorem pd5 : parseMethodDescriptor y5.desc = some ⟨[], none⟩ := by decide +kernel
abbrev R5 : Room := { frames := 10, cells := 0, slots := 0, locals := 133 }
abbrev P5 (r : St) : Option Value → List OwnC → Prop := fun v H' => v = none ∧ H' = (Hb 0 r)
abbrev W5 (l : Launch) (Z : State) (n0 : Nat) (Q : Option Value → List OwnC → Prop) (k n pc : Nat) (L : List Slot) (S : List Value) (H : List OwnC) : Prop := WP l Z CN lay "FatPointerC" "parseFunc" prog_1_method_21_code 3 (none) R5 n0 0 Q k n pc L S H
def f_parseFunc_24 (n : Nat) (s : St) : Option (St) :=
 lt (sI s 12 (0 : Int32)) fun s1 =>
 some s1
theorem ok5_24 (l : Launch) (Z : State) (a0 : Array Value) (hw : HW a0 Z) (n0 n : Nat) (s r : St) (h : f_parseFunc_24 n s = some r) : W5 l Z n0 (P5 r) 0 0 24 (vR 0 :: vU :: vU :: []) [] (Hb 0 s) := by
 unfold f_parseFunc_24 at h
 refine WP.aloadN d5_24 rfl ?_
 refine WP.iconst (0 : Int32) d5_25 rfl ?_
 obtain ⟨s1, es1, h⟩ := lt_e h
 refine WP.putZ (i := 0) (j := 27) (H' := (Hb 0 s1)) d5_26 (hw _ m_117) (Or.inl (hw _ m_118)) (hw _ m_1) (hlay hw) rfl rfl rfl (leb rfl) (by subst es1; rfl) ?_
 cases h
 exact WP.vreturn d5_29 rfl (leb rfl) (leb rfl) ⟨rfl, rfl⟩
def g_parseFunc_90 (k90 : KT1) (n : Nat) (v1 v2 : Int32) (s : St) : Option (St) :=
 if v2 < (8 : Int32) then
  (wrA s 9 ((v1 * (8 : Int32)) + v2) (-1 : Int32)).bind fun s2 =>
  (wrA s2 10 ((v1 * (8 : Int32)) + v2) (0 : Int32)).bind fun s3 =>
  lt (v2 + (1 : Int32)) fun x4 =>
  k90 v1 x4 s3
 else
  (f_expect (11 : Int32) s).bind fun c5 =>
  (f_parseParams n c5).bind fun c6 =>
  (f_expect (12 : Int32) c6).bind fun c7 =>
  (f_expect (13 : Int32) c7).bind fun c8 =>
  (f_parseDecls n c8).bind fun c9 =>
  (wrA c9 8 v1 (gI c9 11)).bind fun s10 =>
  (f_parseBody n s10).bind fun c11 =>
  some c11
abbrev HK5_90 (l : Launch) (Z : State) (n0 : Nat) (k90 : KT1) : Prop := ∀ (v1 v2 : Int32) (s r : St), k90 v1 v2 s = some r → W5 l Z n0 (P5 r) 0 0 90 (vR 0 :: vI v1 :: vI v2 :: []) [] (Hb 0 s)
theorem okg5_90 (l : Launch) (Z : State) (a0 : Array Value) (hw : HW a0 Z) (n0 : Nat) (k90 : KT1) (hk90 : HK5_90 l Z n0 k90) (n : Nat) (v1 v2 : Int32) (s r : St) (h : g_parseFunc_90 k90 n v1 v2 s = some r) : W5 l Z n0 (P5 r) 0 0 90 (vR 0 :: vI v1 :: vI v2 :: []) [] (Hb 0 s) := by
 unfold g_parseFunc_90 at h
 refine WP.iloadN d5_90 rfl ?_
 refine WP.bipush (8 : Int32) d5_91 rfl ?_
 rcases ite_e h with ⟨hc1, h⟩ | ⟨hc1, h⟩
 ·
  refine WP.icmpN d5_93 (XT.ii_ge_f hc1) ?_
  refine WP.aloadN d5_96 rfl ?_
  refine WP.getfield (i := 0) (j := 20) d5_97 (hw _ m_29) rfl rfl rfl ?_
  refine WP.iloadN d5_100 rfl ?_
  refine WP.bipush (8 : Int32) d5_101 rfl ?_
  refine WP.imul d5_103 ?_
  refine WP.iloadN d5_104 rfl ?_
  refine WP.iadd d5_105 ?_
  refine WP.iconst (-1 : Int32) d5_106 rfl ?_
  obtain ⟨s2, hs2, h⟩ := bd h
  obtain ⟨ys2, gs2, es2⟩ := wrA_e hs2
  refine WP.iastore (i := 10) (xs := gA s 9) (H' := (Hb 0 s2)) d5_107 rfl (leb rfl) gs2 (by subst es2; rfl) ?_
  refine WP.aloadN d5_108 rfl ?_
  refine WP.getfield (i := 0) (j := 21) d5_109 (hw _ m_31) rfl rfl rfl ?_
  refine WP.iloadN d5_112 rfl ?_
  refine WP.bipush (8 : Int32) d5_113 rfl ?_
  refine WP.imul d5_115 ?_
  refine WP.iloadN d5_116 rfl ?_
  refine WP.iadd d5_117 ?_
  refine WP.iconst (0 : Int32) d5_118 rfl ?_
  obtain ⟨s3, hs3, h⟩ := bd h
  obtain ⟨ys3, gs3, es3⟩ := wrA_e hs3
  refine WP.bastore (i := 11) (xs := gA s2 10) (H' := (Hb 0 s3)) d5_119 rfl (leb rfl) gs3 (by subst es3; rfl) ?_
  obtain ⟨x4, ex4, h⟩ := lt_e h
  refine WP.iinc (L' := (vR 0 :: vI v1 :: vI x4 :: [])) (1 : Int32) d5_120 rfl rfl (by subst ex4; rfl) ?_
  refine WP.goto (pc' := 90) d5_123 (by decide) rfl ?_
  exact WP.weak (L' := (vR 0 :: vI v1 :: vI x4 :: [])) ⟨rfl, rfl, rfl, trivial⟩ (hk90 v1 x4 s3 _ h)
 ·
  refine WP.icmpY (pc' := 126) d5_93 (XT.ii_ge_t hc1) (by decide) rfl ?_
  refine WP.aloadN d5_126 rfl ?_
  refine WP.bipush (11 : Int32) d5_127 rfl ?_
  obtain ⟨c5, hc5, h⟩ := bd h
  refine WP.callP (i := 0) (y := y6) (as := [.int (11 : Int32)]) (S := []) d5_129 (hw _ m_125) (hw _ m_127) (hw _ m_1) (hw _ m_126) (hw _ m_128) (hw _ m_2) hy6 rfl (ok6 l Z a0 hw (11 : Int32) s _ hc5) rfl (lenOf pd6 rfl) (leb rfl) (leb rfl) (leb rfl) (leb rfl) ?_
  rintro _ _ ⟨rfl, rfl⟩
  show W5 l Z n0 (P5 r) 0 0 132 (vR 0 :: vI v1 :: vI v2 :: []) [] (Hb 0 c5)
  refine WP.aloadN d5_132 rfl ?_
  obtain ⟨c6, hc6, h⟩ := bd h
  refine WP.callP (i := 0) (y := y9) (as := []) (S := []) d5_133 (hw _ m_139) (hw _ m_141) (hw _ m_1) (hw _ m_140) (hw _ m_142) (hw _ m_2) hy9 rfl (ok9 l Z a0 hw n c5 _ hc6) rfl (lenOf pd9 rfl) (leb rfl) (leb rfl) (leb rfl) (leb rfl) ?_
  rintro _ _ ⟨rfl, rfl⟩
  show W5 l Z n0 (P5 r) 0 0 136 (vR 0 :: vI v1 :: vI v2 :: []) [] (Hb 0 c6)
  refine WP.aloadN d5_136 rfl ?_
  refine WP.bipush (12 : Int32) d5_137 rfl ?_
  obtain ⟨c7, hc7, h⟩ := bd h
  refine WP.callP (i := 0) (y := y6) (as := [.int (12 : Int32)]) (S := []) d5_139 (hw _ m_125) (hw _ m_127) (hw _ m_1) (hw _ m_126) (hw _ m_128) (hw _ m_2) hy6 rfl (ok6 l Z a0 hw (12 : Int32) c6 _ hc7) rfl (lenOf pd6 rfl) (leb rfl) (leb rfl) (leb rfl) (leb rfl) ?_
  rintro _ _ ⟨rfl, rfl⟩
  show W5 l Z n0 (P5 r) 0 0 142 (vR 0 :: vI v1 :: vI v2 :: []) [] (Hb 0 c7)
  refine WP.aloadN d5_142 rfl ?_
  refine WP.bipush (13 : Int32) d5_143 rfl ?_
  obtain ⟨c8, hc8, h⟩ := bd h
  refine WP.callP (i := 0) (y := y6) (as := [.int (13 : Int32)]) (S := []) d5_145 (hw _ m_125) (hw _ m_127) (hw _ m_1) (hw _ m_126) (hw _ m_128) (hw _ m_2) hy6 rfl (ok6 l Z a0 hw (13 : Int32) c7 _ hc8) rfl (lenOf pd6 rfl) (leb rfl) (leb rfl) (leb rfl) (leb rfl) ?_
  rintro _ _ ⟨rfl, rfl⟩
  show W5 l Z n0 (P5 r) 0 0 148 (vR 0 :: vI v1 :: vI v2 :: []) [] (Hb 0 c8)
  refine WP.aloadN d5_148 rfl ?_
  obtain ⟨c9, hc9, h⟩ := bd h
  refine WP.callP (i := 0) (y := y10) (as := []) (S := []) d5_149 (hw _ m_143) (hw _ m_145) (hw _ m_1) (hw _ m_144) (hw _ m_146) (hw _ m_2) hy10 rfl (ok10 l Z a0 hw n c8 _ hc9) rfl (lenOf pd10 rfl) (leb rfl) (leb rfl) (leb rfl) (leb rfl) ?_
  rintro _ _ ⟨rfl, rfl⟩
  show W5 l Z n0 (P5 r) 0 0 152 (vR 0 :: vI v1 :: vI v2 :: []) [] (Hb 0 c9)
  refine WP.aloadN d5_152 rfl ?_
  refine WP.getfield (i := 0) (j := 19) d5_153 (hw _ m_27) rfl rfl rfl ?_
  refine WP.iloadN d5_156 rfl ?_
  refine WP.aloadN d5_157 rfl ?_
  refine WP.getfield (i := 0) (j := 26) d5_158 (hw _ m_119) rfl rfl rfl ?_
  obtain ⟨s10, hs10, h⟩ := bd h
  obtain ⟨ys10, gs10, es10⟩ := wrA_e hs10
  refine WP.iastore (i := 9) (xs := gA c9 8) (H' := (Hb 0 s10)) d5_161 rfl (leb rfl) gs10 (by subst es10; rfl) ?_
  refine WP.aloadN d5_162 rfl ?_
  obtain ⟨c11, hc11, h⟩ := bd h
  refine WP.callP (i := 0) (y := y14) (as := []) (S := []) d5_163 (hw _ m_159) (hw _ m_161) (hw _ m_1) (hw _ m_160) (hw _ m_162) (hw _ m_2) hy14 rfl (ok14 l Z a0 hw n s10 _ hc11) rfl (lenOf pd14 rfl) (leb rfl) (leb rfl) (leb rfl) (leb rfl) ?_
  rintro _ _ ⟨rfl, rfl⟩
  show W5 l Z n0 (P5 r) 0 0 166 (vR 0 :: vI v1 :: vI v2 :: []) [] (Hb 0 c11)
  cases h
  exact WP.vreturn d5_166 rfl (leb rfl) (leb rfl) ⟨rfl, rfl⟩
def f_parseFunc_90 : Nat → Int32 → Int32 → St → Option (St)
 | 0 => fun _ _ _ => none
 | n + 1 => g_parseFunc_90 (f_parseFunc_90 n) n
theorem ok5_90 (l : Launch) (Z : State) (a0 : Array Value) (hw : HW a0 Z) (n0 : Nat) : ∀ (n : Nat) (v1 v2 : Int32) (s r : St), f_parseFunc_90 n v1 v2 s = some r → W5 l Z n0 (P5 r) 0 0 90 (vR 0 :: vI v1 :: vI v2 :: []) [] (Hb 0 s)
 | 0, v1, v2, s, r, h => nomatch (show none = some r from h)
 | n + 1, v1, v2, s, r, h => okg5_90 l Z a0 hw n0 _ (ok5_90 l Z a0 hw n0 n) n v1 v2 s r h
def f_parseFunc (n : Nat) (s : St) : Option (St) :=
 (f_expect (4 : Int32) s).bind fun c1 =>
 if (gI c1 12) = 0 then
  f_parseFunc_24 n c1
 else
  (f_kindAt (gI c1 11) c1).bind fun c3 =>
  if c3 = (3 : Int32) then
   (f_valAt (gI c1 11) c1).bind fun c5 =>
   lt (c5 &&& (3 : Int32)) fun x6 =>
   (rd (gA c1 3) x6).bind fun x7 =>
   if x7 = 0 then
    (wrA c1 3 x6 (1 : Int32)).bind fun s9 =>
    (wrA s9 4 x6 (gI s9 11)).bind fun s10 =>
    lt (sI s10 13 x6) fun s11 =>
    lt (sI s11 11 ((gI s11 11) + (1 : Int32))) fun s12 =>
    f_parseFunc_90 n x6 (0 : Int32) s12
   else
    lt (sI c1 12 (0 : Int32)) fun s13 =>
    some s13
  else
   f_parseFunc_24 n c1
theorem ok5 (l : Launch) (Z : State) (a0 : Array Value) (hw : HW a0 Z) (n : Nat) (s r : St) (h : f_parseFunc n s = some r) : CS l Z CN lay y5 prog_1_method_21_code 3 (none) R5 0 [.ref 0] (Hb 0 s) (P5 r) := by
 refine CS.of_wp pn_cls (leb rfl) fun n0 => ?_
 show W5 l Z n0 (P5 r) 0 0 0 (vR 0 :: vU :: vU :: []) [] (Hb 0 s)
 unfold f_parseFunc at h
 refine WP.aloadN d5_0 rfl ?_
 refine WP.iconst (4 : Int32) d5_1 rfl ?_
 obtain ⟨c1, hc1, h⟩ := bd h
 refine WP.callP (i := 0) (y := y6) (as := [.int (4 : Int32)]) (S := []) d5_2 (hw _ m_125) (hw _ m_127) (hw _ m_1) (hw _ m_126) (hw _ m_128) (hw _ m_2) hy6 rfl (ok6 l Z a0 hw (4 : Int32) s _ hc1) rfl (lenOf pd6 rfl) (leb rfl) (leb rfl) (leb rfl) (leb rfl) ?_
 rintro _ _ ⟨rfl, rfl⟩
 show W5 l Z n0 (P5 r) 0 0 5 (vR 0 :: vU :: vU :: []) [] (Hb 0 c1)
 refine WP.aloadN d5_5 rfl ?_
 refine WP.getfield (i := 0) (j := 27) d5_6 (hw _ m_117) rfl rfl rfl ?_
 rcases ite_e h with ⟨hc2, h⟩ | ⟨hc2, h⟩
 ·
  refine WP.ifY (pc' := 24) d5_9 (XT.i0_eq_t hc2) (by decide) rfl ?_
  exact WP.weak (L' := (vR 0 :: vU :: vU :: [])) ⟨rfl, trivial⟩ (ok5_24 l Z a0 hw n0 n c1 _ h)
 ·
  refine WP.ifN d5_9 (XT.i0_eq_f hc2) ?_
  refine WP.aloadN d5_12 rfl ?_
  refine WP.aloadN d5_13 rfl ?_
  refine WP.getfield (i := 0) (j := 26) d5_14 (hw _ m_119) rfl rfl rfl ?_
  obtain ⟨c3, hc3, h⟩ := bd h
  refine WP.callP (i := 0) (y := y7) (as := [.int (gI c1 11)]) (S := []) d5_17 (hw _ m_129) (hw _ m_131) (hw _ m_1) (hw _ m_130) (hw _ m_132) (hw _ m_2) hy7 rfl (ok7 l Z a0 hw (gI c1 11) c1 _ hc3) rfl (lenOf pd7 rfl) (leb rfl) (leb rfl) (leb rfl) (leb rfl) ?_
  rintro _ _ ⟨rfl, rfl⟩
  show W5 l Z n0 (P5 r) 0 0 20 (vR 0 :: vU :: vU :: []) [.int c3] (Hb 0 c1)
  refine WP.iconst (3 : Int32) d5_20 rfl ?_
  rcases ite_e h with ⟨hc4, h⟩ | ⟨hc4, h⟩
  ·
   refine WP.icmpY (pc' := 30) d5_21 (XT.ii_eq_t hc4) (by decide) rfl ?_
   refine WP.aloadN d5_30 rfl ?_
   refine WP.aloadN d5_31 rfl ?_
   refine WP.getfield (i := 0) (j := 26) d5_32 (hw _ m_119) rfl rfl rfl ?_
   obtain ⟨c5, hc5, h⟩ := bd h
   refine WP.callP (i := 0) (y := y8) (as := [.int (gI c1 11)]) (S := []) d5_35 (hw _ m_133) (hw _ m_135) (hw _ m_1) (hw _ m_134) (hw _ m_136) (hw _ m_2) hy8 rfl (ok8 l Z a0 hw (gI c1 11) c1 _ hc5) rfl (lenOf pd8 rfl) (leb rfl) (leb rfl) (leb rfl) (leb rfl) ?_
   rintro _ _ ⟨rfl, rfl⟩
   show W5 l Z n0 (P5 r) 0 0 38 (vR 0 :: vU :: vU :: []) [.int c5] (Hb 0 c1)
   refine WP.iconst (3 : Int32) d5_38 rfl ?_
   refine WP.iand d5_39 ?_
   obtain ⟨x6, ex6, h⟩ := lt_e h
   refine WP.istoreN (L' := (vR 0 :: vI x6 :: vU :: [])) d5_40 (leb rfl) (by subst ex6; rfl) ?_
   refine WP.aloadN d5_41 rfl ?_
   refine WP.getfield (i := 0) (j := 14) d5_42 (hw _ m_17) rfl rfl rfl ?_
   refine WP.iloadN d5_45 rfl ?_
   obtain ⟨x7, hx7, h⟩ := bd h
   refine WP.baload (i := 4) d5_46 rfl hx7 ?_
   rcases ite_e h with ⟨hc8, h⟩ | ⟨hc8, h⟩
   ·
    refine WP.ifY (pc' := 56) d5_47 (XT.i0_eq_t hc8) (by decide) rfl ?_
    refine WP.aloadN d5_56 rfl ?_
    refine WP.getfield (i := 0) (j := 14) d5_57 (hw _ m_17) rfl rfl rfl ?_
    refine WP.iloadN d5_60 rfl ?_
    refine WP.iconst (1 : Int32) d5_61 rfl ?_
    obtain ⟨s9, hs9, h⟩ := bd h
    obtain ⟨ys9, gs9, es9⟩ := wrA_e hs9
    refine WP.bastore (i := 4) (xs := gA c1 3) (H' := (Hb 0 s9)) d5_62 rfl (leb rfl) gs9 (by subst es9; rfl) ?_
    refine WP.aloadN d5_63 rfl ?_
    refine WP.getfield (i := 0) (j := 15) d5_64 (hw _ m_19) rfl rfl rfl ?_
    refine WP.iloadN d5_67 rfl ?_
    refine WP.aloadN d5_68 rfl ?_
    refine WP.getfield (i := 0) (j := 26) d5_69 (hw _ m_119) rfl rfl rfl ?_
    obtain ⟨s10, hs10, h⟩ := bd h
    obtain ⟨ys10, gs10, es10⟩ := wrA_e hs10
    refine WP.iastore (i := 5) (xs := gA s9 4) (H' := (Hb 0 s10)) d5_72 rfl (leb rfl) gs10 (by subst es10; rfl) ?_
    refine WP.aloadN d5_73 rfl ?_
    refine WP.iloadN d5_74 rfl ?_
    obtain ⟨s11, es11, h⟩ := lt_e h
    refine WP.putI (i := 0) (j := 28) (H' := (Hb 0 s11)) d5_75 (hw _ m_137) (Or.inl (hw _ m_138)) (hw _ m_1) (hlay hw) rfl rfl rfl (leb rfl) (by subst es11; rfl) ?_
    refine WP.aloadN d5_78 rfl ?_
    refine WP.dup d5_79 rfl ?_
    refine WP.getfield (i := 0) (j := 26) d5_80 (hw _ m_119) rfl rfl rfl ?_
    refine WP.iconst (1 : Int32) d5_83 rfl ?_
    refine WP.iadd d5_84 ?_
    obtain ⟨s12, es12, h⟩ := lt_e h
    refine WP.putI (i := 0) (j := 26) (H' := (Hb 0 s12)) d5_85 (hw _ m_119) (Or.inl (hw _ m_120)) (hw _ m_1) (hlay hw) rfl rfl rfl (leb rfl) (by subst es12; rfl) ?_
    refine WP.iconst (0 : Int32) d5_88 rfl ?_
    refine WP.istoreN (L' := (vR 0 :: vI x6 :: vI (0 : Int32) :: [])) d5_89 (leb rfl) rfl ?_
    exact WP.weak (L' := (vR 0 :: vI x6 :: vI (0 : Int32) :: [])) ⟨rfl, rfl, rfl, trivial⟩ (ok5_90 l Z a0 hw n0 n x6 (0 : Int32) s12 _ h)
   ·
    refine WP.ifN d5_47 (XT.i0_eq_f hc8) ?_
    refine WP.aloadN d5_50 rfl ?_
    refine WP.iconst (0 : Int32) d5_51 rfl ?_
    obtain ⟨s13, es13, h⟩ := lt_e h
    refine WP.putZ (i := 0) (j := 27) (H' := (Hb 0 s13)) d5_52 (hw _ m_117) (Or.inl (hw _ m_118)) (hw _ m_1) (hlay hw) rfl rfl rfl (leb rfl) (by subst es13; rfl) ?_
    cases h
    exact WP.vreturn d5_55 rfl (leb rfl) (leb rfl) ⟨rfl, rfl⟩
  ·
   refine WP.icmpN d5_21 (XT.ii_eq_f hc4) ?_
   exact WP.weak (L' := (vR 0 :: vU :: vU :: [])) ⟨rfl, trivial⟩ (ok5_24 l Z a0 hw n0 n c1 _ h)
theorem d23_0 : dc k14 0 (.iconst 0) 1 := by decide +kernel
theorem d23_1 : dc k14 1 (.istore_n 1) 1 := by decide +kernel
theorem d23_2 : dc k14 2 (.iload_n 1) 1 := by decide +kernel
theorem d23_3 : dc k14 3 (.aload_n 0) 1 := by decide +kernel
theorem d23_4 : dc k14 4 (.getfield 120) 3 := by decide +kernel
theorem d23_7 : dc k14 7 (.if_icmp .ge 53) 3 := by decide +kernel
theorem d23_10 : dc k14 10 (.aload_n 0) 1 := by decide +kernel
theorem d23_11 : dc k14 11 (.getfield 47) 3 := by decide +kernel
theorem d23_14 : dc k14 14 (.iload_n 1) 1 := by decide +kernel
theorem d23_15 : dc k14 15 (.iaload) 1 := by decide +kernel
theorem d23_16 : dc k14 16 (.istore_n 2) 1 := by decide +kernel
theorem d23_17 : dc k14 17 (.iload_n 2) 1 := by decide +kernel
theorem d23_18 : dc k14 18 (.ifCond .ge 6) 3 := by decide +kernel
theorem d23_21 : dc k14 21 (.goto 33) 3 := by decide +kernel
theorem d23_24 : dc k14 24 (.aload_n 0) 1 := by decide +kernel
theorem d23_25 : dc k14 25 (.getfield 13) 3 := by decide +kernel
theorem d23_28 : dc k14 28 (.iload_n 1) 1 := by decide +kernel
theorem d23_29 : dc k14 29 (.iaload) 1 := by decide +kernel
theorem d23_30 : dc k14 30 (.iconst 3) 1 := by decide +kernel
theorem d23_31 : dc k14 31 (.iand) 1 := by decide +kernel
theorem d23_32 : dc k14 32 (.istore_n 3) 1 := by decide +kernel
theorem d23_33 : dc k14 33 (.aload_n 0) 1 := by decide +kernel
theorem d23_34 : dc k14 34 (.getfield 19) 3 := by decide +kernel
theorem d23_37 : dc k14 37 (.iload_n 3) 1 := by decide +kernel
theorem d23_38 : dc k14 38 (.baload) 1 := by decide +kernel
theorem d23_39 : dc k14 39 (.ifCond .eq 13) 3 := by decide +kernel
theorem d23_42 : dc k14 42 (.aload_n 0) 1 := by decide +kernel
theorem d23_43 : dc k14 43 (.getfield 26) 3 := by decide +kernel
theorem d23_46 : dc k14 46 (.iload_n 3) 1 := by decide +kernel
theorem d23_47 : dc k14 47 (.iaload) 1 := by decide +kernel
theorem d23_48 : dc k14 48 (.iload_n 2) 1 := by decide +kernel
theorem d23_49 : dc k14 49 (.if_icmp .eq 5) 3 := by decide +kernel
theorem d23_52 : dc k14 52 (.iconst 0) 1 := by decide +kernel
theorem d23_53 : dc k14 53 (.ireturn) 1 := by decide +kernel
theorem d23_54 : dc k14 54 (.iinc 1 1) 3 := by decide +kernel
theorem d23_57 : dc k14 57 (.goto (-55)) 3 := by decide +kernel
theorem d23_60 : dc k14 60 (.iconst 1) 1 := by decide +kernel
theorem d23_61 : dc k14 61 (.ireturn) 1 := by decide +kernel
abbrev y23 : MethodName := ⟨"FatPointerC", "checkCalls", "()Z"⟩
theorem hy23 : y23.cls ≠ "java/lang/invoke/MethodHandle" ∧ y23.cls ≠ "java/lang/invoke/VarHandle" := by decide
theorem pd23 : parseMethodDescriptor y23.desc = some ⟨[], some .boolean⟩ := by decide +kernel
abbrev R23 : Room := { frames := 0, cells := 0, slots := 0, locals := 0 }
abbrev P23 (s : St) (r : Int32) : Option Value → List OwnC → Prop := fun v H' => v = some (.int r) ∧ H' = (Hb 0 s)
abbrev W23 (l : Launch) (Z : State) (n0 : Nat) (Q : Option Value → List OwnC → Prop) (k n pc : Nat) (L : List Slot) (S : List Value) (H : List OwnC) : Prop := WP l Z CN lay "FatPointerC" "checkCalls" prog_1_method_19_code 4 (some FieldType.boolean) R23 n0 0 Q k n pc L S H
def f_checkCalls_52 (n : Nat) (s : St) : Option (Int32) :=
 some (0 : Int32)
theorem ok23_52 (l : Launch) (Z : State) (a0 : Array Value) (hw : HW a0 Z) (n0 n : Nat) (s : St) (r : Int32) (h : f_checkCalls_52 n s = some r) : W23 l Z n0 (P23 s r) 0 0 52 (vU :: vU :: vU :: vU :: []) [] (Hb 0 s) := by
 unfold f_checkCalls_52 at h
 refine WP.iconst (0 : Int32) d23_52 rfl ?_
 cases h
 exact WP.zreturn d23_53 rfl (leb rfl) (leb rfl) ⟨rfl, rfl⟩
def f_checkCalls_54 (k2 : KT4) (n : Nat) (v1 : Int32) (s : St) : Option (Int32) :=
 lt (v1 + (1 : Int32)) fun x1 =>
 k2 x1 s
abbrev HK23_2 (l : Launch) (Z : State) (n0 : Nat) (k2 : KT4) : Prop := ∀ (v1 : Int32) (s : St) (r : Int32), k2 v1 s = some r → W23 l Z n0 (P23 s r) 0 0 2 (vR 0 :: vI v1 :: vU :: vU :: []) [] (Hb 0 s)
theorem ok23_54 (l : Launch) (Z : State) (a0 : Array Value) (hw : HW a0 Z) (n0 : Nat) (k2 : KT4) (hk2 : HK23_2 l Z n0 k2) (n : Nat) (v1 : Int32) (s : St) (r : Int32) (h : f_checkCalls_54 k2 n v1 s = some r) : W23 l Z n0 (P23 s r) 0 0 54 (vR 0 :: vI v1 :: vU :: vU :: []) [] (Hb 0 s) := by
 unfold f_checkCalls_54 at h
 obtain ⟨x1, ex1, h⟩ := lt_e h
 refine WP.iinc (L' := (vR 0 :: vI x1 :: vU :: vU :: [])) (1 : Int32) d23_54 rfl rfl (by subst ex1; rfl) ?_
 refine WP.goto (pc' := 2) d23_57 (by decide) rfl ?_
 exact WP.weak (L' := (vR 0 :: vI x1 :: vU :: vU :: [])) ⟨rfl, rfl, trivial⟩ (hk2 x1 s _ h)
def g_checkCalls_2 (k2 : KT4) (n : Nat) (v1 : Int32) (s : St) : Option (Int32) :=
 if v1 < (gI s 2) then
  (rd (gA s 12) v1).bind fun x2 =>
  if x2 < 0 then
   f_checkCalls_54 k2 n v1 s
  else
   (rd (gA s 1) v1).bind fun x4 =>
   lt (x4 &&& (3 : Int32)) fun x5 =>
   (rd (gA s 3) x5).bind fun x6 =>
   if x6 = 0 then
    f_checkCalls_52 n s
   else
    (rd (gA s 5) x5).bind fun x8 =>
    if x8 = x2 then
     f_checkCalls_54 k2 n v1 s
    else
     f_checkCalls_52 n s
 else
  some (1 : Int32)
theorem okg23_2 (l : Launch) (Z : State) (a0 : Array Value) (hw : HW a0 Z) (n0 : Nat) (k2 : KT4) (hk2 : HK23_2 l Z n0 k2) (n : Nat) (v1 : Int32) (s : St) (r : Int32) (h : g_checkCalls_2 k2 n v1 s = some r) : W23 l Z n0 (P23 s r) 0 0 2 (vR 0 :: vI v1 :: vU :: vU :: []) [] (Hb 0 s) := by
 unfold g_checkCalls_2 at h
 refine WP.iloadN d23_2 rfl ?_
 refine WP.aloadN d23_3 rfl ?_
 refine WP.getfield (i := 0) (j := 2) d23_4 (hw _ m_104) rfl rfl rfl ?_
 rcases ite_e h with ⟨hc1, h⟩ | ⟨hc1, h⟩
 ·
  refine WP.icmpN d23_7 (XT.ii_ge_f hc1) ?_
  refine WP.aloadN d23_10 rfl ?_
  refine WP.getfield (i := 0) (j := 23) d23_11 (hw _ m_35) rfl rfl rfl ?_
  refine WP.iloadN d23_14 rfl ?_
  obtain ⟨x2, hx2, h⟩ := bd h
  refine WP.iaload (i := 13) d23_15 rfl hx2 ?_
  refine WP.istoreN (L' := (vR 0 :: vI v1 :: vI x2 :: vU :: [])) d23_16 (leb rfl) rfl ?_
  refine WP.iloadN d23_17 rfl ?_
  rcases ite_e h with ⟨hc3, h⟩ | ⟨hc3, h⟩
  ·
   refine WP.ifN d23_18 (XT.i0_ge_f hc3) ?_
   refine WP.goto (pc' := 54) d23_21 (by decide) rfl ?_
   exact WP.weak (L' := (vR 0 :: vI v1 :: vU :: vU :: [])) ⟨rfl, rfl, trivial⟩ (ok23_54 l Z a0 hw n0 _ hk2 n v1 s _ h)
  ·
   refine WP.ifY (pc' := 24) d23_18 (XT.i0_ge_t hc3) (by decide) rfl ?_
   refine WP.aloadN d23_24 rfl ?_
   refine WP.getfield (i := 0) (j := 4) d23_25 (hw _ m_12) rfl rfl rfl ?_
   refine WP.iloadN d23_28 rfl ?_
   obtain ⟨x4, hx4, h⟩ := bd h
   refine WP.iaload (i := 2) d23_29 rfl hx4 ?_
   refine WP.iconst (3 : Int32) d23_30 rfl ?_
   refine WP.iand d23_31 ?_
   obtain ⟨x5, ex5, h⟩ := lt_e h
   refine WP.istoreN (L' := (vR 0 :: vI v1 :: vI x2 :: vI x5 :: [])) d23_32 (leb rfl) (by subst ex5; rfl) ?_
   refine WP.aloadN d23_33 rfl ?_
   refine WP.getfield (i := 0) (j := 14) d23_34 (hw _ m_17) rfl rfl rfl ?_
   refine WP.iloadN d23_37 rfl ?_
   obtain ⟨x6, hx6, h⟩ := bd h
   refine WP.baload (i := 4) d23_38 rfl hx6 ?_
   rcases ite_e h with ⟨hc7, h⟩ | ⟨hc7, h⟩
   ·
    refine WP.ifY (pc' := 52) d23_39 (XT.i0_eq_t hc7) (by decide) rfl ?_
    exact WP.weak (L' := (vU :: vU :: vU :: vU :: [])) trivial (ok23_52 l Z a0 hw n0 n s _ h)
   ·
    refine WP.ifN d23_39 (XT.i0_eq_f hc7) ?_
    refine WP.aloadN d23_42 rfl ?_
    refine WP.getfield (i := 0) (j := 16) d23_43 (hw _ m_21) rfl rfl rfl ?_
    refine WP.iloadN d23_46 rfl ?_
    obtain ⟨x8, hx8, h⟩ := bd h
    refine WP.iaload (i := 6) d23_47 rfl hx8 ?_
    refine WP.iloadN d23_48 rfl ?_
    rcases ite_e h with ⟨hc9, h⟩ | ⟨hc9, h⟩
    ·
     refine WP.icmpY (pc' := 54) d23_49 (XT.ii_eq_t hc9) (by decide) rfl ?_
     exact WP.weak (L' := (vR 0 :: vI v1 :: vU :: vU :: [])) ⟨rfl, rfl, trivial⟩ (ok23_54 l Z a0 hw n0 _ hk2 n v1 s _ h)
    ·
     refine WP.icmpN d23_49 (XT.ii_eq_f hc9) ?_
     exact WP.weak (L' := (vU :: vU :: vU :: vU :: [])) trivial (ok23_52 l Z a0 hw n0 n s _ h)
 ·
  refine WP.icmpY (pc' := 60) d23_7 (XT.ii_ge_t hc1) (by decide) rfl ?_
  refine WP.iconst (1 : Int32) d23_60 rfl ?_
  cases h
  exact WP.zreturn d23_61 rfl (leb rfl) (leb rfl) ⟨rfl, rfl⟩
def f_checkCalls_2 : Nat → Int32 → St → Option (Int32)
 | 0 => fun _ _ => none
 | n + 1 => g_checkCalls_2 (f_checkCalls_2 n) n
theorem ok23_2 (l : Launch) (Z : State) (a0 : Array Value) (hw : HW a0 Z) (n0 : Nat) : ∀ (n : Nat) (v1 : Int32) (s : St) (r : Int32), f_checkCalls_2 n v1 s = some r → W23 l Z n0 (P23 s r) 0 0 2 (vR 0 :: vI v1 :: vU :: vU :: []) [] (Hb 0 s)
 | 0, v1, s, r, h => nomatch (show none = some r from h)
 | n + 1, v1, s, r, h => okg23_2 l Z a0 hw n0 _ (ok23_2 l Z a0 hw n0 n) n v1 s r h
def f_checkCalls (n : Nat) (s : St) : Option (Int32) :=
 f_checkCalls_2 n (0 : Int32) s
theorem ok23 (l : Launch) (Z : State) (a0 : Array Value) (hw : HW a0 Z) (n : Nat) (s : St) (r : Int32) (h : f_checkCalls n s = some r) : CS l Z CN lay y23 prog_1_method_19_code 4 (some FieldType.boolean) R23 0 [.ref 0] (Hb 0 s) (P23 s r) := by
 refine CS.of_wp pn_cls (leb rfl) fun n0 => ?_
 show W23 l Z n0 (P23 s r) 0 0 0 (vR 0 :: vU :: vU :: vU :: []) [] (Hb 0 s)
 unfold f_checkCalls at h
 refine WP.iconst (0 : Int32) d23_0 rfl ?_
 refine WP.istoreN (L' := (vR 0 :: vI (0 : Int32) :: vU :: vU :: [])) d23_1 (leb rfl) rfl ?_
 exact WP.weak (L' := (vR 0 :: vI (0 : Int32) :: vU :: vU :: [])) ⟨rfl, rfl, trivial⟩ (ok23_2 l Z a0 hw n0 n (0 : Int32) s _ h)
theorem d4_0 : dc k13 0 (.iconst 0) 1 := by decide +kernel
theorem d4_1 : dc k13 1 (.istore_n 1) 1 := by decide +kernel
theorem d4_2 : dc k13 2 (.iload_n 1) 1 := by decide +kernel
theorem d4_3 : dc k13 3 (.iconst 4) 1 := by decide +kernel
theorem d4_4 : dc k13 4 (.if_icmp .ge 51) 3 := by decide +kernel
theorem d4_7 : dc k13 7 (.aload_n 0) 1 := by decide +kernel
theorem d4_8 : dc k13 8 (.getfield 19) 3 := by decide +kernel
theorem d4_11 : dc k13 11 (.iload_n 1) 1 := by decide +kernel
theorem d4_12 : dc k13 12 (.iconst 0) 1 := by decide +kernel
theorem d4_13 : dc k13 13 (.bastore) 1 := by decide +kernel
theorem d4_14 : dc k13 14 (.aload_n 0) 1 := by decide +kernel
theorem d4_15 : dc k13 15 (.getfield 26) 3 := by decide +kernel
theorem d4_18 : dc k13 18 (.iload_n 1) 1 := by decide +kernel
theorem d4_19 : dc k13 19 (.iconst 0) 1 := by decide +kernel
theorem d4_20 : dc k13 20 (.iastore) 1 := by decide +kernel
theorem d4_21 : dc k13 21 (.aload_n 0) 1 := by decide +kernel
theorem d4_22 : dc k13 22 (.getfield 29) 3 := by decide +kernel
theorem d4_25 : dc k13 25 (.iload_n 1) 1 := by decide +kernel
theorem d4_26 : dc k13 26 (.iconst 0) 1 := by decide +kernel
theorem d4_27 : dc k13 27 (.iastore) 1 := by decide +kernel
theorem d4_28 : dc k13 28 (.aload_n 0) 1 := by decide +kernel
theorem d4_29 : dc k13 29 (.getfield 32) 3 := by decide +kernel
theorem d4_32 : dc k13 32 (.iload_n 1) 1 := by decide +kernel
theorem d4_33 : dc k13 33 (.iconst 0) 1 := by decide +kernel
theorem d4_34 : dc k13 34 (.iastore) 1 := by decide +kernel
theorem d4_35 : dc k13 35 (.aload_n 0) 1 := by decide +kernel
theorem d4_36 : dc k13 36 (.getfield 35) 3 := by decide +kernel
theorem d4_39 : dc k13 39 (.iload_n 1) 1 := by decide +kernel
theorem d4_40 : dc k13 40 (.iconst 0) 1 := by decide +kernel
theorem d4_41 : dc k13 41 (.iastore) 1 := by decide +kernel
theorem d4_42 : dc k13 42 (.aload_n 0) 1 := by decide +kernel
theorem d4_43 : dc k13 43 (.getfield 23) 3 := by decide +kernel
theorem d4_46 : dc k13 46 (.iload_n 1) 1 := by decide +kernel
theorem d4_47 : dc k13 47 (.iconst 0) 1 := by decide +kernel
theorem d4_48 : dc k13 48 (.iastore) 1 := by decide +kernel
theorem d4_49 : dc k13 49 (.iinc 1 1) 3 := by decide +kernel
theorem d4_52 : dc k13 52 (.goto (-50)) 3 := by decide +kernel
theorem d4_55 : dc k13 55 (.iconst 0) 1 := by decide +kernel
theorem d4_56 : dc k13 56 (.istore_n 1) 1 := by decide +kernel
theorem d4_57 : dc k13 57 (.iload_n 1) 1 := by decide +kernel
theorem d4_58 : dc k13 58 (.sipush 256) 3 := by decide +kernel
theorem d4_61 : dc k13 61 (.if_icmp .ge 30) 3 := by decide +kernel
theorem d4_64 : dc k13 64 (.aload_n 0) 1 := by decide +kernel
theorem d4_65 : dc k13 65 (.getfield 47) 3 := by decide +kernel
theorem d4_68 : dc k13 68 (.iload_n 1) 1 := by decide +kernel
theorem d4_69 : dc k13 69 (.iconst (-1)) 1 := by decide +kernel
theorem d4_70 : dc k13 70 (.iastore) 1 := by decide +kernel
theorem d4_71 : dc k13 71 (.aload_n 0) 1 := by decide +kernel
theorem d4_72 : dc k13 72 (.getfield 50) 3 := by decide +kernel
theorem d4_75 : dc k13 75 (.iload_n 1) 1 := by decide +kernel
theorem d4_76 : dc k13 76 (.iconst (-1)) 1 := by decide +kernel
theorem d4_77 : dc k13 77 (.iastore) 1 := by decide +kernel
theorem d4_78 : dc k13 78 (.aload_n 0) 1 := by decide +kernel
theorem d4_79 : dc k13 79 (.getfield 53) 3 := by decide +kernel
theorem d4_82 : dc k13 82 (.iload_n 1) 1 := by decide +kernel
theorem d4_83 : dc k13 83 (.iconst (-1)) 1 := by decide +kernel
theorem d4_84 : dc k13 84 (.iastore) 1 := by decide +kernel
theorem d4_85 : dc k13 85 (.iinc 1 1) 3 := by decide +kernel
theorem d4_88 : dc k13 88 (.goto (-31)) 3 := by decide +kernel
theorem d4_91 : dc k13 91 (.aload_n 0) 1 := by decide +kernel
theorem d4_92 : dc k13 92 (.aload_n 0) 1 := by decide +kernel
theorem d4_93 : dc k13 93 (.getfield 120) 3 := by decide +kernel
theorem d4_96 : dc k13 96 (.ifCond .le 7) 3 := by decide +kernel
theorem d4_99 : dc k13 99 (.iconst 1) 1 := by decide +kernel
theorem d4_100 : dc k13 100 (.goto 4) 3 := by decide +kernel
theorem d4_103 : dc k13 103 (.iconst 0) 1 := by decide +kernel
theorem d4_104 : dc k13 104 (.putfield 180) 3 := by decide +kernel
theorem d4_107 : dc k13 107 (.aload_n 0) 1 := by decide +kernel
theorem d4_108 : dc k13 108 (.iconst 0) 1 := by decide +kernel
theorem d4_109 : dc k13 109 (.putfield 183) 3 := by decide +kernel
theorem d4_112 : dc k13 112 (.iconst 0) 1 := by decide +kernel
theorem d4_113 : dc k13 113 (.istore_n 1) 1 := by decide +kernel
theorem d4_114 : dc k13 114 (.iload_n 1) 1 := by decide +kernel
theorem d4_115 : dc k13 115 (.bipush 8) 2 := by decide +kernel
theorem d4_117 : dc k13 117 (.if_icmp .ge 31) 3 := by decide +kernel
theorem d4_120 : dc k13 120 (.aload_n 0) 1 := by decide +kernel
theorem d4_121 : dc k13 121 (.getfield 180) 3 := by decide +kernel
theorem d4_124 : dc k13 124 (.ifCond .eq 24) 3 := by decide +kernel
theorem d4_127 : dc k13 127 (.aload_n 0) 1 := by decide +kernel
theorem d4_128 : dc k13 128 (.getfield 183) 3 := by decide +kernel
theorem d4_131 : dc k13 131 (.aload_n 0) 1 := by decide +kernel
theorem d4_132 : dc k13 132 (.getfield 120) 3 := by decide +kernel
theorem d4_135 : dc k13 135 (.if_icmp .ge 13) 3 := by decide +kernel
theorem d4_138 : dc k13 138 (.aload_n 0) 1 := by decide +kernel
theorem d4_139 : dc k13 139 (.invokevirtual 186) 3 := by decide +kernel
theorem d4_142 : dc k13 142 (.iinc 1 1) 3 := by decide +kernel
theorem d4_145 : dc k13 145 (.goto (-31)) 3 := by decide +kernel
theorem d4_148 : dc k13 148 (.aload_n 0) 1 := by decide +kernel
theorem d4_149 : dc k13 149 (.getfield 180) 3 := by decide +kernel
theorem d4_152 : dc k13 152 (.ifCond .eq 14) 3 := by decide +kernel
theorem d4_155 : dc k13 155 (.aload_n 0) 1 := by decide +kernel
theorem d4_156 : dc k13 156 (.getfield 183) 3 := by decide +kernel
theorem d4_159 : dc k13 159 (.aload_n 0) 1 := by decide +kernel
theorem d4_160 : dc k13 160 (.getfield 120) 3 := by decide +kernel
theorem d4_163 : dc k13 163 (.if_icmp .eq 5) 3 := by decide +kernel
theorem d4_166 : dc k13 166 (.iconst 0) 1 := by decide +kernel
theorem d4_167 : dc k13 167 (.ireturn) 1 := by decide +kernel
theorem d4_168 : dc k13 168 (.aload_n 0) 1 := by decide +kernel
theorem d4_169 : dc k13 169 (.getfield 19) 3 := by decide +kernel
theorem d4_172 : dc k13 172 (.iconst 0) 1 := by decide +kernel
theorem d4_173 : dc k13 173 (.baload) 1 := by decide +kernel
theorem d4_174 : dc k13 174 (.ifCond .eq 12) 3 := by decide +kernel
theorem d4_177 : dc k13 177 (.aload_n 0) 1 := by decide +kernel
theorem d4_178 : dc k13 178 (.getfield 26) 3 := by decide +kernel
theorem d4_181 : dc k13 181 (.iconst 0) 1 := by decide +kernel
theorem d4_182 : dc k13 182 (.iaload) 1 := by decide +kernel
theorem d4_183 : dc k13 183 (.ifCond .eq 5) 3 := by decide +kernel
theorem d4_186 : dc k13 186 (.iconst 0) 1 := by decide +kernel
theorem d4_187 : dc k13 187 (.ireturn) 1 := by decide +kernel
theorem d4_188 : dc k13 188 (.aload_n 0) 1 := by decide +kernel
theorem d4_189 : dc k13 189 (.invokevirtual 189) 3 := by decide +kernel
theorem d4_192 : dc k13 192 (.ireturn) 1 := by decide +kernel
abbrev y4 : MethodName := ⟨"FatPointerC", "parseProgram", "()Z"⟩
theorem hy4 : y4.cls ≠ "java/lang/invoke/MethodHandle" ∧ y4.cls ≠ "java/lang/invoke/VarHandle" := by decide
theorem pd4 : parseMethodDescriptor y4.desc = some ⟨[], some .boolean⟩ := by decide +kernel
abbrev R4 : Room := { frames := 11, cells := 0, slots := 0, locals := 147 }
abbrev P4 (r : Int32 × St) : Option Value → List OwnC → Prop := fun v H' => v = some (.int r.1) ∧ H' = (Hb 0 r.2)
abbrev W4 (l : Launch) (Z : State) (n0 : Nat) (Q : Option Value → List OwnC → Prop) (k n pc : Nat) (L : List Slot) (S : List Value) (H : List OwnC) : Prop := WP l Z CN lay "FatPointerC" "parseProgram" prog_1_method_18_code 2 (some FieldType.boolean) R4 n0 0 Q k n pc L S H
def f_parseProgram_166 (n : Nat) (s : St) : Option (Int32 × St) :=
 some ((0 : Int32), s)
theorem ok4_166 (l : Launch) (Z : State) (a0 : Array Value) (hw : HW a0 Z) (n0 n : Nat) (s : St) (r : Int32 × St) (h : f_parseProgram_166 n s = some r) : W4 l Z n0 (P4 r) 0 0 166 (vU :: vU :: []) [] (Hb 0 s) := by
 unfold f_parseProgram_166 at h
 refine WP.iconst (0 : Int32) d4_166 rfl ?_
 cases h
 exact WP.zreturn d4_167 rfl (leb rfl) (leb rfl) ⟨rfl, rfl⟩
def f_parseProgram_186 (n : Nat) (s : St) : Option (Int32 × St) :=
 some ((0 : Int32), s)
theorem ok4_186 (l : Launch) (Z : State) (a0 : Array Value) (hw : HW a0 Z) (n0 n : Nat) (s : St) (r : Int32 × St) (h : f_parseProgram_186 n s = some r) : W4 l Z n0 (P4 r) 0 0 186 (vU :: vU :: []) [] (Hb 0 s) := by
 unfold f_parseProgram_186 at h
 refine WP.iconst (0 : Int32) d4_186 rfl ?_
 cases h
 exact WP.zreturn d4_187 rfl (leb rfl) (leb rfl) ⟨rfl, rfl⟩
def f_parseProgram_148 (n : Nat) (s : St) : Option (Int32 × St) :=
 if (gI s 12) = 0 then
  f_parseProgram_166 n s
 else
  if (gI s 11) = (gI s 2) then
   (rd (gA s 3) (0 : Int32)).bind fun x3 =>
   if x3 = 0 then
    f_parseProgram_186 n s
   else
    (rd (gA s 5) (0 : Int32)).bind fun x5 =>
    if x5 = 0 then
     (f_checkCalls n s).bind fun c7 =>
     some (c7 &&& 1, s)
    else
     f_parseProgram_186 n s
  else
   f_parseProgram_166 n s
theorem ok4_148 (l : Launch) (Z : State) (a0 : Array Value) (hw : HW a0 Z) (n0 n : Nat) (s : St) (r : Int32 × St) (h : f_parseProgram_148 n s = some r) : W4 l Z n0 (P4 r) 0 0 148 (vR 0 :: vU :: []) [] (Hb 0 s) := by
 unfold f_parseProgram_148 at h
 refine WP.aloadN d4_148 rfl ?_
 refine WP.getfield (i := 0) (j := 27) d4_149 (hw _ m_117) rfl rfl rfl ?_
 rcases ite_e h with ⟨hc1, h⟩ | ⟨hc1, h⟩
 ·
  refine WP.ifY (pc' := 166) d4_152 (XT.i0_eq_t hc1) (by decide) rfl ?_
  exact WP.weak (L' := (vU :: vU :: [])) trivial (ok4_166 l Z a0 hw n0 n s _ h)
 ·
  refine WP.ifN d4_152 (XT.i0_eq_f hc1) ?_
  refine WP.aloadN d4_155 rfl ?_
  refine WP.getfield (i := 0) (j := 26) d4_156 (hw _ m_119) rfl rfl rfl ?_
  refine WP.aloadN d4_159 rfl ?_
  refine WP.getfield (i := 0) (j := 2) d4_160 (hw _ m_104) rfl rfl rfl ?_
  rcases ite_e h with ⟨hc2, h⟩ | ⟨hc2, h⟩
  ·
   refine WP.icmpY (pc' := 168) d4_163 (XT.ii_eq_t hc2) (by decide) rfl ?_
   refine WP.aloadN d4_168 rfl ?_
   refine WP.getfield (i := 0) (j := 14) d4_169 (hw _ m_17) rfl rfl rfl ?_
   refine WP.iconst (0 : Int32) d4_172 rfl ?_
   obtain ⟨x3, hx3, h⟩ := bd h
   refine WP.baload (i := 4) d4_173 rfl hx3 ?_
   rcases ite_e h with ⟨hc4, h⟩ | ⟨hc4, h⟩
   ·
    refine WP.ifY (pc' := 186) d4_174 (XT.i0_eq_t hc4) (by decide) rfl ?_
    exact WP.weak (L' := (vU :: vU :: [])) trivial (ok4_186 l Z a0 hw n0 n s _ h)
   ·
    refine WP.ifN d4_174 (XT.i0_eq_f hc4) ?_
    refine WP.aloadN d4_177 rfl ?_
    refine WP.getfield (i := 0) (j := 16) d4_178 (hw _ m_21) rfl rfl rfl ?_
    refine WP.iconst (0 : Int32) d4_181 rfl ?_
    obtain ⟨x5, hx5, h⟩ := bd h
    refine WP.iaload (i := 6) d4_182 rfl hx5 ?_
    rcases ite_e h with ⟨hc6, h⟩ | ⟨hc6, h⟩
    ·
     refine WP.ifY (pc' := 188) d4_183 (XT.i0_eq_t hc6) (by decide) rfl ?_
     refine WP.aloadN d4_188 rfl ?_
     obtain ⟨c7, hc7, h⟩ := bd h
     refine WP.callP (i := 0) (y := y23) (as := []) (S := []) d4_189 (hw _ m_195) (hw _ m_197) (hw _ m_1) (hw _ m_196) (hw _ m_198) (hw _ m_2) hy23 rfl (ok23 l Z a0 hw n s _ hc7) rfl (lenOf pd23 rfl) (leb rfl) (leb rfl) (leb rfl) (leb rfl) ?_
     rintro _ _ ⟨rfl, rfl⟩
     show W4 l Z n0 (P4 r) 0 0 192 (vR 0 :: vU :: []) [.int c7] (Hb 0 s)
     cases h
     exact WP.zreturn d4_192 rfl (leb rfl) (leb rfl) ⟨rfl, rfl⟩
    ·
     refine WP.ifN d4_183 (XT.i0_eq_f hc6) ?_
     exact WP.weak (L' := (vU :: vU :: [])) trivial (ok4_186 l Z a0 hw n0 n s _ h)
  ·
   refine WP.icmpN d4_163 (XT.ii_eq_f hc2) ?_
   exact WP.weak (L' := (vU :: vU :: [])) trivial (ok4_166 l Z a0 hw n0 n s _ h)
def g_parseProgram_114 (k114 : KT2) (n : Nat) (v1 : Int32) (s : St) : Option (Int32 × St) :=
 if v1 < (8 : Int32) then
  if (gI s 12) = 0 then
   f_parseProgram_148 n s
  else
   if (gI s 11) < (gI s 2) then
    (f_parseFunc n s).bind fun c4 =>
    lt (v1 + (1 : Int32)) fun x5 =>
    k114 x5 c4
   else
    f_parseProgram_148 n s
 else
  f_parseProgram_148 n s
abbrev HK4_114 (l : Launch) (Z : State) (n0 : Nat) (k114 : KT2) : Prop := ∀ (v1 : Int32) (s : St) (r : Int32 × St), k114 v1 s = some r → W4 l Z n0 (P4 r) 0 0 114 (vR 0 :: vI v1 :: []) [] (Hb 0 s)
theorem okg4_114 (l : Launch) (Z : State) (a0 : Array Value) (hw : HW a0 Z) (n0 : Nat) (k114 : KT2) (hk114 : HK4_114 l Z n0 k114) (n : Nat) (v1 : Int32) (s : St) (r : Int32 × St) (h : g_parseProgram_114 k114 n v1 s = some r) : W4 l Z n0 (P4 r) 0 0 114 (vR 0 :: vI v1 :: []) [] (Hb 0 s) := by
 unfold g_parseProgram_114 at h
 refine WP.iloadN d4_114 rfl ?_
 refine WP.bipush (8 : Int32) d4_115 rfl ?_
 rcases ite_e h with ⟨hc1, h⟩ | ⟨hc1, h⟩
 ·
  refine WP.icmpN d4_117 (XT.ii_ge_f hc1) ?_
  refine WP.aloadN d4_120 rfl ?_
  refine WP.getfield (i := 0) (j := 27) d4_121 (hw _ m_117) rfl rfl rfl ?_
  rcases ite_e h with ⟨hc2, h⟩ | ⟨hc2, h⟩
  ·
   refine WP.ifY (pc' := 148) d4_124 (XT.i0_eq_t hc2) (by decide) rfl ?_
   exact WP.weak (L' := (vR 0 :: vU :: [])) ⟨rfl, trivial⟩ (ok4_148 l Z a0 hw n0 n s _ h)
  ·
   refine WP.ifN d4_124 (XT.i0_eq_f hc2) ?_
   refine WP.aloadN d4_127 rfl ?_
   refine WP.getfield (i := 0) (j := 26) d4_128 (hw _ m_119) rfl rfl rfl ?_
   refine WP.aloadN d4_131 rfl ?_
   refine WP.getfield (i := 0) (j := 2) d4_132 (hw _ m_104) rfl rfl rfl ?_
   rcases ite_e h with ⟨hc3, h⟩ | ⟨hc3, h⟩
   ·
    refine WP.icmpN d4_135 (XT.ii_ge_f hc3) ?_
    refine WP.aloadN d4_138 rfl ?_
    obtain ⟨c4, hc4, h⟩ := bd h
    refine WP.callP (i := 0) (y := y5) (as := []) (S := []) d4_139 (hw _ m_121) (hw _ m_123) (hw _ m_1) (hw _ m_122) (hw _ m_124) (hw _ m_2) hy5 rfl (ok5 l Z a0 hw n s _ hc4) rfl (lenOf pd5 rfl) (leb rfl) (leb rfl) (leb rfl) (leb rfl) ?_
    rintro _ _ ⟨rfl, rfl⟩
    show W4 l Z n0 (P4 r) 0 0 142 (vR 0 :: vI v1 :: []) [] (Hb 0 c4)
    obtain ⟨x5, ex5, h⟩ := lt_e h
    refine WP.iinc (L' := (vR 0 :: vI x5 :: [])) (1 : Int32) d4_142 rfl rfl (by subst ex5; rfl) ?_
    refine WP.goto (pc' := 114) d4_145 (by decide) rfl ?_
    exact WP.weak (L' := (vR 0 :: vI x5 :: [])) ⟨rfl, rfl, trivial⟩ (hk114 x5 c4 _ h)
   ·
    refine WP.icmpY (pc' := 148) d4_135 (XT.ii_ge_t hc3) (by decide) rfl ?_
    exact WP.weak (L' := (vR 0 :: vU :: [])) ⟨rfl, trivial⟩ (ok4_148 l Z a0 hw n0 n s _ h)
 ·
  refine WP.icmpY (pc' := 148) d4_117 (XT.ii_ge_t hc1) (by decide) rfl ?_
  exact WP.weak (L' := (vR 0 :: vU :: [])) ⟨rfl, trivial⟩ (ok4_148 l Z a0 hw n0 n s _ h)
def f_parseProgram_114 : Nat → Int32 → St → Option (Int32 × St)
 | 0 => fun _ _ => none
 | n + 1 => g_parseProgram_114 (f_parseProgram_114 n) n
theorem ok4_114 (l : Launch) (Z : State) (a0 : Array Value) (hw : HW a0 Z) (n0 : Nat) : ∀ (n : Nat) (v1 : Int32) (s : St) (r : Int32 × St), f_parseProgram_114 n v1 s = some r → W4 l Z n0 (P4 r) 0 0 114 (vR 0 :: vI v1 :: []) [] (Hb 0 s)
 | 0, v1, s, r, h => nomatch (show none = some r from h)
 | n + 1, v1, s, r, h => okg4_114 l Z a0 hw n0 _ (ok4_114 l Z a0 hw n0 n) n v1 s r h
def f_parseProgram_104 (n : Nat) (t0 : Int32) (s : St) : Option (Int32 × St) :=
 lt (sI s 12 (t0 &&& 1)) fun s1 =>
 lt (sI s1 11 (0 : Int32)) fun s2 =>
 f_parseProgram_114 n (0 : Int32) s2
theorem ok4_104 (l : Launch) (Z : State) (a0 : Array Value) (hw : HW a0 Z) (n0 n : Nat) (t0 : Int32) (s : St) (r : Int32 × St) (h : f_parseProgram_104 n t0 s = some r) : W4 l Z n0 (P4 r) 0 0 104 (vR 0 :: vU :: []) [.int t0, .ref 0] (Hb 0 s) := by
 unfold f_parseProgram_104 at h
 obtain ⟨s1, es1, h⟩ := lt_e h
 refine WP.putZ (i := 0) (j := 27) (H' := (Hb 0 s1)) d4_104 (hw _ m_117) (Or.inl (hw _ m_118)) (hw _ m_1) (hlay hw) rfl rfl rfl (leb rfl) (by subst es1; rfl) ?_
 refine WP.aloadN d4_107 rfl ?_
 refine WP.iconst (0 : Int32) d4_108 rfl ?_
 obtain ⟨s2, es2, h⟩ := lt_e h
 refine WP.putI (i := 0) (j := 26) (H' := (Hb 0 s2)) d4_109 (hw _ m_119) (Or.inl (hw _ m_120)) (hw _ m_1) (hlay hw) rfl rfl rfl (leb rfl) (by subst es2; rfl) ?_
 refine WP.iconst (0 : Int32) d4_112 rfl ?_
 refine WP.istoreN (L' := (vR 0 :: vI (0 : Int32) :: [])) d4_113 (leb rfl) rfl ?_
 exact WP.weak (L' := (vR 0 :: vI (0 : Int32) :: [])) ⟨rfl, rfl, trivial⟩ (ok4_114 l Z a0 hw n0 n (0 : Int32) s2 _ h)
def g_parseProgram_57 (k57 : KT2) (n : Nat) (v1 : Int32) (s : St) : Option (Int32 × St) :=
 if v1 < (256 : Int32) then
  (wrA s 12 v1 (-1 : Int32)).bind fun s2 =>
  (wrA s2 13 v1 (-1 : Int32)).bind fun s3 =>
  (wrA s3 14 v1 (-1 : Int32)).bind fun s4 =>
  lt (v1 + (1 : Int32)) fun x5 =>
  k57 x5 s4
 else
  if 0 < (gI s 2) then
   f_parseProgram_104 n (1 : Int32) s
  else
   f_parseProgram_104 n (0 : Int32) s
abbrev HK4_57 (l : Launch) (Z : State) (n0 : Nat) (k57 : KT2) : Prop := ∀ (v1 : Int32) (s : St) (r : Int32 × St), k57 v1 s = some r → W4 l Z n0 (P4 r) 0 0 57 (vR 0 :: vI v1 :: []) [] (Hb 0 s)
theorem okg4_57 (l : Launch) (Z : State) (a0 : Array Value) (hw : HW a0 Z) (n0 : Nat) (k57 : KT2) (hk57 : HK4_57 l Z n0 k57) (n : Nat) (v1 : Int32) (s : St) (r : Int32 × St) (h : g_parseProgram_57 k57 n v1 s = some r) : W4 l Z n0 (P4 r) 0 0 57 (vR 0 :: vI v1 :: []) [] (Hb 0 s) := by
 unfold g_parseProgram_57 at h
 refine WP.iloadN d4_57 rfl ?_
 refine WP.sipush (256 : Int32) d4_58 rfl ?_
 rcases ite_e h with ⟨hc1, h⟩ | ⟨hc1, h⟩
 ·
  refine WP.icmpN d4_61 (XT.ii_ge_f hc1) ?_
  refine WP.aloadN d4_64 rfl ?_
  refine WP.getfield (i := 0) (j := 23) d4_65 (hw _ m_35) rfl rfl rfl ?_
  refine WP.iloadN d4_68 rfl ?_
  refine WP.iconst (-1 : Int32) d4_69 rfl ?_
  obtain ⟨s2, hs2, h⟩ := bd h
  obtain ⟨ys2, gs2, es2⟩ := wrA_e hs2
  refine WP.iastore (i := 13) (xs := gA s 12) (H' := (Hb 0 s2)) d4_70 rfl (leb rfl) gs2 (by subst es2; rfl) ?_
  refine WP.aloadN d4_71 rfl ?_
  refine WP.getfield (i := 0) (j := 24) d4_72 (hw _ m_37) rfl rfl rfl ?_
  refine WP.iloadN d4_75 rfl ?_
  refine WP.iconst (-1 : Int32) d4_76 rfl ?_
  obtain ⟨s3, hs3, h⟩ := bd h
  obtain ⟨ys3, gs3, es3⟩ := wrA_e hs3
  refine WP.iastore (i := 14) (xs := gA s2 13) (H' := (Hb 0 s3)) d4_77 rfl (leb rfl) gs3 (by subst es3; rfl) ?_
  refine WP.aloadN d4_78 rfl ?_
  refine WP.getfield (i := 0) (j := 25) d4_79 (hw _ m_39) rfl rfl rfl ?_
  refine WP.iloadN d4_82 rfl ?_
  refine WP.iconst (-1 : Int32) d4_83 rfl ?_
  obtain ⟨s4, hs4, h⟩ := bd h
  obtain ⟨ys4, gs4, es4⟩ := wrA_e hs4
  refine WP.iastore (i := 15) (xs := gA s3 14) (H' := (Hb 0 s4)) d4_84 rfl (leb rfl) gs4 (by subst es4; rfl) ?_
  obtain ⟨x5, ex5, h⟩ := lt_e h
  refine WP.iinc (L' := (vR 0 :: vI x5 :: [])) (1 : Int32) d4_85 rfl rfl (by subst ex5; rfl) ?_
  refine WP.goto (pc' := 57) d4_88 (by decide) rfl ?_
  exact WP.weak (L' := (vR 0 :: vI x5 :: [])) ⟨rfl, rfl, trivial⟩ (hk57 x5 s4 _ h)
 ·
  refine WP.icmpY (pc' := 91) d4_61 (XT.ii_ge_t hc1) (by decide) rfl ?_
  refine WP.aloadN d4_91 rfl ?_
  refine WP.aloadN d4_92 rfl ?_
  refine WP.getfield (i := 0) (j := 2) d4_93 (hw _ m_104) rfl rfl rfl ?_
  rcases ite_e h with ⟨hc6, h⟩ | ⟨hc6, h⟩
  ·
   refine WP.ifN d4_96 (XT.i0_le_f hc6) ?_
   refine WP.iconst (1 : Int32) d4_99 rfl ?_
   refine WP.goto (pc' := 104) d4_100 (by decide) rfl ?_
   exact WP.weak (L' := (vR 0 :: vU :: [])) ⟨rfl, trivial⟩ (ok4_104 l Z a0 hw n0 n (1 : Int32) s _ h)
  ·
   refine WP.ifY (pc' := 103) d4_96 (XT.i0_le_t hc6) (by decide) rfl ?_
   refine WP.iconst (0 : Int32) d4_103 rfl ?_
   exact WP.weak (L' := (vR 0 :: vU :: [])) ⟨rfl, trivial⟩ (ok4_104 l Z a0 hw n0 n (0 : Int32) s _ h)
def f_parseProgram_57 : Nat → Int32 → St → Option (Int32 × St)
 | 0 => fun _ _ => none
 | n + 1 => g_parseProgram_57 (f_parseProgram_57 n) n
theorem ok4_57 (l : Launch) (Z : State) (a0 : Array Value) (hw : HW a0 Z) (n0 : Nat) : ∀ (n : Nat) (v1 : Int32) (s : St) (r : Int32 × St), f_parseProgram_57 n v1 s = some r → W4 l Z n0 (P4 r) 0 0 57 (vR 0 :: vI v1 :: []) [] (Hb 0 s)
 | 0, v1, s, r, h => nomatch (show none = some r from h)
 | n + 1, v1, s, r, h => okg4_57 l Z a0 hw n0 _ (ok4_57 l Z a0 hw n0 n) n v1 s r h
def g_parseProgram_2 (k2 : KT2) (n : Nat) (v1 : Int32) (s : St) : Option (Int32 × St) :=
 if v1 < (4 : Int32) then
  (wrA s 3 v1 (0 : Int32)).bind fun s2 =>
  (wrA s2 5 v1 (0 : Int32)).bind fun s3 =>
  (wrA s3 6 v1 (0 : Int32)).bind fun s4 =>
  (wrA s4 7 v1 (0 : Int32)).bind fun s5 =>
  (wrA s5 8 v1 (0 : Int32)).bind fun s6 =>
  (wrA s6 4 v1 (0 : Int32)).bind fun s7 =>
  lt (v1 + (1 : Int32)) fun x8 =>
  k2 x8 s7
 else
  f_parseProgram_57 n (0 : Int32) s
abbrev HK4_2 (l : Launch) (Z : State) (n0 : Nat) (k2 : KT2) : Prop := ∀ (v1 : Int32) (s : St) (r : Int32 × St), k2 v1 s = some r → W4 l Z n0 (P4 r) 0 0 2 (vR 0 :: vI v1 :: []) [] (Hb 0 s)
theorem okg4_2 (l : Launch) (Z : State) (a0 : Array Value) (hw : HW a0 Z) (n0 : Nat) (k2 : KT2) (hk2 : HK4_2 l Z n0 k2) (n : Nat) (v1 : Int32) (s : St) (r : Int32 × St) (h : g_parseProgram_2 k2 n v1 s = some r) : W4 l Z n0 (P4 r) 0 0 2 (vR 0 :: vI v1 :: []) [] (Hb 0 s) := by
 unfold g_parseProgram_2 at h
 refine WP.iloadN d4_2 rfl ?_
 refine WP.iconst (4 : Int32) d4_3 rfl ?_
 rcases ite_e h with ⟨hc1, h⟩ | ⟨hc1, h⟩
 ·
  refine WP.icmpN d4_4 (XT.ii_ge_f hc1) ?_
  refine WP.aloadN d4_7 rfl ?_
  refine WP.getfield (i := 0) (j := 14) d4_8 (hw _ m_17) rfl rfl rfl ?_
  refine WP.iloadN d4_11 rfl ?_
  refine WP.iconst (0 : Int32) d4_12 rfl ?_
  obtain ⟨s2, hs2, h⟩ := bd h
  obtain ⟨ys2, gs2, es2⟩ := wrA_e hs2
  refine WP.bastore (i := 4) (xs := gA s 3) (H' := (Hb 0 s2)) d4_13 rfl (leb rfl) gs2 (by subst es2; rfl) ?_
  refine WP.aloadN d4_14 rfl ?_
  refine WP.getfield (i := 0) (j := 16) d4_15 (hw _ m_21) rfl rfl rfl ?_
  refine WP.iloadN d4_18 rfl ?_
  refine WP.iconst (0 : Int32) d4_19 rfl ?_
  obtain ⟨s3, hs3, h⟩ := bd h
  obtain ⟨ys3, gs3, es3⟩ := wrA_e hs3
  refine WP.iastore (i := 6) (xs := gA s2 5) (H' := (Hb 0 s3)) d4_20 rfl (leb rfl) gs3 (by subst es3; rfl) ?_
  refine WP.aloadN d4_21 rfl ?_
  refine WP.getfield (i := 0) (j := 17) d4_22 (hw _ m_23) rfl rfl rfl ?_
  refine WP.iloadN d4_25 rfl ?_
  refine WP.iconst (0 : Int32) d4_26 rfl ?_
  obtain ⟨s4, hs4, h⟩ := bd h
  obtain ⟨ys4, gs4, es4⟩ := wrA_e hs4
  refine WP.iastore (i := 7) (xs := gA s3 6) (H' := (Hb 0 s4)) d4_27 rfl (leb rfl) gs4 (by subst es4; rfl) ?_
  refine WP.aloadN d4_28 rfl ?_
  refine WP.getfield (i := 0) (j := 18) d4_29 (hw _ m_25) rfl rfl rfl ?_
  refine WP.iloadN d4_32 rfl ?_
  refine WP.iconst (0 : Int32) d4_33 rfl ?_
  obtain ⟨s5, hs5, h⟩ := bd h
  obtain ⟨ys5, gs5, es5⟩ := wrA_e hs5
  refine WP.iastore (i := 8) (xs := gA s4 7) (H' := (Hb 0 s5)) d4_34 rfl (leb rfl) gs5 (by subst es5; rfl) ?_
  refine WP.aloadN d4_35 rfl ?_
  refine WP.getfield (i := 0) (j := 19) d4_36 (hw _ m_27) rfl rfl rfl ?_
  refine WP.iloadN d4_39 rfl ?_
  refine WP.iconst (0 : Int32) d4_40 rfl ?_
  obtain ⟨s6, hs6, h⟩ := bd h
  obtain ⟨ys6, gs6, es6⟩ := wrA_e hs6
  refine WP.iastore (i := 9) (xs := gA s5 8) (H' := (Hb 0 s6)) d4_41 rfl (leb rfl) gs6 (by subst es6; rfl) ?_
  refine WP.aloadN d4_42 rfl ?_
  refine WP.getfield (i := 0) (j := 15) d4_43 (hw _ m_19) rfl rfl rfl ?_
  refine WP.iloadN d4_46 rfl ?_
  refine WP.iconst (0 : Int32) d4_47 rfl ?_
  obtain ⟨s7, hs7, h⟩ := bd h
  obtain ⟨ys7, gs7, es7⟩ := wrA_e hs7
  refine WP.iastore (i := 5) (xs := gA s6 4) (H' := (Hb 0 s7)) d4_48 rfl (leb rfl) gs7 (by subst es7; rfl) ?_
  obtain ⟨x8, ex8, h⟩ := lt_e h
  refine WP.iinc (L' := (vR 0 :: vI x8 :: [])) (1 : Int32) d4_49 rfl rfl (by subst ex8; rfl) ?_
  refine WP.goto (pc' := 2) d4_52 (by decide) rfl ?_
  exact WP.weak (L' := (vR 0 :: vI x8 :: [])) ⟨rfl, rfl, trivial⟩ (hk2 x8 s7 _ h)
 ·
  refine WP.icmpY (pc' := 55) d4_4 (XT.ii_ge_t hc1) (by decide) rfl ?_
  refine WP.iconst (0 : Int32) d4_55 rfl ?_
  refine WP.istoreN (L' := (vR 0 :: vI (0 : Int32) :: [])) d4_56 (leb rfl) rfl ?_
  exact WP.weak (L' := (vR 0 :: vI (0 : Int32) :: [])) ⟨rfl, rfl, trivial⟩ (ok4_57 l Z a0 hw n0 n (0 : Int32) s _ h)
def f_parseProgram_2 : Nat → Int32 → St → Option (Int32 × St)
 | 0 => fun _ _ => none
 | n + 1 => g_parseProgram_2 (f_parseProgram_2 n) n
theorem ok4_2 (l : Launch) (Z : State) (a0 : Array Value) (hw : HW a0 Z) (n0 : Nat) : ∀ (n : Nat) (v1 : Int32) (s : St) (r : Int32 × St), f_parseProgram_2 n v1 s = some r → W4 l Z n0 (P4 r) 0 0 2 (vR 0 :: vI v1 :: []) [] (Hb 0 s)
 | 0, v1, s, r, h => nomatch (show none = some r from h)
 | n + 1, v1, s, r, h => okg4_2 l Z a0 hw n0 _ (ok4_2 l Z a0 hw n0 n) n v1 s r h
def f_parseProgram (n : Nat) (s : St) : Option (Int32 × St) :=
 f_parseProgram_2 n (0 : Int32) s
theorem ok4 (l : Launch) (Z : State) (a0 : Array Value) (hw : HW a0 Z) (n : Nat) (s : St) (r : Int32 × St) (h : f_parseProgram n s = some r) : CS l Z CN lay y4 prog_1_method_18_code 2 (some FieldType.boolean) R4 0 [.ref 0] (Hb 0 s) (P4 r) := by
 refine CS.of_wp pn_cls (leb rfl) fun n0 => ?_
 show W4 l Z n0 (P4 r) 0 0 0 (vR 0 :: vU :: []) [] (Hb 0 s)
 unfold f_parseProgram at h
 refine WP.iconst (0 : Int32) d4_0 rfl ?_
 refine WP.istoreN (L' := (vR 0 :: vI (0 : Int32) :: [])) d4_1 (leb rfl) rfl ?_
 exact WP.weak (L' := (vR 0 :: vI (0 : Int32) :: [])) ⟨rfl, rfl, trivial⟩ (ok4_2 l Z a0 hw n0 n (0 : Int32) s _ h)
theorem d3_0 : dc k2 0 (.aload_n 0) 1 := by decide +kernel
theorem d3_1 : dc k2 1 (.invokevirtual 117) 3 := by decide +kernel
theorem d3_4 : dc k2 4 (.aload_n 0) 1 := by decide +kernel
theorem d3_5 : dc k2 5 (.aload_n 0) 1 := by decide +kernel
theorem d3_6 : dc k2 6 (.invokevirtual 127) 3 := by decide +kernel
theorem d3_9 : dc k2 9 (.putfield 123) 3 := by decide +kernel
theorem d3_12 : dc k2 12 (.aload_n 0) 1 := by decide +kernel
theorem d3_13 : dc k2 13 (.getfield 123) 3 := by decide +kernel
theorem d3_16 : dc k2 16 (.ireturn) 1 := by decide +kernel
abbrev y3 : MethodName := ⟨"FatPointerC", "compile", "()Z"⟩
theorem hy3 : y3.cls ≠ "java/lang/invoke/MethodHandle" ∧ y3.cls ≠ "java/lang/invoke/VarHandle" := by decide
theorem pd3 : parseMethodDescriptor y3.desc = some ⟨[], some .boolean⟩ := by decide +kernel
abbrev R3 : Room := { frames := 12, cells := 0, slots := 0, locals := 161 }
abbrev P3 (r : Int32 × St) : Option Value → List OwnC → Prop := fun v H' => v = some (.int r.1) ∧ H' = (Hb 0 r.2)
abbrev W3 (l : Launch) (Z : State) (n0 : Nat) (Q : Option Value → List OwnC → Prop) (k n pc : Nat) (L : List Slot) (S : List Value) (H : List OwnC) : Prop := WP l Z CN lay "FatPointerC" "compile" prog_1_method_5_code 1 (some FieldType.boolean) R3 n0 0 Q k n pc L S H
def f_compile (n : Nat) (s : St) : Option (Int32 × St) :=
 (f_clearResults s).bind fun c1 =>
 (f_parseProgram n c1).bind fun c2 =>
 lt (sI c2.2 3 (c2.1 &&& 1)) fun s3 =>
 some ((gI s3 3) &&& 1, s3)
theorem ok3 (l : Launch) (Z : State) (a0 : Array Value) (hw : HW a0 Z) (n : Nat) (s : St) (r : Int32 × St) (h : f_compile n s = some r) : CS l Z CN lay y3 prog_1_method_5_code 1 (some FieldType.boolean) R3 0 [.ref 0] (Hb 0 s) (P3 r) := by
 refine CS.of_wp pn_cls (leb rfl) fun n0 => ?_
 show W3 l Z n0 (P3 r) 0 0 0 (vR 0 :: []) [] (Hb 0 s)
 unfold f_compile at h
 refine WP.aloadN d3_0 rfl ?_
 obtain ⟨c1, hc1, h⟩ := bd h
 refine WP.callP (i := 0) (y := y1) (as := []) (S := []) d3_1 (hw _ m_81) (hw _ m_83) (hw _ m_1) (hw _ m_82) (hw _ m_84) (hw _ m_2) hy1 rfl (ok1 l Z a0 hw s _ hc1) rfl (lenOf pd1 rfl) (leb rfl) (leb rfl) (leb rfl) (leb rfl) ?_
 rintro _ _ ⟨rfl, rfl⟩
 show W3 l Z n0 (P3 r) 0 0 4 (vR 0 :: []) [] (Hb 0 c1)
 refine WP.aloadN d3_4 rfl ?_
 refine WP.aloadN d3_5 rfl ?_
 obtain ⟨c2, hc2, h⟩ := bd h
 refine WP.callP (i := 0) (y := y4) (as := []) (S := [.ref 0]) d3_6 (hw _ m_113) (hw _ m_115) (hw _ m_1) (hw _ m_114) (hw _ m_116) (hw _ m_2) hy4 rfl (ok4 l Z a0 hw n c1 _ hc2) rfl (lenOf pd4 rfl) (leb rfl) (leb rfl) (leb rfl) (leb rfl) ?_
 rintro _ _ ⟨rfl, rfl⟩
 show W3 l Z n0 (P3 r) 0 0 9 (vR 0 :: []) [.int c2.1, .ref 0] (Hb 0 c2.2)
 obtain ⟨s3, es3, h⟩ := lt_e h
 refine WP.putZ (i := 0) (j := 5) (H' := (Hb 0 s3)) d3_9 (hw _ m_106) (Or.inl (hw _ m_107)) (hw _ m_1) (hlay hw) rfl rfl rfl (leb rfl) (by subst es3; rfl) ?_
 refine WP.aloadN d3_12 rfl ?_
 refine WP.getfield (i := 0) (j := 5) d3_13 (hw _ m_106) rfl rfl rfl ?_
 cases h
 exact WP.zreturn d3_16 rfl (leb rfl) (leb rfl) ⟨rfl, rfl⟩
theorem d50_0 : dc k31 0 (.aload_n 0) 1 := by decide +kernel
theorem d50_1 : dc k31 1 (.iload_n 1) 1 := by decide +kernel
theorem d50_2 : dc k31 2 (.putfield 150) 3 := by decide +kernel
theorem d50_5 : dc k31 5 (.aload_n 0) 1 := by decide +kernel
theorem d50_6 : dc k31 6 (.iload_n 2) 1 := by decide +kernel
theorem d50_7 : dc k31 7 (.putfield 162) 3 := by decide +kernel
theorem d50_10 : dc k31 10 (.aload_n 0) 1 := by decide +kernel
theorem d50_11 : dc k31 11 (.aload_n 0) 1 := by decide +kernel
theorem d50_12 : dc k31 12 (.getfield 131) 3 := by decide +kernel
theorem d50_15 : dc k31 15 (.putfield 165) 3 := by decide +kernel
theorem d50_18 : dc k31 18 (.aload_n 0) 1 := by decide +kernel
theorem d50_19 : dc k31 19 (.iconst 0) 1 := by decide +kernel
theorem d50_20 : dc k31 20 (.putfield 143) 3 := by decide +kernel
theorem d50_23 : dc k31 23 (.return_) 1 := by decide +kernel
abbrev y50 : MethodName := ⟨"FatPointerC", "trap", "(II)V"⟩
theorem hy50 : y50.cls ≠ "java/lang/invoke/MethodHandle" ∧ y50.cls ≠ "java/lang/invoke/VarHandle" := by decide
theorem pd50 : parseMethodDescriptor y50.desc = some ⟨[.int, .int], none⟩ := by decide +kernel
abbrev R50 : Room := { frames := 0, cells := 0, slots := 0, locals := 0 }
abbrev P50 (r : St) : Option Value → List OwnC → Prop := fun v H' => v = none ∧ H' = (Hb 0 r)
abbrev W50 (l : Launch) (Z : State) (n0 : Nat) (Q : Option Value → List OwnC → Prop) (k n pc : Nat) (L : List Slot) (S : List Value) (H : List OwnC) : Prop := WP l Z CN lay "FatPointerC" "trap" prog_1_method_37_code 3 (none) R50 n0 0 Q k n pc L S H
def f_trap (p1 p2 : Int32) (s : St) : Option (St) :=
 lt (sI s 4 p1) fun s1 =>
 lt (sI s1 5 p2) fun s2 =>
 lt (sI s2 6 (gI s2 15)) fun s3 =>
 lt (sI s3 18 (0 : Int32)) fun s4 =>
 some s4
theorem ok50 (l : Launch) (Z : State) (a0 : Array Value) (hw : HW a0 Z) (p1 p2 : Int32) (s r : St) (h : f_trap p1 p2 s = some r) : CS l Z CN lay y50 prog_1_method_37_code 3 (none) R50 0 [.ref 0, .int p1, .int p2] (Hb 0 s) (P50 r) := by
 refine CS.of_wp pn_cls (leb rfl) fun n0 => ?_
 show W50 l Z n0 (P50 r) 0 0 0 (vR 0 :: vI p1 :: vI p2 :: []) [] (Hb 0 s)
 unfold f_trap at h
 refine WP.aloadN d50_0 rfl ?_
 refine WP.iloadN d50_1 rfl ?_
 obtain ⟨s1, es1, h⟩ := lt_e h
 refine WP.putI (i := 0) (j := 6) (H' := (Hb 0 s1)) d50_2 (hw _ m_85) (Or.inl (hw _ m_86)) (hw _ m_1) (hlay hw) rfl rfl rfl (leb rfl) (by subst es1; rfl) ?_
 refine WP.aloadN d50_5 rfl ?_
 refine WP.iloadN d50_6 rfl ?_
 obtain ⟨s2, es2, h⟩ := lt_e h
 refine WP.putI (i := 0) (j := 7) (H' := (Hb 0 s2)) d50_7 (hw _ m_87) (Or.inl (hw _ m_88)) (hw _ m_1) (hlay hw) rfl rfl rfl (leb rfl) (by subst es2; rfl) ?_
 refine WP.aloadN d50_10 rfl ?_
 refine WP.aloadN d50_11 rfl ?_
 refine WP.getfield (i := 0) (j := 42) d50_12 (hw _ m_204) rfl rfl rfl ?_
 obtain ⟨s3, es3, h⟩ := lt_e h
 refine WP.putI (i := 0) (j := 8) (H' := (Hb 0 s3)) d50_15 (hw _ m_89) (Or.inl (hw _ m_90)) (hw _ m_1) (hlay hw) rfl rfl rfl (leb rfl) (by subst es3; rfl) ?_
 refine WP.aloadN d50_18 rfl ?_
 refine WP.iconst (0 : Int32) d50_19 rfl ?_
 obtain ⟨s4, es4, h⟩ := lt_e h
 refine WP.putZ (i := 0) (j := 45) (H' := (Hb 0 s4)) d50_20 (hw _ m_212) (Or.inl (hw _ m_213)) (hw _ m_1) (hlay hw) rfl rfl rfl (leb rfl) (by subst es4; rfl) ?_
 cases h
 exact WP.vreturn d50_23 rfl (leb rfl) (leb rfl) ⟨rfl, rfl⟩
theorem d25_0 : dc k49 0 (.aload_n 0) 1 := by decide +kernel
theorem d25_1 : dc k49 1 (.getfield 131) 3 := by decide +kernel
theorem d25_4 : dc k49 4 (.bipush 7) 2 := by decide +kernel
theorem d25_6 : dc k49 6 (.iand) 1 := by decide +kernel
theorem d25_7 : dc k49 7 (.istore 4) 2 := by decide +kernel
theorem d25_9 : dc k49 9 (.aload_n 0) 1 := by decide +kernel
theorem d25_10 : dc k49 10 (.getfield 77) 3 := by decide +kernel
theorem d25_13 : dc k49 13 (.iload 4) 2 := by decide +kernel
theorem d25_15 : dc k49 15 (.iload_n 1) 1 := by decide +kernel
theorem d25_16 : dc k49 16 (.iastore) 1 := by decide +kernel
theorem d25_17 : dc k49 17 (.aload_n 0) 1 := by decide +kernel
theorem d25_18 : dc k49 18 (.getfield 80) 3 := by decide +kernel
theorem d25_21 : dc k49 21 (.iload 4) 2 := by decide +kernel
theorem d25_23 : dc k49 23 (.aload_n 0) 1 := by decide +kernel
theorem d25_24 : dc k49 24 (.getfield 137) 3 := by decide +kernel
theorem d25_27 : dc k49 27 (.iastore) 1 := by decide +kernel
theorem d25_28 : dc k49 28 (.aload_n 0) 1 := by decide +kernel
theorem d25_29 : dc k49 29 (.getfield 83) 3 := by decide +kernel
theorem d25_32 : dc k49 32 (.iload 4) 2 := by decide +kernel
theorem d25_34 : dc k49 34 (.aload_n 0) 1 := by decide +kernel
theorem d25_35 : dc k49 35 (.getfield 134) 3 := by decide +kernel
theorem d25_38 : dc k49 38 (.iastore) 1 := by decide +kernel
theorem d25_39 : dc k49 39 (.aload_n 0) 1 := by decide +kernel
theorem d25_40 : dc k49 40 (.getfield 86) 3 := by decide +kernel
theorem d25_43 : dc k49 43 (.iload 4) 2 := by decide +kernel
theorem d25_45 : dc k49 45 (.iload_n 2) 1 := by decide +kernel
theorem d25_46 : dc k49 46 (.iastore) 1 := by decide +kernel
theorem d25_47 : dc k49 47 (.aload_n 0) 1 := by decide +kernel
theorem d25_48 : dc k49 48 (.getfield 89) 3 := by decide +kernel
theorem d25_51 : dc k49 51 (.iload 4) 2 := by decide +kernel
theorem d25_53 : dc k49 53 (.iload_n 3) 1 := by decide +kernel
theorem d25_54 : dc k49 54 (.iastore) 1 := by decide +kernel
theorem d25_55 : dc k49 55 (.aload_n 0) 1 := by decide +kernel
theorem d25_56 : dc k49 56 (.getfield 134) 3 := by decide +kernel
theorem d25_59 : dc k49 59 (.istore 5) 2 := by decide +kernel
theorem d25_61 : dc k49 61 (.aload_n 0) 1 := by decide +kernel
theorem d25_62 : dc k49 62 (.getfield 29) 3 := by decide +kernel
theorem d25_65 : dc k49 65 (.iload_n 1) 1 := by decide +kernel
theorem d25_66 : dc k49 66 (.iaload) 1 := by decide +kernel
theorem d25_67 : dc k49 67 (.istore 6) 2 := by decide +kernel
theorem d25_69 : dc k49 69 (.iconst 0) 1 := by decide +kernel
theorem d25_70 : dc k49 70 (.istore 7) 2 := by decide +kernel
theorem d25_72 : dc k49 72 (.iload 7) 2 := by decide +kernel
theorem d25_74 : dc k49 74 (.iload 6) 2 := by decide +kernel
theorem d25_76 : dc k49 76 (.if_icmp .ge 126) 3 := by decide +kernel
theorem d25_79 : dc k49 79 (.iload 7) 2 := by decide +kernel
theorem d25_81 : dc k49 81 (.bipush 8) 2 := by decide +kernel
theorem d25_83 : dc k49 83 (.if_icmp .ge 119) 3 := by decide +kernel
theorem d25_86 : dc k49 86 (.aload_n 0) 1 := by decide +kernel
theorem d25_87 : dc k49 87 (.getfield 137) 3 := by decide +kernel
theorem d25_90 : dc k49 90 (.iload 7) 2 := by decide +kernel
theorem d25_92 : dc k49 92 (.iadd) 1 := by decide +kernel
theorem d25_93 : dc k49 93 (.sipush 4095) 3 := by decide +kernel
theorem d25_96 : dc k49 96 (.iand) 1 := by decide +kernel
theorem d25_97 : dc k49 97 (.istore 8) 2 := by decide +kernel
theorem d25_99 : dc k49 99 (.aload_n 0) 1 := by decide +kernel
theorem d25_100 : dc k49 100 (.getfield 44) 3 := by decide +kernel
theorem d25_103 : dc k49 103 (.iload_n 1) 1 := by decide +kernel
theorem d25_104 : dc k49 104 (.bipush 8) 2 := by decide +kernel
theorem d25_106 : dc k49 106 (.imul) 1 := by decide +kernel
theorem d25_107 : dc k49 107 (.iload 7) 2 := by decide +kernel
theorem d25_109 : dc k49 109 (.iadd) 1 := by decide +kernel
theorem d25_110 : dc k49 110 (.iaload) 1 := by decide +kernel
theorem d25_111 : dc k49 111 (.istore 9) 2 := by decide +kernel
theorem d25_113 : dc k49 113 (.aload_n 0) 1 := by decide +kernel
theorem d25_114 : dc k49 114 (.getfield 68) 3 := by decide +kernel
theorem d25_117 : dc k49 117 (.iload 8) 2 := by decide +kernel
theorem d25_119 : dc k49 119 (.iload 5) 2 := by decide +kernel
theorem d25_121 : dc k49 121 (.iastore) 1 := by decide +kernel
theorem d25_122 : dc k49 122 (.aload_n 0) 1 := by decide +kernel
theorem d25_123 : dc k49 123 (.getfield 71) 3 := by decide +kernel
theorem d25_126 : dc k49 126 (.iload 8) 2 := by decide +kernel
theorem d25_128 : dc k49 128 (.iload 9) 2 := by decide +kernel
theorem d25_130 : dc k49 130 (.iastore) 1 := by decide +kernel
theorem d25_131 : dc k49 131 (.aload_n 0) 1 := by decide +kernel
theorem d25_132 : dc k49 132 (.getfield 74) 3 := by decide +kernel
theorem d25_135 : dc k49 135 (.iload 8) 2 := by decide +kernel
theorem d25_137 : dc k49 137 (.iconst 1) 1 := by decide +kernel
theorem d25_138 : dc k49 138 (.bastore) 1 := by decide +kernel
theorem d25_139 : dc k49 139 (.iconst 0) 1 := by decide +kernel
theorem d25_140 : dc k49 140 (.istore 10) 2 := by decide +kernel
theorem d25_142 : dc k49 142 (.iload 10) 2 := by decide +kernel
theorem d25_144 : dc k49 144 (.iload 9) 2 := by decide +kernel
theorem d25_146 : dc k49 146 (.if_icmp .ge 43) 3 := by decide +kernel
theorem d25_149 : dc k49 149 (.iload 5) 2 := by decide +kernel
theorem d25_151 : dc k49 151 (.iload 10) 2 := by decide +kernel
theorem d25_153 : dc k49 153 (.iadd) 1 := by decide +kernel
theorem d25_154 : dc k49 154 (.bipush 63) 2 := by decide +kernel
theorem d25_156 : dc k49 156 (.iand) 1 := by decide +kernel
theorem d25_157 : dc k49 157 (.istore 11) 2 := by decide +kernel
theorem d25_159 : dc k49 159 (.aload_n 0) 1 := by decide +kernel
theorem d25_160 : dc k49 160 (.getfield 59) 3 := by decide +kernel
theorem d25_163 : dc k49 163 (.iload 11) 2 := by decide +kernel
theorem d25_165 : dc k49 165 (.iconst 0) 1 := by decide +kernel
theorem d25_166 : dc k49 166 (.iastore) 1 := by decide +kernel
theorem d25_167 : dc k49 167 (.aload_n 0) 1 := by decide +kernel
theorem d25_168 : dc k49 168 (.getfield 62) 3 := by decide +kernel
theorem d25_171 : dc k49 171 (.iload 11) 2 := by decide +kernel
theorem d25_173 : dc k49 173 (.iconst 0) 1 := by decide +kernel
theorem d25_174 : dc k49 174 (.iastore) 1 := by decide +kernel
theorem d25_175 : dc k49 175 (.aload_n 0) 1 := by decide +kernel
theorem d25_176 : dc k49 176 (.getfield 65) 3 := by decide +kernel
theorem d25_179 : dc k49 179 (.iload 11) 2 := by decide +kernel
theorem d25_181 : dc k49 181 (.iconst 0) 1 := by decide +kernel
theorem d25_182 : dc k49 182 (.iastore) 1 := by decide +kernel
theorem d25_183 : dc k49 183 (.iinc 10 1) 3 := by decide +kernel
theorem d25_186 : dc k49 186 (.goto (-44)) 3 := by decide +kernel
theorem d25_189 : dc k49 189 (.iload 5) 2 := by decide +kernel
theorem d25_191 : dc k49 191 (.iload 9) 2 := by decide +kernel
theorem d25_193 : dc k49 193 (.iadd) 1 := by decide +kernel
theorem d25_194 : dc k49 194 (.istore 5) 2 := by decide +kernel
theorem d25_196 : dc k49 196 (.iinc 7 1) 3 := by decide +kernel
theorem d25_199 : dc k49 199 (.goto (-127)) 3 := by decide +kernel
theorem d25_202 : dc k49 202 (.iconst 0) 1 := by decide +kernel
theorem d25_203 : dc k49 203 (.istore 7) 2 := by decide +kernel
theorem d25_205 : dc k49 205 (.iload 7) 2 := by decide +kernel
theorem d25_207 : dc k49 207 (.aload_n 0) 1 := by decide +kernel
theorem d25_208 : dc k49 208 (.getfield 26) 3 := by decide +kernel
theorem d25_211 : dc k49 211 (.iload_n 1) 1 := by decide +kernel
theorem d25_212 : dc k49 212 (.iaload) 1 := by decide +kernel
theorem d25_213 : dc k49 213 (.if_icmp .ge 79) 3 := by decide +kernel
theorem d25_216 : dc k49 216 (.iload 7) 2 := by decide +kernel
theorem d25_218 : dc k49 218 (.bipush 8) 2 := by decide +kernel
theorem d25_220 : dc k49 220 (.if_icmp .ge 72) 3 := by decide +kernel
theorem d25_223 : dc k49 223 (.aload_n 0) 1 := by decide +kernel
theorem d25_224 : dc k49 224 (.getfield 68) 3 := by decide +kernel
theorem d25_227 : dc k49 227 (.aload_n 0) 1 := by decide +kernel
theorem d25_228 : dc k49 228 (.getfield 137) 3 := by decide +kernel
theorem d25_231 : dc k49 231 (.iload 7) 2 := by decide +kernel
theorem d25_233 : dc k49 233 (.iadd) 1 := by decide +kernel
theorem d25_234 : dc k49 234 (.sipush 4095) 3 := by decide +kernel
theorem d25_237 : dc k49 237 (.iand) 1 := by decide +kernel
theorem d25_238 : dc k49 238 (.iaload) 1 := by decide +kernel
theorem d25_239 : dc k49 239 (.bipush 63) 2 := by decide +kernel
theorem d25_241 : dc k49 241 (.iand) 1 := by decide +kernel
theorem d25_242 : dc k49 242 (.istore 8) 2 := by decide +kernel
theorem d25_244 : dc k49 244 (.aload_n 0) 1 := by decide +kernel
theorem d25_245 : dc k49 245 (.getfield 59) 3 := by decide +kernel
theorem d25_248 : dc k49 248 (.iload 8) 2 := by decide +kernel
theorem d25_250 : dc k49 250 (.aload_n 0) 1 := by decide +kernel
theorem d25_251 : dc k49 251 (.getfield 101) 3 := by decide +kernel
theorem d25_254 : dc k49 254 (.iload 7) 2 := by decide +kernel
theorem d25_256 : dc k49 256 (.iaload) 1 := by decide +kernel
theorem d25_257 : dc k49 257 (.iastore) 1 := by decide +kernel
theorem d25_258 : dc k49 258 (.aload_n 0) 1 := by decide +kernel
theorem d25_259 : dc k49 259 (.getfield 62) 3 := by decide +kernel
theorem d25_262 : dc k49 262 (.iload 8) 2 := by decide +kernel
theorem d25_264 : dc k49 264 (.aload_n 0) 1 := by decide +kernel
theorem d25_265 : dc k49 265 (.getfield 104) 3 := by decide +kernel
theorem d25_268 : dc k49 268 (.iload 7) 2 := by decide +kernel
theorem d25_270 : dc k49 270 (.iaload) 1 := by decide +kernel
theorem d25_271 : dc k49 271 (.iastore) 1 := by decide +kernel
theorem d25_272 : dc k49 272 (.aload_n 0) 1 := by decide +kernel
theorem d25_273 : dc k49 273 (.getfield 65) 3 := by decide +kernel
theorem d25_276 : dc k49 276 (.iload 8) 2 := by decide +kernel
theorem d25_278 : dc k49 278 (.aload_n 0) 1 := by decide +kernel
theorem d25_279 : dc k49 279 (.getfield 107) 3 := by decide +kernel
theorem d25_282 : dc k49 282 (.iload 7) 2 := by decide +kernel
theorem d25_284 : dc k49 284 (.iaload) 1 := by decide +kernel
theorem d25_285 : dc k49 285 (.iastore) 1 := by decide +kernel
theorem d25_286 : dc k49 286 (.iinc 7 1) 3 := by decide +kernel
theorem d25_289 : dc k49 289 (.goto (-84)) 3 := by decide +kernel
theorem d25_292 : dc k49 292 (.aload_n 0) 1 := by decide +kernel
theorem d25_293 : dc k49 293 (.dup) 1 := by decide +kernel
theorem d25_294 : dc k49 294 (.getfield 137) 3 := by decide +kernel
theorem d25_297 : dc k49 297 (.iload 6) 2 := by decide +kernel
theorem d25_299 : dc k49 299 (.iadd) 1 := by decide +kernel
theorem d25_300 : dc k49 300 (.putfield 137) 3 := by decide +kernel
theorem d25_303 : dc k49 303 (.aload_n 0) 1 := by decide +kernel
theorem d25_304 : dc k49 304 (.dup) 1 := by decide +kernel
theorem d25_305 : dc k49 305 (.getfield 134) 3 := by decide +kernel
theorem d25_308 : dc k49 308 (.aload_n 0) 1 := by decide +kernel
theorem d25_309 : dc k49 309 (.getfield 32) 3 := by decide +kernel
theorem d25_312 : dc k49 312 (.iload_n 1) 1 := by decide +kernel
theorem d25_313 : dc k49 313 (.iaload) 1 := by decide +kernel
theorem d25_314 : dc k49 314 (.iadd) 1 := by decide +kernel
theorem d25_315 : dc k49 315 (.putfield 134) 3 := by decide +kernel
theorem d25_318 : dc k49 318 (.aload_n 0) 1 := by decide +kernel
theorem d25_319 : dc k49 319 (.iload 4) 2 := by decide +kernel
theorem d25_321 : dc k49 321 (.iconst 1) 1 := by decide +kernel
theorem d25_322 : dc k49 322 (.iadd) 1 := by decide +kernel
theorem d25_323 : dc k49 323 (.putfield 131) 3 := by decide +kernel
theorem d25_326 : dc k49 326 (.return_) 1 := by decide +kernel
abbrev y25 : MethodName := ⟨"FatPointerC", "pushFrame", "(III)V"⟩
theorem hy25 : y25.cls ≠ "java/lang/invoke/MethodHandle" ∧ y25.cls ≠ "java/lang/invoke/VarHandle" := by decide
theorem pd25 : parseMethodDescriptor y25.desc = some ⟨[.int, .int, .int], none⟩ := by decide +kernel
abbrev R25 : Room := { frames := 0, cells := 0, slots := 0, locals := 0 }
abbrev P25 (r : St) : Option Value → List OwnC → Prop := fun v H' => v = none ∧ H' = (Hb 0 r)
abbrev W25 (l : Launch) (Z : State) (n0 : Nat) (Q : Option Value → List OwnC → Prop) (k n pc : Nat) (L : List Slot) (S : List Value) (H : List OwnC) : Prop := WP l Z CN lay "FatPointerC" "pushFrame" prog_1_method_65_code 12 (none) R25 n0 0 Q k n pc L S H
def g_pushFrame_142 (k72 : KT3) (k142 : KT5) (n : Nat) (v1 v4 v5 v6 v7 v9 v10 : Int32) (s : St) : Option (St) :=
 if v10 < v9 then
  lt ((v5 + v10) &&& (63 : Int32)) fun x2 =>
  (wrA s 16 x2 (0 : Int32)).bind fun s3 =>
  (wrA s3 17 x2 (0 : Int32)).bind fun s4 =>
  (wrA s4 18 x2 (0 : Int32)).bind fun s5 =>
  lt (v10 + (1 : Int32)) fun x6 =>
  k142 v1 v4 v5 v6 v7 v9 x6 s5
 else
  lt (v5 + v9) fun x7 =>
  lt (v7 + (1 : Int32)) fun x8 =>
  k72 v1 v4 x7 v6 x8 s
abbrev HK25_72 (l : Launch) (Z : State) (n0 : Nat) (k72 : KT3) : Prop := ∀ (v1 v4 v5 v6 v7 : Int32) (s r : St), k72 v1 v4 v5 v6 v7 s = some r → W25 l Z n0 (P25 r) 0 0 72 (vR 0 :: vI v1 :: vU :: vU :: vI v4 :: vI v5 :: vI v6 :: vI v7 :: vU :: vU :: vU :: vU :: []) [] (Hb 0 s)
abbrev HK25_142 (l : Launch) (Z : State) (n0 : Nat) (k142 : KT5) : Prop := ∀ (v1 v4 v5 v6 v7 v9 v10 : Int32) (s r : St), k142 v1 v4 v5 v6 v7 v9 v10 s = some r → W25 l Z n0 (P25 r) 0 0 142 (vR 0 :: vI v1 :: vU :: vU :: vI v4 :: vI v5 :: vI v6 :: vI v7 :: vU :: vI v9 :: vI v10 :: vU :: []) [] (Hb 0 s)
theorem okg25_142 (l : Launch) (Z : State) (a0 : Array Value) (hw : HW a0 Z) (n0 : Nat) (k72 : KT3) (hk72 : HK25_72 l Z n0 k72) (k142 : KT5) (hk142 : HK25_142 l Z n0 k142) (n : Nat) (v1 v4 v5 v6 v7 v9 v10 : Int32) (s r : St) (h : g_pushFrame_142 k72 k142 n v1 v4 v5 v6 v7 v9 v10 s = some r) : W25 l Z n0 (P25 r) 0 0 142 (vR 0 :: vI v1 :: vU :: vU :: vI v4 :: vI v5 :: vI v6 :: vI v7 :: vU :: vI v9 :: vI v10 :: vU :: []) [] (Hb 0 s) := by
 unfold g_pushFrame_142 at h
 refine WP.iload d25_142 rfl ?_
 refine WP.iload d25_144 rfl ?_
 rcases ite_e h with ⟨hc1, h⟩ | ⟨hc1, h⟩
 ·
  refine WP.icmpN d25_146 (XT.ii_ge_f hc1) ?_
  refine WP.iload d25_149 rfl ?_
  refine WP.iload d25_151 rfl ?_
  refine WP.iadd d25_153 ?_
  refine WP.bipush (63 : Int32) d25_154 rfl ?_
  refine WP.iand d25_156 ?_
  obtain ⟨x2, ex2, h⟩ := lt_e h
  refine WP.istore (L' := (vR 0 :: vI v1 :: vU :: vU :: vI v4 :: vI v5 :: vI v6 :: vI v7 :: vU :: vI v9 :: vI v10 :: vI x2 :: [])) d25_157 (leb rfl) (by subst ex2; rfl) ?_
  refine WP.aloadN d25_159 rfl ?_
  refine WP.getfield (i := 0) (j := 30) d25_160 (hw _ m_43) rfl rfl rfl ?_
  refine WP.iload d25_163 rfl ?_
  refine WP.iconst (0 : Int32) d25_165 rfl ?_
  obtain ⟨s3, hs3, h⟩ := bd h
  obtain ⟨ys3, gs3, es3⟩ := wrA_e hs3
  refine WP.iastore (i := 17) (xs := gA s 16) (H' := (Hb 0 s3)) d25_166 rfl (leb rfl) gs3 (by subst es3; rfl) ?_
  refine WP.aloadN d25_167 rfl ?_
  refine WP.getfield (i := 0) (j := 31) d25_168 (hw _ m_45) rfl rfl rfl ?_
  refine WP.iload d25_171 rfl ?_
  refine WP.iconst (0 : Int32) d25_173 rfl ?_
  obtain ⟨s4, hs4, h⟩ := bd h
  obtain ⟨ys4, gs4, es4⟩ := wrA_e hs4
  refine WP.iastore (i := 18) (xs := gA s3 17) (H' := (Hb 0 s4)) d25_174 rfl (leb rfl) gs4 (by subst es4; rfl) ?_
  refine WP.aloadN d25_175 rfl ?_
  refine WP.getfield (i := 0) (j := 32) d25_176 (hw _ m_47) rfl rfl rfl ?_
  refine WP.iload d25_179 rfl ?_
  refine WP.iconst (0 : Int32) d25_181 rfl ?_
  obtain ⟨s5, hs5, h⟩ := bd h
  obtain ⟨ys5, gs5, es5⟩ := wrA_e hs5
  refine WP.iastore (i := 19) (xs := gA s4 18) (H' := (Hb 0 s5)) d25_182 rfl (leb rfl) gs5 (by subst es5; rfl) ?_
  obtain ⟨x6, ex6, h⟩ := lt_e h
  refine WP.iinc (L' := (vR 0 :: vI v1 :: vU :: vU :: vI v4 :: vI v5 :: vI v6 :: vI v7 :: vU :: vI v9 :: vI x6 :: vI x2 :: [])) (1 : Int32) d25_183 rfl rfl (by subst ex6; rfl) ?_
  refine WP.goto (pc' := 142) d25_186 (by decide) rfl ?_
  exact WP.weak (L' := (vR 0 :: vI v1 :: vU :: vU :: vI v4 :: vI v5 :: vI v6 :: vI v7 :: vU :: vI v9 :: vI x6 :: vU :: [])) ⟨rfl, rfl, rfl, rfl, rfl, rfl, rfl, rfl, trivial⟩ (hk142 v1 v4 v5 v6 v7 v9 x6 s5 _ h)
 ·
  refine WP.icmpY (pc' := 189) d25_146 (XT.ii_ge_t hc1) (by decide) rfl ?_
  refine WP.iload d25_189 rfl ?_
  refine WP.iload d25_191 rfl ?_
  refine WP.iadd d25_193 ?_
  obtain ⟨x7, ex7, h⟩ := lt_e h
  refine WP.istore (L' := (vR 0 :: vI v1 :: vU :: vU :: vI v4 :: vI x7 :: vI v6 :: vI v7 :: vU :: vI v9 :: vI v10 :: vU :: [])) d25_194 (leb rfl) (by subst ex7; rfl) ?_
  obtain ⟨x8, ex8, h⟩ := lt_e h
  refine WP.iinc (L' := (vR 0 :: vI v1 :: vU :: vU :: vI v4 :: vI x7 :: vI v6 :: vI x8 :: vU :: vI v9 :: vI v10 :: vU :: [])) (1 : Int32) d25_196 rfl rfl (by subst ex8; rfl) ?_
  refine WP.goto (pc' := 72) d25_199 (by decide) rfl ?_
  exact WP.weak (L' := (vR 0 :: vI v1 :: vU :: vU :: vI v4 :: vI x7 :: vI v6 :: vI x8 :: vU :: vU :: vU :: vU :: [])) ⟨rfl, rfl, rfl, rfl, rfl, rfl, trivial⟩ (hk72 v1 v4 x7 v6 x8 s _ h)
def f_pushFrame_142 (k72 : KT3) : Nat → Int32 → Int32 → Int32 → Int32 → Int32 → Int32 → Int32 → St → Option (St)
 | 0 => fun _ _ _ _ _ _ _ _ => none
 | n + 1 => g_pushFrame_142 k72 (f_pushFrame_142 k72 n) n
theorem ok25_142 (l : Launch) (Z : State) (a0 : Array Value) (hw : HW a0 Z) (n0 : Nat) (k72 : KT3) (hk72 : HK25_72 l Z n0 k72) : ∀ (n : Nat) (v1 v4 v5 v6 v7 v9 v10 : Int32) (s r : St), f_pushFrame_142 k72 n v1 v4 v5 v6 v7 v9 v10 s = some r → W25 l Z n0 (P25 r) 0 0 142 (vR 0 :: vI v1 :: vU :: vU :: vI v4 :: vI v5 :: vI v6 :: vI v7 :: vU :: vI v9 :: vI v10 :: vU :: []) [] (Hb 0 s)
 | 0, v1, v4, v5, v6, v7, v9, v10, s, r, h => nomatch (show none = some r from h)
 | n + 1, v1, v4, v5, v6, v7, v9, v10, s, r, h => okg25_142 l Z a0 hw n0 _ hk72 _ (ok25_142 l Z a0 hw n0 k72 hk72 n) n v1 v4 v5 v6 v7 v9 v10 s r h
def f_pushFrame_292 (n : Nat) (v1 v4 v6 : Int32) (s : St) : Option (St) :=
 lt (sI s 14 ((gI s 14) + v6)) fun s1 =>
 (rd (gA s1 7) v1).bind fun x2 =>
 lt (sI s1 16 ((gI s1 16) + x2)) fun s3 =>
 lt (sI s3 15 (v4 + (1 : Int32))) fun s4 =>
 some s4
theorem ok25_292 (l : Launch) (Z : State) (a0 : Array Value) (hw : HW a0 Z) (n0 n : Nat) (v1 v4 v6 : Int32) (s r : St) (h : f_pushFrame_292 n v1 v4 v6 s = some r) : W25 l Z n0 (P25 r) 0 0 292 (vR 0 :: vI v1 :: vU :: vU :: vI v4 :: vU :: vI v6 :: vU :: vU :: vU :: vU :: vU :: []) [] (Hb 0 s) := by
 unfold f_pushFrame_292 at h
 refine WP.aloadN d25_292 rfl ?_
 refine WP.dup d25_293 rfl ?_
 refine WP.getfield (i := 0) (j := 36) d25_294 (hw _ m_208) rfl rfl rfl ?_
 refine WP.iload d25_297 rfl ?_
 refine WP.iadd d25_299 ?_
 obtain ⟨s1, es1, h⟩ := lt_e h
 refine WP.putI (i := 0) (j := 36) (H' := (Hb 0 s1)) d25_300 (hw _ m_208) (Or.inl (hw _ m_209)) (hw _ m_1) (hlay hw) rfl rfl rfl (leb rfl) (by subst es1; rfl) ?_
 refine WP.aloadN d25_303 rfl ?_
 refine WP.dup d25_304 rfl ?_
 refine WP.getfield (i := 0) (j := 43) d25_305 (hw _ m_206) rfl rfl rfl ?_
 refine WP.aloadN d25_308 rfl ?_
 refine WP.getfield (i := 0) (j := 18) d25_309 (hw _ m_25) rfl rfl rfl ?_
 refine WP.iloadN d25_312 rfl ?_
 obtain ⟨x2, hx2, h⟩ := bd h
 refine WP.iaload (i := 8) d25_313 rfl hx2 ?_
 refine WP.iadd d25_314 ?_
 obtain ⟨s3, es3, h⟩ := lt_e h
 refine WP.putI (i := 0) (j := 43) (H' := (Hb 0 s3)) d25_315 (hw _ m_206) (Or.inl (hw _ m_207)) (hw _ m_1) (hlay hw) rfl rfl rfl (leb rfl) (by subst es3; rfl) ?_
 refine WP.aloadN d25_318 rfl ?_
 refine WP.iload d25_319 rfl ?_
 refine WP.iconst (1 : Int32) d25_321 rfl ?_
 refine WP.iadd d25_322 ?_
 obtain ⟨s4, es4, h⟩ := lt_e h
 refine WP.putI (i := 0) (j := 42) (H' := (Hb 0 s4)) d25_323 (hw _ m_204) (Or.inl (hw _ m_205)) (hw _ m_1) (hlay hw) rfl rfl rfl (leb rfl) (by subst es4; rfl) ?_
 cases h
 exact WP.vreturn d25_326 rfl (leb rfl) (leb rfl) ⟨rfl, rfl⟩
def g_pushFrame_205 (k205 : KT6) (n : Nat) (v1 v4 v6 v7 : Int32) (s : St) : Option (St) :=
 (rd (gA s 5) v1).bind fun x1 =>
 if v7 < x1 then
  if v7 < (8 : Int32) then
   (rd (gA s 19) (((gI s 14) + v7) &&& (4095 : Int32))).bind fun x4 =>
   lt (x4 &&& (63 : Int32)) fun x5 =>
   (rd (gA s 30) v7).bind fun x6 =>
   (wrA s 16 x5 x6).bind fun s7 =>
   (rd (gA s7 31) v7).bind fun x8 =>
   (wrA s7 17 x5 x8).bind fun s9 =>
   (rd (gA s9 32) v7).bind fun x10 =>
   (wrA s9 18 x5 x10).bind fun s11 =>
   lt (v7 + (1 : Int32)) fun x12 =>
   k205 v1 v4 v6 x12 s11
  else
   f_pushFrame_292 n v1 v4 v6 s
 else
  f_pushFrame_292 n v1 v4 v6 s
abbrev HK25_205 (l : Launch) (Z : State) (n0 : Nat) (k205 : KT6) : Prop := ∀ (v1 v4 v6 v7 : Int32) (s r : St), k205 v1 v4 v6 v7 s = some r → W25 l Z n0 (P25 r) 0 0 205 (vR 0 :: vI v1 :: vU :: vU :: vI v4 :: vU :: vI v6 :: vI v7 :: vU :: vU :: vU :: vU :: []) [] (Hb 0 s)
theorem okg25_205 (l : Launch) (Z : State) (a0 : Array Value) (hw : HW a0 Z) (n0 : Nat) (k205 : KT6) (hk205 : HK25_205 l Z n0 k205) (n : Nat) (v1 v4 v6 v7 : Int32) (s r : St) (h : g_pushFrame_205 k205 n v1 v4 v6 v7 s = some r) : W25 l Z n0 (P25 r) 0 0 205 (vR 0 :: vI v1 :: vU :: vU :: vI v4 :: vU :: vI v6 :: vI v7 :: vU :: vU :: vU :: vU :: []) [] (Hb 0 s) := by
 unfold g_pushFrame_205 at h
 refine WP.iload d25_205 rfl ?_
 refine WP.aloadN d25_207 rfl ?_
 refine WP.getfield (i := 0) (j := 16) d25_208 (hw _ m_21) rfl rfl rfl ?_
 refine WP.iloadN d25_211 rfl ?_
 obtain ⟨x1, hx1, h⟩ := bd h
 refine WP.iaload (i := 6) d25_212 rfl hx1 ?_
 rcases ite_e h with ⟨hc2, h⟩ | ⟨hc2, h⟩
 ·
  refine WP.icmpN d25_213 (XT.ii_ge_f hc2) ?_
  refine WP.iload d25_216 rfl ?_
  refine WP.bipush (8 : Int32) d25_218 rfl ?_
  rcases ite_e h with ⟨hc3, h⟩ | ⟨hc3, h⟩
  ·
   refine WP.icmpN d25_220 (XT.ii_ge_f hc3) ?_
   refine WP.aloadN d25_223 rfl ?_
   refine WP.getfield (i := 0) (j := 33) d25_224 (hw _ m_49) rfl rfl rfl ?_
   refine WP.aloadN d25_227 rfl ?_
   refine WP.getfield (i := 0) (j := 36) d25_228 (hw _ m_208) rfl rfl rfl ?_
   refine WP.iload d25_231 rfl ?_
   refine WP.iadd d25_233 ?_
   refine WP.sipush (4095 : Int32) d25_234 rfl ?_
   refine WP.iand d25_237 ?_
   obtain ⟨x4, hx4, h⟩ := bd h
   refine WP.iaload (i := 20) d25_238 rfl hx4 ?_
   refine WP.bipush (63 : Int32) d25_239 rfl ?_
   refine WP.iand d25_241 ?_
   obtain ⟨x5, ex5, h⟩ := lt_e h
   refine WP.istore (L' := (vR 0 :: vI v1 :: vU :: vU :: vI v4 :: vU :: vI v6 :: vI v7 :: vI x5 :: vU :: vU :: vU :: [])) d25_242 (leb rfl) (by subst ex5; rfl) ?_
   refine WP.aloadN d25_244 rfl ?_
   refine WP.getfield (i := 0) (j := 30) d25_245 (hw _ m_43) rfl rfl rfl ?_
   refine WP.iload d25_248 rfl ?_
   refine WP.aloadN d25_250 rfl ?_
   refine WP.getfield (i := 0) (j := 49) d25_251 (hw _ m_71) rfl rfl rfl ?_
   refine WP.iload d25_254 rfl ?_
   obtain ⟨x6, hx6, h⟩ := bd h
   refine WP.iaload (i := 31) d25_256 rfl hx6 ?_
   obtain ⟨s7, hs7, h⟩ := bd h
   obtain ⟨ys7, gs7, es7⟩ := wrA_e hs7
   refine WP.iastore (i := 17) (xs := gA s 16) (H' := (Hb 0 s7)) d25_257 rfl (leb rfl) gs7 (by subst es7; rfl) ?_
   refine WP.aloadN d25_258 rfl ?_
   refine WP.getfield (i := 0) (j := 31) d25_259 (hw _ m_45) rfl rfl rfl ?_
   refine WP.iload d25_262 rfl ?_
   refine WP.aloadN d25_264 rfl ?_
   refine WP.getfield (i := 0) (j := 50) d25_265 (hw _ m_73) rfl rfl rfl ?_
   refine WP.iload d25_268 rfl ?_
   obtain ⟨x8, hx8, h⟩ := bd h
   refine WP.iaload (i := 32) d25_270 rfl hx8 ?_
   obtain ⟨s9, hs9, h⟩ := bd h
   obtain ⟨ys9, gs9, es9⟩ := wrA_e hs9
   refine WP.iastore (i := 18) (xs := gA s7 17) (H' := (Hb 0 s9)) d25_271 rfl (leb rfl) gs9 (by subst es9; rfl) ?_
   refine WP.aloadN d25_272 rfl ?_
   refine WP.getfield (i := 0) (j := 32) d25_273 (hw _ m_47) rfl rfl rfl ?_
   refine WP.iload d25_276 rfl ?_
   refine WP.aloadN d25_278 rfl ?_
   refine WP.getfield (i := 0) (j := 51) d25_279 (hw _ m_75) rfl rfl rfl ?_
   refine WP.iload d25_282 rfl ?_
   obtain ⟨x10, hx10, h⟩ := bd h
   refine WP.iaload (i := 33) d25_284 rfl hx10 ?_
   obtain ⟨s11, hs11, h⟩ := bd h
   obtain ⟨ys11, gs11, es11⟩ := wrA_e hs11
   refine WP.iastore (i := 19) (xs := gA s9 18) (H' := (Hb 0 s11)) d25_285 rfl (leb rfl) gs11 (by subst es11; rfl) ?_
   obtain ⟨x12, ex12, h⟩ := lt_e h
   refine WP.iinc (L' := (vR 0 :: vI v1 :: vU :: vU :: vI v4 :: vU :: vI v6 :: vI x12 :: vI x5 :: vU :: vU :: vU :: [])) (1 : Int32) d25_286 rfl rfl (by subst ex12; rfl) ?_
   refine WP.goto (pc' := 205) d25_289 (by decide) rfl ?_
   exact WP.weak (L' := (vR 0 :: vI v1 :: vU :: vU :: vI v4 :: vU :: vI v6 :: vI x12 :: vU :: vU :: vU :: vU :: [])) ⟨rfl, rfl, rfl, rfl, rfl, trivial⟩ (hk205 v1 v4 v6 x12 s11 _ h)
  ·
   refine WP.icmpY (pc' := 292) d25_220 (XT.ii_ge_t hc3) (by decide) rfl ?_
   exact WP.weak (L' := (vR 0 :: vI v1 :: vU :: vU :: vI v4 :: vU :: vI v6 :: vU :: vU :: vU :: vU :: vU :: [])) ⟨rfl, rfl, rfl, rfl, trivial⟩ (ok25_292 l Z a0 hw n0 n v1 v4 v6 s _ h)
 ·
  refine WP.icmpY (pc' := 292) d25_213 (XT.ii_ge_t hc2) (by decide) rfl ?_
  exact WP.weak (L' := (vR 0 :: vI v1 :: vU :: vU :: vI v4 :: vU :: vI v6 :: vU :: vU :: vU :: vU :: vU :: [])) ⟨rfl, rfl, rfl, rfl, trivial⟩ (ok25_292 l Z a0 hw n0 n v1 v4 v6 s _ h)
def f_pushFrame_205 : Nat → Int32 → Int32 → Int32 → Int32 → St → Option (St)
 | 0 => fun _ _ _ _ _ => none
 | n + 1 => g_pushFrame_205 (f_pushFrame_205 n) n
theorem ok25_205 (l : Launch) (Z : State) (a0 : Array Value) (hw : HW a0 Z) (n0 : Nat) : ∀ (n : Nat) (v1 v4 v6 v7 : Int32) (s r : St), f_pushFrame_205 n v1 v4 v6 v7 s = some r → W25 l Z n0 (P25 r) 0 0 205 (vR 0 :: vI v1 :: vU :: vU :: vI v4 :: vU :: vI v6 :: vI v7 :: vU :: vU :: vU :: vU :: []) [] (Hb 0 s)
 | 0, v1, v4, v6, v7, s, r, h => nomatch (show none = some r from h)
 | n + 1, v1, v4, v6, v7, s, r, h => okg25_205 l Z a0 hw n0 _ (ok25_205 l Z a0 hw n0 n) n v1 v4 v6 v7 s r h
def f_pushFrame_202 (n : Nat) (v1 v4 v6 : Int32) (s : St) : Option (St) :=
 f_pushFrame_205 n v1 v4 v6 (0 : Int32) s
theorem ok25_202 (l : Launch) (Z : State) (a0 : Array Value) (hw : HW a0 Z) (n0 n : Nat) (v1 v4 v6 : Int32) (s r : St) (h : f_pushFrame_202 n v1 v4 v6 s = some r) : W25 l Z n0 (P25 r) 0 0 202 (vR 0 :: vI v1 :: vU :: vU :: vI v4 :: vU :: vI v6 :: vU :: vU :: vU :: vU :: vU :: []) [] (Hb 0 s) := by
 unfold f_pushFrame_202 at h
 refine WP.iconst (0 : Int32) d25_202 rfl ?_
 refine WP.istore (L' := (vR 0 :: vI v1 :: vU :: vU :: vI v4 :: vU :: vI v6 :: vI (0 : Int32) :: vU :: vU :: vU :: vU :: [])) d25_203 (leb rfl) rfl ?_
 exact WP.weak (L' := (vR 0 :: vI v1 :: vU :: vU :: vI v4 :: vU :: vI v6 :: vI (0 : Int32) :: vU :: vU :: vU :: vU :: [])) ⟨rfl, rfl, rfl, rfl, rfl, trivial⟩ (ok25_205 l Z a0 hw n0 n v1 v4 v6 (0 : Int32) s _ h)
def g_pushFrame_72 (k72 : KT3) (n : Nat) (v1 v4 v5 v6 v7 : Int32) (s : St) : Option (St) :=
 if v7 < v6 then
  if v7 < (8 : Int32) then
   lt (((gI s 14) + v7) &&& (4095 : Int32)) fun x3 =>
   (rd (gA s 11) ((v1 * (8 : Int32)) + v7)).bind fun x4 =>
   (wrA s 19 x3 v5).bind fun s5 =>
   (wrA s5 20 x3 x4).bind fun s6 =>
   (wrA s6 21 x3 (1 : Int32)).bind fun s7 =>
   f_pushFrame_142 k72 n v1 v4 v5 v6 v7 x4 (0 : Int32) s7
  else
   f_pushFrame_202 n v1 v4 v6 s
 else
  f_pushFrame_202 n v1 v4 v6 s
theorem okg25_72 (l : Launch) (Z : State) (a0 : Array Value) (hw : HW a0 Z) (n0 : Nat) (k72 : KT3) (hk72 : HK25_72 l Z n0 k72) (n : Nat) (v1 v4 v5 v6 v7 : Int32) (s r : St) (h : g_pushFrame_72 k72 n v1 v4 v5 v6 v7 s = some r) : W25 l Z n0 (P25 r) 0 0 72 (vR 0 :: vI v1 :: vU :: vU :: vI v4 :: vI v5 :: vI v6 :: vI v7 :: vU :: vU :: vU :: vU :: []) [] (Hb 0 s) := by
 unfold g_pushFrame_72 at h
 refine WP.iload d25_72 rfl ?_
 refine WP.iload d25_74 rfl ?_
 rcases ite_e h with ⟨hc1, h⟩ | ⟨hc1, h⟩
 ·
  refine WP.icmpN d25_76 (XT.ii_ge_f hc1) ?_
  refine WP.iload d25_79 rfl ?_
  refine WP.bipush (8 : Int32) d25_81 rfl ?_
  rcases ite_e h with ⟨hc2, h⟩ | ⟨hc2, h⟩
  ·
   refine WP.icmpN d25_83 (XT.ii_ge_f hc2) ?_
   refine WP.aloadN d25_86 rfl ?_
   refine WP.getfield (i := 0) (j := 36) d25_87 (hw _ m_208) rfl rfl rfl ?_
   refine WP.iload d25_90 rfl ?_
   refine WP.iadd d25_92 ?_
   refine WP.sipush (4095 : Int32) d25_93 rfl ?_
   refine WP.iand d25_96 ?_
   obtain ⟨x3, ex3, h⟩ := lt_e h
   refine WP.istore (L' := (vR 0 :: vI v1 :: vU :: vU :: vI v4 :: vI v5 :: vI v6 :: vI v7 :: vI x3 :: vU :: vU :: vU :: [])) d25_97 (leb rfl) (by subst ex3; rfl) ?_
   refine WP.aloadN d25_99 rfl ?_
   refine WP.getfield (i := 0) (j := 22) d25_100 (hw _ m_33) rfl rfl rfl ?_
   refine WP.iloadN d25_103 rfl ?_
   refine WP.bipush (8 : Int32) d25_104 rfl ?_
   refine WP.imul d25_106 ?_
   refine WP.iload d25_107 rfl ?_
   refine WP.iadd d25_109 ?_
   obtain ⟨x4, hx4, h⟩ := bd h
   refine WP.iaload (i := 12) d25_110 rfl hx4 ?_
   refine WP.istore (L' := (vR 0 :: vI v1 :: vU :: vU :: vI v4 :: vI v5 :: vI v6 :: vI v7 :: vI x3 :: vI x4 :: vU :: vU :: [])) d25_111 (leb rfl) rfl ?_
   refine WP.aloadN d25_113 rfl ?_
   refine WP.getfield (i := 0) (j := 33) d25_114 (hw _ m_49) rfl rfl rfl ?_
   refine WP.iload d25_117 rfl ?_
   refine WP.iload d25_119 rfl ?_
   obtain ⟨s5, hs5, h⟩ := bd h
   obtain ⟨ys5, gs5, es5⟩ := wrA_e hs5
   refine WP.iastore (i := 20) (xs := gA s 19) (H' := (Hb 0 s5)) d25_121 rfl (leb rfl) gs5 (by subst es5; rfl) ?_
   refine WP.aloadN d25_122 rfl ?_
   refine WP.getfield (i := 0) (j := 34) d25_123 (hw _ m_51) rfl rfl rfl ?_
   refine WP.iload d25_126 rfl ?_
   refine WP.iload d25_128 rfl ?_
   obtain ⟨s6, hs6, h⟩ := bd h
   obtain ⟨ys6, gs6, es6⟩ := wrA_e hs6
   refine WP.iastore (i := 21) (xs := gA s5 20) (H' := (Hb 0 s6)) d25_130 rfl (leb rfl) gs6 (by subst es6; rfl) ?_
   refine WP.aloadN d25_131 rfl ?_
   refine WP.getfield (i := 0) (j := 35) d25_132 (hw _ m_53) rfl rfl rfl ?_
   refine WP.iload d25_135 rfl ?_
   refine WP.iconst (1 : Int32) d25_137 rfl ?_
   obtain ⟨s7, hs7, h⟩ := bd h
   obtain ⟨ys7, gs7, es7⟩ := wrA_e hs7
   refine WP.bastore (i := 22) (xs := gA s6 21) (H' := (Hb 0 s7)) d25_138 rfl (leb rfl) gs7 (by subst es7; rfl) ?_
   refine WP.iconst (0 : Int32) d25_139 rfl ?_
   refine WP.istore (L' := (vR 0 :: vI v1 :: vU :: vU :: vI v4 :: vI v5 :: vI v6 :: vI v7 :: vI x3 :: vI x4 :: vI (0 : Int32) :: vU :: [])) d25_140 (leb rfl) rfl ?_
   exact WP.weak (L' := (vR 0 :: vI v1 :: vU :: vU :: vI v4 :: vI v5 :: vI v6 :: vI v7 :: vU :: vI x4 :: vI (0 : Int32) :: vU :: [])) ⟨rfl, rfl, rfl, rfl, rfl, rfl, rfl, rfl, trivial⟩ (ok25_142 l Z a0 hw n0 _ hk72 n v1 v4 v5 v6 v7 x4 (0 : Int32) s7 _ h)
  ·
   refine WP.icmpY (pc' := 202) d25_83 (XT.ii_ge_t hc2) (by decide) rfl ?_
   exact WP.weak (L' := (vR 0 :: vI v1 :: vU :: vU :: vI v4 :: vU :: vI v6 :: vU :: vU :: vU :: vU :: vU :: [])) ⟨rfl, rfl, rfl, rfl, trivial⟩ (ok25_202 l Z a0 hw n0 n v1 v4 v6 s _ h)
 ·
  refine WP.icmpY (pc' := 202) d25_76 (XT.ii_ge_t hc1) (by decide) rfl ?_
  exact WP.weak (L' := (vR 0 :: vI v1 :: vU :: vU :: vI v4 :: vU :: vI v6 :: vU :: vU :: vU :: vU :: vU :: [])) ⟨rfl, rfl, rfl, rfl, trivial⟩ (ok25_202 l Z a0 hw n0 n v1 v4 v6 s _ h)
def f_pushFrame_72 : Nat → Int32 → Int32 → Int32 → Int32 → Int32 → St → Option (St)
 | 0 => fun _ _ _ _ _ _ => none
 | n + 1 => g_pushFrame_72 (f_pushFrame_72 n) n
theorem ok25_72 (l : Launch) (Z : State) (a0 : Array Value) (hw : HW a0 Z) (n0 : Nat) : ∀ (n : Nat) (v1 v4 v5 v6 v7 : Int32) (s r : St), f_pushFrame_72 n v1 v4 v5 v6 v7 s = some r → W25 l Z n0 (P25 r) 0 0 72 (vR 0 :: vI v1 :: vU :: vU :: vI v4 :: vI v5 :: vI v6 :: vI v7 :: vU :: vU :: vU :: vU :: []) [] (Hb 0 s)
 | 0, v1, v4, v5, v6, v7, s, r, h => nomatch (show none = some r from h)
 | n + 1, v1, v4, v5, v6, v7, s, r, h => okg25_72 l Z a0 hw n0 _ (ok25_72 l Z a0 hw n0 n) n v1 v4 v5 v6 v7 s r h
def f_pushFrame (n : Nat) (p1 p2 p3 : Int32) (s : St) : Option (St) :=
 lt ((gI s 15) &&& (7 : Int32)) fun x1 =>
 (wrA s 22 x1 p1).bind fun s2 =>
 (wrA s2 23 x1 (gI s2 14)).bind fun s3 =>
 (wrA s3 24 x1 (gI s3 16)).bind fun s4 =>
 (wrA s4 25 x1 p2).bind fun s5 =>
 (wrA s5 26 x1 p3).bind fun s6 =>
 lt (gI s6 16) fun x7 =>
 (rd (gA s6 6) p1).bind fun x8 =>
 f_pushFrame_72 n p1 x1 x7 x8 (0 : Int32) s6
theorem ok25 (l : Launch) (Z : State) (a0 : Array Value) (hw : HW a0 Z) (n : Nat) (p1 p2 p3 : Int32) (s r : St) (h : f_pushFrame n p1 p2 p3 s = some r) : CS l Z CN lay y25 prog_1_method_65_code 12 (none) R25 0 [.ref 0, .int p1, .int p2, .int p3] (Hb 0 s) (P25 r) := by
 refine CS.of_wp pn_cls (leb rfl) fun n0 => ?_
 show W25 l Z n0 (P25 r) 0 0 0 (vR 0 :: vI p1 :: vI p2 :: vI p3 :: vU :: vU :: vU :: vU :: vU :: vU :: vU :: vU :: []) [] (Hb 0 s)
 unfold f_pushFrame at h
 refine WP.aloadN d25_0 rfl ?_
 refine WP.getfield (i := 0) (j := 42) d25_1 (hw _ m_204) rfl rfl rfl ?_
 refine WP.bipush (7 : Int32) d25_4 rfl ?_
 refine WP.iand d25_6 ?_
 obtain ⟨x1, ex1, h⟩ := lt_e h
 refine WP.istore (L' := (vR 0 :: vI p1 :: vI p2 :: vI p3 :: vI x1 :: vU :: vU :: vU :: vU :: vU :: vU :: vU :: [])) d25_7 (leb rfl) (by subst ex1; rfl) ?_
 refine WP.aloadN d25_9 rfl ?_
 refine WP.getfield (i := 0) (j := 37) d25_10 (hw _ m_55) rfl rfl rfl ?_
 refine WP.iload d25_13 rfl ?_
 refine WP.iloadN d25_15 rfl ?_
 obtain ⟨s2, hs2, h⟩ := bd h
 obtain ⟨ys2, gs2, es2⟩ := wrA_e hs2
 refine WP.iastore (i := 23) (xs := gA s 22) (H' := (Hb 0 s2)) d25_16 rfl (leb rfl) gs2 (by subst es2; rfl) ?_
 refine WP.aloadN d25_17 rfl ?_
 refine WP.getfield (i := 0) (j := 38) d25_18 (hw _ m_57) rfl rfl rfl ?_
 refine WP.iload d25_21 rfl ?_
 refine WP.aloadN d25_23 rfl ?_
 refine WP.getfield (i := 0) (j := 36) d25_24 (hw _ m_208) rfl rfl rfl ?_
 obtain ⟨s3, hs3, h⟩ := bd h
 obtain ⟨ys3, gs3, es3⟩ := wrA_e hs3
 refine WP.iastore (i := 24) (xs := gA s2 23) (H' := (Hb 0 s3)) d25_27 rfl (leb rfl) gs3 (by subst es3; rfl) ?_
 refine WP.aloadN d25_28 rfl ?_
 refine WP.getfield (i := 0) (j := 39) d25_29 (hw _ m_59) rfl rfl rfl ?_
 refine WP.iload d25_32 rfl ?_
 refine WP.aloadN d25_34 rfl ?_
 refine WP.getfield (i := 0) (j := 43) d25_35 (hw _ m_206) rfl rfl rfl ?_
 obtain ⟨s4, hs4, h⟩ := bd h
 obtain ⟨ys4, gs4, es4⟩ := wrA_e hs4
 refine WP.iastore (i := 25) (xs := gA s3 24) (H' := (Hb 0 s4)) d25_38 rfl (leb rfl) gs4 (by subst es4; rfl) ?_
 refine WP.aloadN d25_39 rfl ?_
 refine WP.getfield (i := 0) (j := 40) d25_40 (hw _ m_61) rfl rfl rfl ?_
 refine WP.iload d25_43 rfl ?_
 refine WP.iloadN d25_45 rfl ?_
 obtain ⟨s5, hs5, h⟩ := bd h
 obtain ⟨ys5, gs5, es5⟩ := wrA_e hs5
 refine WP.iastore (i := 26) (xs := gA s4 25) (H' := (Hb 0 s5)) d25_46 rfl (leb rfl) gs5 (by subst es5; rfl) ?_
 refine WP.aloadN d25_47 rfl ?_
 refine WP.getfield (i := 0) (j := 41) d25_48 (hw _ m_63) rfl rfl rfl ?_
 refine WP.iload d25_51 rfl ?_
 refine WP.iloadN d25_53 rfl ?_
 obtain ⟨s6, hs6, h⟩ := bd h
 obtain ⟨ys6, gs6, es6⟩ := wrA_e hs6
 refine WP.iastore (i := 27) (xs := gA s5 26) (H' := (Hb 0 s6)) d25_54 rfl (leb rfl) gs6 (by subst es6; rfl) ?_
 refine WP.aloadN d25_55 rfl ?_
 refine WP.getfield (i := 0) (j := 43) d25_56 (hw _ m_206) rfl rfl rfl ?_
 obtain ⟨x7, ex7, h⟩ := lt_e h
 refine WP.istore (L' := (vR 0 :: vI p1 :: vI p2 :: vI p3 :: vI x1 :: vI x7 :: vU :: vU :: vU :: vU :: vU :: vU :: [])) d25_59 (leb rfl) (by subst ex7; rfl) ?_
 refine WP.aloadN d25_61 rfl ?_
 refine WP.getfield (i := 0) (j := 17) d25_62 (hw _ m_23) rfl rfl rfl ?_
 refine WP.iloadN d25_65 rfl ?_
 obtain ⟨x8, hx8, h⟩ := bd h
 refine WP.iaload (i := 7) d25_66 rfl hx8 ?_
 refine WP.istore (L' := (vR 0 :: vI p1 :: vI p2 :: vI p3 :: vI x1 :: vI x7 :: vI x8 :: vU :: vU :: vU :: vU :: vU :: [])) d25_67 (leb rfl) rfl ?_
 refine WP.iconst (0 : Int32) d25_69 rfl ?_
 refine WP.istore (L' := (vR 0 :: vI p1 :: vI p2 :: vI p3 :: vI x1 :: vI x7 :: vI x8 :: vI (0 : Int32) :: vU :: vU :: vU :: vU :: [])) d25_70 (leb rfl) rfl ?_
 exact WP.weak (L' := (vR 0 :: vI p1 :: vU :: vU :: vI x1 :: vI x7 :: vI x8 :: vI (0 : Int32) :: vU :: vU :: vU :: vU :: [])) ⟨rfl, rfl, rfl, rfl, rfl, rfl, trivial⟩ (ok25_72 l Z a0 hw n0 n p1 x1 x7 x8 (0 : Int32) s6 _ h)
theorem d30_0 : dc k34 0 (.aload_n 0) 1 := by decide +kernel
theorem d30_1 : dc k34 1 (.getfield 131) 3 := by decide +kernel
theorem d30_4 : dc k34 4 (.iconst 1) 1 := by decide +kernel
theorem d30_5 : dc k34 5 (.isub) 1 := by decide +kernel
theorem d30_6 : dc k34 6 (.istore_n 2) 1 := by decide +kernel
theorem d30_7 : dc k34 7 (.iload_n 2) 1 := by decide +kernel
theorem d30_8 : dc k34 8 (.ifCond .ge 5) 3 := by decide +kernel
theorem d30_11 : dc k34 11 (.iconst 0) 1 := by decide +kernel
theorem d30_12 : dc k34 12 (.ireturn) 1 := by decide +kernel
theorem d30_13 : dc k34 13 (.aload_n 0) 1 := by decide +kernel
theorem d30_14 : dc k34 14 (.getfield 38) 3 := by decide +kernel
theorem d30_17 : dc k34 17 (.aload_n 0) 1 := by decide +kernel
theorem d30_18 : dc k34 18 (.getfield 77) 3 := by decide +kernel
theorem d30_21 : dc k34 21 (.iload_n 2) 1 := by decide +kernel
theorem d30_22 : dc k34 22 (.iaload) 1 := by decide +kernel
theorem d30_23 : dc k34 23 (.iconst 3) 1 := by decide +kernel
theorem d30_24 : dc k34 24 (.iand) 1 := by decide +kernel
theorem d30_25 : dc k34 25 (.bipush 8) 2 := by decide +kernel
theorem d30_27 : dc k34 27 (.imul) 1 := by decide +kernel
theorem d30_28 : dc k34 28 (.iload_n 1) 1 := by decide +kernel
theorem d30_29 : dc k34 29 (.bipush 7) 2 := by decide +kernel
theorem d30_31 : dc k34 31 (.iand) 1 := by decide +kernel
theorem d30_32 : dc k34 32 (.iadd) 1 := by decide +kernel
theorem d30_33 : dc k34 33 (.iaload) 1 := by decide +kernel
theorem d30_34 : dc k34 34 (.istore_n 3) 1 := by decide +kernel
theorem d30_35 : dc k34 35 (.iload_n 3) 1 := by decide +kernel
theorem d30_36 : dc k34 36 (.ifCond .ge 5) 3 := by decide +kernel
theorem d30_39 : dc k34 39 (.iconst 0) 1 := by decide +kernel
theorem d30_40 : dc k34 40 (.istore_n 3) 1 := by decide +kernel
theorem d30_41 : dc k34 41 (.aload_n 0) 1 := by decide +kernel
theorem d30_42 : dc k34 42 (.getfield 80) 3 := by decide +kernel
theorem d30_45 : dc k34 45 (.iload_n 2) 1 := by decide +kernel
theorem d30_46 : dc k34 46 (.iaload) 1 := by decide +kernel
theorem d30_47 : dc k34 47 (.iload_n 3) 1 := by decide +kernel
theorem d30_48 : dc k34 48 (.iadd) 1 := by decide +kernel
theorem d30_49 : dc k34 49 (.sipush 4095) 3 := by decide +kernel
theorem d30_52 : dc k34 52 (.iand) 1 := by decide +kernel
theorem d30_53 : dc k34 53 (.ireturn) 1 := by decide +kernel
abbrev y30 : MethodName := ⟨"FatPointerC", "objOf", "(I)I"⟩
theorem hy30 : y30.cls ≠ "java/lang/invoke/MethodHandle" ∧ y30.cls ≠ "java/lang/invoke/VarHandle" := by decide
theorem pd30 : parseMethodDescriptor y30.desc = some ⟨[.int], some .int⟩ := by decide +kernel
abbrev R30 : Room := { frames := 0, cells := 0, slots := 0, locals := 0 }
abbrev P30 (s : St) (r : Int32) : Option Value → List OwnC → Prop := fun v H' => v = some (.int r) ∧ H' = (Hb 0 s)
abbrev W30 (l : Launch) (Z : State) (n0 : Nat) (Q : Option Value → List OwnC → Prop) (k n pc : Nat) (L : List Slot) (S : List Value) (H : List OwnC) : Prop := WP l Z CN lay "FatPointerC" "objOf" prog_1_method_41_code 4 (some FieldType.int) R30 n0 0 Q k n pc L S H
def f_objOf_41 (v2 v3 : Int32) (s : St) : Option (Int32) :=
 (rd (gA s 23) v2).bind fun x1 =>
 some ((x1 + v3) &&& (4095 : Int32))
theorem ok30_41 (l : Launch) (Z : State) (a0 : Array Value) (hw : HW a0 Z) (n0 : Nat) (v2 v3 : Int32) (s : St) (r : Int32) (h : f_objOf_41 v2 v3 s = some r) : W30 l Z n0 (P30 s r) 0 0 41 (vR 0 :: vU :: vI v2 :: vI v3 :: []) [] (Hb 0 s) := by
 unfold f_objOf_41 at h
 refine WP.aloadN d30_41 rfl ?_
 refine WP.getfield (i := 0) (j := 38) d30_42 (hw _ m_57) rfl rfl rfl ?_
 refine WP.iloadN d30_45 rfl ?_
 obtain ⟨x1, hx1, h⟩ := bd h
 refine WP.iaload (i := 24) d30_46 rfl hx1 ?_
 refine WP.iloadN d30_47 rfl ?_
 refine WP.iadd d30_48 ?_
 refine WP.sipush (4095 : Int32) d30_49 rfl ?_
 refine WP.iand d30_52 ?_
 cases h
 exact WP.ireturn d30_53 rfl (leb rfl) (leb rfl) ⟨rfl, rfl⟩
def f_objOf (p1 : Int32) (s : St) : Option (Int32) :=
 lt ((gI s 15) - (1 : Int32)) fun x1 =>
 if x1 < 0 then
  some (0 : Int32)
 else
  (rd (gA s 22) x1).bind fun x3 =>
  (rd (gA s 9) (((x3 &&& (3 : Int32)) * (8 : Int32)) + (p1 &&& (7 : Int32)))).bind fun x4 =>
  if x4 < 0 then
   f_objOf_41 x1 (0 : Int32) s
  else
   f_objOf_41 x1 x4 s
theorem ok30 (l : Launch) (Z : State) (a0 : Array Value) (hw : HW a0 Z) (p1 : Int32) (s : St) (r : Int32) (h : f_objOf p1 s = some r) : CS l Z CN lay y30 prog_1_method_41_code 4 (some FieldType.int) R30 0 [.ref 0, .int p1] (Hb 0 s) (P30 s r) := by
 refine CS.of_wp pn_cls (leb rfl) fun n0 => ?_
 show W30 l Z n0 (P30 s r) 0 0 0 (vR 0 :: vI p1 :: vU :: vU :: []) [] (Hb 0 s)
 unfold f_objOf at h
 refine WP.aloadN d30_0 rfl ?_
 refine WP.getfield (i := 0) (j := 42) d30_1 (hw _ m_204) rfl rfl rfl ?_
 refine WP.iconst (1 : Int32) d30_4 rfl ?_
 refine WP.isub d30_5 ?_
 obtain ⟨x1, ex1, h⟩ := lt_e h
 refine WP.istoreN (L' := (vR 0 :: vI p1 :: vI x1 :: vU :: [])) d30_6 (leb rfl) (by subst ex1; rfl) ?_
 refine WP.iloadN d30_7 rfl ?_
 rcases ite_e h with ⟨hc2, h⟩ | ⟨hc2, h⟩
 ·
  refine WP.ifN d30_8 (XT.i0_ge_f hc2) ?_
  refine WP.iconst (0 : Int32) d30_11 rfl ?_
  cases h
  exact WP.ireturn d30_12 rfl (leb rfl) (leb rfl) ⟨rfl, rfl⟩
 ·
  refine WP.ifY (pc' := 13) d30_8 (XT.i0_ge_t hc2) (by decide) rfl ?_
  refine WP.aloadN d30_13 rfl ?_
  refine WP.getfield (i := 0) (j := 20) d30_14 (hw _ m_29) rfl rfl rfl ?_
  refine WP.aloadN d30_17 rfl ?_
  refine WP.getfield (i := 0) (j := 37) d30_18 (hw _ m_55) rfl rfl rfl ?_
  refine WP.iloadN d30_21 rfl ?_
  obtain ⟨x3, hx3, h⟩ := bd h
  refine WP.iaload (i := 23) d30_22 rfl hx3 ?_
  refine WP.iconst (3 : Int32) d30_23 rfl ?_
  refine WP.iand d30_24 ?_
  refine WP.bipush (8 : Int32) d30_25 rfl ?_
  refine WP.imul d30_27 ?_
  refine WP.iloadN d30_28 rfl ?_
  refine WP.bipush (7 : Int32) d30_29 rfl ?_
  refine WP.iand d30_31 ?_
  refine WP.iadd d30_32 ?_
  obtain ⟨x4, hx4, h⟩ := bd h
  refine WP.iaload (i := 10) d30_33 rfl hx4 ?_
  refine WP.istoreN (L' := (vR 0 :: vI p1 :: vI x1 :: vI x4 :: [])) d30_34 (leb rfl) rfl ?_
  refine WP.iloadN d30_35 rfl ?_
  rcases ite_e h with ⟨hc5, h⟩ | ⟨hc5, h⟩
  ·
   refine WP.ifN d30_36 (XT.i0_ge_f hc5) ?_
   refine WP.iconst (0 : Int32) d30_39 rfl ?_
   refine WP.istoreN (L' := (vR 0 :: vI p1 :: vI x1 :: vI (0 : Int32) :: [])) d30_40 (leb rfl) rfl ?_
   exact WP.weak (L' := (vR 0 :: vU :: vI x1 :: vI (0 : Int32) :: [])) ⟨rfl, rfl, rfl, trivial⟩ (ok30_41 l Z a0 hw n0 x1 (0 : Int32) s _ h)
  ·
   refine WP.ifY (pc' := 41) d30_36 (XT.i0_ge_t hc5) (by decide) rfl ?_
   exact WP.weak (L' := (vR 0 :: vU :: vI x1 :: vI x4 :: [])) ⟨rfl, rfl, rfl, trivial⟩ (ok30_41 l Z a0 hw n0 x1 x4 s _ h)
theorem d31_0 : dc k35 0 (.aload_n 0) 1 := by decide +kernel
theorem d31_1 : dc k35 1 (.getfield 131) 3 := by decide +kernel
theorem d31_4 : dc k35 4 (.iconst 1) 1 := by decide +kernel
theorem d31_5 : dc k35 5 (.isub) 1 := by decide +kernel
theorem d31_6 : dc k35 6 (.istore_n 2) 1 := by decide +kernel
theorem d31_7 : dc k35 7 (.iload_n 2) 1 := by decide +kernel
theorem d31_8 : dc k35 8 (.ifCond .ge 5) 3 := by decide +kernel
theorem d31_11 : dc k35 11 (.iconst 0) 1 := by decide +kernel
theorem d31_12 : dc k35 12 (.ireturn) 1 := by decide +kernel
theorem d31_13 : dc k35 13 (.aload_n 0) 1 := by decide +kernel
theorem d31_14 : dc k35 14 (.getfield 41) 3 := by decide +kernel
theorem d31_17 : dc k35 17 (.aload_n 0) 1 := by decide +kernel
theorem d31_18 : dc k35 18 (.getfield 77) 3 := by decide +kernel
theorem d31_21 : dc k35 21 (.iload_n 2) 1 := by decide +kernel
theorem d31_22 : dc k35 22 (.iaload) 1 := by decide +kernel
theorem d31_23 : dc k35 23 (.iconst 3) 1 := by decide +kernel
theorem d31_24 : dc k35 24 (.iand) 1 := by decide +kernel
theorem d31_25 : dc k35 25 (.bipush 8) 2 := by decide +kernel
theorem d31_27 : dc k35 27 (.imul) 1 := by decide +kernel
theorem d31_28 : dc k35 28 (.iload_n 1) 1 := by decide +kernel
theorem d31_29 : dc k35 29 (.bipush 7) 2 := by decide +kernel
theorem d31_31 : dc k35 31 (.iand) 1 := by decide +kernel
theorem d31_32 : dc k35 32 (.iadd) 1 := by decide +kernel
theorem d31_33 : dc k35 33 (.baload) 1 := by decide +kernel
theorem d31_34 : dc k35 34 (.ireturn) 1 := by decide +kernel
abbrev y31 : MethodName := ⟨"FatPointerC", "isArr", "(I)Z"⟩
theorem hy31 : y31.cls ≠ "java/lang/invoke/MethodHandle" ∧ y31.cls ≠ "java/lang/invoke/VarHandle" := by decide
theorem pd31 : parseMethodDescriptor y31.desc = some ⟨[.int], some .boolean⟩ := by decide +kernel
abbrev R31 : Room := { frames := 0, cells := 0, slots := 0, locals := 0 }
abbrev P31 (s : St) (r : Int32) : Option Value → List OwnC → Prop := fun v H' => v = some (.int r) ∧ H' = (Hb 0 s)
abbrev W31 (l : Launch) (Z : State) (n0 : Nat) (Q : Option Value → List OwnC → Prop) (k n pc : Nat) (L : List Slot) (S : List Value) (H : List OwnC) : Prop := WP l Z CN lay "FatPointerC" "isArr" prog_1_method_42_code 3 (some FieldType.boolean) R31 n0 0 Q k n pc L S H
def f_isArr (p1 : Int32) (s : St) : Option (Int32) :=
 lt ((gI s 15) - (1 : Int32)) fun x1 =>
 if x1 < 0 then
  some (0 : Int32)
 else
  (rd (gA s 22) x1).bind fun x3 =>
  (rd (gA s 10) (((x3 &&& (3 : Int32)) * (8 : Int32)) + (p1 &&& (7 : Int32)))).bind fun x4 =>
  some (x4 &&& 1)
theorem ok31 (l : Launch) (Z : State) (a0 : Array Value) (hw : HW a0 Z) (p1 : Int32) (s : St) (r : Int32) (h : f_isArr p1 s = some r) : CS l Z CN lay y31 prog_1_method_42_code 3 (some FieldType.boolean) R31 0 [.ref 0, .int p1] (Hb 0 s) (P31 s r) := by
 refine CS.of_wp pn_cls (leb rfl) fun n0 => ?_
 show W31 l Z n0 (P31 s r) 0 0 0 (vR 0 :: vI p1 :: vU :: []) [] (Hb 0 s)
 unfold f_isArr at h
 refine WP.aloadN d31_0 rfl ?_
 refine WP.getfield (i := 0) (j := 42) d31_1 (hw _ m_204) rfl rfl rfl ?_
 refine WP.iconst (1 : Int32) d31_4 rfl ?_
 refine WP.isub d31_5 ?_
 obtain ⟨x1, ex1, h⟩ := lt_e h
 refine WP.istoreN (L' := (vR 0 :: vI p1 :: vI x1 :: [])) d31_6 (leb rfl) (by subst ex1; rfl) ?_
 refine WP.iloadN d31_7 rfl ?_
 rcases ite_e h with ⟨hc2, h⟩ | ⟨hc2, h⟩
 ·
  refine WP.ifN d31_8 (XT.i0_ge_f hc2) ?_
  refine WP.iconst (0 : Int32) d31_11 rfl ?_
  cases h
  exact WP.zreturn d31_12 rfl (leb rfl) (leb rfl) ⟨rfl, rfl⟩
 ·
  refine WP.ifY (pc' := 13) d31_8 (XT.i0_ge_t hc2) (by decide) rfl ?_
  refine WP.aloadN d31_13 rfl ?_
  refine WP.getfield (i := 0) (j := 21) d31_14 (hw _ m_31) rfl rfl rfl ?_
  refine WP.aloadN d31_17 rfl ?_
  refine WP.getfield (i := 0) (j := 37) d31_18 (hw _ m_55) rfl rfl rfl ?_
  refine WP.iloadN d31_21 rfl ?_
  obtain ⟨x3, hx3, h⟩ := bd h
  refine WP.iaload (i := 23) d31_22 rfl hx3 ?_
  refine WP.iconst (3 : Int32) d31_23 rfl ?_
  refine WP.iand d31_24 ?_
  refine WP.bipush (8 : Int32) d31_25 rfl ?_
  refine WP.imul d31_27 ?_
  refine WP.iloadN d31_28 rfl ?_
  refine WP.bipush (7 : Int32) d31_29 rfl ?_
  refine WP.iand d31_31 ?_
  refine WP.iadd d31_32 ?_
  obtain ⟨x4, hx4, h⟩ := bd h
  refine WP.baload (i := 11) d31_33 rfl hx4 ?_
  cases h
  exact WP.zreturn d31_34 rfl (leb rfl) (leb rfl) ⟨rfl, rfl⟩
theorem d32_0 : dc k32 0 (.aload_n 0) 1 := by decide +kernel
theorem d32_1 : dc k32 1 (.getfield 92) 3 := by decide +kernel
theorem d32_4 : dc k32 4 (.iload_n 1) 1 := by decide +kernel
theorem d32_5 : dc k32 5 (.iload_n 2) 1 := by decide +kernel
theorem d32_6 : dc k32 6 (.iastore) 1 := by decide +kernel
theorem d32_7 : dc k32 7 (.aload_n 0) 1 := by decide +kernel
theorem d32_8 : dc k32 8 (.getfield 95) 3 := by decide +kernel
theorem d32_11 : dc k32 11 (.iload_n 1) 1 := by decide +kernel
theorem d32_12 : dc k32 12 (.iload_n 3) 1 := by decide +kernel
theorem d32_13 : dc k32 13 (.iastore) 1 := by decide +kernel
theorem d32_14 : dc k32 14 (.aload_n 0) 1 := by decide +kernel
theorem d32_15 : dc k32 15 (.getfield 98) 3 := by decide +kernel
theorem d32_18 : dc k32 18 (.iload_n 1) 1 := by decide +kernel
theorem d32_19 : dc k32 19 (.iload 4) 2 := by decide +kernel
theorem d32_21 : dc k32 21 (.iastore) 1 := by decide +kernel
theorem d32_22 : dc k32 22 (.return_) 1 := by decide +kernel
abbrev y32 : MethodName := ⟨"FatPointerC", "setReg", "(IIII)V"⟩
theorem hy32 : y32.cls ≠ "java/lang/invoke/MethodHandle" ∧ y32.cls ≠ "java/lang/invoke/VarHandle" := by decide
theorem pd32 : parseMethodDescriptor y32.desc = some ⟨[.int, .int, .int, .int], none⟩ := by decide +kernel
abbrev R32 : Room := { frames := 0, cells := 0, slots := 0, locals := 0 }
abbrev P32 (r : St) : Option Value → List OwnC → Prop := fun v H' => v = none ∧ H' = (Hb 0 r)
abbrev W32 (l : Launch) (Z : State) (n0 : Nat) (Q : Option Value → List OwnC → Prop) (k n pc : Nat) (L : List Slot) (S : List Value) (H : List OwnC) : Prop := WP l Z CN lay "FatPointerC" "setReg" prog_1_method_39_code 5 (none) R32 n0 0 Q k n pc L S H
def f_setReg (p1 p2 p3 p4 : Int32) (s : St) : Option (St) :=
 (wrA s 27 p1 p2).bind fun s1 =>
 (wrA s1 28 p1 p3).bind fun s2 =>
 (wrA s2 29 p1 p4).bind fun s3 =>
 some s3
theorem ok32 (l : Launch) (Z : State) (a0 : Array Value) (hw : HW a0 Z) (p1 p2 p3 p4 : Int32) (s r : St) (h : f_setReg p1 p2 p3 p4 s = some r) : CS l Z CN lay y32 prog_1_method_39_code 5 (none) R32 0 [.ref 0, .int p1, .int p2, .int p3, .int p4] (Hb 0 s) (P32 r) := by
 refine CS.of_wp pn_cls (leb rfl) fun n0 => ?_
 show W32 l Z n0 (P32 r) 0 0 0 (vR 0 :: vI p1 :: vI p2 :: vI p3 :: vI p4 :: []) [] (Hb 0 s)
 unfold f_setReg at h
 refine WP.aloadN d32_0 rfl ?_
 refine WP.getfield (i := 0) (j := 46) d32_1 (hw _ m_65) rfl rfl rfl ?_
 refine WP.iloadN d32_4 rfl ?_
 refine WP.iloadN d32_5 rfl ?_
 obtain ⟨s1, hs1, h⟩ := bd h
 obtain ⟨ys1, gs1, es1⟩ := wrA_e hs1
 refine WP.iastore (i := 28) (xs := gA s 27) (H' := (Hb 0 s1)) d32_6 rfl (leb rfl) gs1 (by subst es1; rfl) ?_
 refine WP.aloadN d32_7 rfl ?_
 refine WP.getfield (i := 0) (j := 47) d32_8 (hw _ m_67) rfl rfl rfl ?_
 refine WP.iloadN d32_11 rfl ?_
 refine WP.iloadN d32_12 rfl ?_
 obtain ⟨s2, hs2, h⟩ := bd h
 obtain ⟨ys2, gs2, es2⟩ := wrA_e hs2
 refine WP.iastore (i := 29) (xs := gA s1 28) (H' := (Hb 0 s2)) d32_13 rfl (leb rfl) gs2 (by subst es2; rfl) ?_
 refine WP.aloadN d32_14 rfl ?_
 refine WP.getfield (i := 0) (j := 48) d32_15 (hw _ m_69) rfl rfl rfl ?_
 refine WP.iloadN d32_18 rfl ?_
 refine WP.iload d32_19 rfl ?_
 obtain ⟨s3, hs3, h⟩ := bd h
 obtain ⟨ys3, gs3, es3⟩ := wrA_e hs3
 refine WP.iastore (i := 30) (xs := gA s2 29) (H' := (Hb 0 s3)) d32_21 rfl (leb rfl) gs3 (by subst es3; rfl) ?_
 cases h
 exact WP.vreturn d32_22 rfl (leb rfl) (leb rfl) ⟨rfl, rfl⟩
theorem d42_0 : dc k38 0 (.aload_n 0) 1 := by decide +kernel
theorem d42_1 : dc k38 1 (.iload_n 2) 1 := by decide +kernel
theorem d42_2 : dc k38 2 (.aload_n 0) 1 := by decide +kernel
theorem d42_3 : dc k38 3 (.getfield 59) 3 := by decide +kernel
theorem d42_6 : dc k38 6 (.iload_n 1) 1 := by decide +kernel
theorem d42_7 : dc k38 7 (.bipush 63) 2 := by decide +kernel
theorem d42_9 : dc k38 9 (.iand) 1 := by decide +kernel
theorem d42_10 : dc k38 10 (.iaload) 1 := by decide +kernel
theorem d42_11 : dc k38 11 (.aload_n 0) 1 := by decide +kernel
theorem d42_12 : dc k38 12 (.getfield 62) 3 := by decide +kernel
theorem d42_15 : dc k38 15 (.iload_n 1) 1 := by decide +kernel
theorem d42_16 : dc k38 16 (.bipush 63) 2 := by decide +kernel
theorem d42_18 : dc k38 18 (.iand) 1 := by decide +kernel
theorem d42_19 : dc k38 19 (.iaload) 1 := by decide +kernel
theorem d42_20 : dc k38 20 (.aload_n 0) 1 := by decide +kernel
theorem d42_21 : dc k38 21 (.getfield 65) 3 := by decide +kernel
theorem d42_24 : dc k38 24 (.iload_n 1) 1 := by decide +kernel
theorem d42_25 : dc k38 25 (.bipush 63) 2 := by decide +kernel
theorem d42_27 : dc k38 27 (.iand) 1 := by decide +kernel
theorem d42_28 : dc k38 28 (.iaload) 1 := by decide +kernel
theorem d42_29 : dc k38 29 (.invokevirtual 252) 3 := by decide +kernel
theorem d42_32 : dc k38 32 (.return_) 1 := by decide +kernel
abbrev y42 : MethodName := ⟨"FatPointerC", "readCell", "(II)V"⟩
theorem hy42 : y42.cls ≠ "java/lang/invoke/MethodHandle" ∧ y42.cls ≠ "java/lang/invoke/VarHandle" := by decide
theorem pd42 : parseMethodDescriptor y42.desc = some ⟨[.int, .int], none⟩ := by decide +kernel
abbrev R42 : Room := { frames := 1, cells := 0, slots := 0, locals := 16 }
abbrev P42 (r : St) : Option Value → List OwnC → Prop := fun v H' => v = none ∧ H' = (Hb 0 r)
abbrev W42 (l : Launch) (Z : State) (n0 : Nat) (Q : Option Value → List OwnC → Prop) (k n pc : Nat) (L : List Slot) (S : List Value) (H : List OwnC) : Prop := WP l Z CN lay "FatPointerC" "readCell" prog_1_method_46_code 3 (none) R42 n0 0 Q k n pc L S H
def f_readCell (p1 p2 : Int32) (s : St) : Option (St) :=
 (rd (gA s 16) (p1 &&& (63 : Int32))).bind fun x1 =>
 (rd (gA s 17) (p1 &&& (63 : Int32))).bind fun x2 =>
 (rd (gA s 18) (p1 &&& (63 : Int32))).bind fun x3 =>
 (f_setReg p2 x1 x2 x3 s).bind fun c4 =>
 some c4
theorem ok42 (l : Launch) (Z : State) (a0 : Array Value) (hw : HW a0 Z) (p1 p2 : Int32) (s r : St) (h : f_readCell p1 p2 s = some r) : CS l Z CN lay y42 prog_1_method_46_code 3 (none) R42 0 [.ref 0, .int p1, .int p2] (Hb 0 s) (P42 r) := by
 refine CS.of_wp pn_cls (leb rfl) fun n0 => ?_
 show W42 l Z n0 (P42 r) 0 0 0 (vR 0 :: vI p1 :: vI p2 :: []) [] (Hb 0 s)
 unfold f_readCell at h
 refine WP.aloadN d42_0 rfl ?_
 refine WP.iloadN d42_1 rfl ?_
 refine WP.aloadN d42_2 rfl ?_
 refine WP.getfield (i := 0) (j := 30) d42_3 (hw _ m_43) rfl rfl rfl ?_
 refine WP.iloadN d42_6 rfl ?_
 refine WP.bipush (63 : Int32) d42_7 rfl ?_
 refine WP.iand d42_9 ?_
 obtain ⟨x1, hx1, h⟩ := bd h
 refine WP.iaload (i := 17) d42_10 rfl hx1 ?_
 refine WP.aloadN d42_11 rfl ?_
 refine WP.getfield (i := 0) (j := 31) d42_12 (hw _ m_45) rfl rfl rfl ?_
 refine WP.iloadN d42_15 rfl ?_
 refine WP.bipush (63 : Int32) d42_16 rfl ?_
 refine WP.iand d42_18 ?_
 obtain ⟨x2, hx2, h⟩ := bd h
 refine WP.iaload (i := 18) d42_19 rfl hx2 ?_
 refine WP.aloadN d42_20 rfl ?_
 refine WP.getfield (i := 0) (j := 32) d42_21 (hw _ m_47) rfl rfl rfl ?_
 refine WP.iloadN d42_24 rfl ?_
 refine WP.bipush (63 : Int32) d42_25 rfl ?_
 refine WP.iand d42_27 ?_
 obtain ⟨x3, hx3, h⟩ := bd h
 refine WP.iaload (i := 19) d42_28 rfl hx3 ?_
 obtain ⟨c4, hc4, h⟩ := bd h
 refine WP.callP (i := 0) (y := y32) (as := [.int p2, .int x1, .int x2, .int x3]) (S := []) d42_29 (hw _ m_243) (hw _ m_245) (hw _ m_1) (hw _ m_244) (hw _ m_246) (hw _ m_2) hy32 rfl (ok32 l Z a0 hw p2 x1 x2 x3 s _ hc4) rfl (lenOf pd32 rfl) (leb rfl) (leb rfl) (leb rfl) (leb rfl) ?_
 rintro _ _ ⟨rfl, rfl⟩
 show W42 l Z n0 (P42 r) 0 0 32 (vR 0 :: vI p1 :: vI p2 :: []) [] (Hb 0 c4)
 cases h
 exact WP.vreturn d42_32 rfl (leb rfl) (leb rfl) ⟨rfl, rfl⟩
theorem d29_0 : dc k36 0 (.aload_n 0) 1 := by decide +kernel
theorem d29_1 : dc k36 1 (.iload_n 1) 1 := by decide +kernel
theorem d29_2 : dc k36 2 (.invokevirtual 256) 3 := by decide +kernel
theorem d29_5 : dc k36 5 (.istore_n 3) 1 := by decide +kernel
theorem d29_6 : dc k36 6 (.aload_n 0) 1 := by decide +kernel
theorem d29_7 : dc k36 7 (.iload_n 1) 1 := by decide +kernel
theorem d29_8 : dc k36 8 (.invokevirtual 259) 3 := by decide +kernel
theorem d29_11 : dc k36 11 (.ifCond .eq 12) 3 := by decide +kernel
theorem d29_14 : dc k36 14 (.aload_n 0) 1 := by decide +kernel
theorem d29_15 : dc k36 15 (.iload_n 2) 1 := by decide +kernel
theorem d29_16 : dc k36 16 (.iconst 1) 1 := by decide +kernel
theorem d29_17 : dc k36 17 (.iconst 0) 1 := by decide +kernel
theorem d29_18 : dc k36 18 (.iload_n 3) 1 := by decide +kernel
theorem d29_19 : dc k36 19 (.invokevirtual 252) 3 := by decide +kernel
theorem d29_22 : dc k36 22 (.return_) 1 := by decide +kernel
theorem d29_23 : dc k36 23 (.aload_n 0) 1 := by decide +kernel
theorem d29_24 : dc k36 24 (.aload_n 0) 1 := by decide +kernel
theorem d29_25 : dc k36 25 (.getfield 68) 3 := by decide +kernel
theorem d29_28 : dc k36 28 (.iload_n 3) 1 := by decide +kernel
theorem d29_29 : dc k36 29 (.iaload) 1 := by decide +kernel
theorem d29_30 : dc k36 30 (.bipush 63) 2 := by decide +kernel
theorem d29_32 : dc k36 32 (.iand) 1 := by decide +kernel
theorem d29_33 : dc k36 33 (.iload_n 2) 1 := by decide +kernel
theorem d29_34 : dc k36 34 (.invokevirtual 263) 3 := by decide +kernel
theorem d29_37 : dc k36 37 (.return_) 1 := by decide +kernel
abbrev y29 : MethodName := ⟨"FatPointerC", "loadVar", "(II)V"⟩
theorem hy29 : y29.cls ≠ "java/lang/invoke/MethodHandle" ∧ y29.cls ≠ "java/lang/invoke/VarHandle" := by decide
theorem pd29 : parseMethodDescriptor y29.desc = some ⟨[.int, .int], none⟩ := by decide +kernel
abbrev R29 : Room := { frames := 2, cells := 0, slots := 0, locals := 30 }
abbrev P29 (r : St) : Option Value → List OwnC → Prop := fun v H' => v = none ∧ H' = (Hb 0 r)
abbrev W29 (l : Launch) (Z : State) (n0 : Nat) (Q : Option Value → List OwnC → Prop) (k n pc : Nat) (L : List Slot) (S : List Value) (H : List OwnC) : Prop := WP l Z CN lay "FatPointerC" "loadVar" prog_1_method_43_code 4 (none) R29 n0 0 Q k n pc L S H
def f_loadVar (p1 p2 : Int32) (s : St) : Option (St) :=
 (f_objOf p1 s).bind fun c1 =>
 (f_isArr p1 s).bind fun c2 =>
 if c2 = 0 then
  (rd (gA s 19) c1).bind fun x4 =>
  (f_readCell (x4 &&& (63 : Int32)) p2 s).bind fun c5 =>
  some c5
 else
  (f_setReg p2 (1 : Int32) (0 : Int32) c1 s).bind fun c6 =>
  some c6
theorem ok29 (l : Launch) (Z : State) (a0 : Array Value) (hw : HW a0 Z) (p1 p2 : Int32) (s r : St) (h : f_loadVar p1 p2 s = some r) : CS l Z CN lay y29 prog_1_method_43_code 4 (none) R29 0 [.ref 0, .int p1, .int p2] (Hb 0 s) (P29 r) := by
 refine CS.of_wp pn_cls (leb rfl) fun n0 => ?_
 show W29 l Z n0 (P29 r) 0 0 0 (vR 0 :: vI p1 :: vI p2 :: vU :: []) [] (Hb 0 s)
 unfold f_loadVar at h
 refine WP.aloadN d29_0 rfl ?_
 refine WP.iloadN d29_1 rfl ?_
 obtain ⟨c1, hc1, h⟩ := bd h
 refine WP.callP (i := 0) (y := y30) (as := [.int p1]) (S := []) d29_2 (hw _ m_235) (hw _ m_237) (hw _ m_1) (hw _ m_236) (hw _ m_238) (hw _ m_2) hy30 rfl (ok30 l Z a0 hw p1 s _ hc1) rfl (lenOf pd30 rfl) (leb rfl) (leb rfl) (leb rfl) (leb rfl) ?_
 rintro _ _ ⟨rfl, rfl⟩
 show W29 l Z n0 (P29 r) 0 0 5 (vR 0 :: vI p1 :: vI p2 :: vU :: []) [.int c1] (Hb 0 s)
 refine WP.istoreN (L' := (vR 0 :: vI p1 :: vI p2 :: vI c1 :: [])) d29_5 (leb rfl) rfl ?_
 refine WP.aloadN d29_6 rfl ?_
 refine WP.iloadN d29_7 rfl ?_
 obtain ⟨c2, hc2, h⟩ := bd h
 refine WP.callP (i := 0) (y := y31) (as := [.int p1]) (S := []) d29_8 (hw _ m_239) (hw _ m_241) (hw _ m_1) (hw _ m_240) (hw _ m_242) (hw _ m_2) hy31 rfl (ok31 l Z a0 hw p1 s _ hc2) rfl (lenOf pd31 rfl) (leb rfl) (leb rfl) (leb rfl) (leb rfl) ?_
 rintro _ _ ⟨rfl, rfl⟩
 show W29 l Z n0 (P29 r) 0 0 11 (vR 0 :: vI p1 :: vI p2 :: vI c1 :: []) [.int c2] (Hb 0 s)
 rcases ite_e h with ⟨hc3, h⟩ | ⟨hc3, h⟩
 ·
  refine WP.ifY (pc' := 23) d29_11 (XT.i0_eq_t hc3) (by decide) rfl ?_
  refine WP.aloadN d29_23 rfl ?_
  refine WP.aloadN d29_24 rfl ?_
  refine WP.getfield (i := 0) (j := 33) d29_25 (hw _ m_49) rfl rfl rfl ?_
  refine WP.iloadN d29_28 rfl ?_
  obtain ⟨x4, hx4, h⟩ := bd h
  refine WP.iaload (i := 20) d29_29 rfl hx4 ?_
  refine WP.bipush (63 : Int32) d29_30 rfl ?_
  refine WP.iand d29_32 ?_
  refine WP.iloadN d29_33 rfl ?_
  obtain ⟨c5, hc5, h⟩ := bd h
  refine WP.callP (i := 0) (y := y42) (as := [.int (x4 &&& (63 : Int32)), .int p2]) (S := []) d29_34 (hw _ m_283) (hw _ m_285) (hw _ m_1) (hw _ m_284) (hw _ m_286) (hw _ m_2) hy42 rfl (ok42 l Z a0 hw (x4 &&& (63 : Int32)) p2 s _ hc5) rfl (lenOf pd42 rfl) (leb rfl) (leb rfl) (leb rfl) (leb rfl) ?_
  rintro _ _ ⟨rfl, rfl⟩
  show W29 l Z n0 (P29 r) 0 0 37 (vR 0 :: vI p1 :: vI p2 :: vI c1 :: []) [] (Hb 0 c5)
  cases h
  exact WP.vreturn d29_37 rfl (leb rfl) (leb rfl) ⟨rfl, rfl⟩
 ·
  refine WP.ifN d29_11 (XT.i0_eq_f hc3) ?_
  refine WP.aloadN d29_14 rfl ?_
  refine WP.iloadN d29_15 rfl ?_
  refine WP.iconst (1 : Int32) d29_16 rfl ?_
  refine WP.iconst (0 : Int32) d29_17 rfl ?_
  refine WP.iloadN d29_18 rfl ?_
  obtain ⟨c6, hc6, h⟩ := bd h
  refine WP.callP (i := 0) (y := y32) (as := [.int p2, .int (1 : Int32), oN, .int c1]) (S := []) d29_19 (hw _ m_243) (hw _ m_245) (hw _ m_1) (hw _ m_244) (hw _ m_246) (hw _ m_2) hy32 rfl (ok32 l Z a0 hw p2 (1 : Int32) (0 : Int32) c1 s _ hc6) rfl (lenOf pd32 rfl) (leb rfl) (leb rfl) (leb rfl) (leb rfl) ?_
  rintro _ _ ⟨rfl, rfl⟩
  show W29 l Z n0 (P29 r) 0 0 22 (vR 0 :: vI p1 :: vI p2 :: vI c1 :: []) [] (Hb 0 c6)
  cases h
  exact WP.vreturn d29_22 rfl (leb rfl) (leb rfl) ⟨rfl, rfl⟩
theorem d33_0 : dc k37 0 (.aload_n 0) 1 := by decide +kernel
theorem d33_1 : dc k37 1 (.iload_n 1) 1 := by decide +kernel
theorem d33_2 : dc k37 2 (.invokevirtual 192) 3 := by decide +kernel
theorem d33_5 : dc k37 5 (.iconst 1) 1 := by decide +kernel
theorem d33_6 : dc k37 6 (.if_icmp .ne 18) 3 := by decide +kernel
theorem d33_9 : dc k37 9 (.aload_n 0) 1 := by decide +kernel
theorem d33_10 : dc k37 10 (.iload_n 2) 1 := by decide +kernel
theorem d33_11 : dc k37 11 (.iconst 0) 1 := by decide +kernel
theorem d33_12 : dc k37 12 (.aload_n 0) 1 := by decide +kernel
theorem d33_13 : dc k37 13 (.iload_n 1) 1 := by decide +kernel
theorem d33_14 : dc k37 14 (.invokevirtual 199) 3 := by decide +kernel
theorem d33_17 : dc k37 17 (.iconst 0) 1 := by decide +kernel
theorem d33_18 : dc k37 18 (.invokevirtual 252) 3 := by decide +kernel
theorem d33_21 : dc k37 21 (.goto 13) 3 := by decide +kernel
theorem d33_24 : dc k37 24 (.aload_n 0) 1 := by decide +kernel
theorem d33_25 : dc k37 25 (.aload_n 0) 1 := by decide +kernel
theorem d33_26 : dc k37 26 (.iload_n 1) 1 := by decide +kernel
theorem d33_27 : dc k37 27 (.invokevirtual 199) 3 := by decide +kernel
theorem d33_30 : dc k37 30 (.iload_n 2) 1 := by decide +kernel
theorem d33_31 : dc k37 31 (.invokevirtual 266) 3 := by decide +kernel
theorem d33_34 : dc k37 34 (.return_) 1 := by decide +kernel
abbrev y33 : MethodName := ⟨"FatPointerC", "loadAtom", "(II)V"⟩
theorem hy33 : y33.cls ≠ "java/lang/invoke/MethodHandle" ∧ y33.cls ≠ "java/lang/invoke/VarHandle" := by decide
theorem pd33 : parseMethodDescriptor y33.desc = some ⟨[.int, .int], none⟩ := by decide +kernel
abbrev R33 : Room := { frames := 3, cells := 0, slots := 0, locals := 45 }
abbrev P33 (r : St) : Option Value → List OwnC → Prop := fun v H' => v = none ∧ H' = (Hb 0 r)
abbrev W33 (l : Launch) (Z : State) (n0 : Nat) (Q : Option Value → List OwnC → Prop) (k n pc : Nat) (L : List Slot) (S : List Value) (H : List OwnC) : Prop := WP l Z CN lay "FatPointerC" "loadAtom" prog_1_method_44_code 3 (none) R33 n0 0 Q k n pc L S H
def f_loadAtom_34 (s : St) : Option (St) :=
 some s
theorem ok33_34 (l : Launch) (Z : State) (a0 : Array Value) (hw : HW a0 Z) (n0 : Nat) (s r : St) (h : f_loadAtom_34 s = some r) : W33 l Z n0 (P33 r) 0 0 34 (vU :: vU :: vU :: []) [] (Hb 0 s) := by
 unfold f_loadAtom_34 at h
 cases h
 exact WP.vreturn d33_34 rfl (leb rfl) (leb rfl) ⟨rfl, rfl⟩
def f_loadAtom (p1 p2 : Int32) (s : St) : Option (St) :=
 (f_kindAt p1 s).bind fun c1 =>
 if c1 = (1 : Int32) then
  (f_valAt p1 s).bind fun c3 =>
  (f_setReg p2 (0 : Int32) c3 (0 : Int32) s).bind fun c4 =>
  f_loadAtom_34 c4
 else
  (f_valAt p1 s).bind fun c5 =>
  (f_loadVar c5 p2 s).bind fun c6 =>
  f_loadAtom_34 c6
theorem ok33 (l : Launch) (Z : State) (a0 : Array Value) (hw : HW a0 Z) (p1 p2 : Int32) (s r : St) (h : f_loadAtom p1 p2 s = some r) : CS l Z CN lay y33 prog_1_method_44_code 3 (none) R33 0 [.ref 0, .int p1, .int p2] (Hb 0 s) (P33 r) := by
 refine CS.of_wp pn_cls (leb rfl) fun n0 => ?_
 show W33 l Z n0 (P33 r) 0 0 0 (vR 0 :: vI p1 :: vI p2 :: []) [] (Hb 0 s)
 unfold f_loadAtom at h
 refine WP.aloadN d33_0 rfl ?_
 refine WP.iloadN d33_1 rfl ?_
 obtain ⟨c1, hc1, h⟩ := bd h
 refine WP.callP (i := 0) (y := y7) (as := [.int p1]) (S := []) d33_2 (hw _ m_129) (hw _ m_131) (hw _ m_1) (hw _ m_130) (hw _ m_132) (hw _ m_2) hy7 rfl (ok7 l Z a0 hw p1 s _ hc1) rfl (lenOf pd7 rfl) (leb rfl) (leb rfl) (leb rfl) (leb rfl) ?_
 rintro _ _ ⟨rfl, rfl⟩
 show W33 l Z n0 (P33 r) 0 0 5 (vR 0 :: vI p1 :: vI p2 :: []) [.int c1] (Hb 0 s)
 refine WP.iconst (1 : Int32) d33_5 rfl ?_
 rcases ite_e h with ⟨hc2, h⟩ | ⟨hc2, h⟩
 ·
  refine WP.icmpN d33_6 (XT.ii_ne_f hc2) ?_
  refine WP.aloadN d33_9 rfl ?_
  refine WP.iloadN d33_10 rfl ?_
  refine WP.iconst (0 : Int32) d33_11 rfl ?_
  refine WP.aloadN d33_12 rfl ?_
  refine WP.iloadN d33_13 rfl ?_
  obtain ⟨c3, hc3, h⟩ := bd h
  refine WP.callP (i := 0) (y := y8) (as := [.int p1]) (S := [oN, .int p2, .ref 0]) d33_14 (hw _ m_133) (hw _ m_135) (hw _ m_1) (hw _ m_134) (hw _ m_136) (hw _ m_2) hy8 rfl (ok8 l Z a0 hw p1 s _ hc3) rfl (lenOf pd8 rfl) (leb rfl) (leb rfl) (leb rfl) (leb rfl) ?_
  rintro _ _ ⟨rfl, rfl⟩
  show W33 l Z n0 (P33 r) 0 0 17 (vR 0 :: vI p1 :: vI p2 :: []) [.int c3, oN, .int p2, .ref 0] (Hb 0 s)
  refine WP.iconst (0 : Int32) d33_17 rfl ?_
  obtain ⟨c4, hc4, h⟩ := bd h
  refine WP.callP (i := 0) (y := y32) (as := [.int p2, oN, .int c3, oN]) (S := []) d33_18 (hw _ m_243) (hw _ m_245) (hw _ m_1) (hw _ m_244) (hw _ m_246) (hw _ m_2) hy32 rfl (ok32 l Z a0 hw p2 (0 : Int32) c3 (0 : Int32) s _ hc4) rfl (lenOf pd32 rfl) (leb rfl) (leb rfl) (leb rfl) (leb rfl) ?_
  rintro _ _ ⟨rfl, rfl⟩
  show W33 l Z n0 (P33 r) 0 0 21 (vR 0 :: vI p1 :: vI p2 :: []) [] (Hb 0 c4)
  refine WP.goto (pc' := 34) d33_21 (by decide) rfl ?_
  exact WP.weak (L' := (vU :: vU :: vU :: [])) trivial (ok33_34 l Z a0 hw n0 c4 _ h)
 ·
  refine WP.icmpY (pc' := 24) d33_6 (XT.ii_ne_t hc2) (by decide) rfl ?_
  refine WP.aloadN d33_24 rfl ?_
  refine WP.aloadN d33_25 rfl ?_
  refine WP.iloadN d33_26 rfl ?_
  obtain ⟨c5, hc5, h⟩ := bd h
  refine WP.callP (i := 0) (y := y8) (as := [.int p1]) (S := [.ref 0]) d33_27 (hw _ m_133) (hw _ m_135) (hw _ m_1) (hw _ m_134) (hw _ m_136) (hw _ m_2) hy8 rfl (ok8 l Z a0 hw p1 s _ hc5) rfl (lenOf pd8 rfl) (leb rfl) (leb rfl) (leb rfl) (leb rfl) ?_
  rintro _ _ ⟨rfl, rfl⟩
  show W33 l Z n0 (P33 r) 0 0 30 (vR 0 :: vI p1 :: vI p2 :: []) [.int c5, .ref 0] (Hb 0 s)
  refine WP.iloadN d33_30 rfl ?_
  obtain ⟨c6, hc6, h⟩ := bd h
  refine WP.callP (i := 0) (y := y29) (as := [.int c5, .int p2]) (S := []) d33_31 (hw _ m_231) (hw _ m_233) (hw _ m_1) (hw _ m_232) (hw _ m_234) (hw _ m_2) hy29 rfl (ok29 l Z a0 hw c5 p2 s _ hc6) rfl (lenOf pd29 rfl) (leb rfl) (leb rfl) (leb rfl) (leb rfl) ?_
  rintro _ _ ⟨rfl, rfl⟩
  show W33 l Z n0 (P33 r) 0 0 34 (vR 0 :: vI p1 :: vI p2 :: []) [] (Hb 0 c6)
  exact WP.weak (L' := (vU :: vU :: vU :: [])) trivial (ok33_34 l Z a0 hw n0 c6 _ h)
theorem d39_0 : dc k40 0 (.iload_n 1) 1 := by decide +kernel
theorem d39_1 : dc k40 1 (.iconst 1) 1 := by decide +kernel
theorem d39_2 : dc k40 2 (.if_icmp .ne 8) 3 := by decide +kernel
theorem d39_5 : dc k40 5 (.iload 4) 2 := by decide +kernel
theorem d39_7 : dc k40 7 (.ifCond .eq 12) 3 := by decide +kernel
theorem d39_10 : dc k40 10 (.aload_n 0) 1 := by decide +kernel
theorem d39_11 : dc k40 11 (.iconst 1) 1 := by decide +kernel
theorem d39_12 : dc k40 12 (.iload 6) 2 := by decide +kernel
theorem d39_14 : dc k40 14 (.invokevirtual 146) 3 := by decide +kernel
theorem d39_17 : dc k40 17 (.iconst (-1)) 1 := by decide +kernel
theorem d39_18 : dc k40 18 (.ireturn) 1 := by decide +kernel
theorem d39_19 : dc k40 19 (.iload_n 3) 1 := by decide +kernel
theorem d39_20 : dc k40 20 (.sipush 4095) 3 := by decide +kernel
theorem d39_23 : dc k40 23 (.iand) 1 := by decide +kernel
theorem d39_24 : dc k40 24 (.istore 7) 2 := by decide +kernel
theorem d39_26 : dc k40 26 (.aload_n 0) 1 := by decide +kernel
theorem d39_27 : dc k40 27 (.getfield 74) 3 := by decide +kernel
theorem d39_30 : dc k40 30 (.iload 7) 2 := by decide +kernel
theorem d39_32 : dc k40 32 (.baload) 1 := by decide +kernel
theorem d39_33 : dc k40 33 (.ifCond .ne 12) 3 := by decide +kernel
theorem d39_36 : dc k40 36 (.aload_n 0) 1 := by decide +kernel
theorem d39_37 : dc k40 37 (.iconst 3) 1 := by decide +kernel
theorem d39_38 : dc k40 38 (.iload 6) 2 := by decide +kernel
theorem d39_40 : dc k40 40 (.invokevirtual 146) 3 := by decide +kernel
theorem d39_43 : dc k40 43 (.iconst (-1)) 1 := by decide +kernel
theorem d39_44 : dc k40 44 (.ireturn) 1 := by decide +kernel
theorem d39_45 : dc k40 45 (.iload_n 2) 1 := by decide +kernel
theorem d39_46 : dc k40 46 (.i2l) 1 := by decide +kernel
theorem d39_47 : dc k40 47 (.iload 5) 2 := by decide +kernel
theorem d39_49 : dc k40 49 (.i2l) 1 := by decide +kernel
theorem d39_50 : dc k40 50 (.ladd) 1 := by decide +kernel
theorem d39_51 : dc k40 51 (.lstore 8) 2 := by decide +kernel
theorem d39_53 : dc k40 53 (.lload 8) 2 := by decide +kernel
theorem d39_55 : dc k40 55 (.lconst 0) 1 := by decide +kernel
theorem d39_56 : dc k40 56 (.lcmp) 1 := by decide +kernel
theorem d39_57 : dc k40 57 (.ifCond .lt 17) 3 := by decide +kernel
theorem d39_60 : dc k40 60 (.lload 8) 2 := by decide +kernel
theorem d39_62 : dc k40 62 (.aload_n 0) 1 := by decide +kernel
theorem d39_63 : dc k40 63 (.getfield 71) 3 := by decide +kernel
theorem d39_66 : dc k40 66 (.iload 7) 2 := by decide +kernel
theorem d39_68 : dc k40 68 (.iaload) 1 := by decide +kernel
theorem d39_69 : dc k40 69 (.i2l) 1 := by decide +kernel
theorem d39_70 : dc k40 70 (.lcmp) 1 := by decide +kernel
theorem d39_71 : dc k40 71 (.ifCond .lt 12) 3 := by decide +kernel
theorem d39_74 : dc k40 74 (.aload_n 0) 1 := by decide +kernel
theorem d39_75 : dc k40 75 (.iconst 2) 1 := by decide +kernel
theorem d39_76 : dc k40 76 (.iload 6) 2 := by decide +kernel
theorem d39_78 : dc k40 78 (.invokevirtual 146) 3 := by decide +kernel
theorem d39_81 : dc k40 81 (.iconst (-1)) 1 := by decide +kernel
theorem d39_82 : dc k40 82 (.ireturn) 1 := by decide +kernel
theorem d39_83 : dc k40 83 (.aload_n 0) 1 := by decide +kernel
theorem d39_84 : dc k40 84 (.getfield 68) 3 := by decide +kernel
theorem d39_87 : dc k40 87 (.iload 7) 2 := by decide +kernel
theorem d39_89 : dc k40 89 (.iaload) 1 := by decide +kernel
theorem d39_90 : dc k40 90 (.lload 8) 2 := by decide +kernel
theorem d39_92 : dc k40 92 (.l2i) 1 := by decide +kernel
theorem d39_93 : dc k40 93 (.iadd) 1 := by decide +kernel
theorem d39_94 : dc k40 94 (.bipush 63) 2 := by decide +kernel
theorem d39_96 : dc k40 96 (.iand) 1 := by decide +kernel
theorem d39_97 : dc k40 97 (.ireturn) 1 := by decide +kernel
abbrev y39 : MethodName := ⟨"FatPointerC", "check", "(IIIIII)I"⟩
theorem hy39 : y39.cls ≠ "java/lang/invoke/MethodHandle" ∧ y39.cls ≠ "java/lang/invoke/VarHandle" := by decide
theorem pd39 : parseMethodDescriptor y39.desc = some ⟨[.int, .int, .int, .int, .int, .int], some .int⟩ := by decide +kernel
abbrev R39 : Room := { frames := 1, cells := 0, slots := 0, locals := 14 }
abbrev P39 (r : Int32 × St) : Option Value → List OwnC → Prop := fun v H' => v = some (.int r.1) ∧ H' = (Hb 0 r.2)
abbrev W39 (l : Launch) (Z : State) (n0 : Nat) (Q : Option Value → List OwnC → Prop) (k n pc : Nat) (L : List Slot) (S : List Value) (H : List OwnC) : Prop := WP l Z CN lay "FatPointerC" "check" prog_1_method_48_code 10 (some FieldType.int) R39 n0 0 Q k n pc L S H
def f_check_10 (v6 : Int32) (s : St) : Option (Int32 × St) :=
 (f_trap (1 : Int32) v6 s).bind fun c1 =>
 some ((-1 : Int32), c1)
theorem ok39_10 (l : Launch) (Z : State) (a0 : Array Value) (hw : HW a0 Z) (n0 : Nat) (v6 : Int32) (s : St) (r : Int32 × St) (h : f_check_10 v6 s = some r) : W39 l Z n0 (P39 r) 0 0 10 (vR 0 :: vU :: vU :: vU :: vU :: vU :: vI v6 :: vU :: vU :: vU :: []) [] (Hb 0 s) := by
 unfold f_check_10 at h
 refine WP.aloadN d39_10 rfl ?_
 refine WP.iconst (1 : Int32) d39_11 rfl ?_
 refine WP.iload d39_12 rfl ?_
 obtain ⟨c1, hc1, h⟩ := bd h
 refine WP.callP (i := 0) (y := y50) (as := [.int (1 : Int32), .int v6]) (S := []) d39_14 (hw _ m_321) (hw _ m_323) (hw _ m_1) (hw _ m_322) (hw _ m_324) (hw _ m_2) hy50 rfl (ok50 l Z a0 hw (1 : Int32) v6 s _ hc1) rfl (lenOf pd50 rfl) (leb rfl) (leb rfl) (leb rfl) (leb rfl) ?_
 rintro _ _ ⟨rfl, rfl⟩
 show W39 l Z n0 (P39 r) 0 0 17 (vR 0 :: vU :: vU :: vU :: vU :: vU :: vI v6 :: vU :: vU :: vU :: []) [] (Hb 0 c1)
 refine WP.iconst (-1 : Int32) d39_17 rfl ?_
 cases h
 exact WP.ireturn d39_18 rfl (leb rfl) (leb rfl) ⟨rfl, rfl⟩
def f_check_74 (v6 : Int32) (s : St) : Option (Int32 × St) :=
 (f_trap (2 : Int32) v6 s).bind fun c1 =>
 some ((-1 : Int32), c1)
theorem ok39_74 (l : Launch) (Z : State) (a0 : Array Value) (hw : HW a0 Z) (n0 : Nat) (v6 : Int32) (s : St) (r : Int32 × St) (h : f_check_74 v6 s = some r) : W39 l Z n0 (P39 r) 0 0 74 (vR 0 :: vU :: vU :: vU :: vU :: vU :: vI v6 :: vU :: vU :: vU :: []) [] (Hb 0 s) := by
 unfold f_check_74 at h
 refine WP.aloadN d39_74 rfl ?_
 refine WP.iconst (2 : Int32) d39_75 rfl ?_
 refine WP.iload d39_76 rfl ?_
 obtain ⟨c1, hc1, h⟩ := bd h
 refine WP.callP (i := 0) (y := y50) (as := [.int (2 : Int32), .int v6]) (S := []) d39_78 (hw _ m_321) (hw _ m_323) (hw _ m_1) (hw _ m_322) (hw _ m_324) (hw _ m_2) hy50 rfl (ok50 l Z a0 hw (2 : Int32) v6 s _ hc1) rfl (lenOf pd50 rfl) (leb rfl) (leb rfl) (leb rfl) (leb rfl) ?_
 rintro _ _ ⟨rfl, rfl⟩
 show W39 l Z n0 (P39 r) 0 0 81 (vR 0 :: vU :: vU :: vU :: vU :: vU :: vI v6 :: vU :: vU :: vU :: []) [] (Hb 0 c1)
 refine WP.iconst (-1 : Int32) d39_81 rfl ?_
 cases h
 exact WP.ireturn d39_82 rfl (leb rfl) (leb rfl) ⟨rfl, rfl⟩
def f_check (p1 p2 p3 p4 p5 p6 : Int32) (s : St) : Option (Int32 × St) :=
 if p1 = (1 : Int32) then
  if p4 = 0 then
   lt (p3 &&& (4095 : Int32)) fun x3 =>
   (rd (gA s 21) x3).bind fun x4 =>
   if x4 = 0 then
    (f_trap (3 : Int32) p6 s).bind fun c6 =>
    some ((-1 : Int32), c6)
   else
    lt (p2.toInt64 + p5.toInt64) fun x7 =>
    if x7 < (0 : Int64) then
     f_check_74 p6 s
    else
     (rd (gA s 20) x3).bind fun x9 =>
     if x7 < x9.toInt64 then
      (rd (gA s 19) x3).bind fun x11 =>
      some ((x11 + x7.toInt32) &&& (63 : Int32), s)
     else
      f_check_74 p6 s
  else
   f_check_10 p6 s
 else
  f_check_10 p6 s
theorem ok39 (l : Launch) (Z : State) (a0 : Array Value) (hw : HW a0 Z) (p1 p2 p3 p4 p5 p6 : Int32) (s : St) (r : Int32 × St) (h : f_check p1 p2 p3 p4 p5 p6 s = some r) : CS l Z CN lay y39 prog_1_method_48_code 10 (some FieldType.int) R39 0 [.ref 0, .int p1, .int p2, .int p3, .int p4, .int p5, .int p6] (Hb 0 s) (P39 r) := by
 refine CS.of_wp pn_cls (leb rfl) fun n0 => ?_
 show W39 l Z n0 (P39 r) 0 0 0 (vR 0 :: vI p1 :: vI p2 :: vI p3 :: vI p4 :: vI p5 :: vI p6 :: vU :: vU :: vU :: []) [] (Hb 0 s)
 unfold f_check at h
 refine WP.iloadN d39_0 rfl ?_
 refine WP.iconst (1 : Int32) d39_1 rfl ?_
 rcases ite_e h with ⟨hc1, h⟩ | ⟨hc1, h⟩
 ·
  refine WP.icmpN d39_2 (XT.ii_ne_f hc1) ?_
  refine WP.iload d39_5 rfl ?_
  rcases ite_e h with ⟨hc2, h⟩ | ⟨hc2, h⟩
  ·
   refine WP.ifY (pc' := 19) d39_7 (XT.i0_eq_t hc2) (by decide) rfl ?_
   refine WP.iloadN d39_19 rfl ?_
   refine WP.sipush (4095 : Int32) d39_20 rfl ?_
   refine WP.iand d39_23 ?_
   obtain ⟨x3, ex3, h⟩ := lt_e h
   refine WP.istore (L' := (vR 0 :: vI p1 :: vI p2 :: vI p3 :: vI p4 :: vI p5 :: vI p6 :: vI x3 :: vU :: vU :: [])) d39_24 (leb rfl) (by subst ex3; rfl) ?_
   refine WP.aloadN d39_26 rfl ?_
   refine WP.getfield (i := 0) (j := 35) d39_27 (hw _ m_53) rfl rfl rfl ?_
   refine WP.iload d39_30 rfl ?_
   obtain ⟨x4, hx4, h⟩ := bd h
   refine WP.baload (i := 22) d39_32 rfl hx4 ?_
   rcases ite_e h with ⟨hc5, h⟩ | ⟨hc5, h⟩
   ·
    refine WP.ifN d39_33 (XT.i0_ne_f hc5) ?_
    refine WP.aloadN d39_36 rfl ?_
    refine WP.iconst (3 : Int32) d39_37 rfl ?_
    refine WP.iload d39_38 rfl ?_
    obtain ⟨c6, hc6, h⟩ := bd h
    refine WP.callP (i := 0) (y := y50) (as := [.int (3 : Int32), .int p6]) (S := []) d39_40 (hw _ m_321) (hw _ m_323) (hw _ m_1) (hw _ m_322) (hw _ m_324) (hw _ m_2) hy50 rfl (ok50 l Z a0 hw (3 : Int32) p6 s _ hc6) rfl (lenOf pd50 rfl) (leb rfl) (leb rfl) (leb rfl) (leb rfl) ?_
    rintro _ _ ⟨rfl, rfl⟩
    show W39 l Z n0 (P39 r) 0 0 43 (vR 0 :: vI p1 :: vI p2 :: vI p3 :: vI p4 :: vI p5 :: vI p6 :: vI x3 :: vU :: vU :: []) [] (Hb 0 c6)
    refine WP.iconst (-1 : Int32) d39_43 rfl ?_
    cases h
    exact WP.ireturn d39_44 rfl (leb rfl) (leb rfl) ⟨rfl, rfl⟩
   ·
    refine WP.ifY (pc' := 45) d39_33 (XT.i0_ne_t hc5) (by decide) rfl ?_
    refine WP.iloadN d39_45 rfl ?_
    refine WP.i2l d39_46 ?_
    refine WP.iload d39_47 rfl ?_
    refine WP.i2l d39_49 ?_
    refine WP.ladd d39_50 ?_
    obtain ⟨x7, ex7, h⟩ := lt_e h
    refine WP.lstore (L' := (vR 0 :: vI p1 :: vI p2 :: vI p3 :: vI p4 :: vI p5 :: vI p6 :: vI x3 :: vJ x7 :: vS :: [])) d39_51 (leb rfl) (by subst ex7; rfl) ?_
    refine WP.lload d39_53 rfl ?_
    refine WP.lconst (0 : Int64) d39_55 rfl ?_
    refine WP.lcmp d39_56 ?_
    rcases ite_e h with ⟨hc8, h⟩ | ⟨hc8, h⟩
    ·
     refine WP.ifY (pc' := 74) d39_57 (XT.ll_lt_t hc8) (by decide) rfl ?_
     exact WP.weak (L' := (vR 0 :: vU :: vU :: vU :: vU :: vU :: vI p6 :: vU :: vU :: vU :: [])) ⟨rfl, rfl, trivial⟩ (ok39_74 l Z a0 hw n0 p6 s _ h)
    ·
     refine WP.ifN d39_57 (XT.ll_lt_f hc8) ?_
     refine WP.lload d39_60 rfl ?_
     refine WP.aloadN d39_62 rfl ?_
     refine WP.getfield (i := 0) (j := 34) d39_63 (hw _ m_51) rfl rfl rfl ?_
     refine WP.iload d39_66 rfl ?_
     obtain ⟨x9, hx9, h⟩ := bd h
     refine WP.iaload (i := 21) d39_68 rfl hx9 ?_
     refine WP.i2l d39_69 ?_
     refine WP.lcmp d39_70 ?_
     rcases ite_e h with ⟨hc10, h⟩ | ⟨hc10, h⟩
     ·
      refine WP.ifY (pc' := 83) d39_71 (XT.ll_lt_t hc10) (by decide) rfl ?_
      refine WP.aloadN d39_83 rfl ?_
      refine WP.getfield (i := 0) (j := 33) d39_84 (hw _ m_49) rfl rfl rfl ?_
      refine WP.iload d39_87 rfl ?_
      obtain ⟨x11, hx11, h⟩ := bd h
      refine WP.iaload (i := 20) d39_89 rfl hx11 ?_
      refine WP.lload d39_90 rfl ?_
      refine WP.l2i d39_92 ?_
      refine WP.iadd d39_93 ?_
      refine WP.bipush (63 : Int32) d39_94 rfl ?_
      refine WP.iand d39_96 ?_
      cases h
      exact WP.ireturn d39_97 rfl (leb rfl) (leb rfl) ⟨rfl, rfl⟩
     ·
      refine WP.ifN d39_71 (XT.ll_lt_f hc10) ?_
      exact WP.weak (L' := (vR 0 :: vU :: vU :: vU :: vU :: vU :: vI p6 :: vU :: vU :: vU :: [])) ⟨rfl, rfl, trivial⟩ (ok39_74 l Z a0 hw n0 p6 s _ h)
  ·
   refine WP.ifN d39_7 (XT.i0_eq_f hc2) ?_
   exact WP.weak (L' := (vR 0 :: vU :: vU :: vU :: vU :: vU :: vI p6 :: vU :: vU :: vU :: [])) ⟨rfl, rfl, trivial⟩ (ok39_10 l Z a0 hw n0 p6 s _ h)
 ·
  refine WP.icmpY (pc' := 10) d39_2 (XT.ii_ne_t hc1) (by decide) rfl ?_
  exact WP.weak (L' := (vR 0 :: vU :: vU :: vU :: vU :: vU :: vI p6 :: vU :: vU :: vU :: [])) ⟨rfl, rfl, trivial⟩ (ok39_10 l Z a0 hw n0 p6 s _ h)
theorem d37_0 : dc k44 0 (.aload_n 0) 1 := by decide +kernel
theorem d37_1 : dc k44 1 (.iload_n 1) 1 := by decide +kernel
theorem d37_2 : dc k44 2 (.invokevirtual 192) 3 := by decide +kernel
theorem d37_5 : dc k44 5 (.istore_n 2) 1 := by decide +kernel
theorem d37_6 : dc k44 6 (.iload_n 2) 1 := by decide +kernel
theorem d37_7 : dc k44 7 (.iconst 1) 1 := by decide +kernel
theorem d37_8 : dc k44 8 (.if_icmp .ne 19) 3 := by decide +kernel
theorem d37_11 : dc k44 11 (.aload_n 0) 1 := by decide +kernel
theorem d37_12 : dc k44 12 (.iconst 0) 1 := by decide +kernel
theorem d37_13 : dc k44 13 (.iconst 0) 1 := by decide +kernel
theorem d37_14 : dc k44 14 (.aload_n 0) 1 := by decide +kernel
theorem d37_15 : dc k44 15 (.iload_n 1) 1 := by decide +kernel
theorem d37_16 : dc k44 16 (.invokevirtual 199) 3 := by decide +kernel
theorem d37_19 : dc k44 19 (.iconst 0) 1 := by decide +kernel
theorem d37_20 : dc k44 20 (.invokevirtual 252) 3 := by decide +kernel
theorem d37_23 : dc k44 23 (.iload_n 1) 1 := by decide +kernel
theorem d37_24 : dc k44 24 (.iconst 1) 1 := by decide +kernel
theorem d37_25 : dc k44 25 (.iadd) 1 := by decide +kernel
theorem d37_26 : dc k44 26 (.ireturn) 1 := by decide +kernel
theorem d37_27 : dc k44 27 (.iload_n 2) 1 := by decide +kernel
theorem d37_28 : dc k44 28 (.bipush 23) 2 := by decide +kernel
theorem d37_30 : dc k44 30 (.if_icmp .ne 25) 3 := by decide +kernel
theorem d37_33 : dc k44 33 (.aload_n 0) 1 := by decide +kernel
theorem d37_34 : dc k44 34 (.iconst 0) 1 := by decide +kernel
theorem d37_35 : dc k44 35 (.iconst 1) 1 := by decide +kernel
theorem d37_36 : dc k44 36 (.iconst 0) 1 := by decide +kernel
theorem d37_37 : dc k44 37 (.aload_n 0) 1 := by decide +kernel
theorem d37_38 : dc k44 38 (.aload_n 0) 1 := by decide +kernel
theorem d37_39 : dc k44 39 (.iload_n 1) 1 := by decide +kernel
theorem d37_40 : dc k44 40 (.iconst 1) 1 := by decide +kernel
theorem d37_41 : dc k44 41 (.iadd) 1 := by decide +kernel
theorem d37_42 : dc k44 42 (.invokevirtual 199) 3 := by decide +kernel
theorem d37_45 : dc k44 45 (.invokevirtual 256) 3 := by decide +kernel
theorem d37_48 : dc k44 48 (.invokevirtual 252) 3 := by decide +kernel
theorem d37_51 : dc k44 51 (.iload_n 1) 1 := by decide +kernel
theorem d37_52 : dc k44 52 (.iconst 2) 1 := by decide +kernel
theorem d37_53 : dc k44 53 (.iadd) 1 := by decide +kernel
theorem d37_54 : dc k44 54 (.ireturn) 1 := by decide +kernel
theorem d37_55 : dc k44 55 (.iload_n 2) 1 := by decide +kernel
theorem d37_56 : dc k44 56 (.bipush 22) 2 := by decide +kernel
theorem d37_58 : dc k44 58 (.if_icmp .ne 57) 3 := by decide +kernel
theorem d37_61 : dc k44 61 (.aload_n 0) 1 := by decide +kernel
theorem d37_62 : dc k44 62 (.aload_n 0) 1 := by decide +kernel
theorem d37_63 : dc k44 63 (.iload_n 1) 1 := by decide +kernel
theorem d37_64 : dc k44 64 (.iconst 1) 1 := by decide +kernel
theorem d37_65 : dc k44 65 (.iadd) 1 := by decide +kernel
theorem d37_66 : dc k44 66 (.invokevirtual 199) 3 := by decide +kernel
theorem d37_69 : dc k44 69 (.iconst 0) 1 := by decide +kernel
theorem d37_70 : dc k44 70 (.invokevirtual 266) 3 := by decide +kernel
theorem d37_73 : dc k44 73 (.aload_n 0) 1 := by decide +kernel
theorem d37_74 : dc k44 74 (.aload_n 0) 1 := by decide +kernel
theorem d37_75 : dc k44 75 (.getfield 92) 3 := by decide +kernel
theorem d37_78 : dc k44 78 (.iconst 0) 1 := by decide +kernel
theorem d37_79 : dc k44 79 (.iaload) 1 := by decide +kernel
theorem d37_80 : dc k44 80 (.aload_n 0) 1 := by decide +kernel
theorem d37_81 : dc k44 81 (.getfield 95) 3 := by decide +kernel
theorem d37_84 : dc k44 84 (.iconst 0) 1 := by decide +kernel
theorem d37_85 : dc k44 85 (.iaload) 1 := by decide +kernel
theorem d37_86 : dc k44 86 (.aload_n 0) 1 := by decide +kernel
theorem d37_87 : dc k44 87 (.getfield 98) 3 := by decide +kernel
theorem d37_90 : dc k44 90 (.iconst 0) 1 := by decide +kernel
theorem d37_91 : dc k44 91 (.iaload) 1 := by decide +kernel
theorem d37_92 : dc k44 92 (.iconst 0) 1 := by decide +kernel
theorem d37_93 : dc k44 93 (.iconst 0) 1 := by decide +kernel
theorem d37_94 : dc k44 94 (.iload_n 1) 1 := by decide +kernel
theorem d37_95 : dc k44 95 (.invokevirtual 285) 3 := by decide +kernel
theorem d37_98 : dc k44 98 (.istore_n 3) 1 := by decide +kernel
theorem d37_99 : dc k44 99 (.iload_n 3) 1 := by decide +kernel
theorem d37_100 : dc k44 100 (.ifCond .ge 5) 3 := by decide +kernel
theorem d37_103 : dc k44 103 (.iconst (-1)) 1 := by decide +kernel
theorem d37_104 : dc k44 104 (.ireturn) 1 := by decide +kernel
theorem d37_105 : dc k44 105 (.aload_n 0) 1 := by decide +kernel
theorem d37_106 : dc k44 106 (.iload_n 3) 1 := by decide +kernel
theorem d37_107 : dc k44 107 (.iconst 0) 1 := by decide +kernel
theorem d37_108 : dc k44 108 (.invokevirtual 263) 3 := by decide +kernel
theorem d37_111 : dc k44 111 (.iload_n 1) 1 := by decide +kernel
theorem d37_112 : dc k44 112 (.iconst 2) 1 := by decide +kernel
theorem d37_113 : dc k44 113 (.iadd) 1 := by decide +kernel
theorem d37_114 : dc k44 114 (.ireturn) 1 := by decide +kernel
theorem d37_115 : dc k44 115 (.aload_n 0) 1 := by decide +kernel
theorem d37_116 : dc k44 116 (.aload_n 0) 1 := by decide +kernel
theorem d37_117 : dc k44 117 (.iload_n 1) 1 := by decide +kernel
theorem d37_118 : dc k44 118 (.invokevirtual 199) 3 := by decide +kernel
theorem d37_121 : dc k44 121 (.iconst 0) 1 := by decide +kernel
theorem d37_122 : dc k44 122 (.invokevirtual 266) 3 := by decide +kernel
theorem d37_125 : dc k44 125 (.aload_n 0) 1 := by decide +kernel
theorem d37_126 : dc k44 126 (.iload_n 1) 1 := by decide +kernel
theorem d37_127 : dc k44 127 (.iconst 1) 1 := by decide +kernel
theorem d37_128 : dc k44 128 (.iadd) 1 := by decide +kernel
theorem d37_129 : dc k44 129 (.invokevirtual 192) 3 := by decide +kernel
theorem d37_132 : dc k44 132 (.bipush 15) 2 := by decide +kernel
theorem d37_134 : dc k44 134 (.if_icmp .eq 7) 3 := by decide +kernel
theorem d37_137 : dc k44 137 (.iload_n 1) 1 := by decide +kernel
theorem d37_138 : dc k44 138 (.iconst 1) 1 := by decide +kernel
theorem d37_139 : dc k44 139 (.iadd) 1 := by decide +kernel
theorem d37_140 : dc k44 140 (.ireturn) 1 := by decide +kernel
theorem d37_141 : dc k44 141 (.aload_n 0) 1 := by decide +kernel
theorem d37_142 : dc k44 142 (.getfield 92) 3 := by decide +kernel
theorem d37_145 : dc k44 145 (.iconst 0) 1 := by decide +kernel
theorem d37_146 : dc k44 146 (.iaload) 1 := by decide +kernel
theorem d37_147 : dc k44 147 (.istore_n 3) 1 := by decide +kernel
theorem d37_148 : dc k44 148 (.aload_n 0) 1 := by decide +kernel
theorem d37_149 : dc k44 149 (.getfield 95) 3 := by decide +kernel
theorem d37_152 : dc k44 152 (.iconst 0) 1 := by decide +kernel
theorem d37_153 : dc k44 153 (.iaload) 1 := by decide +kernel
theorem d37_154 : dc k44 154 (.istore 4) 2 := by decide +kernel
theorem d37_156 : dc k44 156 (.aload_n 0) 1 := by decide +kernel
theorem d37_157 : dc k44 157 (.getfield 98) 3 := by decide +kernel
theorem d37_160 : dc k44 160 (.iconst 0) 1 := by decide +kernel
theorem d37_161 : dc k44 161 (.iaload) 1 := by decide +kernel
theorem d37_162 : dc k44 162 (.istore 5) 2 := by decide +kernel
theorem d37_164 : dc k44 164 (.aload_n 0) 1 := by decide +kernel
theorem d37_165 : dc k44 165 (.iload_n 1) 1 := by decide +kernel
theorem d37_166 : dc k44 166 (.iconst 2) 1 := by decide +kernel
theorem d37_167 : dc k44 167 (.iadd) 1 := by decide +kernel
theorem d37_168 : dc k44 168 (.iconst 0) 1 := by decide +kernel
theorem d37_169 : dc k44 169 (.invokevirtual 289) 3 := by decide +kernel
theorem d37_172 : dc k44 172 (.aload_n 0) 1 := by decide +kernel
theorem d37_173 : dc k44 173 (.iload_n 3) 1 := by decide +kernel
theorem d37_174 : dc k44 174 (.iload 4) 2 := by decide +kernel
theorem d37_176 : dc k44 176 (.iload 5) 2 := by decide +kernel
theorem d37_178 : dc k44 178 (.aload_n 0) 1 := by decide +kernel
theorem d37_179 : dc k44 179 (.getfield 92) 3 := by decide +kernel
theorem d37_182 : dc k44 182 (.iconst 0) 1 := by decide +kernel
theorem d37_183 : dc k44 183 (.iaload) 1 := by decide +kernel
theorem d37_184 : dc k44 184 (.aload_n 0) 1 := by decide +kernel
theorem d37_185 : dc k44 185 (.getfield 95) 3 := by decide +kernel
theorem d37_188 : dc k44 188 (.iconst 0) 1 := by decide +kernel
theorem d37_189 : dc k44 189 (.iaload) 1 := by decide +kernel
theorem d37_190 : dc k44 190 (.iload_n 1) 1 := by decide +kernel
theorem d37_191 : dc k44 191 (.iconst 1) 1 := by decide +kernel
theorem d37_192 : dc k44 192 (.iadd) 1 := by decide +kernel
theorem d37_193 : dc k44 193 (.invokevirtual 285) 3 := by decide +kernel
theorem d37_196 : dc k44 196 (.istore 6) 2 := by decide +kernel
theorem d37_198 : dc k44 198 (.iload 6) 2 := by decide +kernel
theorem d37_200 : dc k44 200 (.ifCond .ge 5) 3 := by decide +kernel
theorem d37_203 : dc k44 203 (.iconst (-1)) 1 := by decide +kernel
theorem d37_204 : dc k44 204 (.ireturn) 1 := by decide +kernel
theorem d37_205 : dc k44 205 (.aload_n 0) 1 := by decide +kernel
theorem d37_206 : dc k44 206 (.iload 6) 2 := by decide +kernel
theorem d37_208 : dc k44 208 (.iconst 0) 1 := by decide +kernel
theorem d37_209 : dc k44 209 (.invokevirtual 263) 3 := by decide +kernel
theorem d37_212 : dc k44 212 (.iload_n 1) 1 := by decide +kernel
theorem d37_213 : dc k44 213 (.iconst 4) 1 := by decide +kernel
theorem d37_214 : dc k44 214 (.iadd) 1 := by decide +kernel
theorem d37_215 : dc k44 215 (.ireturn) 1 := by decide +kernel
abbrev y37 : MethodName := ⟨"FatPointerC", "evalOperand", "(I)I"⟩
theorem hy37 : y37.cls ≠ "java/lang/invoke/MethodHandle" ∧ y37.cls ≠ "java/lang/invoke/VarHandle" := by decide
theorem pd37 : parseMethodDescriptor y37.desc = some ⟨[.int], some .int⟩ := by decide +kernel
abbrev R37 : Room := { frames := 4, cells := 0, slots := 0, locals := 59 }
abbrev P37 (r : Int32 × St) : Option Value → List OwnC → Prop := fun v H' => v = some (.int r.1) ∧ H' = (Hb 0 r.2)
abbrev W37 (l : Launch) (Z : State) (n0 : Nat) (Q : Option Value → List OwnC → Prop) (k n pc : Nat) (L : List Slot) (S : List Value) (H : List OwnC) : Prop := WP l Z CN lay "FatPointerC" "evalOperand" prog_1_method_52_code 7 (some FieldType.int) R37 n0 0 Q k n pc L S H
def f_evalOperand (p1 : Int32) (s : St) : Option (Int32 × St) :=
 (f_kindAt p1 s).bind fun c1 =>
 if c1 = (1 : Int32) then
  (f_valAt p1 s).bind fun c3 =>
  (f_setReg (0 : Int32) (0 : Int32) c3 (0 : Int32) s).bind fun c4 =>
  some (p1 + (1 : Int32), c4)
 else
  if c1 = (23 : Int32) then
   (f_valAt (p1 + (1 : Int32)) s).bind fun c6 =>
   (f_objOf c6 s).bind fun c7 =>
   (f_setReg (0 : Int32) (1 : Int32) (0 : Int32) c7 s).bind fun c8 =>
   some (p1 + (2 : Int32), c8)
  else
   if c1 = (22 : Int32) then
    (f_valAt (p1 + (1 : Int32)) s).bind fun c10 =>
    (f_loadVar c10 (0 : Int32) s).bind fun c11 =>
    (rd (gA c11 27) (0 : Int32)).bind fun x12 =>
    (rd (gA c11 28) (0 : Int32)).bind fun x13 =>
    (rd (gA c11 29) (0 : Int32)).bind fun x14 =>
    (f_check x12 x13 x14 (0 : Int32) (0 : Int32) p1 c11).bind fun c15 =>
    if c15.1 < 0 then
     some ((-1 : Int32), c15.2)
    else
     (f_readCell c15.1 (0 : Int32) c15.2).bind fun c17 =>
     some (p1 + (2 : Int32), c17)
   else
    (f_valAt p1 s).bind fun c18 =>
    (f_loadVar c18 (0 : Int32) s).bind fun c19 =>
    (f_kindAt (p1 + (1 : Int32)) c19).bind fun c20 =>
    if c20 = (15 : Int32) then
     (rd (gA c19 27) (0 : Int32)).bind fun x22 =>
     (rd (gA c19 28) (0 : Int32)).bind fun x23 =>
     (rd (gA c19 29) (0 : Int32)).bind fun x24 =>
     (f_loadAtom (p1 + (2 : Int32)) (0 : Int32) c19).bind fun c25 =>
     (rd (gA c25 27) (0 : Int32)).bind fun x26 =>
     (rd (gA c25 28) (0 : Int32)).bind fun x27 =>
     (f_check x22 x23 x24 x26 x27 (p1 + (1 : Int32)) c25).bind fun c28 =>
     if c28.1 < 0 then
      some ((-1 : Int32), c28.2)
     else
      (f_readCell c28.1 (0 : Int32) c28.2).bind fun c30 =>
      some (p1 + (4 : Int32), c30)
    else
     some (p1 + (1 : Int32), c19)
theorem ok37 (l : Launch) (Z : State) (a0 : Array Value) (hw : HW a0 Z) (p1 : Int32) (s : St) (r : Int32 × St) (h : f_evalOperand p1 s = some r) : CS l Z CN lay y37 prog_1_method_52_code 7 (some FieldType.int) R37 0 [.ref 0, .int p1] (Hb 0 s) (P37 r) := by
 refine CS.of_wp pn_cls (leb rfl) fun n0 => ?_
 show W37 l Z n0 (P37 r) 0 0 0 (vR 0 :: vI p1 :: vU :: vU :: vU :: vU :: vU :: []) [] (Hb 0 s)
 unfold f_evalOperand at h
 refine WP.aloadN d37_0 rfl ?_
 refine WP.iloadN d37_1 rfl ?_
 obtain ⟨c1, hc1, h⟩ := bd h
 refine WP.callP (i := 0) (y := y7) (as := [.int p1]) (S := []) d37_2 (hw _ m_129) (hw _ m_131) (hw _ m_1) (hw _ m_130) (hw _ m_132) (hw _ m_2) hy7 rfl (ok7 l Z a0 hw p1 s _ hc1) rfl (lenOf pd7 rfl) (leb rfl) (leb rfl) (leb rfl) (leb rfl) ?_
 rintro _ _ ⟨rfl, rfl⟩
 show W37 l Z n0 (P37 r) 0 0 5 (vR 0 :: vI p1 :: vU :: vU :: vU :: vU :: vU :: []) [.int c1] (Hb 0 s)
 refine WP.istoreN (L' := (vR 0 :: vI p1 :: vI c1 :: vU :: vU :: vU :: vU :: [])) d37_5 (leb rfl) rfl ?_
 refine WP.iloadN d37_6 rfl ?_
 refine WP.iconst (1 : Int32) d37_7 rfl ?_
 rcases ite_e h with ⟨hc2, h⟩ | ⟨hc2, h⟩
 ·
  refine WP.icmpN d37_8 (XT.ii_ne_f hc2) ?_
  refine WP.aloadN d37_11 rfl ?_
  refine WP.iconst (0 : Int32) d37_12 rfl ?_
  refine WP.iconst (0 : Int32) d37_13 rfl ?_
  refine WP.aloadN d37_14 rfl ?_
  refine WP.iloadN d37_15 rfl ?_
  obtain ⟨c3, hc3, h⟩ := bd h
  refine WP.callP (i := 0) (y := y8) (as := [.int p1]) (S := [oN, oN, .ref 0]) d37_16 (hw _ m_133) (hw _ m_135) (hw _ m_1) (hw _ m_134) (hw _ m_136) (hw _ m_2) hy8 rfl (ok8 l Z a0 hw p1 s _ hc3) rfl (lenOf pd8 rfl) (leb rfl) (leb rfl) (leb rfl) (leb rfl) ?_
  rintro _ _ ⟨rfl, rfl⟩
  show W37 l Z n0 (P37 r) 0 0 19 (vR 0 :: vI p1 :: vI c1 :: vU :: vU :: vU :: vU :: []) [.int c3, oN, oN, .ref 0] (Hb 0 s)
  refine WP.iconst (0 : Int32) d37_19 rfl ?_
  obtain ⟨c4, hc4, h⟩ := bd h
  refine WP.callP (i := 0) (y := y32) (as := [oN, oN, .int c3, oN]) (S := []) d37_20 (hw _ m_243) (hw _ m_245) (hw _ m_1) (hw _ m_244) (hw _ m_246) (hw _ m_2) hy32 rfl (ok32 l Z a0 hw (0 : Int32) (0 : Int32) c3 (0 : Int32) s _ hc4) rfl (lenOf pd32 rfl) (leb rfl) (leb rfl) (leb rfl) (leb rfl) ?_
  rintro _ _ ⟨rfl, rfl⟩
  show W37 l Z n0 (P37 r) 0 0 23 (vR 0 :: vI p1 :: vI c1 :: vU :: vU :: vU :: vU :: []) [] (Hb 0 c4)
  refine WP.iloadN d37_23 rfl ?_
  refine WP.iconst (1 : Int32) d37_24 rfl ?_
  refine WP.iadd d37_25 ?_
  cases h
  exact WP.ireturn d37_26 rfl (leb rfl) (leb rfl) ⟨rfl, rfl⟩
 ·
  refine WP.icmpY (pc' := 27) d37_8 (XT.ii_ne_t hc2) (by decide) rfl ?_
  refine WP.iloadN d37_27 rfl ?_
  refine WP.bipush (23 : Int32) d37_28 rfl ?_
  rcases ite_e h with ⟨hc5, h⟩ | ⟨hc5, h⟩
  ·
   refine WP.icmpN d37_30 (XT.ii_ne_f hc5) ?_
   refine WP.aloadN d37_33 rfl ?_
   refine WP.iconst (0 : Int32) d37_34 rfl ?_
   refine WP.iconst (1 : Int32) d37_35 rfl ?_
   refine WP.iconst (0 : Int32) d37_36 rfl ?_
   refine WP.aloadN d37_37 rfl ?_
   refine WP.aloadN d37_38 rfl ?_
   refine WP.iloadN d37_39 rfl ?_
   refine WP.iconst (1 : Int32) d37_40 rfl ?_
   refine WP.iadd d37_41 ?_
   obtain ⟨c6, hc6, h⟩ := bd h
   refine WP.callP (i := 0) (y := y8) (as := [.int (p1 + (1 : Int32))]) (S := [.ref 0, oN, .int (1 : Int32), oN, .ref 0]) d37_42 (hw _ m_133) (hw _ m_135) (hw _ m_1) (hw _ m_134) (hw _ m_136) (hw _ m_2) hy8 rfl (ok8 l Z a0 hw (p1 + (1 : Int32)) s _ hc6) rfl (lenOf pd8 rfl) (leb rfl) (leb rfl) (leb rfl) (leb rfl) ?_
   rintro _ _ ⟨rfl, rfl⟩
   show W37 l Z n0 (P37 r) 0 0 45 (vR 0 :: vI p1 :: vI c1 :: vU :: vU :: vU :: vU :: []) [.int c6, .ref 0, oN, .int (1 : Int32), oN, .ref 0] (Hb 0 s)
   obtain ⟨c7, hc7, h⟩ := bd h
   refine WP.callP (i := 0) (y := y30) (as := [.int c6]) (S := [oN, .int (1 : Int32), oN, .ref 0]) d37_45 (hw _ m_235) (hw _ m_237) (hw _ m_1) (hw _ m_236) (hw _ m_238) (hw _ m_2) hy30 rfl (ok30 l Z a0 hw c6 s _ hc7) rfl (lenOf pd30 rfl) (leb rfl) (leb rfl) (leb rfl) (leb rfl) ?_
   rintro _ _ ⟨rfl, rfl⟩
   show W37 l Z n0 (P37 r) 0 0 48 (vR 0 :: vI p1 :: vI c1 :: vU :: vU :: vU :: vU :: []) [.int c7, oN, .int (1 : Int32), oN, .ref 0] (Hb 0 s)
   obtain ⟨c8, hc8, h⟩ := bd h
   refine WP.callP (i := 0) (y := y32) (as := [oN, .int (1 : Int32), oN, .int c7]) (S := []) d37_48 (hw _ m_243) (hw _ m_245) (hw _ m_1) (hw _ m_244) (hw _ m_246) (hw _ m_2) hy32 rfl (ok32 l Z a0 hw (0 : Int32) (1 : Int32) (0 : Int32) c7 s _ hc8) rfl (lenOf pd32 rfl) (leb rfl) (leb rfl) (leb rfl) (leb rfl) ?_
   rintro _ _ ⟨rfl, rfl⟩
   show W37 l Z n0 (P37 r) 0 0 51 (vR 0 :: vI p1 :: vI c1 :: vU :: vU :: vU :: vU :: []) [] (Hb 0 c8)
   refine WP.iloadN d37_51 rfl ?_
   refine WP.iconst (2 : Int32) d37_52 rfl ?_
   refine WP.iadd d37_53 ?_
   cases h
   exact WP.ireturn d37_54 rfl (leb rfl) (leb rfl) ⟨rfl, rfl⟩
  ·
   refine WP.icmpY (pc' := 55) d37_30 (XT.ii_ne_t hc5) (by decide) rfl ?_
   refine WP.iloadN d37_55 rfl ?_
   refine WP.bipush (22 : Int32) d37_56 rfl ?_
   rcases ite_e h with ⟨hc9, h⟩ | ⟨hc9, h⟩
   ·
    refine WP.icmpN d37_58 (XT.ii_ne_f hc9) ?_
    refine WP.aloadN d37_61 rfl ?_
    refine WP.aloadN d37_62 rfl ?_
    refine WP.iloadN d37_63 rfl ?_
    refine WP.iconst (1 : Int32) d37_64 rfl ?_
    refine WP.iadd d37_65 ?_
    obtain ⟨c10, hc10, h⟩ := bd h
    refine WP.callP (i := 0) (y := y8) (as := [.int (p1 + (1 : Int32))]) (S := [.ref 0]) d37_66 (hw _ m_133) (hw _ m_135) (hw _ m_1) (hw _ m_134) (hw _ m_136) (hw _ m_2) hy8 rfl (ok8 l Z a0 hw (p1 + (1 : Int32)) s _ hc10) rfl (lenOf pd8 rfl) (leb rfl) (leb rfl) (leb rfl) (leb rfl) ?_
    rintro _ _ ⟨rfl, rfl⟩
    show W37 l Z n0 (P37 r) 0 0 69 (vR 0 :: vI p1 :: vI c1 :: vU :: vU :: vU :: vU :: []) [.int c10, .ref 0] (Hb 0 s)
    refine WP.iconst (0 : Int32) d37_69 rfl ?_
    obtain ⟨c11, hc11, h⟩ := bd h
    refine WP.callP (i := 0) (y := y29) (as := [.int c10, oN]) (S := []) d37_70 (hw _ m_231) (hw _ m_233) (hw _ m_1) (hw _ m_232) (hw _ m_234) (hw _ m_2) hy29 rfl (ok29 l Z a0 hw c10 (0 : Int32) s _ hc11) rfl (lenOf pd29 rfl) (leb rfl) (leb rfl) (leb rfl) (leb rfl) ?_
    rintro _ _ ⟨rfl, rfl⟩
    show W37 l Z n0 (P37 r) 0 0 73 (vR 0 :: vI p1 :: vI c1 :: vU :: vU :: vU :: vU :: []) [] (Hb 0 c11)
    refine WP.aloadN d37_73 rfl ?_
    refine WP.aloadN d37_74 rfl ?_
    refine WP.getfield (i := 0) (j := 46) d37_75 (hw _ m_65) rfl rfl rfl ?_
    refine WP.iconst (0 : Int32) d37_78 rfl ?_
    obtain ⟨x12, hx12, h⟩ := bd h
    refine WP.iaload (i := 28) d37_79 rfl hx12 ?_
    refine WP.aloadN d37_80 rfl ?_
    refine WP.getfield (i := 0) (j := 47) d37_81 (hw _ m_67) rfl rfl rfl ?_
    refine WP.iconst (0 : Int32) d37_84 rfl ?_
    obtain ⟨x13, hx13, h⟩ := bd h
    refine WP.iaload (i := 29) d37_85 rfl hx13 ?_
    refine WP.aloadN d37_86 rfl ?_
    refine WP.getfield (i := 0) (j := 48) d37_87 (hw _ m_69) rfl rfl rfl ?_
    refine WP.iconst (0 : Int32) d37_90 rfl ?_
    obtain ⟨x14, hx14, h⟩ := bd h
    refine WP.iaload (i := 30) d37_91 rfl hx14 ?_
    refine WP.iconst (0 : Int32) d37_92 rfl ?_
    refine WP.iconst (0 : Int32) d37_93 rfl ?_
    refine WP.iloadN d37_94 rfl ?_
    obtain ⟨c15, hc15, h⟩ := bd h
    refine WP.callP (i := 0) (y := y39) (as := [.int x12, .int x13, .int x14, oN, oN, .int p1]) (S := []) d37_95 (hw _ m_271) (hw _ m_273) (hw _ m_1) (hw _ m_272) (hw _ m_274) (hw _ m_2) hy39 rfl (ok39 l Z a0 hw x12 x13 x14 (0 : Int32) (0 : Int32) p1 c11 _ hc15) rfl (lenOf pd39 rfl) (leb rfl) (leb rfl) (leb rfl) (leb rfl) ?_
    rintro _ _ ⟨rfl, rfl⟩
    show W37 l Z n0 (P37 r) 0 0 98 (vR 0 :: vI p1 :: vI c1 :: vU :: vU :: vU :: vU :: []) [.int c15.1] (Hb 0 c15.2)
    refine WP.istoreN (L' := (vR 0 :: vI p1 :: vI c1 :: vI c15.1 :: vU :: vU :: vU :: [])) d37_98 (leb rfl) rfl ?_
    refine WP.iloadN d37_99 rfl ?_
    rcases ite_e h with ⟨hc16, h⟩ | ⟨hc16, h⟩
    ·
     refine WP.ifN d37_100 (XT.i0_ge_f hc16) ?_
     refine WP.iconst (-1 : Int32) d37_103 rfl ?_
     cases h
     exact WP.ireturn d37_104 rfl (leb rfl) (leb rfl) ⟨rfl, rfl⟩
    ·
     refine WP.ifY (pc' := 105) d37_100 (XT.i0_ge_t hc16) (by decide) rfl ?_
     refine WP.aloadN d37_105 rfl ?_
     refine WP.iloadN d37_106 rfl ?_
     refine WP.iconst (0 : Int32) d37_107 rfl ?_
     obtain ⟨c17, hc17, h⟩ := bd h
     refine WP.callP (i := 0) (y := y42) (as := [.int c15.1, oN]) (S := []) d37_108 (hw _ m_283) (hw _ m_285) (hw _ m_1) (hw _ m_284) (hw _ m_286) (hw _ m_2) hy42 rfl (ok42 l Z a0 hw c15.1 (0 : Int32) c15.2 _ hc17) rfl (lenOf pd42 rfl) (leb rfl) (leb rfl) (leb rfl) (leb rfl) ?_
     rintro _ _ ⟨rfl, rfl⟩
     show W37 l Z n0 (P37 r) 0 0 111 (vR 0 :: vI p1 :: vI c1 :: vI c15.1 :: vU :: vU :: vU :: []) [] (Hb 0 c17)
     refine WP.iloadN d37_111 rfl ?_
     refine WP.iconst (2 : Int32) d37_112 rfl ?_
     refine WP.iadd d37_113 ?_
     cases h
     exact WP.ireturn d37_114 rfl (leb rfl) (leb rfl) ⟨rfl, rfl⟩
   ·
    refine WP.icmpY (pc' := 115) d37_58 (XT.ii_ne_t hc9) (by decide) rfl ?_
    refine WP.aloadN d37_115 rfl ?_
    refine WP.aloadN d37_116 rfl ?_
    refine WP.iloadN d37_117 rfl ?_
    obtain ⟨c18, hc18, h⟩ := bd h
    refine WP.callP (i := 0) (y := y8) (as := [.int p1]) (S := [.ref 0]) d37_118 (hw _ m_133) (hw _ m_135) (hw _ m_1) (hw _ m_134) (hw _ m_136) (hw _ m_2) hy8 rfl (ok8 l Z a0 hw p1 s _ hc18) rfl (lenOf pd8 rfl) (leb rfl) (leb rfl) (leb rfl) (leb rfl) ?_
    rintro _ _ ⟨rfl, rfl⟩
    show W37 l Z n0 (P37 r) 0 0 121 (vR 0 :: vI p1 :: vI c1 :: vU :: vU :: vU :: vU :: []) [.int c18, .ref 0] (Hb 0 s)
    refine WP.iconst (0 : Int32) d37_121 rfl ?_
    obtain ⟨c19, hc19, h⟩ := bd h
    refine WP.callP (i := 0) (y := y29) (as := [.int c18, oN]) (S := []) d37_122 (hw _ m_231) (hw _ m_233) (hw _ m_1) (hw _ m_232) (hw _ m_234) (hw _ m_2) hy29 rfl (ok29 l Z a0 hw c18 (0 : Int32) s _ hc19) rfl (lenOf pd29 rfl) (leb rfl) (leb rfl) (leb rfl) (leb rfl) ?_
    rintro _ _ ⟨rfl, rfl⟩
    show W37 l Z n0 (P37 r) 0 0 125 (vR 0 :: vI p1 :: vI c1 :: vU :: vU :: vU :: vU :: []) [] (Hb 0 c19)
    refine WP.aloadN d37_125 rfl ?_
    refine WP.iloadN d37_126 rfl ?_
    refine WP.iconst (1 : Int32) d37_127 rfl ?_
    refine WP.iadd d37_128 ?_
    obtain ⟨c20, hc20, h⟩ := bd h
    refine WP.callP (i := 0) (y := y7) (as := [.int (p1 + (1 : Int32))]) (S := []) d37_129 (hw _ m_129) (hw _ m_131) (hw _ m_1) (hw _ m_130) (hw _ m_132) (hw _ m_2) hy7 rfl (ok7 l Z a0 hw (p1 + (1 : Int32)) c19 _ hc20) rfl (lenOf pd7 rfl) (leb rfl) (leb rfl) (leb rfl) (leb rfl) ?_
    rintro _ _ ⟨rfl, rfl⟩
    show W37 l Z n0 (P37 r) 0 0 132 (vR 0 :: vI p1 :: vI c1 :: vU :: vU :: vU :: vU :: []) [.int c20] (Hb 0 c19)
    refine WP.bipush (15 : Int32) d37_132 rfl ?_
    rcases ite_e h with ⟨hc21, h⟩ | ⟨hc21, h⟩
    ·
     refine WP.icmpY (pc' := 141) d37_134 (XT.ii_eq_t hc21) (by decide) rfl ?_
     refine WP.aloadN d37_141 rfl ?_
     refine WP.getfield (i := 0) (j := 46) d37_142 (hw _ m_65) rfl rfl rfl ?_
     refine WP.iconst (0 : Int32) d37_145 rfl ?_
     obtain ⟨x22, hx22, h⟩ := bd h
     refine WP.iaload (i := 28) d37_146 rfl hx22 ?_
     refine WP.istoreN (L' := (vR 0 :: vI p1 :: vI c1 :: vI x22 :: vU :: vU :: vU :: [])) d37_147 (leb rfl) rfl ?_
     refine WP.aloadN d37_148 rfl ?_
     refine WP.getfield (i := 0) (j := 47) d37_149 (hw _ m_67) rfl rfl rfl ?_
     refine WP.iconst (0 : Int32) d37_152 rfl ?_
     obtain ⟨x23, hx23, h⟩ := bd h
     refine WP.iaload (i := 29) d37_153 rfl hx23 ?_
     refine WP.istore (L' := (vR 0 :: vI p1 :: vI c1 :: vI x22 :: vI x23 :: vU :: vU :: [])) d37_154 (leb rfl) rfl ?_
     refine WP.aloadN d37_156 rfl ?_
     refine WP.getfield (i := 0) (j := 48) d37_157 (hw _ m_69) rfl rfl rfl ?_
     refine WP.iconst (0 : Int32) d37_160 rfl ?_
     obtain ⟨x24, hx24, h⟩ := bd h
     refine WP.iaload (i := 30) d37_161 rfl hx24 ?_
     refine WP.istore (L' := (vR 0 :: vI p1 :: vI c1 :: vI x22 :: vI x23 :: vI x24 :: vU :: [])) d37_162 (leb rfl) rfl ?_
     refine WP.aloadN d37_164 rfl ?_
     refine WP.iloadN d37_165 rfl ?_
     refine WP.iconst (2 : Int32) d37_166 rfl ?_
     refine WP.iadd d37_167 ?_
     refine WP.iconst (0 : Int32) d37_168 rfl ?_
     obtain ⟨c25, hc25, h⟩ := bd h
     refine WP.callP (i := 0) (y := y33) (as := [.int (p1 + (2 : Int32)), oN]) (S := []) d37_169 (hw _ m_247) (hw _ m_249) (hw _ m_1) (hw _ m_248) (hw _ m_250) (hw _ m_2) hy33 rfl (ok33 l Z a0 hw (p1 + (2 : Int32)) (0 : Int32) c19 _ hc25) rfl (lenOf pd33 rfl) (leb rfl) (leb rfl) (leb rfl) (leb rfl) ?_
     rintro _ _ ⟨rfl, rfl⟩
     show W37 l Z n0 (P37 r) 0 0 172 (vR 0 :: vI p1 :: vI c1 :: vI x22 :: vI x23 :: vI x24 :: vU :: []) [] (Hb 0 c25)
     refine WP.aloadN d37_172 rfl ?_
     refine WP.iloadN d37_173 rfl ?_
     refine WP.iload d37_174 rfl ?_
     refine WP.iload d37_176 rfl ?_
     refine WP.aloadN d37_178 rfl ?_
     refine WP.getfield (i := 0) (j := 46) d37_179 (hw _ m_65) rfl rfl rfl ?_
     refine WP.iconst (0 : Int32) d37_182 rfl ?_
     obtain ⟨x26, hx26, h⟩ := bd h
     refine WP.iaload (i := 28) d37_183 rfl hx26 ?_
     refine WP.aloadN d37_184 rfl ?_
     refine WP.getfield (i := 0) (j := 47) d37_185 (hw _ m_67) rfl rfl rfl ?_
     refine WP.iconst (0 : Int32) d37_188 rfl ?_
     obtain ⟨x27, hx27, h⟩ := bd h
     refine WP.iaload (i := 29) d37_189 rfl hx27 ?_
     refine WP.iloadN d37_190 rfl ?_
     refine WP.iconst (1 : Int32) d37_191 rfl ?_
     refine WP.iadd d37_192 ?_
     obtain ⟨c28, hc28, h⟩ := bd h
     refine WP.callP (i := 0) (y := y39) (as := [.int x22, .int x23, .int x24, .int x26, .int x27, .int (p1 + (1 : Int32))]) (S := []) d37_193 (hw _ m_271) (hw _ m_273) (hw _ m_1) (hw _ m_272) (hw _ m_274) (hw _ m_2) hy39 rfl (ok39 l Z a0 hw x22 x23 x24 x26 x27 (p1 + (1 : Int32)) c25 _ hc28) rfl (lenOf pd39 rfl) (leb rfl) (leb rfl) (leb rfl) (leb rfl) ?_
     rintro _ _ ⟨rfl, rfl⟩
     show W37 l Z n0 (P37 r) 0 0 196 (vR 0 :: vI p1 :: vI c1 :: vI x22 :: vI x23 :: vI x24 :: vU :: []) [.int c28.1] (Hb 0 c28.2)
     refine WP.istore (L' := (vR 0 :: vI p1 :: vI c1 :: vI x22 :: vI x23 :: vI x24 :: vI c28.1 :: [])) d37_196 (leb rfl) rfl ?_
     refine WP.iload d37_198 rfl ?_
     rcases ite_e h with ⟨hc29, h⟩ | ⟨hc29, h⟩
     ·
      refine WP.ifN d37_200 (XT.i0_ge_f hc29) ?_
      refine WP.iconst (-1 : Int32) d37_203 rfl ?_
      cases h
      exact WP.ireturn d37_204 rfl (leb rfl) (leb rfl) ⟨rfl, rfl⟩
     ·
      refine WP.ifY (pc' := 205) d37_200 (XT.i0_ge_t hc29) (by decide) rfl ?_
      refine WP.aloadN d37_205 rfl ?_
      refine WP.iload d37_206 rfl ?_
      refine WP.iconst (0 : Int32) d37_208 rfl ?_
      obtain ⟨c30, hc30, h⟩ := bd h
      refine WP.callP (i := 0) (y := y42) (as := [.int c28.1, oN]) (S := []) d37_209 (hw _ m_283) (hw _ m_285) (hw _ m_1) (hw _ m_284) (hw _ m_286) (hw _ m_2) hy42 rfl (ok42 l Z a0 hw c28.1 (0 : Int32) c28.2 _ hc30) rfl (lenOf pd42 rfl) (leb rfl) (leb rfl) (leb rfl) (leb rfl) ?_
      rintro _ _ ⟨rfl, rfl⟩
      show W37 l Z n0 (P37 r) 0 0 212 (vR 0 :: vI p1 :: vI c1 :: vI x22 :: vI x23 :: vI x24 :: vI c28.1 :: []) [] (Hb 0 c30)
      refine WP.iloadN d37_212 rfl ?_
      refine WP.iconst (4 : Int32) d37_213 rfl ?_
      refine WP.iadd d37_214 ?_
      cases h
      exact WP.ireturn d37_215 rfl (leb rfl) (leb rfl) ⟨rfl, rfl⟩
    ·
     refine WP.icmpN d37_134 (XT.ii_eq_f hc21) ?_
     refine WP.iloadN d37_137 rfl ?_
     refine WP.iconst (1 : Int32) d37_138 rfl ?_
     refine WP.iadd d37_139 ?_
     cases h
     exact WP.ireturn d37_140 rfl (leb rfl) (leb rfl) ⟨rfl, rfl⟩
theorem d38_0 : dc k33 0 (.aload_n 0) 1 := by decide +kernel
theorem d38_1 : dc k33 1 (.iload_n 1) 1 := by decide +kernel
theorem d38_2 : dc k33 2 (.aload_n 0) 1 := by decide +kernel
theorem d38_3 : dc k33 3 (.getfield 92) 3 := by decide +kernel
theorem d38_6 : dc k33 6 (.iload_n 2) 1 := by decide +kernel
theorem d38_7 : dc k33 7 (.iaload) 1 := by decide +kernel
theorem d38_8 : dc k33 8 (.aload_n 0) 1 := by decide +kernel
theorem d38_9 : dc k33 9 (.getfield 95) 3 := by decide +kernel
theorem d38_12 : dc k33 12 (.iload_n 2) 1 := by decide +kernel
theorem d38_13 : dc k33 13 (.iaload) 1 := by decide +kernel
theorem d38_14 : dc k33 14 (.aload_n 0) 1 := by decide +kernel
theorem d38_15 : dc k33 15 (.getfield 98) 3 := by decide +kernel
theorem d38_18 : dc k33 18 (.iload_n 2) 1 := by decide +kernel
theorem d38_19 : dc k33 19 (.iaload) 1 := by decide +kernel
theorem d38_20 : dc k33 20 (.invokevirtual 252) 3 := by decide +kernel
theorem d38_23 : dc k33 23 (.return_) 1 := by decide +kernel
abbrev y38 : MethodName := ⟨"FatPointerC", "copyReg", "(II)V"⟩
theorem hy38 : y38.cls ≠ "java/lang/invoke/MethodHandle" ∧ y38.cls ≠ "java/lang/invoke/VarHandle" := by decide
theorem pd38 : parseMethodDescriptor y38.desc = some ⟨[.int, .int], none⟩ := by decide +kernel
abbrev R38 : Room := { frames := 1, cells := 0, slots := 0, locals := 16 }
abbrev P38 (r : St) : Option Value → List OwnC → Prop := fun v H' => v = none ∧ H' = (Hb 0 r)
abbrev W38 (l : Launch) (Z : State) (n0 : Nat) (Q : Option Value → List OwnC → Prop) (k n pc : Nat) (L : List Slot) (S : List Value) (H : List OwnC) : Prop := WP l Z CN lay "FatPointerC" "copyReg" prog_1_method_40_code 3 (none) R38 n0 0 Q k n pc L S H
def f_copyReg (p1 p2 : Int32) (s : St) : Option (St) :=
 (rd (gA s 27) p2).bind fun x1 =>
 (rd (gA s 28) p2).bind fun x2 =>
 (rd (gA s 29) p2).bind fun x3 =>
 (f_setReg p1 x1 x2 x3 s).bind fun c4 =>
 some c4
theorem ok38 (l : Launch) (Z : State) (a0 : Array Value) (hw : HW a0 Z) (p1 p2 : Int32) (s r : St) (h : f_copyReg p1 p2 s = some r) : CS l Z CN lay y38 prog_1_method_40_code 3 (none) R38 0 [.ref 0, .int p1, .int p2] (Hb 0 s) (P38 r) := by
 refine CS.of_wp pn_cls (leb rfl) fun n0 => ?_
 show W38 l Z n0 (P38 r) 0 0 0 (vR 0 :: vI p1 :: vI p2 :: []) [] (Hb 0 s)
 unfold f_copyReg at h
 refine WP.aloadN d38_0 rfl ?_
 refine WP.iloadN d38_1 rfl ?_
 refine WP.aloadN d38_2 rfl ?_
 refine WP.getfield (i := 0) (j := 46) d38_3 (hw _ m_65) rfl rfl rfl ?_
 refine WP.iloadN d38_6 rfl ?_
 obtain ⟨x1, hx1, h⟩ := bd h
 refine WP.iaload (i := 28) d38_7 rfl hx1 ?_
 refine WP.aloadN d38_8 rfl ?_
 refine WP.getfield (i := 0) (j := 47) d38_9 (hw _ m_67) rfl rfl rfl ?_
 refine WP.iloadN d38_12 rfl ?_
 obtain ⟨x2, hx2, h⟩ := bd h
 refine WP.iaload (i := 29) d38_13 rfl hx2 ?_
 refine WP.aloadN d38_14 rfl ?_
 refine WP.getfield (i := 0) (j := 48) d38_15 (hw _ m_69) rfl rfl rfl ?_
 refine WP.iloadN d38_18 rfl ?_
 obtain ⟨x3, hx3, h⟩ := bd h
 refine WP.iaload (i := 30) d38_19 rfl hx3 ?_
 obtain ⟨c4, hc4, h⟩ := bd h
 refine WP.callP (i := 0) (y := y32) (as := [.int p1, .int x1, .int x2, .int x3]) (S := []) d38_20 (hw _ m_243) (hw _ m_245) (hw _ m_1) (hw _ m_244) (hw _ m_246) (hw _ m_2) hy32 rfl (ok32 l Z a0 hw p1 x1 x2 x3 s _ hc4) rfl (lenOf pd32 rfl) (leb rfl) (leb rfl) (leb rfl) (leb rfl) ?_
 rintro _ _ ⟨rfl, rfl⟩
 show W38 l Z n0 (P38 r) 0 0 23 (vR 0 :: vI p1 :: vI p2 :: []) [] (Hb 0 c4)
 cases h
 exact WP.vreturn d38_23 rfl (leb rfl) (leb rfl) ⟨rfl, rfl⟩
theorem d36_0 : dc k43 0 (.aload_n 0) 1 := by decide +kernel
theorem d36_1 : dc k43 1 (.iload_n 1) 1 := by decide +kernel
theorem d36_2 : dc k43 2 (.invokevirtual 282) 3 := by decide +kernel
theorem d36_5 : dc k43 5 (.istore_n 2) 1 := by decide +kernel
theorem d36_6 : dc k43 6 (.iload_n 2) 1 := by decide +kernel
theorem d36_7 : dc k43 7 (.ifCond .ge 5) 3 := by decide +kernel
theorem d36_10 : dc k43 10 (.iconst (-1)) 1 := by decide +kernel
theorem d36_11 : dc k43 11 (.ireturn) 1 := by decide +kernel
theorem d36_12 : dc k43 12 (.aload_n 0) 1 := by decide +kernel
theorem d36_13 : dc k43 13 (.iconst 1) 1 := by decide +kernel
theorem d36_14 : dc k43 14 (.iconst 0) 1 := by decide +kernel
theorem d36_15 : dc k43 15 (.invokevirtual 272) 3 := by decide +kernel
theorem d36_18 : dc k43 18 (.iconst 0) 1 := by decide +kernel
theorem d36_19 : dc k43 19 (.istore_n 3) 1 := by decide +kernel
theorem d36_20 : dc k43 20 (.iload_n 3) 1 := by decide +kernel
theorem d36_21 : dc k43 21 (.sipush 256) 3 := by decide +kernel
theorem d36_24 : dc k43 24 (.if_icmp .ge 51) 3 := by decide +kernel
theorem d36_27 : dc k43 27 (.aload_n 0) 1 := by decide +kernel
theorem d36_28 : dc k43 28 (.iload_n 2) 1 := by decide +kernel
theorem d36_29 : dc k43 29 (.invokevirtual 192) 3 := by decide +kernel
theorem d36_32 : dc k43 32 (.bipush 22) 2 := by decide +kernel
theorem d36_34 : dc k43 34 (.if_icmp .ne 41) 3 := by decide +kernel
theorem d36_37 : dc k43 37 (.iload_n 2) 1 := by decide +kernel
theorem d36_38 : dc k43 38 (.istore 4) 2 := by decide +kernel
theorem d36_40 : dc k43 40 (.aload_n 0) 1 := by decide +kernel
theorem d36_41 : dc k43 41 (.iload_n 2) 1 := by decide +kernel
theorem d36_42 : dc k43 42 (.iconst 1) 1 := by decide +kernel
theorem d36_43 : dc k43 43 (.iadd) 1 := by decide +kernel
theorem d36_44 : dc k43 44 (.invokevirtual 282) 3 := by decide +kernel
theorem d36_47 : dc k43 47 (.istore_n 2) 1 := by decide +kernel
theorem d36_48 : dc k43 48 (.iload_n 2) 1 := by decide +kernel
theorem d36_49 : dc k43 49 (.ifCond .ge 5) 3 := by decide +kernel
theorem d36_52 : dc k43 52 (.iconst (-1)) 1 := by decide +kernel
theorem d36_53 : dc k43 53 (.ireturn) 1 := by decide +kernel
theorem d36_54 : dc k43 54 (.aload_n 0) 1 := by decide +kernel
theorem d36_55 : dc k43 55 (.bipush 22) 2 := by decide +kernel
theorem d36_57 : dc k43 57 (.iload 4) 2 := by decide +kernel
theorem d36_59 : dc k43 59 (.iconst 1) 1 := by decide +kernel
theorem d36_60 : dc k43 60 (.iconst 0) 1 := by decide +kernel
theorem d36_61 : dc k43 61 (.invokevirtual 275) 3 := by decide +kernel
theorem d36_75 : dc k43 75 (.iload_n 2) 1 := by decide +kernel
theorem d36_76 : dc k43 76 (.ireturn) 1 := by decide +kernel
abbrev y36 : MethodName := ⟨"FatPointerC", "evalTerm", "(I)I"⟩
theorem hy36 : y36.cls ≠ "java/lang/invoke/MethodHandle" ∧ y36.cls ≠ "java/lang/invoke/VarHandle" := by decide
theorem pd36 : parseMethodDescriptor y36.desc = some ⟨[.int], some .int⟩ := by decide +kernel
abbrev R36 : Room := { frames := 5, cells := 0, slots := 0, locals := 77 }
abbrev P36 (r : Int32 × St) : Option Value → List OwnC → Prop := fun v H' => v = some (.int r.1) ∧ H' = (Hb 0 r.2)
abbrev W36 (l : Launch) (Z : State) (n0 : Nat) (Q : Option Value → List OwnC → Prop) (k n pc : Nat) (L : List Slot) (S : List Value) (H : List OwnC) : Prop := WP l Z CN lay "FatPointerC" "evalTerm" prog_1_method_51_code 5 (some FieldType.int) R36 n0 0 Q k n pc L S H
def f_evalTerm_75 (v2 : Int32) (s : St) : Option (Int32 × St) :=
 some (v2, s)
theorem ok36_75 (l : Launch) (Z : State) (a0 : Array Value) (hw : HW a0 Z) (n0 : Nat) (v2 : Int32) (s : St) (r : Int32 × St) (h : f_evalTerm_75 v2 s = some r) : W36 l Z n0 (P36 r) 0 0 75 (vU :: vU :: vI v2 :: vU :: vU :: []) [] (Hb 0 s) := by
 unfold f_evalTerm_75 at h
 refine WP.iloadN d36_75 rfl ?_
 cases h
 exact WP.ireturn d36_76 rfl (leb rfl) (leb rfl) ⟨rfl, rfl⟩
def f_evalTerm (p1 : Int32) (s : St) : Option (Int32 × St) :=
 (f_evalOperand p1 s).bind fun c1 =>
 if c1.1 < 0 then
  some ((-1 : Int32), c1.2)
 else
  (f_copyReg (1 : Int32) (0 : Int32) c1.2).bind fun c3 =>
  if (0 : Int32) < (256 : Int32) then
   (f_kindAt c1.1 c3).bind fun c5 =>
   if c5 = (22 : Int32) then
    (f_evalOperand (c1.1 + (1 : Int32)) c3).bind fun c7 =>
    if c7.1 < 0 then
     some ((-1 : Int32), c7.2)
    else
     none
   else
    f_evalTerm_75 c1.1 c3
  else
   f_evalTerm_75 c1.1 c3
theorem ok36 (l : Launch) (Z : State) (a0 : Array Value) (hw : HW a0 Z) (p1 : Int32) (s : St) (r : Int32 × St) (h : f_evalTerm p1 s = some r) : CS l Z CN lay y36 prog_1_method_51_code 5 (some FieldType.int) R36 0 [.ref 0, .int p1] (Hb 0 s) (P36 r) := by
 refine CS.of_wp pn_cls (leb rfl) fun n0 => ?_
 show W36 l Z n0 (P36 r) 0 0 0 (vR 0 :: vI p1 :: vU :: vU :: vU :: []) [] (Hb 0 s)
 unfold f_evalTerm at h
 refine WP.aloadN d36_0 rfl ?_
 refine WP.iloadN d36_1 rfl ?_
 obtain ⟨c1, hc1, h⟩ := bd h
 refine WP.callP (i := 0) (y := y37) (as := [.int p1]) (S := []) d36_2 (hw _ m_263) (hw _ m_265) (hw _ m_1) (hw _ m_264) (hw _ m_266) (hw _ m_2) hy37 rfl (ok37 l Z a0 hw p1 s _ hc1) rfl (lenOf pd37 rfl) (leb rfl) (leb rfl) (leb rfl) (leb rfl) ?_
 rintro _ _ ⟨rfl, rfl⟩
 show W36 l Z n0 (P36 r) 0 0 5 (vR 0 :: vI p1 :: vU :: vU :: vU :: []) [.int c1.1] (Hb 0 c1.2)
 refine WP.istoreN (L' := (vR 0 :: vI p1 :: vI c1.1 :: vU :: vU :: [])) d36_5 (leb rfl) rfl ?_
 refine WP.iloadN d36_6 rfl ?_
 rcases ite_e h with ⟨hc2, h⟩ | ⟨hc2, h⟩
 ·
  refine WP.ifN d36_7 (XT.i0_ge_f hc2) ?_
  refine WP.iconst (-1 : Int32) d36_10 rfl ?_
  cases h
  exact WP.ireturn d36_11 rfl (leb rfl) (leb rfl) ⟨rfl, rfl⟩
 ·
  refine WP.ifY (pc' := 12) d36_7 (XT.i0_ge_t hc2) (by decide) rfl ?_
  refine WP.aloadN d36_12 rfl ?_
  refine WP.iconst (1 : Int32) d36_13 rfl ?_
  refine WP.iconst (0 : Int32) d36_14 rfl ?_
  obtain ⟨c3, hc3, h⟩ := bd h
  refine WP.callP (i := 0) (y := y38) (as := [.int (1 : Int32), oN]) (S := []) d36_15 (hw _ m_267) (hw _ m_269) (hw _ m_1) (hw _ m_268) (hw _ m_270) (hw _ m_2) hy38 rfl (ok38 l Z a0 hw (1 : Int32) (0 : Int32) c1.2 _ hc3) rfl (lenOf pd38 rfl) (leb rfl) (leb rfl) (leb rfl) (leb rfl) ?_
  rintro _ _ ⟨rfl, rfl⟩
  show W36 l Z n0 (P36 r) 0 0 18 (vR 0 :: vI p1 :: vI c1.1 :: vU :: vU :: []) [] (Hb 0 c3)
  refine WP.iconst (0 : Int32) d36_18 rfl ?_
  refine WP.istoreN (L' := (vR 0 :: vI p1 :: vI c1.1 :: vI (0 : Int32) :: vU :: [])) d36_19 (leb rfl) rfl ?_
  refine WP.iloadN d36_20 rfl ?_
  refine WP.sipush (256 : Int32) d36_21 rfl ?_
  rcases ite_e h with ⟨hc4, h⟩ | ⟨hc4, h⟩
  ·
   refine WP.icmpN d36_24 (XT.ii_ge_f hc4) ?_
   refine WP.aloadN d36_27 rfl ?_
   refine WP.iloadN d36_28 rfl ?_
   obtain ⟨c5, hc5, h⟩ := bd h
   refine WP.callP (i := 0) (y := y7) (as := [.int c1.1]) (S := []) d36_29 (hw _ m_129) (hw _ m_131) (hw _ m_1) (hw _ m_130) (hw _ m_132) (hw _ m_2) hy7 rfl (ok7 l Z a0 hw c1.1 c3 _ hc5) rfl (lenOf pd7 rfl) (leb rfl) (leb rfl) (leb rfl) (leb rfl) ?_
   rintro _ _ ⟨rfl, rfl⟩
   show W36 l Z n0 (P36 r) 0 0 32 (vR 0 :: vI p1 :: vI c1.1 :: vI (0 : Int32) :: vU :: []) [.int c5] (Hb 0 c3)
   refine WP.bipush (22 : Int32) d36_32 rfl ?_
   rcases ite_e h with ⟨hc6, h⟩ | ⟨hc6, h⟩
   ·
    refine WP.icmpN d36_34 (XT.ii_ne_f hc6) ?_
    refine WP.iloadN d36_37 rfl ?_
    refine WP.istore (L' := (vR 0 :: vI p1 :: vI c1.1 :: vI (0 : Int32) :: vI c1.1 :: [])) d36_38 (leb rfl) rfl ?_
    refine WP.aloadN d36_40 rfl ?_
    refine WP.iloadN d36_41 rfl ?_
    refine WP.iconst (1 : Int32) d36_42 rfl ?_
    refine WP.iadd d36_43 ?_
    obtain ⟨c7, hc7, h⟩ := bd h
    refine WP.callP (i := 0) (y := y37) (as := [.int (c1.1 + (1 : Int32))]) (S := []) d36_44 (hw _ m_263) (hw _ m_265) (hw _ m_1) (hw _ m_264) (hw _ m_266) (hw _ m_2) hy37 rfl (ok37 l Z a0 hw (c1.1 + (1 : Int32)) c3 _ hc7) rfl (lenOf pd37 rfl) (leb rfl) (leb rfl) (leb rfl) (leb rfl) ?_
    rintro _ _ ⟨rfl, rfl⟩
    show W36 l Z n0 (P36 r) 0 0 47 (vR 0 :: vI p1 :: vI c1.1 :: vI (0 : Int32) :: vI c1.1 :: []) [.int c7.1] (Hb 0 c7.2)
    refine WP.istoreN (L' := (vR 0 :: vI p1 :: vI c7.1 :: vI (0 : Int32) :: vI c1.1 :: [])) d36_47 (leb rfl) rfl ?_
    refine WP.iloadN d36_48 rfl ?_
    rcases ite_e h with ⟨hc8, h⟩ | ⟨hc8, h⟩
    ·
     refine WP.ifN d36_49 (XT.i0_ge_f hc8) ?_
     refine WP.iconst (-1 : Int32) d36_52 rfl ?_
     cases h
     exact WP.ireturn d36_53 rfl (leb rfl) (leb rfl) ⟨rfl, rfl⟩
    ·
     refine WP.ifY (pc' := 54) d36_49 (XT.i0_ge_t hc8) (by decide) rfl ?_
     refine WP.aloadN d36_54 rfl ?_
     refine WP.bipush (22 : Int32) d36_55 rfl ?_
     refine WP.iload d36_57 rfl ?_
     refine WP.iconst (1 : Int32) d36_59 rfl ?_
     refine WP.iconst (0 : Int32) d36_60 rfl ?_
     cases h
   ·
    refine WP.icmpY (pc' := 75) d36_34 (XT.ii_ne_t hc6) (by decide) rfl ?_
    exact WP.weak (L' := (vU :: vU :: vI c1.1 :: vU :: vU :: [])) ⟨rfl, trivial⟩ (ok36_75 l Z a0 hw n0 c1.1 c3 _ h)
  ·
   refine WP.icmpY (pc' := 75) d36_24 (XT.ii_ge_t hc4) (by decide) rfl ?_
   exact WP.weak (L' := (vU :: vU :: vI c1.1 :: vU :: vU :: [])) ⟨rfl, trivial⟩ (ok36_75 l Z a0 hw n0 c1.1 c3 _ h)
theorem d35_0 : dc k42 0 (.aload_n 0) 1 := by decide +kernel
theorem d35_1 : dc k42 1 (.iload_n 1) 1 := by decide +kernel
theorem d35_2 : dc k42 2 (.invokevirtual 279) 3 := by decide +kernel
theorem d35_5 : dc k42 5 (.istore_n 2) 1 := by decide +kernel
theorem d35_6 : dc k42 6 (.iload_n 2) 1 := by decide +kernel
theorem d35_7 : dc k42 7 (.ifCond .ge 5) 3 := by decide +kernel
theorem d35_10 : dc k42 10 (.iconst (-1)) 1 := by decide +kernel
theorem d35_11 : dc k42 11 (.ireturn) 1 := by decide +kernel
theorem d35_12 : dc k42 12 (.aload_n 0) 1 := by decide +kernel
theorem d35_13 : dc k42 13 (.iconst 2) 1 := by decide +kernel
theorem d35_14 : dc k42 14 (.iconst 1) 1 := by decide +kernel
theorem d35_15 : dc k42 15 (.invokevirtual 272) 3 := by decide +kernel
theorem d35_18 : dc k42 18 (.iconst 0) 1 := by decide +kernel
theorem d35_19 : dc k42 19 (.istore_n 3) 1 := by decide +kernel
theorem d35_20 : dc k42 20 (.iload_n 3) 1 := by decide +kernel
theorem d35_21 : dc k42 21 (.sipush 256) 3 := by decide +kernel
theorem d35_24 : dc k42 24 (.if_icmp .ge 64) 3 := by decide +kernel
theorem d35_27 : dc k42 27 (.aload_n 0) 1 := by decide +kernel
theorem d35_28 : dc k42 28 (.iload_n 2) 1 := by decide +kernel
theorem d35_29 : dc k42 29 (.invokevirtual 192) 3 := by decide +kernel
theorem d35_32 : dc k42 32 (.istore 4) 2 := by decide +kernel
theorem d35_34 : dc k42 34 (.iload 4) 2 := by decide +kernel
theorem d35_36 : dc k42 36 (.bipush 20) 2 := by decide +kernel
theorem d35_38 : dc k42 38 (.if_icmp .eq 12) 3 := by decide +kernel
theorem d35_41 : dc k42 41 (.iload 4) 2 := by decide +kernel
theorem d35_43 : dc k42 43 (.bipush 21) 2 := by decide +kernel
theorem d35_45 : dc k42 45 (.if_icmp .eq 5) 3 := by decide +kernel
theorem d35_48 : dc k42 48 (.iload_n 2) 1 := by decide +kernel
theorem d35_49 : dc k42 49 (.ireturn) 1 := by decide +kernel
theorem d35_50 : dc k42 50 (.iload_n 2) 1 := by decide +kernel
theorem d35_51 : dc k42 51 (.istore 5) 2 := by decide +kernel
theorem d35_53 : dc k42 53 (.aload_n 0) 1 := by decide +kernel
theorem d35_54 : dc k42 54 (.iload_n 2) 1 := by decide +kernel
theorem d35_55 : dc k42 55 (.iconst 1) 1 := by decide +kernel
theorem d35_56 : dc k42 56 (.iadd) 1 := by decide +kernel
theorem d35_57 : dc k42 57 (.invokevirtual 279) 3 := by decide +kernel
theorem d35_60 : dc k42 60 (.istore_n 2) 1 := by decide +kernel
theorem d35_61 : dc k42 61 (.iload_n 2) 1 := by decide +kernel
theorem d35_62 : dc k42 62 (.ifCond .ge 5) 3 := by decide +kernel
theorem d35_65 : dc k42 65 (.iconst (-1)) 1 := by decide +kernel
theorem d35_66 : dc k42 66 (.ireturn) 1 := by decide +kernel
theorem d35_67 : dc k42 67 (.aload_n 0) 1 := by decide +kernel
theorem d35_68 : dc k42 68 (.iload 4) 2 := by decide +kernel
theorem d35_70 : dc k42 70 (.iload 5) 2 := by decide +kernel
theorem d35_72 : dc k42 72 (.iconst 2) 1 := by decide +kernel
theorem d35_73 : dc k42 73 (.iconst 1) 1 := by decide +kernel
theorem d35_74 : dc k42 74 (.invokevirtual 275) 3 := by decide +kernel
theorem d35_88 : dc k42 88 (.iload_n 2) 1 := by decide +kernel
theorem d35_89 : dc k42 89 (.ireturn) 1 := by decide +kernel
abbrev y35 : MethodName := ⟨"FatPointerC", "evalSum", "(I)I"⟩
theorem hy35 : y35.cls ≠ "java/lang/invoke/MethodHandle" ∧ y35.cls ≠ "java/lang/invoke/VarHandle" := by decide
theorem pd35 : parseMethodDescriptor y35.desc = some ⟨[.int], some .int⟩ := by decide +kernel
abbrev R35 : Room := { frames := 6, cells := 0, slots := 0, locals := 93 }
abbrev P35 (r : Int32 × St) : Option Value → List OwnC → Prop := fun v H' => v = some (.int r.1) ∧ H' = (Hb 0 r.2)
abbrev W35 (l : Launch) (Z : State) (n0 : Nat) (Q : Option Value → List OwnC → Prop) (k n pc : Nat) (L : List Slot) (S : List Value) (H : List OwnC) : Prop := WP l Z CN lay "FatPointerC" "evalSum" prog_1_method_50_code 6 (some FieldType.int) R35 n0 0 Q k n pc L S H
def f_evalSum_50 (v2 v4 : Int32) (s : St) : Option (Int32 × St) :=
 (f_evalTerm (v2 + (1 : Int32)) s).bind fun c1 =>
 if c1.1 < 0 then
  some ((-1 : Int32), c1.2)
 else
  none
theorem ok35_50 (l : Launch) (Z : State) (a0 : Array Value) (hw : HW a0 Z) (n0 : Nat) (v2 v4 : Int32) (s : St) (r : Int32 × St) (h : f_evalSum_50 v2 v4 s = some r) : W35 l Z n0 (P35 r) 0 0 50 (vR 0 :: vU :: vI v2 :: vU :: vI v4 :: vU :: []) [] (Hb 0 s) := by
 unfold f_evalSum_50 at h
 refine WP.iloadN d35_50 rfl ?_
 refine WP.istore (L' := (vR 0 :: vU :: vI v2 :: vU :: vI v4 :: vI v2 :: [])) d35_51 (leb rfl) rfl ?_
 refine WP.aloadN d35_53 rfl ?_
 refine WP.iloadN d35_54 rfl ?_
 refine WP.iconst (1 : Int32) d35_55 rfl ?_
 refine WP.iadd d35_56 ?_
 obtain ⟨c1, hc1, h⟩ := bd h
 refine WP.callP (i := 0) (y := y36) (as := [.int (v2 + (1 : Int32))]) (S := []) d35_57 (hw _ m_259) (hw _ m_261) (hw _ m_1) (hw _ m_260) (hw _ m_262) (hw _ m_2) hy36 rfl (ok36 l Z a0 hw (v2 + (1 : Int32)) s _ hc1) rfl (lenOf pd36 rfl) (leb rfl) (leb rfl) (leb rfl) (leb rfl) ?_
 rintro _ _ ⟨rfl, rfl⟩
 show W35 l Z n0 (P35 r) 0 0 60 (vR 0 :: vU :: vI v2 :: vU :: vI v4 :: vI v2 :: []) [.int c1.1] (Hb 0 c1.2)
 refine WP.istoreN (L' := (vR 0 :: vU :: vI c1.1 :: vU :: vI v4 :: vI v2 :: [])) d35_60 (leb rfl) rfl ?_
 refine WP.iloadN d35_61 rfl ?_
 rcases ite_e h with ⟨hc2, h⟩ | ⟨hc2, h⟩
 ·
  refine WP.ifN d35_62 (XT.i0_ge_f hc2) ?_
  refine WP.iconst (-1 : Int32) d35_65 rfl ?_
  cases h
  exact WP.ireturn d35_66 rfl (leb rfl) (leb rfl) ⟨rfl, rfl⟩
 ·
  refine WP.ifY (pc' := 67) d35_62 (XT.i0_ge_t hc2) (by decide) rfl ?_
  refine WP.aloadN d35_67 rfl ?_
  refine WP.iload d35_68 rfl ?_
  refine WP.iload d35_70 rfl ?_
  refine WP.iconst (2 : Int32) d35_72 rfl ?_
  refine WP.iconst (1 : Int32) d35_73 rfl ?_
  cases h
def f_evalSum (p1 : Int32) (s : St) : Option (Int32 × St) :=
 (f_evalTerm p1 s).bind fun c1 =>
 if c1.1 < 0 then
  some ((-1 : Int32), c1.2)
 else
  (f_copyReg (2 : Int32) (1 : Int32) c1.2).bind fun c3 =>
  if (0 : Int32) < (256 : Int32) then
   (f_kindAt c1.1 c3).bind fun c5 =>
   if c5 = (20 : Int32) then
    f_evalSum_50 c1.1 c5 c3
   else
    if c5 = (21 : Int32) then
     f_evalSum_50 c1.1 c5 c3
    else
     some (c1.1, c3)
  else
   some (c1.1, c3)
theorem ok35 (l : Launch) (Z : State) (a0 : Array Value) (hw : HW a0 Z) (p1 : Int32) (s : St) (r : Int32 × St) (h : f_evalSum p1 s = some r) : CS l Z CN lay y35 prog_1_method_50_code 6 (some FieldType.int) R35 0 [.ref 0, .int p1] (Hb 0 s) (P35 r) := by
 refine CS.of_wp pn_cls (leb rfl) fun n0 => ?_
 show W35 l Z n0 (P35 r) 0 0 0 (vR 0 :: vI p1 :: vU :: vU :: vU :: vU :: []) [] (Hb 0 s)
 unfold f_evalSum at h
 refine WP.aloadN d35_0 rfl ?_
 refine WP.iloadN d35_1 rfl ?_
 obtain ⟨c1, hc1, h⟩ := bd h
 refine WP.callP (i := 0) (y := y36) (as := [.int p1]) (S := []) d35_2 (hw _ m_259) (hw _ m_261) (hw _ m_1) (hw _ m_260) (hw _ m_262) (hw _ m_2) hy36 rfl (ok36 l Z a0 hw p1 s _ hc1) rfl (lenOf pd36 rfl) (leb rfl) (leb rfl) (leb rfl) (leb rfl) ?_
 rintro _ _ ⟨rfl, rfl⟩
 show W35 l Z n0 (P35 r) 0 0 5 (vR 0 :: vI p1 :: vU :: vU :: vU :: vU :: []) [.int c1.1] (Hb 0 c1.2)
 refine WP.istoreN (L' := (vR 0 :: vI p1 :: vI c1.1 :: vU :: vU :: vU :: [])) d35_5 (leb rfl) rfl ?_
 refine WP.iloadN d35_6 rfl ?_
 rcases ite_e h with ⟨hc2, h⟩ | ⟨hc2, h⟩
 ·
  refine WP.ifN d35_7 (XT.i0_ge_f hc2) ?_
  refine WP.iconst (-1 : Int32) d35_10 rfl ?_
  cases h
  exact WP.ireturn d35_11 rfl (leb rfl) (leb rfl) ⟨rfl, rfl⟩
 ·
  refine WP.ifY (pc' := 12) d35_7 (XT.i0_ge_t hc2) (by decide) rfl ?_
  refine WP.aloadN d35_12 rfl ?_
  refine WP.iconst (2 : Int32) d35_13 rfl ?_
  refine WP.iconst (1 : Int32) d35_14 rfl ?_
  obtain ⟨c3, hc3, h⟩ := bd h
  refine WP.callP (i := 0) (y := y38) (as := [.int (2 : Int32), .int (1 : Int32)]) (S := []) d35_15 (hw _ m_267) (hw _ m_269) (hw _ m_1) (hw _ m_268) (hw _ m_270) (hw _ m_2) hy38 rfl (ok38 l Z a0 hw (2 : Int32) (1 : Int32) c1.2 _ hc3) rfl (lenOf pd38 rfl) (leb rfl) (leb rfl) (leb rfl) (leb rfl) ?_
  rintro _ _ ⟨rfl, rfl⟩
  show W35 l Z n0 (P35 r) 0 0 18 (vR 0 :: vI p1 :: vI c1.1 :: vU :: vU :: vU :: []) [] (Hb 0 c3)
  refine WP.iconst (0 : Int32) d35_18 rfl ?_
  refine WP.istoreN (L' := (vR 0 :: vI p1 :: vI c1.1 :: vI (0 : Int32) :: vU :: vU :: [])) d35_19 (leb rfl) rfl ?_
  refine WP.iloadN d35_20 rfl ?_
  refine WP.sipush (256 : Int32) d35_21 rfl ?_
  rcases ite_e h with ⟨hc4, h⟩ | ⟨hc4, h⟩
  ·
   refine WP.icmpN d35_24 (XT.ii_ge_f hc4) ?_
   refine WP.aloadN d35_27 rfl ?_
   refine WP.iloadN d35_28 rfl ?_
   obtain ⟨c5, hc5, h⟩ := bd h
   refine WP.callP (i := 0) (y := y7) (as := [.int c1.1]) (S := []) d35_29 (hw _ m_129) (hw _ m_131) (hw _ m_1) (hw _ m_130) (hw _ m_132) (hw _ m_2) hy7 rfl (ok7 l Z a0 hw c1.1 c3 _ hc5) rfl (lenOf pd7 rfl) (leb rfl) (leb rfl) (leb rfl) (leb rfl) ?_
   rintro _ _ ⟨rfl, rfl⟩
   show W35 l Z n0 (P35 r) 0 0 32 (vR 0 :: vI p1 :: vI c1.1 :: vI (0 : Int32) :: vU :: vU :: []) [.int c5] (Hb 0 c3)
   refine WP.istore (L' := (vR 0 :: vI p1 :: vI c1.1 :: vI (0 : Int32) :: vI c5 :: vU :: [])) d35_32 (leb rfl) rfl ?_
   refine WP.iload d35_34 rfl ?_
   refine WP.bipush (20 : Int32) d35_36 rfl ?_
   rcases ite_e h with ⟨hc6, h⟩ | ⟨hc6, h⟩
   ·
    refine WP.icmpY (pc' := 50) d35_38 (XT.ii_eq_t hc6) (by decide) rfl ?_
    exact WP.weak (L' := (vR 0 :: vU :: vI c1.1 :: vU :: vI c5 :: vU :: [])) ⟨rfl, rfl, rfl, trivial⟩ (ok35_50 l Z a0 hw n0 c1.1 c5 c3 _ h)
   ·
    refine WP.icmpN d35_38 (XT.ii_eq_f hc6) ?_
    refine WP.iload d35_41 rfl ?_
    refine WP.bipush (21 : Int32) d35_43 rfl ?_
    rcases ite_e h with ⟨hc7, h⟩ | ⟨hc7, h⟩
    ·
     refine WP.icmpY (pc' := 50) d35_45 (XT.ii_eq_t hc7) (by decide) rfl ?_
     exact WP.weak (L' := (vR 0 :: vU :: vI c1.1 :: vU :: vI c5 :: vU :: [])) ⟨rfl, rfl, rfl, trivial⟩ (ok35_50 l Z a0 hw n0 c1.1 c5 c3 _ h)
    ·
     refine WP.icmpN d35_45 (XT.ii_eq_f hc7) ?_
     refine WP.iloadN d35_48 rfl ?_
     cases h
     exact WP.ireturn d35_49 rfl (leb rfl) (leb rfl) ⟨rfl, rfl⟩
  ·
   refine WP.icmpY (pc' := 88) d35_24 (XT.ii_ge_t hc4) (by decide) rfl ?_
   refine WP.iloadN d35_88 rfl ?_
   cases h
   exact WP.ireturn d35_89 rfl (leb rfl) (leb rfl) ⟨rfl, rfl⟩
theorem d34_0 : dc k41 0 (.aload_n 0) 1 := by decide +kernel
theorem d34_1 : dc k41 1 (.iload_n 1) 1 := by decide +kernel
theorem d34_2 : dc k41 2 (.invokevirtual 269) 3 := by decide +kernel
theorem d34_5 : dc k41 5 (.istore_n 2) 1 := by decide +kernel
theorem d34_6 : dc k41 6 (.iload_n 2) 1 := by decide +kernel
theorem d34_7 : dc k41 7 (.ifCond .ge 5) 3 := by decide +kernel
theorem d34_10 : dc k41 10 (.iconst (-1)) 1 := by decide +kernel
theorem d34_11 : dc k41 11 (.ireturn) 1 := by decide +kernel
theorem d34_12 : dc k41 12 (.aload_n 0) 1 := by decide +kernel
theorem d34_13 : dc k41 13 (.iload_n 2) 1 := by decide +kernel
theorem d34_14 : dc k41 14 (.invokevirtual 192) 3 := by decide +kernel
theorem d34_17 : dc k41 17 (.istore_n 3) 1 := by decide +kernel
theorem d34_18 : dc k41 18 (.iload_n 3) 1 := by decide +kernel
theorem d34_19 : dc k41 19 (.bipush 24) 2 := by decide +kernel
theorem d34_21 : dc k41 21 (.if_icmp .eq 11) 3 := by decide +kernel
theorem d34_24 : dc k41 24 (.iload_n 3) 1 := by decide +kernel
theorem d34_25 : dc k41 25 (.bipush 25) 2 := by decide +kernel
theorem d34_27 : dc k41 27 (.if_icmp .eq 5) 3 := by decide +kernel
theorem d34_30 : dc k41 30 (.iload_n 2) 1 := by decide +kernel
theorem d34_31 : dc k41 31 (.ireturn) 1 := by decide +kernel
theorem d34_32 : dc k41 32 (.aload_n 0) 1 := by decide +kernel
theorem d34_33 : dc k41 33 (.iconst 3) 1 := by decide +kernel
theorem d34_34 : dc k41 34 (.iconst 2) 1 := by decide +kernel
theorem d34_35 : dc k41 35 (.invokevirtual 272) 3 := by decide +kernel
theorem d34_38 : dc k41 38 (.iload_n 2) 1 := by decide +kernel
theorem d34_39 : dc k41 39 (.istore 4) 2 := by decide +kernel
theorem d34_41 : dc k41 41 (.aload_n 0) 1 := by decide +kernel
theorem d34_42 : dc k41 42 (.iload_n 2) 1 := by decide +kernel
theorem d34_43 : dc k41 43 (.iconst 1) 1 := by decide +kernel
theorem d34_44 : dc k41 44 (.iadd) 1 := by decide +kernel
theorem d34_45 : dc k41 45 (.invokevirtual 269) 3 := by decide +kernel
theorem d34_48 : dc k41 48 (.istore_n 2) 1 := by decide +kernel
theorem d34_49 : dc k41 49 (.iload_n 2) 1 := by decide +kernel
theorem d34_50 : dc k41 50 (.ifCond .ge 5) 3 := by decide +kernel
theorem d34_53 : dc k41 53 (.iconst (-1)) 1 := by decide +kernel
theorem d34_54 : dc k41 54 (.ireturn) 1 := by decide +kernel
theorem d34_55 : dc k41 55 (.aload_n 0) 1 := by decide +kernel
theorem d34_56 : dc k41 56 (.iload_n 3) 1 := by decide +kernel
theorem d34_57 : dc k41 57 (.iload 4) 2 := by decide +kernel
theorem d34_59 : dc k41 59 (.iconst 3) 1 := by decide +kernel
theorem d34_60 : dc k41 60 (.iconst 2) 1 := by decide +kernel
theorem d34_61 : dc k41 61 (.invokevirtual 275) 3 := by decide +kernel
abbrev y34 : MethodName := ⟨"FatPointerC", "evalExpr", "(I)I"⟩
theorem hy34 : y34.cls ≠ "java/lang/invoke/MethodHandle" ∧ y34.cls ≠ "java/lang/invoke/VarHandle" := by decide
theorem pd34 : parseMethodDescriptor y34.desc = some ⟨[.int], some .int⟩ := by decide +kernel
abbrev R34 : Room := { frames := 7, cells := 0, slots := 0, locals := 110 }
abbrev P34 (r : Int32 × St) : Option Value → List OwnC → Prop := fun v H' => v = some (.int r.1) ∧ H' = (Hb 0 r.2)
abbrev W34 (l : Launch) (Z : State) (n0 : Nat) (Q : Option Value → List OwnC → Prop) (k n pc : Nat) (L : List Slot) (S : List Value) (H : List OwnC) : Prop := WP l Z CN lay "FatPointerC" "evalExpr" prog_1_method_49_code 5 (some FieldType.int) R34 n0 0 Q k n pc L S H
def f_evalExpr_32 (v2 v3 : Int32) (s : St) : Option (Int32 × St) :=
 (f_copyReg (3 : Int32) (2 : Int32) s).bind fun c1 =>
 (f_evalSum (v2 + (1 : Int32)) c1).bind fun c2 =>
 if c2.1 < 0 then
  some ((-1 : Int32), c2.2)
 else
  none
theorem ok34_32 (l : Launch) (Z : State) (a0 : Array Value) (hw : HW a0 Z) (n0 : Nat) (v2 v3 : Int32) (s : St) (r : Int32 × St) (h : f_evalExpr_32 v2 v3 s = some r) : W34 l Z n0 (P34 r) 0 0 32 (vR 0 :: vU :: vI v2 :: vI v3 :: vU :: []) [] (Hb 0 s) := by
 unfold f_evalExpr_32 at h
 refine WP.aloadN d34_32 rfl ?_
 refine WP.iconst (3 : Int32) d34_33 rfl ?_
 refine WP.iconst (2 : Int32) d34_34 rfl ?_
 obtain ⟨c1, hc1, h⟩ := bd h
 refine WP.callP (i := 0) (y := y38) (as := [.int (3 : Int32), .int (2 : Int32)]) (S := []) d34_35 (hw _ m_267) (hw _ m_269) (hw _ m_1) (hw _ m_268) (hw _ m_270) (hw _ m_2) hy38 rfl (ok38 l Z a0 hw (3 : Int32) (2 : Int32) s _ hc1) rfl (lenOf pd38 rfl) (leb rfl) (leb rfl) (leb rfl) (leb rfl) ?_
 rintro _ _ ⟨rfl, rfl⟩
 show W34 l Z n0 (P34 r) 0 0 38 (vR 0 :: vU :: vI v2 :: vI v3 :: vU :: []) [] (Hb 0 c1)
 refine WP.iloadN d34_38 rfl ?_
 refine WP.istore (L' := (vR 0 :: vU :: vI v2 :: vI v3 :: vI v2 :: [])) d34_39 (leb rfl) rfl ?_
 refine WP.aloadN d34_41 rfl ?_
 refine WP.iloadN d34_42 rfl ?_
 refine WP.iconst (1 : Int32) d34_43 rfl ?_
 refine WP.iadd d34_44 ?_
 obtain ⟨c2, hc2, h⟩ := bd h
 refine WP.callP (i := 0) (y := y35) (as := [.int (v2 + (1 : Int32))]) (S := []) d34_45 (hw _ m_255) (hw _ m_257) (hw _ m_1) (hw _ m_256) (hw _ m_258) (hw _ m_2) hy35 rfl (ok35 l Z a0 hw (v2 + (1 : Int32)) c1 _ hc2) rfl (lenOf pd35 rfl) (leb rfl) (leb rfl) (leb rfl) (leb rfl) ?_
 rintro _ _ ⟨rfl, rfl⟩
 show W34 l Z n0 (P34 r) 0 0 48 (vR 0 :: vU :: vI v2 :: vI v3 :: vI v2 :: []) [.int c2.1] (Hb 0 c2.2)
 refine WP.istoreN (L' := (vR 0 :: vU :: vI c2.1 :: vI v3 :: vI v2 :: [])) d34_48 (leb rfl) rfl ?_
 refine WP.iloadN d34_49 rfl ?_
 rcases ite_e h with ⟨hc3, h⟩ | ⟨hc3, h⟩
 ·
  refine WP.ifN d34_50 (XT.i0_ge_f hc3) ?_
  refine WP.iconst (-1 : Int32) d34_53 rfl ?_
  cases h
  exact WP.ireturn d34_54 rfl (leb rfl) (leb rfl) ⟨rfl, rfl⟩
 ·
  refine WP.ifY (pc' := 55) d34_50 (XT.i0_ge_t hc3) (by decide) rfl ?_
  refine WP.aloadN d34_55 rfl ?_
  refine WP.iloadN d34_56 rfl ?_
  refine WP.iload d34_57 rfl ?_
  refine WP.iconst (3 : Int32) d34_59 rfl ?_
  refine WP.iconst (2 : Int32) d34_60 rfl ?_
  cases h
def f_evalExpr (p1 : Int32) (s : St) : Option (Int32 × St) :=
 (f_evalSum p1 s).bind fun c1 =>
 if c1.1 < 0 then
  some ((-1 : Int32), c1.2)
 else
  (f_kindAt c1.1 c1.2).bind fun c3 =>
  if c3 = (24 : Int32) then
   f_evalExpr_32 c1.1 c3 c1.2
  else
   if c3 = (25 : Int32) then
    f_evalExpr_32 c1.1 c3 c1.2
   else
    some (c1.1, c1.2)
theorem ok34 (l : Launch) (Z : State) (a0 : Array Value) (hw : HW a0 Z) (p1 : Int32) (s : St) (r : Int32 × St) (h : f_evalExpr p1 s = some r) : CS l Z CN lay y34 prog_1_method_49_code 5 (some FieldType.int) R34 0 [.ref 0, .int p1] (Hb 0 s) (P34 r) := by
 refine CS.of_wp pn_cls (leb rfl) fun n0 => ?_
 show W34 l Z n0 (P34 r) 0 0 0 (vR 0 :: vI p1 :: vU :: vU :: vU :: []) [] (Hb 0 s)
 unfold f_evalExpr at h
 refine WP.aloadN d34_0 rfl ?_
 refine WP.iloadN d34_1 rfl ?_
 obtain ⟨c1, hc1, h⟩ := bd h
 refine WP.callP (i := 0) (y := y35) (as := [.int p1]) (S := []) d34_2 (hw _ m_255) (hw _ m_257) (hw _ m_1) (hw _ m_256) (hw _ m_258) (hw _ m_2) hy35 rfl (ok35 l Z a0 hw p1 s _ hc1) rfl (lenOf pd35 rfl) (leb rfl) (leb rfl) (leb rfl) (leb rfl) ?_
 rintro _ _ ⟨rfl, rfl⟩
 show W34 l Z n0 (P34 r) 0 0 5 (vR 0 :: vI p1 :: vU :: vU :: vU :: []) [.int c1.1] (Hb 0 c1.2)
 refine WP.istoreN (L' := (vR 0 :: vI p1 :: vI c1.1 :: vU :: vU :: [])) d34_5 (leb rfl) rfl ?_
 refine WP.iloadN d34_6 rfl ?_
 rcases ite_e h with ⟨hc2, h⟩ | ⟨hc2, h⟩
 ·
  refine WP.ifN d34_7 (XT.i0_ge_f hc2) ?_
  refine WP.iconst (-1 : Int32) d34_10 rfl ?_
  cases h
  exact WP.ireturn d34_11 rfl (leb rfl) (leb rfl) ⟨rfl, rfl⟩
 ·
  refine WP.ifY (pc' := 12) d34_7 (XT.i0_ge_t hc2) (by decide) rfl ?_
  refine WP.aloadN d34_12 rfl ?_
  refine WP.iloadN d34_13 rfl ?_
  obtain ⟨c3, hc3, h⟩ := bd h
  refine WP.callP (i := 0) (y := y7) (as := [.int c1.1]) (S := []) d34_14 (hw _ m_129) (hw _ m_131) (hw _ m_1) (hw _ m_130) (hw _ m_132) (hw _ m_2) hy7 rfl (ok7 l Z a0 hw c1.1 c1.2 _ hc3) rfl (lenOf pd7 rfl) (leb rfl) (leb rfl) (leb rfl) (leb rfl) ?_
  rintro _ _ ⟨rfl, rfl⟩
  show W34 l Z n0 (P34 r) 0 0 17 (vR 0 :: vI p1 :: vI c1.1 :: vU :: vU :: []) [.int c3] (Hb 0 c1.2)
  refine WP.istoreN (L' := (vR 0 :: vI p1 :: vI c1.1 :: vI c3 :: vU :: [])) d34_17 (leb rfl) rfl ?_
  refine WP.iloadN d34_18 rfl ?_
  refine WP.bipush (24 : Int32) d34_19 rfl ?_
  rcases ite_e h with ⟨hc4, h⟩ | ⟨hc4, h⟩
  ·
   refine WP.icmpY (pc' := 32) d34_21 (XT.ii_eq_t hc4) (by decide) rfl ?_
   exact WP.weak (L' := (vR 0 :: vU :: vI c1.1 :: vI c3 :: vU :: [])) ⟨rfl, rfl, rfl, trivial⟩ (ok34_32 l Z a0 hw n0 c1.1 c3 c1.2 _ h)
  ·
   refine WP.icmpN d34_21 (XT.ii_eq_f hc4) ?_
   refine WP.iloadN d34_24 rfl ?_
   refine WP.bipush (25 : Int32) d34_25 rfl ?_
   rcases ite_e h with ⟨hc5, h⟩ | ⟨hc5, h⟩
   ·
    refine WP.icmpY (pc' := 32) d34_27 (XT.ii_eq_t hc5) (by decide) rfl ?_
    exact WP.weak (L' := (vR 0 :: vU :: vI c1.1 :: vI c3 :: vU :: [])) ⟨rfl, rfl, rfl, trivial⟩ (ok34_32 l Z a0 hw n0 c1.1 c3 c1.2 _ h)
   ·
    refine WP.icmpN d34_27 (XT.ii_eq_f hc5) ?_
    refine WP.iloadN d34_30 rfl ?_
    cases h
    exact WP.ireturn d34_31 rfl (leb rfl) (leb rfl) ⟨rfl, rfl⟩
theorem d40_0 : dc k39 0 (.aload_n 0) 1 := by decide +kernel
theorem d40_1 : dc k39 1 (.getfield 59) 3 := by decide +kernel
theorem d40_4 : dc k39 4 (.iload_n 1) 1 := by decide +kernel
theorem d40_5 : dc k39 5 (.bipush 63) 2 := by decide +kernel
theorem d40_7 : dc k39 7 (.iand) 1 := by decide +kernel
theorem d40_8 : dc k39 8 (.aload_n 0) 1 := by decide +kernel
theorem d40_9 : dc k39 9 (.getfield 92) 3 := by decide +kernel
theorem d40_12 : dc k39 12 (.iload_n 2) 1 := by decide +kernel
theorem d40_13 : dc k39 13 (.iaload) 1 := by decide +kernel
theorem d40_14 : dc k39 14 (.iastore) 1 := by decide +kernel
theorem d40_15 : dc k39 15 (.aload_n 0) 1 := by decide +kernel
theorem d40_16 : dc k39 16 (.getfield 62) 3 := by decide +kernel
theorem d40_19 : dc k39 19 (.iload_n 1) 1 := by decide +kernel
theorem d40_20 : dc k39 20 (.bipush 63) 2 := by decide +kernel
theorem d40_22 : dc k39 22 (.iand) 1 := by decide +kernel
theorem d40_23 : dc k39 23 (.aload_n 0) 1 := by decide +kernel
theorem d40_24 : dc k39 24 (.getfield 95) 3 := by decide +kernel
theorem d40_27 : dc k39 27 (.iload_n 2) 1 := by decide +kernel
theorem d40_28 : dc k39 28 (.iaload) 1 := by decide +kernel
theorem d40_29 : dc k39 29 (.iastore) 1 := by decide +kernel
theorem d40_30 : dc k39 30 (.aload_n 0) 1 := by decide +kernel
theorem d40_31 : dc k39 31 (.getfield 65) 3 := by decide +kernel
theorem d40_34 : dc k39 34 (.iload_n 1) 1 := by decide +kernel
theorem d40_35 : dc k39 35 (.bipush 63) 2 := by decide +kernel
theorem d40_37 : dc k39 37 (.iand) 1 := by decide +kernel
theorem d40_38 : dc k39 38 (.aload_n 0) 1 := by decide +kernel
theorem d40_39 : dc k39 39 (.getfield 98) 3 := by decide +kernel
theorem d40_42 : dc k39 42 (.iload_n 2) 1 := by decide +kernel
theorem d40_43 : dc k39 43 (.iaload) 1 := by decide +kernel
theorem d40_44 : dc k39 44 (.iastore) 1 := by decide +kernel
theorem d40_45 : dc k39 45 (.return_) 1 := by decide +kernel
abbrev y40 : MethodName := ⟨"FatPointerC", "writeCell", "(II)V"⟩
theorem hy40 : y40.cls ≠ "java/lang/invoke/MethodHandle" ∧ y40.cls ≠ "java/lang/invoke/VarHandle" := by decide
theorem pd40 : parseMethodDescriptor y40.desc = some ⟨[.int, .int], none⟩ := by decide +kernel
abbrev R40 : Room := { frames := 0, cells := 0, slots := 0, locals := 0 }
abbrev P40 (r : St) : Option Value → List OwnC → Prop := fun v H' => v = none ∧ H' = (Hb 0 r)
abbrev W40 (l : Launch) (Z : State) (n0 : Nat) (Q : Option Value → List OwnC → Prop) (k n pc : Nat) (L : List Slot) (S : List Value) (H : List OwnC) : Prop := WP l Z CN lay "FatPointerC" "writeCell" prog_1_method_47_code 3 (none) R40 n0 0 Q k n pc L S H
def f_writeCell (p1 p2 : Int32) (s : St) : Option (St) :=
 (rd (gA s 27) p2).bind fun x1 =>
 (wrA s 16 (p1 &&& (63 : Int32)) x1).bind fun s2 =>
 (rd (gA s2 28) p2).bind fun x3 =>
 (wrA s2 17 (p1 &&& (63 : Int32)) x3).bind fun s4 =>
 (rd (gA s4 29) p2).bind fun x5 =>
 (wrA s4 18 (p1 &&& (63 : Int32)) x5).bind fun s6 =>
 some s6
theorem ok40 (l : Launch) (Z : State) (a0 : Array Value) (hw : HW a0 Z) (p1 p2 : Int32) (s r : St) (h : f_writeCell p1 p2 s = some r) : CS l Z CN lay y40 prog_1_method_47_code 3 (none) R40 0 [.ref 0, .int p1, .int p2] (Hb 0 s) (P40 r) := by
 refine CS.of_wp pn_cls (leb rfl) fun n0 => ?_
 show W40 l Z n0 (P40 r) 0 0 0 (vR 0 :: vI p1 :: vI p2 :: []) [] (Hb 0 s)
 unfold f_writeCell at h
 refine WP.aloadN d40_0 rfl ?_
 refine WP.getfield (i := 0) (j := 30) d40_1 (hw _ m_43) rfl rfl rfl ?_
 refine WP.iloadN d40_4 rfl ?_
 refine WP.bipush (63 : Int32) d40_5 rfl ?_
 refine WP.iand d40_7 ?_
 refine WP.aloadN d40_8 rfl ?_
 refine WP.getfield (i := 0) (j := 46) d40_9 (hw _ m_65) rfl rfl rfl ?_
 refine WP.iloadN d40_12 rfl ?_
 obtain ⟨x1, hx1, h⟩ := bd h
 refine WP.iaload (i := 28) d40_13 rfl hx1 ?_
 obtain ⟨s2, hs2, h⟩ := bd h
 obtain ⟨ys2, gs2, es2⟩ := wrA_e hs2
 refine WP.iastore (i := 17) (xs := gA s 16) (H' := (Hb 0 s2)) d40_14 rfl (leb rfl) gs2 (by subst es2; rfl) ?_
 refine WP.aloadN d40_15 rfl ?_
 refine WP.getfield (i := 0) (j := 31) d40_16 (hw _ m_45) rfl rfl rfl ?_
 refine WP.iloadN d40_19 rfl ?_
 refine WP.bipush (63 : Int32) d40_20 rfl ?_
 refine WP.iand d40_22 ?_
 refine WP.aloadN d40_23 rfl ?_
 refine WP.getfield (i := 0) (j := 47) d40_24 (hw _ m_67) rfl rfl rfl ?_
 refine WP.iloadN d40_27 rfl ?_
 obtain ⟨x3, hx3, h⟩ := bd h
 refine WP.iaload (i := 29) d40_28 rfl hx3 ?_
 obtain ⟨s4, hs4, h⟩ := bd h
 obtain ⟨ys4, gs4, es4⟩ := wrA_e hs4
 refine WP.iastore (i := 18) (xs := gA s2 17) (H' := (Hb 0 s4)) d40_29 rfl (leb rfl) gs4 (by subst es4; rfl) ?_
 refine WP.aloadN d40_30 rfl ?_
 refine WP.getfield (i := 0) (j := 32) d40_31 (hw _ m_47) rfl rfl rfl ?_
 refine WP.iloadN d40_34 rfl ?_
 refine WP.bipush (63 : Int32) d40_35 rfl ?_
 refine WP.iand d40_37 ?_
 refine WP.aloadN d40_38 rfl ?_
 refine WP.getfield (i := 0) (j := 48) d40_39 (hw _ m_69) rfl rfl rfl ?_
 refine WP.iloadN d40_42 rfl ?_
 obtain ⟨x5, hx5, h⟩ := bd h
 refine WP.iaload (i := 30) d40_43 rfl hx5 ?_
 obtain ⟨s6, hs6, h⟩ := bd h
 obtain ⟨ys6, gs6, es6⟩ := wrA_e hs6
 refine WP.iastore (i := 19) (xs := gA s4 18) (H' := (Hb 0 s6)) d40_44 rfl (leb rfl) gs6 (by subst es6; rfl) ?_
 cases h
 exact WP.vreturn d40_45 rfl (leb rfl) (leb rfl) ⟨rfl, rfl⟩
theorem d28_0 : dc k47 0 (.aload_n 0) 1 := by decide +kernel
theorem d28_1 : dc k47 1 (.aload_n 0) 1 := by decide +kernel
theorem d28_2 : dc k47 2 (.iload_n 1) 1 := by decide +kernel
theorem d28_3 : dc k47 3 (.invokevirtual 199) 3 := by decide +kernel
theorem d28_6 : dc k47 6 (.iconst 0) 1 := by decide +kernel
theorem d28_7 : dc k47 7 (.invokevirtual 266) 3 := by decide +kernel
theorem d28_10 : dc k47 10 (.aload_n 0) 1 := by decide +kernel
theorem d28_11 : dc k47 11 (.getfield 92) 3 := by decide +kernel
theorem d28_14 : dc k47 14 (.iconst 0) 1 := by decide +kernel
theorem d28_15 : dc k47 15 (.iaload) 1 := by decide +kernel
theorem d28_16 : dc k47 16 (.istore_n 2) 1 := by decide +kernel
theorem d28_17 : dc k47 17 (.aload_n 0) 1 := by decide +kernel
theorem d28_18 : dc k47 18 (.getfield 95) 3 := by decide +kernel
theorem d28_21 : dc k47 21 (.iconst 0) 1 := by decide +kernel
theorem d28_22 : dc k47 22 (.iaload) 1 := by decide +kernel
theorem d28_23 : dc k47 23 (.istore_n 3) 1 := by decide +kernel
theorem d28_24 : dc k47 24 (.aload_n 0) 1 := by decide +kernel
theorem d28_25 : dc k47 25 (.getfield 98) 3 := by decide +kernel
theorem d28_28 : dc k47 28 (.iconst 0) 1 := by decide +kernel
theorem d28_29 : dc k47 29 (.iaload) 1 := by decide +kernel
theorem d28_30 : dc k47 30 (.istore 4) 2 := by decide +kernel
theorem d28_32 : dc k47 32 (.aload_n 0) 1 := by decide +kernel
theorem d28_33 : dc k47 33 (.iload_n 1) 1 := by decide +kernel
theorem d28_34 : dc k47 34 (.iconst 2) 1 := by decide +kernel
theorem d28_35 : dc k47 35 (.iadd) 1 := by decide +kernel
theorem d28_36 : dc k47 36 (.iconst 0) 1 := by decide +kernel
theorem d28_37 : dc k47 37 (.invokevirtual 289) 3 := by decide +kernel
theorem d28_40 : dc k47 40 (.aload_n 0) 1 := by decide +kernel
theorem d28_41 : dc k47 41 (.getfield 92) 3 := by decide +kernel
theorem d28_44 : dc k47 44 (.iconst 0) 1 := by decide +kernel
theorem d28_45 : dc k47 45 (.iaload) 1 := by decide +kernel
theorem d28_46 : dc k47 46 (.istore 5) 2 := by decide +kernel
theorem d28_48 : dc k47 48 (.aload_n 0) 1 := by decide +kernel
theorem d28_49 : dc k47 49 (.getfield 95) 3 := by decide +kernel
theorem d28_52 : dc k47 52 (.iconst 0) 1 := by decide +kernel
theorem d28_53 : dc k47 53 (.iaload) 1 := by decide +kernel
theorem d28_54 : dc k47 54 (.istore 6) 2 := by decide +kernel
theorem d28_56 : dc k47 56 (.aload_n 0) 1 := by decide +kernel
theorem d28_57 : dc k47 57 (.iload_n 1) 1 := by decide +kernel
theorem d28_58 : dc k47 58 (.iconst 5) 1 := by decide +kernel
theorem d28_59 : dc k47 59 (.iadd) 1 := by decide +kernel
theorem d28_60 : dc k47 60 (.invokevirtual 326) 3 := by decide +kernel
theorem d28_63 : dc k47 63 (.istore 7) 2 := by decide +kernel
theorem d28_65 : dc k47 65 (.iload 7) 2 := by decide +kernel
theorem d28_67 : dc k47 67 (.ifCond .ge 5) 3 := by decide +kernel
theorem d28_70 : dc k47 70 (.iconst (-1)) 1 := by decide +kernel
theorem d28_71 : dc k47 71 (.ireturn) 1 := by decide +kernel
theorem d28_72 : dc k47 72 (.aload_n 0) 1 := by decide +kernel
theorem d28_73 : dc k47 73 (.iload_n 2) 1 := by decide +kernel
theorem d28_74 : dc k47 74 (.iload_n 3) 1 := by decide +kernel
theorem d28_75 : dc k47 75 (.iload 4) 2 := by decide +kernel
theorem d28_77 : dc k47 77 (.iload 5) 2 := by decide +kernel
theorem d28_79 : dc k47 79 (.iload 6) 2 := by decide +kernel
theorem d28_81 : dc k47 81 (.iload_n 1) 1 := by decide +kernel
theorem d28_82 : dc k47 82 (.iconst 1) 1 := by decide +kernel
theorem d28_83 : dc k47 83 (.iadd) 1 := by decide +kernel
theorem d28_84 : dc k47 84 (.invokevirtual 285) 3 := by decide +kernel
theorem d28_87 : dc k47 87 (.istore 8) 2 := by decide +kernel
theorem d28_89 : dc k47 89 (.iload 8) 2 := by decide +kernel
theorem d28_91 : dc k47 91 (.ifCond .ge 5) 3 := by decide +kernel
theorem d28_94 : dc k47 94 (.iconst (-1)) 1 := by decide +kernel
theorem d28_95 : dc k47 95 (.ireturn) 1 := by decide +kernel
theorem d28_96 : dc k47 96 (.aload_n 0) 1 := by decide +kernel
theorem d28_97 : dc k47 97 (.iload 8) 2 := by decide +kernel
theorem d28_99 : dc k47 99 (.iconst 2) 1 := by decide +kernel
theorem d28_100 : dc k47 100 (.invokevirtual 332) 3 := by decide +kernel
theorem d28_103 : dc k47 103 (.iload 7) 2 := by decide +kernel
theorem d28_105 : dc k47 105 (.iconst 1) 1 := by decide +kernel
theorem d28_106 : dc k47 106 (.iadd) 1 := by decide +kernel
theorem d28_107 : dc k47 107 (.ireturn) 1 := by decide +kernel
abbrev y28 : MethodName := ⟨"FatPointerC", "execIndexStore", "(I)I"⟩
theorem hy28 : y28.cls ≠ "java/lang/invoke/MethodHandle" ∧ y28.cls ≠ "java/lang/invoke/VarHandle" := by decide
theorem pd28 : parseMethodDescriptor y28.desc = some ⟨[.int], some .int⟩ := by decide +kernel
abbrev R28 : Room := { frames := 8, cells := 0, slots := 0, locals := 126 }
abbrev P28 (r : Int32 × St) : Option Value → List OwnC → Prop := fun v H' => v = some (.int r.1) ∧ H' = (Hb 0 r.2)
abbrev W28 (l : Launch) (Z : State) (n0 : Nat) (Q : Option Value → List OwnC → Prop) (k n pc : Nat) (L : List Slot) (S : List Value) (H : List OwnC) : Prop := WP l Z CN lay "FatPointerC" "execIndexStore" prog_1_method_58_code 9 (some FieldType.int) R28 n0 0 Q k n pc L S H
def f_execIndexStore (p1 : Int32) (s : St) : Option (Int32 × St) :=
 (f_valAt p1 s).bind fun c1 =>
 (f_loadVar c1 (0 : Int32) s).bind fun c2 =>
 (rd (gA c2 27) (0 : Int32)).bind fun x3 =>
 (rd (gA c2 28) (0 : Int32)).bind fun x4 =>
 (rd (gA c2 29) (0 : Int32)).bind fun x5 =>
 (f_loadAtom (p1 + (2 : Int32)) (0 : Int32) c2).bind fun c6 =>
 (rd (gA c6 27) (0 : Int32)).bind fun x7 =>
 (rd (gA c6 28) (0 : Int32)).bind fun x8 =>
 (f_evalExpr (p1 + (5 : Int32)) c6).bind fun c9 =>
 if c9.1 < 0 then
  some ((-1 : Int32), c9.2)
 else
  (f_check x3 x4 x5 x7 x8 (p1 + (1 : Int32)) c9.2).bind fun c11 =>
  if c11.1 < 0 then
   some ((-1 : Int32), c11.2)
  else
   (f_writeCell c11.1 (2 : Int32) c11.2).bind fun c13 =>
   some (c9.1 + (1 : Int32), c13)
theorem ok28 (l : Launch) (Z : State) (a0 : Array Value) (hw : HW a0 Z) (p1 : Int32) (s : St) (r : Int32 × St) (h : f_execIndexStore p1 s = some r) : CS l Z CN lay y28 prog_1_method_58_code 9 (some FieldType.int) R28 0 [.ref 0, .int p1] (Hb 0 s) (P28 r) := by
 refine CS.of_wp pn_cls (leb rfl) fun n0 => ?_
 show W28 l Z n0 (P28 r) 0 0 0 (vR 0 :: vI p1 :: vU :: vU :: vU :: vU :: vU :: vU :: vU :: []) [] (Hb 0 s)
 unfold f_execIndexStore at h
 refine WP.aloadN d28_0 rfl ?_
 refine WP.aloadN d28_1 rfl ?_
 refine WP.iloadN d28_2 rfl ?_
 obtain ⟨c1, hc1, h⟩ := bd h
 refine WP.callP (i := 0) (y := y8) (as := [.int p1]) (S := [.ref 0]) d28_3 (hw _ m_133) (hw _ m_135) (hw _ m_1) (hw _ m_134) (hw _ m_136) (hw _ m_2) hy8 rfl (ok8 l Z a0 hw p1 s _ hc1) rfl (lenOf pd8 rfl) (leb rfl) (leb rfl) (leb rfl) (leb rfl) ?_
 rintro _ _ ⟨rfl, rfl⟩
 show W28 l Z n0 (P28 r) 0 0 6 (vR 0 :: vI p1 :: vU :: vU :: vU :: vU :: vU :: vU :: vU :: []) [.int c1, .ref 0] (Hb 0 s)
 refine WP.iconst (0 : Int32) d28_6 rfl ?_
 obtain ⟨c2, hc2, h⟩ := bd h
 refine WP.callP (i := 0) (y := y29) (as := [.int c1, oN]) (S := []) d28_7 (hw _ m_231) (hw _ m_233) (hw _ m_1) (hw _ m_232) (hw _ m_234) (hw _ m_2) hy29 rfl (ok29 l Z a0 hw c1 (0 : Int32) s _ hc2) rfl (lenOf pd29 rfl) (leb rfl) (leb rfl) (leb rfl) (leb rfl) ?_
 rintro _ _ ⟨rfl, rfl⟩
 show W28 l Z n0 (P28 r) 0 0 10 (vR 0 :: vI p1 :: vU :: vU :: vU :: vU :: vU :: vU :: vU :: []) [] (Hb 0 c2)
 refine WP.aloadN d28_10 rfl ?_
 refine WP.getfield (i := 0) (j := 46) d28_11 (hw _ m_65) rfl rfl rfl ?_
 refine WP.iconst (0 : Int32) d28_14 rfl ?_
 obtain ⟨x3, hx3, h⟩ := bd h
 refine WP.iaload (i := 28) d28_15 rfl hx3 ?_
 refine WP.istoreN (L' := (vR 0 :: vI p1 :: vI x3 :: vU :: vU :: vU :: vU :: vU :: vU :: [])) d28_16 (leb rfl) rfl ?_
 refine WP.aloadN d28_17 rfl ?_
 refine WP.getfield (i := 0) (j := 47) d28_18 (hw _ m_67) rfl rfl rfl ?_
 refine WP.iconst (0 : Int32) d28_21 rfl ?_
 obtain ⟨x4, hx4, h⟩ := bd h
 refine WP.iaload (i := 29) d28_22 rfl hx4 ?_
 refine WP.istoreN (L' := (vR 0 :: vI p1 :: vI x3 :: vI x4 :: vU :: vU :: vU :: vU :: vU :: [])) d28_23 (leb rfl) rfl ?_
 refine WP.aloadN d28_24 rfl ?_
 refine WP.getfield (i := 0) (j := 48) d28_25 (hw _ m_69) rfl rfl rfl ?_
 refine WP.iconst (0 : Int32) d28_28 rfl ?_
 obtain ⟨x5, hx5, h⟩ := bd h
 refine WP.iaload (i := 30) d28_29 rfl hx5 ?_
 refine WP.istore (L' := (vR 0 :: vI p1 :: vI x3 :: vI x4 :: vI x5 :: vU :: vU :: vU :: vU :: [])) d28_30 (leb rfl) rfl ?_
 refine WP.aloadN d28_32 rfl ?_
 refine WP.iloadN d28_33 rfl ?_
 refine WP.iconst (2 : Int32) d28_34 rfl ?_
 refine WP.iadd d28_35 ?_
 refine WP.iconst (0 : Int32) d28_36 rfl ?_
 obtain ⟨c6, hc6, h⟩ := bd h
 refine WP.callP (i := 0) (y := y33) (as := [.int (p1 + (2 : Int32)), oN]) (S := []) d28_37 (hw _ m_247) (hw _ m_249) (hw _ m_1) (hw _ m_248) (hw _ m_250) (hw _ m_2) hy33 rfl (ok33 l Z a0 hw (p1 + (2 : Int32)) (0 : Int32) c2 _ hc6) rfl (lenOf pd33 rfl) (leb rfl) (leb rfl) (leb rfl) (leb rfl) ?_
 rintro _ _ ⟨rfl, rfl⟩
 show W28 l Z n0 (P28 r) 0 0 40 (vR 0 :: vI p1 :: vI x3 :: vI x4 :: vI x5 :: vU :: vU :: vU :: vU :: []) [] (Hb 0 c6)
 refine WP.aloadN d28_40 rfl ?_
 refine WP.getfield (i := 0) (j := 46) d28_41 (hw _ m_65) rfl rfl rfl ?_
 refine WP.iconst (0 : Int32) d28_44 rfl ?_
 obtain ⟨x7, hx7, h⟩ := bd h
 refine WP.iaload (i := 28) d28_45 rfl hx7 ?_
 refine WP.istore (L' := (vR 0 :: vI p1 :: vI x3 :: vI x4 :: vI x5 :: vI x7 :: vU :: vU :: vU :: [])) d28_46 (leb rfl) rfl ?_
 refine WP.aloadN d28_48 rfl ?_
 refine WP.getfield (i := 0) (j := 47) d28_49 (hw _ m_67) rfl rfl rfl ?_
 refine WP.iconst (0 : Int32) d28_52 rfl ?_
 obtain ⟨x8, hx8, h⟩ := bd h
 refine WP.iaload (i := 29) d28_53 rfl hx8 ?_
 refine WP.istore (L' := (vR 0 :: vI p1 :: vI x3 :: vI x4 :: vI x5 :: vI x7 :: vI x8 :: vU :: vU :: [])) d28_54 (leb rfl) rfl ?_
 refine WP.aloadN d28_56 rfl ?_
 refine WP.iloadN d28_57 rfl ?_
 refine WP.iconst (5 : Int32) d28_58 rfl ?_
 refine WP.iadd d28_59 ?_
 obtain ⟨c9, hc9, h⟩ := bd h
 refine WP.callP (i := 0) (y := y34) (as := [.int (p1 + (5 : Int32))]) (S := []) d28_60 (hw _ m_251) (hw _ m_253) (hw _ m_1) (hw _ m_252) (hw _ m_254) (hw _ m_2) hy34 rfl (ok34 l Z a0 hw (p1 + (5 : Int32)) c6 _ hc9) rfl (lenOf pd34 rfl) (leb rfl) (leb rfl) (leb rfl) (leb rfl) ?_
 rintro _ _ ⟨rfl, rfl⟩
 show W28 l Z n0 (P28 r) 0 0 63 (vR 0 :: vI p1 :: vI x3 :: vI x4 :: vI x5 :: vI x7 :: vI x8 :: vU :: vU :: []) [.int c9.1] (Hb 0 c9.2)
 refine WP.istore (L' := (vR 0 :: vI p1 :: vI x3 :: vI x4 :: vI x5 :: vI x7 :: vI x8 :: vI c9.1 :: vU :: [])) d28_63 (leb rfl) rfl ?_
 refine WP.iload d28_65 rfl ?_
 rcases ite_e h with ⟨hc10, h⟩ | ⟨hc10, h⟩
 ·
  refine WP.ifN d28_67 (XT.i0_ge_f hc10) ?_
  refine WP.iconst (-1 : Int32) d28_70 rfl ?_
  cases h
  exact WP.ireturn d28_71 rfl (leb rfl) (leb rfl) ⟨rfl, rfl⟩
 ·
  refine WP.ifY (pc' := 72) d28_67 (XT.i0_ge_t hc10) (by decide) rfl ?_
  refine WP.aloadN d28_72 rfl ?_
  refine WP.iloadN d28_73 rfl ?_
  refine WP.iloadN d28_74 rfl ?_
  refine WP.iload d28_75 rfl ?_
  refine WP.iload d28_77 rfl ?_
  refine WP.iload d28_79 rfl ?_
  refine WP.iloadN d28_81 rfl ?_
  refine WP.iconst (1 : Int32) d28_82 rfl ?_
  refine WP.iadd d28_83 ?_
  obtain ⟨c11, hc11, h⟩ := bd h
  refine WP.callP (i := 0) (y := y39) (as := [.int x3, .int x4, .int x5, .int x7, .int x8, .int (p1 + (1 : Int32))]) (S := []) d28_84 (hw _ m_271) (hw _ m_273) (hw _ m_1) (hw _ m_272) (hw _ m_274) (hw _ m_2) hy39 rfl (ok39 l Z a0 hw x3 x4 x5 x7 x8 (p1 + (1 : Int32)) c9.2 _ hc11) rfl (lenOf pd39 rfl) (leb rfl) (leb rfl) (leb rfl) (leb rfl) ?_
  rintro _ _ ⟨rfl, rfl⟩
  show W28 l Z n0 (P28 r) 0 0 87 (vR 0 :: vI p1 :: vI x3 :: vI x4 :: vI x5 :: vI x7 :: vI x8 :: vI c9.1 :: vU :: []) [.int c11.1] (Hb 0 c11.2)
  refine WP.istore (L' := (vR 0 :: vI p1 :: vI x3 :: vI x4 :: vI x5 :: vI x7 :: vI x8 :: vI c9.1 :: vI c11.1 :: [])) d28_87 (leb rfl) rfl ?_
  refine WP.iload d28_89 rfl ?_
  rcases ite_e h with ⟨hc12, h⟩ | ⟨hc12, h⟩
  ·
   refine WP.ifN d28_91 (XT.i0_ge_f hc12) ?_
   refine WP.iconst (-1 : Int32) d28_94 rfl ?_
   cases h
   exact WP.ireturn d28_95 rfl (leb rfl) (leb rfl) ⟨rfl, rfl⟩
  ·
   refine WP.ifY (pc' := 96) d28_91 (XT.i0_ge_t hc12) (by decide) rfl ?_
   refine WP.aloadN d28_96 rfl ?_
   refine WP.iload d28_97 rfl ?_
   refine WP.iconst (2 : Int32) d28_99 rfl ?_
   obtain ⟨c13, hc13, h⟩ := bd h
   refine WP.callP (i := 0) (y := y40) (as := [.int c11.1, .int (2 : Int32)]) (S := []) d28_100 (hw _ m_275) (hw _ m_277) (hw _ m_1) (hw _ m_276) (hw _ m_278) (hw _ m_2) hy40 rfl (ok40 l Z a0 hw c11.1 (2 : Int32) c11.2 _ hc13) rfl (lenOf pd40 rfl) (leb rfl) (leb rfl) (leb rfl) (leb rfl) ?_
   rintro _ _ ⟨rfl, rfl⟩
   show W28 l Z n0 (P28 r) 0 0 103 (vR 0 :: vI p1 :: vI x3 :: vI x4 :: vI x5 :: vI x7 :: vI x8 :: vI c9.1 :: vI c11.1 :: []) [] (Hb 0 c13)
   refine WP.iload d28_103 rfl ?_
   refine WP.iconst (1 : Int32) d28_105 rfl ?_
   refine WP.iadd d28_106 ?_
   cases h
   exact WP.ireturn d28_107 rfl (leb rfl) (leb rfl) ⟨rfl, rfl⟩
theorem d27_0 : dc k46 0 (.aload_n 0) 1 := by decide +kernel
theorem d27_1 : dc k46 1 (.iload_n 1) 1 := by decide +kernel
theorem d27_2 : dc k46 2 (.invokevirtual 199) 3 := by decide +kernel
theorem d27_5 : dc k46 5 (.istore_n 2) 1 := by decide +kernel
theorem d27_6 : dc k46 6 (.aload_n 0) 1 := by decide +kernel
theorem d27_7 : dc k46 7 (.iload_n 1) 1 := by decide +kernel
theorem d27_8 : dc k46 8 (.iconst 1) 1 := by decide +kernel
theorem d27_9 : dc k46 9 (.iadd) 1 := by decide +kernel
theorem d27_10 : dc k46 10 (.invokevirtual 192) 3 := by decide +kernel
theorem d27_13 : dc k46 13 (.bipush 15) 2 := by decide +kernel
theorem d27_15 : dc k46 15 (.if_icmp .ne 9) 3 := by decide +kernel
theorem d27_18 : dc k46 18 (.aload_n 0) 1 := by decide +kernel
theorem d27_19 : dc k46 19 (.iload_n 1) 1 := by decide +kernel
theorem d27_20 : dc k46 20 (.invokevirtual 323) 3 := by decide +kernel
theorem d27_23 : dc k46 23 (.ireturn) 1 := by decide +kernel
theorem d27_24 : dc k46 24 (.aload_n 0) 1 := by decide +kernel
theorem d27_25 : dc k46 25 (.iload_n 1) 1 := by decide +kernel
theorem d27_26 : dc k46 26 (.iconst 2) 1 := by decide +kernel
theorem d27_27 : dc k46 27 (.iadd) 1 := by decide +kernel
theorem d27_28 : dc k46 28 (.invokevirtual 192) 3 := by decide +kernel
theorem d27_31 : dc k46 31 (.iconst 3) 1 := by decide +kernel
theorem d27_32 : dc k46 32 (.if_icmp .ne 12) 3 := by decide +kernel
theorem d27_35 : dc k46 35 (.aload_n 0) 1 := by decide +kernel
theorem d27_36 : dc k46 36 (.iload_n 1) 1 := by decide +kernel
theorem d27_37 : dc k46 37 (.iconst 2) 1 := by decide +kernel
theorem d27_38 : dc k46 38 (.iadd) 1 := by decide +kernel
theorem d27_39 : dc k46 39 (.iload_n 2) 1 := by decide +kernel
theorem d27_40 : dc k46 40 (.invokevirtual 306) 3 := by decide +kernel
theorem d27_44 : dc k46 44 (.aload_n 0) 1 := by decide +kernel
theorem d27_45 : dc k46 45 (.iload_n 1) 1 := by decide +kernel
theorem d27_46 : dc k46 46 (.iconst 2) 1 := by decide +kernel
theorem d27_47 : dc k46 47 (.iadd) 1 := by decide +kernel
theorem d27_48 : dc k46 48 (.invokevirtual 326) 3 := by decide +kernel
theorem d27_51 : dc k46 51 (.istore_n 3) 1 := by decide +kernel
theorem d27_52 : dc k46 52 (.iload_n 3) 1 := by decide +kernel
theorem d27_53 : dc k46 53 (.ifCond .ge 5) 3 := by decide +kernel
theorem d27_56 : dc k46 56 (.iconst (-1)) 1 := by decide +kernel
theorem d27_57 : dc k46 57 (.ireturn) 1 := by decide +kernel
theorem d27_58 : dc k46 58 (.aload_n 0) 1 := by decide +kernel
theorem d27_59 : dc k46 59 (.iload_n 2) 1 := by decide +kernel
theorem d27_60 : dc k46 60 (.aload_n 0) 1 := by decide +kernel
theorem d27_61 : dc k46 61 (.getfield 92) 3 := by decide +kernel
theorem d27_64 : dc k46 64 (.iconst 2) 1 := by decide +kernel
theorem d27_65 : dc k46 65 (.iaload) 1 := by decide +kernel
theorem d27_66 : dc k46 66 (.aload_n 0) 1 := by decide +kernel
theorem d27_67 : dc k46 67 (.getfield 95) 3 := by decide +kernel
theorem d27_70 : dc k46 70 (.iconst 2) 1 := by decide +kernel
theorem d27_71 : dc k46 71 (.iaload) 1 := by decide +kernel
theorem d27_72 : dc k46 72 (.aload_n 0) 1 := by decide +kernel
theorem d27_73 : dc k46 73 (.getfield 98) 3 := by decide +kernel
theorem d27_76 : dc k46 76 (.iconst 2) 1 := by decide +kernel
theorem d27_77 : dc k46 77 (.iaload) 1 := by decide +kernel
theorem d27_78 : dc k46 78 (.invokevirtual 329) 3 := by decide +kernel
abbrev y27 : MethodName := ⟨"FatPointerC", "execVarStmt", "(I)I"⟩
theorem hy27 : y27.cls ≠ "java/lang/invoke/MethodHandle" ∧ y27.cls ≠ "java/lang/invoke/VarHandle" := by decide
theorem pd27 : parseMethodDescriptor y27.desc = some ⟨[.int], some .int⟩ := by decide +kernel
abbrev R27 : Room := { frames := 9, cells := 0, slots := 0, locals := 146 }
abbrev P27 (r : Int32 × St) : Option Value → List OwnC → Prop := fun v H' => v = some (.int r.1) ∧ H' = (Hb 0 r.2)
abbrev W27 (l : Launch) (Z : State) (n0 : Nat) (Q : Option Value → List OwnC → Prop) (k n pc : Nat) (L : List Slot) (S : List Value) (H : List OwnC) : Prop := WP l Z CN lay "FatPointerC" "execVarStmt" prog_1_method_57_code 4 (some FieldType.int) R27 n0 0 Q k n pc L S H
def f_execVarStmt (p1 : Int32) (s : St) : Option (Int32 × St) :=
 (f_valAt p1 s).bind fun c1 =>
 (f_kindAt (p1 + (1 : Int32)) s).bind fun c2 =>
 if c2 = (15 : Int32) then
  (f_execIndexStore p1 s).bind fun c4 =>
  some (c4.1, c4.2)
 else
  (f_kindAt (p1 + (2 : Int32)) s).bind fun c5 =>
  if c5 = (3 : Int32) then
   none
  else
   (f_evalExpr (p1 + (2 : Int32)) s).bind fun c7 =>
   if c7.1 < 0 then
    some ((-1 : Int32), c7.2)
   else
    (rd (gA c7.2 27) (2 : Int32)).bind fun x9 =>
    (rd (gA c7.2 28) (2 : Int32)).bind fun x10 =>
    (rd (gA c7.2 29) (2 : Int32)).bind fun x11 =>
    none
theorem ok27 (l : Launch) (Z : State) (a0 : Array Value) (hw : HW a0 Z) (p1 : Int32) (s : St) (r : Int32 × St) (h : f_execVarStmt p1 s = some r) : CS l Z CN lay y27 prog_1_method_57_code 4 (some FieldType.int) R27 0 [.ref 0, .int p1] (Hb 0 s) (P27 r) := by
 refine CS.of_wp pn_cls (leb rfl) fun n0 => ?_
 show W27 l Z n0 (P27 r) 0 0 0 (vR 0 :: vI p1 :: vU :: vU :: []) [] (Hb 0 s)
 unfold f_execVarStmt at h
 refine WP.aloadN d27_0 rfl ?_
 refine WP.iloadN d27_1 rfl ?_
 obtain ⟨c1, hc1, h⟩ := bd h
 refine WP.callP (i := 0) (y := y8) (as := [.int p1]) (S := []) d27_2 (hw _ m_133) (hw _ m_135) (hw _ m_1) (hw _ m_134) (hw _ m_136) (hw _ m_2) hy8 rfl (ok8 l Z a0 hw p1 s _ hc1) rfl (lenOf pd8 rfl) (leb rfl) (leb rfl) (leb rfl) (leb rfl) ?_
 rintro _ _ ⟨rfl, rfl⟩
 show W27 l Z n0 (P27 r) 0 0 5 (vR 0 :: vI p1 :: vU :: vU :: []) [.int c1] (Hb 0 s)
 refine WP.istoreN (L' := (vR 0 :: vI p1 :: vI c1 :: vU :: [])) d27_5 (leb rfl) rfl ?_
 refine WP.aloadN d27_6 rfl ?_
 refine WP.iloadN d27_7 rfl ?_
 refine WP.iconst (1 : Int32) d27_8 rfl ?_
 refine WP.iadd d27_9 ?_
 obtain ⟨c2, hc2, h⟩ := bd h
 refine WP.callP (i := 0) (y := y7) (as := [.int (p1 + (1 : Int32))]) (S := []) d27_10 (hw _ m_129) (hw _ m_131) (hw _ m_1) (hw _ m_130) (hw _ m_132) (hw _ m_2) hy7 rfl (ok7 l Z a0 hw (p1 + (1 : Int32)) s _ hc2) rfl (lenOf pd7 rfl) (leb rfl) (leb rfl) (leb rfl) (leb rfl) ?_
 rintro _ _ ⟨rfl, rfl⟩
 show W27 l Z n0 (P27 r) 0 0 13 (vR 0 :: vI p1 :: vI c1 :: vU :: []) [.int c2] (Hb 0 s)
 refine WP.bipush (15 : Int32) d27_13 rfl ?_
 rcases ite_e h with ⟨hc3, h⟩ | ⟨hc3, h⟩
 ·
  refine WP.icmpN d27_15 (XT.ii_ne_f hc3) ?_
  refine WP.aloadN d27_18 rfl ?_
  refine WP.iloadN d27_19 rfl ?_
  obtain ⟨c4, hc4, h⟩ := bd h
  refine WP.callP (i := 0) (y := y28) (as := [.int p1]) (S := []) d27_20 (hw _ m_227) (hw _ m_229) (hw _ m_1) (hw _ m_228) (hw _ m_230) (hw _ m_2) hy28 rfl (ok28 l Z a0 hw p1 s _ hc4) rfl (lenOf pd28 rfl) (leb rfl) (leb rfl) (leb rfl) (leb rfl) ?_
  rintro _ _ ⟨rfl, rfl⟩
  show W27 l Z n0 (P27 r) 0 0 23 (vR 0 :: vI p1 :: vI c1 :: vU :: []) [.int c4.1] (Hb 0 c4.2)
  cases h
  exact WP.ireturn d27_23 rfl (leb rfl) (leb rfl) ⟨rfl, rfl⟩
 ·
  refine WP.icmpY (pc' := 24) d27_15 (XT.ii_ne_t hc3) (by decide) rfl ?_
  refine WP.aloadN d27_24 rfl ?_
  refine WP.iloadN d27_25 rfl ?_
  refine WP.iconst (2 : Int32) d27_26 rfl ?_
  refine WP.iadd d27_27 ?_
  obtain ⟨c5, hc5, h⟩ := bd h
  refine WP.callP (i := 0) (y := y7) (as := [.int (p1 + (2 : Int32))]) (S := []) d27_28 (hw _ m_129) (hw _ m_131) (hw _ m_1) (hw _ m_130) (hw _ m_132) (hw _ m_2) hy7 rfl (ok7 l Z a0 hw (p1 + (2 : Int32)) s _ hc5) rfl (lenOf pd7 rfl) (leb rfl) (leb rfl) (leb rfl) (leb rfl) ?_
  rintro _ _ ⟨rfl, rfl⟩
  show W27 l Z n0 (P27 r) 0 0 31 (vR 0 :: vI p1 :: vI c1 :: vU :: []) [.int c5] (Hb 0 s)
  refine WP.iconst (3 : Int32) d27_31 rfl ?_
  rcases ite_e h with ⟨hc6, h⟩ | ⟨hc6, h⟩
  ·
   refine WP.icmpN d27_32 (XT.ii_ne_f hc6) ?_
   refine WP.aloadN d27_35 rfl ?_
   refine WP.iloadN d27_36 rfl ?_
   refine WP.iconst (2 : Int32) d27_37 rfl ?_
   refine WP.iadd d27_38 ?_
   refine WP.iloadN d27_39 rfl ?_
   cases h
  ·
   refine WP.icmpY (pc' := 44) d27_32 (XT.ii_ne_t hc6) (by decide) rfl ?_
   refine WP.aloadN d27_44 rfl ?_
   refine WP.iloadN d27_45 rfl ?_
   refine WP.iconst (2 : Int32) d27_46 rfl ?_
   refine WP.iadd d27_47 ?_
   obtain ⟨c7, hc7, h⟩ := bd h
   refine WP.callP (i := 0) (y := y34) (as := [.int (p1 + (2 : Int32))]) (S := []) d27_48 (hw _ m_251) (hw _ m_253) (hw _ m_1) (hw _ m_252) (hw _ m_254) (hw _ m_2) hy34 rfl (ok34 l Z a0 hw (p1 + (2 : Int32)) s _ hc7) rfl (lenOf pd34 rfl) (leb rfl) (leb rfl) (leb rfl) (leb rfl) ?_
   rintro _ _ ⟨rfl, rfl⟩
   show W27 l Z n0 (P27 r) 0 0 51 (vR 0 :: vI p1 :: vI c1 :: vU :: []) [.int c7.1] (Hb 0 c7.2)
   refine WP.istoreN (L' := (vR 0 :: vI p1 :: vI c1 :: vI c7.1 :: [])) d27_51 (leb rfl) rfl ?_
   refine WP.iloadN d27_52 rfl ?_
   rcases ite_e h with ⟨hc8, h⟩ | ⟨hc8, h⟩
   ·
    refine WP.ifN d27_53 (XT.i0_ge_f hc8) ?_
    refine WP.iconst (-1 : Int32) d27_56 rfl ?_
    cases h
    exact WP.ireturn d27_57 rfl (leb rfl) (leb rfl) ⟨rfl, rfl⟩
   ·
    refine WP.ifY (pc' := 58) d27_53 (XT.i0_ge_t hc8) (by decide) rfl ?_
    refine WP.aloadN d27_58 rfl ?_
    refine WP.iloadN d27_59 rfl ?_
    refine WP.aloadN d27_60 rfl ?_
    refine WP.getfield (i := 0) (j := 46) d27_61 (hw _ m_65) rfl rfl rfl ?_
    refine WP.iconst (2 : Int32) d27_64 rfl ?_
    obtain ⟨x9, hx9, h⟩ := bd h
    refine WP.iaload (i := 28) d27_65 rfl hx9 ?_
    refine WP.aloadN d27_66 rfl ?_
    refine WP.getfield (i := 0) (j := 47) d27_67 (hw _ m_67) rfl rfl rfl ?_
    refine WP.iconst (2 : Int32) d27_70 rfl ?_
    obtain ⟨x10, hx10, h⟩ := bd h
    refine WP.iaload (i := 29) d27_71 rfl hx10 ?_
    refine WP.aloadN d27_72 rfl ?_
    refine WP.getfield (i := 0) (j := 48) d27_73 (hw _ m_69) rfl rfl rfl ?_
    refine WP.iconst (2 : Int32) d27_76 rfl ?_
    obtain ⟨x11, hx11, h⟩ := bd h
    refine WP.iaload (i := 30) d27_77 rfl hx11 ?_
    cases h
theorem d43_0 : dc k50 0 (.aload_n 0) 1 := by decide +kernel
theorem d43_1 : dc k50 1 (.getfield 131) 3 := by decide +kernel
theorem d43_4 : dc k50 4 (.iconst 1) 1 := by decide +kernel
theorem d43_5 : dc k50 5 (.isub) 1 := by decide +kernel
theorem d43_6 : dc k50 6 (.istore 4) 2 := by decide +kernel
theorem d43_8 : dc k50 8 (.iload 4) 2 := by decide +kernel
theorem d43_10 : dc k50 10 (.ifCond .ge 10) 3 := by decide +kernel
theorem d43_13 : dc k50 13 (.aload_n 0) 1 := by decide +kernel
theorem d43_14 : dc k50 14 (.iconst 0) 1 := by decide +kernel
theorem d43_15 : dc k50 15 (.putfield 143) 3 := by decide +kernel
theorem d43_18 : dc k50 18 (.iconst (-1)) 1 := by decide +kernel
theorem d43_19 : dc k50 19 (.ireturn) 1 := by decide +kernel
theorem d43_20 : dc k50 20 (.aload_n 0) 1 := by decide +kernel
theorem d43_21 : dc k50 21 (.getfield 77) 3 := by decide +kernel
theorem d43_24 : dc k50 24 (.iload 4) 2 := by decide +kernel
theorem d43_26 : dc k50 26 (.iaload) 1 := by decide +kernel
theorem d43_27 : dc k50 27 (.iconst 3) 1 := by decide +kernel
theorem d43_28 : dc k50 28 (.iand) 1 := by decide +kernel
theorem d43_29 : dc k50 29 (.istore 5) 2 := by decide +kernel
theorem d43_31 : dc k50 31 (.iconst 0) 1 := by decide +kernel
theorem d43_32 : dc k50 32 (.istore 6) 2 := by decide +kernel
theorem d43_34 : dc k50 34 (.iload 6) 2 := by decide +kernel
theorem d43_36 : dc k50 36 (.aload_n 0) 1 := by decide +kernel
theorem d43_37 : dc k50 37 (.getfield 29) 3 := by decide +kernel
theorem d43_40 : dc k50 40 (.iload 5) 2 := by decide +kernel
theorem d43_42 : dc k50 42 (.iaload) 1 := by decide +kernel
theorem d43_43 : dc k50 43 (.if_icmp .ge 36) 3 := by decide +kernel
theorem d43_46 : dc k50 46 (.iload 6) 2 := by decide +kernel
theorem d43_48 : dc k50 48 (.bipush 8) 2 := by decide +kernel
theorem d43_50 : dc k50 50 (.if_icmp .ge 29) 3 := by decide +kernel
theorem d43_53 : dc k50 53 (.aload_n 0) 1 := by decide +kernel
theorem d43_54 : dc k50 54 (.getfield 74) 3 := by decide +kernel
theorem d43_57 : dc k50 57 (.aload_n 0) 1 := by decide +kernel
theorem d43_58 : dc k50 58 (.getfield 80) 3 := by decide +kernel
theorem d43_61 : dc k50 61 (.iload 4) 2 := by decide +kernel
theorem d43_63 : dc k50 63 (.iaload) 1 := by decide +kernel
theorem d43_64 : dc k50 64 (.iload 6) 2 := by decide +kernel
theorem d43_66 : dc k50 66 (.iadd) 1 := by decide +kernel
theorem d43_67 : dc k50 67 (.sipush 4095) 3 := by decide +kernel
theorem d43_70 : dc k50 70 (.iand) 1 := by decide +kernel
theorem d43_71 : dc k50 71 (.iconst 0) 1 := by decide +kernel
theorem d43_72 : dc k50 72 (.bastore) 1 := by decide +kernel
theorem d43_73 : dc k50 73 (.iinc 6 1) 3 := by decide +kernel
theorem d43_76 : dc k50 76 (.goto (-42)) 3 := by decide +kernel
theorem d43_79 : dc k50 79 (.aload_n 0) 1 := by decide +kernel
theorem d43_80 : dc k50 80 (.aload_n 0) 1 := by decide +kernel
theorem d43_81 : dc k50 81 (.getfield 83) 3 := by decide +kernel
theorem d43_84 : dc k50 84 (.iload 4) 2 := by decide +kernel
theorem d43_86 : dc k50 86 (.iaload) 1 := by decide +kernel
theorem d43_87 : dc k50 87 (.putfield 134) 3 := by decide +kernel
theorem d43_90 : dc k50 90 (.aload_n 0) 1 := by decide +kernel
theorem d43_91 : dc k50 91 (.iload 4) 2 := by decide +kernel
theorem d43_93 : dc k50 93 (.putfield 131) 3 := by decide +kernel
theorem d43_96 : dc k50 96 (.iload 4) 2 := by decide +kernel
theorem d43_98 : dc k50 98 (.ifCond .ne 57) 3 := by decide +kernel
theorem d43_101 : dc k50 101 (.aload_n 0) 1 := by decide +kernel
theorem d43_102 : dc k50 102 (.iconst 0) 1 := by decide +kernel
theorem d43_103 : dc k50 103 (.putfield 150) 3 := by decide +kernel
theorem d43_106 : dc k50 106 (.aload_n 0) 1 := by decide +kernel
theorem d43_107 : dc k50 107 (.iload_n 1) 1 := by decide +kernel
theorem d43_108 : dc k50 108 (.iconst 1) 1 := by decide +kernel
theorem d43_109 : dc k50 109 (.if_icmp .ne 7) 3 := by decide +kernel
theorem d43_112 : dc k50 112 (.iconst 1) 1 := by decide +kernel
theorem d43_113 : dc k50 113 (.goto 4) 3 := by decide +kernel
theorem d43_116 : dc k50 116 (.iconst 0) 1 := by decide +kernel
theorem d43_117 : dc k50 117 (.putfield 168) 3 := by decide +kernel
theorem d43_120 : dc k50 120 (.aload_n 0) 1 := by decide +kernel
theorem d43_121 : dc k50 121 (.iload_n 2) 1 := by decide +kernel
theorem d43_122 : dc k50 122 (.putfield 171) 3 := by decide +kernel
theorem d43_125 : dc k50 125 (.aload_n 0) 1 := by decide +kernel
theorem d43_126 : dc k50 126 (.iload_n 1) 1 := by decide +kernel
theorem d43_127 : dc k50 127 (.iconst 1) 1 := by decide +kernel
theorem d43_128 : dc k50 128 (.if_icmp .ne 16) 3 := by decide +kernel
theorem d43_131 : dc k50 131 (.aload_n 0) 1 := by decide +kernel
theorem d43_132 : dc k50 132 (.getfield 71) 3 := by decide +kernel
theorem d43_135 : dc k50 135 (.iload_n 3) 1 := by decide +kernel
theorem d43_136 : dc k50 136 (.sipush 4095) 3 := by decide +kernel
theorem d43_139 : dc k50 139 (.iand) 1 := by decide +kernel
theorem d43_140 : dc k50 140 (.iaload) 1 := by decide +kernel
theorem d43_141 : dc k50 141 (.goto 4) 3 := by decide +kernel
theorem d43_144 : dc k50 144 (.iconst 0) 1 := by decide +kernel
theorem d43_145 : dc k50 145 (.putfield 174) 3 := by decide +kernel
theorem d43_148 : dc k50 148 (.aload_n 0) 1 := by decide +kernel
theorem d43_149 : dc k50 149 (.iconst 0) 1 := by decide +kernel
theorem d43_150 : dc k50 150 (.putfield 143) 3 := by decide +kernel
theorem d43_153 : dc k50 153 (.iconst (-1)) 1 := by decide +kernel
theorem d43_154 : dc k50 154 (.ireturn) 1 := by decide +kernel
theorem d43_155 : dc k50 155 (.aload_n 0) 1 := by decide +kernel
theorem d43_156 : dc k50 156 (.getfield 89) 3 := by decide +kernel
theorem d43_159 : dc k50 159 (.iload 4) 2 := by decide +kernel
theorem d43_161 : dc k50 161 (.iaload) 1 := by decide +kernel
theorem d43_162 : dc k50 162 (.ifCond .lt 17) 3 := by decide +kernel
theorem d43_165 : dc k50 165 (.aload_n 0) 1 := by decide +kernel
theorem d43_166 : dc k50 166 (.aload_n 0) 1 := by decide +kernel
theorem d43_167 : dc k50 167 (.getfield 89) 3 := by decide +kernel
theorem d43_170 : dc k50 170 (.iload 4) 2 := by decide +kernel
theorem d43_172 : dc k50 172 (.iaload) 1 := by decide +kernel
theorem d43_173 : dc k50 173 (.iload_n 1) 1 := by decide +kernel
theorem d43_174 : dc k50 174 (.iload_n 2) 1 := by decide +kernel
theorem d43_175 : dc k50 175 (.iload_n 3) 1 := by decide +kernel
theorem d43_176 : dc k50 176 (.invokevirtual 329) 3 := by decide +kernel
theorem d43_179 : dc k50 179 (.aload_n 0) 1 := by decide +kernel
theorem d43_180 : dc k50 180 (.getfield 86) 3 := by decide +kernel
theorem d43_183 : dc k50 183 (.iload 4) 2 := by decide +kernel
theorem d43_185 : dc k50 185 (.iaload) 1 := by decide +kernel
theorem d43_186 : dc k50 186 (.ireturn) 1 := by decide +kernel
abbrev y43 : MethodName := ⟨"FatPointerC", "doReturn", "(III)I"⟩
theorem hy43 : y43.cls ≠ "java/lang/invoke/MethodHandle" ∧ y43.cls ≠ "java/lang/invoke/VarHandle" := by decide
theorem pd43 : parseMethodDescriptor y43.desc = some ⟨[.int, .int, .int], some .int⟩ := by decide +kernel
abbrev R43 : Room := { frames := 0, cells := 0, slots := 0, locals := 0 }
abbrev P43 (r : Int32 × St) : Option Value → List OwnC → Prop := fun v H' => v = some (.int r.1) ∧ H' = (Hb 0 r.2)
abbrev W43 (l : Launch) (Z : State) (n0 : Nat) (Q : Option Value → List OwnC → Prop) (k n pc : Nat) (L : List Slot) (S : List Value) (H : List OwnC) : Prop := WP l Z CN lay "FatPointerC" "doReturn" prog_1_method_66_code 7 (some FieldType.int) R43 n0 0 Q k n pc L S H
def f_doReturn_145 (n : Nat) (t0 : Int32) (s : St) : Option (Int32 × St) :=
 lt (sI s 9 t0) fun s1 =>
 lt (sI s1 18 (0 : Int32)) fun s2 =>
 some ((-1 : Int32), s2)
theorem ok43_145 (l : Launch) (Z : State) (a0 : Array Value) (hw : HW a0 Z) (n0 n : Nat) (t0 : Int32) (s : St) (r : Int32 × St) (h : f_doReturn_145 n t0 s = some r) : W43 l Z n0 (P43 r) 0 0 145 (vR 0 :: vU :: vU :: vU :: vU :: vU :: vU :: []) [.int t0, .ref 0] (Hb 0 s) := by
 unfold f_doReturn_145 at h
 obtain ⟨s1, es1, h⟩ := lt_e h
 refine WP.putI (i := 0) (j := 11) (H' := (Hb 0 s1)) d43_145 (hw _ m_95) (Or.inl (hw _ m_96)) (hw _ m_1) (hlay hw) rfl rfl rfl (leb rfl) (by subst es1; rfl) ?_
 refine WP.aloadN d43_148 rfl ?_
 refine WP.iconst (0 : Int32) d43_149 rfl ?_
 obtain ⟨s2, es2, h⟩ := lt_e h
 refine WP.putZ (i := 0) (j := 45) (H' := (Hb 0 s2)) d43_150 (hw _ m_212) (Or.inl (hw _ m_213)) (hw _ m_1) (hlay hw) rfl rfl rfl (leb rfl) (by subst es2; rfl) ?_
 refine WP.iconst (-1 : Int32) d43_153 rfl ?_
 cases h
 exact WP.ireturn d43_154 rfl (leb rfl) (leb rfl) ⟨rfl, rfl⟩
def f_doReturn_117 (n : Nat) (v1 v2 v3 t0 : Int32) (s : St) : Option (Int32 × St) :=
 lt (sI s 7 t0) fun s1 =>
 lt (sI s1 8 v2) fun s2 =>
 if v1 = (1 : Int32) then
  (rd (gA s2 20) (v3 &&& (4095 : Int32))).bind fun x4 =>
  f_doReturn_145 n x4 s2
 else
  f_doReturn_145 n (0 : Int32) s2
theorem ok43_117 (l : Launch) (Z : State) (a0 : Array Value) (hw : HW a0 Z) (n0 n : Nat) (v1 v2 v3 t0 : Int32) (s : St) (r : Int32 × St) (h : f_doReturn_117 n v1 v2 v3 t0 s = some r) : W43 l Z n0 (P43 r) 0 0 117 (vR 0 :: vI v1 :: vI v2 :: vI v3 :: vU :: vU :: vU :: []) [.int t0, .ref 0] (Hb 0 s) := by
 unfold f_doReturn_117 at h
 obtain ⟨s1, es1, h⟩ := lt_e h
 refine WP.putI (i := 0) (j := 9) (H' := (Hb 0 s1)) d43_117 (hw _ m_91) (Or.inl (hw _ m_92)) (hw _ m_1) (hlay hw) rfl rfl rfl (leb rfl) (by subst es1; rfl) ?_
 refine WP.aloadN d43_120 rfl ?_
 refine WP.iloadN d43_121 rfl ?_
 obtain ⟨s2, es2, h⟩ := lt_e h
 refine WP.putI (i := 0) (j := 10) (H' := (Hb 0 s2)) d43_122 (hw _ m_93) (Or.inl (hw _ m_94)) (hw _ m_1) (hlay hw) rfl rfl rfl (leb rfl) (by subst es2; rfl) ?_
 refine WP.aloadN d43_125 rfl ?_
 refine WP.iloadN d43_126 rfl ?_
 refine WP.iconst (1 : Int32) d43_127 rfl ?_
 rcases ite_e h with ⟨hc3, h⟩ | ⟨hc3, h⟩
 ·
  refine WP.icmpN d43_128 (XT.ii_ne_f hc3) ?_
  refine WP.aloadN d43_131 rfl ?_
  refine WP.getfield (i := 0) (j := 34) d43_132 (hw _ m_51) rfl rfl rfl ?_
  refine WP.iloadN d43_135 rfl ?_
  refine WP.sipush (4095 : Int32) d43_136 rfl ?_
  refine WP.iand d43_139 ?_
  obtain ⟨x4, hx4, h⟩ := bd h
  refine WP.iaload (i := 21) d43_140 rfl hx4 ?_
  refine WP.goto (pc' := 145) d43_141 (by decide) rfl ?_
  exact WP.weak (L' := (vR 0 :: vU :: vU :: vU :: vU :: vU :: vU :: [])) ⟨rfl, trivial⟩ (ok43_145 l Z a0 hw n0 n x4 s2 _ h)
 ·
  refine WP.icmpY (pc' := 144) d43_128 (XT.ii_ne_t hc3) (by decide) rfl ?_
  refine WP.iconst (0 : Int32) d43_144 rfl ?_
  exact WP.weak (L' := (vR 0 :: vU :: vU :: vU :: vU :: vU :: vU :: [])) ⟨rfl, trivial⟩ (ok43_145 l Z a0 hw n0 n (0 : Int32) s2 _ h)
def f_doReturn_79 (n : Nat) (v1 v2 v3 v4 : Int32) (s : St) : Option (Int32 × St) :=
 (rd (gA s 24) v4).bind fun x1 =>
 lt (sI s 16 x1) fun s2 =>
 lt (sI s2 15 v4) fun s3 =>
 if v4 = 0 then
  lt (sI s3 4 (0 : Int32)) fun s5 =>
  if v1 = (1 : Int32) then
   f_doReturn_117 n v1 v2 v3 (1 : Int32) s5
  else
   f_doReturn_117 n v1 v2 v3 (0 : Int32) s5
 else
  (rd (gA s3 26) v4).bind fun x7 =>
  if x7 < 0 then
   (rd (gA s3 25) v4).bind fun x9 =>
   some (x9, s3)
  else
   (rd (gA s3 26) v4).bind fun x10 =>
   none
theorem ok43_79 (l : Launch) (Z : State) (a0 : Array Value) (hw : HW a0 Z) (n0 n : Nat) (v1 v2 v3 v4 : Int32) (s : St) (r : Int32 × St) (h : f_doReturn_79 n v1 v2 v3 v4 s = some r) : W43 l Z n0 (P43 r) 0 0 79 (vR 0 :: vI v1 :: vI v2 :: vI v3 :: vI v4 :: vU :: vU :: []) [] (Hb 0 s) := by
 unfold f_doReturn_79 at h
 refine WP.aloadN d43_79 rfl ?_
 refine WP.aloadN d43_80 rfl ?_
 refine WP.getfield (i := 0) (j := 39) d43_81 (hw _ m_59) rfl rfl rfl ?_
 refine WP.iload d43_84 rfl ?_
 obtain ⟨x1, hx1, h⟩ := bd h
 refine WP.iaload (i := 25) d43_86 rfl hx1 ?_
 obtain ⟨s2, es2, h⟩ := lt_e h
 refine WP.putI (i := 0) (j := 43) (H' := (Hb 0 s2)) d43_87 (hw _ m_206) (Or.inl (hw _ m_207)) (hw _ m_1) (hlay hw) rfl rfl rfl (leb rfl) (by subst es2; rfl) ?_
 refine WP.aloadN d43_90 rfl ?_
 refine WP.iload d43_91 rfl ?_
 obtain ⟨s3, es3, h⟩ := lt_e h
 refine WP.putI (i := 0) (j := 42) (H' := (Hb 0 s3)) d43_93 (hw _ m_204) (Or.inl (hw _ m_205)) (hw _ m_1) (hlay hw) rfl rfl rfl (leb rfl) (by subst es3; rfl) ?_
 refine WP.iload d43_96 rfl ?_
 rcases ite_e h with ⟨hc4, h⟩ | ⟨hc4, h⟩
 ·
  refine WP.ifN d43_98 (XT.i0_ne_f hc4) ?_
  refine WP.aloadN d43_101 rfl ?_
  refine WP.iconst (0 : Int32) d43_102 rfl ?_
  obtain ⟨s5, es5, h⟩ := lt_e h
  refine WP.putI (i := 0) (j := 6) (H' := (Hb 0 s5)) d43_103 (hw _ m_85) (Or.inl (hw _ m_86)) (hw _ m_1) (hlay hw) rfl rfl rfl (leb rfl) (by subst es5; rfl) ?_
  refine WP.aloadN d43_106 rfl ?_
  refine WP.iloadN d43_107 rfl ?_
  refine WP.iconst (1 : Int32) d43_108 rfl ?_
  rcases ite_e h with ⟨hc6, h⟩ | ⟨hc6, h⟩
  ·
   refine WP.icmpN d43_109 (XT.ii_ne_f hc6) ?_
   refine WP.iconst (1 : Int32) d43_112 rfl ?_
   refine WP.goto (pc' := 117) d43_113 (by decide) rfl ?_
   exact WP.weak (L' := (vR 0 :: vI v1 :: vI v2 :: vI v3 :: vU :: vU :: vU :: [])) ⟨rfl, rfl, rfl, rfl, trivial⟩ (ok43_117 l Z a0 hw n0 n v1 v2 v3 (1 : Int32) s5 _ h)
  ·
   refine WP.icmpY (pc' := 116) d43_109 (XT.ii_ne_t hc6) (by decide) rfl ?_
   refine WP.iconst (0 : Int32) d43_116 rfl ?_
   exact WP.weak (L' := (vR 0 :: vI v1 :: vI v2 :: vI v3 :: vU :: vU :: vU :: [])) ⟨rfl, rfl, rfl, rfl, trivial⟩ (ok43_117 l Z a0 hw n0 n v1 v2 v3 (0 : Int32) s5 _ h)
 ·
  refine WP.ifY (pc' := 155) d43_98 (XT.i0_ne_t hc4) (by decide) rfl ?_
  refine WP.aloadN d43_155 rfl ?_
  refine WP.getfield (i := 0) (j := 41) d43_156 (hw _ m_63) rfl rfl rfl ?_
  refine WP.iload d43_159 rfl ?_
  obtain ⟨x7, hx7, h⟩ := bd h
  refine WP.iaload (i := 27) d43_161 rfl hx7 ?_
  rcases ite_e h with ⟨hc8, h⟩ | ⟨hc8, h⟩
  ·
   refine WP.ifY (pc' := 179) d43_162 (XT.i0_lt_t hc8) (by decide) rfl ?_
   refine WP.aloadN d43_179 rfl ?_
   refine WP.getfield (i := 0) (j := 40) d43_180 (hw _ m_61) rfl rfl rfl ?_
   refine WP.iload d43_183 rfl ?_
   obtain ⟨x9, hx9, h⟩ := bd h
   refine WP.iaload (i := 26) d43_185 rfl hx9 ?_
   cases h
   exact WP.ireturn d43_186 rfl (leb rfl) (leb rfl) ⟨rfl, rfl⟩
  ·
   refine WP.ifN d43_162 (XT.i0_lt_f hc8) ?_
   refine WP.aloadN d43_165 rfl ?_
   refine WP.aloadN d43_166 rfl ?_
   refine WP.getfield (i := 0) (j := 41) d43_167 (hw _ m_63) rfl rfl rfl ?_
   refine WP.iload d43_170 rfl ?_
   obtain ⟨x10, hx10, h⟩ := bd h
   refine WP.iaload (i := 27) d43_172 rfl hx10 ?_
   refine WP.iloadN d43_173 rfl ?_
   refine WP.iloadN d43_174 rfl ?_
   refine WP.iloadN d43_175 rfl ?_
   cases h
def g_doReturn_34 (k34 : KT7) (n : Nat) (v1 v2 v3 v4 v5 v6 : Int32) (s : St) : Option (Int32 × St) :=
 (rd (gA s 6) v5).bind fun x1 =>
 if v6 < x1 then
  if v6 < (8 : Int32) then
   (rd (gA s 23) v4).bind fun x4 =>
   (wrA s 21 ((x4 + v6) &&& (4095 : Int32)) (0 : Int32)).bind fun s5 =>
   lt (v6 + (1 : Int32)) fun x6 =>
   k34 v1 v2 v3 v4 v5 x6 s5
  else
   f_doReturn_79 n v1 v2 v3 v4 s
 else
  f_doReturn_79 n v1 v2 v3 v4 s
abbrev HK43_34 (l : Launch) (Z : State) (n0 : Nat) (k34 : KT7) : Prop := ∀ (v1 v2 v3 v4 v5 v6 : Int32) (s : St) (r : Int32 × St), k34 v1 v2 v3 v4 v5 v6 s = some r → W43 l Z n0 (P43 r) 0 0 34 (vR 0 :: vI v1 :: vI v2 :: vI v3 :: vI v4 :: vI v5 :: vI v6 :: []) [] (Hb 0 s)
theorem okg43_34 (l : Launch) (Z : State) (a0 : Array Value) (hw : HW a0 Z) (n0 : Nat) (k34 : KT7) (hk34 : HK43_34 l Z n0 k34) (n : Nat) (v1 v2 v3 v4 v5 v6 : Int32) (s : St) (r : Int32 × St) (h : g_doReturn_34 k34 n v1 v2 v3 v4 v5 v6 s = some r) : W43 l Z n0 (P43 r) 0 0 34 (vR 0 :: vI v1 :: vI v2 :: vI v3 :: vI v4 :: vI v5 :: vI v6 :: []) [] (Hb 0 s) := by
 unfold g_doReturn_34 at h
 refine WP.iload d43_34 rfl ?_
 refine WP.aloadN d43_36 rfl ?_
 refine WP.getfield (i := 0) (j := 17) d43_37 (hw _ m_23) rfl rfl rfl ?_
 refine WP.iload d43_40 rfl ?_
 obtain ⟨x1, hx1, h⟩ := bd h
 refine WP.iaload (i := 7) d43_42 rfl hx1 ?_
 rcases ite_e h with ⟨hc2, h⟩ | ⟨hc2, h⟩
 ·
  refine WP.icmpN d43_43 (XT.ii_ge_f hc2) ?_
  refine WP.iload d43_46 rfl ?_
  refine WP.bipush (8 : Int32) d43_48 rfl ?_
  rcases ite_e h with ⟨hc3, h⟩ | ⟨hc3, h⟩
  ·
   refine WP.icmpN d43_50 (XT.ii_ge_f hc3) ?_
   refine WP.aloadN d43_53 rfl ?_
   refine WP.getfield (i := 0) (j := 35) d43_54 (hw _ m_53) rfl rfl rfl ?_
   refine WP.aloadN d43_57 rfl ?_
   refine WP.getfield (i := 0) (j := 38) d43_58 (hw _ m_57) rfl rfl rfl ?_
   refine WP.iload d43_61 rfl ?_
   obtain ⟨x4, hx4, h⟩ := bd h
   refine WP.iaload (i := 24) d43_63 rfl hx4 ?_
   refine WP.iload d43_64 rfl ?_
   refine WP.iadd d43_66 ?_
   refine WP.sipush (4095 : Int32) d43_67 rfl ?_
   refine WP.iand d43_70 ?_
   refine WP.iconst (0 : Int32) d43_71 rfl ?_
   obtain ⟨s5, hs5, h⟩ := bd h
   obtain ⟨ys5, gs5, es5⟩ := wrA_e hs5
   refine WP.bastore (i := 22) (xs := gA s 21) (H' := (Hb 0 s5)) d43_72 rfl (leb rfl) gs5 (by subst es5; rfl) ?_
   obtain ⟨x6, ex6, h⟩ := lt_e h
   refine WP.iinc (L' := (vR 0 :: vI v1 :: vI v2 :: vI v3 :: vI v4 :: vI v5 :: vI x6 :: [])) (1 : Int32) d43_73 rfl rfl (by subst ex6; rfl) ?_
   refine WP.goto (pc' := 34) d43_76 (by decide) rfl ?_
   exact WP.weak (L' := (vR 0 :: vI v1 :: vI v2 :: vI v3 :: vI v4 :: vI v5 :: vI x6 :: [])) ⟨rfl, rfl, rfl, rfl, rfl, rfl, rfl, trivial⟩ (hk34 v1 v2 v3 v4 v5 x6 s5 _ h)
  ·
   refine WP.icmpY (pc' := 79) d43_50 (XT.ii_ge_t hc3) (by decide) rfl ?_
   exact WP.weak (L' := (vR 0 :: vI v1 :: vI v2 :: vI v3 :: vI v4 :: vU :: vU :: [])) ⟨rfl, rfl, rfl, rfl, rfl, trivial⟩ (ok43_79 l Z a0 hw n0 n v1 v2 v3 v4 s _ h)
 ·
  refine WP.icmpY (pc' := 79) d43_43 (XT.ii_ge_t hc2) (by decide) rfl ?_
  exact WP.weak (L' := (vR 0 :: vI v1 :: vI v2 :: vI v3 :: vI v4 :: vU :: vU :: [])) ⟨rfl, rfl, rfl, rfl, rfl, trivial⟩ (ok43_79 l Z a0 hw n0 n v1 v2 v3 v4 s _ h)
def f_doReturn_34 : Nat → Int32 → Int32 → Int32 → Int32 → Int32 → Int32 → St → Option (Int32 × St)
 | 0 => fun _ _ _ _ _ _ _ => none
 | n + 1 => g_doReturn_34 (f_doReturn_34 n) n
theorem ok43_34 (l : Launch) (Z : State) (a0 : Array Value) (hw : HW a0 Z) (n0 : Nat) : ∀ (n : Nat) (v1 v2 v3 v4 v5 v6 : Int32) (s : St) (r : Int32 × St), f_doReturn_34 n v1 v2 v3 v4 v5 v6 s = some r → W43 l Z n0 (P43 r) 0 0 34 (vR 0 :: vI v1 :: vI v2 :: vI v3 :: vI v4 :: vI v5 :: vI v6 :: []) [] (Hb 0 s)
 | 0, v1, v2, v3, v4, v5, v6, s, r, h => nomatch (show none = some r from h)
 | n + 1, v1, v2, v3, v4, v5, v6, s, r, h => okg43_34 l Z a0 hw n0 _ (ok43_34 l Z a0 hw n0 n) n v1 v2 v3 v4 v5 v6 s r h
def f_doReturn (n : Nat) (p1 p2 p3 : Int32) (s : St) : Option (Int32 × St) :=
 lt ((gI s 15) - (1 : Int32)) fun x1 =>
 if x1 < 0 then
  lt (sI s 18 (0 : Int32)) fun s3 =>
  some ((-1 : Int32), s3)
 else
  (rd (gA s 22) x1).bind fun x4 =>
  lt (x4 &&& (3 : Int32)) fun x5 =>
  f_doReturn_34 n p1 p2 p3 x1 x5 (0 : Int32) s
theorem ok43 (l : Launch) (Z : State) (a0 : Array Value) (hw : HW a0 Z) (n : Nat) (p1 p2 p3 : Int32) (s : St) (r : Int32 × St) (h : f_doReturn n p1 p2 p3 s = some r) : CS l Z CN lay y43 prog_1_method_66_code 7 (some FieldType.int) R43 0 [.ref 0, .int p1, .int p2, .int p3] (Hb 0 s) (P43 r) := by
 refine CS.of_wp pn_cls (leb rfl) fun n0 => ?_
 show W43 l Z n0 (P43 r) 0 0 0 (vR 0 :: vI p1 :: vI p2 :: vI p3 :: vU :: vU :: vU :: []) [] (Hb 0 s)
 unfold f_doReturn at h
 refine WP.aloadN d43_0 rfl ?_
 refine WP.getfield (i := 0) (j := 42) d43_1 (hw _ m_204) rfl rfl rfl ?_
 refine WP.iconst (1 : Int32) d43_4 rfl ?_
 refine WP.isub d43_5 ?_
 obtain ⟨x1, ex1, h⟩ := lt_e h
 refine WP.istore (L' := (vR 0 :: vI p1 :: vI p2 :: vI p3 :: vI x1 :: vU :: vU :: [])) d43_6 (leb rfl) (by subst ex1; rfl) ?_
 refine WP.iload d43_8 rfl ?_
 rcases ite_e h with ⟨hc2, h⟩ | ⟨hc2, h⟩
 ·
  refine WP.ifN d43_10 (XT.i0_ge_f hc2) ?_
  refine WP.aloadN d43_13 rfl ?_
  refine WP.iconst (0 : Int32) d43_14 rfl ?_
  obtain ⟨s3, es3, h⟩ := lt_e h
  refine WP.putZ (i := 0) (j := 45) (H' := (Hb 0 s3)) d43_15 (hw _ m_212) (Or.inl (hw _ m_213)) (hw _ m_1) (hlay hw) rfl rfl rfl (leb rfl) (by subst es3; rfl) ?_
  refine WP.iconst (-1 : Int32) d43_18 rfl ?_
  cases h
  exact WP.ireturn d43_19 rfl (leb rfl) (leb rfl) ⟨rfl, rfl⟩
 ·
  refine WP.ifY (pc' := 20) d43_10 (XT.i0_ge_t hc2) (by decide) rfl ?_
  refine WP.aloadN d43_20 rfl ?_
  refine WP.getfield (i := 0) (j := 37) d43_21 (hw _ m_55) rfl rfl rfl ?_
  refine WP.iload d43_24 rfl ?_
  obtain ⟨x4, hx4, h⟩ := bd h
  refine WP.iaload (i := 23) d43_26 rfl hx4 ?_
  refine WP.iconst (3 : Int32) d43_27 rfl ?_
  refine WP.iand d43_28 ?_
  obtain ⟨x5, ex5, h⟩ := lt_e h
  refine WP.istore (L' := (vR 0 :: vI p1 :: vI p2 :: vI p3 :: vI x1 :: vI x5 :: vU :: [])) d43_29 (leb rfl) (by subst ex5; rfl) ?_
  refine WP.iconst (0 : Int32) d43_31 rfl ?_
  refine WP.istore (L' := (vR 0 :: vI p1 :: vI p2 :: vI p3 :: vI x1 :: vI x5 :: vI (0 : Int32) :: [])) d43_32 (leb rfl) rfl ?_
  exact WP.weak (L' := (vR 0 :: vI p1 :: vI p2 :: vI p3 :: vI x1 :: vI x5 :: vI (0 : Int32) :: [])) ⟨rfl, rfl, rfl, rfl, rfl, rfl, rfl, trivial⟩ (ok43_34 l Z a0 hw n0 n p1 p2 p3 x1 x5 (0 : Int32) s _ h)
theorem d41_0 : dc k48 0 (.aload_n 0) 1 := by decide +kernel
theorem d41_1 : dc k48 1 (.iload_n 1) 1 := by decide +kernel
theorem d41_2 : dc k48 2 (.iconst 1) 1 := by decide +kernel
theorem d41_3 : dc k48 3 (.iadd) 1 := by decide +kernel
theorem d41_4 : dc k48 4 (.invokevirtual 326) 3 := by decide +kernel
theorem d41_7 : dc k48 7 (.istore_n 2) 1 := by decide +kernel
theorem d41_8 : dc k48 8 (.iload_n 2) 1 := by decide +kernel
theorem d41_9 : dc k48 9 (.ifCond .ge 5) 3 := by decide +kernel
theorem d41_12 : dc k48 12 (.iconst (-1)) 1 := by decide +kernel
theorem d41_13 : dc k48 13 (.ireturn) 1 := by decide +kernel
theorem d41_14 : dc k48 14 (.aload_n 0) 1 := by decide +kernel
theorem d41_15 : dc k48 15 (.aload_n 0) 1 := by decide +kernel
theorem d41_16 : dc k48 16 (.getfield 92) 3 := by decide +kernel
theorem d41_19 : dc k48 19 (.iconst 2) 1 := by decide +kernel
theorem d41_20 : dc k48 20 (.iaload) 1 := by decide +kernel
theorem d41_21 : dc k48 21 (.aload_n 0) 1 := by decide +kernel
theorem d41_22 : dc k48 22 (.getfield 95) 3 := by decide +kernel
theorem d41_25 : dc k48 25 (.iconst 2) 1 := by decide +kernel
theorem d41_26 : dc k48 26 (.iaload) 1 := by decide +kernel
theorem d41_27 : dc k48 27 (.aload_n 0) 1 := by decide +kernel
theorem d41_28 : dc k48 28 (.getfield 98) 3 := by decide +kernel
theorem d41_31 : dc k48 31 (.iconst 2) 1 := by decide +kernel
theorem d41_32 : dc k48 32 (.iaload) 1 := by decide +kernel
theorem d41_33 : dc k48 33 (.invokevirtual 335) 3 := by decide +kernel
theorem d41_36 : dc k48 36 (.ireturn) 1 := by decide +kernel
abbrev y41 : MethodName := ⟨"FatPointerC", "execReturn", "(I)I"⟩
theorem hy41 : y41.cls ≠ "java/lang/invoke/MethodHandle" ∧ y41.cls ≠ "java/lang/invoke/VarHandle" := by decide
theorem pd41 : parseMethodDescriptor y41.desc = some ⟨[.int], some .int⟩ := by decide +kernel
abbrev R41 : Room := { frames := 8, cells := 0, slots := 0, locals := 126 }
abbrev P41 (r : Int32 × St) : Option Value → List OwnC → Prop := fun v H' => v = some (.int r.1) ∧ H' = (Hb 0 r.2)
abbrev W41 (l : Launch) (Z : State) (n0 : Nat) (Q : Option Value → List OwnC → Prop) (k n pc : Nat) (L : List Slot) (S : List Value) (H : List OwnC) : Prop := WP l Z CN lay "FatPointerC" "execReturn" prog_1_method_61_code 3 (some FieldType.int) R41 n0 0 Q k n pc L S H
def f_execReturn (n : Nat) (p1 : Int32) (s : St) : Option (Int32 × St) :=
 (f_evalExpr (p1 + (1 : Int32)) s).bind fun c1 =>
 if c1.1 < 0 then
  some ((-1 : Int32), c1.2)
 else
  (rd (gA c1.2 27) (2 : Int32)).bind fun x3 =>
  (rd (gA c1.2 28) (2 : Int32)).bind fun x4 =>
  (rd (gA c1.2 29) (2 : Int32)).bind fun x5 =>
  (f_doReturn n x3 x4 x5 c1.2).bind fun c6 =>
  some (c6.1, c6.2)
theorem ok41 (l : Launch) (Z : State) (a0 : Array Value) (hw : HW a0 Z) (n : Nat) (p1 : Int32) (s : St) (r : Int32 × St) (h : f_execReturn n p1 s = some r) : CS l Z CN lay y41 prog_1_method_61_code 3 (some FieldType.int) R41 0 [.ref 0, .int p1] (Hb 0 s) (P41 r) := by
 refine CS.of_wp pn_cls (leb rfl) fun n0 => ?_
 show W41 l Z n0 (P41 r) 0 0 0 (vR 0 :: vI p1 :: vU :: []) [] (Hb 0 s)
 unfold f_execReturn at h
 refine WP.aloadN d41_0 rfl ?_
 refine WP.iloadN d41_1 rfl ?_
 refine WP.iconst (1 : Int32) d41_2 rfl ?_
 refine WP.iadd d41_3 ?_
 obtain ⟨c1, hc1, h⟩ := bd h
 refine WP.callP (i := 0) (y := y34) (as := [.int (p1 + (1 : Int32))]) (S := []) d41_4 (hw _ m_251) (hw _ m_253) (hw _ m_1) (hw _ m_252) (hw _ m_254) (hw _ m_2) hy34 rfl (ok34 l Z a0 hw (p1 + (1 : Int32)) s _ hc1) rfl (lenOf pd34 rfl) (leb rfl) (leb rfl) (leb rfl) (leb rfl) ?_
 rintro _ _ ⟨rfl, rfl⟩
 show W41 l Z n0 (P41 r) 0 0 7 (vR 0 :: vI p1 :: vU :: []) [.int c1.1] (Hb 0 c1.2)
 refine WP.istoreN (L' := (vR 0 :: vI p1 :: vI c1.1 :: [])) d41_7 (leb rfl) rfl ?_
 refine WP.iloadN d41_8 rfl ?_
 rcases ite_e h with ⟨hc2, h⟩ | ⟨hc2, h⟩
 ·
  refine WP.ifN d41_9 (XT.i0_ge_f hc2) ?_
  refine WP.iconst (-1 : Int32) d41_12 rfl ?_
  cases h
  exact WP.ireturn d41_13 rfl (leb rfl) (leb rfl) ⟨rfl, rfl⟩
 ·
  refine WP.ifY (pc' := 14) d41_9 (XT.i0_ge_t hc2) (by decide) rfl ?_
  refine WP.aloadN d41_14 rfl ?_
  refine WP.aloadN d41_15 rfl ?_
  refine WP.getfield (i := 0) (j := 46) d41_16 (hw _ m_65) rfl rfl rfl ?_
  refine WP.iconst (2 : Int32) d41_19 rfl ?_
  obtain ⟨x3, hx3, h⟩ := bd h
  refine WP.iaload (i := 28) d41_20 rfl hx3 ?_
  refine WP.aloadN d41_21 rfl ?_
  refine WP.getfield (i := 0) (j := 47) d41_22 (hw _ m_67) rfl rfl rfl ?_
  refine WP.iconst (2 : Int32) d41_25 rfl ?_
  obtain ⟨x4, hx4, h⟩ := bd h
  refine WP.iaload (i := 29) d41_26 rfl hx4 ?_
  refine WP.aloadN d41_27 rfl ?_
  refine WP.getfield (i := 0) (j := 48) d41_28 (hw _ m_69) rfl rfl rfl ?_
  refine WP.iconst (2 : Int32) d41_31 rfl ?_
  obtain ⟨x5, hx5, h⟩ := bd h
  refine WP.iaload (i := 30) d41_32 rfl hx5 ?_
  obtain ⟨c6, hc6, h⟩ := bd h
  refine WP.callP (i := 0) (y := y43) (as := [.int x3, .int x4, .int x5]) (S := []) d41_33 (hw _ m_287) (hw _ m_289) (hw _ m_1) (hw _ m_288) (hw _ m_290) (hw _ m_2) hy43 rfl (ok43 l Z a0 hw n x3 x4 x5 c1.2 _ hc6) rfl (lenOf pd43 rfl) (leb rfl) (leb rfl) (leb rfl) (leb rfl) ?_
  rintro _ _ ⟨rfl, rfl⟩
  show W41 l Z n0 (P41 r) 0 0 36 (vR 0 :: vI p1 :: vI c1.1 :: []) [.int c6.1] (Hb 0 c6.2)
  cases h
  exact WP.ireturn d41_36 rfl (leb rfl) (leb rfl) ⟨rfl, rfl⟩
theorem d26_0 : dc k45 0 (.aload_n 0) 1 := by decide +kernel
theorem d26_1 : dc k45 1 (.iload_n 1) 1 := by decide +kernel
theorem d26_2 : dc k45 2 (.invokevirtual 192) 3 := by decide +kernel
theorem d26_5 : dc k45 5 (.istore_n 2) 1 := by decide +kernel
theorem d26_6 : dc k45 6 (.iload_n 2) 1 := by decide +kernel
theorem d26_7 : dc k45 7 (.tableswitch 148 2 22 #[97, 109, 148, 148, 148, 128, 135, 122, 116, 148, 148, 148, 142, 148, 148, 148, 148, 148, 148, 148, 103]) 97 := by decide +kernel
theorem d26_104 : dc k45 104 (.aload_n 0) 1 := by decide +kernel
theorem d26_105 : dc k45 105 (.iload_n 1) 1 := by decide +kernel
theorem d26_106 : dc k45 106 (.invokevirtual 300) 3 := by decide +kernel
theorem d26_109 : dc k45 109 (.ireturn) 1 := by decide +kernel
theorem d26_110 : dc k45 110 (.aload_n 0) 1 := by decide +kernel
theorem d26_111 : dc k45 111 (.iload_n 1) 1 := by decide +kernel
theorem d26_112 : dc k45 112 (.invokevirtual 303) 3 := by decide +kernel
theorem d26_116 : dc k45 116 (.aload_n 0) 1 := by decide +kernel
theorem d26_117 : dc k45 117 (.iload_n 1) 1 := by decide +kernel
theorem d26_118 : dc k45 118 (.iconst (-1)) 1 := by decide +kernel
theorem d26_119 : dc k45 119 (.invokevirtual 306) 3 := by decide +kernel
theorem d26_123 : dc k45 123 (.aload_n 0) 1 := by decide +kernel
theorem d26_124 : dc k45 124 (.iload_n 1) 1 := by decide +kernel
theorem d26_125 : dc k45 125 (.invokevirtual 310) 3 := by decide +kernel
theorem d26_129 : dc k45 129 (.aload_n 0) 1 := by decide +kernel
theorem d26_130 : dc k45 130 (.iload_n 1) 1 := by decide +kernel
theorem d26_131 : dc k45 131 (.invokevirtual 313) 3 := by decide +kernel
theorem d26_134 : dc k45 134 (.ireturn) 1 := by decide +kernel
theorem d26_135 : dc k45 135 (.aload_n 0) 1 := by decide +kernel
theorem d26_136 : dc k45 136 (.iload_n 1) 1 := by decide +kernel
theorem d26_137 : dc k45 137 (.iconst 1) 1 := by decide +kernel
theorem d26_138 : dc k45 138 (.invokevirtual 316) 3 := by decide +kernel
theorem d26_142 : dc k45 142 (.aload_n 0) 1 := by decide +kernel
theorem d26_143 : dc k45 143 (.iload_n 1) 1 := by decide +kernel
theorem d26_144 : dc k45 144 (.iconst 0) 1 := by decide +kernel
theorem d26_145 : dc k45 145 (.invokevirtual 316) 3 := by decide +kernel
theorem d26_149 : dc k45 149 (.aload_n 0) 1 := by decide +kernel
theorem d26_150 : dc k45 150 (.iload_n 1) 1 := by decide +kernel
theorem d26_151 : dc k45 151 (.invokevirtual 320) 3 := by decide +kernel
theorem d26_155 : dc k45 155 (.aload_n 0) 1 := by decide +kernel
theorem d26_156 : dc k45 156 (.iconst 1) 1 := by decide +kernel
theorem d26_157 : dc k45 157 (.iload_n 1) 1 := by decide +kernel
theorem d26_158 : dc k45 158 (.invokevirtual 146) 3 := by decide +kernel
theorem d26_161 : dc k45 161 (.iconst (-1)) 1 := by decide +kernel
theorem d26_162 : dc k45 162 (.ireturn) 1 := by decide +kernel
abbrev y26 : MethodName := ⟨"FatPointerC", "step", "(I)I"⟩
theorem hy26 : y26.cls ≠ "java/lang/invoke/MethodHandle" ∧ y26.cls ≠ "java/lang/invoke/VarHandle" := by decide
theorem pd26 : parseMethodDescriptor y26.desc = some ⟨[.int], some .int⟩ := by decide +kernel
abbrev R26 : Room := { frames := 10, cells := 0, slots := 0, locals := 161 }
abbrev P26 (r : Int32 × St) : Option Value → List OwnC → Prop := fun v H' => v = some (.int r.1) ∧ H' = (Hb 0 r.2)
abbrev W26 (l : Launch) (Z : State) (n0 : Nat) (Q : Option Value → List OwnC → Prop) (k n pc : Nat) (L : List Slot) (S : List Value) (H : List OwnC) : Prop := WP l Z CN lay "FatPointerC" "step" prog_1_method_56_code 3 (some FieldType.int) R26 n0 0 Q k n pc L S H
def f_step (n : Nat) (p1 : Int32) (s : St) : Option (Int32 × St) :=
 (f_kindAt p1 s).bind fun c1 =>
 if c1 = (2 : Int32) then
  (f_execVarStmt p1 s).bind fun c3 =>
  some (c3.1, c3.2)
 else if c1 = (3 : Int32) then
  none
 else if c1 = (4 : Int32) then
  (f_trap (1 : Int32) p1 s).bind fun c6 =>
  some ((-1 : Int32), c6)
 else if c1 = (5 : Int32) then
  (f_trap (1 : Int32) p1 s).bind fun c8 =>
  some ((-1 : Int32), c8)
 else if c1 = (6 : Int32) then
  (f_trap (1 : Int32) p1 s).bind fun c10 =>
  some ((-1 : Int32), c10)
 else if c1 = (7 : Int32) then
  none
 else if c1 = (8 : Int32) then
  none
 else if c1 = (9 : Int32) then
  (f_execReturn n p1 s).bind fun c14 =>
  some (c14.1, c14.2)
 else if c1 = (10 : Int32) then
  none
 else if c1 = (11 : Int32) then
  (f_trap (1 : Int32) p1 s).bind fun c17 =>
  some ((-1 : Int32), c17)
 else if c1 = (12 : Int32) then
  (f_trap (1 : Int32) p1 s).bind fun c19 =>
  some ((-1 : Int32), c19)
 else if c1 = (13 : Int32) then
  (f_trap (1 : Int32) p1 s).bind fun c21 =>
  some ((-1 : Int32), c21)
 else if c1 = (14 : Int32) then
  none
 else if c1 = (15 : Int32) then
  (f_trap (1 : Int32) p1 s).bind fun c24 =>
  some ((-1 : Int32), c24)
 else if c1 = (16 : Int32) then
  (f_trap (1 : Int32) p1 s).bind fun c26 =>
  some ((-1 : Int32), c26)
 else if c1 = (17 : Int32) then
  (f_trap (1 : Int32) p1 s).bind fun c28 =>
  some ((-1 : Int32), c28)
 else if c1 = (18 : Int32) then
  (f_trap (1 : Int32) p1 s).bind fun c30 =>
  some ((-1 : Int32), c30)
 else if c1 = (19 : Int32) then
  (f_trap (1 : Int32) p1 s).bind fun c32 =>
  some ((-1 : Int32), c32)
 else if c1 = (20 : Int32) then
  (f_trap (1 : Int32) p1 s).bind fun c34 =>
  some ((-1 : Int32), c34)
 else if c1 = (21 : Int32) then
  (f_trap (1 : Int32) p1 s).bind fun c36 =>
  some ((-1 : Int32), c36)
 else if c1 = (22 : Int32) then
  none
 else 
 (f_trap (1 : Int32) p1 s).bind fun c38 =>
 some ((-1 : Int32), c38)
theorem ok26 (l : Launch) (Z : State) (a0 : Array Value) (hw : HW a0 Z) (n : Nat) (p1 : Int32) (s : St) (r : Int32 × St) (h : f_step n p1 s = some r) : CS l Z CN lay y26 prog_1_method_56_code 3 (some FieldType.int) R26 0 [.ref 0, .int p1] (Hb 0 s) (P26 r) := by
 refine CS.of_wp pn_cls (leb rfl) fun n0 => ?_
 show W26 l Z n0 (P26 r) 0 0 0 (vR 0 :: vI p1 :: vU :: []) [] (Hb 0 s)
 unfold f_step at h
 refine WP.aloadN d26_0 rfl ?_
 refine WP.iloadN d26_1 rfl ?_
 obtain ⟨c1, hc1, h⟩ := bd h
 refine WP.callP (i := 0) (y := y7) (as := [.int p1]) (S := []) d26_2 (hw _ m_129) (hw _ m_131) (hw _ m_1) (hw _ m_130) (hw _ m_132) (hw _ m_2) hy7 rfl (ok7 l Z a0 hw p1 s _ hc1) rfl (lenOf pd7 rfl) (leb rfl) (leb rfl) (leb rfl) (leb rfl) ?_
 rintro _ _ ⟨rfl, rfl⟩
 show W26 l Z n0 (P26 r) 0 0 5 (vR 0 :: vI p1 :: vU :: []) [.int c1] (Hb 0 s)
 refine WP.istoreN (L' := (vR 0 :: vI p1 :: vI c1 :: [])) d26_5 (leb rfl) rfl ?_
 refine WP.iloadN d26_6 rfl ?_
 rcases ite_e h with ⟨hc2, h⟩ | ⟨hc2, h⟩
 ·
  refine WP.tswIn (o := 97) (pc' := 104) d26_7 (by rw [hc2]; decide) (by rw [hc2]; rfl) (by decide) rfl ?_
  refine WP.aloadN d26_104 rfl ?_
  refine WP.iloadN d26_105 rfl ?_
  obtain ⟨c3, hc3, h⟩ := bd h
  refine WP.callP (i := 0) (y := y27) (as := [.int p1]) (S := []) d26_106 (hw _ m_223) (hw _ m_225) (hw _ m_1) (hw _ m_224) (hw _ m_226) (hw _ m_2) hy27 rfl (ok27 l Z a0 hw p1 s _ hc3) rfl (lenOf pd27 rfl) (leb rfl) (leb rfl) (leb rfl) (leb rfl) ?_
  rintro _ _ ⟨rfl, rfl⟩
  show W26 l Z n0 (P26 r) 0 0 109 (vR 0 :: vI p1 :: vI c1 :: []) [.int c3.1] (Hb 0 c3.2)
  cases h
  exact WP.ireturn d26_109 rfl (leb rfl) (leb rfl) ⟨rfl, rfl⟩
 rcases ite_e h with ⟨hc4, h⟩ | ⟨hc4, h⟩
 ·
  refine WP.tswIn (o := 109) (pc' := 116) d26_7 (by rw [hc4]; decide) (by rw [hc4]; rfl) (by decide) rfl ?_
  refine WP.aloadN d26_116 rfl ?_
  refine WP.iloadN d26_117 rfl ?_
  refine WP.iconst (-1 : Int32) d26_118 rfl ?_
  cases h
 rcases ite_e h with ⟨hc5, h⟩ | ⟨hc5, h⟩
 ·
  refine WP.tswIn (o := 148) (pc' := 155) d26_7 (by rw [hc5]; decide) (by rw [hc5]; rfl) (by decide) rfl ?_
  refine WP.aloadN d26_155 rfl ?_
  refine WP.iconst (1 : Int32) d26_156 rfl ?_
  refine WP.iloadN d26_157 rfl ?_
  obtain ⟨c6, hc6, h⟩ := bd h
  refine WP.callP (i := 0) (y := y50) (as := [.int (1 : Int32), .int p1]) (S := []) d26_158 (hw _ m_321) (hw _ m_323) (hw _ m_1) (hw _ m_322) (hw _ m_324) (hw _ m_2) hy50 rfl (ok50 l Z a0 hw (1 : Int32) p1 s _ hc6) rfl (lenOf pd50 rfl) (leb rfl) (leb rfl) (leb rfl) (leb rfl) ?_
  rintro _ _ ⟨rfl, rfl⟩
  show W26 l Z n0 (P26 r) 0 0 161 (vR 0 :: vI p1 :: vI c1 :: []) [] (Hb 0 c6)
  refine WP.iconst (-1 : Int32) d26_161 rfl ?_
  cases h
  exact WP.ireturn d26_162 rfl (leb rfl) (leb rfl) ⟨rfl, rfl⟩
 rcases ite_e h with ⟨hc7, h⟩ | ⟨hc7, h⟩
 ·
  refine WP.tswIn (o := 148) (pc' := 155) d26_7 (by rw [hc7]; decide) (by rw [hc7]; rfl) (by decide) rfl ?_
  refine WP.aloadN d26_155 rfl ?_
  refine WP.iconst (1 : Int32) d26_156 rfl ?_
  refine WP.iloadN d26_157 rfl ?_
  obtain ⟨c8, hc8, h⟩ := bd h
  refine WP.callP (i := 0) (y := y50) (as := [.int (1 : Int32), .int p1]) (S := []) d26_158 (hw _ m_321) (hw _ m_323) (hw _ m_1) (hw _ m_322) (hw _ m_324) (hw _ m_2) hy50 rfl (ok50 l Z a0 hw (1 : Int32) p1 s _ hc8) rfl (lenOf pd50 rfl) (leb rfl) (leb rfl) (leb rfl) (leb rfl) ?_
  rintro _ _ ⟨rfl, rfl⟩
  show W26 l Z n0 (P26 r) 0 0 161 (vR 0 :: vI p1 :: vI c1 :: []) [] (Hb 0 c8)
  refine WP.iconst (-1 : Int32) d26_161 rfl ?_
  cases h
  exact WP.ireturn d26_162 rfl (leb rfl) (leb rfl) ⟨rfl, rfl⟩
 rcases ite_e h with ⟨hc9, h⟩ | ⟨hc9, h⟩
 ·
  refine WP.tswIn (o := 148) (pc' := 155) d26_7 (by rw [hc9]; decide) (by rw [hc9]; rfl) (by decide) rfl ?_
  refine WP.aloadN d26_155 rfl ?_
  refine WP.iconst (1 : Int32) d26_156 rfl ?_
  refine WP.iloadN d26_157 rfl ?_
  obtain ⟨c10, hc10, h⟩ := bd h
  refine WP.callP (i := 0) (y := y50) (as := [.int (1 : Int32), .int p1]) (S := []) d26_158 (hw _ m_321) (hw _ m_323) (hw _ m_1) (hw _ m_322) (hw _ m_324) (hw _ m_2) hy50 rfl (ok50 l Z a0 hw (1 : Int32) p1 s _ hc10) rfl (lenOf pd50 rfl) (leb rfl) (leb rfl) (leb rfl) (leb rfl) ?_
  rintro _ _ ⟨rfl, rfl⟩
  show W26 l Z n0 (P26 r) 0 0 161 (vR 0 :: vI p1 :: vI c1 :: []) [] (Hb 0 c10)
  refine WP.iconst (-1 : Int32) d26_161 rfl ?_
  cases h
  exact WP.ireturn d26_162 rfl (leb rfl) (leb rfl) ⟨rfl, rfl⟩
 rcases ite_e h with ⟨hc11, h⟩ | ⟨hc11, h⟩
 ·
  refine WP.tswIn (o := 128) (pc' := 135) d26_7 (by rw [hc11]; decide) (by rw [hc11]; rfl) (by decide) rfl ?_
  refine WP.aloadN d26_135 rfl ?_
  refine WP.iloadN d26_136 rfl ?_
  refine WP.iconst (1 : Int32) d26_137 rfl ?_
  cases h
 rcases ite_e h with ⟨hc12, h⟩ | ⟨hc12, h⟩
 ·
  refine WP.tswIn (o := 135) (pc' := 142) d26_7 (by rw [hc12]; decide) (by rw [hc12]; rfl) (by decide) rfl ?_
  refine WP.aloadN d26_142 rfl ?_
  refine WP.iloadN d26_143 rfl ?_
  refine WP.iconst (0 : Int32) d26_144 rfl ?_
  cases h
 rcases ite_e h with ⟨hc13, h⟩ | ⟨hc13, h⟩
 ·
  refine WP.tswIn (o := 122) (pc' := 129) d26_7 (by rw [hc13]; decide) (by rw [hc13]; rfl) (by decide) rfl ?_
  refine WP.aloadN d26_129 rfl ?_
  refine WP.iloadN d26_130 rfl ?_
  obtain ⟨c14, hc14, h⟩ := bd h
  refine WP.callP (i := 0) (y := y41) (as := [.int p1]) (S := []) d26_131 (hw _ m_279) (hw _ m_281) (hw _ m_1) (hw _ m_280) (hw _ m_282) (hw _ m_2) hy41 rfl (ok41 l Z a0 hw n p1 s _ hc14) rfl (lenOf pd41 rfl) (leb rfl) (leb rfl) (leb rfl) (leb rfl) ?_
  rintro _ _ ⟨rfl, rfl⟩
  show W26 l Z n0 (P26 r) 0 0 134 (vR 0 :: vI p1 :: vI c1 :: []) [.int c14.1] (Hb 0 c14.2)
  cases h
  exact WP.ireturn d26_134 rfl (leb rfl) (leb rfl) ⟨rfl, rfl⟩
 rcases ite_e h with ⟨hc15, h⟩ | ⟨hc15, h⟩
 ·
  refine WP.tswIn (o := 116) (pc' := 123) d26_7 (by rw [hc15]; decide) (by rw [hc15]; rfl) (by decide) rfl ?_
  refine WP.aloadN d26_123 rfl ?_
  refine WP.iloadN d26_124 rfl ?_
  cases h
 rcases ite_e h with ⟨hc16, h⟩ | ⟨hc16, h⟩
 ·
  refine WP.tswIn (o := 148) (pc' := 155) d26_7 (by rw [hc16]; decide) (by rw [hc16]; rfl) (by decide) rfl ?_
  refine WP.aloadN d26_155 rfl ?_
  refine WP.iconst (1 : Int32) d26_156 rfl ?_
  refine WP.iloadN d26_157 rfl ?_
  obtain ⟨c17, hc17, h⟩ := bd h
  refine WP.callP (i := 0) (y := y50) (as := [.int (1 : Int32), .int p1]) (S := []) d26_158 (hw _ m_321) (hw _ m_323) (hw _ m_1) (hw _ m_322) (hw _ m_324) (hw _ m_2) hy50 rfl (ok50 l Z a0 hw (1 : Int32) p1 s _ hc17) rfl (lenOf pd50 rfl) (leb rfl) (leb rfl) (leb rfl) (leb rfl) ?_
  rintro _ _ ⟨rfl, rfl⟩
  show W26 l Z n0 (P26 r) 0 0 161 (vR 0 :: vI p1 :: vI c1 :: []) [] (Hb 0 c17)
  refine WP.iconst (-1 : Int32) d26_161 rfl ?_
  cases h
  exact WP.ireturn d26_162 rfl (leb rfl) (leb rfl) ⟨rfl, rfl⟩
 rcases ite_e h with ⟨hc18, h⟩ | ⟨hc18, h⟩
 ·
  refine WP.tswIn (o := 148) (pc' := 155) d26_7 (by rw [hc18]; decide) (by rw [hc18]; rfl) (by decide) rfl ?_
  refine WP.aloadN d26_155 rfl ?_
  refine WP.iconst (1 : Int32) d26_156 rfl ?_
  refine WP.iloadN d26_157 rfl ?_
  obtain ⟨c19, hc19, h⟩ := bd h
  refine WP.callP (i := 0) (y := y50) (as := [.int (1 : Int32), .int p1]) (S := []) d26_158 (hw _ m_321) (hw _ m_323) (hw _ m_1) (hw _ m_322) (hw _ m_324) (hw _ m_2) hy50 rfl (ok50 l Z a0 hw (1 : Int32) p1 s _ hc19) rfl (lenOf pd50 rfl) (leb rfl) (leb rfl) (leb rfl) (leb rfl) ?_
  rintro _ _ ⟨rfl, rfl⟩
  show W26 l Z n0 (P26 r) 0 0 161 (vR 0 :: vI p1 :: vI c1 :: []) [] (Hb 0 c19)
  refine WP.iconst (-1 : Int32) d26_161 rfl ?_
  cases h
  exact WP.ireturn d26_162 rfl (leb rfl) (leb rfl) ⟨rfl, rfl⟩
 rcases ite_e h with ⟨hc20, h⟩ | ⟨hc20, h⟩
 ·
  refine WP.tswIn (o := 148) (pc' := 155) d26_7 (by rw [hc20]; decide) (by rw [hc20]; rfl) (by decide) rfl ?_
  refine WP.aloadN d26_155 rfl ?_
  refine WP.iconst (1 : Int32) d26_156 rfl ?_
  refine WP.iloadN d26_157 rfl ?_
  obtain ⟨c21, hc21, h⟩ := bd h
  refine WP.callP (i := 0) (y := y50) (as := [.int (1 : Int32), .int p1]) (S := []) d26_158 (hw _ m_321) (hw _ m_323) (hw _ m_1) (hw _ m_322) (hw _ m_324) (hw _ m_2) hy50 rfl (ok50 l Z a0 hw (1 : Int32) p1 s _ hc21) rfl (lenOf pd50 rfl) (leb rfl) (leb rfl) (leb rfl) (leb rfl) ?_
  rintro _ _ ⟨rfl, rfl⟩
  show W26 l Z n0 (P26 r) 0 0 161 (vR 0 :: vI p1 :: vI c1 :: []) [] (Hb 0 c21)
  refine WP.iconst (-1 : Int32) d26_161 rfl ?_
  cases h
  exact WP.ireturn d26_162 rfl (leb rfl) (leb rfl) ⟨rfl, rfl⟩
 rcases ite_e h with ⟨hc22, h⟩ | ⟨hc22, h⟩
 ·
  refine WP.tswIn (o := 142) (pc' := 149) d26_7 (by rw [hc22]; decide) (by rw [hc22]; rfl) (by decide) rfl ?_
  refine WP.aloadN d26_149 rfl ?_
  refine WP.iloadN d26_150 rfl ?_
  cases h
 rcases ite_e h with ⟨hc23, h⟩ | ⟨hc23, h⟩
 ·
  refine WP.tswIn (o := 148) (pc' := 155) d26_7 (by rw [hc23]; decide) (by rw [hc23]; rfl) (by decide) rfl ?_
  refine WP.aloadN d26_155 rfl ?_
  refine WP.iconst (1 : Int32) d26_156 rfl ?_
  refine WP.iloadN d26_157 rfl ?_
  obtain ⟨c24, hc24, h⟩ := bd h
  refine WP.callP (i := 0) (y := y50) (as := [.int (1 : Int32), .int p1]) (S := []) d26_158 (hw _ m_321) (hw _ m_323) (hw _ m_1) (hw _ m_322) (hw _ m_324) (hw _ m_2) hy50 rfl (ok50 l Z a0 hw (1 : Int32) p1 s _ hc24) rfl (lenOf pd50 rfl) (leb rfl) (leb rfl) (leb rfl) (leb rfl) ?_
  rintro _ _ ⟨rfl, rfl⟩
  show W26 l Z n0 (P26 r) 0 0 161 (vR 0 :: vI p1 :: vI c1 :: []) [] (Hb 0 c24)
  refine WP.iconst (-1 : Int32) d26_161 rfl ?_
  cases h
  exact WP.ireturn d26_162 rfl (leb rfl) (leb rfl) ⟨rfl, rfl⟩
 rcases ite_e h with ⟨hc25, h⟩ | ⟨hc25, h⟩
 ·
  refine WP.tswIn (o := 148) (pc' := 155) d26_7 (by rw [hc25]; decide) (by rw [hc25]; rfl) (by decide) rfl ?_
  refine WP.aloadN d26_155 rfl ?_
  refine WP.iconst (1 : Int32) d26_156 rfl ?_
  refine WP.iloadN d26_157 rfl ?_
  obtain ⟨c26, hc26, h⟩ := bd h
  refine WP.callP (i := 0) (y := y50) (as := [.int (1 : Int32), .int p1]) (S := []) d26_158 (hw _ m_321) (hw _ m_323) (hw _ m_1) (hw _ m_322) (hw _ m_324) (hw _ m_2) hy50 rfl (ok50 l Z a0 hw (1 : Int32) p1 s _ hc26) rfl (lenOf pd50 rfl) (leb rfl) (leb rfl) (leb rfl) (leb rfl) ?_
  rintro _ _ ⟨rfl, rfl⟩
  show W26 l Z n0 (P26 r) 0 0 161 (vR 0 :: vI p1 :: vI c1 :: []) [] (Hb 0 c26)
  refine WP.iconst (-1 : Int32) d26_161 rfl ?_
  cases h
  exact WP.ireturn d26_162 rfl (leb rfl) (leb rfl) ⟨rfl, rfl⟩
 rcases ite_e h with ⟨hc27, h⟩ | ⟨hc27, h⟩
 ·
  refine WP.tswIn (o := 148) (pc' := 155) d26_7 (by rw [hc27]; decide) (by rw [hc27]; rfl) (by decide) rfl ?_
  refine WP.aloadN d26_155 rfl ?_
  refine WP.iconst (1 : Int32) d26_156 rfl ?_
  refine WP.iloadN d26_157 rfl ?_
  obtain ⟨c28, hc28, h⟩ := bd h
  refine WP.callP (i := 0) (y := y50) (as := [.int (1 : Int32), .int p1]) (S := []) d26_158 (hw _ m_321) (hw _ m_323) (hw _ m_1) (hw _ m_322) (hw _ m_324) (hw _ m_2) hy50 rfl (ok50 l Z a0 hw (1 : Int32) p1 s _ hc28) rfl (lenOf pd50 rfl) (leb rfl) (leb rfl) (leb rfl) (leb rfl) ?_
  rintro _ _ ⟨rfl, rfl⟩
  show W26 l Z n0 (P26 r) 0 0 161 (vR 0 :: vI p1 :: vI c1 :: []) [] (Hb 0 c28)
  refine WP.iconst (-1 : Int32) d26_161 rfl ?_
  cases h
  exact WP.ireturn d26_162 rfl (leb rfl) (leb rfl) ⟨rfl, rfl⟩
 rcases ite_e h with ⟨hc29, h⟩ | ⟨hc29, h⟩
 ·
  refine WP.tswIn (o := 148) (pc' := 155) d26_7 (by rw [hc29]; decide) (by rw [hc29]; rfl) (by decide) rfl ?_
  refine WP.aloadN d26_155 rfl ?_
  refine WP.iconst (1 : Int32) d26_156 rfl ?_
  refine WP.iloadN d26_157 rfl ?_
  obtain ⟨c30, hc30, h⟩ := bd h
  refine WP.callP (i := 0) (y := y50) (as := [.int (1 : Int32), .int p1]) (S := []) d26_158 (hw _ m_321) (hw _ m_323) (hw _ m_1) (hw _ m_322) (hw _ m_324) (hw _ m_2) hy50 rfl (ok50 l Z a0 hw (1 : Int32) p1 s _ hc30) rfl (lenOf pd50 rfl) (leb rfl) (leb rfl) (leb rfl) (leb rfl) ?_
  rintro _ _ ⟨rfl, rfl⟩
  show W26 l Z n0 (P26 r) 0 0 161 (vR 0 :: vI p1 :: vI c1 :: []) [] (Hb 0 c30)
  refine WP.iconst (-1 : Int32) d26_161 rfl ?_
  cases h
  exact WP.ireturn d26_162 rfl (leb rfl) (leb rfl) ⟨rfl, rfl⟩
 rcases ite_e h with ⟨hc31, h⟩ | ⟨hc31, h⟩
 ·
  refine WP.tswIn (o := 148) (pc' := 155) d26_7 (by rw [hc31]; decide) (by rw [hc31]; rfl) (by decide) rfl ?_
  refine WP.aloadN d26_155 rfl ?_
  refine WP.iconst (1 : Int32) d26_156 rfl ?_
  refine WP.iloadN d26_157 rfl ?_
  obtain ⟨c32, hc32, h⟩ := bd h
  refine WP.callP (i := 0) (y := y50) (as := [.int (1 : Int32), .int p1]) (S := []) d26_158 (hw _ m_321) (hw _ m_323) (hw _ m_1) (hw _ m_322) (hw _ m_324) (hw _ m_2) hy50 rfl (ok50 l Z a0 hw (1 : Int32) p1 s _ hc32) rfl (lenOf pd50 rfl) (leb rfl) (leb rfl) (leb rfl) (leb rfl) ?_
  rintro _ _ ⟨rfl, rfl⟩
  show W26 l Z n0 (P26 r) 0 0 161 (vR 0 :: vI p1 :: vI c1 :: []) [] (Hb 0 c32)
  refine WP.iconst (-1 : Int32) d26_161 rfl ?_
  cases h
  exact WP.ireturn d26_162 rfl (leb rfl) (leb rfl) ⟨rfl, rfl⟩
 rcases ite_e h with ⟨hc33, h⟩ | ⟨hc33, h⟩
 ·
  refine WP.tswIn (o := 148) (pc' := 155) d26_7 (by rw [hc33]; decide) (by rw [hc33]; rfl) (by decide) rfl ?_
  refine WP.aloadN d26_155 rfl ?_
  refine WP.iconst (1 : Int32) d26_156 rfl ?_
  refine WP.iloadN d26_157 rfl ?_
  obtain ⟨c34, hc34, h⟩ := bd h
  refine WP.callP (i := 0) (y := y50) (as := [.int (1 : Int32), .int p1]) (S := []) d26_158 (hw _ m_321) (hw _ m_323) (hw _ m_1) (hw _ m_322) (hw _ m_324) (hw _ m_2) hy50 rfl (ok50 l Z a0 hw (1 : Int32) p1 s _ hc34) rfl (lenOf pd50 rfl) (leb rfl) (leb rfl) (leb rfl) (leb rfl) ?_
  rintro _ _ ⟨rfl, rfl⟩
  show W26 l Z n0 (P26 r) 0 0 161 (vR 0 :: vI p1 :: vI c1 :: []) [] (Hb 0 c34)
  refine WP.iconst (-1 : Int32) d26_161 rfl ?_
  cases h
  exact WP.ireturn d26_162 rfl (leb rfl) (leb rfl) ⟨rfl, rfl⟩
 rcases ite_e h with ⟨hc35, h⟩ | ⟨hc35, h⟩
 ·
  refine WP.tswIn (o := 148) (pc' := 155) d26_7 (by rw [hc35]; decide) (by rw [hc35]; rfl) (by decide) rfl ?_
  refine WP.aloadN d26_155 rfl ?_
  refine WP.iconst (1 : Int32) d26_156 rfl ?_
  refine WP.iloadN d26_157 rfl ?_
  obtain ⟨c36, hc36, h⟩ := bd h
  refine WP.callP (i := 0) (y := y50) (as := [.int (1 : Int32), .int p1]) (S := []) d26_158 (hw _ m_321) (hw _ m_323) (hw _ m_1) (hw _ m_322) (hw _ m_324) (hw _ m_2) hy50 rfl (ok50 l Z a0 hw (1 : Int32) p1 s _ hc36) rfl (lenOf pd50 rfl) (leb rfl) (leb rfl) (leb rfl) (leb rfl) ?_
  rintro _ _ ⟨rfl, rfl⟩
  show W26 l Z n0 (P26 r) 0 0 161 (vR 0 :: vI p1 :: vI c1 :: []) [] (Hb 0 c36)
  refine WP.iconst (-1 : Int32) d26_161 rfl ?_
  cases h
  exact WP.ireturn d26_162 rfl (leb rfl) (leb rfl) ⟨rfl, rfl⟩
 rcases ite_e h with ⟨hc37, h⟩ | ⟨hc37, h⟩
 ·
  refine WP.tswIn (o := 103) (pc' := 110) d26_7 (by rw [hc37]; decide) (by rw [hc37]; rfl) (by decide) rfl ?_
  refine WP.aloadN d26_110 rfl ?_
  refine WP.iloadN d26_111 rfl ?_
  cases h
 refine WP.tswOut (pc' := 155) d26_7 (tsw_miss fun z h1 h2 => by
   have hz : z = 2 ∨ z = 3 ∨ z = 4 ∨ z = 5 ∨ z = 6 ∨ z = 7 ∨ z = 8 ∨ z = 9 ∨ z = 10 ∨ z = 11 ∨ z = 12 ∨ z = 13 ∨ z = 14 ∨ z = 15 ∨ z = 16 ∨ z = 17 ∨ z = 18 ∨ z = 19 ∨ z = 20 ∨ z = 21 ∨ z = 22 := by omega
   rcases hz with rfl | rfl | rfl | rfl | rfl | rfl | rfl | rfl | rfl | rfl | rfl | rfl | rfl | rfl | rfl | rfl | rfl | rfl | rfl | rfl | rfl
   · exact hc2
   · exact hc4
   · exact hc5
   · exact hc7
   · exact hc9
   · exact hc11
   · exact hc12
   · exact hc13
   · exact hc15
   · exact hc16
   · exact hc18
   · exact hc20
   · exact hc22
   · exact hc23
   · exact hc25
   · exact hc27
   · exact hc29
   · exact hc31
   · exact hc33
   · exact hc35
   · exact hc37
   ) (by decide) rfl ?_
 refine WP.aloadN d26_155 rfl ?_
 refine WP.iconst (1 : Int32) d26_156 rfl ?_
 refine WP.iloadN d26_157 rfl ?_
 obtain ⟨c38, hc38, h⟩ := bd h
 refine WP.callP (i := 0) (y := y50) (as := [.int (1 : Int32), .int p1]) (S := []) d26_158 (hw _ m_321) (hw _ m_323) (hw _ m_1) (hw _ m_322) (hw _ m_324) (hw _ m_2) hy50 rfl (ok50 l Z a0 hw (1 : Int32) p1 s _ hc38) rfl (lenOf pd50 rfl) (leb rfl) (leb rfl) (leb rfl) (leb rfl) ?_
 rintro _ _ ⟨rfl, rfl⟩
 show W26 l Z n0 (P26 r) 0 0 161 (vR 0 :: vI p1 :: vI c1 :: []) [] (Hb 0 c38)
 refine WP.iconst (-1 : Int32) d26_161 rfl ?_
 cases h
 exact WP.ireturn d26_162 rfl (leb rfl) (leb rfl) ⟨rfl, rfl⟩
theorem d24_0 : dc k3 0 (.aload_n 0) 1 := by decide +kernel
theorem d24_1 : dc k3 1 (.getfield 123) 3 := by decide +kernel
theorem d24_4 : dc k3 4 (.ifCond .ne 5) 3 := by decide +kernel
theorem d24_7 : dc k3 7 (.iconst (-1)) 1 := by decide +kernel
theorem d24_8 : dc k3 8 (.ireturn) 1 := by decide +kernel
theorem d24_9 : dc k3 9 (.aload_n 0) 1 := by decide +kernel
theorem d24_10 : dc k3 10 (.invokevirtual 117) 3 := by decide +kernel
theorem d24_13 : dc k3 13 (.aload_n 0) 1 := by decide +kernel
theorem d24_14 : dc k3 14 (.iconst 0) 1 := by decide +kernel
theorem d24_15 : dc k3 15 (.putfield 131) 3 := by decide +kernel
theorem d24_18 : dc k3 18 (.aload_n 0) 1 := by decide +kernel
theorem d24_19 : dc k3 19 (.iconst 0) 1 := by decide +kernel
theorem d24_20 : dc k3 20 (.putfield 134) 3 := by decide +kernel
theorem d24_23 : dc k3 23 (.aload_n 0) 1 := by decide +kernel
theorem d24_24 : dc k3 24 (.iconst 0) 1 := by decide +kernel
theorem d24_25 : dc k3 25 (.putfield 137) 3 := by decide +kernel
theorem d24_28 : dc k3 28 (.aload_n 0) 1 := by decide +kernel
theorem d24_29 : dc k3 29 (.sipush 256) 3 := by decide +kernel
theorem d24_32 : dc k3 32 (.putfield 140) 3 := by decide +kernel
theorem d24_35 : dc k3 35 (.aload_n 0) 1 := by decide +kernel
theorem d24_36 : dc k3 36 (.iconst 1) 1 := by decide +kernel
theorem d24_37 : dc k3 37 (.putfield 143) 3 := by decide +kernel
theorem d24_40 : dc k3 40 (.aload_n 0) 1 := by decide +kernel
theorem d24_41 : dc k3 41 (.getfield 32) 3 := by decide +kernel
theorem d24_44 : dc k3 44 (.iconst 0) 1 := by decide +kernel
theorem d24_45 : dc k3 45 (.iaload) 1 := by decide +kernel
theorem d24_46 : dc k3 46 (.aload_n 0) 1 := by decide +kernel
theorem d24_47 : dc k3 47 (.getfield 110) 3 := by decide +kernel
theorem d24_50 : dc k3 50 (.if_icmp .le 19) 3 := by decide +kernel
theorem d24_53 : dc k3 53 (.aload_n 0) 1 := by decide +kernel
theorem d24_54 : dc k3 54 (.iconst 5) 1 := by decide +kernel
theorem d24_55 : dc k3 55 (.aload_n 0) 1 := by decide +kernel
theorem d24_56 : dc k3 56 (.getfield 23) 3 := by decide +kernel
theorem d24_59 : dc k3 59 (.iconst 0) 1 := by decide +kernel
theorem d24_60 : dc k3 60 (.iaload) 1 := by decide +kernel
theorem d24_61 : dc k3 61 (.invokevirtual 146) 3 := by decide +kernel
theorem d24_64 : dc k3 64 (.aload_n 0) 1 := by decide +kernel
theorem d24_65 : dc k3 65 (.getfield 150) 3 := by decide +kernel
theorem d24_68 : dc k3 68 (.ireturn) 1 := by decide +kernel
theorem d24_69 : dc k3 69 (.aload_n 0) 1 := by decide +kernel
theorem d24_70 : dc k3 70 (.iconst 0) 1 := by decide +kernel
theorem d24_71 : dc k3 71 (.iconst (-1)) 1 := by decide +kernel
theorem d24_72 : dc k3 72 (.iconst (-1)) 1 := by decide +kernel
theorem d24_73 : dc k3 73 (.invokevirtual 153) 3 := by decide +kernel
theorem d24_76 : dc k3 76 (.aload_n 0) 1 := by decide +kernel
theorem d24_77 : dc k3 77 (.getfield 35) 3 := by decide +kernel
theorem d24_80 : dc k3 80 (.iconst 0) 1 := by decide +kernel
theorem d24_81 : dc k3 81 (.iaload) 1 := by decide +kernel
theorem d24_82 : dc k3 82 (.istore_n 1) 1 := by decide +kernel
theorem d24_83 : dc k3 83 (.iconst 0) 1 := by decide +kernel
theorem d24_84 : dc k3 84 (.istore_n 2) 1 := by decide +kernel
theorem d24_85 : dc k3 85 (.iload_n 2) 1 := by decide +kernel
theorem d24_86 : dc k3 86 (.ldc 157) 2 := by decide +kernel
theorem d24_88 : dc k3 88 (.if_icmp .ge 22) 3 := by decide +kernel
theorem d24_91 : dc k3 91 (.aload_n 0) 1 := by decide +kernel
theorem d24_92 : dc k3 92 (.getfield 143) 3 := by decide +kernel
theorem d24_95 : dc k3 95 (.ifCond .eq 15) 3 := by decide +kernel
theorem d24_98 : dc k3 98 (.aload_n 0) 1 := by decide +kernel
theorem d24_99 : dc k3 99 (.iload_n 1) 1 := by decide +kernel
theorem d24_100 : dc k3 100 (.invokevirtual 158) 3 := by decide +kernel
theorem d24_103 : dc k3 103 (.istore_n 1) 1 := by decide +kernel
theorem d24_104 : dc k3 104 (.iinc 2 1) 3 := by decide +kernel
theorem d24_107 : dc k3 107 (.goto (-22)) 3 := by decide +kernel
theorem d24_110 : dc k3 110 (.aload_n 0) 1 := by decide +kernel
theorem d24_111 : dc k3 111 (.getfield 143) 3 := by decide +kernel
theorem d24_114 : dc k3 114 (.ifCond .eq 10) 3 := by decide +kernel
theorem d24_117 : dc k3 117 (.aload_n 0) 1 := by decide +kernel
theorem d24_118 : dc k3 118 (.bipush 7) 2 := by decide +kernel
theorem d24_120 : dc k3 120 (.iload_n 1) 1 := by decide +kernel
theorem d24_121 : dc k3 121 (.invokevirtual 146) 3 := by decide +kernel
theorem d24_124 : dc k3 124 (.aload_n 0) 1 := by decide +kernel
theorem d24_125 : dc k3 125 (.getfield 150) 3 := by decide +kernel
theorem d24_128 : dc k3 128 (.ireturn) 1 := by decide +kernel
abbrev y24 : MethodName := ⟨"FatPointerC", "run", "()I"⟩
theorem hy24 : y24.cls ≠ "java/lang/invoke/MethodHandle" ∧ y24.cls ≠ "java/lang/invoke/VarHandle" := by decide
theorem pd24 : parseMethodDescriptor y24.desc = some ⟨[], some .int⟩ := by decide +kernel
abbrev R24 : Room := { frames := 11, cells := 0, slots := 0, locals := 175 }
abbrev P24 (r : Int32 × St) : Option Value → List OwnC → Prop := fun v H' => v = some (.int r.1) ∧ H' = (Hb 0 r.2)
abbrev W24 (l : Launch) (Z : State) (n0 : Nat) (Q : Option Value → List OwnC → Prop) (k n pc : Nat) (L : List Slot) (S : List Value) (H : List OwnC) : Prop := WP l Z CN lay "FatPointerC" "run" prog_1_method_6_code 3 (some FieldType.int) R24 n0 0 Q k n pc L S H
def f_run_124 (n : Nat) (s : St) : Option (Int32 × St) :=
 some (gI s 4, s)
theorem ok24_124 (l : Launch) (Z : State) (a0 : Array Value) (hw : HW a0 Z) (n0 n : Nat) (s : St) (r : Int32 × St) (h : f_run_124 n s = some r) : W24 l Z n0 (P24 r) 0 0 124 (vR 0 :: vU :: vU :: []) [] (Hb 0 s) := by
 unfold f_run_124 at h
 refine WP.aloadN d24_124 rfl ?_
 refine WP.getfield (i := 0) (j := 6) d24_125 (hw _ m_85) rfl rfl rfl ?_
 cases h
 exact WP.ireturn d24_128 rfl (leb rfl) (leb rfl) ⟨rfl, rfl⟩
def f_run_110 (n : Nat) (v1 : Int32) (s : St) : Option (Int32 × St) :=
 if (gI s 18) = 0 then
  f_run_124 n s
 else
  (f_trap (7 : Int32) v1 s).bind fun c2 =>
  f_run_124 n c2
theorem ok24_110 (l : Launch) (Z : State) (a0 : Array Value) (hw : HW a0 Z) (n0 n : Nat) (v1 : Int32) (s : St) (r : Int32 × St) (h : f_run_110 n v1 s = some r) : W24 l Z n0 (P24 r) 0 0 110 (vR 0 :: vI v1 :: vU :: []) [] (Hb 0 s) := by
 unfold f_run_110 at h
 refine WP.aloadN d24_110 rfl ?_
 refine WP.getfield (i := 0) (j := 45) d24_111 (hw _ m_212) rfl rfl rfl ?_
 rcases ite_e h with ⟨hc1, h⟩ | ⟨hc1, h⟩
 ·
  refine WP.ifY (pc' := 124) d24_114 (XT.i0_eq_t hc1) (by decide) rfl ?_
  exact WP.weak (L' := (vR 0 :: vU :: vU :: [])) ⟨rfl, trivial⟩ (ok24_124 l Z a0 hw n0 n s _ h)
 ·
  refine WP.ifN d24_114 (XT.i0_eq_f hc1) ?_
  refine WP.aloadN d24_117 rfl ?_
  refine WP.bipush (7 : Int32) d24_118 rfl ?_
  refine WP.iloadN d24_120 rfl ?_
  obtain ⟨c2, hc2, h⟩ := bd h
  refine WP.callP (i := 0) (y := y50) (as := [.int (7 : Int32), .int v1]) (S := []) d24_121 (hw _ m_321) (hw _ m_323) (hw _ m_1) (hw _ m_322) (hw _ m_324) (hw _ m_2) hy50 rfl (ok50 l Z a0 hw (7 : Int32) v1 s _ hc2) rfl (lenOf pd50 rfl) (leb rfl) (leb rfl) (leb rfl) (leb rfl) ?_
  rintro _ _ ⟨rfl, rfl⟩
  show W24 l Z n0 (P24 r) 0 0 124 (vR 0 :: vI v1 :: vU :: []) [] (Hb 0 c2)
  exact WP.weak (L' := (vR 0 :: vU :: vU :: [])) ⟨rfl, trivial⟩ (ok24_124 l Z a0 hw n0 n c2 _ h)
def g_run_85 (k85 : KT8) (n : Nat) (v1 v2 : Int32) (s : St) : Option (Int32 × St) :=
 if v2 < (1048576 : Int32) then
  if (gI s 18) = 0 then
   f_run_110 n v1 s
  else
   (f_step n v1 s).bind fun c3 =>
   lt (v2 + (1 : Int32)) fun x4 =>
   k85 c3.1 x4 c3.2
 else
  f_run_110 n v1 s
abbrev HK24_85 (l : Launch) (Z : State) (n0 : Nat) (k85 : KT8) : Prop := ∀ (v1 v2 : Int32) (s : St) (r : Int32 × St), k85 v1 v2 s = some r → W24 l Z n0 (P24 r) 0 0 85 (vR 0 :: vI v1 :: vI v2 :: []) [] (Hb 0 s)
theorem okg24_85 (l : Launch) (Z : State) (a0 : Array Value) (hw : HW a0 Z) (n0 : Nat) (k85 : KT8) (hk85 : HK24_85 l Z n0 k85) (n : Nat) (v1 v2 : Int32) (s : St) (r : Int32 × St) (h : g_run_85 k85 n v1 v2 s = some r) : W24 l Z n0 (P24 r) 0 0 85 (vR 0 :: vI v1 :: vI v2 :: []) [] (Hb 0 s) := by
 unfold g_run_85 at h
 refine WP.iloadN d24_85 rfl ?_
 refine WP.ldc d24_86 (hw _ m_218) ?_
 rcases ite_e h with ⟨hc1, h⟩ | ⟨hc1, h⟩
 ·
  refine WP.icmpN d24_88 (XT.ii_ge_f hc1) ?_
  refine WP.aloadN d24_91 rfl ?_
  refine WP.getfield (i := 0) (j := 45) d24_92 (hw _ m_212) rfl rfl rfl ?_
  rcases ite_e h with ⟨hc2, h⟩ | ⟨hc2, h⟩
  ·
   refine WP.ifY (pc' := 110) d24_95 (XT.i0_eq_t hc2) (by decide) rfl ?_
   exact WP.weak (L' := (vR 0 :: vI v1 :: vU :: [])) ⟨rfl, rfl, trivial⟩ (ok24_110 l Z a0 hw n0 n v1 s _ h)
  ·
   refine WP.ifN d24_95 (XT.i0_eq_f hc2) ?_
   refine WP.aloadN d24_98 rfl ?_
   refine WP.iloadN d24_99 rfl ?_
   obtain ⟨c3, hc3, h⟩ := bd h
   refine WP.callP (i := 0) (y := y26) (as := [.int v1]) (S := []) d24_100 (hw _ m_219) (hw _ m_221) (hw _ m_1) (hw _ m_220) (hw _ m_222) (hw _ m_2) hy26 rfl (ok26 l Z a0 hw n v1 s _ hc3) rfl (lenOf pd26 rfl) (leb rfl) (leb rfl) (leb rfl) (leb rfl) ?_
   rintro _ _ ⟨rfl, rfl⟩
   show W24 l Z n0 (P24 r) 0 0 103 (vR 0 :: vI v1 :: vI v2 :: []) [.int c3.1] (Hb 0 c3.2)
   refine WP.istoreN (L' := (vR 0 :: vI c3.1 :: vI v2 :: [])) d24_103 (leb rfl) rfl ?_
   obtain ⟨x4, ex4, h⟩ := lt_e h
   refine WP.iinc (L' := (vR 0 :: vI c3.1 :: vI x4 :: [])) (1 : Int32) d24_104 rfl rfl (by subst ex4; rfl) ?_
   refine WP.goto (pc' := 85) d24_107 (by decide) rfl ?_
   exact WP.weak (L' := (vR 0 :: vI c3.1 :: vI x4 :: [])) ⟨rfl, rfl, rfl, trivial⟩ (hk85 c3.1 x4 c3.2 _ h)
 ·
  refine WP.icmpY (pc' := 110) d24_88 (XT.ii_ge_t hc1) (by decide) rfl ?_
  exact WP.weak (L' := (vR 0 :: vI v1 :: vU :: [])) ⟨rfl, rfl, trivial⟩ (ok24_110 l Z a0 hw n0 n v1 s _ h)
def f_run_85 : Nat → Int32 → Int32 → St → Option (Int32 × St)
 | 0 => fun _ _ _ => none
 | n + 1 => g_run_85 (f_run_85 n) n
theorem ok24_85 (l : Launch) (Z : State) (a0 : Array Value) (hw : HW a0 Z) (n0 : Nat) : ∀ (n : Nat) (v1 v2 : Int32) (s : St) (r : Int32 × St), f_run_85 n v1 v2 s = some r → W24 l Z n0 (P24 r) 0 0 85 (vR 0 :: vI v1 :: vI v2 :: []) [] (Hb 0 s)
 | 0, v1, v2, s, r, h => nomatch (show none = some r from h)
 | n + 1, v1, v2, s, r, h => okg24_85 l Z a0 hw n0 _ (ok24_85 l Z a0 hw n0 n) n v1 v2 s r h
def f_run (n : Nat) (s : St) : Option (Int32 × St) :=
 if (gI s 3) = 0 then
  some ((-1 : Int32), s)
 else
  (f_clearResults s).bind fun c2 =>
  lt (sI c2 15 (0 : Int32)) fun s3 =>
  lt (sI s3 16 (0 : Int32)) fun s4 =>
  lt (sI s4 14 (0 : Int32)) fun s5 =>
  lt (sI s5 17 (256 : Int32)) fun s6 =>
  lt (sI s6 18 (1 : Int32)) fun s7 =>
  (rd (gA s7 7) (0 : Int32)).bind fun x8 =>
  if (gI s7 0) < x8 then
   (rd (gA s7 4) (0 : Int32)).bind fun x10 =>
   (f_trap (5 : Int32) x10 s7).bind fun c11 =>
   some (gI c11 4, c11)
  else
   (f_pushFrame n (0 : Int32) (-1 : Int32) (-1 : Int32) s7).bind fun c12 =>
   (rd (gA c12 8) (0 : Int32)).bind fun x13 =>
   f_run_85 n x13 (0 : Int32) c12
theorem ok24 (l : Launch) (Z : State) (a0 : Array Value) (hw : HW a0 Z) (n : Nat) (s : St) (r : Int32 × St) (h : f_run n s = some r) : CS l Z CN lay y24 prog_1_method_6_code 3 (some FieldType.int) R24 0 [.ref 0] (Hb 0 s) (P24 r) := by
 refine CS.of_wp pn_cls (leb rfl) fun n0 => ?_
 show W24 l Z n0 (P24 r) 0 0 0 (vR 0 :: vU :: vU :: []) [] (Hb 0 s)
 unfold f_run at h
 refine WP.aloadN d24_0 rfl ?_
 refine WP.getfield (i := 0) (j := 5) d24_1 (hw _ m_106) rfl rfl rfl ?_
 rcases ite_e h with ⟨hc1, h⟩ | ⟨hc1, h⟩
 ·
  refine WP.ifN d24_4 (XT.i0_ne_f hc1) ?_
  refine WP.iconst (-1 : Int32) d24_7 rfl ?_
  cases h
  exact WP.ireturn d24_8 rfl (leb rfl) (leb rfl) ⟨rfl, rfl⟩
 ·
  refine WP.ifY (pc' := 9) d24_4 (XT.i0_ne_t hc1) (by decide) rfl ?_
  refine WP.aloadN d24_9 rfl ?_
  obtain ⟨c2, hc2, h⟩ := bd h
  refine WP.callP (i := 0) (y := y1) (as := []) (S := []) d24_10 (hw _ m_81) (hw _ m_83) (hw _ m_1) (hw _ m_82) (hw _ m_84) (hw _ m_2) hy1 rfl (ok1 l Z a0 hw s _ hc2) rfl (lenOf pd1 rfl) (leb rfl) (leb rfl) (leb rfl) (leb rfl) ?_
  rintro _ _ ⟨rfl, rfl⟩
  show W24 l Z n0 (P24 r) 0 0 13 (vR 0 :: vU :: vU :: []) [] (Hb 0 c2)
  refine WP.aloadN d24_13 rfl ?_
  refine WP.iconst (0 : Int32) d24_14 rfl ?_
  obtain ⟨s3, es3, h⟩ := lt_e h
  refine WP.putI (i := 0) (j := 42) (H' := (Hb 0 s3)) d24_15 (hw _ m_204) (Or.inl (hw _ m_205)) (hw _ m_1) (hlay hw) rfl rfl rfl (leb rfl) (by subst es3; rfl) ?_
  refine WP.aloadN d24_18 rfl ?_
  refine WP.iconst (0 : Int32) d24_19 rfl ?_
  obtain ⟨s4, es4, h⟩ := lt_e h
  refine WP.putI (i := 0) (j := 43) (H' := (Hb 0 s4)) d24_20 (hw _ m_206) (Or.inl (hw _ m_207)) (hw _ m_1) (hlay hw) rfl rfl rfl (leb rfl) (by subst es4; rfl) ?_
  refine WP.aloadN d24_23 rfl ?_
  refine WP.iconst (0 : Int32) d24_24 rfl ?_
  obtain ⟨s5, es5, h⟩ := lt_e h
  refine WP.putI (i := 0) (j := 36) (H' := (Hb 0 s5)) d24_25 (hw _ m_208) (Or.inl (hw _ m_209)) (hw _ m_1) (hlay hw) rfl rfl rfl (leb rfl) (by subst es5; rfl) ?_
  refine WP.aloadN d24_28 rfl ?_
  refine WP.sipush (256 : Int32) d24_29 rfl ?_
  obtain ⟨s6, es6, h⟩ := lt_e h
  refine WP.putI (i := 0) (j := 44) (H' := (Hb 0 s6)) d24_32 (hw _ m_210) (Or.inl (hw _ m_211)) (hw _ m_1) (hlay hw) rfl rfl rfl (leb rfl) (by subst es6; rfl) ?_
  refine WP.aloadN d24_35 rfl ?_
  refine WP.iconst (1 : Int32) d24_36 rfl ?_
  obtain ⟨s7, es7, h⟩ := lt_e h
  refine WP.putZ (i := 0) (j := 45) (H' := (Hb 0 s7)) d24_37 (hw _ m_212) (Or.inl (hw _ m_213)) (hw _ m_1) (hlay hw) rfl rfl rfl (leb rfl) (by subst es7; rfl) ?_
  refine WP.aloadN d24_40 rfl ?_
  refine WP.getfield (i := 0) (j := 18) d24_41 (hw _ m_25) rfl rfl rfl ?_
  refine WP.iconst (0 : Int32) d24_44 rfl ?_
  obtain ⟨x8, hx8, h⟩ := bd h
  refine WP.iaload (i := 8) d24_45 rfl hx8 ?_
  refine WP.aloadN d24_46 rfl ?_
  refine WP.getfield (i := 0) (j := 0) d24_47 (hw _ m_77) rfl rfl rfl ?_
  rcases ite_e h with ⟨hc9, h⟩ | ⟨hc9, h⟩
  ·
   refine WP.icmpN d24_50 (XT.ii_le_f hc9) ?_
   refine WP.aloadN d24_53 rfl ?_
   refine WP.iconst (5 : Int32) d24_54 rfl ?_
   refine WP.aloadN d24_55 rfl ?_
   refine WP.getfield (i := 0) (j := 15) d24_56 (hw _ m_19) rfl rfl rfl ?_
   refine WP.iconst (0 : Int32) d24_59 rfl ?_
   obtain ⟨x10, hx10, h⟩ := bd h
   refine WP.iaload (i := 5) d24_60 rfl hx10 ?_
   obtain ⟨c11, hc11, h⟩ := bd h
   refine WP.callP (i := 0) (y := y50) (as := [.int (5 : Int32), .int x10]) (S := []) d24_61 (hw _ m_321) (hw _ m_323) (hw _ m_1) (hw _ m_322) (hw _ m_324) (hw _ m_2) hy50 rfl (ok50 l Z a0 hw (5 : Int32) x10 s7 _ hc11) rfl (lenOf pd50 rfl) (leb rfl) (leb rfl) (leb rfl) (leb rfl) ?_
   rintro _ _ ⟨rfl, rfl⟩
   show W24 l Z n0 (P24 r) 0 0 64 (vR 0 :: vU :: vU :: []) [] (Hb 0 c11)
   refine WP.aloadN d24_64 rfl ?_
   refine WP.getfield (i := 0) (j := 6) d24_65 (hw _ m_85) rfl rfl rfl ?_
   cases h
   exact WP.ireturn d24_68 rfl (leb rfl) (leb rfl) ⟨rfl, rfl⟩
  ·
   refine WP.icmpY (pc' := 69) d24_50 (XT.ii_le_t hc9) (by decide) rfl ?_
   refine WP.aloadN d24_69 rfl ?_
   refine WP.iconst (0 : Int32) d24_70 rfl ?_
   refine WP.iconst (-1 : Int32) d24_71 rfl ?_
   refine WP.iconst (-1 : Int32) d24_72 rfl ?_
   obtain ⟨c12, hc12, h⟩ := bd h
   refine WP.callP (i := 0) (y := y25) (as := [oN, .int (-1 : Int32), .int (-1 : Int32)]) (S := []) d24_73 (hw _ m_214) (hw _ m_216) (hw _ m_1) (hw _ m_215) (hw _ m_217) (hw _ m_2) hy25 rfl (ok25 l Z a0 hw n (0 : Int32) (-1 : Int32) (-1 : Int32) s7 _ hc12) rfl (lenOf pd25 rfl) (leb rfl) (leb rfl) (leb rfl) (leb rfl) ?_
   rintro _ _ ⟨rfl, rfl⟩
   show W24 l Z n0 (P24 r) 0 0 76 (vR 0 :: vU :: vU :: []) [] (Hb 0 c12)
   refine WP.aloadN d24_76 rfl ?_
   refine WP.getfield (i := 0) (j := 19) d24_77 (hw _ m_27) rfl rfl rfl ?_
   refine WP.iconst (0 : Int32) d24_80 rfl ?_
   obtain ⟨x13, hx13, h⟩ := bd h
   refine WP.iaload (i := 9) d24_81 rfl hx13 ?_
   refine WP.istoreN (L' := (vR 0 :: vI x13 :: vU :: [])) d24_82 (leb rfl) rfl ?_
   refine WP.iconst (0 : Int32) d24_83 rfl ?_
   refine WP.istoreN (L' := (vR 0 :: vI x13 :: vI (0 : Int32) :: [])) d24_84 (leb rfl) rfl ?_
   exact WP.weak (L' := (vR 0 :: vI x13 :: vI (0 : Int32) :: [])) ⟨rfl, rfl, rfl, trivial⟩ (ok24_85 l Z a0 hw n0 n x13 (0 : Int32) c12 _ h)
theorem d44_0 : dc k4 0 (.aload_n 0) 1 := by decide +kernel
theorem d44_1 : dc k4 1 (.getfield 150) 3 := by decide +kernel
theorem d44_4 : dc k4 4 (.ireturn) 1 := by decide +kernel
abbrev y44 : MethodName := ⟨"FatPointerC", "status", "()I"⟩
theorem hy44 : y44.cls ≠ "java/lang/invoke/MethodHandle" ∧ y44.cls ≠ "java/lang/invoke/VarHandle" := by decide
theorem pd44 : parseMethodDescriptor y44.desc = some ⟨[], some .int⟩ := by decide +kernel
abbrev R44 : Room := { frames := 0, cells := 0, slots := 0, locals := 0 }
abbrev P44 (s : St) (r : Int32) : Option Value → List OwnC → Prop := fun v H' => v = some (.int r) ∧ H' = (Hb 0 s)
abbrev W44 (l : Launch) (Z : State) (n0 : Nat) (Q : Option Value → List OwnC → Prop) (k n pc : Nat) (L : List Slot) (S : List Value) (H : List OwnC) : Prop := WP l Z CN lay "FatPointerC" "status" prog_1_method_7_code 1 (some FieldType.int) R44 n0 0 Q k n pc L S H
def f_status (s : St) : Option (Int32) :=
 some (gI s 4)
theorem ok44 (l : Launch) (Z : State) (a0 : Array Value) (hw : HW a0 Z) (s : St) (r : Int32) (h : f_status s = some r) : CS l Z CN lay y44 prog_1_method_7_code 1 (some FieldType.int) R44 0 [.ref 0] (Hb 0 s) (P44 s r) := by
 refine CS.of_wp pn_cls (leb rfl) fun n0 => ?_
 show W44 l Z n0 (P44 s r) 0 0 0 (vR 0 :: []) [] (Hb 0 s)
 unfold f_status at h
 refine WP.aloadN d44_0 rfl ?_
 refine WP.getfield (i := 0) (j := 6) d44_1 (hw _ m_85) rfl rfl rfl ?_
 cases h
 exact WP.ireturn d44_4 rfl (leb rfl) (leb rfl) ⟨rfl, rfl⟩
theorem d45_0 : dc k5 0 (.aload_n 0) 1 := by decide +kernel
theorem d45_1 : dc k5 1 (.getfield 162) 3 := by decide +kernel
theorem d45_4 : dc k5 4 (.ireturn) 1 := by decide +kernel
abbrev y45 : MethodName := ⟨"FatPointerC", "trapSite", "()I"⟩
theorem hy45 : y45.cls ≠ "java/lang/invoke/MethodHandle" ∧ y45.cls ≠ "java/lang/invoke/VarHandle" := by decide
theorem pd45 : parseMethodDescriptor y45.desc = some ⟨[], some .int⟩ := by decide +kernel
abbrev R45 : Room := { frames := 0, cells := 0, slots := 0, locals := 0 }
abbrev P45 (s : St) (r : Int32) : Option Value → List OwnC → Prop := fun v H' => v = some (.int r) ∧ H' = (Hb 0 s)
abbrev W45 (l : Launch) (Z : State) (n0 : Nat) (Q : Option Value → List OwnC → Prop) (k n pc : Nat) (L : List Slot) (S : List Value) (H : List OwnC) : Prop := WP l Z CN lay "FatPointerC" "trapSite" prog_1_method_8_code 1 (some FieldType.int) R45 n0 0 Q k n pc L S H
def f_trapSite (s : St) : Option (Int32) :=
 some (gI s 5)
theorem ok45 (l : Launch) (Z : State) (a0 : Array Value) (hw : HW a0 Z) (s : St) (r : Int32) (h : f_trapSite s = some r) : CS l Z CN lay y45 prog_1_method_8_code 1 (some FieldType.int) R45 0 [.ref 0] (Hb 0 s) (P45 s r) := by
 refine CS.of_wp pn_cls (leb rfl) fun n0 => ?_
 show W45 l Z n0 (P45 s r) 0 0 0 (vR 0 :: []) [] (Hb 0 s)
 unfold f_trapSite at h
 refine WP.aloadN d45_0 rfl ?_
 refine WP.getfield (i := 0) (j := 7) d45_1 (hw _ m_87) rfl rfl rfl ?_
 cases h
 exact WP.ireturn d45_4 rfl (leb rfl) (leb rfl) ⟨rfl, rfl⟩
theorem d46_0 : dc k6 0 (.aload_n 0) 1 := by decide +kernel
theorem d46_1 : dc k6 1 (.getfield 165) 3 := by decide +kernel
theorem d46_4 : dc k6 4 (.ireturn) 1 := by decide +kernel
abbrev y46 : MethodName := ⟨"FatPointerC", "frames", "()I"⟩
theorem hy46 : y46.cls ≠ "java/lang/invoke/MethodHandle" ∧ y46.cls ≠ "java/lang/invoke/VarHandle" := by decide
theorem pd46 : parseMethodDescriptor y46.desc = some ⟨[], some .int⟩ := by decide +kernel
abbrev R46 : Room := { frames := 0, cells := 0, slots := 0, locals := 0 }
abbrev P46 (s : St) (r : Int32) : Option Value → List OwnC → Prop := fun v H' => v = some (.int r) ∧ H' = (Hb 0 s)
abbrev W46 (l : Launch) (Z : State) (n0 : Nat) (Q : Option Value → List OwnC → Prop) (k n pc : Nat) (L : List Slot) (S : List Value) (H : List OwnC) : Prop := WP l Z CN lay "FatPointerC" "frames" prog_1_method_9_code 1 (some FieldType.int) R46 n0 0 Q k n pc L S H
def f_frames (s : St) : Option (Int32) :=
 some (gI s 6)
theorem ok46 (l : Launch) (Z : State) (a0 : Array Value) (hw : HW a0 Z) (s : St) (r : Int32) (h : f_frames s = some r) : CS l Z CN lay y46 prog_1_method_9_code 1 (some FieldType.int) R46 0 [.ref 0] (Hb 0 s) (P46 s r) := by
 refine CS.of_wp pn_cls (leb rfl) fun n0 => ?_
 show W46 l Z n0 (P46 s r) 0 0 0 (vR 0 :: []) [] (Hb 0 s)
 unfold f_frames at h
 refine WP.aloadN d46_0 rfl ?_
 refine WP.getfield (i := 0) (j := 8) d46_1 (hw _ m_89) rfl rfl rfl ?_
 cases h
 exact WP.ireturn d46_4 rfl (leb rfl) (leb rfl) ⟨rfl, rfl⟩
theorem d47_0 : dc k7 0 (.aload_n 0) 1 := by decide +kernel
theorem d47_1 : dc k7 1 (.getfield 168) 3 := by decide +kernel
theorem d47_4 : dc k7 4 (.ireturn) 1 := by decide +kernel
abbrev y47 : MethodName := ⟨"FatPointerC", "resultKind", "()I"⟩
theorem hy47 : y47.cls ≠ "java/lang/invoke/MethodHandle" ∧ y47.cls ≠ "java/lang/invoke/VarHandle" := by decide
theorem pd47 : parseMethodDescriptor y47.desc = some ⟨[], some .int⟩ := by decide +kernel
abbrev R47 : Room := { frames := 0, cells := 0, slots := 0, locals := 0 }
abbrev P47 (s : St) (r : Int32) : Option Value → List OwnC → Prop := fun v H' => v = some (.int r) ∧ H' = (Hb 0 s)
abbrev W47 (l : Launch) (Z : State) (n0 : Nat) (Q : Option Value → List OwnC → Prop) (k n pc : Nat) (L : List Slot) (S : List Value) (H : List OwnC) : Prop := WP l Z CN lay "FatPointerC" "resultKind" prog_1_method_10_code 1 (some FieldType.int) R47 n0 0 Q k n pc L S H
def f_resultKind (s : St) : Option (Int32) :=
 some (gI s 7)
theorem ok47 (l : Launch) (Z : State) (a0 : Array Value) (hw : HW a0 Z) (s : St) (r : Int32) (h : f_resultKind s = some r) : CS l Z CN lay y47 prog_1_method_10_code 1 (some FieldType.int) R47 0 [.ref 0] (Hb 0 s) (P47 s r) := by
 refine CS.of_wp pn_cls (leb rfl) fun n0 => ?_
 show W47 l Z n0 (P47 s r) 0 0 0 (vR 0 :: []) [] (Hb 0 s)
 unfold f_resultKind at h
 refine WP.aloadN d47_0 rfl ?_
 refine WP.getfield (i := 0) (j := 9) d47_1 (hw _ m_91) rfl rfl rfl ?_
 cases h
 exact WP.ireturn d47_4 rfl (leb rfl) (leb rfl) ⟨rfl, rfl⟩
theorem d48_0 : dc k8 0 (.aload_n 0) 1 := by decide +kernel
theorem d48_1 : dc k8 1 (.getfield 171) 3 := by decide +kernel
theorem d48_4 : dc k8 4 (.ireturn) 1 := by decide +kernel
abbrev y48 : MethodName := ⟨"FatPointerC", "resultValue", "()I"⟩
theorem hy48 : y48.cls ≠ "java/lang/invoke/MethodHandle" ∧ y48.cls ≠ "java/lang/invoke/VarHandle" := by decide
theorem pd48 : parseMethodDescriptor y48.desc = some ⟨[], some .int⟩ := by decide +kernel
abbrev R48 : Room := { frames := 0, cells := 0, slots := 0, locals := 0 }
abbrev P48 (s : St) (r : Int32) : Option Value → List OwnC → Prop := fun v H' => v = some (.int r) ∧ H' = (Hb 0 s)
abbrev W48 (l : Launch) (Z : State) (n0 : Nat) (Q : Option Value → List OwnC → Prop) (k n pc : Nat) (L : List Slot) (S : List Value) (H : List OwnC) : Prop := WP l Z CN lay "FatPointerC" "resultValue" prog_1_method_11_code 1 (some FieldType.int) R48 n0 0 Q k n pc L S H
def f_resultValue (s : St) : Option (Int32) :=
 some (gI s 8)
theorem ok48 (l : Launch) (Z : State) (a0 : Array Value) (hw : HW a0 Z) (s : St) (r : Int32) (h : f_resultValue s = some r) : CS l Z CN lay y48 prog_1_method_11_code 1 (some FieldType.int) R48 0 [.ref 0] (Hb 0 s) (P48 s r) := by
 refine CS.of_wp pn_cls (leb rfl) fun n0 => ?_
 show W48 l Z n0 (P48 s r) 0 0 0 (vR 0 :: []) [] (Hb 0 s)
 unfold f_resultValue at h
 refine WP.aloadN d48_0 rfl ?_
 refine WP.getfield (i := 0) (j := 10) d48_1 (hw _ m_93) rfl rfl rfl ?_
 cases h
 exact WP.ireturn d48_4 rfl (leb rfl) (leb rfl) ⟨rfl, rfl⟩
theorem d49_0 : dc k9 0 (.aload_n 0) 1 := by decide +kernel
theorem d49_1 : dc k9 1 (.getfield 177) 3 := by decide +kernel
theorem d49_4 : dc k9 4 (.ireturn) 1 := by decide +kernel
abbrev y49 : MethodName := ⟨"FatPointerC", "outCount", "()I"⟩
theorem hy49 : y49.cls ≠ "java/lang/invoke/MethodHandle" ∧ y49.cls ≠ "java/lang/invoke/VarHandle" := by decide
theorem pd49 : parseMethodDescriptor y49.desc = some ⟨[], some .int⟩ := by decide +kernel
abbrev R49 : Room := { frames := 0, cells := 0, slots := 0, locals := 0 }
abbrev P49 (s : St) (r : Int32) : Option Value → List OwnC → Prop := fun v H' => v = some (.int r) ∧ H' = (Hb 0 s)
abbrev W49 (l : Launch) (Z : State) (n0 : Nat) (Q : Option Value → List OwnC → Prop) (k n pc : Nat) (L : List Slot) (S : List Value) (H : List OwnC) : Prop := WP l Z CN lay "FatPointerC" "outCount" prog_1_method_13_code 1 (some FieldType.int) R49 n0 0 Q k n pc L S H
def f_outCount (s : St) : Option (Int32) :=
 some (gI s 10)
theorem ok49 (l : Launch) (Z : State) (a0 : Array Value) (hw : HW a0 Z) (s : St) (r : Int32) (h : f_outCount s = some r) : CS l Z CN lay y49 prog_1_method_13_code 1 (some FieldType.int) R49 0 [.ref 0] (Hb 0 s) (P49 s r) := by
 refine CS.of_wp pn_cls (leb rfl) fun n0 => ?_
 show W49 l Z n0 (P49 s r) 0 0 0 (vR 0 :: []) [] (Hb 0 s)
 unfold f_outCount at h
 refine WP.aloadN d49_0 rfl ?_
 refine WP.getfield (i := 0) (j := 12) d49_1 (hw _ m_97) rfl rfl rfl ?_
 cases h
 exact WP.ireturn d49_4 rfl (leb rfl) (leb rfl) ⟨rfl, rfl⟩
abbrev PLAW (r : Int32) : Option Value → List OwnC → Prop := fun v _ => v = some (.int r)
abbrev WLAW (l : Launch) (Z : State) (n0 : Nat) (Q : Option Value → List OwnC → Prop) (k n pc : Nat) (L : List Slot) (S : List Value) (H : List OwnC) : Prop := WP l Z CN lay "FatPointerCL3" "law" code maxLocals ret room_1 n0 0 Q k n pc L S H
def f_law_477 (n : Nat) (t0 : Int32) (s0 : St) : Option (Int32) :=
 some (t0 &&& 1)
theorem okLAW_477 (l : Launch) (Z : State) (a0 : Array Value) (hw : HW a0 Z) (n0 n : Nat) (t0 : Int32) (s0 : St) (r : Int32) (h : f_law_477 n t0 s0 = some r) : WLAW l Z n0 (PLAW r) 34 14040 477 (vU :: vU :: vU :: vU :: vU :: vU :: vU :: vU :: vU :: vU :: vU :: vU :: vU :: vU :: vU :: vU :: vU :: vU :: vU :: vU :: vU :: []) [.int t0] (Hb 0 s0) := by
 unfold f_law_477 at h
 cases h
 exact WP.zreturn at_477 rfl (leb rfl) (leb rfl) rfl
def f_law_476 (n : Nat) (s0 : St) : Option (Int32) :=
 f_law_477 n (0 : Int32) s0
theorem okLAW_476 (l : Launch) (Z : State) (a0 : Array Value) (hw : HW a0 Z) (n0 n : Nat) (s0 : St) (r : Int32) (h : f_law_476 n s0 = some r) : WLAW l Z n0 (PLAW r) 34 14040 476 (vU :: vU :: vU :: vU :: vU :: vU :: vU :: vU :: vU :: vU :: vU :: vU :: vU :: vU :: vU :: vU :: vU :: vU :: vU :: vU :: vU :: []) [] (Hb 0 s0) := by
 unfold f_law_476 at h
 refine WP.iconst (0 : Int32) at_476 rfl ?_
 exact WP.weak (L' := (vU :: vU :: vU :: vU :: vU :: vU :: vU :: vU :: vU :: vU :: vU :: vU :: vU :: vU :: vU :: vU :: vU :: vU :: vU :: vU :: vU :: [])) trivial (okLAW_477 l Z a0 hw n0 n (0 : Int32) s0 _ h)
def f_law_418 (n : Nat) (v6 v7 v8 v9 v10 v11 v12 v13 v15 v16 v17 v18 v19 v20 : Int32) (s0 : St) : Option (Int32) :=
 if v6 = v15 then
  if v7 = v16 then
   if v8 = v16 then
    if v9 = v17 then
     if v10 = v18 then
      if v11 = v19 then
       if v12 = v20 then
        if v13 = 0 then
         f_law_477 n (1 : Int32) s0
        else
         f_law_476 n s0
       else
        f_law_476 n s0
      else
       f_law_476 n s0
     else
      f_law_476 n s0
    else
     f_law_476 n s0
   else
    f_law_476 n s0
  else
   f_law_476 n s0
 else
  f_law_476 n s0
theorem okLAW_418 (l : Launch) (Z : State) (a0 : Array Value) (hw : HW a0 Z) (n0 n : Nat) (v6 v7 v8 v9 v10 v11 v12 v13 v15 v16 v17 v18 v19 v20 : Int32) (s0 : St) (r : Int32) (h : f_law_418 n v6 v7 v8 v9 v10 v11 v12 v13 v15 v16 v17 v18 v19 v20 s0 = some r) : WLAW l Z n0 (PLAW r) 34 14040 418 (vU :: vU :: vU :: vU :: vU :: vU :: vI v6 :: vI v7 :: vI v8 :: vI v9 :: vI v10 :: vI v11 :: vI v12 :: vI v13 :: vU :: vI v15 :: vI v16 :: vI v17 :: vI v18 :: vI v19 :: vI v20 :: []) [] (Hb 0 s0) := by
 unfold f_law_418 at h
 refine WP.iload at_418 rfl ?_
 refine WP.iload at_420 rfl ?_
 rcases ite_e h with ⟨hc1, h⟩ | ⟨hc1, h⟩
 ·
  refine WP.icmpN at_422 (XT.ii_ne_f hc1) ?_
  refine WP.iload at_425 rfl ?_
  refine WP.iload at_427 rfl ?_
  rcases ite_e h with ⟨hc2, h⟩ | ⟨hc2, h⟩
  ·
   refine WP.icmpN at_429 (XT.ii_ne_f hc2) ?_
   refine WP.iload at_432 rfl ?_
   refine WP.iload at_434 rfl ?_
   rcases ite_e h with ⟨hc3, h⟩ | ⟨hc3, h⟩
   ·
    refine WP.icmpN at_436 (XT.ii_ne_f hc3) ?_
    refine WP.iload at_439 rfl ?_
    refine WP.iload at_441 rfl ?_
    rcases ite_e h with ⟨hc4, h⟩ | ⟨hc4, h⟩
    ·
     refine WP.icmpN at_443 (XT.ii_ne_f hc4) ?_
     refine WP.iload at_446 rfl ?_
     refine WP.iload at_448 rfl ?_
     rcases ite_e h with ⟨hc5, h⟩ | ⟨hc5, h⟩
     ·
      refine WP.icmpN at_450 (XT.ii_ne_f hc5) ?_
      refine WP.iload at_453 rfl ?_
      refine WP.iload at_455 rfl ?_
      rcases ite_e h with ⟨hc6, h⟩ | ⟨hc6, h⟩
      ·
       refine WP.icmpN at_457 (XT.ii_ne_f hc6) ?_
       refine WP.iload at_460 rfl ?_
       refine WP.iload at_462 rfl ?_
       rcases ite_e h with ⟨hc7, h⟩ | ⟨hc7, h⟩
       ·
        refine WP.icmpN at_464 (XT.ii_ne_f hc7) ?_
        refine WP.iload at_467 rfl ?_
        rcases ite_e h with ⟨hc8, h⟩ | ⟨hc8, h⟩
        ·
         refine WP.ifN at_469 (XT.i0_ne_f hc8) ?_
         refine WP.iconst (1 : Int32) at_472 rfl ?_
         refine WP.goto (pc' := 477) at_473 (by decide) rfl ?_
         exact WP.weak (L' := (vU :: vU :: vU :: vU :: vU :: vU :: vU :: vU :: vU :: vU :: vU :: vU :: vU :: vU :: vU :: vU :: vU :: vU :: vU :: vU :: vU :: [])) trivial (okLAW_477 l Z a0 hw n0 n (1 : Int32) s0 _ h)
        ·
         refine WP.ifY (pc' := 476) at_469 (XT.i0_ne_t hc8) (by decide) rfl ?_
         exact WP.weak (L' := (vU :: vU :: vU :: vU :: vU :: vU :: vU :: vU :: vU :: vU :: vU :: vU :: vU :: vU :: vU :: vU :: vU :: vU :: vU :: vU :: vU :: [])) trivial (okLAW_476 l Z a0 hw n0 n s0 _ h)
       ·
        refine WP.icmpY (pc' := 476) at_464 (XT.ii_ne_t hc7) (by decide) rfl ?_
        exact WP.weak (L' := (vU :: vU :: vU :: vU :: vU :: vU :: vU :: vU :: vU :: vU :: vU :: vU :: vU :: vU :: vU :: vU :: vU :: vU :: vU :: vU :: vU :: [])) trivial (okLAW_476 l Z a0 hw n0 n s0 _ h)
      ·
       refine WP.icmpY (pc' := 476) at_457 (XT.ii_ne_t hc6) (by decide) rfl ?_
       exact WP.weak (L' := (vU :: vU :: vU :: vU :: vU :: vU :: vU :: vU :: vU :: vU :: vU :: vU :: vU :: vU :: vU :: vU :: vU :: vU :: vU :: vU :: vU :: [])) trivial (okLAW_476 l Z a0 hw n0 n s0 _ h)
     ·
      refine WP.icmpY (pc' := 476) at_450 (XT.ii_ne_t hc5) (by decide) rfl ?_
      exact WP.weak (L' := (vU :: vU :: vU :: vU :: vU :: vU :: vU :: vU :: vU :: vU :: vU :: vU :: vU :: vU :: vU :: vU :: vU :: vU :: vU :: vU :: vU :: [])) trivial (okLAW_476 l Z a0 hw n0 n s0 _ h)
    ·
     refine WP.icmpY (pc' := 476) at_443 (XT.ii_ne_t hc4) (by decide) rfl ?_
     exact WP.weak (L' := (vU :: vU :: vU :: vU :: vU :: vU :: vU :: vU :: vU :: vU :: vU :: vU :: vU :: vU :: vU :: vU :: vU :: vU :: vU :: vU :: vU :: [])) trivial (okLAW_476 l Z a0 hw n0 n s0 _ h)
   ·
    refine WP.icmpY (pc' := 476) at_436 (XT.ii_ne_t hc3) (by decide) rfl ?_
    exact WP.weak (L' := (vU :: vU :: vU :: vU :: vU :: vU :: vU :: vU :: vU :: vU :: vU :: vU :: vU :: vU :: vU :: vU :: vU :: vU :: vU :: vU :: vU :: [])) trivial (okLAW_476 l Z a0 hw n0 n s0 _ h)
  ·
   refine WP.icmpY (pc' := 476) at_429 (XT.ii_ne_t hc2) (by decide) rfl ?_
   exact WP.weak (L' := (vU :: vU :: vU :: vU :: vU :: vU :: vU :: vU :: vU :: vU :: vU :: vU :: vU :: vU :: vU :: vU :: vU :: vU :: vU :: vU :: vU :: [])) trivial (okLAW_476 l Z a0 hw n0 n s0 _ h)
 ·
  refine WP.icmpY (pc' := 476) at_422 (XT.ii_ne_t hc1) (by decide) rfl ?_
  exact WP.weak (L' := (vU :: vU :: vU :: vU :: vU :: vU :: vU :: vU :: vU :: vU :: vU :: vU :: vU :: vU :: vU :: vU :: vU :: vU :: vU :: vU :: vU :: [])) trivial (okLAW_476 l Z a0 hw n0 n s0 _ h)
def f_law_383 (n : Nat) (v6 v7 v8 v9 v10 v11 v12 v13 v15 : Int32) (s0 : St) : Option (Int32) :=
 f_law_418 n v6 v7 v8 v9 v10 v11 v12 v13 v15 (2 : Int32) (12 : Int32) (1 : Int32) (-1 : Int32) (0 : Int32) s0
theorem okLAW_383 (l : Launch) (Z : State) (a0 : Array Value) (hw : HW a0 Z) (n0 n : Nat) (v6 v7 v8 v9 v10 v11 v12 v13 v15 : Int32) (s0 : St) (r : Int32) (h : f_law_383 n v6 v7 v8 v9 v10 v11 v12 v13 v15 s0 = some r) : WLAW l Z n0 (PLAW r) 34 14040 383 (vU :: vU :: vU :: vU :: vU :: vU :: vI v6 :: vI v7 :: vI v8 :: vI v9 :: vI v10 :: vI v11 :: vI v12 :: vI v13 :: vU :: vI v15 :: vU :: vU :: vU :: vU :: vU :: []) [] (Hb 0 s0) := by
 unfold f_law_383 at h
 refine WP.iconst (2 : Int32) at_383 rfl ?_
 refine WP.istore (L' := (vU :: vU :: vU :: vU :: vU :: vU :: vI v6 :: vI v7 :: vI v8 :: vI v9 :: vI v10 :: vI v11 :: vI v12 :: vI v13 :: vU :: vI v15 :: vI (2 : Int32) :: vU :: vU :: vU :: vU :: [])) at_384 (leb rfl) rfl ?_
 refine WP.bipush (12 : Int32) at_386 rfl ?_
 refine WP.istore (L' := (vU :: vU :: vU :: vU :: vU :: vU :: vI v6 :: vI v7 :: vI v8 :: vI v9 :: vI v10 :: vI v11 :: vI v12 :: vI v13 :: vU :: vI v15 :: vI (2 : Int32) :: vI (12 : Int32) :: vU :: vU :: vU :: [])) at_388 (leb rfl) rfl ?_
 refine WP.iconst (1 : Int32) at_390 rfl ?_
 refine WP.istore (L' := (vU :: vU :: vU :: vU :: vU :: vU :: vI v6 :: vI v7 :: vI v8 :: vI v9 :: vI v10 :: vI v11 :: vI v12 :: vI v13 :: vU :: vI v15 :: vI (2 : Int32) :: vI (12 : Int32) :: vI (1 : Int32) :: vU :: vU :: [])) at_391 (leb rfl) rfl ?_
 refine WP.iconst (-1 : Int32) at_393 rfl ?_
 refine WP.istore (L' := (vU :: vU :: vU :: vU :: vU :: vU :: vI v6 :: vI v7 :: vI v8 :: vI v9 :: vI v10 :: vI v11 :: vI v12 :: vI v13 :: vU :: vI v15 :: vI (2 : Int32) :: vI (12 : Int32) :: vI (1 : Int32) :: vI (-1 : Int32) :: vU :: [])) at_394 (leb rfl) rfl ?_
 refine WP.iconst (0 : Int32) at_396 rfl ?_
 refine WP.istore (L' := (vU :: vU :: vU :: vU :: vU :: vU :: vI v6 :: vI v7 :: vI v8 :: vI v9 :: vI v10 :: vI v11 :: vI v12 :: vI v13 :: vU :: vI v15 :: vI (2 : Int32) :: vI (12 : Int32) :: vI (1 : Int32) :: vI (-1 : Int32) :: vI (0 : Int32) :: [])) at_397 (leb rfl) rfl ?_
 refine WP.goto (pc' := 418) at_399 (by decide) rfl ?_
 exact WP.weak (L' := (vU :: vU :: vU :: vU :: vU :: vU :: vI v6 :: vI v7 :: vI v8 :: vI v9 :: vI v10 :: vI v11 :: vI v12 :: vI v13 :: vU :: vI v15 :: vI (2 : Int32) :: vI (12 : Int32) :: vI (1 : Int32) :: vI (-1 : Int32) :: vI (0 : Int32) :: [])) ⟨rfl, rfl, rfl, rfl, rfl, rfl, rfl, rfl, rfl, rfl, rfl, rfl, rfl, rfl, trivial⟩ (okLAW_418 l Z a0 hw n0 n v6 v7 v8 v9 v10 v11 v12 v13 v15 (2 : Int32) (12 : Int32) (1 : Int32) (-1 : Int32) (0 : Int32) s0 _ h)
def f_law_325 (n : Nat) (v2 v3 v4 v6 v7 v8 v9 v10 v11 v12 v13 v14 t0 : Int32) (s0 : St) : Option (Int32) :=
 if t0 = 0 then
  f_law_418 n v6 v7 v8 v9 v10 v11 v12 v13 t0 (-1 : Int32) (-1 : Int32) (0 : Int32) (-1 : Int32) (0 : Int32) s0
 else
  if v14 < v2 then
   f_law_418 n v6 v7 v8 v9 v10 v11 v12 v13 t0 (5 : Int32) (1 : Int32) (0 : Int32) (-1 : Int32) (0 : Int32) s0
  else
   if v3 < 0 then
    f_law_383 n v6 v7 v8 v9 v10 v11 v12 v13 t0 s0
   else
    if v3 < v2 then
     f_law_418 n v6 v7 v8 v9 v10 v11 v12 v13 t0 (0 : Int32) (-1 : Int32) (0 : Int32) (0 : Int32) v4 s0
    else
     f_law_383 n v6 v7 v8 v9 v10 v11 v12 v13 t0 s0
theorem okLAW_325 (l : Launch) (Z : State) (a0 : Array Value) (hw : HW a0 Z) (n0 n : Nat) (v2 v3 v4 v6 v7 v8 v9 v10 v11 v12 v13 v14 t0 : Int32) (s0 : St) (r : Int32) (h : f_law_325 n v2 v3 v4 v6 v7 v8 v9 v10 v11 v12 v13 v14 t0 s0 = some r) : WLAW l Z n0 (PLAW r) 34 14040 325 (vU :: vU :: vI v2 :: vI v3 :: vI v4 :: vU :: vI v6 :: vI v7 :: vI v8 :: vI v9 :: vI v10 :: vI v11 :: vI v12 :: vI v13 :: vI v14 :: vU :: vU :: vU :: vU :: vU :: vU :: []) [.int t0] (Hb 0 s0) := by
 unfold f_law_325 at h
 refine WP.istore (L' := (vU :: vU :: vI v2 :: vI v3 :: vI v4 :: vU :: vI v6 :: vI v7 :: vI v8 :: vI v9 :: vI v10 :: vI v11 :: vI v12 :: vI v13 :: vI v14 :: vI t0 :: vU :: vU :: vU :: vU :: vU :: [])) at_325 (leb rfl) rfl ?_
 refine WP.iload at_327 rfl ?_
 rcases ite_e h with ⟨hc1, h⟩ | ⟨hc1, h⟩
 ·
  refine WP.ifN at_329 (XT.i0_ne_f hc1) ?_
  refine WP.iconst (-1 : Int32) at_332 rfl ?_
  refine WP.istore (L' := (vU :: vU :: vI v2 :: vI v3 :: vI v4 :: vU :: vI v6 :: vI v7 :: vI v8 :: vI v9 :: vI v10 :: vI v11 :: vI v12 :: vI v13 :: vI v14 :: vI t0 :: vI (-1 : Int32) :: vU :: vU :: vU :: vU :: [])) at_333 (leb rfl) rfl ?_
  refine WP.iconst (-1 : Int32) at_335 rfl ?_
  refine WP.istore (L' := (vU :: vU :: vI v2 :: vI v3 :: vI v4 :: vU :: vI v6 :: vI v7 :: vI v8 :: vI v9 :: vI v10 :: vI v11 :: vI v12 :: vI v13 :: vI v14 :: vI t0 :: vI (-1 : Int32) :: vI (-1 : Int32) :: vU :: vU :: vU :: [])) at_336 (leb rfl) rfl ?_
  refine WP.iconst (0 : Int32) at_338 rfl ?_
  refine WP.istore (L' := (vU :: vU :: vI v2 :: vI v3 :: vI v4 :: vU :: vI v6 :: vI v7 :: vI v8 :: vI v9 :: vI v10 :: vI v11 :: vI v12 :: vI v13 :: vI v14 :: vI t0 :: vI (-1 : Int32) :: vI (-1 : Int32) :: vI (0 : Int32) :: vU :: vU :: [])) at_339 (leb rfl) rfl ?_
  refine WP.iconst (-1 : Int32) at_341 rfl ?_
  refine WP.istore (L' := (vU :: vU :: vI v2 :: vI v3 :: vI v4 :: vU :: vI v6 :: vI v7 :: vI v8 :: vI v9 :: vI v10 :: vI v11 :: vI v12 :: vI v13 :: vI v14 :: vI t0 :: vI (-1 : Int32) :: vI (-1 : Int32) :: vI (0 : Int32) :: vI (-1 : Int32) :: vU :: [])) at_342 (leb rfl) rfl ?_
  refine WP.iconst (0 : Int32) at_344 rfl ?_
  refine WP.istore (L' := (vU :: vU :: vI v2 :: vI v3 :: vI v4 :: vU :: vI v6 :: vI v7 :: vI v8 :: vI v9 :: vI v10 :: vI v11 :: vI v12 :: vI v13 :: vI v14 :: vI t0 :: vI (-1 : Int32) :: vI (-1 : Int32) :: vI (0 : Int32) :: vI (-1 : Int32) :: vI (0 : Int32) :: [])) at_345 (leb rfl) rfl ?_
  refine WP.goto (pc' := 418) at_347 (by decide) rfl ?_
  exact WP.weak (L' := (vU :: vU :: vU :: vU :: vU :: vU :: vI v6 :: vI v7 :: vI v8 :: vI v9 :: vI v10 :: vI v11 :: vI v12 :: vI v13 :: vU :: vI t0 :: vI (-1 : Int32) :: vI (-1 : Int32) :: vI (0 : Int32) :: vI (-1 : Int32) :: vI (0 : Int32) :: [])) ⟨rfl, rfl, rfl, rfl, rfl, rfl, rfl, rfl, rfl, rfl, rfl, rfl, rfl, rfl, trivial⟩ (okLAW_418 l Z a0 hw n0 n v6 v7 v8 v9 v10 v11 v12 v13 t0 (-1 : Int32) (-1 : Int32) (0 : Int32) (-1 : Int32) (0 : Int32) s0 _ h)
 ·
  refine WP.ifY (pc' := 350) at_329 (XT.i0_ne_t hc1) (by decide) rfl ?_
  refine WP.iloadN at_350 rfl ?_
  refine WP.iload at_351 rfl ?_
  rcases ite_e h with ⟨hc2, h⟩ | ⟨hc2, h⟩
  ·
   refine WP.icmpN at_353 (XT.ii_le_f hc2) ?_
   refine WP.iconst (5 : Int32) at_356 rfl ?_
   refine WP.istore (L' := (vU :: vU :: vI v2 :: vI v3 :: vI v4 :: vU :: vI v6 :: vI v7 :: vI v8 :: vI v9 :: vI v10 :: vI v11 :: vI v12 :: vI v13 :: vI v14 :: vI t0 :: vI (5 : Int32) :: vU :: vU :: vU :: vU :: [])) at_357 (leb rfl) rfl ?_
   refine WP.iconst (1 : Int32) at_359 rfl ?_
   refine WP.istore (L' := (vU :: vU :: vI v2 :: vI v3 :: vI v4 :: vU :: vI v6 :: vI v7 :: vI v8 :: vI v9 :: vI v10 :: vI v11 :: vI v12 :: vI v13 :: vI v14 :: vI t0 :: vI (5 : Int32) :: vI (1 : Int32) :: vU :: vU :: vU :: [])) at_360 (leb rfl) rfl ?_
   refine WP.iconst (0 : Int32) at_362 rfl ?_
   refine WP.istore (L' := (vU :: vU :: vI v2 :: vI v3 :: vI v4 :: vU :: vI v6 :: vI v7 :: vI v8 :: vI v9 :: vI v10 :: vI v11 :: vI v12 :: vI v13 :: vI v14 :: vI t0 :: vI (5 : Int32) :: vI (1 : Int32) :: vI (0 : Int32) :: vU :: vU :: [])) at_363 (leb rfl) rfl ?_
   refine WP.iconst (-1 : Int32) at_365 rfl ?_
   refine WP.istore (L' := (vU :: vU :: vI v2 :: vI v3 :: vI v4 :: vU :: vI v6 :: vI v7 :: vI v8 :: vI v9 :: vI v10 :: vI v11 :: vI v12 :: vI v13 :: vI v14 :: vI t0 :: vI (5 : Int32) :: vI (1 : Int32) :: vI (0 : Int32) :: vI (-1 : Int32) :: vU :: [])) at_366 (leb rfl) rfl ?_
   refine WP.iconst (0 : Int32) at_368 rfl ?_
   refine WP.istore (L' := (vU :: vU :: vI v2 :: vI v3 :: vI v4 :: vU :: vI v6 :: vI v7 :: vI v8 :: vI v9 :: vI v10 :: vI v11 :: vI v12 :: vI v13 :: vI v14 :: vI t0 :: vI (5 : Int32) :: vI (1 : Int32) :: vI (0 : Int32) :: vI (-1 : Int32) :: vI (0 : Int32) :: [])) at_369 (leb rfl) rfl ?_
   refine WP.goto (pc' := 418) at_371 (by decide) rfl ?_
   exact WP.weak (L' := (vU :: vU :: vU :: vU :: vU :: vU :: vI v6 :: vI v7 :: vI v8 :: vI v9 :: vI v10 :: vI v11 :: vI v12 :: vI v13 :: vU :: vI t0 :: vI (5 : Int32) :: vI (1 : Int32) :: vI (0 : Int32) :: vI (-1 : Int32) :: vI (0 : Int32) :: [])) ⟨rfl, rfl, rfl, rfl, rfl, rfl, rfl, rfl, rfl, rfl, rfl, rfl, rfl, rfl, trivial⟩ (okLAW_418 l Z a0 hw n0 n v6 v7 v8 v9 v10 v11 v12 v13 t0 (5 : Int32) (1 : Int32) (0 : Int32) (-1 : Int32) (0 : Int32) s0 _ h)
  ·
   refine WP.icmpY (pc' := 374) at_353 (XT.ii_le_t hc2) (by decide) rfl ?_
   refine WP.iloadN at_374 rfl ?_
   rcases ite_e h with ⟨hc3, h⟩ | ⟨hc3, h⟩
   ·
    refine WP.ifY (pc' := 383) at_375 (XT.i0_lt_t hc3) (by decide) rfl ?_
    exact WP.weak (L' := (vU :: vU :: vU :: vU :: vU :: vU :: vI v6 :: vI v7 :: vI v8 :: vI v9 :: vI v10 :: vI v11 :: vI v12 :: vI v13 :: vU :: vI t0 :: vU :: vU :: vU :: vU :: vU :: [])) ⟨rfl, rfl, rfl, rfl, rfl, rfl, rfl, rfl, rfl, trivial⟩ (okLAW_383 l Z a0 hw n0 n v6 v7 v8 v9 v10 v11 v12 v13 t0 s0 _ h)
   ·
    refine WP.ifN at_375 (XT.i0_lt_f hc3) ?_
    refine WP.iloadN at_378 rfl ?_
    refine WP.iloadN at_379 rfl ?_
    rcases ite_e h with ⟨hc4, h⟩ | ⟨hc4, h⟩
    ·
     refine WP.icmpY (pc' := 402) at_380 (XT.ii_lt_t hc4) (by decide) rfl ?_
     refine WP.iconst (0 : Int32) at_402 rfl ?_
     refine WP.istore (L' := (vU :: vU :: vI v2 :: vI v3 :: vI v4 :: vU :: vI v6 :: vI v7 :: vI v8 :: vI v9 :: vI v10 :: vI v11 :: vI v12 :: vI v13 :: vI v14 :: vI t0 :: vI (0 : Int32) :: vU :: vU :: vU :: vU :: [])) at_403 (leb rfl) rfl ?_
     refine WP.iconst (-1 : Int32) at_405 rfl ?_
     refine WP.istore (L' := (vU :: vU :: vI v2 :: vI v3 :: vI v4 :: vU :: vI v6 :: vI v7 :: vI v8 :: vI v9 :: vI v10 :: vI v11 :: vI v12 :: vI v13 :: vI v14 :: vI t0 :: vI (0 : Int32) :: vI (-1 : Int32) :: vU :: vU :: vU :: [])) at_406 (leb rfl) rfl ?_
     refine WP.iconst (0 : Int32) at_408 rfl ?_
     refine WP.istore (L' := (vU :: vU :: vI v2 :: vI v3 :: vI v4 :: vU :: vI v6 :: vI v7 :: vI v8 :: vI v9 :: vI v10 :: vI v11 :: vI v12 :: vI v13 :: vI v14 :: vI t0 :: vI (0 : Int32) :: vI (-1 : Int32) :: vI (0 : Int32) :: vU :: vU :: [])) at_409 (leb rfl) rfl ?_
     refine WP.iconst (0 : Int32) at_411 rfl ?_
     refine WP.istore (L' := (vU :: vU :: vI v2 :: vI v3 :: vI v4 :: vU :: vI v6 :: vI v7 :: vI v8 :: vI v9 :: vI v10 :: vI v11 :: vI v12 :: vI v13 :: vI v14 :: vI t0 :: vI (0 : Int32) :: vI (-1 : Int32) :: vI (0 : Int32) :: vI (0 : Int32) :: vU :: [])) at_412 (leb rfl) rfl ?_
     refine WP.iload at_414 rfl ?_
     refine WP.istore (L' := (vU :: vU :: vI v2 :: vI v3 :: vI v4 :: vU :: vI v6 :: vI v7 :: vI v8 :: vI v9 :: vI v10 :: vI v11 :: vI v12 :: vI v13 :: vI v14 :: vI t0 :: vI (0 : Int32) :: vI (-1 : Int32) :: vI (0 : Int32) :: vI (0 : Int32) :: vI v4 :: [])) at_416 (leb rfl) rfl ?_
     exact WP.weak (L' := (vU :: vU :: vU :: vU :: vU :: vU :: vI v6 :: vI v7 :: vI v8 :: vI v9 :: vI v10 :: vI v11 :: vI v12 :: vI v13 :: vU :: vI t0 :: vI (0 : Int32) :: vI (-1 : Int32) :: vI (0 : Int32) :: vI (0 : Int32) :: vI v4 :: [])) ⟨rfl, rfl, rfl, rfl, rfl, rfl, rfl, rfl, rfl, rfl, rfl, rfl, rfl, rfl, trivial⟩ (okLAW_418 l Z a0 hw n0 n v6 v7 v8 v9 v10 v11 v12 v13 t0 (0 : Int32) (-1 : Int32) (0 : Int32) (0 : Int32) v4 s0 _ h)
    ·
     refine WP.icmpN at_380 (XT.ii_lt_f hc4) ?_
     exact WP.weak (L' := (vU :: vU :: vU :: vU :: vU :: vU :: vI v6 :: vI v7 :: vI v8 :: vI v9 :: vI v10 :: vI v11 :: vI v12 :: vI v13 :: vU :: vI t0 :: vU :: vU :: vU :: vU :: vU :: [])) ⟨rfl, rfl, rfl, rfl, rfl, rfl, rfl, rfl, rfl, trivial⟩ (okLAW_383 l Z a0 hw n0 n v6 v7 v8 v9 v10 v11 v12 v13 t0 s0 _ h)
def f_law_324 (n : Nat) (v2 v3 v4 v6 v7 v8 v9 v10 v11 v12 v13 v14 : Int32) (s0 : St) : Option (Int32) :=
 f_law_325 n v2 v3 v4 v6 v7 v8 v9 v10 v11 v12 v13 v14 (0 : Int32) s0
theorem okLAW_324 (l : Launch) (Z : State) (a0 : Array Value) (hw : HW a0 Z) (n0 n : Nat) (v2 v3 v4 v6 v7 v8 v9 v10 v11 v12 v13 v14 : Int32) (s0 : St) (r : Int32) (h : f_law_324 n v2 v3 v4 v6 v7 v8 v9 v10 v11 v12 v13 v14 s0 = some r) : WLAW l Z n0 (PLAW r) 34 14040 324 (vU :: vU :: vI v2 :: vI v3 :: vI v4 :: vU :: vI v6 :: vI v7 :: vI v8 :: vI v9 :: vI v10 :: vI v11 :: vI v12 :: vI v13 :: vI v14 :: vU :: vU :: vU :: vU :: vU :: vU :: []) [] (Hb 0 s0) := by
 unfold f_law_324 at h
 refine WP.iconst (0 : Int32) at_324 rfl ?_
 exact WP.weak (L' := (vU :: vU :: vI v2 :: vI v3 :: vI v4 :: vU :: vI v6 :: vI v7 :: vI v8 :: vI v9 :: vI v10 :: vI v11 :: vI v12 :: vI v13 :: vI v14 :: vU :: vU :: vU :: vU :: vU :: vU :: [])) ⟨rfl, rfl, rfl, rfl, rfl, rfl, rfl, rfl, rfl, rfl, rfl, rfl, trivial⟩ (okLAW_325 l Z a0 hw n0 n v2 v3 v4 v6 v7 v8 v9 v10 v11 v12 v13 v14 (0 : Int32) s0 _ h)
def f_law_307 (n : Nat) (v2 v3 v4 v6 v7 v8 v9 v10 v11 v12 v13 t0 : Int32) (s0 : St) : Option (Int32) :=
 if v2 < (1 : Int32) then
  f_law_324 n v2 v3 v4 v6 v7 v8 v9 v10 v11 v12 v13 t0 s0
 else
  if (16 : Int32) < v2 then
   f_law_324 n v2 v3 v4 v6 v7 v8 v9 v10 v11 v12 v13 t0 s0
  else
   f_law_325 n v2 v3 v4 v6 v7 v8 v9 v10 v11 v12 v13 t0 (1 : Int32) s0
theorem okLAW_307 (l : Launch) (Z : State) (a0 : Array Value) (hw : HW a0 Z) (n0 n : Nat) (v2 v3 v4 v6 v7 v8 v9 v10 v11 v12 v13 t0 : Int32) (s0 : St) (r : Int32) (h : f_law_307 n v2 v3 v4 v6 v7 v8 v9 v10 v11 v12 v13 t0 s0 = some r) : WLAW l Z n0 (PLAW r) 34 14040 307 (vU :: vU :: vI v2 :: vI v3 :: vI v4 :: vU :: vI v6 :: vI v7 :: vI v8 :: vI v9 :: vI v10 :: vI v11 :: vI v12 :: vI v13 :: vU :: vU :: vU :: vU :: vU :: vU :: vU :: []) [.int t0] (Hb 0 s0) := by
 unfold f_law_307 at h
 refine WP.istore (L' := (vU :: vU :: vI v2 :: vI v3 :: vI v4 :: vU :: vI v6 :: vI v7 :: vI v8 :: vI v9 :: vI v10 :: vI v11 :: vI v12 :: vI v13 :: vI t0 :: vU :: vU :: vU :: vU :: vU :: vU :: [])) at_307 (leb rfl) rfl ?_
 refine WP.iloadN at_309 rfl ?_
 refine WP.iconst (1 : Int32) at_310 rfl ?_
 rcases ite_e h with ⟨hc1, h⟩ | ⟨hc1, h⟩
 ·
  refine WP.icmpY (pc' := 324) at_311 (XT.ii_lt_t hc1) (by decide) rfl ?_
  exact WP.weak (L' := (vU :: vU :: vI v2 :: vI v3 :: vI v4 :: vU :: vI v6 :: vI v7 :: vI v8 :: vI v9 :: vI v10 :: vI v11 :: vI v12 :: vI v13 :: vI t0 :: vU :: vU :: vU :: vU :: vU :: vU :: [])) ⟨rfl, rfl, rfl, rfl, rfl, rfl, rfl, rfl, rfl, rfl, rfl, rfl, trivial⟩ (okLAW_324 l Z a0 hw n0 n v2 v3 v4 v6 v7 v8 v9 v10 v11 v12 v13 t0 s0 _ h)
 ·
  refine WP.icmpN at_311 (XT.ii_lt_f hc1) ?_
  refine WP.iloadN at_314 rfl ?_
  refine WP.bipush (16 : Int32) at_315 rfl ?_
  rcases ite_e h with ⟨hc2, h⟩ | ⟨hc2, h⟩
  ·
   refine WP.icmpY (pc' := 324) at_317 (XT.ii_gt_t hc2) (by decide) rfl ?_
   exact WP.weak (L' := (vU :: vU :: vI v2 :: vI v3 :: vI v4 :: vU :: vI v6 :: vI v7 :: vI v8 :: vI v9 :: vI v10 :: vI v11 :: vI v12 :: vI v13 :: vI t0 :: vU :: vU :: vU :: vU :: vU :: vU :: [])) ⟨rfl, rfl, rfl, rfl, rfl, rfl, rfl, rfl, rfl, rfl, rfl, rfl, trivial⟩ (okLAW_324 l Z a0 hw n0 n v2 v3 v4 v6 v7 v8 v9 v10 v11 v12 v13 t0 s0 _ h)
  ·
   refine WP.icmpN at_317 (XT.ii_gt_f hc2) ?_
   refine WP.iconst (1 : Int32) at_320 rfl ?_
   refine WP.goto (pc' := 325) at_321 (by decide) rfl ?_
   exact WP.weak (L' := (vU :: vU :: vI v2 :: vI v3 :: vI v4 :: vU :: vI v6 :: vI v7 :: vI v8 :: vI v9 :: vI v10 :: vI v11 :: vI v12 :: vI v13 :: vI t0 :: vU :: vU :: vU :: vU :: vU :: vU :: [])) ⟨rfl, rfl, rfl, rfl, rfl, rfl, rfl, rfl, rfl, rfl, rfl, rfl, trivial⟩ (okLAW_325 l Z a0 hw n0 n v2 v3 v4 v6 v7 v8 v9 v10 v11 v12 v13 t0 (1 : Int32) s0 _ h)
def f_law (n : Nat) (p0 p1 p2 p3 p4 : Int32) : Option (Int32) :=
 (f_init p0 p1).bind fun c1 =>
 (f_tok (4 : Int32) (0 : Int32) c1).bind fun c2 =>
 (f_tok (3 : Int32) (0 : Int32) c2.2).bind fun c3 =>
 (f_tok (11 : Int32) (0 : Int32) c3.2).bind fun c4 =>
 (f_tok (12 : Int32) (0 : Int32) c4.2).bind fun c5 =>
 (f_tok (13 : Int32) (0 : Int32) c5.2).bind fun c6 =>
 (f_tok (6 : Int32) (0 : Int32) c6.2).bind fun c7 =>
 (f_tok (2 : Int32) (0 : Int32) c7.2).bind fun c8 =>
 (f_tok (15 : Int32) (0 : Int32) c8.2).bind fun c9 =>
 (f_tok (1 : Int32) p2 c9.2).bind fun c10 =>
 (f_tok (16 : Int32) (0 : Int32) c10.2).bind fun c11 =>
 (f_tok (17 : Int32) (0 : Int32) c11.2).bind fun c12 =>
 (f_tok (2 : Int32) (0 : Int32) c12.2).bind fun c13 =>
 (f_tok (15 : Int32) (0 : Int32) c13.2).bind fun c14 =>
 (f_tok (1 : Int32) p3 c14.2).bind fun c15 =>
 (f_tok (16 : Int32) (0 : Int32) c15.2).bind fun c16 =>
 (f_tok (19 : Int32) (0 : Int32) c16.2).bind fun c17 =>
 (f_tok (1 : Int32) p4 c17.2).bind fun c18 =>
 (f_tok (17 : Int32) (0 : Int32) c18.2).bind fun c19 =>
 (f_tok (9 : Int32) (0 : Int32) c19.2).bind fun c20 =>
 (f_tok (2 : Int32) (0 : Int32) c20.2).bind fun c21 =>
 (f_tok (15 : Int32) (0 : Int32) c21.2).bind fun c22 =>
 (f_tok (1 : Int32) p3 c22.2).bind fun c23 =>
 (f_tok (16 : Int32) (0 : Int32) c23.2).bind fun c24 =>
 (f_tok (17 : Int32) (0 : Int32) c24.2).bind fun c25 =>
 (f_tok (14 : Int32) (0 : Int32) c25.2).bind fun c26 =>
 (f_compile n c26.2).bind fun c27 =>
 (f_run n c27.2).bind fun c28 =>
 (f_status c28.2).bind fun c29 =>
 (f_trapSite c28.2).bind fun c30 =>
 (f_frames c28.2).bind fun c31 =>
 (f_resultKind c28.2).bind fun c32 =>
 (f_resultValue c28.2).bind fun c33 =>
 (f_outCount c28.2).bind fun c34 =>
 if p0 < (8 : Int32) then
  f_law_307 n p2 p3 p4 c27.1 c28.1 c29 c30 c31 c32 c33 c34 (8 : Int32) c28.2
 else
  if (64 : Int32) < p0 then
   f_law_307 n p2 p3 p4 c27.1 c28.1 c29 c30 c31 c32 c33 c34 (64 : Int32) c28.2
  else
   f_law_307 n p2 p3 p4 c27.1 c28.1 c29 c30 c31 c32 c33 c34 p0 c28.2
theorem okLAW (l : Launch) (Z : State) (a0 : Array Value) (hw : HW a0 Z) (n : Nat) (p0 p1 p2 p3 p4 r : Int32) (h : f_law n p0 p1 p2 p3 p4 = some r) : CS l Z CN lay x code maxLocals ret room_1 0 [.int p0, .int p1, .int p2, .int p3, .int p4] ([] : List OwnC) (PLAW r) := by
 refine CS.of_wp pn_law (leb rfl) fun n0 => ?_
 show WLAW l Z n0 (PLAW r) 0 0 0 (vI p0 :: vI p1 :: vI p2 :: vI p3 :: vI p4 :: vU :: vU :: vU :: vU :: vU :: vU :: vU :: vU :: vU :: vU :: vU :: vU :: vU :: vU :: vU :: vU :: []) [] ([] : List OwnC)
 unfold f_law at h
 refine WP.new (vs := vs0) at_0 (hw _ m_0) (hw _ m_1) (hw _ m_2) (leb rfl) (leb rfl) (vs0_ok hw) ?_
 show WLAW l Z n0 (PLAW r) 1 52 3 (vI p0 :: vI p1 :: vI p2 :: vI p3 :: vI p4 :: vU :: vU :: vU :: vU :: vU :: vU :: vU :: vU :: vU :: vU :: vU :: vU :: vU :: vU :: vU :: vU :: []) [.ref 0] ([cO vs0])
 refine WP.dup at_3 rfl ?_
 refine WP.iloadN at_4 rfl ?_
 refine WP.iloadN at_5 rfl ?_
 obtain ⟨c1, hc1, h⟩ := bd h
 refine WP.callI (i := 0) (y := y0) (as := [.int p0, .int p1]) (S := [.ref 0]) at_6 rfl (hw _ m_3) (hw _ m_4) (hw _ m_5) (hw _ m_2) hy0 (ok0 l Z a0 hw p0 p1 _ hc1) rfl (lenOf pd0 rfl) (leb rfl) (leb rfl) (leb rfl) (leb rfl) ?_
 rintro _ _ ⟨rfl, rfl⟩
 show WLAW l Z n0 (PLAW r) 34 14040 9 (vI p0 :: vI p1 :: vI p2 :: vI p3 :: vI p4 :: vU :: vU :: vU :: vU :: vU :: vU :: vU :: vU :: vU :: vU :: vU :: vU :: vU :: vU :: vU :: vU :: []) [.ref 0] (Hb 0 c1)
 refine WP.astore (L' := (vI p0 :: vI p1 :: vI p2 :: vI p3 :: vI p4 :: vR 0 :: vU :: vU :: vU :: vU :: vU :: vU :: vU :: vU :: vU :: vU :: vU :: vU :: vU :: vU :: vU :: [])) at_9 (leb rfl) rfl ?_
 refine WP.aload at_11 rfl ?_
 refine WP.iconst (4 : Int32) at_13 rfl ?_
 refine WP.iconst (0 : Int32) at_14 rfl ?_
 obtain ⟨c2, hc2, h⟩ := bd h
 refine WP.callV (i := 0) (y := y2) (as := [.int (4 : Int32), oN]) (S := []) at_15 (hw _ m_99) (hw _ m_100) (hw _ m_102) (hw _ m_101) (hw _ m_103) (hw _ m_2) hy2 rfl (ok2 l Z a0 hw (4 : Int32) (0 : Int32) c1 _ hc2) rfl (lenOf pd2 rfl) (leb rfl) (leb rfl) (leb rfl) (leb rfl) ?_
 rintro _ _ ⟨rfl, rfl⟩
 show WLAW l Z n0 (PLAW r) 34 14040 18 (vI p0 :: vI p1 :: vI p2 :: vI p3 :: vI p4 :: vR 0 :: vU :: vU :: vU :: vU :: vU :: vU :: vU :: vU :: vU :: vU :: vU :: vU :: vU :: vU :: vU :: []) [.int c2.1] (Hb 0 c2.2)
 refine WP.pop at_18 rfl ?_
 refine WP.aload at_19 rfl ?_
 refine WP.iconst (3 : Int32) at_21 rfl ?_
 refine WP.iconst (0 : Int32) at_22 rfl ?_
 obtain ⟨c3, hc3, h⟩ := bd h
 refine WP.callV (i := 0) (y := y2) (as := [.int (3 : Int32), oN]) (S := []) at_23 (hw _ m_99) (hw _ m_100) (hw _ m_102) (hw _ m_101) (hw _ m_103) (hw _ m_2) hy2 rfl (ok2 l Z a0 hw (3 : Int32) (0 : Int32) c2.2 _ hc3) rfl (lenOf pd2 rfl) (leb rfl) (leb rfl) (leb rfl) (leb rfl) ?_
 rintro _ _ ⟨rfl, rfl⟩
 show WLAW l Z n0 (PLAW r) 34 14040 26 (vI p0 :: vI p1 :: vI p2 :: vI p3 :: vI p4 :: vR 0 :: vU :: vU :: vU :: vU :: vU :: vU :: vU :: vU :: vU :: vU :: vU :: vU :: vU :: vU :: vU :: []) [.int c3.1] (Hb 0 c3.2)
 refine WP.pop at_26 rfl ?_
 refine WP.aload at_27 rfl ?_
 refine WP.bipush (11 : Int32) at_29 rfl ?_
 refine WP.iconst (0 : Int32) at_31 rfl ?_
 obtain ⟨c4, hc4, h⟩ := bd h
 refine WP.callV (i := 0) (y := y2) (as := [.int (11 : Int32), oN]) (S := []) at_32 (hw _ m_99) (hw _ m_100) (hw _ m_102) (hw _ m_101) (hw _ m_103) (hw _ m_2) hy2 rfl (ok2 l Z a0 hw (11 : Int32) (0 : Int32) c3.2 _ hc4) rfl (lenOf pd2 rfl) (leb rfl) (leb rfl) (leb rfl) (leb rfl) ?_
 rintro _ _ ⟨rfl, rfl⟩
 show WLAW l Z n0 (PLAW r) 34 14040 35 (vI p0 :: vI p1 :: vI p2 :: vI p3 :: vI p4 :: vR 0 :: vU :: vU :: vU :: vU :: vU :: vU :: vU :: vU :: vU :: vU :: vU :: vU :: vU :: vU :: vU :: []) [.int c4.1] (Hb 0 c4.2)
 refine WP.pop at_35 rfl ?_
 refine WP.aload at_36 rfl ?_
 refine WP.bipush (12 : Int32) at_38 rfl ?_
 refine WP.iconst (0 : Int32) at_40 rfl ?_
 obtain ⟨c5, hc5, h⟩ := bd h
 refine WP.callV (i := 0) (y := y2) (as := [.int (12 : Int32), oN]) (S := []) at_41 (hw _ m_99) (hw _ m_100) (hw _ m_102) (hw _ m_101) (hw _ m_103) (hw _ m_2) hy2 rfl (ok2 l Z a0 hw (12 : Int32) (0 : Int32) c4.2 _ hc5) rfl (lenOf pd2 rfl) (leb rfl) (leb rfl) (leb rfl) (leb rfl) ?_
 rintro _ _ ⟨rfl, rfl⟩
 show WLAW l Z n0 (PLAW r) 34 14040 44 (vI p0 :: vI p1 :: vI p2 :: vI p3 :: vI p4 :: vR 0 :: vU :: vU :: vU :: vU :: vU :: vU :: vU :: vU :: vU :: vU :: vU :: vU :: vU :: vU :: vU :: []) [.int c5.1] (Hb 0 c5.2)
 refine WP.pop at_44 rfl ?_
 refine WP.aload at_45 rfl ?_
 refine WP.bipush (13 : Int32) at_47 rfl ?_
 refine WP.iconst (0 : Int32) at_49 rfl ?_
 obtain ⟨c6, hc6, h⟩ := bd h
 refine WP.callV (i := 0) (y := y2) (as := [.int (13 : Int32), oN]) (S := []) at_50 (hw _ m_99) (hw _ m_100) (hw _ m_102) (hw _ m_101) (hw _ m_103) (hw _ m_2) hy2 rfl (ok2 l Z a0 hw (13 : Int32) (0 : Int32) c5.2 _ hc6) rfl (lenOf pd2 rfl) (leb rfl) (leb rfl) (leb rfl) (leb rfl) ?_
 rintro _ _ ⟨rfl, rfl⟩
 show WLAW l Z n0 (PLAW r) 34 14040 53 (vI p0 :: vI p1 :: vI p2 :: vI p3 :: vI p4 :: vR 0 :: vU :: vU :: vU :: vU :: vU :: vU :: vU :: vU :: vU :: vU :: vU :: vU :: vU :: vU :: vU :: []) [.int c6.1] (Hb 0 c6.2)
 refine WP.pop at_53 rfl ?_
 refine WP.aload at_54 rfl ?_
 refine WP.bipush (6 : Int32) at_56 rfl ?_
 refine WP.iconst (0 : Int32) at_58 rfl ?_
 obtain ⟨c7, hc7, h⟩ := bd h
 refine WP.callV (i := 0) (y := y2) (as := [.int (6 : Int32), oN]) (S := []) at_59 (hw _ m_99) (hw _ m_100) (hw _ m_102) (hw _ m_101) (hw _ m_103) (hw _ m_2) hy2 rfl (ok2 l Z a0 hw (6 : Int32) (0 : Int32) c6.2 _ hc7) rfl (lenOf pd2 rfl) (leb rfl) (leb rfl) (leb rfl) (leb rfl) ?_
 rintro _ _ ⟨rfl, rfl⟩
 show WLAW l Z n0 (PLAW r) 34 14040 62 (vI p0 :: vI p1 :: vI p2 :: vI p3 :: vI p4 :: vR 0 :: vU :: vU :: vU :: vU :: vU :: vU :: vU :: vU :: vU :: vU :: vU :: vU :: vU :: vU :: vU :: []) [.int c7.1] (Hb 0 c7.2)
 refine WP.pop at_62 rfl ?_
 refine WP.aload at_63 rfl ?_
 refine WP.iconst (2 : Int32) at_65 rfl ?_
 refine WP.iconst (0 : Int32) at_66 rfl ?_
 obtain ⟨c8, hc8, h⟩ := bd h
 refine WP.callV (i := 0) (y := y2) (as := [.int (2 : Int32), oN]) (S := []) at_67 (hw _ m_99) (hw _ m_100) (hw _ m_102) (hw _ m_101) (hw _ m_103) (hw _ m_2) hy2 rfl (ok2 l Z a0 hw (2 : Int32) (0 : Int32) c7.2 _ hc8) rfl (lenOf pd2 rfl) (leb rfl) (leb rfl) (leb rfl) (leb rfl) ?_
 rintro _ _ ⟨rfl, rfl⟩
 show WLAW l Z n0 (PLAW r) 34 14040 70 (vI p0 :: vI p1 :: vI p2 :: vI p3 :: vI p4 :: vR 0 :: vU :: vU :: vU :: vU :: vU :: vU :: vU :: vU :: vU :: vU :: vU :: vU :: vU :: vU :: vU :: []) [.int c8.1] (Hb 0 c8.2)
 refine WP.pop at_70 rfl ?_
 refine WP.aload at_71 rfl ?_
 refine WP.bipush (15 : Int32) at_73 rfl ?_
 refine WP.iconst (0 : Int32) at_75 rfl ?_
 obtain ⟨c9, hc9, h⟩ := bd h
 refine WP.callV (i := 0) (y := y2) (as := [.int (15 : Int32), oN]) (S := []) at_76 (hw _ m_99) (hw _ m_100) (hw _ m_102) (hw _ m_101) (hw _ m_103) (hw _ m_2) hy2 rfl (ok2 l Z a0 hw (15 : Int32) (0 : Int32) c8.2 _ hc9) rfl (lenOf pd2 rfl) (leb rfl) (leb rfl) (leb rfl) (leb rfl) ?_
 rintro _ _ ⟨rfl, rfl⟩
 show WLAW l Z n0 (PLAW r) 34 14040 79 (vI p0 :: vI p1 :: vI p2 :: vI p3 :: vI p4 :: vR 0 :: vU :: vU :: vU :: vU :: vU :: vU :: vU :: vU :: vU :: vU :: vU :: vU :: vU :: vU :: vU :: []) [.int c9.1] (Hb 0 c9.2)
 refine WP.pop at_79 rfl ?_
 refine WP.aload at_80 rfl ?_
 refine WP.iconst (1 : Int32) at_82 rfl ?_
 refine WP.iloadN at_83 rfl ?_
 obtain ⟨c10, hc10, h⟩ := bd h
 refine WP.callV (i := 0) (y := y2) (as := [.int (1 : Int32), .int p2]) (S := []) at_84 (hw _ m_99) (hw _ m_100) (hw _ m_102) (hw _ m_101) (hw _ m_103) (hw _ m_2) hy2 rfl (ok2 l Z a0 hw (1 : Int32) p2 c9.2 _ hc10) rfl (lenOf pd2 rfl) (leb rfl) (leb rfl) (leb rfl) (leb rfl) ?_
 rintro _ _ ⟨rfl, rfl⟩
 show WLAW l Z n0 (PLAW r) 34 14040 87 (vI p0 :: vI p1 :: vI p2 :: vI p3 :: vI p4 :: vR 0 :: vU :: vU :: vU :: vU :: vU :: vU :: vU :: vU :: vU :: vU :: vU :: vU :: vU :: vU :: vU :: []) [.int c10.1] (Hb 0 c10.2)
 refine WP.pop at_87 rfl ?_
 refine WP.aload at_88 rfl ?_
 refine WP.bipush (16 : Int32) at_90 rfl ?_
 refine WP.iconst (0 : Int32) at_92 rfl ?_
 obtain ⟨c11, hc11, h⟩ := bd h
 refine WP.callV (i := 0) (y := y2) (as := [.int (16 : Int32), oN]) (S := []) at_93 (hw _ m_99) (hw _ m_100) (hw _ m_102) (hw _ m_101) (hw _ m_103) (hw _ m_2) hy2 rfl (ok2 l Z a0 hw (16 : Int32) (0 : Int32) c10.2 _ hc11) rfl (lenOf pd2 rfl) (leb rfl) (leb rfl) (leb rfl) (leb rfl) ?_
 rintro _ _ ⟨rfl, rfl⟩
 show WLAW l Z n0 (PLAW r) 34 14040 96 (vI p0 :: vI p1 :: vI p2 :: vI p3 :: vI p4 :: vR 0 :: vU :: vU :: vU :: vU :: vU :: vU :: vU :: vU :: vU :: vU :: vU :: vU :: vU :: vU :: vU :: []) [.int c11.1] (Hb 0 c11.2)
 refine WP.pop at_96 rfl ?_
 refine WP.aload at_97 rfl ?_
 refine WP.bipush (17 : Int32) at_99 rfl ?_
 refine WP.iconst (0 : Int32) at_101 rfl ?_
 obtain ⟨c12, hc12, h⟩ := bd h
 refine WP.callV (i := 0) (y := y2) (as := [.int (17 : Int32), oN]) (S := []) at_102 (hw _ m_99) (hw _ m_100) (hw _ m_102) (hw _ m_101) (hw _ m_103) (hw _ m_2) hy2 rfl (ok2 l Z a0 hw (17 : Int32) (0 : Int32) c11.2 _ hc12) rfl (lenOf pd2 rfl) (leb rfl) (leb rfl) (leb rfl) (leb rfl) ?_
 rintro _ _ ⟨rfl, rfl⟩
 show WLAW l Z n0 (PLAW r) 34 14040 105 (vI p0 :: vI p1 :: vI p2 :: vI p3 :: vI p4 :: vR 0 :: vU :: vU :: vU :: vU :: vU :: vU :: vU :: vU :: vU :: vU :: vU :: vU :: vU :: vU :: vU :: []) [.int c12.1] (Hb 0 c12.2)
 refine WP.pop at_105 rfl ?_
 refine WP.aload at_106 rfl ?_
 refine WP.iconst (2 : Int32) at_108 rfl ?_
 refine WP.iconst (0 : Int32) at_109 rfl ?_
 obtain ⟨c13, hc13, h⟩ := bd h
 refine WP.callV (i := 0) (y := y2) (as := [.int (2 : Int32), oN]) (S := []) at_110 (hw _ m_99) (hw _ m_100) (hw _ m_102) (hw _ m_101) (hw _ m_103) (hw _ m_2) hy2 rfl (ok2 l Z a0 hw (2 : Int32) (0 : Int32) c12.2 _ hc13) rfl (lenOf pd2 rfl) (leb rfl) (leb rfl) (leb rfl) (leb rfl) ?_
 rintro _ _ ⟨rfl, rfl⟩
 show WLAW l Z n0 (PLAW r) 34 14040 113 (vI p0 :: vI p1 :: vI p2 :: vI p3 :: vI p4 :: vR 0 :: vU :: vU :: vU :: vU :: vU :: vU :: vU :: vU :: vU :: vU :: vU :: vU :: vU :: vU :: vU :: []) [.int c13.1] (Hb 0 c13.2)
 refine WP.pop at_113 rfl ?_
 refine WP.aload at_114 rfl ?_
 refine WP.bipush (15 : Int32) at_116 rfl ?_
 refine WP.iconst (0 : Int32) at_118 rfl ?_
 obtain ⟨c14, hc14, h⟩ := bd h
 refine WP.callV (i := 0) (y := y2) (as := [.int (15 : Int32), oN]) (S := []) at_119 (hw _ m_99) (hw _ m_100) (hw _ m_102) (hw _ m_101) (hw _ m_103) (hw _ m_2) hy2 rfl (ok2 l Z a0 hw (15 : Int32) (0 : Int32) c13.2 _ hc14) rfl (lenOf pd2 rfl) (leb rfl) (leb rfl) (leb rfl) (leb rfl) ?_
 rintro _ _ ⟨rfl, rfl⟩
 show WLAW l Z n0 (PLAW r) 34 14040 122 (vI p0 :: vI p1 :: vI p2 :: vI p3 :: vI p4 :: vR 0 :: vU :: vU :: vU :: vU :: vU :: vU :: vU :: vU :: vU :: vU :: vU :: vU :: vU :: vU :: vU :: []) [.int c14.1] (Hb 0 c14.2)
 refine WP.pop at_122 rfl ?_
 refine WP.aload at_123 rfl ?_
 refine WP.iconst (1 : Int32) at_125 rfl ?_
 refine WP.iloadN at_126 rfl ?_
 obtain ⟨c15, hc15, h⟩ := bd h
 refine WP.callV (i := 0) (y := y2) (as := [.int (1 : Int32), .int p3]) (S := []) at_127 (hw _ m_99) (hw _ m_100) (hw _ m_102) (hw _ m_101) (hw _ m_103) (hw _ m_2) hy2 rfl (ok2 l Z a0 hw (1 : Int32) p3 c14.2 _ hc15) rfl (lenOf pd2 rfl) (leb rfl) (leb rfl) (leb rfl) (leb rfl) ?_
 rintro _ _ ⟨rfl, rfl⟩
 show WLAW l Z n0 (PLAW r) 34 14040 130 (vI p0 :: vI p1 :: vI p2 :: vI p3 :: vI p4 :: vR 0 :: vU :: vU :: vU :: vU :: vU :: vU :: vU :: vU :: vU :: vU :: vU :: vU :: vU :: vU :: vU :: []) [.int c15.1] (Hb 0 c15.2)
 refine WP.pop at_130 rfl ?_
 refine WP.aload at_131 rfl ?_
 refine WP.bipush (16 : Int32) at_133 rfl ?_
 refine WP.iconst (0 : Int32) at_135 rfl ?_
 obtain ⟨c16, hc16, h⟩ := bd h
 refine WP.callV (i := 0) (y := y2) (as := [.int (16 : Int32), oN]) (S := []) at_136 (hw _ m_99) (hw _ m_100) (hw _ m_102) (hw _ m_101) (hw _ m_103) (hw _ m_2) hy2 rfl (ok2 l Z a0 hw (16 : Int32) (0 : Int32) c15.2 _ hc16) rfl (lenOf pd2 rfl) (leb rfl) (leb rfl) (leb rfl) (leb rfl) ?_
 rintro _ _ ⟨rfl, rfl⟩
 show WLAW l Z n0 (PLAW r) 34 14040 139 (vI p0 :: vI p1 :: vI p2 :: vI p3 :: vI p4 :: vR 0 :: vU :: vU :: vU :: vU :: vU :: vU :: vU :: vU :: vU :: vU :: vU :: vU :: vU :: vU :: vU :: []) [.int c16.1] (Hb 0 c16.2)
 refine WP.pop at_139 rfl ?_
 refine WP.aload at_140 rfl ?_
 refine WP.bipush (19 : Int32) at_142 rfl ?_
 refine WP.iconst (0 : Int32) at_144 rfl ?_
 obtain ⟨c17, hc17, h⟩ := bd h
 refine WP.callV (i := 0) (y := y2) (as := [.int (19 : Int32), oN]) (S := []) at_145 (hw _ m_99) (hw _ m_100) (hw _ m_102) (hw _ m_101) (hw _ m_103) (hw _ m_2) hy2 rfl (ok2 l Z a0 hw (19 : Int32) (0 : Int32) c16.2 _ hc17) rfl (lenOf pd2 rfl) (leb rfl) (leb rfl) (leb rfl) (leb rfl) ?_
 rintro _ _ ⟨rfl, rfl⟩
 show WLAW l Z n0 (PLAW r) 34 14040 148 (vI p0 :: vI p1 :: vI p2 :: vI p3 :: vI p4 :: vR 0 :: vU :: vU :: vU :: vU :: vU :: vU :: vU :: vU :: vU :: vU :: vU :: vU :: vU :: vU :: vU :: []) [.int c17.1] (Hb 0 c17.2)
 refine WP.pop at_148 rfl ?_
 refine WP.aload at_149 rfl ?_
 refine WP.iconst (1 : Int32) at_151 rfl ?_
 refine WP.iload at_152 rfl ?_
 obtain ⟨c18, hc18, h⟩ := bd h
 refine WP.callV (i := 0) (y := y2) (as := [.int (1 : Int32), .int p4]) (S := []) at_154 (hw _ m_99) (hw _ m_100) (hw _ m_102) (hw _ m_101) (hw _ m_103) (hw _ m_2) hy2 rfl (ok2 l Z a0 hw (1 : Int32) p4 c17.2 _ hc18) rfl (lenOf pd2 rfl) (leb rfl) (leb rfl) (leb rfl) (leb rfl) ?_
 rintro _ _ ⟨rfl, rfl⟩
 show WLAW l Z n0 (PLAW r) 34 14040 157 (vI p0 :: vI p1 :: vI p2 :: vI p3 :: vI p4 :: vR 0 :: vU :: vU :: vU :: vU :: vU :: vU :: vU :: vU :: vU :: vU :: vU :: vU :: vU :: vU :: vU :: []) [.int c18.1] (Hb 0 c18.2)
 refine WP.pop at_157 rfl ?_
 refine WP.aload at_158 rfl ?_
 refine WP.bipush (17 : Int32) at_160 rfl ?_
 refine WP.iconst (0 : Int32) at_162 rfl ?_
 obtain ⟨c19, hc19, h⟩ := bd h
 refine WP.callV (i := 0) (y := y2) (as := [.int (17 : Int32), oN]) (S := []) at_163 (hw _ m_99) (hw _ m_100) (hw _ m_102) (hw _ m_101) (hw _ m_103) (hw _ m_2) hy2 rfl (ok2 l Z a0 hw (17 : Int32) (0 : Int32) c18.2 _ hc19) rfl (lenOf pd2 rfl) (leb rfl) (leb rfl) (leb rfl) (leb rfl) ?_
 rintro _ _ ⟨rfl, rfl⟩
 show WLAW l Z n0 (PLAW r) 34 14040 166 (vI p0 :: vI p1 :: vI p2 :: vI p3 :: vI p4 :: vR 0 :: vU :: vU :: vU :: vU :: vU :: vU :: vU :: vU :: vU :: vU :: vU :: vU :: vU :: vU :: vU :: []) [.int c19.1] (Hb 0 c19.2)
 refine WP.pop at_166 rfl ?_
 refine WP.aload at_167 rfl ?_
 refine WP.bipush (9 : Int32) at_169 rfl ?_
 refine WP.iconst (0 : Int32) at_171 rfl ?_
 obtain ⟨c20, hc20, h⟩ := bd h
 refine WP.callV (i := 0) (y := y2) (as := [.int (9 : Int32), oN]) (S := []) at_172 (hw _ m_99) (hw _ m_100) (hw _ m_102) (hw _ m_101) (hw _ m_103) (hw _ m_2) hy2 rfl (ok2 l Z a0 hw (9 : Int32) (0 : Int32) c19.2 _ hc20) rfl (lenOf pd2 rfl) (leb rfl) (leb rfl) (leb rfl) (leb rfl) ?_
 rintro _ _ ⟨rfl, rfl⟩
 show WLAW l Z n0 (PLAW r) 34 14040 175 (vI p0 :: vI p1 :: vI p2 :: vI p3 :: vI p4 :: vR 0 :: vU :: vU :: vU :: vU :: vU :: vU :: vU :: vU :: vU :: vU :: vU :: vU :: vU :: vU :: vU :: []) [.int c20.1] (Hb 0 c20.2)
 refine WP.pop at_175 rfl ?_
 refine WP.aload at_176 rfl ?_
 refine WP.iconst (2 : Int32) at_178 rfl ?_
 refine WP.iconst (0 : Int32) at_179 rfl ?_
 obtain ⟨c21, hc21, h⟩ := bd h
 refine WP.callV (i := 0) (y := y2) (as := [.int (2 : Int32), oN]) (S := []) at_180 (hw _ m_99) (hw _ m_100) (hw _ m_102) (hw _ m_101) (hw _ m_103) (hw _ m_2) hy2 rfl (ok2 l Z a0 hw (2 : Int32) (0 : Int32) c20.2 _ hc21) rfl (lenOf pd2 rfl) (leb rfl) (leb rfl) (leb rfl) (leb rfl) ?_
 rintro _ _ ⟨rfl, rfl⟩
 show WLAW l Z n0 (PLAW r) 34 14040 183 (vI p0 :: vI p1 :: vI p2 :: vI p3 :: vI p4 :: vR 0 :: vU :: vU :: vU :: vU :: vU :: vU :: vU :: vU :: vU :: vU :: vU :: vU :: vU :: vU :: vU :: []) [.int c21.1] (Hb 0 c21.2)
 refine WP.pop at_183 rfl ?_
 refine WP.aload at_184 rfl ?_
 refine WP.bipush (15 : Int32) at_186 rfl ?_
 refine WP.iconst (0 : Int32) at_188 rfl ?_
 obtain ⟨c22, hc22, h⟩ := bd h
 refine WP.callV (i := 0) (y := y2) (as := [.int (15 : Int32), oN]) (S := []) at_189 (hw _ m_99) (hw _ m_100) (hw _ m_102) (hw _ m_101) (hw _ m_103) (hw _ m_2) hy2 rfl (ok2 l Z a0 hw (15 : Int32) (0 : Int32) c21.2 _ hc22) rfl (lenOf pd2 rfl) (leb rfl) (leb rfl) (leb rfl) (leb rfl) ?_
 rintro _ _ ⟨rfl, rfl⟩
 show WLAW l Z n0 (PLAW r) 34 14040 192 (vI p0 :: vI p1 :: vI p2 :: vI p3 :: vI p4 :: vR 0 :: vU :: vU :: vU :: vU :: vU :: vU :: vU :: vU :: vU :: vU :: vU :: vU :: vU :: vU :: vU :: []) [.int c22.1] (Hb 0 c22.2)
 refine WP.pop at_192 rfl ?_
 refine WP.aload at_193 rfl ?_
 refine WP.iconst (1 : Int32) at_195 rfl ?_
 refine WP.iloadN at_196 rfl ?_
 obtain ⟨c23, hc23, h⟩ := bd h
 refine WP.callV (i := 0) (y := y2) (as := [.int (1 : Int32), .int p3]) (S := []) at_197 (hw _ m_99) (hw _ m_100) (hw _ m_102) (hw _ m_101) (hw _ m_103) (hw _ m_2) hy2 rfl (ok2 l Z a0 hw (1 : Int32) p3 c22.2 _ hc23) rfl (lenOf pd2 rfl) (leb rfl) (leb rfl) (leb rfl) (leb rfl) ?_
 rintro _ _ ⟨rfl, rfl⟩
 show WLAW l Z n0 (PLAW r) 34 14040 200 (vI p0 :: vI p1 :: vI p2 :: vI p3 :: vI p4 :: vR 0 :: vU :: vU :: vU :: vU :: vU :: vU :: vU :: vU :: vU :: vU :: vU :: vU :: vU :: vU :: vU :: []) [.int c23.1] (Hb 0 c23.2)
 refine WP.pop at_200 rfl ?_
 refine WP.aload at_201 rfl ?_
 refine WP.bipush (16 : Int32) at_203 rfl ?_
 refine WP.iconst (0 : Int32) at_205 rfl ?_
 obtain ⟨c24, hc24, h⟩ := bd h
 refine WP.callV (i := 0) (y := y2) (as := [.int (16 : Int32), oN]) (S := []) at_206 (hw _ m_99) (hw _ m_100) (hw _ m_102) (hw _ m_101) (hw _ m_103) (hw _ m_2) hy2 rfl (ok2 l Z a0 hw (16 : Int32) (0 : Int32) c23.2 _ hc24) rfl (lenOf pd2 rfl) (leb rfl) (leb rfl) (leb rfl) (leb rfl) ?_
 rintro _ _ ⟨rfl, rfl⟩
 show WLAW l Z n0 (PLAW r) 34 14040 209 (vI p0 :: vI p1 :: vI p2 :: vI p3 :: vI p4 :: vR 0 :: vU :: vU :: vU :: vU :: vU :: vU :: vU :: vU :: vU :: vU :: vU :: vU :: vU :: vU :: vU :: []) [.int c24.1] (Hb 0 c24.2)
 refine WP.pop at_209 rfl ?_
 refine WP.aload at_210 rfl ?_
 refine WP.bipush (17 : Int32) at_212 rfl ?_
 refine WP.iconst (0 : Int32) at_214 rfl ?_
 obtain ⟨c25, hc25, h⟩ := bd h
 refine WP.callV (i := 0) (y := y2) (as := [.int (17 : Int32), oN]) (S := []) at_215 (hw _ m_99) (hw _ m_100) (hw _ m_102) (hw _ m_101) (hw _ m_103) (hw _ m_2) hy2 rfl (ok2 l Z a0 hw (17 : Int32) (0 : Int32) c24.2 _ hc25) rfl (lenOf pd2 rfl) (leb rfl) (leb rfl) (leb rfl) (leb rfl) ?_
 rintro _ _ ⟨rfl, rfl⟩
 show WLAW l Z n0 (PLAW r) 34 14040 218 (vI p0 :: vI p1 :: vI p2 :: vI p3 :: vI p4 :: vR 0 :: vU :: vU :: vU :: vU :: vU :: vU :: vU :: vU :: vU :: vU :: vU :: vU :: vU :: vU :: vU :: []) [.int c25.1] (Hb 0 c25.2)
 refine WP.pop at_218 rfl ?_
 refine WP.aload at_219 rfl ?_
 refine WP.bipush (14 : Int32) at_221 rfl ?_
 refine WP.iconst (0 : Int32) at_223 rfl ?_
 obtain ⟨c26, hc26, h⟩ := bd h
 refine WP.callV (i := 0) (y := y2) (as := [.int (14 : Int32), oN]) (S := []) at_224 (hw _ m_99) (hw _ m_100) (hw _ m_102) (hw _ m_101) (hw _ m_103) (hw _ m_2) hy2 rfl (ok2 l Z a0 hw (14 : Int32) (0 : Int32) c25.2 _ hc26) rfl (lenOf pd2 rfl) (leb rfl) (leb rfl) (leb rfl) (leb rfl) ?_
 rintro _ _ ⟨rfl, rfl⟩
 show WLAW l Z n0 (PLAW r) 34 14040 227 (vI p0 :: vI p1 :: vI p2 :: vI p3 :: vI p4 :: vR 0 :: vU :: vU :: vU :: vU :: vU :: vU :: vU :: vU :: vU :: vU :: vU :: vU :: vU :: vU :: vU :: []) [.int c26.1] (Hb 0 c26.2)
 refine WP.pop at_227 rfl ?_
 refine WP.aload at_228 rfl ?_
 obtain ⟨c27, hc27, h⟩ := bd h
 refine WP.callV (i := 0) (y := y3) (as := []) (S := []) at_230 (hw _ m_108) (hw _ m_109) (hw _ m_111) (hw _ m_110) (hw _ m_112) (hw _ m_2) hy3 rfl (ok3 l Z a0 hw n c26.2 _ hc27) rfl (lenOf pd3 rfl) (leb rfl) (leb rfl) (leb rfl) (leb rfl) ?_
 rintro _ _ ⟨rfl, rfl⟩
 show WLAW l Z n0 (PLAW r) 34 14040 233 (vI p0 :: vI p1 :: vI p2 :: vI p3 :: vI p4 :: vR 0 :: vU :: vU :: vU :: vU :: vU :: vU :: vU :: vU :: vU :: vU :: vU :: vU :: vU :: vU :: vU :: []) [.int c27.1] (Hb 0 c27.2)
 refine WP.istore (L' := (vI p0 :: vI p1 :: vI p2 :: vI p3 :: vI p4 :: vR 0 :: vI c27.1 :: vU :: vU :: vU :: vU :: vU :: vU :: vU :: vU :: vU :: vU :: vU :: vU :: vU :: vU :: [])) at_233 (leb rfl) rfl ?_
 refine WP.aload at_235 rfl ?_
 obtain ⟨c28, hc28, h⟩ := bd h
 refine WP.callV (i := 0) (y := y24) (as := []) (S := []) at_237 (hw _ m_199) (hw _ m_200) (hw _ m_202) (hw _ m_201) (hw _ m_203) (hw _ m_2) hy24 rfl (ok24 l Z a0 hw n c27.2 _ hc28) rfl (lenOf pd24 rfl) (leb rfl) (leb rfl) (leb rfl) (leb rfl) ?_
 rintro _ _ ⟨rfl, rfl⟩
 show WLAW l Z n0 (PLAW r) 34 14040 240 (vI p0 :: vI p1 :: vI p2 :: vI p3 :: vI p4 :: vR 0 :: vI c27.1 :: vU :: vU :: vU :: vU :: vU :: vU :: vU :: vU :: vU :: vU :: vU :: vU :: vU :: vU :: []) [.int c28.1] (Hb 0 c28.2)
 refine WP.istore (L' := (vI p0 :: vI p1 :: vI p2 :: vI p3 :: vI p4 :: vR 0 :: vI c27.1 :: vI c28.1 :: vU :: vU :: vU :: vU :: vU :: vU :: vU :: vU :: vU :: vU :: vU :: vU :: vU :: [])) at_240 (leb rfl) rfl ?_
 refine WP.aload at_242 rfl ?_
 obtain ⟨c29, hc29, h⟩ := bd h
 refine WP.callV (i := 0) (y := y44) (as := []) (S := []) at_244 (hw _ m_291) (hw _ m_292) (hw _ m_294) (hw _ m_293) (hw _ m_295) (hw _ m_2) hy44 rfl (ok44 l Z a0 hw c28.2 _ hc29) rfl (lenOf pd44 rfl) (leb rfl) (leb rfl) (leb rfl) (leb rfl) ?_
 rintro _ _ ⟨rfl, rfl⟩
 show WLAW l Z n0 (PLAW r) 34 14040 247 (vI p0 :: vI p1 :: vI p2 :: vI p3 :: vI p4 :: vR 0 :: vI c27.1 :: vI c28.1 :: vU :: vU :: vU :: vU :: vU :: vU :: vU :: vU :: vU :: vU :: vU :: vU :: vU :: []) [.int c29] (Hb 0 c28.2)
 refine WP.istore (L' := (vI p0 :: vI p1 :: vI p2 :: vI p3 :: vI p4 :: vR 0 :: vI c27.1 :: vI c28.1 :: vI c29 :: vU :: vU :: vU :: vU :: vU :: vU :: vU :: vU :: vU :: vU :: vU :: vU :: [])) at_247 (leb rfl) rfl ?_
 refine WP.aload at_249 rfl ?_
 obtain ⟨c30, hc30, h⟩ := bd h
 refine WP.callV (i := 0) (y := y45) (as := []) (S := []) at_251 (hw _ m_296) (hw _ m_297) (hw _ m_299) (hw _ m_298) (hw _ m_300) (hw _ m_2) hy45 rfl (ok45 l Z a0 hw c28.2 _ hc30) rfl (lenOf pd45 rfl) (leb rfl) (leb rfl) (leb rfl) (leb rfl) ?_
 rintro _ _ ⟨rfl, rfl⟩
 show WLAW l Z n0 (PLAW r) 34 14040 254 (vI p0 :: vI p1 :: vI p2 :: vI p3 :: vI p4 :: vR 0 :: vI c27.1 :: vI c28.1 :: vI c29 :: vU :: vU :: vU :: vU :: vU :: vU :: vU :: vU :: vU :: vU :: vU :: vU :: []) [.int c30] (Hb 0 c28.2)
 refine WP.istore (L' := (vI p0 :: vI p1 :: vI p2 :: vI p3 :: vI p4 :: vR 0 :: vI c27.1 :: vI c28.1 :: vI c29 :: vI c30 :: vU :: vU :: vU :: vU :: vU :: vU :: vU :: vU :: vU :: vU :: vU :: [])) at_254 (leb rfl) rfl ?_
 refine WP.aload at_256 rfl ?_
 obtain ⟨c31, hc31, h⟩ := bd h
 refine WP.callV (i := 0) (y := y46) (as := []) (S := []) at_258 (hw _ m_301) (hw _ m_302) (hw _ m_304) (hw _ m_303) (hw _ m_305) (hw _ m_2) hy46 rfl (ok46 l Z a0 hw c28.2 _ hc31) rfl (lenOf pd46 rfl) (leb rfl) (leb rfl) (leb rfl) (leb rfl) ?_
 rintro _ _ ⟨rfl, rfl⟩
 show WLAW l Z n0 (PLAW r) 34 14040 261 (vI p0 :: vI p1 :: vI p2 :: vI p3 :: vI p4 :: vR 0 :: vI c27.1 :: vI c28.1 :: vI c29 :: vI c30 :: vU :: vU :: vU :: vU :: vU :: vU :: vU :: vU :: vU :: vU :: vU :: []) [.int c31] (Hb 0 c28.2)
 refine WP.istore (L' := (vI p0 :: vI p1 :: vI p2 :: vI p3 :: vI p4 :: vR 0 :: vI c27.1 :: vI c28.1 :: vI c29 :: vI c30 :: vI c31 :: vU :: vU :: vU :: vU :: vU :: vU :: vU :: vU :: vU :: vU :: [])) at_261 (leb rfl) rfl ?_
 refine WP.aload at_263 rfl ?_
 obtain ⟨c32, hc32, h⟩ := bd h
 refine WP.callV (i := 0) (y := y47) (as := []) (S := []) at_265 (hw _ m_306) (hw _ m_307) (hw _ m_309) (hw _ m_308) (hw _ m_310) (hw _ m_2) hy47 rfl (ok47 l Z a0 hw c28.2 _ hc32) rfl (lenOf pd47 rfl) (leb rfl) (leb rfl) (leb rfl) (leb rfl) ?_
 rintro _ _ ⟨rfl, rfl⟩
 show WLAW l Z n0 (PLAW r) 34 14040 268 (vI p0 :: vI p1 :: vI p2 :: vI p3 :: vI p4 :: vR 0 :: vI c27.1 :: vI c28.1 :: vI c29 :: vI c30 :: vI c31 :: vU :: vU :: vU :: vU :: vU :: vU :: vU :: vU :: vU :: vU :: []) [.int c32] (Hb 0 c28.2)
 refine WP.istore (L' := (vI p0 :: vI p1 :: vI p2 :: vI p3 :: vI p4 :: vR 0 :: vI c27.1 :: vI c28.1 :: vI c29 :: vI c30 :: vI c31 :: vI c32 :: vU :: vU :: vU :: vU :: vU :: vU :: vU :: vU :: vU :: [])) at_268 (leb rfl) rfl ?_
 refine WP.aload at_270 rfl ?_
 obtain ⟨c33, hc33, h⟩ := bd h
 refine WP.callV (i := 0) (y := y48) (as := []) (S := []) at_272 (hw _ m_311) (hw _ m_312) (hw _ m_314) (hw _ m_313) (hw _ m_315) (hw _ m_2) hy48 rfl (ok48 l Z a0 hw c28.2 _ hc33) rfl (lenOf pd48 rfl) (leb rfl) (leb rfl) (leb rfl) (leb rfl) ?_
 rintro _ _ ⟨rfl, rfl⟩
 show WLAW l Z n0 (PLAW r) 34 14040 275 (vI p0 :: vI p1 :: vI p2 :: vI p3 :: vI p4 :: vR 0 :: vI c27.1 :: vI c28.1 :: vI c29 :: vI c30 :: vI c31 :: vI c32 :: vU :: vU :: vU :: vU :: vU :: vU :: vU :: vU :: vU :: []) [.int c33] (Hb 0 c28.2)
 refine WP.istore (L' := (vI p0 :: vI p1 :: vI p2 :: vI p3 :: vI p4 :: vR 0 :: vI c27.1 :: vI c28.1 :: vI c29 :: vI c30 :: vI c31 :: vI c32 :: vI c33 :: vU :: vU :: vU :: vU :: vU :: vU :: vU :: vU :: [])) at_275 (leb rfl) rfl ?_
 refine WP.aload at_277 rfl ?_
 obtain ⟨c34, hc34, h⟩ := bd h
 refine WP.callV (i := 0) (y := y49) (as := []) (S := []) at_279 (hw _ m_316) (hw _ m_317) (hw _ m_319) (hw _ m_318) (hw _ m_320) (hw _ m_2) hy49 rfl (ok49 l Z a0 hw c28.2 _ hc34) rfl (lenOf pd49 rfl) (leb rfl) (leb rfl) (leb rfl) (leb rfl) ?_
 rintro _ _ ⟨rfl, rfl⟩
 show WLAW l Z n0 (PLAW r) 34 14040 282 (vI p0 :: vI p1 :: vI p2 :: vI p3 :: vI p4 :: vR 0 :: vI c27.1 :: vI c28.1 :: vI c29 :: vI c30 :: vI c31 :: vI c32 :: vI c33 :: vU :: vU :: vU :: vU :: vU :: vU :: vU :: vU :: []) [.int c34] (Hb 0 c28.2)
 refine WP.istore (L' := (vI p0 :: vI p1 :: vI p2 :: vI p3 :: vI p4 :: vR 0 :: vI c27.1 :: vI c28.1 :: vI c29 :: vI c30 :: vI c31 :: vI c32 :: vI c33 :: vI c34 :: vU :: vU :: vU :: vU :: vU :: vU :: vU :: [])) at_282 (leb rfl) rfl ?_
 refine WP.iloadN at_284 rfl ?_
 refine WP.bipush (8 : Int32) at_285 rfl ?_
 rcases ite_e h with ⟨hc35, h⟩ | ⟨hc35, h⟩
 ·
  refine WP.icmpN at_287 (XT.ii_ge_f hc35) ?_
  refine WP.bipush (8 : Int32) at_290 rfl ?_
  refine WP.goto (pc' := 307) at_292 (by decide) rfl ?_
  exact WP.weak (L' := (vU :: vU :: vI p2 :: vI p3 :: vI p4 :: vU :: vI c27.1 :: vI c28.1 :: vI c29 :: vI c30 :: vI c31 :: vI c32 :: vI c33 :: vI c34 :: vU :: vU :: vU :: vU :: vU :: vU :: vU :: [])) ⟨rfl, rfl, rfl, rfl, rfl, rfl, rfl, rfl, rfl, rfl, rfl, trivial⟩ (okLAW_307 l Z a0 hw n0 n p2 p3 p4 c27.1 c28.1 c29 c30 c31 c32 c33 c34 (8 : Int32) c28.2 _ h)
 ·
  refine WP.icmpY (pc' := 295) at_287 (XT.ii_ge_t hc35) (by decide) rfl ?_
  refine WP.iloadN at_295 rfl ?_
  refine WP.bipush (64 : Int32) at_296 rfl ?_
  rcases ite_e h with ⟨hc36, h⟩ | ⟨hc36, h⟩
  ·
   refine WP.icmpN at_298 (XT.ii_le_f hc36) ?_
   refine WP.bipush (64 : Int32) at_301 rfl ?_
   refine WP.goto (pc' := 307) at_303 (by decide) rfl ?_
   exact WP.weak (L' := (vU :: vU :: vI p2 :: vI p3 :: vI p4 :: vU :: vI c27.1 :: vI c28.1 :: vI c29 :: vI c30 :: vI c31 :: vI c32 :: vI c33 :: vI c34 :: vU :: vU :: vU :: vU :: vU :: vU :: vU :: [])) ⟨rfl, rfl, rfl, rfl, rfl, rfl, rfl, rfl, rfl, rfl, rfl, trivial⟩ (okLAW_307 l Z a0 hw n0 n p2 p3 p4 c27.1 c28.1 c29 c30 c31 c32 c33 c34 (64 : Int32) c28.2 _ h)
  ·
   refine WP.icmpY (pc' := 306) at_298 (XT.ii_le_t hc36) (by decide) rfl ?_
   refine WP.iloadN at_306 rfl ?_
   exact WP.weak (L' := (vU :: vU :: vI p2 :: vI p3 :: vI p4 :: vU :: vI c27.1 :: vI c28.1 :: vI c29 :: vI c30 :: vI c31 :: vI c32 :: vI c33 :: vI c34 :: vU :: vU :: vU :: vU :: vU :: vU :: vU :: [])) ⟨rfl, rfl, rfl, rfl, rfl, rfl, rfl, rfl, rfl, rfl, rfl, trivial⟩ (okLAW_307 l Z a0 hw n0 n p2 p3 p4 c27.1 c28.1 c29 c30 c31 c32 c33 c34 p0 c28.2 _ h)
theorem own_ex {α β : Type} {o : Option α} {g : α → Option β} {b : β} (h : o.bind g = some b) : ∃ c, o = some c ∧ g c = some b := by
  cases o with
  | none => cases h
  | some c => exact ⟨c, rfl, h⟩

def own_cl (s : St) : St := sI (sI (sI (sI (sI (sI (sI s 4 (-1)) 5 (-1)) 6 0) 7 (-1)) 8 0) 9 0) 10 0
theorem own_clr (s : St) : f_clearResults s = some (own_cl s) := rfl
def own_I (m d : Int32) : St := own_cl (sI (sI st0 0 m) 1 d)
theorem own_in (p0 p1 : Int32) : ∃ m d, f_init p0 p1 = some (own_I m d) ∧ ¬ m < 0 := by
  have h315 : ∀ d m, f_init_315 d (sI st0 0 m) = some (own_I m d) := fun d m => rfl
  have h304 : ∀ d m, ∃ d', f_init_304 d (sI st0 0 m) = some (own_I m d') := fun d m => by
    unfold f_init_304
    split
    · exact ⟨_, h315 _ _⟩
    · exact ⟨_, h315 _ _⟩
  have h287 : ∀ d m, ∃ d', f_init_287 d m st0 = some (own_I m d') := fun d m => by
    unfold f_init_287 lt
    split
    · exact h304 _ _
    · exact h304 _ _
  have h278 : ∀ d m, ¬ m < 8 → ∃ m' d', f_init_278 d m st0 = some (own_I m' d') ∧ ¬ m' < 0 := fun d m hm => by
    unfold f_init_278
    split
    · obtain ⟨d', e⟩ := h287 d 64
      exact ⟨_, d', e, by decide⟩
    · obtain ⟨d', e⟩ := h287 d m
      refine ⟨_, d', e, fun q => hm ?_⟩
      rw [x32_lt] at q ⊢
      have e0 : (0 : Int32).toInt = 0 := rfl
      have e8 : (8 : Int32).toInt = 8 := rfl
      omega
  unfold f_init lt
  split
  · exact h278 _ _ (by decide)
  · rename_i h; exact h278 _ _ h
def own_tk (k : Nat) (a b : Int32) (s : St) : St := own_cl (sI (sI (sA (sA s 0 ((gA s 0).set k a)) 1 ((gA s 1).set k b)) 2 (Int32.ofNat (k + 1))) 3 0)
theorem own_t77 {k : Nat} (a b : Int32) {s : St} (h2 : gI s 2 = Int32.ofNat k) (hk : k < 256) (l0 : (gA s 0).length = 256) (l1 : (gA s 1).length = 256) : f_tok_77 a b s = some (1, own_tk k a b s) := by
  unfold f_tok_77 lt
  rw [wrA_of (k := k) a (by rw [h2]; exact ofN_int (by omega)) (by omega), Option.bind_some]
  rw [wrA_of (k := k) b (by show (gI s 2).toInt = _; rw [h2]; exact ofN_int (by omega)) (by show k < (gA s 1).length; omega), Option.bind_some]
  dsimp only
  rw [own_clr, Option.bind_some]
  show some ((1 : Int32), own_cl (sI (sI (sA (sA s 0 ((gA s 0).set k a)) 1 ((gA s 1).set k b)) 2 (gI s 2 + 1)) 3 0)) = _
  rw [h2, ofN_succ]; rfl
theorem own_n256 {k : Nat} (hk : k < 256) : ¬ Int32.ofNat k = 256 := fun q => by
  have := (ofN_eqL (m := 256) (by omega) (by decide)).mp q
  omega
theorem own_tok1 {k : Nat} {s : St} (v : Int32) (h2 : gI s 2 = Int32.ofNat k) (hk : k < 256) (l0 : (gA s 0).length = 256) (l1 : (gA s 1).length = 256) : f_tok 1 v s = some (1, own_tk k 1 v s) := by
  unfold f_tok
  rw [h2, if_neg (own_n256 hk), if_neg (by decide), if_neg (by decide), if_neg (by decide)]
  unfold f_tok_42 f_tok_58 f_tok_75
  rw [if_neg (by decide), if_pos rfl]
  exact own_t77 1 v h2 hk l0 l1
theorem own_tok2 {k : Nat} {s : St} (h2 : gI s 2 = Int32.ofNat k) (hk : k < 256) (l0 : (gA s 0).length = 256) (l1 : (gA s 1).length = 256) : f_tok 2 0 s = some (1, own_tk k 2 0 s) := by
  unfold f_tok
  rw [h2, if_neg (own_n256 hk), if_neg (by decide), if_neg (by decide), if_pos rfl, if_neg (by decide), if_neg (by decide)]
  unfold f_tok_42 f_tok_58 f_tok_75
  rw [if_neg (by decide), if_neg (by decide), if_pos rfl]
  exact own_t77 2 0 h2 hk l0 l1
theorem own_tok3 {k : Nat} {s : St} (h2 : gI s 2 = Int32.ofNat k) (hk : k < 256) (l0 : (gA s 0).length = 256) (l1 : (gA s 1).length = 256) : f_tok 3 0 s = some (1, own_tk k 3 0 s) := by
  unfold f_tok
  rw [h2, if_neg (own_n256 hk), if_neg (by decide), if_neg (by decide), if_neg (by decide)]
  unfold f_tok_42 f_tok_58 f_tok_75
  rw [if_pos rfl, if_neg (by decide), if_neg (by decide), if_neg (by decide), if_neg (by decide), if_pos rfl]
  exact own_t77 3 0 h2 hk l0 l1
theorem own_tok4 {k : Nat} {s : St} (h2 : gI s 2 = Int32.ofNat k) (hk : k < 256) (l0 : (gA s 0).length = 256) (l1 : (gA s 1).length = 256) : f_tok 4 0 s = some (1, own_tk k 4 0 s) := by
  unfold f_tok
  rw [h2, if_neg (own_n256 hk), if_neg (by decide), if_neg (by decide), if_neg (by decide)]
  unfold f_tok_42 f_tok_58 f_tok_75
  rw [if_neg (by decide), if_neg (by decide), if_neg (by decide), if_neg (by decide)]
  exact own_t77 4 0 h2 hk l0 l1
theorem own_tok6 {k : Nat} {s : St} (h2 : gI s 2 = Int32.ofNat k) (hk : k < 256) (l0 : (gA s 0).length = 256) (l1 : (gA s 1).length = 256) : f_tok 6 0 s = some (1, own_tk k 6 0 s) := by
  unfold f_tok
  rw [h2, if_neg (own_n256 hk), if_neg (by decide), if_neg (by decide), if_neg (by decide)]
  unfold f_tok_42 f_tok_58 f_tok_75
  rw [if_neg (by decide), if_neg (by decide), if_neg (by decide), if_neg (by decide)]
  exact own_t77 6 0 h2 hk l0 l1
theorem own_tok9 {k : Nat} {s : St} (h2 : gI s 2 = Int32.ofNat k) (hk : k < 256) (l0 : (gA s 0).length = 256) (l1 : (gA s 1).length = 256) : f_tok 9 0 s = some (1, own_tk k 9 0 s) := by
  unfold f_tok
  rw [h2, if_neg (own_n256 hk), if_neg (by decide), if_neg (by decide), if_neg (by decide)]
  unfold f_tok_42 f_tok_58 f_tok_75
  rw [if_neg (by decide), if_neg (by decide), if_neg (by decide), if_neg (by decide)]
  exact own_t77 9 0 h2 hk l0 l1
theorem own_tok11 {k : Nat} {s : St} (h2 : gI s 2 = Int32.ofNat k) (hk : k < 256) (l0 : (gA s 0).length = 256) (l1 : (gA s 1).length = 256) : f_tok 11 0 s = some (1, own_tk k 11 0 s) := by
  unfold f_tok
  rw [h2, if_neg (own_n256 hk), if_neg (by decide), if_neg (by decide), if_neg (by decide)]
  unfold f_tok_42 f_tok_58 f_tok_75
  rw [if_neg (by decide), if_neg (by decide), if_neg (by decide), if_neg (by decide)]
  exact own_t77 11 0 h2 hk l0 l1
theorem own_tok12 {k : Nat} {s : St} (h2 : gI s 2 = Int32.ofNat k) (hk : k < 256) (l0 : (gA s 0).length = 256) (l1 : (gA s 1).length = 256) : f_tok 12 0 s = some (1, own_tk k 12 0 s) := by
  unfold f_tok
  rw [h2, if_neg (own_n256 hk), if_neg (by decide), if_neg (by decide), if_neg (by decide)]
  unfold f_tok_42 f_tok_58 f_tok_75
  rw [if_neg (by decide), if_neg (by decide), if_neg (by decide), if_neg (by decide)]
  exact own_t77 12 0 h2 hk l0 l1
theorem own_tok13 {k : Nat} {s : St} (h2 : gI s 2 = Int32.ofNat k) (hk : k < 256) (l0 : (gA s 0).length = 256) (l1 : (gA s 1).length = 256) : f_tok 13 0 s = some (1, own_tk k 13 0 s) := by
  unfold f_tok
  rw [h2, if_neg (own_n256 hk), if_neg (by decide), if_neg (by decide), if_neg (by decide)]
  unfold f_tok_42 f_tok_58 f_tok_75
  rw [if_neg (by decide), if_neg (by decide), if_neg (by decide), if_neg (by decide)]
  exact own_t77 13 0 h2 hk l0 l1
theorem own_tok14 {k : Nat} {s : St} (h2 : gI s 2 = Int32.ofNat k) (hk : k < 256) (l0 : (gA s 0).length = 256) (l1 : (gA s 1).length = 256) : f_tok 14 0 s = some (1, own_tk k 14 0 s) := by
  unfold f_tok
  rw [h2, if_neg (own_n256 hk), if_neg (by decide), if_neg (by decide), if_neg (by decide)]
  unfold f_tok_42 f_tok_58 f_tok_75
  rw [if_neg (by decide), if_neg (by decide), if_neg (by decide), if_neg (by decide)]
  exact own_t77 14 0 h2 hk l0 l1
theorem own_tok15 {k : Nat} {s : St} (h2 : gI s 2 = Int32.ofNat k) (hk : k < 256) (l0 : (gA s 0).length = 256) (l1 : (gA s 1).length = 256) : f_tok 15 0 s = some (1, own_tk k 15 0 s) := by
  unfold f_tok
  rw [h2, if_neg (own_n256 hk), if_neg (by decide), if_neg (by decide), if_neg (by decide)]
  unfold f_tok_42 f_tok_58 f_tok_75
  rw [if_neg (by decide), if_neg (by decide), if_neg (by decide), if_neg (by decide)]
  exact own_t77 15 0 h2 hk l0 l1
theorem own_tok16 {k : Nat} {s : St} (h2 : gI s 2 = Int32.ofNat k) (hk : k < 256) (l0 : (gA s 0).length = 256) (l1 : (gA s 1).length = 256) : f_tok 16 0 s = some (1, own_tk k 16 0 s) := by
  unfold f_tok
  rw [h2, if_neg (own_n256 hk), if_neg (by decide), if_neg (by decide), if_neg (by decide)]
  unfold f_tok_42 f_tok_58 f_tok_75
  rw [if_neg (by decide), if_neg (by decide), if_neg (by decide), if_neg (by decide)]
  exact own_t77 16 0 h2 hk l0 l1
theorem own_tok17 {k : Nat} {s : St} (h2 : gI s 2 = Int32.ofNat k) (hk : k < 256) (l0 : (gA s 0).length = 256) (l1 : (gA s 1).length = 256) : f_tok 17 0 s = some (1, own_tk k 17 0 s) := by
  unfold f_tok
  rw [h2, if_neg (own_n256 hk), if_neg (by decide), if_neg (by decide), if_neg (by decide)]
  unfold f_tok_42 f_tok_58 f_tok_75
  rw [if_neg (by decide), if_neg (by decide), if_neg (by decide), if_neg (by decide)]
  exact own_t77 17 0 h2 hk l0 l1
theorem own_tok19 {k : Nat} {s : St} (h2 : gI s 2 = Int32.ofNat k) (hk : k < 256) (l0 : (gA s 0).length = 256) (l1 : (gA s 1).length = 256) : f_tok 19 0 s = some (1, own_tk k 19 0 s) := by
  unfold f_tok
  rw [h2, if_neg (own_n256 hk), if_neg (by decide), if_neg (by decide), if_neg (by decide)]
  unfold f_tok_42 f_tok_58 f_tok_75
  rw [if_neg (by decide), if_neg (by decide), if_neg (by decide), if_neg (by decide)]
  exact own_t77 19 0 h2 hk l0 l1
theorem own_tkl (k : Nat) (a b : Int32) (s : St) (l0 : (gA s 0).length = 256) : (gA (own_tk k a b s) 0).length = 256 := by
  show ((gA s 0).set k a).length = 256; rw [set_len]; exact l0
theorem own_tkm (k : Nat) (a b : Int32) (s : St) (l0 : (gA s 1).length = 256) : (gA (own_tk k a b s) 1).length = 256 := by
  show ((gA s 1).set k b).length = 256; rw [set_len]; exact l0
theorem own_L0 (m d : Int32) : (gA (own_I m d) 0).length = 256 ∧ (gA (own_I m d) 1).length = 256 := ⟨List.length_replicate, List.length_replicate⟩
def own_S0 (m d n i a : Int32) : St := own_I m d
def own_S1 (m d n i a : Int32) : St := own_tk 0 4 0 (own_S0 m d n i a)
def own_S2 (m d n i a : Int32) : St := own_tk 1 3 0 (own_S1 m d n i a)
def own_S3 (m d n i a : Int32) : St := own_tk 2 11 0 (own_S2 m d n i a)
def own_S4 (m d n i a : Int32) : St := own_tk 3 12 0 (own_S3 m d n i a)
def own_S5 (m d n i a : Int32) : St := own_tk 4 13 0 (own_S4 m d n i a)
def own_S6 (m d n i a : Int32) : St := own_tk 5 6 0 (own_S5 m d n i a)
def own_S7 (m d n i a : Int32) : St := own_tk 6 2 0 (own_S6 m d n i a)
def own_S8 (m d n i a : Int32) : St := own_tk 7 15 0 (own_S7 m d n i a)
def own_S9 (m d n i a : Int32) : St := own_tk 8 1 n (own_S8 m d n i a)
def own_S10 (m d n i a : Int32) : St := own_tk 9 16 0 (own_S9 m d n i a)
def own_S11 (m d n i a : Int32) : St := own_tk 10 17 0 (own_S10 m d n i a)
def own_S12 (m d n i a : Int32) : St := own_tk 11 2 0 (own_S11 m d n i a)
def own_S13 (m d n i a : Int32) : St := own_tk 12 15 0 (own_S12 m d n i a)
def own_S14 (m d n i a : Int32) : St := own_tk 13 1 i (own_S13 m d n i a)
def own_S15 (m d n i a : Int32) : St := own_tk 14 16 0 (own_S14 m d n i a)
def own_S16 (m d n i a : Int32) : St := own_tk 15 19 0 (own_S15 m d n i a)
def own_S17 (m d n i a : Int32) : St := own_tk 16 1 a (own_S16 m d n i a)
def own_S18 (m d n i a : Int32) : St := own_tk 17 17 0 (own_S17 m d n i a)
def own_S19 (m d n i a : Int32) : St := own_tk 18 9 0 (own_S18 m d n i a)
def own_S20 (m d n i a : Int32) : St := own_tk 19 2 0 (own_S19 m d n i a)
def own_S21 (m d n i a : Int32) : St := own_tk 20 15 0 (own_S20 m d n i a)
def own_S22 (m d n i a : Int32) : St := own_tk 21 1 i (own_S21 m d n i a)
def own_S23 (m d n i a : Int32) : St := own_tk 22 16 0 (own_S22 m d n i a)
def own_S24 (m d n i a : Int32) : St := own_tk 23 17 0 (own_S23 m d n i a)
def own_S25 (m d n i a : Int32) : St := own_tk 24 14 0 (own_S24 m d n i a)
theorem own_K0 (m d n i a : Int32) : (gA (own_S0 m d n i a) 0).length = 256 ∧ (gA (own_S0 m d n i a) 1).length = 256 := own_L0 m d
theorem own_K1 (m d n i a : Int32) : (gA (own_S1 m d n i a) 0).length = 256 ∧ (gA (own_S1 m d n i a) 1).length = 256 := ⟨own_tkl _ _ _ _ (own_K0 m d n i a).1, own_tkm _ _ _ _ (own_K0 m d n i a).2⟩
theorem own_K2 (m d n i a : Int32) : (gA (own_S2 m d n i a) 0).length = 256 ∧ (gA (own_S2 m d n i a) 1).length = 256 := ⟨own_tkl _ _ _ _ (own_K1 m d n i a).1, own_tkm _ _ _ _ (own_K1 m d n i a).2⟩
theorem own_K3 (m d n i a : Int32) : (gA (own_S3 m d n i a) 0).length = 256 ∧ (gA (own_S3 m d n i a) 1).length = 256 := ⟨own_tkl _ _ _ _ (own_K2 m d n i a).1, own_tkm _ _ _ _ (own_K2 m d n i a).2⟩
theorem own_K4 (m d n i a : Int32) : (gA (own_S4 m d n i a) 0).length = 256 ∧ (gA (own_S4 m d n i a) 1).length = 256 := ⟨own_tkl _ _ _ _ (own_K3 m d n i a).1, own_tkm _ _ _ _ (own_K3 m d n i a).2⟩
theorem own_K5 (m d n i a : Int32) : (gA (own_S5 m d n i a) 0).length = 256 ∧ (gA (own_S5 m d n i a) 1).length = 256 := ⟨own_tkl _ _ _ _ (own_K4 m d n i a).1, own_tkm _ _ _ _ (own_K4 m d n i a).2⟩
theorem own_K6 (m d n i a : Int32) : (gA (own_S6 m d n i a) 0).length = 256 ∧ (gA (own_S6 m d n i a) 1).length = 256 := ⟨own_tkl _ _ _ _ (own_K5 m d n i a).1, own_tkm _ _ _ _ (own_K5 m d n i a).2⟩
theorem own_K7 (m d n i a : Int32) : (gA (own_S7 m d n i a) 0).length = 256 ∧ (gA (own_S7 m d n i a) 1).length = 256 := ⟨own_tkl _ _ _ _ (own_K6 m d n i a).1, own_tkm _ _ _ _ (own_K6 m d n i a).2⟩
theorem own_K8 (m d n i a : Int32) : (gA (own_S8 m d n i a) 0).length = 256 ∧ (gA (own_S8 m d n i a) 1).length = 256 := ⟨own_tkl _ _ _ _ (own_K7 m d n i a).1, own_tkm _ _ _ _ (own_K7 m d n i a).2⟩
theorem own_K9 (m d n i a : Int32) : (gA (own_S9 m d n i a) 0).length = 256 ∧ (gA (own_S9 m d n i a) 1).length = 256 := ⟨own_tkl _ _ _ _ (own_K8 m d n i a).1, own_tkm _ _ _ _ (own_K8 m d n i a).2⟩
theorem own_K10 (m d n i a : Int32) : (gA (own_S10 m d n i a) 0).length = 256 ∧ (gA (own_S10 m d n i a) 1).length = 256 := ⟨own_tkl _ _ _ _ (own_K9 m d n i a).1, own_tkm _ _ _ _ (own_K9 m d n i a).2⟩
theorem own_K11 (m d n i a : Int32) : (gA (own_S11 m d n i a) 0).length = 256 ∧ (gA (own_S11 m d n i a) 1).length = 256 := ⟨own_tkl _ _ _ _ (own_K10 m d n i a).1, own_tkm _ _ _ _ (own_K10 m d n i a).2⟩
theorem own_K12 (m d n i a : Int32) : (gA (own_S12 m d n i a) 0).length = 256 ∧ (gA (own_S12 m d n i a) 1).length = 256 := ⟨own_tkl _ _ _ _ (own_K11 m d n i a).1, own_tkm _ _ _ _ (own_K11 m d n i a).2⟩
theorem own_K13 (m d n i a : Int32) : (gA (own_S13 m d n i a) 0).length = 256 ∧ (gA (own_S13 m d n i a) 1).length = 256 := ⟨own_tkl _ _ _ _ (own_K12 m d n i a).1, own_tkm _ _ _ _ (own_K12 m d n i a).2⟩
theorem own_K14 (m d n i a : Int32) : (gA (own_S14 m d n i a) 0).length = 256 ∧ (gA (own_S14 m d n i a) 1).length = 256 := ⟨own_tkl _ _ _ _ (own_K13 m d n i a).1, own_tkm _ _ _ _ (own_K13 m d n i a).2⟩
theorem own_K15 (m d n i a : Int32) : (gA (own_S15 m d n i a) 0).length = 256 ∧ (gA (own_S15 m d n i a) 1).length = 256 := ⟨own_tkl _ _ _ _ (own_K14 m d n i a).1, own_tkm _ _ _ _ (own_K14 m d n i a).2⟩
theorem own_K16 (m d n i a : Int32) : (gA (own_S16 m d n i a) 0).length = 256 ∧ (gA (own_S16 m d n i a) 1).length = 256 := ⟨own_tkl _ _ _ _ (own_K15 m d n i a).1, own_tkm _ _ _ _ (own_K15 m d n i a).2⟩
theorem own_K17 (m d n i a : Int32) : (gA (own_S17 m d n i a) 0).length = 256 ∧ (gA (own_S17 m d n i a) 1).length = 256 := ⟨own_tkl _ _ _ _ (own_K16 m d n i a).1, own_tkm _ _ _ _ (own_K16 m d n i a).2⟩
theorem own_K18 (m d n i a : Int32) : (gA (own_S18 m d n i a) 0).length = 256 ∧ (gA (own_S18 m d n i a) 1).length = 256 := ⟨own_tkl _ _ _ _ (own_K17 m d n i a).1, own_tkm _ _ _ _ (own_K17 m d n i a).2⟩
theorem own_K19 (m d n i a : Int32) : (gA (own_S19 m d n i a) 0).length = 256 ∧ (gA (own_S19 m d n i a) 1).length = 256 := ⟨own_tkl _ _ _ _ (own_K18 m d n i a).1, own_tkm _ _ _ _ (own_K18 m d n i a).2⟩
theorem own_K20 (m d n i a : Int32) : (gA (own_S20 m d n i a) 0).length = 256 ∧ (gA (own_S20 m d n i a) 1).length = 256 := ⟨own_tkl _ _ _ _ (own_K19 m d n i a).1, own_tkm _ _ _ _ (own_K19 m d n i a).2⟩
theorem own_K21 (m d n i a : Int32) : (gA (own_S21 m d n i a) 0).length = 256 ∧ (gA (own_S21 m d n i a) 1).length = 256 := ⟨own_tkl _ _ _ _ (own_K20 m d n i a).1, own_tkm _ _ _ _ (own_K20 m d n i a).2⟩
theorem own_K22 (m d n i a : Int32) : (gA (own_S22 m d n i a) 0).length = 256 ∧ (gA (own_S22 m d n i a) 1).length = 256 := ⟨own_tkl _ _ _ _ (own_K21 m d n i a).1, own_tkm _ _ _ _ (own_K21 m d n i a).2⟩
theorem own_K23 (m d n i a : Int32) : (gA (own_S23 m d n i a) 0).length = 256 ∧ (gA (own_S23 m d n i a) 1).length = 256 := ⟨own_tkl _ _ _ _ (own_K22 m d n i a).1, own_tkm _ _ _ _ (own_K22 m d n i a).2⟩
theorem own_K24 (m d n i a : Int32) : (gA (own_S24 m d n i a) 0).length = 256 ∧ (gA (own_S24 m d n i a) 1).length = 256 := ⟨own_tkl _ _ _ _ (own_K23 m d n i a).1, own_tkm _ _ _ _ (own_K23 m d n i a).2⟩
theorem own_K25 (m d n i a : Int32) : (gA (own_S25 m d n i a) 0).length = 256 ∧ (gA (own_S25 m d n i a) 1).length = 256 := ⟨own_tkl _ _ _ _ (own_K24 m d n i a).1, own_tkm _ _ _ _ (own_K24 m d n i a).2⟩
theorem own_T0 (m d n i a : Int32) : f_tok 4 0 (own_S0 m d n i a) = some (1, own_S1 m d n i a) := own_tok4 rfl (by decide) (own_K0 m d n i a).1 (own_K0 m d n i a).2
theorem own_T1 (m d n i a : Int32) : f_tok 3 0 (own_S1 m d n i a) = some (1, own_S2 m d n i a) := own_tok3 rfl (by decide) (own_K1 m d n i a).1 (own_K1 m d n i a).2
theorem own_T2 (m d n i a : Int32) : f_tok 11 0 (own_S2 m d n i a) = some (1, own_S3 m d n i a) := own_tok11 rfl (by decide) (own_K2 m d n i a).1 (own_K2 m d n i a).2
theorem own_T3 (m d n i a : Int32) : f_tok 12 0 (own_S3 m d n i a) = some (1, own_S4 m d n i a) := own_tok12 rfl (by decide) (own_K3 m d n i a).1 (own_K3 m d n i a).2
theorem own_T4 (m d n i a : Int32) : f_tok 13 0 (own_S4 m d n i a) = some (1, own_S5 m d n i a) := own_tok13 rfl (by decide) (own_K4 m d n i a).1 (own_K4 m d n i a).2
theorem own_T5 (m d n i a : Int32) : f_tok 6 0 (own_S5 m d n i a) = some (1, own_S6 m d n i a) := own_tok6 rfl (by decide) (own_K5 m d n i a).1 (own_K5 m d n i a).2
theorem own_T6 (m d n i a : Int32) : f_tok 2 0 (own_S6 m d n i a) = some (1, own_S7 m d n i a) := own_tok2 rfl (by decide) (own_K6 m d n i a).1 (own_K6 m d n i a).2
theorem own_T7 (m d n i a : Int32) : f_tok 15 0 (own_S7 m d n i a) = some (1, own_S8 m d n i a) := own_tok15 rfl (by decide) (own_K7 m d n i a).1 (own_K7 m d n i a).2
theorem own_T8 (m d n i a : Int32) : f_tok 1 n (own_S8 m d n i a) = some (1, own_S9 m d n i a) := own_tok1 n rfl (by decide) (own_K8 m d n i a).1 (own_K8 m d n i a).2
theorem own_T9 (m d n i a : Int32) : f_tok 16 0 (own_S9 m d n i a) = some (1, own_S10 m d n i a) := own_tok16 rfl (by decide) (own_K9 m d n i a).1 (own_K9 m d n i a).2
theorem own_T10 (m d n i a : Int32) : f_tok 17 0 (own_S10 m d n i a) = some (1, own_S11 m d n i a) := own_tok17 rfl (by decide) (own_K10 m d n i a).1 (own_K10 m d n i a).2
theorem own_T11 (m d n i a : Int32) : f_tok 2 0 (own_S11 m d n i a) = some (1, own_S12 m d n i a) := own_tok2 rfl (by decide) (own_K11 m d n i a).1 (own_K11 m d n i a).2
theorem own_T12 (m d n i a : Int32) : f_tok 15 0 (own_S12 m d n i a) = some (1, own_S13 m d n i a) := own_tok15 rfl (by decide) (own_K12 m d n i a).1 (own_K12 m d n i a).2
theorem own_T13 (m d n i a : Int32) : f_tok 1 i (own_S13 m d n i a) = some (1, own_S14 m d n i a) := own_tok1 i rfl (by decide) (own_K13 m d n i a).1 (own_K13 m d n i a).2
theorem own_T14 (m d n i a : Int32) : f_tok 16 0 (own_S14 m d n i a) = some (1, own_S15 m d n i a) := own_tok16 rfl (by decide) (own_K14 m d n i a).1 (own_K14 m d n i a).2
theorem own_T15 (m d n i a : Int32) : f_tok 19 0 (own_S15 m d n i a) = some (1, own_S16 m d n i a) := own_tok19 rfl (by decide) (own_K15 m d n i a).1 (own_K15 m d n i a).2
theorem own_T16 (m d n i a : Int32) : f_tok 1 a (own_S16 m d n i a) = some (1, own_S17 m d n i a) := own_tok1 a rfl (by decide) (own_K16 m d n i a).1 (own_K16 m d n i a).2
theorem own_T17 (m d n i a : Int32) : f_tok 17 0 (own_S17 m d n i a) = some (1, own_S18 m d n i a) := own_tok17 rfl (by decide) (own_K17 m d n i a).1 (own_K17 m d n i a).2
theorem own_T18 (m d n i a : Int32) : f_tok 9 0 (own_S18 m d n i a) = some (1, own_S19 m d n i a) := own_tok9 rfl (by decide) (own_K18 m d n i a).1 (own_K18 m d n i a).2
theorem own_T19 (m d n i a : Int32) : f_tok 2 0 (own_S19 m d n i a) = some (1, own_S20 m d n i a) := own_tok2 rfl (by decide) (own_K19 m d n i a).1 (own_K19 m d n i a).2
theorem own_T20 (m d n i a : Int32) : f_tok 15 0 (own_S20 m d n i a) = some (1, own_S21 m d n i a) := own_tok15 rfl (by decide) (own_K20 m d n i a).1 (own_K20 m d n i a).2
theorem own_T21 (m d n i a : Int32) : f_tok 1 i (own_S21 m d n i a) = some (1, own_S22 m d n i a) := own_tok1 i rfl (by decide) (own_K21 m d n i a).1 (own_K21 m d n i a).2
theorem own_T22 (m d n i a : Int32) : f_tok 16 0 (own_S22 m d n i a) = some (1, own_S23 m d n i a) := own_tok16 rfl (by decide) (own_K22 m d n i a).1 (own_K22 m d n i a).2
theorem own_T23 (m d n i a : Int32) : f_tok 17 0 (own_S23 m d n i a) = some (1, own_S24 m d n i a) := own_tok17 rfl (by decide) (own_K23 m d n i a).1 (own_K23 m d n i a).2
theorem own_T24 (m d n i a : Int32) : f_tok 14 0 (own_S24 m d n i a) = some (1, own_S25 m d n i a) := own_tok14 rfl (by decide) (own_K24 m d n i a).1 (own_K24 m d n i a).2
/-- the fill loops of the parse -/
theorem own_pp2 (s : St) (n : Nat) (h3 : gA s 3 = List.replicate 4 0) (h4 : gA s 4 = List.replicate 4 0) (h5 : gA s 5 = List.replicate 4 0) (h6 : gA s 6 = List.replicate 4 0) (h7 : gA s 7 = List.replicate 4 0) (h8 : gA s 8 = List.replicate 4 0) : ∀ (j k : Nat), j + k = 4 → f_parseProgram_2 (n + 1 + j) (Int32.ofNat k) s = f_parseProgram_57 n 0 s
  | 0, k, h => by
    have : k = 4 := by omega
    subst this
    show g_parseProgram_2 (f_parseProgram_2 n) n 4 s = _
    unfold g_parseProgram_2
    rw [if_neg (by decide)]
  | j + 1, k, h => by
    show g_parseProgram_2 (f_parseProgram_2 (n + 1 + j)) (n + 1 + j) (Int32.ofNat k) s = _
    unfold g_parseProgram_2 lt
    have hk : k < 4 := by omega
    rw [if_pos ((ofN_ltL (m := 4) (by omega) (by decide)).mpr hk), wrA_nop h3 hk (by decide), Option.bind_some, wrA_nop h5 hk (by decide), Option.bind_some, wrA_nop h6 hk (by decide), Option.bind_some, wrA_nop h7 hk (by decide), Option.bind_some, wrA_nop h8 hk (by decide), Option.bind_some, wrA_nop h4 hk (by decide), Option.bind_some, ofN_succ]
    exact own_pp2 s n h3 h4 h5 h6 h7 h8 j (k + 1) (by omega)
def own_F (k : Nat) : List Int32 := List.replicate k (-1) ++ List.replicate (256 - k) 0
theorem own_Fl (k : Nat) (hk : k ≤ 256) : (own_F k).length = 256 := by unfold own_F; rw [List.length_append, List.length_replicate, List.length_replicate]; omega
theorem own_Fs (k : Nat) (hk : k < 256) : (own_F k).set k (-1) = own_F (k + 1) := fill_set _ _ _ _ hk
def own_M (s : St) (k : Nat) : St := sA (sA (sA s 12 (own_F k)) 13 (own_F k)) 14 (own_F k)
theorem own_Ms (s : St) (k : Nat) : sA (sA (sA (own_M s k) 12 (own_F (k + 1))) 13 (own_F (k + 1))) 14 (own_F (k + 1)) = own_M s (k + 1) := by
  unfold own_M
  rw [sA_comm (s := sA (sA s 12 (own_F k)) 13 (own_F k)) (i := 14) (j := 12) (by decide), sA_comm (s := sA s 12 (own_F k)) (i := 13) (j := 12) (by decide), sA_sA, sA_comm (i := 14) (j := 13) (by decide), sA_sA, sA_sA]
theorem own_pp57 (s : St) (n : Nat) : ∀ (j k : Nat), j + k = 256 → f_parseProgram_57 (n + 1 + j) (Int32.ofNat k) (own_M s k) = if 0 < gI s 2 then f_parseProgram_104 n 1 (own_M s 256) else f_parseProgram_104 n 0 (own_M s 256)
  | 0, k, h => by
    have : k = 256 := by omega
    subst this
    show g_parseProgram_57 (f_parseProgram_57 n) n 256 (own_M s 256) = _
    unfold g_parseProgram_57
    rw [if_neg (by decide)]; rfl
  | j + 1, k, h => by
    show g_parseProgram_57 (f_parseProgram_57 (n + 1 + j)) (n + 1 + j) (Int32.ofNat k) (own_M s k) = _
    unfold g_parseProgram_57 lt
    have hk : k < 256 := by omega
    have hl : k < (own_F k).length := by rw [own_Fl k (by omega)]; exact hk
    rw [if_pos ((ofN_ltL (m := 256) (by omega) (by decide)).mpr hk)]
    rw [wrA_of (s := own_M s k) (k := k) (f := 12) (-1) (ofN_int (by omega)) hl, Option.bind_some]
    rw [wrA_of (s := sA (own_M s k) 12 _) (k := k) (f := 13) (-1) (ofN_int (by omega)) hl, Option.bind_some]
    rw [wrA_of (s := sA (sA (own_M s k) 12 _) 13 _) (k := k) (f := 14) (-1) (ofN_int (by omega)) hl, Option.bind_some]
    show f_parseProgram_57 (n + 1 + j) (Int32.ofNat k + 1) (sA (sA (sA (own_M s k) 12 ((own_F k).set k (-1))) 13 ((own_F k).set k (-1))) 14 ((own_F k).set k (-1))) = _
    rw [own_Fs k hk, own_Ms, ofN_succ]
    exact own_pp57 s n j (k + 1) (by omega)
theorem own_M0 (s : St) (h12 : gA s 12 = List.replicate 256 0) (h13 : gA s 13 = List.replicate 256 0) (h14 : gA s 14 = List.replicate 256 0) : own_M s 0 = s := by
  unfold own_M own_F
  rw [sA_self (s := s) (by rw [h12]; rfl), sA_self (s := s) (by rw [h13]; rfl), sA_self (s := s) (by rw [h14]; rfl)]
def own_N (s : St) : St := sA (sA (sA s 12 (List.replicate 256 (-1))) 13 (List.replicate 256 (-1))) 14 (List.replicate 256 (-1))
theorem own_MN (s : St) : own_M s 256 = own_N s := by
  unfold own_M own_N
  rw [show own_F 256 = List.replicate 256 (-1) from by unfold own_F; rw [Nat.sub_self]; exact List.append_nil _]
def own_C (s : St) : Option (Int32 × St) := (f_parseProgram_104 338 1 (own_N (own_cl s))).bind fun c2 => some ((gI (sI c2.2 3 (c2.1 &&& 1)) 3) &&& 1, sI c2.2 3 (c2.1 &&& 1))
theorem own_pp (s : St) (h3 : gA s 3 = List.replicate 4 0) (h4 : gA s 4 = List.replicate 4 0) (h5 : gA s 5 = List.replicate 4 0) (h6 : gA s 6 = List.replicate 4 0) (h7 : gA s 7 = List.replicate 4 0) (h8 : gA s 8 = List.replicate 4 0) (h12 : gA s 12 = List.replicate 256 0) (h13 : gA s 13 = List.replicate 256 0) (h14 : gA s 14 = List.replicate 256 0) (h2 : 0 < gI s 2) : f_parseProgram 600 s = f_parseProgram_104 338 1 (own_N s) := by
  have a := own_pp2 s 595 h3 h4 h5 h6 h7 h8 4 0 rfl
  have b := own_pp57 s 338 256 0 rfl
  rw [own_M0 s h12 h13 h14, if_pos h2, own_MN] at b
  exact a.trans b
theorem own_cp (s : St) (h3 : gA s 3 = List.replicate 4 0) (h4 : gA s 4 = List.replicate 4 0) (h5 : gA s 5 = List.replicate 4 0) (h6 : gA s 6 = List.replicate 4 0) (h7 : gA s 7 = List.replicate 4 0) (h8 : gA s 8 = List.replicate 4 0) (h12 : gA s 12 = List.replicate 256 0) (h13 : gA s 13 = List.replicate 256 0) (h14 : gA s 14 = List.replicate 256 0) (h2 : 0 < gI s 2) : f_compile 600 s = own_C s := by
  unfold f_compile
  rw [own_clr, Option.bind_some, own_pp (own_cl s) h3 h4 h5 h6 h7 h8 h12 h13 h14 h2]; rfl
def own_r0 (s : St) : St := sI (sI (sI (sI (sI (own_cl s) 15 0) 16 0) 14 0) 17 256) 18 1
def own_run (s : St) : Option (Int32 × St) := (f_pushFrame 600 (0 : Int32) (-1 : Int32) (-1 : Int32) (own_r0 s)).bind fun c11 => (rd (gA c11 8) (0 : Int32)).bind fun x12 => f_run_85 600 x12 (0 : Int32) c11
theorem own_rn (s : St) (h3 : gI s 3 = 1) (h7 : rd (gA s 7) 0 = some 0) (h0 : ¬ gI s 0 < 0) : f_run 600 s = own_run s := by
  unfold f_run lt
  rw [h3, if_neg (by decide), own_clr, Option.bind_some]
  dsimp only
  rw [show rd (gA (sI (sI (sI (sI (sI (own_cl s) 15 0) 16 0) 14 0) 17 256) 18 1) 7) 0 = some 0 from h7, Option.bind_some, if_neg (show ¬ gI (sI (sI (sI (sI (sI (own_cl s) 15 0) 16 0) 14 0) 17 256) 18 1) 0 < 0 from h0)]
  rfl

/-! steps of a walk over an open state -/
theorem own_bex {α β : Type} {o : Option α} {g : α → Option β} {b : β} (h : o.bind g = some b) : ∃ c, o = some c ∧ g c = some b := by
  cases o with
  | none => cases h
  | some c => exact ⟨c, rfl, h⟩
theorem own_sa {β : Type} {t : St} {f : Nat} {i : Int32} {k : Nat} {x : Int32} {G : St → Option β} {r : Option β} (hi : i.toInt = k) (h : k < (gA t f).length) (e : G (sA t f ((gA t f).set k x)) = r) : (wrA t f i x).bind G = r := by
  rw [wrA_of x hi h]; exact e
theorem own_sb {β : Type} {t : St} {f : Nat} {i : Int32} {k : Nat} {x : Int64} {G : St → Option β} {r : Option β} (hi : i.toInt = k) (h : k < (gB t f).length) (e : G (sB t f ((gB t f).set k x)) = r) : (wrB t f i x).bind G = r := by
  rw [wrB_of x hi h]; exact e
theorem own_rr {α β : Type} {xs : List α} {i : Int32} {k : Nat} {x : α} {G : α → Option β} {r : Option β} (hi : i.toInt = k) (h : xs[k]? = some x) (e : G x = r) : (rd xs i).bind G = r := by
  rw [rd_of hi h]; exact e
theorem own_bs {α β : Type} {o : Option α} {x : α} {G : α → Option β} {r : Option β} (h : o = some x) (e : G x = r) : o.bind G = r := by
  rw [h]; exact e

/-! a size that is refused -/
def own_P (s0 s : St) (pp : Nat) : Prop := gI s 2 = 25 ∧ gI s 12 = 1 ∧ gI s 11 = Int32.ofNat pp ∧ gA s 0 = gA s0 0 ∧ gA s 1 = gA s0 1 ∧ ((gA s 3).length = 4 ∧ (gA s 4).length = 4 ∧ (gA s 8).length = 4 ∧ (gA s 9).length = 32 ∧ (gA s 10).length = 32) ∧ ∀ j, j < 11 → gI s j = gI s0 j
def own_KT (n : Int32) (s0 : St) : Prop := (gA s0 0)[0]? = some 4 ∧ (gA s0 0)[1]? = some 3 ∧ (gA s0 0)[2]? = some 11 ∧ (gA s0 0)[3]? = some 12 ∧ (gA s0 0)[4]? = some 13 ∧ (gA s0 0)[5]? = some 6 ∧ (gA s0 0)[6]? = some 2 ∧ (gA s0 0)[7]? = some 15 ∧ (gA s0 0)[8]? = some 1 ∧ (gA s0 1)[1]? = some 0 ∧ (gA s0 1)[6]? = some 0 ∧ (gA s0 1)[8]? = some n
theorem own_P.nx {s0 s : St} {pp : Nat} (h : own_P s0 s pp) : own_P s0 (sI s 11 (gI s 11 + 1)) (pp + 1) := by
  obtain ⟨h1, h2, h3, h4, h5, h6, h7⟩ := h
  refine ⟨h1, h2, ?_, h4, h5, h6, fun j hj => ?_⟩
  · show gI s 11 + 1 = _
    rw [h3, ofN_succ]
  · rw [gI_sI, if_neg (by omega)]; exact h7 j hj
theorem own_kA {s0 s : St} {pp : Nat} {k : Int32} (h : own_P s0 s pp) (hp : pp < 25) (hk : (gA s0 0)[pp]? = some k) : f_kindAt (gI s 11) s = some k := by
  unfold f_kindAt
  rw [h.2.2.1, h.1, if_neg (ofN_nn (by omega)), if_pos ((ofN_ltL (m := 25) (by omega) (by decide)).mpr hp), h.2.2.2.1, rd_at (by omega) hk]; rfl
theorem own_vA {s0 s : St} {pp : Nat} {k : Int32} (h : own_P s0 s pp) (hp : pp < 25) (hk : (gA s0 1)[pp]? = some k) : f_valAt (gI s 11) s = some k := by
  unfold f_valAt
  rw [h.2.2.1, h.1, if_neg (ofN_nn (by omega)), if_pos ((ofN_ltL (m := 25) (by omega) (by decide)).mpr hp), h.2.2.2.2.1, rd_at (by omega) hk]; rfl
theorem own_ok {s0 s : St} {pp : Nat} (h : own_P s0 s pp) : ¬ gI s 12 = 0 := by rw [h.2.1]; decide
theorem own_exp {s0 s : St} {pp : Nat} {k : Int32} (h : own_P s0 s pp) (hp : pp < 25) (hk : (gA s0 0)[pp]? = some k) : f_expect k s = some (sI s 11 (gI s 11 + 1)) := by
  unfold f_expect
  rw [if_neg (own_ok h), own_kA h hp hk, Option.bind_some, if_pos rfl]; rfl
theorem own_exq {s : St} (h : gI s 12 = 0) (k : Int32) : f_expect k s = some s := by
  unfold f_expect
  rw [if_pos h]
theorem own_P.wr {s0 s : St} {pp : Nat} (h : own_P s0 s pp) (j k : Nat) (x : Int32) (hj : 2 ≤ j) : own_P s0 (sA s j ((gA s j).set k x)) pp := by
  obtain ⟨h1, h2, h3, h4, h5, ⟨l3, l4, l8, l9, l10⟩, h7⟩ := h
  have le : ∀ i, (gA (sA s j ((gA s j).set k x)) i).length = (gA s i).length := fun i => by
    rw [gA_sA]
    by_cases e : i = j
    · rw [if_pos e, set_len, e]
    · rw [if_neg e]
  exact ⟨h1, h2, h3, by rw [gA_sA, if_neg (by omega)]; exact h4, by rw [gA_sA, if_neg (by omega)]; exact h5, ⟨(le 3).trans l3, (le 4).trans l4, (le 8).trans l8, (le 9).trans l9, (le 10).trans l10⟩, h7⟩
theorem own_P.i13 {s0 s : St} {pp : Nat} (h : own_P s0 s pp) (x : Int32) : own_P s0 (sI s 13 x) pp := by
  obtain ⟨h1, h2, h3, h4, h5, h6, h7⟩ := h
  refine ⟨h1, h2, h3, h4, h5, h6, fun j hj => ?_⟩
  rw [gI_sI, if_neg (by omega)]; exact h7 j hj
theorem own_pf {s0 s : St} {n : Int32} (h : own_P s0 s 0) (K : own_KT n s0) (h3 : (gA s 3)[0]? = some 0) (f : Nat) : ∃ s', own_P s0 s' 2 ∧ f_parseFunc f s = f_parseFunc_90 f 0 0 s' := by
  obtain ⟨k0, k1, k2, k3, k4, k5, k6, k7, k8, v1, v6, v8⟩ := K
  have p1 := h.nx
  obtain ⟨-, -, -, -, -, ⟨l3, l4, l8, l9, l10⟩, -⟩ := id p1
  refine ⟨sI (sI (sA (sA (sI s 11 (gI s 11 + 1)) 3 ((gA (sI s 11 (gI s 11 + 1)) 3).set 0 1)) 4 ((gA (sA (sI s 11 (gI s 11 + 1)) 3 ((gA (sI s 11 (gI s 11 + 1)) 3).set 0 1)) 4).set 0 (gI (sA (sI s 11 (gI s 11 + 1)) 3 ((gA (sI s 11 (gI s 11 + 1)) 3).set 0 1)) 11))) 13 0) 11 _, (((p1.wr 3 0 1 (by decide)).wr 4 0 _ (by decide)).i13 0).nx, ?_⟩
  unfold f_parseFunc
  refine own_bs (own_exp h (by decide) k0) ?_
  rw [if_neg (own_ok p1)]
  refine own_bs (own_kA p1 (by decide) k1) ?_
  rw [if_pos rfl]
  refine own_bs (own_vA p1 (by decide) v1) ?_
  show (rd (gA (sI s 11 (gI s 11 + 1)) 3) 0).bind _ = _
  refine own_rr (k := 0) rfl h3 ?_
  rw [if_pos rfl]
  show (wrA (sI s 11 (gI s 11 + 1)) 3 0 1).bind _ = _
  refine own_sa (k := 0) rfl (show 0 < (gA s 3).length by have : (gA s 3).length = 4 := l3; omega) ?_
  refine own_sa (k := 0) rfl (show 0 < (gA s 4).length by have : (gA s 4).length = 4 := l4; omega) ?_
  rfl
def own_tl (f : Nat) (s : St) : Option St :=
    (f_expect (11 : Int32) s).bind fun c5 =>
    (f_parseParams f c5).bind fun c6 =>
    (f_expect (12 : Int32) c6).bind fun c7 =>
    (f_expect (13 : Int32) c7).bind fun c8 =>
    (f_parseDecls f c8).bind fun c9 =>
    (wrA c9 8 0 (gI c9 11)).bind fun s10 =>
    (f_parseBody f s10).bind fun c11 =>
    some c11
theorem own_p90 {s0 : St} : ∀ (j c f : Nat) (s : St), c + j = 8 → own_P s0 s 2 → ∃ s', own_P s0 s' 2 ∧ f_parseFunc_90 (f + 1 + j) 0 (Int32.ofNat c) s = own_tl f s'
  | 0, c, f, s, hc, h => by
    obtain rfl : c = 8 := by omega
    refine ⟨s, h, ?_⟩
    show g_parseFunc_90 (f_parseFunc_90 f) f 0 (Int32.ofNat 8) s = _
    unfold g_parseFunc_90
    rw [if_neg (by decide)]; rfl
  | j + 1, c, f, s, hc, h => by
    obtain ⟨-, -, -, -, -, ⟨l3, l4, l8, l9, l10⟩, -⟩ := id h
    have h2 := (h.wr 9 c (-1) (by decide)).wr 10 c 0 (by decide)
    obtain ⟨s', p, e⟩ := own_p90 j (c + 1) f _ (by omega) h2
    refine ⟨s', p, ?_⟩
    show g_parseFunc_90 (f_parseFunc_90 (f + 1 + j)) (f + 1 + j) 0 (Int32.ofNat c) s = _
    unfold g_parseFunc_90
    have z : (0 : Int32) * 8 + Int32.ofNat c = Int32.ofNat c := by rw [show (0 : Int32) * 8 = 0 from rfl, Int32.zero_add]
    rw [if_pos ((ofN_ltL (m := 8) (by omega) (by decide)).mpr (by omega)), z]
    refine own_sa (k := c) (ofN_int (by omega)) (by omega) ?_
    refine own_sa (k := c) (ofN_int (by omega)) (show c < (gA s 10).length by omega) ?_
    show f_parseFunc_90 (f + 1 + j) 0 (Int32.ofNat c + 1) _ = _
    rw [ofN_succ]
    exact e
theorem own_bad {s0 s : St} {n : Int32} (h : own_P s0 s 2) (K : own_KT n s0) (hn : n < 1 ∨ 16 < n) (f : Nat) : ∃ s', own_tl (f + 2) s = some s' ∧ gI s' 12 = 0 ∧ ∀ j, j < 11 → gI s' j = gI s0 j := by
  obtain ⟨k0, k1, k2, k3, k4, k5, k6, k7, k8, v1, v6, v8⟩ := K
  have p3 := h.nx
  have p4 := p3.nx
  have p5 := p4.nx
  have p6 := p5.nx
  have p7 := p6.nx
  have p8 := p7.nx
  generalize e3 : sI s 11 (gI s 11 + 1) = s3 at p3 p4 p5 p6 p7 p8
  generalize e4 : sI s3 11 (gI s3 11 + 1) = s4 at p4 p5 p6 p7 p8
  generalize e5 : sI s4 11 (gI s4 11 + 1) = s5 at p5 p6 p7 p8
  generalize e6 : sI s5 11 (gI s5 11 + 1) = s6 at p6 p7 p8
  generalize e7 : sI s6 11 (gI s6 11 + 1) = s7 at p7 p8
  generalize e8 : sI s7 11 (gI s7 11 + 1) = s8 at p8
  have x1 : f_expect 11 s = some s3 := by rw [own_exp h (by decide) k2, e3]
  have x2 : f_parseParams (f + 2) s3 = some s3 := by
    unfold f_parseParams
    rw [if_neg (own_ok p3), own_kA p3 (by decide) k3, Option.bind_some, if_neg (by decide)]; rfl
  have x3 : f_expect 12 s3 = some s4 := by rw [own_exp p3 (by decide) k3, e4]
  have x4 : f_expect 13 s4 = some s5 := by rw [own_exp p4 (by decide) k4, e5]
  have y1 : f_declName s6 = some (0, s7) := by
    unfold f_declName
    rw [if_neg (own_ok p6), own_kA p6 (by decide) k6, Option.bind_some, if_pos rfl, own_vA p6 (by decide) v6, Option.bind_some, e7]; rfl
  have y2 : f_expect 15 s7 = some s8 := by rw [own_exp p7 (by decide) k7, e8]
  have y3 : f_arrSize s8 = some (0, sI s8 12 0) := by
    unfold f_arrSize f_arrSize_48
    rw [if_neg (own_ok p8), own_kA p8 (by decide) k8, Option.bind_some, if_pos rfl, own_vA p8 (by decide) v8, Option.bind_some]
    by_cases c : n < 1
    · rw [if_pos c]; rfl
    · rw [if_neg c, if_pos (hn.resolve_left c)]; rfl
  have q0 : gI (sI s8 12 0) 12 = 0 := rfl
  have y4 : f_addName 0 0 1 (sI s8 12 0) = some (sI s8 12 0) := by
    unfold f_addName
    rw [if_pos q0]
  have y5 : ∀ g, f_parseDecls_2 (g + 1) 1 (sI s8 12 0) = some (sI s8 12 0) := fun g => by
    show g_parseDecls_2 (f_parseDecls_2 g) g 1 (sI s8 12 0) = _
    unfold g_parseDecls_2 f_parseDecls_123
    rw [if_pos (by decide), if_pos q0]
  have x5 : f_parseDecls (f + 2) s5 = some (sI s8 12 0) := by
    show g_parseDecls_2 (f_parseDecls_2 (f + 1)) (f + 1) 0 s5 = _
    unfold g_parseDecls_2 f_parseDecls_117
    rw [if_pos (by decide), if_neg (own_ok p5), own_kA p5 (by decide) k5, Option.bind_some, if_neg (by decide), if_pos rfl]
    show (f_declName (sI s5 11 (gI s5 11 + 1))).bind _ = _
    rw [e6]
    refine own_bs y1 ?_
    refine own_bs y2 ?_
    refine own_bs y3 ?_
    refine own_bs y4 ?_
    refine own_bs (own_exq q0 16) ?_
    refine own_bs (own_exq q0 17) ?_
    exact y5 f
  have l8 : (gA s8 8).length = 4 := p8.2.2.2.2.2.1.2.2.1
  have x6 : ∀ t, gI t 12 = 0 → f_parseBody (f + 2) t = some (sI t 12 0) := fun t ht => by
    show g_parseBody_4 (f_parseBody_4 (f + 1)) (f + 1) 0 0 t = _
    unfold g_parseBody_4 f_parseBody_168
    rw [if_pos (by decide), if_pos ht]; rfl
  refine ⟨sI (sA (sI s8 12 0) 8 ((gA (sI s8 12 0) 8).set 0 (gI (sI s8 12 0) 11))) 12 0, ?_, rfl, fun j hj => ?_⟩
  · unfold own_tl
    refine own_bs x1 ?_
    refine own_bs x2 ?_
    refine own_bs x3 ?_
    refine own_bs x4 ?_
    refine own_bs x5 ?_
    refine own_sa (k := 0) rfl (show 0 < (gA s8 8).length by omega) ?_
    exact own_bs (x6 _ rfl) rfl
  · rw [gI_sI, if_neg (by omega), gI_sA, gI_sI, if_neg (by omega)]
    exact p8.2.2.2.2.2.2 j hj
theorem own_tkj (k : Nat) (a b : Int32) (s : St) {j : Nat} (hj : 2 ≤ j) : gA (own_tk k a b s) j = gA s j := by
  show gA (sA (sA s 0 _) 1 _) j = _
  rw [gA_sA, if_neg (by omega), gA_sA, if_neg (by omega)]
theorem own_A25 (m d n i a : Int32) {j : Nat} (hj : 2 ≤ j) : gA (own_S25 m d n i a) j = gA st0 j := by
  simp only [own_S25, own_S24, own_S23, own_S22, own_S21, own_S20, own_S19, own_S18, own_S17, own_S16, own_S15, own_S14, own_S13, own_S12, own_S11, own_S10, own_S9, own_S8, own_S7, own_S6, own_S5, own_S4, own_S3, own_S2, own_S1, own_S0, own_tkj _ _ _ _ hj]
  rfl
theorem own_p0 (t : St) (h2 : gI t 2 = 25) (l3 : (gA t 3).length = 4) (l4 : (gA t 4).length = 4) (l8 : (gA t 8).length = 4) (l9 : (gA t 9).length = 32) (l10 : (gA t 10).length = 32) : own_P (own_N (own_cl t)) (sI (sI (own_N (own_cl t)) 12 1) 11 0) 0 := by
  refine ⟨h2, rfl, rfl, rfl, rfl, ⟨l3, l4, l8, l9, l10⟩, fun j hj => ?_⟩
  rw [gI_sI, if_neg (by omega), gI_sI, if_neg (by omega)]
theorem own_bg {n : Int32} (t : St) (p0 : own_P (own_N (own_cl t)) (sI (sI (own_N (own_cl t)) 12 1) 11 0) 0) (K : own_KT n (own_N (own_cl t))) (h3 : (gA t 3)[0]? = some 0) (hn : n < 1 ∨ 16 < n) : ∃ s', own_C t = some (0, s') ∧ gI s' 3 = 0 ∧ ∀ j, 4 ≤ j → j < 11 → gI s' j = gI (own_cl t) j := by
  obtain ⟨s1, p1, e1⟩ := own_pf p0 K h3 337
  obtain ⟨s2, p2, e2⟩ := own_p90 8 0 328 s1 rfl p1
  obtain ⟨s3, e3, z3, i3⟩ := own_bad p2 K hn 326
  have e : f_parseFunc 337 (sI (sI (own_N (own_cl t)) 12 1) 11 0) = some s3 := e1.trans (e2.trans e3)
  have g : f_parseProgram_104 338 1 (own_N (own_cl t)) = some (0, s3) := by
    show g_parseProgram_114 (f_parseProgram_114 337) 337 0 (sI (sI (own_N (own_cl t)) 12 1) 11 0) = _
    unfold g_parseProgram_114
    rw [if_pos (by decide), if_neg (own_ok p0), if_pos (by rw [p0.1, p0.2.2.1]; decide), e, Option.bind_some]
    show g_parseProgram_114 (f_parseProgram_114 336) 336 1 s3 = _
    unfold g_parseProgram_114 f_parseProgram_148 f_parseProgram_166
    rw [if_pos (by decide), if_pos z3, if_pos z3]
  refine ⟨sI s3 3 0, ?_, rfl, fun j h1 h2 => ?_⟩
  · unfold own_C
    rw [g, Option.bind_some]
    show some (((0 : Int32) &&& 1) &&& 1, sI s3 3 ((0 : Int32) &&& 1)) = _
    rw [show ((0 : Int32) &&& 1) = 0 from by decide, show ((0 : Int32) &&& 1) = 0 from by decide]
  · rw [gI_sI, if_neg (by omega), i3 j h2]; rfl
set_option maxRecDepth 100000
theorem own_bc (m d n i a : Int32) (hn : n < 1 ∨ 16 < n) : ∃ s', own_C (own_S25 m d n i a) = some (0, s') ∧ gI s' 3 = 0 ∧ ∀ j, 4 ≤ j → j < 11 → gI s' j = gI (own_cl (own_S25 m d n i a)) j := by
  have p0 := own_p0 (own_S25 m d n i a) rfl (by rw [own_A25 _ _ _ _ _ (by decide)]; rfl) (by rw [own_A25 _ _ _ _ _ (by decide)]; rfl) (by rw [own_A25 _ _ _ _ _ (by decide)]; rfl) (by rw [own_A25 _ _ _ _ _ (by decide)]; rfl) (by rw [own_A25 _ _ _ _ _ (by decide)]; rfl)
  have K : own_KT n (own_N (own_cl (own_S25 m d n i a))) := ⟨by cbv, by cbv, by cbv, by cbv, by cbv, by cbv, by cbv, by cbv, by cbv, by cbv, by cbv, by cbv⟩
  have h3 : (gA (own_S25 m d n i a) 3)[0]? = some 0 := by rw [own_A25 _ _ _ _ _ (by decide)]; rfl
  exact own_bg _ p0 K h3 hn

/-! the run of the compiled function -/
def own_Q (n i a : Int32) (s : St) : Prop := gI s 2 = 25 ∧ ((gA s 0)[11]? = some 2 ∧ (gA s 0)[12]? = some 15 ∧ (gA s 0)[13]? = some 1 ∧ (gA s 0)[16]? = some 1 ∧ (gA s 0)[17]? = some 17 ∧ (gA s 0)[18]? = some 9 ∧ (gA s 0)[19]? = some 2 ∧ (gA s 0)[20]? = some 15 ∧ (gA s 0)[21]? = some 1 ∧ (gA s 0)[23]? = some 17) ∧ ((gA s 1)[11]? = some 0 ∧ (gA s 1)[13]? = some i ∧ (gA s 1)[16]? = some a ∧ (gA s 1)[19]? = some 0 ∧ (gA s 1)[21]? = some i) ∧ ((gA s 4)[0]? = some 1 ∧ (gA s 5)[0]? = some 0 ∧ (gA s 6)[0]? = some 1 ∧ (gA s 7)[0]? = some n ∧ (gA s 8)[0]? = some 11 ∧ (gA s 9)[0]? = some 0 ∧ (gA s 10)[0]? = some 1 ∧ (gA s 11)[0]? = some n)
theorem own_Q.of {n i a : Int32} {s t : St} (h : own_Q n i a s) (h2 : gI t 2 = gI s 2) (hA : ∀ j, j < 12 → gA t j = gA s j) : own_Q n i a t := by
  unfold own_Q
  rw [h2, hA 0 (by decide), hA 1 (by decide), hA 4 (by decide), hA 5 (by decide), hA 6 (by decide), hA 7 (by decide), hA 8 (by decide), hA 9 (by decide), hA 10 (by decide), hA 11 (by decide)]
  exact h
def own_ln (j : Nat) : Nat := if j < 19 then 64 else if j < 27 then 1 else 4
def own_L (s : St) : Prop := ∀ j, 16 ≤ j → j < 30 → own_ln j ≤ (gA s j).length
theorem own_L.wr {s : St} (h : own_L s) (j k : Nat) (x : Int32) : own_L (sA s j ((gA s j).set k x)) := fun i h1 h2 => by
  rw [gA_sA]
  by_cases e : i = j
  · rw [if_pos e, set_len, ← e]; exact h i h1 h2
  · rw [if_neg e]; exact h i h1 h2
def own_Rs (s : St) : Prop := gI s 5 = -1 ∧ gI s 6 = 0 ∧ gI s 7 = -1 ∧ gI s 8 = 0 ∧ gI s 10 = 0
def own_W (n i a : Int32) (s : St) : Prop := own_Q n i a s ∧ own_L s ∧ gI s 15 = 1 ∧ gI s 18 = 1 ∧ own_Rs s ∧ (gA s 22)[0]? = some 0 ∧ (gA s 23)[0]? = some 0 ∧ (gA s 24)[0]? = some 0 ∧ (gA s 19)[0]? = some 0 ∧ (gA s 20)[0]? = some n ∧ (gA s 21)[0]? = some 1
theorem own_W.wr {n i a : Int32} {s : St} (h : own_W n i a s) (j k : Nat) (x : Int32) (hj : (16 ≤ j ∧ j ≤ 18) ∨ (27 ≤ j ∧ j ≤ 29)) : own_W n i a (sA s j ((gA s j).set k x)) := by
  obtain ⟨h1, h2, h3, h4, h5, h6, h7, h8, h9, h10, h11⟩ := h
  have ge : ∀ l, ¬ l = j → gA (sA s j ((gA s j).set k x)) l = gA s l := fun l hl => by rw [gA_sA, if_neg hl]
  refine ⟨h1.of rfl fun l hl => ge l (by omega), h2.wr j k x, h3, h4, h5, ?_, ?_, ?_, ?_, ?_, ?_⟩
  · rw [ge _ (by omega)]; exact h6
  · rw [ge _ (by omega)]; exact h7
  · rw [ge _ (by omega)]; exact h8
  · rw [ge _ (by omega)]; exact h9
  · rw [ge _ (by omega)]; exact h10
  · rw [ge _ (by omega)]; exact h11
theorem own_kq {s : St} {c x : Int32} {k : Nat} (h2 : gI s 2 = 25) (hc : c.toInt = k) (hk : k < 25) (h : (gA s 0)[k]? = some x) : f_kindAt c s = some x := by
  have o : (25 : Int32).toInt = 25 := rfl
  have o0 : (0 : Int32).toInt = 0 := rfl
  unfold f_kindAt
  rw [h2, if_neg (by rw [x32_lt, hc, o0]; omega), if_pos (by rw [x32_lt, hc, o]; omega), rd_of hc h]; rfl
theorem own_vq {s : St} {c x : Int32} {k : Nat} (h2 : gI s 2 = 25) (hc : c.toInt = k) (hk : k < 25) (h : (gA s 1)[k]? = some x) : f_valAt c s = some x := by
  have o : (25 : Int32).toInt = 25 := rfl
  have o0 : (0 : Int32).toInt = 0 := rfl
  unfold f_valAt
  rw [h2, if_neg (by rw [x32_lt, hc, o0]; omega), if_pos (by rw [x32_lt, hc, o]; omega), rd_of hc h]; rfl
def own_sr (r : Nat) (k v o : Int32) (s : St) : St := sA (sA (sA s 27 ((gA s 27).set r k)) 28 ((gA s 28).set r v)) 29 ((gA s 29).set r o)
def own_rg (s : St) (r : Nat) (k v o : Int32) : Prop := (gA s 27)[r]? = some k ∧ (gA s 28)[r]? = some v ∧ (gA s 29)[r]? = some o
theorem own_set {s : St} (hL : own_L s) {c : Int32} {r : Nat} (hc : c.toInt = r) (hr : r < 4) (k v o : Int32) : f_setReg c k v o s = some (own_sr r k v o s) := by
  have l1 : 4 ≤ (gA s 27).length := hL 27 (by decide) (by decide)
  have l2 : 4 ≤ (gA s 28).length := hL 28 (by decide) (by decide)
  have l3 : 4 ≤ (gA s 29).length := hL 29 (by decide) (by decide)
  unfold f_setReg
  refine own_sa hc (by omega) ?_
  refine own_sa hc (show r < (gA s 28).length by omega) ?_
  exact own_sa hc (show r < (gA s 29).length by omega) rfl
theorem own_W.sr {n i a : Int32} {s : St} (h : own_W n i a s) (r : Nat) (k v o : Int32) : own_W n i a (own_sr r k v o s) :=
  ((h.wr 27 r k (by decide)).wr 28 r v (by decide)).wr 29 r o (by decide)
theorem own_rs {s : St} (hL : own_L s) {r : Nat} (hr : r < 4) (k v o : Int32) : own_rg (own_sr r k v o s) r k v o := by
  have l1 : 4 ≤ (gA s 27).length := hL 27 (by decide) (by decide)
  have l2 : 4 ≤ (gA s 28).length := hL 28 (by decide) (by decide)
  have l3 : 4 ≤ (gA s 29).length := hL 29 (by decide) (by decide)
  exact ⟨get_set_self _ (by omega), get_set_self _ (by omega), get_set_self _ (by omega)⟩
theorem own_copy {s : St} (hL : own_L s) {c e : Int32} {q r : Nat} (he : e.toInt = q) (hc : c.toInt = r) (hr : r < 4) {k v o : Int32} (h : own_rg s q k v o) : f_copyReg c e s = some (own_sr r k v o s) := by
  unfold f_copyReg
  refine own_rr he h.1 ?_
  refine own_rr he h.2.1 ?_
  refine own_rr he h.2.2 ?_
  exact own_bs (own_set hL hc hr k v o) rfl
/-- an expression of one operand -/
theorem own_evx {n i a : Int32} {s s' : St} {pc pc' k v o t : Int32} (e : f_evalOperand pc s = some (pc', s')) (np : ¬ pc' < 0) (hW : own_W n i a s') (hr : own_rg s' 0 k v o) {q : Nat} (hq : pc'.toInt = q) (hq2 : q < 25) (hk : (gA s' 0)[q]? = some t) (ht : ¬ t = 22 ∧ ¬ t = 20 ∧ ¬ t = 21 ∧ ¬ t = 24 ∧ ¬ t = 25) : f_evalExpr pc s = some (pc', own_sr 2 k v o (own_sr 1 k v o s')) := by
  have W1 := hW.sr 1 k v o
  have W2 := W1.sr 2 k v o
  have r1 : own_rg (own_sr 1 k v o s') 1 k v o := own_rs hW.2.1 (by decide) k v o
  have c1 : f_copyReg 1 0 s' = some (own_sr 1 k v o s') := own_copy hW.2.1 (q := 0) (r := 1) rfl rfl (by decide) hr
  have c2 : f_copyReg 2 1 (own_sr 1 k v o s') = some (own_sr 2 k v o (own_sr 1 k v o s')) := own_copy W1.2.1 (q := 1) (r := 2) rfl rfl (by decide) r1
  have k0 : f_kindAt pc' (own_sr 1 k v o s') = some t := own_kq W1.1.1 hq hq2 hk
  have k2 : f_kindAt pc' (own_sr 2 k v o (own_sr 1 k v o s')) = some t := own_kq W2.1.1 hq hq2 hk
  have et : f_evalTerm pc s = some (pc', own_sr 1 k v o s') := by
    unfold f_evalTerm f_evalTerm_75
    refine own_bs e ?_
    rw [if_neg np]
    refine own_bs c1 ?_
    rw [if_pos (by decide)]
    refine own_bs k0 ?_
    rw [if_neg ht.1]
  have es : f_evalSum pc s = some (pc', own_sr 2 k v o (own_sr 1 k v o s')) := by
    unfold f_evalSum
    refine own_bs et ?_
    rw [if_neg np]
    refine own_bs c2 ?_
    rw [if_pos (by decide)]
    refine own_bs k2 ?_
    rw [if_neg ht.2.1, if_neg ht.2.2.1]
  unfold f_evalExpr
  refine own_bs es ?_
  rw [if_neg np]
  refine own_bs k2 ?_
  rw [if_neg ht.2.2.2.1, if_neg ht.2.2.2.2]
theorem own_lv {n i a : Int32} {s : St} (h : own_W n i a s) : f_loadVar 0 0 s = some (own_sr 0 1 0 0 s) := by
  have q9 := h.1.2.2.2.2.2.2.2.2.1
  have q10 := h.1.2.2.2.2.2.2.2.2.2.1
  have e1 : f_objOf 0 s = some 0 := by
    unfold f_objOf f_objOf_41 lt
    rw [h.2.2.1]
    dsimp only
    rw [if_neg (by decide)]
    refine own_rr (k := 0) rfl h.2.2.2.2.2.1 ?_
    refine own_rr (k := 0) (by decide) q9 ?_
    rw [if_neg (by decide)]
    exact own_rr (k := 0) rfl h.2.2.2.2.2.2.1 (by decide)
  have e2 : f_isArr 0 s = some 1 := by
    unfold f_isArr lt
    rw [h.2.2.1]
    dsimp only
    rw [if_neg (by decide)]
    refine own_rr (k := 0) rfl h.2.2.2.2.2.1 ?_
    exact own_rr (k := 0) (by decide) q10 (by decide)
  unfold f_loadVar
  refine own_bs e1 ?_
  refine own_bs e2 ?_
  rw [if_neg (by decide)]
  exact own_bs (own_set h.2.1 (r := 0) rfl (by decide) 1 0 0) rfl
theorem own_la {n i a : Int32} {s : St} (h : own_W n i a s) {c v : Int32} {k : Nat} (hc : c.toInt = k) (hk : k < 25) (h1 : (gA s 0)[k]? = some 1) (h2 : (gA s 1)[k]? = some v) : f_loadAtom c 0 s = some (own_sr 0 0 v 0 s) := by
  unfold f_loadAtom f_loadAtom_34
  refine own_bs (own_kq h.1.1 hc hk h1) ?_
  rw [if_pos rfl]
  refine own_bs (own_vq h.1.1 hc hk h2) ?_
  exact own_bs (own_set h.2.1 (r := 0) rfl (by decide) 0 v 0) rfl
/-- the access check -/
theorem own_in16 : ∀ x : Fin 16, ∀ m : Fin 17, x.val < m.val → ¬ (0 : Int32).toInt64 + (Int32.ofNat x.val).toInt64 < 0 ∧ (0 : Int32).toInt64 + (Int32.ofNat x.val).toInt64 < (Int32.ofNat m.val).toInt64 ∧ ((0 : Int32) + ((0 : Int32).toInt64 + (Int32.ofNat x.val).toInt64).toInt32) &&& 63 = Int32.ofNat x.val := by decide +kernel
theorem own_ck {m x : Nat} {a : Int32} {s : St} {i' : Int32} (h : own_W (Int32.ofNat m) i' a s) (hm : m ≤ 16) (hx : x < m) (p : Int32) : f_check 1 0 0 0 (Int32.ofNat x) p s = some (Int32.ofNat x, s) := by
  obtain ⟨e1, e2, e3⟩ := own_in16 ⟨x, by omega⟩ ⟨m, by omega⟩ hx
  dsimp only at e1 e2 e3
  unfold f_check
  rw [if_pos rfl, if_pos rfl]
  show (rd (gA s 21) 0).bind _ = _
  refine own_rr (k := 0) rfl h.2.2.2.2.2.2.2.2.2.2 ?_
  rw [if_neg (by decide)]
  show (if (0 : Int32).toInt64 + (Int32.ofNat x).toInt64 < 0 then _ else _) = _
  rw [if_neg e1]
  refine own_rr (k := 0) rfl h.2.2.2.2.2.2.2.2.2.1 ?_
  rw [if_pos e2]
  refine own_rr (k := 0) rfl h.2.2.2.2.2.2.2.2.1 ?_
  rw [e3]
def own_tr (k p : Int32) (s : St) : St := sI (sI (sI (sI s 4 k) 5 p) 6 (gI s 15)) 18 0
theorem own_i64z (x : Int32) : ((0 : Int32).toInt64 + x.toInt64).toInt = x.toInt := by
  have : (0 : Int32).toInt64 + x.toInt64 = x.toInt64 := by rw [show (0 : Int32).toInt64 = 0 from rfl, Int64.zero_add]
  rw [this, Int32.toInt_toInt64]
theorem own_cx {m : Nat} {i a : Int32} {s : St} {i' : Int32} (h : own_W (Int32.ofNat m) i' a s) (hm : m ≤ 16) (hx : i < 0 ∨ ¬ i < Int32.ofNat m) (p : Int32) : f_check 1 0 0 0 i p s = some (-1, own_tr 2 p s) := by
  unfold f_check f_check_74
  rw [if_pos rfl, if_pos rfl]
  show (rd (gA s 21) 0).bind _ = _
  refine own_rr (k := 0) rfl h.2.2.2.2.2.2.2.2.2.2 ?_
  rw [if_neg (by decide)]
  show (if (0 : Int32).toInt64 + i.toInt64 < 0 then _ else _) = _
  by_cases c : (0 : Int32).toInt64 + i.toInt64 < 0
  · rw [if_pos c]; rfl
  · rw [if_neg c]
    refine own_rr (k := 0) rfl h.2.2.2.2.2.2.2.2.2.1 ?_
    rw [if_neg]
    · rfl
    · intro q
      have o : (0 : Int64).toInt = 0 := rfl
      have o' : (0 : Int32).toInt = 0 := rfl
      rw [x64_lt, own_i64z, o] at c
      rw [x64_lt, own_i64z, Int32.toInt_toInt64] at q
      rcases hx with e | e
      · rw [x32_lt, o'] at e; omega
      · rw [x32_lt] at e; omega
/-- the store's way to its check -/
theorem own_st {n i a : Int32} {s : St} (h : own_W n i a s) : ∃ t, own_W n i a t ∧ own_rg t 2 0 a 0 ∧ f_step 600 11 s = f_step 600 11 s ∧ ∀ N, f_step N 11 s = (((f_check 1 0 0 0 i 12 t).bind fun c11 => if c11.1 < 0 then some ((-1 : Int32), c11.2) else (f_writeCell c11.1 (2 : Int32) c11.2).bind fun c13 => some ((18 : Int32), c13)).bind fun c4 => some (c4.1, c4.2)) := by
  obtain ⟨g2, ⟨k11, k12, k13, k16, k17, k18, k19, k20, k21, k23⟩, ⟨v11, v13, v16, v19, v21⟩, -⟩ := h.1
  have W1 := h.sr 0 1 0 0
  have W2 := W1.sr 0 0 i 0
  have W3 := W2.sr 0 0 a 0
  have W4 := (W3.sr 1 0 a 0).sr 2 0 a 0
  have r1 : own_rg (own_sr 0 1 0 0 s) 0 1 0 0 := own_rs h.2.1 (by decide) 1 0 0
  have r2 : own_rg (own_sr 0 0 i 0 (own_sr 0 1 0 0 s)) 0 0 i 0 := own_rs W1.2.1 (by decide) 0 i 0
  have r3 : own_rg (own_sr 0 0 a 0 (own_sr 0 0 i 0 (own_sr 0 1 0 0 s))) 0 0 a 0 := own_rs W2.2.1 (by decide) 0 a 0
  refine ⟨_, W4, own_rs (W3.sr 1 0 a 0).2.1 (by decide) 0 a 0, rfl, fun N => ?_⟩
  have eo : f_evalOperand 16 (own_sr 0 0 i 0 (own_sr 0 1 0 0 s)) = some (17, own_sr 0 0 a 0 (own_sr 0 0 i 0 (own_sr 0 1 0 0 s))) := by
    unfold f_evalOperand
    refine own_bs (own_kq (k := 16) W2.1.1 rfl (by decide) W2.1.2.1.2.2.2.1) ?_
    rw [if_pos rfl]
    refine own_bs (own_vq (k := 16) W2.1.1 rfl (by decide) W2.1.2.2.1.2.2.1) ?_
    exact own_bs (own_set W2.2.1 (r := 0) rfl (by decide) 0 a 0) rfl
  have ee := own_evx eo (by decide) W3 r3 (q := 17) rfl (by decide) W3.1.2.1.2.2.2.2.1 (by decide)
  unfold f_step
  refine own_bs (own_kq (k := 11) g2 rfl (by decide) k11) ?_
  rw [if_pos rfl]
  unfold f_execVarStmt
  rw [own_vq (k := 11) g2 rfl (by decide) v11, Option.bind_some, show (11 : Int32) + 1 = 12 from rfl, own_kq (k := 12) g2 rfl (by decide) k12, Option.bind_some, if_pos rfl]
  unfold f_execIndexStore
  rw [own_vq (k := 11) g2 rfl (by decide) v11, Option.bind_some, own_lv h, Option.bind_some]
  rw [rd_of (k := 0) rfl r1.1, Option.bind_some, rd_of (k := 0) rfl r1.2.1, Option.bind_some, rd_of (k := 0) rfl r1.2.2, Option.bind_some]
  rw [show (11 : Int32) + 2 = 13 from rfl, own_la W1 (k := 13) rfl (by decide) W1.1.2.1.2.2.1 W1.1.2.2.1.2.1, Option.bind_some]
  rw [rd_of (k := 0) rfl r2.1, Option.bind_some, rd_of (k := 0) rfl r2.2.1, Option.bind_some]
  rw [show (11 : Int32) + 5 = 16 from rfl, ee, Option.bind_some]
  dsimp only
  rw [if_neg (by decide), show (11 : Int32) + 1 = 12 from rfl, show (17 : Int32) + 1 = 18 from rfl]
  cases (f_check 1 0 0 0 i 12 (own_sr 2 0 a 0 (own_sr 1 0 a 0 (own_sr 0 0 a 0 (own_sr 0 0 i 0 (own_sr 0 1 0 0 s)))))) with
  | none => rfl
  | some c =>
    rw [Option.bind_some]
    split
    · rfl
    · cases f_writeCell c.1 2 c.2 <;> rfl
theorem own_a63 : ∀ x : Fin 16, Int32.ofNat x.val &&& 63 = Int32.ofNat x.val := by decide +kernel
theorem own_wc {n i a : Int32} {s : St} (h : own_W n i a s) (hr : own_rg s 2 0 a 0) (x : Nat) (hx : x < 16) : ∃ t, f_writeCell (Int32.ofNat x) 2 s = some t ∧ own_W n i a t ∧ (gA t 16)[x]? = some 0 ∧ (gA t 17)[x]? = some a ∧ (gA t 18)[x]? = some 0 := by
  have l1 : 64 ≤ (gA s 16).length := h.2.1 16 (by decide) (by decide)
  have l2 : 64 ≤ (gA s 17).length := h.2.1 17 (by decide) (by decide)
  have l3 : 64 ≤ (gA s 18).length := h.2.1 18 (by decide) (by decide)
  refine ⟨sA (sA (sA s 16 ((gA s 16).set x 0)) 17 ((gA s 17).set x a)) 18 ((gA s 18).set x 0), ?_, ((h.wr 16 x 0 (by decide)).wr 17 x a (by decide)).wr 18 x 0 (by decide), get_set_self _ (by omega), get_set_self _ (by omega), get_set_self _ (by omega)⟩
  unfold f_writeCell
  rw [own_a63 ⟨x, hx⟩]
  refine own_rr (k := 2) rfl hr.1 ?_
  refine own_sa (k := x) (ofN_int (by omega)) (by omega) ?_
  refine own_rr (k := 2) rfl hr.2.1 ?_
  refine own_sa (k := x) (ofN_int (by omega)) (show x < (gA s 17).length by omega) ?_
  refine own_rr (k := 2) rfl hr.2.2 ?_
  exact own_sa (k := x) (ofN_int (by omega)) (show x < (gA s 18).length by omega) rfl
theorem own_ret {m x : Nat} {a : Int32} {s : St} (h : own_W (Int32.ofNat m) (Int32.ofNat x) a s) (hm : m ≤ 16) (hx : x < m) (c1 : (gA s 16)[x]? = some 0) (c2 : (gA s 17)[x]? = some a) (c3 : (gA s 18)[x]? = some 0) (N : Nat) : ∃ u, f_step (N + 2) 18 s = some (-1, u) ∧ gI u 18 = 0 ∧ gI u 4 = 0 ∧ gI u 5 = -1 ∧ gI u 6 = 0 ∧ gI u 7 = 0 ∧ gI u 8 = a ∧ gI u 10 = 0 := by
  obtain ⟨g2, ⟨k11, k12, k13, k16, k17, k18, k19, k20, k21, k23⟩, ⟨v11, v13, v16, v19, v21⟩, -⟩ := h.1
  have W1 := h.sr 0 1 0 0
  have W2 := W1.sr 0 0 (Int32.ofNat x) 0
  have W3 := W2.sr 0 0 a 0
  have W4 := (W3.sr 1 0 a 0).sr 2 0 a 0
  have r1 : own_rg (own_sr 0 1 0 0 s) 0 1 0 0 := own_rs h.2.1 (by decide) 1 0 0
  have r2 : own_rg (own_sr 0 0 (Int32.ofNat x) 0 (own_sr 0 1 0 0 s)) 0 0 (Int32.ofNat x) 0 := own_rs W1.2.1 (by decide) 0 (Int32.ofNat x) 0
  have r3 : own_rg (own_sr 0 0 a 0 (own_sr 0 0 (Int32.ofNat x) 0 (own_sr 0 1 0 0 s))) 0 0 a 0 := own_rs W2.2.1 (by decide) 0 a 0
  have r4 : own_rg (own_sr 2 0 a 0 (own_sr 1 0 a 0 (own_sr 0 0 a 0 (own_sr 0 0 (Int32.ofNat x) 0 (own_sr 0 1 0 0 s))))) 2 0 a 0 := own_rs (W3.sr 1 0 a 0).2.1 (by decide) 0 a 0
  have er : f_readCell (Int32.ofNat x) 0 (own_sr 0 0 (Int32.ofNat x) 0 (own_sr 0 1 0 0 s)) = some (own_sr 0 0 a 0 (own_sr 0 0 (Int32.ofNat x) 0 (own_sr 0 1 0 0 s))) := by
    unfold f_readCell
    rw [own_a63 ⟨x, by omega⟩]
    refine own_rr (k := x) (ofN_int (by omega)) c1 ?_
    refine own_rr (k := x) (ofN_int (by omega)) c2 ?_
    refine own_rr (k := x) (ofN_int (by omega)) c3 ?_
    exact own_bs (own_set W2.2.1 (r := 0) rfl (by decide) 0 a 0) rfl
  have eo : f_evalOperand 19 s = some (23, own_sr 0 0 a 0 (own_sr 0 0 (Int32.ofNat x) 0 (own_sr 0 1 0 0 s))) := by
    unfold f_evalOperand
    rw [own_kq (k := 19) g2 rfl (by decide) k19, Option.bind_some, if_neg (by decide), if_neg (by decide), if_neg (by decide), own_vq (k := 19) g2 rfl (by decide) v19, Option.bind_some, own_lv h, Option.bind_some]
    rw [show (19 : Int32) + 1 = 20 from rfl, own_kq (k := 20) W1.1.1 rfl (by decide) W1.1.2.1.2.2.2.2.2.2.2.1, Option.bind_some, if_pos rfl]
    rw [rd_of (k := 0) rfl r1.1, Option.bind_some, rd_of (k := 0) rfl r1.2.1, Option.bind_some, rd_of (k := 0) rfl r1.2.2, Option.bind_some]
    rw [show (19 : Int32) + 2 = 21 from rfl, own_la W1 (k := 21) rfl (by decide) W1.1.2.1.2.2.2.2.2.2.2.2.1 W1.1.2.2.1.2.2.2.2, Option.bind_some]
    rw [rd_of (k := 0) rfl r2.1, Option.bind_some, rd_of (k := 0) rfl r2.2.1, Option.bind_some, own_ck W2 hm hx, Option.bind_some]
    dsimp only
    rw [if_neg (ofN_nn (by omega)), er]; rfl
  have ee := own_evx eo (by decide) W3 r3 (q := 23) rfl (by decide) W3.1.2.1.2.2.2.2.2.2.2.2.2 (by decide)
  generalize own_sr 2 0 a 0 (own_sr 1 0 a 0 (own_sr 0 0 a 0 (own_sr 0 0 (Int32.ofNat x) 0 (own_sr 0 1 0 0 s)))) = t at ee W4 r4
  have l21 : 1 ≤ (gA t 21).length := W4.2.1 21 (by decide) (by decide)
  obtain ⟨R5, R6, R7, R8, R10⟩ := W4.2.2.2.2.1
  have q6 := W4.1.2.2.2.2.2.1
  have ed : f_doReturn (N + 2) 0 a 0 t = some (-1, sI (sI (sI (sI (sI (sI (sI (sA t 21 ((gA t 21).set 0 0)) 16 0) 15 0) 4 0) 7 0) 8 a) 9 0) 18 0) := by
    unfold f_doReturn lt
    rw [W4.2.2.1]
    dsimp only
    rw [if_neg (by decide)]
    refine own_rr (k := 0) rfl W4.2.2.2.2.2.1 ?_
    show g_doReturn_34 (f_doReturn_34 (N + 1)) (N + 1) 0 a 0 0 0 0 t = _
    unfold g_doReturn_34
    refine own_rr (k := 0) rfl q6 ?_
    rw [if_pos (by decide), if_pos (by decide)]
    refine own_rr (k := 0) rfl W4.2.2.2.2.2.2.1 ?_
    refine own_sa (k := 0) (by decide) (by omega) ?_
    show g_doReturn_34 (f_doReturn_34 N) N 0 a 0 0 0 1 (sA t 21 ((gA t 21).set 0 0)) = _
    unfold g_doReturn_34 f_doReturn_79
    refine own_rr (k := 0) rfl (show (gA (sA t 21 ((gA t 21).set 0 0)) 6)[0]? = some 1 from q6) ?_
    rw [if_neg (by decide)]
    exact own_rr (k := 0) rfl (show (gA (sA t 21 ((gA t 21).set 0 0)) 24)[0]? = some 0 from W4.2.2.2.2.2.2.2.1) rfl
  have es : f_step (N + 2) 18 s = some (-1, sI (sI (sI (sI (sI (sI (sI (sA t 21 ((gA t 21).set 0 0)) 16 0) 15 0) 4 0) 7 0) 8 a) 9 0) 18 0) := by
    unfold f_step
    refine own_bs (own_kq (k := 18) g2 rfl (by decide) k18) ?_
    rw [if_neg (by decide), if_neg (by decide), if_neg (by decide), if_neg (by decide), if_neg (by decide), if_neg (by decide), if_neg (by decide), if_pos rfl]
    unfold f_execReturn
    rw [show (18 : Int32) + 1 = 19 from rfl, ee, Option.bind_some]
    dsimp only
    rw [if_neg (by decide), rd_of (k := 2) rfl r4.1, Option.bind_some, rd_of (k := 2) rfl r4.2.1, Option.bind_some, rd_of (k := 2) rfl r4.2.2, Option.bind_some, ed]; rfl
  exact ⟨_, es, rfl, rfl, R5, R6, rfl, rfl, R10⟩
/-- the loop of steps -/
theorem own_stop (N : Nat) (v w : Int32) {u : St} (h : gI u 18 = 0) : f_run_85 (N + 1) v w u = some (gI u 4, u) := by
  show g_run_85 (f_run_85 N) N v w u = _
  unfold g_run_85 f_run_110 f_run_124
  rw [if_pos h, if_pos h, ite_self]
theorem own_lpX {m : Nat} {i a : Int32} {s : St} (h : own_W (Int32.ofNat m) i a s) (hm : m ≤ 16) (hx : i < 0 ∨ ¬ i < Int32.ofNat m) : ∃ u, f_run_85 600 11 0 s = some (2, u) ∧ gI u 4 = 2 ∧ gI u 5 = 12 ∧ gI u 6 = 1 ∧ gI u 7 = -1 ∧ gI u 8 = 0 ∧ gI u 10 = 0 := by
  obtain ⟨t, W, -, -, e⟩ := own_st h
  obtain ⟨R5, R6, R7, R8, R10⟩ := W.2.2.2.2.1
  have es : f_step 599 11 s = some (-1, own_tr 2 12 t) := by
    rw [e, own_cx W hm hx, Option.bind_some]
    dsimp only
    rw [if_pos (by decide)]; rfl
  refine ⟨own_tr 2 12 t, ?_, rfl, rfl, W.2.2.1, R7, R8, R10⟩
  show g_run_85 (f_run_85 599) 599 11 0 s = _
  unfold g_run_85
  rw [if_pos (by decide), if_neg (by rw [h.2.2.2.1]; decide), es, Option.bind_some]
  exact own_stop 598 _ _ rfl
theorem own_lpI {m x : Nat} {a : Int32} {s : St} (h : own_W (Int32.ofNat m) (Int32.ofNat x) a s) (hm : m ≤ 16) (hx : x < m) : ∃ u, f_run_85 600 11 0 s = some (0, u) ∧ gI u 4 = 0 ∧ gI u 5 = -1 ∧ gI u 6 = 0 ∧ gI u 7 = 0 ∧ gI u 8 = a ∧ gI u 10 = 0 := by
  obtain ⟨t, W, rg, -, e⟩ := own_st h
  obtain ⟨t', e', W', c1, c2, c3⟩ := own_wc W rg x (by omega)
  obtain ⟨u, eu, u18, u4, u5, u6, u7, u8, u10⟩ := own_ret W' hm hx c1 c2 c3 596
  have es : f_step 599 11 s = some (18, t') := by
    rw [e, own_ck W hm hx, Option.bind_some]
    dsimp only
    rw [if_neg (ofN_nn (by omega)), e']; rfl
  refine ⟨u, ?_, u4, u5, u6, u7, u8, u10⟩
  show g_run_85 (f_run_85 599) 599 11 0 s = _
  unfold g_run_85
  rw [if_pos (by decide), if_neg (by rw [h.2.2.2.1]; decide), es, Option.bind_some]
  show g_run_85 (f_run_85 598) 598 18 1 t' = _
  unfold g_run_85
  rw [if_pos (by decide), if_neg (by rw [W'.2.2.2.1]; decide), eu, Option.bind_some]
  rw [← u4]
  exact own_stop 597 _ _ u18
/-- the frame -/
theorem own_z142 (K : Int32 → Int32 → Int32 → Int32 → Int32 → St → Option St) {m : Nat} (hm : m ≤ 16) : ∀ (j c f : Nat) (s : St), c + j = m → own_L s → ∃ t, f_pushFrame_142 K (f + 1 + j) 0 0 0 1 0 (Int32.ofNat m) (Int32.ofNat c) s = K 0 0 (0 + Int32.ofNat m) 1 (0 + 1) t ∧ own_L t ∧ (∀ l, ¬ (16 ≤ l ∧ l ≤ 18) → gA t l = gA s l) ∧ ∀ l, gI t l = gI s l
  | 0, c, f, s, hc, hL => by
    obtain rfl : c = m := by omega
    refine ⟨s, ?_, hL, fun _ _ => rfl, fun _ => rfl⟩
    show g_pushFrame_142 K (f_pushFrame_142 K f) f 0 0 0 1 0 (Int32.ofNat c) (Int32.ofNat c) s = _
    unfold g_pushFrame_142
    rw [if_neg (fun q => by rw [x32_lt] at q; omega)]; rfl
  | j + 1, c, f, s, hc, hL => by
    have l1 : 64 ≤ (gA s 16).length := hL 16 (by decide) (by decide)
    have l2 : 64 ≤ (gA s 17).length := hL 17 (by decide) (by decide)
    have l3 : 64 ≤ (gA s 18).length := hL 18 (by decide) (by decide)
    obtain ⟨t, e, t1, t2, t3⟩ := own_z142 K hm j (c + 1) f _ (by omega) (((hL.wr 16 c 0).wr 17 c 0).wr 18 c 0)
    refine ⟨t, ?_, t1, fun l hl => ?_, t3⟩
    · show g_pushFrame_142 K (f_pushFrame_142 K (f + 1 + j)) (f + 1 + j) 0 0 0 1 0 (Int32.ofNat m) (Int32.ofNat c) s = _
      unfold g_pushFrame_142
      rw [if_pos ((ofN_lt (by omega) (by omega)).mpr (by omega)), show (0 : Int32) + Int32.ofNat c = Int32.ofNat c from Int32.zero_add _, own_a63 ⟨c, by omega⟩]
      refine own_sa (k := c) (ofN_int (by omega)) (by omega) ?_
      refine own_sa (k := c) (ofN_int (by omega)) (show c < (gA s 17).length by omega) ?_
      refine own_sa (k := c) (ofN_int (by omega)) (show c < (gA s 18).length by omega) ?_
      show f_pushFrame_142 K (f + 1 + j) 0 0 0 1 0 (Int32.ofNat m) (Int32.ofNat c + 1) _ = _
      rw [ofN_succ]
      exact e
    · rw [t2 l hl]
      rw [gA_sA, if_neg (by omega), gA_sA, if_neg (by omega), gA_sA, if_neg (by omega)]
theorem own_push {m : Nat} {i a : Int32} {s : St} (hQ : own_Q (Int32.ofNat m) i a s) (hL : own_L s) (hm : m ≤ 16) (h14 : gI s 14 = 0) (h15 : gI s 15 = 0) (h16 : gI s 16 = 0) (h18 : gI s 18 = 1) (hR : own_Rs s) : ∃ t, f_pushFrame 600 0 (-1) (-1) s = some t ∧ own_W (Int32.ofNat m) i a t := by
  have l22 : 1 ≤ (gA s 22).length := hL 22 (by decide) (by decide)
  have l23 : 1 ≤ (gA s 23).length := hL 23 (by decide) (by decide)
  have l24 : 1 ≤ (gA s 24).length := hL 24 (by decide) (by decide)
  have l25 : 1 ≤ (gA s 25).length := hL 25 (by decide) (by decide)
  have l26 : 1 ≤ (gA s 26).length := hL 26 (by decide) (by decide)
  have l19 : 1 ≤ (gA s 19).length := hL 19 (by decide) (by decide)
  have l20 : 1 ≤ (gA s 20).length := hL 20 (by decide) (by decide)
  have l21 : 1 ≤ (gA s 21).length := hL 21 (by decide) (by decide)
  obtain ⟨g2, -, -, ⟨q4, q5, q6, q7, q8, q9, q10, q11⟩⟩ := id hQ
  let s1 := sA (sA (sA (sA (sA s 22 ((gA s 22).set 0 0)) 23 ((gA s 23).set 0 0)) 24 ((gA s 24).set 0 0)) 25 ((gA s 25).set 0 (-1))) 26 ((gA s 26).set 0 (-1))
  let s2 := sA (sA (sA s1 19 ((gA s1 19).set 0 0)) 20 ((gA s1 20).set 0 (Int32.ofNat m))) 21 ((gA s1 21).set 0 1)
  have L2 : own_L s2 := (((((((hL.wr 22 0 0).wr 23 0 0).wr 24 0 0).wr 25 0 (-1)).wr 26 0 (-1)).wr 19 0 0).wr 20 0 (Int32.ofNat m)).wr 21 0 1
  obtain ⟨t, e, t1, t2, t3⟩ := own_z142 (f_pushFrame_72 599) hm m 0 (598 - m) s2 (by omega) L2
  rw [show 598 - m + 1 + m = 599 by omega] at e
  have Qt : own_Q (Int32.ofNat m) i a t := hQ.of (by rw [t3]; rfl) fun l hl => by
    rw [t2 l (by omega)]
    show gA (sA (sA (sA (sA (sA (sA (sA (sA s 22 _) 23 _) 24 _) 25 _) 26 _) 19 _) 20 _) 21 _) l = _
    rw [gA_sA, if_neg (by omega), gA_sA, if_neg (by omega), gA_sA, if_neg (by omega), gA_sA, if_neg (by omega), gA_sA, if_neg (by omega), gA_sA, if_neg (by omega), gA_sA, if_neg (by omega), gA_sA, if_neg (by omega)]
  have p5 := Qt.2.2.2.2.1
  have p7 := Qt.2.2.2.2.2.2.1
  refine ⟨sI (sI (sI t 14 (gI t 14 + 1)) 16 (gI (sI t 14 (gI t 14 + 1)) 16 + Int32.ofNat m)) 15 1, ?_, ?_⟩
  · unfold f_pushFrame lt
    rw [h15]
    dsimp only
    refine own_sa (k := 0) (by decide) (by omega) ?_
    refine own_sa (k := 0) (by decide) (show 0 < (gA s 23).length by omega) ?_
    refine own_sa (k := 0) (by decide) (show 0 < (gA s 24).length by omega) ?_
    refine own_sa (k := 0) (by decide) (show 0 < (gA s 25).length by omega) ?_
    refine own_sa (k := 0) (by decide) (show 0 < (gA s 26).length by omega) ?_
    refine own_rr (k := 0) rfl (show (gA s 6)[0]? = some 1 from q6) ?_
    show f_pushFrame_72 600 0 0 (gI s 16) 1 0 (sA (sA (sA (sA (sA s 22 ((gA s 22).set 0 0)) 23 ((gA s 23).set 0 (gI s 14))) 24 ((gA s 24).set 0 (gI s 16))) 25 ((gA s 25).set 0 (-1))) 26 ((gA s 26).set 0 (-1))) = _
    rw [h14, h16]
    show g_pushFrame_72 (f_pushFrame_72 599) 599 0 0 0 1 0 s1 = _
    unfold g_pushFrame_72 lt
    rw [if_pos (by decide), if_pos (by decide), show gI s1 14 = 0 from h14]
    dsimp only
    refine own_rr (k := 0) rfl (show (gA s 11)[0]? = some (Int32.ofNat m) from q11) ?_
    refine own_sa (k := 0) (by decide) (show 0 < (gA s 19).length by omega) ?_
    refine own_sa (k := 0) (by decide) (show 0 < (gA s 20).length by omega) ?_
    refine own_sa (k := 0) (by decide) (show 0 < (gA s 21).length by omega) ?_
    refine (show _ = _ from e).trans ?_
    show g_pushFrame_72 (f_pushFrame_72 598) 598 0 0 (0 + Int32.ofNat m) 1 1 t = _
    unfold g_pushFrame_72 f_pushFrame_202
    rw [if_neg (by decide)]
    show g_pushFrame_205 (f_pushFrame_205 597) 597 0 0 1 0 t = _
    unfold g_pushFrame_205 f_pushFrame_292
    refine own_rr (k := 0) rfl p5 ?_
    rw [if_neg (by decide)]
    exact own_rr (k := 0) rfl (show (gA t 7)[0]? = some (Int32.ofNat m) from p7) rfl
  · refine ⟨Qt, t1, rfl, (t3 18).trans h18, ⟨(t3 5).trans hR.1, (t3 6).trans hR.2.1, (t3 7).trans hR.2.2.1, (t3 8).trans hR.2.2.2.1, (t3 10).trans hR.2.2.2.2⟩, ?_, ?_, ?_, ?_, ?_, ?_⟩
    · show (gA t 22)[0]? = _
      rw [t2 22 (by decide)]; exact get_set_self _ (by omega)
    · show (gA t 23)[0]? = _
      rw [t2 23 (by decide)]; exact get_set_self _ (by omega)
    · show (gA t 24)[0]? = _
      rw [t2 24 (by decide)]; exact get_set_self _ (by omega)
    · show (gA t 19)[0]? = _
      rw [t2 19 (by decide)]; exact get_set_self _ (show 0 < (gA s 19).length by omega)
    · show (gA t 20)[0]? = _
      rw [t2 20 (by decide)]; exact get_set_self _ (show 0 < (gA s 20).length by omega)
    · show (gA t 21)[0]? = _
      rw [t2 21 (by decide)]; exact get_set_self _ (show 0 < (gA s 21).length by omega)

/-! what the compiler leaves, for each size -/
def own_Cf (n i a : Int32) (m : Int32) (c : Int32 × St) : Prop := c.1 = 1 ∧ gI c.2 3 = 1 ∧ gI c.2 0 = m ∧ own_Q n i a c.2 ∧ own_L c.2
theorem own_Cfi {n i a m : Int32} {o : Option (Int32 × St)} (h : (o.bind fun c => if c.1 = 1 ∧ gI c.2 2 = 25 ∧ gI c.2 3 = 1 ∧ (gA c.2 0)[11]? = some 2 ∧ (gA c.2 0)[12]? = some 15 ∧ (gA c.2 0)[13]? = some 1 ∧ (gA c.2 0)[16]? = some 1 ∧ (gA c.2 0)[17]? = some 17 ∧ (gA c.2 0)[18]? = some 9 ∧ (gA c.2 0)[19]? = some 2 ∧ (gA c.2 0)[20]? = some 15 ∧ (gA c.2 0)[21]? = some 1 ∧ (gA c.2 0)[23]? = some 17 ∧ (gA c.2 1)[11]? = some 0 ∧ (gA c.2 1)[19]? = some 0 ∧ (gA c.2 4)[0]? = some 1 ∧ (gA c.2 5)[0]? = some 0 ∧ (gA c.2 6)[0]? = some 1 ∧ (gA c.2 7)[0]? = some n ∧ (gA c.2 8)[0]? = some 11 ∧ (gA c.2 9)[0]? = some 0 ∧ (gA c.2 10)[0]? = some 1 ∧ (gA c.2 11)[0]? = some n ∧ (gA c.2 19)[0]? = some 0 ∧ (gA c.2 20)[0]? = some 0 ∧ (gA c.2 21)[0]? = some 0 ∧ (gA c.2 16).length = 64 ∧ (gA c.2 17).length = 64 ∧ (gA c.2 18).length = 64 ∧ (gA c.2 22).length = 8 ∧ (gA c.2 23).length = 8 ∧ (gA c.2 24).length = 8 ∧ (gA c.2 25).length = 8 ∧ (gA c.2 26).length = 8 ∧ (gA c.2 27).length = 4 ∧ (gA c.2 28).length = 4 ∧ (gA c.2 29).length = 4 then some (gI c.2 0, (gA c.2 1)[13]?, (gA c.2 1)[16]?, (gA c.2 1)[21]?) else none) = some (m, some i, some a, some i)) : ∃ c, o = some c ∧ own_Cf n i a m c := by
  obtain ⟨c, e, k⟩ := own_ex h
  refine ⟨c, e, ?_⟩
  split at k
  case isFalse => cases k
  case isTrue hh =>
    obtain ⟨a1, a2, a3, k11, k12, k13, k16, k17, k18, k19, k20, k21, k23, v11, v19, q4, q5, q6, q7, q8, q9, q10, q11, z19, z20, z21, l16, l17, l18, l22, l23, l24, l25, l26, l27, l28, l29⟩ := hh
    have k := Option.some.inj k
    have m0 : gI c.2 0 = m := congrArg (·.1) k
    have v13 : (gA c.2 1)[13]? = some i := congrArg (·.2.1) k
    have v16 : (gA c.2 1)[16]? = some a := congrArg (·.2.2.1) k
    have v21 : (gA c.2 1)[21]? = some i := congrArg (·.2.2.2) k
    refine ⟨a1, a3, m0, ⟨a2, ⟨k11, k12, k13, k16, k17, k18, k19, k20, k21, k23⟩, ⟨v11, v13, v16, v19, v21⟩, ⟨q4, q5, q6, q7, q8, q9, q10, q11⟩⟩, fun j h1 h2 => ?_⟩
    have len : ∀ {l : List Int32}, l[0]? = some 0 → 1 ≤ l.length := fun {l} e => by
      cases l with
      | nil => cases e
      | cons x xs => exact Nat.succ_le_succ (Nat.zero_le _)
    rcases (by omega : j = 16 ∨ j = 17 ∨ j = 18 ∨ j = 19 ∨ j = 20 ∨ j = 21 ∨ j = 22 ∨ j = 23 ∨ j = 24 ∨ j = 25 ∨ j = 26 ∨ j = 27 ∨ j = 28 ∨ j = 29) with rfl | rfl | rfl | rfl | rfl | rfl | rfl | rfl | rfl | rfl | rfl | rfl | rfl | rfl
    · exact Nat.le_of_eq l16.symm
    · exact Nat.le_of_eq l17.symm
    · exact Nat.le_of_eq l18.symm
    · exact len z19
    · exact len z20
    · exact len z21
    · rw [l22]; decide
    · rw [l23]; decide
    · rw [l24]; decide
    · rw [l25]; decide
    · rw [l26]; decide
    · rw [l27]; decide
    · rw [l28]; decide
    · rw [l29]; decide
set_option maxRecDepth 100000
theorem own_c1 (m d i a : Int32) : ∃ c, own_C (own_S25 m d 1 i a) = some c ∧ own_Cf 1 i a m c := own_Cfi (by cbv)
theorem own_c2 (m d i a : Int32) : ∃ c, own_C (own_S25 m d 2 i a) = some c ∧ own_Cf 2 i a m c := own_Cfi (by cbv)
theorem own_c3 (m d i a : Int32) : ∃ c, own_C (own_S25 m d 3 i a) = some c ∧ own_Cf 3 i a m c := own_Cfi (by cbv)
theorem own_c4 (m d i a : Int32) : ∃ c, own_C (own_S25 m d 4 i a) = some c ∧ own_Cf 4 i a m c := own_Cfi (by cbv)
theorem own_c5 (m d i a : Int32) : ∃ c, own_C (own_S25 m d 5 i a) = some c ∧ own_Cf 5 i a m c := own_Cfi (by cbv)
theorem own_c6 (m d i a : Int32) : ∃ c, own_C (own_S25 m d 6 i a) = some c ∧ own_Cf 6 i a m c := own_Cfi (by cbv)
theorem own_c7 (m d i a : Int32) : ∃ c, own_C (own_S25 m d 7 i a) = some c ∧ own_Cf 7 i a m c := own_Cfi (by cbv)
theorem own_c8 (m d i a : Int32) : ∃ c, own_C (own_S25 m d 8 i a) = some c ∧ own_Cf 8 i a m c := own_Cfi (by cbv)
theorem own_c9 (m d i a : Int32) : ∃ c, own_C (own_S25 m d 9 i a) = some c ∧ own_Cf 9 i a m c := own_Cfi (by cbv)
theorem own_c10 (m d i a : Int32) : ∃ c, own_C (own_S25 m d 10 i a) = some c ∧ own_Cf 10 i a m c := own_Cfi (by cbv)
theorem own_c11 (m d i a : Int32) : ∃ c, own_C (own_S25 m d 11 i a) = some c ∧ own_Cf 11 i a m c := own_Cfi (by cbv)
theorem own_c12 (m d i a : Int32) : ∃ c, own_C (own_S25 m d 12 i a) = some c ∧ own_Cf 12 i a m c := own_Cfi (by cbv)
theorem own_c13 (m d i a : Int32) : ∃ c, own_C (own_S25 m d 13 i a) = some c ∧ own_Cf 13 i a m c := own_Cfi (by cbv)
theorem own_c14 (m d i a : Int32) : ∃ c, own_C (own_S25 m d 14 i a) = some c ∧ own_Cf 14 i a m c := own_Cfi (by cbv)
theorem own_c15 (m d i a : Int32) : ∃ c, own_C (own_S25 m d 15 i a) = some c ∧ own_Cf 15 i a m c := own_Cfi (by cbv)
theorem own_c16 (m d i a : Int32) : ∃ c, own_C (own_S25 m d 16 i a) = some c ∧ own_Cf 16 i a m c := own_Cfi (by cbv)
theorem own_cn (k : Nat) (h1 : 1 ≤ k) (h2 : k ≤ 16) (m d i a : Int32) : ∃ c, own_C (own_S25 m d (Int32.ofNat k) i a) = some c ∧ own_Cf (Int32.ofNat k) i a m c := by
  rcases (by omega : k = 1 ∨ k = 2 ∨ k = 3 ∨ k = 4 ∨ k = 5 ∨ k = 6 ∨ k = 7 ∨ k = 8 ∨ k = 9 ∨ k = 10 ∨ k = 11 ∨ k = 12 ∨ k = 13 ∨ k = 14 ∨ k = 15 ∨ k = 16) with rfl | rfl | rfl | rfl | rfl | rfl | rfl | rfl | rfl | rfl | rfl | rfl | rfl | rfl | rfl | rfl
  · exact own_c1 m d i a
  · exact own_c2 m d i a
  · exact own_c3 m d i a
  · exact own_c4 m d i a
  · exact own_c5 m d i a
  · exact own_c6 m d i a
  · exact own_c7 m d i a
  · exact own_c8 m d i a
  · exact own_c9 m d i a
  · exact own_c10 m d i a
  · exact own_c11 m d i a
  · exact own_c12 m d i a
  · exact own_c13 m d i a
  · exact own_c14 m d i a
  · exact own_c15 m d i a
  · exact own_c16 m d i a
theorem own_in2 (p0 p1 : Int32) : ∃ m d, f_init p0 p1 = some (own_I m d) ∧ ∀ (F : Int32 → Option Int32), (if p0 < 8 then F 8 else if 64 < p0 then F 64 else F p0) = F m := by
  have h315 : ∀ d m, f_init_315 d (sI st0 0 m) = some (own_I m d) := fun d m => rfl
  have h304 : ∀ d m, ∃ d', f_init_304 d (sI st0 0 m) = some (own_I m d') := fun d m => by
    unfold f_init_304
    split
    · exact ⟨_, h315 _ _⟩
    · exact ⟨_, h315 _ _⟩
  have h287 : ∀ d m, ∃ d', f_init_287 d m st0 = some (own_I m d') := fun d m => by
    unfold f_init_287 lt
    split
    · exact h304 _ _
    · exact h304 _ _
  unfold f_init f_init_278 lt
  by_cases c1 : p0 < 8
  · obtain ⟨d', e⟩ := h287 p1 8
    exact ⟨8, d', by dsimp only; rw [if_pos c1, if_neg (by decide)]; exact e, fun F => by rw [if_pos c1]⟩
  · by_cases c2 : 64 < p0
    · obtain ⟨d', e⟩ := h287 p1 64
      exact ⟨64, d', by dsimp only; rw [if_neg c1, if_pos c2]; exact e, fun F => by rw [if_neg c1, if_pos c2]⟩
    · obtain ⟨d', e⟩ := h287 p1 p0
      exact ⟨p0, d', by dsimp only; rw [if_neg c1, if_neg c2]; exact e, fun F => by rw [if_neg c1, if_neg c2]⟩
/-- behind the compiler -/
theorem own_end {p0 p2 p3 p4 m : Int32} (hF : ∀ (F : Int32 → Option Int32), (if p0 < 8 then F 8 else if 64 < p0 then F 64 else F p0) = F m) (c27 : Int32 × St) {r : Int32} {u : St} (hr : f_run 600 c27.2 = some (r, u)) (hl : f_law_307 600 p2 p3 p4 c27.1 r (gI u 4) (gI u 5) (gI u 6) (gI u 7) (gI u 8) (gI u 10) m u = some 1) : ((f_run 600 c27.2).bind fun c28 => (f_status c28.2).bind fun c29 => (f_trapSite c28.2).bind fun c30 => (f_frames c28.2).bind fun c31 => (f_resultKind c28.2).bind fun c32 => (f_resultValue c28.2).bind fun c33 => (f_outCount c28.2).bind fun c34 => if p0 < (8 : Int32) then f_law_307 600 p2 p3 p4 c27.1 c28.1 c29 c30 c31 c32 c33 c34 (8 : Int32) c28.2 else if (64 : Int32) < p0 then f_law_307 600 p2 p3 p4 c27.1 c28.1 c29 c30 c31 c32 c33 c34 (64 : Int32) c28.2 else f_law_307 600 p2 p3 p4 c27.1 c28.1 c29 c30 c31 c32 c33 c34 p0 c28.2) = some 1 := by
  rw [hr, Option.bind_some]
  unfold f_status f_trapSite f_frames f_resultKind f_resultValue f_outCount
  rw [Option.bind_some, Option.bind_some, Option.bind_some, Option.bind_some, Option.bind_some, Option.bind_some]
  rw [hF fun t => f_law_307 600 p2 p3 p4 c27.1 (r, u).1 (gI (r, u).2 4) (gI (r, u).2 5) (gI (r, u).2 6) (gI (r, u).2 7) (gI (r, u).2 8) (gI (r, u).2 10) t (r, u).2]
  exact hl
theorem own_418 (v6 v7 v9 v10 v11 v12 : Int32) (u : St) (h4 : gI u 4 = v7) (h5 : gI u 5 = v9) (h6 : gI u 6 = v10) (h7 : gI u 7 = v11) (h8 : gI u 8 = v12) (h10 : gI u 10 = 0) : f_law_418 600 v6 v7 (gI u 4) (gI u 5) (gI u 6) (gI u 7) (gI u 8) (gI u 10) v6 v7 v9 v10 v11 v12 u = some 1 := by
  unfold f_law_418 f_law_477
  rw [h4, h5, h6, h7, h8, h10, if_pos rfl, if_pos rfl, if_pos rfl, if_pos rfl, if_pos rfl, if_pos rfl, if_pos rfl, if_pos rfl]; rfl
theorem own_run2 {m n i a : Int32} {c : Int32 × St} (h : own_Cf n i a m c) : f_run 600 c.2 = if m < n then some (5, own_tr 5 1 (own_r0 c.2)) else (f_pushFrame 600 (0 : Int32) (-1 : Int32) (-1 : Int32) (own_r0 c.2)).bind fun c12 => (rd (gA c12 8) (0 : Int32)).bind fun x13 => f_run_85 600 x13 (0 : Int32) c12 := by
  obtain ⟨-, h3, h0, hQ, -⟩ := h
  obtain ⟨-, -, -, ⟨q4, -, -, q7, -⟩⟩ := hQ
  unfold f_run
  rw [h3, if_neg (by decide), own_clr, Option.bind_some]
  show (rd (gA (own_r0 c.2) 7) 0).bind _ = _
  rw [rd_of (k := 0) rfl (show (gA (own_r0 c.2) 7)[0]? = some n from q7), Option.bind_some]
  show (if gI (own_r0 c.2) 0 < n then (rd (gA (own_r0 c.2) 4) 0).bind _ else _) = _
  rw [show gI (own_r0 c.2) 0 = m from h0, rd_of (k := 0) rfl (show (gA (own_r0 c.2) 4)[0]? = some 1 from q4), Option.bind_some]; rfl
theorem owed (p0 p1 p2 p3 p4 : Int32) : ∃ fu, f_law fu p0 p1 p2 p3 p4 = some 1 := by
  refine ⟨600, ?_⟩
  obtain ⟨m, d, hi, hF⟩ := own_in2 p0 p1
  have cp : f_compile 600 (own_S25 m d p2 p3 p4) = own_C (own_S25 m d p2 p3 p4) := own_cp (own_S25 m d p2 p3 p4) (own_A25 _ _ _ _ _ (by decide)) (own_A25 _ _ _ _ _ (by decide)) (own_A25 _ _ _ _ _ (by decide)) (own_A25 _ _ _ _ _ (by decide)) (own_A25 _ _ _ _ _ (by decide)) (own_A25 _ _ _ _ _ (by decide)) (own_A25 _ _ _ _ _ (by decide)) (own_A25 _ _ _ _ _ (by decide)) (own_A25 _ _ _ _ _ (by decide)) (by show (0 : Int32) < 25; decide)
  unfold f_law
  rw [hi, Option.bind_some]
  refine own_bs (own_T0 m d p2 p3 p4) ?_
  refine own_bs (own_T1 m d p2 p3 p4) ?_
  refine own_bs (own_T2 m d p2 p3 p4) ?_
  refine own_bs (own_T3 m d p2 p3 p4) ?_
  refine own_bs (own_T4 m d p2 p3 p4) ?_
  refine own_bs (own_T5 m d p2 p3 p4) ?_
  refine own_bs (own_T6 m d p2 p3 p4) ?_
  refine own_bs (own_T7 m d p2 p3 p4) ?_
  refine own_bs (own_T8 m d p2 p3 p4) ?_
  refine own_bs (own_T9 m d p2 p3 p4) ?_
  refine own_bs (own_T10 m d p2 p3 p4) ?_
  refine own_bs (own_T11 m d p2 p3 p4) ?_
  refine own_bs (own_T12 m d p2 p3 p4) ?_
  refine own_bs (own_T13 m d p2 p3 p4) ?_
  refine own_bs (own_T14 m d p2 p3 p4) ?_
  refine own_bs (own_T15 m d p2 p3 p4) ?_
  refine own_bs (own_T16 m d p2 p3 p4) ?_
  refine own_bs (own_T17 m d p2 p3 p4) ?_
  refine own_bs (own_T18 m d p2 p3 p4) ?_
  refine own_bs (own_T19 m d p2 p3 p4) ?_
  refine own_bs (own_T20 m d p2 p3 p4) ?_
  refine own_bs (own_T21 m d p2 p3 p4) ?_
  refine own_bs (own_T22 m d p2 p3 p4) ?_
  refine own_bs (own_T23 m d p2 p3 p4) ?_
  refine own_bs (own_T24 m d p2 p3 p4) ?_
  show ((f_compile 600 (own_S25 m d p2 p3 p4)).bind _) = _
  rw [cp]
  by_cases hn : p2 < 1 ∨ 16 < p2
  · obtain ⟨s', e, z3, hj⟩ := own_bc m d p2 p3 p4 hn
    refine own_bs e ?_
    have hr : f_run 600 s' = some (-1, s') := by
      unfold f_run
      rw [if_pos z3]
    refine own_end hF (0, s') hr ?_
    unfold f_law_307 f_law_324 f_law_325
    have fin := own_418 0 (-1) (-1) 0 (-1) 0 s' (hj 4 (by decide) (by decide)) (hj 5 (by decide) (by decide)) (hj 6 (by decide) (by decide)) (hj 7 (by decide) (by decide)) (hj 8 (by decide) (by decide)) (hj 10 (by decide) (by decide))
    by_cases c1 : p2 < 1
    · rw [if_pos c1, if_pos rfl]; exact fin
    · rw [if_neg c1, if_pos (hn.resolve_left c1), if_pos rfl]; exact fin
  · have o1 : (1 : Int32).toInt = 1 := rfl
    have o16 : (16 : Int32).toInt = 16 := rfl
    have n1 : ¬ p2 < 1 := fun q => hn (.inl q)
    have n2 : ¬ 16 < p2 := fun q => hn (.inr q)
    obtain ⟨k, k1, k2, rfl⟩ : ∃ k : Nat, 1 ≤ k ∧ k ≤ 16 ∧ p2 = Int32.ofNat k := by
      have n1' := n1
      have n2' := n2
      rw [x32_lt] at n1' n2'
      exact ⟨p2.toInt.toNat, by omega, by omega, ofN_of (by omega)⟩
    obtain ⟨c, e, hC⟩ := own_cn k k1 k2 m d p3 p4
    refine own_bs e ?_
    have er := own_run2 hC
    have law : ∀ r u, f_law_325 600 (Int32.ofNat k) p3 p4 1 r (gI u 4) (gI u 5) (gI u 6) (gI u 7) (gI u 8) (gI u 10) m 1 u = some 1 → f_law_307 600 (Int32.ofNat k) p3 p4 c.1 r (gI u 4) (gI u 5) (gI u 6) (gI u 7) (gI u 8) (gI u 10) m u = some 1 := fun r u h => by
      unfold f_law_307
      rw [if_neg n1, if_neg n2, hC.1]; exact h
    by_cases cm : m < Int32.ofNat k
    · rw [if_pos cm] at er
      refine own_end hF c er (law _ _ ?_)
      unfold f_law_325
      rw [if_neg (by decide), if_pos cm]
      exact own_418 1 5 1 0 (-1) 0 (own_tr 5 1 (own_r0 c.2)) rfl rfl rfl rfl rfl rfl
    · rw [if_neg cm] at er
      have Q0 : own_Q (Int32.ofNat k) p3 p4 (own_r0 c.2) := hC.2.2.2.1.of rfl fun j hj => rfl
      obtain ⟨t, et, W⟩ := own_push Q0 hC.2.2.2.2 k2 rfl rfl rfl rfl ⟨rfl, rfl, rfl, rfl, rfl⟩
      rw [et, Option.bind_some, rd_of (k := 0) rfl W.1.2.2.2.2.2.2.2.1, Option.bind_some] at er
      by_cases cx : p3 < 0 ∨ ¬ p3 < Int32.ofNat k
      · obtain ⟨u, eu, u4, u5, u6, u7, u8, u10⟩ := own_lpX W k2 cx
        rw [eu] at er
        refine own_end hF c er (law _ _ ?_)
        unfold f_law_325 f_law_383
        have fin := own_418 1 2 12 1 (-1) 0 u u4 u5 u6 u7 u8 u10
        rw [if_neg (by decide), if_neg cm]
        by_cases c1 : p3 < 0
        · rw [if_pos c1]; exact fin
        · rw [if_neg c1, if_neg (cx.resolve_left c1)]; exact fin
      · have x1 : ¬ p3 < 0 := fun q => cx (.inl q)
        have x2 : p3 < Int32.ofNat k := Decidable.byContradiction fun q => cx (.inr q)
        obtain ⟨x, hx, rfl⟩ : ∃ x : Nat, x < k ∧ p3 = Int32.ofNat x := by
          obtain ⟨x, ex⟩ := nn_of x1
          have x2' := x2
          rw [x32_lt, ofN_int (by omega), ex] at x2'
          exact ⟨x, by omega, by rw [x32_eq, ex, ofN_int (by omega)]⟩
        obtain ⟨u, eu, u4, u5, u6, u7, u8, u10⟩ := own_lpI W k2 hx
        rw [eu] at er
        refine own_end hF c er (law _ _ ?_)
        unfold f_law_325
        rw [if_neg (by decide), if_neg cm, if_neg x1, if_pos x2]
        exact own_418 1 0 (-1) 0 0 p4 u u4 u5 u6 u7 u8 u10

set_option maxRecDepth 65536 in
set_option maxHeartbeats 40000000 in
theorem comes_1 {Post : Tables → Env → Array Value → State → Outcome → State → Prop} (hpost : ∀ tb e args s v u, (limb_1_1.after args s (.returned v) u = true ∧ limb_1_2.after args s (.returned v) u = true ∧ True) → FrameEnd s (.returned v) u (Jvm.fieldLocs frame_1_writes args s ++ Jvm.arrayLocs frame_1_arrays args s ++ Jvm.staticLocs frame_1_statics s) 80 28160 → Post tb e args s (.returned v) u) :
    ArmFor flags0 classFile x code maxLocals ret World_1 tables_1 room_1 Calls_1 rest_1 Pre_1 Post := by
  intro l hfl _ _ p e ha hc hk s m args below hf hA hF happ hP
  obtain ⟨hcalls, hrest, hpre⟩ := hP
  obtain ⟨-, -, -, hnamed, -, -, -, hat⟩ := (Spec.applies_iff hf).mp happ
  obtain ⟨hg, hn⟩ := and_e (Cond.before_iff.mp (show (Jvm.Cond.and given_1 narrow_1).before args s = true from hpre))
  obtain ⟨g0, q0⟩ := and_e hg
  obtain ⟨w0, w1, w2, w3, w4, rfl⟩ : ∃ w0 w1 w2 w3 w4 : Value, args = #[w0, w1, w2, w3, w4] := by
    have hs : args.size = 5 := by simpa [Cond.value, given_1] using g0
    obtain ⟨L⟩ := args
    match L, hs with
    | [w0, w1, w2, w3, w4], _ => exact ⟨w0, w1, w2, w3, w4, rfl⟩
  have hw := fun d (hd : d ∈ tables_1) => atoms_spec (ws := Jvm.Cond.code x code maxLocals ret :: tables_1) hat d (List.mem_cons_of_mem _ hd)
  obtain ⟨h0, q1⟩ := and_e q0
  obtain ⟨i0, e0⟩ := is_v h0
  obtain rfl : w0 = (.int i0) := Option.some.inj e0
  obtain ⟨h1, q2⟩ := and_e q1
  obtain ⟨i1, e1⟩ := is_v h1
  obtain rfl : w1 = (.int i1) := Option.some.inj e1
  obtain ⟨h2, q3⟩ := and_e q2
  obtain ⟨i2, e2⟩ := is_v h2
  obtain rfl : w2 = (.int i2) := Option.some.inj e2
  obtain ⟨h3, q4⟩ := and_e q3
  obtain ⟨i3, e3⟩ := is_v h3
  obtain rfl : w3 = (.int i3) := Option.some.inj e3
  obtain ⟨i4, e4⟩ := is_v q4
  obtain rfl : w4 = (.int i4) := Option.some.inj e4
  obtain ⟨fu, hfu⟩ := owed i0 i1 i2 i3 i4
  obtain ⟨n, o, h1, h2, h3, _, L, rfl, ⟨w, H', rfl, hv, -, -, N⟩, hq⟩ := okLAW l s _ hw fu i0 i1 i2 i3 i4 1 hfu tables_1 s.heap.size _ s.heap (HR.start0 s CN lay) p e ha hc hk s m _ below hf ((Spec.applies_iff_loose hf).mp happ).1 ⟨rfl, State.Warmed39.refl s, rfl⟩ trivial
  obtain rfl : w = some (.int 1) := hv
  refine ⟨n, _, h1, h2, h3, hpost _ _ _ _ _ _ ⟨Cond.after_iff.mpr rfl, Cond.after_iff.mpr (eq_i res_at (Term.int_eval (1)) rfl), trivial⟩ ⟨hq.1, hq.2.1, (hq.2.2.sift fun y hy => Or.inr (N y hy)).mono (by decide) (by decide)⟩⟩
theorem main_1_1 : Claimed_1_1 := comes_1 fun _ _ _ _ _ _ h hF => ⟨h.1, hF⟩
theorem main_1_2 : Claimed_1_2 := comes_1 fun _ _ _ _ _ _ h hF => ⟨h.2.1, hF⟩

end Jvm.Pilot.@@N@@
namespace Jvm.Pilot.@@N@@
open Jvm Jvm.ClassFile Sem Op Lib Jvm.Free Jvm.Stand Jvm.Pilot.@@N@@.Jvm.D
/-! MADE BY PROGRAM (witnessworld.py) out of the Statement's table words and the real class files: 11 classes; the members and pool entries that the words name. The judged class is class 1, her method 1. -/
namespace start1
open Jvm.ClassFile
def u (s : String) : CpInfo := .utf8 (stringToUtf16 s)
/-- a pool by its gaps: so many unusable entries, then the entry; so many at the end -/
def gap : Nat → List CpInfo → List CpInfo
  | 0, r => r
  | n + 1, r => .unusable :: gap n r
def poolList (es : List (Nat × CpInfo)) (last : Nat) : List CpInfo := es.foldr (fun e r => gap e.1 (e.2 :: r)) (gap last [])
def pool (es : List (Nat × CpInfo)) (last : Nat) : Array CpInfo := ⟨poolList es last⟩
def fileOf (pool : Array CpInfo) (this : Nat) (attrs : Array Attribute := #[]) (ms : Array MethodInfo := #[]) (fl : Nat := 33) (sup : Nat := 0) (ifs : Array Nat := #[]) (fds : Array FieldInfo := #[]) : ClassFile where
  minorVersion := 0
  majorVersion := 65
  constantPool := pool
  accessFlags := fl
  thisClass := this
  superClass := sup
  interfaces := ifs
  fields := fds
  methods := ms
  attributes := attrs
def plain (name : String) (sup : Option ClassId) : Class where
  name := name
  kind := .ordinary
  loader := none
  accessFlags := 33
  super := sup
  interfaces := #[]
  cf := none
  fields := #[]
  methods := #[]
  instanceTypes := #[]
  staticTypes := #[]
  resolved := #[]
  callSites := []
  init := .initialized
  statics := none
  mirror := none

def pool0 : Array CpInfo := pool [(5, u "<init>"), (0, u "()V"), (1, .class_ 10), (1, u "java/lang/Object")] 113

def k0c0 : Code := { maxStack := 0, maxLocals := 1, code := object_method_1_code, exceptionTable := #[], attributes := #[] }
def k0m0 : Method := { name := "<init>", desc := "()V", sig := { parameters := [], returnType := none }, accessFlags := 1, code := some k0c0 }
/-- java/lang/Object -/
def k0 : Class := { plain "java/lang/Object" none with
  accessFlags := 33
  interfaces := #[]
  cf := some (fileOf pool0 8 #[] #[{ accessFlags := 1, nameIndex := 5, descriptorIndex := 6, attributes := #[] }] 33 0 #[] #[])
  fields := #[]
  methods := #[k0m0]
  instanceTypes := #[]
  staticTypes := #[]
  resolved := Array.replicate 124 none
  statics := none }

def pool1 : Array CpInfo := pool [(2, .class_ 4), (1, u "java/lang/Object"), (0, u "<init>"), (0, u "()V"), (0, .class_ 8), (0, u "FatPointerC"), (0, .methodref 7 10), (0, .nameAndType 5 11), (0, u "(II)V"), (0, .methodref 7 13), (0, .nameAndType 14 15), (0, u "tok"), (0, u "(II)Z"), (0, .methodref 7 17), (0, .nameAndType 18 19), (0, u "compile"), (0, u "()Z"), (0, .methodref 7 21), (0, .nameAndType 22 23), (0, u "run"), (0, u "()I"), (0, .methodref 7 25), (0, .nameAndType 26 23), (0, u "status"), (0, .methodref 7 28), (0, .nameAndType 29 23), (0, u "trapSite"), (0, .methodref 7 31), (0, .nameAndType 32 23), (0, u "frames"), (0, .methodref 7 34), (0, .nameAndType 35 23), (0, u "resultKind"), (0, .methodref 7 37), (0, .nameAndType 38 23), (0, u "resultValue"), (0, .methodref 7 40), (0, .nameAndType 41 23), (0, u "outCount"), (0, .class_ 43), (0, u "FatPointerCL3"), (2, u "law"), (0, u "(IIIII)Z")] 3

def k1m0 : Method := { name := "<init>", desc := "()V", sig := { parameters := [], returnType := none }, accessFlags := 1, code := none }
def k1c1 : Code := { maxStack := 4, maxLocals := 21, code := code, exceptionTable := #[], attributes := #[] }
def k1m1 : Method := { name := "law", desc := "(IIIII)Z", sig := { parameters := [.int, .int, .int, .int, .int], returnType := some .boolean }, accessFlags := 9, code := some k1c1 }
/-- FatPointerCL3 -/
def k1 : Class := { plain "FatPointerCL3" (some 0) with
  accessFlags := 33
  interfaces := #[]
  cf := some (fileOf pool1 42 #[] #[{ accessFlags := 1, nameIndex := 5, descriptorIndex := 6, attributes := #[] }, { accessFlags := 9, nameIndex := 46, descriptorIndex := 47, attributes := #[] }] 33 2 #[] #[])
  fields := #[]
  methods := #[k1m0, k1m1]
  instanceTypes := #[]
  staticTypes := #[]
  resolved := Array.replicate 51 none
  statics := none }

def pool2 : Array CpInfo := pool [(1, .methodref 2 3), (0, .class_ 4), (0, .nameAndType 5 6), (0, u "java/lang/Object"), (0, u "<init>"), (0, u "()V"), (0, .fieldref 8 9), (0, .class_ 10), (0, .nameAndType 11 12), (0, u "FatPointerC"), (0, u "tokK"), (0, u "[I"), (0, .fieldref 8 14), (0, .nameAndType 15 12), (0, u "tokV"), (0, .fieldref 8 17), (0, .nameAndType 18 12), (0, u "outVals"), (0, .fieldref 8 20), (0, .nameAndType 21 22), (0, u "fnDef"), (0, u "[Z"), (0, .fieldref 8 24), (0, .nameAndType 25 12), (0, u "fnTok"), (0, .fieldref 8 27), (0, .nameAndType 28 12), (0, u "fnParams"), (0, .fieldref 8 30), (0, .nameAndType 31 12), (0, u "fnObjCount"), (0, .fieldref 8 33), (0, .nameAndType 34 12), (0, u "fnFrame"), (0, .fieldref 8 36), (0, .nameAndType 37 12), (0, u "fnBody"), (0, .fieldref 8 39), (0, .nameAndType 40 12), (0, u "nameIdx"), (0, .fieldref 8 42), (0, .nameAndType 43 22), (0, u "nameArr"), (0, .fieldref 8 45), (0, .nameAndType 46 12), (0, u "fnObjSize"), (0, .fieldref 8 48), (0, .nameAndType 49 12), (0, u "callArgs"), (0, .fieldref 8 51), (0, .nameAndType 52 12), (0, u "matchEnd"), (0, .fieldref 8 54), (0, .nameAndType 55 12), (0, u "braceOwner"), (0, .fieldref 8 57), (0, .nameAndType 58 12), (0, u "openStack"), (0, .fieldref 8 60), (0, .nameAndType 61 12), (0, u "cellK"), (0, .fieldref 8 63), (0, .nameAndType 64 12), (0, u "cellV"), (0, .fieldref 8 66), (0, .nameAndType 67 12), (0, u "cellO"), (0, .fieldref 8 69), (0, .nameAndType 70 12), (0, u "objBase"), (0, .fieldref 8 72), (0, .nameAndType 73 12), (0, u "objSize"), (0, .fieldref 8 75), (0, .nameAndType 76 22), (0, u "objAlive"), (0, .fieldref 8 78), (0, .nameAndType 79 12), (0, u "frFunc"), (0, .fieldref 8 81), (0, .nameAndType 82 12), (0, u "frFirst"), (0, .fieldref 8 84), (0, .nameAndType 85 12), (0, u "frBase"), (0, .fieldref 8 87), (0, .nameAndType 88 12), (0, u "frRetPc"), (0, .fieldref 8 90), (0, .nameAndType 91 12), (0, u "frTarget"), (0, .fieldref 8 93), (0, .nameAndType 94 12), (0, u "regK"), (0, .fieldref 8 96), (0, .nameAndType 97 12), (0, u "regV"), (0, .fieldref 8 99), (0, .nameAndType 100 12), (0, u "regO"), (0, .fieldref 8 102), (0, .nameAndType 103 12), (0, u "argK"), (0, .fieldref 8 105), (0, .nameAndType 106 12), (0, u "argV"), (0, .fieldref 8 108), (0, .nameAndType 109 12), (0, u "argO"), (0, .fieldref 8 111), (0, .nameAndType 112 113), (0, u "memCells"), (0, u "I"), (0, .fieldref 8 115), (0, .nameAndType 116 113), (0, u "maxDepth"), (0, .methodref 8 118), (0, .nameAndType 119 6), (0, u "clearResults"), (0, .fieldref 8 121), (0, .nameAndType 122 113), (0, u "nTok"), (0, .fieldref 8 124), (0, .nameAndType 125 126), (0, u "compiled"), (0, u "Z"), (0, .methodref 8 128), (0, .nameAndType 129 130), (0, u "parseProgram"), (0, u "()Z"), (0, .fieldref 8 132), (0, .nameAndType 133 113), (0, u "depth"), (0, .fieldref 8 135), (0, .nameAndType 136 113), (0, u "liveCells"), (0, .fieldref 8 138), (0, .nameAndType 139 113), (0, u "nextObj"), (0, .fieldref 8 141), (0, .nameAndType 142 113), (0, u "fuel"), (0, .fieldref 8 144), (0, .nameAndType 145 126), (0, u "running"), (0, .methodref 8 147), (0, .nameAndType 148 149), (0, u "trap"), (0, u "(II)V"), (0, .fieldref 8 151), (0, .nameAndType 152 113), (0, u "status"), (0, .methodref 8 154), (0, .nameAndType 155 156), (0, u "pushFrame"), (0, u "(III)V"), (0, .integer 1048576), (0, .methodref 8 159), (0, .nameAndType 160 161), (0, u "step"), (0, u "(I)I"), (0, .fieldref 8 163), (0, .nameAndType 164 113), (0, u "trapSite"), (0, .fieldref 8 166), (0, .nameAndType 167 113), (0, u "framesAt"), (0, .fieldref 8 169), (0, .nameAndType 170 113), (0, u "resKind"), (0, .fieldref 8 172), (0, .nameAndType 173 113), (0, u "resVal"), (0, .fieldref 8 175), (0, .nameAndType 176 113), (0, u "resSize"), (0, .fieldref 8 178), (0, .nameAndType 179 113), (0, u "outN"), (0, .fieldref 8 181), (0, .nameAndType 182 126), (0, u "pok"), (0, .fieldref 8 184), (0, .nameAndType 185 113), (0, u "pp"), (0, .methodref 8 187), (0, .nameAndType 188 6), (0, u "parseFunc"), (0, .methodref 8 190), (0, .nameAndType 191 130), (0, u "checkCalls"), (0, .methodref 8 193), (0, .nameAndType 194 161), (0, u "kindAt"), (0, .methodref 8 196), (0, .nameAndType 197 198), (0, u "expect"), (0, u "(I)V"), (0, .methodref 8 200), (0, .nameAndType 201 161), (0, u "valAt"), (0, .fieldref 8 203), (0, .nameAndType 204 113), (0, u "curFn"), (0, .methodref 8 206), (0, .nameAndType 207 6), (0, u "parseParams"), (0, .methodref 8 209), (0, .nameAndType 210 6), (0, u "parseDecls"), (0, .methodref 8 212), (0, .nameAndType 213 6), (0, u "parseBody"), (0, .methodref 8 215), (0, .nameAndType 216 217), (0, u "addName"), (0, u "(IIZ)V"), (0, .methodref 8 219), (0, .nameAndType 220 221), (0, u "declName"), (0, u "()I"), (0, .methodref 8 223), (0, .nameAndType 224 221), (0, u "arrSize"), (0, .methodref 8 226), (0, .nameAndType 227 6), (0, u "parseStmt"), (0, .methodref 8 229), (0, .nameAndType 230 6), (0, u "parseExpr"), (0, .methodref 8 232), (0, .nameAndType 233 6), (0, u "parseVarStmt"), (0, .methodref 8 235), (0, .nameAndType 236 221), (0, u "useVar"), (3, .methodref 8 241), (0, .nameAndType 242 6), (0, u "parseAtom"), (0, .methodref 8 244), (0, .nameAndType 245 6), (0, u "parseSum"), (0, .methodref 8 247), (0, .nameAndType 248 6), (0, u "parseTerm"), (0, .methodref 8 250), (0, .nameAndType 251 6), (0, u "parseOperand"), (0, .methodref 8 253), (0, .nameAndType 254 255), (0, u "setReg"), (0, u "(IIII)V"), (0, .methodref 8 257), (0, .nameAndType 258 161), (0, u "objOf"), (0, .methodref 8 260), (0, .nameAndType 261 262), (0, u "isArr"), (0, u "(I)Z"), (0, .methodref 8 264), (0, .nameAndType 265 149), (0, u "readCell"), (0, .methodref 8 267), (0, .nameAndType 268 149), (0, u "loadVar"), (0, .methodref 8 270), (0, .nameAndType 271 161), (0, u "evalSum"), (0, .methodref 8 273), (0, .nameAndType 274 149), (0, u "copyReg"), (4, .methodref 8 280), (0, .nameAndType 281 161), (0, u "evalTerm"), (0, .methodref 8 283), (0, .nameAndType 284 161), (0, u "evalOperand"), (0, .methodref 8 286), (0, .nameAndType 287 288), (0, u "check"), (0, u "(IIIIII)I"), (0, .methodref 8 290), (0, .nameAndType 291 149), (0, u "loadAtom"), (3, u "(III)I"), (4, .methodref 8 301), (0, .nameAndType 302 161), (0, u "execVarStmt"), (10, .methodref 8 314), (0, .nameAndType 315 161), (0, u "execReturn"), (7, .methodref 8 324), (0, .nameAndType 325 161), (0, u "execIndexStore"), (0, .methodref 8 327), (0, .nameAndType 328 161), (0, u "evalExpr"), (3, .methodref 8 333), (0, .nameAndType 334 149), (0, u "writeCell"), (0, .methodref 8 336), (0, .nameAndType 337 295), (0, u "doReturn"), (3, u "K_NUM"), (2, u "K_VAR"), (1, u "K_FUNC"), (1, u "K_FN"), (1, u "K_VARKW"), (1, u "K_ARR"), (1, u "K_WHILE"), (1, u "K_IF"), (1, u "K_RETURN"), (1, u "K_OUT"), (1, u "K_LPAR"), (1, u "K_RPAR"), (1, u "K_LBRACE"), (1, u "K_RBRACE"), (1, u "K_LBRACK"), (1, u "K_RBRACK"), (1, u "K_SEMI"), (1, u "K_COMMA"), (1, u "K_ASSIGN"), (1, u "K_PLUS"), (1, u "K_MINUS"), (1, u "K_STAR"), (1, u "K_AMP"), (1, u "K_LT"), (1, u "K_EQ"), (1, u "R_NONE"), (1, u "R_DONE"), (1, u "T_TYPE"), (0, u "T_BOUNDS"), (0, u "T_DANGLING"), (0, u "T_ARITH"), (0, u "T_STACK"), (0, u "T_OUTPUT"), (0, u "T_FUEL"), (0, u "RK_NONE"), (0, u "RK_INT"), (0, u "RK_PTR"), (0, u "MAX_TOKENS"), (1, u "MAX_OUT"), (0, u "FUEL"), (4, u "tok"), (0, u "(II)Z"), (1, u "compile"), (0, u "run"), (0, u "frames"), (0, u "resultKind"), (0, u "resultValue"), (1, u "outCount")] 3

def k2c0 : Code := { maxStack := 2, maxLocals := 5, code := prog_1_method_1_code, exceptionTable := #[], attributes := #[] }
def k2m0 : Method := { name := "<init>", desc := "(II)V", sig := { parameters := [.int, .int], returnType := none }, accessFlags := 1, code := some k2c0 }
def k2c1 : Code := { maxStack := 3, maxLocals := 4, code := prog_1_method_3_code, exceptionTable := #[], attributes := #[] }
def k2m1 : Method := { name := "tok", desc := "(II)Z", sig := { parameters := [.int, .int], returnType := some .boolean }, accessFlags := 1, code := some k2c1 }
def k2c2 : Code := { maxStack := 2, maxLocals := 1, code := prog_1_method_5_code, exceptionTable := #[], attributes := #[] }
def k2m2 : Method := { name := "compile", desc := "()Z", sig := { parameters := [], returnType := some .boolean }, accessFlags := 1, code := some k2c2 }
def k2c3 : Code := { maxStack := 4, maxLocals := 3, code := prog_1_method_6_code, exceptionTable := #[], attributes := #[] }
def k2m3 : Method := { name := "run", desc := "()I", sig := { parameters := [], returnType := some .int }, accessFlags := 1, code := some k2c3 }
def k2c4 : Code := { maxStack := 1, maxLocals := 1, code := prog_1_method_7_code, exceptionTable := #[], attributes := #[] }
def k2m4 : Method := { name := "status", desc := "()I", sig := { parameters := [], returnType := some .int }, accessFlags := 1, code := some k2c4 }
def k2c5 : Code := { maxStack := 1, maxLocals := 1, code := prog_1_method_8_code, exceptionTable := #[], attributes := #[] }
def k2m5 : Method := { name := "trapSite", desc := "()I", sig := { parameters := [], returnType := some .int }, accessFlags := 1, code := some k2c5 }
def k2c6 : Code := { maxStack := 1, maxLocals := 1, code := prog_1_method_9_code, exceptionTable := #[], attributes := #[] }
def k2m6 : Method := { name := "frames", desc := "()I", sig := { parameters := [], returnType := some .int }, accessFlags := 1, code := some k2c6 }
def k2c7 : Code := { maxStack := 1, maxLocals := 1, code := prog_1_method_10_code, exceptionTable := #[], attributes := #[] }
def k2m7 : Method := { name := "resultKind", desc := "()I", sig := { parameters := [], returnType := some .int }, accessFlags := 1, code := some k2c7 }
def k2c8 : Code := { maxStack := 1, maxLocals := 1, code := prog_1_method_11_code, exceptionTable := #[], attributes := #[] }
def k2m8 : Method := { name := "resultValue", desc := "()I", sig := { parameters := [], returnType := some .int }, accessFlags := 1, code := some k2c8 }
def k2c9 : Code := { maxStack := 1, maxLocals := 1, code := prog_1_method_13_code, exceptionTable := #[], attributes := #[] }
def k2m9 : Method := { name := "outCount", desc := "()I", sig := { parameters := [], returnType := some .int }, accessFlags := 1, code := some k2c9 }
def k2c10 : Code := { maxStack := 2, maxLocals := 1, code := prog_1_method_15_code, exceptionTable := #[], attributes := #[] }
def k2m10 : Method := { name := "clearResults", desc := "()V", sig := { parameters := [], returnType := none }, accessFlags := 2, code := some k2c10 }
def k2c11 : Code := { maxStack := 2, maxLocals := 2, code := prog_1_method_16_code, exceptionTable := #[], attributes := #[] }
def k2m11 : Method := { name := "kindAt", desc := "(I)I", sig := { parameters := [.int], returnType := some .int }, accessFlags := 2, code := some k2c11 }
def k2c12 : Code := { maxStack := 2, maxLocals := 2, code := prog_1_method_17_code, exceptionTable := #[], attributes := #[] }
def k2m12 : Method := { name := "valAt", desc := "(I)I", sig := { parameters := [.int], returnType := some .int }, accessFlags := 2, code := some k2c12 }
def k2c13 : Code := { maxStack := 3, maxLocals := 2, code := prog_1_method_18_code, exceptionTable := #[], attributes := #[] }
def k2m13 : Method := { name := "parseProgram", desc := "()Z", sig := { parameters := [], returnType := some .boolean }, accessFlags := 2, code := some k2c13 }
def k2c14 : Code := { maxStack := 2, maxLocals := 4, code := prog_1_method_19_code, exceptionTable := #[], attributes := #[] }
def k2m14 : Method := { name := "checkCalls", desc := "()Z", sig := { parameters := [], returnType := some .boolean }, accessFlags := 2, code := some k2c14 }
def k2c15 : Code := { maxStack := 3, maxLocals := 2, code := prog_1_method_20_code, exceptionTable := #[], attributes := #[] }
def k2m15 : Method := { name := "expect", desc := "(I)V", sig := { parameters := [.int], returnType := none }, accessFlags := 2, code := some k2c15 }
def k2c16 : Code := { maxStack := 3, maxLocals := 3, code := prog_1_method_21_code, exceptionTable := #[], attributes := #[] }
def k2m16 : Method := { name := "parseFunc", desc := "()V", sig := { parameters := [], returnType := none }, accessFlags := 2, code := some k2c16 }
def k2c17 : Code := { maxStack := 4, maxLocals := 2, code := prog_1_method_22_code, exceptionTable := #[], attributes := #[] }
def k2m17 : Method := { name := "parseParams", desc := "()V", sig := { parameters := [], returnType := none }, accessFlags := 2, code := some k2c17 }
def k2c18 : Code := { maxStack := 4, maxLocals := 5, code := prog_1_method_23_code, exceptionTable := #[], attributes := #[] }
def k2m18 : Method := { name := "parseDecls", desc := "()V", sig := { parameters := [], returnType := none }, accessFlags := 2, code := some k2c18 }
def k2c19 : Code := { maxStack := 3, maxLocals := 2, code := prog_1_method_24_code, exceptionTable := #[], attributes := #[] }
def k2m19 : Method := { name := "declName", desc := "()I", sig := { parameters := [], returnType := some .int }, accessFlags := 2, code := some k2c19 }
def k2c20 : Code := { maxStack := 3, maxLocals := 2, code := prog_1_method_25_code, exceptionTable := #[], attributes := #[] }
def k2m20 : Method := { name := "arrSize", desc := "()I", sig := { parameters := [], returnType := some .int }, accessFlags := 2, code := some k2c20 }
def k2c21 : Code := { maxStack := 4, maxLocals := 6, code := prog_1_method_26_code, exceptionTable := #[], attributes := #[] }
def k2m21 : Method := { name := "addName", desc := "(IIZ)V", sig := { parameters := [.int, .int, .boolean], returnType := none }, accessFlags := 2, code := some k2c21 }
def k2c22 : Code := { maxStack := 3, maxLocals := 5, code := prog_1_method_27_code, exceptionTable := #[], attributes := #[] }
def k2m22 : Method := { name := "parseBody", desc := "()V", sig := { parameters := [], returnType := none }, accessFlags := 2, code := some k2c22 }
def k2c23 : Code := { maxStack := 3, maxLocals := 2, code := prog_1_method_28_code, exceptionTable := #[], attributes := #[] }
def k2m23 : Method := { name := "parseStmt", desc := "()V", sig := { parameters := [], returnType := none }, accessFlags := 2, code := some k2c23 }
def k2c24 : Code := { maxStack := 3, maxLocals := 2, code := prog_1_method_29_code, exceptionTable := #[], attributes := #[] }
def k2m24 : Method := { name := "parseVarStmt", desc := "()V", sig := { parameters := [], returnType := none }, accessFlags := 2, code := some k2c24 }
def k2c25 : Code := { maxStack := 3, maxLocals := 2, code := prog_1_method_30_code, exceptionTable := #[], attributes := #[] }
def k2m25 : Method := { name := "useVar", desc := "()I", sig := { parameters := [], returnType := some .int }, accessFlags := 2, code := some k2c25 }
def k2c26 : Code := { maxStack := 3, maxLocals := 2, code := prog_1_method_32_code, exceptionTable := #[], attributes := #[] }
def k2m26 : Method := { name := "parseExpr", desc := "()V", sig := { parameters := [], returnType := none }, accessFlags := 2, code := some k2c26 }
def k2c27 : Code := { maxStack := 3, maxLocals := 3, code := prog_1_method_33_code, exceptionTable := #[], attributes := #[] }
def k2m27 : Method := { name := "parseSum", desc := "()V", sig := { parameters := [], returnType := none }, accessFlags := 2, code := some k2c27 }
def k2c28 : Code := { maxStack := 3, maxLocals := 2, code := prog_1_method_34_code, exceptionTable := #[], attributes := #[] }
def k2m28 : Method := { name := "parseTerm", desc := "()V", sig := { parameters := [], returnType := none }, accessFlags := 2, code := some k2c28 }
def k2c29 : Code := { maxStack := 3, maxLocals := 2, code := prog_1_method_35_code, exceptionTable := #[], attributes := #[] }
def k2m29 : Method := { name := "parseOperand", desc := "()V", sig := { parameters := [], returnType := none }, accessFlags := 2, code := some k2c29 }
def k2c30 : Code := { maxStack := 3, maxLocals := 1, code := prog_1_method_36_code, exceptionTable := #[], attributes := #[] }
def k2m30 : Method := { name := "parseAtom", desc := "()V", sig := { parameters := [], returnType := none }, accessFlags := 2, code := some k2c30 }
def k2c31 : Code := { maxStack := 2, maxLocals := 3, code := prog_1_method_37_code, exceptionTable := #[], attributes := #[] }
def k2m31 : Method := { name := "trap", desc := "(II)V", sig := { parameters := [.int, .int], returnType := none }, accessFlags := 2, code := some k2c31 }
def k2c32 : Code := { maxStack := 3, maxLocals := 5, code := prog_1_method_39_code, exceptionTable := #[], attributes := #[] }
def k2m32 : Method := { name := "setReg", desc := "(IIII)V", sig := { parameters := [.int, .int, .int, .int], returnType := none }, accessFlags := 2, code := some k2c32 }
def k2c33 : Code := { maxStack := 6, maxLocals := 3, code := prog_1_method_40_code, exceptionTable := #[], attributes := #[] }
def k2m33 : Method := { name := "copyReg", desc := "(II)V", sig := { parameters := [.int, .int], returnType := none }, accessFlags := 2, code := some k2c33 }
def k2c34 : Code := { maxStack := 4, maxLocals := 4, code := prog_1_method_41_code, exceptionTable := #[], attributes := #[] }
def k2m34 : Method := { name := "objOf", desc := "(I)I", sig := { parameters := [.int], returnType := some .int }, accessFlags := 2, code := some k2c34 }
def k2c35 : Code := { maxStack := 4, maxLocals := 3, code := prog_1_method_42_code, exceptionTable := #[], attributes := #[] }
def k2m35 : Method := { name := "isArr", desc := "(I)Z", sig := { parameters := [.int], returnType := some .boolean }, accessFlags := 2, code := some k2c35 }
def k2c36 : Code := { maxStack := 5, maxLocals := 4, code := prog_1_method_43_code, exceptionTable := #[], attributes := #[] }
def k2m36 : Method := { name := "loadVar", desc := "(II)V", sig := { parameters := [.int, .int], returnType := none }, accessFlags := 2, code := some k2c36 }
def k2c37 : Code := { maxStack := 5, maxLocals := 3, code := prog_1_method_44_code, exceptionTable := #[], attributes := #[] }
def k2m37 : Method := { name := "loadAtom", desc := "(II)V", sig := { parameters := [.int, .int], returnType := none }, accessFlags := 2, code := some k2c37 }
def k2c38 : Code := { maxStack := 7, maxLocals := 3, code := prog_1_method_46_code, exceptionTable := #[], attributes := #[] }
def k2m38 : Method := { name := "readCell", desc := "(II)V", sig := { parameters := [.int, .int], returnType := none }, accessFlags := 2, code := some k2c38 }
def k2c39 : Code := { maxStack := 4, maxLocals := 3, code := prog_1_method_47_code, exceptionTable := #[], attributes := #[] }
def k2m39 : Method := { name := "writeCell", desc := "(II)V", sig := { parameters := [.int, .int], returnType := none }, accessFlags := 2, code := some k2c39 }
def k2c40 : Code := { maxStack := 4, maxLocals := 10, code := prog_1_method_48_code, exceptionTable := #[], attributes := #[] }
def k2m40 : Method := { name := "check", desc := "(IIIIII)I", sig := { parameters := [.int, .int, .int, .int, .int, .int], returnType := some .int }, accessFlags := 2, code := some k2c40 }
def k2c41 : Code := { maxStack := 5, maxLocals := 5, code := prog_1_method_49_code, exceptionTable := #[], attributes := #[] }
def k2m41 : Method := { name := "evalExpr", desc := "(I)I", sig := { parameters := [.int], returnType := some .int }, accessFlags := 2, code := some k2c41 }
def k2c42 : Code := { maxStack := 5, maxLocals := 6, code := prog_1_method_50_code, exceptionTable := #[], attributes := #[] }
def k2m42 : Method := { name := "evalSum", desc := "(I)I", sig := { parameters := [.int], returnType := some .int }, accessFlags := 2, code := some k2c42 }
def k2c43 : Code := { maxStack := 5, maxLocals := 5, code := prog_1_method_51_code, exceptionTable := #[], attributes := #[] }
def k2m43 : Method := { name := "evalTerm", desc := "(I)I", sig := { parameters := [.int], returnType := some .int }, accessFlags := 2, code := some k2c43 }
def k2c44 : Code := { maxStack := 8, maxLocals := 7, code := prog_1_method_52_code, exceptionTable := #[], attributes := #[] }
def k2m44 : Method := { name := "evalOperand", desc := "(I)I", sig := { parameters := [.int], returnType := some .int }, accessFlags := 2, code := some k2c44 }
def k2c45 : Code := { maxStack := 3, maxLocals := 3, code := prog_1_method_56_code, exceptionTable := #[], attributes := #[] }
def k2m45 : Method := { name := "step", desc := "(I)I", sig := { parameters := [.int], returnType := some .int }, accessFlags := 2, code := some k2c45 }
def k2c46 : Code := { maxStack := 6, maxLocals := 4, code := prog_1_method_57_code, exceptionTable := #[], attributes := #[] }
def k2m46 : Method := { name := "execVarStmt", desc := "(I)I", sig := { parameters := [.int], returnType := some .int }, accessFlags := 2, code := some k2c46 }
def k2c47 : Code := { maxStack := 8, maxLocals := 9, code := prog_1_method_58_code, exceptionTable := #[], attributes := #[] }
def k2m47 : Method := { name := "execIndexStore", desc := "(I)I", sig := { parameters := [.int], returnType := some .int }, accessFlags := 2, code := some k2c47 }
def k2c48 : Code := { maxStack := 5, maxLocals := 3, code := prog_1_method_61_code, exceptionTable := #[], attributes := #[] }
def k2m48 : Method := { name := "execReturn", desc := "(I)I", sig := { parameters := [.int], returnType := some .int }, accessFlags := 2, code := some k2c48 }
def k2c49 : Code := { maxStack := 4, maxLocals := 12, code := prog_1_method_65_code, exceptionTable := #[], attributes := #[] }
def k2m49 : Method := { name := "pushFrame", desc := "(III)V", sig := { parameters := [.int, .int, .int], returnType := none }, accessFlags := 2, code := some k2c49 }
def k2c50 : Code := { maxStack := 5, maxLocals := 7, code := prog_1_method_66_code, exceptionTable := #[], attributes := #[] }
def k2m50 : Method := { name := "doReturn", desc := "(III)I", sig := { parameters := [.int, .int, .int], returnType := some .int }, accessFlags := 2, code := some k2c50 }
/-- FatPointerC -/
def k2 : Class := { plain "FatPointerC" (some 0) with
  accessFlags := 49
  interfaces := #[]
  cf := some (fileOf pool2 8 #[] #[{ accessFlags := 1, nameIndex := 5, descriptorIndex := 149, attributes := #[] }, { accessFlags := 1, nameIndex := 414, descriptorIndex := 415, attributes := #[] }, { accessFlags := 1, nameIndex := 417, descriptorIndex := 130, attributes := #[] }, { accessFlags := 1, nameIndex := 418, descriptorIndex := 221, attributes := #[] }, { accessFlags := 1, nameIndex := 152, descriptorIndex := 221, attributes := #[] }, { accessFlags := 1, nameIndex := 164, descriptorIndex := 221, attributes := #[] }, { accessFlags := 1, nameIndex := 419, descriptorIndex := 221, attributes := #[] }, { accessFlags := 1, nameIndex := 420, descriptorIndex := 221, attributes := #[] }, { accessFlags := 1, nameIndex := 421, descriptorIndex := 221, attributes := #[] }, { accessFlags := 1, nameIndex := 423, descriptorIndex := 221, attributes := #[] }, { accessFlags := 2, nameIndex := 119, descriptorIndex := 6, attributes := #[] }, { accessFlags := 2, nameIndex := 194, descriptorIndex := 161, attributes := #[] }, { accessFlags := 2, nameIndex := 201, descriptorIndex := 161, attributes := #[] }, { accessFlags := 2, nameIndex := 129, descriptorIndex := 130, attributes := #[] }, { accessFlags := 2, nameIndex := 191, descriptorIndex := 130, attributes := #[] }, { accessFlags := 2, nameIndex := 197, descriptorIndex := 198, attributes := #[] }, { accessFlags := 2, nameIndex := 188, descriptorIndex := 6, attributes := #[] }, { accessFlags := 2, nameIndex := 207, descriptorIndex := 6, attributes := #[] }, { accessFlags := 2, nameIndex := 210, descriptorIndex := 6, attributes := #[] }, { accessFlags := 2, nameIndex := 220, descriptorIndex := 221, attributes := #[] }, { accessFlags := 2, nameIndex := 224, descriptorIndex := 221, attributes := #[] }, { accessFlags := 2, nameIndex := 216, descriptorIndex := 217, attributes := #[] }, { accessFlags := 2, nameIndex := 213, descriptorIndex := 6, attributes := #[] }, { accessFlags := 2, nameIndex := 227, descriptorIndex := 6, attributes := #[] }, { accessFlags := 2, nameIndex := 233, descriptorIndex := 6, attributes := #[] }, { accessFlags := 2, nameIndex := 236, descriptorIndex := 221, attributes := #[] }, { accessFlags := 2, nameIndex := 230, descriptorIndex := 6, attributes := #[] }, { accessFlags := 2, nameIndex := 245, descriptorIndex := 6, attributes := #[] }, { accessFlags := 2, nameIndex := 248, descriptorIndex := 6, attributes := #[] }, { accessFlags := 2, nameIndex := 251, descriptorIndex := 6, attributes := #[] }, { accessFlags := 2, nameIndex := 242, descriptorIndex := 6, attributes := #[] }, { accessFlags := 2, nameIndex := 148, descriptorIndex := 149, attributes := #[] }, { accessFlags := 2, nameIndex := 254, descriptorIndex := 255, attributes := #[] }, { accessFlags := 2, nameIndex := 274, descriptorIndex := 149, attributes := #[] }, { accessFlags := 2, nameIndex := 258, descriptorIndex := 161, attributes := #[] }, { accessFlags := 2, nameIndex := 261, descriptorIndex := 262, attributes := #[] }, { accessFlags := 2, nameIndex := 268, descriptorIndex := 149, attributes := #[] }, { accessFlags := 2, nameIndex := 291, descriptorIndex := 149, attributes := #[] }, { accessFlags := 2, nameIndex := 265, descriptorIndex := 149, attributes := #[] }, { accessFlags := 2, nameIndex := 334, descriptorIndex := 149, attributes := #[] }, { accessFlags := 2, nameIndex := 287, descriptorIndex := 288, attributes := #[] }, { accessFlags := 2, nameIndex := 328, descriptorIndex := 161, attributes := #[] }, { accessFlags := 2, nameIndex := 271, descriptorIndex := 161, attributes := #[] }, { accessFlags := 2, nameIndex := 281, descriptorIndex := 161, attributes := #[] }, { accessFlags := 2, nameIndex := 284, descriptorIndex := 161, attributes := #[] }, { accessFlags := 2, nameIndex := 160, descriptorIndex := 161, attributes := #[] }, { accessFlags := 2, nameIndex := 302, descriptorIndex := 161, attributes := #[] }, { accessFlags := 2, nameIndex := 325, descriptorIndex := 161, attributes := #[] }, { accessFlags := 2, nameIndex := 315, descriptorIndex := 161, attributes := #[] }, { accessFlags := 2, nameIndex := 155, descriptorIndex := 156, attributes := #[] }, { accessFlags := 2, nameIndex := 337, descriptorIndex := 295, attributes := #[] }] 49 2 #[] #[{ accessFlags := 25, nameIndex := 341, descriptorIndex := 113, attributes := #[] }, { accessFlags := 25, nameIndex := 344, descriptorIndex := 113, attributes := #[] }, { accessFlags := 25, nameIndex := 346, descriptorIndex := 113, attributes := #[] }, { accessFlags := 25, nameIndex := 348, descriptorIndex := 113, attributes := #[] }, { accessFlags := 25, nameIndex := 350, descriptorIndex := 113, attributes := #[] }, { accessFlags := 25, nameIndex := 352, descriptorIndex := 113, attributes := #[] }, { accessFlags := 25, nameIndex := 354, descriptorIndex := 113, attributes := #[] }, { accessFlags := 25, nameIndex := 356, descriptorIndex := 113, attributes := #[] }, { accessFlags := 25, nameIndex := 358, descriptorIndex := 113, attributes := #[] }, { accessFlags := 25, nameIndex := 360, descriptorIndex := 113, attributes := #[] }, { accessFlags := 25, nameIndex := 362, descriptorIndex := 113, attributes := #[] }, { accessFlags := 25, nameIndex := 364, descriptorIndex := 113, attributes := #[] }, { accessFlags := 25, nameIndex := 366, descriptorIndex := 113, attributes := #[] }, { accessFlags := 25, nameIndex := 368, descriptorIndex := 113, attributes := #[] }, { accessFlags := 25, nameIndex := 370, descriptorIndex := 113, attributes := #[] }, { accessFlags := 25, nameIndex := 372, descriptorIndex := 113, attributes := #[] }, { accessFlags := 25, nameIndex := 374, descriptorIndex := 113, attributes := #[] }, { accessFlags := 25, nameIndex := 376, descriptorIndex := 113, attributes := #[] }, { accessFlags := 25, nameIndex := 378, descriptorIndex := 113, attributes := #[] }, { accessFlags := 25, nameIndex := 380, descriptorIndex := 113, attributes := #[] }, { accessFlags := 25, nameIndex := 382, descriptorIndex := 113, attributes := #[] }, { accessFlags := 25, nameIndex := 384, descriptorIndex := 113, attributes := #[] }, { accessFlags := 25, nameIndex := 386, descriptorIndex := 113, attributes := #[] }, { accessFlags := 25, nameIndex := 388, descriptorIndex := 113, attributes := #[] }, { accessFlags := 25, nameIndex := 390, descriptorIndex := 113, attributes := #[] }, { accessFlags := 25, nameIndex := 392, descriptorIndex := 113, attributes := #[] }, { accessFlags := 25, nameIndex := 394, descriptorIndex := 113, attributes := #[] }, { accessFlags := 25, nameIndex := 396, descriptorIndex := 113, attributes := #[] }, { accessFlags := 25, nameIndex := 397, descriptorIndex := 113, attributes := #[] }, { accessFlags := 25, nameIndex := 398, descriptorIndex := 113, attributes := #[] }, { accessFlags := 25, nameIndex := 399, descriptorIndex := 113, attributes := #[] }, { accessFlags := 25, nameIndex := 400, descriptorIndex := 113, attributes := #[] }, { accessFlags := 25, nameIndex := 401, descriptorIndex := 113, attributes := #[] }, { accessFlags := 25, nameIndex := 402, descriptorIndex := 113, attributes := #[] }, { accessFlags := 25, nameIndex := 403, descriptorIndex := 113, attributes := #[] }, { accessFlags := 25, nameIndex := 404, descriptorIndex := 113, attributes := #[] }, { accessFlags := 25, nameIndex := 405, descriptorIndex := 113, attributes := #[] }, { accessFlags := 25, nameIndex := 406, descriptorIndex := 113, attributes := #[] }, { accessFlags := 25, nameIndex := 408, descriptorIndex := 113, attributes := #[] }, { accessFlags := 25, nameIndex := 409, descriptorIndex := 113, attributes := #[] }, { accessFlags := 2, nameIndex := 112, descriptorIndex := 113, attributes := #[] }, { accessFlags := 2, nameIndex := 116, descriptorIndex := 113, attributes := #[] }, { accessFlags := 2, nameIndex := 122, descriptorIndex := 113, attributes := #[] }, { accessFlags := 2, nameIndex := 11, descriptorIndex := 12, attributes := #[] }, { accessFlags := 2, nameIndex := 15, descriptorIndex := 12, attributes := #[] }, { accessFlags := 2, nameIndex := 125, descriptorIndex := 126, attributes := #[] }, { accessFlags := 2, nameIndex := 152, descriptorIndex := 113, attributes := #[] }, { accessFlags := 2, nameIndex := 164, descriptorIndex := 113, attributes := #[] }, { accessFlags := 2, nameIndex := 167, descriptorIndex := 113, attributes := #[] }, { accessFlags := 2, nameIndex := 170, descriptorIndex := 113, attributes := #[] }, { accessFlags := 2, nameIndex := 173, descriptorIndex := 113, attributes := #[] }, { accessFlags := 2, nameIndex := 176, descriptorIndex := 113, attributes := #[] }, { accessFlags := 2, nameIndex := 179, descriptorIndex := 113, attributes := #[] }, { accessFlags := 2, nameIndex := 18, descriptorIndex := 12, attributes := #[] }, { accessFlags := 2, nameIndex := 21, descriptorIndex := 22, attributes := #[] }, { accessFlags := 2, nameIndex := 25, descriptorIndex := 12, attributes := #[] }, { accessFlags := 2, nameIndex := 28, descriptorIndex := 12, attributes := #[] }, { accessFlags := 2, nameIndex := 31, descriptorIndex := 12, attributes := #[] }, { accessFlags := 2, nameIndex := 34, descriptorIndex := 12, attributes := #[] }, { accessFlags := 2, nameIndex := 37, descriptorIndex := 12, attributes := #[] }, { accessFlags := 2, nameIndex := 40, descriptorIndex := 12, attributes := #[] }, { accessFlags := 2, nameIndex := 43, descriptorIndex := 22, attributes := #[] }, { accessFlags := 2, nameIndex := 46, descriptorIndex := 12, attributes := #[] }, { accessFlags := 2, nameIndex := 49, descriptorIndex := 12, attributes := #[] }, { accessFlags := 2, nameIndex := 52, descriptorIndex := 12, attributes := #[] }, { accessFlags := 2, nameIndex := 55, descriptorIndex := 12, attributes := #[] }, { accessFlags := 2, nameIndex := 185, descriptorIndex := 113, attributes := #[] }, { accessFlags := 2, nameIndex := 182, descriptorIndex := 126, attributes := #[] }, { accessFlags := 2, nameIndex := 204, descriptorIndex := 113, attributes := #[] }, { accessFlags := 2, nameIndex := 58, descriptorIndex := 12, attributes := #[] }, { accessFlags := 2, nameIndex := 61, descriptorIndex := 12, attributes := #[] }, { accessFlags := 2, nameIndex := 64, descriptorIndex := 12, attributes := #[] }, { accessFlags := 2, nameIndex := 67, descriptorIndex := 12, attributes := #[] }, { accessFlags := 2, nameIndex := 70, descriptorIndex := 12, attributes := #[] }, { accessFlags := 2, nameIndex := 73, descriptorIndex := 12, attributes := #[] }, { accessFlags := 2, nameIndex := 76, descriptorIndex := 22, attributes := #[] }, { accessFlags := 2, nameIndex := 139, descriptorIndex := 113, attributes := #[] }, { accessFlags := 2, nameIndex := 79, descriptorIndex := 12, attributes := #[] }, { accessFlags := 2, nameIndex := 82, descriptorIndex := 12, attributes := #[] }, { accessFlags := 2, nameIndex := 85, descriptorIndex := 12, attributes := #[] }, { accessFlags := 2, nameIndex := 88, descriptorIndex := 12, attributes := #[] }, { accessFlags := 2, nameIndex := 91, descriptorIndex := 12, attributes := #[] }, { accessFlags := 2, nameIndex := 133, descriptorIndex := 113, attributes := #[] }, { accessFlags := 2, nameIndex := 136, descriptorIndex := 113, attributes := #[] }, { accessFlags := 2, nameIndex := 142, descriptorIndex := 113, attributes := #[] }, { accessFlags := 2, nameIndex := 145, descriptorIndex := 126, attributes := #[] }, { accessFlags := 2, nameIndex := 94, descriptorIndex := 12, attributes := #[] }, { accessFlags := 2, nameIndex := 97, descriptorIndex := 12, attributes := #[] }, { accessFlags := 2, nameIndex := 100, descriptorIndex := 12, attributes := #[] }, { accessFlags := 2, nameIndex := 103, descriptorIndex := 12, attributes := #[] }, { accessFlags := 2, nameIndex := 106, descriptorIndex := 12, attributes := #[] }, { accessFlags := 2, nameIndex := 109, descriptorIndex := 12, attributes := #[] }])
  fields := #[{ name := "K_NUM", type := .int, accessFlags := 25, slot := 0, constantValue := 0 }, { name := "K_VAR", type := .int, accessFlags := 25, slot := 1, constantValue := 0 }, { name := "K_FUNC", type := .int, accessFlags := 25, slot := 2, constantValue := 0 }, { name := "K_FN", type := .int, accessFlags := 25, slot := 3, constantValue := 0 }, { name := "K_VARKW", type := .int, accessFlags := 25, slot := 4, constantValue := 0 }, { name := "K_ARR", type := .int, accessFlags := 25, slot := 5, constantValue := 0 }, { name := "K_WHILE", type := .int, accessFlags := 25, slot := 6, constantValue := 0 }, { name := "K_IF", type := .int, accessFlags := 25, slot := 7, constantValue := 0 }, { name := "K_RETURN", type := .int, accessFlags := 25, slot := 8, constantValue := 0 }, { name := "K_OUT", type := .int, accessFlags := 25, slot := 9, constantValue := 0 }, { name := "K_LPAR", type := .int, accessFlags := 25, slot := 10, constantValue := 0 }, { name := "K_RPAR", type := .int, accessFlags := 25, slot := 11, constantValue := 0 }, { name := "K_LBRACE", type := .int, accessFlags := 25, slot := 12, constantValue := 0 }, { name := "K_RBRACE", type := .int, accessFlags := 25, slot := 13, constantValue := 0 }, { name := "K_LBRACK", type := .int, accessFlags := 25, slot := 14, constantValue := 0 }, { name := "K_RBRACK", type := .int, accessFlags := 25, slot := 15, constantValue := 0 }, { name := "K_SEMI", type := .int, accessFlags := 25, slot := 16, constantValue := 0 }, { name := "K_COMMA", type := .int, accessFlags := 25, slot := 17, constantValue := 0 }, { name := "K_ASSIGN", type := .int, accessFlags := 25, slot := 18, constantValue := 0 }, { name := "K_PLUS", type := .int, accessFlags := 25, slot := 19, constantValue := 0 }, { name := "K_MINUS", type := .int, accessFlags := 25, slot := 20, constantValue := 0 }, { name := "K_STAR", type := .int, accessFlags := 25, slot := 21, constantValue := 0 }, { name := "K_AMP", type := .int, accessFlags := 25, slot := 22, constantValue := 0 }, { name := "K_LT", type := .int, accessFlags := 25, slot := 23, constantValue := 0 }, { name := "K_EQ", type := .int, accessFlags := 25, slot := 24, constantValue := 0 }, { name := "R_NONE", type := .int, accessFlags := 25, slot := 25, constantValue := 0 }, { name := "R_DONE", type := .int, accessFlags := 25, slot := 26, constantValue := 0 }, { name := "T_TYPE", type := .int, accessFlags := 25, slot := 27, constantValue := 0 }, { name := "T_BOUNDS", type := .int, accessFlags := 25, slot := 28, constantValue := 0 }, { name := "T_DANGLING", type := .int, accessFlags := 25, slot := 29, constantValue := 0 }, { name := "T_ARITH", type := .int, accessFlags := 25, slot := 30, constantValue := 0 }, { name := "T_STACK", type := .int, accessFlags := 25, slot := 31, constantValue := 0 }, { name := "T_OUTPUT", type := .int, accessFlags := 25, slot := 32, constantValue := 0 }, { name := "T_FUEL", type := .int, accessFlags := 25, slot := 33, constantValue := 0 }, { name := "RK_NONE", type := .int, accessFlags := 25, slot := 34, constantValue := 0 }, { name := "RK_INT", type := .int, accessFlags := 25, slot := 35, constantValue := 0 }, { name := "RK_PTR", type := .int, accessFlags := 25, slot := 36, constantValue := 0 }, { name := "MAX_TOKENS", type := .int, accessFlags := 25, slot := 37, constantValue := 0 }, { name := "MAX_OUT", type := .int, accessFlags := 25, slot := 38, constantValue := 0 }, { name := "FUEL", type := .int, accessFlags := 25, slot := 39, constantValue := 0 }, { name := "memCells", type := .int, accessFlags := 2, slot := 0, constantValue := 0 }, { name := "maxDepth", type := .int, accessFlags := 2, slot := 1, constantValue := 0 }, { name := "nTok", type := .int, accessFlags := 2, slot := 2, constantValue := 0 }, { name := "tokK", type := (.array .int), accessFlags := 2, slot := 3, constantValue := 0 }, { name := "tokV", type := (.array .int), accessFlags := 2, slot := 4, constantValue := 0 }, { name := "compiled", type := .boolean, accessFlags := 2, slot := 5, constantValue := 0 }, { name := "status", type := .int, accessFlags := 2, slot := 6, constantValue := 0 }, { name := "trapSite", type := .int, accessFlags := 2, slot := 7, constantValue := 0 }, { name := "framesAt", type := .int, accessFlags := 2, slot := 8, constantValue := 0 }, { name := "resKind", type := .int, accessFlags := 2, slot := 9, constantValue := 0 }, { name := "resVal", type := .int, accessFlags := 2, slot := 10, constantValue := 0 }, { name := "resSize", type := .int, accessFlags := 2, slot := 11, constantValue := 0 }, { name := "outN", type := .int, accessFlags := 2, slot := 12, constantValue := 0 }, { name := "outVals", type := (.array .int), accessFlags := 2, slot := 13, constantValue := 0 }, { name := "fnDef", type := (.array .boolean), accessFlags := 2, slot := 14, constantValue := 0 }, { name := "fnTok", type := (.array .int), accessFlags := 2, slot := 15, constantValue := 0 }, { name := "fnParams", type := (.array .int), accessFlags := 2, slot := 16, constantValue := 0 }, { name := "fnObjCount", type := (.array .int), accessFlags := 2, slot := 17, constantValue := 0 }, { name := "fnFrame", type := (.array .int), accessFlags := 2, slot := 18, constantValue := 0 }, { name := "fnBody", type := (.array .int), accessFlags := 2, slot := 19, constantValue := 0 }, { name := "nameIdx", type := (.array .int), accessFlags := 2, slot := 20, constantValue := 0 }, { name := "nameArr", type := (.array .boolean), accessFlags := 2, slot := 21, constantValue := 0 }, { name := "fnObjSize", type := (.array .int), accessFlags := 2, slot := 22, constantValue := 0 }, { name := "callArgs", type := (.array .int), accessFlags := 2, slot := 23, constantValue := 0 }, { name := "matchEnd", type := (.array .int), accessFlags := 2, slot := 24, constantValue := 0 }, { name := "braceOwner", type := (.array .int), accessFlags := 2, slot := 25, constantValue := 0 }, { name := "pp", type := .int, accessFlags := 2, slot := 26, constantValue := 0 }, { name := "pok", type := .boolean, accessFlags := 2, slot := 27, constantValue := 0 }, { name := "curFn", type := .int, accessFlags := 2, slot := 28, constantValue := 0 }, { name := "openStack", type := (.array .int), accessFlags := 2, slot := 29, constantValue := 0 }, { name := "cellK", type := (.array .int), accessFlags := 2, slot := 30, constantValue := 0 }, { name := "cellV", type := (.array .int), accessFlags := 2, slot := 31, constantValue := 0 }, { name := "cellO", type := (.array .int), accessFlags := 2, slot := 32, constantValue := 0 }, { name := "objBase", type := (.array .int), accessFlags := 2, slot := 33, constantValue := 0 }, { name := "objSize", type := (.array .int), accessFlags := 2, slot := 34, constantValue := 0 }, { name := "objAlive", type := (.array .boolean), accessFlags := 2, slot := 35, constantValue := 0 }, { name := "nextObj", type := .int, accessFlags := 2, slot := 36, constantValue := 0 }, { name := "frFunc", type := (.array .int), accessFlags := 2, slot := 37, constantValue := 0 }, { name := "frFirst", type := (.array .int), accessFlags := 2, slot := 38, constantValue := 0 }, { name := "frBase", type := (.array .int), accessFlags := 2, slot := 39, constantValue := 0 }, { name := "frRetPc", type := (.array .int), accessFlags := 2, slot := 40, constantValue := 0 }, { name := "frTarget", type := (.array .int), accessFlags := 2, slot := 41, constantValue := 0 }, { name := "depth", type := .int, accessFlags := 2, slot := 42, constantValue := 0 }, { name := "liveCells", type := .int, accessFlags := 2, slot := 43, constantValue := 0 }, { name := "fuel", type := .int, accessFlags := 2, slot := 44, constantValue := 0 }, { name := "running", type := .boolean, accessFlags := 2, slot := 45, constantValue := 0 }, { name := "regK", type := (.array .int), accessFlags := 2, slot := 46, constantValue := 0 }, { name := "regV", type := (.array .int), accessFlags := 2, slot := 47, constantValue := 0 }, { name := "regO", type := (.array .int), accessFlags := 2, slot := 48, constantValue := 0 }, { name := "argK", type := (.array .int), accessFlags := 2, slot := 49, constantValue := 0 }, { name := "argV", type := (.array .int), accessFlags := 2, slot := 50, constantValue := 0 }, { name := "argO", type := (.array .int), accessFlags := 2, slot := 51, constantValue := 0 }]
  methods := #[k2m0, k2m1, k2m2, k2m3, k2m4, k2m5, k2m6, k2m7, k2m8, k2m9, k2m10, k2m11, k2m12, k2m13, k2m14, k2m15, k2m16, k2m17, k2m18, k2m19, k2m20, k2m21, k2m22, k2m23, k2m24, k2m25, k2m26, k2m27, k2m28, k2m29, k2m30, k2m31, k2m32, k2m33, k2m34, k2m35, k2m36, k2m37, k2m38, k2m39, k2m40, k2m41, k2m42, k2m43, k2m44, k2m45, k2m46, k2m47, k2m48, k2m49, k2m50]
  instanceTypes := #[.int, .int, .int, (.array .int), (.array .int), .boolean, .int, .int, .int, .int, .int, .int, .int, (.array .int), (.array .boolean), (.array .int), (.array .int), (.array .int), (.array .int), (.array .int), (.array .int), (.array .boolean), (.array .int), (.array .int), (.array .int), (.array .int), .int, .boolean, .int, (.array .int), (.array .int), (.array .int), (.array .int), (.array .int), (.array .int), (.array .boolean), .int, (.array .int), (.array .int), (.array .int), (.array .int), (.array .int), .int, .int, .int, .boolean, (.array .int), (.array .int), (.array .int), (.array .int), (.array .int), (.array .int)]
  staticTypes := #[.int, .int, .int, .int, .int, .int, .int, .int, .int, .int, .int, .int, .int, .int, .int, .int, .int, .int, .int, .int, .int, .int, .int, .int, .int, .int, .int, .int, .int, .int, .int, .int, .int, .int, .int, .int, .int, .int, .int, .int]
  resolved := Array.replicate 427 none
  statics := none }

def pool3 : Array CpInfo := pool [(1, u "java/lang/Cloneable"), (0, .class_ 1), (0, u "java/lang/Object"), (0, .class_ 3)] 3

/-- java/lang/Cloneable -/
def k3 : Class := { plain "java/lang/Cloneable" (some 0) with
  accessFlags := 1537
  interfaces := #[]
  cf := some (fileOf pool3 2 #[] #[] 1537 4 #[] #[])
  fields := #[]
  methods := #[]
  instanceTypes := #[]
  staticTypes := #[]
  resolved := Array.replicate 8 none
  statics := none }

def pool4 : Array CpInfo := pool [(1, u "java/io/Serializable"), (0, .class_ 1), (0, u "java/lang/Object"), (0, .class_ 3)] 3

/-- java/io/Serializable -/
def k4 : Class := { plain "java/io/Serializable" (some 0) with
  accessFlags := 1537
  interfaces := #[]
  cf := some (fileOf pool4 2 #[] #[] 1537 4 #[] #[])
  fields := #[]
  methods := #[]
  instanceTypes := #[]
  staticTypes := #[]
  resolved := Array.replicate 8 none
  statics := none }

/-- the primitive boolean -/
def k5 : Class := { plain "boolean" none with kind := .primitive 'Z', accessFlags := 0x411 }
/-- [Z -/
def k6 : Class := { plain "[Z" (some 0) with kind := .array 5 .boolean, interfaces := #[3, 4], accessFlags := 1041 }

/-- the primitive byte -/
def k7 : Class := { plain "byte" none with kind := .primitive 'B', accessFlags := 0x411 }
/-- [B -/
def k8 : Class := { plain "[B" (some 0) with kind := .array 7 .byte, interfaces := #[3, 4], accessFlags := 1041 }

/-- the primitive int -/
def k9 : Class := { plain "int" none with kind := .primitive 'I', accessFlags := 0x411 }
/-- [I -/
def k10 : Class := { plain "[I" (some 0) with kind := .array 9 .int, interfaces := #[3, 4], accessFlags := 1041 }

def heap : Heap := #[]
def classes : Array Class := #[k0, k1, k2, k3, k4, k5, k6, k7, k8, k9, k10]
def interned : List (Array UInt16 × Addr) := []
def slotsUsed : Nat := 0
def theMethod : MethodId := ⟨1, 1⟩
def args0 : Array Value := #[.int 1, .int 1, .int 1, .int 1, .int 1]
def aboutOver (below : List Frame) : State where
  vm := { classes := classes, interned := interned.toArray }
  heap := heap
  slotsUsed := slotsUsed
  threads := #[{ frames := .invoking theMethod args0 :: below }]
def below0 : List Frame := [.native { method := ⟨0, 0⟩, args := #[] }]
def about1 : State := aboutOver below0
def p0 : Program := .bare "" "" ""
def e0 : Env := launch0.env 0 0 0
theorem w_frames : about1.frames = Frame.invoking theMethod args0 :: below0 := rfl
set_option maxRecDepth 65536 in
theorem w_args : argsFit about1.vm theMethod args0 = true := by decide +kernel
set_option maxRecDepth 65536 in
theorem w_heap : heapFits about1 = true := by decide +kernel
set_option maxRecDepth 65536 in
theorem w_runnable : about1.curStatus? = some .runnable := by decide +kernel
set_option maxRecDepth 65536 in
theorem w_alone : about1.alone = true := by decide +kernel
set_option maxRecDepth 65536 in
theorem w_named : about1.methodNamed? x = some theMethod := by decide +kernel
set_option maxRecDepth 65536 in
theorem w_hears : about1.hears theMethod below0 = true := by decide +kernel
set_option maxRecDepth 65536 in
theorem w_ripe : about1.ripe theMethod args0 below0 = true := by decide +kernel
theorem w_running : about1.status = .running := rfl
set_option maxRecDepth 65536 in
theorem w_room : about1.hasRoom e0.platform room_1 = true :=
  launch0.hasRoom_least _ room_1 (by decide +kernel) (by decide +kernel) (by decide +kernel) (by decide +kernel) (by decide +kernel) (by decide +kernel)
theorem allAtoms_all (ts : List Jvm.Cond) (a : Array Jvm.Value) (st : Jvm.State) : (allAtoms ts).before a st = ts.all (fun c => c.before a st) := by
  induction ts with
  | nil => rfl
  | cons c t ih =>
    show (Jvm.Cond.and c (allAtoms t)).before a st = _
    rw [Jvm.Cond.before_and, ih, List.all_cons]
def words1 : List Jvm.Cond := Jvm.Cond.code x code maxLocals ret :: tables_1
/-- a 'code' word, met by the world's own term for the bytes: nothing is compared byte by byte -/
theorem code_word {y : MethodName} {bytes : ByteArray} {mx : Nat} {rt : Option FieldType} {a : Array Value} {s : State} {m : MethodId} {meth : Method} {c : Code} (h1 : s.methodNamed? y = some m) (h2 : s.vm.method? m = some meth) (h3 : meth.code = some c) (h4 : c.code = bytes)
    (h5 : (c.maxLocals == mx && c.exceptionTable.isEmpty && decide (c.maxStack ≤ mostOperands) && decide (meth.sig.returnType = rt) && !meth.locks && decide (parseMethodDescriptor y.desc = some meth.sig)) = true) : (Jvm.Cond.code y bytes mx rt).before a s = true := by
  simp only [Bool.and_eq_true, beq_iff_eq, Bool.not_eq_true', decide_eq_true_eq] at h5
  obtain ⟨⟨⟨⟨⟨g1, g2⟩, g3⟩, g4⟩, g5⟩, g6⟩ := h5
  simp [Cond.before, Cond.holds, Cond.value, h1, h2, h3, h4, g1, g2, g3, g4, g5, g6]
def isCode : Jvm.Cond → Bool
  | .code _ _ _ _ => true
  | _ => false
theorem all_split {L : List Jvm.Cond} {P : Jvm.Cond → Bool} (h1 : L.all (fun c => isCode c || P c) = true) (h2 : ∀ c ∈ L.filter isCode, P c = true) : L.all P = true := by
  refine List.all_eq_true.mpr fun c hc => ?_
  have h := List.all_eq_true.mp h1 c hc
  rcases Bool.eq_false_or_eq_true (isCode c) with hi | hi
  · exact h2 c (List.mem_filter.mpr ⟨hc, hi⟩)
  · simpa [hi] using h
set_option maxRecDepth 65536 in
theorem w_c0 : (Jvm.Cond.code x code maxLocals ret).before args0 about1 = true := code_word (m := ⟨1, 1⟩) (meth := k1m1) (c := k1c1) (by decide +kernel) rfl rfl rfl (by decide +kernel)
set_option maxRecDepth 65536 in
theorem w_c1 : (Jvm.Cond.code ({ cls := "FatPointerC", name := "<init>", desc := "(II)V" } : Jvm.MethodName) prog_1_method_1_code (5 : Nat) (Option.none : Option Jvm.ClassFile.FieldType)).before args0 about1 = true := code_word (m := ⟨2, 0⟩) (meth := k2m0) (c := k2c0) (by decide +kernel) rfl rfl rfl (by decide +kernel)
set_option maxRecDepth 65536 in
theorem w_c2 : (Jvm.Cond.code ({ cls := "java/lang/Object", name := "<init>", desc := "()V" } : Jvm.MethodName) object_method_1_code (1 : Nat) (Option.none : Option Jvm.ClassFile.FieldType)).before args0 about1 = true := code_word (m := ⟨0, 0⟩) (meth := k0m0) (c := k0c0) (by decide +kernel) rfl rfl rfl (by decide +kernel)
set_option maxRecDepth 65536 in
theorem w_c3 : (Jvm.Cond.code ({ cls := "FatPointerC", name := "clearResults", desc := "()V" } : Jvm.MethodName) prog_1_method_15_code (1 : Nat) (Option.none : Option Jvm.ClassFile.FieldType)).before args0 about1 = true := code_word (m := ⟨2, 10⟩) (meth := k2m10) (c := k2c10) (by decide +kernel) rfl rfl rfl (by decide +kernel)
set_option maxRecDepth 65536 in
theorem w_c4 : (Jvm.Cond.code ({ cls := "FatPointerC", name := "tok", desc := "(II)Z" } : Jvm.MethodName) prog_1_method_3_code (4 : Nat) (Option.some Jvm.ClassFile.FieldType.boolean)).before args0 about1 = true := code_word (m := ⟨2, 1⟩) (meth := k2m1) (c := k2c1) (by decide +kernel) rfl rfl rfl (by decide +kernel)
set_option maxRecDepth 65536 in
theorem w_c5 : (Jvm.Cond.code ({ cls := "FatPointerC", name := "compile", desc := "()Z" } : Jvm.MethodName) prog_1_method_5_code (1 : Nat) (Option.some Jvm.ClassFile.FieldType.boolean)).before args0 about1 = true := code_word (m := ⟨2, 2⟩) (meth := k2m2) (c := k2c2) (by decide +kernel) rfl rfl rfl (by decide +kernel)
set_option maxRecDepth 65536 in
theorem w_c6 : (Jvm.Cond.code ({ cls := "FatPointerC", name := "parseProgram", desc := "()Z" } : Jvm.MethodName) prog_1_method_18_code (2 : Nat) (Option.some Jvm.ClassFile.FieldType.boolean)).before args0 about1 = true := code_word (m := ⟨2, 13⟩) (meth := k2m13) (c := k2c13) (by decide +kernel) rfl rfl rfl (by decide +kernel)
set_option maxRecDepth 65536 in
theorem w_c7 : (Jvm.Cond.code ({ cls := "FatPointerC", name := "parseFunc", desc := "()V" } : Jvm.MethodName) prog_1_method_21_code (3 : Nat) (Option.none : Option Jvm.ClassFile.FieldType)).before args0 about1 = true := code_word (m := ⟨2, 16⟩) (meth := k2m16) (c := k2c16) (by decide +kernel) rfl rfl rfl (by decide +kernel)
set_option maxRecDepth 65536 in
theorem w_c8 : (Jvm.Cond.code ({ cls := "FatPointerC", name := "expect", desc := "(I)V" } : Jvm.MethodName) prog_1_method_20_code (2 : Nat) (Option.none : Option Jvm.ClassFile.FieldType)).before args0 about1 = true := code_word (m := ⟨2, 15⟩) (meth := k2m15) (c := k2c15) (by decide +kernel) rfl rfl rfl (by decide +kernel)
set_option maxRecDepth 65536 in
theorem w_c9 : (Jvm.Cond.code ({ cls := "FatPointerC", name := "kindAt", desc := "(I)I" } : Jvm.MethodName) prog_1_method_16_code (2 : Nat) (Option.some Jvm.ClassFile.FieldType.int)).before args0 about1 = true := code_word (m := ⟨2, 11⟩) (meth := k2m11) (c := k2c11) (by decide +kernel) rfl rfl rfl (by decide +kernel)
set_option maxRecDepth 65536 in
theorem w_c10 : (Jvm.Cond.code ({ cls := "FatPointerC", name := "valAt", desc := "(I)I" } : Jvm.MethodName) prog_1_method_17_code (2 : Nat) (Option.some Jvm.ClassFile.FieldType.int)).before args0 about1 = true := code_word (m := ⟨2, 12⟩) (meth := k2m12) (c := k2c12) (by decide +kernel) rfl rfl rfl (by decide +kernel)
set_option maxRecDepth 65536 in
theorem w_c11 : (Jvm.Cond.code ({ cls := "FatPointerC", name := "parseParams", desc := "()V" } : Jvm.MethodName) prog_1_method_22_code (2 : Nat) (Option.none : Option Jvm.ClassFile.FieldType)).before args0 about1 = true := code_word (m := ⟨2, 17⟩) (meth := k2m17) (c := k2c17) (by decide +kernel) rfl rfl rfl (by decide +kernel)
set_option maxRecDepth 65536 in
theorem w_c12 : (Jvm.Cond.code ({ cls := "FatPointerC", name := "parseDecls", desc := "()V" } : Jvm.MethodName) prog_1_method_23_code (5 : Nat) (Option.none : Option Jvm.ClassFile.FieldType)).before args0 about1 = true := code_word (m := ⟨2, 18⟩) (meth := k2m18) (c := k2c18) (by decide +kernel) rfl rfl rfl (by decide +kernel)
set_option maxRecDepth 65536 in
theorem w_c13 : (Jvm.Cond.code ({ cls := "FatPointerC", name := "declName", desc := "()I" } : Jvm.MethodName) prog_1_method_24_code (2 : Nat) (Option.some Jvm.ClassFile.FieldType.int)).before args0 about1 = true := code_word (m := ⟨2, 19⟩) (meth := k2m19) (c := k2c19) (by decide +kernel) rfl rfl rfl (by decide +kernel)
set_option maxRecDepth 65536 in
theorem w_c14 : (Jvm.Cond.code ({ cls := "FatPointerC", name := "arrSize", desc := "()I" } : Jvm.MethodName) prog_1_method_25_code (2 : Nat) (Option.some Jvm.ClassFile.FieldType.int)).before args0 about1 = true := code_word (m := ⟨2, 20⟩) (meth := k2m20) (c := k2c20) (by decide +kernel) rfl rfl rfl (by decide +kernel)
set_option maxRecDepth 65536 in
theorem w_c15 : (Jvm.Cond.code ({ cls := "FatPointerC", name := "addName", desc := "(IIZ)V" } : Jvm.MethodName) prog_1_method_26_code (6 : Nat) (Option.none : Option Jvm.ClassFile.FieldType)).before args0 about1 = true := code_word (m := ⟨2, 21⟩) (meth := k2m21) (c := k2c21) (by decide +kernel) rfl rfl rfl (by decide +kernel)
set_option maxRecDepth 65536 in
theorem w_c16 : (Jvm.Cond.code ({ cls := "FatPointerC", name := "parseBody", desc := "()V" } : Jvm.MethodName) prog_1_method_27_code (5 : Nat) (Option.none : Option Jvm.ClassFile.FieldType)).before args0 about1 = true := code_word (m := ⟨2, 22⟩) (meth := k2m22) (c := k2c22) (by decide +kernel) rfl rfl rfl (by decide +kernel)
set_option maxRecDepth 65536 in
theorem w_c17 : (Jvm.Cond.code ({ cls := "FatPointerC", name := "parseStmt", desc := "()V" } : Jvm.MethodName) prog_1_method_28_code (2 : Nat) (Option.none : Option Jvm.ClassFile.FieldType)).before args0 about1 = true := code_word (m := ⟨2, 23⟩) (meth := k2m23) (c := k2c23) (by decide +kernel) rfl rfl rfl (by decide +kernel)
set_option maxRecDepth 65536 in
theorem w_c18 : (Jvm.Cond.code ({ cls := "FatPointerC", name := "parseVarStmt", desc := "()V" } : Jvm.MethodName) prog_1_method_29_code (2 : Nat) (Option.none : Option Jvm.ClassFile.FieldType)).before args0 about1 = true := code_word (m := ⟨2, 24⟩) (meth := k2m24) (c := k2c24) (by decide +kernel) rfl rfl rfl (by decide +kernel)
set_option maxRecDepth 65536 in
theorem w_c19 : (Jvm.Cond.code ({ cls := "FatPointerC", name := "useVar", desc := "()I" } : Jvm.MethodName) prog_1_method_30_code (2 : Nat) (Option.some Jvm.ClassFile.FieldType.int)).before args0 about1 = true := code_word (m := ⟨2, 25⟩) (meth := k2m25) (c := k2c25) (by decide +kernel) rfl rfl rfl (by decide +kernel)
set_option maxRecDepth 65536 in
theorem w_c20 : (Jvm.Cond.code ({ cls := "FatPointerC", name := "parseAtom", desc := "()V" } : Jvm.MethodName) prog_1_method_36_code (1 : Nat) (Option.none : Option Jvm.ClassFile.FieldType)).before args0 about1 = true := code_word (m := ⟨2, 30⟩) (meth := k2m30) (c := k2c30) (by decide +kernel) rfl rfl rfl (by decide +kernel)
set_option maxRecDepth 65536 in
theorem w_c21 : (Jvm.Cond.code ({ cls := "FatPointerC", name := "parseExpr", desc := "()V" } : Jvm.MethodName) prog_1_method_32_code (2 : Nat) (Option.none : Option Jvm.ClassFile.FieldType)).before args0 about1 = true := code_word (m := ⟨2, 26⟩) (meth := k2m26) (c := k2c26) (by decide +kernel) rfl rfl rfl (by decide +kernel)
set_option maxRecDepth 65536 in
theorem w_c22 : (Jvm.Cond.code ({ cls := "FatPointerC", name := "parseSum", desc := "()V" } : Jvm.MethodName) prog_1_method_33_code (3 : Nat) (Option.none : Option Jvm.ClassFile.FieldType)).before args0 about1 = true := code_word (m := ⟨2, 27⟩) (meth := k2m27) (c := k2c27) (by decide +kernel) rfl rfl rfl (by decide +kernel)
set_option maxRecDepth 65536 in
theorem w_c23 : (Jvm.Cond.code ({ cls := "FatPointerC", name := "parseTerm", desc := "()V" } : Jvm.MethodName) prog_1_method_34_code (2 : Nat) (Option.none : Option Jvm.ClassFile.FieldType)).before args0 about1 = true := code_word (m := ⟨2, 28⟩) (meth := k2m28) (c := k2c28) (by decide +kernel) rfl rfl rfl (by decide +kernel)
set_option maxRecDepth 65536 in
theorem w_c24 : (Jvm.Cond.code ({ cls := "FatPointerC", name := "parseOperand", desc := "()V" } : Jvm.MethodName) prog_1_method_35_code (2 : Nat) (Option.none : Option Jvm.ClassFile.FieldType)).before args0 about1 = true := code_word (m := ⟨2, 29⟩) (meth := k2m29) (c := k2c29) (by decide +kernel) rfl rfl rfl (by decide +kernel)
set_option maxRecDepth 65536 in
theorem w_c25 : (Jvm.Cond.code ({ cls := "FatPointerC", name := "checkCalls", desc := "()Z" } : Jvm.MethodName) prog_1_method_19_code (4 : Nat) (Option.some Jvm.ClassFile.FieldType.boolean)).before args0 about1 = true := code_word (m := ⟨2, 14⟩) (meth := k2m14) (c := k2c14) (by decide +kernel) rfl rfl rfl (by decide +kernel)
set_option maxRecDepth 65536 in
theorem w_c26 : (Jvm.Cond.code ({ cls := "FatPointerC", name := "run", desc := "()I" } : Jvm.MethodName) prog_1_method_6_code (3 : Nat) (Option.some Jvm.ClassFile.FieldType.int)).before args0 about1 = true := code_word (m := ⟨2, 3⟩) (meth := k2m3) (c := k2c3) (by decide +kernel) rfl rfl rfl (by decide +kernel)
set_option maxRecDepth 65536 in
theorem w_c27 : (Jvm.Cond.code ({ cls := "FatPointerC", name := "pushFrame", desc := "(III)V" } : Jvm.MethodName) prog_1_method_65_code (12 : Nat) (Option.none : Option Jvm.ClassFile.FieldType)).before args0 about1 = true := code_word (m := ⟨2, 49⟩) (meth := k2m49) (c := k2c49) (by decide +kernel) rfl rfl rfl (by decide +kernel)
set_option maxRecDepth 65536 in
theorem w_c28 : (Jvm.Cond.code ({ cls := "FatPointerC", name := "step", desc := "(I)I" } : Jvm.MethodName) prog_1_method_56_code (3 : Nat) (Option.some Jvm.ClassFile.FieldType.int)).before args0 about1 = true := code_word (m := ⟨2, 45⟩) (meth := k2m45) (c := k2c45) (by decide +kernel) rfl rfl rfl (by decide +kernel)
set_option maxRecDepth 65536 in
theorem w_c29 : (Jvm.Cond.code ({ cls := "FatPointerC", name := "execVarStmt", desc := "(I)I" } : Jvm.MethodName) prog_1_method_57_code (4 : Nat) (Option.some Jvm.ClassFile.FieldType.int)).before args0 about1 = true := code_word (m := ⟨2, 46⟩) (meth := k2m46) (c := k2c46) (by decide +kernel) rfl rfl rfl (by decide +kernel)
set_option maxRecDepth 65536 in
theorem w_c30 : (Jvm.Cond.code ({ cls := "FatPointerC", name := "execIndexStore", desc := "(I)I" } : Jvm.MethodName) prog_1_method_58_code (9 : Nat) (Option.some Jvm.ClassFile.FieldType.int)).before args0 about1 = true := code_word (m := ⟨2, 47⟩) (meth := k2m47) (c := k2c47) (by decide +kernel) rfl rfl rfl (by decide +kernel)
set_option maxRecDepth 65536 in
theorem w_c31 : (Jvm.Cond.code ({ cls := "FatPointerC", name := "loadVar", desc := "(II)V" } : Jvm.MethodName) prog_1_method_43_code (4 : Nat) (Option.none : Option Jvm.ClassFile.FieldType)).before args0 about1 = true := code_word (m := ⟨2, 36⟩) (meth := k2m36) (c := k2c36) (by decide +kernel) rfl rfl rfl (by decide +kernel)
set_option maxRecDepth 65536 in
theorem w_c32 : (Jvm.Cond.code ({ cls := "FatPointerC", name := "objOf", desc := "(I)I" } : Jvm.MethodName) prog_1_method_41_code (4 : Nat) (Option.some Jvm.ClassFile.FieldType.int)).before args0 about1 = true := code_word (m := ⟨2, 34⟩) (meth := k2m34) (c := k2c34) (by decide +kernel) rfl rfl rfl (by decide +kernel)
set_option maxRecDepth 65536 in
theorem w_c33 : (Jvm.Cond.code ({ cls := "FatPointerC", name := "isArr", desc := "(I)Z" } : Jvm.MethodName) prog_1_method_42_code (3 : Nat) (Option.some Jvm.ClassFile.FieldType.boolean)).before args0 about1 = true := code_word (m := ⟨2, 35⟩) (meth := k2m35) (c := k2c35) (by decide +kernel) rfl rfl rfl (by decide +kernel)
set_option maxRecDepth 65536 in
theorem w_c34 : (Jvm.Cond.code ({ cls := "FatPointerC", name := "setReg", desc := "(IIII)V" } : Jvm.MethodName) prog_1_method_39_code (5 : Nat) (Option.none : Option Jvm.ClassFile.FieldType)).before args0 about1 = true := code_word (m := ⟨2, 32⟩) (meth := k2m32) (c := k2c32) (by decide +kernel) rfl rfl rfl (by decide +kernel)
set_option maxRecDepth 65536 in
theorem w_c35 : (Jvm.Cond.code ({ cls := "FatPointerC", name := "loadAtom", desc := "(II)V" } : Jvm.MethodName) prog_1_method_44_code (3 : Nat) (Option.none : Option Jvm.ClassFile.FieldType)).before args0 about1 = true := code_word (m := ⟨2, 37⟩) (meth := k2m37) (c := k2c37) (by decide +kernel) rfl rfl rfl (by decide +kernel)
set_option maxRecDepth 65536 in
theorem w_c36 : (Jvm.Cond.code ({ cls := "FatPointerC", name := "evalExpr", desc := "(I)I" } : Jvm.MethodName) prog_1_method_49_code (5 : Nat) (Option.some Jvm.ClassFile.FieldType.int)).before args0 about1 = true := code_word (m := ⟨2, 41⟩) (meth := k2m41) (c := k2c41) (by decide +kernel) rfl rfl rfl (by decide +kernel)
set_option maxRecDepth 65536 in
theorem w_c37 : (Jvm.Cond.code ({ cls := "FatPointerC", name := "evalSum", desc := "(I)I" } : Jvm.MethodName) prog_1_method_50_code (6 : Nat) (Option.some Jvm.ClassFile.FieldType.int)).before args0 about1 = true := code_word (m := ⟨2, 42⟩) (meth := k2m42) (c := k2c42) (by decide +kernel) rfl rfl rfl (by decide +kernel)
set_option maxRecDepth 65536 in
theorem w_c38 : (Jvm.Cond.code ({ cls := "FatPointerC", name := "evalTerm", desc := "(I)I" } : Jvm.MethodName) prog_1_method_51_code (5 : Nat) (Option.some Jvm.ClassFile.FieldType.int)).before args0 about1 = true := code_word (m := ⟨2, 43⟩) (meth := k2m43) (c := k2c43) (by decide +kernel) rfl rfl rfl (by decide +kernel)
set_option maxRecDepth 65536 in
theorem w_c39 : (Jvm.Cond.code ({ cls := "FatPointerC", name := "evalOperand", desc := "(I)I" } : Jvm.MethodName) prog_1_method_52_code (7 : Nat) (Option.some Jvm.ClassFile.FieldType.int)).before args0 about1 = true := code_word (m := ⟨2, 44⟩) (meth := k2m44) (c := k2c44) (by decide +kernel) rfl rfl rfl (by decide +kernel)
set_option maxRecDepth 65536 in
theorem w_c40 : (Jvm.Cond.code ({ cls := "FatPointerC", name := "copyReg", desc := "(II)V" } : Jvm.MethodName) prog_1_method_40_code (3 : Nat) (Option.none : Option Jvm.ClassFile.FieldType)).before args0 about1 = true := code_word (m := ⟨2, 33⟩) (meth := k2m33) (c := k2c33) (by decide +kernel) rfl rfl rfl (by decide +kernel)
set_option maxRecDepth 65536 in
theorem w_c41 : (Jvm.Cond.code ({ cls := "FatPointerC", name := "check", desc := "(IIIIII)I" } : Jvm.MethodName) prog_1_method_48_code (10 : Nat) (Option.some Jvm.ClassFile.FieldType.int)).before args0 about1 = true := code_word (m := ⟨2, 40⟩) (meth := k2m40) (c := k2c40) (by decide +kernel) rfl rfl rfl (by decide +kernel)
set_option maxRecDepth 65536 in
theorem w_c42 : (Jvm.Cond.code ({ cls := "FatPointerC", name := "writeCell", desc := "(II)V" } : Jvm.MethodName) prog_1_method_47_code (3 : Nat) (Option.none : Option Jvm.ClassFile.FieldType)).before args0 about1 = true := code_word (m := ⟨2, 39⟩) (meth := k2m39) (c := k2c39) (by decide +kernel) rfl rfl rfl (by decide +kernel)
set_option maxRecDepth 65536 in
theorem w_c43 : (Jvm.Cond.code ({ cls := "FatPointerC", name := "execReturn", desc := "(I)I" } : Jvm.MethodName) prog_1_method_61_code (3 : Nat) (Option.some Jvm.ClassFile.FieldType.int)).before args0 about1 = true := code_word (m := ⟨2, 48⟩) (meth := k2m48) (c := k2c48) (by decide +kernel) rfl rfl rfl (by decide +kernel)
set_option maxRecDepth 65536 in
theorem w_c44 : (Jvm.Cond.code ({ cls := "FatPointerC", name := "readCell", desc := "(II)V" } : Jvm.MethodName) prog_1_method_46_code (3 : Nat) (Option.none : Option Jvm.ClassFile.FieldType)).before args0 about1 = true := code_word (m := ⟨2, 38⟩) (meth := k2m38) (c := k2c38) (by decide +kernel) rfl rfl rfl (by decide +kernel)
set_option maxRecDepth 65536 in
theorem w_c45 : (Jvm.Cond.code ({ cls := "FatPointerC", name := "doReturn", desc := "(III)I" } : Jvm.MethodName) prog_1_method_66_code (7 : Nat) (Option.some Jvm.ClassFile.FieldType.int)).before args0 about1 = true := code_word (m := ⟨2, 50⟩) (meth := k2m50) (c := k2c50) (by decide +kernel) rfl rfl rfl (by decide +kernel)
set_option maxRecDepth 65536 in
theorem w_c46 : (Jvm.Cond.code ({ cls := "FatPointerC", name := "status", desc := "()I" } : Jvm.MethodName) prog_1_method_7_code (1 : Nat) (Option.some Jvm.ClassFile.FieldType.int)).before args0 about1 = true := code_word (m := ⟨2, 4⟩) (meth := k2m4) (c := k2c4) (by decide +kernel) rfl rfl rfl (by decide +kernel)
set_option maxRecDepth 65536 in
theorem w_c47 : (Jvm.Cond.code ({ cls := "FatPointerC", name := "trapSite", desc := "()I" } : Jvm.MethodName) prog_1_method_8_code (1 : Nat) (Option.some Jvm.ClassFile.FieldType.int)).before args0 about1 = true := code_word (m := ⟨2, 5⟩) (meth := k2m5) (c := k2c5) (by decide +kernel) rfl rfl rfl (by decide +kernel)
set_option maxRecDepth 65536 in
theorem w_c48 : (Jvm.Cond.code ({ cls := "FatPointerC", name := "frames", desc := "()I" } : Jvm.MethodName) prog_1_method_9_code (1 : Nat) (Option.some Jvm.ClassFile.FieldType.int)).before args0 about1 = true := code_word (m := ⟨2, 6⟩) (meth := k2m6) (c := k2c6) (by decide +kernel) rfl rfl rfl (by decide +kernel)
set_option maxRecDepth 65536 in
theorem w_c49 : (Jvm.Cond.code ({ cls := "FatPointerC", name := "resultKind", desc := "()I" } : Jvm.MethodName) prog_1_method_10_code (1 : Nat) (Option.some Jvm.ClassFile.FieldType.int)).before args0 about1 = true := code_word (m := ⟨2, 7⟩) (meth := k2m7) (c := k2c7) (by decide +kernel) rfl rfl rfl (by decide +kernel)
set_option maxRecDepth 65536 in
theorem w_c50 : (Jvm.Cond.code ({ cls := "FatPointerC", name := "resultValue", desc := "()I" } : Jvm.MethodName) prog_1_method_11_code (1 : Nat) (Option.some Jvm.ClassFile.FieldType.int)).before args0 about1 = true := code_word (m := ⟨2, 8⟩) (meth := k2m8) (c := k2c8) (by decide +kernel) rfl rfl rfl (by decide +kernel)
set_option maxRecDepth 65536 in
theorem w_c51 : (Jvm.Cond.code ({ cls := "FatPointerC", name := "outCount", desc := "()I" } : Jvm.MethodName) prog_1_method_13_code (1 : Nat) (Option.some Jvm.ClassFile.FieldType.int)).before args0 about1 = true := code_word (m := ⟨2, 9⟩) (meth := k2m9) (c := k2c9) (by decide +kernel) rfl rfl rfl (by decide +kernel)
set_option maxRecDepth 65536 in
theorem w_c52 : (Jvm.Cond.code ({ cls := "FatPointerC", name := "trap", desc := "(II)V" } : Jvm.MethodName) prog_1_method_37_code (3 : Nat) (Option.none : Option Jvm.ClassFile.FieldType)).before args0 about1 = true := code_word (m := ⟨2, 31⟩) (meth := k2m31) (c := k2c31) (by decide +kernel) rfl rfl rfl (by decide +kernel)
def codes1 : List Jvm.Cond := [Jvm.Cond.code x code maxLocals ret, Jvm.Cond.code ({ cls := "FatPointerC", name := "<init>", desc := "(II)V" } : Jvm.MethodName) prog_1_method_1_code (5 : Nat) (Option.none : Option Jvm.ClassFile.FieldType), Jvm.Cond.code ({ cls := "java/lang/Object", name := "<init>", desc := "()V" } : Jvm.MethodName) object_method_1_code (1 : Nat) (Option.none : Option Jvm.ClassFile.FieldType), Jvm.Cond.code ({ cls := "FatPointerC", name := "clearResults", desc := "()V" } : Jvm.MethodName) prog_1_method_15_code (1 : Nat) (Option.none : Option Jvm.ClassFile.FieldType), Jvm.Cond.code ({ cls := "FatPointerC", name := "tok", desc := "(II)Z" } : Jvm.MethodName) prog_1_method_3_code (4 : Nat) (Option.some Jvm.ClassFile.FieldType.boolean), Jvm.Cond.code ({ cls := "FatPointerC", name := "compile", desc := "()Z" } : Jvm.MethodName) prog_1_method_5_code (1 : Nat) (Option.some Jvm.ClassFile.FieldType.boolean), Jvm.Cond.code ({ cls := "FatPointerC", name := "parseProgram", desc := "()Z" } : Jvm.MethodName) prog_1_method_18_code (2 : Nat) (Option.some Jvm.ClassFile.FieldType.boolean), Jvm.Cond.code ({ cls := "FatPointerC", name := "parseFunc", desc := "()V" } : Jvm.MethodName) prog_1_method_21_code (3 : Nat) (Option.none : Option Jvm.ClassFile.FieldType), Jvm.Cond.code ({ cls := "FatPointerC", name := "expect", desc := "(I)V" } : Jvm.MethodName) prog_1_method_20_code (2 : Nat) (Option.none : Option Jvm.ClassFile.FieldType), Jvm.Cond.code ({ cls := "FatPointerC", name := "kindAt", desc := "(I)I" } : Jvm.MethodName) prog_1_method_16_code (2 : Nat) (Option.some Jvm.ClassFile.FieldType.int), Jvm.Cond.code ({ cls := "FatPointerC", name := "valAt", desc := "(I)I" } : Jvm.MethodName) prog_1_method_17_code (2 : Nat) (Option.some Jvm.ClassFile.FieldType.int), Jvm.Cond.code ({ cls := "FatPointerC", name := "parseParams", desc := "()V" } : Jvm.MethodName) prog_1_method_22_code (2 : Nat) (Option.none : Option Jvm.ClassFile.FieldType), Jvm.Cond.code ({ cls := "FatPointerC", name := "parseDecls", desc := "()V" } : Jvm.MethodName) prog_1_method_23_code (5 : Nat) (Option.none : Option Jvm.ClassFile.FieldType), Jvm.Cond.code ({ cls := "FatPointerC", name := "declName", desc := "()I" } : Jvm.MethodName) prog_1_method_24_code (2 : Nat) (Option.some Jvm.ClassFile.FieldType.int), Jvm.Cond.code ({ cls := "FatPointerC", name := "arrSize", desc := "()I" } : Jvm.MethodName) prog_1_method_25_code (2 : Nat) (Option.some Jvm.ClassFile.FieldType.int), Jvm.Cond.code ({ cls := "FatPointerC", name := "addName", desc := "(IIZ)V" } : Jvm.MethodName) prog_1_method_26_code (6 : Nat) (Option.none : Option Jvm.ClassFile.FieldType), Jvm.Cond.code ({ cls := "FatPointerC", name := "parseBody", desc := "()V" } : Jvm.MethodName) prog_1_method_27_code (5 : Nat) (Option.none : Option Jvm.ClassFile.FieldType), Jvm.Cond.code ({ cls := "FatPointerC", name := "parseStmt", desc := "()V" } : Jvm.MethodName) prog_1_method_28_code (2 : Nat) (Option.none : Option Jvm.ClassFile.FieldType), Jvm.Cond.code ({ cls := "FatPointerC", name := "parseVarStmt", desc := "()V" } : Jvm.MethodName) prog_1_method_29_code (2 : Nat) (Option.none : Option Jvm.ClassFile.FieldType), Jvm.Cond.code ({ cls := "FatPointerC", name := "useVar", desc := "()I" } : Jvm.MethodName) prog_1_method_30_code (2 : Nat) (Option.some Jvm.ClassFile.FieldType.int), Jvm.Cond.code ({ cls := "FatPointerC", name := "parseAtom", desc := "()V" } : Jvm.MethodName) prog_1_method_36_code (1 : Nat) (Option.none : Option Jvm.ClassFile.FieldType), Jvm.Cond.code ({ cls := "FatPointerC", name := "parseExpr", desc := "()V" } : Jvm.MethodName) prog_1_method_32_code (2 : Nat) (Option.none : Option Jvm.ClassFile.FieldType), Jvm.Cond.code ({ cls := "FatPointerC", name := "parseSum", desc := "()V" } : Jvm.MethodName) prog_1_method_33_code (3 : Nat) (Option.none : Option Jvm.ClassFile.FieldType), Jvm.Cond.code ({ cls := "FatPointerC", name := "parseTerm", desc := "()V" } : Jvm.MethodName) prog_1_method_34_code (2 : Nat) (Option.none : Option Jvm.ClassFile.FieldType), Jvm.Cond.code ({ cls := "FatPointerC", name := "parseOperand", desc := "()V" } : Jvm.MethodName) prog_1_method_35_code (2 : Nat) (Option.none : Option Jvm.ClassFile.FieldType), Jvm.Cond.code ({ cls := "FatPointerC", name := "checkCalls", desc := "()Z" } : Jvm.MethodName) prog_1_method_19_code (4 : Nat) (Option.some Jvm.ClassFile.FieldType.boolean), Jvm.Cond.code ({ cls := "FatPointerC", name := "run", desc := "()I" } : Jvm.MethodName) prog_1_method_6_code (3 : Nat) (Option.some Jvm.ClassFile.FieldType.int), Jvm.Cond.code ({ cls := "FatPointerC", name := "pushFrame", desc := "(III)V" } : Jvm.MethodName) prog_1_method_65_code (12 : Nat) (Option.none : Option Jvm.ClassFile.FieldType), Jvm.Cond.code ({ cls := "FatPointerC", name := "step", desc := "(I)I" } : Jvm.MethodName) prog_1_method_56_code (3 : Nat) (Option.some Jvm.ClassFile.FieldType.int), Jvm.Cond.code ({ cls := "FatPointerC", name := "execVarStmt", desc := "(I)I" } : Jvm.MethodName) prog_1_method_57_code (4 : Nat) (Option.some Jvm.ClassFile.FieldType.int), Jvm.Cond.code ({ cls := "FatPointerC", name := "execIndexStore", desc := "(I)I" } : Jvm.MethodName) prog_1_method_58_code (9 : Nat) (Option.some Jvm.ClassFile.FieldType.int), Jvm.Cond.code ({ cls := "FatPointerC", name := "loadVar", desc := "(II)V" } : Jvm.MethodName) prog_1_method_43_code (4 : Nat) (Option.none : Option Jvm.ClassFile.FieldType), Jvm.Cond.code ({ cls := "FatPointerC", name := "objOf", desc := "(I)I" } : Jvm.MethodName) prog_1_method_41_code (4 : Nat) (Option.some Jvm.ClassFile.FieldType.int), Jvm.Cond.code ({ cls := "FatPointerC", name := "isArr", desc := "(I)Z" } : Jvm.MethodName) prog_1_method_42_code (3 : Nat) (Option.some Jvm.ClassFile.FieldType.boolean), Jvm.Cond.code ({ cls := "FatPointerC", name := "setReg", desc := "(IIII)V" } : Jvm.MethodName) prog_1_method_39_code (5 : Nat) (Option.none : Option Jvm.ClassFile.FieldType), Jvm.Cond.code ({ cls := "FatPointerC", name := "loadAtom", desc := "(II)V" } : Jvm.MethodName) prog_1_method_44_code (3 : Nat) (Option.none : Option Jvm.ClassFile.FieldType), Jvm.Cond.code ({ cls := "FatPointerC", name := "evalExpr", desc := "(I)I" } : Jvm.MethodName) prog_1_method_49_code (5 : Nat) (Option.some Jvm.ClassFile.FieldType.int), Jvm.Cond.code ({ cls := "FatPointerC", name := "evalSum", desc := "(I)I" } : Jvm.MethodName) prog_1_method_50_code (6 : Nat) (Option.some Jvm.ClassFile.FieldType.int), Jvm.Cond.code ({ cls := "FatPointerC", name := "evalTerm", desc := "(I)I" } : Jvm.MethodName) prog_1_method_51_code (5 : Nat) (Option.some Jvm.ClassFile.FieldType.int), Jvm.Cond.code ({ cls := "FatPointerC", name := "evalOperand", desc := "(I)I" } : Jvm.MethodName) prog_1_method_52_code (7 : Nat) (Option.some Jvm.ClassFile.FieldType.int), Jvm.Cond.code ({ cls := "FatPointerC", name := "copyReg", desc := "(II)V" } : Jvm.MethodName) prog_1_method_40_code (3 : Nat) (Option.none : Option Jvm.ClassFile.FieldType), Jvm.Cond.code ({ cls := "FatPointerC", name := "check", desc := "(IIIIII)I" } : Jvm.MethodName) prog_1_method_48_code (10 : Nat) (Option.some Jvm.ClassFile.FieldType.int), Jvm.Cond.code ({ cls := "FatPointerC", name := "writeCell", desc := "(II)V" } : Jvm.MethodName) prog_1_method_47_code (3 : Nat) (Option.none : Option Jvm.ClassFile.FieldType), Jvm.Cond.code ({ cls := "FatPointerC", name := "execReturn", desc := "(I)I" } : Jvm.MethodName) prog_1_method_61_code (3 : Nat) (Option.some Jvm.ClassFile.FieldType.int), Jvm.Cond.code ({ cls := "FatPointerC", name := "readCell", desc := "(II)V" } : Jvm.MethodName) prog_1_method_46_code (3 : Nat) (Option.none : Option Jvm.ClassFile.FieldType), Jvm.Cond.code ({ cls := "FatPointerC", name := "doReturn", desc := "(III)I" } : Jvm.MethodName) prog_1_method_66_code (7 : Nat) (Option.some Jvm.ClassFile.FieldType.int), Jvm.Cond.code ({ cls := "FatPointerC", name := "status", desc := "()I" } : Jvm.MethodName) prog_1_method_7_code (1 : Nat) (Option.some Jvm.ClassFile.FieldType.int), Jvm.Cond.code ({ cls := "FatPointerC", name := "trapSite", desc := "()I" } : Jvm.MethodName) prog_1_method_8_code (1 : Nat) (Option.some Jvm.ClassFile.FieldType.int), Jvm.Cond.code ({ cls := "FatPointerC", name := "frames", desc := "()I" } : Jvm.MethodName) prog_1_method_9_code (1 : Nat) (Option.some Jvm.ClassFile.FieldType.int), Jvm.Cond.code ({ cls := "FatPointerC", name := "resultKind", desc := "()I" } : Jvm.MethodName) prog_1_method_10_code (1 : Nat) (Option.some Jvm.ClassFile.FieldType.int), Jvm.Cond.code ({ cls := "FatPointerC", name := "resultValue", desc := "()I" } : Jvm.MethodName) prog_1_method_11_code (1 : Nat) (Option.some Jvm.ClassFile.FieldType.int), Jvm.Cond.code ({ cls := "FatPointerC", name := "outCount", desc := "()I" } : Jvm.MethodName) prog_1_method_13_code (1 : Nat) (Option.some Jvm.ClassFile.FieldType.int), Jvm.Cond.code ({ cls := "FatPointerC", name := "trap", desc := "(II)V" } : Jvm.MethodName) prog_1_method_37_code (3 : Nat) (Option.none : Option Jvm.ClassFile.FieldType)]
set_option maxRecDepth 65536 in
theorem codes_eq : words1.filter isCode = codes1 := rfl
theorem w_codes : ∀ c ∈ words1.filter isCode, c.before args0 about1 = true := by
  rw [codes_eq]
  intro c hc
  simp only [codes1, List.mem_cons, List.not_mem_nil, or_false] at hc
  rcases hc with rfl | rfl | rfl | rfl | rfl | rfl | rfl | rfl | rfl | rfl | rfl | rfl | rfl | rfl | rfl | rfl | rfl | rfl | rfl | rfl | rfl | rfl | rfl | rfl | rfl | rfl | rfl | rfl | rfl | rfl | rfl | rfl | rfl | rfl | rfl | rfl | rfl | rfl | rfl | rfl | rfl | rfl | rfl | rfl | rfl | rfl | rfl | rfl | rfl | rfl | rfl | rfl | rfl
  · exact w_c0
  · exact w_c1
  · exact w_c2
  · exact w_c3
  · exact w_c4
  · exact w_c5
  · exact w_c6
  · exact w_c7
  · exact w_c8
  · exact w_c9
  · exact w_c10
  · exact w_c11
  · exact w_c12
  · exact w_c13
  · exact w_c14
  · exact w_c15
  · exact w_c16
  · exact w_c17
  · exact w_c18
  · exact w_c19
  · exact w_c20
  · exact w_c21
  · exact w_c22
  · exact w_c23
  · exact w_c24
  · exact w_c25
  · exact w_c26
  · exact w_c27
  · exact w_c28
  · exact w_c29
  · exact w_c30
  · exact w_c31
  · exact w_c32
  · exact w_c33
  · exact w_c34
  · exact w_c35
  · exact w_c36
  · exact w_c37
  · exact w_c38
  · exact w_c39
  · exact w_c40
  · exact w_c41
  · exact w_c42
  · exact w_c43
  · exact w_c44
  · exact w_c45
  · exact w_c46
  · exact w_c47
  · exact w_c48
  · exact w_c49
  · exact w_c50
  · exact w_c51
  · exact w_c52
set_option maxRecDepth 65536 in
theorem w_t1 : (words1.take 24).all (fun c => isCode c || c.before args0 about1) = true := by decide +kernel
set_option maxRecDepth 65536 in
theorem w_t2 : ((words1.drop 24).take 24).all (fun c => isCode c || c.before args0 about1) = true := by decide +kernel
set_option maxRecDepth 65536 in
theorem w_t3 : (((words1.drop 24).drop 24).take 24).all (fun c => isCode c || c.before args0 about1) = true := by decide +kernel
set_option maxRecDepth 65536 in
theorem w_t4 : ((((words1.drop 24).drop 24).drop 24).take 24).all (fun c => isCode c || c.before args0 about1) = true := by decide +kernel
set_option maxRecDepth 65536 in
theorem w_t5 : (((((words1.drop 24).drop 24).drop 24).drop 24).take 24).all (fun c => isCode c || c.before args0 about1) = true := by decide +kernel
set_option maxRecDepth 65536 in
theorem w_t6 : ((((((words1.drop 24).drop 24).drop 24).drop 24).drop 24).take 24).all (fun c => isCode c || c.before args0 about1) = true := by decide +kernel
set_option maxRecDepth 65536 in
theorem w_t7 : (((((((words1.drop 24).drop 24).drop 24).drop 24).drop 24).drop 24).take 24).all (fun c => isCode c || c.before args0 about1) = true := by decide +kernel
set_option maxRecDepth 65536 in
theorem w_t8 : ((((((((words1.drop 24).drop 24).drop 24).drop 24).drop 24).drop 24).drop 24).take 24).all (fun c => isCode c || c.before args0 about1) = true := by decide +kernel
set_option maxRecDepth 65536 in
theorem w_t9 : (((((((((words1.drop 24).drop 24).drop 24).drop 24).drop 24).drop 24).drop 24).drop 24).take 24).all (fun c => isCode c || c.before args0 about1) = true := by decide +kernel
set_option maxRecDepth 65536 in
theorem w_t10 : ((((((((((words1.drop 24).drop 24).drop 24).drop 24).drop 24).drop 24).drop 24).drop 24).drop 24).take 24).all (fun c => isCode c || c.before args0 about1) = true := by decide +kernel
set_option maxRecDepth 65536 in
theorem w_t11 : (((((((((((words1.drop 24).drop 24).drop 24).drop 24).drop 24).drop 24).drop 24).drop 24).drop 24).drop 24).take 24).all (fun c => isCode c || c.before args0 about1) = true := by decide +kernel
set_option maxRecDepth 65536 in
theorem w_t12 : ((((((((((((words1.drop 24).drop 24).drop 24).drop 24).drop 24).drop 24).drop 24).drop 24).drop 24).drop 24).drop 24).take 24).all (fun c => isCode c || c.before args0 about1) = true := by decide +kernel
set_option maxRecDepth 65536 in
theorem w_t13 : (((((((((((((words1.drop 24).drop 24).drop 24).drop 24).drop 24).drop 24).drop 24).drop 24).drop 24).drop 24).drop 24).drop 24).take 24).all (fun c => isCode c || c.before args0 about1) = true := by decide +kernel
set_option maxRecDepth 65536 in
theorem w_t14 : (((((((((((((words1.drop 24).drop 24).drop 24).drop 24).drop 24).drop 24).drop 24).drop 24).drop 24).drop 24).drop 24).drop 24).drop 24).all (fun c => isCode c || c.before args0 about1) = true := by decide +kernel
theorem w_tables : (allAtoms (Jvm.Cond.code x code maxLocals ret :: tables_1)).before args0 about1 = true := by
  rw [allAtoms_all]
  show words1.all (fun c => c.before args0 about1) = true
  refine all_split ?_ w_codes
  rw [← List.take_append_drop 24 words1, List.all_append, w_t1, ← List.take_append_drop 24 (words1.drop 24), List.all_append, w_t2, ← List.take_append_drop 24 ((words1.drop 24).drop 24), List.all_append, w_t3, ← List.take_append_drop 24 (((words1.drop 24).drop 24).drop 24), List.all_append, w_t4, ← List.take_append_drop 24 ((((words1.drop 24).drop 24).drop 24).drop 24), List.all_append, w_t5, ← List.take_append_drop 24 (((((words1.drop 24).drop 24).drop 24).drop 24).drop 24), List.all_append, w_t6, ← List.take_append_drop 24 ((((((words1.drop 24).drop 24).drop 24).drop 24).drop 24).drop 24), List.all_append, w_t7, ← List.take_append_drop 24 (((((((words1.drop 24).drop 24).drop 24).drop 24).drop 24).drop 24).drop 24), List.all_append, w_t8, ← List.take_append_drop 24 ((((((((words1.drop 24).drop 24).drop 24).drop 24).drop 24).drop 24).drop 24).drop 24), List.all_append, w_t9, ← List.take_append_drop 24 (((((((((words1.drop 24).drop 24).drop 24).drop 24).drop 24).drop 24).drop 24).drop 24).drop 24), List.all_append, w_t10, ← List.take_append_drop 24 ((((((((((words1.drop 24).drop 24).drop 24).drop 24).drop 24).drop 24).drop 24).drop 24).drop 24).drop 24), List.all_append, w_t11, ← List.take_append_drop 24 (((((((((((words1.drop 24).drop 24).drop 24).drop 24).drop 24).drop 24).drop 24).drop 24).drop 24).drop 24).drop 24), List.all_append, w_t12, ← List.take_append_drop 24 ((((((((((((words1.drop 24).drop 24).drop 24).drop 24).drop 24).drop 24).drop 24).drop 24).drop 24).drop 24).drop 24).drop 24), List.all_append, w_t13, w_t14]
  rfl
set_option maxRecDepth 65536 in
theorem w_case : (Jvm.Cond.and given_1 narrow_1).before args0 about1 = true := by decide +kernel
theorem w_applies : (headSpec (Jvm.Cond.code x code maxLocals ret :: tables_1) room_1).applies x e0.platform about1 = true :=
  (Spec.applies_iff w_frames).mpr ⟨w_running, w_runnable, w_alone, w_named, w_hears, w_ripe, w_room, w_tables⟩
theorem atStart : AtStart classFile x code maxLocals ret World_1 tables_1 room_1 Calls_1 rest_1 Pre_1 launch0 p0 e0 about1 theMethod args0 below0 :=
  ⟨lists_1, trivial, launch0.admits_env _ _ _, launch0.least_env, fairChoices_fair.cas, fairChoices_fair.clock, w_frames, w_args, w_heap, w_applies, trivial, trivial, w_case⟩
end start1
theorem witness_1 : WitnessClaimed_1 := ⟨start1.p0, start1.e0, start1.about1, start1.theMethod, start1.args0, start1.below0, start1.atStart⟩
end Jvm.Pilot.@@N@@
