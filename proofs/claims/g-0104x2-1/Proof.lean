import JvmDerived
import JvmDerived.Pilot.@@N@@Statement
import JvmDerived.Pilot.@@N@@Code
set_option linter.unusedVariables false
set_option linter.unusedSimpArgs false
namespace Jvm.Own
open Jvm Jvm.ClassFile Sem Op Lib Jvm.Free Jvm.Stand Jvm.LawKit Jvm.RoadKit Bundle
/-! ## values, cells, heaps of the small view -/
theorem leb {a b : Nat} (h : Nat.ble a b = true) : a ≤ b := Nat.le_of_ble_eq_true h
abbrev dc (b : ByteArray) (pc : Nat) (i : Instr) (n : Nat) : Prop := decode b pc = .ok (i, n)
abbrev OwnC : Type := Sum (List Value) (Sum (List Int32) (Sum (List Int64) (List Int32)))
abbrev cO (vs : List Value) : OwnC := .inl vs
abbrev cI (xs : List Int32) : OwnC := .inr (.inl xs)
abbrev cJ (xs : List Int64) : OwnC := .inr (.inr (.inl xs))
abbrev cZ (xs : List Int32) : OwnC := .inr (.inr (.inr xs))
def rf (ad : Nat → Addr) : Value → Value
  | .ref i => .ref (ad i)
  | .int x => .int x
  | .long x => .long x
  | .float x => .float x
  | .double x => .double x
  | .null => .null
  | .retAddr x => .retAddr x
theorem rf_cat (ad : Nat → Addr) (v : Value) : (rf ad v).category = v.category := by cases v <;> rfl
theorem rf_isRef (ad : Nat → Addr) (v : Value) : (rf ad v).isRef = v.isRef := by cases v <;> rfl
theorem rf_cats (ad : Nat → Addr) (S : List Value) : ((S.map (rf ad)).map fun v => v.category) = S.map fun v => v.category := by
  simp [List.map_map, Function.comp_def, rf_cat]
def CelOk (Z : State) (C : String) (lay : List (String × String)) (ad : Nat → Addr) (h : Heap) (a : Addr) : OwnC → Prop
  | .inl vs => Exa Z h a C ∧ ∀ (i : Nat) (f : String × String) (v : Value), lay[i]? = some f → vs[i]? = some v → Fld Z h a C f.1 f.2 (rf ad v)
  | .inr (.inl xs) => ∃ cl : Cell, Arr Z h a cl .int ∧ cl.slots.toList = xs.map Value.int
  | .inr (.inr (.inl xs)) => ∃ cl : Cell, Arr Z h a cl .long ∧ cl.slots.toList = xs.map Value.long
  | .inr (.inr (.inr xs)) => ∃ cl : Cell, Arr Z h a cl .boolean ∧ cl.slots.toList = xs.map Value.int
def HR (Z : State) (C : String) (lay : List (String × String)) (n0 ro : Nat) (ad : Nat → Addr) (H : List OwnC) (h : Heap) : Prop :=
  (∀ i c, H[i]? = some c → CelOk Z C lay ad h (ad i) c) ∧ (∀ i j, i < H.length → j < H.length → ad i = ad j → i = j) ∧ (∀ t, ad (H.length + t) = h.size + t) ∧ (∀ i, i < H.length → ro ≤ i → n0 ≤ ad i) ∧ n0 ≤ h.size
def Kp (ad : Nat → Addr) (N : Nat) (h h' : Heap) : Prop := h.size ≤ h'.size ∧ ∀ (a : Addr) (c : Cell), h[a]? = some c → (∀ i, i < N → ad i ≠ a) → h'[a]? = some c
theorem CelOk.keep {Z : State} {C : String} {lay : List (String × String)} {ad : Nat → Addr} {h h' : Heap} {a : Addr} {c : OwnC} (q : ∀ cz : Cell, h[a]? = some cz → h'[a]? = some cz) (F : CelOk Z C lay ad h a c) : CelOk Z C lay ad h' a c := by
  rcases c with vs | xs | xs | xs
  · obtain ⟨⟨cell, k, h1, r⟩, F2⟩ := F
    refine ⟨⟨cell, k, q _ h1, r⟩, fun i f v hf hv => ?_⟩
    obtain ⟨cell, cf, k, i, f, h1, r⟩ := F2 i f v hf hv
    exact ⟨cell, cf, k, i, f, q _ h1, r⟩
  all_goals
    obtain ⟨cl, ⟨h1, r⟩, h2⟩ := F
    exact ⟨cl, ⟨q _ h1, r⟩, h2⟩
theorem CelOk.lt {Z : State} {C : String} {lay : List (String × String)} {ad : Nat → Addr} {h : Heap} {a : Addr} {c : OwnC} (F : CelOk Z C lay ad h a c) : a < h.size := by
  rcases c with vs | xs | xs | xs
  · exact F.1.lt
  all_goals
    obtain ⟨cl, A, h2⟩ := F
    exact A.lt
theorem Kp.refl (ad : Nat → Addr) (N : Nat) (h : Heap) : Kp ad N h h := ⟨Nat.le_refl _, fun _ _ q _ => q⟩
theorem get_lt {α : Type} {L : List α} {i : Nat} {c : α} (h : L[i]? = some c) : i < L.length := (List.getElem?_eq_some_iff.mp h).1
section HRs
variable {Z : State} {C : String} {lay : List (String × String)} {n0 ro : Nat} {ad : Nat → Addr} {H H' : List OwnC} {h h' h'' : Heap}
/-- the addresses at or above H.length lie at or above the heap's size -/
theorem HR.new (R : HR Z C lay n0 ro ad H h) {i : Nat} (hi : H.length ≤ i) : h.size ≤ ad i := by
  obtain ⟨t, rfl⟩ := Nat.exists_eq_add_of_le hi
  rw [R.2.2.1 t]; exact Nat.le_add_right _ _
theorem Kp.trans (R : HR Z C lay n0 ro ad H h) (K : Kp ad H.length h h') {N : Nat} (K' : Kp ad N h' h'') : Kp ad H.length h h'' := by
  refine ⟨Nat.le_trans K.1 K'.1, fun a c hc hn => K'.2 a c (K.2 a c hc hn) fun i hi q => ?_⟩
  by_cases hl : i < H.length
  · exact hn i hl q
  · have h1 := R.new (Nat.le_of_not_lt hl)
    rw [q] at h1
    exact absurd (Array.getElem?_eq_some_iff.mp hc).1 (Nat.not_lt.mpr h1)
/-- one cell of the small heap is written anew, at its own address -/
theorem HR.put (R : HR Z C lay n0 ro ad H h) {i : Nat} {c : OwnC} (hi : i < H.length) (hs : h'.size = h.size) (ho : ∀ a cz, a ≠ ad i → h[a]? = some cz → h'[a]? = some cz) (hc : CelOk Z C lay ad h' (ad i) c) :
    HR Z C lay n0 ro ad (H.set i c) h' ∧ Kp ad H.length h h' := by
  refine ⟨⟨fun j c' hj => ?_, fun i' j' hi' hj' => ?_, fun t => ?_, fun i' hi' => ?_, by rw [hs]; exact R.2.2.2.2⟩, by rw [hs]; exact Nat.le_refl _, fun a cz hz hn => ho a cz (fun q => hn i hi q.symm) hz⟩
  · rw [List.getElem?_set] at hj
    by_cases e : i = j
    · subst e
      simp [hi] at hj
      subst hj; exact hc
    · rw [if_neg e] at hj
      exact (R.1 j c' hj).keep fun cz q => ho _ cz (fun q' => e (R.2.1 _ _ hi (get_lt hj) q'.symm)) q
  · simp only [List.length_set] at hi' hj'; exact R.2.1 _ _ hi' hj'
  · rw [List.length_set, hs]; exact R.2.2.1 t
  · simp only [List.length_set] at hi'; exact R.2.2.2.1 _ hi'
/-- a new cell behind all others -/
theorem HR.push (R : HR Z C lay n0 ro ad H h) {c : OwnC} (hs : h'.size = h.size + 1) (hE : Ext h h') (hc : CelOk Z C lay ad h' h.size c) :
    HR Z C lay n0 ro ad (H ++ [c]) h' ∧ Kp ad H.length h h' ∧ ad H.length = h.size := by
  have e0 : ad H.length = h.size := R.2.2.1 0
  refine ⟨⟨fun j c' hj => ?_, fun i j hi hj q => ?_, fun t => ?_, fun i hi hr => ?_, by rw [hs]; exact Nat.le_succ_of_le R.2.2.2.2⟩, ⟨hE.1, fun a cz hz _ => hE.2 _ _ hz⟩, e0⟩
  · by_cases hl : j < H.length
    · rw [List.getElem?_append_left hl] at hj
      exact (R.1 j c' hj).keep fun cz q => hE.2 _ _ q
    · have hl' := get_lt hj
      simp only [List.length_append, List.length_singleton] at hl'
      obtain rfl : j = H.length := by omega
      simp at hj
      subst hj; rw [e0]; exact hc
  · simp only [List.length_append, List.length_singleton] at hi hj
    by_cases h1 : i < H.length
    · by_cases h2 : j < H.length
      · exact R.2.1 _ _ h1 h2 q
      · have a1 := (R.1 i _ (List.getElem?_eq_getElem h1)).lt
        have a2 := R.new (Nat.le_of_not_lt h2)
        rw [q] at a1
        exact absurd a1 (Nat.not_lt.mpr a2)
    · by_cases h2 : j < H.length
      · have a1 := (R.1 j _ (List.getElem?_eq_getElem h2)).lt
        have a2 := R.new (Nat.le_of_not_lt h1)
        rw [q] at a2
        exact absurd a1 (Nat.not_lt.mpr a2)
      · omega
  · rw [hs]
    have := R.2.2.1 (1 + t)
    simp only [List.length_append, List.length_singleton]
    rw [Nat.add_assoc, this]; exact (Nat.add_assoc _ _ _).symm
  · simp only [List.length_append, List.length_singleton] at hi
    by_cases h1 : i < H.length
    · exact R.2.2.2.1 _ h1 hr
    · exact Nat.le_trans R.2.2.2.2 (R.new (Nat.le_of_not_lt h1))
end HRs
/-! ## local variables: 'unset' in the small view says nothing -/
def WFs (f : Nat → Option Slot) : Prop := (∀ i, f i = some .second → ∃ j v, i = j + 1 ∧ f j = some (.val v) ∧ v.category = 2) ∧ ∀ i v, f i = some (.val v) → v.category = 2 → f (i + 1) = some .second
def LR (ad : Nat → Addr) (L : List Slot) (Ls : Array Slot) : Prop :=
  L.length = Ls.size ∧ (∀ (i : Nat) (v : Value), L[i]? = some (.val v) → Ls[i]? = some (.val (rf ad v))) ∧ (∀ i : Nat, L[i]? = some .second → Ls[i]? = some .second) ∧ WFs fun i => Ls[i]?
def kill2 : Slot → Slot
  | .val (.long _) => .unset
  | .val (.double _) => .unset
  | s => s
def killS : Slot → Slot
  | .second => .unset
  | s => s
def hd1 (f : Slot → Slot) : List Slot → List Slot
  | [] => []
  | y :: t => f y :: t
def st1 : List Slot → Nat → Value → List Slot
  | [], _, _ => []
  | _ :: t, 0, v => .val v :: hd1 killS t
  | y :: t, n + 1, v => match n with
    | 0 => kill2 y :: st1 t 0 v
    | k + 1 => y :: st1 t (k + 1) v
def st2 : List Slot → Nat → Value → List Slot
  | [], _, _ => []
  | _ :: t, 0, v => .val v :: (match t with | [] => [] | _ :: t' => .second :: hd1 killS t')
  | y :: t, n + 1, v => match n with
    | 0 => kill2 y :: st2 t 0 v
    | k + 1 => y :: st2 t (k + 1) v
theorem st1_len (v : Value) : ∀ (L : List Slot) (i : Nat), (st1 L i v).length = L.length
  | [], _ => rfl
  | y :: [], 0 => rfl
  | y :: z :: t, 0 => rfl
  | y :: t, 1 => congrArg Nat.succ (st1_len v t 0)
  | y :: t, k + 2 => congrArg Nat.succ (st1_len v t (k + 1))
theorem st2_len (v : Value) : ∀ (L : List Slot) (i : Nat), (st2 L i v).length = L.length
  | [], _ => rfl
  | y :: [], 0 => rfl
  | y :: z :: [], 0 => rfl
  | y :: z :: w :: t, 0 => rfl
  | y :: t, 1 => congrArg Nat.succ (st2_len v t 0)
  | y :: t, k + 2 => congrArg Nat.succ (st2_len v t (k + 1))
theorem kill2_e {y s : Slot} (h : kill2 y = s) (hs : s ≠ .unset) : y = s ∧ ∀ w, s = .val w → w.category = 1 := by
  subst h
  rcases y with _ | _ | w
  · exact absurd rfl hs
  · exact ⟨rfl, fun w h => by cases h⟩
  · cases w <;> first | exact absurd rfl hs | exact ⟨rfl, fun w h => by cases h; rfl⟩
theorem killS_e {y s : Slot} (h : killS y = s) (hs : s ≠ .unset) : y = s ∧ s ≠ .second := by
  subst h
  rcases y with _ | _ | w
  · exact absurd rfl hs
  · exact absurd rfl hs
  · exact ⟨rfl, fun h => by cases h⟩
theorem hd1_e {t : List Slot} {j : Nat} {s : Slot} (h : (hd1 killS t)[j]? = some s) (hs : s ≠ .unset) : t[j]? = some s ∧ (j = 0 → s ≠ .second) := by
  cases t with
  | nil => simp [hd1] at h
  | cons y t =>
    cases j with
    | zero =>
      have h' : killS y = s := by simpa [hd1] using h
      obtain ⟨e1, e2⟩ := killS_e h' hs
      exact ⟨by simp [e1], fun _ => e2⟩
    | succ j => exact ⟨by simpa [hd1] using h, fun q => by cases q⟩
theorem st1_at (v : Value) : ∀ (L : List Slot) (i : Nat), i < L.length → (st1 L i v)[i]? = some (.val v)
  | [], _, h => absurd h (by simp)
  | y :: t, 0, _ => rfl
  | y :: t, 1, h => by simpa [st1] using st1_at v t 0 (by simp at h; omega)
  | y :: t, k + 2, h => by simpa [st1] using st1_at v t (k + 1) (by simp at h; omega)
theorem st1_else (v : Value) : ∀ (L : List Slot) (i j : Nat) (s : Slot), j ≠ i → (st1 L i v)[j]? = some s → s ≠ .unset → L[j]? = some s ∧ (j + 1 = i → ∀ w, s = .val w → w.category = 1) ∧ (j = i + 1 → s ≠ .second)
  | [], _, j, s, _, h, _ => by simp [st1] at h
  | y :: t, 0, 0, s, hj, _, _ => absurd rfl hj
  | y :: t, 0, j + 1, s, hj, h, hs => by
    obtain ⟨e1, e2⟩ := hd1_e (t := t) (j := j) (by simpa [st1] using h) hs
    exact ⟨by simpa using e1, fun q => by omega, fun q => e2 (by omega)⟩
  | y :: t, 1, 0, s, hj, h, hs => by
    obtain ⟨e1, e2⟩ := kill2_e (y := y) (by simpa [st1] using h) hs
    exact ⟨by simp [e1], fun _ => e2, fun q => by omega⟩
  | y :: t, 1, j + 1, s, hj, h, hs => by
    obtain ⟨e1, e2, e3⟩ := st1_else v t 0 j s (by omega) (by simpa [st1] using h) hs
    exact ⟨by simpa using e1, fun q => by omega, fun q => e3 (by omega)⟩
  | y :: t, k + 2, 0, s, hj, h, hs => ⟨by simpa [st1] using h, fun q => by omega, fun q => by omega⟩
  | y :: t, k + 2, j + 1, s, hj, h, hs => by
    obtain ⟨e1, e2, e3⟩ := st1_else v t (k + 1) j s (by omega) (by simpa [st1] using h) hs
    exact ⟨by simpa using e1, fun q => e2 (by omega), fun q => e3 (by omega)⟩
theorem st2_at (v : Value) : ∀ (L : List Slot) (i : Nat), i + 1 < L.length → (st2 L i v)[i]? = some (.val v) ∧ (st2 L i v)[i + 1]? = some .second
  | [], _, h => absurd h (by simp)
  | y :: [], 0, h => absurd h (by simp)
  | y :: z :: t, 0, _ => ⟨rfl, rfl⟩
  | y :: t, 1, h => by simpa [st2] using st2_at v t 0 (by simp at h; omega)
  | y :: t, k + 2, h => by simpa [st2] using st2_at v t (k + 1) (by simp at h; omega)
theorem st2_else (v : Value) : ∀ (L : List Slot) (i j : Nat) (s : Slot), j ≠ i → j ≠ i + 1 → (st2 L i v)[j]? = some s → s ≠ .unset → L[j]? = some s ∧ (j + 1 = i → ∀ w, s = .val w → w.category = 1) ∧ (j = i + 2 → s ≠ .second)
  | [], _, j, s, _, _, h, _ => by simp [st2] at h
  | y :: t, 0, 0, s, hj, _, _, _ => absurd rfl hj
  | y :: t, 0, 1, s, _, hj, _, _ => absurd rfl hj
  | y :: [], 0, j + 2, s, _, _, h, _ => by simp [st2] at h
  | y :: z :: t, 0, j + 2, s, hj, _, h, hs => by
    obtain ⟨e1, e2⟩ := hd1_e (t := t) (j := j) (by simpa [st2] using h) hs
    exact ⟨by simpa using e1, fun q => by omega, fun q => e2 (by omega)⟩
  | y :: t, 1, 0, s, hj, _, h, hs => by
    obtain ⟨e1, e2⟩ := kill2_e (y := y) (by simpa [st2] using h) hs
    exact ⟨by simp [e1], fun _ => e2, fun q => by omega⟩
  | y :: t, 1, j + 1, s, hj, hj', h, hs => by
    obtain ⟨e1, e2, e3⟩ := st2_else v t 0 j s (by omega) (by omega) (by simpa [st2] using h) hs
    exact ⟨by simpa using e1, fun q => by omega, fun q => e3 (by omega)⟩
  | y :: t, k + 2, 0, s, hj, _, h, hs => ⟨by simpa [st2] using h, fun q => by omega, fun q => by omega⟩
  | y :: t, k + 2, j + 1, s, hj, hj', h, hs => by
    obtain ⟨e1, e2, e3⟩ := st2_else v t (k + 1) j s (by omega) (by omega) (by simpa [st2] using h) hs
    exact ⟨by simpa using e1, fun q => e2 (by omega), fun q => e3 (by omega)⟩
theorem setAt_ok {l : Array Slot} {i : Nat} (h : i < l.size) (x : Slot) : setAt l i x = some (l.setIfInBounds i x) := if_pos h
/-- which neighbours a store at i wipes -/
def Bad (Ls : Array Slot) (i j : Nat) : Prop := (j + 1 = i ∧ Ls[i]? = some .second) ∨ (j = i + 1 ∧ ∃ o, Ls[i]? = some (.val o) ∧ o.category = 2)
def Pre1 (Ls Ls1 : Array Slot) (i : Nat) : Prop := Ls1.size = Ls.size ∧ ∀ j, j ≠ i → (¬ Bad Ls i j ∧ Ls1[j]? = Ls[j]?) ∨ (Bad Ls i j ∧ Ls1[j]? = some .unset)
theorem storeLocals_pre {Ls : Array Slot} (wf : WFs fun i => Ls[i]?) {i : Nat} (hi : i < Ls.size) (w : Value) : ∃ Ls1, Pre1 Ls Ls1 i ∧ storeLocals Ls i w = storeSelf Ls1 i w := by
  have hg : Ls[i]? = some Ls[i] := Array.getElem?_eq_getElem hi
  rcases hs : Ls[i] with _ | _ | old
  · rw [hs] at hg
    refine ⟨Ls, ⟨rfl, fun j hj => Or.inl ⟨?_, rfl⟩⟩, ?_⟩
    · rintro (⟨-, q⟩ | ⟨-, o, q, -⟩) <;> (rw [hg] at q; cases q)
    · show (Ls[i]?).bind _ = _; rw [hg]; rfl
  · rw [hs] at hg
    obtain ⟨j0, v, rfl, hv, hc⟩ := wf.1 i hg
    have h0 : j0 < Ls.size := by omega
    refine ⟨Ls.setIfInBounds j0 .unset, ⟨by simp, fun j hj => ?_⟩, ?_⟩
    · by_cases e : j = j0
      · subst e; right; exact ⟨Or.inl ⟨rfl, hg⟩, by simp [h0]⟩
      · left
        refine ⟨?_, by rw [Array.getElem?_setIfInBounds_ne (Ne.symm e)]⟩
        rintro (⟨q', q⟩ | ⟨-, o, q, -⟩)
        · exact e (by omega)
        · rw [hg] at q; cases q
    · show (Ls[j0 + 1]?).bind _ = _; rw [hg]
      show (setAt Ls (j0 + 1 - 1) .unset).bind _ = _
      rw [Nat.add_sub_cancel, setAt_ok h0]; rfl
  · rw [hs] at hg
    by_cases hc : old.category = 2
    · have h1 := wf.2 i old hg hc
      have h1' : i + 1 < Ls.size := (Array.getElem?_eq_some_iff.mp h1).1
      refine ⟨Ls.setIfInBounds (i + 1) .unset, ⟨by simp, fun j hj => ?_⟩, ?_⟩
      · by_cases e : j = i + 1
        · subst e; right; exact ⟨Or.inr ⟨rfl, old, hg, hc⟩, by simp [h1']⟩
        · left
          refine ⟨?_, by rw [Array.getElem?_setIfInBounds_ne (Ne.symm e)]⟩
          rintro (⟨-, q⟩ | ⟨q, -⟩)
          · rw [hg] at q; cases q
          · exact e q
      · show (Ls[i]?).bind _ = _; rw [hg]
        show (if old.category = 2 then _ else _) = _
        rw [if_pos hc]
        show (setAt Ls (i + 1) .unset).bind _ = _
        rw [setAt_ok h1']; rfl
    · refine ⟨Ls, ⟨rfl, fun j hj => Or.inl ⟨?_, rfl⟩⟩, ?_⟩
      · rintro (⟨-, q⟩ | ⟨-, o, q, q'⟩) <;> (rw [hg] at q; cases q)
        exact hc q'
      · show (Ls[i]?).bind _ = _; rw [hg]
        show (if old.category = 2 then _ else _) = _
        rw [if_neg hc]
section St
variable {Ls : Array Slot} {i j : Nat}
/-- a value of one word is not wiped -/
theorem not_bad_val (wf : WFs fun i => Ls[i]?) {w : Value} (hj : Ls[j]? = some (.val w)) (hw : j + 1 = i → w.category = 1) : ¬ Bad Ls i j := by
  rintro (⟨rfl, q⟩ | ⟨rfl, o, q, q'⟩)
  · obtain ⟨j0, v, e, h1, h2⟩ := wf.1 _ q
    obtain rfl : j0 = j := by omega
    cases h1.symm.trans hj
    rw [hw rfl] at h2; cases h2
  · have := wf.2 _ _ q q'
    cases this.symm.trans hj
theorem not_bad_second (wf : WFs fun i => Ls[i]?) (hj : Ls[j]? = some .second) (hne : j ≠ i + 1) : ¬ Bad Ls i j := by
  rintro (⟨rfl, q⟩ | ⟨q, -⟩)
  · obtain ⟨j0, v, e, h1, h2⟩ := wf.1 _ q
    obtain rfl : j0 = j := by omega
    cases h1.symm.trans hj
  · exact hne q
end St
theorem LR.store1 {ad : Nat → Addr} {L : List Slot} {Ls : Array Slot} (hL : LR ad L Ls) {i : Nat} (hi : i < L.length) {v : Value} (hv : v.category = 1) : ∃ Ls', storeLocals Ls i (rf ad v) = some Ls' ∧ LR ad (st1 L i v) Ls' ∧ Ls'.size = Ls.size := by
  obtain ⟨l1, l2, l3, wf⟩ := hL
  have hi' : i < Ls.size := l1 ▸ hi
  have hv' : (rf ad v).category = 1 := by rw [rf_cat]; exact hv
  obtain ⟨Ls1, ⟨p1, p2⟩, e⟩ := storeLocals_pre wf hi' (rf ad v)
  have hi1 : i < Ls1.size := by rw [p1]; exact hi'
  have e2 : storeSelf Ls1 i (rf ad v) = some (Ls1.setIfInBounds i (.val (rf ad v))) := by
    show (setAt Ls1 i _).bind _ = _
    rw [setAt_ok hi1]
    show (if (rf ad v).category = 2 then _ else _) = _
    rw [if_neg (by rw [hv']; decide)]
  have at_i : (Ls1.setIfInBounds i (.val (rf ad v)))[i]? = some (.val (rf ad v)) := by simp [hi1]
  have at_j : ∀ j, j ≠ i → (Ls1.setIfInBounds i (.val (rf ad v)))[j]? = Ls1[j]? := fun j hj => Array.getElem?_setIfInBounds_ne (Ne.symm hj)
  have good : ∀ j, j ≠ i → ¬ Bad Ls i j → (Ls1.setIfInBounds i (.val (rf ad v)))[j]? = Ls[j]? := fun j hj hb => by
    rw [at_j j hj]
    rcases p2 j hj with ⟨-, q⟩ | ⟨q, -⟩
    · exact q
    · exact absurd q hb
  have back : ∀ j s, j ≠ i → s ≠ .unset → (Ls1.setIfInBounds i (.val (rf ad v)))[j]? = some s → ¬ Bad Ls i j ∧ Ls[j]? = some s := fun j s hj hs h => by
    rw [at_j j hj] at h
    rcases p2 j hj with ⟨q, q'⟩ | ⟨-, q⟩
    · exact ⟨q, by rw [← q']; exact h⟩
    · rw [q] at h; cases h; exact absurd rfl hs
  refine ⟨_, e.trans e2, ⟨by rw [st1_len, l1]; simp [p1], fun j w hj => ?_, fun j hj => ?_, fun j hj => ?_, fun j w hj hc => ?_⟩, by simp [p1]⟩
  · by_cases q : j = i
    · subst q
      rw [st1_at v L j hi] at hj
      cases hj; exact at_i
    · obtain ⟨a1, a2, -⟩ := st1_else v L i j _ q hj (by simp)
      have b1 := l2 j w a1
      rw [good j q (not_bad_val wf b1 fun z => by rw [rf_cat]; exact a2 z w rfl)]; exact b1
  · by_cases q : j = i
    · subst q
      rw [st1_at v L j hi] at hj
      cases hj
    · obtain ⟨a1, -, a3⟩ := st1_else v L i j _ q hj (by simp)
      have b1 := l3 j a1
      rw [good j q (not_bad_second wf b1 fun z => a3 z rfl)]; exact b1
  · dsimp only at hj ⊢
    have q : j ≠ i := fun q => by subst q; rw [at_i] at hj; cases hj
    obtain ⟨b1, b2⟩ := back j _ q (by simp) hj
    obtain ⟨j0, v', rfl, h1, h2⟩ := wf.1 j b2
    refine ⟨j0, v', rfl, ?_, h2⟩
    have q0 : j0 ≠ i := fun z => b1 (Or.inr ⟨by omega, v', z ▸ h1, h2⟩)
    rw [good j0 q0 ?_]; exact h1
    rintro (⟨z, -⟩ | ⟨z, o, z1, z2⟩)
    · exact q z
    · have := wf.2 _ _ z1 z2
      rw [← z] at this
      cases this.symm.trans h1
  · dsimp only at hj ⊢
    have q : j ≠ i := fun q => by subst q; rw [at_i] at hj; cases hj; rw [hv'] at hc; cases hc
    obtain ⟨b1, b2⟩ := back j _ q (by simp) hj
    have h1 := wf.2 j w b2 hc
    dsimp only at h1
    have q0 : j + 1 ≠ i := fun z => b1 (Or.inl ⟨z, z ▸ h1⟩)
    rw [good (j + 1) q0 ?_]; exact h1
    rintro (⟨z, z1⟩ | ⟨z, -⟩)
    · obtain ⟨j1, v1, e1, e2, -⟩ := wf.1 _ z1
      obtain rfl : j1 = j + 1 := by omega
      cases h1.symm.trans e2
    · omega
theorem LR.store2 {ad : Nat → Addr} {L : List Slot} {Ls : Array Slot} (hL : LR ad L Ls) {i : Nat} (hi : i + 1 < L.length) {v : Value} (hv : v.category = 2) : ∃ Ls', storeLocals Ls i (rf ad v) = some Ls' ∧ LR ad (st2 L i v) Ls' ∧ Ls'.size = Ls.size := by
  obtain ⟨l1, l2, l3, wf⟩ := hL
  have hi' : i + 1 < Ls.size := l1 ▸ hi
  have hv' : (rf ad v).category = 2 := by rw [rf_cat]; exact hv
  obtain ⟨Ls1, ⟨p1, p2⟩, e⟩ := storeLocals_pre wf (by omega : i < Ls.size) (rf ad v)
  have hi1 : i < Ls1.size := by rw [p1]; omega
  have hi2 : i + 1 < Ls1.size := by rw [p1]; omega
  -- what the second half leaves: two slots, and the one behind wiped where a long began at i + 1
  have key : ∃ Ls', storeSelf Ls1 i (rf ad v) = some Ls' ∧ Ls'.size = Ls1.size ∧ Ls'[i]? = some (.val (rf ad v)) ∧ Ls'[i + 1]? = some .second ∧ ∀ j, j ≠ i → j ≠ i + 1 → (Ls'[j]? = Ls1[j]? ∧ ¬ (j = i + 2 ∧ ∃ o, Ls1[i + 1]? = some (.val o) ∧ o.category = 2)) ∨ (Ls'[j]? = some .unset ∧ j = i + 2 ∧ ∃ o, Ls1[i + 1]? = some (.val o) ∧ o.category = 2) := by
    have n1 : (Ls1.setIfInBounds i (.val (rf ad v)))[i + 1]? = Ls1[i + 1]? := Array.getElem?_setIfInBounds_ne (by omega)
    have g1 : Ls1[i + 1]? = some Ls1[i + 1] := Array.getElem?_eq_getElem hi2
    have open1 : storeSelf Ls1 i (rf ad v) = ((Ls1.setIfInBounds i (.val (rf ad v)))[i + 1]?).bind fun x => match x with
      | .val old => if old.category = 2 then (setAt (Ls1.setIfInBounds i (.val (rf ad v))) (i + 2) .unset).bind fun z => setAt z (i + 1) .second else setAt (Ls1.setIfInBounds i (.val (rf ad v))) (i + 1) .second
      | _ => setAt (Ls1.setIfInBounds i (.val (rf ad v))) (i + 1) .second := by
      show (setAt Ls1 i _).bind _ = _
      rw [setAt_ok hi1]
      show (if (rf ad v).category = 2 then _ else _) = _
      rw [if_pos hv']; rfl
    have plain : (∀ o, Ls1[i + 1]? = some (.val o) → o.category ≠ 2) → storeSelf Ls1 i (rf ad v) = setAt (Ls1.setIfInBounds i (.val (rf ad v))) (i + 1) .second := fun hno => by
      rw [open1, n1, g1]
      rcases hs : Ls1[i + 1] with _ | _ | old
      · rfl
      · rfl
      · show (if old.category = 2 then _ else _) = _
        rw [if_neg (hno old (by rw [g1, hs]))]
    have szz : i + 1 < (Ls1.setIfInBounds i (.val (rf ad v))).size := by simpa using hi2
    by_cases hb : ∃ o, Ls1[i + 1]? = some (.val o) ∧ o.category = 2
    · obtain ⟨o, ho, ho2⟩ := hb
      have b1 : Ls[i + 1]? = some (.val o) := by
        rcases p2 (i + 1) (by omega) with ⟨-, q⟩ | ⟨-, q⟩
        · rw [← q]; exact ho
        · rw [q] at ho; cases ho
      have h3 : i + 2 < Ls1.size := by rw [p1]; exact (Array.getElem?_eq_some_iff.mp (wf.2 _ _ b1 ho2)).1
      refine ⟨((Ls1.setIfInBounds i (.val (rf ad v))).setIfInBounds (i + 2) .unset).setIfInBounds (i + 1) .second, ?_, by simp, ?_, ?_, fun j hj hj' => ?_⟩
      · rw [open1, n1, ho]
        show (if o.category = 2 then _ else _) = _
        rw [if_pos ho2, setAt_ok (by simpa using h3)]
        show setAt _ (i + 1) .second = _
        rw [setAt_ok (by simpa using hi2)]
      · rw [Array.getElem?_setIfInBounds_ne (by omega), Array.getElem?_setIfInBounds_ne (by omega)]; simp [hi1]
      · simp [hi2]
      · rw [Array.getElem?_setIfInBounds_ne (by omega)]
        by_cases z : j = i + 2
        · subst z; right; exact ⟨by simp [h3], rfl, o, ho, ho2⟩
        · left; exact ⟨by rw [Array.getElem?_setIfInBounds_ne (by omega), Array.getElem?_setIfInBounds_ne (by omega)], fun q => z q.1⟩
    · refine ⟨(Ls1.setIfInBounds i (.val (rf ad v))).setIfInBounds (i + 1) .second, ?_, by simp, ?_, ?_, fun j hj hj' => Or.inl ⟨?_, fun q => hb q.2⟩⟩
      · rw [plain fun o ho q => hb ⟨o, ho, q⟩, setAt_ok szz]
      · rw [Array.getElem?_setIfInBounds_ne (by omega)]; simp [hi1]
      · simp [hi2]
      · rw [Array.getElem?_setIfInBounds_ne (by omega), Array.getElem?_setIfInBounds_ne (by omega)]
  obtain ⟨Ls', e2, sz, at_i, at_i1, at_j⟩ := key
  -- i + 1 seen from Ls
  have up : ∀ o, Ls1[i + 1]? = some (.val o) → Ls[i + 1]? = some (.val o) := fun o ho => by
    rcases p2 (i + 1) (by omega) with ⟨-, q⟩ | ⟨-, q⟩
    · rw [← q]; exact ho
    · rw [q] at ho; cases ho
  have good : ∀ j, j ≠ i → j ≠ i + 1 → ¬ Bad Ls i j → ¬ (j = i + 2 ∧ ∃ o, Ls[i + 1]? = some (.val o) ∧ o.category = 2) → Ls'[j]? = Ls[j]? := fun j hj hj' hb hb' => by
    rcases at_j j hj hj' with ⟨q, -⟩ | ⟨-, q1, o, q2, q3⟩
    · rw [q]
      rcases p2 j hj with ⟨-, q⟩ | ⟨q, -⟩
      · exact q
      · exact absurd q hb
    · exact absurd ⟨q1, o, up o q2, q3⟩ hb'
  have back : ∀ j s, j ≠ i → j ≠ i + 1 → s ≠ .unset → Ls'[j]? = some s → ¬ Bad Ls i j ∧ Ls[j]? = some s ∧ ¬ (j = i + 2 ∧ ∃ o, Ls1[i + 1]? = some (.val o) ∧ o.category = 2) := fun j s hj hj' hs h => by
    rcases at_j j hj hj' with ⟨q, q0⟩ | ⟨q, -⟩
    · rw [q] at h
      rcases p2 j hj with ⟨q1, q'⟩ | ⟨-, q'⟩
      · exact ⟨q1, by rw [← q']; exact h, q0⟩
      · rw [q'] at h; cases h; exact absurd rfl hs
    · rw [q] at h; cases h; exact absurd rfl hs
  have s2 := st2_at v L i hi
  refine ⟨_, e.trans e2, ⟨by rw [st2_len, l1, sz, p1], fun j w hj => ?_, fun j hj => ?_, fun j hj => ?_, fun j w hj hc => ?_⟩, by rw [sz, p1]⟩
  · by_cases q : j = i
    · subst q
      rw [s2.1] at hj
      cases hj; exact at_i
    · by_cases q1 : j = i + 1
      · subst q1; rw [s2.2] at hj; cases hj
      · obtain ⟨a1, a2, -⟩ := st2_else v L i j _ q q1 hj (by simp)
        have b1 := l2 j w a1
        rw [good j q q1 (not_bad_val wf b1 fun z => by rw [rf_cat]; exact a2 z w rfl) ?_]; exact b1
        rintro ⟨rfl, o, z1, z2⟩
        have := wf.2 _ _ z1 z2
        cases this.symm.trans b1
  · by_cases q : j = i
    · subst q
      rw [s2.1] at hj
      cases hj
    · by_cases q1 : j = i + 1
      · subst q1; exact at_i1
      · obtain ⟨a1, -, a3⟩ := st2_else v L i j _ q q1 hj (by simp)
        have b1 := l3 j a1
        rw [good j q q1 (not_bad_second wf b1 q1) fun z => a3 z.1 rfl]; exact b1
  · dsimp only at hj ⊢
    by_cases q1 : j = i + 1
    · subst q1; exact ⟨i, _, rfl, at_i, hv'⟩
    have q : j ≠ i := fun q => by subst q; rw [at_i] at hj; cases hj
    obtain ⟨b1, b2, b3⟩ := back j _ q q1 (by simp) hj
    obtain ⟨j0, v', rfl, h1, h2⟩ := wf.1 j b2
    dsimp only at h1
    have q0 : j0 ≠ i := fun z => b1 (Or.inr ⟨by omega, v', z ▸ h1, h2⟩)
    -- j0 = i + 1: then j = i + 2 was wiped
    have q0' : j0 ≠ i + 1 := fun z => by
      subst z
      rcases p2 (i + 1) (by omega) with ⟨-, w1⟩ | ⟨w1, -⟩
      · exact b3 ⟨rfl, v', by rw [w1]; exact h1, h2⟩
      · rcases w1 with ⟨w1, -⟩ | ⟨-, o, w1, w2⟩
        · omega
        · have := wf.2 _ _ w1 w2
          cases this.symm.trans h1
    refine ⟨j0, v', rfl, ?_, h2⟩
    rw [good j0 q0 q0' ?_ ?_]; exact h1
    · rintro (⟨z, -⟩ | ⟨z, -⟩)
      · exact q z
      · exact q0' z
    · rintro ⟨rfl, o, z1, z2⟩
      have := wf.2 _ _ z1 z2
      cases this.symm.trans h1
  · dsimp only at hj ⊢
    by_cases q1 : j = i
    · subst q1; exact at_i1
    have q : j ≠ i + 1 := fun q => by subst q; rw [at_i1] at hj; cases hj
    obtain ⟨b1, b2, -⟩ := back j _ q1 q (by simp) hj
    have h1 := wf.2 j w b2 hc
    dsimp only at h1
    have q0 : j + 1 ≠ i := fun z => b1 (Or.inl ⟨z, z ▸ h1⟩)
    rw [good (j + 1) q0 (by omega) ?_ ?_]; exact h1
    · rintro (⟨z, z1⟩ | ⟨z, -⟩)
      · obtain ⟨j1, v1, e1, e2, -⟩ := wf.1 _ z1
        obtain rfl : j1 = j + 1 := by omega
        cases h1.symm.trans e2
      · omega
    · rintro ⟨z, -⟩; omega
/-! what is known less of -/
def leL : List Slot → List Slot → Prop
  | [], [] => True
  | .unset :: a, _ :: b => leL a b
  | x :: a, y :: b => x = y ∧ leL a b
  | _, _ => False
theorem leL_len : ∀ {A B : List Slot}, leL A B → A.length = B.length
  | [], [], _ => rfl
  | .unset :: a, _ :: b, h => congrArg Nat.succ (leL_len (A := a) (B := b) h)
  | .second :: a, _ :: b, h => congrArg Nat.succ (leL_len (A := a) (B := b) h.2)
  | .val _ :: a, _ :: b, h => congrArg Nat.succ (leL_len (A := a) (B := b) h.2)
theorem leL_get : ∀ {A B : List Slot}, leL A B → ∀ {i : Nat} {s : Slot}, A[i]? = some s → s ≠ .unset → B[i]? = some s
  | [], [], _, i, s, h, _ => by simp at h
  | .unset :: a, _ :: b, _, 0, s, h, hs => by simp at h; exact absurd h.symm hs
  | .unset :: a, _ :: b, hl, i + 1, s, h, hs => by simpa using leL_get (A := a) (B := b) hl (by simpa using h) hs
  | .second :: a, _ :: b, hl, 0, s, h, hs => by simp at h; subst h; simp [← hl.1]
  | .second :: a, _ :: b, hl, i + 1, s, h, hs => by simpa using leL_get (A := a) (B := b) hl.2 (by simpa using h) hs
  | .val _ :: a, _ :: b, hl, 0, s, h, hs => by simp at h; subst h; simp [← hl.1]
  | .val _ :: a, _ :: b, hl, i + 1, s, h, hs => by simpa using leL_get (A := a) (B := b) hl.2 (by simpa using h) hs
theorem LR.weak {ad : Nat → Addr} {A B : List Slot} {Ls : Array Slot} (h : leL A B) (hL : LR ad B Ls) : LR ad A Ls :=
  ⟨(leL_len h).trans hL.1, fun i v q => hL.2.1 i v (leL_get h q (by simp)), fun i q => hL.2.2.1 i (leL_get h q (by simp)), hL.2.2.2⟩
theorem wf_cons {x : Slot} {M : List Slot} (hx : x = .unset ∨ ∃ v, x = .val v ∧ v.category = 1) (h : WFs fun i => M[i]?) : WFs fun i => (x :: M)[i]? := by
  refine ⟨fun i hi => ?_, fun i v hi hc => ?_⟩
  · cases i with
    | zero => rcases hx with rfl | ⟨v, rfl, -⟩ <;> (simp at hi)
    | succ i =>
      obtain ⟨j, v, rfl, h1, h2⟩ := h.1 i (by simpa using hi)
      exact ⟨j + 1, v, rfl, by simpa using h1, h2⟩
  · cases i with
    | zero =>
      rcases hx with rfl | ⟨w, rfl, hw⟩
      · simp at hi
      · simp at hi; subst hi; rw [hw] at hc; cases hc
    | succ i => simpa using h.2 i v (by simpa using hi) hc
theorem wf_cons2 {w : Value} {M : List Slot} (hw : w.category = 2) (h : WFs fun i => M[i]?) : WFs fun i => (.val w :: .second :: M)[i]? := by
  refine ⟨fun i hi => ?_, fun i v hi hc => ?_⟩
  · match i, hi with
    | 0, hi => simp at hi
    | 1, _ => exact ⟨0, w, rfl, rfl, hw⟩
    | i + 2, hi =>
      obtain ⟨j, v, rfl, h1, h2⟩ := h.1 i (by simpa using hi)
      exact ⟨j + 2, v, rfl, by simpa using h1, h2⟩
  · match i, hi with
    | 0, _ => rfl
    | 1, hi => simp at hi
    | i + 2, hi => simpa using h.2 i v (by simpa using hi) hc
/-- the local variables at the entry -/
def laid : List Value → List Slot
  | [] => []
  | v :: vs => if v.category = 2 then .val v :: .second :: laid vs else .val v :: laid vs
def entL (as : List Value) (n : Nat) : List Slot := laid as ++ List.replicate (n - (laid as).length) Slot.unset
theorem laid_rel (ad : Nat → Addr) (k : Nat) : ∀ as : List Value, (laid as ++ List.replicate k Slot.unset).length = (laid (as.map (rf ad)) ++ List.replicate k Slot.unset).length ∧ (∀ (i : Nat) (v : Value), (laid as ++ List.replicate k Slot.unset)[i]? = some (.val v) → (laid (as.map (rf ad)) ++ List.replicate k Slot.unset)[i]? = some (.val (rf ad v))) ∧
    (∀ i : Nat, (laid as ++ List.replicate k Slot.unset)[i]? = some .second → (laid (as.map (rf ad)) ++ List.replicate k Slot.unset)[i]? = some .second) ∧ WFs fun i => (laid (as.map (rf ad)) ++ List.replicate k Slot.unset)[i]?
  | [] => by
    refine ⟨rfl, fun i v h => ?_, fun i h => h, fun i h => ?_, fun i v h => ?_⟩
    · simp [laid, List.getElem?_replicate] at h
    · simp [laid, List.getElem?_replicate] at h
    · simp [laid, List.getElem?_replicate] at h
  | v :: vs => by
    obtain ⟨a1, a2, a3, a4⟩ := laid_rel ad k vs
    have hc : (rf ad v).category = v.category := rf_cat ad v
    by_cases h : v.category = 2
    · have e1 : laid (v :: vs) = .val v :: .second :: laid vs := if_pos h
      have e2 : laid ((v :: vs).map (rf ad)) = .val (rf ad v) :: .second :: laid (vs.map (rf ad)) := if_pos (hc.trans h)
      rw [e1, e2]
      refine ⟨by simpa using a1, fun i w hi => ?_, fun i hi => ?_, wf_cons2 (hc.trans h) a4⟩
      · match i, hi with
        | 0, hi => simp at hi; subst hi; rfl
        | 1, hi => simp at hi
        | i + 2, hi => simpa using a2 i w (by simpa using hi)
      · match i, hi with
        | 0, hi => simp at hi
        | 1, hi => rfl
        | i + 2, hi => simpa using a3 i (by simpa using hi)
    · have e1 : laid (v :: vs) = .val v :: laid vs := if_neg h
      have e2 : laid ((v :: vs).map (rf ad)) = .val (rf ad v) :: laid (vs.map (rf ad)) := if_neg (by rw [hc]; exact h)
      have h1 : (rf ad v).category = 1 := by
        rw [hc]; cases v <;> first | rfl | exact absurd rfl h
      rw [e1, e2]
      refine ⟨by simpa using a1, fun i w hi => ?_, fun i hi => ?_, wf_cons (Or.inr ⟨_, rfl, h1⟩) a4⟩
      · match i, hi with
        | 0, hi => simp at hi; subst hi; rfl
        | i + 1, hi => simpa using a2 i w (by simpa using hi)
      · match i, hi with
        | 0, hi => simp at hi
        | i + 1, hi => simpa using a3 i (by simpa using hi)
theorem laid_foldl : ∀ (as : List Value) (acc : Array Slot), (as.foldl (fun acc v => if v.category = 2 then (acc.push (.val v)).push .second else acc.push (.val v)) acc).toList = acc.toList ++ laid as
  | [], acc => by simp [laid]
  | v :: vs, acc => by
    show (List.foldl _ (if v.category = 2 then (acc.push (.val v)).push .second else acc.push (.val v)) vs : Array Slot).toList = _
    rw [laid_foldl vs]
    by_cases h : v.category = 2
    · rw [if_pos h, show laid (v :: vs) = .val v :: .second :: laid vs from if_pos h]; simp
    · rw [if_neg h, show laid (v :: vs) = .val v :: laid vs from if_neg h]; simp
theorem laid_map_len (ad : Nat → Addr) (as : List Value) : (laid (as.map (rf ad))).length = (laid as).length := by
  have := (laid_rel ad 0 as).1
  simpa using this.symm
theorem entry_LR (ad : Nat → Addr) (as : List Value) (n : Nat) (hn : (laid as).length ≤ n) : LR ad (entL as n) (argsToLocals (as.map (rf ad)).toArray n) ∧ (argsToLocals (as.map (rf ad)).toArray n).size = n := by
  have e : (argsToLocals (as.map (rf ad)).toArray n).toList = laid (as.map (rf ad)) ++ List.replicate (n - (laid as).length) Slot.unset := by
    have e1 := laid_foldl (as.map (rf ad)) #[]
    have e2 : ((as.map (rf ad)).toArray.foldl (fun acc v => if v.category = 2 then (acc.push (.val v)).push .second else acc.push (.val v)) #[] : Array Slot).toList = laid (as.map (rf ad)) := by
      rw [List.foldl_toArray']
      · rw [e1]; rfl
      · rfl
    have e3 : ((as.map (rf ad)).toArray.foldl (fun acc v => if v.category = 2 then (acc.push (.val v)).push .second else acc.push (.val v)) #[] : Array Slot).size = (laid as).length := by
      rw [← Array.length_toList, e2, laid_map_len]
    show (_ ++ Array.replicate (n - _) Slot.unset).toList = _
    rw [Array.toList_append, e2, Array.toList_replicate, e3]
  obtain ⟨a1, a2, a3, a4⟩ := laid_rel ad (n - (laid as).length) as
  have g : ∀ i : Nat, (argsToLocals (as.map (rf ad)).toArray n)[i]? = (laid (as.map (rf ad)) ++ List.replicate (n - (laid as).length) Slot.unset)[i]? := fun i => by rw [← e, Array.getElem?_toList]
  have sz : (argsToLocals (as.map (rf ad)).toArray n).size = (laid (as.map (rf ad)) ++ List.replicate (n - (laid as).length) Slot.unset).length := by rw [← e, Array.length_toList]
  refine ⟨⟨by rw [sz]; exact a1, fun i v h => by rw [g]; exact a2 i v h, fun i h => by rw [g]; exact a3 i h, ?_⟩, by rw [sz, ← a1]; simp; omega⟩
  have : (fun i => (argsToLocals (as.map (rf ad)).toArray n)[i]?) = fun i => (laid (as.map (rf ad)) ++ List.replicate (n - (laid as).length) Slot.unset)[i]? := funext g
  rw [this]; exact a4
/-! ## reading and writing a list as Java does an array -/
def rd {α : Type} (xs : List α) (i : Int32) : Option α := if i < 0 then none else xs[i.toNatClampNeg]?
def wr {α : Type} (xs : List α) (i : Int32) (x : α) : Option (List α) := if i < 0 then none else if i.toNatClampNeg < xs.length then some (xs.set i.toNatClampNeg x) else none
theorem rd_slots {α : Type} {f : α → Value} {sl : Array Value} {xs : List α} (h : sl.toList = xs.map f) {j : Int32} {x : α} (hx : rd xs j = some x) : ¬ (j < 0 ∨ sl.size ≤ j.toNatClampNeg) ∧ sl[j.toNatClampNeg]? = some (f x) := by
  unfold rd at hx
  by_cases hj : j < 0
  · rw [if_pos hj] at hx; cases hx
  · rw [if_neg hj] at hx
    have h1 : sl[j.toNatClampNeg]? = some (f x) := by rw [← Array.getElem?_toList, h, List.getElem?_map, hx]; rfl
    exact ⟨fun q => q.elim hj fun q => absurd (Array.getElem?_eq_some_iff.mp h1).1 (Nat.not_lt.mpr q), h1⟩
theorem wr_slots {α : Type} {f : α → Value} {cl : Cell} {xs xs' : List α} (h : cl.slots.toList = xs.map f) {j : Int32} {x : α} (hx : wr xs j x = some xs') : ¬ (j < 0 ∨ cl.slots.size ≤ j.toNatClampNeg) ∧ (cl.setSlot j.toNatClampNeg (f x)).slots.toList = xs'.map f := by
  unfold wr at hx
  by_cases hj : j < 0
  · rw [if_pos hj] at hx; cases hx
  · rw [if_neg hj] at hx
    by_cases hl : j.toNatClampNeg < xs.length
    · rw [if_pos hl] at hx; cases hx
      have sz : cl.slots.size = xs.length := by rw [← Array.length_toList, h, List.length_map]
      refine ⟨fun q => q.elim hj fun q => by omega, ?_⟩
      show (cl.slots.setIfInBounds _ _).toList = _
      rw [Array.toList_setIfInBounds, h, List.map_set]
    · rw [if_neg hl] at hx; cases hx
/-! ## the walk's promise, said of the small view -/
def Am (Z : State) (own mn : String) (bytes : ByteArray) (maxL : Nat) (ret : Option FieldType) (p : Program) (s : State) (m : MethodId) (meth : Method) (c : Code) : Prop :=
  p.tables.exec = Jvm.exec ∧ Z.Warmed39 s.vm ∧ c.code = bytes ∧ c.maxLocals = maxL ∧ meth.sig.returnType = ret ∧ meth.locks = false ∧ s.vm.findClass own = some m.cls ∧ meth.name = mn
def WP (l : Launch) (Z : State) (C : String) (lay : List (String × String)) (own mn : String) (bytes : ByteArray) (maxL : Nat) (ret : Option FieldType) (R : Room) (n0 ro : Nat) (Q : Option Value → List OwnC → Prop) (k n pc : Nat) (L : List Slot) (S : List Value) (H : List OwnC) : Prop :=
  ∀ (p : Program) (e : Env) (s : State) (m : MethodId) (args : Array Value) (below : List Frame) (meth : Method) (c : Code) (T : State) (locs : List Loc) (ad : Nat → Addr) (Ls : Array Slot),
    Stand p l e R s m args below meth c T locs k n → Am Z own mn bytes maxL ret p s m meth c → HR Z C lay n0 ro ad H T.heap → Fr n0 locs → LR ad L Ls → Ls.size = maxL →
    ∃ (s₂ : State) (v : Option Value) (H' : List OwnC) (locs' : List Loc),
      Steps p.tables e below (T.setTop (mkF m pc Ls (S.map (rf ad)))) s₂ ∧ s₂.status = .running ∧ Ended s₂ below (.returned (v.map (rf ad))) ∧ Q v H' ∧ HR Z C lay n0 ro ad H' s₂.heap ∧ Kp ad H.length T.heap s₂.heap ∧ Fr n0 locs' ∧ FrameEnd s (.returned (v.map (rf ad))) s₂ locs' R.cells R.slots
section Rules
variable {l : Launch} {Z : State} {a0 : Array Value} {C : String} {lay : List (String × String)} {own mn : String} {bytes : ByteArray} {maxL : Nat} {ret : Option FieldType} {R : Room} {n0 ro : Nat} {Q : Option Value → List OwnC → Prop} {k n pc pc' : Nat} {L L' : List Slot} {S S' : List Value} {H H' : List OwnC}
theorem WP.weak (h : leL L' L) (nx : WP l Z C lay own mn bytes maxL ret R n0 ro Q k n pc L' S H) : WP l Z C lay own mn bytes maxL ret R n0 ro Q k n pc L S H :=
  fun p e s m args below meth c T locs ad Ls X A hr N hL hz => nx p e s m args below meth c T locs ad Ls X A hr N (LR.weak h hL) hz
theorem WP.of (hs : ∀ (p : Program) (e : Env) (s : State) (m : MethodId) (args : Array Value) (below : List Frame) (meth : Method) (c : Code) (T : State) (locs : List Loc) (ad : Nat → Addr) (Ls : Array Slot), Stand p l e R s m args below meth c T locs k n → Am Z own mn bytes maxL ret p s m meth c → LR ad L Ls → Ls.size = maxL →
      ∃ Ls', LR ad L' Ls' ∧ Ls'.size = maxL ∧ ∀ t, Steps p.tables e below (T.setTop (mkF m pc' Ls' (S'.map (rf ad)))) t → Steps p.tables e below (T.setTop (mkF m pc Ls (S.map (rf ad)))) t)
    (nx : WP l Z C lay own mn bytes maxL ret R n0 ro Q k n pc' L' S' H) : WP l Z C lay own mn bytes maxL ret R n0 ro Q k n pc L S H := by
  intro p e s m args below meth c T locs ad Ls X A hr N hL hz
  obtain ⟨Ls', hL', hz', st⟩ := hs p e s m args below meth c T locs ad Ls X A hL hz
  obtain ⟨s₂, v, H', locs', h1, h2⟩ := nx p e s m args below meth c T locs ad Ls' X A hr N hL' hz'
  exact ⟨s₂, v, H', locs', st _ h1, h2⟩
theorem WP.iload {j : Nat} {x : Int32} (hd : decode bytes pc = .ok (.iload j, 2)) (hl : L[j]? = some (.val (.int x))) (nx : WP l Z C lay own mn bytes maxL ret R n0 ro Q k n (pc + 2) L (.int x :: S) H) : WP l Z C lay own mn bytes maxL ret R n0 ro Q k n pc L (S) H :=
  WP.of (fun p e s m args below meth c T locs ad Ls X A hL hz => ⟨Ls, hL, hz, fun t ht => XS.iload X.here A.1 rfl (hb A.2.2.1 hd) (hL.2.1 _ _ hl) ht⟩) nx
theorem WP.iloadN {j : Fin 4} {x : Int32} (hd : decode bytes pc = .ok (.iload_n j, 1)) (hl : L[j.val]? = some (.val (.int x))) (nx : WP l Z C lay own mn bytes maxL ret R n0 ro Q k n (pc + 1) L (.int x :: S) H) : WP l Z C lay own mn bytes maxL ret R n0 ro Q k n pc L (S) H :=
  WP.of (fun p e s m args below meth c T locs ad Ls X A hL hz => ⟨Ls, hL, hz, fun t ht => XS.iloadN X.here A.1 rfl (hb A.2.2.1 hd) (hL.2.1 _ _ hl) ht⟩) nx
theorem WP.lload {j : Nat} {x : Int64} (hd : decode bytes pc = .ok (.lload j, 2)) (hl : L[j]? = some (.val (.long x))) (nx : WP l Z C lay own mn bytes maxL ret R n0 ro Q k n (pc + 2) L (.long x :: S) H) : WP l Z C lay own mn bytes maxL ret R n0 ro Q k n pc L (S) H :=
  WP.of (fun p e s m args below meth c T locs ad Ls X A hL hz => ⟨Ls, hL, hz, fun t ht => XT.lload X.here A.1 rfl (hb A.2.2.1 hd) (hL.2.1 _ _ hl) ht⟩) nx
theorem WP.lloadN {j : Fin 4} {x : Int64} (hd : decode bytes pc = .ok (.lload_n j, 1)) (hl : L[j.val]? = some (.val (.long x))) (nx : WP l Z C lay own mn bytes maxL ret R n0 ro Q k n (pc + 1) L (.long x :: S) H) : WP l Z C lay own mn bytes maxL ret R n0 ro Q k n pc L (S) H :=
  WP.of (fun p e s m args below meth c T locs ad Ls X A hL hz => ⟨Ls, hL, hz, fun t ht => XT.lloadN X.here A.1 rfl (hb A.2.2.1 hd) (hL.2.1 _ _ hl) ht⟩) nx
theorem WP.aload {j : Nat} {i : Nat} (hd : decode bytes pc = .ok (.aload j, 2)) (hl : L[j]? = some (.val (.ref i))) (nx : WP l Z C lay own mn bytes maxL ret R n0 ro Q k n (pc + 2) L (.ref i :: S) H) : WP l Z C lay own mn bytes maxL ret R n0 ro Q k n pc L (S) H :=
  WP.of (fun p e s m args below meth c T locs ad Ls X A hL hz => ⟨Ls, hL, hz, fun t ht => XS.aload X.here A.1 rfl (hb A.2.2.1 hd) (hL.2.1 _ _ hl) rfl ht⟩) nx
theorem WP.aloadN {j : Fin 4} {i : Nat} (hd : decode bytes pc = .ok (.aload_n j, 1)) (hl : L[j.val]? = some (.val (.ref i))) (nx : WP l Z C lay own mn bytes maxL ret R n0 ro Q k n (pc + 1) L (.ref i :: S) H) : WP l Z C lay own mn bytes maxL ret R n0 ro Q k n pc L (S) H :=
  WP.of (fun p e s m args below meth c T locs ad Ls X A hL hz => ⟨Ls, hL, hz, fun t ht => XS.aloadN X.here A.1 rfl (hb A.2.2.1 hd) (hL.2.1 _ _ hl) rfl ht⟩) nx
theorem WP.iconst {i : Int} (v : Int32) (hd : decode bytes pc = .ok (.iconst i, 1)) (hv : Int32.ofInt i = v) (nx : WP l Z C lay own mn bytes maxL ret R n0 ro Q k n (pc + 1) L (.int v :: S) H) : WP l Z C lay own mn bytes maxL ret R n0 ro Q k n pc L (S) H :=
  WP.of (fun p e s m args below meth c T locs ad Ls X A hL hz => ⟨Ls, hL, hz, fun t ht => XS.iconst X.here A.1 rfl (hb A.2.2.1 hd) (by rw [hv]; exact ht)⟩) nx
theorem WP.bipush {i : Int} (v : Int32) (hd : decode bytes pc = .ok (.bipush i, 2)) (hv : (Int8.ofInt i).toInt32 = v) (nx : WP l Z C lay own mn bytes maxL ret R n0 ro Q k n (pc + 2) L (.int v :: S) H) : WP l Z C lay own mn bytes maxL ret R n0 ro Q k n pc L (S) H :=
  WP.of (fun p e s m args below meth c T locs ad Ls X A hL hz => ⟨Ls, hL, hz, fun t ht => XS.bipush X.here A.1 rfl (hb A.2.2.1 hd) (by rw [hv]; exact ht)⟩) nx
theorem WP.sipush {i : Int} (v : Int32) (hd : decode bytes pc = .ok (.sipush i, 3)) (hv : (Int16.ofInt i).toInt32 = v) (nx : WP l Z C lay own mn bytes maxL ret R n0 ro Q k n (pc + 3) L (.int v :: S) H) : WP l Z C lay own mn bytes maxL ret R n0 ro Q k n pc L (S) H :=
  WP.of (fun p e s m args below meth c T locs ad Ls X A hL hz => ⟨Ls, hL, hz, fun t ht => XS.sipush X.here A.1 rfl (hb A.2.2.1 hd) (by rw [hv]; exact ht)⟩) nx
theorem WP.lconst {j : Fin 2} (v : Int64) (hd : decode bytes pc = .ok (.lconst j, 1)) (hv : Int64.ofNat j = v) (nx : WP l Z C lay own mn bytes maxL ret R n0 ro Q k n (pc + 1) L (.long v :: S) H) : WP l Z C lay own mn bytes maxL ret R n0 ro Q k n pc L (S) H :=
  WP.of (fun p e s m args below meth c T locs ad Ls X A hL hz => ⟨Ls, hL, hz, fun t ht => XT.lconst X.here A.1 rfl (hb A.2.2.1 hd) (by rw [hv]; exact ht)⟩) nx
theorem WP.ldc {idx : Nat} {v : Int32} (hd : decode bytes pc = .ok (.ldc idx, 2)) (hw : (Cond.constant own idx v).before a0 Z = true) (nx : WP l Z C lay own mn bytes maxL ret R n0 ro Q k n (pc + 2) L (.int v :: S) H) : WP l Z C lay own mn bytes maxL ret R n0 ro Q k n pc L (S) H :=
  WP.of (fun p e s m args below meth c T locs ad Ls X A hL hz => ⟨Ls, hL, hz, fun t ht => X.ldcInt A.1 A.2.2.2.2.2.2.1 (mvT A.2.1 hw) (g := mkF m pc Ls (S.map (rf ad))) rfl (hb A.2.2.1 hd) t ht⟩) nx
theorem WP.ldcw {idx : Nat} {v : Int32} (hd : decode bytes pc = .ok (.ldc_w idx, 3)) (hw : (Cond.constant own idx v).before a0 Z = true) (nx : WP l Z C lay own mn bytes maxL ret R n0 ro Q k n (pc + 3) L (.int v :: S) H) : WP l Z C lay own mn bytes maxL ret R n0 ro Q k n pc L (S) H :=
  WP.of (fun p e s m args below meth c T locs ad Ls X A hL hz => ⟨Ls, hL, hz, fun t ht => X.ldcwInt A.1 A.2.2.2.2.2.2.1 (mvT A.2.1 hw) (g := mkF m pc Ls (S.map (rf ad))) rfl (hb A.2.2.1 hd) t ht⟩) nx
theorem WP.ldc2 {idx : Nat} {v : Int64} (hd : decode bytes pc = .ok (.ldc2_w idx, 3)) (hw : (Cond.constantLong own idx v).before a0 Z = true) (nx : WP l Z C lay own mn bytes maxL ret R n0 ro Q k n (pc + 3) L (.long v :: S) H) : WP l Z C lay own mn bytes maxL ret R n0 ro Q k n pc L (S) H :=
  WP.of (fun p e s m args below meth c T locs ad Ls X A hL hz => ⟨Ls, hL, hz, fun t ht => X.ldc2Long A.1 A.2.2.2.2.2.2.1 (mvT A.2.1 hw) (g := mkF m pc Ls (S.map (rf ad))) rfl (hb A.2.2.1 hd) t ht⟩) nx
theorem WP.iadd {x y : Int32} (hd : decode bytes pc = .ok (.iadd, 1)) (nx : WP l Z C lay own mn bytes maxL ret R n0 ro Q k n (pc + 1) L (.int (x + y) :: S) H) : WP l Z C lay own mn bytes maxL ret R n0 ro Q k n pc L (.int y :: .int x :: S) H :=
  WP.of (fun p e s m args below meth c T locs ad Ls X A hL hz => ⟨Ls, hL, hz, fun t ht => XS.iadd X.here A.1 rfl (hb A.2.2.1 hd) rfl ht⟩) nx
theorem WP.ladd {x y : Int64} (hd : decode bytes pc = .ok (.ladd, 1)) (nx : WP l Z C lay own mn bytes maxL ret R n0 ro Q k n (pc + 1) L (.long (x + y) :: S) H) : WP l Z C lay own mn bytes maxL ret R n0 ro Q k n pc L (.long y :: .long x :: S) H :=
  WP.of (fun p e s m args below meth c T locs ad Ls X A hL hz => ⟨Ls, hL, hz, fun t ht => XT.ladd X.here A.1 rfl (hb A.2.2.1 hd) rfl ht⟩) nx
theorem WP.isub {x y : Int32} (hd : decode bytes pc = .ok (.isub, 1)) (nx : WP l Z C lay own mn bytes maxL ret R n0 ro Q k n (pc + 1) L (.int (x - y) :: S) H) : WP l Z C lay own mn bytes maxL ret R n0 ro Q k n pc L (.int y :: .int x :: S) H :=
  WP.of (fun p e s m args below meth c T locs ad Ls X A hL hz => ⟨Ls, hL, hz, fun t ht => XS.isub X.here A.1 rfl (hb A.2.2.1 hd) rfl ht⟩) nx
theorem WP.lsub {x y : Int64} (hd : decode bytes pc = .ok (.lsub, 1)) (nx : WP l Z C lay own mn bytes maxL ret R n0 ro Q k n (pc + 1) L (.long (x - y) :: S) H) : WP l Z C lay own mn bytes maxL ret R n0 ro Q k n pc L (.long y :: .long x :: S) H :=
  WP.of (fun p e s m args below meth c T locs ad Ls X A hL hz => ⟨Ls, hL, hz, fun t ht => XT.lsub X.here A.1 rfl (hb A.2.2.1 hd) rfl ht⟩) nx
theorem WP.imul {x y : Int32} (hd : decode bytes pc = .ok (.imul, 1)) (nx : WP l Z C lay own mn bytes maxL ret R n0 ro Q k n (pc + 1) L (.int (x * y) :: S) H) : WP l Z C lay own mn bytes maxL ret R n0 ro Q k n pc L (.int y :: .int x :: S) H :=
  WP.of (fun p e s m args below meth c T locs ad Ls X A hL hz => ⟨Ls, hL, hz, fun t ht => XS.imul X.here A.1 rfl (hb A.2.2.1 hd) rfl ht⟩) nx
theorem WP.lmul {x y : Int64} (hd : decode bytes pc = .ok (.lmul, 1)) (nx : WP l Z C lay own mn bytes maxL ret R n0 ro Q k n (pc + 1) L (.long (x * y) :: S) H) : WP l Z C lay own mn bytes maxL ret R n0 ro Q k n pc L (.long y :: .long x :: S) H :=
  WP.of (fun p e s m args below meth c T locs ad Ls X A hL hz => ⟨Ls, hL, hz, fun t ht => XT.lmul X.here A.1 rfl (hb A.2.2.1 hd) rfl ht⟩) nx
theorem WP.iand {x y : Int32} (hd : decode bytes pc = .ok (.iand, 1)) (nx : WP l Z C lay own mn bytes maxL ret R n0 ro Q k n (pc + 1) L (.int (x &&& y) :: S) H) : WP l Z C lay own mn bytes maxL ret R n0 ro Q k n pc L (.int y :: .int x :: S) H :=
  WP.of (fun p e s m args below meth c T locs ad Ls X A hL hz => ⟨Ls, hL, hz, fun t ht => XS.iand X.here A.1 rfl (hb A.2.2.1 hd) rfl ht⟩) nx
theorem WP.land {x y : Int64} (hd : decode bytes pc = .ok (.land, 1)) (nx : WP l Z C lay own mn bytes maxL ret R n0 ro Q k n (pc + 1) L (.long (x &&& y) :: S) H) : WP l Z C lay own mn bytes maxL ret R n0 ro Q k n pc L (.long y :: .long x :: S) H :=
  WP.of (fun p e s m args below meth c T locs ad Ls X A hL hz => ⟨Ls, hL, hz, fun t ht => XT.land X.here A.1 rfl (hb A.2.2.1 hd) rfl ht⟩) nx
theorem WP.ior {x y : Int32} (hd : decode bytes pc = .ok (.ior, 1)) (nx : WP l Z C lay own mn bytes maxL ret R n0 ro Q k n (pc + 1) L (.int (x ||| y) :: S) H) : WP l Z C lay own mn bytes maxL ret R n0 ro Q k n pc L (.int y :: .int x :: S) H :=
  WP.of (fun p e s m args below meth c T locs ad Ls X A hL hz => ⟨Ls, hL, hz, fun t ht => XT.ior X.here A.1 rfl (hb A.2.2.1 hd) rfl ht⟩) nx
theorem WP.lor {x y : Int64} (hd : decode bytes pc = .ok (.lor, 1)) (nx : WP l Z C lay own mn bytes maxL ret R n0 ro Q k n (pc + 1) L (.long (x ||| y) :: S) H) : WP l Z C lay own mn bytes maxL ret R n0 ro Q k n pc L (.long y :: .long x :: S) H :=
  WP.of (fun p e s m args below meth c T locs ad Ls X A hL hz => ⟨Ls, hL, hz, fun t ht => XT.lor X.here A.1 rfl (hb A.2.2.1 hd) rfl ht⟩) nx
theorem WP.ixor {x y : Int32} (hd : decode bytes pc = .ok (.ixor, 1)) (nx : WP l Z C lay own mn bytes maxL ret R n0 ro Q k n (pc + 1) L (.int (x ^^^ y) :: S) H) : WP l Z C lay own mn bytes maxL ret R n0 ro Q k n pc L (.int y :: .int x :: S) H :=
  WP.of (fun p e s m args below meth c T locs ad Ls X A hL hz => ⟨Ls, hL, hz, fun t ht => XT.ixor X.here A.1 rfl (hb A.2.2.1 hd) rfl ht⟩) nx
theorem WP.lxor {x y : Int64} (hd : decode bytes pc = .ok (.lxor, 1)) (nx : WP l Z C lay own mn bytes maxL ret R n0 ro Q k n (pc + 1) L (.long (x ^^^ y) :: S) H) : WP l Z C lay own mn bytes maxL ret R n0 ro Q k n pc L (.long y :: .long x :: S) H :=
  WP.of (fun p e s m args below meth c T locs ad Ls X A hL hz => ⟨Ls, hL, hz, fun t ht => XT.lxor X.here A.1 rfl (hb A.2.2.1 hd) rfl ht⟩) nx
theorem WP.idiv {x y : Int32} (hd : decode bytes pc = .ok (.idiv, 1)) (hy : ¬ y = 0) (nx : WP l Z C lay own mn bytes maxL ret R n0 ro Q k n (pc + 1) L (.int (x / y) :: S) H) : WP l Z C lay own mn bytes maxL ret R n0 ro Q k n pc L (.int y :: .int x :: S) H :=
  WP.of (fun p e s m args below meth c T locs ad Ls X A hL hz => ⟨Ls, hL, hz, fun t ht => XS.idiv X.here A.1 rfl (hb A.2.2.1 hd) rfl hy ht⟩) nx
theorem WP.irem {x y : Int32} (hd : decode bytes pc = .ok (.irem, 1)) (hy : ¬ y = 0) (nx : WP l Z C lay own mn bytes maxL ret R n0 ro Q k n (pc + 1) L (.int (x % y) :: S) H) : WP l Z C lay own mn bytes maxL ret R n0 ro Q k n pc L (.int y :: .int x :: S) H :=
  WP.of (fun p e s m args below meth c T locs ad Ls X A hL hz => ⟨Ls, hL, hz, fun t ht => iremM X A.1 rfl (hb A.2.2.1 hd) rfl hy ht⟩) nx
theorem WP.ldiv {x y : Int64} (hd : decode bytes pc = .ok (.ldiv, 1)) (hy : ¬ y = 0) (nx : WP l Z C lay own mn bytes maxL ret R n0 ro Q k n (pc + 1) L (.long (x / y) :: S) H) : WP l Z C lay own mn bytes maxL ret R n0 ro Q k n pc L (.long y :: .long x :: S) H :=
  WP.of (fun p e s m args below meth c T locs ad Ls X A hL hz => ⟨Ls, hL, hz, fun t ht => XT.ldiv X.here A.1 rfl (hb A.2.2.1 hd) rfl hy ht⟩) nx
theorem lrem_mod (x y : Int64) : x - (x / y) * y = x % y := by
  apply Int64.toInt_inj.mp
  have h1 := Int64.le_toInt (x % y)
  have h2 := Int64.toInt_lt (x % y)
  rw [Int64.toInt_sub, Int64.toInt_mul, Int64.toInt_div, Int.bmod_mul_bmod, Int.sub_bmod_bmod, Int.mul_comm (x.toInt.tdiv y.toInt), ← Int.tmod_def, ← Int64.toInt_mod]
  exact Int.bmod_eq_of_le_mul_two (by omega) (by omega)
theorem WP.lrem {x y : Int64} (hd : decode bytes pc = .ok (.lrem, 1)) (hy : ¬ y = 0) (nx : WP l Z C lay own mn bytes maxL ret R n0 ro Q k n (pc + 1) L (.long (x % y) :: S) H) : WP l Z C lay own mn bytes maxL ret R n0 ro Q k n pc L (.long y :: .long x :: S) H :=
  WP.of (fun p e s m args below meth c T locs ad Ls X A hL hz => ⟨Ls, hL, hz, fun t ht => XT.lrem X.here A.1 rfl (hb A.2.2.1 hd) rfl hy (by rw [lrem_mod]; exact ht)⟩) nx
theorem WP.ishl {x y : Int32} (hd : decode bytes pc = .ok (.ishl, 1)) (nx : WP l Z C lay own mn bytes maxL ret R n0 ro Q k n (pc + 1) L (.int (x <<< (y &&& 31)) :: S) H) : WP l Z C lay own mn bytes maxL ret R n0 ro Q k n pc L (.int y :: .int x :: S) H :=
  WP.of (fun p e s m args below meth c T locs ad Ls X A hL hz => ⟨Ls, hL, hz, fun t ht => XT.ishl X.here A.1 rfl (hb A.2.2.1 hd) rfl ht⟩) nx
theorem WP.ishr {x y : Int32} (hd : decode bytes pc = .ok (.ishr, 1)) (nx : WP l Z C lay own mn bytes maxL ret R n0 ro Q k n (pc + 1) L (.int (x >>> (y &&& 31)) :: S) H) : WP l Z C lay own mn bytes maxL ret R n0 ro Q k n pc L (.int y :: .int x :: S) H :=
  WP.of (fun p e s m args below meth c T locs ad Ls X A hL hz => ⟨Ls, hL, hz, fun t ht => XT.ishr X.here A.1 rfl (hb A.2.2.1 hd) rfl ht⟩) nx
theorem WP.iushr {x y : Int32} (hd : decode bytes pc = .ok (.iushr, 1)) (nx : WP l Z C lay own mn bytes maxL ret R n0 ro Q k n (pc + 1) L (.int (XT.ushr x y) :: S) H) : WP l Z C lay own mn bytes maxL ret R n0 ro Q k n pc L (.int y :: .int x :: S) H :=
  WP.of (fun p e s m args below meth c T locs ad Ls X A hL hz => ⟨Ls, hL, hz, fun t ht => XT.iushr X.here A.1 rfl (hb A.2.2.1 hd) rfl ht⟩) nx
theorem WP.lshl {x : Int64} {y : Int32} (hd : decode bytes pc = .ok (.lshl, 1)) (nx : WP l Z C lay own mn bytes maxL ret R n0 ro Q k n (pc + 1) L (.long (x <<< (y.toInt64 &&& 63)) :: S) H) : WP l Z C lay own mn bytes maxL ret R n0 ro Q k n pc L (.int y :: .long x :: S) H :=
  WP.of (fun p e s m args below meth c T locs ad Ls X A hL hz => ⟨Ls, hL, hz, fun t ht => XT.lshl X.here A.1 rfl (hb A.2.2.1 hd) rfl ht⟩) nx
theorem WP.lshr {x : Int64} {y : Int32} (hd : decode bytes pc = .ok (.lshr, 1)) (nx : WP l Z C lay own mn bytes maxL ret R n0 ro Q k n (pc + 1) L (.long (x >>> (y.toInt64 &&& 63)) :: S) H) : WP l Z C lay own mn bytes maxL ret R n0 ro Q k n pc L (.int y :: .long x :: S) H :=
  WP.of (fun p e s m args below meth c T locs ad Ls X A hL hz => ⟨Ls, hL, hz, fun t ht => XT.lshr X.here A.1 rfl (hb A.2.2.1 hd) rfl ht⟩) nx
theorem WP.lushr {x : Int64} {y : Int32} (hd : decode bytes pc = .ok (.lushr, 1)) (nx : WP l Z C lay own mn bytes maxL ret R n0 ro Q k n (pc + 1) L (.long (XT.ushrL x y) :: S) H) : WP l Z C lay own mn bytes maxL ret R n0 ro Q k n pc L (.int y :: .long x :: S) H :=
  WP.of (fun p e s m args below meth c T locs ad Ls X A hL hz => ⟨Ls, hL, hz, fun t ht => XT.lushr X.here A.1 rfl (hb A.2.2.1 hd) rfl ht⟩) nx
theorem WP.ineg {x : Int32} (hd : decode bytes pc = .ok (.ineg, 1)) (nx : WP l Z C lay own mn bytes maxL ret R n0 ro Q k n (pc + 1) L (.int (-x) :: S) H) : WP l Z C lay own mn bytes maxL ret R n0 ro Q k n pc L (.int x :: S) H :=
  WP.of (fun p e s m args below meth c T locs ad Ls X A hL hz => ⟨Ls, hL, hz, fun t ht => XS.ineg X.here A.1 rfl (hb A.2.2.1 hd) rfl ht⟩) nx
theorem WP.lneg {x : Int64} (hd : decode bytes pc = .ok (.lneg, 1)) (nx : WP l Z C lay own mn bytes maxL ret R n0 ro Q k n (pc + 1) L (.long (-x) :: S) H) : WP l Z C lay own mn bytes maxL ret R n0 ro Q k n pc L (.long x :: S) H :=
  WP.of (fun p e s m args below meth c T locs ad Ls X A hL hz => ⟨Ls, hL, hz, fun t ht => XT.lneg X.here A.1 rfl (hb A.2.2.1 hd) rfl ht⟩) nx
theorem WP.i2l {x : Int32} (hd : decode bytes pc = .ok (.i2l, 1)) (nx : WP l Z C lay own mn bytes maxL ret R n0 ro Q k n (pc + 1) L (.long x.toInt64 :: S) H) : WP l Z C lay own mn bytes maxL ret R n0 ro Q k n pc L (.int x :: S) H :=
  WP.of (fun p e s m args below meth c T locs ad Ls X A hL hz => ⟨Ls, hL, hz, fun t ht => XT.i2l X.here A.1 rfl (hb A.2.2.1 hd) rfl ht⟩) nx
theorem WP.l2i {x : Int64} (hd : decode bytes pc = .ok (.l2i, 1)) (nx : WP l Z C lay own mn bytes maxL ret R n0 ro Q k n (pc + 1) L (.int x.toInt32 :: S) H) : WP l Z C lay own mn bytes maxL ret R n0 ro Q k n pc L (.long x :: S) H :=
  WP.of (fun p e s m args below meth c T locs ad Ls X A hL hz => ⟨Ls, hL, hz, fun t ht => XT.l2i X.here A.1 rfl (hb A.2.2.1 hd) rfl ht⟩) nx
theorem WP.lcmp {x y : Int64} (hd : decode bytes pc = .ok (.lcmp, 1)) (nx : WP l Z C lay own mn bytes maxL ret R n0 ro Q k n (pc + 1) L (.int (XT.cmpL x y) :: S) H) : WP l Z C lay own mn bytes maxL ret R n0 ro Q k n pc L (.long y :: .long x :: S) H :=
  WP.of (fun p e s m args below meth c T locs ad Ls X A hL hz => ⟨Ls, hL, hz, fun t ht => XT.lcmp X.here A.1 rfl (hb A.2.2.1 hd) rfl ht⟩) nx
theorem WP.dup {v : Value} (hd : decode bytes pc = .ok (.dup, 1)) (hc : v.category = 1) (nx : WP l Z C lay own mn bytes maxL ret R n0 ro Q k n (pc + 1) L (v :: v :: S) H) : WP l Z C lay own mn bytes maxL ret R n0 ro Q k n pc L (v :: S) H :=
  WP.of (fun p e s m args below meth c T locs ad Ls X A hL hz => ⟨Ls, hL, hz, fun t ht => XS.dup X.here A.1 rfl (hb A.2.2.1 hd) rfl (by rw [rf_cat]; exact hc) ht⟩) nx
theorem WP.dup2 {v w : Value} (hd : decode bytes pc = .ok (.dup2, 1)) (hc : v.category = 1) (hc' : w.category = 1) (nx : WP l Z C lay own mn bytes maxL ret R n0 ro Q k n (pc + 1) L (v :: w :: v :: w :: S) H) : WP l Z C lay own mn bytes maxL ret R n0 ro Q k n pc L (v :: w :: S) H :=
  WP.of (fun p e s m args below meth c T locs ad Ls X A hL hz => ⟨Ls, hL, hz, fun t ht => XT.dup2 X.here A.1 rfl (hb A.2.2.1 hd) rfl (by rw [rf_cat]; exact hc) (by rw [rf_cat]; exact hc') ht⟩) nx
theorem WP.dup2L {x : Int64} (hd : decode bytes pc = .ok (.dup2, 1)) (nx : WP l Z C lay own mn bytes maxL ret R n0 ro Q k n (pc + 1) L (.long x :: .long x :: S) H) : WP l Z C lay own mn bytes maxL ret R n0 ro Q k n pc L (.long x :: S) H :=
  WP.of (fun p e s m args below meth c T locs ad Ls X A hL hz => ⟨Ls, hL, hz, fun t ht => XT.dup2L X.here A.1 rfl (hb A.2.2.1 hd) rfl ht⟩) nx
theorem WP.pop {v : Value} (hd : decode bytes pc = .ok (.pop, 1)) (hc : v.category = 1) (nx : WP l Z C lay own mn bytes maxL ret R n0 ro Q k n (pc + 1) L (S) H) : WP l Z C lay own mn bytes maxL ret R n0 ro Q k n pc L (v :: S) H :=
  WP.of (fun p e s m args below meth c T locs ad Ls X A hL hz => ⟨Ls, hL, hz, fun t ht => XT.pop X.here A.1 rfl (hb A.2.2.1 hd) rfl (by rw [rf_cat]; exact hc) ht⟩) nx
theorem WP.istore {j : Nat} {x : Int32} (hd : decode bytes pc = .ok (.istore j, 2)) (hi : j < L.length) (hL' : st1 L j (.int x) = L') (nx : WP l Z C lay own mn bytes maxL ret R n0 ro Q k n (pc + 2) L' S H) : WP l Z C lay own mn bytes maxL ret R n0 ro Q k n pc L (.int x :: S) H :=
  WP.of (fun p e s m args below meth c T locs ad Ls X A hL hz => by
    obtain ⟨Ls', e1, e2, e3⟩ := hL.store1 hi (v := .int x) rfl
    exact ⟨Ls', hL' ▸ e2, e3.trans hz, fun t ht => XS.istore X.here A.1 rfl (hb A.2.2.1 hd) rfl e1 ht⟩) nx
theorem WP.istoreN {j : Fin 4} {x : Int32} (hd : decode bytes pc = .ok (.istore_n j, 1)) (hi : j.val < L.length) (hL' : st1 L j.val (.int x) = L') (nx : WP l Z C lay own mn bytes maxL ret R n0 ro Q k n (pc + 1) L' S H) : WP l Z C lay own mn bytes maxL ret R n0 ro Q k n pc L (.int x :: S) H :=
  WP.of (fun p e s m args below meth c T locs ad Ls X A hL hz => by
    obtain ⟨Ls', e1, e2, e3⟩ := hL.store1 hi (v := .int x) rfl
    exact ⟨Ls', hL' ▸ e2, e3.trans hz, fun t ht => XS.istoreN X.here A.1 rfl (hb A.2.2.1 hd) rfl e1 ht⟩) nx
theorem WP.astore {j : Nat} {i : Nat} (hd : decode bytes pc = .ok (.astore j, 2)) (hi : j < L.length) (hL' : st1 L j (.ref i) = L') (nx : WP l Z C lay own mn bytes maxL ret R n0 ro Q k n (pc + 2) L' S H) : WP l Z C lay own mn bytes maxL ret R n0 ro Q k n pc L (.ref i :: S) H :=
  WP.of (fun p e s m args below meth c T locs ad Ls X A hL hz => by
    obtain ⟨Ls', e1, e2, e3⟩ := hL.store1 hi (v := .ref i) rfl
    exact ⟨Ls', hL' ▸ e2, e3.trans hz, fun t ht => XS.astore X.here A.1 rfl (hb A.2.2.1 hd) rfl rfl e1 ht⟩) nx
theorem WP.astoreN {j : Fin 4} {i : Nat} (hd : decode bytes pc = .ok (.astore_n j, 1)) (hi : j.val < L.length) (hL' : st1 L j.val (.ref i) = L') (nx : WP l Z C lay own mn bytes maxL ret R n0 ro Q k n (pc + 1) L' S H) : WP l Z C lay own mn bytes maxL ret R n0 ro Q k n pc L (.ref i :: S) H :=
  WP.of (fun p e s m args below meth c T locs ad Ls X A hL hz => by
    obtain ⟨Ls', e1, e2, e3⟩ := hL.store1 hi (v := .ref i) rfl
    exact ⟨Ls', hL' ▸ e2, e3.trans hz, fun t ht => XS.astoreN X.here A.1 rfl (hb A.2.2.1 hd) rfl rfl e1 ht⟩) nx
theorem WP.lstore {j : Nat} {x : Int64} (hd : decode bytes pc = .ok (.lstore j, 2)) (hi : j + 1 < L.length) (hL' : st2 L j (.long x) = L') (nx : WP l Z C lay own mn bytes maxL ret R n0 ro Q k n (pc + 2) L' S H) : WP l Z C lay own mn bytes maxL ret R n0 ro Q k n pc L (.long x :: S) H :=
  WP.of (fun p e s m args below meth c T locs ad Ls X A hL hz => by
    obtain ⟨Ls', e1, e2, e3⟩ := hL.store2 hi (v := .long x) rfl
    exact ⟨Ls', hL' ▸ e2, e3.trans hz, fun t ht => XT.lstore X.here A.1 rfl (hb A.2.2.1 hd) rfl e1 ht⟩) nx
theorem WP.lstoreN {j : Fin 4} {x : Int64} (hd : decode bytes pc = .ok (.lstore_n j, 1)) (hi : j.val + 1 < L.length) (hL' : st2 L j.val (.long x) = L') (nx : WP l Z C lay own mn bytes maxL ret R n0 ro Q k n (pc + 1) L' S H) : WP l Z C lay own mn bytes maxL ret R n0 ro Q k n pc L (.long x :: S) H :=
  WP.of (fun p e s m args below meth c T locs ad Ls X A hL hz => by
    obtain ⟨Ls', e1, e2, e3⟩ := hL.store2 hi (v := .long x) rfl
    exact ⟨Ls', hL' ▸ e2, e3.trans hz, fun t ht => XT.lstoreN X.here A.1 rfl (hb A.2.2.1 hd) rfl e1 ht⟩) nx
theorem WP.iinc {j : Nat} {cst : Int} {x : Int32} (v : Int32) (hd : decode bytes pc = .ok (.iinc j cst, 3)) (hv : Int32.ofInt cst = v) (hl : L[j]? = some (.val (.int x))) (hL' : st1 L j (.int (x + v)) = L') (nx : WP l Z C lay own mn bytes maxL ret R n0 ro Q k n (pc + 3) L' S H) : WP l Z C lay own mn bytes maxL ret R n0 ro Q k n pc L S H :=
  WP.of (fun p e s m args below meth c T locs ad Ls X A hL hz => by
    subst hv
    obtain ⟨Ls', e1, e2, e3⟩ := hL.store1 (get_lt hl) (v := .int (x + Int32.ofInt cst)) rfl
    exact ⟨Ls', hL' ▸ e2, e3.trans hz, fun t ht => XS.iinc X.here A.1 rfl (hb A.2.2.1 hd) (hL.2.1 _ _ hl) e1 ht⟩) nx
theorem iincW {tb : Tables} [Ours tb] {e : Env} {below : List Frame} {T target : State} {m : MethodId} {c : Code} {g : JFrame} (h : At T m c below) (hx : tb.exec = Jvm.exec) (hg : g.method = m) {k : Nat} {cst : Int} {x : Int32} {l' : Array Slot} (hd : decode c.code g.pc = .ok (.iinc k cst, 6)) (hl : g.locals[k]? = some (.val (.int x))) (hl' : storeLocals g.locals k (.int (x + Int32.ofInt cst)) = some l')
    (hr : Steps tb e below (T.setTop { g with pc := g.pc + 6, locals := l' }) target) : Steps tb e below (T.setTop g) target := by
  subst hg
  jvm_step h [h.top, hx, hd, hl, hl']
  exact hr
theorem WP.iincW {j : Nat} {cst : Int} {x : Int32} (v : Int32) (hd : decode bytes pc = .ok (.iinc j cst, 6)) (hv : Int32.ofInt cst = v) (hl : L[j]? = some (.val (.int x))) (hL' : st1 L j (.int (x + v)) = L') (nx : WP l Z C lay own mn bytes maxL ret R n0 ro Q k n (pc + 6) L' S H) : WP l Z C lay own mn bytes maxL ret R n0 ro Q k n pc L S H :=
  WP.of (fun p e s m args below meth c T locs ad Ls X A hL hz => by
    subst hv
    obtain ⟨Ls', e1, e2, e3⟩ := hL.store1 (get_lt hl) (v := .int (x + Int32.ofInt cst)) rfl
    exact ⟨Ls', hL' ▸ e2, e3.trans hz, fun t ht => Own.iincW X.here A.1 rfl (hb A.2.2.1 hd) (hL.2.1 _ _ hl) e1 ht⟩) nx
theorem WP.goto {o : Int} (hd : decode bytes pc = .ok (.goto o, 3)) (ho : 0 ≤ (pc : Int) + o) (hp : ((pc : Int) + o).toNat = pc') (nx : WP l Z C lay own mn bytes maxL ret R n0 ro Q k n pc' L S H) : WP l Z C lay own mn bytes maxL ret R n0 ro Q k n pc L S H :=
  WP.of (fun p e s m args below meth c T locs ad Ls X A hL hz => ⟨Ls, hL, hz, fun t ht => XS.goto X.here A.1 rfl rfl (hb A.2.2.1 hd) ho hp ht⟩) nx
theorem WP.ifY {cd : ClassFile.Cond} {x : Int32} {o : Int} (hd : decode bytes pc = .ok (.ifCond cd o, 3)) (hc : ifCond.holds cd x = true) (ho : 0 ≤ (pc : Int) + o) (hp : ((pc : Int) + o).toNat = pc') (nx : WP l Z C lay own mn bytes maxL ret R n0 ro Q k n pc' L S H) : WP l Z C lay own mn bytes maxL ret R n0 ro Q k n pc L (.int x :: S) H :=
  WP.of (fun p e s m args below meth c T locs ad Ls X A hL hz => ⟨Ls, hL, hz, fun t ht => XS.ifYes X.here A.1 rfl rfl (hb A.2.2.1 hd) rfl hc ho hp ht⟩) nx
theorem WP.ifN {cd : ClassFile.Cond} {x : Int32} {o : Int} (hd : decode bytes pc = .ok (.ifCond cd o, 3)) (hc : ifCond.holds cd x = false) (nx : WP l Z C lay own mn bytes maxL ret R n0 ro Q k n (pc + 3) L S H) : WP l Z C lay own mn bytes maxL ret R n0 ro Q k n pc L (.int x :: S) H :=
  WP.of (fun p e s m args below meth c T locs ad Ls X A hL hz => ⟨Ls, hL, hz, fun t ht => XS.ifNo X.here A.1 rfl (hb A.2.2.1 hd) rfl hc ht⟩) nx
theorem WP.icmpY {cd : ClassFile.Cond} {x y : Int32} {o : Int} (hd : decode bytes pc = .ok (.if_icmp cd o, 3)) (hc : if_icmp.holds cd x y = true) (ho : 0 ≤ (pc : Int) + o) (hp : ((pc : Int) + o).toNat = pc') (nx : WP l Z C lay own mn bytes maxL ret R n0 ro Q k n pc' L S H) : WP l Z C lay own mn bytes maxL ret R n0 ro Q k n pc L (.int y :: .int x :: S) H :=
  WP.of (fun p e s m args below meth c T locs ad Ls X A hL hz => ⟨Ls, hL, hz, fun t ht => XS.icmpYes X.here A.1 rfl rfl (hb A.2.2.1 hd) rfl hc ho hp ht⟩) nx
theorem WP.icmpN {cd : ClassFile.Cond} {x y : Int32} {o : Int} (hd : decode bytes pc = .ok (.if_icmp cd o, 3)) (hc : if_icmp.holds cd x y = false) (nx : WP l Z C lay own mn bytes maxL ret R n0 ro Q k n (pc + 3) L S H) : WP l Z C lay own mn bytes maxL ret R n0 ro Q k n pc L (.int y :: .int x :: S) H :=
  WP.of (fun p e s m args below meth c T locs ad Ls X A hL hz => ⟨Ls, hL, hz, fun t ht => XS.icmpNo X.here A.1 rfl (hb A.2.2.1 hd) rfl hc ht⟩) nx
theorem WP.nonnull {i : Nat} {o : Int} (hd : decode bytes pc = .ok (.ifnonnull o, 3)) (ho : 0 ≤ (pc : Int) + o) (hp : ((pc : Int) + o).toNat = pc') (nx : WP l Z C lay own mn bytes maxL ret R n0 ro Q k n pc' L S H) : WP l Z C lay own mn bytes maxL ret R n0 ro Q k n pc L (.ref i :: S) H :=
  WP.of (fun p e s m args below meth c T locs ad Ls X A hL hz => ⟨Ls, hL, hz, fun t ht => XT.ifnonnullYes X.here A.1 rfl rfl (hb A.2.2.1 hd) rfl ho hp ht⟩) nx
theorem WP.tswIn {dflt low high o : Int} {offs : Array Int} {len : Nat} {i : Int32} (hd : decode bytes pc = .ok (.tableswitch dflt low high offs, len)) (hin : ¬ (i.toInt < low ∨ i.toInt > high)) (hoff : offs[(i.toInt - low).toNat]? = some o) (ho : 0 ≤ (pc : Int) + o) (hp : ((pc : Int) + o).toNat = pc') (nx : WP l Z C lay own mn bytes maxL ret R n0 ro Q k n pc' L S H) : WP l Z C lay own mn bytes maxL ret R n0 ro Q k n pc L (.int i :: S) H :=
  WP.of (fun p e s m args below meth c T locs ad Ls X A hL hz => ⟨Ls, hL, hz, fun t ht => XS.tswIn X.here A.1 rfl rfl (hb A.2.2.1 hd) rfl hin hoff ho hp ht⟩) nx
theorem WP.tswOut {dflt low high : Int} {offs : Array Int} {len : Nat} {i : Int32} (hd : decode bytes pc = .ok (.tableswitch dflt low high offs, len)) (hout : i.toInt < low ∨ i.toInt > high) (ho : 0 ≤ (pc : Int) + dflt) (hp : ((pc : Int) + dflt).toNat = pc') (nx : WP l Z C lay own mn bytes maxL ret R n0 ro Q k n pc' L S H) : WP l Z C lay own mn bytes maxL ret R n0 ro Q k n pc L (.int i :: S) H :=
  WP.of (fun p e s m args below meth c T locs ad Ls X A hL hz => ⟨Ls, hL, hz, fun t ht => XS.tswOut X.here A.1 rfl rfl (hb A.2.2.1 hd) rfl hout ho hp ht⟩) nx
theorem tsw_miss {i : Int32} {low high : Int} (h : ∀ z : Int, low ≤ z → z ≤ high → ¬ i = Int32.ofInt z) : i.toInt < low ∨ i.toInt > high := by
  by_cases a : i.toInt < low
  · exact Or.inl a
  · by_cases b : i.toInt > high
    · exact Or.inr b
    · exact absurd (by rw [Int32.ofInt_toInt]) (h i.toInt (by omega) (by omega))
theorem WP.moved (hs : ∀ (p : Program) (e : Env) (s : State) (m : MethodId) (args : Array Value) (below : List Frame) (meth : Method) (c : Code) (T : State) (locs : List Loc) (ad : Nat → Addr) (Ls : Array Slot), Stand p l e R s m args below meth c T locs k n → Am Z own mn bytes maxL ret p s m meth c → HR Z C lay n0 ro ad H T.heap → Fr n0 locs → LR ad L Ls → Ls.size = maxL →
      ∃ T' locs', Stand p l e R s m args below meth c T' locs' k' n' ∧ HR Z C lay n0 ro ad H' T'.heap ∧ Kp ad H.length T.heap T'.heap ∧ Fr n0 locs' ∧ ∀ t, Steps p.tables e below (T'.setTop (mkF m pc' Ls (S'.map (rf ad)))) t → Steps p.tables e below (T.setTop (mkF m pc Ls (S.map (rf ad)))) t)
    (nx : WP l Z C lay own mn bytes maxL ret R n0 ro Q k' n' pc' L S' H') : WP l Z C lay own mn bytes maxL ret R n0 ro Q k n pc L S H := by
  intro p e s m args below meth c T locs ad Ls X A hr N hL hz
  obtain ⟨T', locs', X', hr', K, N', st⟩ := hs p e s m args below meth c T locs ad Ls X A hr N hL hz
  obtain ⟨s₂, v, H2, locs2, h1, h2, h3, h4, h5, h6, h7⟩ := nx p e s m args below meth c T' locs' ad Ls X' A hr' N' hL hz
  exact ⟨s₂, v, H2, locs2, st _ h1, h2, h3, h4, h5, Kp.trans hr K h6, h7⟩
theorem WP.getfield {idx i j : Nat} {f d : String} {vs : List Value} {v : Value} (hd : decode bytes pc = .ok (.getfield idx, 3)) (hw : (Cond.fieldLink own idx C f d).before a0 Z = true) (hj : lay[j]? = some (f, d)) (hH : H[i]? = some (.inl vs)) (hv : vs[j]? = some v) (nx : WP l Z C lay own mn bytes maxL ret R n0 ro Q k n (pc + 3) L (v :: S) H) : WP l Z C lay own mn bytes maxL ret R n0 ro Q k n pc L (.ref i :: S) H :=
  WP.moved (fun p e s m args below meth c T locs ad Ls X A hr N hL hz => by
    have F := (hr.1 i _ hH).2 j _ v hj hv
    obtain ⟨T', X', e', st⟩ := getF X A.1 A.2.1 A.2.2.2.2.2.2.1 (host := "") (Or.inl hw) Via.refl rfl F (g := mkF m pc Ls (.ref (ad i) :: S.map (rf ad))) rfl rfl (hb A.2.2.1 hd)
    exact ⟨T', locs, X', by rw [e']; exact hr, by rw [e']; exact Kp.refl _ _ _, N, fun t ht => st t ht⟩) nx
theorem WP.iaload {i : Nat} {xs : List Int32} {j x : Int32} (hd : decode bytes pc = .ok (.iaload, 1)) (hH : H[i]? = some (cI xs)) (hx : rd xs j = some x) (nx : WP l Z C lay own mn bytes maxL ret R n0 ro Q k n (pc + 1) L (.int x :: S) H) : WP l Z C lay own mn bytes maxL ret R n0 ro Q k n pc L (.int j :: .ref i :: S) H :=
  WP.moved (fun p e s m args below meth c T locs ad Ls X A hr N hL hz => by
    obtain ⟨cl, Ar, hsl⟩ := hr.1 i _ hH
    obtain ⟨q1, q2⟩ := rd_slots hsl hx
    exact ⟨T, locs, X, hr, Kp.refl _ _ _, N, fun t ht => X.iaload A.1 (j := j) Ar.1 (State.isArrayOf_alike A.2.1.alike Ar.2.1) Ar.2.2 q1 q2 (g := mkF m pc Ls (.int j :: .ref (ad i) :: S.map (rf ad))) rfl rfl (hb A.2.2.1 hd) _ ht⟩) nx
theorem WP.laload {i : Nat} {xs : List Int64} {j : Int32} {x : Int64} (hd : decode bytes pc = .ok (.laload, 1)) (hH : H[i]? = some (cJ xs)) (hx : rd xs j = some x) (nx : WP l Z C lay own mn bytes maxL ret R n0 ro Q k n (pc + 1) L (.long x :: S) H) : WP l Z C lay own mn bytes maxL ret R n0 ro Q k n pc L (.int j :: .ref i :: S) H :=
  WP.moved (fun p e s m args below meth c T locs ad Ls X A hr N hL hz => by
    obtain ⟨cl, Ar, hsl⟩ := hr.1 i _ hH
    obtain ⟨q1, q2⟩ := rd_slots hsl hx
    exact ⟨T, locs, X, hr, Kp.refl _ _ _, N, fun t ht => X.laload A.1 (j := j) Ar.1 (State.isArrayOf_alike A.2.1.alike Ar.2.1) Ar.2.2 q1 q2 (g := mkF m pc Ls (.int j :: .ref (ad i) :: S.map (rf ad))) rfl rfl (hb A.2.2.1 hd) _ ht⟩) nx
theorem baloadZ {p : Program} {e : Env} {s : State} {m : MethodId} {args : Array Value} {below : List Frame} {meth : Method} {c : Code} {T : State} {locs : List Loc} {cells slots : Nat} (X : Stand p l e R s m args below meth c T locs cells slots) (hexec : p.tables.exec = Jvm.exec) {a : Addr} {cell : Cell} {j : Int32} {v : Value} (hcell : T.heap[a]? = some cell) (harr : s.isArrayOf cell .boolean) (hknown : cell.vm ≠ .unknown)
    (hin : ¬ (j < 0 ∨ cell.slots.size ≤ j.toNatClampNeg)) (hv : cell.slots[j.toNatClampNeg]? = some v) {g : JFrame} (hg : g.method = m) {rest : List Value} (hstack : g.stack = .int j :: .ref a :: rest) (hdg : decode c.code g.pc = .ok (.baload, 1)) (target : State)
    (hrest : Steps p.tables e below (T.setTop { g with pc := g.pc + 1, stack := v :: rest }) target) : Steps p.tables e below (T.setTop g) target := by
  have hT := State.isArrayOf_alike X.warmed.alike harr
  subst hg
  jvm_step X.here [hexec, hdg, baload.wp_booleans (e := e) (s := T) (f := g) X.here.top hstack hcell hT hin hknown hv]
  exact hrest
theorem WP.baload {i : Nat} {xs : List Int32} {j x : Int32} (hd : decode bytes pc = .ok (.baload, 1)) (hH : H[i]? = some (cZ xs)) (hx : rd xs j = some x) (nx : WP l Z C lay own mn bytes maxL ret R n0 ro Q k n (pc + 1) L (.int x :: S) H) : WP l Z C lay own mn bytes maxL ret R n0 ro Q k n pc L (.int j :: .ref i :: S) H :=
  WP.moved (fun p e s m args below meth c T locs ad Ls X A hr N hL hz => by
    obtain ⟨cl, Ar, hsl⟩ := hr.1 i _ hH
    obtain ⟨q1, q2⟩ := rd_slots hsl hx
    exact ⟨T, locs, X, hr, Kp.refl _ _ _, N, fun t ht => baloadZ X A.1 (j := j) Ar.1 (State.isArrayOf_alike A.2.1.alike Ar.2.1) Ar.2.2 q1 q2 (g := mkF m pc Ls (.int j :: .ref (ad i) :: S.map (rf ad))) rfl rfl (hb A.2.2.1 hd) _ ht⟩) nx
theorem WP.arraylength {i : Nat} {xs : List Int32} (hd : decode bytes pc = .ok (.arraylength, 1)) (hH : H[i]? = some (cI xs)) (nx : WP l Z C lay own mn bytes maxL ret R n0 ro Q k n (pc + 1) L (.int xs.length.toInt32 :: S) H) : WP l Z C lay own mn bytes maxL ret R n0 ro Q k n pc L (.ref i :: S) H :=
  WP.moved (fun p e s m args below meth c T locs ad Ls X A hr N hL hz => by
    obtain ⟨cl, Ar, hsl⟩ := hr.1 i _ hH
    have e1 : cl.slots.size = xs.length := by rw [← Array.length_toList, hsl, List.length_map]
    refine ⟨T, locs, X, hr, Kp.refl _ _ _, N, fun t ht => X.arraylength A.1 Ar.1 (State.isArrayOf_alike A.2.1.alike Ar.2.1) (g := mkF m pc Ls (.ref (ad i) :: S.map (rf ad))) rfl rfl (hb A.2.2.1 hd) _ ?_⟩
    rw [e1]; exact ht) nx
theorem WP.iastore {i : Nat} {xs xs' : List Int32} {j : Int32} {x : Int32} (hd : decode bytes pc = .ok (.iastore, 1)) (hH : H[i]? = some (cI xs)) (hi : ro ≤ i) (hx : wr xs j x = some xs') (hH' : H.set i (cI xs') = H') (nx : WP l Z C lay own mn bytes maxL ret R n0 ro Q k n (pc + 1) L S H') : WP l Z C lay own mn bytes maxL ret R n0 ro Q k n pc L (.int x :: .int j :: .ref i :: S) H :=
  WP.moved (fun p e s m args below meth c T locs ad Ls X A hr N hL hz => by
    obtain ⟨cl, Ar, hsl⟩ := hr.1 i _ hH
    obtain ⟨q1, q2⟩ := wr_slots hsl hx
    obtain ⟨T', h', X', e', w, st⟩ := stI X A.1 A.2.1 rfl Ar (j := j) (x := x) q1 (g := mkF m pc Ls (.int x :: .int j :: .ref (ad i) :: S.map (rf ad))) rfl rfl (hb A.2.2.1 hd)
    subst e'
    have hi' := get_lt hH
    have P := hr.put (h' := T'.heap) (c := cI xs') hi' w.size (fun a cz hne q => by
      obtain ⟨c', g1, -, -, -, g5, -⟩ := wr_at w q
      rw [g5 hne] at g1; exact g1) ⟨_, Ar.same w, q2⟩
    exact ⟨T', _, X', hH' ▸ P.1, P.2, Fr.snoc X' N (hr.2.2.2.1 i hi' hi), fun t ht => st t ht⟩) nx
theorem WP.lastore {i : Nat} {xs xs' : List Int64} {j : Int32} {x : Int64} (hd : decode bytes pc = .ok (.lastore, 1)) (hH : H[i]? = some (cJ xs)) (hi : ro ≤ i) (hx : wr xs j x = some xs') (hH' : H.set i (cJ xs') = H') (nx : WP l Z C lay own mn bytes maxL ret R n0 ro Q k n (pc + 1) L S H') : WP l Z C lay own mn bytes maxL ret R n0 ro Q k n pc L (.long x :: .int j :: .ref i :: S) H :=
  WP.moved (fun p e s m args below meth c T locs ad Ls X A hr N hL hz => by
    obtain ⟨cl, Ar, hsl⟩ := hr.1 i _ hH
    obtain ⟨q1, q2⟩ := wr_slots hsl hx
    obtain ⟨T', h', X', e', w, st⟩ := stJ X A.1 A.2.1 rfl Ar (j := j) (x := x) q1 (g := mkF m pc Ls (.long x :: .int j :: .ref (ad i) :: S.map (rf ad))) rfl rfl (hb A.2.2.1 hd)
    subst e'
    have hi' := get_lt hH
    have P := hr.put (h' := T'.heap) (c := cJ xs') hi' w.size (fun a cz hne q => by
      obtain ⟨c', g1, -, -, -, g5, -⟩ := wr_at w q
      rw [g5 hne] at g1; exact g1) ⟨_, Ar.same w, q2⟩
    exact ⟨T', _, X', hH' ▸ P.1, P.2, Fr.snoc X' N (hr.2.2.2.1 i hi' hi), fun t ht => st t ht⟩) nx
theorem WP.bastore {i : Nat} {xs xs' : List Int32} {j : Int32} {x : Int32} (hd : decode bytes pc = .ok (.bastore, 1)) (hH : H[i]? = some (cZ xs)) (hi : ro ≤ i) (hx : wr xs j (x &&& 1) = some xs') (hH' : H.set i (cZ xs') = H') (nx : WP l Z C lay own mn bytes maxL ret R n0 ro Q k n (pc + 1) L S H') : WP l Z C lay own mn bytes maxL ret R n0 ro Q k n pc L (.int x :: .int j :: .ref i :: S) H :=
  WP.moved (fun p e s m args below meth c T locs ad Ls X A hr N hL hz => by
    obtain ⟨cl, Ar, hsl⟩ := hr.1 i _ hH
    obtain ⟨q1, q2⟩ := wr_slots hsl hx
    obtain ⟨T', h', X', e', w, st⟩ := stZ X A.1 A.2.1 rfl Ar (j := j) (x := x) q1 (g := mkF m pc Ls (.int x :: .int j :: .ref (ad i) :: S.map (rf ad))) rfl rfl (hb A.2.2.1 hd)
    subst e'
    have hi' := get_lt hH
    have P := hr.put (h' := T'.heap) (c := cZ xs') hi' w.size (fun a cz hne q => by
      obtain ⟨c', g1, -, -, -, g5, -⟩ := wr_at w q
      rw [g5 hne] at g1; exact g1) ⟨_, Ar.same w, q2⟩
    exact ⟨T', _, X', hH' ▸ P.1, P.2, Fr.snoc X' N (hr.2.2.2.1 i hi' hi), fun t ht => st t ht⟩) nx
/-- a field of the one class is written -/
theorem WP.put {idx i j kk : Nat} {f d : String} {vs : List Value} {v v' old : Value} {ty : FieldType} (hd : decode bytes pc = .ok (.putfield idx, 3)) (hw : (Cond.fieldLink own idx C f d).before a0 Z = true) (hl : (Cond.lays C C f d).before a0 Z = true ∨ ((Cond.laysFinal C C f d).before a0 Z = true ∧ own = C ∧ mn = "<init>")) (wi : (Cond.instantiable C kk).before a0 Z = true)
    (hlay : ∀ (a b : Nat) (f g : String × String), lay[a]? = some f → lay[b]? = some g → a ≠ b → RoadKit.slotOf Z C f.1 f.2 ≠ RoadKit.slotOf Z C g.1 g.2) (hty : parseFieldDescriptor d = some ty) (hn : ∀ ad, narrow ty (rf ad v) = rf ad v') (hf : ∀ ad, fits ty (rf ad v') = true)
    (hj : lay[j]? = some (f, d)) (hH : H[i]? = some (.inl vs)) (hv : vs[j]? = some old) (hi : ro ≤ i) (hH' : H.set i (.inl (vs.set j v')) = H') (nx : WP l Z C lay own mn bytes maxL ret R n0 ro Q k n (pc + 3) L S H') : WP l Z C lay own mn bytes maxL ret R n0 ro Q k n pc L (v :: .ref i :: S) H :=
  WP.moved (fun p e s m args below meth c T locs ad Ls X A hr N hL hz => by
    obtain ⟨E, F⟩ := hr.1 i _ hH
    obtain ⟨T', h', X', e', w, st⟩ := putFN X A.1 A.2.1 A.2.2.2.2.2.2.1 hw Via.refl rfl (F j _ old hj hv) E (hl.imp id fun q => ⟨q.1, q.2.1, A.2.2.2.2.2.2.2.trans q.2.2⟩) wi hty (hn ad) (hf ad) (g := mkF m pc Ls (rf ad v :: .ref (ad i) :: S.map (rf ad))) rfl rfl (hb A.2.2.1 hd)
    subst e'
    have hi' := get_lt hH
    have P := hr.put (h' := T'.heap) (c := .inl (vs.set j v')) hi' w.size (fun a cz hne q => by
      obtain ⟨c', g1, -, -, -, g5, -⟩ := wr_at w q
      rw [g5 hne] at g1; exact g1) ⟨E.wr w, fun a g u hg hu => by
        rw [List.getElem?_set] at hu
        by_cases e : j = a
        · subst e
          cases hj.symm.trans hg
          rw [if_pos rfl, if_pos (get_lt hv)] at hu
          cases hu
          exact (F j _ old hj hv).same w
        · rw [if_neg e] at hu
          exact (F a g u hg hu).other w (Or.inr (hlay a j g (f, d) hg hj (Ne.symm e)))⟩
    exact ⟨T', _, X', hH' ▸ P.1, P.2, Fr.snoc X' N (hr.2.2.2.1 i hi' hi), fun t ht => st t ht⟩) nx
/-- newarray -/
theorem WP.newarray {aty : ArrayType} {c0 : OwnC} {cnt : Int32} (hd : decode bytes pc = .ok (.newarray aty, 2)) (hw : (Cond.arrayClass (newarray.typeOf aty)).before a0 Z = true) (hn : ¬ cnt < 0) (hb8 : cnt.toNatClampNeg * 8 ≤ 536870912) (hc : k + 1 ≤ R.cells) (hl : n + cnt.toNatClampNeg ≤ R.slots)
    (h0 : (aty = .int ∧ c0 = cI (List.replicate cnt.toNatClampNeg 0)) ∨ (aty = .long ∧ c0 = cJ (List.replicate cnt.toNatClampNeg 0)) ∨ (aty = .boolean ∧ c0 = cZ (List.replicate cnt.toNatClampNeg 0)))
    (nx : WP l Z C lay own mn bytes maxL ret R n0 ro Q (k + 1) (n + cnt.toNatClampNeg) (pc + 2) L (.ref H.length :: S) (H ++ [c0])) : WP l Z C lay own mn bytes maxL ret R n0 ro Q k n pc L (.int cnt :: S) H :=
  WP.moved (fun p e s m args below meth c T locs ad Ls X A hr N hL hz => by
    have hcb : componentBytes (newarray.typeOf aty) ≤ 8 := by cases aty <;> decide
    obtain ⟨cA, kA, comp, h1, h2, h3, X', st⟩ := X.newarrayPrim A.1 (mvA A.2.1 hw) (g := mkF m pc Ls (.int cnt :: S.map (rf ad))) rfl (hb A.2.2.1 hd) rfl hn (Nat.le_trans (Nat.mul_le_mul (Nat.le_refl _) hcb) hb8) hc hl
    rw [A.2.1.alike.findClass] at h1
    obtain ⟨kZ, z1, -⟩ := Vm.findClass_spec h1
    obtain ⟨k', z2, z3⟩ := A.2.1.alike.2.2 _ _ z1
    cases h2.symm.trans z2
    have hE : Ext T.heap (T.heap.push { cls := cA, slots := Array.replicate cnt.toNatClampNeg (defaultValue (newarray.typeOf aty)), vm := .none }) := ⟨by simp, fun a c h => by
      rw [Array.getElem?_push_lt (Array.getElem?_eq_some_iff.mp h).1]; exact (Array.getElem?_eq_getElem _).symm.trans h⟩
    have Ar : Arr Z (T.heap.push { cls := cA, slots := Array.replicate cnt.toNatClampNeg (defaultValue (newarray.typeOf aty)), vm := .none }) T.heap.size { cls := cA, slots := Array.replicate cnt.toNatClampNeg (defaultValue (newarray.typeOf aty)), vm := .none } (newarray.typeOf aty) :=
      ⟨by simp, ⟨by simp, kZ, z1, comp, by rw [← h3, z3]⟩, by simp⟩
    have hc0 : CelOk Z C lay ad (T.heap.push { cls := cA, slots := Array.replicate cnt.toNatClampNeg (defaultValue (newarray.typeOf aty)), vm := .none }) T.heap.size c0 := by
      rcases h0 with ⟨rfl, rfl⟩ | ⟨rfl, rfl⟩ | ⟨rfl, rfl⟩
      all_goals exact ⟨_, Ar, by simp [defaultValue, newarray.typeOf]⟩
    have P := hr.push (h' := T.heap.push _) (by simp) hE hc0
    refine ⟨_, locs, X', P.1, P.2.1, N, fun t ht => st t ?_⟩
    have e0 : (List.map (rf ad) (.ref H.length :: S)) = .ref T.heap.size :: S.map (rf ad) := by show (Value.ref (ad H.length) :: _) = _; rw [P.2.2]
    rw [e0] at ht; exact ht) nx
theorem rf_default (ad : Nat → Addr) (ty : FieldType) : rf ad (defaultValue ty) = defaultValue ty := by cases ty <;> rfl
/-- new -/
theorem WP.new {idx kk : Nat} {vs : List Value} (hd : decode bytes pc = .ok (.new idx, 3)) (hw : (Cond.classLink own idx C).before a0 Z = true) (wi : (Cond.instantiable C kk).before a0 Z = true) (wz : (Cond.initialized C).before a0 Z = true) (hc : k + 1 ≤ R.cells) (hl : n + kk ≤ R.slots)
    (h0 : ∀ (i : Nat) (f : String × String) (v : Value), lay[i]? = some f → vs[i]? = some v → Laid Z a0 C C f.1 f.2 ∧ ∃ ty, parseFieldDescriptor f.2 = some ty ∧ v = defaultValue ty)
    (nx : WP l Z C lay own mn bytes maxL ret R n0 ro Q (k + 1) (n + kk) (pc + 3) L (.ref H.length :: S) (H ++ [.inl vs])) : WP l Z C lay own mn bytes maxL ret R n0 ro Q k n pc L S H :=
  WP.moved (fun p e s m args below meth c T locs ad Ls X A hr N hL hz => by
    obtain ⟨vm', cC, kC, h1, h2, h3, h4, X', st⟩ := X.newCold A.1 A.2.2.2.2.2.2.1 (mv A.2.1 hw) (mv A.2.1 wi) (mv A.2.1 wz) (g := mkF m pc Ls (S.map (rf ad))) rfl (hb A.2.2.1 hd) hc hl
    rw [A.2.1.alike.findClass] at h1
    obtain ⟨kZ, z1, -⟩ := Vm.findClass_spec h1
    obtain ⟨k', z2, z3⟩ := A.2.1.alike.2.2 _ _ z1
    cases h2.symm.trans z2
    have ei : kC.instanceTypes = kZ.instanceTypes := by rw [z3]
    have hN : (T.heap.push { cls := cC, slots := kC.instanceTypes.map defaultValue, vm := .none })[T.heap.size]? = some { cls := cC, slots := kC.instanceTypes.map defaultValue, vm := .none } := by simp
    have hE : Ext T.heap (T.heap.push { cls := cC, slots := kC.instanceTypes.map defaultValue, vm := .none }) := ⟨by simp, fun a c h => by
      rw [Array.getElem?_push_lt (Array.getElem?_eq_some_iff.mp h).1]; exact (Array.getElem?_eq_getElem _).symm.trans h⟩
    have hc0 : CelOk Z C lay ad (T.heap.push { cls := cC, slots := kC.instanceTypes.map defaultValue, vm := .none }) T.heap.size (.inl vs) := by
      refine ⟨⟨_, kZ, hN, h1, z1, rfl, fun _ => by simp [ei]⟩, fun i f v hf hv => ?_⟩
      obtain ⟨La, ty, ht, rfl⟩ := h0 i f v hf hv
      obtain ⟨c1, k1, cf, kf, i1, f1, a1, a2, a3, a4, a5, a6, -⟩ := La.spec
      cases h1.symm.trans a1
      cases z1.symm.trans a2
      rw [rf_default]
      exact ⟨_, cf, kf, i1, f1, hN, a3, a4, by simp, rfl, a5, by simp [ei, a6, (State.fieldFound?_type a3 ht).2]⟩
    have P := hr.push (h' := T.heap.push _) (by simp) hE hc0
    refine ⟨_, locs, X', P.1, P.2.1, N, fun t ht => st t ?_⟩
    have e0 : (List.map (rf ad) (.ref H.length :: S)) = .ref T.heap.size :: S.map (rf ad) := by show (Value.ref (ad H.length) :: _) = _; rw [P.2.2]
    rw [e0] at ht; exact ht) nx
/-- Object.<init> -/
theorem WP.initO {idx i : Nat} (hd : decode bytes pc = .ok (.invokespecial idx, 3)) (w1 : (Cond.methodLink own idx Lib.objectInit).before a0 Z = true) (w2 : (Cond.instanceMethod Lib.objectInit).before a0 Z = true) (w3 : (Cond.code Lib.objectInit ⟨#[0xb1]⟩ 1 none).before a0 Z = true) (hf : 1 ≤ R.frames) (hl : (S.map fun v => v.category).sum + 12 ≤ R.locals)
    (nx : WP l Z C lay own mn bytes maxL ret R n0 ro Q k n (pc + 3) L S H) : WP l Z C lay own mn bytes maxL ret R n0 ro Q k n pc L (.ref i :: S) H :=
  WP.moved (fun p e s m args below meth c T locs ad Ls X A hr N hL hz => by
    obtain ⟨T', X', e', st⟩ := RoadKit.initO X A.1 A.2.1 A.2.2.2.2.2.2.1 w1 w2 w3 rfl (g := mkF m pc Ls (.ref (ad i) :: S.map (rf ad))) rfl (hz.trans A.2.2.2.1.symm) rfl (hb A.2.2.1 hd) hf (W := (S.map fun v => v.category).sum) (by show 2 * 0 + _ ≤ _; rw [rf_cats]; omega) hl
    exact ⟨T', locs, X', by rw [e']; exact hr, by rw [e']; exact Kp.refl _ _ _, N, fun t ht => st t ht⟩) nx
theorem WP.leave {v : Option Value} (hk : k ≤ R.cells) (hn : n ≤ R.slots) (hv : ret = none → v = none) (hq : Q v H)
    (hs : ∀ (p : Program) (e : Env) (s : State) (m : MethodId) (args : Array Value) (below : List Frame) (meth : Method) (c : Code) (T : State) (locs : List Loc) (ad : Nat → Addr) (Ls : Array Slot) (fs : List Frame), Stand p l e R s m args below meth c T locs k n → Am Z own mn bytes maxL ret p s m meth c →
      (∀ (f : JFrame) (acts : List Action), f.method = m → f.locked = none → f.entered = [] → (doReturn e (T.setTop f) acts (v.map (rf ad))).1 = T.setFrames fs) → Steps p.tables e below (T.setTop (mkF m pc Ls (S.map (rf ad)))) (T.setFrames fs)) : WP l Z C lay own mn bytes maxL ret R n0 ro Q k n pc L S H := by
  intro p e s m args below meth c T locs ad Ls X A hr N hL hz
  obtain ⟨fs, hr', hrun, hended, hW, hsame⟩ := X.leave (v := v.map (rf ad)) (fun q => by rw [hv (A.2.2.2.2.1.symm.trans q)]; rfl) A.2.2.2.2.2.1
  exact ⟨_, v, H, locs, hs p e s m args below meth c T locs ad Ls fs X A hr', hrun, hended, hq, hr, Kp.refl _ _ _, N, ⟨_, rfl⟩, hW, hsame.mono hk hn⟩
theorem retI' {p : Program} {e : Env} {s : State} {m : MethodId} {args : Array Value} {below : List Frame} {meth : Method} {c : Code} {T : State} {locs : List Loc} {cells slots : Nat} (X : Stand p l e R s m args below meth c T locs cells slots) (hx : p.tables.exec = Jvm.exec) {pc : Nat} {Ls : Array Slot} {z : Int32} {rest : List Value} (hret : meth.sig.returnType = some .int) (hd : decode c.code pc = .ok (.ireturn, 1)) {fs : List Frame}
    (hl : ∀ (f : JFrame) (acts : List Action), f.method = m → f.locked = none → f.entered = [] → (doReturn e (T.setTop f) acts (some (.int z))).1 = T.setFrames fs) : Steps p.tables e below (T.setTop (mkF m pc Ls (.int z :: rest))) (T.setFrames fs) := by
  have hm' : T.vm.method? m = some meth := X.method'
  have hn : narrow .int (.int z) = .int z := rfl
  show Steps p.tables e below (T.setTop { method := m, pc := pc, locals := Ls, stack := _ :: rest, locked := none }) _
  jvm_step X.here [X.here.top, hx, hd, hm', hret, hn]
  first | (intro acts; rw [hl _ acts rfl rfl rfl]) | rw [hl _ _ rfl rfl rfl]
  exact Steps.refl _
theorem WP.ireturn {x : Int32} (hd : decode bytes pc = .ok (.ireturn, 1)) (hret : ret = some .int) (hk : k ≤ R.cells) (hn : n ≤ R.slots) (hq : Q (some (.int x)) H) : WP l Z C lay own mn bytes maxL ret R n0 ro Q k n pc L (.int x :: S) H :=
  WP.leave (v := some (.int x)) hk hn (fun q => by rw [hret] at q; cases q) hq fun p e s m args below meth c T locs ad Ls fs X A hr' => retI' X A.1 (A.2.2.2.2.1.trans hret) (hb A.2.2.1 hd) hr'
theorem WP.zreturn {x : Int32} (hd : decode bytes pc = .ok (.ireturn, 1)) (hret : ret = some .boolean) (hk : k ≤ R.cells) (hn : n ≤ R.slots) (hq : Q (some (.int (x &&& 1))) H) : WP l Z C lay own mn bytes maxL ret R n0 ro Q k n pc L (.int x :: S) H :=
  WP.leave (v := some (.int (x &&& 1))) hk hn (fun q => by rw [hret] at q; cases q) hq fun p e s m args below meth c T locs ad Ls fs X A hr' => retN X A.1 (t := .boolean) (A.2.2.2.2.1.trans hret) (Or.inl rfl) (hb A.2.2.1 hd) hr'
theorem WP.lreturn {x : Int64} (hd : decode bytes pc = .ok (.lreturn, 1)) (hret : ret = some .long) (hk : k ≤ R.cells) (hn : n ≤ R.slots) (hq : Q (some (.long x)) H) : WP l Z C lay own mn bytes maxL ret R n0 ro Q k n pc L [.long x] H :=
  WP.leave (v := some (.long x)) hk hn (fun q => by rw [hret] at q; cases q) hq fun p e s m args below meth c T locs ad Ls fs X A hr' => X.lreturnOut A.1 (A.2.2.2.2.1.trans hret) (hb A.2.2.1 hd) hr'
theorem WP.vreturn (hd : decode bytes pc = .ok (.return_, 1)) (hret : ret = none) (hk : k ≤ R.cells) (hn : n ≤ R.slots) (hq : Q none H) : WP l Z C lay own mn bytes maxL ret R n0 ro Q k n pc L [] H :=
  WP.leave (v := none) hk hn (fun _ => rfl) hq fun p e s m args below meth c T locs ad Ls fs X A hr' => X.returnOut A.1 (A.2.2.2.2.1.trans hret) (hb A.2.2.1 hd) hr'
end Rules
/-! ## a callee's promise, said of the small view -/
def QQ (Z : State) (C : String) (lay : List (String × String)) (n0 ro : Nat) (ad : Nat → Addr) (N : Nat) (h : Heap) (Q : Option Value → List OwnC → Prop) (v : Option Value) (h' : Heap) (L : List Loc) : Prop :=
  ∃ w H', v = w.map (rf ad) ∧ Q w H' ∧ HR Z C lay n0 ro ad H' h' ∧ Kp ad N h h' ∧ Fr n0 L
def CS (l : Launch) (Z : State) (C : String) (lay : List (String × String)) (y : MethodName) (bytes : ByteArray) (maxL : Nat) (ret : Option FieldType) (R : Room) (ro : Nat) (as : List Value) (H : List OwnC) (Q : Option Value → List OwnC → Prop) : Prop :=
  ∀ (ws : List Cond) (n0 : Nat) (ad : Nat → Addr) (h : Heap), HR Z C lay n0 ro ad H h →
    MetFree l y (head1 (Cond.code y bytes maxL ret :: ws) R) (fun a U => a = (as.map (rf ad)).toArray ∧ Z.Warmed39 U.vm ∧ U.heap = h) (fun _ _ _ _ _ => True)
      (fun _ U o U' => ∃ v L, o = .returned v ∧ QQ Z C lay n0 ro ad H.length h Q v U'.heap L ∧ FrameEnd U o U' L R.cells R.slots)
section Calls
variable {l : Launch} {Z : State} {a0 : Array Value} {C : String} {lay : List (String × String)} {own mn : String} {bytes cb : ByteArray} {maxL cm : Nat} {ret cr : Option FieldType} {R Rc : Room} {n0 ro : Nat} {Q Qc : Option Value → List OwnC → Prop} {k n pc pc' : Nat} {L L' : List Slot} {S S0 as : List Value} {H H' : List OwnC} {y : MethodName}
theorem CS.of_wp (hx : plainName y.cls = true) (hn : (laid as).length ≤ maxL) (w : ∀ n0, WP l Z C lay y.cls y.name bytes maxL ret R n0 ro Q 0 0 0 (entL as maxL) [] H) : CS l Z C lay y bytes maxL ret R ro as H Q := by
  intro ws n0 ad h hr
  refine MetFree.of_bodySF (plainFor_of_name hx) hisR ?_
  intro p e s m args below meth c s₁ Bd hml0 hP hK
  obtain ⟨rfl, hZ, hh⟩ := hP
  have e0 : s₁.heap = h := by rw [← hh, Bd.state]; rfl
  obtain ⟨E1, E2⟩ := entry_LR ad as maxL hn
  obtain ⟨s₂, v, H', locs', h1, h2, h3, h4, h5, h6, h7, h8⟩ := w n0 p e s m _ below meth c s₁ [] ad _ (Stand.of_body Bd) ⟨Bd.exec, hZ, Bd.bytes, hml0, Bd.returns, Bd.notSynchronized, findClass_of_methodNamed Bd.named, (name_of_methodNamed Bd.named Bd.method).1⟩ (by rw [e0]; exact hr) (Fr.nil n0) E1 E2
  rw [e0] at h6
  exact ⟨s₂, _, h1, h2, h3, _, locs', rfl, ⟨v, H', rfl, h4, h5, h6, h7⟩, h8⟩
theorem CS.mono (cs : CS l Z C lay y bytes maxL ret R ro as H Q) (h : ∀ v H', Q v H' → Qc v H') : CS l Z C lay y bytes maxL ret R ro as H Qc := by
  intro ws n0 ad hh hr p e ha hc hk s m args below hf happ hP hK
  obtain ⟨N, o, h1, h2, h3, v, L, h4, ⟨w, H', g1, g2, g3⟩, h5⟩ := cs ws n0 ad hh hr p e ha hc hk s m args below hf happ hP hK
  exact ⟨N, o, h1, h2, h3, v, L, h4, ⟨w, H', g1, h _ _ g2, g3⟩, h5⟩
/-- what every call leaves: the walk goes on behind it -/
theorem go_on {p : Program} {e : Env} {s : State} {m : MethodId} {args : Array Value} {below : List Frame} {meth : Method} {c : Code} {T : State} {locs : List Loc} {ad : Nat → Addr} {Ls : Array Slot} {B : Pt} {v : Option Value} {Lc : List Loc} {s₀ : State}
    (nx : ∀ v H', Qc v H' → WP l Z C lay own mn bytes maxL ret R n0 ro Q (k + Rc.cells) (n + Rc.slots) (pc + 3) L (v.toList ++ S) H') (X : Stand p l e R s m args below meth c B.U B.locs B.cells B.slots) (A : Am Z own mn bytes maxL ret p s m meth c) (hr : HR Z C lay n0 ro ad H T.heap) (N : Fr n0 locs) (hL : LR ad L Ls) (hz : Ls.size = maxL)
    (hQ : QQ Z C lay n0 ro ad H.length T.heap Qc v B.U.heap Lc) (e1 : B.locs = locs ++ Lc) (e2 : B.cells = k + Rc.cells) (e3 : B.slots = n + Rc.slots) (st : Steps p.tables e below s₀ (B.U.setTop (mkF m (pc + 3) Ls (v.toList ++ S.map (rf ad))))) :
    ∃ (s₂ : State) (v : Option Value) (H' : List OwnC) (locs' : List Loc), Steps p.tables e below s₀ s₂ ∧ s₂.status = .running ∧ Ended s₂ below (.returned (v.map (rf ad))) ∧ Q v H' ∧ HR Z C lay n0 ro ad H' s₂.heap ∧ Kp ad H.length T.heap s₂.heap ∧ Fr n0 locs' ∧ FrameEnd s (.returned (v.map (rf ad))) s₂ locs' R.cells R.slots := by
  obtain ⟨w, H1, rfl, g2, g3, g4, g5⟩ := hQ
  rw [e1, e2, e3] at X
  obtain ⟨s₂, v, H2, locs2, h1, h2, h3, h4, h5, h6, h7⟩ := nx w H1 g2 p e s m args below meth c B.U _ ad Ls X A g3 (N.app g5) hL hz
  refine ⟨s₂, v, H2, locs2, st.trans ?_, h2, h3, h4, h5, Kp.trans hr g4 h6, h7⟩
  have e0 : (w.toList ++ S).map (rf ad) = (w.map (rf ad)).toList ++ S.map (rf ad) := by cases w <;> rfl
  rw [← e0]; exact h1
theorem stack_of (ad : Nat → Addr) (h : S0 = as.reverse ++ S) : S0.map (rf ad) = (as.map (rf ad)).reverse ++ S.map (rf ad) := by rw [h, List.map_append, List.map_reverse]
theorem stack_of1 {i : Nat} (ad : Nat → Addr) (h : S0 = as.reverse ++ .ref i :: S) : S0.map (rf ad) = (as.map (rf ad)).reverse ++ .ref (ad i) :: S.map (rf ad) := by rw [h, List.map_append, List.map_reverse]; rfl
theorem WP.callS {idx : Nat} (hd : decode bytes pc = .ok (.invokestatic idx, 3)) (w1 : (Cond.methodLink own idx y).before a0 Z = true) (w2 : (Cond.static y).before a0 Z = true) (w3 : (Cond.initialized y.cls).before a0 Z = true) (w4 : (Cond.code y cb cm cr).before a0 Z = true) (hy : y.cls ≠ "java/lang/invoke/MethodHandle" ∧ y.cls ≠ "java/lang/invoke/VarHandle")
    (cs : CS l Z C lay y cb cm cr Rc ro as H Qc) (hS : S0 = as.reverse ++ S) (hlen : ∀ sig, parseMethodDescriptor y.desc = some sig → as.length = sig.parameters.length) (hf : Rc.frames + 1 ≤ R.frames) (hl : (S.map fun v => v.category).sum + (cm + 11) + Rc.locals ≤ R.locals) (hc : k + Rc.cells ≤ R.cells) (hs : n + Rc.slots ≤ R.slots)
    (nx : ∀ v H', Qc v H' → WP l Z C lay own mn bytes maxL ret R n0 ro Q (k + Rc.cells) (n + Rc.slots) (pc + 3) L (v.toList ++ S) H') : WP l Z C lay own mn bytes maxL ret R n0 ro Q k n pc L S0 H := by
  intro p e s m args below meth c T locs ad Ls X A hr N hL hz
  obtain ⟨v, vm₁, B, hW₁, X', ⟨Lc, hQ, e1, e2, e3⟩, st⟩ := Jvm.LawKit.callS X A.1 (y := y) A.2.2.2.2.2.2.1 (mvT A.2.1 w1) (mvT A.2.1 w2) (mvT A.2.1 w3) (mvT A.2.1 w4) hy
    (backOf (W := (S.map fun v => v.category).sum) (cs [] n0 ad T.heap hr) A.2.1 w4 w3 hf hl) (g := mkF m pc Ls (S0.map (rf ad))) rfl (hz.trans A.2.2.2.1.symm) (argsL := as.map (rf ad)) (rest := S.map (rf ad)) (fun sig q => by rw [List.length_map]; exact hlen sig q) (stack_of ad hS) (by show 2 * 0 + _ ≤ _; rw [rf_cats]; omega) (hb A.2.2.1 hd) (fun _ _ => ⟨rfl, rfl, hc, hs⟩)
  exact go_on (T := T) nx X' A hr N hL hz hQ e1 e2 e3 (st _ (Steps.refl _))
theorem WP.callV {idx i : Nat} {vs : List Value} (hd : decode bytes pc = .ok (.invokevirtual idx, 3)) (w1 : (Cond.methodLink own idx y).before a0 Z = true) (w2 : (Cond.declares y).before a0 Z = true) (w3 : (Cond.selects C y y).before a0 Z = true) (w4 : (Cond.instanceMethod y).before a0 Z = true) (w5 : (Cond.code y cb cm cr).before a0 Z = true) (w6 : (Cond.initialized y.cls).before a0 Z = true) (hy : y.cls ≠ "java/lang/invoke/MethodHandle" ∧ y.cls ≠ "java/lang/invoke/VarHandle")
    (hH : H[i]? = some (.inl vs)) (cs : CS l Z C lay y cb cm cr Rc ro (.ref i :: as) H Qc) (hS : S0 = as.reverse ++ .ref i :: S) (hlen : ∀ sig, parseMethodDescriptor y.desc = some sig → as.length = sig.parameters.length) (hf : Rc.frames + 1 ≤ R.frames) (hl : (S.map fun v => v.category).sum + (cm + 11) + Rc.locals ≤ R.locals) (hc : k + Rc.cells ≤ R.cells) (hs : n + Rc.slots ≤ R.slots)
    (nx : ∀ v H', Qc v H' → WP l Z C lay own mn bytes maxL ret R n0 ro Q (k + Rc.cells) (n + Rc.slots) (pc + 3) L (v.toList ++ S) H') : WP l Z C lay own mn bytes maxL ret R n0 ro Q k n pc L S0 H := by
  intro p e s m args below meth c T locs ad Ls X A hr N hL hz
  obtain ⟨cq, kq, qa, qb, qc⟩ := isOf A.2.1 rfl (hr.1 i _ hH).1
  obtain ⟨v, vm₁, B, hW₁, X', ⟨Lc, hQ, e1, e2, e3⟩, st⟩ := X.virtualBack A.1 (y := y) (z := y) A.2.2.2.2.2.2.1 (mvT A.2.1 w1) (mvT A.2.1 w2) (notFace_of_selects (args := #[]) (mvT A.2.1 w3)) (mvT A.2.1 w3) (mvT A.2.1 w4) hy
    (backOf (W := (S.map fun v => v.category).sum) (cs [] n0 ad T.heap hr) A.2.1 w5 w6 hf hl) qa qc (g := mkF m pc Ls (S0.map (rf ad))) rfl (hz.trans A.2.2.2.1.symm) (Steps.refl _) (argsL := as.map (rf ad)) (rest := S.map (rf ad)) (fun sig q => by rw [List.length_map]; exact hlen sig q) (stack_of1 ad hS) (by show 2 * 0 + _ ≤ _; rw [rf_cats]; omega) (hb A.2.2.1 hd) (fun _ _ => ⟨rfl, rfl, hc, hs⟩)
  exact go_on (T := T) nx X' A hr N hL hz hQ e1 e2 e3 st
theorem WP.callP {idx i kk : Nat} {vs : List Value} (hd : decode bytes pc = .ok (.invokevirtual idx, 3)) (w1 : (Cond.methodLink own idx y).before a0 Z = true) (w2 : (Cond.privateMethod y).before a0 Z = true) (wi : (Cond.instantiable y.cls kk).before a0 Z = true) (w4 : (Cond.instanceMethod y).before a0 Z = true) (w5 : (Cond.code y cb cm cr).before a0 Z = true) (w6 : (Cond.initialized y.cls).before a0 Z = true) (hy : y.cls ≠ "java/lang/invoke/MethodHandle" ∧ y.cls ≠ "java/lang/invoke/VarHandle")
    (hH : H[i]? = some (.inl vs)) (cs : CS l Z C lay y cb cm cr Rc ro (.ref i :: as) H Qc) (hS : S0 = as.reverse ++ .ref i :: S) (hlen : ∀ sig, parseMethodDescriptor y.desc = some sig → as.length = sig.parameters.length) (hf : Rc.frames + 1 ≤ R.frames) (hl : (S.map fun v => v.category).sum + (cm + 11) + Rc.locals ≤ R.locals) (hc : k + Rc.cells ≤ R.cells) (hs : n + Rc.slots ≤ R.slots)
    (nx : ∀ v H', Qc v H' → WP l Z C lay own mn bytes maxL ret R n0 ro Q (k + Rc.cells) (n + Rc.slots) (pc + 3) L (v.toList ++ S) H') : WP l Z C lay own mn bytes maxL ret R n0 ro Q k n pc L S0 H := by
  intro p e s m args below meth c T locs ad Ls X A hr N hL hz
  obtain ⟨cq, q, q'⟩ := (hr.1 i _ hH).1.cell
  have hpr : s.PrivateAt y := Cond.privateMethod_at (mvP A.2.1 w2 (args := #[]))
  have hin : (Cond.instanceMethod y).before args s = true := mvT A.2.1 w4
  have hsel : (Cond.selects y.cls y y).before args s = true := by
    have wi' : (Cond.instantiable y.cls kk).before args s = true := mvT A.2.1 wi
    obtain ⟨c1, k1, g1, g2, g3, g4, -⟩ := Cond.instantiable_spec wi'
    have g5 : k1.isInterface = false := by
      cases hq : k1.isInterface
      · rfl
      · rw [hq] at g4; cases g4
    exact selects_self_of_private g1 g2 g5 hpr hin hy
  obtain ⟨v, vm₁, B, hW₁, X', ⟨Lc, hQ, e1, e2, e3⟩, st⟩ := X.privateBack A.1 (y := y) A.2.2.2.2.2.2.1 (mvT A.2.1 w1) hin hsel hpr (mvT A.2.1 w5) hy
    (backOf (W := (S.map fun v => v.category).sum) (cs [] n0 ad T.heap hr) A.2.1 w5 w6 hf hl) (g := mkF m pc Ls (S0.map (rf ad))) rfl (hz.trans A.2.2.2.1.symm) (Steps.refl _) q q' (argsL := as.map (rf ad)) (rest := S.map (rf ad)) (fun sig q => by rw [List.length_map]; exact hlen sig q) (stack_of1 ad hS) (by show 2 * 0 + _ ≤ _; rw [rf_cats]; omega) (hb A.2.2.1 hd) (fun _ _ => ⟨rfl, rfl, hc, hs⟩)
  exact go_on (T := T) nx X' A hr N hL hz hQ e1 e2 e3 st
theorem WP.callI {idx i : Nat} (hd : decode bytes pc = .ok (.invokespecial idx, 3)) (hn1 : y.name = "<init>") (w1 : (Cond.methodLink own idx y).before a0 Z = true) (w4 : (Cond.instanceMethod y).before a0 Z = true) (w5 : (Cond.code y cb cm none).before a0 Z = true) (w6 : (Cond.initialized y.cls).before a0 Z = true) (hy : y.cls ≠ "java/lang/invoke/MethodHandle" ∧ y.cls ≠ "java/lang/invoke/VarHandle")
    (cs : CS l Z C lay y cb cm none Rc ro (.ref i :: as) H Qc) (hS : S0 = as.reverse ++ .ref i :: S) (hlen : ∀ sig, parseMethodDescriptor y.desc = some sig → as.length = sig.parameters.length) (hf : Rc.frames + 1 ≤ R.frames) (hl : (S.map fun v => v.category).sum + (cm + 11) + Rc.locals ≤ R.locals) (hc : k + Rc.cells ≤ R.cells) (hs : n + Rc.slots ≤ R.slots)
    (nx : ∀ v H', Qc v H' → WP l Z C lay own mn bytes maxL ret R n0 ro Q (k + Rc.cells) (n + Rc.slots) (pc + 3) L (v.toList ++ S) H') : WP l Z C lay own mn bytes maxL ret R n0 ro Q k n pc L S0 H := by
  intro p e s m args below meth c T locs ad Ls X A hr N hL hz
  obtain ⟨v, vm₁, B, hW₁, X', ⟨Lc, hQ, e1, e2, e3⟩, st⟩ := X.specialBack A.1 (y := y) hn1 A.2.2.2.2.2.2.1 (mvT A.2.1 w1) (mvT A.2.1 w4) (mvT A.2.1 w5) hy
    (backOf (W := (S.map fun v => v.category).sum) (cs [] n0 ad T.heap hr) A.2.1 w5 w6 hf hl) (g := mkF m pc Ls (S0.map (rf ad))) rfl (hz.trans A.2.2.2.1.symm) (Steps.refl _) (a := ad i) (argsL := as.map (rf ad)) (rest := S.map (rf ad)) (fun sig q => by rw [List.length_map]; exact hlen sig q) (stack_of1 ad hS) (by show 2 * 0 + _ ≤ _; rw [rf_cats]; omega) (hb A.2.2.1 hd) (fun _ _ => ⟨rfl, rfl, hc, hs⟩)
  exact go_on (T := T) nx X' A hr N hL hz hQ e1 e2 e3 st
end Calls
/-! ## a callee that sees a part of the heap -/
def rn (ρ : Nat → Nat) : Value → Value
  | .ref i => .ref (ρ i)
  | .int x => .int x
  | .long x => .long x
  | .float x => .float x
  | .double x => .double x
  | .null => .null
  | .retAddr x => .retAddr x
theorem rf_rn (ad : Nat → Addr) (ρ : Nat → Nat) (v : Value) : rf ad (rn ρ v) = rf (fun j => ad (ρ j)) v := by cases v <;> rfl
def rnC (ρ : Nat → Nat) : OwnC → OwnC
  | .inl vs => .inl (vs.map (rn ρ))
  | .inr x => .inr x
theorem CelOk_rn {Z : State} {C : String} {lay : List (String × String)} {ad : Nat → Addr} {ρ : Nat → Nat} {h : Heap} {a : Addr} {c : OwnC} : CelOk Z C lay ad h a (rnC ρ c) ↔ CelOk Z C lay (fun j => ad (ρ j)) h a c := by
  rcases c with vs | xs | xs | xs
  · constructor
    · rintro ⟨E, F⟩
      refine ⟨E, fun i f v hf hv => ?_⟩
      have := F i f (rn ρ v) hf (by rw [List.getElem?_map, hv]; rfl)
      rwa [rf_rn] at this
    · rintro ⟨E, F⟩
      refine ⟨E, fun i f v hf hv => ?_⟩
      rw [List.getElem?_map] at hv
      obtain ⟨w, hw, rfl⟩ := Option.map_eq_some_iff.mp hv
      rw [rf_rn]; exact F i f w hf hw
  all_goals exact Iff.rfl
def patch (ρ : Nat → Nat) : List Nat → List OwnC → List OwnC → List OwnC
  | [], D, H => H ++ D.map (rnC ρ)
  | i :: is, c :: D, H => patch ρ is D (H.set i (rnC ρ c))
  | _ :: _, [], H => H
theorem patch_seg (ρ : Nat → Nat) : ∀ (D B A C : List OwnC), B.length = D.length → patch ρ (List.range' A.length D.length) D (A ++ (B ++ C)) = A ++ (D.map (rnC ρ) ++ C)
  | [], B, A, C, h => by
    obtain rfl : B = [] := List.eq_nil_of_length_eq_zero h
    simp [patch]
  | d :: D, [], A, C, h => by simp at h
  | d :: D, b :: B, A, C, h => by
    have h' : B.length = D.length := by simpa using h
    have ih := patch_seg ρ D B (A ++ [rnC ρ d]) C h'
    rw [List.length_append] at ih
    show patch ρ (List.range' (A.length + 1) D.length) D ((A ++ (b :: B ++ C)).set A.length (rnC ρ d)) = _
    rw [List.set_append_right _ _ (Nat.le_refl _), Nat.sub_self]
    simpa using ih
theorem patch_len (ρ : Nat → Nat) : ∀ (foot : List Nat) (D H : List OwnC), foot.length ≤ D.length → (patch ρ foot D H).length = H.length + (D.length - foot.length)
  | [], D, H, _ => by simp [patch]
  | i :: is, [], H, h => by simp at h
  | i :: is, c :: D, H, h => by
    show (patch ρ is D (H.set i (rnC ρ c))).length = _
    rw [patch_len ρ is D _ (by simpa using h)]; simp
theorem patch_out (ρ : Nat → Nat) : ∀ (foot : List Nat) (D H : List OwnC) (i : Nat), i < H.length → i ∉ foot → (patch ρ foot D H)[i]? = H[i]?
  | [], D, H, i, hi, _ => by simp [patch, List.getElem?_append_left hi]
  | j :: is, [], H, i, _, _ => rfl
  | j :: is, c :: D, H, i, hi, hn => by
    show (patch ρ is D (H.set j (rnC ρ c)))[i]? = _
    rw [patch_out ρ is D _ i (by simpa using hi) (fun q => hn (List.mem_cons_of_mem _ q)), List.getElem?_set_ne (fun q => hn (by rw [q]; exact List.mem_cons_self ..))]
theorem patch_new (ρ : Nat → Nat) : ∀ (foot : List Nat) (D H : List OwnC) (t : Nat), foot.length ≤ D.length → (patch ρ foot D H)[H.length + t]? = (D[foot.length + t]?).map (rnC ρ)
  | [], D, H, t, _ => by simp [patch, List.getElem?_append_right (Nat.le_add_right _ _)]
  | i :: is, [], H, _, h => by simp at h
  | i :: is, c :: D, H, t, h => by
    show (patch ρ is D (H.set i (rnC ρ c)))[H.length + t]? = _
    have := patch_new ρ is D (H.set i (rnC ρ c)) t (by simpa using h)
    rw [List.length_set] at this
    rw [this]; simp [Nat.add_right_comm _ 1 t]
theorem patch_in (ρ : Nat → Nat) : ∀ (foot : List Nat) (D H : List OwnC) (j i : Nat), foot.Nodup → (∀ x ∈ foot, x < H.length) → foot[j]? = some i → foot.length ≤ D.length → (patch ρ foot D H)[i]? = (D[j]?).map (rnC ρ)
  | [], D, H, j, i, _, _, h, _ => by simp at h
  | x :: is, [], H, j, i, _, _, _, h => by simp at h
  | x :: is, c :: D, H, 0, i, nd, hl, h, _ => by
    obtain rfl : x = i := by simpa using h
    show (patch ρ is D (H.set x (rnC ρ c)))[x]? = _
    rw [patch_out ρ is D _ x (by simpa using hl x (List.mem_cons_self ..)) (List.nodup_cons.mp nd).1]
    simp [hl x (List.mem_cons_self ..)]
  | x :: is, c :: D, H, j + 1, i, nd, hl, h, hd => by
    show (patch ρ is D (H.set x (rnC ρ c)))[i]? = _
    rw [patch_in ρ is D _ j i (List.nodup_cons.mp nd).2 (fun y hy => by simpa using hl y (List.mem_cons_of_mem _ hy)) (by simpa using h) (by simpa using hd)]
    simp
def ro1 (foot : List Nat) (N : Nat) (j : Nat) : Nat := if j < foot.length then foot.getD j 0 else N + (j - foot.length)
theorem ro1_in {foot : List Nat} {N j i : Nat} (h : foot[j]? = some i) : ro1 foot N j = i := by
  have hj := get_lt h
  unfold ro1
  rw [if_pos hj, List.getD_eq_getElem?_getD, h]; rfl
theorem ro1_new (foot : List Nat) (N t : Nat) : ro1 foot N (foot.length + t) = N + t := by
  unfold ro1
  rw [if_neg (by omega)]; omega
theorem CS.frame {l : Launch} {Z : State} {C : String} {lay : List (String × String)} {y : MethodName} {bytes : ByteArray} {maxL : Nat} {ret : Option FieldType} {R : Room} {ro roc : Nat} {as asc : List Value} {H Hc : List OwnC} {Qc : Option Value → List OwnC → Prop} (foot : List Nat)
    (cs : CS l Z C lay y bytes maxL ret R roc asc Hc Qc) (hlen : Hc.length = foot.length) (hnd : foot.Nodup) (hlt : ∀ x ∈ foot, x < H.length) (hcell : foot.map (fun i => H[i]?) = Hc.map (fun c => some (rnC (ro1 foot H.length) c))) (hro : ∀ x ∈ foot.drop roc, ro ≤ x) (has : asc.map (rn (ro1 foot H.length)) = as) :
    CS l Z C lay y bytes maxL ret R ro as H (fun v H' => ∃ vc D, Qc vc D ∧ v = vc.map (rn (ro1 foot H.length)) ∧ H' = patch (ro1 foot H.length) foot D H) := by
  intro ws n0 ad h hr
  obtain ⟨r1, r2, r3, r4, r5⟩ := hr
  have cellAt : ∀ (j i : Nat), foot[j]? = some i → ∃ c, Hc[j]? = some c ∧ H[i]? = some (rnC (ro1 foot H.length) c) := fun j i hj => by
    have h1 : (foot.map (fun i => H[i]?))[j]? = some H[i]? := by rw [List.getElem?_map, hj]; rfl
    rw [hcell, List.getElem?_map] at h1
    obtain ⟨c, e1, e2⟩ := Option.map_eq_some_iff.mp h1
    exact ⟨c, e1, e2.symm⟩
  have idx : ∀ j : Nat, j < foot.length → ∃ i, foot[j]? = some i ∧ i < H.length := fun j hj => ⟨_, List.getElem?_eq_getElem hj, hlt _ (List.getElem_mem hj)⟩
  have hrc : HR Z C lay n0 roc (fun j => ad (ro1 foot H.length j)) Hc h := by
    refine ⟨fun j c hj => ?_, fun i j hi hj q => ?_, fun t => ?_, fun j hj hr => ?_, r5⟩
    · obtain ⟨i, e1, e2⟩ := idx j (hlen ▸ get_lt hj)
      obtain ⟨c', g1, g2⟩ := cellAt j i e1
      cases g1.symm.trans hj
      show CelOk Z C lay (fun j => ad (ro1 foot H.length j)) h (ad (ro1 foot H.length j)) c
      rw [ro1_in e1]
      exact CelOk_rn.mp (r1 i _ g2)
    · rw [hlen] at hi hj
      obtain ⟨i', e1, e2⟩ := idx i hi
      obtain ⟨j', g1, g2⟩ := idx j hj
      dsimp only at q
      rw [ro1_in e1, ro1_in g1] at q
      have q' := r2 _ _ e2 g2 q
      subst q'
      exact (List.getElem?_inj hi hnd).mp (e1.trans g1.symm)
    · dsimp only
      rw [hlen, ro1_new]; exact r3 t
    · rw [hlen] at hj
      obtain ⟨i', e1, e2⟩ := idx j hj
      dsimp only
      rw [ro1_in e1]; refine r4 _ e2 (hro i' (List.mem_of_getElem? (i := j - roc) ?_)); rw [List.getElem?_drop, Nat.add_sub_cancel' hr]; exact e1
  intro p e ha hc hk s m args below hf happ hP hK
  have eas : (asc.map (rf fun j => ad (ro1 foot H.length j))) = as.map (rf ad) := by
    rw [← has, List.map_map]; congr 1; funext v; exact (rf_rn ad _ v).symm
  obtain ⟨N, o, h1, h2, h3, v, L, h4, ⟨w, D, rfl, g2, g3, g4, g5⟩, h5⟩ := cs ws n0 _ h hrc p e ha hc hk s m args below hf happ (by rw [eas]; exact hP) hK
  refine ⟨N, o, h1, h2, h3, _, L, h4, ⟨w.map (rn (ro1 foot H.length)), patch (ro1 foot H.length) foot D H, ?_, ⟨w, D, g2, rfl, rfl⟩, ?_, ?_, g5⟩, h5⟩
  · cases w with
    | none => rfl
    | some w => exact congrArg some (rf_rn ad _ w).symm
  · generalize hU : (stepsAlone p.tables e N s).heap = h' at g3 g4
    obtain ⟨d1, d2, d3, d4, d5⟩ := g3
    have hD : foot.length ≤ D.length := by
      by_cases q : foot.length ≤ D.length
      · exact q
      · exfalso
        obtain ⟨i, e1, e2⟩ := idx D.length (by omega)
        have z := d3 0
        simp only [Nat.add_zero] at z
        rw [ro1_in e1] at z
        obtain ⟨c', -, g2'⟩ := cellAt _ i e1
        have a1 := (r1 i _ g2').lt
        rw [z] at a1
        exact absurd a1 (Nat.not_lt.mpr g4.1)
    have hPl := patch_len (ro1 foot H.length) foot D H hD
    have old : ∀ i, i < H.length → ad i < h.size := fun i hi => (r1 i _ (List.getElem?_eq_getElem hi)).lt
    have new : ∀ i, H.length ≤ i → h.size ≤ ad i := fun i hi => by
      obtain ⟨t, rfl⟩ := Nat.exists_eq_add_of_le hi
      rw [r3 t]; exact Nat.le_add_right _ _
    refine ⟨fun i c hi => ?_, fun i j hi hj q => ?_, fun t => ?_, fun i hi hr => ?_, Nat.le_trans r5 g4.1⟩
    · by_cases hl : i < H.length
      · by_cases hm : i ∈ foot
        · obtain ⟨j, hj⟩ := List.getElem?_of_mem hm
          rw [patch_in _ foot D H j i hnd hlt hj hD] at hi
          obtain ⟨c', e1, rfl⟩ := Option.map_eq_some_iff.mp hi
          have := d1 j c' e1
          dsimp only at this
          rw [ro1_in hj] at this
          exact CelOk_rn.mpr this
        · rw [patch_out _ foot D H i hl hm] at hi
          refine (r1 i c hi).keep fun cz q => g4.2 _ cz q fun j hj q' => ?_
          rw [hlen] at hj
          obtain ⟨i', e1, e2⟩ := idx j hj
          dsimp only at q'
          rw [ro1_in e1] at q'
          have := r2 _ _ e2 hl q'
          subst this
          exact hm (List.mem_of_getElem? e1)
      · obtain ⟨t, rfl⟩ := Nat.exists_eq_add_of_le (Nat.le_of_not_lt hl)
        rw [patch_new _ foot D H t hD] at hi
        obtain ⟨c', e1, rfl⟩ := Option.map_eq_some_iff.mp hi
        have := d1 _ c' e1
        dsimp only at this
        rw [ro1_new] at this
        exact CelOk_rn.mpr this
    · by_cases a1 : i < H.length
      · by_cases a2 : j < H.length
        · exact r2 _ _ a1 a2 q
        · have b1 := old i a1
          rw [q] at b1
          exact absurd b1 (Nat.not_lt.mpr (new j (Nat.le_of_not_lt a2)))
      · by_cases a2 : j < H.length
        · have b1 := new i (Nat.le_of_not_lt a1)
          rw [q] at b1
          exact absurd (old j a2) (Nat.not_lt.mpr b1)
        · obtain ⟨t, rfl⟩ := Nat.exists_eq_add_of_le (Nat.le_of_not_lt a1)
          obtain ⟨t', rfl⟩ := Nat.exists_eq_add_of_le (Nat.le_of_not_lt a2)
          rw [r3, r3] at q; exact congrArg (H.length + ·) (Nat.add_left_cancel q)
    · have z := d3 t
      dsimp only at z
      have e1 : D.length + t = foot.length + (D.length - foot.length + t) := by omega
      rw [e1, ro1_new] at z
      rw [hPl, Nat.add_assoc]; exact z
    · by_cases a1 : i < H.length
      · exact r4 i a1 hr
      · exact Nat.le_trans r5 (new i (Nat.le_of_not_lt a1))
  · refine ⟨g4.1, fun a cz hz hn => g4.2 a cz hz fun j hj q => ?_⟩
    rw [hlen] at hj
    obtain ⟨i', e1, e2⟩ := idx j hj
    dsimp only at q
    rw [ro1_in e1] at q
    exact hn i' e2 q
/-! ## an object's state: ints (and booleans), longs, int[] (and boolean[]), long[], each by a number -/
abbrev St : Type := (Nat → Int32) × (Nat → Int64) × (Nat → List Int32) × (Nat → List Int64)
def upd {α : Type} (f : Nat → α) (i : Nat) (v : α) : Nat → α := fun j => if j = i then v else f j
def gI (s : St) (i : Nat) : Int32 := s.1 i
def gJ (s : St) (i : Nat) : Int64 := s.2.1 i
def gA (s : St) (i : Nat) : List Int32 := s.2.2.1 i
def gB (s : St) (i : Nat) : List Int64 := s.2.2.2 i
def sI (s : St) (i : Nat) (v : Int32) : St := (upd s.1 i v, s.2.1, s.2.2.1, s.2.2.2)
def sJ (s : St) (i : Nat) (v : Int64) : St := (s.1, upd s.2.1 i v, s.2.2.1, s.2.2.2)
def sA (s : St) (i : Nat) (v : List Int32) : St := (s.1, s.2.1, upd s.2.2.1 i v, s.2.2.2)
def sB (s : St) (i : Nat) (v : List Int64) : St := (s.1, s.2.1, s.2.2.1, upd s.2.2.2 i v)
theorem gI_sI (s : St) (i j : Nat) (v : Int32) : gI (sI s i v) j = if j = i then v else gI s j := rfl
theorem gI_sJ (s : St) (i j : Nat) (v : Int64) : gI (sJ s i v) j = gI s j := rfl
theorem gI_sA (s : St) (i j : Nat) (v : List Int32) : gI (sA s i v) j = gI s j := rfl
theorem gI_sB (s : St) (i j : Nat) (v : List Int64) : gI (sB s i v) j = gI s j := rfl
theorem gJ_sI (s : St) (i j : Nat) (v : Int32) : gJ (sI s i v) j = gJ s j := rfl
theorem gJ_sJ (s : St) (i j : Nat) (v : Int64) : gJ (sJ s i v) j = if j = i then v else gJ s j := rfl
theorem gJ_sA (s : St) (i j : Nat) (v : List Int32) : gJ (sA s i v) j = gJ s j := rfl
theorem gJ_sB (s : St) (i j : Nat) (v : List Int64) : gJ (sB s i v) j = gJ s j := rfl
theorem gA_sI (s : St) (i j : Nat) (v : Int32) : gA (sI s i v) j = gA s j := rfl
theorem gA_sJ (s : St) (i j : Nat) (v : Int64) : gA (sJ s i v) j = gA s j := rfl
theorem gA_sA (s : St) (i j : Nat) (v : List Int32) : gA (sA s i v) j = if j = i then v else gA s j := rfl
theorem gA_sB (s : St) (i j : Nat) (v : List Int64) : gA (sB s i v) j = gA s j := rfl
theorem gB_sI (s : St) (i j : Nat) (v : Int32) : gB (sI s i v) j = gB s j := rfl
theorem gB_sJ (s : St) (i j : Nat) (v : Int64) : gB (sJ s i v) j = gB s j := rfl
theorem gB_sA (s : St) (i j : Nat) (v : List Int32) : gB (sA s i v) j = gB s j := rfl
theorem gB_sB (s : St) (i j : Nat) (v : List Int64) : gB (sB s i v) j = if j = i then v else gB s j := rfl
def wrA (s : St) (i : Nat) (j x : Int32) : Option St := (wr (gA s i) j x).map (sA s i)
def wrB (s : St) (i : Nat) (j : Int32) (x : Int64) : Option St := (wr (gB s i) j x).map (sB s i)
theorem wrA_e {s s' : St} {i : Nat} {j x : Int32} (h : wrA s i j x = some s') : ∃ ys, wr (gA s i) j x = some ys ∧ s' = sA s i ys := by
  obtain ⟨ys, h1, h2⟩ := Option.map_eq_some_iff.mp h
  exact ⟨ys, h1, h2.symm⟩
theorem wrB_e {s s' : St} {i : Nat} {j : Int32} {x : Int64} (h : wrB s i j x = some s') : ∃ ys, wr (gB s i) j x = some ys ∧ s' = sB s i ys := by
  obtain ⟨ys, h1, h2⟩ := Option.map_eq_some_iff.mp h
  exact ⟨ys, h1, h2.symm⟩
def lt {α β : Type} (x : α) (f : α → β) : β := f x
theorem lt_e {α β : Type} {x : α} {f : α → β} {r : β} (h : lt x f = r) : ∃ y, y = x ∧ f y = r := ⟨x, rfl, h⟩
theorem ite_e {α : Type} {c : Prop} [Decidable c] {a b r : α} (h : (if c then a else b) = r) : (c ∧ a = r) ∨ (¬ c ∧ b = r) := by
  by_cases hc : c
  · rw [if_pos hc] at h; exact Or.inl ⟨hc, h⟩
  · rw [if_neg hc] at h; exact Or.inr ⟨hc, h⟩
theorem nz_e {α : Type} {c : Prop} [Decidable c] {b : Option α} {r : α} (h : (if c then none else b) = some r) : ¬ c ∧ b = some r := by
  by_cases hc : c
  · rw [if_pos hc] at h; cases h
  · rw [if_neg hc] at h; exact ⟨hc, h⟩
/-! the class's fields -/
def LaidAll (Z : State) (a0 : Array Value) (C : String) : List (String × String) → List Value → Prop
  | f :: fs, v :: vs => (Laid Z a0 C C f.1 f.2 ∧ ∃ ty, parseFieldDescriptor f.2 = some ty ∧ v = defaultValue ty) ∧ LaidAll Z a0 C fs vs
  | [], [] => True
  | _, _ => False
theorem LaidAll.new {Z : State} {a0 : Array Value} {C : String} : ∀ {lay : List (String × String)} {vs : List Value}, LaidAll Z a0 C lay vs → ∀ (i : Nat) (f : String × String) (v : Value), lay[i]? = some f → vs[i]? = some v → Laid Z a0 C C f.1 f.2 ∧ ∃ ty, parseFieldDescriptor f.2 = some ty ∧ v = defaultValue ty
  | [], [], _, i, f, v, h, _ => by simp at h
  | g :: fs, w :: vs, h, 0, f, v, h1, h2 => by
    obtain rfl : g = f := by simpa using h1
    obtain rfl : w = v := by simpa using h2
    exact h.1
  | g :: fs, w :: vs, h, i + 1, f, v, h1, h2 => LaidAll.new h.2 i f v (by simpa using h1) (by simpa using h2)
theorem LaidAll.len {Z : State} {a0 : Array Value} {C : String} : ∀ {lay : List (String × String)} {vs : List Value}, LaidAll Z a0 C lay vs → lay.length = vs.length
  | [], [], _ => rfl
  | g :: fs, w :: vs, h => congrArg Nat.succ (LaidAll.len h.2)
theorem LaidAll.ne {Z : State} {a0 : Array Value} {C : String} {lay : List (String × String)} {vs : List Value} (h : LaidAll Z a0 C lay vs) (nd : (lay.map Prod.fst).Nodup) : ∀ (a b : Nat) (f g : String × String), lay[a]? = some f → lay[b]? = some g → a ≠ b → RoadKit.slotOf Z C f.1 f.2 ≠ RoadKit.slotOf Z C g.1 g.2 := by
  intro a b f g ha hb' hne
  have la := get_lt ha
  have lb := get_lt hb'
  obtain ⟨L1, t1, e1, -⟩ := h.new a f _ ha (List.getElem?_eq_getElem (h.len ▸ la))
  obtain ⟨L2, t2, e2, -⟩ := h.new b g _ hb' (List.getElem?_eq_getElem (h.len ▸ lb))
  refine slot_ne L1 L2 (fun q => hne ?_) e1 e2
  have h1 : (lay.map Prod.fst)[a]? = some f.1 := by rw [List.getElem?_map, ha]; rfl
  have h2 : (lay.map Prod.fst)[b]? = some g.1 := by rw [List.getElem?_map, hb']; rfl
  exact (List.getElem?_inj (by simpa using la) nd).mp (h1.trans (by rw [q]; exact h2.symm))
section Puts
variable {l : Launch} {Z : State} {a0 : Array Value} {C : String} {lay : List (String × String)} {own mn : String} {bytes : ByteArray} {maxL : Nat} {ret : Option FieldType} {R : Room} {n0 ro : Nat} {Q : Option Value → List OwnC → Prop} {k n pc pc' : Nat} {L L' : List Slot} {S S' : List Value} {H H' : List OwnC}
theorem WP.putI {idx i j kk : Nat} {f : String} {vs : List Value} {x : Int32} {old : Value} (hd : decode bytes pc = .ok (.putfield idx, 3)) (hw : (Cond.fieldLink own idx C f "I").before a0 Z = true) (hl : (Cond.lays C C f "I").before a0 Z = true ∨ ((Cond.laysFinal C C f "I").before a0 Z = true ∧ own = C ∧ mn = "<init>")) (wi : (Cond.instantiable C kk).before a0 Z = true)
    (hlay : ∀ (a b : Nat) (f g : String × String), lay[a]? = some f → lay[b]? = some g → a ≠ b → RoadKit.slotOf Z C f.1 f.2 ≠ RoadKit.slotOf Z C g.1 g.2) (hj : lay[j]? = some (f, "I")) (hH : H[i]? = some (.inl vs)) (hv : vs[j]? = some old) (hi : ro ≤ i) (hH' : H.set i (.inl (vs.set j (.int x))) = H') (nx : WP l Z C lay own mn bytes maxL ret R n0 ro Q k n (pc + 3) L S H') : WP l Z C lay own mn bytes maxL ret R n0 ro Q k n pc L (.int x :: .ref i :: S) H :=
  WP.put hd hw hl wi hlay (ty := .int) (by decide) (fun _ => rfl) (fun _ => rfl) hj hH hv hi hH' nx
theorem WP.putJ {idx i j kk : Nat} {f : String} {vs : List Value} {x : Int64} {old : Value} (hd : decode bytes pc = .ok (.putfield idx, 3)) (hw : (Cond.fieldLink own idx C f "J").before a0 Z = true) (hl : (Cond.lays C C f "J").before a0 Z = true ∨ ((Cond.laysFinal C C f "J").before a0 Z = true ∧ own = C ∧ mn = "<init>")) (wi : (Cond.instantiable C kk).before a0 Z = true)
    (hlay : ∀ (a b : Nat) (f g : String × String), lay[a]? = some f → lay[b]? = some g → a ≠ b → RoadKit.slotOf Z C f.1 f.2 ≠ RoadKit.slotOf Z C g.1 g.2) (hj : lay[j]? = some (f, "J")) (hH : H[i]? = some (.inl vs)) (hv : vs[j]? = some old) (hi : ro ≤ i) (hH' : H.set i (.inl (vs.set j (.long x))) = H') (nx : WP l Z C lay own mn bytes maxL ret R n0 ro Q k n (pc + 3) L S H') : WP l Z C lay own mn bytes maxL ret R n0 ro Q k n pc L (.long x :: .ref i :: S) H :=
  WP.put hd hw hl wi hlay (ty := .long) (by decide) (fun _ => rfl) (fun _ => rfl) hj hH hv hi hH' nx
theorem WP.putZ {idx i j kk : Nat} {f : String} {vs : List Value} {x : Int32} {old : Value} (hd : decode bytes pc = .ok (.putfield idx, 3)) (hw : (Cond.fieldLink own idx C f "Z").before a0 Z = true) (hl : (Cond.lays C C f "Z").before a0 Z = true ∨ ((Cond.laysFinal C C f "Z").before a0 Z = true ∧ own = C ∧ mn = "<init>")) (wi : (Cond.instantiable C kk).before a0 Z = true)
    (hlay : ∀ (a b : Nat) (f g : String × String), lay[a]? = some f → lay[b]? = some g → a ≠ b → RoadKit.slotOf Z C f.1 f.2 ≠ RoadKit.slotOf Z C g.1 g.2) (hj : lay[j]? = some (f, "Z")) (hH : H[i]? = some (.inl vs)) (hv : vs[j]? = some old) (hi : ro ≤ i) (hH' : H.set i (.inl (vs.set j (.int (x &&& 1)))) = H') (nx : WP l Z C lay own mn bytes maxL ret R n0 ro Q k n (pc + 3) L S H') : WP l Z C lay own mn bytes maxL ret R n0 ro Q k n pc L (.int x :: .ref i :: S) H :=
  WP.put (v' := .int (x &&& 1)) hd hw hl wi hlay (ty := .boolean) (by decide) (fun _ => rfl) (fun _ => fits_nar_bool x) hj hH hv hi hH' nx
theorem WP.putR {idx i j kk i2 : Nat} {f d : String} {vs : List Value} {old : Value} {ty : FieldType} (hd : decode bytes pc = .ok (.putfield idx, 3)) (hw : (Cond.fieldLink own idx C f d).before a0 Z = true) (hl : (Cond.lays C C f d).before a0 Z = true ∨ ((Cond.laysFinal C C f d).before a0 Z = true ∧ own = C ∧ mn = "<init>")) (wi : (Cond.instantiable C kk).before a0 Z = true)
    (hlay : ∀ (a b : Nat) (f g : String × String), lay[a]? = some f → lay[b]? = some g → a ≠ b → RoadKit.slotOf Z C f.1 f.2 ≠ RoadKit.slotOf Z C g.1 g.2) (hty : parseFieldDescriptor d = some ty) (hn : ∀ a, narrow ty (.ref a) = .ref a) (hf : ∀ a, fits ty (.ref a) = true) (hj : lay[j]? = some (f, d)) (hH : H[i]? = some (.inl vs)) (hv : vs[j]? = some old) (hi : ro ≤ i) (hH' : H.set i (.inl (vs.set j (.ref i2))) = H') (nx : WP l Z C lay own mn bytes maxL ret R n0 ro Q k n (pc + 3) L S H') : WP l Z C lay own mn bytes maxL ret R n0 ro Q k n pc L (.ref i2 :: .ref i :: S) H :=
  WP.put (v' := .ref i2) hd hw hl wi hlay hty (fun ad => hn (ad i2)) (fun ad => hf (ad i2)) hj hH hv hi hH' nx
end Puts
/-! ## the start of a law -/
theorem HR.start0 (s : State) (C : String) (lay : List (String × String)) : HR s C lay s.heap.size 0 (fun t => s.heap.size + t) [] s.heap :=
  ⟨fun i c h => by simp at h, fun i j h => by simp at h, fun t => by simp, fun i h => by simp at h, Nat.le_refl _⟩
theorem script_ints {s : State} {a : Addr} {c : Cell} (hf : Fit s) (A : Arr s s.heap a c .int) : ∃ xs : List Int32, c.slots.toList = xs.map Value.int := by
  have h : ∀ v ∈ c.slots.toList, ∃ x : Int32, v = Value.int x := fun v hv => by
    obtain ⟨i, hi, e⟩ := List.mem_iff_getElem.mp hv
    have hi' : i < c.slots.size := by simpa using hi
    have q := hf A.1 hi'
    obtain ⟨hs, k, hk, comp, hkind⟩ := A.2.1
    have e2 : s.slotType? c.cls c.vm i = some .int := by
      cases hq : c.vm <;> first | exact absurd hq (hs _) | simp [State.slotType?, hk, hkind]
    have e3 : c.slots[i] = v := by rw [← e]; simp
    have q2 : fits .int v = true := by rw [← e3]; simpa [State.fitsSlot, e2] using q
    exact fit_I q2 (by simp)
  generalize c.slots.toList = L at h
  induction L with
  | nil => exact ⟨[], rfl⟩
  | cons v L ih =>
    obtain ⟨x, rfl⟩ := h v (List.mem_cons_self ..)
    obtain ⟨xs, rfl⟩ := ih fun w hw => h w (List.mem_cons_of_mem _ hw)
    exact ⟨x :: xs, rfl⟩
def ad1 (a N : Nat) : Nat → Addr
  | 0 => a
  | t + 1 => N + t
theorem HR.start1 {s : State} (C : String) (lay : List (String × String)) {a : Addr} {c : Cell} {xs : List Int32} (A : Arr s s.heap a c .int) (hx : c.slots.toList = xs.map Value.int) : HR s C lay s.heap.size 1 (ad1 a s.heap.size) [cI xs] s.heap := by
  refine ⟨fun i cc h => ?_, fun i j hi hj _ => ?_, fun t => ?_, fun i hi hr => ?_, Nat.le_refl _⟩
  · have hi := get_lt h
    simp at hi; subst hi
    simp at h; subst h
    exact ⟨c, A, hx⟩
  · simp at hi hj; omega
  · show ad1 a s.heap.size (1 + t) = _; rw [Nat.add_comm 1 t]; rfl
  · simp at hi; omega
theorem script_len {s : State} {a : Addr} {c : Cell} {n : Nat} {args : Array Value} {t : Term} (ev : t.eval args s none [] s = some (.ref a)) (A : Arr s s.heap a c .int) (e1 : c.slots.size = n) (h : (Cond.le (Term.length t) (Term.int (260 : Int32))).value args s none s [] = some true) : n ≤ 260 := by
  have hat := A.fin (Vm.Alike.refl _)
  have hl : (Term.length t).eval args s none [] s = if n < 2 ^ 31 then some (.int n.toInt32) else none := by
    simp only [Term.eval, ev, hat, Option.bind_eq_bind, Option.bind_some, e1]; rfl
  by_cases hn : n < 2 ^ 31
  · rw [if_pos hn] at hl
    have h1 := gotT (Cond.le_ints hl (Term.int_eval (260 : Int32))) h
    have h2 : n.toInt32.toInt = n := by
      show (Int32.ofNat n).toInt = n
      exact Int32.toInt_ofNat_of_lt hn
    have h3 := Int32.le_iff_toInt_le.mp h1
    rw [h2] at h3
    have : (260 : Int32).toInt = 260 := by decide
    omega
  · rw [if_neg hn] at hl
    simp [Cond.value, hl] at h
/-! ## plain laws -/
/-- with fuel enough it answers r -/
def Ev {α : Type} (f : Nat → Option α) (r : α) : Prop := ∃ N, ∀ n, N ≤ n → f n = some r
theorem Ev.const {α : Type} {x : Option α} {r : α} (h : x = some r) : Ev (fun _ => x) r := ⟨0, fun _ _ => h⟩
theorem Ev.get {α : Type} {f : Nat → Option α} {r : α} (h : Ev f r) : ∃ n, f n = some r := by obtain ⟨N, h⟩ := h; exact ⟨N, h N (Nat.le_refl _)⟩
theorem Ev.step {α : Type} {f g : Nat → Option α} {r : α} (e : ∀ n, f (n + 1) = g n) (h : Ev g r) : Ev f r := by
  obtain ⟨N, h⟩ := h
  refine ⟨N + 1, fun n hn => ?_⟩
  cases n with
  | zero => omega
  | succ n => rw [e n]; exact h n (by omega)
theorem Ev.congr {α : Type} {f g : Nat → Option α} {r : α} (e : ∀ n, f n = g n) (h : Ev g r) : Ev f r := by
  obtain ⟨N, h⟩ := h
  exact ⟨N, fun n hn => (e n).trans (h n hn)⟩
theorem Ev.bind {α β : Type} {f : Nat → Option β} {g : Nat → β → Option α} {c : β} {r : α} (h1 : Ev f c) (h2 : Ev (fun n => g n c) r) : Ev (fun n => (f n).bind (g n)) r := by
  obtain ⟨N, h1⟩ := h1
  obtain ⟨M, h2⟩ := h2
  refine ⟨N + M, fun n hn => ?_⟩
  show (f n).bind (g n) = some r
  rw [h1 n (by omega)]; exact h2 n (by omega)
theorem Ev.uniq {α : Type} {f : Nat → Option α} {r r' : α} (h : Ev f r) (h' : Ev f r') : r = r' := by
  obtain ⟨N, h⟩ := h
  obtain ⟨M, h'⟩ := h'
  exact Option.some.inj ((h (N + M) (by omega)).symm.trans (h' (N + M) (by omega)))
/-! Int32 as Int -/
theorem x32_lt {x y : Int32} : x < y ↔ x.toInt < y.toInt := Int32.lt_iff_toInt_lt
theorem x32_eq {x y : Int32} : x = y ↔ x.toInt = y.toInt := Int32.toInt_inj.symm
theorem x32_add {x y : Int32} (h1 : -2147483648 ≤ x.toInt + y.toInt) (h2 : x.toInt + y.toInt < 2147483648) : (x + y).toInt = x.toInt + y.toInt := by
  rw [Int32.toInt_add]; exact Int.bmod_eq_of_le (by omega) (by omega)
theorem x32_sub {x y : Int32} (h1 : -2147483648 ≤ x.toInt - y.toInt) (h2 : x.toInt - y.toInt < 2147483648) : (x - y).toInt = x.toInt - y.toInt := by
  rw [Int32.toInt_sub]; exact Int.bmod_eq_of_le (by omega) (by omega)
theorem x32_mul {x y : Int32} (h1 : -2147483648 ≤ x.toInt * y.toInt) (h2 : x.toInt * y.toInt < 2147483648) : (x * y).toInt = x.toInt * y.toInt := by
  rw [Int32.toInt_mul]; exact Int.bmod_eq_of_le (by omega) (by omega)
theorem clamp_nat (x : Int32) : x.toNatClampNeg = x.toInt.toNat := rfl
/-! reading and writing -/
theorem rd_of {α : Type} {xs : List α} {i : Int32} {k : Nat} {x : α} (hi : i.toInt = k) (h : xs[k]? = some x) : rd xs i = some x := by
  have h0 : ¬ i < 0 := by rw [x32_lt, hi]; show ¬ (k : Int) < 0; omega
  unfold rd
  rw [if_neg h0, clamp_nat, hi]; exact h
theorem wr_of {α : Type} {xs : List α} {i : Int32} {k : Nat} (x : α) (hi : i.toInt = k) (h : k < xs.length) : wr xs i x = some (xs.set k x) := by
  have h0 : ¬ i < 0 := by rw [x32_lt, hi]; show ¬ (k : Int) < 0; omega
  unfold wr
  rw [if_neg h0, clamp_nat, hi]; exact if_pos h
theorem wrA_of {s : St} {f : Nat} {i : Int32} {k : Nat} (x : Int32) (hi : i.toInt = k) (h : k < (gA s f).length) : wrA s f i x = some (sA s f ((gA s f).set k x)) := by
  unfold wrA; rw [wr_of x hi h]; rfl
theorem wrB_of {s : St} {f : Nat} {i : Int32} {k : Nat} (x : Int64) (hi : i.toInt = k) (h : k < (gB s f).length) : wrB s f i x = some (sB s f ((gB s f).set k x)) := by
  unfold wrB; rw [wr_of x hi h]; rfl
theorem nn_of {i : Int32} (h : ¬ i < 0) : ∃ k : Nat, i.toInt = k := ⟨i.toInt.toNat, by
  rw [x32_lt] at h
  have : (0 : Int32).toInt = 0 := by decide
  omega⟩
theorem Ev.all {α : Type} {f : Nat → Option α} {r : α} (h : ∀ n, f n = some r) : Ev f r := ⟨0, fun n _ => h n⟩
theorem ofN_int {k : Nat} (h : k < 2147483648) : (Int32.ofNat k).toInt = k := Int32.toInt_ofNat_of_lt (by omega)
theorem ofN_lt {i m : Nat} (hi : i < 2147483648) (hm : m < 2147483648) : Int32.ofNat i < Int32.ofNat m ↔ i < m := by
  rw [x32_lt, ofN_int hi, ofN_int hm]; omega
theorem ofN_succ (k : Nat) : Int32.ofNat k + 1 = Int32.ofNat (k + 1) := (Int32.ofNat_add k 1).symm
theorem ofN_eq {i m : Nat} (hi : i < 2147483648) (hm : m < 2147483648) : Int32.ofNat i = Int32.ofNat m ↔ i = m := by
  rw [x32_eq, ofN_int hi, ofN_int hm]; omega
theorem ofN_of {x : Int32} {k : Nat} (h : x.toInt = k) : x = Int32.ofNat k := by
  have h2 := Int32.toInt_lt x
  rw [x32_eq, ofN_int (by omega)]; exact h
/-- a loop that counts up to N -/
theorem loop_up {α σ : Type} {F : Nat → Int32 → σ → Option α} {E : Nat → σ → Option α} {N : Nat} (Inv : Nat → σ → Prop)
    (hstep : ∀ (i : Nat) (s : σ), i < N → Inv i s → ∃ s', Inv (i + 1) s' ∧ ∀ n, F (n + 1) (Int32.ofNat i) s = F n (Int32.ofNat (i + 1)) s')
    (hend : ∀ s, Inv N s → ∀ n, F (n + 1) (Int32.ofNat N) s = E n s) : ∀ (k i : Nat) (s : σ), i + k = N → Inv i s → ∃ s', Inv N s' ∧ ∀ r, Ev (fun n => E n s') r → Ev (fun n => F n (Int32.ofNat i) s) r := by
  intro k
  induction k with
  | zero =>
    intro i s hi h
    obtain rfl : i = N := by omega
    exact ⟨s, h, fun r hr => Ev.step (hend s h) hr⟩
  | succ k ih =>
    intro i s hi h
    obtain ⟨s', h1, h2⟩ := hstep i s (by omega) h
    obtain ⟨s2, h3, h4⟩ := ih (i + 1) s' (by omega) h1
    exact ⟨s2, h3, fun r hr => Ev.step h2 (h4 r hr)⟩
theorem set_len {α : Type} (xs : List α) (k : Nat) (x : α) : (xs.set k x).length = xs.length := List.length_set
theorem ofN_ltL {i m : Nat} (hi : i < 2147483648) (hm : m < 2147483648) : Int32.ofNat i < (OfNat.ofNat m : Int32) ↔ i < m := ofN_lt hi hm
theorem ofN_gtL {i m : Nat} (hi : i < 2147483648) (hm : m < 2147483648) : (OfNat.ofNat m : Int32) < Int32.ofNat i ↔ m < i := ofN_lt hm hi
theorem ofN_eqL {i m : Nat} (hi : i < 2147483648) (hm : m < 2147483648) : Int32.ofNat i = (OfNat.ofNat m : Int32) ↔ i = m := ofN_eq hi hm
theorem ofN_nn {i : Nat} (hi : i < 2147483648) : ¬ Int32.ofNat i < 0 := fun h => Nat.not_lt_zero _ ((ofN_ltL hi (by decide)).mp h)
theorem lit_int {m : Nat} (hm : m < 2147483648) : (OfNat.ofNat m : Int32).toInt = m := ofN_int hm
theorem upd_upd {α : Type} (f : Nat → α) (i : Nat) (x y : α) : upd (upd f i x) i y = upd f i y := by
  funext j; unfold upd; by_cases h : j = i <;> simp [h]
theorem upd_self {α : Type} (f : Nat → α) (i : Nat) : upd f i (f i) = f := by
  funext j; unfold upd; by_cases h : j = i <;> simp [h]
theorem sA_sA (s : St) (i : Nat) (x y : List Int32) : sA (sA s i x) i y = sA s i y := by unfold sA; dsimp only; rw [upd_upd]
theorem sB_sB (s : St) (i : Nat) (x y : List Int64) : sB (sB s i x) i y = sB s i y := by unfold sB; dsimp only; rw [upd_upd]
theorem sI_sI (s : St) (i : Nat) (x y : Int32) : sI (sI s i x) i y = sI s i y := by unfold sI; dsimp only; rw [upd_upd]
theorem sA_self {s : St} {i : Nat} {x : List Int32} (h : gA s i = x) : sA s i x = s := by
  subst h; unfold sA gA; rw [upd_self]
theorem sB_self {s : St} {i : Nat} {x : List Int64} (h : gB s i = x) : sB s i x = s := by
  subst h; unfold sB gB; rw [upd_self]
theorem sI_self {s : St} {i : Nat} {x : Int32} (h : gI s i = x) : sI s i x = s := by
  subst h; unfold sI gI; rw [upd_self]
theorem fill_set {α : Type} (a b : α) (n i : Nat) (h : i < n) : (List.replicate i a ++ List.replicate (n - i) b).set i a = List.replicate (i + 1) a ++ List.replicate (n - (i + 1)) b := by
  rw [List.set_append_right _ _ (by simp), List.length_replicate, Nat.sub_self]
  obtain ⟨m, hm⟩ : ∃ m, n - i = m + 1 := ⟨n - i - 1, by omega⟩
  have hm2 : n - (i + 1) = m := by omega
  rw [hm, hm2, List.replicate_succ, List.set_cons_zero, List.replicate_succ', List.append_assoc]; rfl
theorem and_nat (x : Int32) (m : Nat) (hm : m < 2147483648) : ∃ k, k ≤ m ∧ (x &&& Int32.ofNat m) = Int32.ofNat k := by
  refine ⟨(x.toBitVec &&& BitVec.ofNat 32 m).toNat, ?_, ?_⟩
  · rw [BitVec.toNat_and, BitVec.toNat_ofNat, Nat.mod_eq_of_lt (by omega)]
    exact Nat.and_le_right
  · apply Int32.toBitVec_inj.mp
    show x.toBitVec &&& BitVec.ofNat 32 m = BitVec.ofNat 32 _
    rw [BitVec.ofNat_toNat, BitVec.setWidth_eq]
theorem and_natL (x : Int32) (m : Nat) (hm : m < 2147483648) : ∃ k, k ≤ m ∧ (x &&& (OfNat.ofNat m : Int32)) = Int32.ofNat k := and_nat x m hm
theorem nat_lt {i : Int32} {m : Nat} (h : ¬ i < 0) (h2 : i < (OfNat.ofNat m : Int32)) (hm : m < 2147483648) : ∃ k : Nat, k < m ∧ i = Int32.ofNat k := by
  obtain ⟨k, hk⟩ := nn_of h
  rw [x32_lt, lit_int hm, hk] at h2
  exact ⟨k, by omega, ofN_of hk⟩
theorem nat_le {i : Int32} {m : Nat} (h : ¬ i < 0) (h2 : ¬ (OfNat.ofNat m : Int32) < i) (hm : m < 2147483648) : ∃ k : Nat, k ≤ m ∧ i = Int32.ofNat k := by
  obtain ⟨k, hk⟩ := nn_of h
  rw [x32_lt, lit_int hm, hk] at h2
  exact ⟨k, by omega, ofN_of hk⟩
theorem rd_at {α : Type} {xs : List α} {k : Nat} {x : α} (hk : k < 2147483648) (h : xs[k]? = some x) : rd xs (Int32.ofNat k) = some x := rd_of (ofN_int hk) h
theorem wr_at' {α : Type} {xs : List α} {k : Nat} (x : α) (hk : k < 2147483648) (h : k < xs.length) : wr xs (Int32.ofNat k) x = some (xs.set k x) := wr_of x (ofN_int hk) h
theorem rep_get {α : Type} {n k : Nat} (a : α) (h : k < n) : (List.replicate n a)[k]? = some a := by rw [List.getElem?_replicate, if_pos h]
theorem get_set_self {α : Type} {xs : List α} {k : Nat} (x : α) (h : k < xs.length) : (xs.set k x)[k]? = some x := by rw [List.getElem?_set_self h]
theorem get_set_ne {α : Type} {xs : List α} {k j : Nat} (x : α) (h : k ≠ j) : (xs.set k x)[j]? = xs[j]? := List.getElem?_set_ne h
theorem upd_comm {α : Type} (f : Nat → α) {i j : Nat} (h : i ≠ j) (x y : α) : upd (upd f i x) j y = upd (upd f j y) i x := by
  funext m; unfold upd
  by_cases h1 : m = j
  · subst h1; rw [if_pos rfl, if_neg (Ne.symm h), if_pos rfl]
  · rw [if_neg h1]; by_cases h2 : m = i
    · rw [if_pos h2, if_pos h2]
    · rw [if_neg h2, if_neg h2, if_neg h1]
theorem sA_comm {s : St} {i j : Nat} (h : i ≠ j) {x y : List Int32} : sA (sA s i x) j y = sA (sA s j y) i x := by unfold sA; dsimp only; rw [upd_comm _ h]
theorem sB_comm {s : St} {i j : Nat} (h : i ≠ j) {x y : List Int64} : sB (sB s i x) j y = sB (sB s j y) i x := by unfold sB; dsimp only; rw [upd_comm _ h]
theorem sI_comm {s : St} {i j : Nat} (h : i ≠ j) {x y : Int32} : sI (sI s i x) j y = sI (sI s j y) i x := by unfold sI; dsimp only; rw [upd_comm _ h]
theorem sJ_self {s : St} {i : Nat} {x : Int64} (h : gJ s i = x) : sJ s i x = s := by
  subst h; unfold sJ gJ; rw [upd_self]
theorem wrA_nop {s : St} {f N k : Nat} {v : Int32} (h : gA s f = List.replicate N v) (hk : k < N) (hN : N ≤ 2147483647) : wrA s f (Int32.ofNat k) v = some s := by
  rw [wrA_of (k := k) v (ofN_int (by omega)) (by rw [h, List.length_replicate]; exact hk), sA_self (by rw [h, List.set_replicate_self])]
theorem wrB_nop {s : St} {f N k : Nat} {v : Int64} (h : gB s f = List.replicate N v) (hk : k < N) (hN : N ≤ 2147483647) : wrB s f (Int32.ofNat k) v = some s := by
  rw [wrB_of (k := k) v (ofN_int (by omega)) (by rw [h, List.length_replicate]; exact hk), sB_self (by rw [h, List.set_replicate_self])]
/-- a loop that fills -/
theorem wrA_fill {s : St} {f N k : Nat} {u v : Int32} (hk : k < N) (hN : N ≤ 2147483647) : wrA (sA s f (List.replicate k v ++ List.replicate (N - k) u)) f (Int32.ofNat k) v = some (sA s f (List.replicate (k + 1) v ++ List.replicate (N - (k + 1)) u)) := by
  rw [wrA_of (k := k) v (ofN_int (by omega)) (by rw [gA_sA, if_pos rfl]; simp; omega), gA_sA, if_pos rfl, fill_set _ _ _ _ hk, sA_sA]
theorem fill_start {s : St} {f N : Nat} {u v : Int32} (h : gA s f = List.replicate N u) : s = sA s f (List.replicate 0 v ++ List.replicate (N - 0) u) := (sA_self (by rw [h]; rfl)).symm
theorem fill_end {s : St} {f N : Nat} {u v : Int32} : sA s f (List.replicate N v ++ List.replicate (N - N) u) = sA s f (List.replicate N v) := by rw [Nat.sub_self]; simp
theorem x32_neg {x : Int32} (h : -2147483648 < x.toInt) : (-x).toInt = -x.toInt := by
  have := Int32.toInt_lt x
  rw [Int32.toInt_neg]; exact Int.bmod_eq_of_le (by omega) (by omega)
theorem x64_neg {x : Int64} (h : -9223372036854775808 < x.toInt) : (-x).toInt = -x.toInt := by
  have := Int64.toInt_lt x
  rw [Int64.toInt_neg]; exact Int.bmod_eq_of_le (by omega) (by omega)
theorem x64_lt {x y : Int64} : x < y ↔ x.toInt < y.toInt := Int64.lt_iff_toInt_lt
theorem x64_eq {x y : Int64} : x = y ↔ x.toInt = y.toInt := Int64.toInt_inj.symm
theorem x64_add {x y : Int64} (h1 : -9223372036854775808 ≤ x.toInt + y.toInt) (h2 : x.toInt + y.toInt < 9223372036854775808) : (x + y).toInt = x.toInt + y.toInt := by
  rw [Int64.toInt_add]; exact Int.bmod_eq_of_le (by omega) (by omega)
theorem x64_sub {x y : Int64} (h1 : -9223372036854775808 ≤ x.toInt - y.toInt) (h2 : x.toInt - y.toInt < 9223372036854775808) : (x - y).toInt = x.toInt - y.toInt := by
  rw [Int64.toInt_sub]; exact Int.bmod_eq_of_le (by omega) (by omega)
theorem x64_mul {x y : Int64} (h1 : -9223372036854775808 ≤ x.toInt * y.toInt) (h2 : x.toInt * y.toInt < 9223372036854775808) : (x * y).toInt = x.toInt * y.toInt := by
  rw [Int64.toInt_mul]; exact Int.bmod_eq_of_le (by omega) (by omega)
end Jvm.Own
namespace Jvm.Pilot.@@N@@
open Jvm Jvm.ClassFile Sem Op Lib Jvm.Free Jvm.Stand Jvm.LawKit Jvm.RoadKit Bundle Jvm.Pilot.@@N@@.Jvm.D Jvm.Own
abbrev HW (a0 : Array Value) (Z : State) : Prop := ∀ d ∈ tables_1, d.before a0 Z = true
abbrev CN : String := "PictureCobol"
def lay : List (String × String) := [("maxFields", "I"), ("maxStatements", "I"), ("fieldCount", "I"), ("fInt", "[I"), ("fFrac", "[I"), ("fVal", "[I"), ("fSigned", "[Z"), ("stmtCount", "I"), ("sKind", "[I"), ("sRounded", "[Z"), ("sA", "[I"), ("sB", "[I"), ("sC", "[I"), ("sHasErr", "[Z"), ("sErr", "[I"), ("compiled", "Z"), ("halted", "Z"), ("pc", "I"), ("executed", "I"), ("sizeErrors", "I"), ("num", "J"), ("den", "J")]
abbrev vs0 : List Value := [.int 0, .int 0, .int 0, .null, .null, .null, .null, .int 0, .null, .null, .null, .null, .null, .null, .null, .int 0, .int 0, .int 0, .int 0, .int 0, .long 0, .long 0]
abbrev Hb (b : Nat) (s : St) : List OwnC := [cO [.int (gI s 0), .int (gI s 1), .int (gI s 2), .ref (b + 1), .ref (b + 2), .ref (b + 3), .ref (b + 4), .int (gI s 3), .ref (b + 5), .ref (b + 6), .ref (b + 7), .ref (b + 8), .ref (b + 9), .ref (b + 10), .ref (b + 11), .int (gI s 4), .int (gI s 5), .int (gI s 6), .int (gI s 7), .int (gI s 8), .long (gJ s 0), .long (gJ s 1)], cI (gA s 0), cI (gA s 1), cI (gA s 2), cZ (gA s 3), cI (gA s 4), cZ (gA s 5), cI (gA s 6), cI (gA s 7), cI (gA s 8), cZ (gA s 9), cI (gA s 10)]
def st0 : St := (fun _ => 0, fun _ => 0, fun i => ([List.replicate 8 0, List.replicate 8 0, List.replicate 8 0, List.replicate 8 0, List.replicate 32 0, List.replicate 32 0, List.replicate 32 0, List.replicate 32 0, List.replicate 32 0, List.replicate 32 0, List.replicate 32 0] : List (List Int32)).getD i [], fun i => ([] : List (List Int64)).getD i [])
theorem m_0 : (Jvm.Cond.methodLink "PictureCobolOwnLaw" (24 : Nat) ({ cls := "PictureCobolOwnLaw", name := "cell", desc := "([II)I" } : Jvm.MethodName)) ∈ tables_1 := List.mem_of_getElem? (i := 0) rfl
theorem m_1 : (Jvm.Cond.static ({ cls := "PictureCobolOwnLaw", name := "cell", desc := "([II)I" } : Jvm.MethodName)) ∈ tables_1 := List.mem_of_getElem? (i := 1) rfl
theorem m_2 : (Jvm.Cond.initialized "PictureCobolOwnLaw") ∈ tables_1 := List.mem_of_getElem? (i := 2) rfl
theorem m_3 : (Jvm.Cond.code ({ cls := "PictureCobolOwnLaw", name := "cell", desc := "([II)I" } : Jvm.MethodName) method_2_code (2 : Nat) (Option.some Jvm.ClassFile.FieldType.int)) ∈ tables_1 := List.mem_of_getElem? (i := 3) rfl
theorem m_4 : (Jvm.Cond.classLink "PictureCobolOwnLaw" (28 : Nat) "PictureCobol") ∈ tables_1 := List.mem_of_getElem? (i := 4) rfl
theorem m_5 : (Jvm.Cond.instantiable "PictureCobol" (22 : Nat)) ∈ tables_1 := List.mem_of_getElem? (i := 5) rfl
theorem m_6 : (Jvm.Cond.initialized "PictureCobol") ∈ tables_1 := List.mem_of_getElem? (i := 6) rfl
theorem m_7 : (Jvm.Cond.methodLink "PictureCobolOwnLaw" (30 : Nat) ({ cls := "PictureCobol", name := "<init>", desc := "(II)V" } : Jvm.MethodName)) ∈ tables_1 := List.mem_of_getElem? (i := 7) rfl
theorem m_8 : (Jvm.Cond.instanceMethod ({ cls := "PictureCobol", name := "<init>", desc := "(II)V" } : Jvm.MethodName)) ∈ tables_1 := List.mem_of_getElem? (i := 8) rfl
theorem m_9 : (Jvm.Cond.code ({ cls := "PictureCobol", name := "<init>", desc := "(II)V" } : Jvm.MethodName) prog_1_method_1_code (3 : Nat) (Option.none : Option Jvm.ClassFile.FieldType)) ∈ tables_1 := List.mem_of_getElem? (i := 9) rfl
theorem m_10 : (Jvm.Cond.methodLink "PictureCobol" (1 : Nat) ({ cls := "java/lang/Object", name := "<init>", desc := "()V" } : Jvm.MethodName)) ∈ tables_1 := List.mem_of_getElem? (i := 10) rfl
theorem m_11 : (Jvm.Cond.instanceMethod ({ cls := "java/lang/Object", name := "<init>", desc := "()V" } : Jvm.MethodName)) ∈ tables_1 := List.mem_of_getElem? (i := 11) rfl
theorem m_12 : (Jvm.Cond.code ({ cls := "java/lang/Object", name := "<init>", desc := "()V" } : Jvm.MethodName) object_method_1_code (1 : Nat) (Option.none : Option Jvm.ClassFile.FieldType)) ∈ tables_1 := List.mem_of_getElem? (i := 12) rfl
theorem m_13 : (Jvm.Cond.arrayClass Jvm.ClassFile.FieldType.int) ∈ tables_1 := List.mem_of_getElem? (i := 13) rfl
theorem m_14 : (Jvm.Cond.fieldLink "PictureCobol" (7 : Nat) "PictureCobol" "fInt" "[I") ∈ tables_1 := List.mem_of_getElem? (i := 14) rfl
theorem m_15 : (Jvm.Cond.lays "PictureCobol" "PictureCobol" "fInt" "[I") ∈ tables_1 := List.mem_of_getElem? (i := 15) rfl
theorem m_16 : (Jvm.Cond.fieldLink "PictureCobol" (13 : Nat) "PictureCobol" "fFrac" "[I") ∈ tables_1 := List.mem_of_getElem? (i := 16) rfl
theorem m_17 : (Jvm.Cond.lays "PictureCobol" "PictureCobol" "fFrac" "[I") ∈ tables_1 := List.mem_of_getElem? (i := 17) rfl
theorem m_18 : (Jvm.Cond.fieldLink "PictureCobol" (16 : Nat) "PictureCobol" "fVal" "[I") ∈ tables_1 := List.mem_of_getElem? (i := 18) rfl
theorem m_19 : (Jvm.Cond.lays "PictureCobol" "PictureCobol" "fVal" "[I") ∈ tables_1 := List.mem_of_getElem? (i := 19) rfl
theorem m_20 : (Jvm.Cond.arrayClass Jvm.ClassFile.FieldType.boolean) ∈ tables_1 := List.mem_of_getElem? (i := 20) rfl
theorem m_21 : (Jvm.Cond.fieldLink "PictureCobol" (19 : Nat) "PictureCobol" "fSigned" "[Z") ∈ tables_1 := List.mem_of_getElem? (i := 21) rfl
theorem m_22 : (Jvm.Cond.lays "PictureCobol" "PictureCobol" "fSigned" "[Z") ∈ tables_1 := List.mem_of_getElem? (i := 22) rfl
theorem m_23 : (Jvm.Cond.fieldLink "PictureCobol" (23 : Nat) "PictureCobol" "sKind" "[I") ∈ tables_1 := List.mem_of_getElem? (i := 23) rfl
theorem m_24 : (Jvm.Cond.lays "PictureCobol" "PictureCobol" "sKind" "[I") ∈ tables_1 := List.mem_of_getElem? (i := 24) rfl
theorem m_25 : (Jvm.Cond.fieldLink "PictureCobol" (26 : Nat) "PictureCobol" "sRounded" "[Z") ∈ tables_1 := List.mem_of_getElem? (i := 25) rfl
theorem m_26 : (Jvm.Cond.lays "PictureCobol" "PictureCobol" "sRounded" "[Z") ∈ tables_1 := List.mem_of_getElem? (i := 26) rfl
theorem m_27 : (Jvm.Cond.fieldLink "PictureCobol" (29 : Nat) "PictureCobol" "sA" "[I") ∈ tables_1 := List.mem_of_getElem? (i := 27) rfl
theorem m_28 : (Jvm.Cond.lays "PictureCobol" "PictureCobol" "sA" "[I") ∈ tables_1 := List.mem_of_getElem? (i := 28) rfl
theorem m_29 : (Jvm.Cond.fieldLink "PictureCobol" (32 : Nat) "PictureCobol" "sB" "[I") ∈ tables_1 := List.mem_of_getElem? (i := 29) rfl
theorem m_30 : (Jvm.Cond.lays "PictureCobol" "PictureCobol" "sB" "[I") ∈ tables_1 := List.mem_of_getElem? (i := 30) rfl
theorem m_31 : (Jvm.Cond.fieldLink "PictureCobol" (35 : Nat) "PictureCobol" "sC" "[I") ∈ tables_1 := List.mem_of_getElem? (i := 31) rfl
theorem m_32 : (Jvm.Cond.lays "PictureCobol" "PictureCobol" "sC" "[I") ∈ tables_1 := List.mem_of_getElem? (i := 32) rfl
theorem m_33 : (Jvm.Cond.fieldLink "PictureCobol" (38 : Nat) "PictureCobol" "sHasErr" "[Z") ∈ tables_1 := List.mem_of_getElem? (i := 33) rfl
theorem m_34 : (Jvm.Cond.lays "PictureCobol" "PictureCobol" "sHasErr" "[Z") ∈ tables_1 := List.mem_of_getElem? (i := 34) rfl
theorem m_35 : (Jvm.Cond.fieldLink "PictureCobol" (41 : Nat) "PictureCobol" "sErr" "[I") ∈ tables_1 := List.mem_of_getElem? (i := 35) rfl
theorem m_36 : (Jvm.Cond.lays "PictureCobol" "PictureCobol" "sErr" "[I") ∈ tables_1 := List.mem_of_getElem? (i := 36) rfl
theorem m_37 : (Jvm.Cond.methodLink "PictureCobol" (44 : Nat) ({ cls := "PictureCobol", name := "clamp", desc := "(III)I" } : Jvm.MethodName)) ∈ tables_1 := List.mem_of_getElem? (i := 37) rfl
theorem m_38 : (Jvm.Cond.instanceMethod ({ cls := "PictureCobol", name := "clamp", desc := "(III)I" } : Jvm.MethodName)) ∈ tables_1 := List.mem_of_getElem? (i := 38) rfl
theorem m_39 : (Jvm.Cond.privateMethod ({ cls := "PictureCobol", name := "clamp", desc := "(III)I" } : Jvm.MethodName)) ∈ tables_1 := List.mem_of_getElem? (i := 39) rfl
theorem m_40 : (Jvm.Cond.code ({ cls := "PictureCobol", name := "clamp", desc := "(III)I" } : Jvm.MethodName) prog_1_method_16_code (4 : Nat) (Option.some Jvm.ClassFile.FieldType.int)) ∈ tables_1 := List.mem_of_getElem? (i := 40) rfl
theorem m_41 : (Jvm.Cond.fieldLink "PictureCobol" (48 : Nat) "PictureCobol" "maxFields" "I") ∈ tables_1 := List.mem_of_getElem? (i := 41) rfl
theorem m_42 : (Jvm.Cond.lays "PictureCobol" "PictureCobol" "maxFields" "I") ∈ tables_1 := List.mem_of_getElem? (i := 42) rfl
theorem m_43 : (Jvm.Cond.fieldLink "PictureCobol" (52 : Nat) "PictureCobol" "maxStatements" "I") ∈ tables_1 := List.mem_of_getElem? (i := 43) rfl
theorem m_44 : (Jvm.Cond.lays "PictureCobol" "PictureCobol" "maxStatements" "I") ∈ tables_1 := List.mem_of_getElem? (i := 44) rfl
theorem m_45 : (Jvm.Cond.fieldLink "PictureCobol" (55 : Nat) "PictureCobol" "fieldCount" "I") ∈ tables_1 := List.mem_of_getElem? (i := 45) rfl
theorem m_46 : (Jvm.Cond.lays "PictureCobol" "PictureCobol" "fieldCount" "I") ∈ tables_1 := List.mem_of_getElem? (i := 46) rfl
theorem m_47 : (Jvm.Cond.fieldLink "PictureCobol" (58 : Nat) "PictureCobol" "stmtCount" "I") ∈ tables_1 := List.mem_of_getElem? (i := 47) rfl
theorem m_48 : (Jvm.Cond.lays "PictureCobol" "PictureCobol" "stmtCount" "I") ∈ tables_1 := List.mem_of_getElem? (i := 48) rfl
theorem m_49 : (Jvm.Cond.fieldLink "PictureCobol" (61 : Nat) "PictureCobol" "compiled" "Z") ∈ tables_1 := List.mem_of_getElem? (i := 49) rfl
theorem m_50 : (Jvm.Cond.lays "PictureCobol" "PictureCobol" "compiled" "Z") ∈ tables_1 := List.mem_of_getElem? (i := 50) rfl
theorem m_51 : (Jvm.Cond.fieldLink "PictureCobol" (65 : Nat) "PictureCobol" "halted" "Z") ∈ tables_1 := List.mem_of_getElem? (i := 51) rfl
theorem m_52 : (Jvm.Cond.lays "PictureCobol" "PictureCobol" "halted" "Z") ∈ tables_1 := List.mem_of_getElem? (i := 52) rfl
theorem m_53 : (Jvm.Cond.fieldLink "PictureCobol" (68 : Nat) "PictureCobol" "pc" "I") ∈ tables_1 := List.mem_of_getElem? (i := 53) rfl
theorem m_54 : (Jvm.Cond.lays "PictureCobol" "PictureCobol" "pc" "I") ∈ tables_1 := List.mem_of_getElem? (i := 54) rfl
theorem m_55 : (Jvm.Cond.fieldLink "PictureCobol" (71 : Nat) "PictureCobol" "executed" "I") ∈ tables_1 := List.mem_of_getElem? (i := 55) rfl
theorem m_56 : (Jvm.Cond.lays "PictureCobol" "PictureCobol" "executed" "I") ∈ tables_1 := List.mem_of_getElem? (i := 56) rfl
theorem m_57 : (Jvm.Cond.fieldLink "PictureCobol" (74 : Nat) "PictureCobol" "sizeErrors" "I") ∈ tables_1 := List.mem_of_getElem? (i := 57) rfl
theorem m_58 : (Jvm.Cond.lays "PictureCobol" "PictureCobol" "sizeErrors" "I") ∈ tables_1 := List.mem_of_getElem? (i := 58) rfl
theorem m_59 : (Jvm.Cond.methodLink "PictureCobolOwnLaw" (10 : Nat) ({ cls := "PictureCobolOwnLaw", name := "dOf", desc := "(I)I" } : Jvm.MethodName)) ∈ tables_1 := List.mem_of_getElem? (i := 59) rfl
theorem m_60 : (Jvm.Cond.static ({ cls := "PictureCobolOwnLaw", name := "dOf", desc := "(I)I" } : Jvm.MethodName)) ∈ tables_1 := List.mem_of_getElem? (i := 60) rfl
theorem m_61 : (Jvm.Cond.code ({ cls := "PictureCobolOwnLaw", name := "dOf", desc := "(I)I" } : Jvm.MethodName) method_4_code (1 : Nat) (Option.some Jvm.ClassFile.FieldType.int)) ∈ tables_1 := List.mem_of_getElem? (i := 61) rfl
theorem m_62 : (Jvm.Cond.constant "PictureCobolOwnLaw" (9 : Nat) (65535 : Int32)) ∈ tables_1 := List.mem_of_getElem? (i := 62) rfl
theorem m_63 : (Jvm.Cond.methodLink "PictureCobolOwnLaw" (33 : Nat) ({ cls := "PictureCobolOwnLaw", name := "fOf", desc := "(I)I" } : Jvm.MethodName)) ∈ tables_1 := List.mem_of_getElem? (i := 63) rfl
theorem m_64 : (Jvm.Cond.static ({ cls := "PictureCobolOwnLaw", name := "fOf", desc := "(I)I" } : Jvm.MethodName)) ∈ tables_1 := List.mem_of_getElem? (i := 64) rfl
theorem m_65 : (Jvm.Cond.code ({ cls := "PictureCobolOwnLaw", name := "fOf", desc := "(I)I" } : Jvm.MethodName) method_5_code (1 : Nat) (Option.some Jvm.ClassFile.FieldType.int)) ∈ tables_1 := List.mem_of_getElem? (i := 65) rfl
theorem m_66 : (Jvm.Cond.methodLink "PictureCobolOwnLaw" (36 : Nat) ({ cls := "PictureCobolOwnLaw", name := "sgOf", desc := "(I)Z" } : Jvm.MethodName)) ∈ tables_1 := List.mem_of_getElem? (i := 66) rfl
theorem m_67 : (Jvm.Cond.static ({ cls := "PictureCobolOwnLaw", name := "sgOf", desc := "(I)Z" } : Jvm.MethodName)) ∈ tables_1 := List.mem_of_getElem? (i := 67) rfl
theorem m_68 : (Jvm.Cond.code ({ cls := "PictureCobolOwnLaw", name := "sgOf", desc := "(I)Z" } : Jvm.MethodName) method_6_code (1 : Nat) (Option.some Jvm.ClassFile.FieldType.boolean)) ∈ tables_1 := List.mem_of_getElem? (i := 68) rfl
theorem m_69 : (Jvm.Cond.constant "PictureCobolOwnLaw" (16 : Nat) (1048576 : Int32)) ∈ tables_1 := List.mem_of_getElem? (i := 69) rfl
theorem m_70 : (Jvm.Cond.methodLink "PictureCobolOwnLaw" (40 : Nat) ({ cls := "PictureCobol", name := "declareField", desc := "(IIZ)I" } : Jvm.MethodName)) ∈ tables_1 := List.mem_of_getElem? (i := 70) rfl
theorem m_71 : (Jvm.Cond.declares ({ cls := "PictureCobol", name := "declareField", desc := "(IIZ)I" } : Jvm.MethodName)) ∈ tables_1 := List.mem_of_getElem? (i := 71) rfl
theorem m_72 : (Jvm.Cond.instanceMethod ({ cls := "PictureCobol", name := "declareField", desc := "(IIZ)I" } : Jvm.MethodName)) ∈ tables_1 := List.mem_of_getElem? (i := 72) rfl
theorem m_73 : (Jvm.Cond.selects "PictureCobol" ({ cls := "PictureCobol", name := "declareField", desc := "(IIZ)I" } : Jvm.MethodName) ({ cls := "PictureCobol", name := "declareField", desc := "(IIZ)I" } : Jvm.MethodName)) ∈ tables_1 := List.mem_of_getElem? (i := 73) rfl
theorem m_74 : (Jvm.Cond.code ({ cls := "PictureCobol", name := "declareField", desc := "(IIZ)I" } : Jvm.MethodName) prog_1_method_2_code (6 : Nat) (Option.some Jvm.ClassFile.FieldType.int)) ∈ tables_1 := List.mem_of_getElem? (i := 74) rfl
theorem m_75 : (Jvm.Cond.methodLink "PictureCobolOwnLaw" (97 : Nat) ({ cls := "PictureCobol", name := "getFieldCount", desc := "()I" } : Jvm.MethodName)) ∈ tables_1 := List.mem_of_getElem? (i := 75) rfl
theorem m_76 : (Jvm.Cond.declares ({ cls := "PictureCobol", name := "getFieldCount", desc := "()I" } : Jvm.MethodName)) ∈ tables_1 := List.mem_of_getElem? (i := 76) rfl
theorem m_77 : (Jvm.Cond.instanceMethod ({ cls := "PictureCobol", name := "getFieldCount", desc := "()I" } : Jvm.MethodName)) ∈ tables_1 := List.mem_of_getElem? (i := 77) rfl
theorem m_78 : (Jvm.Cond.selects "PictureCobol" ({ cls := "PictureCobol", name := "getFieldCount", desc := "()I" } : Jvm.MethodName) ({ cls := "PictureCobol", name := "getFieldCount", desc := "()I" } : Jvm.MethodName)) ∈ tables_1 := List.mem_of_getElem? (i := 78) rfl
theorem m_79 : (Jvm.Cond.code ({ cls := "PictureCobol", name := "getFieldCount", desc := "()I" } : Jvm.MethodName) prog_1_method_14_code (1 : Nat) (Option.some Jvm.ClassFile.FieldType.int)) ∈ tables_1 := List.mem_of_getElem? (i := 79) rfl
theorem m_80 : (Jvm.Cond.methodLink "PictureCobolOwnLaw" (82 : Nat) ({ cls := "PictureCobol", name := "getValue", desc := "(I)I" } : Jvm.MethodName)) ∈ tables_1 := List.mem_of_getElem? (i := 80) rfl
theorem m_81 : (Jvm.Cond.declares ({ cls := "PictureCobol", name := "getValue", desc := "(I)I" } : Jvm.MethodName)) ∈ tables_1 := List.mem_of_getElem? (i := 81) rfl
theorem m_82 : (Jvm.Cond.instanceMethod ({ cls := "PictureCobol", name := "getValue", desc := "(I)I" } : Jvm.MethodName)) ∈ tables_1 := List.mem_of_getElem? (i := 82) rfl
theorem m_83 : (Jvm.Cond.selects "PictureCobol" ({ cls := "PictureCobol", name := "getValue", desc := "(I)I" } : Jvm.MethodName) ({ cls := "PictureCobol", name := "getValue", desc := "(I)I" } : Jvm.MethodName)) ∈ tables_1 := List.mem_of_getElem? (i := 83) rfl
theorem m_84 : (Jvm.Cond.code ({ cls := "PictureCobol", name := "getValue", desc := "(I)I" } : Jvm.MethodName) prog_1_method_9_code (2 : Nat) (Option.some Jvm.ClassFile.FieldType.int)) ∈ tables_1 := List.mem_of_getElem? (i := 84) rfl
theorem m_85 : (Jvm.Cond.methodLink "PictureCobol" (77 : Nat) ({ cls := "PictureCobol", name := "isField", desc := "(I)Z" } : Jvm.MethodName)) ∈ tables_1 := List.mem_of_getElem? (i := 85) rfl
theorem m_86 : (Jvm.Cond.instanceMethod ({ cls := "PictureCobol", name := "isField", desc := "(I)Z" } : Jvm.MethodName)) ∈ tables_1 := List.mem_of_getElem? (i := 86) rfl
theorem m_87 : (Jvm.Cond.privateMethod ({ cls := "PictureCobol", name := "isField", desc := "(I)Z" } : Jvm.MethodName)) ∈ tables_1 := List.mem_of_getElem? (i := 87) rfl
theorem m_88 : (Jvm.Cond.code ({ cls := "PictureCobol", name := "isField", desc := "(I)Z" } : Jvm.MethodName) prog_1_method_17_code (2 : Nat) (Option.some Jvm.ClassFile.FieldType.boolean)) ∈ tables_1 := List.mem_of_getElem? (i := 88) rfl
theorem m_89 : (Jvm.Cond.methodLink "PictureCobolOwnLaw" (18 : Nat) ({ cls := "PictureCobolOwnLaw", name := "p10", desc := "(I)J" } : Jvm.MethodName)) ∈ tables_1 := List.mem_of_getElem? (i := 89) rfl
theorem m_90 : (Jvm.Cond.static ({ cls := "PictureCobolOwnLaw", name := "p10", desc := "(I)J" } : Jvm.MethodName)) ∈ tables_1 := List.mem_of_getElem? (i := 90) rfl
theorem m_91 : (Jvm.Cond.code ({ cls := "PictureCobolOwnLaw", name := "p10", desc := "(I)J" } : Jvm.MethodName) method_3_code (4 : Nat) (Option.some Jvm.ClassFile.FieldType.long)) ∈ tables_1 := List.mem_of_getElem? (i := 91) rfl
theorem m_92 : (Jvm.Cond.constantLong "PictureCobolOwnLaw" (7 : Nat) (10 : Int64)) ∈ tables_1 := List.mem_of_getElem? (i := 92) rfl
theorem m_93 : (Jvm.Cond.methodLink "PictureCobolOwnLaw" (44 : Nat) ({ cls := "PictureCobol", name := "setValue", desc := "(II)Z" } : Jvm.MethodName)) ∈ tables_1 := List.mem_of_getElem? (i := 93) rfl
theorem m_94 : (Jvm.Cond.declares ({ cls := "PictureCobol", name := "setValue", desc := "(II)Z" } : Jvm.MethodName)) ∈ tables_1 := List.mem_of_getElem? (i := 94) rfl
theorem m_95 : (Jvm.Cond.instanceMethod ({ cls := "PictureCobol", name := "setValue", desc := "(II)Z" } : Jvm.MethodName)) ∈ tables_1 := List.mem_of_getElem? (i := 95) rfl
theorem m_96 : (Jvm.Cond.selects "PictureCobol" ({ cls := "PictureCobol", name := "setValue", desc := "(II)Z" } : Jvm.MethodName) ({ cls := "PictureCobol", name := "setValue", desc := "(II)Z" } : Jvm.MethodName)) ∈ tables_1 := List.mem_of_getElem? (i := 96) rfl
theorem m_97 : (Jvm.Cond.code ({ cls := "PictureCobol", name := "setValue", desc := "(II)Z" } : Jvm.MethodName) prog_1_method_3_code (9 : Nat) (Option.some Jvm.ClassFile.FieldType.boolean)) ∈ tables_1 := List.mem_of_getElem? (i := 97) rfl
theorem m_98 : (Jvm.Cond.methodLink "PictureCobol" (81 : Nat) ({ cls := "PictureCobol", name := "digits", desc := "(I)I" } : Jvm.MethodName)) ∈ tables_1 := List.mem_of_getElem? (i := 98) rfl
theorem m_99 : (Jvm.Cond.instanceMethod ({ cls := "PictureCobol", name := "digits", desc := "(I)I" } : Jvm.MethodName)) ∈ tables_1 := List.mem_of_getElem? (i := 99) rfl
theorem m_100 : (Jvm.Cond.privateMethod ({ cls := "PictureCobol", name := "digits", desc := "(I)I" } : Jvm.MethodName)) ∈ tables_1 := List.mem_of_getElem? (i := 100) rfl
theorem m_101 : (Jvm.Cond.code ({ cls := "PictureCobol", name := "digits", desc := "(I)I" } : Jvm.MethodName) prog_1_method_18_code (2 : Nat) (Option.some Jvm.ClassFile.FieldType.int)) ∈ tables_1 := List.mem_of_getElem? (i := 101) rfl
theorem m_102 : (Jvm.Cond.methodLink "PictureCobol" (85 : Nat) ({ cls := "PictureCobol", name := "pow10", desc := "(I)J" } : Jvm.MethodName)) ∈ tables_1 := List.mem_of_getElem? (i := 102) rfl
theorem m_103 : (Jvm.Cond.instanceMethod ({ cls := "PictureCobol", name := "pow10", desc := "(I)J" } : Jvm.MethodName)) ∈ tables_1 := List.mem_of_getElem? (i := 103) rfl
theorem m_104 : (Jvm.Cond.privateMethod ({ cls := "PictureCobol", name := "pow10", desc := "(I)J" } : Jvm.MethodName)) ∈ tables_1 := List.mem_of_getElem? (i := 104) rfl
theorem m_105 : (Jvm.Cond.code ({ cls := "PictureCobol", name := "pow10", desc := "(I)J" } : Jvm.MethodName) prog_1_method_24_code (5 : Nat) (Option.some Jvm.ClassFile.FieldType.long)) ∈ tables_1 := List.mem_of_getElem? (i := 105) rfl
theorem m_106 : (Jvm.Cond.constantLong "PictureCobol" (110 : Nat) (10 : Int64)) ∈ tables_1 := List.mem_of_getElem? (i := 106) rfl
theorem m_107 : (Jvm.Cond.methodLink "PictureCobolOwnLaw" (48 : Nat) ({ cls := "PictureCobolOwnLaw", name := "kindOf", desc := "(I)I" } : Jvm.MethodName)) ∈ tables_1 := List.mem_of_getElem? (i := 107) rfl
theorem m_108 : (Jvm.Cond.static ({ cls := "PictureCobolOwnLaw", name := "kindOf", desc := "(I)I" } : Jvm.MethodName)) ∈ tables_1 := List.mem_of_getElem? (i := 108) rfl
theorem m_109 : (Jvm.Cond.code ({ cls := "PictureCobolOwnLaw", name := "kindOf", desc := "(I)I" } : Jvm.MethodName) method_8_code (2 : Nat) (Option.some Jvm.ClassFile.FieldType.int)) ∈ tables_1 := List.mem_of_getElem? (i := 109) rfl
theorem m_110 : (Jvm.Cond.methodLink "PictureCobolOwnLaw" (51 : Nat) ({ cls := "PictureCobolOwnLaw", name := "ix", desc := "(II)I" } : Jvm.MethodName)) ∈ tables_1 := List.mem_of_getElem? (i := 110) rfl
theorem m_111 : (Jvm.Cond.static ({ cls := "PictureCobolOwnLaw", name := "ix", desc := "(II)I" } : Jvm.MethodName)) ∈ tables_1 := List.mem_of_getElem? (i := 111) rfl
theorem m_112 : (Jvm.Cond.code ({ cls := "PictureCobolOwnLaw", name := "ix", desc := "(II)I" } : Jvm.MethodName) method_7_code (2 : Nat) (Option.some Jvm.ClassFile.FieldType.int)) ∈ tables_1 := List.mem_of_getElem? (i := 112) rfl
theorem m_113 : (Jvm.Cond.constant "PictureCobolOwnLaw" (17 : Nat) (2147483647 : Int32)) ∈ tables_1 := List.mem_of_getElem? (i := 113) rfl
theorem m_114 : (Jvm.Cond.methodLink "PictureCobolOwnLaw" (58 : Nat) ({ cls := "PictureCobolOwnLaw", name := "roundedOf", desc := "(I)Z" } : Jvm.MethodName)) ∈ tables_1 := List.mem_of_getElem? (i := 114) rfl
theorem m_115 : (Jvm.Cond.static ({ cls := "PictureCobolOwnLaw", name := "roundedOf", desc := "(I)Z" } : Jvm.MethodName)) ∈ tables_1 := List.mem_of_getElem? (i := 115) rfl
theorem m_116 : (Jvm.Cond.code ({ cls := "PictureCobolOwnLaw", name := "roundedOf", desc := "(I)Z" } : Jvm.MethodName) method_9_code (1 : Nat) (Option.some Jvm.ClassFile.FieldType.boolean)) ∈ tables_1 := List.mem_of_getElem? (i := 116) rfl
theorem m_117 : (Jvm.Cond.methodLink "PictureCobolOwnLaw" (61 : Nat) ({ cls := "PictureCobol", name := "statement", desc := "(IIII)I" } : Jvm.MethodName)) ∈ tables_1 := List.mem_of_getElem? (i := 117) rfl
theorem m_118 : (Jvm.Cond.declares ({ cls := "PictureCobol", name := "statement", desc := "(IIII)I" } : Jvm.MethodName)) ∈ tables_1 := List.mem_of_getElem? (i := 118) rfl
theorem m_119 : (Jvm.Cond.instanceMethod ({ cls := "PictureCobol", name := "statement", desc := "(IIII)I" } : Jvm.MethodName)) ∈ tables_1 := List.mem_of_getElem? (i := 119) rfl
theorem m_120 : (Jvm.Cond.selects "PictureCobol" ({ cls := "PictureCobol", name := "statement", desc := "(IIII)I" } : Jvm.MethodName) ({ cls := "PictureCobol", name := "statement", desc := "(IIII)I" } : Jvm.MethodName)) ∈ tables_1 := List.mem_of_getElem? (i := 120) rfl
theorem m_121 : (Jvm.Cond.code ({ cls := "PictureCobol", name := "statement", desc := "(IIII)I" } : Jvm.MethodName) prog_1_method_4_code (7 : Nat) (Option.some Jvm.ClassFile.FieldType.int)) ∈ tables_1 := List.mem_of_getElem? (i := 121) rfl
theorem m_122 : (Jvm.Cond.methodLink "PictureCobol" (89 : Nat) ({ cls := "PictureCobol", name := "validKind", desc := "(I)Z" } : Jvm.MethodName)) ∈ tables_1 := List.mem_of_getElem? (i := 122) rfl
theorem m_123 : (Jvm.Cond.instanceMethod ({ cls := "PictureCobol", name := "validKind", desc := "(I)Z" } : Jvm.MethodName)) ∈ tables_1 := List.mem_of_getElem? (i := 123) rfl
theorem m_124 : (Jvm.Cond.privateMethod ({ cls := "PictureCobol", name := "validKind", desc := "(I)Z" } : Jvm.MethodName)) ∈ tables_1 := List.mem_of_getElem? (i := 124) rfl
theorem m_125 : (Jvm.Cond.code ({ cls := "PictureCobol", name := "validKind", desc := "(I)Z" } : Jvm.MethodName) prog_1_method_20_code (2 : Nat) (Option.some Jvm.ClassFile.FieldType.boolean)) ∈ tables_1 := List.mem_of_getElem? (i := 125) rfl
theorem m_126 : (Jvm.Cond.methodLink "PictureCobol" (92 : Nat) ({ cls := "PictureCobol", name := "operandsOk", desc := "(III)Z" } : Jvm.MethodName)) ∈ tables_1 := List.mem_of_getElem? (i := 126) rfl
theorem m_127 : (Jvm.Cond.instanceMethod ({ cls := "PictureCobol", name := "operandsOk", desc := "(III)Z" } : Jvm.MethodName)) ∈ tables_1 := List.mem_of_getElem? (i := 127) rfl
theorem m_128 : (Jvm.Cond.privateMethod ({ cls := "PictureCobol", name := "operandsOk", desc := "(III)Z" } : Jvm.MethodName)) ∈ tables_1 := List.mem_of_getElem? (i := 128) rfl
theorem m_129 : (Jvm.Cond.code ({ cls := "PictureCobol", name := "operandsOk", desc := "(III)Z" } : Jvm.MethodName) prog_1_method_21_code (4 : Nat) (Option.some Jvm.ClassFile.FieldType.boolean)) ∈ tables_1 := List.mem_of_getElem? (i := 129) rfl
theorem m_130 : (Jvm.Cond.methodLink "PictureCobol" (96 : Nat) ({ cls := "PictureCobol", name := "isArith", desc := "(I)Z" } : Jvm.MethodName)) ∈ tables_1 := List.mem_of_getElem? (i := 130) rfl
theorem m_131 : (Jvm.Cond.instanceMethod ({ cls := "PictureCobol", name := "isArith", desc := "(I)Z" } : Jvm.MethodName)) ∈ tables_1 := List.mem_of_getElem? (i := 131) rfl
theorem m_132 : (Jvm.Cond.privateMethod ({ cls := "PictureCobol", name := "isArith", desc := "(I)Z" } : Jvm.MethodName)) ∈ tables_1 := List.mem_of_getElem? (i := 132) rfl
theorem m_133 : (Jvm.Cond.code ({ cls := "PictureCobol", name := "isArith", desc := "(I)Z" } : Jvm.MethodName) prog_1_method_19_code (2 : Nat) (Option.some Jvm.ClassFile.FieldType.boolean)) ∈ tables_1 := List.mem_of_getElem? (i := 133) rfl
theorem m_134 : (Jvm.Cond.methodLink "PictureCobolOwnLaw" (65 : Nat) ({ cls := "PictureCobolOwnLaw", name := "targetOf", desc := "(I)Z" } : Jvm.MethodName)) ∈ tables_1 := List.mem_of_getElem? (i := 134) rfl
theorem m_135 : (Jvm.Cond.static ({ cls := "PictureCobolOwnLaw", name := "targetOf", desc := "(I)Z" } : Jvm.MethodName)) ∈ tables_1 := List.mem_of_getElem? (i := 135) rfl
theorem m_136 : (Jvm.Cond.code ({ cls := "PictureCobolOwnLaw", name := "targetOf", desc := "(I)Z" } : Jvm.MethodName) method_10_code (1 : Nat) (Option.some Jvm.ClassFile.FieldType.boolean)) ∈ tables_1 := List.mem_of_getElem? (i := 136) rfl
theorem m_137 : (Jvm.Cond.methodLink "PictureCobolOwnLaw" (55 : Nat) ({ cls := "PictureCobol", name := "onSizeError", desc := "(I)Z" } : Jvm.MethodName)) ∈ tables_1 := List.mem_of_getElem? (i := 137) rfl
theorem m_138 : (Jvm.Cond.declares ({ cls := "PictureCobol", name := "onSizeError", desc := "(I)Z" } : Jvm.MethodName)) ∈ tables_1 := List.mem_of_getElem? (i := 138) rfl
theorem m_139 : (Jvm.Cond.instanceMethod ({ cls := "PictureCobol", name := "onSizeError", desc := "(I)Z" } : Jvm.MethodName)) ∈ tables_1 := List.mem_of_getElem? (i := 139) rfl
theorem m_140 : (Jvm.Cond.selects "PictureCobol" ({ cls := "PictureCobol", name := "onSizeError", desc := "(I)Z" } : Jvm.MethodName) ({ cls := "PictureCobol", name := "onSizeError", desc := "(I)Z" } : Jvm.MethodName)) ∈ tables_1 := List.mem_of_getElem? (i := 140) rfl
theorem m_141 : (Jvm.Cond.code ({ cls := "PictureCobol", name := "onSizeError", desc := "(I)Z" } : Jvm.MethodName) prog_1_method_5_code (3 : Nat) (Option.some Jvm.ClassFile.FieldType.boolean)) ∈ tables_1 := List.mem_of_getElem? (i := 141) rfl
theorem m_142 : (Jvm.Cond.methodLink "PictureCobolOwnLaw" (68 : Nat) ({ cls := "PictureCobol", name := "compile", desc := "()I" } : Jvm.MethodName)) ∈ tables_1 := List.mem_of_getElem? (i := 142) rfl
theorem m_143 : (Jvm.Cond.declares ({ cls := "PictureCobol", name := "compile", desc := "()I" } : Jvm.MethodName)) ∈ tables_1 := List.mem_of_getElem? (i := 143) rfl
theorem m_144 : (Jvm.Cond.instanceMethod ({ cls := "PictureCobol", name := "compile", desc := "()I" } : Jvm.MethodName)) ∈ tables_1 := List.mem_of_getElem? (i := 144) rfl
theorem m_145 : (Jvm.Cond.selects "PictureCobol" ({ cls := "PictureCobol", name := "compile", desc := "()I" } : Jvm.MethodName) ({ cls := "PictureCobol", name := "compile", desc := "()I" } : Jvm.MethodName)) ∈ tables_1 := List.mem_of_getElem? (i := 145) rfl
theorem m_146 : (Jvm.Cond.code ({ cls := "PictureCobol", name := "compile", desc := "()I" } : Jvm.MethodName) prog_1_method_6_code (3 : Nat) (Option.some Jvm.ClassFile.FieldType.int)) ∈ tables_1 := List.mem_of_getElem? (i := 146) rfl
theorem m_147 : (Jvm.Cond.methodLink "PictureCobol" (99 : Nat) ({ cls := "PictureCobol", name := "isBad", desc := "(II)Z" } : Jvm.MethodName)) ∈ tables_1 := List.mem_of_getElem? (i := 147) rfl
theorem m_148 : (Jvm.Cond.instanceMethod ({ cls := "PictureCobol", name := "isBad", desc := "(II)Z" } : Jvm.MethodName)) ∈ tables_1 := List.mem_of_getElem? (i := 148) rfl
theorem m_149 : (Jvm.Cond.privateMethod ({ cls := "PictureCobol", name := "isBad", desc := "(II)Z" } : Jvm.MethodName)) ∈ tables_1 := List.mem_of_getElem? (i := 149) rfl
theorem m_150 : (Jvm.Cond.code ({ cls := "PictureCobol", name := "isBad", desc := "(II)Z" } : Jvm.MethodName) prog_1_method_23_code (4 : Nat) (Option.some Jvm.ClassFile.FieldType.boolean)) ∈ tables_1 := List.mem_of_getElem? (i := 150) rfl
theorem m_151 : (Jvm.Cond.methodLink "PictureCobol" (107 : Nat) ({ cls := "PictureCobol", name := "inTargets", desc := "(II)Z" } : Jvm.MethodName)) ∈ tables_1 := List.mem_of_getElem? (i := 151) rfl
theorem m_152 : (Jvm.Cond.instanceMethod ({ cls := "PictureCobol", name := "inTargets", desc := "(II)Z" } : Jvm.MethodName)) ∈ tables_1 := List.mem_of_getElem? (i := 152) rfl
theorem m_153 : (Jvm.Cond.privateMethod ({ cls := "PictureCobol", name := "inTargets", desc := "(II)Z" } : Jvm.MethodName)) ∈ tables_1 := List.mem_of_getElem? (i := 153) rfl
theorem m_154 : (Jvm.Cond.code ({ cls := "PictureCobol", name := "inTargets", desc := "(II)Z" } : Jvm.MethodName) prog_1_method_22_code (3 : Nat) (Option.some Jvm.ClassFile.FieldType.boolean)) ∈ tables_1 := List.mem_of_getElem? (i := 154) rfl
theorem m_155 : (Jvm.Cond.methodLink "PictureCobolOwnLaw" (72 : Nat) ({ cls := "PictureCobol", name := "isHalted", desc := "()Z" } : Jvm.MethodName)) ∈ tables_1 := List.mem_of_getElem? (i := 155) rfl
theorem m_156 : (Jvm.Cond.declares ({ cls := "PictureCobol", name := "isHalted", desc := "()Z" } : Jvm.MethodName)) ∈ tables_1 := List.mem_of_getElem? (i := 156) rfl
theorem m_157 : (Jvm.Cond.instanceMethod ({ cls := "PictureCobol", name := "isHalted", desc := "()Z" } : Jvm.MethodName)) ∈ tables_1 := List.mem_of_getElem? (i := 157) rfl
theorem m_158 : (Jvm.Cond.selects "PictureCobol" ({ cls := "PictureCobol", name := "isHalted", desc := "()Z" } : Jvm.MethodName) ({ cls := "PictureCobol", name := "isHalted", desc := "()Z" } : Jvm.MethodName)) ∈ tables_1 := List.mem_of_getElem? (i := 158) rfl
theorem m_159 : (Jvm.Cond.code ({ cls := "PictureCobol", name := "isHalted", desc := "()Z" } : Jvm.MethodName) prog_1_method_11_code (1 : Nat) (Option.some Jvm.ClassFile.FieldType.boolean)) ∈ tables_1 := List.mem_of_getElem? (i := 159) rfl
theorem m_160 : (Jvm.Cond.methodLink "PictureCobolOwnLaw" (79 : Nat) ({ cls := "PictureCobol", name := "getPc", desc := "()I" } : Jvm.MethodName)) ∈ tables_1 := List.mem_of_getElem? (i := 160) rfl
theorem m_161 : (Jvm.Cond.declares ({ cls := "PictureCobol", name := "getPc", desc := "()I" } : Jvm.MethodName)) ∈ tables_1 := List.mem_of_getElem? (i := 161) rfl
theorem m_162 : (Jvm.Cond.instanceMethod ({ cls := "PictureCobol", name := "getPc", desc := "()I" } : Jvm.MethodName)) ∈ tables_1 := List.mem_of_getElem? (i := 162) rfl
theorem m_163 : (Jvm.Cond.selects "PictureCobol" ({ cls := "PictureCobol", name := "getPc", desc := "()I" } : Jvm.MethodName) ({ cls := "PictureCobol", name := "getPc", desc := "()I" } : Jvm.MethodName)) ∈ tables_1 := List.mem_of_getElem? (i := 163) rfl
theorem m_164 : (Jvm.Cond.code ({ cls := "PictureCobol", name := "getPc", desc := "()I" } : Jvm.MethodName) prog_1_method_10_code (1 : Nat) (Option.some Jvm.ClassFile.FieldType.int)) ∈ tables_1 := List.mem_of_getElem? (i := 164) rfl
theorem m_165 : (Jvm.Cond.methodLink "PictureCobolOwnLaw" (85 : Nat) ({ cls := "PictureCobolOwnLaw", name := "sizeErr", desc := "(IZJIJIII)Z" } : Jvm.MethodName)) ∈ tables_1 := List.mem_of_getElem? (i := 165) rfl
theorem m_166 : (Jvm.Cond.static ({ cls := "PictureCobolOwnLaw", name := "sizeErr", desc := "(IZJIJIII)Z" } : Jvm.MethodName)) ∈ tables_1 := List.mem_of_getElem? (i := 166) rfl
theorem m_167 : (Jvm.Cond.code ({ cls := "PictureCobolOwnLaw", name := "sizeErr", desc := "(IZJIJIII)Z" } : Jvm.MethodName) method_11_code (19 : Nat) (Option.some Jvm.ClassFile.FieldType.boolean)) ∈ tables_1 := List.mem_of_getElem? (i := 167) rfl
theorem m_168 : (Jvm.Cond.constantLong "PictureCobolOwnLaw" (89 : Nat) (100000 : Int64)) ∈ tables_1 := List.mem_of_getElem? (i := 168) rfl
theorem m_169 : (Jvm.Cond.methodLink "PictureCobolOwnLaw" (91 : Nat) ({ cls := "PictureCobol", name := "getSizeErrors", desc := "()I" } : Jvm.MethodName)) ∈ tables_1 := List.mem_of_getElem? (i := 169) rfl
theorem m_170 : (Jvm.Cond.declares ({ cls := "PictureCobol", name := "getSizeErrors", desc := "()I" } : Jvm.MethodName)) ∈ tables_1 := List.mem_of_getElem? (i := 170) rfl
theorem m_171 : (Jvm.Cond.instanceMethod ({ cls := "PictureCobol", name := "getSizeErrors", desc := "()I" } : Jvm.MethodName)) ∈ tables_1 := List.mem_of_getElem? (i := 171) rfl
theorem m_172 : (Jvm.Cond.selects "PictureCobol" ({ cls := "PictureCobol", name := "getSizeErrors", desc := "()I" } : Jvm.MethodName) ({ cls := "PictureCobol", name := "getSizeErrors", desc := "()I" } : Jvm.MethodName)) ∈ tables_1 := List.mem_of_getElem? (i := 172) rfl
theorem m_173 : (Jvm.Cond.code ({ cls := "PictureCobol", name := "getSizeErrors", desc := "()I" } : Jvm.MethodName) prog_1_method_12_code (1 : Nat) (Option.some Jvm.ClassFile.FieldType.int)) ∈ tables_1 := List.mem_of_getElem? (i := 173) rfl
theorem m_174 : (Jvm.Cond.methodLink "PictureCobolOwnLaw" (94 : Nat) ({ cls := "PictureCobol", name := "run", desc := "(I)I" } : Jvm.MethodName)) ∈ tables_1 := List.mem_of_getElem? (i := 174) rfl
theorem m_175 : (Jvm.Cond.declares ({ cls := "PictureCobol", name := "run", desc := "(I)I" } : Jvm.MethodName)) ∈ tables_1 := List.mem_of_getElem? (i := 175) rfl
theorem m_176 : (Jvm.Cond.instanceMethod ({ cls := "PictureCobol", name := "run", desc := "(I)I" } : Jvm.MethodName)) ∈ tables_1 := List.mem_of_getElem? (i := 176) rfl
theorem m_177 : (Jvm.Cond.selects "PictureCobol" ({ cls := "PictureCobol", name := "run", desc := "(I)I" } : Jvm.MethodName) ({ cls := "PictureCobol", name := "run", desc := "(I)I" } : Jvm.MethodName)) ∈ tables_1 := List.mem_of_getElem? (i := 177) rfl
theorem m_178 : (Jvm.Cond.code ({ cls := "PictureCobol", name := "run", desc := "(I)I" } : Jvm.MethodName) prog_1_method_7_code (4 : Nat) (Option.some Jvm.ClassFile.FieldType.int)) ∈ tables_1 := List.mem_of_getElem? (i := 178) rfl
theorem m_179 : (Jvm.Cond.methodLink "PictureCobol" (103 : Nat) ({ cls := "PictureCobol", name := "execute", desc := "(I)V" } : Jvm.MethodName)) ∈ tables_1 := List.mem_of_getElem? (i := 179) rfl
theorem m_180 : (Jvm.Cond.instanceMethod ({ cls := "PictureCobol", name := "execute", desc := "(I)V" } : Jvm.MethodName)) ∈ tables_1 := List.mem_of_getElem? (i := 180) rfl
theorem m_181 : (Jvm.Cond.privateMethod ({ cls := "PictureCobol", name := "execute", desc := "(I)V" } : Jvm.MethodName)) ∈ tables_1 := List.mem_of_getElem? (i := 181) rfl
theorem m_182 : (Jvm.Cond.code ({ cls := "PictureCobol", name := "execute", desc := "(I)V" } : Jvm.MethodName) prog_1_method_29_code (3 : Nat) (Option.none : Option Jvm.ClassFile.FieldType)) ∈ tables_1 := List.mem_of_getElem? (i := 182) rfl
theorem m_183 : (Jvm.Cond.methodLink "PictureCobol" (128 : Nat) ({ cls := "PictureCobol", name := "execArith", desc := "(I)V" } : Jvm.MethodName)) ∈ tables_1 := List.mem_of_getElem? (i := 183) rfl
theorem m_184 : (Jvm.Cond.instanceMethod ({ cls := "PictureCobol", name := "execArith", desc := "(I)V" } : Jvm.MethodName)) ∈ tables_1 := List.mem_of_getElem? (i := 184) rfl
theorem m_185 : (Jvm.Cond.privateMethod ({ cls := "PictureCobol", name := "execArith", desc := "(I)V" } : Jvm.MethodName)) ∈ tables_1 := List.mem_of_getElem? (i := 185) rfl
theorem m_186 : (Jvm.Cond.code ({ cls := "PictureCobol", name := "execArith", desc := "(I)V" } : Jvm.MethodName) prog_1_method_34_code (7 : Nat) (Option.none : Option Jvm.ClassFile.FieldType)) ∈ tables_1 := List.mem_of_getElem? (i := 186) rfl
theorem m_187 : (Jvm.Cond.methodLink "PictureCobol" (146 : Nat) ({ cls := "PictureCobol", name := "formQuotient", desc := "(I)Z" } : Jvm.MethodName)) ∈ tables_1 := List.mem_of_getElem? (i := 187) rfl
theorem m_188 : (Jvm.Cond.instanceMethod ({ cls := "PictureCobol", name := "formQuotient", desc := "(I)Z" } : Jvm.MethodName)) ∈ tables_1 := List.mem_of_getElem? (i := 188) rfl
theorem m_189 : (Jvm.Cond.privateMethod ({ cls := "PictureCobol", name := "formQuotient", desc := "(I)Z" } : Jvm.MethodName)) ∈ tables_1 := List.mem_of_getElem? (i := 189) rfl
theorem m_190 : (Jvm.Cond.code ({ cls := "PictureCobol", name := "formQuotient", desc := "(I)Z" } : Jvm.MethodName) prog_1_method_32_code (21 : Nat) (Option.some Jvm.ClassFile.FieldType.boolean)) ∈ tables_1 := List.mem_of_getElem? (i := 190) rfl
theorem m_191 : (Jvm.Cond.fieldLink "PictureCobol" (112 : Nat) "PictureCobol" "num" "J") ∈ tables_1 := List.mem_of_getElem? (i := 191) rfl
theorem m_192 : (Jvm.Cond.lays "PictureCobol" "PictureCobol" "num" "J") ∈ tables_1 := List.mem_of_getElem? (i := 192) rfl
theorem m_193 : (Jvm.Cond.fieldLink "PictureCobol" (120 : Nat) "PictureCobol" "den" "J") ∈ tables_1 := List.mem_of_getElem? (i := 193) rfl
theorem m_194 : (Jvm.Cond.lays "PictureCobol" "PictureCobol" "den" "J") ∈ tables_1 := List.mem_of_getElem? (i := 194) rfl
theorem m_195 : (Jvm.Cond.methodLink "PictureCobol" (134 : Nat) ({ cls := "PictureCobol", name := "toInteger", desc := "(Z)J" } : Jvm.MethodName)) ∈ tables_1 := List.mem_of_getElem? (i := 195) rfl
theorem m_196 : (Jvm.Cond.instanceMethod ({ cls := "PictureCobol", name := "toInteger", desc := "(Z)J" } : Jvm.MethodName)) ∈ tables_1 := List.mem_of_getElem? (i := 196) rfl
theorem m_197 : (Jvm.Cond.privateMethod ({ cls := "PictureCobol", name := "toInteger", desc := "(Z)J" } : Jvm.MethodName)) ∈ tables_1 := List.mem_of_getElem? (i := 197) rfl
theorem m_198 : (Jvm.Cond.code ({ cls := "PictureCobol", name := "toInteger", desc := "(Z)J" } : Jvm.MethodName) prog_1_method_26_code (8 : Nat) (Option.some Jvm.ClassFile.FieldType.long)) ∈ tables_1 := List.mem_of_getElem? (i := 198) rfl
theorem m_199 : (Jvm.Cond.methodLink "PictureCobol" (116 : Nat) ({ cls := "PictureCobol", name := "absL", desc := "(J)J" } : Jvm.MethodName)) ∈ tables_1 := List.mem_of_getElem? (i := 199) rfl
theorem m_200 : (Jvm.Cond.instanceMethod ({ cls := "PictureCobol", name := "absL", desc := "(J)J" } : Jvm.MethodName)) ∈ tables_1 := List.mem_of_getElem? (i := 200) rfl
theorem m_201 : (Jvm.Cond.privateMethod ({ cls := "PictureCobol", name := "absL", desc := "(J)J" } : Jvm.MethodName)) ∈ tables_1 := List.mem_of_getElem? (i := 201) rfl
theorem m_202 : (Jvm.Cond.code ({ cls := "PictureCobol", name := "absL", desc := "(J)J" } : Jvm.MethodName) prog_1_method_25_code (3 : Nat) (Option.some Jvm.ClassFile.FieldType.long)) ∈ tables_1 := List.mem_of_getElem? (i := 202) rfl
theorem m_203 : (Jvm.Cond.methodLink "PictureCobol" (153 : Nat) ({ cls := "PictureCobol", name := "fits", desc := "(JI)Z" } : Jvm.MethodName)) ∈ tables_1 := List.mem_of_getElem? (i := 203) rfl
theorem m_204 : (Jvm.Cond.instanceMethod ({ cls := "PictureCobol", name := "fits", desc := "(JI)Z" } : Jvm.MethodName)) ∈ tables_1 := List.mem_of_getElem? (i := 204) rfl
theorem m_205 : (Jvm.Cond.privateMethod ({ cls := "PictureCobol", name := "fits", desc := "(JI)Z" } : Jvm.MethodName)) ∈ tables_1 := List.mem_of_getElem? (i := 205) rfl
theorem m_206 : (Jvm.Cond.code ({ cls := "PictureCobol", name := "fits", desc := "(JI)Z" } : Jvm.MethodName) prog_1_method_27_code (6 : Nat) (Option.some Jvm.ClassFile.FieldType.boolean)) ∈ tables_1 := List.mem_of_getElem? (i := 206) rfl
theorem m_207 : (Jvm.Cond.methodLink "PictureCobolOwnLaw" (76 : Nat) ({ cls := "PictureCobol", name := "restart", desc := "()Z" } : Jvm.MethodName)) ∈ tables_1 := List.mem_of_getElem? (i := 207) rfl
theorem m_208 : (Jvm.Cond.declares ({ cls := "PictureCobol", name := "restart", desc := "()Z" } : Jvm.MethodName)) ∈ tables_1 := List.mem_of_getElem? (i := 208) rfl
theorem m_209 : (Jvm.Cond.instanceMethod ({ cls := "PictureCobol", name := "restart", desc := "()Z" } : Jvm.MethodName)) ∈ tables_1 := List.mem_of_getElem? (i := 209) rfl
theorem m_210 : (Jvm.Cond.selects "PictureCobol" ({ cls := "PictureCobol", name := "restart", desc := "()Z" } : Jvm.MethodName) ({ cls := "PictureCobol", name := "restart", desc := "()Z" } : Jvm.MethodName)) ∈ tables_1 := List.mem_of_getElem? (i := 210) rfl
theorem m_211 : (Jvm.Cond.code ({ cls := "PictureCobol", name := "restart", desc := "()Z" } : Jvm.MethodName) prog_1_method_8_code (1 : Nat) (Option.some Jvm.ClassFile.FieldType.boolean)) ∈ tables_1 := List.mem_of_getElem? (i := 211) rfl
theorem m_212 : (Jvm.Cond.constantLong "PictureCobolOwnLaw" (22 : Nat) (2 : Int64)) ∈ tables_1 := List.mem_of_getElem? (i := 212) rfl
theorem m_213 : (Jvm.Cond.constantLong "PictureCobol" (123 : Nat) (2 : Int64)) ∈ tables_1 := List.mem_of_getElem? (i := 213) rfl
theorem m_214 : (Jvm.Cond.methodLink "PictureCobol" (149 : Nat) ({ cls := "PictureCobol", name := "sizeError", desc := "(IZJ)V" } : Jvm.MethodName)) ∈ tables_1 := List.mem_of_getElem? (i := 214) rfl
theorem m_215 : (Jvm.Cond.instanceMethod ({ cls := "PictureCobol", name := "sizeError", desc := "(IZJ)V" } : Jvm.MethodName)) ∈ tables_1 := List.mem_of_getElem? (i := 215) rfl
theorem m_216 : (Jvm.Cond.privateMethod ({ cls := "PictureCobol", name := "sizeError", desc := "(IZJ)V" } : Jvm.MethodName)) ∈ tables_1 := List.mem_of_getElem? (i := 216) rfl
theorem m_217 : (Jvm.Cond.code ({ cls := "PictureCobol", name := "sizeError", desc := "(IZJ)V" } : Jvm.MethodName) prog_1_method_35_code (7 : Nat) (Option.none : Option Jvm.ClassFile.FieldType)) ∈ tables_1 := List.mem_of_getElem? (i := 217) rfl
theorem m_218 : (Jvm.Cond.methodLink "PictureCobol" (142 : Nat) ({ cls := "PictureCobol", name := "formDivision", desc := "(JJIIJ)Z" } : Jvm.MethodName)) ∈ tables_1 := List.mem_of_getElem? (i := 218) rfl
theorem m_219 : (Jvm.Cond.instanceMethod ({ cls := "PictureCobol", name := "formDivision", desc := "(JJIIJ)Z" } : Jvm.MethodName)) ∈ tables_1 := List.mem_of_getElem? (i := 219) rfl
theorem m_220 : (Jvm.Cond.privateMethod ({ cls := "PictureCobol", name := "formDivision", desc := "(JJIIJ)Z" } : Jvm.MethodName)) ∈ tables_1 := List.mem_of_getElem? (i := 220) rfl
theorem m_221 : (Jvm.Cond.code ({ cls := "PictureCobol", name := "formDivision", desc := "(JJIIJ)Z" } : Jvm.MethodName) prog_1_method_33_code (13 : Nat) (Option.some Jvm.ClassFile.FieldType.boolean)) ∈ tables_1 := List.mem_of_getElem? (i := 221) rfl
theorem m_222 : (Jvm.Cond.methodLink "PictureCobol" (131 : Nat) ({ cls := "PictureCobol", name := "execIf", desc := "(I)V" } : Jvm.MethodName)) ∈ tables_1 := List.mem_of_getElem? (i := 222) rfl
theorem m_223 : (Jvm.Cond.instanceMethod ({ cls := "PictureCobol", name := "execIf", desc := "(I)V" } : Jvm.MethodName)) ∈ tables_1 := List.mem_of_getElem? (i := 223) rfl
theorem m_224 : (Jvm.Cond.privateMethod ({ cls := "PictureCobol", name := "execIf", desc := "(I)V" } : Jvm.MethodName)) ∈ tables_1 := List.mem_of_getElem? (i := 224) rfl
theorem m_225 : (Jvm.Cond.code ({ cls := "PictureCobol", name := "execIf", desc := "(I)V" } : Jvm.MethodName) prog_1_method_31_code (13 : Nat) (Option.none : Option Jvm.ClassFile.FieldType)) ∈ tables_1 := List.mem_of_getElem? (i := 225) rfl
theorem m_226 : (Jvm.Cond.methodLink "PictureCobol" (125 : Nat) ({ cls := "PictureCobol", name := "execMove", desc := "(I)V" } : Jvm.MethodName)) ∈ tables_1 := List.mem_of_getElem? (i := 226) rfl
theorem m_227 : (Jvm.Cond.instanceMethod ({ cls := "PictureCobol", name := "execMove", desc := "(I)V" } : Jvm.MethodName)) ∈ tables_1 := List.mem_of_getElem? (i := 227) rfl
theorem m_228 : (Jvm.Cond.privateMethod ({ cls := "PictureCobol", name := "execMove", desc := "(I)V" } : Jvm.MethodName)) ∈ tables_1 := List.mem_of_getElem? (i := 228) rfl
theorem m_229 : (Jvm.Cond.code ({ cls := "PictureCobol", name := "execMove", desc := "(I)V" } : Jvm.MethodName) prog_1_method_30_code (11 : Nat) (Option.none : Option Jvm.ClassFile.FieldType)) ∈ tables_1 := List.mem_of_getElem? (i := 229) rfl
theorem m_230 : (Jvm.Cond.methodLink "PictureCobol" (138 : Nat) ({ cls := "PictureCobol", name := "lowDigits", desc := "(JI)I" } : Jvm.MethodName)) ∈ tables_1 := List.mem_of_getElem? (i := 230) rfl
theorem m_231 : (Jvm.Cond.instanceMethod ({ cls := "PictureCobol", name := "lowDigits", desc := "(JI)I" } : Jvm.MethodName)) ∈ tables_1 := List.mem_of_getElem? (i := 231) rfl
theorem m_232 : (Jvm.Cond.privateMethod ({ cls := "PictureCobol", name := "lowDigits", desc := "(JI)I" } : Jvm.MethodName)) ∈ tables_1 := List.mem_of_getElem? (i := 232) rfl
theorem m_233 : (Jvm.Cond.code ({ cls := "PictureCobol", name := "lowDigits", desc := "(JI)I" } : Jvm.MethodName) prog_1_method_28_code (9 : Nat) (Option.some Jvm.ClassFile.FieldType.int)) ∈ tables_1 := List.mem_of_getElem? (i := 233) rfl
theorem laid0 {Z : State} {a0 : Array Value} (hw : HW a0 Z) : LaidAll Z a0 CN lay vs0 :=
  ⟨⟨Or.inl (hw _ m_42), .int, by decide, rfl⟩, ⟨Or.inl (hw _ m_44), .int, by decide, rfl⟩, ⟨Or.inl (hw _ m_46), .int, by decide, rfl⟩, ⟨Or.inl (hw _ m_15), .array .int, by decide, rfl⟩, ⟨Or.inl (hw _ m_17), .array .int, by decide, rfl⟩, ⟨Or.inl (hw _ m_19), .array .int, by decide, rfl⟩, ⟨Or.inl (hw _ m_22), .array .boolean, by decide, rfl⟩, ⟨Or.inl (hw _ m_48), .int, by decide, rfl⟩, ⟨Or.inl (hw _ m_24), .array .int, by decide, rfl⟩, ⟨Or.inl (hw _ m_26), .array .boolean, by decide, rfl⟩, ⟨Or.inl (hw _ m_28), .array .int, by decide, rfl⟩, ⟨Or.inl (hw _ m_30), .array .int, by decide, rfl⟩, ⟨Or.inl (hw _ m_32), .array .int, by decide, rfl⟩, ⟨Or.inl (hw _ m_34), .array .boolean, by decide, rfl⟩, ⟨Or.inl (hw _ m_36), .array .int, by decide, rfl⟩, ⟨Or.inl (hw _ m_50), .boolean, by decide, rfl⟩, ⟨Or.inl (hw _ m_52), .boolean, by decide, rfl⟩, ⟨Or.inl (hw _ m_54), .int, by decide, rfl⟩, ⟨Or.inl (hw _ m_56), .int, by decide, rfl⟩, ⟨Or.inl (hw _ m_58), .int, by decide, rfl⟩, ⟨Or.inl (hw _ m_192), .long, by decide, rfl⟩, ⟨Or.inl (hw _ m_194), .long, by decide, rfl⟩, trivial⟩
theorem hlay {Z : State} {a0 : Array Value} (hw : HW a0 Z) : ∀ (a b : Nat) (f g : String × String), lay[a]? = some f → lay[b]? = some g → a ≠ b → RoadKit.slotOf Z CN f.1 f.2 ≠ RoadKit.slotOf Z CN g.1 g.2 := (laid0 hw).ne (by decide)
theorem vs0_ok {Z : State} {a0 : Array Value} (hw : HW a0 Z) : ∀ (i : Nat) (f : String × String) (v : Value), lay[i]? = some f → vs0[i]? = some v → Laid Z a0 CN CN f.1 f.2 ∧ ∃ ty, parseFieldDescriptor f.2 = some ty ∧ v = defaultValue ty := (laid0 hw).new
theorem pn_cls : plainName CN = true := by first | (simp [plainName, overriddenIn]; done) | decide +kernel
theorem pn_law : plainName "PictureCobolOwnLaw" = true := by first | (simp [plainName, overriddenIn]; done) | decide +kernel
set_option maxRecDepth 65536
set_option maxHeartbeats 4000000
abbrev k0 := prog_1_method_1_code
abbrev k1 := prog_1_method_2_code
abbrev k2 := prog_1_method_3_code
abbrev k3 := prog_1_method_4_code
abbrev k4 := prog_1_method_5_code
abbrev k5 := prog_1_method_6_code
abbrev k6 := prog_1_method_7_code
abbrev k7 := prog_1_method_8_code
abbrev k8 := prog_1_method_9_code
abbrev k9 := prog_1_method_10_code
abbrev k10 := prog_1_method_11_code
abbrev k11 := prog_1_method_12_code
abbrev k12 := prog_1_method_14_code
abbrev k13 := prog_1_method_16_code
abbrev k14 := prog_1_method_17_code
abbrev k15 := prog_1_method_18_code
abbrev k16 := prog_1_method_19_code
abbrev k17 := prog_1_method_20_code
abbrev k18 := prog_1_method_21_code
abbrev k19 := prog_1_method_22_code
abbrev k20 := prog_1_method_23_code
abbrev k21 := prog_1_method_24_code
abbrev k22 := prog_1_method_25_code
abbrev k23 := prog_1_method_26_code
abbrev k24 := prog_1_method_27_code
abbrev k25 := prog_1_method_28_code
abbrev k26 := prog_1_method_29_code
abbrev k27 := prog_1_method_30_code
abbrev k28 := prog_1_method_31_code
abbrev k29 := prog_1_method_32_code
abbrev k30 := prog_1_method_33_code
abbrev k31 := prog_1_method_34_code
abbrev k32 := prog_1_method_35_code
theorem bd {α β : Type} {o : Option α} {f : α → Option β} {r : β} (h : o.bind f = some r) : ∃ c, o = some c ∧ f c = some r := Option.bind_eq_some_iff.mp h
abbrev KT0 := Int32 → Int32 → Int32 → Int32 → Int32 → Int32 → Int32 → Int32 → Int32 → List Int32 → St → Option (Int32)
abbrev KT1 := Int32 → Int32 → St → Option (Int32 × St)
abbrev KT2 := Int32 → Int32 → Int32 → Int32 → Int32 → Int32 → Int32 → Int32 → Int32 → Int32 → Int32 → List Int32 → St → Option (Int32)
abbrev KT3 := Int32 → Int32 → Int32 → Int32 → Int32 → Int32 → Int32 → Int32 → Int32 → Int32 → Int32 → Int64 → Int64 → Int64 → Int32 → List Int32 → St → Option (Int32)
abbrev KT4 := Int32 → Int32 → Int32 → Int32 → Int32 → Int32 → Int32 → Int32 → Int32 → Int32 → Int64 → Int64 → Int64 → Int32 → Int64 → Int64 → Int64 → Int32 → List Int32 → St → Option (Int32)
abbrev KT5 := Int32 → Int64 → Int32 → St → Option (Int64)
abbrev KT6 := Int32 → Int64 → Int32 → Option (Int64)
abbrev vU : Slot := .unset
abbrev vS : Slot := .second
abbrev vI (x : Int32) : Slot := .val (.int x)
abbrev vJ (x : Int64) : Slot := .val (.long x)
abbrev vR (x : Nat) : Slot := .val (.ref x)
abbrev oN : Value := .int (0 : Int32)
abbrev oI (n : Nat) : OwnC := cI (List.replicate n 0)
abbrev oZ (n : Nat) : OwnC := cZ (List.replicate n 0)
theorem d0_0 : dc method_2_code 0 (.iload_n 1) 1 := by decide +kernel
theorem d0_1 : dc method_2_code 1 (.aload_n 0) 1 := by decide +kernel
theorem d0_2 : dc method_2_code 2 (.arraylength) 1 := by decide +kernel
theorem d0_3 : dc method_2_code 3 (.if_icmp .ge 9) 3 := by decide +kernel
theorem d0_6 : dc method_2_code 6 (.aload_n 0) 1 := by decide +kernel
theorem d0_7 : dc method_2_code 7 (.iload_n 1) 1 := by decide +kernel
theorem d0_8 : dc method_2_code 8 (.iaload) 1 := by decide +kernel
theorem d0_9 : dc method_2_code 9 (.goto 4) 3 := by decide +kernel
theorem d0_12 : dc method_2_code 12 (.iconst 0) 1 := by decide +kernel
theorem d0_13 : dc method_2_code 13 (.ireturn) 1 := by decide +kernel
abbrev y0 : MethodName := ⟨"PictureCobolOwnLaw", "cell", "([II)I"⟩
theorem hy0 : y0.cls ≠ "java/lang/invoke/MethodHandle" ∧ y0.cls ≠ "java/lang/invoke/VarHandle" := by decide
theorem pd0 : parseMethodDescriptor y0.desc = some ⟨[.array .int, .int], some .int⟩ := by decide +kernel
abbrev R0 : Room := { frames := 0, cells := 0, slots := 0, locals := 0 }
abbrev P0 (a : List Int32) (r : Int32) : Option Value → List OwnC → Prop := fun v H' => v = some (.int r) ∧ H' = ([cI a])
abbrev W0 (l : Launch) (Z : State) (n0 : Nat) (Q : Option Value → List OwnC → Prop) (k n pc : Nat) (L : List Slot) (S : List Value) (H : List OwnC) : Prop := WP l Z CN lay "PictureCobolOwnLaw" "cell" method_2_code 2 (some FieldType.int) R0 n0 1 Q k n pc L S H
def f_L_cell_13 (t0 : Int32) (a : List Int32) : Option (Int32) :=
 some t0
theorem ok0_13 (l : Launch) (Z : State) (a0 : Array Value) (hw : HW a0 Z) (n0 : Nat) (t0 : Int32) (a : List Int32) (r : Int32) (h : f_L_cell_13 t0 a = some r) : W0 l Z n0 (P0 a r) 0 0 13 (vU :: vU :: []) [.int t0] ([cI a]) := by
 unfold f_L_cell_13 at h
 cases h
 exact WP.ireturn d0_13 rfl (leb rfl) (leb rfl) ⟨rfl, rfl⟩
def f_L_cell (p1 : Int32) (a : List Int32) : Option (Int32) :=
 if p1 < a.length.toInt32 then
  (rd a p1).bind fun x2 =>
  f_L_cell_13 x2 a
 else
  f_L_cell_13 (0 : Int32) a
theorem ok0 (l : Launch) (Z : State) (a0 : Array Value) (hw : HW a0 Z) (p1 : Int32) (a : List Int32) (r : Int32) (h : f_L_cell p1 a = some r) : CS l Z CN lay y0 method_2_code 2 (some FieldType.int) R0 1 [.ref 0, .int p1] ([cI a]) (P0 a r) := by
 refine CS.of_wp pn_law (leb rfl) fun n0 => ?_
 show W0 l Z n0 (P0 a r) 0 0 0 (vR 0 :: vI p1 :: []) [] ([cI a])
 unfold f_L_cell at h
 refine WP.iloadN d0_0 rfl ?_
 refine WP.aloadN d0_1 rfl ?_
 refine WP.arraylength (i := 0) (xs := a) d0_2 rfl ?_
 rcases ite_e h with ⟨hc1, h⟩ | ⟨hc1, h⟩
 ·
  refine WP.icmpN d0_3 (XT.ii_ge_f hc1) ?_
  refine WP.aloadN d0_6 rfl ?_
  refine WP.iloadN d0_7 rfl ?_
  obtain ⟨x2, hx2, h⟩ := bd h
  refine WP.iaload (i := 0) d0_8 rfl hx2 ?_
  refine WP.goto (pc' := 13) d0_9 (by decide) rfl ?_
  exact WP.weak (L' := (vU :: vU :: [])) trivial (ok0_13 l Z a0 hw n0 x2 a _ h)
 ·
  refine WP.icmpY (pc' := 12) d0_3 (XT.ii_ge_t hc1) (by decide) rfl ?_
  refine WP.iconst (0 : Int32) d0_12 rfl ?_
  exact WP.weak (L' := (vU :: vU :: [])) trivial (ok0_13 l Z a0 hw n0 (0 : Int32) a _ h)
theorem d2_0 : dc k13 0 (.iload_n 1) 1 := by decide +kernel
theorem d2_1 : dc k13 1 (.iload_n 2) 1 := by decide +kernel
theorem d2_2 : dc k13 2 (.if_icmp .ge 5) 3 := by decide +kernel
theorem d2_5 : dc k13 5 (.iload_n 2) 1 := by decide +kernel
theorem d2_6 : dc k13 6 (.ireturn) 1 := by decide +kernel
theorem d2_7 : dc k13 7 (.iload_n 1) 1 := by decide +kernel
theorem d2_8 : dc k13 8 (.iload_n 3) 1 := by decide +kernel
theorem d2_9 : dc k13 9 (.if_icmp .le 5) 3 := by decide +kernel
theorem d2_12 : dc k13 12 (.iload_n 3) 1 := by decide +kernel
theorem d2_13 : dc k13 13 (.ireturn) 1 := by decide +kernel
theorem d2_14 : dc k13 14 (.iload_n 1) 1 := by decide +kernel
theorem d2_15 : dc k13 15 (.ireturn) 1 := by decide +kernel
abbrev y2 : MethodName := ⟨"PictureCobol", "clamp", "(III)I"⟩
theorem hy2 : y2.cls ≠ "java/lang/invoke/MethodHandle" ∧ y2.cls ≠ "java/lang/invoke/VarHandle" := by decide
theorem pd2 : parseMethodDescriptor y2.desc = some ⟨[.int, .int, .int], some .int⟩ := by decide +kernel
abbrev R2 : Room := { frames := 0, cells := 0, slots := 0, locals := 0 }
abbrev P2 (s : St) (r : Int32) : Option Value → List OwnC → Prop := fun v H' => v = some (.int r) ∧ H' = (Hb 0 s)
abbrev W2 (l : Launch) (Z : State) (n0 : Nat) (Q : Option Value → List OwnC → Prop) (k n pc : Nat) (L : List Slot) (S : List Value) (H : List OwnC) : Prop := WP l Z CN lay "PictureCobol" "clamp" prog_1_method_16_code 4 (some FieldType.int) R2 n0 0 Q k n pc L S H
def f_clamp (p1 p2 p3 : Int32) (s : St) : Option (Int32) :=
 if p1 < p2 then
  some p2
 else
  if p3 < p1 then
   some p3
  else
   some p1
theorem ok2 (l : Launch) (Z : State) (a0 : Array Value) (hw : HW a0 Z) (p1 p2 p3 : Int32) (s : St) (r : Int32) (h : f_clamp p1 p2 p3 s = some r) : CS l Z CN lay y2 prog_1_method_16_code 4 (some FieldType.int) R2 0 [.ref 0, .int p1, .int p2, .int p3] (Hb 0 s) (P2 s r) := by
 refine CS.of_wp pn_cls (leb rfl) fun n0 => ?_
 show W2 l Z n0 (P2 s r) 0 0 0 (vR 0 :: vI p1 :: vI p2 :: vI p3 :: []) [] (Hb 0 s)
 unfold f_clamp at h
 refine WP.iloadN d2_0 rfl ?_
 refine WP.iloadN d2_1 rfl ?_
 rcases ite_e h with ⟨hc1, h⟩ | ⟨hc1, h⟩
 ·
  refine WP.icmpN d2_2 (XT.ii_ge_f hc1) ?_
  refine WP.iloadN d2_5 rfl ?_
  cases h
  exact WP.ireturn d2_6 rfl (leb rfl) (leb rfl) ⟨rfl, rfl⟩
 ·
  refine WP.icmpY (pc' := 7) d2_2 (XT.ii_ge_t hc1) (by decide) rfl ?_
  refine WP.iloadN d2_7 rfl ?_
  refine WP.iloadN d2_8 rfl ?_
  rcases ite_e h with ⟨hc2, h⟩ | ⟨hc2, h⟩
  ·
   refine WP.icmpN d2_9 (XT.ii_le_f hc2) ?_
   refine WP.iloadN d2_12 rfl ?_
   cases h
   exact WP.ireturn d2_13 rfl (leb rfl) (leb rfl) ⟨rfl, rfl⟩
  ·
   refine WP.icmpY (pc' := 14) d2_9 (XT.ii_le_t hc2) (by decide) rfl ?_
   refine WP.iloadN d2_14 rfl ?_
   cases h
   exact WP.ireturn d2_15 rfl (leb rfl) (leb rfl) ⟨rfl, rfl⟩
theorem d1_0 : dc k0 0 (.aload_n 0) 1 := by decide +kernel
theorem d1_1 : dc k0 1 (.invokespecial 1) 3 := by decide +kernel
theorem d1_4 : dc k0 4 (.aload_n 0) 1 := by decide +kernel
theorem d1_5 : dc k0 5 (.bipush 8) 2 := by decide +kernel
theorem d1_7 : dc k0 7 (.newarray .int) 2 := by decide +kernel
theorem d1_9 : dc k0 9 (.putfield 7) 3 := by decide +kernel
theorem d1_12 : dc k0 12 (.aload_n 0) 1 := by decide +kernel
theorem d1_13 : dc k0 13 (.bipush 8) 2 := by decide +kernel
theorem d1_15 : dc k0 15 (.newarray .int) 2 := by decide +kernel
theorem d1_17 : dc k0 17 (.putfield 13) 3 := by decide +kernel
theorem d1_20 : dc k0 20 (.aload_n 0) 1 := by decide +kernel
theorem d1_21 : dc k0 21 (.bipush 8) 2 := by decide +kernel
theorem d1_23 : dc k0 23 (.newarray .int) 2 := by decide +kernel
theorem d1_25 : dc k0 25 (.putfield 16) 3 := by decide +kernel
theorem d1_28 : dc k0 28 (.aload_n 0) 1 := by decide +kernel
theorem d1_29 : dc k0 29 (.bipush 8) 2 := by decide +kernel
theorem d1_31 : dc k0 31 (.newarray .boolean) 2 := by decide +kernel
theorem d1_33 : dc k0 33 (.putfield 19) 3 := by decide +kernel
theorem d1_36 : dc k0 36 (.aload_n 0) 1 := by decide +kernel
theorem d1_37 : dc k0 37 (.bipush 32) 2 := by decide +kernel
theorem d1_39 : dc k0 39 (.newarray .int) 2 := by decide +kernel
theorem d1_41 : dc k0 41 (.putfield 23) 3 := by decide +kernel
theorem d1_44 : dc k0 44 (.aload_n 0) 1 := by decide +kernel
theorem d1_45 : dc k0 45 (.bipush 32) 2 := by decide +kernel
theorem d1_47 : dc k0 47 (.newarray .boolean) 2 := by decide +kernel
theorem d1_49 : dc k0 49 (.putfield 26) 3 := by decide +kernel
theorem d1_52 : dc k0 52 (.aload_n 0) 1 := by decide +kernel
theorem d1_53 : dc k0 53 (.bipush 32) 2 := by decide +kernel
theorem d1_55 : dc k0 55 (.newarray .int) 2 := by decide +kernel
theorem d1_57 : dc k0 57 (.putfield 29) 3 := by decide +kernel
theorem d1_60 : dc k0 60 (.aload_n 0) 1 := by decide +kernel
theorem d1_61 : dc k0 61 (.bipush 32) 2 := by decide +kernel
theorem d1_63 : dc k0 63 (.newarray .int) 2 := by decide +kernel
theorem d1_65 : dc k0 65 (.putfield 32) 3 := by decide +kernel
theorem d1_68 : dc k0 68 (.aload_n 0) 1 := by decide +kernel
theorem d1_69 : dc k0 69 (.bipush 32) 2 := by decide +kernel
theorem d1_71 : dc k0 71 (.newarray .int) 2 := by decide +kernel
theorem d1_73 : dc k0 73 (.putfield 35) 3 := by decide +kernel
theorem d1_76 : dc k0 76 (.aload_n 0) 1 := by decide +kernel
theorem d1_77 : dc k0 77 (.bipush 32) 2 := by decide +kernel
theorem d1_79 : dc k0 79 (.newarray .boolean) 2 := by decide +kernel
theorem d1_81 : dc k0 81 (.putfield 38) 3 := by decide +kernel
theorem d1_84 : dc k0 84 (.aload_n 0) 1 := by decide +kernel
theorem d1_85 : dc k0 85 (.bipush 32) 2 := by decide +kernel
theorem d1_87 : dc k0 87 (.newarray .int) 2 := by decide +kernel
theorem d1_89 : dc k0 89 (.putfield 41) 3 := by decide +kernel
theorem d1_92 : dc k0 92 (.aload_n 0) 1 := by decide +kernel
theorem d1_93 : dc k0 93 (.aload_n 0) 1 := by decide +kernel
theorem d1_94 : dc k0 94 (.iload_n 1) 1 := by decide +kernel
theorem d1_95 : dc k0 95 (.iconst 1) 1 := by decide +kernel
theorem d1_96 : dc k0 96 (.bipush 8) 2 := by decide +kernel
theorem d1_98 : dc k0 98 (.invokevirtual 44) 3 := by decide +kernel
theorem d1_101 : dc k0 101 (.putfield 48) 3 := by decide +kernel
theorem d1_104 : dc k0 104 (.aload_n 0) 1 := by decide +kernel
theorem d1_105 : dc k0 105 (.aload_n 0) 1 := by decide +kernel
theorem d1_106 : dc k0 106 (.iload_n 2) 1 := by decide +kernel
theorem d1_107 : dc k0 107 (.iconst 1) 1 := by decide +kernel
theorem d1_108 : dc k0 108 (.bipush 32) 2 := by decide +kernel
theorem d1_110 : dc k0 110 (.invokevirtual 44) 3 := by decide +kernel
theorem d1_113 : dc k0 113 (.putfield 52) 3 := by decide +kernel
theorem d1_116 : dc k0 116 (.aload_n 0) 1 := by decide +kernel
theorem d1_117 : dc k0 117 (.iconst 0) 1 := by decide +kernel
theorem d1_118 : dc k0 118 (.putfield 55) 3 := by decide +kernel
theorem d1_121 : dc k0 121 (.aload_n 0) 1 := by decide +kernel
theorem d1_122 : dc k0 122 (.iconst 0) 1 := by decide +kernel
theorem d1_123 : dc k0 123 (.putfield 58) 3 := by decide +kernel
theorem d1_126 : dc k0 126 (.aload_n 0) 1 := by decide +kernel
theorem d1_127 : dc k0 127 (.iconst 0) 1 := by decide +kernel
theorem d1_128 : dc k0 128 (.putfield 61) 3 := by decide +kernel
theorem d1_131 : dc k0 131 (.aload_n 0) 1 := by decide +kernel
theorem d1_132 : dc k0 132 (.iconst 0) 1 := by decide +kernel
theorem d1_133 : dc k0 133 (.putfield 65) 3 := by decide +kernel
theorem d1_136 : dc k0 136 (.aload_n 0) 1 := by decide +kernel
theorem d1_137 : dc k0 137 (.iconst 0) 1 := by decide +kernel
theorem d1_138 : dc k0 138 (.putfield 68) 3 := by decide +kernel
theorem d1_141 : dc k0 141 (.aload_n 0) 1 := by decide +kernel
theorem d1_142 : dc k0 142 (.iconst 0) 1 := by decide +kernel
theorem d1_143 : dc k0 143 (.putfield 71) 3 := by decide +kernel
theorem d1_146 : dc k0 146 (.aload_n 0) 1 := by decide +kernel
theorem d1_147 : dc k0 147 (.iconst 0) 1 := by decide +kernel
theorem d1_148 : dc k0 148 (.putfield 74) 3 := by decide +kernel
theorem d1_151 : dc k0 151 (.return_) 1 := by decide +kernel
abbrev y1 : MethodName := ⟨"PictureCobol", "<init>", "(II)V"⟩
theorem hy1 : y1.cls ≠ "java/lang/invoke/MethodHandle" ∧ y1.cls ≠ "java/lang/invoke/VarHandle" := by decide
theorem pd1 : parseMethodDescriptor y1.desc = some ⟨[.int, .int], none⟩ := by decide +kernel
abbrev R1 : Room := { frames := 1, cells := 11, slots := 256, locals := 16 }
abbrev P1 (r : St) : Option Value → List OwnC → Prop := fun v H' => v = none ∧ H' = (Hb 0 r)
abbrev W1 (l : Launch) (Z : State) (n0 : Nat) (Q : Option Value → List OwnC → Prop) (k n pc : Nat) (L : List Slot) (S : List Value) (H : List OwnC) : Prop := WP l Z CN lay "PictureCobol" "<init>" prog_1_method_1_code 3 (none) R1 n0 0 Q k n pc L S H
def f_init (p1 p2 : Int32) : Option (St) :=
 lt (st0) fun s1 =>
 (f_clamp p1 (1 : Int32) (8 : Int32) s1).bind fun c2 =>
 lt (sI s1 0 c2) fun s3 =>
 (f_clamp p2 (1 : Int32) (32 : Int32) s3).bind fun c4 =>
 lt (sI s3 1 c4) fun s5 =>
 lt (sI s5 2 (0 : Int32)) fun s6 =>
 lt (sI s6 3 (0 : Int32)) fun s7 =>
 lt (sI s7 4 (0 : Int32)) fun s8 =>
 lt (sI s8 5 (0 : Int32)) fun s9 =>
 lt (sI s9 6 (0 : Int32)) fun s10 =>
 lt (sI s10 7 (0 : Int32)) fun s11 =>
 lt (sI s11 8 (0 : Int32)) fun s12 =>
 some s12
theorem ok1 (l : Launch) (Z : State) (a0 : Array Value) (hw : HW a0 Z) (p1 p2 : Int32) (r : St) (h : f_init p1 p2 = some r) : CS l Z CN lay y1 prog_1_method_1_code 3 (none) R1 0 [.ref 0, .int p1, .int p2] [cO vs0] (P1 r) := by
 refine CS.of_wp pn_cls (leb rfl) fun n0 => ?_
 show W1 l Z n0 (P1 r) 0 0 0 (vR 0 :: vI p1 :: vI p2 :: []) [] [cO vs0]
 unfold f_init at h
 refine WP.aloadN d1_0 rfl ?_
 refine WP.initO d1_1 (hw _ m_10) (hw _ m_11) (hw _ m_12) (leb rfl) (leb rfl) ?_
 refine WP.aloadN d1_4 rfl ?_
 refine WP.bipush (8 : Int32) d1_5 rfl ?_
 refine WP.newarray d1_7 (hw _ m_13) (by decide) (leb rfl) (leb rfl) (leb rfl) (Or.inl ⟨rfl, rfl⟩) ?_
 show W1 l Z n0 (P1 r) 1 8 9 (vR 0 :: vI p1 :: vI p2 :: []) [.ref 1, .ref 0] ([cO [oN, oN, oN, .null, .null, .null, .null, oN, .null, .null, .null, .null, .null, .null, .null, oN, oN, oN, oN, oN, .long (0 : Int64), .long (0 : Int64)], oI 8] : List OwnC)
 refine WP.putR (ty := .array .int) (i := 0) (j := 3) (H' := ([cO [oN, oN, oN, .ref 1, .null, .null, .null, oN, .null, .null, .null, .null, .null, .null, .null, oN, oN, oN, oN, oN, .long (0 : Int64), .long (0 : Int64)], oI 8] : List OwnC)) d1_9 (hw _ m_14) (Or.inl (hw _ m_15)) (hw _ m_5) (hlay hw) (by decide) (fun _ => rfl) (fun _ => rfl) rfl rfl rfl (leb rfl) rfl ?_
 refine WP.aloadN d1_12 rfl ?_
 refine WP.bipush (8 : Int32) d1_13 rfl ?_
 refine WP.newarray d1_15 (hw _ m_13) (by decide) (leb rfl) (leb rfl) (leb rfl) (Or.inl ⟨rfl, rfl⟩) ?_
 show W1 l Z n0 (P1 r) 2 16 17 (vR 0 :: vI p1 :: vI p2 :: []) [.ref 2, .ref 0] ([cO [oN, oN, oN, .ref 1, .null, .null, .null, oN, .null, .null, .null, .null, .null, .null, .null, oN, oN, oN, oN, oN, .long (0 : Int64), .long (0 : Int64)], oI 8, oI 8] : List OwnC)
 refine WP.putR (ty := .array .int) (i := 0) (j := 4) (H' := ([cO [oN, oN, oN, .ref 1, .ref 2, .null, .null, oN, .null, .null, .null, .null, .null, .null, .null, oN, oN, oN, oN, oN, .long (0 : Int64), .long (0 : Int64)], oI 8, oI 8] : List OwnC)) d1_17 (hw _ m_16) (Or.inl (hw _ m_17)) (hw _ m_5) (hlay hw) (by decide) (fun _ => rfl) (fun _ => rfl) rfl rfl rfl (leb rfl) rfl ?_
 refine WP.aloadN d1_20 rfl ?_
 refine WP.bipush (8 : Int32) d1_21 rfl ?_
 refine WP.newarray d1_23 (hw _ m_13) (by decide) (leb rfl) (leb rfl) (leb rfl) (Or.inl ⟨rfl, rfl⟩) ?_
 show W1 l Z n0 (P1 r) 3 24 25 (vR 0 :: vI p1 :: vI p2 :: []) [.ref 3, .ref 0] ([cO [oN, oN, oN, .ref 1, .ref 2, .null, .null, oN, .null, .null, .null, .null, .null, .null, .null, oN, oN, oN, oN, oN, .long (0 : Int64), .long (0 : Int64)], oI 8, oI 8, oI 8] : List OwnC)
 refine WP.putR (ty := .array .int) (i := 0) (j := 5) (H' := ([cO [oN, oN, oN, .ref 1, .ref 2, .ref 3, .null, oN, .null, .null, .null, .null, .null, .null, .null, oN, oN, oN, oN, oN, .long (0 : Int64), .long (0 : Int64)], oI 8, oI 8, oI 8] : List OwnC)) d1_25 (hw _ m_18) (Or.inl (hw _ m_19)) (hw _ m_5) (hlay hw) (by decide) (fun _ => rfl) (fun _ => rfl) rfl rfl rfl (leb rfl) rfl ?_
 refine WP.aloadN d1_28 rfl ?_
 refine WP.bipush (8 : Int32) d1_29 rfl ?_
 refine WP.newarray d1_31 (hw _ m_20) (by decide) (leb rfl) (leb rfl) (leb rfl) (Or.inr (Or.inr ⟨rfl, rfl⟩)) ?_
 show W1 l Z n0 (P1 r) 4 32 33 (vR 0 :: vI p1 :: vI p2 :: []) [.ref 4, .ref 0] ([cO [oN, oN, oN, .ref 1, .ref 2, .ref 3, .null, oN, .null, .null, .null, .null, .null, .null, .null, oN, oN, oN, oN, oN, .long (0 : Int64), .long (0 : Int64)], oI 8, oI 8, oI 8, oZ 8] : List OwnC)
 refine WP.putR (ty := .array .boolean) (i := 0) (j := 6) (H' := ([cO [oN, oN, oN, .ref 1, .ref 2, .ref 3, .ref 4, oN, .null, .null, .null, .null, .null, .null, .null, oN, oN, oN, oN, oN, .long (0 : Int64), .long (0 : Int64)], oI 8, oI 8, oI 8, oZ 8] : List OwnC)) d1_33 (hw _ m_21) (Or.inl (hw _ m_22)) (hw _ m_5) (hlay hw) (by decide) (fun _ => rfl) (fun _ => rfl) rfl rfl rfl (leb rfl) rfl ?_
 refine WP.aloadN d1_36 rfl ?_
 refine WP.bipush (32 : Int32) d1_37 rfl ?_
 refine WP.newarray d1_39 (hw _ m_13) (by decide) (leb rfl) (leb rfl) (leb rfl) (Or.inl ⟨rfl, rfl⟩) ?_
 show W1 l Z n0 (P1 r) 5 64 41 (vR 0 :: vI p1 :: vI p2 :: []) [.ref 5, .ref 0] ([cO [oN, oN, oN, .ref 1, .ref 2, .ref 3, .ref 4, oN, .null, .null, .null, .null, .null, .null, .null, oN, oN, oN, oN, oN, .long (0 : Int64), .long (0 : Int64)], oI 8, oI 8, oI 8, oZ 8, oI 32] : List OwnC)
 refine WP.putR (ty := .array .int) (i := 0) (j := 8) (H' := ([cO [oN, oN, oN, .ref 1, .ref 2, .ref 3, .ref 4, oN, .ref 5, .null, .null, .null, .null, .null, .null, oN, oN, oN, oN, oN, .long (0 : Int64), .long (0 : Int64)], oI 8, oI 8, oI 8, oZ 8, oI 32] : List OwnC)) d1_41 (hw _ m_23) (Or.inl (hw _ m_24)) (hw _ m_5) (hlay hw) (by decide) (fun _ => rfl) (fun _ => rfl) rfl rfl rfl (leb rfl) rfl ?_
 refine WP.aloadN d1_44 rfl ?_
 refine WP.bipush (32 : Int32) d1_45 rfl ?_
 refine WP.newarray d1_47 (hw _ m_20) (by decide) (leb rfl) (leb rfl) (leb rfl) (Or.inr (Or.inr ⟨rfl, rfl⟩)) ?_
 show W1 l Z n0 (P1 r) 6 96 49 (vR 0 :: vI p1 :: vI p2 :: []) [.ref 6, .ref 0] ([cO [oN, oN, oN, .ref 1, .ref 2, .ref 3, .ref 4, oN, .ref 5, .null, .null, .null, .null, .null, .null, oN, oN, oN, oN, oN, .long (0 : Int64), .long (0 : Int64)], oI 8, oI 8, oI 8, oZ 8, oI 32, oZ 32] : List OwnC)
 refine WP.putR (ty := .array .boolean) (i := 0) (j := 9) (H' := ([cO [oN, oN, oN, .ref 1, .ref 2, .ref 3, .ref 4, oN, .ref 5, .ref 6, .null, .null, .null, .null, .null, oN, oN, oN, oN, oN, .long (0 : Int64), .long (0 : Int64)], oI 8, oI 8, oI 8, oZ 8, oI 32, oZ 32] : List OwnC)) d1_49 (hw _ m_25) (Or.inl (hw _ m_26)) (hw _ m_5) (hlay hw) (by decide) (fun _ => rfl) (fun _ => rfl) rfl rfl rfl (leb rfl) rfl ?_
 refine WP.aloadN d1_52 rfl ?_
 refine WP.bipush (32 : Int32) d1_53 rfl ?_
 refine WP.newarray d1_55 (hw _ m_13) (by decide) (leb rfl) (leb rfl) (leb rfl) (Or.inl ⟨rfl, rfl⟩) ?_
 show W1 l Z n0 (P1 r) 7 128 57 (vR 0 :: vI p1 :: vI p2 :: []) [.ref 7, .ref 0] ([cO [oN, oN, oN, .ref 1, .ref 2, .ref 3, .ref 4, oN, .ref 5, .ref 6, .null, .null, .null, .null, .null, oN, oN, oN, oN, oN, .long (0 : Int64), .long (0 : Int64)], oI 8, oI 8, oI 8, oZ 8, oI 32, oZ 32, oI 32] : List OwnC)
 refine WP.putR (ty := .array .int) (i := 0) (j := 10) (H' := ([cO [oN, oN, oN, .ref 1, .ref 2, .ref 3, .ref 4, oN, .ref 5, .ref 6, .ref 7, .null, .null, .null, .null, oN, oN, oN, oN, oN, .long (0 : Int64), .long (0 : Int64)], oI 8, oI 8, oI 8, oZ 8, oI 32, oZ 32, oI 32] : List OwnC)) d1_57 (hw _ m_27) (Or.inl (hw _ m_28)) (hw _ m_5) (hlay hw) (by decide) (fun _ => rfl) (fun _ => rfl) rfl rfl rfl (leb rfl) rfl ?_
 refine WP.aloadN d1_60 rfl ?_
 refine WP.bipush (32 : Int32) d1_61 rfl ?_
 refine WP.newarray d1_63 (hw _ m_13) (by decide) (leb rfl) (leb rfl) (leb rfl) (Or.inl ⟨rfl, rfl⟩) ?_
 show W1 l Z n0 (P1 r) 8 160 65 (vR 0 :: vI p1 :: vI p2 :: []) [.ref 8, .ref 0] ([cO [oN, oN, oN, .ref 1, .ref 2, .ref 3, .ref 4, oN, .ref 5, .ref 6, .ref 7, .null, .null, .null, .null, oN, oN, oN, oN, oN, .long (0 : Int64), .long (0 : Int64)], oI 8, oI 8, oI 8, oZ 8, oI 32, oZ 32, oI 32, oI 32] : List OwnC)
 refine WP.putR (ty := .array .int) (i := 0) (j := 11) (H' := ([cO [oN, oN, oN, .ref 1, .ref 2, .ref 3, .ref 4, oN, .ref 5, .ref 6, .ref 7, .ref 8, .null, .null, .null, oN, oN, oN, oN, oN, .long (0 : Int64), .long (0 : Int64)], oI 8, oI 8, oI 8, oZ 8, oI 32, oZ 32, oI 32, oI 32] : List OwnC)) d1_65 (hw _ m_29) (Or.inl (hw _ m_30)) (hw _ m_5) (hlay hw) (by decide) (fun _ => rfl) (fun _ => rfl) rfl rfl rfl (leb rfl) rfl ?_
 refine WP.aloadN d1_68 rfl ?_
 refine WP.bipush (32 : Int32) d1_69 rfl ?_
 refine WP.newarray d1_71 (hw _ m_13) (by decide) (leb rfl) (leb rfl) (leb rfl) (Or.inl ⟨rfl, rfl⟩) ?_
 show W1 l Z n0 (P1 r) 9 192 73 (vR 0 :: vI p1 :: vI p2 :: []) [.ref 9, .ref 0] ([cO [oN, oN, oN, .ref 1, .ref 2, .ref 3, .ref 4, oN, .ref 5, .ref 6, .ref 7, .ref 8, .null, .null, .null, oN, oN, oN, oN, oN, .long (0 : Int64), .long (0 : Int64)], oI 8, oI 8, oI 8, oZ 8, oI 32, oZ 32, oI 32, oI 32, oI 32] : List OwnC)
 refine WP.putR (ty := .array .int) (i := 0) (j := 12) (H' := ([cO [oN, oN, oN, .ref 1, .ref 2, .ref 3, .ref 4, oN, .ref 5, .ref 6, .ref 7, .ref 8, .ref 9, .null, .null, oN, oN, oN, oN, oN, .long (0 : Int64), .long (0 : Int64)], oI 8, oI 8, oI 8, oZ 8, oI 32, oZ 32, oI 32, oI 32, oI 32] : List OwnC)) d1_73 (hw _ m_31) (Or.inl (hw _ m_32)) (hw _ m_5) (hlay hw) (by decide) (fun _ => rfl) (fun _ => rfl) rfl rfl rfl (leb rfl) rfl ?_
 refine WP.aloadN d1_76 rfl ?_
 refine WP.bipush (32 : Int32) d1_77 rfl ?_
 refine WP.newarray d1_79 (hw _ m_20) (by decide) (leb rfl) (leb rfl) (leb rfl) (Or.inr (Or.inr ⟨rfl, rfl⟩)) ?_
 show W1 l Z n0 (P1 r) 10 224 81 (vR 0 :: vI p1 :: vI p2 :: []) [.ref 10, .ref 0] ([cO [oN, oN, oN, .ref 1, .ref 2, .ref 3, .ref 4, oN, .ref 5, .ref 6, .ref 7, .ref 8, .ref 9, .null, .null, oN, oN, oN, oN, oN, .long (0 : Int64), .long (0 : Int64)], oI 8, oI 8, oI 8, oZ 8, oI 32, oZ 32, oI 32, oI 32, oI 32, oZ 32] : List OwnC)
 refine WP.putR (ty := .array .boolean) (i := 0) (j := 13) (H' := ([cO [oN, oN, oN, .ref 1, .ref 2, .ref 3, .ref 4, oN, .ref 5, .ref 6, .ref 7, .ref 8, .ref 9, .ref 10, .null, oN, oN, oN, oN, oN, .long (0 : Int64), .long (0 : Int64)], oI 8, oI 8, oI 8, oZ 8, oI 32, oZ 32, oI 32, oI 32, oI 32, oZ 32] : List OwnC)) d1_81 (hw _ m_33) (Or.inl (hw _ m_34)) (hw _ m_5) (hlay hw) (by decide) (fun _ => rfl) (fun _ => rfl) rfl rfl rfl (leb rfl) rfl ?_
 refine WP.aloadN d1_84 rfl ?_
 refine WP.bipush (32 : Int32) d1_85 rfl ?_
 refine WP.newarray d1_87 (hw _ m_13) (by decide) (leb rfl) (leb rfl) (leb rfl) (Or.inl ⟨rfl, rfl⟩) ?_
 show W1 l Z n0 (P1 r) 11 256 89 (vR 0 :: vI p1 :: vI p2 :: []) [.ref 11, .ref 0] ([cO [oN, oN, oN, .ref 1, .ref 2, .ref 3, .ref 4, oN, .ref 5, .ref 6, .ref 7, .ref 8, .ref 9, .ref 10, .null, oN, oN, oN, oN, oN, .long (0 : Int64), .long (0 : Int64)], oI 8, oI 8, oI 8, oZ 8, oI 32, oZ 32, oI 32, oI 32, oI 32, oZ 32, oI 32] : List OwnC)
 obtain ⟨s1, es1, h⟩ := lt_e h
 refine WP.putR (ty := .array .int) (i := 0) (j := 14) (H' := (Hb 0 s1)) d1_89 (hw _ m_35) (Or.inl (hw _ m_36)) (hw _ m_5) (hlay hw) (by decide) (fun _ => rfl) (fun _ => rfl) rfl rfl rfl (leb rfl) (by subst es1; rfl) ?_
 refine WP.aloadN d1_92 rfl ?_
 refine WP.aloadN d1_93 rfl ?_
 refine WP.iloadN d1_94 rfl ?_
 refine WP.iconst (1 : Int32) d1_95 rfl ?_
 refine WP.bipush (8 : Int32) d1_96 rfl ?_
 obtain ⟨c2, hc2, h⟩ := bd h
 refine WP.callP (i := 0) (y := y2) (as := [.int p1, .int (1 : Int32), .int (8 : Int32)]) (S := [.ref 0]) d1_98 (hw _ m_37) (hw _ m_39) (hw _ m_5) (hw _ m_38) (hw _ m_40) (hw _ m_6) hy2 rfl (ok2 l Z a0 hw p1 (1 : Int32) (8 : Int32) s1 _ hc2) rfl (lenOf pd2 rfl) (leb rfl) (leb rfl) (leb rfl) (leb rfl) ?_
 rintro _ _ ⟨rfl, rfl⟩
 show W1 l Z n0 (P1 r) 11 256 101 (vR 0 :: vI p1 :: vI p2 :: []) [.int c2, .ref 0] (Hb 0 s1)
 obtain ⟨s3, es3, h⟩ := lt_e h
 refine WP.putI (i := 0) (j := 0) (H' := (Hb 0 s3)) d1_101 (hw _ m_41) (Or.inl (hw _ m_42)) (hw _ m_5) (hlay hw) rfl rfl rfl (leb rfl) (by subst es3; rfl) ?_
 refine WP.aloadN d1_104 rfl ?_
 refine WP.aloadN d1_105 rfl ?_
 refine WP.iloadN d1_106 rfl ?_
 refine WP.iconst (1 : Int32) d1_107 rfl ?_
 refine WP.bipush (32 : Int32) d1_108 rfl ?_
 obtain ⟨c4, hc4, h⟩ := bd h
 refine WP.callP (i := 0) (y := y2) (as := [.int p2, .int (1 : Int32), .int (32 : Int32)]) (S := [.ref 0]) d1_110 (hw _ m_37) (hw _ m_39) (hw _ m_5) (hw _ m_38) (hw _ m_40) (hw _ m_6) hy2 rfl (ok2 l Z a0 hw p2 (1 : Int32) (32 : Int32) s3 _ hc4) rfl (lenOf pd2 rfl) (leb rfl) (leb rfl) (leb rfl) (leb rfl) ?_
 rintro _ _ ⟨rfl, rfl⟩
 show W1 l Z n0 (P1 r) 11 256 113 (vR 0 :: vI p1 :: vI p2 :: []) [.int c4, .ref 0] (Hb 0 s3)
 obtain ⟨s5, es5, h⟩ := lt_e h
 refine WP.putI (i := 0) (j := 1) (H' := (Hb 0 s5)) d1_113 (hw _ m_43) (Or.inl (hw _ m_44)) (hw _ m_5) (hlay hw) rfl rfl rfl (leb rfl) (by subst es5; rfl) ?_
 refine WP.aloadN d1_116 rfl ?_
 refine WP.iconst (0 : Int32) d1_117 rfl ?_
 obtain ⟨s6, es6, h⟩ := lt_e h
 refine WP.putI (i := 0) (j := 2) (H' := (Hb 0 s6)) d1_118 (hw _ m_45) (Or.inl (hw _ m_46)) (hw _ m_5) (hlay hw) rfl rfl rfl (leb rfl) (by subst es6; rfl) ?_
 refine WP.aloadN d1_121 rfl ?_
 refine WP.iconst (0 : Int32) d1_122 rfl ?_
 obtain ⟨s7, es7, h⟩ := lt_e h
 refine WP.putI (i := 0) (j := 7) (H' := (Hb 0 s7)) d1_123 (hw _ m_47) (Or.inl (hw _ m_48)) (hw _ m_5) (hlay hw) rfl rfl rfl (leb rfl) (by subst es7; rfl) ?_
 refine WP.aloadN d1_126 rfl ?_
 refine WP.iconst (0 : Int32) d1_127 rfl ?_
 obtain ⟨s8, es8, h⟩ := lt_e h
 refine WP.putZ (i := 0) (j := 15) (H' := (Hb 0 s8)) d1_128 (hw _ m_49) (Or.inl (hw _ m_50)) (hw _ m_5) (hlay hw) rfl rfl rfl (leb rfl) (by subst es8; rfl) ?_
 refine WP.aloadN d1_131 rfl ?_
 refine WP.iconst (0 : Int32) d1_132 rfl ?_
 obtain ⟨s9, es9, h⟩ := lt_e h
 refine WP.putZ (i := 0) (j := 16) (H' := (Hb 0 s9)) d1_133 (hw _ m_51) (Or.inl (hw _ m_52)) (hw _ m_5) (hlay hw) rfl rfl rfl (leb rfl) (by subst es9; rfl) ?_
 refine WP.aloadN d1_136 rfl ?_
 refine WP.iconst (0 : Int32) d1_137 rfl ?_
 obtain ⟨s10, es10, h⟩ := lt_e h
 refine WP.putI (i := 0) (j := 17) (H' := (Hb 0 s10)) d1_138 (hw _ m_53) (Or.inl (hw _ m_54)) (hw _ m_5) (hlay hw) rfl rfl rfl (leb rfl) (by subst es10; rfl) ?_
 refine WP.aloadN d1_141 rfl ?_
 refine WP.iconst (0 : Int32) d1_142 rfl ?_
 obtain ⟨s11, es11, h⟩ := lt_e h
 refine WP.putI (i := 0) (j := 18) (H' := (Hb 0 s11)) d1_143 (hw _ m_55) (Or.inl (hw _ m_56)) (hw _ m_5) (hlay hw) rfl rfl rfl (leb rfl) (by subst es11; rfl) ?_
 refine WP.aloadN d1_146 rfl ?_
 refine WP.iconst (0 : Int32) d1_147 rfl ?_
 obtain ⟨s12, es12, h⟩ := lt_e h
 refine WP.putI (i := 0) (j := 19) (H' := (Hb 0 s12)) d1_148 (hw _ m_57) (Or.inl (hw _ m_58)) (hw _ m_5) (hlay hw) rfl rfl rfl (leb rfl) (by subst es12; rfl) ?_
 cases h
 exact WP.vreturn d1_151 rfl (leb rfl) (leb rfl) ⟨rfl, rfl⟩
theorem d3_0 : dc method_4_code 0 (.iconst 1) 1 := by decide +kernel
theorem d3_1 : dc method_4_code 1 (.iload_n 0) 1 := by decide +kernel
theorem d3_2 : dc method_4_code 2 (.ldc 9) 2 := by decide +kernel
theorem d3_4 : dc method_4_code 4 (.iand) 1 := by decide +kernel
theorem d3_5 : dc method_4_code 5 (.iconst 5) 1 := by decide +kernel
theorem d3_6 : dc method_4_code 6 (.irem) 1 := by decide +kernel
theorem d3_7 : dc method_4_code 7 (.iadd) 1 := by decide +kernel
theorem d3_8 : dc method_4_code 8 (.ireturn) 1 := by decide +kernel
abbrev y3 : MethodName := ⟨"PictureCobolOwnLaw", "dOf", "(I)I"⟩
theorem hy3 : y3.cls ≠ "java/lang/invoke/MethodHandle" ∧ y3.cls ≠ "java/lang/invoke/VarHandle" := by decide
theorem pd3 : parseMethodDescriptor y3.desc = some ⟨[.int], some .int⟩ := by decide +kernel
abbrev R3 : Room := { frames := 0, cells := 0, slots := 0, locals := 0 }
abbrev P3 (r : Int32) : Option Value → List OwnC → Prop := fun v H' => v = some (.int r) ∧ H' = ([] : List OwnC)
abbrev W3 (l : Launch) (Z : State) (n0 : Nat) (Q : Option Value → List OwnC → Prop) (k n pc : Nat) (L : List Slot) (S : List Value) (H : List OwnC) : Prop := WP l Z CN lay "PictureCobolOwnLaw" "dOf" method_4_code 1 (some FieldType.int) R3 n0 0 Q k n pc L S H
def f_L_dOf (p0 : Int32) : Option (Int32) :=
 some ((1 : Int32) + ((p0 &&& (65535 : Int32)) % (5 : Int32)))
theorem ok3 (l : Launch) (Z : State) (a0 : Array Value) (hw : HW a0 Z) (p0 r : Int32) (h : f_L_dOf p0 = some r) : CS l Z CN lay y3 method_4_code 1 (some FieldType.int) R3 0 [.int p0] ([] : List OwnC) (P3 r) := by
 refine CS.of_wp pn_law (leb rfl) fun n0 => ?_
 show W3 l Z n0 (P3 r) 0 0 0 (vI p0 :: []) [] ([] : List OwnC)
 unfold f_L_dOf at h
 refine WP.iconst (1 : Int32) d3_0 rfl ?_
 refine WP.iloadN d3_1 rfl ?_
 refine WP.ldc d3_2 (hw _ m_62) ?_
 refine WP.iand d3_4 ?_
 refine WP.iconst (5 : Int32) d3_5 rfl ?_
 refine WP.irem d3_6 (by decide) ?_
 refine WP.iadd d3_7 ?_
 cases h
 exact WP.ireturn d3_8 rfl (leb rfl) (leb rfl) ⟨rfl, rfl⟩
theorem d4_0 : dc method_5_code 0 (.iload_n 0) 1 := by decide +kernel
theorem d4_1 : dc method_5_code 1 (.iconst 4) 1 := by decide +kernel
theorem d4_2 : dc method_5_code 2 (.iushr) 1 := by decide +kernel
theorem d4_3 : dc method_5_code 3 (.sipush 4095) 3 := by decide +kernel
theorem d4_6 : dc method_5_code 6 (.iand) 1 := by decide +kernel
theorem d4_7 : dc method_5_code 7 (.iload_n 0) 1 := by decide +kernel
theorem d4_8 : dc method_5_code 8 (.invokestatic 10) 3 := by decide +kernel
theorem d4_11 : dc method_5_code 11 (.iconst 1) 1 := by decide +kernel
theorem d4_12 : dc method_5_code 12 (.iadd) 1 := by decide +kernel
theorem d4_13 : dc method_5_code 13 (.irem) 1 := by decide +kernel
theorem d4_14 : dc method_5_code 14 (.ireturn) 1 := by decide +kernel
abbrev y4 : MethodName := ⟨"PictureCobolOwnLaw", "fOf", "(I)I"⟩
theorem hy4 : y4.cls ≠ "java/lang/invoke/MethodHandle" ∧ y4.cls ≠ "java/lang/invoke/VarHandle" := by decide
theorem pd4 : parseMethodDescriptor y4.desc = some ⟨[.int], some .int⟩ := by decide +kernel
abbrev R4 : Room := { frames := 1, cells := 0, slots := 0, locals := 13 }
abbrev P4 (r : Int32) : Option Value → List OwnC → Prop := fun v H' => v = some (.int r) ∧ H' = ([] : List OwnC)
abbrev W4 (l : Launch) (Z : State) (n0 : Nat) (Q : Option Value → List OwnC → Prop) (k n pc : Nat) (L : List Slot) (S : List Value) (H : List OwnC) : Prop := WP l Z CN lay "PictureCobolOwnLaw" "fOf" method_5_code 1 (some FieldType.int) R4 n0 0 Q k n pc L S H
def f_L_fOf (p0 : Int32) : Option (Int32) :=
 (f_L_dOf p0).bind fun c1 =>
 if c1 + (1 : Int32) = 0 then none else
 some (((XT.ushr p0 (4 : Int32)) &&& (4095 : Int32)) % (c1 + (1 : Int32)))
theorem ok4 (l : Launch) (Z : State) (a0 : Array Value) (hw : HW a0 Z) (p0 r : Int32) (h : f_L_fOf p0 = some r) : CS l Z CN lay y4 method_5_code 1 (some FieldType.int) R4 0 [.int p0] ([] : List OwnC) (P4 r) := by
 refine CS.of_wp pn_law (leb rfl) fun n0 => ?_
 show W4 l Z n0 (P4 r) 0 0 0 (vI p0 :: []) [] ([] : List OwnC)
 unfold f_L_fOf at h
 refine WP.iloadN d4_0 rfl ?_
 refine WP.iconst (4 : Int32) d4_1 rfl ?_
 refine WP.iushr d4_2 ?_
 refine WP.sipush (4095 : Int32) d4_3 rfl ?_
 refine WP.iand d4_6 ?_
 refine WP.iloadN d4_7 rfl ?_
 obtain ⟨c1, hc1, h⟩ := bd h
 refine WP.callS (y := y3) (as := [.int p0]) (S := [.int ((XT.ushr p0 (4 : Int32)) &&& (4095 : Int32))]) d4_8 (hw _ m_59) (hw _ m_60) (hw _ m_2) (hw _ m_61) hy3 (ok3 l Z a0 hw p0 _ hc1) rfl (lenOf pd3 rfl) (leb rfl) (leb rfl) (leb rfl) (leb rfl) ?_
 rintro _ _ ⟨rfl, rfl⟩
 show W4 l Z n0 (P4 r) 0 0 11 (vI p0 :: []) [.int c1, .int ((XT.ushr p0 (4 : Int32)) &&& (4095 : Int32))] ([] : List OwnC)
 refine WP.iconst (1 : Int32) d4_11 rfl ?_
 refine WP.iadd d4_12 ?_
 obtain ⟨hz2, h⟩ := nz_e h
 refine WP.irem d4_13 hz2 ?_
 cases h
 exact WP.ireturn d4_14 rfl (leb rfl) (leb rfl) ⟨rfl, rfl⟩
theorem d5_0 : dc method_6_code 0 (.iload_n 0) 1 := by decide +kernel
theorem d5_1 : dc method_6_code 1 (.ldc 16) 2 := by decide +kernel
theorem d5_3 : dc method_6_code 3 (.iand) 1 := by decide +kernel
theorem d5_4 : dc method_6_code 4 (.ifCond .ne 7) 3 := by decide +kernel
theorem d5_7 : dc method_6_code 7 (.iconst 1) 1 := by decide +kernel
theorem d5_8 : dc method_6_code 8 (.goto 4) 3 := by decide +kernel
theorem d5_11 : dc method_6_code 11 (.iconst 0) 1 := by decide +kernel
theorem d5_12 : dc method_6_code 12 (.ireturn) 1 := by decide +kernel
abbrev y5 : MethodName := ⟨"PictureCobolOwnLaw", "sgOf", "(I)Z"⟩
theorem hy5 : y5.cls ≠ "java/lang/invoke/MethodHandle" ∧ y5.cls ≠ "java/lang/invoke/VarHandle" := by decide
theorem pd5 : parseMethodDescriptor y5.desc = some ⟨[.int], some .boolean⟩ := by decide +kernel
abbrev R5 : Room := { frames := 0, cells := 0, slots := 0, locals := 0 }
abbrev P5 (r : Int32) : Option Value → List OwnC → Prop := fun v H' => v = some (.int r) ∧ H' = ([] : List OwnC)
abbrev W5 (l : Launch) (Z : State) (n0 : Nat) (Q : Option Value → List OwnC → Prop) (k n pc : Nat) (L : List Slot) (S : List Value) (H : List OwnC) : Prop := WP l Z CN lay "PictureCobolOwnLaw" "sgOf" method_6_code 1 (some FieldType.boolean) R5 n0 0 Q k n pc L S H
def f_L_sgOf_12 (t0 : Int32) : Option (Int32) :=
 some (t0 &&& 1)
theorem ok5_12 (l : Launch) (Z : State) (a0 : Array Value) (hw : HW a0 Z) (n0 : Nat) (t0 r : Int32) (h : f_L_sgOf_12 t0 = some r) : W5 l Z n0 (P5 r) 0 0 12 (vU :: []) [.int t0] ([] : List OwnC) := by
 unfold f_L_sgOf_12 at h
 cases h
 exact WP.zreturn d5_12 rfl (leb rfl) (leb rfl) ⟨rfl, rfl⟩
def f_L_sgOf (p0 : Int32) : Option (Int32) :=
 if (p0 &&& (1048576 : Int32)) = 0 then
  f_L_sgOf_12 (1 : Int32)
 else
  f_L_sgOf_12 (0 : Int32)
theorem ok5 (l : Launch) (Z : State) (a0 : Array Value) (hw : HW a0 Z) (p0 r : Int32) (h : f_L_sgOf p0 = some r) : CS l Z CN lay y5 method_6_code 1 (some FieldType.boolean) R5 0 [.int p0] ([] : List OwnC) (P5 r) := by
 refine CS.of_wp pn_law (leb rfl) fun n0 => ?_
 show W5 l Z n0 (P5 r) 0 0 0 (vI p0 :: []) [] ([] : List OwnC)
 unfold f_L_sgOf at h
 refine WP.iloadN d5_0 rfl ?_
 refine WP.ldc d5_1 (hw _ m_69) ?_
 refine WP.iand d5_3 ?_
 rcases ite_e h with ⟨hc1, h⟩ | ⟨hc1, h⟩
 ·
  refine WP.ifN d5_4 (XT.i0_ne_f hc1) ?_
  refine WP.iconst (1 : Int32) d5_7 rfl ?_
  refine WP.goto (pc' := 12) d5_8 (by decide) rfl ?_
  exact WP.weak (L' := (vU :: [])) trivial (ok5_12 l Z a0 hw n0 (1 : Int32) _ h)
 ·
  refine WP.ifY (pc' := 11) d5_4 (XT.i0_ne_t hc1) (by decide) rfl ?_
  refine WP.iconst (0 : Int32) d5_11 rfl ?_
  exact WP.weak (L' := (vU :: [])) trivial (ok5_12 l Z a0 hw n0 (0 : Int32) _ h)
theorem d6_0 : dc k1 0 (.aload_n 0) 1 := by decide +kernel
theorem d6_1 : dc k1 1 (.getfield 61) 3 := by decide +kernel
theorem d6_4 : dc k1 4 (.ifCond .ne 14) 3 := by decide +kernel
theorem d6_7 : dc k1 7 (.aload_n 0) 1 := by decide +kernel
theorem d6_8 : dc k1 8 (.getfield 55) 3 := by decide +kernel
theorem d6_11 : dc k1 11 (.aload_n 0) 1 := by decide +kernel
theorem d6_12 : dc k1 12 (.getfield 48) 3 := by decide +kernel
theorem d6_15 : dc k1 15 (.if_icmp .ne 5) 3 := by decide +kernel
theorem d6_18 : dc k1 18 (.iconst (-1)) 1 := by decide +kernel
theorem d6_19 : dc k1 19 (.ireturn) 1 := by decide +kernel
theorem d6_20 : dc k1 20 (.iload_n 1) 1 := by decide +kernel
theorem d6_21 : dc k1 21 (.ifCond .lt 17) 3 := by decide +kernel
theorem d6_24 : dc k1 24 (.iload_n 1) 1 := by decide +kernel
theorem d6_25 : dc k1 25 (.iconst 5) 1 := by decide +kernel
theorem d6_26 : dc k1 26 (.if_icmp .gt 12) 3 := by decide +kernel
theorem d6_29 : dc k1 29 (.iload_n 2) 1 := by decide +kernel
theorem d6_30 : dc k1 30 (.ifCond .lt 8) 3 := by decide +kernel
theorem d6_33 : dc k1 33 (.iload_n 2) 1 := by decide +kernel
theorem d6_34 : dc k1 34 (.iconst 5) 1 := by decide +kernel
theorem d6_35 : dc k1 35 (.if_icmp .le 5) 3 := by decide +kernel
theorem d6_38 : dc k1 38 (.iconst (-1)) 1 := by decide +kernel
theorem d6_39 : dc k1 39 (.ireturn) 1 := by decide +kernel
theorem d6_40 : dc k1 40 (.iload_n 1) 1 := by decide +kernel
theorem d6_41 : dc k1 41 (.iload_n 2) 1 := by decide +kernel
theorem d6_42 : dc k1 42 (.iadd) 1 := by decide +kernel
theorem d6_43 : dc k1 43 (.istore 4) 2 := by decide +kernel
theorem d6_45 : dc k1 45 (.iload 4) 2 := by decide +kernel
theorem d6_47 : dc k1 47 (.iconst 1) 1 := by decide +kernel
theorem d6_48 : dc k1 48 (.if_icmp .lt 9) 3 := by decide +kernel
theorem d6_51 : dc k1 51 (.iload 4) 2 := by decide +kernel
theorem d6_53 : dc k1 53 (.iconst 5) 1 := by decide +kernel
theorem d6_54 : dc k1 54 (.if_icmp .le 5) 3 := by decide +kernel
theorem d6_57 : dc k1 57 (.iconst (-1)) 1 := by decide +kernel
theorem d6_58 : dc k1 58 (.ireturn) 1 := by decide +kernel
theorem d6_59 : dc k1 59 (.aload_n 0) 1 := by decide +kernel
theorem d6_60 : dc k1 60 (.getfield 55) 3 := by decide +kernel
theorem d6_63 : dc k1 63 (.ifCond .lt 12) 3 := by decide +kernel
theorem d6_66 : dc k1 66 (.aload_n 0) 1 := by decide +kernel
theorem d6_67 : dc k1 67 (.getfield 55) 3 := by decide +kernel
theorem d6_70 : dc k1 70 (.bipush 8) 2 := by decide +kernel
theorem d6_72 : dc k1 72 (.if_icmp .lt 5) 3 := by decide +kernel
theorem d6_75 : dc k1 75 (.iconst (-1)) 1 := by decide +kernel
theorem d6_76 : dc k1 76 (.ireturn) 1 := by decide +kernel
theorem d6_77 : dc k1 77 (.aload_n 0) 1 := by decide +kernel
theorem d6_78 : dc k1 78 (.getfield 55) 3 := by decide +kernel
theorem d6_81 : dc k1 81 (.istore 5) 2 := by decide +kernel
theorem d6_83 : dc k1 83 (.aload_n 0) 1 := by decide +kernel
theorem d6_84 : dc k1 84 (.getfield 7) 3 := by decide +kernel
theorem d6_87 : dc k1 87 (.iload 5) 2 := by decide +kernel
theorem d6_89 : dc k1 89 (.iload_n 1) 1 := by decide +kernel
theorem d6_90 : dc k1 90 (.iastore) 1 := by decide +kernel
theorem d6_91 : dc k1 91 (.aload_n 0) 1 := by decide +kernel
theorem d6_92 : dc k1 92 (.getfield 13) 3 := by decide +kernel
theorem d6_95 : dc k1 95 (.iload 5) 2 := by decide +kernel
theorem d6_97 : dc k1 97 (.iload_n 2) 1 := by decide +kernel
theorem d6_98 : dc k1 98 (.iastore) 1 := by decide +kernel
theorem d6_99 : dc k1 99 (.aload_n 0) 1 := by decide +kernel
theorem d6_100 : dc k1 100 (.getfield 19) 3 := by decide +kernel
theorem d6_103 : dc k1 103 (.iload 5) 2 := by decide +kernel
theorem d6_105 : dc k1 105 (.iload_n 3) 1 := by decide +kernel
theorem d6_106 : dc k1 106 (.bastore) 1 := by decide +kernel
theorem d6_107 : dc k1 107 (.aload_n 0) 1 := by decide +kernel
theorem d6_108 : dc k1 108 (.getfield 16) 3 := by decide +kernel
theorem d6_111 : dc k1 111 (.iload 5) 2 := by decide +kernel
theorem d6_113 : dc k1 113 (.iconst 0) 1 := by decide +kernel
theorem d6_114 : dc k1 114 (.iastore) 1 := by decide +kernel
theorem d6_115 : dc k1 115 (.aload_n 0) 1 := by decide +kernel
theorem d6_116 : dc k1 116 (.iload 5) 2 := by decide +kernel
theorem d6_118 : dc k1 118 (.iconst 1) 1 := by decide +kernel
theorem d6_119 : dc k1 119 (.iadd) 1 := by decide +kernel
theorem d6_120 : dc k1 120 (.putfield 55) 3 := by decide +kernel
theorem d6_123 : dc k1 123 (.iload 5) 2 := by decide +kernel
theorem d6_125 : dc k1 125 (.ireturn) 1 := by decide +kernel
abbrev y6 : MethodName := ⟨"PictureCobol", "declareField", "(IIZ)I"⟩
theorem hy6 : y6.cls ≠ "java/lang/invoke/MethodHandle" ∧ y6.cls ≠ "java/lang/invoke/VarHandle" := by decide
theorem pd6 : parseMethodDescriptor y6.desc = some ⟨[.int, .int, .boolean], some .int⟩ := by decide +kernel
abbrev R6 : Room := { frames := 0, cells := 0, slots := 0, locals := 0 }
abbrev P6 (r : Int32 × St) : Option Value → List OwnC → Prop := fun v H' => v = some (.int r.1) ∧ H' = (Hb 0 r.2)
abbrev W6 (l : Launch) (Z : State) (n0 : Nat) (Q : Option Value → List OwnC → Prop) (k n pc : Nat) (L : List Slot) (S : List Value) (H : List OwnC) : Prop := WP l Z CN lay "PictureCobol" "declareField" prog_1_method_2_code 6 (some FieldType.int) R6 n0 0 Q k n pc L S H
def f_declareField_18 (s : St) : Option (Int32 × St) :=
 some ((-1 : Int32), s)
theorem ok6_18 (l : Launch) (Z : State) (a0 : Array Value) (hw : HW a0 Z) (n0 : Nat) (s : St) (r : Int32 × St) (h : f_declareField_18 s = some r) : W6 l Z n0 (P6 r) 0 0 18 (vU :: vU :: vU :: vU :: vU :: vU :: []) [] (Hb 0 s) := by
 unfold f_declareField_18 at h
 refine WP.iconst (-1 : Int32) d6_18 rfl ?_
 cases h
 exact WP.ireturn d6_19 rfl (leb rfl) (leb rfl) ⟨rfl, rfl⟩
def f_declareField_38 (s : St) : Option (Int32 × St) :=
 some ((-1 : Int32), s)
theorem ok6_38 (l : Launch) (Z : State) (a0 : Array Value) (hw : HW a0 Z) (n0 : Nat) (s : St) (r : Int32 × St) (h : f_declareField_38 s = some r) : W6 l Z n0 (P6 r) 0 0 38 (vU :: vU :: vU :: vU :: vU :: vU :: []) [] (Hb 0 s) := by
 unfold f_declareField_38 at h
 refine WP.iconst (-1 : Int32) d6_38 rfl ?_
 cases h
 exact WP.ireturn d6_39 rfl (leb rfl) (leb rfl) ⟨rfl, rfl⟩
def f_declareField_57 (s : St) : Option (Int32 × St) :=
 some ((-1 : Int32), s)
theorem ok6_57 (l : Launch) (Z : State) (a0 : Array Value) (hw : HW a0 Z) (n0 : Nat) (s : St) (r : Int32 × St) (h : f_declareField_57 s = some r) : W6 l Z n0 (P6 r) 0 0 57 (vU :: vU :: vU :: vU :: vU :: vU :: []) [] (Hb 0 s) := by
 unfold f_declareField_57 at h
 refine WP.iconst (-1 : Int32) d6_57 rfl ?_
 cases h
 exact WP.ireturn d6_58 rfl (leb rfl) (leb rfl) ⟨rfl, rfl⟩
def f_declareField_75 (s : St) : Option (Int32 × St) :=
 some ((-1 : Int32), s)
theorem ok6_75 (l : Launch) (Z : State) (a0 : Array Value) (hw : HW a0 Z) (n0 : Nat) (s : St) (r : Int32 × St) (h : f_declareField_75 s = some r) : W6 l Z n0 (P6 r) 0 0 75 (vU :: vU :: vU :: vU :: vU :: vU :: []) [] (Hb 0 s) := by
 unfold f_declareField_75 at h
 refine WP.iconst (-1 : Int32) d6_75 rfl ?_
 cases h
 exact WP.ireturn d6_76 rfl (leb rfl) (leb rfl) ⟨rfl, rfl⟩
def f_declareField (p1 p2 p3 : Int32) (s : St) : Option (Int32 × St) :=
 if (gI s 4) = 0 then
  if (gI s 2) = (gI s 0) then
   f_declareField_18 s
  else
   if p1 < 0 then
    f_declareField_38 s
   else
    if (5 : Int32) < p1 then
     f_declareField_38 s
    else
     if p2 < 0 then
      f_declareField_38 s
     else
      if (5 : Int32) < p2 then
       f_declareField_38 s
      else
       lt (p1 + p2) fun x7 =>
       if x7 < (1 : Int32) then
        f_declareField_57 s
       else
        if (5 : Int32) < x7 then
         f_declareField_57 s
        else
         if (gI s 2) < 0 then
          f_declareField_75 s
         else
          if (gI s 2) < (8 : Int32) then
           lt (gI s 2) fun x12 =>
           (wrA s 0 x12 p1).bind fun s13 =>
           (wrA s13 1 x12 p2).bind fun s14 =>
           (wrA s14 3 x12 (p3 &&& 1)).bind fun s15 =>
           (wrA s15 2 x12 (0 : Int32)).bind fun s16 =>
           lt (sI s16 2 (x12 + (1 : Int32))) fun s17 =>
           some (x12, s17)
          else
           f_declareField_75 s
 else
  f_declareField_18 s
theorem ok6 (l : Launch) (Z : State) (a0 : Array Value) (hw : HW a0 Z) (p1 p2 p3 : Int32) (s : St) (r : Int32 × St) (h : f_declareField p1 p2 p3 s = some r) : CS l Z CN lay y6 prog_1_method_2_code 6 (some FieldType.int) R6 0 [.ref 0, .int p1, .int p2, .int p3] (Hb 0 s) (P6 r) := by
 refine CS.of_wp pn_cls (leb rfl) fun n0 => ?_
 show W6 l Z n0 (P6 r) 0 0 0 (vR 0 :: vI p1 :: vI p2 :: vI p3 :: vU :: vU :: []) [] (Hb 0 s)
 unfold f_declareField at h
 refine WP.aloadN d6_0 rfl ?_
 refine WP.getfield (i := 0) (j := 15) d6_1 (hw _ m_49) rfl rfl rfl ?_
 rcases ite_e h with ⟨hc1, h⟩ | ⟨hc1, h⟩
 ·
  refine WP.ifN d6_4 (XT.i0_ne_f hc1) ?_
  refine WP.aloadN d6_7 rfl ?_
  refine WP.getfield (i := 0) (j := 2) d6_8 (hw _ m_45) rfl rfl rfl ?_
  refine WP.aloadN d6_11 rfl ?_
  refine WP.getfield (i := 0) (j := 0) d6_12 (hw _ m_41) rfl rfl rfl ?_
  rcases ite_e h with ⟨hc2, h⟩ | ⟨hc2, h⟩
  ·
   refine WP.icmpN d6_15 (XT.ii_ne_f hc2) ?_
   exact WP.weak (L' := (vU :: vU :: vU :: vU :: vU :: vU :: [])) trivial (ok6_18 l Z a0 hw n0 s _ h)
  ·
   refine WP.icmpY (pc' := 20) d6_15 (XT.ii_ne_t hc2) (by decide) rfl ?_
   refine WP.iloadN d6_20 rfl ?_
   rcases ite_e h with ⟨hc3, h⟩ | ⟨hc3, h⟩
   ·
    refine WP.ifY (pc' := 38) d6_21 (XT.i0_lt_t hc3) (by decide) rfl ?_
    exact WP.weak (L' := (vU :: vU :: vU :: vU :: vU :: vU :: [])) trivial (ok6_38 l Z a0 hw n0 s _ h)
   ·
    refine WP.ifN d6_21 (XT.i0_lt_f hc3) ?_
    refine WP.iloadN d6_24 rfl ?_
    refine WP.iconst (5 : Int32) d6_25 rfl ?_
    rcases ite_e h with ⟨hc4, h⟩ | ⟨hc4, h⟩
    ·
     refine WP.icmpY (pc' := 38) d6_26 (XT.ii_gt_t hc4) (by decide) rfl ?_
     exact WP.weak (L' := (vU :: vU :: vU :: vU :: vU :: vU :: [])) trivial (ok6_38 l Z a0 hw n0 s _ h)
    ·
     refine WP.icmpN d6_26 (XT.ii_gt_f hc4) ?_
     refine WP.iloadN d6_29 rfl ?_
     rcases ite_e h with ⟨hc5, h⟩ | ⟨hc5, h⟩
     ·
      refine WP.ifY (pc' := 38) d6_30 (XT.i0_lt_t hc5) (by decide) rfl ?_
      exact WP.weak (L' := (vU :: vU :: vU :: vU :: vU :: vU :: [])) trivial (ok6_38 l Z a0 hw n0 s _ h)
     ·
      refine WP.ifN d6_30 (XT.i0_lt_f hc5) ?_
      refine WP.iloadN d6_33 rfl ?_
      refine WP.iconst (5 : Int32) d6_34 rfl ?_
      rcases ite_e h with ⟨hc6, h⟩ | ⟨hc6, h⟩
      ·
       refine WP.icmpN d6_35 (XT.ii_le_f hc6) ?_
       exact WP.weak (L' := (vU :: vU :: vU :: vU :: vU :: vU :: [])) trivial (ok6_38 l Z a0 hw n0 s _ h)
      ·
       refine WP.icmpY (pc' := 40) d6_35 (XT.ii_le_t hc6) (by decide) rfl ?_
       refine WP.iloadN d6_40 rfl ?_
       refine WP.iloadN d6_41 rfl ?_
       refine WP.iadd d6_42 ?_
       obtain ⟨x7, ex7, h⟩ := lt_e h
       refine WP.istore (L' := (vR 0 :: vI p1 :: vI p2 :: vI p3 :: vI x7 :: vU :: [])) d6_43 (leb rfl) (by subst ex7; rfl) ?_
       refine WP.iload d6_45 rfl ?_
       refine WP.iconst (1 : Int32) d6_47 rfl ?_
       rcases ite_e h with ⟨hc8, h⟩ | ⟨hc8, h⟩
       ·
        refine WP.icmpY (pc' := 57) d6_48 (XT.ii_lt_t hc8) (by decide) rfl ?_
        exact WP.weak (L' := (vU :: vU :: vU :: vU :: vU :: vU :: [])) trivial (ok6_57 l Z a0 hw n0 s _ h)
       ·
        refine WP.icmpN d6_48 (XT.ii_lt_f hc8) ?_
        refine WP.iload d6_51 rfl ?_
        refine WP.iconst (5 : Int32) d6_53 rfl ?_
        rcases ite_e h with ⟨hc9, h⟩ | ⟨hc9, h⟩
        ·
         refine WP.icmpN d6_54 (XT.ii_le_f hc9) ?_
         exact WP.weak (L' := (vU :: vU :: vU :: vU :: vU :: vU :: [])) trivial (ok6_57 l Z a0 hw n0 s _ h)
        ·
         refine WP.icmpY (pc' := 59) d6_54 (XT.ii_le_t hc9) (by decide) rfl ?_
         refine WP.aloadN d6_59 rfl ?_
         refine WP.getfield (i := 0) (j := 2) d6_60 (hw _ m_45) rfl rfl rfl ?_
         rcases ite_e h with ⟨hc10, h⟩ | ⟨hc10, h⟩
         ·
          refine WP.ifY (pc' := 75) d6_63 (XT.i0_lt_t hc10) (by decide) rfl ?_
          exact WP.weak (L' := (vU :: vU :: vU :: vU :: vU :: vU :: [])) trivial (ok6_75 l Z a0 hw n0 s _ h)
         ·
          refine WP.ifN d6_63 (XT.i0_lt_f hc10) ?_
          refine WP.aloadN d6_66 rfl ?_
          refine WP.getfield (i := 0) (j := 2) d6_67 (hw _ m_45) rfl rfl rfl ?_
          refine WP.bipush (8 : Int32) d6_70 rfl ?_
          rcases ite_e h with ⟨hc11, h⟩ | ⟨hc11, h⟩
          ·
           refine WP.icmpY (pc' := 77) d6_72 (XT.ii_lt_t hc11) (by decide) rfl ?_
           refine WP.aloadN d6_77 rfl ?_
           refine WP.getfield (i := 0) (j := 2) d6_78 (hw _ m_45) rfl rfl rfl ?_
           obtain ⟨x12, ex12, h⟩ := lt_e h
           refine WP.istore (L' := (vR 0 :: vI p1 :: vI p2 :: vI p3 :: vI x7 :: vI x12 :: [])) d6_81 (leb rfl) (by subst ex12; rfl) ?_
           refine WP.aloadN d6_83 rfl ?_
           refine WP.getfield (i := 0) (j := 3) d6_84 (hw _ m_14) rfl rfl rfl ?_
           refine WP.iload d6_87 rfl ?_
           refine WP.iloadN d6_89 rfl ?_
           obtain ⟨s13, hs13, h⟩ := bd h
           obtain ⟨ys13, gs13, es13⟩ := wrA_e hs13
           refine WP.iastore (i := 1) (xs := gA s 0) (H' := (Hb 0 s13)) d6_90 rfl (leb rfl) gs13 (by subst es13; rfl) ?_
           refine WP.aloadN d6_91 rfl ?_
           refine WP.getfield (i := 0) (j := 4) d6_92 (hw _ m_16) rfl rfl rfl ?_
           refine WP.iload d6_95 rfl ?_
           refine WP.iloadN d6_97 rfl ?_
           obtain ⟨s14, hs14, h⟩ := bd h
           obtain ⟨ys14, gs14, es14⟩ := wrA_e hs14
           refine WP.iastore (i := 2) (xs := gA s13 1) (H' := (Hb 0 s14)) d6_98 rfl (leb rfl) gs14 (by subst es14; rfl) ?_
           refine WP.aloadN d6_99 rfl ?_
           refine WP.getfield (i := 0) (j := 6) d6_100 (hw _ m_21) rfl rfl rfl ?_
           refine WP.iload d6_103 rfl ?_
           refine WP.iloadN d6_105 rfl ?_
           obtain ⟨s15, hs15, h⟩ := bd h
           obtain ⟨ys15, gs15, es15⟩ := wrA_e hs15
           refine WP.bastore (i := 4) (xs := gA s14 3) (H' := (Hb 0 s15)) d6_106 rfl (leb rfl) gs15 (by subst es15; rfl) ?_
           refine WP.aloadN d6_107 rfl ?_
           refine WP.getfield (i := 0) (j := 5) d6_108 (hw _ m_18) rfl rfl rfl ?_
           refine WP.iload d6_111 rfl ?_
           refine WP.iconst (0 : Int32) d6_113 rfl ?_
           obtain ⟨s16, hs16, h⟩ := bd h
           obtain ⟨ys16, gs16, es16⟩ := wrA_e hs16
           refine WP.iastore (i := 3) (xs := gA s15 2) (H' := (Hb 0 s16)) d6_114 rfl (leb rfl) gs16 (by subst es16; rfl) ?_
           refine WP.aloadN d6_115 rfl ?_
           refine WP.iload d6_116 rfl ?_
           refine WP.iconst (1 : Int32) d6_118 rfl ?_
           refine WP.iadd d6_119 ?_
           obtain ⟨s17, es17, h⟩ := lt_e h
           refine WP.putI (i := 0) (j := 2) (H' := (Hb 0 s17)) d6_120 (hw _ m_45) (Or.inl (hw _ m_46)) (hw _ m_5) (hlay hw) rfl rfl rfl (leb rfl) (by subst es17; rfl) ?_
           refine WP.iload d6_123 rfl ?_
           cases h
           exact WP.ireturn d6_125 rfl (leb rfl) (leb rfl) ⟨rfl, rfl⟩
          ·
           refine WP.icmpN d6_72 (XT.ii_lt_f hc11) ?_
           exact WP.weak (L' := (vU :: vU :: vU :: vU :: vU :: vU :: [])) trivial (ok6_75 l Z a0 hw n0 s _ h)
 ·
  refine WP.ifY (pc' := 18) d6_4 (XT.i0_ne_t hc1) (by decide) rfl ?_
  exact WP.weak (L' := (vU :: vU :: vU :: vU :: vU :: vU :: [])) trivial (ok6_18 l Z a0 hw n0 s _ h)
theorem d9_0 : dc k14 0 (.iload_n 1) 1 := by decide +kernel
theorem d9_1 : dc k14 1 (.ifCond .lt 21) 3 := by decide +kernel
theorem d9_4 : dc k14 4 (.iload_n 1) 1 := by decide +kernel
theorem d9_5 : dc k14 5 (.aload_n 0) 1 := by decide +kernel
theorem d9_6 : dc k14 6 (.getfield 55) 3 := by decide +kernel
theorem d9_9 : dc k14 9 (.if_icmp .ge 13) 3 := by decide +kernel
theorem d9_12 : dc k14 12 (.iload_n 1) 1 := by decide +kernel
theorem d9_13 : dc k14 13 (.bipush 8) 2 := by decide +kernel
theorem d9_15 : dc k14 15 (.if_icmp .ge 7) 3 := by decide +kernel
theorem d9_18 : dc k14 18 (.iconst 1) 1 := by decide +kernel
theorem d9_19 : dc k14 19 (.goto 4) 3 := by decide +kernel
theorem d9_22 : dc k14 22 (.iconst 0) 1 := by decide +kernel
theorem d9_23 : dc k14 23 (.ireturn) 1 := by decide +kernel
abbrev y9 : MethodName := ⟨"PictureCobol", "isField", "(I)Z"⟩
theorem hy9 : y9.cls ≠ "java/lang/invoke/MethodHandle" ∧ y9.cls ≠ "java/lang/invoke/VarHandle" := by decide
theorem pd9 : parseMethodDescriptor y9.desc = some ⟨[.int], some .boolean⟩ := by decide +kernel
abbrev R9 : Room := { frames := 0, cells := 0, slots := 0, locals := 0 }
abbrev P9 (s : St) (r : Int32) : Option Value → List OwnC → Prop := fun v H' => v = some (.int r) ∧ H' = (Hb 0 s)
abbrev W9 (l : Launch) (Z : State) (n0 : Nat) (Q : Option Value → List OwnC → Prop) (k n pc : Nat) (L : List Slot) (S : List Value) (H : List OwnC) : Prop := WP l Z CN lay "PictureCobol" "isField" prog_1_method_17_code 2 (some FieldType.boolean) R9 n0 0 Q k n pc L S H
def f_isField_23 (t0 : Int32) (s : St) : Option (Int32) :=
 some (t0 &&& 1)
theorem ok9_23 (l : Launch) (Z : State) (a0 : Array Value) (hw : HW a0 Z) (n0 : Nat) (t0 : Int32) (s : St) (r : Int32) (h : f_isField_23 t0 s = some r) : W9 l Z n0 (P9 s r) 0 0 23 (vU :: vU :: []) [.int t0] (Hb 0 s) := by
 unfold f_isField_23 at h
 cases h
 exact WP.zreturn d9_23 rfl (leb rfl) (leb rfl) ⟨rfl, rfl⟩
def f_isField_22 (s : St) : Option (Int32) :=
 f_isField_23 (0 : Int32) s
theorem ok9_22 (l : Launch) (Z : State) (a0 : Array Value) (hw : HW a0 Z) (n0 : Nat) (s : St) (r : Int32) (h : f_isField_22 s = some r) : W9 l Z n0 (P9 s r) 0 0 22 (vU :: vU :: []) [] (Hb 0 s) := by
 unfold f_isField_22 at h
 refine WP.iconst (0 : Int32) d9_22 rfl ?_
 exact WP.weak (L' := (vU :: vU :: [])) trivial (ok9_23 l Z a0 hw n0 (0 : Int32) s _ h)
def f_isField (p1 : Int32) (s : St) : Option (Int32) :=
 if p1 < 0 then
  f_isField_22 s
 else
  if p1 < (gI s 2) then
   if p1 < (8 : Int32) then
    f_isField_23 (1 : Int32) s
   else
    f_isField_22 s
  else
   f_isField_22 s
theorem ok9 (l : Launch) (Z : State) (a0 : Array Value) (hw : HW a0 Z) (p1 : Int32) (s : St) (r : Int32) (h : f_isField p1 s = some r) : CS l Z CN lay y9 prog_1_method_17_code 2 (some FieldType.boolean) R9 0 [.ref 0, .int p1] (Hb 0 s) (P9 s r) := by
 refine CS.of_wp pn_cls (leb rfl) fun n0 => ?_
 show W9 l Z n0 (P9 s r) 0 0 0 (vR 0 :: vI p1 :: []) [] (Hb 0 s)
 unfold f_isField at h
 refine WP.iloadN d9_0 rfl ?_
 rcases ite_e h with ⟨hc1, h⟩ | ⟨hc1, h⟩
 ·
  refine WP.ifY (pc' := 22) d9_1 (XT.i0_lt_t hc1) (by decide) rfl ?_
  exact WP.weak (L' := (vU :: vU :: [])) trivial (ok9_22 l Z a0 hw n0 s _ h)
 ·
  refine WP.ifN d9_1 (XT.i0_lt_f hc1) ?_
  refine WP.iloadN d9_4 rfl ?_
  refine WP.aloadN d9_5 rfl ?_
  refine WP.getfield (i := 0) (j := 2) d9_6 (hw _ m_45) rfl rfl rfl ?_
  rcases ite_e h with ⟨hc2, h⟩ | ⟨hc2, h⟩
  ·
   refine WP.icmpN d9_9 (XT.ii_ge_f hc2) ?_
   refine WP.iloadN d9_12 rfl ?_
   refine WP.bipush (8 : Int32) d9_13 rfl ?_
   rcases ite_e h with ⟨hc3, h⟩ | ⟨hc3, h⟩
   ·
    refine WP.icmpN d9_15 (XT.ii_ge_f hc3) ?_
    refine WP.iconst (1 : Int32) d9_18 rfl ?_
    refine WP.goto (pc' := 23) d9_19 (by decide) rfl ?_
    exact WP.weak (L' := (vU :: vU :: [])) trivial (ok9_23 l Z a0 hw n0 (1 : Int32) s _ h)
   ·
    refine WP.icmpY (pc' := 22) d9_15 (XT.ii_ge_t hc3) (by decide) rfl ?_
    exact WP.weak (L' := (vU :: vU :: [])) trivial (ok9_22 l Z a0 hw n0 s _ h)
  ·
   refine WP.icmpY (pc' := 22) d9_9 (XT.ii_ge_t hc2) (by decide) rfl ?_
   exact WP.weak (L' := (vU :: vU :: [])) trivial (ok9_22 l Z a0 hw n0 s _ h)
theorem d12_0 : dc k15 0 (.aload_n 0) 1 := by decide +kernel
theorem d12_1 : dc k15 1 (.getfield 7) 3 := by decide +kernel
theorem d12_4 : dc k15 4 (.iload_n 1) 1 := by decide +kernel
theorem d12_5 : dc k15 5 (.iaload) 1 := by decide +kernel
theorem d12_6 : dc k15 6 (.aload_n 0) 1 := by decide +kernel
theorem d12_7 : dc k15 7 (.getfield 13) 3 := by decide +kernel
theorem d12_10 : dc k15 10 (.iload_n 1) 1 := by decide +kernel
theorem d12_11 : dc k15 11 (.iaload) 1 := by decide +kernel
theorem d12_12 : dc k15 12 (.iadd) 1 := by decide +kernel
theorem d12_13 : dc k15 13 (.ireturn) 1 := by decide +kernel
abbrev y12 : MethodName := ⟨"PictureCobol", "digits", "(I)I"⟩
theorem hy12 : y12.cls ≠ "java/lang/invoke/MethodHandle" ∧ y12.cls ≠ "java/lang/invoke/VarHandle" := by decide
theorem pd12 : parseMethodDescriptor y12.desc = some ⟨[.int], some .int⟩ := by decide +kernel
abbrev R12 : Room := { frames := 0, cells := 0, slots := 0, locals := 0 }
abbrev P12 (s : St) (r : Int32) : Option Value → List OwnC → Prop := fun v H' => v = some (.int r) ∧ H' = (Hb 0 s)
abbrev W12 (l : Launch) (Z : State) (n0 : Nat) (Q : Option Value → List OwnC → Prop) (k n pc : Nat) (L : List Slot) (S : List Value) (H : List OwnC) : Prop := WP l Z CN lay "PictureCobol" "digits" prog_1_method_18_code 2 (some FieldType.int) R12 n0 0 Q k n pc L S H
def f_digits (p1 : Int32) (s : St) : Option (Int32) :=
 (rd (gA s 0) p1).bind fun x1 =>
 (rd (gA s 1) p1).bind fun x2 =>
 some (x1 + x2)
theorem ok12 (l : Launch) (Z : State) (a0 : Array Value) (hw : HW a0 Z) (p1 : Int32) (s : St) (r : Int32) (h : f_digits p1 s = some r) : CS l Z CN lay y12 prog_1_method_18_code 2 (some FieldType.int) R12 0 [.ref 0, .int p1] (Hb 0 s) (P12 s r) := by
 refine CS.of_wp pn_cls (leb rfl) fun n0 => ?_
 show W12 l Z n0 (P12 s r) 0 0 0 (vR 0 :: vI p1 :: []) [] (Hb 0 s)
 unfold f_digits at h
 refine WP.aloadN d12_0 rfl ?_
 refine WP.getfield (i := 0) (j := 3) d12_1 (hw _ m_14) rfl rfl rfl ?_
 refine WP.iloadN d12_4 rfl ?_
 obtain ⟨x1, hx1, h⟩ := bd h
 refine WP.iaload (i := 1) d12_5 rfl hx1 ?_
 refine WP.aloadN d12_6 rfl ?_
 refine WP.getfield (i := 0) (j := 4) d12_7 (hw _ m_16) rfl rfl rfl ?_
 refine WP.iloadN d12_10 rfl ?_
 obtain ⟨x2, hx2, h⟩ := bd h
 refine WP.iaload (i := 2) d12_11 rfl hx2 ?_
 refine WP.iadd d12_12 ?_
 cases h
 exact WP.ireturn d12_13 rfl (leb rfl) (leb rfl) ⟨rfl, rfl⟩
theorem d13_0 : dc k21 0 (.lconst 1) 1 := by decide +kernel
theorem d13_1 : dc k21 1 (.lstore_n 2) 1 := by decide +kernel
theorem d13_2 : dc k21 2 (.iconst 0) 1 := by decide +kernel
theorem d13_3 : dc k21 3 (.istore 4) 2 := by decide +kernel
theorem d13_5 : dc k21 5 (.iload 4) 2 := by decide +kernel
theorem d13_7 : dc k21 7 (.iload_n 1) 1 := by decide +kernel
theorem d13_8 : dc k21 8 (.if_icmp .ge 22) 3 := by decide +kernel
theorem d13_11 : dc k21 11 (.iload 4) 2 := by decide +kernel
theorem d13_13 : dc k21 13 (.bipush 18) 2 := by decide +kernel
theorem d13_15 : dc k21 15 (.if_icmp .ge 15) 3 := by decide +kernel
theorem d13_18 : dc k21 18 (.lload_n 2) 1 := by decide +kernel
theorem d13_19 : dc k21 19 (.ldc2_w 110) 3 := by decide +kernel
theorem d13_22 : dc k21 22 (.lmul) 1 := by decide +kernel
theorem d13_23 : dc k21 23 (.lstore_n 2) 1 := by decide +kernel
theorem d13_24 : dc k21 24 (.iinc 4 1) 3 := by decide +kernel
theorem d13_27 : dc k21 27 (.goto (-22)) 3 := by decide +kernel
theorem d13_30 : dc k21 30 (.lload_n 2) 1 := by decide +kernel
theorem d13_31 : dc k21 31 (.lreturn) 1 := by decide +kernel
abbrev y13 : MethodName := ⟨"PictureCobol", "pow10", "(I)J"⟩
theorem hy13 : y13.cls ≠ "java/lang/invoke/MethodHandle" ∧ y13.cls ≠ "java/lang/invoke/VarHandle" := by decide
theorem pd13 : parseMethodDescriptor y13.desc = some ⟨[.int], some .long⟩ := by decide +kernel
abbrev R13 : Room := { frames := 0, cells := 0, slots := 0, locals := 0 }
abbrev P13 (s : St) (r : Int64) : Option Value → List OwnC → Prop := fun v H' => v = some (.long r) ∧ H' = (Hb 0 s)
abbrev W13 (l : Launch) (Z : State) (n0 : Nat) (Q : Option Value → List OwnC → Prop) (k n pc : Nat) (L : List Slot) (S : List Value) (H : List OwnC) : Prop := WP l Z CN lay "PictureCobol" "pow10" prog_1_method_24_code 5 (some FieldType.long) R13 n0 0 Q k n pc L S H
def f_pow10_30 (n : Nat) (v2 : Int64) (s : St) : Option (Int64) :=
 some v2
theorem ok13_30 (l : Launch) (Z : State) (a0 : Array Value) (hw : HW a0 Z) (n0 n : Nat) (v2 : Int64) (s : St) (r : Int64) (h : f_pow10_30 n v2 s = some r) : W13 l Z n0 (P13 s r) 0 0 30 (vU :: vU :: vJ v2 :: vS :: vU :: []) [] (Hb 0 s) := by
 unfold f_pow10_30 at h
 refine WP.lloadN d13_30 rfl ?_
 cases h
 exact WP.lreturn d13_31 rfl (leb rfl) (leb rfl) ⟨rfl, rfl⟩
def g_pow10_5 (k5 : KT5) (n : Nat) (v1 : Int32) (v2 : Int64) (v4 : Int32) (s : St) : Option (Int64) :=
 if v4 < v1 then
  if v4 < (18 : Int32) then
   lt (v2 * (10 : Int64)) fun x3 =>
   lt (v4 + (1 : Int32)) fun x4 =>
   k5 v1 x3 x4 s
  else
   f_pow10_30 n v2 s
 else
  f_pow10_30 n v2 s
abbrev HK13_5 (l : Launch) (Z : State) (n0 : Nat) (k5 : KT5) : Prop := ∀ (v1 : Int32) (v2 : Int64) (v4 : Int32) (s : St) (r : Int64), k5 v1 v2 v4 s = some r → W13 l Z n0 (P13 s r) 0 0 5 (vU :: vI v1 :: vJ v2 :: vS :: vI v4 :: []) [] (Hb 0 s)
theorem okg13_5 (l : Launch) (Z : State) (a0 : Array Value) (hw : HW a0 Z) (n0 : Nat) (k5 : KT5) (hk5 : HK13_5 l Z n0 k5) (n : Nat) (v1 : Int32) (v2 : Int64) (v4 : Int32) (s : St) (r : Int64) (h : g_pow10_5 k5 n v1 v2 v4 s = some r) : W13 l Z n0 (P13 s r) 0 0 5 (vU :: vI v1 :: vJ v2 :: vS :: vI v4 :: []) [] (Hb 0 s) := by
 unfold g_pow10_5 at h
 refine WP.iload d13_5 rfl ?_
 refine WP.iloadN d13_7 rfl ?_
 rcases ite_e h with ⟨hc1, h⟩ | ⟨hc1, h⟩
 ·
  refine WP.icmpN d13_8 (XT.ii_ge_f hc1) ?_
  refine WP.iload d13_11 rfl ?_
  refine WP.bipush (18 : Int32) d13_13 rfl ?_
  rcases ite_e h with ⟨hc2, h⟩ | ⟨hc2, h⟩
  ·
   refine WP.icmpN d13_15 (XT.ii_ge_f hc2) ?_
   refine WP.lloadN d13_18 rfl ?_
   refine WP.ldc2 d13_19 (hw _ m_106) ?_
   refine WP.lmul d13_22 ?_
   obtain ⟨x3, ex3, h⟩ := lt_e h
   refine WP.lstoreN (L' := (vU :: vI v1 :: vJ x3 :: vS :: vI v4 :: [])) d13_23 (leb rfl) (by subst ex3; rfl) ?_
   obtain ⟨x4, ex4, h⟩ := lt_e h
   refine WP.iinc (L' := (vU :: vI v1 :: vJ x3 :: vS :: vI x4 :: [])) (1 : Int32) d13_24 rfl rfl (by subst ex4; rfl) ?_
   refine WP.goto (pc' := 5) d13_27 (by decide) rfl ?_
   exact WP.weak (L' := (vU :: vI v1 :: vJ x3 :: vS :: vI x4 :: [])) ⟨rfl, rfl, rfl, rfl, trivial⟩ (hk5 v1 x3 x4 s _ h)
  ·
   refine WP.icmpY (pc' := 30) d13_15 (XT.ii_ge_t hc2) (by decide) rfl ?_
   exact WP.weak (L' := (vU :: vU :: vJ v2 :: vS :: vU :: [])) ⟨rfl, rfl, trivial⟩ (ok13_30 l Z a0 hw n0 n v2 s _ h)
 ·
  refine WP.icmpY (pc' := 30) d13_8 (XT.ii_ge_t hc1) (by decide) rfl ?_
  exact WP.weak (L' := (vU :: vU :: vJ v2 :: vS :: vU :: [])) ⟨rfl, rfl, trivial⟩ (ok13_30 l Z a0 hw n0 n v2 s _ h)
def f_pow10_5 : Nat → Int32 → Int64 → Int32 → St → Option (Int64)
 | 0 => fun _ _ _ _ => none
 | n + 1 => g_pow10_5 (f_pow10_5 n) n
theorem ok13_5 (l : Launch) (Z : State) (a0 : Array Value) (hw : HW a0 Z) (n0 : Nat) : ∀ (n : Nat) (v1 : Int32) (v2 : Int64) (v4 : Int32) (s : St) (r : Int64), f_pow10_5 n v1 v2 v4 s = some r → W13 l Z n0 (P13 s r) 0 0 5 (vU :: vI v1 :: vJ v2 :: vS :: vI v4 :: []) [] (Hb 0 s)
 | 0, v1, v2, v4, s, r, h => nomatch (show none = some r from h)
 | n + 1, v1, v2, v4, s, r, h => okg13_5 l Z a0 hw n0 _ (ok13_5 l Z a0 hw n0 n) n v1 v2 v4 s r h
def f_pow10 (n : Nat) (p1 : Int32) (s : St) : Option (Int64) :=
 f_pow10_5 n p1 (1 : Int64) (0 : Int32) s
theorem ok13 (l : Launch) (Z : State) (a0 : Array Value) (hw : HW a0 Z) (n : Nat) (p1 : Int32) (s : St) (r : Int64) (h : f_pow10 n p1 s = some r) : CS l Z CN lay y13 prog_1_method_24_code 5 (some FieldType.long) R13 0 [.ref 0, .int p1] (Hb 0 s) (P13 s r) := by
 refine CS.of_wp pn_cls (leb rfl) fun n0 => ?_
 show W13 l Z n0 (P13 s r) 0 0 0 (vR 0 :: vI p1 :: vU :: vU :: vU :: []) [] (Hb 0 s)
 unfold f_pow10 at h
 refine WP.lconst (1 : Int64) d13_0 rfl ?_
 refine WP.lstoreN (L' := (vR 0 :: vI p1 :: vJ (1 : Int64) :: vS :: vU :: [])) d13_1 (leb rfl) rfl ?_
 refine WP.iconst (0 : Int32) d13_2 rfl ?_
 refine WP.istore (L' := (vR 0 :: vI p1 :: vJ (1 : Int64) :: vS :: vI (0 : Int32) :: [])) d13_3 (leb rfl) rfl ?_
 exact WP.weak (L' := (vU :: vI p1 :: vJ (1 : Int64) :: vS :: vI (0 : Int32) :: [])) ⟨rfl, rfl, rfl, rfl, trivial⟩ (ok13_5 l Z a0 hw n0 n p1 (1 : Int64) (0 : Int32) s _ h)
theorem d11_0 : dc k2 0 (.aload_n 0) 1 := by decide +kernel
theorem d11_1 : dc k2 1 (.iload_n 1) 1 := by decide +kernel
theorem d11_2 : dc k2 2 (.invokevirtual 77) 3 := by decide +kernel
theorem d11_5 : dc k2 5 (.ifCond .ne 5) 3 := by decide +kernel
theorem d11_8 : dc k2 8 (.iconst 0) 1 := by decide +kernel
theorem d11_9 : dc k2 9 (.ireturn) 1 := by decide +kernel
theorem d11_10 : dc k2 10 (.iload_n 2) 1 := by decide +kernel
theorem d11_11 : dc k2 11 (.i2l) 1 := by decide +kernel
theorem d11_12 : dc k2 12 (.lstore_n 3) 1 := by decide +kernel
theorem d11_13 : dc k2 13 (.lload_n 3) 1 := by decide +kernel
theorem d11_14 : dc k2 14 (.lconst 0) 1 := by decide +kernel
theorem d11_15 : dc k2 15 (.lcmp) 1 := by decide +kernel
theorem d11_16 : dc k2 16 (.ifCond .ge 8) 3 := by decide +kernel
theorem d11_19 : dc k2 19 (.lload_n 3) 1 := by decide +kernel
theorem d11_20 : dc k2 20 (.lneg) 1 := by decide +kernel
theorem d11_21 : dc k2 21 (.goto 4) 3 := by decide +kernel
theorem d11_24 : dc k2 24 (.lload_n 3) 1 := by decide +kernel
theorem d11_25 : dc k2 25 (.lstore 5) 2 := by decide +kernel
theorem d11_27 : dc k2 27 (.aload_n 0) 1 := by decide +kernel
theorem d11_28 : dc k2 28 (.aload_n 0) 1 := by decide +kernel
theorem d11_29 : dc k2 29 (.iload_n 1) 1 := by decide +kernel
theorem d11_30 : dc k2 30 (.invokevirtual 81) 3 := by decide +kernel
theorem d11_33 : dc k2 33 (.invokevirtual 85) 3 := by decide +kernel
theorem d11_36 : dc k2 36 (.lconst 1) 1 := by decide +kernel
theorem d11_37 : dc k2 37 (.lsub) 1 := by decide +kernel
theorem d11_38 : dc k2 38 (.lstore 7) 2 := by decide +kernel
theorem d11_40 : dc k2 40 (.lload 5) 2 := by decide +kernel
theorem d11_42 : dc k2 42 (.lload 7) 2 := by decide +kernel
theorem d11_44 : dc k2 44 (.lcmp) 1 := by decide +kernel
theorem d11_45 : dc k2 45 (.ifCond .le 5) 3 := by decide +kernel
theorem d11_48 : dc k2 48 (.iconst 0) 1 := by decide +kernel
theorem d11_49 : dc k2 49 (.ireturn) 1 := by decide +kernel
theorem d11_50 : dc k2 50 (.aload_n 0) 1 := by decide +kernel
theorem d11_51 : dc k2 51 (.getfield 19) 3 := by decide +kernel
theorem d11_54 : dc k2 54 (.iload_n 1) 1 := by decide +kernel
theorem d11_55 : dc k2 55 (.baload) 1 := by decide +kernel
theorem d11_56 : dc k2 56 (.ifCond .ne 9) 3 := by decide +kernel
theorem d11_59 : dc k2 59 (.iload_n 2) 1 := by decide +kernel
theorem d11_60 : dc k2 60 (.ifCond .ge 5) 3 := by decide +kernel
theorem d11_63 : dc k2 63 (.iconst 0) 1 := by decide +kernel
theorem d11_64 : dc k2 64 (.ireturn) 1 := by decide +kernel
theorem d11_65 : dc k2 65 (.aload_n 0) 1 := by decide +kernel
theorem d11_66 : dc k2 66 (.getfield 16) 3 := by decide +kernel
theorem d11_69 : dc k2 69 (.iload_n 1) 1 := by decide +kernel
theorem d11_70 : dc k2 70 (.iload_n 2) 1 := by decide +kernel
theorem d11_71 : dc k2 71 (.iastore) 1 := by decide +kernel
theorem d11_72 : dc k2 72 (.iconst 1) 1 := by decide +kernel
theorem d11_73 : dc k2 73 (.ireturn) 1 := by decide +kernel
abbrev y11 : MethodName := ⟨"PictureCobol", "setValue", "(II)Z"⟩
theorem hy11 : y11.cls ≠ "java/lang/invoke/MethodHandle" ∧ y11.cls ≠ "java/lang/invoke/VarHandle" := by decide
theorem pd11 : parseMethodDescriptor y11.desc = some ⟨[.int, .int], some .boolean⟩ := by decide +kernel
abbrev R11 : Room := { frames := 1, cells := 0, slots := 0, locals := 16 }
abbrev P11 (r : Int32 × St) : Option Value → List OwnC → Prop := fun v H' => v = some (.int r.1) ∧ H' = (Hb 0 r.2)
abbrev W11 (l : Launch) (Z : State) (n0 : Nat) (Q : Option Value → List OwnC → Prop) (k n pc : Nat) (L : List Slot) (S : List Value) (H : List OwnC) : Prop := WP l Z CN lay "PictureCobol" "setValue" prog_1_method_3_code 9 (some FieldType.boolean) R11 n0 0 Q k n pc L S H
def f_setValue_65 (n : Nat) (v1 v2 : Int32) (s : St) : Option (Int32 × St) :=
 (wrA s 2 v1 v2).bind fun s1 =>
 some ((1 : Int32), s1)
theorem ok11_65 (l : Launch) (Z : State) (a0 : Array Value) (hw : HW a0 Z) (n0 n : Nat) (v1 v2 : Int32) (s : St) (r : Int32 × St) (h : f_setValue_65 n v1 v2 s = some r) : W11 l Z n0 (P11 r) 0 0 65 (vR 0 :: vI v1 :: vI v2 :: vU :: vU :: vU :: vU :: vU :: vU :: []) [] (Hb 0 s) := by
 unfold f_setValue_65 at h
 refine WP.aloadN d11_65 rfl ?_
 refine WP.getfield (i := 0) (j := 5) d11_66 (hw _ m_18) rfl rfl rfl ?_
 refine WP.iloadN d11_69 rfl ?_
 refine WP.iloadN d11_70 rfl ?_
 obtain ⟨s1, hs1, h⟩ := bd h
 obtain ⟨ys1, gs1, es1⟩ := wrA_e hs1
 refine WP.iastore (i := 3) (xs := gA s 2) (H' := (Hb 0 s1)) d11_71 rfl (leb rfl) gs1 (by subst es1; rfl) ?_
 refine WP.iconst (1 : Int32) d11_72 rfl ?_
 cases h
 exact WP.zreturn d11_73 rfl (leb rfl) (leb rfl) ⟨rfl, rfl⟩
def f_setValue_25 (n : Nat) (v1 v2 : Int32) (t0 : Int64) (s : St) : Option (Int32 × St) :=
 (f_digits v1 s).bind fun c1 =>
 (f_pow10 n c1 s).bind fun c2 =>
 lt (c2 - (1 : Int64)) fun x3 =>
 if x3 < t0 then
  some ((0 : Int32), s)
 else
  (rd (gA s 3) v1).bind fun x5 =>
  if x5 = 0 then
   if v2 < 0 then
    some ((0 : Int32), s)
   else
    f_setValue_65 n v1 v2 s
  else
   f_setValue_65 n v1 v2 s
theorem ok11_25 (l : Launch) (Z : State) (a0 : Array Value) (hw : HW a0 Z) (n0 n : Nat) (v1 v2 : Int32) (t0 : Int64) (s : St) (r : Int32 × St) (h : f_setValue_25 n v1 v2 t0 s = some r) : W11 l Z n0 (P11 r) 0 0 25 (vR 0 :: vI v1 :: vI v2 :: vU :: vU :: vU :: vU :: vU :: vU :: []) [.long t0] (Hb 0 s) := by
 unfold f_setValue_25 at h
 refine WP.lstore (L' := (vR 0 :: vI v1 :: vI v2 :: vU :: vU :: vJ t0 :: vS :: vU :: vU :: [])) d11_25 (leb rfl) rfl ?_
 refine WP.aloadN d11_27 rfl ?_
 refine WP.aloadN d11_28 rfl ?_
 refine WP.iloadN d11_29 rfl ?_
 obtain ⟨c1, hc1, h⟩ := bd h
 refine WP.callP (i := 0) (y := y12) (as := [.int v1]) (S := [.ref 0]) d11_30 (hw _ m_98) (hw _ m_100) (hw _ m_5) (hw _ m_99) (hw _ m_101) (hw _ m_6) hy12 rfl (ok12 l Z a0 hw v1 s _ hc1) rfl (lenOf pd12 rfl) (leb rfl) (leb rfl) (leb rfl) (leb rfl) ?_
 rintro _ _ ⟨rfl, rfl⟩
 show W11 l Z n0 (P11 r) 0 0 33 (vR 0 :: vI v1 :: vI v2 :: vU :: vU :: vJ t0 :: vS :: vU :: vU :: []) [.int c1, .ref 0] (Hb 0 s)
 obtain ⟨c2, hc2, h⟩ := bd h
 refine WP.callP (i := 0) (y := y13) (as := [.int c1]) (S := []) d11_33 (hw _ m_102) (hw _ m_104) (hw _ m_5) (hw _ m_103) (hw _ m_105) (hw _ m_6) hy13 rfl (ok13 l Z a0 hw n c1 s _ hc2) rfl (lenOf pd13 rfl) (leb rfl) (leb rfl) (leb rfl) (leb rfl) ?_
 rintro _ _ ⟨rfl, rfl⟩
 show W11 l Z n0 (P11 r) 0 0 36 (vR 0 :: vI v1 :: vI v2 :: vU :: vU :: vJ t0 :: vS :: vU :: vU :: []) [.long c2] (Hb 0 s)
 refine WP.lconst (1 : Int64) d11_36 rfl ?_
 refine WP.lsub d11_37 ?_
 obtain ⟨x3, ex3, h⟩ := lt_e h
 refine WP.lstore (L' := (vR 0 :: vI v1 :: vI v2 :: vU :: vU :: vJ t0 :: vS :: vJ x3 :: vS :: [])) d11_38 (leb rfl) (by subst ex3; rfl) ?_
 refine WP.lload d11_40 rfl ?_
 refine WP.lload d11_42 rfl ?_
 refine WP.lcmp d11_44 ?_
 rcases ite_e h with ⟨hc4, h⟩ | ⟨hc4, h⟩
 ·
  refine WP.ifN d11_45 (XT.ll_le_f hc4) ?_
  refine WP.iconst (0 : Int32) d11_48 rfl ?_
  cases h
  exact WP.zreturn d11_49 rfl (leb rfl) (leb rfl) ⟨rfl, rfl⟩
 ·
  refine WP.ifY (pc' := 50) d11_45 (XT.ll_le_t hc4) (by decide) rfl ?_
  refine WP.aloadN d11_50 rfl ?_
  refine WP.getfield (i := 0) (j := 6) d11_51 (hw _ m_21) rfl rfl rfl ?_
  refine WP.iloadN d11_54 rfl ?_
  obtain ⟨x5, hx5, h⟩ := bd h
  refine WP.baload (i := 4) d11_55 rfl hx5 ?_
  rcases ite_e h with ⟨hc6, h⟩ | ⟨hc6, h⟩
  ·
   refine WP.ifN d11_56 (XT.i0_ne_f hc6) ?_
   refine WP.iloadN d11_59 rfl ?_
   rcases ite_e h with ⟨hc7, h⟩ | ⟨hc7, h⟩
   ·
    refine WP.ifN d11_60 (XT.i0_ge_f hc7) ?_
    refine WP.iconst (0 : Int32) d11_63 rfl ?_
    cases h
    exact WP.zreturn d11_64 rfl (leb rfl) (leb rfl) ⟨rfl, rfl⟩
   ·
    refine WP.ifY (pc' := 65) d11_60 (XT.i0_ge_t hc7) (by decide) rfl ?_
    exact WP.weak (L' := (vR 0 :: vI v1 :: vI v2 :: vU :: vU :: vU :: vU :: vU :: vU :: [])) ⟨rfl, rfl, rfl, trivial⟩ (ok11_65 l Z a0 hw n0 n v1 v2 s _ h)
  ·
   refine WP.ifY (pc' := 65) d11_56 (XT.i0_ne_t hc6) (by decide) rfl ?_
   exact WP.weak (L' := (vR 0 :: vI v1 :: vI v2 :: vU :: vU :: vU :: vU :: vU :: vU :: [])) ⟨rfl, rfl, rfl, trivial⟩ (ok11_65 l Z a0 hw n0 n v1 v2 s _ h)
def f_setValue (n : Nat) (p1 p2 : Int32) (s : St) : Option (Int32 × St) :=
 (f_isField p1 s).bind fun c1 =>
 if c1 = 0 then
  some ((0 : Int32), s)
 else
  lt (p2.toInt64) fun x3 =>
  if x3 < (0 : Int64) then
   f_setValue_25 n p1 p2 (-x3) s
  else
   f_setValue_25 n p1 p2 x3 s
theorem ok11 (l : Launch) (Z : State) (a0 : Array Value) (hw : HW a0 Z) (n : Nat) (p1 p2 : Int32) (s : St) (r : Int32 × St) (h : f_setValue n p1 p2 s = some r) : CS l Z CN lay y11 prog_1_method_3_code 9 (some FieldType.boolean) R11 0 [.ref 0, .int p1, .int p2] (Hb 0 s) (P11 r) := by
 refine CS.of_wp pn_cls (leb rfl) fun n0 => ?_
 show W11 l Z n0 (P11 r) 0 0 0 (vR 0 :: vI p1 :: vI p2 :: vU :: vU :: vU :: vU :: vU :: vU :: []) [] (Hb 0 s)
 unfold f_setValue at h
 refine WP.aloadN d11_0 rfl ?_
 refine WP.iloadN d11_1 rfl ?_
 obtain ⟨c1, hc1, h⟩ := bd h
 refine WP.callP (i := 0) (y := y9) (as := [.int p1]) (S := []) d11_2 (hw _ m_85) (hw _ m_87) (hw _ m_5) (hw _ m_86) (hw _ m_88) (hw _ m_6) hy9 rfl (ok9 l Z a0 hw p1 s _ hc1) rfl (lenOf pd9 rfl) (leb rfl) (leb rfl) (leb rfl) (leb rfl) ?_
 rintro _ _ ⟨rfl, rfl⟩
 show W11 l Z n0 (P11 r) 0 0 5 (vR 0 :: vI p1 :: vI p2 :: vU :: vU :: vU :: vU :: vU :: vU :: []) [.int c1] (Hb 0 s)
 rcases ite_e h with ⟨hc2, h⟩ | ⟨hc2, h⟩
 ·
  refine WP.ifN d11_5 (XT.i0_ne_f hc2) ?_
  refine WP.iconst (0 : Int32) d11_8 rfl ?_
  cases h
  exact WP.zreturn d11_9 rfl (leb rfl) (leb rfl) ⟨rfl, rfl⟩
 ·
  refine WP.ifY (pc' := 10) d11_5 (XT.i0_ne_t hc2) (by decide) rfl ?_
  refine WP.iloadN d11_10 rfl ?_
  refine WP.i2l d11_11 ?_
  obtain ⟨x3, ex3, h⟩ := lt_e h
  refine WP.lstoreN (L' := (vR 0 :: vI p1 :: vI p2 :: vJ x3 :: vS :: vU :: vU :: vU :: vU :: [])) d11_12 (leb rfl) (by subst ex3; rfl) ?_
  refine WP.lloadN d11_13 rfl ?_
  refine WP.lconst (0 : Int64) d11_14 rfl ?_
  refine WP.lcmp d11_15 ?_
  rcases ite_e h with ⟨hc4, h⟩ | ⟨hc4, h⟩
  ·
   refine WP.ifN d11_16 (XT.ll_ge_f hc4) ?_
   refine WP.lloadN d11_19 rfl ?_
   refine WP.lneg d11_20 ?_
   refine WP.goto (pc' := 25) d11_21 (by decide) rfl ?_
   exact WP.weak (L' := (vR 0 :: vI p1 :: vI p2 :: vU :: vU :: vU :: vU :: vU :: vU :: [])) ⟨rfl, rfl, rfl, trivial⟩ (ok11_25 l Z a0 hw n0 n p1 p2 (-x3) s _ h)
  ·
   refine WP.ifY (pc' := 24) d11_16 (XT.ll_ge_t hc4) (by decide) rfl ?_
   refine WP.lloadN d11_24 rfl ?_
   exact WP.weak (L' := (vR 0 :: vI p1 :: vI p2 :: vU :: vU :: vU :: vU :: vU :: vU :: [])) ⟨rfl, rfl, rfl, trivial⟩ (ok11_25 l Z a0 hw n0 n p1 p2 x3 s _ h)
theorem d10_0 : dc method_3_code 0 (.lconst 1) 1 := by decide +kernel
theorem d10_1 : dc method_3_code 1 (.lstore_n 1) 1 := by decide +kernel
theorem d10_2 : dc method_3_code 2 (.iconst 0) 1 := by decide +kernel
theorem d10_3 : dc method_3_code 3 (.istore_n 3) 1 := by decide +kernel
theorem d10_4 : dc method_3_code 4 (.iload_n 3) 1 := by decide +kernel
theorem d10_5 : dc method_3_code 5 (.iload_n 0) 1 := by decide +kernel
theorem d10_6 : dc method_3_code 6 (.if_icmp .ge 15) 3 := by decide +kernel
theorem d10_9 : dc method_3_code 9 (.lload_n 1) 1 := by decide +kernel
theorem d10_10 : dc method_3_code 10 (.ldc2_w 7) 3 := by decide +kernel
theorem d10_13 : dc method_3_code 13 (.lmul) 1 := by decide +kernel
theorem d10_14 : dc method_3_code 14 (.lstore_n 1) 1 := by decide +kernel
theorem d10_15 : dc method_3_code 15 (.iinc 3 1) 3 := by decide +kernel
theorem d10_18 : dc method_3_code 18 (.goto (-14)) 3 := by decide +kernel
theorem d10_21 : dc method_3_code 21 (.lload_n 1) 1 := by decide +kernel
theorem d10_22 : dc method_3_code 22 (.lreturn) 1 := by decide +kernel
abbrev y10 : MethodName := ⟨"PictureCobolOwnLaw", "p10", "(I)J"⟩
theorem hy10 : y10.cls ≠ "java/lang/invoke/MethodHandle" ∧ y10.cls ≠ "java/lang/invoke/VarHandle" := by decide
theorem pd10 : parseMethodDescriptor y10.desc = some ⟨[.int], some .long⟩ := by decide +kernel
abbrev R10 : Room := { frames := 0, cells := 0, slots := 0, locals := 0 }
abbrev P10 (r : Int64) : Option Value → List OwnC → Prop := fun v H' => v = some (.long r) ∧ H' = ([] : List OwnC)
abbrev W10 (l : Launch) (Z : State) (n0 : Nat) (Q : Option Value → List OwnC → Prop) (k n pc : Nat) (L : List Slot) (S : List Value) (H : List OwnC) : Prop := WP l Z CN lay "PictureCobolOwnLaw" "p10" method_3_code 4 (some FieldType.long) R10 n0 0 Q k n pc L S H
def g_L_p10_4 (k4 : KT6) (n : Nat) (v0 : Int32) (v1 : Int64) (v3 : Int32) : Option (Int64) :=
 if v3 < v0 then
  lt (v1 * (10 : Int64)) fun x2 =>
  lt (v3 + (1 : Int32)) fun x3 =>
  k4 v0 x2 x3
 else
  some v1
abbrev HK10_4 (l : Launch) (Z : State) (n0 : Nat) (k4 : KT6) : Prop := ∀ (v0 : Int32) (v1 : Int64) (v3 : Int32) (r : Int64), k4 v0 v1 v3 = some r → W10 l Z n0 (P10 r) 0 0 4 (vI v0 :: vJ v1 :: vS :: vI v3 :: []) [] ([] : List OwnC)
theorem okg10_4 (l : Launch) (Z : State) (a0 : Array Value) (hw : HW a0 Z) (n0 : Nat) (k4 : KT6) (hk4 : HK10_4 l Z n0 k4) (n : Nat) (v0 : Int32) (v1 : Int64) (v3 : Int32) (r : Int64) (h : g_L_p10_4 k4 n v0 v1 v3 = some r) : W10 l Z n0 (P10 r) 0 0 4 (vI v0 :: vJ v1 :: vS :: vI v3 :: []) [] ([] : List OwnC) := by
 unfold g_L_p10_4 at h
 refine WP.iloadN d10_4 rfl ?_
 refine WP.iloadN d10_5 rfl ?_
 rcases ite_e h with ⟨hc1, h⟩ | ⟨hc1, h⟩
 ·
  refine WP.icmpN d10_6 (XT.ii_ge_f hc1) ?_
  refine WP.lloadN d10_9 rfl ?_
  refine WP.ldc2 d10_10 (hw _ m_92) ?_
  refine WP.lmul d10_13 ?_
  obtain ⟨x2, ex2, h⟩ := lt_e h
  refine WP.lstoreN (L' := (vI v0 :: vJ x2 :: vS :: vI v3 :: [])) d10_14 (leb rfl) (by subst ex2; rfl) ?_
  obtain ⟨x3, ex3, h⟩ := lt_e h
  refine WP.iinc (L' := (vI v0 :: vJ x2 :: vS :: vI x3 :: [])) (1 : Int32) d10_15 rfl rfl (by subst ex3; rfl) ?_
  refine WP.goto (pc' := 4) d10_18 (by decide) rfl ?_
  exact WP.weak (L' := (vI v0 :: vJ x2 :: vS :: vI x3 :: [])) ⟨rfl, rfl, rfl, rfl, trivial⟩ (hk4 v0 x2 x3 _ h)
 ·
  refine WP.icmpY (pc' := 21) d10_6 (XT.ii_ge_t hc1) (by decide) rfl ?_
  refine WP.lloadN d10_21 rfl ?_
  cases h
  exact WP.lreturn d10_22 rfl (leb rfl) (leb rfl) ⟨rfl, rfl⟩
def f_L_p10_4 : Nat → Int32 → Int64 → Int32 → Option (Int64)
 | 0 => fun _ _ _ => none
 | n + 1 => g_L_p10_4 (f_L_p10_4 n) n
theorem ok10_4 (l : Launch) (Z : State) (a0 : Array Value) (hw : HW a0 Z) (n0 : Nat) : ∀ (n : Nat) (v0 : Int32) (v1 : Int64) (v3 : Int32) (r : Int64), f_L_p10_4 n v0 v1 v3 = some r → W10 l Z n0 (P10 r) 0 0 4 (vI v0 :: vJ v1 :: vS :: vI v3 :: []) [] ([] : List OwnC)
 | 0, v0, v1, v3, r, h => nomatch (show none = some r from h)
 | n + 1, v0, v1, v3, r, h => okg10_4 l Z a0 hw n0 _ (ok10_4 l Z a0 hw n0 n) n v0 v1 v3 r h
def f_L_p10 (n : Nat) (p0 : Int32) : Option (Int64) :=
 f_L_p10_4 n p0 (1 : Int64) (0 : Int32)
theorem ok10 (l : Launch) (Z : State) (a0 : Array Value) (hw : HW a0 Z) (n : Nat) (p0 : Int32) (r : Int64) (h : f_L_p10 n p0 = some r) : CS l Z CN lay y10 method_3_code 4 (some FieldType.long) R10 0 [.int p0] ([] : List OwnC) (P10 r) := by
 refine CS.of_wp pn_law (leb rfl) fun n0 => ?_
 show W10 l Z n0 (P10 r) 0 0 0 (vI p0 :: vU :: vU :: vU :: []) [] ([] : List OwnC)
 unfold f_L_p10 at h
 refine WP.lconst (1 : Int64) d10_0 rfl ?_
 refine WP.lstoreN (L' := (vI p0 :: vJ (1 : Int64) :: vS :: vU :: [])) d10_1 (leb rfl) rfl ?_
 refine WP.iconst (0 : Int32) d10_2 rfl ?_
 refine WP.istoreN (L' := (vI p0 :: vJ (1 : Int64) :: vS :: vI (0 : Int32) :: [])) d10_3 (leb rfl) rfl ?_
 exact WP.weak (L' := (vI p0 :: vJ (1 : Int64) :: vS :: vI (0 : Int32) :: [])) ⟨rfl, rfl, rfl, rfl, trivial⟩ (ok10_4 l Z a0 hw n0 n p0 (1 : Int64) (0 : Int32) _ h)
theorem d14_0 : dc method_8_code 0 (.iload_n 0) 1 := by decide +kernel
theorem d14_1 : dc method_8_code 1 (.bipush 15) 2 := by decide +kernel
theorem d14_3 : dc method_8_code 3 (.iand) 1 := by decide +kernel
theorem d14_4 : dc method_8_code 4 (.istore_n 1) 1 := by decide +kernel
theorem d14_5 : dc method_8_code 5 (.iload_n 1) 1 := by decide +kernel
theorem d14_6 : dc method_8_code 6 (.bipush 10) 2 := by decide +kernel
theorem d14_8 : dc method_8_code 8 (.if_icmp .ge 9) 3 := by decide +kernel
theorem d14_11 : dc method_8_code 11 (.iconst 2) 1 := by decide +kernel
theorem d14_12 : dc method_8_code 12 (.iload_n 1) 1 := by decide +kernel
theorem d14_13 : dc method_8_code 13 (.iconst 3) 1 := by decide +kernel
theorem d14_14 : dc method_8_code 14 (.iand) 1 := by decide +kernel
theorem d14_15 : dc method_8_code 15 (.iadd) 1 := by decide +kernel
theorem d14_16 : dc method_8_code 16 (.ireturn) 1 := by decide +kernel
theorem d14_17 : dc method_8_code 17 (.iload_n 1) 1 := by decide +kernel
theorem d14_18 : dc method_8_code 18 (.bipush 10) 2 := by decide +kernel
theorem d14_20 : dc method_8_code 20 (.if_icmp .ne 5) 3 := by decide +kernel
theorem d14_23 : dc method_8_code 23 (.iconst 1) 1 := by decide +kernel
theorem d14_24 : dc method_8_code 24 (.ireturn) 1 := by decide +kernel
theorem d14_25 : dc method_8_code 25 (.iload_n 1) 1 := by decide +kernel
theorem d14_26 : dc method_8_code 26 (.bipush 11) 2 := by decide +kernel
theorem d14_28 : dc method_8_code 28 (.if_icmp .ne 6) 3 := by decide +kernel
theorem d14_31 : dc method_8_code 31 (.bipush 6) 2 := by decide +kernel
theorem d14_33 : dc method_8_code 33 (.ireturn) 1 := by decide +kernel
theorem d14_34 : dc method_8_code 34 (.iload_n 1) 1 := by decide +kernel
theorem d14_35 : dc method_8_code 35 (.bipush 12) 2 := by decide +kernel
theorem d14_37 : dc method_8_code 37 (.if_icmp .ne 6) 3 := by decide +kernel
theorem d14_40 : dc method_8_code 40 (.bipush 7) 2 := by decide +kernel
theorem d14_42 : dc method_8_code 42 (.ireturn) 1 := by decide +kernel
theorem d14_43 : dc method_8_code 43 (.iload_n 1) 1 := by decide +kernel
theorem d14_44 : dc method_8_code 44 (.bipush 13) 2 := by decide +kernel
theorem d14_46 : dc method_8_code 46 (.if_icmp .ne 6) 3 := by decide +kernel
theorem d14_49 : dc method_8_code 49 (.bipush 8) 2 := by decide +kernel
theorem d14_51 : dc method_8_code 51 (.ireturn) 1 := by decide +kernel
theorem d14_52 : dc method_8_code 52 (.bipush 9) 2 := by decide +kernel
theorem d14_54 : dc method_8_code 54 (.ireturn) 1 := by decide +kernel
abbrev y14 : MethodName := ⟨"PictureCobolOwnLaw", "kindOf", "(I)I"⟩
theorem hy14 : y14.cls ≠ "java/lang/invoke/MethodHandle" ∧ y14.cls ≠ "java/lang/invoke/VarHandle" := by decide
theorem pd14 : parseMethodDescriptor y14.desc = some ⟨[.int], some .int⟩ := by decide +kernel
abbrev R14 : Room := { frames := 0, cells := 0, slots := 0, locals := 0 }
abbrev P14 (r : Int32) : Option Value → List OwnC → Prop := fun v H' => v = some (.int r) ∧ H' = ([] : List OwnC)
abbrev W14 (l : Launch) (Z : State) (n0 : Nat) (Q : Option Value → List OwnC → Prop) (k n pc : Nat) (L : List Slot) (S : List Value) (H : List OwnC) : Prop := WP l Z CN lay "PictureCobolOwnLaw" "kindOf" method_8_code 2 (some FieldType.int) R14 n0 0 Q k n pc L S H
def f_L_kindOf (p0 : Int32) : Option (Int32) :=
 lt (p0 &&& (15 : Int32)) fun x1 =>
 if x1 < (10 : Int32) then
  some ((2 : Int32) + (x1 &&& (3 : Int32)))
 else
  if x1 = (10 : Int32) then
   some (1 : Int32)
  else
   if x1 = (11 : Int32) then
    some (6 : Int32)
   else
    if x1 = (12 : Int32) then
     some (7 : Int32)
    else
     if x1 = (13 : Int32) then
      some (8 : Int32)
     else
      some (9 : Int32)
theorem ok14 (l : Launch) (Z : State) (a0 : Array Value) (hw : HW a0 Z) (p0 r : Int32) (h : f_L_kindOf p0 = some r) : CS l Z CN lay y14 method_8_code 2 (some FieldType.int) R14 0 [.int p0] ([] : List OwnC) (P14 r) := by
 refine CS.of_wp pn_law (leb rfl) fun n0 => ?_
 show W14 l Z n0 (P14 r) 0 0 0 (vI p0 :: vU :: []) [] ([] : List OwnC)
 unfold f_L_kindOf at h
 refine WP.iloadN d14_0 rfl ?_
 refine WP.bipush (15 : Int32) d14_1 rfl ?_
 refine WP.iand d14_3 ?_
 obtain ⟨x1, ex1, h⟩ := lt_e h
 refine WP.istoreN (L' := (vI p0 :: vI x1 :: [])) d14_4 (leb rfl) (by subst ex1; rfl) ?_
 refine WP.iloadN d14_5 rfl ?_
 refine WP.bipush (10 : Int32) d14_6 rfl ?_
 rcases ite_e h with ⟨hc2, h⟩ | ⟨hc2, h⟩
 ·
  refine WP.icmpN d14_8 (XT.ii_ge_f hc2) ?_
  refine WP.iconst (2 : Int32) d14_11 rfl ?_
  refine WP.iloadN d14_12 rfl ?_
  refine WP.iconst (3 : Int32) d14_13 rfl ?_
  refine WP.iand d14_14 ?_
  refine WP.iadd d14_15 ?_
  cases h
  exact WP.ireturn d14_16 rfl (leb rfl) (leb rfl) ⟨rfl, rfl⟩
 ·
  refine WP.icmpY (pc' := 17) d14_8 (XT.ii_ge_t hc2) (by decide) rfl ?_
  refine WP.iloadN d14_17 rfl ?_
  refine WP.bipush (10 : Int32) d14_18 rfl ?_
  rcases ite_e h with ⟨hc3, h⟩ | ⟨hc3, h⟩
  ·
   refine WP.icmpN d14_20 (XT.ii_ne_f hc3) ?_
   refine WP.iconst (1 : Int32) d14_23 rfl ?_
   cases h
   exact WP.ireturn d14_24 rfl (leb rfl) (leb rfl) ⟨rfl, rfl⟩
  ·
   refine WP.icmpY (pc' := 25) d14_20 (XT.ii_ne_t hc3) (by decide) rfl ?_
   refine WP.iloadN d14_25 rfl ?_
   refine WP.bipush (11 : Int32) d14_26 rfl ?_
   rcases ite_e h with ⟨hc4, h⟩ | ⟨hc4, h⟩
   ·
    refine WP.icmpN d14_28 (XT.ii_ne_f hc4) ?_
    refine WP.bipush (6 : Int32) d14_31 rfl ?_
    cases h
    exact WP.ireturn d14_33 rfl (leb rfl) (leb rfl) ⟨rfl, rfl⟩
   ·
    refine WP.icmpY (pc' := 34) d14_28 (XT.ii_ne_t hc4) (by decide) rfl ?_
    refine WP.iloadN d14_34 rfl ?_
    refine WP.bipush (12 : Int32) d14_35 rfl ?_
    rcases ite_e h with ⟨hc5, h⟩ | ⟨hc5, h⟩
    ·
     refine WP.icmpN d14_37 (XT.ii_ne_f hc5) ?_
     refine WP.bipush (7 : Int32) d14_40 rfl ?_
     cases h
     exact WP.ireturn d14_42 rfl (leb rfl) (leb rfl) ⟨rfl, rfl⟩
    ·
     refine WP.icmpY (pc' := 43) d14_37 (XT.ii_ne_t hc5) (by decide) rfl ?_
     refine WP.iloadN d14_43 rfl ?_
     refine WP.bipush (13 : Int32) d14_44 rfl ?_
     rcases ite_e h with ⟨hc6, h⟩ | ⟨hc6, h⟩
     ·
      refine WP.icmpN d14_46 (XT.ii_ne_f hc6) ?_
      refine WP.bipush (8 : Int32) d14_49 rfl ?_
      cases h
      exact WP.ireturn d14_51 rfl (leb rfl) (leb rfl) ⟨rfl, rfl⟩
     ·
      refine WP.icmpY (pc' := 52) d14_46 (XT.ii_ne_t hc6) (by decide) rfl ?_
      refine WP.bipush (9 : Int32) d14_52 rfl ?_
      cases h
      exact WP.ireturn d14_54 rfl (leb rfl) (leb rfl) ⟨rfl, rfl⟩
theorem d15_0 : dc method_7_code 0 (.iload_n 0) 1 := by decide +kernel
theorem d15_1 : dc method_7_code 1 (.ldc 17) 2 := by decide +kernel
theorem d15_3 : dc method_7_code 3 (.iand) 1 := by decide +kernel
theorem d15_4 : dc method_7_code 4 (.iload_n 1) 1 := by decide +kernel
theorem d15_5 : dc method_7_code 5 (.irem) 1 := by decide +kernel
theorem d15_6 : dc method_7_code 6 (.ireturn) 1 := by decide +kernel
abbrev y15 : MethodName := ⟨"PictureCobolOwnLaw", "ix", "(II)I"⟩
theorem hy15 : y15.cls ≠ "java/lang/invoke/MethodHandle" ∧ y15.cls ≠ "java/lang/invoke/VarHandle" := by decide
theorem pd15 : parseMethodDescriptor y15.desc = some ⟨[.int, .int], some .int⟩ := by decide +kernel
abbrev R15 : Room := { frames := 0, cells := 0, slots := 0, locals := 0 }
abbrev P15 (r : Int32) : Option Value → List OwnC → Prop := fun v H' => v = some (.int r) ∧ H' = ([] : List OwnC)
abbrev W15 (l : Launch) (Z : State) (n0 : Nat) (Q : Option Value → List OwnC → Prop) (k n pc : Nat) (L : List Slot) (S : List Value) (H : List OwnC) : Prop := WP l Z CN lay "PictureCobolOwnLaw" "ix" method_7_code 2 (some FieldType.int) R15 n0 0 Q k n pc L S H
def f_L_ix (p0 p1 : Int32) : Option (Int32) :=
 if p1 = 0 then none else
 some ((p0 &&& (2147483647 : Int32)) % p1)
theorem ok15 (l : Launch) (Z : State) (a0 : Array Value) (hw : HW a0 Z) (p0 p1 r : Int32) (h : f_L_ix p0 p1 = some r) : CS l Z CN lay y15 method_7_code 2 (some FieldType.int) R15 0 [.int p0, .int p1] ([] : List OwnC) (P15 r) := by
 refine CS.of_wp pn_law (leb rfl) fun n0 => ?_
 show W15 l Z n0 (P15 r) 0 0 0 (vI p0 :: vI p1 :: []) [] ([] : List OwnC)
 unfold f_L_ix at h
 refine WP.iloadN d15_0 rfl ?_
 refine WP.ldc d15_1 (hw _ m_113) ?_
 refine WP.iand d15_3 ?_
 refine WP.iloadN d15_4 rfl ?_
 obtain ⟨hz1, h⟩ := nz_e h
 refine WP.irem d15_5 hz1 ?_
 cases h
 exact WP.ireturn d15_6 rfl (leb rfl) (leb rfl) ⟨rfl, rfl⟩
theorem d20_0 : dc k16 0 (.iload_n 1) 1 := by decide +kernel
theorem d20_1 : dc k16 1 (.iconst 2) 1 := by decide +kernel
theorem d20_2 : dc k16 2 (.if_icmp .lt 12) 3 := by decide +kernel
theorem d20_5 : dc k16 5 (.iload_n 1) 1 := by decide +kernel
theorem d20_6 : dc k16 6 (.iconst 5) 1 := by decide +kernel
theorem d20_7 : dc k16 7 (.if_icmp .gt 7) 3 := by decide +kernel
theorem d20_10 : dc k16 10 (.iconst 1) 1 := by decide +kernel
theorem d20_11 : dc k16 11 (.goto 4) 3 := by decide +kernel
theorem d20_14 : dc k16 14 (.iconst 0) 1 := by decide +kernel
theorem d20_15 : dc k16 15 (.ireturn) 1 := by decide +kernel
abbrev y20 : MethodName := ⟨"PictureCobol", "isArith", "(I)Z"⟩
theorem hy20 : y20.cls ≠ "java/lang/invoke/MethodHandle" ∧ y20.cls ≠ "java/lang/invoke/VarHandle" := by decide
theorem pd20 : parseMethodDescriptor y20.desc = some ⟨[.int], some .boolean⟩ := by decide +kernel
abbrev R20 : Room := { frames := 0, cells := 0, slots := 0, locals := 0 }
abbrev P20 (s : St) (r : Int32) : Option Value → List OwnC → Prop := fun v H' => v = some (.int r) ∧ H' = (Hb 0 s)
abbrev W20 (l : Launch) (Z : State) (n0 : Nat) (Q : Option Value → List OwnC → Prop) (k n pc : Nat) (L : List Slot) (S : List Value) (H : List OwnC) : Prop := WP l Z CN lay "PictureCobol" "isArith" prog_1_method_19_code 2 (some FieldType.boolean) R20 n0 0 Q k n pc L S H
def f_isArith_15 (t0 : Int32) (s : St) : Option (Int32) :=
 some (t0 &&& 1)
theorem ok20_15 (l : Launch) (Z : State) (a0 : Array Value) (hw : HW a0 Z) (n0 : Nat) (t0 : Int32) (s : St) (r : Int32) (h : f_isArith_15 t0 s = some r) : W20 l Z n0 (P20 s r) 0 0 15 (vU :: vU :: []) [.int t0] (Hb 0 s) := by
 unfold f_isArith_15 at h
 cases h
 exact WP.zreturn d20_15 rfl (leb rfl) (leb rfl) ⟨rfl, rfl⟩
def f_isArith_14 (s : St) : Option (Int32) :=
 f_isArith_15 (0 : Int32) s
theorem ok20_14 (l : Launch) (Z : State) (a0 : Array Value) (hw : HW a0 Z) (n0 : Nat) (s : St) (r : Int32) (h : f_isArith_14 s = some r) : W20 l Z n0 (P20 s r) 0 0 14 (vU :: vU :: []) [] (Hb 0 s) := by
 unfold f_isArith_14 at h
 refine WP.iconst (0 : Int32) d20_14 rfl ?_
 exact WP.weak (L' := (vU :: vU :: [])) trivial (ok20_15 l Z a0 hw n0 (0 : Int32) s _ h)
def f_isArith (p1 : Int32) (s : St) : Option (Int32) :=
 if p1 < (2 : Int32) then
  f_isArith_14 s
 else
  if (5 : Int32) < p1 then
   f_isArith_14 s
  else
   f_isArith_15 (1 : Int32) s
theorem ok20 (l : Launch) (Z : State) (a0 : Array Value) (hw : HW a0 Z) (p1 : Int32) (s : St) (r : Int32) (h : f_isArith p1 s = some r) : CS l Z CN lay y20 prog_1_method_19_code 2 (some FieldType.boolean) R20 0 [.ref 0, .int p1] (Hb 0 s) (P20 s r) := by
 refine CS.of_wp pn_cls (leb rfl) fun n0 => ?_
 show W20 l Z n0 (P20 s r) 0 0 0 (vR 0 :: vI p1 :: []) [] (Hb 0 s)
 unfold f_isArith at h
 refine WP.iloadN d20_0 rfl ?_
 refine WP.iconst (2 : Int32) d20_1 rfl ?_
 rcases ite_e h with ⟨hc1, h⟩ | ⟨hc1, h⟩
 ·
  refine WP.icmpY (pc' := 14) d20_2 (XT.ii_lt_t hc1) (by decide) rfl ?_
  exact WP.weak (L' := (vU :: vU :: [])) trivial (ok20_14 l Z a0 hw n0 s _ h)
 ·
  refine WP.icmpN d20_2 (XT.ii_lt_f hc1) ?_
  refine WP.iloadN d20_5 rfl ?_
  refine WP.iconst (5 : Int32) d20_6 rfl ?_
  rcases ite_e h with ⟨hc2, h⟩ | ⟨hc2, h⟩
  ·
   refine WP.icmpY (pc' := 14) d20_7 (XT.ii_gt_t hc2) (by decide) rfl ?_
   exact WP.weak (L' := (vU :: vU :: [])) trivial (ok20_14 l Z a0 hw n0 s _ h)
  ·
   refine WP.icmpN d20_7 (XT.ii_gt_f hc2) ?_
   refine WP.iconst (1 : Int32) d20_10 rfl ?_
   refine WP.goto (pc' := 15) d20_11 (by decide) rfl ?_
   exact WP.weak (L' := (vU :: vU :: [])) trivial (ok20_15 l Z a0 hw n0 (1 : Int32) s _ h)
theorem d22_0 : dc k4 0 (.aload_n 0) 1 := by decide +kernel
theorem d22_1 : dc k4 1 (.getfield 61) 3 := by decide +kernel
theorem d22_4 : dc k4 4 (.ifCond .ne 19) 3 := by decide +kernel
theorem d22_7 : dc k4 7 (.aload_n 0) 1 := by decide +kernel
theorem d22_8 : dc k4 8 (.getfield 58) 3 := by decide +kernel
theorem d22_11 : dc k4 11 (.ifCond .le 12) 3 := by decide +kernel
theorem d22_14 : dc k4 14 (.aload_n 0) 1 := by decide +kernel
theorem d22_15 : dc k4 15 (.getfield 58) 3 := by decide +kernel
theorem d22_18 : dc k4 18 (.bipush 32) 2 := by decide +kernel
theorem d22_20 : dc k4 20 (.if_icmp .le 5) 3 := by decide +kernel
theorem d22_23 : dc k4 23 (.iconst 0) 1 := by decide +kernel
theorem d22_24 : dc k4 24 (.ireturn) 1 := by decide +kernel
theorem d22_25 : dc k4 25 (.aload_n 0) 1 := by decide +kernel
theorem d22_26 : dc k4 26 (.getfield 58) 3 := by decide +kernel
theorem d22_29 : dc k4 29 (.iconst 1) 1 := by decide +kernel
theorem d22_30 : dc k4 30 (.isub) 1 := by decide +kernel
theorem d22_31 : dc k4 31 (.istore_n 2) 1 := by decide +kernel
theorem d22_32 : dc k4 32 (.aload_n 0) 1 := by decide +kernel
theorem d22_33 : dc k4 33 (.aload_n 0) 1 := by decide +kernel
theorem d22_34 : dc k4 34 (.getfield 23) 3 := by decide +kernel
theorem d22_37 : dc k4 37 (.iload_n 2) 1 := by decide +kernel
theorem d22_38 : dc k4 38 (.iaload) 1 := by decide +kernel
theorem d22_39 : dc k4 39 (.invokevirtual 96) 3 := by decide +kernel
theorem d22_42 : dc k4 42 (.ifCond .ne 5) 3 := by decide +kernel
theorem d22_45 : dc k4 45 (.iconst 0) 1 := by decide +kernel
theorem d22_46 : dc k4 46 (.ireturn) 1 := by decide +kernel
theorem d22_47 : dc k4 47 (.aload_n 0) 1 := by decide +kernel
theorem d22_48 : dc k4 48 (.getfield 38) 3 := by decide +kernel
theorem d22_51 : dc k4 51 (.iload_n 2) 1 := by decide +kernel
theorem d22_52 : dc k4 52 (.iconst 1) 1 := by decide +kernel
theorem d22_53 : dc k4 53 (.bastore) 1 := by decide +kernel
theorem d22_54 : dc k4 54 (.aload_n 0) 1 := by decide +kernel
theorem d22_55 : dc k4 55 (.getfield 41) 3 := by decide +kernel
theorem d22_58 : dc k4 58 (.iload_n 2) 1 := by decide +kernel
theorem d22_59 : dc k4 59 (.iload_n 1) 1 := by decide +kernel
theorem d22_60 : dc k4 60 (.iastore) 1 := by decide +kernel
theorem d22_61 : dc k4 61 (.iconst 1) 1 := by decide +kernel
theorem d22_62 : dc k4 62 (.ireturn) 1 := by decide +kernel
abbrev y22 : MethodName := ⟨"PictureCobol", "onSizeError", "(I)Z"⟩
theorem hy22 : y22.cls ≠ "java/lang/invoke/MethodHandle" ∧ y22.cls ≠ "java/lang/invoke/VarHandle" := by decide
theorem pd22 : parseMethodDescriptor y22.desc = some ⟨[.int], some .boolean⟩ := by decide +kernel
abbrev R22 : Room := { frames := 1, cells := 0, slots := 0, locals := 13 }
abbrev P22 (r : Int32 × St) : Option Value → List OwnC → Prop := fun v H' => v = some (.int r.1) ∧ H' = (Hb 0 r.2)
abbrev W22 (l : Launch) (Z : State) (n0 : Nat) (Q : Option Value → List OwnC → Prop) (k n pc : Nat) (L : List Slot) (S : List Value) (H : List OwnC) : Prop := WP l Z CN lay "PictureCobol" "onSizeError" prog_1_method_5_code 3 (some FieldType.boolean) R22 n0 0 Q k n pc L S H
def f_onSizeError_23 (s : St) : Option (Int32 × St) :=
 some ((0 : Int32), s)
theorem ok22_23 (l : Launch) (Z : State) (a0 : Array Value) (hw : HW a0 Z) (n0 : Nat) (s : St) (r : Int32 × St) (h : f_onSizeError_23 s = some r) : W22 l Z n0 (P22 r) 0 0 23 (vU :: vU :: vU :: []) [] (Hb 0 s) := by
 unfold f_onSizeError_23 at h
 refine WP.iconst (0 : Int32) d22_23 rfl ?_
 cases h
 exact WP.zreturn d22_24 rfl (leb rfl) (leb rfl) ⟨rfl, rfl⟩
def f_onSizeError (p1 : Int32) (s : St) : Option (Int32 × St) :=
 if (gI s 4) = 0 then
  if 0 < (gI s 3) then
   if (32 : Int32) < (gI s 3) then
    f_onSizeError_23 s
   else
    lt ((gI s 3) - (1 : Int32)) fun x4 =>
    (rd (gA s 4) x4).bind fun x5 =>
    (f_isArith x5 s).bind fun c6 =>
    if c6 = 0 then
     some ((0 : Int32), s)
    else
     (wrA s 9 x4 (1 : Int32)).bind fun s8 =>
     (wrA s8 10 x4 p1).bind fun s9 =>
     some ((1 : Int32), s9)
  else
   f_onSizeError_23 s
 else
  f_onSizeError_23 s
theorem ok22 (l : Launch) (Z : State) (a0 : Array Value) (hw : HW a0 Z) (p1 : Int32) (s : St) (r : Int32 × St) (h : f_onSizeError p1 s = some r) : CS l Z CN lay y22 prog_1_method_5_code 3 (some FieldType.boolean) R22 0 [.ref 0, .int p1] (Hb 0 s) (P22 r) := by
 refine CS.of_wp pn_cls (leb rfl) fun n0 => ?_
 show W22 l Z n0 (P22 r) 0 0 0 (vR 0 :: vI p1 :: vU :: []) [] (Hb 0 s)
 unfold f_onSizeError at h
 refine WP.aloadN d22_0 rfl ?_
 refine WP.getfield (i := 0) (j := 15) d22_1 (hw _ m_49) rfl rfl rfl ?_
 rcases ite_e h with ⟨hc1, h⟩ | ⟨hc1, h⟩
 ·
  refine WP.ifN d22_4 (XT.i0_ne_f hc1) ?_
  refine WP.aloadN d22_7 rfl ?_
  refine WP.getfield (i := 0) (j := 7) d22_8 (hw _ m_47) rfl rfl rfl ?_
  rcases ite_e h with ⟨hc2, h⟩ | ⟨hc2, h⟩
  ·
   refine WP.ifN d22_11 (XT.i0_le_f hc2) ?_
   refine WP.aloadN d22_14 rfl ?_
   refine WP.getfield (i := 0) (j := 7) d22_15 (hw _ m_47) rfl rfl rfl ?_
   refine WP.bipush (32 : Int32) d22_18 rfl ?_
   rcases ite_e h with ⟨hc3, h⟩ | ⟨hc3, h⟩
   ·
    refine WP.icmpN d22_20 (XT.ii_le_f hc3) ?_
    exact WP.weak (L' := (vU :: vU :: vU :: [])) trivial (ok22_23 l Z a0 hw n0 s _ h)
   ·
    refine WP.icmpY (pc' := 25) d22_20 (XT.ii_le_t hc3) (by decide) rfl ?_
    refine WP.aloadN d22_25 rfl ?_
    refine WP.getfield (i := 0) (j := 7) d22_26 (hw _ m_47) rfl rfl rfl ?_
    refine WP.iconst (1 : Int32) d22_29 rfl ?_
    refine WP.isub d22_30 ?_
    obtain ⟨x4, ex4, h⟩ := lt_e h
    refine WP.istoreN (L' := (vR 0 :: vI p1 :: vI x4 :: [])) d22_31 (leb rfl) (by subst ex4; rfl) ?_
    refine WP.aloadN d22_32 rfl ?_
    refine WP.aloadN d22_33 rfl ?_
    refine WP.getfield (i := 0) (j := 8) d22_34 (hw _ m_23) rfl rfl rfl ?_
    refine WP.iloadN d22_37 rfl ?_
    obtain ⟨x5, hx5, h⟩ := bd h
    refine WP.iaload (i := 5) d22_38 rfl hx5 ?_
    obtain ⟨c6, hc6, h⟩ := bd h
    refine WP.callP (i := 0) (y := y20) (as := [.int x5]) (S := []) d22_39 (hw _ m_130) (hw _ m_132) (hw _ m_5) (hw _ m_131) (hw _ m_133) (hw _ m_6) hy20 rfl (ok20 l Z a0 hw x5 s _ hc6) rfl (lenOf pd20 rfl) (leb rfl) (leb rfl) (leb rfl) (leb rfl) ?_
    rintro _ _ ⟨rfl, rfl⟩
    show W22 l Z n0 (P22 r) 0 0 42 (vR 0 :: vI p1 :: vI x4 :: []) [.int c6] (Hb 0 s)
    rcases ite_e h with ⟨hc7, h⟩ | ⟨hc7, h⟩
    ·
     refine WP.ifN d22_42 (XT.i0_ne_f hc7) ?_
     refine WP.iconst (0 : Int32) d22_45 rfl ?_
     cases h
     exact WP.zreturn d22_46 rfl (leb rfl) (leb rfl) ⟨rfl, rfl⟩
    ·
     refine WP.ifY (pc' := 47) d22_42 (XT.i0_ne_t hc7) (by decide) rfl ?_
     refine WP.aloadN d22_47 rfl ?_
     refine WP.getfield (i := 0) (j := 13) d22_48 (hw _ m_33) rfl rfl rfl ?_
     refine WP.iloadN d22_51 rfl ?_
     refine WP.iconst (1 : Int32) d22_52 rfl ?_
     obtain ⟨s8, hs8, h⟩ := bd h
     obtain ⟨ys8, gs8, es8⟩ := wrA_e hs8
     refine WP.bastore (i := 10) (xs := gA s 9) (H' := (Hb 0 s8)) d22_53 rfl (leb rfl) gs8 (by subst es8; rfl) ?_
     refine WP.aloadN d22_54 rfl ?_
     refine WP.getfield (i := 0) (j := 14) d22_55 (hw _ m_35) rfl rfl rfl ?_
     refine WP.iloadN d22_58 rfl ?_
     refine WP.iloadN d22_59 rfl ?_
     obtain ⟨s9, hs9, h⟩ := bd h
     obtain ⟨ys9, gs9, es9⟩ := wrA_e hs9
     refine WP.iastore (i := 11) (xs := gA s8 10) (H' := (Hb 0 s9)) d22_60 rfl (leb rfl) gs9 (by subst es9; rfl) ?_
     refine WP.iconst (1 : Int32) d22_61 rfl ?_
     cases h
     exact WP.zreturn d22_62 rfl (leb rfl) (leb rfl) ⟨rfl, rfl⟩
  ·
   refine WP.ifY (pc' := 23) d22_11 (XT.i0_le_t hc2) (by decide) rfl ?_
   exact WP.weak (L' := (vU :: vU :: vU :: [])) trivial (ok22_23 l Z a0 hw n0 s _ h)
 ·
  refine WP.ifY (pc' := 23) d22_4 (XT.i0_ne_t hc1) (by decide) rfl ?_
  exact WP.weak (L' := (vU :: vU :: vU :: [])) trivial (ok22_23 l Z a0 hw n0 s _ h)
theorem d16_0 : dc method_9_code 0 (.iload_n 0) 1 := by decide +kernel
theorem d16_1 : dc method_9_code 1 (.iconst 4) 1 := by decide +kernel
theorem d16_2 : dc method_9_code 2 (.iushr) 1 := by decide +kernel
theorem d16_3 : dc method_9_code 3 (.iconst 1) 1 := by decide +kernel
theorem d16_4 : dc method_9_code 4 (.iand) 1 := by decide +kernel
theorem d16_5 : dc method_9_code 5 (.iconst 1) 1 := by decide +kernel
theorem d16_6 : dc method_9_code 6 (.if_icmp .ne 7) 3 := by decide +kernel
theorem d16_9 : dc method_9_code 9 (.iconst 1) 1 := by decide +kernel
theorem d16_10 : dc method_9_code 10 (.goto 4) 3 := by decide +kernel
theorem d16_13 : dc method_9_code 13 (.iconst 0) 1 := by decide +kernel
theorem d16_14 : dc method_9_code 14 (.ireturn) 1 := by decide +kernel
abbrev y16 : MethodName := ⟨"PictureCobolOwnLaw", "roundedOf", "(I)Z"⟩
theorem hy16 : y16.cls ≠ "java/lang/invoke/MethodHandle" ∧ y16.cls ≠ "java/lang/invoke/VarHandle" := by decide
theorem pd16 : parseMethodDescriptor y16.desc = some ⟨[.int], some .boolean⟩ := by decide +kernel
abbrev R16 : Room := { frames := 0, cells := 0, slots := 0, locals := 0 }
abbrev P16 (r : Int32) : Option Value → List OwnC → Prop := fun v H' => v = some (.int r) ∧ H' = ([] : List OwnC)
abbrev W16 (l : Launch) (Z : State) (n0 : Nat) (Q : Option Value → List OwnC → Prop) (k n pc : Nat) (L : List Slot) (S : List Value) (H : List OwnC) : Prop := WP l Z CN lay "PictureCobolOwnLaw" "roundedOf" method_9_code 1 (some FieldType.boolean) R16 n0 0 Q k n pc L S H
def f_L_roundedOf_14 (t0 : Int32) : Option (Int32) :=
 some (t0 &&& 1)
theorem ok16_14 (l : Launch) (Z : State) (a0 : Array Value) (hw : HW a0 Z) (n0 : Nat) (t0 r : Int32) (h : f_L_roundedOf_14 t0 = some r) : W16 l Z n0 (P16 r) 0 0 14 (vU :: []) [.int t0] ([] : List OwnC) := by
 unfold f_L_roundedOf_14 at h
 cases h
 exact WP.zreturn d16_14 rfl (leb rfl) (leb rfl) ⟨rfl, rfl⟩
def f_L_roundedOf (p0 : Int32) : Option (Int32) :=
 if ((XT.ushr p0 (4 : Int32)) &&& (1 : Int32)) = (1 : Int32) then
  f_L_roundedOf_14 (1 : Int32)
 else
  f_L_roundedOf_14 (0 : Int32)
theorem ok16 (l : Launch) (Z : State) (a0 : Array Value) (hw : HW a0 Z) (p0 r : Int32) (h : f_L_roundedOf p0 = some r) : CS l Z CN lay y16 method_9_code 1 (some FieldType.boolean) R16 0 [.int p0] ([] : List OwnC) (P16 r) := by
 refine CS.of_wp pn_law (leb rfl) fun n0 => ?_
 show W16 l Z n0 (P16 r) 0 0 0 (vI p0 :: []) [] ([] : List OwnC)
 unfold f_L_roundedOf at h
 refine WP.iloadN d16_0 rfl ?_
 refine WP.iconst (4 : Int32) d16_1 rfl ?_
 refine WP.iushr d16_2 ?_
 refine WP.iconst (1 : Int32) d16_3 rfl ?_
 refine WP.iand d16_4 ?_
 refine WP.iconst (1 : Int32) d16_5 rfl ?_
 rcases ite_e h with ⟨hc1, h⟩ | ⟨hc1, h⟩
 ·
  refine WP.icmpN d16_6 (XT.ii_ne_f hc1) ?_
  refine WP.iconst (1 : Int32) d16_9 rfl ?_
  refine WP.goto (pc' := 14) d16_10 (by decide) rfl ?_
  exact WP.weak (L' := (vU :: [])) trivial (ok16_14 l Z a0 hw n0 (1 : Int32) _ h)
 ·
  refine WP.icmpY (pc' := 13) d16_6 (XT.ii_ne_t hc1) (by decide) rfl ?_
  refine WP.iconst (0 : Int32) d16_13 rfl ?_
  exact WP.weak (L' := (vU :: [])) trivial (ok16_14 l Z a0 hw n0 (0 : Int32) _ h)
theorem d18_0 : dc k17 0 (.iload_n 1) 1 := by decide +kernel
theorem d18_1 : dc k17 1 (.iconst 1) 1 := by decide +kernel
theorem d18_2 : dc k17 2 (.if_icmp .lt 11) 3 := by decide +kernel
theorem d18_5 : dc k17 5 (.iload_n 1) 1 := by decide +kernel
theorem d18_6 : dc k17 6 (.bipush 9) 2 := by decide +kernel
theorem d18_8 : dc k17 8 (.if_icmp .gt 5) 3 := by decide +kernel
theorem d18_11 : dc k17 11 (.iconst 1) 1 := by decide +kernel
theorem d18_12 : dc k17 12 (.ireturn) 1 := by decide +kernel
theorem d18_13 : dc k17 13 (.iload_n 1) 1 := by decide +kernel
theorem d18_14 : dc k17 14 (.bipush 18) 2 := by decide +kernel
theorem d18_16 : dc k17 16 (.if_icmp .lt 13) 3 := by decide +kernel
theorem d18_19 : dc k17 19 (.iload_n 1) 1 := by decide +kernel
theorem d18_20 : dc k17 20 (.bipush 21) 2 := by decide +kernel
theorem d18_22 : dc k17 22 (.if_icmp .gt 7) 3 := by decide +kernel
theorem d18_25 : dc k17 25 (.iconst 1) 1 := by decide +kernel
theorem d18_26 : dc k17 26 (.goto 4) 3 := by decide +kernel
theorem d18_29 : dc k17 29 (.iconst 0) 1 := by decide +kernel
theorem d18_30 : dc k17 30 (.ireturn) 1 := by decide +kernel
abbrev y18 : MethodName := ⟨"PictureCobol", "validKind", "(I)Z"⟩
theorem hy18 : y18.cls ≠ "java/lang/invoke/MethodHandle" ∧ y18.cls ≠ "java/lang/invoke/VarHandle" := by decide
theorem pd18 : parseMethodDescriptor y18.desc = some ⟨[.int], some .boolean⟩ := by decide +kernel
abbrev R18 : Room := { frames := 0, cells := 0, slots := 0, locals := 0 }
abbrev P18 (s : St) (r : Int32) : Option Value → List OwnC → Prop := fun v H' => v = some (.int r) ∧ H' = (Hb 0 s)
abbrev W18 (l : Launch) (Z : State) (n0 : Nat) (Q : Option Value → List OwnC → Prop) (k n pc : Nat) (L : List Slot) (S : List Value) (H : List OwnC) : Prop := WP l Z CN lay "PictureCobol" "validKind" prog_1_method_20_code 2 (some FieldType.boolean) R18 n0 0 Q k n pc L S H
def f_validKind_30 (t0 : Int32) (s : St) : Option (Int32) :=
 some (t0 &&& 1)
theorem ok18_30 (l : Launch) (Z : State) (a0 : Array Value) (hw : HW a0 Z) (n0 : Nat) (t0 : Int32) (s : St) (r : Int32) (h : f_validKind_30 t0 s = some r) : W18 l Z n0 (P18 s r) 0 0 30 (vU :: vU :: []) [.int t0] (Hb 0 s) := by
 unfold f_validKind_30 at h
 cases h
 exact WP.zreturn d18_30 rfl (leb rfl) (leb rfl) ⟨rfl, rfl⟩
def f_validKind_29 (s : St) : Option (Int32) :=
 f_validKind_30 (0 : Int32) s
theorem ok18_29 (l : Launch) (Z : State) (a0 : Array Value) (hw : HW a0 Z) (n0 : Nat) (s : St) (r : Int32) (h : f_validKind_29 s = some r) : W18 l Z n0 (P18 s r) 0 0 29 (vU :: vU :: []) [] (Hb 0 s) := by
 unfold f_validKind_29 at h
 refine WP.iconst (0 : Int32) d18_29 rfl ?_
 exact WP.weak (L' := (vU :: vU :: [])) trivial (ok18_30 l Z a0 hw n0 (0 : Int32) s _ h)
def f_validKind_13 (v1 : Int32) (s : St) : Option (Int32) :=
 if v1 < (18 : Int32) then
  f_validKind_29 s
 else
  if (21 : Int32) < v1 then
   f_validKind_29 s
  else
   f_validKind_30 (1 : Int32) s
theorem ok18_13 (l : Launch) (Z : State) (a0 : Array Value) (hw : HW a0 Z) (n0 : Nat) (v1 : Int32) (s : St) (r : Int32) (h : f_validKind_13 v1 s = some r) : W18 l Z n0 (P18 s r) 0 0 13 (vU :: vI v1 :: []) [] (Hb 0 s) := by
 unfold f_validKind_13 at h
 refine WP.iloadN d18_13 rfl ?_
 refine WP.bipush (18 : Int32) d18_14 rfl ?_
 rcases ite_e h with ⟨hc1, h⟩ | ⟨hc1, h⟩
 ·
  refine WP.icmpY (pc' := 29) d18_16 (XT.ii_lt_t hc1) (by decide) rfl ?_
  exact WP.weak (L' := (vU :: vU :: [])) trivial (ok18_29 l Z a0 hw n0 s _ h)
 ·
  refine WP.icmpN d18_16 (XT.ii_lt_f hc1) ?_
  refine WP.iloadN d18_19 rfl ?_
  refine WP.bipush (21 : Int32) d18_20 rfl ?_
  rcases ite_e h with ⟨hc2, h⟩ | ⟨hc2, h⟩
  ·
   refine WP.icmpY (pc' := 29) d18_22 (XT.ii_gt_t hc2) (by decide) rfl ?_
   exact WP.weak (L' := (vU :: vU :: [])) trivial (ok18_29 l Z a0 hw n0 s _ h)
  ·
   refine WP.icmpN d18_22 (XT.ii_gt_f hc2) ?_
   refine WP.iconst (1 : Int32) d18_25 rfl ?_
   refine WP.goto (pc' := 30) d18_26 (by decide) rfl ?_
   exact WP.weak (L' := (vU :: vU :: [])) trivial (ok18_30 l Z a0 hw n0 (1 : Int32) s _ h)
def f_validKind (p1 : Int32) (s : St) : Option (Int32) :=
 if p1 < (1 : Int32) then
  f_validKind_13 p1 s
 else
  if (9 : Int32) < p1 then
   f_validKind_13 p1 s
  else
   some (1 : Int32)
theorem ok18 (l : Launch) (Z : State) (a0 : Array Value) (hw : HW a0 Z) (p1 : Int32) (s : St) (r : Int32) (h : f_validKind p1 s = some r) : CS l Z CN lay y18 prog_1_method_20_code 2 (some FieldType.boolean) R18 0 [.ref 0, .int p1] (Hb 0 s) (P18 s r) := by
 refine CS.of_wp pn_cls (leb rfl) fun n0 => ?_
 show W18 l Z n0 (P18 s r) 0 0 0 (vR 0 :: vI p1 :: []) [] (Hb 0 s)
 unfold f_validKind at h
 refine WP.iloadN d18_0 rfl ?_
 refine WP.iconst (1 : Int32) d18_1 rfl ?_
 rcases ite_e h with ⟨hc1, h⟩ | ⟨hc1, h⟩
 ·
  refine WP.icmpY (pc' := 13) d18_2 (XT.ii_lt_t hc1) (by decide) rfl ?_
  exact WP.weak (L' := (vU :: vI p1 :: [])) ⟨rfl, trivial⟩ (ok18_13 l Z a0 hw n0 p1 s _ h)
 ·
  refine WP.icmpN d18_2 (XT.ii_lt_f hc1) ?_
  refine WP.iloadN d18_5 rfl ?_
  refine WP.bipush (9 : Int32) d18_6 rfl ?_
  rcases ite_e h with ⟨hc2, h⟩ | ⟨hc2, h⟩
  ·
   refine WP.icmpY (pc' := 13) d18_8 (XT.ii_gt_t hc2) (by decide) rfl ?_
   exact WP.weak (L' := (vU :: vI p1 :: [])) ⟨rfl, trivial⟩ (ok18_13 l Z a0 hw n0 p1 s _ h)
  ·
   refine WP.icmpN d18_8 (XT.ii_gt_f hc2) ?_
   refine WP.iconst (1 : Int32) d18_11 rfl ?_
   cases h
   exact WP.zreturn d18_12 rfl (leb rfl) (leb rfl) ⟨rfl, rfl⟩
theorem d19_0 : dc k18 0 (.iload_n 1) 1 := by decide +kernel
theorem d19_1 : dc k18 1 (.iconst 1) 1 := by decide +kernel
theorem d19_2 : dc k18 2 (.if_icmp .ne 9) 3 := by decide +kernel
theorem d19_5 : dc k18 5 (.aload_n 0) 1 := by decide +kernel
theorem d19_6 : dc k18 6 (.iload_n 2) 1 := by decide +kernel
theorem d19_7 : dc k18 7 (.invokevirtual 77) 3 := by decide +kernel
theorem d19_10 : dc k18 10 (.ireturn) 1 := by decide +kernel
theorem d19_11 : dc k18 11 (.aload_n 0) 1 := by decide +kernel
theorem d19_12 : dc k18 12 (.iload_n 1) 1 := by decide +kernel
theorem d19_13 : dc k18 13 (.invokevirtual 96) 3 := by decide +kernel
theorem d19_16 : dc k18 16 (.ifCond .ne 15) 3 := by decide +kernel
theorem d19_19 : dc k18 19 (.iload_n 1) 1 := by decide +kernel
theorem d19_20 : dc k18 20 (.bipush 6) 2 := by decide +kernel
theorem d19_22 : dc k18 22 (.if_icmp .eq 9) 3 := by decide +kernel
theorem d19_25 : dc k18 25 (.iload_n 1) 1 := by decide +kernel
theorem d19_26 : dc k18 26 (.bipush 7) 2 := by decide +kernel
theorem d19_28 : dc k18 28 (.if_icmp .ne 25) 3 := by decide +kernel
theorem d19_31 : dc k18 31 (.aload_n 0) 1 := by decide +kernel
theorem d19_32 : dc k18 32 (.iload_n 2) 1 := by decide +kernel
theorem d19_33 : dc k18 33 (.invokevirtual 77) 3 := by decide +kernel
theorem d19_36 : dc k18 36 (.ifCond .eq 15) 3 := by decide +kernel
theorem d19_39 : dc k18 39 (.aload_n 0) 1 := by decide +kernel
theorem d19_40 : dc k18 40 (.iload_n 3) 1 := by decide +kernel
theorem d19_41 : dc k18 41 (.invokevirtual 77) 3 := by decide +kernel
theorem d19_44 : dc k18 44 (.ifCond .eq 7) 3 := by decide +kernel
theorem d19_47 : dc k18 47 (.iconst 1) 1 := by decide +kernel
theorem d19_48 : dc k18 48 (.goto 4) 3 := by decide +kernel
theorem d19_51 : dc k18 51 (.iconst 0) 1 := by decide +kernel
theorem d19_52 : dc k18 52 (.ireturn) 1 := by decide +kernel
theorem d19_53 : dc k18 53 (.iconst 1) 1 := by decide +kernel
theorem d19_54 : dc k18 54 (.ireturn) 1 := by decide +kernel
abbrev y19 : MethodName := ⟨"PictureCobol", "operandsOk", "(III)Z"⟩
theorem hy19 : y19.cls ≠ "java/lang/invoke/MethodHandle" ∧ y19.cls ≠ "java/lang/invoke/VarHandle" := by decide
theorem pd19 : parseMethodDescriptor y19.desc = some ⟨[.int, .int, .int], some .boolean⟩ := by decide +kernel
abbrev R19 : Room := { frames := 1, cells := 0, slots := 0, locals := 13 }
abbrev P19 (s : St) (r : Int32) : Option Value → List OwnC → Prop := fun v H' => v = some (.int r) ∧ H' = (Hb 0 s)
abbrev W19 (l : Launch) (Z : State) (n0 : Nat) (Q : Option Value → List OwnC → Prop) (k n pc : Nat) (L : List Slot) (S : List Value) (H : List OwnC) : Prop := WP l Z CN lay "PictureCobol" "operandsOk" prog_1_method_21_code 4 (some FieldType.boolean) R19 n0 0 Q k n pc L S H
def f_operandsOk_52 (t0 : Int32) (s : St) : Option (Int32) :=
 some (t0 &&& 1)
theorem ok19_52 (l : Launch) (Z : State) (a0 : Array Value) (hw : HW a0 Z) (n0 : Nat) (t0 : Int32) (s : St) (r : Int32) (h : f_operandsOk_52 t0 s = some r) : W19 l Z n0 (P19 s r) 0 0 52 (vU :: vU :: vU :: vU :: []) [.int t0] (Hb 0 s) := by
 unfold f_operandsOk_52 at h
 cases h
 exact WP.zreturn d19_52 rfl (leb rfl) (leb rfl) ⟨rfl, rfl⟩
def f_operandsOk_51 (s : St) : Option (Int32) :=
 f_operandsOk_52 (0 : Int32) s
theorem ok19_51 (l : Launch) (Z : State) (a0 : Array Value) (hw : HW a0 Z) (n0 : Nat) (s : St) (r : Int32) (h : f_operandsOk_51 s = some r) : W19 l Z n0 (P19 s r) 0 0 51 (vU :: vU :: vU :: vU :: []) [] (Hb 0 s) := by
 unfold f_operandsOk_51 at h
 refine WP.iconst (0 : Int32) d19_51 rfl ?_
 exact WP.weak (L' := (vU :: vU :: vU :: vU :: [])) trivial (ok19_52 l Z a0 hw n0 (0 : Int32) s _ h)
def f_operandsOk_31 (v2 v3 : Int32) (s : St) : Option (Int32) :=
 (f_isField v2 s).bind fun c1 =>
 if c1 = 0 then
  f_operandsOk_51 s
 else
  (f_isField v3 s).bind fun c3 =>
  if c3 = 0 then
   f_operandsOk_51 s
  else
   f_operandsOk_52 (1 : Int32) s
theorem ok19_31 (l : Launch) (Z : State) (a0 : Array Value) (hw : HW a0 Z) (n0 : Nat) (v2 v3 : Int32) (s : St) (r : Int32) (h : f_operandsOk_31 v2 v3 s = some r) : W19 l Z n0 (P19 s r) 0 0 31 (vR 0 :: vU :: vI v2 :: vI v3 :: []) [] (Hb 0 s) := by
 unfold f_operandsOk_31 at h
 refine WP.aloadN d19_31 rfl ?_
 refine WP.iloadN d19_32 rfl ?_
 obtain ⟨c1, hc1, h⟩ := bd h
 refine WP.callP (i := 0) (y := y9) (as := [.int v2]) (S := []) d19_33 (hw _ m_85) (hw _ m_87) (hw _ m_5) (hw _ m_86) (hw _ m_88) (hw _ m_6) hy9 rfl (ok9 l Z a0 hw v2 s _ hc1) rfl (lenOf pd9 rfl) (leb rfl) (leb rfl) (leb rfl) (leb rfl) ?_
 rintro _ _ ⟨rfl, rfl⟩
 show W19 l Z n0 (P19 s r) 0 0 36 (vR 0 :: vU :: vI v2 :: vI v3 :: []) [.int c1] (Hb 0 s)
 rcases ite_e h with ⟨hc2, h⟩ | ⟨hc2, h⟩
 ·
  refine WP.ifY (pc' := 51) d19_36 (XT.i0_eq_t hc2) (by decide) rfl ?_
  exact WP.weak (L' := (vU :: vU :: vU :: vU :: [])) trivial (ok19_51 l Z a0 hw n0 s _ h)
 ·
  refine WP.ifN d19_36 (XT.i0_eq_f hc2) ?_
  refine WP.aloadN d19_39 rfl ?_
  refine WP.iloadN d19_40 rfl ?_
  obtain ⟨c3, hc3, h⟩ := bd h
  refine WP.callP (i := 0) (y := y9) (as := [.int v3]) (S := []) d19_41 (hw _ m_85) (hw _ m_87) (hw _ m_5) (hw _ m_86) (hw _ m_88) (hw _ m_6) hy9 rfl (ok9 l Z a0 hw v3 s _ hc3) rfl (lenOf pd9 rfl) (leb rfl) (leb rfl) (leb rfl) (leb rfl) ?_
  rintro _ _ ⟨rfl, rfl⟩
  show W19 l Z n0 (P19 s r) 0 0 44 (vR 0 :: vU :: vI v2 :: vI v3 :: []) [.int c3] (Hb 0 s)
  rcases ite_e h with ⟨hc4, h⟩ | ⟨hc4, h⟩
  ·
   refine WP.ifY (pc' := 51) d19_44 (XT.i0_eq_t hc4) (by decide) rfl ?_
   exact WP.weak (L' := (vU :: vU :: vU :: vU :: [])) trivial (ok19_51 l Z a0 hw n0 s _ h)
  ·
   refine WP.ifN d19_44 (XT.i0_eq_f hc4) ?_
   refine WP.iconst (1 : Int32) d19_47 rfl ?_
   refine WP.goto (pc' := 52) d19_48 (by decide) rfl ?_
   exact WP.weak (L' := (vU :: vU :: vU :: vU :: [])) trivial (ok19_52 l Z a0 hw n0 (1 : Int32) s _ h)
def f_operandsOk (p1 p2 p3 : Int32) (s : St) : Option (Int32) :=
 if p1 = (1 : Int32) then
  (f_isField p2 s).bind fun c2 =>
  some (c2 &&& 1)
 else
  (f_isArith p1 s).bind fun c3 =>
  if c3 = 0 then
   if p1 = (6 : Int32) then
    f_operandsOk_31 p2 p3 s
   else
    if p1 = (7 : Int32) then
     f_operandsOk_31 p2 p3 s
    else
     some (1 : Int32)
  else
   f_operandsOk_31 p2 p3 s
theorem ok19 (l : Launch) (Z : State) (a0 : Array Value) (hw : HW a0 Z) (p1 p2 p3 : Int32) (s : St) (r : Int32) (h : f_operandsOk p1 p2 p3 s = some r) : CS l Z CN lay y19 prog_1_method_21_code 4 (some FieldType.boolean) R19 0 [.ref 0, .int p1, .int p2, .int p3] (Hb 0 s) (P19 s r) := by
 refine CS.of_wp pn_cls (leb rfl) fun n0 => ?_
 show W19 l Z n0 (P19 s r) 0 0 0 (vR 0 :: vI p1 :: vI p2 :: vI p3 :: []) [] (Hb 0 s)
 unfold f_operandsOk at h
 refine WP.iloadN d19_0 rfl ?_
 refine WP.iconst (1 : Int32) d19_1 rfl ?_
 rcases ite_e h with ⟨hc1, h⟩ | ⟨hc1, h⟩
 ·
  refine WP.icmpN d19_2 (XT.ii_ne_f hc1) ?_
  refine WP.aloadN d19_5 rfl ?_
  refine WP.iloadN d19_6 rfl ?_
  obtain ⟨c2, hc2, h⟩ := bd h
  refine WP.callP (i := 0) (y := y9) (as := [.int p2]) (S := []) d19_7 (hw _ m_85) (hw _ m_87) (hw _ m_5) (hw _ m_86) (hw _ m_88) (hw _ m_6) hy9 rfl (ok9 l Z a0 hw p2 s _ hc2) rfl (lenOf pd9 rfl) (leb rfl) (leb rfl) (leb rfl) (leb rfl) ?_
  rintro _ _ ⟨rfl, rfl⟩
  show W19 l Z n0 (P19 s r) 0 0 10 (vR 0 :: vI p1 :: vI p2 :: vI p3 :: []) [.int c2] (Hb 0 s)
  cases h
  exact WP.zreturn d19_10 rfl (leb rfl) (leb rfl) ⟨rfl, rfl⟩
 ·
  refine WP.icmpY (pc' := 11) d19_2 (XT.ii_ne_t hc1) (by decide) rfl ?_
  refine WP.aloadN d19_11 rfl ?_
  refine WP.iloadN d19_12 rfl ?_
  obtain ⟨c3, hc3, h⟩ := bd h
  refine WP.callP (i := 0) (y := y20) (as := [.int p1]) (S := []) d19_13 (hw _ m_130) (hw _ m_132) (hw _ m_5) (hw _ m_131) (hw _ m_133) (hw _ m_6) hy20 rfl (ok20 l Z a0 hw p1 s _ hc3) rfl (lenOf pd20 rfl) (leb rfl) (leb rfl) (leb rfl) (leb rfl) ?_
  rintro _ _ ⟨rfl, rfl⟩
  show W19 l Z n0 (P19 s r) 0 0 16 (vR 0 :: vI p1 :: vI p2 :: vI p3 :: []) [.int c3] (Hb 0 s)
  rcases ite_e h with ⟨hc4, h⟩ | ⟨hc4, h⟩
  ·
   refine WP.ifN d19_16 (XT.i0_ne_f hc4) ?_
   refine WP.iloadN d19_19 rfl ?_
   refine WP.bipush (6 : Int32) d19_20 rfl ?_
   rcases ite_e h with ⟨hc5, h⟩ | ⟨hc5, h⟩
   ·
    refine WP.icmpY (pc' := 31) d19_22 (XT.ii_eq_t hc5) (by decide) rfl ?_
    exact WP.weak (L' := (vR 0 :: vU :: vI p2 :: vI p3 :: [])) ⟨rfl, rfl, rfl, trivial⟩ (ok19_31 l Z a0 hw n0 p2 p3 s _ h)
   ·
    refine WP.icmpN d19_22 (XT.ii_eq_f hc5) ?_
    refine WP.iloadN d19_25 rfl ?_
    refine WP.bipush (7 : Int32) d19_26 rfl ?_
    rcases ite_e h with ⟨hc6, h⟩ | ⟨hc6, h⟩
    ·
     refine WP.icmpN d19_28 (XT.ii_ne_f hc6) ?_
     exact WP.weak (L' := (vR 0 :: vU :: vI p2 :: vI p3 :: [])) ⟨rfl, rfl, rfl, trivial⟩ (ok19_31 l Z a0 hw n0 p2 p3 s _ h)
    ·
     refine WP.icmpY (pc' := 53) d19_28 (XT.ii_ne_t hc6) (by decide) rfl ?_
     refine WP.iconst (1 : Int32) d19_53 rfl ?_
     cases h
     exact WP.zreturn d19_54 rfl (leb rfl) (leb rfl) ⟨rfl, rfl⟩
  ·
   refine WP.ifY (pc' := 31) d19_16 (XT.i0_ne_t hc4) (by decide) rfl ?_
   exact WP.weak (L' := (vR 0 :: vU :: vI p2 :: vI p3 :: [])) ⟨rfl, rfl, rfl, trivial⟩ (ok19_31 l Z a0 hw n0 p2 p3 s _ h)
theorem d17_0 : dc k3 0 (.aload_n 0) 1 := by decide +kernel
theorem d17_1 : dc k3 1 (.getfield 61) 3 := by decide +kernel
theorem d17_4 : dc k3 4 (.ifCond .ne 14) 3 := by decide +kernel
theorem d17_7 : dc k3 7 (.aload_n 0) 1 := by decide +kernel
theorem d17_8 : dc k3 8 (.getfield 58) 3 := by decide +kernel
theorem d17_11 : dc k3 11 (.aload_n 0) 1 := by decide +kernel
theorem d17_12 : dc k3 12 (.getfield 52) 3 := by decide +kernel
theorem d17_15 : dc k3 15 (.if_icmp .ne 5) 3 := by decide +kernel
theorem d17_18 : dc k3 18 (.iconst (-1)) 1 := by decide +kernel
theorem d17_19 : dc k3 19 (.ireturn) 1 := by decide +kernel
theorem d17_20 : dc k3 20 (.aload_n 0) 1 := by decide +kernel
theorem d17_21 : dc k3 21 (.iload_n 1) 1 := by decide +kernel
theorem d17_22 : dc k3 22 (.invokevirtual 89) 3 := by decide +kernel
theorem d17_25 : dc k3 25 (.ifCond .ne 5) 3 := by decide +kernel
theorem d17_28 : dc k3 28 (.iconst (-1)) 1 := by decide +kernel
theorem d17_29 : dc k3 29 (.ireturn) 1 := by decide +kernel
theorem d17_30 : dc k3 30 (.iload_n 1) 1 := by decide +kernel
theorem d17_31 : dc k3 31 (.bipush 15) 2 := by decide +kernel
theorem d17_33 : dc k3 33 (.iand) 1 := by decide +kernel
theorem d17_34 : dc k3 34 (.istore 5) 2 := by decide +kernel
theorem d17_36 : dc k3 36 (.aload_n 0) 1 := by decide +kernel
theorem d17_37 : dc k3 37 (.iload 5) 2 := by decide +kernel
theorem d17_39 : dc k3 39 (.iload_n 2) 1 := by decide +kernel
theorem d17_40 : dc k3 40 (.iload_n 3) 1 := by decide +kernel
theorem d17_41 : dc k3 41 (.invokevirtual 92) 3 := by decide +kernel
theorem d17_44 : dc k3 44 (.ifCond .ne 5) 3 := by decide +kernel
theorem d17_47 : dc k3 47 (.iconst (-1)) 1 := by decide +kernel
theorem d17_48 : dc k3 48 (.ireturn) 1 := by decide +kernel
theorem d17_49 : dc k3 49 (.iload 5) 2 := by decide +kernel
theorem d17_51 : dc k3 51 (.iconst 1) 1 := by decide +kernel
theorem d17_52 : dc k3 52 (.if_icmp .ne 14) 3 := by decide +kernel
theorem d17_55 : dc k3 55 (.aload_n 0) 1 := by decide +kernel
theorem d17_56 : dc k3 56 (.iload 4) 2 := by decide +kernel
theorem d17_58 : dc k3 58 (.invokevirtual 77) 3 := by decide +kernel
theorem d17_61 : dc k3 61 (.ifCond .ne 5) 3 := by decide +kernel
theorem d17_64 : dc k3 64 (.iconst (-1)) 1 := by decide +kernel
theorem d17_65 : dc k3 65 (.ireturn) 1 := by decide +kernel
theorem d17_66 : dc k3 66 (.iload 5) 2 := by decide +kernel
theorem d17_68 : dc k3 68 (.iconst 2) 1 := by decide +kernel
theorem d17_69 : dc k3 69 (.if_icmp .lt 20) 3 := by decide +kernel
theorem d17_72 : dc k3 72 (.iload 5) 2 := by decide +kernel
theorem d17_74 : dc k3 74 (.iconst 5) 1 := by decide +kernel
theorem d17_75 : dc k3 75 (.if_icmp .gt 14) 3 := by decide +kernel
theorem d17_78 : dc k3 78 (.aload_n 0) 1 := by decide +kernel
theorem d17_79 : dc k3 79 (.iload 4) 2 := by decide +kernel
theorem d17_81 : dc k3 81 (.invokevirtual 77) 3 := by decide +kernel
theorem d17_84 : dc k3 84 (.ifCond .ne 5) 3 := by decide +kernel
theorem d17_87 : dc k3 87 (.iconst (-1)) 1 := by decide +kernel
theorem d17_88 : dc k3 88 (.ireturn) 1 := by decide +kernel
theorem d17_89 : dc k3 89 (.aload_n 0) 1 := by decide +kernel
theorem d17_90 : dc k3 90 (.getfield 58) 3 := by decide +kernel
theorem d17_93 : dc k3 93 (.ifCond .lt 12) 3 := by decide +kernel
theorem d17_96 : dc k3 96 (.aload_n 0) 1 := by decide +kernel
theorem d17_97 : dc k3 97 (.getfield 58) 3 := by decide +kernel
theorem d17_100 : dc k3 100 (.bipush 32) 2 := by decide +kernel
theorem d17_102 : dc k3 102 (.if_icmp .lt 5) 3 := by decide +kernel
theorem d17_105 : dc k3 105 (.iconst (-1)) 1 := by decide +kernel
theorem d17_106 : dc k3 106 (.ireturn) 1 := by decide +kernel
theorem d17_107 : dc k3 107 (.aload_n 0) 1 := by decide +kernel
theorem d17_108 : dc k3 108 (.getfield 58) 3 := by decide +kernel
theorem d17_111 : dc k3 111 (.istore 6) 2 := by decide +kernel
theorem d17_113 : dc k3 113 (.aload_n 0) 1 := by decide +kernel
theorem d17_114 : dc k3 114 (.getfield 23) 3 := by decide +kernel
theorem d17_117 : dc k3 117 (.iload 6) 2 := by decide +kernel
theorem d17_119 : dc k3 119 (.iload 5) 2 := by decide +kernel
theorem d17_121 : dc k3 121 (.iastore) 1 := by decide +kernel
theorem d17_122 : dc k3 122 (.aload_n 0) 1 := by decide +kernel
theorem d17_123 : dc k3 123 (.getfield 26) 3 := by decide +kernel
theorem d17_126 : dc k3 126 (.iload 6) 2 := by decide +kernel
theorem d17_128 : dc k3 128 (.iload_n 1) 1 := by decide +kernel
theorem d17_129 : dc k3 129 (.bipush 16) 2 := by decide +kernel
theorem d17_131 : dc k3 131 (.if_icmp .lt 7) 3 := by decide +kernel
theorem d17_134 : dc k3 134 (.iconst 1) 1 := by decide +kernel
theorem d17_135 : dc k3 135 (.goto 4) 3 := by decide +kernel
theorem d17_138 : dc k3 138 (.iconst 0) 1 := by decide +kernel
theorem d17_139 : dc k3 139 (.bastore) 1 := by decide +kernel
theorem d17_140 : dc k3 140 (.aload_n 0) 1 := by decide +kernel
theorem d17_141 : dc k3 141 (.getfield 29) 3 := by decide +kernel
theorem d17_144 : dc k3 144 (.iload 6) 2 := by decide +kernel
theorem d17_146 : dc k3 146 (.iload_n 2) 1 := by decide +kernel
theorem d17_147 : dc k3 147 (.iastore) 1 := by decide +kernel
theorem d17_148 : dc k3 148 (.aload_n 0) 1 := by decide +kernel
theorem d17_149 : dc k3 149 (.getfield 32) 3 := by decide +kernel
theorem d17_152 : dc k3 152 (.iload 6) 2 := by decide +kernel
theorem d17_154 : dc k3 154 (.iload_n 3) 1 := by decide +kernel
theorem d17_155 : dc k3 155 (.iastore) 1 := by decide +kernel
theorem d17_156 : dc k3 156 (.aload_n 0) 1 := by decide +kernel
theorem d17_157 : dc k3 157 (.getfield 35) 3 := by decide +kernel
theorem d17_160 : dc k3 160 (.iload 6) 2 := by decide +kernel
theorem d17_162 : dc k3 162 (.iload 4) 2 := by decide +kernel
theorem d17_164 : dc k3 164 (.iastore) 1 := by decide +kernel
theorem d17_165 : dc k3 165 (.aload_n 0) 1 := by decide +kernel
theorem d17_166 : dc k3 166 (.getfield 38) 3 := by decide +kernel
theorem d17_169 : dc k3 169 (.iload 6) 2 := by decide +kernel
theorem d17_171 : dc k3 171 (.iconst 0) 1 := by decide +kernel
theorem d17_172 : dc k3 172 (.bastore) 1 := by decide +kernel
theorem d17_173 : dc k3 173 (.aload_n 0) 1 := by decide +kernel
theorem d17_174 : dc k3 174 (.getfield 41) 3 := by decide +kernel
theorem d17_177 : dc k3 177 (.iload 6) 2 := by decide +kernel
theorem d17_179 : dc k3 179 (.iconst 0) 1 := by decide +kernel
theorem d17_180 : dc k3 180 (.iastore) 1 := by decide +kernel
theorem d17_181 : dc k3 181 (.aload_n 0) 1 := by decide +kernel
theorem d17_182 : dc k3 182 (.iload 6) 2 := by decide +kernel
theorem d17_184 : dc k3 184 (.iconst 1) 1 := by decide +kernel
theorem d17_185 : dc k3 185 (.iadd) 1 := by decide +kernel
theorem d17_186 : dc k3 186 (.putfield 58) 3 := by decide +kernel
theorem d17_189 : dc k3 189 (.iload 6) 2 := by decide +kernel
theorem d17_191 : dc k3 191 (.ireturn) 1 := by decide +kernel
abbrev y17 : MethodName := ⟨"PictureCobol", "statement", "(IIII)I"⟩
theorem hy17 : y17.cls ≠ "java/lang/invoke/MethodHandle" ∧ y17.cls ≠ "java/lang/invoke/VarHandle" := by decide
theorem pd17 : parseMethodDescriptor y17.desc = some ⟨[.int, .int, .int, .int], some .int⟩ := by decide +kernel
abbrev R17 : Room := { frames := 2, cells := 0, slots := 0, locals := 28 }
abbrev P17 (r : Int32 × St) : Option Value → List OwnC → Prop := fun v H' => v = some (.int r.1) ∧ H' = (Hb 0 r.2)
abbrev W17 (l : Launch) (Z : State) (n0 : Nat) (Q : Option Value → List OwnC → Prop) (k n pc : Nat) (L : List Slot) (S : List Value) (H : List OwnC) : Prop := WP l Z CN lay "PictureCobol" "statement" prog_1_method_4_code 7 (some FieldType.int) R17 n0 0 Q k n pc L S H
def f_statement_18 (s : St) : Option (Int32 × St) :=
 some ((-1 : Int32), s)
theorem ok17_18 (l : Launch) (Z : State) (a0 : Array Value) (hw : HW a0 Z) (n0 : Nat) (s : St) (r : Int32 × St) (h : f_statement_18 s = some r) : W17 l Z n0 (P17 r) 0 0 18 (vU :: vU :: vU :: vU :: vU :: vU :: vU :: []) [] (Hb 0 s) := by
 unfold f_statement_18 at h
 refine WP.iconst (-1 : Int32) d17_18 rfl ?_
 cases h
 exact WP.ireturn d17_19 rfl (leb rfl) (leb rfl) ⟨rfl, rfl⟩
def f_statement_105 (s : St) : Option (Int32 × St) :=
 some ((-1 : Int32), s)
theorem ok17_105 (l : Launch) (Z : State) (a0 : Array Value) (hw : HW a0 Z) (n0 : Nat) (s : St) (r : Int32 × St) (h : f_statement_105 s = some r) : W17 l Z n0 (P17 r) 0 0 105 (vU :: vU :: vU :: vU :: vU :: vU :: vU :: []) [] (Hb 0 s) := by
 unfold f_statement_105 at h
 refine WP.iconst (-1 : Int32) d17_105 rfl ?_
 cases h
 exact WP.ireturn d17_106 rfl (leb rfl) (leb rfl) ⟨rfl, rfl⟩
def f_statement_139 (v2 v3 v4 v6 t0 t1 : Int32) (s : St) : Option (Int32 × St) :=
 (wrA s 5 t1 (t0 &&& 1)).bind fun s1 =>
 (wrA s1 6 v6 v2).bind fun s2 =>
 (wrA s2 7 v6 v3).bind fun s3 =>
 (wrA s3 8 v6 v4).bind fun s4 =>
 (wrA s4 9 v6 (0 : Int32)).bind fun s5 =>
 (wrA s5 10 v6 (0 : Int32)).bind fun s6 =>
 lt (sI s6 3 (v6 + (1 : Int32))) fun s7 =>
 some (v6, s7)
theorem ok17_139 (l : Launch) (Z : State) (a0 : Array Value) (hw : HW a0 Z) (n0 : Nat) (v2 v3 v4 v6 t0 t1 : Int32) (s : St) (r : Int32 × St) (h : f_statement_139 v2 v3 v4 v6 t0 t1 s = some r) : W17 l Z n0 (P17 r) 0 0 139 (vR 0 :: vU :: vI v2 :: vI v3 :: vI v4 :: vU :: vI v6 :: []) [.int t0, .int t1, .ref 6] (Hb 0 s) := by
 unfold f_statement_139 at h
 obtain ⟨s1, hs1, h⟩ := bd h
 obtain ⟨ys1, gs1, es1⟩ := wrA_e hs1
 refine WP.bastore (i := 6) (xs := gA s 5) (H' := (Hb 0 s1)) d17_139 rfl (leb rfl) gs1 (by subst es1; rfl) ?_
 refine WP.aloadN d17_140 rfl ?_
 refine WP.getfield (i := 0) (j := 10) d17_141 (hw _ m_27) rfl rfl rfl ?_
 refine WP.iload d17_144 rfl ?_
 refine WP.iloadN d17_146 rfl ?_
 obtain ⟨s2, hs2, h⟩ := bd h
 obtain ⟨ys2, gs2, es2⟩ := wrA_e hs2
 refine WP.iastore (i := 7) (xs := gA s1 6) (H' := (Hb 0 s2)) d17_147 rfl (leb rfl) gs2 (by subst es2; rfl) ?_
 refine WP.aloadN d17_148 rfl ?_
 refine WP.getfield (i := 0) (j := 11) d17_149 (hw _ m_29) rfl rfl rfl ?_
 refine WP.iload d17_152 rfl ?_
 refine WP.iloadN d17_154 rfl ?_
 obtain ⟨s3, hs3, h⟩ := bd h
 obtain ⟨ys3, gs3, es3⟩ := wrA_e hs3
 refine WP.iastore (i := 8) (xs := gA s2 7) (H' := (Hb 0 s3)) d17_155 rfl (leb rfl) gs3 (by subst es3; rfl) ?_
 refine WP.aloadN d17_156 rfl ?_
 refine WP.getfield (i := 0) (j := 12) d17_157 (hw _ m_31) rfl rfl rfl ?_
 refine WP.iload d17_160 rfl ?_
 refine WP.iload d17_162 rfl ?_
 obtain ⟨s4, hs4, h⟩ := bd h
 obtain ⟨ys4, gs4, es4⟩ := wrA_e hs4
 refine WP.iastore (i := 9) (xs := gA s3 8) (H' := (Hb 0 s4)) d17_164 rfl (leb rfl) gs4 (by subst es4; rfl) ?_
 refine WP.aloadN d17_165 rfl ?_
 refine WP.getfield (i := 0) (j := 13) d17_166 (hw _ m_33) rfl rfl rfl ?_
 refine WP.iload d17_169 rfl ?_
 refine WP.iconst (0 : Int32) d17_171 rfl ?_
 obtain ⟨s5, hs5, h⟩ := bd h
 obtain ⟨ys5, gs5, es5⟩ := wrA_e hs5
 refine WP.bastore (i := 10) (xs := gA s4 9) (H' := (Hb 0 s5)) d17_172 rfl (leb rfl) gs5 (by subst es5; rfl) ?_
 refine WP.aloadN d17_173 rfl ?_
 refine WP.getfield (i := 0) (j := 14) d17_174 (hw _ m_35) rfl rfl rfl ?_
 refine WP.iload d17_177 rfl ?_
 refine WP.iconst (0 : Int32) d17_179 rfl ?_
 obtain ⟨s6, hs6, h⟩ := bd h
 obtain ⟨ys6, gs6, es6⟩ := wrA_e hs6
 refine WP.iastore (i := 11) (xs := gA s5 10) (H' := (Hb 0 s6)) d17_180 rfl (leb rfl) gs6 (by subst es6; rfl) ?_
 refine WP.aloadN d17_181 rfl ?_
 refine WP.iload d17_182 rfl ?_
 refine WP.iconst (1 : Int32) d17_184 rfl ?_
 refine WP.iadd d17_185 ?_
 obtain ⟨s7, es7, h⟩ := lt_e h
 refine WP.putI (i := 0) (j := 7) (H' := (Hb 0 s7)) d17_186 (hw _ m_47) (Or.inl (hw _ m_48)) (hw _ m_5) (hlay hw) rfl rfl rfl (leb rfl) (by subst es7; rfl) ?_
 refine WP.iload d17_189 rfl ?_
 cases h
 exact WP.ireturn d17_191 rfl (leb rfl) (leb rfl) ⟨rfl, rfl⟩
def f_statement_89 (v1 v2 v3 v4 v5 : Int32) (s : St) : Option (Int32 × St) :=
 if (gI s 3) < 0 then
  f_statement_105 s
 else
  if (gI s 3) < (32 : Int32) then
   lt (gI s 3) fun x3 =>
   (wrA s 4 x3 v5).bind fun s4 =>
   if v1 < (16 : Int32) then
    f_statement_139 v2 v3 v4 x3 (0 : Int32) x3 s4
   else
    f_statement_139 v2 v3 v4 x3 (1 : Int32) x3 s4
  else
   f_statement_105 s
theorem ok17_89 (l : Launch) (Z : State) (a0 : Array Value) (hw : HW a0 Z) (n0 : Nat) (v1 v2 v3 v4 v5 : Int32) (s : St) (r : Int32 × St) (h : f_statement_89 v1 v2 v3 v4 v5 s = some r) : W17 l Z n0 (P17 r) 0 0 89 (vR 0 :: vI v1 :: vI v2 :: vI v3 :: vI v4 :: vI v5 :: vU :: []) [] (Hb 0 s) := by
 unfold f_statement_89 at h
 refine WP.aloadN d17_89 rfl ?_
 refine WP.getfield (i := 0) (j := 7) d17_90 (hw _ m_47) rfl rfl rfl ?_
 rcases ite_e h with ⟨hc1, h⟩ | ⟨hc1, h⟩
 ·
  refine WP.ifY (pc' := 105) d17_93 (XT.i0_lt_t hc1) (by decide) rfl ?_
  exact WP.weak (L' := (vU :: vU :: vU :: vU :: vU :: vU :: vU :: [])) trivial (ok17_105 l Z a0 hw n0 s _ h)
 ·
  refine WP.ifN d17_93 (XT.i0_lt_f hc1) ?_
  refine WP.aloadN d17_96 rfl ?_
  refine WP.getfield (i := 0) (j := 7) d17_97 (hw _ m_47) rfl rfl rfl ?_
  refine WP.bipush (32 : Int32) d17_100 rfl ?_
  rcases ite_e h with ⟨hc2, h⟩ | ⟨hc2, h⟩
  ·
   refine WP.icmpY (pc' := 107) d17_102 (XT.ii_lt_t hc2) (by decide) rfl ?_
   refine WP.aloadN d17_107 rfl ?_
   refine WP.getfield (i := 0) (j := 7) d17_108 (hw _ m_47) rfl rfl rfl ?_
   obtain ⟨x3, ex3, h⟩ := lt_e h
   refine WP.istore (L' := (vR 0 :: vI v1 :: vI v2 :: vI v3 :: vI v4 :: vI v5 :: vI x3 :: [])) d17_111 (leb rfl) (by subst ex3; rfl) ?_
   refine WP.aloadN d17_113 rfl ?_
   refine WP.getfield (i := 0) (j := 8) d17_114 (hw _ m_23) rfl rfl rfl ?_
   refine WP.iload d17_117 rfl ?_
   refine WP.iload d17_119 rfl ?_
   obtain ⟨s4, hs4, h⟩ := bd h
   obtain ⟨ys4, gs4, es4⟩ := wrA_e hs4
   refine WP.iastore (i := 5) (xs := gA s 4) (H' := (Hb 0 s4)) d17_121 rfl (leb rfl) gs4 (by subst es4; rfl) ?_
   refine WP.aloadN d17_122 rfl ?_
   refine WP.getfield (i := 0) (j := 9) d17_123 (hw _ m_25) rfl rfl rfl ?_
   refine WP.iload d17_126 rfl ?_
   refine WP.iloadN d17_128 rfl ?_
   refine WP.bipush (16 : Int32) d17_129 rfl ?_
   rcases ite_e h with ⟨hc5, h⟩ | ⟨hc5, h⟩
   ·
    refine WP.icmpY (pc' := 138) d17_131 (XT.ii_lt_t hc5) (by decide) rfl ?_
    refine WP.iconst (0 : Int32) d17_138 rfl ?_
    exact WP.weak (L' := (vR 0 :: vU :: vI v2 :: vI v3 :: vI v4 :: vU :: vI x3 :: [])) ⟨rfl, rfl, rfl, rfl, rfl, trivial⟩ (ok17_139 l Z a0 hw n0 v2 v3 v4 x3 (0 : Int32) x3 s4 _ h)
   ·
    refine WP.icmpN d17_131 (XT.ii_lt_f hc5) ?_
    refine WP.iconst (1 : Int32) d17_134 rfl ?_
    refine WP.goto (pc' := 139) d17_135 (by decide) rfl ?_
    exact WP.weak (L' := (vR 0 :: vU :: vI v2 :: vI v3 :: vI v4 :: vU :: vI x3 :: [])) ⟨rfl, rfl, rfl, rfl, rfl, trivial⟩ (ok17_139 l Z a0 hw n0 v2 v3 v4 x3 (1 : Int32) x3 s4 _ h)
  ·
   refine WP.icmpN d17_102 (XT.ii_lt_f hc2) ?_
   exact WP.weak (L' := (vU :: vU :: vU :: vU :: vU :: vU :: vU :: [])) trivial (ok17_105 l Z a0 hw n0 s _ h)
def f_statement_66 (v1 v2 v3 v4 v5 : Int32) (s : St) : Option (Int32 × St) :=
 if v5 < (2 : Int32) then
  f_statement_89 v1 v2 v3 v4 v5 s
 else
  if (5 : Int32) < v5 then
   f_statement_89 v1 v2 v3 v4 v5 s
  else
   (f_isField v4 s).bind fun c3 =>
   if c3 = 0 then
    some ((-1 : Int32), s)
   else
    f_statement_89 v1 v2 v3 v4 v5 s
theorem ok17_66 (l : Launch) (Z : State) (a0 : Array Value) (hw : HW a0 Z) (n0 : Nat) (v1 v2 v3 v4 v5 : Int32) (s : St) (r : Int32 × St) (h : f_statement_66 v1 v2 v3 v4 v5 s = some r) : W17 l Z n0 (P17 r) 0 0 66 (vR 0 :: vI v1 :: vI v2 :: vI v3 :: vI v4 :: vI v5 :: vU :: []) [] (Hb 0 s) := by
 unfold f_statement_66 at h
 refine WP.iload d17_66 rfl ?_
 refine WP.iconst (2 : Int32) d17_68 rfl ?_
 rcases ite_e h with ⟨hc1, h⟩ | ⟨hc1, h⟩
 ·
  refine WP.icmpY (pc' := 89) d17_69 (XT.ii_lt_t hc1) (by decide) rfl ?_
  exact WP.weak (L' := (vR 0 :: vI v1 :: vI v2 :: vI v3 :: vI v4 :: vI v5 :: vU :: [])) ⟨rfl, rfl, rfl, rfl, rfl, rfl, trivial⟩ (ok17_89 l Z a0 hw n0 v1 v2 v3 v4 v5 s _ h)
 ·
  refine WP.icmpN d17_69 (XT.ii_lt_f hc1) ?_
  refine WP.iload d17_72 rfl ?_
  refine WP.iconst (5 : Int32) d17_74 rfl ?_
  rcases ite_e h with ⟨hc2, h⟩ | ⟨hc2, h⟩
  ·
   refine WP.icmpY (pc' := 89) d17_75 (XT.ii_gt_t hc2) (by decide) rfl ?_
   exact WP.weak (L' := (vR 0 :: vI v1 :: vI v2 :: vI v3 :: vI v4 :: vI v5 :: vU :: [])) ⟨rfl, rfl, rfl, rfl, rfl, rfl, trivial⟩ (ok17_89 l Z a0 hw n0 v1 v2 v3 v4 v5 s _ h)
  ·
   refine WP.icmpN d17_75 (XT.ii_gt_f hc2) ?_
   refine WP.aloadN d17_78 rfl ?_
   refine WP.iload d17_79 rfl ?_
   obtain ⟨c3, hc3, h⟩ := bd h
   refine WP.callP (i := 0) (y := y9) (as := [.int v4]) (S := []) d17_81 (hw _ m_85) (hw _ m_87) (hw _ m_5) (hw _ m_86) (hw _ m_88) (hw _ m_6) hy9 rfl (ok9 l Z a0 hw v4 s _ hc3) rfl (lenOf pd9 rfl) (leb rfl) (leb rfl) (leb rfl) (leb rfl) ?_
   rintro _ _ ⟨rfl, rfl⟩
   show W17 l Z n0 (P17 r) 0 0 84 (vR 0 :: vI v1 :: vI v2 :: vI v3 :: vI v4 :: vI v5 :: vU :: []) [.int c3] (Hb 0 s)
   rcases ite_e h with ⟨hc4, h⟩ | ⟨hc4, h⟩
   ·
    refine WP.ifN d17_84 (XT.i0_ne_f hc4) ?_
    refine WP.iconst (-1 : Int32) d17_87 rfl ?_
    cases h
    exact WP.ireturn d17_88 rfl (leb rfl) (leb rfl) ⟨rfl, rfl⟩
   ·
    refine WP.ifY (pc' := 89) d17_84 (XT.i0_ne_t hc4) (by decide) rfl ?_
    exact WP.weak (L' := (vR 0 :: vI v1 :: vI v2 :: vI v3 :: vI v4 :: vI v5 :: vU :: [])) ⟨rfl, rfl, rfl, rfl, rfl, rfl, trivial⟩ (ok17_89 l Z a0 hw n0 v1 v2 v3 v4 v5 s _ h)
def f_statement (p1 p2 p3 p4 : Int32) (s : St) : Option (Int32 × St) :=
 if (gI s 4) = 0 then
  if (gI s 3) = (gI s 1) then
   f_statement_18 s
  else
   (f_validKind p1 s).bind fun c3 =>
   if c3 = 0 then
    some ((-1 : Int32), s)
   else
    lt (p1 &&& (15 : Int32)) fun x5 =>
    (f_operandsOk x5 p2 p3 s).bind fun c6 =>
    if c6 = 0 then
     some ((-1 : Int32), s)
    else
     if x5 = (1 : Int32) then
      (f_isField p4 s).bind fun c9 =>
      if c9 = 0 then
       some ((-1 : Int32), s)
      else
       f_statement_66 p1 p2 p3 p4 x5 s
     else
      f_statement_66 p1 p2 p3 p4 x5 s
 else
  f_statement_18 s
theorem ok17 (l : Launch) (Z : State) (a0 : Array Value) (hw : HW a0 Z) (p1 p2 p3 p4 : Int32) (s : St) (r : Int32 × St) (h : f_statement p1 p2 p3 p4 s = some r) : CS l Z CN lay y17 prog_1_method_4_code 7 (some FieldType.int) R17 0 [.ref 0, .int p1, .int p2, .int p3, .int p4] (Hb 0 s) (P17 r) := by
 refine CS.of_wp pn_cls (leb rfl) fun n0 => ?_
 show W17 l Z n0 (P17 r) 0 0 0 (vR 0 :: vI p1 :: vI p2 :: vI p3 :: vI p4 :: vU :: vU :: []) [] (Hb 0 s)
 unfold f_statement at h
 refine WP.aloadN d17_0 rfl ?_
 refine WP.getfield (i := 0) (j := 15) d17_1 (hw _ m_49) rfl rfl rfl ?_
 rcases ite_e h with ⟨hc1, h⟩ | ⟨hc1, h⟩
 ·
  refine WP.ifN d17_4 (XT.i0_ne_f hc1) ?_
  refine WP.aloadN d17_7 rfl ?_
  refine WP.getfield (i := 0) (j := 7) d17_8 (hw _ m_47) rfl rfl rfl ?_
  refine WP.aloadN d17_11 rfl ?_
  refine WP.getfield (i := 0) (j := 1) d17_12 (hw _ m_43) rfl rfl rfl ?_
  rcases ite_e h with ⟨hc2, h⟩ | ⟨hc2, h⟩
  ·
   refine WP.icmpN d17_15 (XT.ii_ne_f hc2) ?_
   exact WP.weak (L' := (vU :: vU :: vU :: vU :: vU :: vU :: vU :: [])) trivial (ok17_18 l Z a0 hw n0 s _ h)
  ·
   refine WP.icmpY (pc' := 20) d17_15 (XT.ii_ne_t hc2) (by decide) rfl ?_
   refine WP.aloadN d17_20 rfl ?_
   refine WP.iloadN d17_21 rfl ?_
   obtain ⟨c3, hc3, h⟩ := bd h
   refine WP.callP (i := 0) (y := y18) (as := [.int p1]) (S := []) d17_22 (hw _ m_122) (hw _ m_124) (hw _ m_5) (hw _ m_123) (hw _ m_125) (hw _ m_6) hy18 rfl (ok18 l Z a0 hw p1 s _ hc3) rfl (lenOf pd18 rfl) (leb rfl) (leb rfl) (leb rfl) (leb rfl) ?_
   rintro _ _ ⟨rfl, rfl⟩
   show W17 l Z n0 (P17 r) 0 0 25 (vR 0 :: vI p1 :: vI p2 :: vI p3 :: vI p4 :: vU :: vU :: []) [.int c3] (Hb 0 s)
   rcases ite_e h with ⟨hc4, h⟩ | ⟨hc4, h⟩
   ·
    refine WP.ifN d17_25 (XT.i0_ne_f hc4) ?_
    refine WP.iconst (-1 : Int32) d17_28 rfl ?_
    cases h
    exact WP.ireturn d17_29 rfl (leb rfl) (leb rfl) ⟨rfl, rfl⟩
   ·
    refine WP.ifY (pc' := 30) d17_25 (XT.i0_ne_t hc4) (by decide) rfl ?_
    refine WP.iloadN d17_30 rfl ?_
    refine WP.bipush (15 : Int32) d17_31 rfl ?_
    refine WP.iand d17_33 ?_
    obtain ⟨x5, ex5, h⟩ := lt_e h
    refine WP.istore (L' := (vR 0 :: vI p1 :: vI p2 :: vI p3 :: vI p4 :: vI x5 :: vU :: [])) d17_34 (leb rfl) (by subst ex5; rfl) ?_
    refine WP.aloadN d17_36 rfl ?_
    refine WP.iload d17_37 rfl ?_
    refine WP.iloadN d17_39 rfl ?_
    refine WP.iloadN d17_40 rfl ?_
    obtain ⟨c6, hc6, h⟩ := bd h
    refine WP.callP (i := 0) (y := y19) (as := [.int x5, .int p2, .int p3]) (S := []) d17_41 (hw _ m_126) (hw _ m_128) (hw _ m_5) (hw _ m_127) (hw _ m_129) (hw _ m_6) hy19 rfl (ok19 l Z a0 hw x5 p2 p3 s _ hc6) rfl (lenOf pd19 rfl) (leb rfl) (leb rfl) (leb rfl) (leb rfl) ?_
    rintro _ _ ⟨rfl, rfl⟩
    show W17 l Z n0 (P17 r) 0 0 44 (vR 0 :: vI p1 :: vI p2 :: vI p3 :: vI p4 :: vI x5 :: vU :: []) [.int c6] (Hb 0 s)
    rcases ite_e h with ⟨hc7, h⟩ | ⟨hc7, h⟩
    ·
     refine WP.ifN d17_44 (XT.i0_ne_f hc7) ?_
     refine WP.iconst (-1 : Int32) d17_47 rfl ?_
     cases h
     exact WP.ireturn d17_48 rfl (leb rfl) (leb rfl) ⟨rfl, rfl⟩
    ·
     refine WP.ifY (pc' := 49) d17_44 (XT.i0_ne_t hc7) (by decide) rfl ?_
     refine WP.iload d17_49 rfl ?_
     refine WP.iconst (1 : Int32) d17_51 rfl ?_
     rcases ite_e h with ⟨hc8, h⟩ | ⟨hc8, h⟩
     ·
      refine WP.icmpN d17_52 (XT.ii_ne_f hc8) ?_
      refine WP.aloadN d17_55 rfl ?_
      refine WP.iload d17_56 rfl ?_
      obtain ⟨c9, hc9, h⟩ := bd h
      refine WP.callP (i := 0) (y := y9) (as := [.int p4]) (S := []) d17_58 (hw _ m_85) (hw _ m_87) (hw _ m_5) (hw _ m_86) (hw _ m_88) (hw _ m_6) hy9 rfl (ok9 l Z a0 hw p4 s _ hc9) rfl (lenOf pd9 rfl) (leb rfl) (leb rfl) (leb rfl) (leb rfl) ?_
      rintro _ _ ⟨rfl, rfl⟩
      show W17 l Z n0 (P17 r) 0 0 61 (vR 0 :: vI p1 :: vI p2 :: vI p3 :: vI p4 :: vI x5 :: vU :: []) [.int c9] (Hb 0 s)
      rcases ite_e h with ⟨hc10, h⟩ | ⟨hc10, h⟩
      ·
       refine WP.ifN d17_61 (XT.i0_ne_f hc10) ?_
       refine WP.iconst (-1 : Int32) d17_64 rfl ?_
       cases h
       exact WP.ireturn d17_65 rfl (leb rfl) (leb rfl) ⟨rfl, rfl⟩
      ·
       refine WP.ifY (pc' := 66) d17_61 (XT.i0_ne_t hc10) (by decide) rfl ?_
       exact WP.weak (L' := (vR 0 :: vI p1 :: vI p2 :: vI p3 :: vI p4 :: vI x5 :: vU :: [])) ⟨rfl, rfl, rfl, rfl, rfl, rfl, trivial⟩ (ok17_66 l Z a0 hw n0 p1 p2 p3 p4 x5 s _ h)
     ·
      refine WP.icmpY (pc' := 66) d17_52 (XT.ii_ne_t hc8) (by decide) rfl ?_
      exact WP.weak (L' := (vR 0 :: vI p1 :: vI p2 :: vI p3 :: vI p4 :: vI x5 :: vU :: [])) ⟨rfl, rfl, rfl, rfl, rfl, rfl, trivial⟩ (ok17_66 l Z a0 hw n0 p1 p2 p3 p4 x5 s _ h)
 ·
  refine WP.ifY (pc' := 18) d17_4 (XT.i0_ne_t hc1) (by decide) rfl ?_
  exact WP.weak (L' := (vU :: vU :: vU :: vU :: vU :: vU :: vU :: [])) trivial (ok17_18 l Z a0 hw n0 s _ h)
theorem d21_0 : dc method_10_code 0 (.iload_n 0) 1 := by decide +kernel
theorem d21_1 : dc method_10_code 1 (.iconst 5) 1 := by decide +kernel
theorem d21_2 : dc method_10_code 2 (.iushr) 1 := by decide +kernel
theorem d21_3 : dc method_10_code 3 (.iconst 1) 1 := by decide +kernel
theorem d21_4 : dc method_10_code 4 (.iand) 1 := by decide +kernel
theorem d21_5 : dc method_10_code 5 (.ifCond .ne 7) 3 := by decide +kernel
theorem d21_8 : dc method_10_code 8 (.iconst 1) 1 := by decide +kernel
theorem d21_9 : dc method_10_code 9 (.goto 4) 3 := by decide +kernel
theorem d21_12 : dc method_10_code 12 (.iconst 0) 1 := by decide +kernel
theorem d21_13 : dc method_10_code 13 (.ireturn) 1 := by decide +kernel
abbrev y21 : MethodName := ⟨"PictureCobolOwnLaw", "targetOf", "(I)Z"⟩
theorem hy21 : y21.cls ≠ "java/lang/invoke/MethodHandle" ∧ y21.cls ≠ "java/lang/invoke/VarHandle" := by decide
theorem pd21 : parseMethodDescriptor y21.desc = some ⟨[.int], some .boolean⟩ := by decide +kernel
abbrev R21 : Room := { frames := 0, cells := 0, slots := 0, locals := 0 }
abbrev P21 (r : Int32) : Option Value → List OwnC → Prop := fun v H' => v = some (.int r) ∧ H' = ([] : List OwnC)
abbrev W21 (l : Launch) (Z : State) (n0 : Nat) (Q : Option Value → List OwnC → Prop) (k n pc : Nat) (L : List Slot) (S : List Value) (H : List OwnC) : Prop := WP l Z CN lay "PictureCobolOwnLaw" "targetOf" method_10_code 1 (some FieldType.boolean) R21 n0 0 Q k n pc L S H
def f_L_targetOf_13 (t0 : Int32) : Option (Int32) :=
 some (t0 &&& 1)
theorem ok21_13 (l : Launch) (Z : State) (a0 : Array Value) (hw : HW a0 Z) (n0 : Nat) (t0 r : Int32) (h : f_L_targetOf_13 t0 = some r) : W21 l Z n0 (P21 r) 0 0 13 (vU :: []) [.int t0] ([] : List OwnC) := by
 unfold f_L_targetOf_13 at h
 cases h
 exact WP.zreturn d21_13 rfl (leb rfl) (leb rfl) ⟨rfl, rfl⟩
def f_L_targetOf (p0 : Int32) : Option (Int32) :=
 if ((XT.ushr p0 (5 : Int32)) &&& (1 : Int32)) = 0 then
  f_L_targetOf_13 (1 : Int32)
 else
  f_L_targetOf_13 (0 : Int32)
theorem ok21 (l : Launch) (Z : State) (a0 : Array Value) (hw : HW a0 Z) (p0 r : Int32) (h : f_L_targetOf p0 = some r) : CS l Z CN lay y21 method_10_code 1 (some FieldType.boolean) R21 0 [.int p0] ([] : List OwnC) (P21 r) := by
 refine CS.of_wp pn_law (leb rfl) fun n0 => ?_
 show W21 l Z n0 (P21 r) 0 0 0 (vI p0 :: []) [] ([] : List OwnC)
 unfold f_L_targetOf at h
 refine WP.iloadN d21_0 rfl ?_
 refine WP.iconst (5 : Int32) d21_1 rfl ?_
 refine WP.iushr d21_2 ?_
 refine WP.iconst (1 : Int32) d21_3 rfl ?_
 refine WP.iand d21_4 ?_
 rcases ite_e h with ⟨hc1, h⟩ | ⟨hc1, h⟩
 ·
  refine WP.ifN d21_5 (XT.i0_ne_f hc1) ?_
  refine WP.iconst (1 : Int32) d21_8 rfl ?_
  refine WP.goto (pc' := 13) d21_9 (by decide) rfl ?_
  exact WP.weak (L' := (vU :: [])) trivial (ok21_13 l Z a0 hw n0 (1 : Int32) _ h)
 ·
  refine WP.ifY (pc' := 12) d21_5 (XT.i0_ne_t hc1) (by decide) rfl ?_
  refine WP.iconst (0 : Int32) d21_12 rfl ?_
  exact WP.weak (L' := (vU :: [])) trivial (ok21_13 l Z a0 hw n0 (0 : Int32) _ h)
theorem d25_0 : dc k19 0 (.iload_n 1) 1 := by decide +kernel
theorem d25_1 : dc k19 1 (.ifCond .lt 12) 3 := by decide +kernel
theorem d25_4 : dc k19 4 (.iload_n 1) 1 := by decide +kernel
theorem d25_5 : dc k19 5 (.iload_n 2) 1 := by decide +kernel
theorem d25_6 : dc k19 6 (.if_icmp .gt 7) 3 := by decide +kernel
theorem d25_9 : dc k19 9 (.iconst 1) 1 := by decide +kernel
theorem d25_10 : dc k19 10 (.goto 4) 3 := by decide +kernel
theorem d25_13 : dc k19 13 (.iconst 0) 1 := by decide +kernel
theorem d25_14 : dc k19 14 (.ireturn) 1 := by decide +kernel
abbrev y25 : MethodName := ⟨"PictureCobol", "inTargets", "(II)Z"⟩
theorem hy25 : y25.cls ≠ "java/lang/invoke/MethodHandle" ∧ y25.cls ≠ "java/lang/invoke/VarHandle" := by decide
theorem pd25 : parseMethodDescriptor y25.desc = some ⟨[.int, .int], some .boolean⟩ := by decide +kernel
abbrev R25 : Room := { frames := 0, cells := 0, slots := 0, locals := 0 }
abbrev P25 (s : St) (r : Int32) : Option Value → List OwnC → Prop := fun v H' => v = some (.int r) ∧ H' = (Hb 0 s)
abbrev W25 (l : Launch) (Z : State) (n0 : Nat) (Q : Option Value → List OwnC → Prop) (k n pc : Nat) (L : List Slot) (S : List Value) (H : List OwnC) : Prop := WP l Z CN lay "PictureCobol" "inTargets" prog_1_method_22_code 3 (some FieldType.boolean) R25 n0 0 Q k n pc L S H
def f_inTargets_14 (t0 : Int32) (s : St) : Option (Int32) :=
 some (t0 &&& 1)
theorem ok25_14 (l : Launch) (Z : State) (a0 : Array Value) (hw : HW a0 Z) (n0 : Nat) (t0 : Int32) (s : St) (r : Int32) (h : f_inTargets_14 t0 s = some r) : W25 l Z n0 (P25 s r) 0 0 14 (vU :: vU :: vU :: []) [.int t0] (Hb 0 s) := by
 unfold f_inTargets_14 at h
 cases h
 exact WP.zreturn d25_14 rfl (leb rfl) (leb rfl) ⟨rfl, rfl⟩
def f_inTargets_13 (s : St) : Option (Int32) :=
 f_inTargets_14 (0 : Int32) s
theorem ok25_13 (l : Launch) (Z : State) (a0 : Array Value) (hw : HW a0 Z) (n0 : Nat) (s : St) (r : Int32) (h : f_inTargets_13 s = some r) : W25 l Z n0 (P25 s r) 0 0 13 (vU :: vU :: vU :: []) [] (Hb 0 s) := by
 unfold f_inTargets_13 at h
 refine WP.iconst (0 : Int32) d25_13 rfl ?_
 exact WP.weak (L' := (vU :: vU :: vU :: [])) trivial (ok25_14 l Z a0 hw n0 (0 : Int32) s _ h)
def f_inTargets (p1 p2 : Int32) (s : St) : Option (Int32) :=
 if p1 < 0 then
  f_inTargets_13 s
 else
  if p2 < p1 then
   f_inTargets_13 s
  else
   f_inTargets_14 (1 : Int32) s
theorem ok25 (l : Launch) (Z : State) (a0 : Array Value) (hw : HW a0 Z) (p1 p2 : Int32) (s : St) (r : Int32) (h : f_inTargets p1 p2 s = some r) : CS l Z CN lay y25 prog_1_method_22_code 3 (some FieldType.boolean) R25 0 [.ref 0, .int p1, .int p2] (Hb 0 s) (P25 s r) := by
 refine CS.of_wp pn_cls (leb rfl) fun n0 => ?_
 show W25 l Z n0 (P25 s r) 0 0 0 (vR 0 :: vI p1 :: vI p2 :: []) [] (Hb 0 s)
 unfold f_inTargets at h
 refine WP.iloadN d25_0 rfl ?_
 rcases ite_e h with ⟨hc1, h⟩ | ⟨hc1, h⟩
 ·
  refine WP.ifY (pc' := 13) d25_1 (XT.i0_lt_t hc1) (by decide) rfl ?_
  exact WP.weak (L' := (vU :: vU :: vU :: [])) trivial (ok25_13 l Z a0 hw n0 s _ h)
 ·
  refine WP.ifN d25_1 (XT.i0_lt_f hc1) ?_
  refine WP.iloadN d25_4 rfl ?_
  refine WP.iloadN d25_5 rfl ?_
  rcases ite_e h with ⟨hc2, h⟩ | ⟨hc2, h⟩
  ·
   refine WP.icmpY (pc' := 13) d25_6 (XT.ii_gt_t hc2) (by decide) rfl ?_
   exact WP.weak (L' := (vU :: vU :: vU :: [])) trivial (ok25_13 l Z a0 hw n0 s _ h)
  ·
   refine WP.icmpN d25_6 (XT.ii_gt_f hc2) ?_
   refine WP.iconst (1 : Int32) d25_9 rfl ?_
   refine WP.goto (pc' := 14) d25_10 (by decide) rfl ?_
   exact WP.weak (L' := (vU :: vU :: vU :: [])) trivial (ok25_14 l Z a0 hw n0 (1 : Int32) s _ h)
theorem d24_0 : dc k20 0 (.aload_n 0) 1 := by decide +kernel
theorem d24_1 : dc k20 1 (.getfield 23) 3 := by decide +kernel
theorem d24_4 : dc k20 4 (.iload_n 1) 1 := by decide +kernel
theorem d24_5 : dc k20 5 (.iaload) 1 := by decide +kernel
theorem d24_6 : dc k20 6 (.istore_n 3) 1 := by decide +kernel
theorem d24_7 : dc k20 7 (.iload_n 3) 1 := by decide +kernel
theorem d24_8 : dc k20 8 (.bipush 6) 2 := by decide +kernel
theorem d24_10 : dc k20 10 (.if_icmp .eq 15) 3 := by decide +kernel
theorem d24_13 : dc k20 13 (.iload_n 3) 1 := by decide +kernel
theorem d24_14 : dc k20 14 (.bipush 7) 2 := by decide +kernel
theorem d24_16 : dc k20 16 (.if_icmp .eq 9) 3 := by decide +kernel
theorem d24_19 : dc k20 19 (.iload_n 3) 1 := by decide +kernel
theorem d24_20 : dc k20 20 (.bipush 8) 2 := by decide +kernel
theorem d24_22 : dc k20 22 (.if_icmp .ne 23) 3 := by decide +kernel
theorem d24_25 : dc k20 25 (.aload_n 0) 1 := by decide +kernel
theorem d24_26 : dc k20 26 (.aload_n 0) 1 := by decide +kernel
theorem d24_27 : dc k20 27 (.getfield 35) 3 := by decide +kernel
theorem d24_30 : dc k20 30 (.iload_n 1) 1 := by decide +kernel
theorem d24_31 : dc k20 31 (.iaload) 1 := by decide +kernel
theorem d24_32 : dc k20 32 (.iload_n 2) 1 := by decide +kernel
theorem d24_33 : dc k20 33 (.invokevirtual 107) 3 := by decide +kernel
theorem d24_36 : dc k20 36 (.ifCond .ne 7) 3 := by decide +kernel
theorem d24_39 : dc k20 39 (.iconst 1) 1 := by decide +kernel
theorem d24_40 : dc k20 40 (.goto 4) 3 := by decide +kernel
theorem d24_43 : dc k20 43 (.iconst 0) 1 := by decide +kernel
theorem d24_44 : dc k20 44 (.ireturn) 1 := by decide +kernel
theorem d24_45 : dc k20 45 (.aload_n 0) 1 := by decide +kernel
theorem d24_46 : dc k20 46 (.iload_n 3) 1 := by decide +kernel
theorem d24_47 : dc k20 47 (.invokevirtual 96) 3 := by decide +kernel
theorem d24_50 : dc k20 50 (.ifCond .eq 32) 3 := by decide +kernel
theorem d24_53 : dc k20 53 (.aload_n 0) 1 := by decide +kernel
theorem d24_54 : dc k20 54 (.getfield 38) 3 := by decide +kernel
theorem d24_57 : dc k20 57 (.iload_n 1) 1 := by decide +kernel
theorem d24_58 : dc k20 58 (.baload) 1 := by decide +kernel
theorem d24_59 : dc k20 59 (.ifCond .eq 23) 3 := by decide +kernel
theorem d24_62 : dc k20 62 (.aload_n 0) 1 := by decide +kernel
theorem d24_63 : dc k20 63 (.aload_n 0) 1 := by decide +kernel
theorem d24_64 : dc k20 64 (.getfield 41) 3 := by decide +kernel
theorem d24_67 : dc k20 67 (.iload_n 1) 1 := by decide +kernel
theorem d24_68 : dc k20 68 (.iaload) 1 := by decide +kernel
theorem d24_69 : dc k20 69 (.iload_n 2) 1 := by decide +kernel
theorem d24_70 : dc k20 70 (.invokevirtual 107) 3 := by decide +kernel
theorem d24_73 : dc k20 73 (.ifCond .ne 7) 3 := by decide +kernel
theorem d24_76 : dc k20 76 (.iconst 1) 1 := by decide +kernel
theorem d24_77 : dc k20 77 (.goto 4) 3 := by decide +kernel
theorem d24_80 : dc k20 80 (.iconst 0) 1 := by decide +kernel
theorem d24_81 : dc k20 81 (.ireturn) 1 := by decide +kernel
theorem d24_82 : dc k20 82 (.iconst 0) 1 := by decide +kernel
theorem d24_83 : dc k20 83 (.ireturn) 1 := by decide +kernel
abbrev y24 : MethodName := ⟨"PictureCobol", "isBad", "(II)Z"⟩
theorem hy24 : y24.cls ≠ "java/lang/invoke/MethodHandle" ∧ y24.cls ≠ "java/lang/invoke/VarHandle" := by decide
theorem pd24 : parseMethodDescriptor y24.desc = some ⟨[.int, .int], some .boolean⟩ := by decide +kernel
abbrev R24 : Room := { frames := 1, cells := 0, slots := 0, locals := 14 }
abbrev P24 (s : St) (r : Int32) : Option Value → List OwnC → Prop := fun v H' => v = some (.int r) ∧ H' = (Hb 0 s)
abbrev W24 (l : Launch) (Z : State) (n0 : Nat) (Q : Option Value → List OwnC → Prop) (k n pc : Nat) (L : List Slot) (S : List Value) (H : List OwnC) : Prop := WP l Z CN lay "PictureCobol" "isBad" prog_1_method_23_code 4 (some FieldType.boolean) R24 n0 0 Q k n pc L S H
def f_isBad_44 (t0 : Int32) (s : St) : Option (Int32) :=
 some (t0 &&& 1)
theorem ok24_44 (l : Launch) (Z : State) (a0 : Array Value) (hw : HW a0 Z) (n0 : Nat) (t0 : Int32) (s : St) (r : Int32) (h : f_isBad_44 t0 s = some r) : W24 l Z n0 (P24 s r) 0 0 44 (vU :: vU :: vU :: vU :: []) [.int t0] (Hb 0 s) := by
 unfold f_isBad_44 at h
 cases h
 exact WP.zreturn d24_44 rfl (leb rfl) (leb rfl) ⟨rfl, rfl⟩
def f_isBad_25 (v1 v2 : Int32) (s : St) : Option (Int32) :=
 (rd (gA s 8) v1).bind fun x1 =>
 (f_inTargets x1 v2 s).bind fun c2 =>
 if c2 = 0 then
  f_isBad_44 (1 : Int32) s
 else
  f_isBad_44 (0 : Int32) s
theorem ok24_25 (l : Launch) (Z : State) (a0 : Array Value) (hw : HW a0 Z) (n0 : Nat) (v1 v2 : Int32) (s : St) (r : Int32) (h : f_isBad_25 v1 v2 s = some r) : W24 l Z n0 (P24 s r) 0 0 25 (vR 0 :: vI v1 :: vI v2 :: vU :: []) [] (Hb 0 s) := by
 unfold f_isBad_25 at h
 refine WP.aloadN d24_25 rfl ?_
 refine WP.aloadN d24_26 rfl ?_
 refine WP.getfield (i := 0) (j := 12) d24_27 (hw _ m_31) rfl rfl rfl ?_
 refine WP.iloadN d24_30 rfl ?_
 obtain ⟨x1, hx1, h⟩ := bd h
 refine WP.iaload (i := 9) d24_31 rfl hx1 ?_
 refine WP.iloadN d24_32 rfl ?_
 obtain ⟨c2, hc2, h⟩ := bd h
 refine WP.callP (i := 0) (y := y25) (as := [.int x1, .int v2]) (S := []) d24_33 (hw _ m_151) (hw _ m_153) (hw _ m_5) (hw _ m_152) (hw _ m_154) (hw _ m_6) hy25 rfl (ok25 l Z a0 hw x1 v2 s _ hc2) rfl (lenOf pd25 rfl) (leb rfl) (leb rfl) (leb rfl) (leb rfl) ?_
 rintro _ _ ⟨rfl, rfl⟩
 show W24 l Z n0 (P24 s r) 0 0 36 (vR 0 :: vI v1 :: vI v2 :: vU :: []) [.int c2] (Hb 0 s)
 rcases ite_e h with ⟨hc3, h⟩ | ⟨hc3, h⟩
 ·
  refine WP.ifN d24_36 (XT.i0_ne_f hc3) ?_
  refine WP.iconst (1 : Int32) d24_39 rfl ?_
  refine WP.goto (pc' := 44) d24_40 (by decide) rfl ?_
  exact WP.weak (L' := (vU :: vU :: vU :: vU :: [])) trivial (ok24_44 l Z a0 hw n0 (1 : Int32) s _ h)
 ·
  refine WP.ifY (pc' := 43) d24_36 (XT.i0_ne_t hc3) (by decide) rfl ?_
  refine WP.iconst (0 : Int32) d24_43 rfl ?_
  exact WP.weak (L' := (vU :: vU :: vU :: vU :: [])) trivial (ok24_44 l Z a0 hw n0 (0 : Int32) s _ h)
def f_isBad_81 (t0 : Int32) (s : St) : Option (Int32) :=
 some (t0 &&& 1)
theorem ok24_81 (l : Launch) (Z : State) (a0 : Array Value) (hw : HW a0 Z) (n0 : Nat) (t0 : Int32) (s : St) (r : Int32) (h : f_isBad_81 t0 s = some r) : W24 l Z n0 (P24 s r) 0 0 81 (vU :: vU :: vU :: vU :: []) [.int t0] (Hb 0 s) := by
 unfold f_isBad_81 at h
 cases h
 exact WP.zreturn d24_81 rfl (leb rfl) (leb rfl) ⟨rfl, rfl⟩
def f_isBad_82 (s : St) : Option (Int32) :=
 some (0 : Int32)
theorem ok24_82 (l : Launch) (Z : State) (a0 : Array Value) (hw : HW a0 Z) (n0 : Nat) (s : St) (r : Int32) (h : f_isBad_82 s = some r) : W24 l Z n0 (P24 s r) 0 0 82 (vU :: vU :: vU :: vU :: []) [] (Hb 0 s) := by
 unfold f_isBad_82 at h
 refine WP.iconst (0 : Int32) d24_82 rfl ?_
 cases h
 exact WP.zreturn d24_83 rfl (leb rfl) (leb rfl) ⟨rfl, rfl⟩
def f_isBad (p1 p2 : Int32) (s : St) : Option (Int32) :=
 (rd (gA s 4) p1).bind fun x1 =>
 if x1 = (6 : Int32) then
  f_isBad_25 p1 p2 s
 else
  if x1 = (7 : Int32) then
   f_isBad_25 p1 p2 s
  else
   if x1 = (8 : Int32) then
    f_isBad_25 p1 p2 s
   else
    (f_isArith x1 s).bind fun c5 =>
    if c5 = 0 then
     f_isBad_82 s
    else
     (rd (gA s 9) p1).bind fun x7 =>
     if x7 = 0 then
      f_isBad_82 s
     else
      (rd (gA s 10) p1).bind fun x9 =>
      (f_inTargets x9 p2 s).bind fun c10 =>
      if c10 = 0 then
       f_isBad_81 (1 : Int32) s
      else
       f_isBad_81 (0 : Int32) s
theorem ok24 (l : Launch) (Z : State) (a0 : Array Value) (hw : HW a0 Z) (p1 p2 : Int32) (s : St) (r : Int32) (h : f_isBad p1 p2 s = some r) : CS l Z CN lay y24 prog_1_method_23_code 4 (some FieldType.boolean) R24 0 [.ref 0, .int p1, .int p2] (Hb 0 s) (P24 s r) := by
 refine CS.of_wp pn_cls (leb rfl) fun n0 => ?_
 show W24 l Z n0 (P24 s r) 0 0 0 (vR 0 :: vI p1 :: vI p2 :: vU :: []) [] (Hb 0 s)
 unfold f_isBad at h
 refine WP.aloadN d24_0 rfl ?_
 refine WP.getfield (i := 0) (j := 8) d24_1 (hw _ m_23) rfl rfl rfl ?_
 refine WP.iloadN d24_4 rfl ?_
 obtain ⟨x1, hx1, h⟩ := bd h
 refine WP.iaload (i := 5) d24_5 rfl hx1 ?_
 refine WP.istoreN (L' := (vR 0 :: vI p1 :: vI p2 :: vI x1 :: [])) d24_6 (leb rfl) rfl ?_
 refine WP.iloadN d24_7 rfl ?_
 refine WP.bipush (6 : Int32) d24_8 rfl ?_
 rcases ite_e h with ⟨hc2, h⟩ | ⟨hc2, h⟩
 ·
  refine WP.icmpY (pc' := 25) d24_10 (XT.ii_eq_t hc2) (by decide) rfl ?_
  exact WP.weak (L' := (vR 0 :: vI p1 :: vI p2 :: vU :: [])) ⟨rfl, rfl, rfl, trivial⟩ (ok24_25 l Z a0 hw n0 p1 p2 s _ h)
 ·
  refine WP.icmpN d24_10 (XT.ii_eq_f hc2) ?_
  refine WP.iloadN d24_13 rfl ?_
  refine WP.bipush (7 : Int32) d24_14 rfl ?_
  rcases ite_e h with ⟨hc3, h⟩ | ⟨hc3, h⟩
  ·
   refine WP.icmpY (pc' := 25) d24_16 (XT.ii_eq_t hc3) (by decide) rfl ?_
   exact WP.weak (L' := (vR 0 :: vI p1 :: vI p2 :: vU :: [])) ⟨rfl, rfl, rfl, trivial⟩ (ok24_25 l Z a0 hw n0 p1 p2 s _ h)
  ·
   refine WP.icmpN d24_16 (XT.ii_eq_f hc3) ?_
   refine WP.iloadN d24_19 rfl ?_
   refine WP.bipush (8 : Int32) d24_20 rfl ?_
   rcases ite_e h with ⟨hc4, h⟩ | ⟨hc4, h⟩
   ·
    refine WP.icmpN d24_22 (XT.ii_ne_f hc4) ?_
    exact WP.weak (L' := (vR 0 :: vI p1 :: vI p2 :: vU :: [])) ⟨rfl, rfl, rfl, trivial⟩ (ok24_25 l Z a0 hw n0 p1 p2 s _ h)
   ·
    refine WP.icmpY (pc' := 45) d24_22 (XT.ii_ne_t hc4) (by decide) rfl ?_
    refine WP.aloadN d24_45 rfl ?_
    refine WP.iloadN d24_46 rfl ?_
    obtain ⟨c5, hc5, h⟩ := bd h
    refine WP.callP (i := 0) (y := y20) (as := [.int x1]) (S := []) d24_47 (hw _ m_130) (hw _ m_132) (hw _ m_5) (hw _ m_131) (hw _ m_133) (hw _ m_6) hy20 rfl (ok20 l Z a0 hw x1 s _ hc5) rfl (lenOf pd20 rfl) (leb rfl) (leb rfl) (leb rfl) (leb rfl) ?_
    rintro _ _ ⟨rfl, rfl⟩
    show W24 l Z n0 (P24 s r) 0 0 50 (vR 0 :: vI p1 :: vI p2 :: vI x1 :: []) [.int c5] (Hb 0 s)
    rcases ite_e h with ⟨hc6, h⟩ | ⟨hc6, h⟩
    ·
     refine WP.ifY (pc' := 82) d24_50 (XT.i0_eq_t hc6) (by decide) rfl ?_
     exact WP.weak (L' := (vU :: vU :: vU :: vU :: [])) trivial (ok24_82 l Z a0 hw n0 s _ h)
    ·
     refine WP.ifN d24_50 (XT.i0_eq_f hc6) ?_
     refine WP.aloadN d24_53 rfl ?_
     refine WP.getfield (i := 0) (j := 13) d24_54 (hw _ m_33) rfl rfl rfl ?_
     refine WP.iloadN d24_57 rfl ?_
     obtain ⟨x7, hx7, h⟩ := bd h
     refine WP.baload (i := 10) d24_58 rfl hx7 ?_
     rcases ite_e h with ⟨hc8, h⟩ | ⟨hc8, h⟩
     ·
      refine WP.ifY (pc' := 82) d24_59 (XT.i0_eq_t hc8) (by decide) rfl ?_
      exact WP.weak (L' := (vU :: vU :: vU :: vU :: [])) trivial (ok24_82 l Z a0 hw n0 s _ h)
     ·
      refine WP.ifN d24_59 (XT.i0_eq_f hc8) ?_
      refine WP.aloadN d24_62 rfl ?_
      refine WP.aloadN d24_63 rfl ?_
      refine WP.getfield (i := 0) (j := 14) d24_64 (hw _ m_35) rfl rfl rfl ?_
      refine WP.iloadN d24_67 rfl ?_
      obtain ⟨x9, hx9, h⟩ := bd h
      refine WP.iaload (i := 11) d24_68 rfl hx9 ?_
      refine WP.iloadN d24_69 rfl ?_
      obtain ⟨c10, hc10, h⟩ := bd h
      refine WP.callP (i := 0) (y := y25) (as := [.int x9, .int p2]) (S := []) d24_70 (hw _ m_151) (hw _ m_153) (hw _ m_5) (hw _ m_152) (hw _ m_154) (hw _ m_6) hy25 rfl (ok25 l Z a0 hw x9 p2 s _ hc10) rfl (lenOf pd25 rfl) (leb rfl) (leb rfl) (leb rfl) (leb rfl) ?_
      rintro _ _ ⟨rfl, rfl⟩
      show W24 l Z n0 (P24 s r) 0 0 73 (vR 0 :: vI p1 :: vI p2 :: vI x1 :: []) [.int c10] (Hb 0 s)
      rcases ite_e h with ⟨hc11, h⟩ | ⟨hc11, h⟩
      ·
       refine WP.ifN d24_73 (XT.i0_ne_f hc11) ?_
       refine WP.iconst (1 : Int32) d24_76 rfl ?_
       refine WP.goto (pc' := 81) d24_77 (by decide) rfl ?_
       exact WP.weak (L' := (vU :: vU :: vU :: vU :: [])) trivial (ok24_81 l Z a0 hw n0 (1 : Int32) s _ h)
      ·
       refine WP.ifY (pc' := 80) d24_73 (XT.i0_ne_t hc11) (by decide) rfl ?_
       refine WP.iconst (0 : Int32) d24_80 rfl ?_
       exact WP.weak (L' := (vU :: vU :: vU :: vU :: [])) trivial (ok24_81 l Z a0 hw n0 (0 : Int32) s _ h)
theorem d23_0 : dc k5 0 (.aload_n 0) 1 := by decide +kernel
theorem d23_1 : dc k5 1 (.getfield 61) 3 := by decide +kernel
theorem d23_4 : dc k5 4 (.ifCond .eq 5) 3 := by decide +kernel
theorem d23_7 : dc k5 7 (.iconst (-1)) 1 := by decide +kernel
theorem d23_8 : dc k5 8 (.ireturn) 1 := by decide +kernel
theorem d23_9 : dc k5 9 (.aload_n 0) 1 := by decide +kernel
theorem d23_10 : dc k5 10 (.getfield 58) 3 := by decide +kernel
theorem d23_13 : dc k5 13 (.istore_n 1) 1 := by decide +kernel
theorem d23_14 : dc k5 14 (.iconst 0) 1 := by decide +kernel
theorem d23_15 : dc k5 15 (.istore_n 2) 1 := by decide +kernel
theorem d23_16 : dc k5 16 (.iload_n 2) 1 := by decide +kernel
theorem d23_17 : dc k5 17 (.iload_n 1) 1 := by decide +kernel
theorem d23_18 : dc k5 18 (.if_icmp .ge 26) 3 := by decide +kernel
theorem d23_21 : dc k5 21 (.iload_n 2) 1 := by decide +kernel
theorem d23_22 : dc k5 22 (.bipush 32) 2 := by decide +kernel
theorem d23_24 : dc k5 24 (.if_icmp .ge 20) 3 := by decide +kernel
theorem d23_27 : dc k5 27 (.aload_n 0) 1 := by decide +kernel
theorem d23_28 : dc k5 28 (.iload_n 2) 1 := by decide +kernel
theorem d23_29 : dc k5 29 (.iload_n 1) 1 := by decide +kernel
theorem d23_30 : dc k5 30 (.invokevirtual 99) 3 := by decide +kernel
theorem d23_33 : dc k5 33 (.ifCond .eq 5) 3 := by decide +kernel
theorem d23_36 : dc k5 36 (.iload_n 2) 1 := by decide +kernel
theorem d23_37 : dc k5 37 (.ireturn) 1 := by decide +kernel
theorem d23_38 : dc k5 38 (.iinc 2 1) 3 := by decide +kernel
theorem d23_41 : dc k5 41 (.goto (-25)) 3 := by decide +kernel
theorem d23_44 : dc k5 44 (.aload_n 0) 1 := by decide +kernel
theorem d23_45 : dc k5 45 (.iconst 1) 1 := by decide +kernel
theorem d23_46 : dc k5 46 (.putfield 61) 3 := by decide +kernel
theorem d23_49 : dc k5 49 (.aload_n 0) 1 := by decide +kernel
theorem d23_50 : dc k5 50 (.iconst 0) 1 := by decide +kernel
theorem d23_51 : dc k5 51 (.putfield 68) 3 := by decide +kernel
theorem d23_54 : dc k5 54 (.aload_n 0) 1 := by decide +kernel
theorem d23_55 : dc k5 55 (.iconst 0) 1 := by decide +kernel
theorem d23_56 : dc k5 56 (.putfield 65) 3 := by decide +kernel
theorem d23_59 : dc k5 59 (.aload_n 0) 1 := by decide +kernel
theorem d23_60 : dc k5 60 (.iconst 0) 1 := by decide +kernel
theorem d23_61 : dc k5 61 (.putfield 71) 3 := by decide +kernel
theorem d23_64 : dc k5 64 (.aload_n 0) 1 := by decide +kernel
theorem d23_65 : dc k5 65 (.iconst 0) 1 := by decide +kernel
theorem d23_66 : dc k5 66 (.putfield 74) 3 := by decide +kernel
theorem d23_69 : dc k5 69 (.bipush (-2)) 2 := by decide +kernel
theorem d23_71 : dc k5 71 (.ireturn) 1 := by decide +kernel
abbrev y23 : MethodName := ⟨"PictureCobol", "compile", "()I"⟩
theorem hy23 : y23.cls ≠ "java/lang/invoke/MethodHandle" ∧ y23.cls ≠ "java/lang/invoke/VarHandle" := by decide
theorem pd23 : parseMethodDescriptor y23.desc = some ⟨[], some .int⟩ := by decide +kernel
abbrev R23 : Room := { frames := 2, cells := 0, slots := 0, locals := 29 }
abbrev P23 (r : Int32 × St) : Option Value → List OwnC → Prop := fun v H' => v = some (.int r.1) ∧ H' = (Hb 0 r.2)
abbrev W23 (l : Launch) (Z : State) (n0 : Nat) (Q : Option Value → List OwnC → Prop) (k n pc : Nat) (L : List Slot) (S : List Value) (H : List OwnC) : Prop := WP l Z CN lay "PictureCobol" "compile" prog_1_method_6_code 3 (some FieldType.int) R23 n0 0 Q k n pc L S H
def f_compile_44 (n : Nat) (s : St) : Option (Int32 × St) :=
 lt (sI s 4 (1 : Int32)) fun s1 =>
 lt (sI s1 6 (0 : Int32)) fun s2 =>
 lt (sI s2 5 (0 : Int32)) fun s3 =>
 lt (sI s3 7 (0 : Int32)) fun s4 =>
 lt (sI s4 8 (0 : Int32)) fun s5 =>
 some ((-2 : Int32), s5)
theorem ok23_44 (l : Launch) (Z : State) (a0 : Array Value) (hw : HW a0 Z) (n0 n : Nat) (s : St) (r : Int32 × St) (h : f_compile_44 n s = some r) : W23 l Z n0 (P23 r) 0 0 44 (vR 0 :: vU :: vU :: []) [] (Hb 0 s) := by
 unfold f_compile_44 at h
 refine WP.aloadN d23_44 rfl ?_
 refine WP.iconst (1 : Int32) d23_45 rfl ?_
 obtain ⟨s1, es1, h⟩ := lt_e h
 refine WP.putZ (i := 0) (j := 15) (H' := (Hb 0 s1)) d23_46 (hw _ m_49) (Or.inl (hw _ m_50)) (hw _ m_5) (hlay hw) rfl rfl rfl (leb rfl) (by subst es1; rfl) ?_
 refine WP.aloadN d23_49 rfl ?_
 refine WP.iconst (0 : Int32) d23_50 rfl ?_
 obtain ⟨s2, es2, h⟩ := lt_e h
 refine WP.putI (i := 0) (j := 17) (H' := (Hb 0 s2)) d23_51 (hw _ m_53) (Or.inl (hw _ m_54)) (hw _ m_5) (hlay hw) rfl rfl rfl (leb rfl) (by subst es2; rfl) ?_
 refine WP.aloadN d23_54 rfl ?_
 refine WP.iconst (0 : Int32) d23_55 rfl ?_
 obtain ⟨s3, es3, h⟩ := lt_e h
 refine WP.putZ (i := 0) (j := 16) (H' := (Hb 0 s3)) d23_56 (hw _ m_51) (Or.inl (hw _ m_52)) (hw _ m_5) (hlay hw) rfl rfl rfl (leb rfl) (by subst es3; rfl) ?_
 refine WP.aloadN d23_59 rfl ?_
 refine WP.iconst (0 : Int32) d23_60 rfl ?_
 obtain ⟨s4, es4, h⟩ := lt_e h
 refine WP.putI (i := 0) (j := 18) (H' := (Hb 0 s4)) d23_61 (hw _ m_55) (Or.inl (hw _ m_56)) (hw _ m_5) (hlay hw) rfl rfl rfl (leb rfl) (by subst es4; rfl) ?_
 refine WP.aloadN d23_64 rfl ?_
 refine WP.iconst (0 : Int32) d23_65 rfl ?_
 obtain ⟨s5, es5, h⟩ := lt_e h
 refine WP.putI (i := 0) (j := 19) (H' := (Hb 0 s5)) d23_66 (hw _ m_57) (Or.inl (hw _ m_58)) (hw _ m_5) (hlay hw) rfl rfl rfl (leb rfl) (by subst es5; rfl) ?_
 refine WP.bipush (-2 : Int32) d23_69 rfl ?_
 cases h
 exact WP.ireturn d23_71 rfl (leb rfl) (leb rfl) ⟨rfl, rfl⟩
def g_compile_16 (k16 : KT1) (n : Nat) (v1 v2 : Int32) (s : St) : Option (Int32 × St) :=
 if v2 < v1 then
  if v2 < (32 : Int32) then
   (f_isBad v2 v1 s).bind fun c3 =>
   if c3 = 0 then
    lt (v2 + (1 : Int32)) fun x5 =>
    k16 v1 x5 s
   else
    some (v2, s)
  else
   f_compile_44 n s
 else
  f_compile_44 n s
abbrev HK23_16 (l : Launch) (Z : State) (n0 : Nat) (k16 : KT1) : Prop := ∀ (v1 v2 : Int32) (s : St) (r : Int32 × St), k16 v1 v2 s = some r → W23 l Z n0 (P23 r) 0 0 16 (vR 0 :: vI v1 :: vI v2 :: []) [] (Hb 0 s)
theorem okg23_16 (l : Launch) (Z : State) (a0 : Array Value) (hw : HW a0 Z) (n0 : Nat) (k16 : KT1) (hk16 : HK23_16 l Z n0 k16) (n : Nat) (v1 v2 : Int32) (s : St) (r : Int32 × St) (h : g_compile_16 k16 n v1 v2 s = some r) : W23 l Z n0 (P23 r) 0 0 16 (vR 0 :: vI v1 :: vI v2 :: []) [] (Hb 0 s) := by
 unfold g_compile_16 at h
 refine WP.iloadN d23_16 rfl ?_
 refine WP.iloadN d23_17 rfl ?_
 rcases ite_e h with ⟨hc1, h⟩ | ⟨hc1, h⟩
 ·
  refine WP.icmpN d23_18 (XT.ii_ge_f hc1) ?_
  refine WP.iloadN d23_21 rfl ?_
  refine WP.bipush (32 : Int32) d23_22 rfl ?_
  rcases ite_e h with ⟨hc2, h⟩ | ⟨hc2, h⟩
  ·
   refine WP.icmpN d23_24 (XT.ii_ge_f hc2) ?_
   refine WP.aloadN d23_27 rfl ?_
   refine WP.iloadN d23_28 rfl ?_
   refine WP.iloadN d23_29 rfl ?_
   obtain ⟨c3, hc3, h⟩ := bd h
   refine WP.callP (i := 0) (y := y24) (as := [.int v2, .int v1]) (S := []) d23_30 (hw _ m_147) (hw _ m_149) (hw _ m_5) (hw _ m_148) (hw _ m_150) (hw _ m_6) hy24 rfl (ok24 l Z a0 hw v2 v1 s _ hc3) rfl (lenOf pd24 rfl) (leb rfl) (leb rfl) (leb rfl) (leb rfl) ?_
   rintro _ _ ⟨rfl, rfl⟩
   show W23 l Z n0 (P23 r) 0 0 33 (vR 0 :: vI v1 :: vI v2 :: []) [.int c3] (Hb 0 s)
   rcases ite_e h with ⟨hc4, h⟩ | ⟨hc4, h⟩
   ·
    refine WP.ifY (pc' := 38) d23_33 (XT.i0_eq_t hc4) (by decide) rfl ?_
    obtain ⟨x5, ex5, h⟩ := lt_e h
    refine WP.iinc (L' := (vR 0 :: vI v1 :: vI x5 :: [])) (1 : Int32) d23_38 rfl rfl (by subst ex5; rfl) ?_
    refine WP.goto (pc' := 16) d23_41 (by decide) rfl ?_
    exact WP.weak (L' := (vR 0 :: vI v1 :: vI x5 :: [])) ⟨rfl, rfl, rfl, trivial⟩ (hk16 v1 x5 s _ h)
   ·
    refine WP.ifN d23_33 (XT.i0_eq_f hc4) ?_
    refine WP.iloadN d23_36 rfl ?_
    cases h
    exact WP.ireturn d23_37 rfl (leb rfl) (leb rfl) ⟨rfl, rfl⟩
  ·
   refine WP.icmpY (pc' := 44) d23_24 (XT.ii_ge_t hc2) (by decide) rfl ?_
   exact WP.weak (L' := (vR 0 :: vU :: vU :: [])) ⟨rfl, trivial⟩ (ok23_44 l Z a0 hw n0 n s _ h)
 ·
  refine WP.icmpY (pc' := 44) d23_18 (XT.ii_ge_t hc1) (by decide) rfl ?_
  exact WP.weak (L' := (vR 0 :: vU :: vU :: [])) ⟨rfl, trivial⟩ (ok23_44 l Z a0 hw n0 n s _ h)
def f_compile_16 : Nat → Int32 → Int32 → St → Option (Int32 × St)
 | 0 => fun _ _ _ => none
 | n + 1 => g_compile_16 (f_compile_16 n) n
theorem ok23_16 (l : Launch) (Z : State) (a0 : Array Value) (hw : HW a0 Z) (n0 : Nat) : ∀ (n : Nat) (v1 v2 : Int32) (s : St) (r : Int32 × St), f_compile_16 n v1 v2 s = some r → W23 l Z n0 (P23 r) 0 0 16 (vR 0 :: vI v1 :: vI v2 :: []) [] (Hb 0 s)
 | 0, v1, v2, s, r, h => nomatch (show none = some r from h)
 | n + 1, v1, v2, s, r, h => okg23_16 l Z a0 hw n0 _ (ok23_16 l Z a0 hw n0 n) n v1 v2 s r h
def f_compile (n : Nat) (s : St) : Option (Int32 × St) :=
 if (gI s 4) = 0 then
  lt (gI s 3) fun x2 =>
  f_compile_16 n x2 (0 : Int32) s
 else
  some ((-1 : Int32), s)
theorem ok23 (l : Launch) (Z : State) (a0 : Array Value) (hw : HW a0 Z) (n : Nat) (s : St) (r : Int32 × St) (h : f_compile n s = some r) : CS l Z CN lay y23 prog_1_method_6_code 3 (some FieldType.int) R23 0 [.ref 0] (Hb 0 s) (P23 r) := by
 refine CS.of_wp pn_cls (leb rfl) fun n0 => ?_
 show W23 l Z n0 (P23 r) 0 0 0 (vR 0 :: vU :: vU :: []) [] (Hb 0 s)
 unfold f_compile at h
 refine WP.aloadN d23_0 rfl ?_
 refine WP.getfield (i := 0) (j := 15) d23_1 (hw _ m_49) rfl rfl rfl ?_
 rcases ite_e h with ⟨hc1, h⟩ | ⟨hc1, h⟩
 ·
  refine WP.ifY (pc' := 9) d23_4 (XT.i0_eq_t hc1) (by decide) rfl ?_
  refine WP.aloadN d23_9 rfl ?_
  refine WP.getfield (i := 0) (j := 7) d23_10 (hw _ m_47) rfl rfl rfl ?_
  obtain ⟨x2, ex2, h⟩ := lt_e h
  refine WP.istoreN (L' := (vR 0 :: vI x2 :: vU :: [])) d23_13 (leb rfl) (by subst ex2; rfl) ?_
  refine WP.iconst (0 : Int32) d23_14 rfl ?_
  refine WP.istoreN (L' := (vR 0 :: vI x2 :: vI (0 : Int32) :: [])) d23_15 (leb rfl) rfl ?_
  exact WP.weak (L' := (vR 0 :: vI x2 :: vI (0 : Int32) :: [])) ⟨rfl, rfl, rfl, trivial⟩ (ok23_16 l Z a0 hw n0 n x2 (0 : Int32) s _ h)
 ·
  refine WP.ifN d23_4 (XT.i0_eq_f hc1) ?_
  refine WP.iconst (-1 : Int32) d23_7 rfl ?_
  cases h
  exact WP.ireturn d23_8 rfl (leb rfl) (leb rfl) ⟨rfl, rfl⟩
theorem d26_0 : dc k10 0 (.aload_n 0) 1 := by decide +kernel
theorem d26_1 : dc k10 1 (.getfield 65) 3 := by decide +kernel
theorem d26_4 : dc k10 4 (.ireturn) 1 := by decide +kernel
abbrev y26 : MethodName := ⟨"PictureCobol", "isHalted", "()Z"⟩
theorem hy26 : y26.cls ≠ "java/lang/invoke/MethodHandle" ∧ y26.cls ≠ "java/lang/invoke/VarHandle" := by decide
theorem pd26 : parseMethodDescriptor y26.desc = some ⟨[], some .boolean⟩ := by decide +kernel
abbrev R26 : Room := { frames := 0, cells := 0, slots := 0, locals := 0 }
abbrev P26 (s : St) (r : Int32) : Option Value → List OwnC → Prop := fun v H' => v = some (.int r) ∧ H' = (Hb 0 s)
abbrev W26 (l : Launch) (Z : State) (n0 : Nat) (Q : Option Value → List OwnC → Prop) (k n pc : Nat) (L : List Slot) (S : List Value) (H : List OwnC) : Prop := WP l Z CN lay "PictureCobol" "isHalted" prog_1_method_11_code 1 (some FieldType.boolean) R26 n0 0 Q k n pc L S H
def f_isHalted (s : St) : Option (Int32) :=
 some ((gI s 5) &&& 1)
theorem ok26 (l : Launch) (Z : State) (a0 : Array Value) (hw : HW a0 Z) (s : St) (r : Int32) (h : f_isHalted s = some r) : CS l Z CN lay y26 prog_1_method_11_code 1 (some FieldType.boolean) R26 0 [.ref 0] (Hb 0 s) (P26 s r) := by
 refine CS.of_wp pn_cls (leb rfl) fun n0 => ?_
 show W26 l Z n0 (P26 s r) 0 0 0 (vR 0 :: []) [] (Hb 0 s)
 unfold f_isHalted at h
 refine WP.aloadN d26_0 rfl ?_
 refine WP.getfield (i := 0) (j := 16) d26_1 (hw _ m_51) rfl rfl rfl ?_
 cases h
 exact WP.zreturn d26_4 rfl (leb rfl) (leb rfl) ⟨rfl, rfl⟩
theorem d37_0 : dc k7 0 (.aload_n 0) 1 := by decide +kernel
theorem d37_1 : dc k7 1 (.getfield 61) 3 := by decide +kernel
theorem d37_4 : dc k7 4 (.ifCond .ne 5) 3 := by decide +kernel
theorem d37_7 : dc k7 7 (.iconst 0) 1 := by decide +kernel
theorem d37_8 : dc k7 8 (.ireturn) 1 := by decide +kernel
theorem d37_9 : dc k7 9 (.aload_n 0) 1 := by decide +kernel
theorem d37_10 : dc k7 10 (.iconst 0) 1 := by decide +kernel
theorem d37_11 : dc k7 11 (.putfield 68) 3 := by decide +kernel
theorem d37_14 : dc k7 14 (.aload_n 0) 1 := by decide +kernel
theorem d37_15 : dc k7 15 (.iconst 0) 1 := by decide +kernel
theorem d37_16 : dc k7 16 (.putfield 65) 3 := by decide +kernel
theorem d37_19 : dc k7 19 (.iconst 1) 1 := by decide +kernel
theorem d37_20 : dc k7 20 (.ireturn) 1 := by decide +kernel
abbrev y37 : MethodName := ⟨"PictureCobol", "restart", "()Z"⟩
theorem hy37 : y37.cls ≠ "java/lang/invoke/MethodHandle" ∧ y37.cls ≠ "java/lang/invoke/VarHandle" := by decide
theorem pd37 : parseMethodDescriptor y37.desc = some ⟨[], some .boolean⟩ := by decide +kernel
abbrev R37 : Room := { frames := 0, cells := 0, slots := 0, locals := 0 }
abbrev P37 (r : Int32 × St) : Option Value → List OwnC → Prop := fun v H' => v = some (.int r.1) ∧ H' = (Hb 0 r.2)
abbrev W37 (l : Launch) (Z : State) (n0 : Nat) (Q : Option Value → List OwnC → Prop) (k n pc : Nat) (L : List Slot) (S : List Value) (H : List OwnC) : Prop := WP l Z CN lay "PictureCobol" "restart" prog_1_method_8_code 1 (some FieldType.boolean) R37 n0 0 Q k n pc L S H
def f_restart (s : St) : Option (Int32 × St) :=
 if (gI s 4) = 0 then
  some ((0 : Int32), s)
 else
  lt (sI s 6 (0 : Int32)) fun s2 =>
  lt (sI s2 5 (0 : Int32)) fun s3 =>
  some ((1 : Int32), s3)
theorem ok37 (l : Launch) (Z : State) (a0 : Array Value) (hw : HW a0 Z) (s : St) (r : Int32 × St) (h : f_restart s = some r) : CS l Z CN lay y37 prog_1_method_8_code 1 (some FieldType.boolean) R37 0 [.ref 0] (Hb 0 s) (P37 r) := by
 refine CS.of_wp pn_cls (leb rfl) fun n0 => ?_
 show W37 l Z n0 (P37 r) 0 0 0 (vR 0 :: []) [] (Hb 0 s)
 unfold f_restart at h
 refine WP.aloadN d37_0 rfl ?_
 refine WP.getfield (i := 0) (j := 15) d37_1 (hw _ m_49) rfl rfl rfl ?_
 rcases ite_e h with ⟨hc1, h⟩ | ⟨hc1, h⟩
 ·
  refine WP.ifN d37_4 (XT.i0_ne_f hc1) ?_
  refine WP.iconst (0 : Int32) d37_7 rfl ?_
  cases h
  exact WP.zreturn d37_8 rfl (leb rfl) (leb rfl) ⟨rfl, rfl⟩
 ·
  refine WP.ifY (pc' := 9) d37_4 (XT.i0_ne_t hc1) (by decide) rfl ?_
  refine WP.aloadN d37_9 rfl ?_
  refine WP.iconst (0 : Int32) d37_10 rfl ?_
  obtain ⟨s2, es2, h⟩ := lt_e h
  refine WP.putI (i := 0) (j := 17) (H' := (Hb 0 s2)) d37_11 (hw _ m_53) (Or.inl (hw _ m_54)) (hw _ m_5) (hlay hw) rfl rfl rfl (leb rfl) (by subst es2; rfl) ?_
  refine WP.aloadN d37_14 rfl ?_
  refine WP.iconst (0 : Int32) d37_15 rfl ?_
  obtain ⟨s3, es3, h⟩ := lt_e h
  refine WP.putZ (i := 0) (j := 16) (H' := (Hb 0 s3)) d37_16 (hw _ m_51) (Or.inl (hw _ m_52)) (hw _ m_5) (hlay hw) rfl rfl rfl (leb rfl) (by subst es3; rfl) ?_
  refine WP.iconst (1 : Int32) d37_19 rfl ?_
  cases h
  exact WP.zreturn d37_20 rfl (leb rfl) (leb rfl) ⟨rfl, rfl⟩
theorem d27_0 : dc k9 0 (.aload_n 0) 1 := by decide +kernel
theorem d27_1 : dc k9 1 (.getfield 68) 3 := by decide +kernel
theorem d27_4 : dc k9 4 (.ireturn) 1 := by decide +kernel
abbrev y27 : MethodName := ⟨"PictureCobol", "getPc", "()I"⟩
theorem hy27 : y27.cls ≠ "java/lang/invoke/MethodHandle" ∧ y27.cls ≠ "java/lang/invoke/VarHandle" := by decide
theorem pd27 : parseMethodDescriptor y27.desc = some ⟨[], some .int⟩ := by decide +kernel
abbrev R27 : Room := { frames := 0, cells := 0, slots := 0, locals := 0 }
abbrev P27 (s : St) (r : Int32) : Option Value → List OwnC → Prop := fun v H' => v = some (.int r) ∧ H' = (Hb 0 s)
abbrev W27 (l : Launch) (Z : State) (n0 : Nat) (Q : Option Value → List OwnC → Prop) (k n pc : Nat) (L : List Slot) (S : List Value) (H : List OwnC) : Prop := WP l Z CN lay "PictureCobol" "getPc" prog_1_method_10_code 1 (some FieldType.int) R27 n0 0 Q k n pc L S H
def f_getPc (s : St) : Option (Int32) :=
 some (gI s 6)
theorem ok27 (l : Launch) (Z : State) (a0 : Array Value) (hw : HW a0 Z) (s : St) (r : Int32) (h : f_getPc s = some r) : CS l Z CN lay y27 prog_1_method_10_code 1 (some FieldType.int) R27 0 [.ref 0] (Hb 0 s) (P27 s r) := by
 refine CS.of_wp pn_cls (leb rfl) fun n0 => ?_
 show W27 l Z n0 (P27 s r) 0 0 0 (vR 0 :: []) [] (Hb 0 s)
 unfold f_getPc at h
 refine WP.aloadN d27_0 rfl ?_
 refine WP.getfield (i := 0) (j := 17) d27_1 (hw _ m_53) rfl rfl rfl ?_
 cases h
 exact WP.ireturn d27_4 rfl (leb rfl) (leb rfl) ⟨rfl, rfl⟩
theorem d8_0 : dc k8 0 (.aload_n 0) 1 := by decide +kernel
theorem d8_1 : dc k8 1 (.iload_n 1) 1 := by decide +kernel
theorem d8_2 : dc k8 2 (.invokevirtual 77) 3 := by decide +kernel
theorem d8_5 : dc k8 5 (.ifCond .ne 5) 3 := by decide +kernel
theorem d8_8 : dc k8 8 (.iconst 0) 1 := by decide +kernel
theorem d8_9 : dc k8 9 (.ireturn) 1 := by decide +kernel
theorem d8_10 : dc k8 10 (.aload_n 0) 1 := by decide +kernel
theorem d8_11 : dc k8 11 (.getfield 16) 3 := by decide +kernel
theorem d8_14 : dc k8 14 (.iload_n 1) 1 := by decide +kernel
theorem d8_15 : dc k8 15 (.iaload) 1 := by decide +kernel
theorem d8_16 : dc k8 16 (.ireturn) 1 := by decide +kernel
abbrev y8 : MethodName := ⟨"PictureCobol", "getValue", "(I)I"⟩
theorem hy8 : y8.cls ≠ "java/lang/invoke/MethodHandle" ∧ y8.cls ≠ "java/lang/invoke/VarHandle" := by decide
theorem pd8 : parseMethodDescriptor y8.desc = some ⟨[.int], some .int⟩ := by decide +kernel
abbrev R8 : Room := { frames := 1, cells := 0, slots := 0, locals := 13 }
abbrev P8 (s : St) (r : Int32) : Option Value → List OwnC → Prop := fun v H' => v = some (.int r) ∧ H' = (Hb 0 s)
abbrev W8 (l : Launch) (Z : State) (n0 : Nat) (Q : Option Value → List OwnC → Prop) (k n pc : Nat) (L : List Slot) (S : List Value) (H : List OwnC) : Prop := WP l Z CN lay "PictureCobol" "getValue" prog_1_method_9_code 2 (some FieldType.int) R8 n0 0 Q k n pc L S H
def f_getValue (p1 : Int32) (s : St) : Option (Int32) :=
 (f_isField p1 s).bind fun c1 =>
 if c1 = 0 then
  some (0 : Int32)
 else
  (rd (gA s 2) p1).bind fun x3 =>
  some x3
theorem ok8 (l : Launch) (Z : State) (a0 : Array Value) (hw : HW a0 Z) (p1 : Int32) (s : St) (r : Int32) (h : f_getValue p1 s = some r) : CS l Z CN lay y8 prog_1_method_9_code 2 (some FieldType.int) R8 0 [.ref 0, .int p1] (Hb 0 s) (P8 s r) := by
 refine CS.of_wp pn_cls (leb rfl) fun n0 => ?_
 show W8 l Z n0 (P8 s r) 0 0 0 (vR 0 :: vI p1 :: []) [] (Hb 0 s)
 unfold f_getValue at h
 refine WP.aloadN d8_0 rfl ?_
 refine WP.iloadN d8_1 rfl ?_
 obtain ⟨c1, hc1, h⟩ := bd h
 refine WP.callP (i := 0) (y := y9) (as := [.int p1]) (S := []) d8_2 (hw _ m_85) (hw _ m_87) (hw _ m_5) (hw _ m_86) (hw _ m_88) (hw _ m_6) hy9 rfl (ok9 l Z a0 hw p1 s _ hc1) rfl (lenOf pd9 rfl) (leb rfl) (leb rfl) (leb rfl) (leb rfl) ?_
 rintro _ _ ⟨rfl, rfl⟩
 show W8 l Z n0 (P8 s r) 0 0 5 (vR 0 :: vI p1 :: []) [.int c1] (Hb 0 s)
 rcases ite_e h with ⟨hc2, h⟩ | ⟨hc2, h⟩
 ·
  refine WP.ifN d8_5 (XT.i0_ne_f hc2) ?_
  refine WP.iconst (0 : Int32) d8_8 rfl ?_
  cases h
  exact WP.ireturn d8_9 rfl (leb rfl) (leb rfl) ⟨rfl, rfl⟩
 ·
  refine WP.ifY (pc' := 10) d8_5 (XT.i0_ne_t hc2) (by decide) rfl ?_
  refine WP.aloadN d8_10 rfl ?_
  refine WP.getfield (i := 0) (j := 5) d8_11 (hw _ m_18) rfl rfl rfl ?_
  refine WP.iloadN d8_14 rfl ?_
  obtain ⟨x3, hx3, h⟩ := bd h
  refine WP.iaload (i := 3) d8_15 rfl hx3 ?_
  cases h
  exact WP.ireturn d8_16 rfl (leb rfl) (leb rfl) ⟨rfl, rfl⟩
theorem d28_0 : dc method_11_code 0 (.iload_n 0) 1 := by decide +kernel
theorem d28_1 : dc method_11_code 1 (.iconst 5) 1 := by decide +kernel
theorem d28_2 : dc method_11_code 2 (.if_icmp .ne 12) 3 := by decide +kernel
theorem d28_5 : dc method_11_code 5 (.lload 5) 2 := by decide +kernel
theorem d28_7 : dc method_11_code 7 (.lconst 0) 1 := by decide +kernel
theorem d28_8 : dc method_11_code 8 (.lcmp) 1 := by decide +kernel
theorem d28_9 : dc method_11_code 9 (.ifCond .ne 5) 3 := by decide +kernel
theorem d28_12 : dc method_11_code 12 (.iconst 1) 1 := by decide +kernel
theorem d28_13 : dc method_11_code 13 (.ireturn) 1 := by decide +kernel
theorem d28_14 : dc method_11_code 14 (.iload_n 0) 1 := by decide +kernel
theorem d28_15 : dc method_11_code 15 (.iconst 2) 1 := by decide +kernel
theorem d28_16 : dc method_11_code 16 (.if_icmp .eq 8) 3 := by decide +kernel
theorem d28_19 : dc method_11_code 19 (.iload_n 0) 1 := by decide +kernel
theorem d28_20 : dc method_11_code 20 (.iconst 3) 1 := by decide +kernel
theorem d28_21 : dc method_11_code 21 (.if_icmp .ne 80) 3 := by decide +kernel
theorem d28_24 : dc method_11_code 24 (.iload 4) 2 := by decide +kernel
theorem d28_26 : dc method_11_code 26 (.iload 7) 2 := by decide +kernel
theorem d28_28 : dc method_11_code 28 (.if_icmp .le 8) 3 := by decide +kernel
theorem d28_31 : dc method_11_code 31 (.iload 4) 2 := by decide +kernel
theorem d28_33 : dc method_11_code 33 (.goto 5) 3 := by decide +kernel
theorem d28_36 : dc method_11_code 36 (.iload 7) 2 := by decide +kernel
theorem d28_38 : dc method_11_code 38 (.istore 14) 2 := by decide +kernel
theorem d28_40 : dc method_11_code 40 (.lload_n 2) 1 := by decide +kernel
theorem d28_41 : dc method_11_code 41 (.iload 14) 2 := by decide +kernel
theorem d28_43 : dc method_11_code 43 (.iload 4) 2 := by decide +kernel
theorem d28_45 : dc method_11_code 45 (.isub) 1 := by decide +kernel
theorem d28_46 : dc method_11_code 46 (.invokestatic 18) 3 := by decide +kernel
theorem d28_49 : dc method_11_code 49 (.lmul) 1 := by decide +kernel
theorem d28_50 : dc method_11_code 50 (.lstore 15) 2 := by decide +kernel
theorem d28_52 : dc method_11_code 52 (.lload 5) 2 := by decide +kernel
theorem d28_54 : dc method_11_code 54 (.iload 14) 2 := by decide +kernel
theorem d28_56 : dc method_11_code 56 (.iload 7) 2 := by decide +kernel
theorem d28_58 : dc method_11_code 58 (.isub) 1 := by decide +kernel
theorem d28_59 : dc method_11_code 59 (.invokestatic 18) 3 := by decide +kernel
theorem d28_62 : dc method_11_code 62 (.lmul) 1 := by decide +kernel
theorem d28_63 : dc method_11_code 63 (.lstore 17) 2 := by decide +kernel
theorem d28_65 : dc method_11_code 65 (.iload_n 0) 1 := by decide +kernel
theorem d28_66 : dc method_11_code 66 (.iconst 2) 1 := by decide +kernel
theorem d28_67 : dc method_11_code 67 (.if_icmp .ne 11) 3 := by decide +kernel
theorem d28_70 : dc method_11_code 70 (.lload 15) 2 := by decide +kernel
theorem d28_72 : dc method_11_code 72 (.lload 17) 2 := by decide +kernel
theorem d28_74 : dc method_11_code 74 (.ladd) 1 := by decide +kernel
theorem d28_75 : dc method_11_code 75 (.goto 8) 3 := by decide +kernel
theorem d28_78 : dc method_11_code 78 (.lload 17) 2 := by decide +kernel
theorem d28_80 : dc method_11_code 80 (.lload 15) 2 := by decide +kernel
theorem d28_82 : dc method_11_code 82 (.lsub) 1 := by decide +kernel
theorem d28_83 : dc method_11_code 83 (.iload 8) 2 := by decide +kernel
theorem d28_85 : dc method_11_code 85 (.invokestatic 18) 3 := by decide +kernel
theorem d28_88 : dc method_11_code 88 (.lmul) 1 := by decide +kernel
theorem d28_89 : dc method_11_code 89 (.lstore 10) 2 := by decide +kernel
theorem d28_91 : dc method_11_code 91 (.iload 14) 2 := by decide +kernel
theorem d28_93 : dc method_11_code 93 (.invokestatic 18) 3 := by decide +kernel
theorem d28_96 : dc method_11_code 96 (.lstore 12) 2 := by decide +kernel
theorem d28_98 : dc method_11_code 98 (.goto 55) 3 := by decide +kernel
theorem d28_101 : dc method_11_code 101 (.iload_n 0) 1 := by decide +kernel
theorem d28_102 : dc method_11_code 102 (.iconst 4) 1 := by decide +kernel
theorem d28_103 : dc method_11_code 103 (.if_icmp .ne 28) 3 := by decide +kernel
theorem d28_106 : dc method_11_code 106 (.lload_n 2) 1 := by decide +kernel
theorem d28_107 : dc method_11_code 107 (.lload 5) 2 := by decide +kernel
theorem d28_109 : dc method_11_code 109 (.lmul) 1 := by decide +kernel
theorem d28_110 : dc method_11_code 110 (.iload 8) 2 := by decide +kernel
theorem d28_112 : dc method_11_code 112 (.invokestatic 18) 3 := by decide +kernel
theorem d28_115 : dc method_11_code 115 (.lmul) 1 := by decide +kernel
theorem d28_116 : dc method_11_code 116 (.lstore 10) 2 := by decide +kernel
theorem d28_118 : dc method_11_code 118 (.iload 4) 2 := by decide +kernel
theorem d28_120 : dc method_11_code 120 (.iload 7) 2 := by decide +kernel
theorem d28_122 : dc method_11_code 122 (.iadd) 1 := by decide +kernel
theorem d28_123 : dc method_11_code 123 (.invokestatic 18) 3 := by decide +kernel
theorem d28_126 : dc method_11_code 126 (.lstore 12) 2 := by decide +kernel
theorem d28_128 : dc method_11_code 128 (.goto 25) 3 := by decide +kernel
theorem d28_131 : dc method_11_code 131 (.lload_n 2) 1 := by decide +kernel
theorem d28_132 : dc method_11_code 132 (.iload 7) 2 := by decide +kernel
theorem d28_134 : dc method_11_code 134 (.iload 8) 2 := by decide +kernel
theorem d28_136 : dc method_11_code 136 (.iadd) 1 := by decide +kernel
theorem d28_137 : dc method_11_code 137 (.invokestatic 18) 3 := by decide +kernel
theorem d28_140 : dc method_11_code 140 (.lmul) 1 := by decide +kernel
theorem d28_141 : dc method_11_code 141 (.lstore 10) 2 := by decide +kernel
theorem d28_143 : dc method_11_code 143 (.lload 5) 2 := by decide +kernel
theorem d28_145 : dc method_11_code 145 (.iload 4) 2 := by decide +kernel
theorem d28_147 : dc method_11_code 147 (.invokestatic 18) 3 := by decide +kernel
theorem d28_150 : dc method_11_code 150 (.lmul) 1 := by decide +kernel
theorem d28_151 : dc method_11_code 151 (.lstore 12) 2 := by decide +kernel
theorem d28_153 : dc method_11_code 153 (.lload 12) 2 := by decide +kernel
theorem d28_155 : dc method_11_code 155 (.lconst 0) 1 := by decide +kernel
theorem d28_156 : dc method_11_code 156 (.lcmp) 1 := by decide +kernel
theorem d28_157 : dc method_11_code 157 (.ifCond .ge 13) 3 := by decide +kernel
theorem d28_160 : dc method_11_code 160 (.lload 12) 2 := by decide +kernel
theorem d28_162 : dc method_11_code 162 (.lneg) 1 := by decide +kernel
theorem d28_163 : dc method_11_code 163 (.lstore 12) 2 := by decide +kernel
theorem d28_165 : dc method_11_code 165 (.lload 10) 2 := by decide +kernel
theorem d28_167 : dc method_11_code 167 (.lneg) 1 := by decide +kernel
theorem d28_168 : dc method_11_code 168 (.lstore 10) 2 := by decide +kernel
theorem d28_170 : dc method_11_code 170 (.lload 10) 2 := by decide +kernel
theorem d28_172 : dc method_11_code 172 (.lconst 0) 1 := by decide +kernel
theorem d28_173 : dc method_11_code 173 (.lcmp) 1 := by decide +kernel
theorem d28_174 : dc method_11_code 174 (.ifCond .ge 9) 3 := by decide +kernel
theorem d28_177 : dc method_11_code 177 (.lload 10) 2 := by decide +kernel
theorem d28_179 : dc method_11_code 179 (.lneg) 1 := by decide +kernel
theorem d28_180 : dc method_11_code 180 (.goto 5) 3 := by decide +kernel
theorem d28_183 : dc method_11_code 183 (.lload 10) 2 := by decide +kernel
theorem d28_185 : dc method_11_code 185 (.lstore 14) 2 := by decide +kernel
theorem d28_187 : dc method_11_code 187 (.iload_n 1) 1 := by decide +kernel
theorem d28_188 : dc method_11_code 188 (.ifCond .eq 22) 3 := by decide +kernel
theorem d28_191 : dc method_11_code 191 (.ldc2_w 22) 3 := by decide +kernel
theorem d28_194 : dc method_11_code 194 (.lload 14) 2 := by decide +kernel
theorem d28_196 : dc method_11_code 196 (.lmul) 1 := by decide +kernel
theorem d28_197 : dc method_11_code 197 (.lload 12) 2 := by decide +kernel
theorem d28_199 : dc method_11_code 199 (.ladd) 1 := by decide +kernel
theorem d28_200 : dc method_11_code 200 (.ldc2_w 22) 3 := by decide +kernel
theorem d28_203 : dc method_11_code 203 (.lload 12) 2 := by decide +kernel
theorem d28_205 : dc method_11_code 205 (.lmul) 1 := by decide +kernel
theorem d28_206 : dc method_11_code 206 (.ldiv) 1 := by decide +kernel
theorem d28_207 : dc method_11_code 207 (.goto 8) 3 := by decide +kernel
theorem d28_210 : dc method_11_code 210 (.lload 14) 2 := by decide +kernel
theorem d28_212 : dc method_11_code 212 (.lload 12) 2 := by decide +kernel
theorem d28_214 : dc method_11_code 214 (.ldiv) 1 := by decide +kernel
theorem d28_215 : dc method_11_code 215 (.lstore 16) 2 := by decide +kernel
theorem d28_217 : dc method_11_code 217 (.lload 16) 2 := by decide +kernel
theorem d28_219 : dc method_11_code 219 (.iload 9) 2 := by decide +kernel
theorem d28_221 : dc method_11_code 221 (.invokestatic 18) 3 := by decide +kernel
theorem d28_224 : dc method_11_code 224 (.lconst 1) 1 := by decide +kernel
theorem d28_225 : dc method_11_code 225 (.lsub) 1 := by decide +kernel
theorem d28_226 : dc method_11_code 226 (.lcmp) 1 := by decide +kernel
theorem d28_227 : dc method_11_code 227 (.ifCond .le 7) 3 := by decide +kernel
theorem d28_230 : dc method_11_code 230 (.iconst 1) 1 := by decide +kernel
theorem d28_231 : dc method_11_code 231 (.goto 4) 3 := by decide +kernel
theorem d28_234 : dc method_11_code 234 (.iconst 0) 1 := by decide +kernel
theorem d28_235 : dc method_11_code 235 (.ireturn) 1 := by decide +kernel
abbrev y28 : MethodName := ⟨"PictureCobolOwnLaw", "sizeErr", "(IZJIJIII)Z"⟩
theorem hy28 : y28.cls ≠ "java/lang/invoke/MethodHandle" ∧ y28.cls ≠ "java/lang/invoke/VarHandle" := by decide
theorem pd28 : parseMethodDescriptor y28.desc = some ⟨[.int, .boolean, .long, .int, .long, .int, .int, .int], some .boolean⟩ := by decide +kernel
abbrev R28 : Room := { frames := 1, cells := 0, slots := 0, locals := 17 }
abbrev P28 (r : Int32) : Option Value → List OwnC → Prop := fun v H' => v = some (.int r) ∧ H' = ([] : List OwnC)
abbrev W28 (l : Launch) (Z : State) (n0 : Nat) (Q : Option Value → List OwnC → Prop) (k n pc : Nat) (L : List Slot) (S : List Value) (H : List OwnC) : Prop := WP l Z CN lay "PictureCobolOwnLaw" "sizeErr" method_11_code 19 (some FieldType.boolean) R28 n0 0 Q k n pc L S H
def f_L_sizeErr_235 (n : Nat) (t0 : Int32) : Option (Int32) :=
 some (t0 &&& 1)
theorem ok28_235 (l : Launch) (Z : State) (a0 : Array Value) (hw : HW a0 Z) (n0 n : Nat) (t0 r : Int32) (h : f_L_sizeErr_235 n t0 = some r) : W28 l Z n0 (P28 r) 0 0 235 (vU :: vU :: vU :: vU :: vU :: vU :: vU :: vU :: vU :: vU :: vU :: vU :: vU :: vU :: vU :: vU :: vU :: vU :: vU :: []) [.int t0] ([] : List OwnC) := by
 unfold f_L_sizeErr_235 at h
 cases h
 exact WP.zreturn d28_235 rfl (leb rfl) (leb rfl) ⟨rfl, rfl⟩
def f_L_sizeErr_215 (n : Nat) (v9 : Int32) (t0 : Int64) : Option (Int32) :=
 (f_L_p10 n v9).bind fun c1 =>
 if (c1 - (1 : Int64)) < t0 then
  f_L_sizeErr_235 n (1 : Int32)
 else
  f_L_sizeErr_235 n (0 : Int32)
theorem ok28_215 (l : Launch) (Z : State) (a0 : Array Value) (hw : HW a0 Z) (n0 n : Nat) (v9 : Int32) (t0 : Int64) (r : Int32) (h : f_L_sizeErr_215 n v9 t0 = some r) : W28 l Z n0 (P28 r) 0 0 215 (vU :: vU :: vU :: vU :: vU :: vU :: vU :: vU :: vU :: vI v9 :: vU :: vU :: vU :: vU :: vU :: vU :: vU :: vU :: vU :: []) [.long t0] ([] : List OwnC) := by
 unfold f_L_sizeErr_215 at h
 refine WP.lstore (L' := (vU :: vU :: vU :: vU :: vU :: vU :: vU :: vU :: vU :: vI v9 :: vU :: vU :: vU :: vU :: vU :: vU :: vJ t0 :: vS :: vU :: [])) d28_215 (leb rfl) rfl ?_
 refine WP.lload d28_217 rfl ?_
 refine WP.iload d28_219 rfl ?_
 obtain ⟨c1, hc1, h⟩ := bd h
 refine WP.callS (y := y10) (as := [.int v9]) (S := [.long t0]) d28_221 (hw _ m_89) (hw _ m_90) (hw _ m_2) (hw _ m_91) hy10 (ok10 l Z a0 hw n v9 _ hc1) rfl (lenOf pd10 rfl) (leb rfl) (leb rfl) (leb rfl) (leb rfl) ?_
 rintro _ _ ⟨rfl, rfl⟩
 show W28 l Z n0 (P28 r) 0 0 224 (vU :: vU :: vU :: vU :: vU :: vU :: vU :: vU :: vU :: vI v9 :: vU :: vU :: vU :: vU :: vU :: vU :: vJ t0 :: vS :: vU :: []) [.long c1, .long t0] ([] : List OwnC)
 refine WP.lconst (1 : Int64) d28_224 rfl ?_
 refine WP.lsub d28_225 ?_
 refine WP.lcmp d28_226 ?_
 rcases ite_e h with ⟨hc2, h⟩ | ⟨hc2, h⟩
 ·
  refine WP.ifN d28_227 (XT.ll_le_f hc2) ?_
  refine WP.iconst (1 : Int32) d28_230 rfl ?_
  refine WP.goto (pc' := 235) d28_231 (by decide) rfl ?_
  exact WP.weak (L' := (vU :: vU :: vU :: vU :: vU :: vU :: vU :: vU :: vU :: vU :: vU :: vU :: vU :: vU :: vU :: vU :: vU :: vU :: vU :: [])) trivial (ok28_235 l Z a0 hw n0 n (1 : Int32) _ h)
 ·
  refine WP.ifY (pc' := 234) d28_227 (XT.ll_le_t hc2) (by decide) rfl ?_
  refine WP.iconst (0 : Int32) d28_234 rfl ?_
  exact WP.weak (L' := (vU :: vU :: vU :: vU :: vU :: vU :: vU :: vU :: vU :: vU :: vU :: vU :: vU :: vU :: vU :: vU :: vU :: vU :: vU :: [])) trivial (ok28_235 l Z a0 hw n0 n (0 : Int32) _ h)
def f_L_sizeErr_185 (n : Nat) (v1 v9 : Int32) (v12 t0 : Int64) : Option (Int32) :=
 if v1 = 0 then
  if v12 = 0 then none else
  f_L_sizeErr_215 n v9 (t0 / v12)
 else
  if (2 : Int64) * v12 = 0 then none else
  f_L_sizeErr_215 n v9 ((((2 : Int64) * t0) + v12) / ((2 : Int64) * v12))
theorem ok28_185 (l : Launch) (Z : State) (a0 : Array Value) (hw : HW a0 Z) (n0 n : Nat) (v1 v9 : Int32) (v12 t0 : Int64) (r : Int32) (h : f_L_sizeErr_185 n v1 v9 v12 t0 = some r) : W28 l Z n0 (P28 r) 0 0 185 (vU :: vI v1 :: vU :: vU :: vU :: vU :: vU :: vU :: vU :: vI v9 :: vU :: vU :: vJ v12 :: vS :: vU :: vU :: vU :: vU :: vU :: []) [.long t0] ([] : List OwnC) := by
 unfold f_L_sizeErr_185 at h
 refine WP.lstore (L' := (vU :: vI v1 :: vU :: vU :: vU :: vU :: vU :: vU :: vU :: vI v9 :: vU :: vU :: vJ v12 :: vS :: vJ t0 :: vS :: vU :: vU :: vU :: [])) d28_185 (leb rfl) rfl ?_
 refine WP.iloadN d28_187 rfl ?_
 rcases ite_e h with ⟨hc1, h⟩ | ⟨hc1, h⟩
 ·
  refine WP.ifY (pc' := 210) d28_188 (XT.i0_eq_t hc1) (by decide) rfl ?_
  refine WP.lload d28_210 rfl ?_
  refine WP.lload d28_212 rfl ?_
  obtain ⟨hz2, h⟩ := nz_e h
  refine WP.ldiv d28_214 hz2 ?_
  exact WP.weak (L' := (vU :: vU :: vU :: vU :: vU :: vU :: vU :: vU :: vU :: vI v9 :: vU :: vU :: vU :: vU :: vU :: vU :: vU :: vU :: vU :: [])) ⟨rfl, trivial⟩ (ok28_215 l Z a0 hw n0 n v9 (t0 / v12) _ h)
 ·
  refine WP.ifN d28_188 (XT.i0_eq_f hc1) ?_
  refine WP.ldc2 d28_191 (hw _ m_212) ?_
  refine WP.lload d28_194 rfl ?_
  refine WP.lmul d28_196 ?_
  refine WP.lload d28_197 rfl ?_
  refine WP.ladd d28_199 ?_
  refine WP.ldc2 d28_200 (hw _ m_212) ?_
  refine WP.lload d28_203 rfl ?_
  refine WP.lmul d28_205 ?_
  obtain ⟨hz3, h⟩ := nz_e h
  refine WP.ldiv d28_206 hz3 ?_
  refine WP.goto (pc' := 215) d28_207 (by decide) rfl ?_
  exact WP.weak (L' := (vU :: vU :: vU :: vU :: vU :: vU :: vU :: vU :: vU :: vI v9 :: vU :: vU :: vU :: vU :: vU :: vU :: vU :: vU :: vU :: [])) ⟨rfl, trivial⟩ (ok28_215 l Z a0 hw n0 n v9 ((((2 : Int64) * t0) + v12) / ((2 : Int64) * v12)) _ h)
def f_L_sizeErr_170 (n : Nat) (v1 v9 : Int32) (v10 v12 : Int64) : Option (Int32) :=
 if v10 < (0 : Int64) then
  f_L_sizeErr_185 n v1 v9 v12 (-v10)
 else
  f_L_sizeErr_185 n v1 v9 v12 v10
theorem ok28_170 (l : Launch) (Z : State) (a0 : Array Value) (hw : HW a0 Z) (n0 n : Nat) (v1 v9 : Int32) (v10 v12 : Int64) (r : Int32) (h : f_L_sizeErr_170 n v1 v9 v10 v12 = some r) : W28 l Z n0 (P28 r) 0 0 170 (vU :: vI v1 :: vU :: vU :: vU :: vU :: vU :: vU :: vU :: vI v9 :: vJ v10 :: vS :: vJ v12 :: vS :: vU :: vU :: vU :: vU :: vU :: []) [] ([] : List OwnC) := by
 unfold f_L_sizeErr_170 at h
 refine WP.lload d28_170 rfl ?_
 refine WP.lconst (0 : Int64) d28_172 rfl ?_
 refine WP.lcmp d28_173 ?_
 rcases ite_e h with ⟨hc1, h⟩ | ⟨hc1, h⟩
 ·
  refine WP.ifN d28_174 (XT.ll_ge_f hc1) ?_
  refine WP.lload d28_177 rfl ?_
  refine WP.lneg d28_179 ?_
  refine WP.goto (pc' := 185) d28_180 (by decide) rfl ?_
  exact WP.weak (L' := (vU :: vI v1 :: vU :: vU :: vU :: vU :: vU :: vU :: vU :: vI v9 :: vU :: vU :: vJ v12 :: vS :: vU :: vU :: vU :: vU :: vU :: [])) ⟨rfl, rfl, rfl, rfl, trivial⟩ (ok28_185 l Z a0 hw n0 n v1 v9 v12 (-v10) _ h)
 ·
  refine WP.ifY (pc' := 183) d28_174 (XT.ll_ge_t hc1) (by decide) rfl ?_
  refine WP.lload d28_183 rfl ?_
  exact WP.weak (L' := (vU :: vI v1 :: vU :: vU :: vU :: vU :: vU :: vU :: vU :: vI v9 :: vU :: vU :: vJ v12 :: vS :: vU :: vU :: vU :: vU :: vU :: [])) ⟨rfl, rfl, rfl, rfl, trivial⟩ (ok28_185 l Z a0 hw n0 n v1 v9 v12 v10 _ h)
def f_L_sizeErr_153 (n : Nat) (v1 v9 : Int32) (v10 v12 : Int64) : Option (Int32) :=
 if v12 < (0 : Int64) then
  lt (-v12) fun x2 =>
  lt (-v10) fun x3 =>
  f_L_sizeErr_170 n v1 v9 x3 x2
 else
  f_L_sizeErr_170 n v1 v9 v10 v12
theorem ok28_153 (l : Launch) (Z : State) (a0 : Array Value) (hw : HW a0 Z) (n0 n : Nat) (v1 v9 : Int32) (v10 v12 : Int64) (r : Int32) (h : f_L_sizeErr_153 n v1 v9 v10 v12 = some r) : W28 l Z n0 (P28 r) 0 0 153 (vU :: vI v1 :: vU :: vU :: vU :: vU :: vU :: vU :: vU :: vI v9 :: vJ v10 :: vS :: vJ v12 :: vS :: vU :: vU :: vU :: vU :: vU :: []) [] ([] : List OwnC) := by
 unfold f_L_sizeErr_153 at h
 refine WP.lload d28_153 rfl ?_
 refine WP.lconst (0 : Int64) d28_155 rfl ?_
 refine WP.lcmp d28_156 ?_
 rcases ite_e h with ⟨hc1, h⟩ | ⟨hc1, h⟩
 ·
  refine WP.ifN d28_157 (XT.ll_ge_f hc1) ?_
  refine WP.lload d28_160 rfl ?_
  refine WP.lneg d28_162 ?_
  obtain ⟨x2, ex2, h⟩ := lt_e h
  refine WP.lstore (L' := (vU :: vI v1 :: vU :: vU :: vU :: vU :: vU :: vU :: vU :: vI v9 :: vJ v10 :: vS :: vJ x2 :: vS :: vU :: vU :: vU :: vU :: vU :: [])) d28_163 (leb rfl) (by subst ex2; rfl) ?_
  refine WP.lload d28_165 rfl ?_
  refine WP.lneg d28_167 ?_
  obtain ⟨x3, ex3, h⟩ := lt_e h
  refine WP.lstore (L' := (vU :: vI v1 :: vU :: vU :: vU :: vU :: vU :: vU :: vU :: vI v9 :: vJ x3 :: vS :: vJ x2 :: vS :: vU :: vU :: vU :: vU :: vU :: [])) d28_168 (leb rfl) (by subst ex3; rfl) ?_
  exact WP.weak (L' := (vU :: vI v1 :: vU :: vU :: vU :: vU :: vU :: vU :: vU :: vI v9 :: vJ x3 :: vS :: vJ x2 :: vS :: vU :: vU :: vU :: vU :: vU :: [])) ⟨rfl, rfl, rfl, rfl, rfl, rfl, trivial⟩ (ok28_170 l Z a0 hw n0 n v1 v9 x3 x2 _ h)
 ·
  refine WP.ifY (pc' := 170) d28_157 (XT.ll_ge_t hc1) (by decide) rfl ?_
  exact WP.weak (L' := (vU :: vI v1 :: vU :: vU :: vU :: vU :: vU :: vU :: vU :: vI v9 :: vJ v10 :: vS :: vJ v12 :: vS :: vU :: vU :: vU :: vU :: vU :: [])) ⟨rfl, rfl, rfl, rfl, rfl, rfl, trivial⟩ (ok28_170 l Z a0 hw n0 n v1 v9 v10 v12 _ h)
def f_L_sizeErr_83 (n : Nat) (v1 v8 v9 v14 : Int32) (t0 : Int64) : Option (Int32) :=
 (f_L_p10 n v8).bind fun c1 =>
 lt (t0 * c1) fun x2 =>
 (f_L_p10 n v14).bind fun c3 =>
 f_L_sizeErr_153 n v1 v9 x2 c3
theorem ok28_83 (l : Launch) (Z : State) (a0 : Array Value) (hw : HW a0 Z) (n0 n : Nat) (v1 v8 v9 v14 : Int32) (t0 : Int64) (r : Int32) (h : f_L_sizeErr_83 n v1 v8 v9 v14 t0 = some r) : W28 l Z n0 (P28 r) 0 0 83 (vU :: vI v1 :: vU :: vU :: vU :: vU :: vU :: vU :: vI v8 :: vI v9 :: vU :: vU :: vU :: vU :: vI v14 :: vU :: vU :: vU :: vU :: []) [.long t0] ([] : List OwnC) := by
 unfold f_L_sizeErr_83 at h
 refine WP.iload d28_83 rfl ?_
 obtain ⟨c1, hc1, h⟩ := bd h
 refine WP.callS (y := y10) (as := [.int v8]) (S := [.long t0]) d28_85 (hw _ m_89) (hw _ m_90) (hw _ m_2) (hw _ m_91) hy10 (ok10 l Z a0 hw n v8 _ hc1) rfl (lenOf pd10 rfl) (leb rfl) (leb rfl) (leb rfl) (leb rfl) ?_
 rintro _ _ ⟨rfl, rfl⟩
 show W28 l Z n0 (P28 r) 0 0 88 (vU :: vI v1 :: vU :: vU :: vU :: vU :: vU :: vU :: vI v8 :: vI v9 :: vU :: vU :: vU :: vU :: vI v14 :: vU :: vU :: vU :: vU :: []) [.long c1, .long t0] ([] : List OwnC)
 refine WP.lmul d28_88 ?_
 obtain ⟨x2, ex2, h⟩ := lt_e h
 refine WP.lstore (L' := (vU :: vI v1 :: vU :: vU :: vU :: vU :: vU :: vU :: vI v8 :: vI v9 :: vJ x2 :: vS :: vU :: vU :: vI v14 :: vU :: vU :: vU :: vU :: [])) d28_89 (leb rfl) (by subst ex2; rfl) ?_
 refine WP.iload d28_91 rfl ?_
 obtain ⟨c3, hc3, h⟩ := bd h
 refine WP.callS (y := y10) (as := [.int v14]) (S := []) d28_93 (hw _ m_89) (hw _ m_90) (hw _ m_2) (hw _ m_91) hy10 (ok10 l Z a0 hw n v14 _ hc3) rfl (lenOf pd10 rfl) (leb rfl) (leb rfl) (leb rfl) (leb rfl) ?_
 rintro _ _ ⟨rfl, rfl⟩
 show W28 l Z n0 (P28 r) 0 0 96 (vU :: vI v1 :: vU :: vU :: vU :: vU :: vU :: vU :: vI v8 :: vI v9 :: vJ x2 :: vS :: vU :: vU :: vI v14 :: vU :: vU :: vU :: vU :: []) [.long c3] ([] : List OwnC)
 refine WP.lstore (L' := (vU :: vI v1 :: vU :: vU :: vU :: vU :: vU :: vU :: vI v8 :: vI v9 :: vJ x2 :: vS :: vJ c3 :: vS :: vI v14 :: vU :: vU :: vU :: vU :: [])) d28_96 (leb rfl) rfl ?_
 refine WP.goto (pc' := 153) d28_98 (by decide) rfl ?_
 exact WP.weak (L' := (vU :: vI v1 :: vU :: vU :: vU :: vU :: vU :: vU :: vU :: vI v9 :: vJ x2 :: vS :: vJ c3 :: vS :: vU :: vU :: vU :: vU :: vU :: [])) ⟨rfl, rfl, rfl, rfl, rfl, rfl, trivial⟩ (ok28_153 l Z a0 hw n0 n v1 v9 x2 c3 _ h)
def f_L_sizeErr_38 (n : Nat) (v0 v1 : Int32) (v2 : Int64) (v4 : Int32) (v5 : Int64) (v7 v8 v9 t0 : Int32) : Option (Int32) :=
 (f_L_p10 n (t0 - v4)).bind fun c1 =>
 lt (v2 * c1) fun x2 =>
 (f_L_p10 n (t0 - v7)).bind fun c3 =>
 lt (v5 * c3) fun x4 =>
 if v0 = (2 : Int32) then
  f_L_sizeErr_83 n v1 v8 v9 t0 (x2 + x4)
 else
  f_L_sizeErr_83 n v1 v8 v9 t0 (x4 - x2)
theorem ok28_38 (l : Launch) (Z : State) (a0 : Array Value) (hw : HW a0 Z) (n0 n : Nat) (v0 v1 : Int32) (v2 : Int64) (v4 : Int32) (v5 : Int64) (v7 v8 v9 t0 r : Int32) (h : f_L_sizeErr_38 n v0 v1 v2 v4 v5 v7 v8 v9 t0 = some r) : W28 l Z n0 (P28 r) 0 0 38 (vI v0 :: vI v1 :: vJ v2 :: vS :: vI v4 :: vJ v5 :: vS :: vI v7 :: vI v8 :: vI v9 :: vU :: vU :: vU :: vU :: vU :: vU :: vU :: vU :: vU :: []) [.int t0] ([] : List OwnC) := by
 unfold f_L_sizeErr_38 at h
 refine WP.istore (L' := (vI v0 :: vI v1 :: vJ v2 :: vS :: vI v4 :: vJ v5 :: vS :: vI v7 :: vI v8 :: vI v9 :: vU :: vU :: vU :: vU :: vI t0 :: vU :: vU :: vU :: vU :: [])) d28_38 (leb rfl) rfl ?_
 refine WP.lloadN d28_40 rfl ?_
 refine WP.iload d28_41 rfl ?_
 refine WP.iload d28_43 rfl ?_
 refine WP.isub d28_45 ?_
 obtain ⟨c1, hc1, h⟩ := bd h
 refine WP.callS (y := y10) (as := [.int (t0 - v4)]) (S := [.long v2]) d28_46 (hw _ m_89) (hw _ m_90) (hw _ m_2) (hw _ m_91) hy10 (ok10 l Z a0 hw n (t0 - v4) _ hc1) rfl (lenOf pd10 rfl) (leb rfl) (leb rfl) (leb rfl) (leb rfl) ?_
 rintro _ _ ⟨rfl, rfl⟩
 show W28 l Z n0 (P28 r) 0 0 49 (vI v0 :: vI v1 :: vJ v2 :: vS :: vI v4 :: vJ v5 :: vS :: vI v7 :: vI v8 :: vI v9 :: vU :: vU :: vU :: vU :: vI t0 :: vU :: vU :: vU :: vU :: []) [.long c1, .long v2] ([] : List OwnC)
 refine WP.lmul d28_49 ?_
 obtain ⟨x2, ex2, h⟩ := lt_e h
 refine WP.lstore (L' := (vI v0 :: vI v1 :: vJ v2 :: vS :: vI v4 :: vJ v5 :: vS :: vI v7 :: vI v8 :: vI v9 :: vU :: vU :: vU :: vU :: vI t0 :: vJ x2 :: vS :: vU :: vU :: [])) d28_50 (leb rfl) (by subst ex2; rfl) ?_
 refine WP.lload d28_52 rfl ?_
 refine WP.iload d28_54 rfl ?_
 refine WP.iload d28_56 rfl ?_
 refine WP.isub d28_58 ?_
 obtain ⟨c3, hc3, h⟩ := bd h
 refine WP.callS (y := y10) (as := [.int (t0 - v7)]) (S := [.long v5]) d28_59 (hw _ m_89) (hw _ m_90) (hw _ m_2) (hw _ m_91) hy10 (ok10 l Z a0 hw n (t0 - v7) _ hc3) rfl (lenOf pd10 rfl) (leb rfl) (leb rfl) (leb rfl) (leb rfl) ?_
 rintro _ _ ⟨rfl, rfl⟩
 show W28 l Z n0 (P28 r) 0 0 62 (vI v0 :: vI v1 :: vJ v2 :: vS :: vI v4 :: vJ v5 :: vS :: vI v7 :: vI v8 :: vI v9 :: vU :: vU :: vU :: vU :: vI t0 :: vJ x2 :: vS :: vU :: vU :: []) [.long c3, .long v5] ([] : List OwnC)
 refine WP.lmul d28_62 ?_
 obtain ⟨x4, ex4, h⟩ := lt_e h
 refine WP.lstore (L' := (vI v0 :: vI v1 :: vJ v2 :: vS :: vI v4 :: vJ v5 :: vS :: vI v7 :: vI v8 :: vI v9 :: vU :: vU :: vU :: vU :: vI t0 :: vJ x2 :: vS :: vJ x4 :: vS :: [])) d28_63 (leb rfl) (by subst ex4; rfl) ?_
 refine WP.iloadN d28_65 rfl ?_
 refine WP.iconst (2 : Int32) d28_66 rfl ?_
 rcases ite_e h with ⟨hc5, h⟩ | ⟨hc5, h⟩
 ·
  refine WP.icmpN d28_67 (XT.ii_ne_f hc5) ?_
  refine WP.lload d28_70 rfl ?_
  refine WP.lload d28_72 rfl ?_
  refine WP.ladd d28_74 ?_
  refine WP.goto (pc' := 83) d28_75 (by decide) rfl ?_
  exact WP.weak (L' := (vU :: vI v1 :: vU :: vU :: vU :: vU :: vU :: vU :: vI v8 :: vI v9 :: vU :: vU :: vU :: vU :: vI t0 :: vU :: vU :: vU :: vU :: [])) ⟨rfl, rfl, rfl, rfl, trivial⟩ (ok28_83 l Z a0 hw n0 n v1 v8 v9 t0 (x2 + x4) _ h)
 ·
  refine WP.icmpY (pc' := 78) d28_67 (XT.ii_ne_t hc5) (by decide) rfl ?_
  refine WP.lload d28_78 rfl ?_
  refine WP.lload d28_80 rfl ?_
  refine WP.lsub d28_82 ?_
  exact WP.weak (L' := (vU :: vI v1 :: vU :: vU :: vU :: vU :: vU :: vU :: vI v8 :: vI v9 :: vU :: vU :: vU :: vU :: vI t0 :: vU :: vU :: vU :: vU :: [])) ⟨rfl, rfl, rfl, rfl, trivial⟩ (ok28_83 l Z a0 hw n0 n v1 v8 v9 t0 (x4 - x2) _ h)
def f_L_sizeErr_24 (n : Nat) (v0 v1 : Int32) (v2 : Int64) (v4 : Int32) (v5 : Int64) (v7 v8 v9 : Int32) : Option (Int32) :=
 if v7 < v4 then
  f_L_sizeErr_38 n v0 v1 v2 v4 v5 v7 v8 v9 v4
 else
  f_L_sizeErr_38 n v0 v1 v2 v4 v5 v7 v8 v9 v7
theorem ok28_24 (l : Launch) (Z : State) (a0 : Array Value) (hw : HW a0 Z) (n0 n : Nat) (v0 v1 : Int32) (v2 : Int64) (v4 : Int32) (v5 : Int64) (v7 v8 v9 r : Int32) (h : f_L_sizeErr_24 n v0 v1 v2 v4 v5 v7 v8 v9 = some r) : W28 l Z n0 (P28 r) 0 0 24 (vI v0 :: vI v1 :: vJ v2 :: vS :: vI v4 :: vJ v5 :: vS :: vI v7 :: vI v8 :: vI v9 :: vU :: vU :: vU :: vU :: vU :: vU :: vU :: vU :: vU :: []) [] ([] : List OwnC) := by
 unfold f_L_sizeErr_24 at h
 refine WP.iload d28_24 rfl ?_
 refine WP.iload d28_26 rfl ?_
 rcases ite_e h with ⟨hc1, h⟩ | ⟨hc1, h⟩
 ·
  refine WP.icmpN d28_28 (XT.ii_le_f hc1) ?_
  refine WP.iload d28_31 rfl ?_
  refine WP.goto (pc' := 38) d28_33 (by decide) rfl ?_
  exact WP.weak (L' := (vI v0 :: vI v1 :: vJ v2 :: vS :: vI v4 :: vJ v5 :: vS :: vI v7 :: vI v8 :: vI v9 :: vU :: vU :: vU :: vU :: vU :: vU :: vU :: vU :: vU :: [])) ⟨rfl, rfl, rfl, rfl, rfl, rfl, rfl, rfl, rfl, rfl, trivial⟩ (ok28_38 l Z a0 hw n0 n v0 v1 v2 v4 v5 v7 v8 v9 v4 _ h)
 ·
  refine WP.icmpY (pc' := 36) d28_28 (XT.ii_le_t hc1) (by decide) rfl ?_
  refine WP.iload d28_36 rfl ?_
  exact WP.weak (L' := (vI v0 :: vI v1 :: vJ v2 :: vS :: vI v4 :: vJ v5 :: vS :: vI v7 :: vI v8 :: vI v9 :: vU :: vU :: vU :: vU :: vU :: vU :: vU :: vU :: vU :: [])) ⟨rfl, rfl, rfl, rfl, rfl, rfl, rfl, rfl, rfl, rfl, trivial⟩ (ok28_38 l Z a0 hw n0 n v0 v1 v2 v4 v5 v7 v8 v9 v7 _ h)
def f_L_sizeErr_14 (n : Nat) (v0 v1 : Int32) (v2 : Int64) (v4 : Int32) (v5 : Int64) (v7 v8 v9 : Int32) : Option (Int32) :=
 if v0 = (2 : Int32) then
  f_L_sizeErr_24 n v0 v1 v2 v4 v5 v7 v8 v9
 else
  if v0 = (3 : Int32) then
   f_L_sizeErr_24 n v0 v1 v2 v4 v5 v7 v8 v9
  else
   if v0 = (4 : Int32) then
    (f_L_p10 n v8).bind fun c4 =>
    lt ((v2 * v5) * c4) fun x5 =>
    (f_L_p10 n (v4 + v7)).bind fun c6 =>
    f_L_sizeErr_153 n v1 v9 x5 c6
   else
    (f_L_p10 n (v7 + v8)).bind fun c7 =>
    lt (v2 * c7) fun x8 =>
    (f_L_p10 n v4).bind fun c9 =>
    lt (v5 * c9) fun x10 =>
    f_L_sizeErr_153 n v1 v9 x8 x10
theorem ok28_14 (l : Launch) (Z : State) (a0 : Array Value) (hw : HW a0 Z) (n0 n : Nat) (v0 v1 : Int32) (v2 : Int64) (v4 : Int32) (v5 : Int64) (v7 v8 v9 r : Int32) (h : f_L_sizeErr_14 n v0 v1 v2 v4 v5 v7 v8 v9 = some r) : W28 l Z n0 (P28 r) 0 0 14 (vI v0 :: vI v1 :: vJ v2 :: vS :: vI v4 :: vJ v5 :: vS :: vI v7 :: vI v8 :: vI v9 :: vU :: vU :: vU :: vU :: vU :: vU :: vU :: vU :: vU :: []) [] ([] : List OwnC) := by
 unfold f_L_sizeErr_14 at h
 refine WP.iloadN d28_14 rfl ?_
 refine WP.iconst (2 : Int32) d28_15 rfl ?_
 rcases ite_e h with ⟨hc1, h⟩ | ⟨hc1, h⟩
 ·
  refine WP.icmpY (pc' := 24) d28_16 (XT.ii_eq_t hc1) (by decide) rfl ?_
  exact WP.weak (L' := (vI v0 :: vI v1 :: vJ v2 :: vS :: vI v4 :: vJ v5 :: vS :: vI v7 :: vI v8 :: vI v9 :: vU :: vU :: vU :: vU :: vU :: vU :: vU :: vU :: vU :: [])) ⟨rfl, rfl, rfl, rfl, rfl, rfl, rfl, rfl, rfl, rfl, trivial⟩ (ok28_24 l Z a0 hw n0 n v0 v1 v2 v4 v5 v7 v8 v9 _ h)
 ·
  refine WP.icmpN d28_16 (XT.ii_eq_f hc1) ?_
  refine WP.iloadN d28_19 rfl ?_
  refine WP.iconst (3 : Int32) d28_20 rfl ?_
  rcases ite_e h with ⟨hc2, h⟩ | ⟨hc2, h⟩
  ·
   refine WP.icmpN d28_21 (XT.ii_ne_f hc2) ?_
   exact WP.weak (L' := (vI v0 :: vI v1 :: vJ v2 :: vS :: vI v4 :: vJ v5 :: vS :: vI v7 :: vI v8 :: vI v9 :: vU :: vU :: vU :: vU :: vU :: vU :: vU :: vU :: vU :: [])) ⟨rfl, rfl, rfl, rfl, rfl, rfl, rfl, rfl, rfl, rfl, trivial⟩ (ok28_24 l Z a0 hw n0 n v0 v1 v2 v4 v5 v7 v8 v9 _ h)
  ·
   refine WP.icmpY (pc' := 101) d28_21 (XT.ii_ne_t hc2) (by decide) rfl ?_
   refine WP.iloadN d28_101 rfl ?_
   refine WP.iconst (4 : Int32) d28_102 rfl ?_
   rcases ite_e h with ⟨hc3, h⟩ | ⟨hc3, h⟩
   ·
    refine WP.icmpN d28_103 (XT.ii_ne_f hc3) ?_
    refine WP.lloadN d28_106 rfl ?_
    refine WP.lload d28_107 rfl ?_
    refine WP.lmul d28_109 ?_
    refine WP.iload d28_110 rfl ?_
    obtain ⟨c4, hc4, h⟩ := bd h
    refine WP.callS (y := y10) (as := [.int v8]) (S := [.long (v2 * v5)]) d28_112 (hw _ m_89) (hw _ m_90) (hw _ m_2) (hw _ m_91) hy10 (ok10 l Z a0 hw n v8 _ hc4) rfl (lenOf pd10 rfl) (leb rfl) (leb rfl) (leb rfl) (leb rfl) ?_
    rintro _ _ ⟨rfl, rfl⟩
    show W28 l Z n0 (P28 r) 0 0 115 (vI v0 :: vI v1 :: vJ v2 :: vS :: vI v4 :: vJ v5 :: vS :: vI v7 :: vI v8 :: vI v9 :: vU :: vU :: vU :: vU :: vU :: vU :: vU :: vU :: vU :: []) [.long c4, .long (v2 * v5)] ([] : List OwnC)
    refine WP.lmul d28_115 ?_
    obtain ⟨x5, ex5, h⟩ := lt_e h
    refine WP.lstore (L' := (vI v0 :: vI v1 :: vJ v2 :: vS :: vI v4 :: vJ v5 :: vS :: vI v7 :: vI v8 :: vI v9 :: vJ x5 :: vS :: vU :: vU :: vU :: vU :: vU :: vU :: vU :: [])) d28_116 (leb rfl) (by subst ex5; rfl) ?_
    refine WP.iload d28_118 rfl ?_
    refine WP.iload d28_120 rfl ?_
    refine WP.iadd d28_122 ?_
    obtain ⟨c6, hc6, h⟩ := bd h
    refine WP.callS (y := y10) (as := [.int (v4 + v7)]) (S := []) d28_123 (hw _ m_89) (hw _ m_90) (hw _ m_2) (hw _ m_91) hy10 (ok10 l Z a0 hw n (v4 + v7) _ hc6) rfl (lenOf pd10 rfl) (leb rfl) (leb rfl) (leb rfl) (leb rfl) ?_
    rintro _ _ ⟨rfl, rfl⟩
    show W28 l Z n0 (P28 r) 0 0 126 (vI v0 :: vI v1 :: vJ v2 :: vS :: vI v4 :: vJ v5 :: vS :: vI v7 :: vI v8 :: vI v9 :: vJ x5 :: vS :: vU :: vU :: vU :: vU :: vU :: vU :: vU :: []) [.long c6] ([] : List OwnC)
    refine WP.lstore (L' := (vI v0 :: vI v1 :: vJ v2 :: vS :: vI v4 :: vJ v5 :: vS :: vI v7 :: vI v8 :: vI v9 :: vJ x5 :: vS :: vJ c6 :: vS :: vU :: vU :: vU :: vU :: vU :: [])) d28_126 (leb rfl) rfl ?_
    refine WP.goto (pc' := 153) d28_128 (by decide) rfl ?_
    exact WP.weak (L' := (vU :: vI v1 :: vU :: vU :: vU :: vU :: vU :: vU :: vU :: vI v9 :: vJ x5 :: vS :: vJ c6 :: vS :: vU :: vU :: vU :: vU :: vU :: [])) ⟨rfl, rfl, rfl, rfl, rfl, rfl, trivial⟩ (ok28_153 l Z a0 hw n0 n v1 v9 x5 c6 _ h)
   ·
    refine WP.icmpY (pc' := 131) d28_103 (XT.ii_ne_t hc3) (by decide) rfl ?_
    refine WP.lloadN d28_131 rfl ?_
    refine WP.iload d28_132 rfl ?_
    refine WP.iload d28_134 rfl ?_
    refine WP.iadd d28_136 ?_
    obtain ⟨c7, hc7, h⟩ := bd h
    refine WP.callS (y := y10) (as := [.int (v7 + v8)]) (S := [.long v2]) d28_137 (hw _ m_89) (hw _ m_90) (hw _ m_2) (hw _ m_91) hy10 (ok10 l Z a0 hw n (v7 + v8) _ hc7) rfl (lenOf pd10 rfl) (leb rfl) (leb rfl) (leb rfl) (leb rfl) ?_
    rintro _ _ ⟨rfl, rfl⟩
    show W28 l Z n0 (P28 r) 0 0 140 (vI v0 :: vI v1 :: vJ v2 :: vS :: vI v4 :: vJ v5 :: vS :: vI v7 :: vI v8 :: vI v9 :: vU :: vU :: vU :: vU :: vU :: vU :: vU :: vU :: vU :: []) [.long c7, .long v2] ([] : List OwnC)
    refine WP.lmul d28_140 ?_
    obtain ⟨x8, ex8, h⟩ := lt_e h
    refine WP.lstore (L' := (vI v0 :: vI v1 :: vJ v2 :: vS :: vI v4 :: vJ v5 :: vS :: vI v7 :: vI v8 :: vI v9 :: vJ x8 :: vS :: vU :: vU :: vU :: vU :: vU :: vU :: vU :: [])) d28_141 (leb rfl) (by subst ex8; rfl) ?_
    refine WP.lload d28_143 rfl ?_
    refine WP.iload d28_145 rfl ?_
    obtain ⟨c9, hc9, h⟩ := bd h
    refine WP.callS (y := y10) (as := [.int v4]) (S := [.long v5]) d28_147 (hw _ m_89) (hw _ m_90) (hw _ m_2) (hw _ m_91) hy10 (ok10 l Z a0 hw n v4 _ hc9) rfl (lenOf pd10 rfl) (leb rfl) (leb rfl) (leb rfl) (leb rfl) ?_
    rintro _ _ ⟨rfl, rfl⟩
    show W28 l Z n0 (P28 r) 0 0 150 (vI v0 :: vI v1 :: vJ v2 :: vS :: vI v4 :: vJ v5 :: vS :: vI v7 :: vI v8 :: vI v9 :: vJ x8 :: vS :: vU :: vU :: vU :: vU :: vU :: vU :: vU :: []) [.long c9, .long v5] ([] : List OwnC)
    refine WP.lmul d28_150 ?_
    obtain ⟨x10, ex10, h⟩ := lt_e h
    refine WP.lstore (L' := (vI v0 :: vI v1 :: vJ v2 :: vS :: vI v4 :: vJ v5 :: vS :: vI v7 :: vI v8 :: vI v9 :: vJ x8 :: vS :: vJ x10 :: vS :: vU :: vU :: vU :: vU :: vU :: [])) d28_151 (leb rfl) (by subst ex10; rfl) ?_
    exact WP.weak (L' := (vU :: vI v1 :: vU :: vU :: vU :: vU :: vU :: vU :: vU :: vI v9 :: vJ x8 :: vS :: vJ x10 :: vS :: vU :: vU :: vU :: vU :: vU :: [])) ⟨rfl, rfl, rfl, rfl, rfl, rfl, trivial⟩ (ok28_153 l Z a0 hw n0 n v1 v9 x8 x10 _ h)
def f_L_sizeErr (n : Nat) (p0 p1 : Int32) (p2 : Int64) (p3 : Int32) (p4 : Int64) (p5 p6 p7 : Int32) : Option (Int32) :=
 if p0 = (5 : Int32) then
  if p4 = (0 : Int64) then
   some (1 : Int32)
  else
   f_L_sizeErr_14 n p0 p1 p2 p3 p4 p5 p6 p7
 else
  f_L_sizeErr_14 n p0 p1 p2 p3 p4 p5 p6 p7
theorem ok28 (l : Launch) (Z : State) (a0 : Array Value) (hw : HW a0 Z) (n : Nat) (p0 p1 : Int32) (p2 : Int64) (p3 : Int32) (p4 : Int64) (p5 p6 p7 r : Int32) (h : f_L_sizeErr n p0 p1 p2 p3 p4 p5 p6 p7 = some r) : CS l Z CN lay y28 method_11_code 19 (some FieldType.boolean) R28 0 [.int p0, .int p1, .long p2, .int p3, .long p4, .int p5, .int p6, .int p7] ([] : List OwnC) (P28 r) := by
 refine CS.of_wp pn_law (leb rfl) fun n0 => ?_
 show W28 l Z n0 (P28 r) 0 0 0 (vI p0 :: vI p1 :: vJ p2 :: vS :: vI p3 :: vJ p4 :: vS :: vI p5 :: vI p6 :: vI p7 :: vU :: vU :: vU :: vU :: vU :: vU :: vU :: vU :: vU :: []) [] ([] : List OwnC)
 unfold f_L_sizeErr at h
 refine WP.iloadN d28_0 rfl ?_
 refine WP.iconst (5 : Int32) d28_1 rfl ?_
 rcases ite_e h with ⟨hc1, h⟩ | ⟨hc1, h⟩
 ·
  refine WP.icmpN d28_2 (XT.ii_ne_f hc1) ?_
  refine WP.lload d28_5 rfl ?_
  refine WP.lconst (0 : Int64) d28_7 rfl ?_
  refine WP.lcmp d28_8 ?_
  rcases ite_e h with ⟨hc2, h⟩ | ⟨hc2, h⟩
  ·
   refine WP.ifN d28_9 (XT.ll_ne_f hc2) ?_
   refine WP.iconst (1 : Int32) d28_12 rfl ?_
   cases h
   exact WP.zreturn d28_13 rfl (leb rfl) (leb rfl) ⟨rfl, rfl⟩
  ·
   refine WP.ifY (pc' := 14) d28_9 (XT.ll_ne_t hc2) (by decide) rfl ?_
   exact WP.weak (L' := (vI p0 :: vI p1 :: vJ p2 :: vS :: vI p3 :: vJ p4 :: vS :: vI p5 :: vI p6 :: vI p7 :: vU :: vU :: vU :: vU :: vU :: vU :: vU :: vU :: vU :: [])) ⟨rfl, rfl, rfl, rfl, rfl, rfl, rfl, rfl, rfl, rfl, trivial⟩ (ok28_14 l Z a0 hw n0 n p0 p1 p2 p3 p4 p5 p6 p7 _ h)
 ·
  refine WP.icmpY (pc' := 14) d28_2 (XT.ii_ne_t hc1) (by decide) rfl ?_
  exact WP.weak (L' := (vI p0 :: vI p1 :: vJ p2 :: vS :: vI p3 :: vJ p4 :: vS :: vI p5 :: vI p6 :: vI p7 :: vU :: vU :: vU :: vU :: vU :: vU :: vU :: vU :: vU :: [])) ⟨rfl, rfl, rfl, rfl, rfl, rfl, rfl, rfl, rfl, rfl, trivial⟩ (ok28_14 l Z a0 hw n0 n p0 p1 p2 p3 p4 p5 p6 p7 _ h)
theorem d29_0 : dc k11 0 (.aload_n 0) 1 := by decide +kernel
theorem d29_1 : dc k11 1 (.getfield 74) 3 := by decide +kernel
theorem d29_4 : dc k11 4 (.ireturn) 1 := by decide +kernel
abbrev y29 : MethodName := ⟨"PictureCobol", "getSizeErrors", "()I"⟩
theorem hy29 : y29.cls ≠ "java/lang/invoke/MethodHandle" ∧ y29.cls ≠ "java/lang/invoke/VarHandle" := by decide
theorem pd29 : parseMethodDescriptor y29.desc = some ⟨[], some .int⟩ := by decide +kernel
abbrev R29 : Room := { frames := 0, cells := 0, slots := 0, locals := 0 }
abbrev P29 (s : St) (r : Int32) : Option Value → List OwnC → Prop := fun v H' => v = some (.int r) ∧ H' = (Hb 0 s)
abbrev W29 (l : Launch) (Z : State) (n0 : Nat) (Q : Option Value → List OwnC → Prop) (k n pc : Nat) (L : List Slot) (S : List Value) (H : List OwnC) : Prop := WP l Z CN lay "PictureCobol" "getSizeErrors" prog_1_method_12_code 1 (some FieldType.int) R29 n0 0 Q k n pc L S H
def f_getSizeErrors (s : St) : Option (Int32) :=
 some (gI s 8)
theorem ok29 (l : Launch) (Z : State) (a0 : Array Value) (hw : HW a0 Z) (s : St) (r : Int32) (h : f_getSizeErrors s = some r) : CS l Z CN lay y29 prog_1_method_12_code 1 (some FieldType.int) R29 0 [.ref 0] (Hb 0 s) (P29 s r) := by
 refine CS.of_wp pn_cls (leb rfl) fun n0 => ?_
 show W29 l Z n0 (P29 s r) 0 0 0 (vR 0 :: []) [] (Hb 0 s)
 unfold f_getSizeErrors at h
 refine WP.aloadN d29_0 rfl ?_
 refine WP.getfield (i := 0) (j := 19) d29_1 (hw _ m_57) rfl rfl rfl ?_
 cases h
 exact WP.ireturn d29_4 rfl (leb rfl) (leb rfl) ⟨rfl, rfl⟩
theorem d35_0 : dc k22 0 (.lload_n 1) 1 := by decide +kernel
theorem d35_1 : dc k22 1 (.lconst 0) 1 := by decide +kernel
theorem d35_2 : dc k22 2 (.lcmp) 1 := by decide +kernel
theorem d35_3 : dc k22 3 (.ifCond .ge 8) 3 := by decide +kernel
theorem d35_6 : dc k22 6 (.lload_n 1) 1 := by decide +kernel
theorem d35_7 : dc k22 7 (.lneg) 1 := by decide +kernel
theorem d35_8 : dc k22 8 (.goto 4) 3 := by decide +kernel
theorem d35_11 : dc k22 11 (.lload_n 1) 1 := by decide +kernel
theorem d35_12 : dc k22 12 (.lreturn) 1 := by decide +kernel
abbrev y35 : MethodName := ⟨"PictureCobol", "absL", "(J)J"⟩
theorem hy35 : y35.cls ≠ "java/lang/invoke/MethodHandle" ∧ y35.cls ≠ "java/lang/invoke/VarHandle" := by decide
theorem pd35 : parseMethodDescriptor y35.desc = some ⟨[.long], some .long⟩ := by decide +kernel
abbrev R35 : Room := { frames := 0, cells := 0, slots := 0, locals := 0 }
abbrev P35 (s : St) (r : Int64) : Option Value → List OwnC → Prop := fun v H' => v = some (.long r) ∧ H' = (Hb 0 s)
abbrev W35 (l : Launch) (Z : State) (n0 : Nat) (Q : Option Value → List OwnC → Prop) (k n pc : Nat) (L : List Slot) (S : List Value) (H : List OwnC) : Prop := WP l Z CN lay "PictureCobol" "absL" prog_1_method_25_code 3 (some FieldType.long) R35 n0 0 Q k n pc L S H
def f_absL_12 (t0 : Int64) (s : St) : Option (Int64) :=
 some t0
theorem ok35_12 (l : Launch) (Z : State) (a0 : Array Value) (hw : HW a0 Z) (n0 : Nat) (t0 : Int64) (s : St) (r : Int64) (h : f_absL_12 t0 s = some r) : W35 l Z n0 (P35 s r) 0 0 12 (vU :: vU :: vU :: []) [.long t0] (Hb 0 s) := by
 unfold f_absL_12 at h
 cases h
 exact WP.lreturn d35_12 rfl (leb rfl) (leb rfl) ⟨rfl, rfl⟩
def f_absL (p1 : Int64) (s : St) : Option (Int64) :=
 if p1 < (0 : Int64) then
  f_absL_12 (-p1) s
 else
  f_absL_12 p1 s
theorem ok35 (l : Launch) (Z : State) (a0 : Array Value) (hw : HW a0 Z) (p1 : Int64) (s : St) (r : Int64) (h : f_absL p1 s = some r) : CS l Z CN lay y35 prog_1_method_25_code 3 (some FieldType.long) R35 0 [.ref 0, .long p1] (Hb 0 s) (P35 s r) := by
 refine CS.of_wp pn_cls (leb rfl) fun n0 => ?_
 show W35 l Z n0 (P35 s r) 0 0 0 (vR 0 :: vJ p1 :: vS :: []) [] (Hb 0 s)
 unfold f_absL at h
 refine WP.lloadN d35_0 rfl ?_
 refine WP.lconst (0 : Int64) d35_1 rfl ?_
 refine WP.lcmp d35_2 ?_
 rcases ite_e h with ⟨hc1, h⟩ | ⟨hc1, h⟩
 ·
  refine WP.ifN d35_3 (XT.ll_ge_f hc1) ?_
  refine WP.lloadN d35_6 rfl ?_
  refine WP.lneg d35_7 ?_
  refine WP.goto (pc' := 12) d35_8 (by decide) rfl ?_
  exact WP.weak (L' := (vU :: vU :: vU :: [])) trivial (ok35_12 l Z a0 hw n0 (-p1) s _ h)
 ·
  refine WP.ifY (pc' := 11) d35_3 (XT.ll_ge_t hc1) (by decide) rfl ?_
  refine WP.lloadN d35_11 rfl ?_
  exact WP.weak (L' := (vU :: vU :: vU :: [])) trivial (ok35_12 l Z a0 hw n0 p1 s _ h)
theorem d34_0 : dc k23 0 (.aload_n 0) 1 := by decide +kernel
theorem d34_1 : dc k23 1 (.aload_n 0) 1 := by decide +kernel
theorem d34_2 : dc k23 2 (.getfield 112) 3 := by decide +kernel
theorem d34_5 : dc k23 5 (.invokevirtual 116) 3 := by decide +kernel
theorem d34_8 : dc k23 8 (.lstore_n 2) 1 := by decide +kernel
theorem d34_9 : dc k23 9 (.lload_n 2) 1 := by decide +kernel
theorem d34_10 : dc k23 10 (.aload_n 0) 1 := by decide +kernel
theorem d34_11 : dc k23 11 (.getfield 120) 3 := by decide +kernel
theorem d34_14 : dc k23 14 (.ldiv) 1 := by decide +kernel
theorem d34_15 : dc k23 15 (.lstore 4) 2 := by decide +kernel
theorem d34_17 : dc k23 17 (.iload_n 1) 1 := by decide +kernel
theorem d34_18 : dc k23 18 (.ifCond .eq 31) 3 := by decide +kernel
theorem d34_21 : dc k23 21 (.lload_n 2) 1 := by decide +kernel
theorem d34_22 : dc k23 22 (.aload_n 0) 1 := by decide +kernel
theorem d34_23 : dc k23 23 (.getfield 120) 3 := by decide +kernel
theorem d34_26 : dc k23 26 (.lrem) 1 := by decide +kernel
theorem d34_27 : dc k23 27 (.lstore 6) 2 := by decide +kernel
theorem d34_29 : dc k23 29 (.lload 6) 2 := by decide +kernel
theorem d34_31 : dc k23 31 (.ldc2_w 123) 3 := by decide +kernel
theorem d34_34 : dc k23 34 (.lmul) 1 := by decide +kernel
theorem d34_35 : dc k23 35 (.aload_n 0) 1 := by decide +kernel
theorem d34_36 : dc k23 36 (.getfield 120) 3 := by decide +kernel
theorem d34_39 : dc k23 39 (.lcmp) 1 := by decide +kernel
theorem d34_40 : dc k23 40 (.ifCond .lt 9) 3 := by decide +kernel
theorem d34_43 : dc k23 43 (.lload 4) 2 := by decide +kernel
theorem d34_45 : dc k23 45 (.lconst 1) 1 := by decide +kernel
theorem d34_46 : dc k23 46 (.ladd) 1 := by decide +kernel
theorem d34_47 : dc k23 47 (.lstore 4) 2 := by decide +kernel
theorem d34_49 : dc k23 49 (.aload_n 0) 1 := by decide +kernel
theorem d34_50 : dc k23 50 (.getfield 112) 3 := by decide +kernel
theorem d34_53 : dc k23 53 (.lconst 0) 1 := by decide +kernel
theorem d34_54 : dc k23 54 (.lcmp) 1 := by decide +kernel
theorem d34_55 : dc k23 55 (.ifCond .ge 9) 3 := by decide +kernel
theorem d34_58 : dc k23 58 (.lload 4) 2 := by decide +kernel
theorem d34_60 : dc k23 60 (.lneg) 1 := by decide +kernel
theorem d34_61 : dc k23 61 (.goto 5) 3 := by decide +kernel
theorem d34_64 : dc k23 64 (.lload 4) 2 := by decide +kernel
theorem d34_66 : dc k23 66 (.lreturn) 1 := by decide +kernel
abbrev y34 : MethodName := ⟨"PictureCobol", "toInteger", "(Z)J"⟩
theorem hy34 : y34.cls ≠ "java/lang/invoke/MethodHandle" ∧ y34.cls ≠ "java/lang/invoke/VarHandle" := by decide
theorem pd34 : parseMethodDescriptor y34.desc = some ⟨[.boolean], some .long⟩ := by decide +kernel
abbrev R34 : Room := { frames := 1, cells := 0, slots := 0, locals := 14 }
abbrev P34 (s : St) (r : Int64) : Option Value → List OwnC → Prop := fun v H' => v = some (.long r) ∧ H' = (Hb 0 s)
abbrev W34 (l : Launch) (Z : State) (n0 : Nat) (Q : Option Value → List OwnC → Prop) (k n pc : Nat) (L : List Slot) (S : List Value) (H : List OwnC) : Prop := WP l Z CN lay "PictureCobol" "toInteger" prog_1_method_26_code 8 (some FieldType.long) R34 n0 0 Q k n pc L S H
def f_toInteger_66 (t0 : Int64) (s : St) : Option (Int64) :=
 some t0
theorem ok34_66 (l : Launch) (Z : State) (a0 : Array Value) (hw : HW a0 Z) (n0 : Nat) (t0 : Int64) (s : St) (r : Int64) (h : f_toInteger_66 t0 s = some r) : W34 l Z n0 (P34 s r) 0 0 66 (vU :: vU :: vU :: vU :: vU :: vU :: vU :: vU :: []) [.long t0] (Hb 0 s) := by
 unfold f_toInteger_66 at h
 cases h
 exact WP.lreturn d34_66 rfl (leb rfl) (leb rfl) ⟨rfl, rfl⟩
def f_toInteger_49 (v4 : Int64) (s : St) : Option (Int64) :=
 if (gJ s 0) < (0 : Int64) then
  f_toInteger_66 (-v4) s
 else
  f_toInteger_66 v4 s
theorem ok34_49 (l : Launch) (Z : State) (a0 : Array Value) (hw : HW a0 Z) (n0 : Nat) (v4 : Int64) (s : St) (r : Int64) (h : f_toInteger_49 v4 s = some r) : W34 l Z n0 (P34 s r) 0 0 49 (vR 0 :: vU :: vU :: vU :: vJ v4 :: vS :: vU :: vU :: []) [] (Hb 0 s) := by
 unfold f_toInteger_49 at h
 refine WP.aloadN d34_49 rfl ?_
 refine WP.getfield (i := 0) (j := 20) d34_50 (hw _ m_191) rfl rfl rfl ?_
 refine WP.lconst (0 : Int64) d34_53 rfl ?_
 refine WP.lcmp d34_54 ?_
 rcases ite_e h with ⟨hc1, h⟩ | ⟨hc1, h⟩
 ·
  refine WP.ifN d34_55 (XT.ll_ge_f hc1) ?_
  refine WP.lload d34_58 rfl ?_
  refine WP.lneg d34_60 ?_
  refine WP.goto (pc' := 66) d34_61 (by decide) rfl ?_
  exact WP.weak (L' := (vU :: vU :: vU :: vU :: vU :: vU :: vU :: vU :: [])) trivial (ok34_66 l Z a0 hw n0 (-v4) s _ h)
 ·
  refine WP.ifY (pc' := 64) d34_55 (XT.ll_ge_t hc1) (by decide) rfl ?_
  refine WP.lload d34_64 rfl ?_
  exact WP.weak (L' := (vU :: vU :: vU :: vU :: vU :: vU :: vU :: vU :: [])) trivial (ok34_66 l Z a0 hw n0 v4 s _ h)
def f_toInteger (p1 : Int32) (s : St) : Option (Int64) :=
 (f_absL (gJ s 0) s).bind fun c1 =>
 if gJ s 1 = 0 then none else
 lt (c1 / (gJ s 1)) fun x3 =>
 if p1 = 0 then
  f_toInteger_49 x3 s
 else
  if gJ s 1 = 0 then none else
  lt (c1 % (gJ s 1)) fun x6 =>
  if (x6 * (2 : Int64)) < (gJ s 1) then
   f_toInteger_49 x3 s
  else
   lt (x3 + (1 : Int64)) fun x8 =>
   f_toInteger_49 x8 s
theorem ok34 (l : Launch) (Z : State) (a0 : Array Value) (hw : HW a0 Z) (p1 : Int32) (s : St) (r : Int64) (h : f_toInteger p1 s = some r) : CS l Z CN lay y34 prog_1_method_26_code 8 (some FieldType.long) R34 0 [.ref 0, .int p1] (Hb 0 s) (P34 s r) := by
 refine CS.of_wp pn_cls (leb rfl) fun n0 => ?_
 show W34 l Z n0 (P34 s r) 0 0 0 (vR 0 :: vI p1 :: vU :: vU :: vU :: vU :: vU :: vU :: []) [] (Hb 0 s)
 unfold f_toInteger at h
 refine WP.aloadN d34_0 rfl ?_
 refine WP.aloadN d34_1 rfl ?_
 refine WP.getfield (i := 0) (j := 20) d34_2 (hw _ m_191) rfl rfl rfl ?_
 obtain ⟨c1, hc1, h⟩ := bd h
 refine WP.callP (i := 0) (y := y35) (as := [.long (gJ s 0)]) (S := []) d34_5 (hw _ m_199) (hw _ m_201) (hw _ m_5) (hw _ m_200) (hw _ m_202) (hw _ m_6) hy35 rfl (ok35 l Z a0 hw (gJ s 0) s _ hc1) rfl (lenOf pd35 rfl) (leb rfl) (leb rfl) (leb rfl) (leb rfl) ?_
 rintro _ _ ⟨rfl, rfl⟩
 show W34 l Z n0 (P34 s r) 0 0 8 (vR 0 :: vI p1 :: vU :: vU :: vU :: vU :: vU :: vU :: []) [.long c1] (Hb 0 s)
 refine WP.lstoreN (L' := (vR 0 :: vI p1 :: vJ c1 :: vS :: vU :: vU :: vU :: vU :: [])) d34_8 (leb rfl) rfl ?_
 refine WP.lloadN d34_9 rfl ?_
 refine WP.aloadN d34_10 rfl ?_
 refine WP.getfield (i := 0) (j := 21) d34_11 (hw _ m_193) rfl rfl rfl ?_
 obtain ⟨hz2, h⟩ := nz_e h
 refine WP.ldiv d34_14 hz2 ?_
 obtain ⟨x3, ex3, h⟩ := lt_e h
 refine WP.lstore (L' := (vR 0 :: vI p1 :: vJ c1 :: vS :: vJ x3 :: vS :: vU :: vU :: [])) d34_15 (leb rfl) (by subst ex3; rfl) ?_
 refine WP.iloadN d34_17 rfl ?_
 rcases ite_e h with ⟨hc4, h⟩ | ⟨hc4, h⟩
 ·
  refine WP.ifY (pc' := 49) d34_18 (XT.i0_eq_t hc4) (by decide) rfl ?_
  exact WP.weak (L' := (vR 0 :: vU :: vU :: vU :: vJ x3 :: vS :: vU :: vU :: [])) ⟨rfl, rfl, rfl, trivial⟩ (ok34_49 l Z a0 hw n0 x3 s _ h)
 ·
  refine WP.ifN d34_18 (XT.i0_eq_f hc4) ?_
  refine WP.lloadN d34_21 rfl ?_
  refine WP.aloadN d34_22 rfl ?_
  refine WP.getfield (i := 0) (j := 21) d34_23 (hw _ m_193) rfl rfl rfl ?_
  obtain ⟨hz5, h⟩ := nz_e h
  refine WP.lrem d34_26 hz5 ?_
  obtain ⟨x6, ex6, h⟩ := lt_e h
  refine WP.lstore (L' := (vR 0 :: vI p1 :: vJ c1 :: vS :: vJ x3 :: vS :: vJ x6 :: vS :: [])) d34_27 (leb rfl) (by subst ex6; rfl) ?_
  refine WP.lload d34_29 rfl ?_
  refine WP.ldc2 d34_31 (hw _ m_213) ?_
  refine WP.lmul d34_34 ?_
  refine WP.aloadN d34_35 rfl ?_
  refine WP.getfield (i := 0) (j := 21) d34_36 (hw _ m_193) rfl rfl rfl ?_
  refine WP.lcmp d34_39 ?_
  rcases ite_e h with ⟨hc7, h⟩ | ⟨hc7, h⟩
  ·
   refine WP.ifY (pc' := 49) d34_40 (XT.ll_lt_t hc7) (by decide) rfl ?_
   exact WP.weak (L' := (vR 0 :: vU :: vU :: vU :: vJ x3 :: vS :: vU :: vU :: [])) ⟨rfl, rfl, rfl, trivial⟩ (ok34_49 l Z a0 hw n0 x3 s _ h)
  ·
   refine WP.ifN d34_40 (XT.ll_lt_f hc7) ?_
   refine WP.lload d34_43 rfl ?_
   refine WP.lconst (1 : Int64) d34_45 rfl ?_
   refine WP.ladd d34_46 ?_
   obtain ⟨x8, ex8, h⟩ := lt_e h
   refine WP.lstore (L' := (vR 0 :: vI p1 :: vJ c1 :: vS :: vJ x8 :: vS :: vJ x6 :: vS :: [])) d34_47 (leb rfl) (by subst ex8; rfl) ?_
   exact WP.weak (L' := (vR 0 :: vU :: vU :: vU :: vJ x8 :: vS :: vU :: vU :: [])) ⟨rfl, rfl, rfl, trivial⟩ (ok34_49 l Z a0 hw n0 x8 s _ h)
theorem d42_0 : dc k25 0 (.aload_n 0) 1 := by decide +kernel
theorem d42_1 : dc k25 1 (.iload_n 3) 1 := by decide +kernel
theorem d42_2 : dc k25 2 (.invokevirtual 85) 3 := by decide +kernel
theorem d42_5 : dc k25 5 (.lstore 4) 2 := by decide +kernel
theorem d42_7 : dc k25 7 (.aload_n 0) 1 := by decide +kernel
theorem d42_8 : dc k25 8 (.lload_n 1) 1 := by decide +kernel
theorem d42_9 : dc k25 9 (.invokevirtual 116) 3 := by decide +kernel
theorem d42_12 : dc k25 12 (.lload 4) 2 := by decide +kernel
theorem d42_14 : dc k25 14 (.lrem) 1 := by decide +kernel
theorem d42_15 : dc k25 15 (.lstore 6) 2 := by decide +kernel
theorem d42_17 : dc k25 17 (.lload 6) 2 := by decide +kernel
theorem d42_19 : dc k25 19 (.l2i) 1 := by decide +kernel
theorem d42_20 : dc k25 20 (.istore 8) 2 := by decide +kernel
theorem d42_22 : dc k25 22 (.lload_n 1) 1 := by decide +kernel
theorem d42_23 : dc k25 23 (.lconst 0) 1 := by decide +kernel
theorem d42_24 : dc k25 24 (.lcmp) 1 := by decide +kernel
theorem d42_25 : dc k25 25 (.ifCond .ge 9) 3 := by decide +kernel
theorem d42_28 : dc k25 28 (.iload 8) 2 := by decide +kernel
theorem d42_30 : dc k25 30 (.ineg) 1 := by decide +kernel
theorem d42_31 : dc k25 31 (.goto 5) 3 := by decide +kernel
theorem d42_34 : dc k25 34 (.iload 8) 2 := by decide +kernel
theorem d42_36 : dc k25 36 (.ireturn) 1 := by decide +kernel
abbrev y42 : MethodName := ⟨"PictureCobol", "lowDigits", "(JI)I"⟩
theorem hy42 : y42.cls ≠ "java/lang/invoke/MethodHandle" ∧ y42.cls ≠ "java/lang/invoke/VarHandle" := by decide
theorem pd42 : parseMethodDescriptor y42.desc = some ⟨[.long, .int], some .int⟩ := by decide +kernel
abbrev R42 : Room := { frames := 1, cells := 0, slots := 0, locals := 16 }
abbrev P42 (s : St) (r : Int32) : Option Value → List OwnC → Prop := fun v H' => v = some (.int r) ∧ H' = (Hb 0 s)
abbrev W42 (l : Launch) (Z : State) (n0 : Nat) (Q : Option Value → List OwnC → Prop) (k n pc : Nat) (L : List Slot) (S : List Value) (H : List OwnC) : Prop := WP l Z CN lay "PictureCobol" "lowDigits" prog_1_method_28_code 9 (some FieldType.int) R42 n0 0 Q k n pc L S H
def f_lowDigits_36 (n : Nat) (t0 : Int32) (s : St) : Option (Int32) :=
 some t0
theorem ok42_36 (l : Launch) (Z : State) (a0 : Array Value) (hw : HW a0 Z) (n0 n : Nat) (t0 : Int32) (s : St) (r : Int32) (h : f_lowDigits_36 n t0 s = some r) : W42 l Z n0 (P42 s r) 0 0 36 (vU :: vU :: vU :: vU :: vU :: vU :: vU :: vU :: vU :: []) [.int t0] (Hb 0 s) := by
 unfold f_lowDigits_36 at h
 cases h
 exact WP.ireturn d42_36 rfl (leb rfl) (leb rfl) ⟨rfl, rfl⟩
def f_lowDigits (n : Nat) (p1 : Int64) (p2 : Int32) (s : St) : Option (Int32) :=
 (f_pow10 n p2 s).bind fun c1 =>
 (f_absL p1 s).bind fun c2 =>
 if c1 = 0 then none else
 lt (c2 % c1) fun x4 =>
 lt (x4.toInt32) fun x5 =>
 if p1 < (0 : Int64) then
  f_lowDigits_36 n (-x5) s
 else
  f_lowDigits_36 n x5 s
theorem ok42 (l : Launch) (Z : State) (a0 : Array Value) (hw : HW a0 Z) (n : Nat) (p1 : Int64) (p2 : Int32) (s : St) (r : Int32) (h : f_lowDigits n p1 p2 s = some r) : CS l Z CN lay y42 prog_1_method_28_code 9 (some FieldType.int) R42 0 [.ref 0, .long p1, .int p2] (Hb 0 s) (P42 s r) := by
 refine CS.of_wp pn_cls (leb rfl) fun n0 => ?_
 show W42 l Z n0 (P42 s r) 0 0 0 (vR 0 :: vJ p1 :: vS :: vI p2 :: vU :: vU :: vU :: vU :: vU :: []) [] (Hb 0 s)
 unfold f_lowDigits at h
 refine WP.aloadN d42_0 rfl ?_
 refine WP.iloadN d42_1 rfl ?_
 obtain ⟨c1, hc1, h⟩ := bd h
 refine WP.callP (i := 0) (y := y13) (as := [.int p2]) (S := []) d42_2 (hw _ m_102) (hw _ m_104) (hw _ m_5) (hw _ m_103) (hw _ m_105) (hw _ m_6) hy13 rfl (ok13 l Z a0 hw n p2 s _ hc1) rfl (lenOf pd13 rfl) (leb rfl) (leb rfl) (leb rfl) (leb rfl) ?_
 rintro _ _ ⟨rfl, rfl⟩
 show W42 l Z n0 (P42 s r) 0 0 5 (vR 0 :: vJ p1 :: vS :: vI p2 :: vU :: vU :: vU :: vU :: vU :: []) [.long c1] (Hb 0 s)
 refine WP.lstore (L' := (vR 0 :: vJ p1 :: vS :: vI p2 :: vJ c1 :: vS :: vU :: vU :: vU :: [])) d42_5 (leb rfl) rfl ?_
 refine WP.aloadN d42_7 rfl ?_
 refine WP.lloadN d42_8 rfl ?_
 obtain ⟨c2, hc2, h⟩ := bd h
 refine WP.callP (i := 0) (y := y35) (as := [.long p1]) (S := []) d42_9 (hw _ m_199) (hw _ m_201) (hw _ m_5) (hw _ m_200) (hw _ m_202) (hw _ m_6) hy35 rfl (ok35 l Z a0 hw p1 s _ hc2) rfl (lenOf pd35 rfl) (leb rfl) (leb rfl) (leb rfl) (leb rfl) ?_
 rintro _ _ ⟨rfl, rfl⟩
 show W42 l Z n0 (P42 s r) 0 0 12 (vR 0 :: vJ p1 :: vS :: vI p2 :: vJ c1 :: vS :: vU :: vU :: vU :: []) [.long c2] (Hb 0 s)
 refine WP.lload d42_12 rfl ?_
 obtain ⟨hz3, h⟩ := nz_e h
 refine WP.lrem d42_14 hz3 ?_
 obtain ⟨x4, ex4, h⟩ := lt_e h
 refine WP.lstore (L' := (vR 0 :: vJ p1 :: vS :: vI p2 :: vJ c1 :: vS :: vJ x4 :: vS :: vU :: [])) d42_15 (leb rfl) (by subst ex4; rfl) ?_
 refine WP.lload d42_17 rfl ?_
 refine WP.l2i d42_19 ?_
 obtain ⟨x5, ex5, h⟩ := lt_e h
 refine WP.istore (L' := (vR 0 :: vJ p1 :: vS :: vI p2 :: vJ c1 :: vS :: vJ x4 :: vS :: vI x5 :: [])) d42_20 (leb rfl) (by subst ex5; rfl) ?_
 refine WP.lloadN d42_22 rfl ?_
 refine WP.lconst (0 : Int64) d42_23 rfl ?_
 refine WP.lcmp d42_24 ?_
 rcases ite_e h with ⟨hc6, h⟩ | ⟨hc6, h⟩
 ·
  refine WP.ifN d42_25 (XT.ll_ge_f hc6) ?_
  refine WP.iload d42_28 rfl ?_
  refine WP.ineg d42_30 ?_
  refine WP.goto (pc' := 36) d42_31 (by decide) rfl ?_
  exact WP.weak (L' := (vU :: vU :: vU :: vU :: vU :: vU :: vU :: vU :: vU :: [])) trivial (ok42_36 l Z a0 hw n0 n (-x5) s _ h)
 ·
  refine WP.ifY (pc' := 34) d42_25 (XT.ll_ge_t hc6) (by decide) rfl ?_
  refine WP.iload d42_34 rfl ?_
  exact WP.weak (L' := (vU :: vU :: vU :: vU :: vU :: vU :: vU :: vU :: vU :: [])) trivial (ok42_36 l Z a0 hw n0 n x5 s _ h)
theorem d41_0 : dc k27 0 (.aload_n 0) 1 := by decide +kernel
theorem d41_1 : dc k27 1 (.getfield 29) 3 := by decide +kernel
theorem d41_4 : dc k27 4 (.iload_n 1) 1 := by decide +kernel
theorem d41_5 : dc k27 5 (.iaload) 1 := by decide +kernel
theorem d41_6 : dc k27 6 (.istore_n 2) 1 := by decide +kernel
theorem d41_7 : dc k27 7 (.aload_n 0) 1 := by decide +kernel
theorem d41_8 : dc k27 8 (.getfield 35) 3 := by decide +kernel
theorem d41_11 : dc k27 11 (.iload_n 1) 1 := by decide +kernel
theorem d41_12 : dc k27 12 (.iaload) 1 := by decide +kernel
theorem d41_13 : dc k27 13 (.istore_n 3) 1 := by decide +kernel
theorem d41_14 : dc k27 14 (.aload_n 0) 1 := by decide +kernel
theorem d41_15 : dc k27 15 (.getfield 16) 3 := by decide +kernel
theorem d41_18 : dc k27 18 (.iload_n 2) 1 := by decide +kernel
theorem d41_19 : dc k27 19 (.iaload) 1 := by decide +kernel
theorem d41_20 : dc k27 20 (.i2l) 1 := by decide +kernel
theorem d41_21 : dc k27 21 (.lstore 4) 2 := by decide +kernel
theorem d41_23 : dc k27 23 (.aload_n 0) 1 := by decide +kernel
theorem d41_24 : dc k27 24 (.aload_n 0) 1 := by decide +kernel
theorem d41_25 : dc k27 25 (.getfield 13) 3 := by decide +kernel
theorem d41_28 : dc k27 28 (.iload_n 3) 1 := by decide +kernel
theorem d41_29 : dc k27 29 (.iaload) 1 := by decide +kernel
theorem d41_30 : dc k27 30 (.invokevirtual 85) 3 := by decide +kernel
theorem d41_33 : dc k27 33 (.lstore 6) 2 := by decide +kernel
theorem d41_35 : dc k27 35 (.aload_n 0) 1 := by decide +kernel
theorem d41_36 : dc k27 36 (.lload 4) 2 := by decide +kernel
theorem d41_38 : dc k27 38 (.lload 6) 2 := by decide +kernel
theorem d41_40 : dc k27 40 (.lmul) 1 := by decide +kernel
theorem d41_41 : dc k27 41 (.putfield 112) 3 := by decide +kernel
theorem d41_44 : dc k27 44 (.aload_n 0) 1 := by decide +kernel
theorem d41_45 : dc k27 45 (.aload_n 0) 1 := by decide +kernel
theorem d41_46 : dc k27 46 (.aload_n 0) 1 := by decide +kernel
theorem d41_47 : dc k27 47 (.getfield 13) 3 := by decide +kernel
theorem d41_50 : dc k27 50 (.iload_n 2) 1 := by decide +kernel
theorem d41_51 : dc k27 51 (.iaload) 1 := by decide +kernel
theorem d41_52 : dc k27 52 (.invokevirtual 85) 3 := by decide +kernel
theorem d41_55 : dc k27 55 (.putfield 120) 3 := by decide +kernel
theorem d41_58 : dc k27 58 (.aload_n 0) 1 := by decide +kernel
theorem d41_59 : dc k27 59 (.getfield 19) 3 := by decide +kernel
theorem d41_62 : dc k27 62 (.iload_n 3) 1 := by decide +kernel
theorem d41_63 : dc k27 63 (.baload) 1 := by decide +kernel
theorem d41_64 : dc k27 64 (.ifCond .ne 15) 3 := by decide +kernel
theorem d41_67 : dc k27 67 (.aload_n 0) 1 := by decide +kernel
theorem d41_68 : dc k27 68 (.aload_n 0) 1 := by decide +kernel
theorem d41_69 : dc k27 69 (.aload_n 0) 1 := by decide +kernel
theorem d41_70 : dc k27 70 (.getfield 112) 3 := by decide +kernel
theorem d41_73 : dc k27 73 (.invokevirtual 116) 3 := by decide +kernel
theorem d41_76 : dc k27 76 (.putfield 112) 3 := by decide +kernel
theorem d41_79 : dc k27 79 (.aload_n 0) 1 := by decide +kernel
theorem d41_80 : dc k27 80 (.iconst 0) 1 := by decide +kernel
theorem d41_81 : dc k27 81 (.invokevirtual 134) 3 := by decide +kernel
theorem d41_84 : dc k27 84 (.lstore 8) 2 := by decide +kernel
theorem d41_86 : dc k27 86 (.aload_n 0) 1 := by decide +kernel
theorem d41_87 : dc k27 87 (.iload_n 3) 1 := by decide +kernel
theorem d41_88 : dc k27 88 (.invokevirtual 81) 3 := by decide +kernel
theorem d41_91 : dc k27 91 (.istore 10) 2 := by decide +kernel
theorem d41_93 : dc k27 93 (.aload_n 0) 1 := by decide +kernel
theorem d41_94 : dc k27 94 (.getfield 16) 3 := by decide +kernel
theorem d41_97 : dc k27 97 (.iload_n 3) 1 := by decide +kernel
theorem d41_98 : dc k27 98 (.aload_n 0) 1 := by decide +kernel
theorem d41_99 : dc k27 99 (.lload 8) 2 := by decide +kernel
theorem d41_101 : dc k27 101 (.iload 10) 2 := by decide +kernel
theorem d41_103 : dc k27 103 (.invokevirtual 138) 3 := by decide +kernel
theorem d41_106 : dc k27 106 (.iastore) 1 := by decide +kernel
theorem d41_107 : dc k27 107 (.aload_n 0) 1 := by decide +kernel
theorem d41_108 : dc k27 108 (.aload_n 0) 1 := by decide +kernel
theorem d41_109 : dc k27 109 (.getfield 68) 3 := by decide +kernel
theorem d41_112 : dc k27 112 (.iconst 1) 1 := by decide +kernel
theorem d41_113 : dc k27 113 (.iadd) 1 := by decide +kernel
theorem d41_114 : dc k27 114 (.putfield 68) 3 := by decide +kernel
theorem d41_117 : dc k27 117 (.return_) 1 := by decide +kernel
abbrev y41 : MethodName := ⟨"PictureCobol", "execMove", "(I)V"⟩
theorem hy41 : y41.cls ≠ "java/lang/invoke/MethodHandle" ∧ y41.cls ≠ "java/lang/invoke/VarHandle" := by decide
theorem pd41 : parseMethodDescriptor y41.desc = some ⟨[.int], none⟩ := by decide +kernel
abbrev R41 : Room := { frames := 2, cells := 0, slots := 0, locals := 38 }
abbrev P41 (r : St) : Option Value → List OwnC → Prop := fun v H' => v = none ∧ H' = (Hb 0 r)
abbrev W41 (l : Launch) (Z : State) (n0 : Nat) (Q : Option Value → List OwnC → Prop) (k n pc : Nat) (L : List Slot) (S : List Value) (H : List OwnC) : Prop := WP l Z CN lay "PictureCobol" "execMove" prog_1_method_30_code 11 (none) R41 n0 0 Q k n pc L S H
def f_execMove_79 (n : Nat) (v3 : Int32) (s : St) : Option (St) :=
 (f_toInteger (0 : Int32) s).bind fun c1 =>
 (f_digits v3 s).bind fun c2 =>
 (f_lowDigits n c1 c2 s).bind fun c3 =>
 (wrA s 2 v3 c3).bind fun s4 =>
 lt (sI s4 6 ((gI s4 6) + (1 : Int32))) fun s5 =>
 some s5
theorem ok41_79 (l : Launch) (Z : State) (a0 : Array Value) (hw : HW a0 Z) (n0 n : Nat) (v3 : Int32) (s r : St) (h : f_execMove_79 n v3 s = some r) : W41 l Z n0 (P41 r) 0 0 79 (vR 0 :: vU :: vU :: vI v3 :: vU :: vU :: vU :: vU :: vU :: vU :: vU :: []) [] (Hb 0 s) := by
 unfold f_execMove_79 at h
 refine WP.aloadN d41_79 rfl ?_
 refine WP.iconst (0 : Int32) d41_80 rfl ?_
 obtain ⟨c1, hc1, h⟩ := bd h
 refine WP.callP (i := 0) (y := y34) (as := [oN]) (S := []) d41_81 (hw _ m_195) (hw _ m_197) (hw _ m_5) (hw _ m_196) (hw _ m_198) (hw _ m_6) hy34 rfl (ok34 l Z a0 hw (0 : Int32) s _ hc1) rfl (lenOf pd34 rfl) (leb rfl) (leb rfl) (leb rfl) (leb rfl) ?_
 rintro _ _ ⟨rfl, rfl⟩
 show W41 l Z n0 (P41 r) 0 0 84 (vR 0 :: vU :: vU :: vI v3 :: vU :: vU :: vU :: vU :: vU :: vU :: vU :: []) [.long c1] (Hb 0 s)
 refine WP.lstore (L' := (vR 0 :: vU :: vU :: vI v3 :: vU :: vU :: vU :: vU :: vJ c1 :: vS :: vU :: [])) d41_84 (leb rfl) rfl ?_
 refine WP.aloadN d41_86 rfl ?_
 refine WP.iloadN d41_87 rfl ?_
 obtain ⟨c2, hc2, h⟩ := bd h
 refine WP.callP (i := 0) (y := y12) (as := [.int v3]) (S := []) d41_88 (hw _ m_98) (hw _ m_100) (hw _ m_5) (hw _ m_99) (hw _ m_101) (hw _ m_6) hy12 rfl (ok12 l Z a0 hw v3 s _ hc2) rfl (lenOf pd12 rfl) (leb rfl) (leb rfl) (leb rfl) (leb rfl) ?_
 rintro _ _ ⟨rfl, rfl⟩
 show W41 l Z n0 (P41 r) 0 0 91 (vR 0 :: vU :: vU :: vI v3 :: vU :: vU :: vU :: vU :: vJ c1 :: vS :: vU :: []) [.int c2] (Hb 0 s)
 refine WP.istore (L' := (vR 0 :: vU :: vU :: vI v3 :: vU :: vU :: vU :: vU :: vJ c1 :: vS :: vI c2 :: [])) d41_91 (leb rfl) rfl ?_
 refine WP.aloadN d41_93 rfl ?_
 refine WP.getfield (i := 0) (j := 5) d41_94 (hw _ m_18) rfl rfl rfl ?_
 refine WP.iloadN d41_97 rfl ?_
 refine WP.aloadN d41_98 rfl ?_
 refine WP.lload d41_99 rfl ?_
 refine WP.iload d41_101 rfl ?_
 obtain ⟨c3, hc3, h⟩ := bd h
 refine WP.callP (i := 0) (y := y42) (as := [.long c1, .int c2]) (S := [.int v3, .ref 3]) d41_103 (hw _ m_230) (hw _ m_232) (hw _ m_5) (hw _ m_231) (hw _ m_233) (hw _ m_6) hy42 rfl (ok42 l Z a0 hw n c1 c2 s _ hc3) rfl (lenOf pd42 rfl) (leb rfl) (leb rfl) (leb rfl) (leb rfl) ?_
 rintro _ _ ⟨rfl, rfl⟩
 show W41 l Z n0 (P41 r) 0 0 106 (vR 0 :: vU :: vU :: vI v3 :: vU :: vU :: vU :: vU :: vJ c1 :: vS :: vI c2 :: []) [.int c3, .int v3, .ref 3] (Hb 0 s)
 obtain ⟨s4, hs4, h⟩ := bd h
 obtain ⟨ys4, gs4, es4⟩ := wrA_e hs4
 refine WP.iastore (i := 3) (xs := gA s 2) (H' := (Hb 0 s4)) d41_106 rfl (leb rfl) gs4 (by subst es4; rfl) ?_
 refine WP.aloadN d41_107 rfl ?_
 refine WP.aloadN d41_108 rfl ?_
 refine WP.getfield (i := 0) (j := 17) d41_109 (hw _ m_53) rfl rfl rfl ?_
 refine WP.iconst (1 : Int32) d41_112 rfl ?_
 refine WP.iadd d41_113 ?_
 obtain ⟨s5, es5, h⟩ := lt_e h
 refine WP.putI (i := 0) (j := 17) (H' := (Hb 0 s5)) d41_114 (hw _ m_53) (Or.inl (hw _ m_54)) (hw _ m_5) (hlay hw) rfl rfl rfl (leb rfl) (by subst es5; rfl) ?_
 cases h
 exact WP.vreturn d41_117 rfl (leb rfl) (leb rfl) ⟨rfl, rfl⟩
def f_execMove (n : Nat) (p1 : Int32) (s : St) : Option (St) :=
 (rd (gA s 6) p1).bind fun x1 =>
 (rd (gA s 8) p1).bind fun x2 =>
 (rd (gA s 2) x1).bind fun x3 =>
 lt (x3.toInt64) fun x4 =>
 (rd (gA s 1) x2).bind fun x5 =>
 (f_pow10 n x5 s).bind fun c6 =>
 lt (sJ s 0 (x4 * c6)) fun s7 =>
 (rd (gA s7 1) x1).bind fun x8 =>
 (f_pow10 n x8 s7).bind fun c9 =>
 lt (sJ s7 1 c9) fun s10 =>
 (rd (gA s10 3) x2).bind fun x11 =>
 if x11 = 0 then
  (f_absL (gJ s10 0) s10).bind fun c13 =>
  lt (sJ s10 0 c13) fun s14 =>
  f_execMove_79 n x2 s14
 else
  f_execMove_79 n x2 s10
theorem ok41 (l : Launch) (Z : State) (a0 : Array Value) (hw : HW a0 Z) (n : Nat) (p1 : Int32) (s r : St) (h : f_execMove n p1 s = some r) : CS l Z CN lay y41 prog_1_method_30_code 11 (none) R41 0 [.ref 0, .int p1] (Hb 0 s) (P41 r) := by
 refine CS.of_wp pn_cls (leb rfl) fun n0 => ?_
 show W41 l Z n0 (P41 r) 0 0 0 (vR 0 :: vI p1 :: vU :: vU :: vU :: vU :: vU :: vU :: vU :: vU :: vU :: []) [] (Hb 0 s)
 unfold f_execMove at h
 refine WP.aloadN d41_0 rfl ?_
 refine WP.getfield (i := 0) (j := 10) d41_1 (hw _ m_27) rfl rfl rfl ?_
 refine WP.iloadN d41_4 rfl ?_
 obtain ⟨x1, hx1, h⟩ := bd h
 refine WP.iaload (i := 7) d41_5 rfl hx1 ?_
 refine WP.istoreN (L' := (vR 0 :: vI p1 :: vI x1 :: vU :: vU :: vU :: vU :: vU :: vU :: vU :: vU :: [])) d41_6 (leb rfl) rfl ?_
 refine WP.aloadN d41_7 rfl ?_
 refine WP.getfield (i := 0) (j := 12) d41_8 (hw _ m_31) rfl rfl rfl ?_
 refine WP.iloadN d41_11 rfl ?_
 obtain ⟨x2, hx2, h⟩ := bd h
 refine WP.iaload (i := 9) d41_12 rfl hx2 ?_
 refine WP.istoreN (L' := (vR 0 :: vI p1 :: vI x1 :: vI x2 :: vU :: vU :: vU :: vU :: vU :: vU :: vU :: [])) d41_13 (leb rfl) rfl ?_
 refine WP.aloadN d41_14 rfl ?_
 refine WP.getfield (i := 0) (j := 5) d41_15 (hw _ m_18) rfl rfl rfl ?_
 refine WP.iloadN d41_18 rfl ?_
 obtain ⟨x3, hx3, h⟩ := bd h
 refine WP.iaload (i := 3) d41_19 rfl hx3 ?_
 refine WP.i2l d41_20 ?_
 obtain ⟨x4, ex4, h⟩ := lt_e h
 refine WP.lstore (L' := (vR 0 :: vI p1 :: vI x1 :: vI x2 :: vJ x4 :: vS :: vU :: vU :: vU :: vU :: vU :: [])) d41_21 (leb rfl) (by subst ex4; rfl) ?_
 refine WP.aloadN d41_23 rfl ?_
 refine WP.aloadN d41_24 rfl ?_
 refine WP.getfield (i := 0) (j := 4) d41_25 (hw _ m_16) rfl rfl rfl ?_
 refine WP.iloadN d41_28 rfl ?_
 obtain ⟨x5, hx5, h⟩ := bd h
 refine WP.iaload (i := 2) d41_29 rfl hx5 ?_
 obtain ⟨c6, hc6, h⟩ := bd h
 refine WP.callP (i := 0) (y := y13) (as := [.int x5]) (S := []) d41_30 (hw _ m_102) (hw _ m_104) (hw _ m_5) (hw _ m_103) (hw _ m_105) (hw _ m_6) hy13 rfl (ok13 l Z a0 hw n x5 s _ hc6) rfl (lenOf pd13 rfl) (leb rfl) (leb rfl) (leb rfl) (leb rfl) ?_
 rintro _ _ ⟨rfl, rfl⟩
 show W41 l Z n0 (P41 r) 0 0 33 (vR 0 :: vI p1 :: vI x1 :: vI x2 :: vJ x4 :: vS :: vU :: vU :: vU :: vU :: vU :: []) [.long c6] (Hb 0 s)
 refine WP.lstore (L' := (vR 0 :: vI p1 :: vI x1 :: vI x2 :: vJ x4 :: vS :: vJ c6 :: vS :: vU :: vU :: vU :: [])) d41_33 (leb rfl) rfl ?_
 refine WP.aloadN d41_35 rfl ?_
 refine WP.lload d41_36 rfl ?_
 refine WP.lload d41_38 rfl ?_
 refine WP.lmul d41_40 ?_
 obtain ⟨s7, es7, h⟩ := lt_e h
 refine WP.putJ (i := 0) (j := 20) (H' := (Hb 0 s7)) d41_41 (hw _ m_191) (Or.inl (hw _ m_192)) (hw _ m_5) (hlay hw) rfl rfl rfl (leb rfl) (by subst es7; rfl) ?_
 refine WP.aloadN d41_44 rfl ?_
 refine WP.aloadN d41_45 rfl ?_
 refine WP.aloadN d41_46 rfl ?_
 refine WP.getfield (i := 0) (j := 4) d41_47 (hw _ m_16) rfl rfl rfl ?_
 refine WP.iloadN d41_50 rfl ?_
 obtain ⟨x8, hx8, h⟩ := bd h
 refine WP.iaload (i := 2) d41_51 rfl hx8 ?_
 obtain ⟨c9, hc9, h⟩ := bd h
 refine WP.callP (i := 0) (y := y13) (as := [.int x8]) (S := [.ref 0]) d41_52 (hw _ m_102) (hw _ m_104) (hw _ m_5) (hw _ m_103) (hw _ m_105) (hw _ m_6) hy13 rfl (ok13 l Z a0 hw n x8 s7 _ hc9) rfl (lenOf pd13 rfl) (leb rfl) (leb rfl) (leb rfl) (leb rfl) ?_
 rintro _ _ ⟨rfl, rfl⟩
 show W41 l Z n0 (P41 r) 0 0 55 (vR 0 :: vI p1 :: vI x1 :: vI x2 :: vJ x4 :: vS :: vJ c6 :: vS :: vU :: vU :: vU :: []) [.long c9, .ref 0] (Hb 0 s7)
 obtain ⟨s10, es10, h⟩ := lt_e h
 refine WP.putJ (i := 0) (j := 21) (H' := (Hb 0 s10)) d41_55 (hw _ m_193) (Or.inl (hw _ m_194)) (hw _ m_5) (hlay hw) rfl rfl rfl (leb rfl) (by subst es10; rfl) ?_
 refine WP.aloadN d41_58 rfl ?_
 refine WP.getfield (i := 0) (j := 6) d41_59 (hw _ m_21) rfl rfl rfl ?_
 refine WP.iloadN d41_62 rfl ?_
 obtain ⟨x11, hx11, h⟩ := bd h
 refine WP.baload (i := 4) d41_63 rfl hx11 ?_
 rcases ite_e h with ⟨hc12, h⟩ | ⟨hc12, h⟩
 ·
  refine WP.ifN d41_64 (XT.i0_ne_f hc12) ?_
  refine WP.aloadN d41_67 rfl ?_
  refine WP.aloadN d41_68 rfl ?_
  refine WP.aloadN d41_69 rfl ?_
  refine WP.getfield (i := 0) (j := 20) d41_70 (hw _ m_191) rfl rfl rfl ?_
  obtain ⟨c13, hc13, h⟩ := bd h
  refine WP.callP (i := 0) (y := y35) (as := [.long (gJ s10 0)]) (S := [.ref 0]) d41_73 (hw _ m_199) (hw _ m_201) (hw _ m_5) (hw _ m_200) (hw _ m_202) (hw _ m_6) hy35 rfl (ok35 l Z a0 hw (gJ s10 0) s10 _ hc13) rfl (lenOf pd35 rfl) (leb rfl) (leb rfl) (leb rfl) (leb rfl) ?_
  rintro _ _ ⟨rfl, rfl⟩
  show W41 l Z n0 (P41 r) 0 0 76 (vR 0 :: vI p1 :: vI x1 :: vI x2 :: vJ x4 :: vS :: vJ c6 :: vS :: vU :: vU :: vU :: []) [.long c13, .ref 0] (Hb 0 s10)
  obtain ⟨s14, es14, h⟩ := lt_e h
  refine WP.putJ (i := 0) (j := 20) (H' := (Hb 0 s14)) d41_76 (hw _ m_191) (Or.inl (hw _ m_192)) (hw _ m_5) (hlay hw) rfl rfl rfl (leb rfl) (by subst es14; rfl) ?_
  exact WP.weak (L' := (vR 0 :: vU :: vU :: vI x2 :: vU :: vU :: vU :: vU :: vU :: vU :: vU :: [])) ⟨rfl, rfl, trivial⟩ (ok41_79 l Z a0 hw n0 n x2 s14 _ h)
 ·
  refine WP.ifY (pc' := 79) d41_64 (XT.i0_ne_t hc12) (by decide) rfl ?_
  exact WP.weak (L' := (vR 0 :: vU :: vU :: vI x2 :: vU :: vU :: vU :: vU :: vU :: vU :: vU :: [])) ⟨rfl, rfl, trivial⟩ (ok41_79 l Z a0 hw n0 n x2 s10 _ h)
theorem d39_0 : dc k30 0 (.lload_n 3) 1 := by decide +kernel
theorem d39_1 : dc k30 1 (.lconst 0) 1 := by decide +kernel
theorem d39_2 : dc k30 2 (.lcmp) 1 := by decide +kernel
theorem d39_3 : dc k30 3 (.ifCond .ne 5) 3 := by decide +kernel
theorem d39_6 : dc k30 6 (.iconst 0) 1 := by decide +kernel
theorem d39_7 : dc k30 7 (.ireturn) 1 := by decide +kernel
theorem d39_8 : dc k30 8 (.aload_n 0) 1 := by decide +kernel
theorem d39_9 : dc k30 9 (.iload 6) 2 := by decide +kernel
theorem d39_11 : dc k30 11 (.invokevirtual 85) 3 := by decide +kernel
theorem d39_14 : dc k30 14 (.lstore 9) 2 := by decide +kernel
theorem d39_16 : dc k30 16 (.aload_n 0) 1 := by decide +kernel
theorem d39_17 : dc k30 17 (.iload 5) 2 := by decide +kernel
theorem d39_19 : dc k30 19 (.invokevirtual 85) 3 := by decide +kernel
theorem d39_22 : dc k30 22 (.lstore 11) 2 := by decide +kernel
theorem d39_24 : dc k30 24 (.aload_n 0) 1 := by decide +kernel
theorem d39_25 : dc k30 25 (.lload_n 1) 1 := by decide +kernel
theorem d39_26 : dc k30 26 (.lload 9) 2 := by decide +kernel
theorem d39_28 : dc k30 28 (.lmul) 1 := by decide +kernel
theorem d39_29 : dc k30 29 (.lload 7) 2 := by decide +kernel
theorem d39_31 : dc k30 31 (.lmul) 1 := by decide +kernel
theorem d39_32 : dc k30 32 (.putfield 112) 3 := by decide +kernel
theorem d39_35 : dc k30 35 (.aload_n 0) 1 := by decide +kernel
theorem d39_36 : dc k30 36 (.lload_n 3) 1 := by decide +kernel
theorem d39_37 : dc k30 37 (.lload 11) 2 := by decide +kernel
theorem d39_39 : dc k30 39 (.lmul) 1 := by decide +kernel
theorem d39_40 : dc k30 40 (.putfield 120) 3 := by decide +kernel
theorem d39_43 : dc k30 43 (.aload_n 0) 1 := by decide +kernel
theorem d39_44 : dc k30 44 (.getfield 120) 3 := by decide +kernel
theorem d39_47 : dc k30 47 (.lconst 0) 1 := by decide +kernel
theorem d39_48 : dc k30 48 (.lcmp) 1 := by decide +kernel
theorem d39_49 : dc k30 49 (.ifCond .ge 21) 3 := by decide +kernel
theorem d39_52 : dc k30 52 (.aload_n 0) 1 := by decide +kernel
theorem d39_53 : dc k30 53 (.aload_n 0) 1 := by decide +kernel
theorem d39_54 : dc k30 54 (.getfield 120) 3 := by decide +kernel
theorem d39_57 : dc k30 57 (.lneg) 1 := by decide +kernel
theorem d39_58 : dc k30 58 (.putfield 120) 3 := by decide +kernel
theorem d39_61 : dc k30 61 (.aload_n 0) 1 := by decide +kernel
theorem d39_62 : dc k30 62 (.aload_n 0) 1 := by decide +kernel
theorem d39_63 : dc k30 63 (.getfield 112) 3 := by decide +kernel
theorem d39_66 : dc k30 66 (.lneg) 1 := by decide +kernel
theorem d39_67 : dc k30 67 (.putfield 112) 3 := by decide +kernel
theorem d39_70 : dc k30 70 (.iconst 1) 1 := by decide +kernel
theorem d39_71 : dc k30 71 (.ireturn) 1 := by decide +kernel
abbrev y39 : MethodName := ⟨"PictureCobol", "formDivision", "(JJIIJ)Z"⟩
theorem hy39 : y39.cls ≠ "java/lang/invoke/MethodHandle" ∧ y39.cls ≠ "java/lang/invoke/VarHandle" := by decide
theorem pd39 : parseMethodDescriptor y39.desc = some ⟨[.long, .long, .int, .int, .long], some .boolean⟩ := by decide +kernel
abbrev R39 : Room := { frames := 1, cells := 0, slots := 0, locals := 16 }
abbrev P39 (r : Int32 × St) : Option Value → List OwnC → Prop := fun v H' => v = some (.int r.1) ∧ H' = (Hb 0 r.2)
abbrev W39 (l : Launch) (Z : State) (n0 : Nat) (Q : Option Value → List OwnC → Prop) (k n pc : Nat) (L : List Slot) (S : List Value) (H : List OwnC) : Prop := WP l Z CN lay "PictureCobol" "formDivision" prog_1_method_33_code 13 (some FieldType.boolean) R39 n0 0 Q k n pc L S H
def f_formDivision_70 (n : Nat) (s : St) : Option (Int32 × St) :=
 some ((1 : Int32), s)
theorem ok39_70 (l : Launch) (Z : State) (a0 : Array Value) (hw : HW a0 Z) (n0 n : Nat) (s : St) (r : Int32 × St) (h : f_formDivision_70 n s = some r) : W39 l Z n0 (P39 r) 0 0 70 (vU :: vU :: vU :: vU :: vU :: vU :: vU :: vU :: vU :: vU :: vU :: vU :: vU :: []) [] (Hb 0 s) := by
 unfold f_formDivision_70 at h
 refine WP.iconst (1 : Int32) d39_70 rfl ?_
 cases h
 exact WP.zreturn d39_71 rfl (leb rfl) (leb rfl) ⟨rfl, rfl⟩
def f_formDivision (n : Nat) (p1 p2 : Int64) (p3 p4 : Int32) (p5 : Int64) (s : St) : Option (Int32 × St) :=
 if p2 = (0 : Int64) then
  some ((0 : Int32), s)
 else
  (f_pow10 n p4 s).bind fun c2 =>
  (f_pow10 n p3 s).bind fun c3 =>
  lt (sJ s 0 ((p1 * c2) * p5)) fun s4 =>
  lt (sJ s4 1 (p2 * c3)) fun s5 =>
  if (gJ s5 1) < (0 : Int64) then
   lt (sJ s5 1 (-(gJ s5 1))) fun s7 =>
   lt (sJ s7 0 (-(gJ s7 0))) fun s8 =>
   f_formDivision_70 n s8
  else
   f_formDivision_70 n s5
theorem ok39 (l : Launch) (Z : State) (a0 : Array Value) (hw : HW a0 Z) (n : Nat) (p1 p2 : Int64) (p3 p4 : Int32) (p5 : Int64) (s : St) (r : Int32 × St) (h : f_formDivision n p1 p2 p3 p4 p5 s = some r) : CS l Z CN lay y39 prog_1_method_33_code 13 (some FieldType.boolean) R39 0 [.ref 0, .long p1, .long p2, .int p3, .int p4, .long p5] (Hb 0 s) (P39 r) := by
 refine CS.of_wp pn_cls (leb rfl) fun n0 => ?_
 show W39 l Z n0 (P39 r) 0 0 0 (vR 0 :: vJ p1 :: vS :: vJ p2 :: vS :: vI p3 :: vI p4 :: vJ p5 :: vS :: vU :: vU :: vU :: vU :: []) [] (Hb 0 s)
 unfold f_formDivision at h
 refine WP.lloadN d39_0 rfl ?_
 refine WP.lconst (0 : Int64) d39_1 rfl ?_
 refine WP.lcmp d39_2 ?_
 rcases ite_e h with ⟨hc1, h⟩ | ⟨hc1, h⟩
 ·
  refine WP.ifN d39_3 (XT.ll_ne_f hc1) ?_
  refine WP.iconst (0 : Int32) d39_6 rfl ?_
  cases h
  exact WP.zreturn d39_7 rfl (leb rfl) (leb rfl) ⟨rfl, rfl⟩
 ·
  refine WP.ifY (pc' := 8) d39_3 (XT.ll_ne_t hc1) (by decide) rfl ?_
  refine WP.aloadN d39_8 rfl ?_
  refine WP.iload d39_9 rfl ?_
  obtain ⟨c2, hc2, h⟩ := bd h
  refine WP.callP (i := 0) (y := y13) (as := [.int p4]) (S := []) d39_11 (hw _ m_102) (hw _ m_104) (hw _ m_5) (hw _ m_103) (hw _ m_105) (hw _ m_6) hy13 rfl (ok13 l Z a0 hw n p4 s _ hc2) rfl (lenOf pd13 rfl) (leb rfl) (leb rfl) (leb rfl) (leb rfl) ?_
  rintro _ _ ⟨rfl, rfl⟩
  show W39 l Z n0 (P39 r) 0 0 14 (vR 0 :: vJ p1 :: vS :: vJ p2 :: vS :: vI p3 :: vI p4 :: vJ p5 :: vS :: vU :: vU :: vU :: vU :: []) [.long c2] (Hb 0 s)
  refine WP.lstore (L' := (vR 0 :: vJ p1 :: vS :: vJ p2 :: vS :: vI p3 :: vI p4 :: vJ p5 :: vS :: vJ c2 :: vS :: vU :: vU :: [])) d39_14 (leb rfl) rfl ?_
  refine WP.aloadN d39_16 rfl ?_
  refine WP.iload d39_17 rfl ?_
  obtain ⟨c3, hc3, h⟩ := bd h
  refine WP.callP (i := 0) (y := y13) (as := [.int p3]) (S := []) d39_19 (hw _ m_102) (hw _ m_104) (hw _ m_5) (hw _ m_103) (hw _ m_105) (hw _ m_6) hy13 rfl (ok13 l Z a0 hw n p3 s _ hc3) rfl (lenOf pd13 rfl) (leb rfl) (leb rfl) (leb rfl) (leb rfl) ?_
  rintro _ _ ⟨rfl, rfl⟩
  show W39 l Z n0 (P39 r) 0 0 22 (vR 0 :: vJ p1 :: vS :: vJ p2 :: vS :: vI p3 :: vI p4 :: vJ p5 :: vS :: vJ c2 :: vS :: vU :: vU :: []) [.long c3] (Hb 0 s)
  refine WP.lstore (L' := (vR 0 :: vJ p1 :: vS :: vJ p2 :: vS :: vI p3 :: vI p4 :: vJ p5 :: vS :: vJ c2 :: vS :: vJ c3 :: vS :: [])) d39_22 (leb rfl) rfl ?_
  refine WP.aloadN d39_24 rfl ?_
  refine WP.lloadN d39_25 rfl ?_
  refine WP.lload d39_26 rfl ?_
  refine WP.lmul d39_28 ?_
  refine WP.lload d39_29 rfl ?_
  refine WP.lmul d39_31 ?_
  obtain ⟨s4, es4, h⟩ := lt_e h
  refine WP.putJ (i := 0) (j := 20) (H' := (Hb 0 s4)) d39_32 (hw _ m_191) (Or.inl (hw _ m_192)) (hw _ m_5) (hlay hw) rfl rfl rfl (leb rfl) (by subst es4; rfl) ?_
  refine WP.aloadN d39_35 rfl ?_
  refine WP.lloadN d39_36 rfl ?_
  refine WP.lload d39_37 rfl ?_
  refine WP.lmul d39_39 ?_
  obtain ⟨s5, es5, h⟩ := lt_e h
  refine WP.putJ (i := 0) (j := 21) (H' := (Hb 0 s5)) d39_40 (hw _ m_193) (Or.inl (hw _ m_194)) (hw _ m_5) (hlay hw) rfl rfl rfl (leb rfl) (by subst es5; rfl) ?_
  refine WP.aloadN d39_43 rfl ?_
  refine WP.getfield (i := 0) (j := 21) d39_44 (hw _ m_193) rfl rfl rfl ?_
  refine WP.lconst (0 : Int64) d39_47 rfl ?_
  refine WP.lcmp d39_48 ?_
  rcases ite_e h with ⟨hc6, h⟩ | ⟨hc6, h⟩
  ·
   refine WP.ifN d39_49 (XT.ll_ge_f hc6) ?_
   refine WP.aloadN d39_52 rfl ?_
   refine WP.aloadN d39_53 rfl ?_
   refine WP.getfield (i := 0) (j := 21) d39_54 (hw _ m_193) rfl rfl rfl ?_
   refine WP.lneg d39_57 ?_
   obtain ⟨s7, es7, h⟩ := lt_e h
   refine WP.putJ (i := 0) (j := 21) (H' := (Hb 0 s7)) d39_58 (hw _ m_193) (Or.inl (hw _ m_194)) (hw _ m_5) (hlay hw) rfl rfl rfl (leb rfl) (by subst es7; rfl) ?_
   refine WP.aloadN d39_61 rfl ?_
   refine WP.aloadN d39_62 rfl ?_
   refine WP.getfield (i := 0) (j := 20) d39_63 (hw _ m_191) rfl rfl rfl ?_
   refine WP.lneg d39_66 ?_
   obtain ⟨s8, es8, h⟩ := lt_e h
   refine WP.putJ (i := 0) (j := 20) (H' := (Hb 0 s8)) d39_67 (hw _ m_191) (Or.inl (hw _ m_192)) (hw _ m_5) (hlay hw) rfl rfl rfl (leb rfl) (by subst es8; rfl) ?_
   exact WP.weak (L' := (vU :: vU :: vU :: vU :: vU :: vU :: vU :: vU :: vU :: vU :: vU :: vU :: vU :: [])) trivial (ok39_70 l Z a0 hw n0 n s8 _ h)
  ·
   refine WP.ifY (pc' := 70) d39_49 (XT.ll_ge_t hc6) (by decide) rfl ?_
   exact WP.weak (L' := (vU :: vU :: vU :: vU :: vU :: vU :: vU :: vU :: vU :: vU :: vU :: vU :: vU :: [])) trivial (ok39_70 l Z a0 hw n0 n s5 _ h)
theorem d33_0 : dc k29 0 (.aload_n 0) 1 := by decide +kernel
theorem d33_1 : dc k29 1 (.getfield 29) 3 := by decide +kernel
theorem d33_4 : dc k29 4 (.iload_n 1) 1 := by decide +kernel
theorem d33_5 : dc k29 5 (.iaload) 1 := by decide +kernel
theorem d33_6 : dc k29 6 (.istore_n 2) 1 := by decide +kernel
theorem d33_7 : dc k29 7 (.aload_n 0) 1 := by decide +kernel
theorem d33_8 : dc k29 8 (.getfield 32) 3 := by decide +kernel
theorem d33_11 : dc k29 11 (.iload_n 1) 1 := by decide +kernel
theorem d33_12 : dc k29 12 (.iaload) 1 := by decide +kernel
theorem d33_13 : dc k29 13 (.istore_n 3) 1 := by decide +kernel
theorem d33_14 : dc k29 14 (.aload_n 0) 1 := by decide +kernel
theorem d33_15 : dc k29 15 (.getfield 35) 3 := by decide +kernel
theorem d33_18 : dc k29 18 (.iload_n 1) 1 := by decide +kernel
theorem d33_19 : dc k29 19 (.iaload) 1 := by decide +kernel
theorem d33_20 : dc k29 20 (.istore 4) 2 := by decide +kernel
theorem d33_22 : dc k29 22 (.aload_n 0) 1 := by decide +kernel
theorem d33_23 : dc k29 23 (.getfield 16) 3 := by decide +kernel
theorem d33_26 : dc k29 26 (.iload_n 2) 1 := by decide +kernel
theorem d33_27 : dc k29 27 (.iaload) 1 := by decide +kernel
theorem d33_28 : dc k29 28 (.i2l) 1 := by decide +kernel
theorem d33_29 : dc k29 29 (.lstore 5) 2 := by decide +kernel
theorem d33_31 : dc k29 31 (.aload_n 0) 1 := by decide +kernel
theorem d33_32 : dc k29 32 (.getfield 16) 3 := by decide +kernel
theorem d33_35 : dc k29 35 (.iload_n 3) 1 := by decide +kernel
theorem d33_36 : dc k29 36 (.iaload) 1 := by decide +kernel
theorem d33_37 : dc k29 37 (.i2l) 1 := by decide +kernel
theorem d33_38 : dc k29 38 (.lstore 7) 2 := by decide +kernel
theorem d33_40 : dc k29 40 (.aload_n 0) 1 := by decide +kernel
theorem d33_41 : dc k29 41 (.getfield 13) 3 := by decide +kernel
theorem d33_44 : dc k29 44 (.iload_n 2) 1 := by decide +kernel
theorem d33_45 : dc k29 45 (.iaload) 1 := by decide +kernel
theorem d33_46 : dc k29 46 (.istore 9) 2 := by decide +kernel
theorem d33_48 : dc k29 48 (.aload_n 0) 1 := by decide +kernel
theorem d33_49 : dc k29 49 (.getfield 13) 3 := by decide +kernel
theorem d33_52 : dc k29 52 (.iload_n 3) 1 := by decide +kernel
theorem d33_53 : dc k29 53 (.iaload) 1 := by decide +kernel
theorem d33_54 : dc k29 54 (.istore 10) 2 := by decide +kernel
theorem d33_56 : dc k29 56 (.aload_n 0) 1 := by decide +kernel
theorem d33_57 : dc k29 57 (.aload_n 0) 1 := by decide +kernel
theorem d33_58 : dc k29 58 (.getfield 13) 3 := by decide +kernel
theorem d33_61 : dc k29 61 (.iload 4) 2 := by decide +kernel
theorem d33_63 : dc k29 63 (.iaload) 1 := by decide +kernel
theorem d33_64 : dc k29 64 (.invokevirtual 85) 3 := by decide +kernel
theorem d33_67 : dc k29 67 (.lstore 11) 2 := by decide +kernel
theorem d33_69 : dc k29 69 (.aload_n 0) 1 := by decide +kernel
theorem d33_70 : dc k29 70 (.getfield 23) 3 := by decide +kernel
theorem d33_73 : dc k29 73 (.iload_n 1) 1 := by decide +kernel
theorem d33_74 : dc k29 74 (.iaload) 1 := by decide +kernel
theorem d33_75 : dc k29 75 (.istore 13) 2 := by decide +kernel
theorem d33_77 : dc k29 77 (.iload 13) 2 := by decide +kernel
theorem d33_79 : dc k29 79 (.iconst 4) 1 := by decide +kernel
theorem d33_80 : dc k29 80 (.if_icmp .ne 30) 3 := by decide +kernel
theorem d33_83 : dc k29 83 (.aload_n 0) 1 := by decide +kernel
theorem d33_84 : dc k29 84 (.lload 5) 2 := by decide +kernel
theorem d33_86 : dc k29 86 (.lload 7) 2 := by decide +kernel
theorem d33_88 : dc k29 88 (.lmul) 1 := by decide +kernel
theorem d33_89 : dc k29 89 (.lload 11) 2 := by decide +kernel
theorem d33_91 : dc k29 91 (.lmul) 1 := by decide +kernel
theorem d33_92 : dc k29 92 (.putfield 112) 3 := by decide +kernel
theorem d33_95 : dc k29 95 (.aload_n 0) 1 := by decide +kernel
theorem d33_96 : dc k29 96 (.aload_n 0) 1 := by decide +kernel
theorem d33_97 : dc k29 97 (.iload 9) 2 := by decide +kernel
theorem d33_99 : dc k29 99 (.iload 10) 2 := by decide +kernel
theorem d33_101 : dc k29 101 (.iadd) 1 := by decide +kernel
theorem d33_102 : dc k29 102 (.invokevirtual 85) 3 := by decide +kernel
theorem d33_105 : dc k29 105 (.putfield 120) 3 := by decide +kernel
theorem d33_108 : dc k29 108 (.iconst 1) 1 := by decide +kernel
theorem d33_109 : dc k29 109 (.ireturn) 1 := by decide +kernel
theorem d33_110 : dc k29 110 (.iload 13) 2 := by decide +kernel
theorem d33_112 : dc k29 112 (.iconst 5) 1 := by decide +kernel
theorem d33_113 : dc k29 113 (.if_icmp .ne 18) 3 := by decide +kernel
theorem d33_116 : dc k29 116 (.aload_n 0) 1 := by decide +kernel
theorem d33_117 : dc k29 117 (.lload 5) 2 := by decide +kernel
theorem d33_119 : dc k29 119 (.lload 7) 2 := by decide +kernel
theorem d33_121 : dc k29 121 (.iload 9) 2 := by decide +kernel
theorem d33_123 : dc k29 123 (.iload 10) 2 := by decide +kernel
theorem d33_125 : dc k29 125 (.lload 11) 2 := by decide +kernel
theorem d33_127 : dc k29 127 (.invokevirtual 142) 3 := by decide +kernel
theorem d33_130 : dc k29 130 (.ireturn) 1 := by decide +kernel
theorem d33_131 : dc k29 131 (.iload 9) 2 := by decide +kernel
theorem d33_133 : dc k29 133 (.iload 10) 2 := by decide +kernel
theorem d33_135 : dc k29 135 (.if_icmp .le 8) 3 := by decide +kernel
theorem d33_138 : dc k29 138 (.iload 9) 2 := by decide +kernel
theorem d33_140 : dc k29 140 (.goto 5) 3 := by decide +kernel
theorem d33_143 : dc k29 143 (.iload 10) 2 := by decide +kernel
theorem d33_145 : dc k29 145 (.istore 14) 2 := by decide +kernel
theorem d33_147 : dc k29 147 (.lload 5) 2 := by decide +kernel
theorem d33_149 : dc k29 149 (.aload_n 0) 1 := by decide +kernel
theorem d33_150 : dc k29 150 (.iload 14) 2 := by decide +kernel
theorem d33_152 : dc k29 152 (.iload 9) 2 := by decide +kernel
theorem d33_154 : dc k29 154 (.isub) 1 := by decide +kernel
theorem d33_155 : dc k29 155 (.invokevirtual 85) 3 := by decide +kernel
theorem d33_158 : dc k29 158 (.lmul) 1 := by decide +kernel
theorem d33_159 : dc k29 159 (.lstore 15) 2 := by decide +kernel
theorem d33_161 : dc k29 161 (.lload 7) 2 := by decide +kernel
theorem d33_163 : dc k29 163 (.aload_n 0) 1 := by decide +kernel
theorem d33_164 : dc k29 164 (.iload 14) 2 := by decide +kernel
theorem d33_166 : dc k29 166 (.iload 10) 2 := by decide +kernel
theorem d33_168 : dc k29 168 (.isub) 1 := by decide +kernel
theorem d33_169 : dc k29 169 (.invokevirtual 85) 3 := by decide +kernel
theorem d33_172 : dc k29 172 (.lmul) 1 := by decide +kernel
theorem d33_173 : dc k29 173 (.lstore 17) 2 := by decide +kernel
theorem d33_175 : dc k29 175 (.iload 13) 2 := by decide +kernel
theorem d33_177 : dc k29 177 (.iconst 2) 1 := by decide +kernel
theorem d33_178 : dc k29 178 (.if_icmp .ne 11) 3 := by decide +kernel
theorem d33_181 : dc k29 181 (.lload 15) 2 := by decide +kernel
theorem d33_183 : dc k29 183 (.lload 17) 2 := by decide +kernel
theorem d33_185 : dc k29 185 (.ladd) 1 := by decide +kernel
theorem d33_186 : dc k29 186 (.goto 8) 3 := by decide +kernel
theorem d33_189 : dc k29 189 (.lload 17) 2 := by decide +kernel
theorem d33_191 : dc k29 191 (.lload 15) 2 := by decide +kernel
theorem d33_193 : dc k29 193 (.lsub) 1 := by decide +kernel
theorem d33_194 : dc k29 194 (.lstore 19) 2 := by decide +kernel
theorem d33_196 : dc k29 196 (.aload_n 0) 1 := by decide +kernel
theorem d33_197 : dc k29 197 (.lload 19) 2 := by decide +kernel
theorem d33_199 : dc k29 199 (.lload 11) 2 := by decide +kernel
theorem d33_201 : dc k29 201 (.lmul) 1 := by decide +kernel
theorem d33_202 : dc k29 202 (.putfield 112) 3 := by decide +kernel
theorem d33_205 : dc k29 205 (.aload_n 0) 1 := by decide +kernel
theorem d33_206 : dc k29 206 (.aload_n 0) 1 := by decide +kernel
theorem d33_207 : dc k29 207 (.iload 14) 2 := by decide +kernel
theorem d33_209 : dc k29 209 (.invokevirtual 85) 3 := by decide +kernel
theorem d33_212 : dc k29 212 (.putfield 120) 3 := by decide +kernel
theorem d33_215 : dc k29 215 (.iconst 1) 1 := by decide +kernel
theorem d33_216 : dc k29 216 (.ireturn) 1 := by decide +kernel
abbrev y33 : MethodName := ⟨"PictureCobol", "formQuotient", "(I)Z"⟩
theorem hy33 : y33.cls ≠ "java/lang/invoke/MethodHandle" ∧ y33.cls ≠ "java/lang/invoke/VarHandle" := by decide
theorem pd33 : parseMethodDescriptor y33.desc = some ⟨[.int], some .boolean⟩ := by decide +kernel
abbrev R33 : Room := { frames := 2, cells := 0, slots := 0, locals := 40 }
abbrev P33 (r : Int32 × St) : Option Value → List OwnC → Prop := fun v H' => v = some (.int r.1) ∧ H' = (Hb 0 r.2)
abbrev W33 (l : Launch) (Z : State) (n0 : Nat) (Q : Option Value → List OwnC → Prop) (k n pc : Nat) (L : List Slot) (S : List Value) (H : List OwnC) : Prop := WP l Z CN lay "PictureCobol" "formQuotient" prog_1_method_32_code 21 (some FieldType.boolean) R33 n0 0 Q k n pc L S H
def f_formQuotient_194 (n : Nat) (v11 : Int64) (v14 : Int32) (t0 : Int64) (s : St) : Option (Int32 × St) :=
 lt (sJ s 0 (t0 * v11)) fun s1 =>
 (f_pow10 n v14 s1).bind fun c2 =>
 lt (sJ s1 1 c2) fun s3 =>
 some ((1 : Int32), s3)
theorem ok33_194 (l : Launch) (Z : State) (a0 : Array Value) (hw : HW a0 Z) (n0 n : Nat) (v11 : Int64) (v14 : Int32) (t0 : Int64) (s : St) (r : Int32 × St) (h : f_formQuotient_194 n v11 v14 t0 s = some r) : W33 l Z n0 (P33 r) 0 0 194 (vR 0 :: vU :: vU :: vU :: vU :: vU :: vU :: vU :: vU :: vU :: vU :: vJ v11 :: vS :: vU :: vI v14 :: vU :: vU :: vU :: vU :: vU :: vU :: []) [.long t0] (Hb 0 s) := by
 unfold f_formQuotient_194 at h
 refine WP.lstore (L' := (vR 0 :: vU :: vU :: vU :: vU :: vU :: vU :: vU :: vU :: vU :: vU :: vJ v11 :: vS :: vU :: vI v14 :: vU :: vU :: vU :: vU :: vJ t0 :: vS :: [])) d33_194 (leb rfl) rfl ?_
 refine WP.aloadN d33_196 rfl ?_
 refine WP.lload d33_197 rfl ?_
 refine WP.lload d33_199 rfl ?_
 refine WP.lmul d33_201 ?_
 obtain ⟨s1, es1, h⟩ := lt_e h
 refine WP.putJ (i := 0) (j := 20) (H' := (Hb 0 s1)) d33_202 (hw _ m_191) (Or.inl (hw _ m_192)) (hw _ m_5) (hlay hw) rfl rfl rfl (leb rfl) (by subst es1; rfl) ?_
 refine WP.aloadN d33_205 rfl ?_
 refine WP.aloadN d33_206 rfl ?_
 refine WP.iload d33_207 rfl ?_
 obtain ⟨c2, hc2, h⟩ := bd h
 refine WP.callP (i := 0) (y := y13) (as := [.int v14]) (S := [.ref 0]) d33_209 (hw _ m_102) (hw _ m_104) (hw _ m_5) (hw _ m_103) (hw _ m_105) (hw _ m_6) hy13 rfl (ok13 l Z a0 hw n v14 s1 _ hc2) rfl (lenOf pd13 rfl) (leb rfl) (leb rfl) (leb rfl) (leb rfl) ?_
 rintro _ _ ⟨rfl, rfl⟩
 show W33 l Z n0 (P33 r) 0 0 212 (vR 0 :: vU :: vU :: vU :: vU :: vU :: vU :: vU :: vU :: vU :: vU :: vJ v11 :: vS :: vU :: vI v14 :: vU :: vU :: vU :: vU :: vJ t0 :: vS :: []) [.long c2, .ref 0] (Hb 0 s1)
 obtain ⟨s3, es3, h⟩ := lt_e h
 refine WP.putJ (i := 0) (j := 21) (H' := (Hb 0 s3)) d33_212 (hw _ m_193) (Or.inl (hw _ m_194)) (hw _ m_5) (hlay hw) rfl rfl rfl (leb rfl) (by subst es3; rfl) ?_
 refine WP.iconst (1 : Int32) d33_215 rfl ?_
 cases h
 exact WP.zreturn d33_216 rfl (leb rfl) (leb rfl) ⟨rfl, rfl⟩
def f_formQuotient_145 (n : Nat) (v5 v7 : Int64) (v9 v10 : Int32) (v11 : Int64) (v13 t0 : Int32) (s : St) : Option (Int32 × St) :=
 (f_pow10 n (t0 - v9) s).bind fun c1 =>
 lt (v5 * c1) fun x2 =>
 (f_pow10 n (t0 - v10) s).bind fun c3 =>
 lt (v7 * c3) fun x4 =>
 if v13 = (2 : Int32) then
  f_formQuotient_194 n v11 t0 (x2 + x4) s
 else
  f_formQuotient_194 n v11 t0 (x4 - x2) s
theorem ok33_145 (l : Launch) (Z : State) (a0 : Array Value) (hw : HW a0 Z) (n0 n : Nat) (v5 v7 : Int64) (v9 v10 : Int32) (v11 : Int64) (v13 t0 : Int32) (s : St) (r : Int32 × St) (h : f_formQuotient_145 n v5 v7 v9 v10 v11 v13 t0 s = some r) : W33 l Z n0 (P33 r) 0 0 145 (vR 0 :: vU :: vU :: vU :: vU :: vJ v5 :: vS :: vJ v7 :: vS :: vI v9 :: vI v10 :: vJ v11 :: vS :: vI v13 :: vU :: vU :: vU :: vU :: vU :: vU :: vU :: []) [.int t0] (Hb 0 s) := by
 unfold f_formQuotient_145 at h
 refine WP.istore (L' := (vR 0 :: vU :: vU :: vU :: vU :: vJ v5 :: vS :: vJ v7 :: vS :: vI v9 :: vI v10 :: vJ v11 :: vS :: vI v13 :: vI t0 :: vU :: vU :: vU :: vU :: vU :: vU :: [])) d33_145 (leb rfl) rfl ?_
 refine WP.lload d33_147 rfl ?_
 refine WP.aloadN d33_149 rfl ?_
 refine WP.iload d33_150 rfl ?_
 refine WP.iload d33_152 rfl ?_
 refine WP.isub d33_154 ?_
 obtain ⟨c1, hc1, h⟩ := bd h
 refine WP.callP (i := 0) (y := y13) (as := [.int (t0 - v9)]) (S := [.long v5]) d33_155 (hw _ m_102) (hw _ m_104) (hw _ m_5) (hw _ m_103) (hw _ m_105) (hw _ m_6) hy13 rfl (ok13 l Z a0 hw n (t0 - v9) s _ hc1) rfl (lenOf pd13 rfl) (leb rfl) (leb rfl) (leb rfl) (leb rfl) ?_
 rintro _ _ ⟨rfl, rfl⟩
 show W33 l Z n0 (P33 r) 0 0 158 (vR 0 :: vU :: vU :: vU :: vU :: vJ v5 :: vS :: vJ v7 :: vS :: vI v9 :: vI v10 :: vJ v11 :: vS :: vI v13 :: vI t0 :: vU :: vU :: vU :: vU :: vU :: vU :: []) [.long c1, .long v5] (Hb 0 s)
 refine WP.lmul d33_158 ?_
 obtain ⟨x2, ex2, h⟩ := lt_e h
 refine WP.lstore (L' := (vR 0 :: vU :: vU :: vU :: vU :: vJ v5 :: vS :: vJ v7 :: vS :: vI v9 :: vI v10 :: vJ v11 :: vS :: vI v13 :: vI t0 :: vJ x2 :: vS :: vU :: vU :: vU :: vU :: [])) d33_159 (leb rfl) (by subst ex2; rfl) ?_
 refine WP.lload d33_161 rfl ?_
 refine WP.aloadN d33_163 rfl ?_
 refine WP.iload d33_164 rfl ?_
 refine WP.iload d33_166 rfl ?_
 refine WP.isub d33_168 ?_
 obtain ⟨c3, hc3, h⟩ := bd h
 refine WP.callP (i := 0) (y := y13) (as := [.int (t0 - v10)]) (S := [.long v7]) d33_169 (hw _ m_102) (hw _ m_104) (hw _ m_5) (hw _ m_103) (hw _ m_105) (hw _ m_6) hy13 rfl (ok13 l Z a0 hw n (t0 - v10) s _ hc3) rfl (lenOf pd13 rfl) (leb rfl) (leb rfl) (leb rfl) (leb rfl) ?_
 rintro _ _ ⟨rfl, rfl⟩
 show W33 l Z n0 (P33 r) 0 0 172 (vR 0 :: vU :: vU :: vU :: vU :: vJ v5 :: vS :: vJ v7 :: vS :: vI v9 :: vI v10 :: vJ v11 :: vS :: vI v13 :: vI t0 :: vJ x2 :: vS :: vU :: vU :: vU :: vU :: []) [.long c3, .long v7] (Hb 0 s)
 refine WP.lmul d33_172 ?_
 obtain ⟨x4, ex4, h⟩ := lt_e h
 refine WP.lstore (L' := (vR 0 :: vU :: vU :: vU :: vU :: vJ v5 :: vS :: vJ v7 :: vS :: vI v9 :: vI v10 :: vJ v11 :: vS :: vI v13 :: vI t0 :: vJ x2 :: vS :: vJ x4 :: vS :: vU :: vU :: [])) d33_173 (leb rfl) (by subst ex4; rfl) ?_
 refine WP.iload d33_175 rfl ?_
 refine WP.iconst (2 : Int32) d33_177 rfl ?_
 rcases ite_e h with ⟨hc5, h⟩ | ⟨hc5, h⟩
 ·
  refine WP.icmpN d33_178 (XT.ii_ne_f hc5) ?_
  refine WP.lload d33_181 rfl ?_
  refine WP.lload d33_183 rfl ?_
  refine WP.ladd d33_185 ?_
  refine WP.goto (pc' := 194) d33_186 (by decide) rfl ?_
  exact WP.weak (L' := (vR 0 :: vU :: vU :: vU :: vU :: vU :: vU :: vU :: vU :: vU :: vU :: vJ v11 :: vS :: vU :: vI t0 :: vU :: vU :: vU :: vU :: vU :: vU :: [])) ⟨rfl, rfl, rfl, rfl, trivial⟩ (ok33_194 l Z a0 hw n0 n v11 t0 (x2 + x4) s _ h)
 ·
  refine WP.icmpY (pc' := 189) d33_178 (XT.ii_ne_t hc5) (by decide) rfl ?_
  refine WP.lload d33_189 rfl ?_
  refine WP.lload d33_191 rfl ?_
  refine WP.lsub d33_193 ?_
  exact WP.weak (L' := (vR 0 :: vU :: vU :: vU :: vU :: vU :: vU :: vU :: vU :: vU :: vU :: vJ v11 :: vS :: vU :: vI t0 :: vU :: vU :: vU :: vU :: vU :: vU :: [])) ⟨rfl, rfl, rfl, rfl, trivial⟩ (ok33_194 l Z a0 hw n0 n v11 t0 (x4 - x2) s _ h)
def f_formQuotient (n : Nat) (p1 : Int32) (s : St) : Option (Int32 × St) :=
 (rd (gA s 6) p1).bind fun x1 =>
 (rd (gA s 7) p1).bind fun x2 =>
 (rd (gA s 8) p1).bind fun x3 =>
 (rd (gA s 2) x1).bind fun x4 =>
 lt (x4.toInt64) fun x5 =>
 (rd (gA s 2) x2).bind fun x6 =>
 lt (x6.toInt64) fun x7 =>
 (rd (gA s 1) x1).bind fun x8 =>
 (rd (gA s 1) x2).bind fun x9 =>
 (rd (gA s 1) x3).bind fun x10 =>
 (f_pow10 n x10 s).bind fun c11 =>
 (rd (gA s 4) p1).bind fun x12 =>
 if x12 = (4 : Int32) then
  lt (sJ s 0 ((x5 * x7) * c11)) fun s14 =>
  (f_pow10 n (x8 + x9) s14).bind fun c15 =>
  lt (sJ s14 1 c15) fun s16 =>
  some ((1 : Int32), s16)
 else
  if x12 = (5 : Int32) then
   (f_formDivision n x5 x7 x8 x9 c11 s).bind fun c18 =>
   some (c18.1 &&& 1, c18.2)
  else
   if x9 < x8 then
    f_formQuotient_145 n x5 x7 x8 x9 c11 x12 x8 s
   else
    f_formQuotient_145 n x5 x7 x8 x9 c11 x12 x9 s
theorem ok33 (l : Launch) (Z : State) (a0 : Array Value) (hw : HW a0 Z) (n : Nat) (p1 : Int32) (s : St) (r : Int32 × St) (h : f_formQuotient n p1 s = some r) : CS l Z CN lay y33 prog_1_method_32_code 21 (some FieldType.boolean) R33 0 [.ref 0, .int p1] (Hb 0 s) (P33 r) := by
 refine CS.of_wp pn_cls (leb rfl) fun n0 => ?_
 show W33 l Z n0 (P33 r) 0 0 0 (vR 0 :: vI p1 :: vU :: vU :: vU :: vU :: vU :: vU :: vU :: vU :: vU :: vU :: vU :: vU :: vU :: vU :: vU :: vU :: vU :: vU :: vU :: []) [] (Hb 0 s)
 unfold f_formQuotient at h
 refine WP.aloadN d33_0 rfl ?_
 refine WP.getfield (i := 0) (j := 10) d33_1 (hw _ m_27) rfl rfl rfl ?_
 refine WP.iloadN d33_4 rfl ?_
 obtain ⟨x1, hx1, h⟩ := bd h
 refine WP.iaload (i := 7) d33_5 rfl hx1 ?_
 refine WP.istoreN (L' := (vR 0 :: vI p1 :: vI x1 :: vU :: vU :: vU :: vU :: vU :: vU :: vU :: vU :: vU :: vU :: vU :: vU :: vU :: vU :: vU :: vU :: vU :: vU :: [])) d33_6 (leb rfl) rfl ?_
 refine WP.aloadN d33_7 rfl ?_
 refine WP.getfield (i := 0) (j := 11) d33_8 (hw _ m_29) rfl rfl rfl ?_
 refine WP.iloadN d33_11 rfl ?_
 obtain ⟨x2, hx2, h⟩ := bd h
 refine WP.iaload (i := 8) d33_12 rfl hx2 ?_
 refine WP.istoreN (L' := (vR 0 :: vI p1 :: vI x1 :: vI x2 :: vU :: vU :: vU :: vU :: vU :: vU :: vU :: vU :: vU :: vU :: vU :: vU :: vU :: vU :: vU :: vU :: vU :: [])) d33_13 (leb rfl) rfl ?_
 refine WP.aloadN d33_14 rfl ?_
 refine WP.getfield (i := 0) (j := 12) d33_15 (hw _ m_31) rfl rfl rfl ?_
 refine WP.iloadN d33_18 rfl ?_
 obtain ⟨x3, hx3, h⟩ := bd h
 refine WP.iaload (i := 9) d33_19 rfl hx3 ?_
 refine WP.istore (L' := (vR 0 :: vI p1 :: vI x1 :: vI x2 :: vI x3 :: vU :: vU :: vU :: vU :: vU :: vU :: vU :: vU :: vU :: vU :: vU :: vU :: vU :: vU :: vU :: vU :: [])) d33_20 (leb rfl) rfl ?_
 refine WP.aloadN d33_22 rfl ?_
 refine WP.getfield (i := 0) (j := 5) d33_23 (hw _ m_18) rfl rfl rfl ?_
 refine WP.iloadN d33_26 rfl ?_
 obtain ⟨x4, hx4, h⟩ := bd h
 refine WP.iaload (i := 3) d33_27 rfl hx4 ?_
 refine WP.i2l d33_28 ?_
 obtain ⟨x5, ex5, h⟩ := lt_e h
 refine WP.lstore (L' := (vR 0 :: vI p1 :: vI x1 :: vI x2 :: vI x3 :: vJ x5 :: vS :: vU :: vU :: vU :: vU :: vU :: vU :: vU :: vU :: vU :: vU :: vU :: vU :: vU :: vU :: [])) d33_29 (leb rfl) (by subst ex5; rfl) ?_
 refine WP.aloadN d33_31 rfl ?_
 refine WP.getfield (i := 0) (j := 5) d33_32 (hw _ m_18) rfl rfl rfl ?_
 refine WP.iloadN d33_35 rfl ?_
 obtain ⟨x6, hx6, h⟩ := bd h
 refine WP.iaload (i := 3) d33_36 rfl hx6 ?_
 refine WP.i2l d33_37 ?_
 obtain ⟨x7, ex7, h⟩ := lt_e h
 refine WP.lstore (L' := (vR 0 :: vI p1 :: vI x1 :: vI x2 :: vI x3 :: vJ x5 :: vS :: vJ x7 :: vS :: vU :: vU :: vU :: vU :: vU :: vU :: vU :: vU :: vU :: vU :: vU :: vU :: [])) d33_38 (leb rfl) (by subst ex7; rfl) ?_
 refine WP.aloadN d33_40 rfl ?_
 refine WP.getfield (i := 0) (j := 4) d33_41 (hw _ m_16) rfl rfl rfl ?_
 refine WP.iloadN d33_44 rfl ?_
 obtain ⟨x8, hx8, h⟩ := bd h
 refine WP.iaload (i := 2) d33_45 rfl hx8 ?_
 refine WP.istore (L' := (vR 0 :: vI p1 :: vI x1 :: vI x2 :: vI x3 :: vJ x5 :: vS :: vJ x7 :: vS :: vI x8 :: vU :: vU :: vU :: vU :: vU :: vU :: vU :: vU :: vU :: vU :: vU :: [])) d33_46 (leb rfl) rfl ?_
 refine WP.aloadN d33_48 rfl ?_
 refine WP.getfield (i := 0) (j := 4) d33_49 (hw _ m_16) rfl rfl rfl ?_
 refine WP.iloadN d33_52 rfl ?_
 obtain ⟨x9, hx9, h⟩ := bd h
 refine WP.iaload (i := 2) d33_53 rfl hx9 ?_
 refine WP.istore (L' := (vR 0 :: vI p1 :: vI x1 :: vI x2 :: vI x3 :: vJ x5 :: vS :: vJ x7 :: vS :: vI x8 :: vI x9 :: vU :: vU :: vU :: vU :: vU :: vU :: vU :: vU :: vU :: vU :: [])) d33_54 (leb rfl) rfl ?_
 refine WP.aloadN d33_56 rfl ?_
 refine WP.aloadN d33_57 rfl ?_
 refine WP.getfield (i := 0) (j := 4) d33_58 (hw _ m_16) rfl rfl rfl ?_
 refine WP.iload d33_61 rfl ?_
 obtain ⟨x10, hx10, h⟩ := bd h
 refine WP.iaload (i := 2) d33_63 rfl hx10 ?_
 obtain ⟨c11, hc11, h⟩ := bd h
 refine WP.callP (i := 0) (y := y13) (as := [.int x10]) (S := []) d33_64 (hw _ m_102) (hw _ m_104) (hw _ m_5) (hw _ m_103) (hw _ m_105) (hw _ m_6) hy13 rfl (ok13 l Z a0 hw n x10 s _ hc11) rfl (lenOf pd13 rfl) (leb rfl) (leb rfl) (leb rfl) (leb rfl) ?_
 rintro _ _ ⟨rfl, rfl⟩
 show W33 l Z n0 (P33 r) 0 0 67 (vR 0 :: vI p1 :: vI x1 :: vI x2 :: vI x3 :: vJ x5 :: vS :: vJ x7 :: vS :: vI x8 :: vI x9 :: vU :: vU :: vU :: vU :: vU :: vU :: vU :: vU :: vU :: vU :: []) [.long c11] (Hb 0 s)
 refine WP.lstore (L' := (vR 0 :: vI p1 :: vI x1 :: vI x2 :: vI x3 :: vJ x5 :: vS :: vJ x7 :: vS :: vI x8 :: vI x9 :: vJ c11 :: vS :: vU :: vU :: vU :: vU :: vU :: vU :: vU :: vU :: [])) d33_67 (leb rfl) rfl ?_
 refine WP.aloadN d33_69 rfl ?_
 refine WP.getfield (i := 0) (j := 8) d33_70 (hw _ m_23) rfl rfl rfl ?_
 refine WP.iloadN d33_73 rfl ?_
 obtain ⟨x12, hx12, h⟩ := bd h
 refine WP.iaload (i := 5) d33_74 rfl hx12 ?_
 refine WP.istore (L' := (vR 0 :: vI p1 :: vI x1 :: vI x2 :: vI x3 :: vJ x5 :: vS :: vJ x7 :: vS :: vI x8 :: vI x9 :: vJ c11 :: vS :: vI x12 :: vU :: vU :: vU :: vU :: vU :: vU :: vU :: [])) d33_75 (leb rfl) rfl ?_
 refine WP.iload d33_77 rfl ?_
 refine WP.iconst (4 : Int32) d33_79 rfl ?_
 rcases ite_e h with ⟨hc13, h⟩ | ⟨hc13, h⟩
 ·
  refine WP.icmpN d33_80 (XT.ii_ne_f hc13) ?_
  refine WP.aloadN d33_83 rfl ?_
  refine WP.lload d33_84 rfl ?_
  refine WP.lload d33_86 rfl ?_
  refine WP.lmul d33_88 ?_
  refine WP.lload d33_89 rfl ?_
  refine WP.lmul d33_91 ?_
  obtain ⟨s14, es14, h⟩ := lt_e h
  refine WP.putJ (i := 0) (j := 20) (H' := (Hb 0 s14)) d33_92 (hw _ m_191) (Or.inl (hw _ m_192)) (hw _ m_5) (hlay hw) rfl rfl rfl (leb rfl) (by subst es14; rfl) ?_
  refine WP.aloadN d33_95 rfl ?_
  refine WP.aloadN d33_96 rfl ?_
  refine WP.iload d33_97 rfl ?_
  refine WP.iload d33_99 rfl ?_
  refine WP.iadd d33_101 ?_
  obtain ⟨c15, hc15, h⟩ := bd h
  refine WP.callP (i := 0) (y := y13) (as := [.int (x8 + x9)]) (S := [.ref 0]) d33_102 (hw _ m_102) (hw _ m_104) (hw _ m_5) (hw _ m_103) (hw _ m_105) (hw _ m_6) hy13 rfl (ok13 l Z a0 hw n (x8 + x9) s14 _ hc15) rfl (lenOf pd13 rfl) (leb rfl) (leb rfl) (leb rfl) (leb rfl) ?_
  rintro _ _ ⟨rfl, rfl⟩
  show W33 l Z n0 (P33 r) 0 0 105 (vR 0 :: vI p1 :: vI x1 :: vI x2 :: vI x3 :: vJ x5 :: vS :: vJ x7 :: vS :: vI x8 :: vI x9 :: vJ c11 :: vS :: vI x12 :: vU :: vU :: vU :: vU :: vU :: vU :: vU :: []) [.long c15, .ref 0] (Hb 0 s14)
  obtain ⟨s16, es16, h⟩ := lt_e h
  refine WP.putJ (i := 0) (j := 21) (H' := (Hb 0 s16)) d33_105 (hw _ m_193) (Or.inl (hw _ m_194)) (hw _ m_5) (hlay hw) rfl rfl rfl (leb rfl) (by subst es16; rfl) ?_
  refine WP.iconst (1 : Int32) d33_108 rfl ?_
  cases h
  exact WP.zreturn d33_109 rfl (leb rfl) (leb rfl) ⟨rfl, rfl⟩
 ·
  refine WP.icmpY (pc' := 110) d33_80 (XT.ii_ne_t hc13) (by decide) rfl ?_
  refine WP.iload d33_110 rfl ?_
  refine WP.iconst (5 : Int32) d33_112 rfl ?_
  rcases ite_e h with ⟨hc17, h⟩ | ⟨hc17, h⟩
  ·
   refine WP.icmpN d33_113 (XT.ii_ne_f hc17) ?_
   refine WP.aloadN d33_116 rfl ?_
   refine WP.lload d33_117 rfl ?_
   refine WP.lload d33_119 rfl ?_
   refine WP.iload d33_121 rfl ?_
   refine WP.iload d33_123 rfl ?_
   refine WP.lload d33_125 rfl ?_
   obtain ⟨c18, hc18, h⟩ := bd h
   refine WP.callP (i := 0) (y := y39) (as := [.long x5, .long x7, .int x8, .int x9, .long c11]) (S := []) d33_127 (hw _ m_218) (hw _ m_220) (hw _ m_5) (hw _ m_219) (hw _ m_221) (hw _ m_6) hy39 rfl (ok39 l Z a0 hw n x5 x7 x8 x9 c11 s _ hc18) rfl (lenOf pd39 rfl) (leb rfl) (leb rfl) (leb rfl) (leb rfl) ?_
   rintro _ _ ⟨rfl, rfl⟩
   show W33 l Z n0 (P33 r) 0 0 130 (vR 0 :: vI p1 :: vI x1 :: vI x2 :: vI x3 :: vJ x5 :: vS :: vJ x7 :: vS :: vI x8 :: vI x9 :: vJ c11 :: vS :: vI x12 :: vU :: vU :: vU :: vU :: vU :: vU :: vU :: []) [.int c18.1] (Hb 0 c18.2)
   cases h
   exact WP.zreturn d33_130 rfl (leb rfl) (leb rfl) ⟨rfl, rfl⟩
  ·
   refine WP.icmpY (pc' := 131) d33_113 (XT.ii_ne_t hc17) (by decide) rfl ?_
   refine WP.iload d33_131 rfl ?_
   refine WP.iload d33_133 rfl ?_
   rcases ite_e h with ⟨hc19, h⟩ | ⟨hc19, h⟩
   ·
    refine WP.icmpN d33_135 (XT.ii_le_f hc19) ?_
    refine WP.iload d33_138 rfl ?_
    refine WP.goto (pc' := 145) d33_140 (by decide) rfl ?_
    exact WP.weak (L' := (vR 0 :: vU :: vU :: vU :: vU :: vJ x5 :: vS :: vJ x7 :: vS :: vI x8 :: vI x9 :: vJ c11 :: vS :: vI x12 :: vU :: vU :: vU :: vU :: vU :: vU :: vU :: [])) ⟨rfl, rfl, rfl, rfl, rfl, rfl, rfl, rfl, rfl, rfl, trivial⟩ (ok33_145 l Z a0 hw n0 n x5 x7 x8 x9 c11 x12 x8 s _ h)
   ·
    refine WP.icmpY (pc' := 143) d33_135 (XT.ii_le_t hc19) (by decide) rfl ?_
    refine WP.iload d33_143 rfl ?_
    exact WP.weak (L' := (vR 0 :: vU :: vU :: vU :: vU :: vJ x5 :: vS :: vJ x7 :: vS :: vI x8 :: vI x9 :: vJ c11 :: vS :: vI x12 :: vU :: vU :: vU :: vU :: vU :: vU :: vU :: [])) ⟨rfl, rfl, rfl, rfl, rfl, rfl, rfl, rfl, rfl, rfl, trivial⟩ (ok33_145 l Z a0 hw n0 n x5 x7 x8 x9 c11 x12 x9 s _ h)
theorem d38_0 : dc k32 0 (.aload_n 0) 1 := by decide +kernel
theorem d38_1 : dc k32 1 (.dup) 1 := by decide +kernel
theorem d38_2 : dc k32 2 (.getfield 74) 3 := by decide +kernel
theorem d38_5 : dc k32 5 (.iconst 1) 1 := by decide +kernel
theorem d38_6 : dc k32 6 (.iadd) 1 := by decide +kernel
theorem d38_7 : dc k32 7 (.putfield 74) 3 := by decide +kernel
theorem d38_10 : dc k32 10 (.aload_n 0) 1 := by decide +kernel
theorem d38_11 : dc k32 11 (.getfield 38) 3 := by decide +kernel
theorem d38_14 : dc k32 14 (.iload_n 1) 1 := by decide +kernel
theorem d38_15 : dc k32 15 (.baload) 1 := by decide +kernel
theorem d38_16 : dc k32 16 (.ifCond .eq 14) 3 := by decide +kernel
theorem d38_19 : dc k32 19 (.aload_n 0) 1 := by decide +kernel
theorem d38_20 : dc k32 20 (.aload_n 0) 1 := by decide +kernel
theorem d38_21 : dc k32 21 (.getfield 41) 3 := by decide +kernel
theorem d38_24 : dc k32 24 (.iload_n 1) 1 := by decide +kernel
theorem d38_25 : dc k32 25 (.iaload) 1 := by decide +kernel
theorem d38_26 : dc k32 26 (.putfield 68) 3 := by decide +kernel
theorem d38_29 : dc k32 29 (.return_) 1 := by decide +kernel
theorem d38_30 : dc k32 30 (.iload_n 2) 1 := by decide +kernel
theorem d38_31 : dc k32 31 (.ifCond .eq 33) 3 := by decide +kernel
theorem d38_34 : dc k32 34 (.aload_n 0) 1 := by decide +kernel
theorem d38_35 : dc k32 35 (.getfield 35) 3 := by decide +kernel
theorem d38_38 : dc k32 38 (.iload_n 1) 1 := by decide +kernel
theorem d38_39 : dc k32 39 (.iaload) 1 := by decide +kernel
theorem d38_40 : dc k32 40 (.istore 5) 2 := by decide +kernel
theorem d38_42 : dc k32 42 (.aload_n 0) 1 := by decide +kernel
theorem d38_43 : dc k32 43 (.iload 5) 2 := by decide +kernel
theorem d38_45 : dc k32 45 (.invokevirtual 81) 3 := by decide +kernel
theorem d38_48 : dc k32 48 (.istore 6) 2 := by decide +kernel
theorem d38_50 : dc k32 50 (.aload_n 0) 1 := by decide +kernel
theorem d38_51 : dc k32 51 (.getfield 16) 3 := by decide +kernel
theorem d38_54 : dc k32 54 (.iload 5) 2 := by decide +kernel
theorem d38_56 : dc k32 56 (.aload_n 0) 1 := by decide +kernel
theorem d38_57 : dc k32 57 (.lload_n 3) 1 := by decide +kernel
theorem d38_58 : dc k32 58 (.iload 6) 2 := by decide +kernel
theorem d38_60 : dc k32 60 (.invokevirtual 138) 3 := by decide +kernel
theorem d38_63 : dc k32 63 (.iastore) 1 := by decide +kernel
theorem d38_64 : dc k32 64 (.aload_n 0) 1 := by decide +kernel
theorem d38_65 : dc k32 65 (.aload_n 0) 1 := by decide +kernel
theorem d38_66 : dc k32 66 (.getfield 68) 3 := by decide +kernel
theorem d38_69 : dc k32 69 (.iconst 1) 1 := by decide +kernel
theorem d38_70 : dc k32 70 (.iadd) 1 := by decide +kernel
theorem d38_71 : dc k32 71 (.putfield 68) 3 := by decide +kernel
theorem d38_74 : dc k32 74 (.return_) 1 := by decide +kernel
abbrev y38 : MethodName := ⟨"PictureCobol", "sizeError", "(IZJ)V"⟩
theorem hy38 : y38.cls ≠ "java/lang/invoke/MethodHandle" ∧ y38.cls ≠ "java/lang/invoke/VarHandle" := by decide
theorem pd38 : parseMethodDescriptor y38.desc = some ⟨[.int, .boolean, .long], none⟩ := by decide +kernel
abbrev R38 : Room := { frames := 2, cells := 0, slots := 0, locals := 38 }
abbrev P38 (r : St) : Option Value → List OwnC → Prop := fun v H' => v = none ∧ H' = (Hb 0 r)
abbrev W38 (l : Launch) (Z : State) (n0 : Nat) (Q : Option Value → List OwnC → Prop) (k n pc : Nat) (L : List Slot) (S : List Value) (H : List OwnC) : Prop := WP l Z CN lay "PictureCobol" "sizeError" prog_1_method_35_code 7 (none) R38 n0 0 Q k n pc L S H
def f_sizeError_64 (n : Nat) (s : St) : Option (St) :=
 lt (sI s 6 ((gI s 6) + (1 : Int32))) fun s1 =>
 some s1
theorem ok38_64 (l : Launch) (Z : State) (a0 : Array Value) (hw : HW a0 Z) (n0 n : Nat) (s r : St) (h : f_sizeError_64 n s = some r) : W38 l Z n0 (P38 r) 0 0 64 (vR 0 :: vU :: vU :: vU :: vU :: vU :: vU :: []) [] (Hb 0 s) := by
 unfold f_sizeError_64 at h
 refine WP.aloadN d38_64 rfl ?_
 refine WP.aloadN d38_65 rfl ?_
 refine WP.getfield (i := 0) (j := 17) d38_66 (hw _ m_53) rfl rfl rfl ?_
 refine WP.iconst (1 : Int32) d38_69 rfl ?_
 refine WP.iadd d38_70 ?_
 obtain ⟨s1, es1, h⟩ := lt_e h
 refine WP.putI (i := 0) (j := 17) (H' := (Hb 0 s1)) d38_71 (hw _ m_53) (Or.inl (hw _ m_54)) (hw _ m_5) (hlay hw) rfl rfl rfl (leb rfl) (by subst es1; rfl) ?_
 cases h
 exact WP.vreturn d38_74 rfl (leb rfl) (leb rfl) ⟨rfl, rfl⟩
def f_sizeError (n : Nat) (p1 p2 : Int32) (p3 : Int64) (s : St) : Option (St) :=
 lt (sI s 8 ((gI s 8) + (1 : Int32))) fun s1 =>
 (rd (gA s1 9) p1).bind fun x2 =>
 if x2 = 0 then
  if p2 = 0 then
   f_sizeError_64 n s1
  else
   (rd (gA s1 8) p1).bind fun x5 =>
   (f_digits x5 s1).bind fun c6 =>
   (f_lowDigits n p3 c6 s1).bind fun c7 =>
   (wrA s1 2 x5 c7).bind fun s8 =>
   f_sizeError_64 n s8
 else
  (rd (gA s1 10) p1).bind fun x9 =>
  lt (sI s1 6 x9) fun s10 =>
  some s10
theorem ok38 (l : Launch) (Z : State) (a0 : Array Value) (hw : HW a0 Z) (n : Nat) (p1 p2 : Int32) (p3 : Int64) (s r : St) (h : f_sizeError n p1 p2 p3 s = some r) : CS l Z CN lay y38 prog_1_method_35_code 7 (none) R38 0 [.ref 0, .int p1, .int p2, .long p3] (Hb 0 s) (P38 r) := by
 refine CS.of_wp pn_cls (leb rfl) fun n0 => ?_
 show W38 l Z n0 (P38 r) 0 0 0 (vR 0 :: vI p1 :: vI p2 :: vJ p3 :: vS :: vU :: vU :: []) [] (Hb 0 s)
 unfold f_sizeError at h
 refine WP.aloadN d38_0 rfl ?_
 refine WP.dup d38_1 rfl ?_
 refine WP.getfield (i := 0) (j := 19) d38_2 (hw _ m_57) rfl rfl rfl ?_
 refine WP.iconst (1 : Int32) d38_5 rfl ?_
 refine WP.iadd d38_6 ?_
 obtain ⟨s1, es1, h⟩ := lt_e h
 refine WP.putI (i := 0) (j := 19) (H' := (Hb 0 s1)) d38_7 (hw _ m_57) (Or.inl (hw _ m_58)) (hw _ m_5) (hlay hw) rfl rfl rfl (leb rfl) (by subst es1; rfl) ?_
 refine WP.aloadN d38_10 rfl ?_
 refine WP.getfield (i := 0) (j := 13) d38_11 (hw _ m_33) rfl rfl rfl ?_
 refine WP.iloadN d38_14 rfl ?_
 obtain ⟨x2, hx2, h⟩ := bd h
 refine WP.baload (i := 10) d38_15 rfl hx2 ?_
 rcases ite_e h with ⟨hc3, h⟩ | ⟨hc3, h⟩
 ·
  refine WP.ifY (pc' := 30) d38_16 (XT.i0_eq_t hc3) (by decide) rfl ?_
  refine WP.iloadN d38_30 rfl ?_
  rcases ite_e h with ⟨hc4, h⟩ | ⟨hc4, h⟩
  ·
   refine WP.ifY (pc' := 64) d38_31 (XT.i0_eq_t hc4) (by decide) rfl ?_
   exact WP.weak (L' := (vR 0 :: vU :: vU :: vU :: vU :: vU :: vU :: [])) ⟨rfl, trivial⟩ (ok38_64 l Z a0 hw n0 n s1 _ h)
  ·
   refine WP.ifN d38_31 (XT.i0_eq_f hc4) ?_
   refine WP.aloadN d38_34 rfl ?_
   refine WP.getfield (i := 0) (j := 12) d38_35 (hw _ m_31) rfl rfl rfl ?_
   refine WP.iloadN d38_38 rfl ?_
   obtain ⟨x5, hx5, h⟩ := bd h
   refine WP.iaload (i := 9) d38_39 rfl hx5 ?_
   refine WP.istore (L' := (vR 0 :: vI p1 :: vI p2 :: vJ p3 :: vS :: vI x5 :: vU :: [])) d38_40 (leb rfl) rfl ?_
   refine WP.aloadN d38_42 rfl ?_
   refine WP.iload d38_43 rfl ?_
   obtain ⟨c6, hc6, h⟩ := bd h
   refine WP.callP (i := 0) (y := y12) (as := [.int x5]) (S := []) d38_45 (hw _ m_98) (hw _ m_100) (hw _ m_5) (hw _ m_99) (hw _ m_101) (hw _ m_6) hy12 rfl (ok12 l Z a0 hw x5 s1 _ hc6) rfl (lenOf pd12 rfl) (leb rfl) (leb rfl) (leb rfl) (leb rfl) ?_
   rintro _ _ ⟨rfl, rfl⟩
   show W38 l Z n0 (P38 r) 0 0 48 (vR 0 :: vI p1 :: vI p2 :: vJ p3 :: vS :: vI x5 :: vU :: []) [.int c6] (Hb 0 s1)
   refine WP.istore (L' := (vR 0 :: vI p1 :: vI p2 :: vJ p3 :: vS :: vI x5 :: vI c6 :: [])) d38_48 (leb rfl) rfl ?_
   refine WP.aloadN d38_50 rfl ?_
   refine WP.getfield (i := 0) (j := 5) d38_51 (hw _ m_18) rfl rfl rfl ?_
   refine WP.iload d38_54 rfl ?_
   refine WP.aloadN d38_56 rfl ?_
   refine WP.lloadN d38_57 rfl ?_
   refine WP.iload d38_58 rfl ?_
   obtain ⟨c7, hc7, h⟩ := bd h
   refine WP.callP (i := 0) (y := y42) (as := [.long p3, .int c6]) (S := [.int x5, .ref 3]) d38_60 (hw _ m_230) (hw _ m_232) (hw _ m_5) (hw _ m_231) (hw _ m_233) (hw _ m_6) hy42 rfl (ok42 l Z a0 hw n p3 c6 s1 _ hc7) rfl (lenOf pd42 rfl) (leb rfl) (leb rfl) (leb rfl) (leb rfl) ?_
   rintro _ _ ⟨rfl, rfl⟩
   show W38 l Z n0 (P38 r) 0 0 63 (vR 0 :: vI p1 :: vI p2 :: vJ p3 :: vS :: vI x5 :: vI c6 :: []) [.int c7, .int x5, .ref 3] (Hb 0 s1)
   obtain ⟨s8, hs8, h⟩ := bd h
   obtain ⟨ys8, gs8, es8⟩ := wrA_e hs8
   refine WP.iastore (i := 3) (xs := gA s1 2) (H' := (Hb 0 s8)) d38_63 rfl (leb rfl) gs8 (by subst es8; rfl) ?_
   exact WP.weak (L' := (vR 0 :: vU :: vU :: vU :: vU :: vU :: vU :: [])) ⟨rfl, trivial⟩ (ok38_64 l Z a0 hw n0 n s8 _ h)
 ·
  refine WP.ifN d38_16 (XT.i0_eq_f hc3) ?_
  refine WP.aloadN d38_19 rfl ?_
  refine WP.aloadN d38_20 rfl ?_
  refine WP.getfield (i := 0) (j := 14) d38_21 (hw _ m_35) rfl rfl rfl ?_
  refine WP.iloadN d38_24 rfl ?_
  obtain ⟨x9, hx9, h⟩ := bd h
  refine WP.iaload (i := 11) d38_25 rfl hx9 ?_
  obtain ⟨s10, es10, h⟩ := lt_e h
  refine WP.putI (i := 0) (j := 17) (H' := (Hb 0 s10)) d38_26 (hw _ m_53) (Or.inl (hw _ m_54)) (hw _ m_5) (hlay hw) rfl rfl rfl (leb rfl) (by subst es10; rfl) ?_
  cases h
  exact WP.vreturn d38_29 rfl (leb rfl) (leb rfl) ⟨rfl, rfl⟩
theorem d36_0 : dc k24 0 (.aload_n 0) 1 := by decide +kernel
theorem d36_1 : dc k24 1 (.iload_n 3) 1 := by decide +kernel
theorem d36_2 : dc k24 2 (.invokevirtual 85) 3 := by decide +kernel
theorem d36_5 : dc k24 5 (.lconst 1) 1 := by decide +kernel
theorem d36_6 : dc k24 6 (.lsub) 1 := by decide +kernel
theorem d36_7 : dc k24 7 (.lstore 4) 2 := by decide +kernel
theorem d36_9 : dc k24 9 (.aload_n 0) 1 := by decide +kernel
theorem d36_10 : dc k24 10 (.lload_n 1) 1 := by decide +kernel
theorem d36_11 : dc k24 11 (.invokevirtual 116) 3 := by decide +kernel
theorem d36_14 : dc k24 14 (.lload 4) 2 := by decide +kernel
theorem d36_16 : dc k24 16 (.lcmp) 1 := by decide +kernel
theorem d36_17 : dc k24 17 (.ifCond .gt 7) 3 := by decide +kernel
theorem d36_20 : dc k24 20 (.iconst 1) 1 := by decide +kernel
theorem d36_21 : dc k24 21 (.goto 4) 3 := by decide +kernel
theorem d36_24 : dc k24 24 (.iconst 0) 1 := by decide +kernel
theorem d36_25 : dc k24 25 (.ireturn) 1 := by decide +kernel
abbrev y36 : MethodName := ⟨"PictureCobol", "fits", "(JI)Z"⟩
theorem hy36 : y36.cls ≠ "java/lang/invoke/MethodHandle" ∧ y36.cls ≠ "java/lang/invoke/VarHandle" := by decide
theorem pd36 : parseMethodDescriptor y36.desc = some ⟨[.long, .int], some .boolean⟩ := by decide +kernel
abbrev R36 : Room := { frames := 1, cells := 0, slots := 0, locals := 16 }
abbrev P36 (s : St) (r : Int32) : Option Value → List OwnC → Prop := fun v H' => v = some (.int r) ∧ H' = (Hb 0 s)
abbrev W36 (l : Launch) (Z : State) (n0 : Nat) (Q : Option Value → List OwnC → Prop) (k n pc : Nat) (L : List Slot) (S : List Value) (H : List OwnC) : Prop := WP l Z CN lay "PictureCobol" "fits" prog_1_method_27_code 6 (some FieldType.boolean) R36 n0 0 Q k n pc L S H
def f_fits_25 (n : Nat) (t0 : Int32) (s : St) : Option (Int32) :=
 some (t0 &&& 1)
theorem ok36_25 (l : Launch) (Z : State) (a0 : Array Value) (hw : HW a0 Z) (n0 n : Nat) (t0 : Int32) (s : St) (r : Int32) (h : f_fits_25 n t0 s = some r) : W36 l Z n0 (P36 s r) 0 0 25 (vU :: vU :: vU :: vU :: vU :: vU :: []) [.int t0] (Hb 0 s) := by
 unfold f_fits_25 at h
 cases h
 exact WP.zreturn d36_25 rfl (leb rfl) (leb rfl) ⟨rfl, rfl⟩
def f_fits (n : Nat) (p1 : Int64) (p2 : Int32) (s : St) : Option (Int32) :=
 (f_pow10 n p2 s).bind fun c1 =>
 lt (c1 - (1 : Int64)) fun x2 =>
 (f_absL p1 s).bind fun c3 =>
 if x2 < c3 then
  f_fits_25 n (0 : Int32) s
 else
  f_fits_25 n (1 : Int32) s
theorem ok36 (l : Launch) (Z : State) (a0 : Array Value) (hw : HW a0 Z) (n : Nat) (p1 : Int64) (p2 : Int32) (s : St) (r : Int32) (h : f_fits n p1 p2 s = some r) : CS l Z CN lay y36 prog_1_method_27_code 6 (some FieldType.boolean) R36 0 [.ref 0, .long p1, .int p2] (Hb 0 s) (P36 s r) := by
 refine CS.of_wp pn_cls (leb rfl) fun n0 => ?_
 show W36 l Z n0 (P36 s r) 0 0 0 (vR 0 :: vJ p1 :: vS :: vI p2 :: vU :: vU :: []) [] (Hb 0 s)
 unfold f_fits at h
 refine WP.aloadN d36_0 rfl ?_
 refine WP.iloadN d36_1 rfl ?_
 obtain ⟨c1, hc1, h⟩ := bd h
 refine WP.callP (i := 0) (y := y13) (as := [.int p2]) (S := []) d36_2 (hw _ m_102) (hw _ m_104) (hw _ m_5) (hw _ m_103) (hw _ m_105) (hw _ m_6) hy13 rfl (ok13 l Z a0 hw n p2 s _ hc1) rfl (lenOf pd13 rfl) (leb rfl) (leb rfl) (leb rfl) (leb rfl) ?_
 rintro _ _ ⟨rfl, rfl⟩
 show W36 l Z n0 (P36 s r) 0 0 5 (vR 0 :: vJ p1 :: vS :: vI p2 :: vU :: vU :: []) [.long c1] (Hb 0 s)
 refine WP.lconst (1 : Int64) d36_5 rfl ?_
 refine WP.lsub d36_6 ?_
 obtain ⟨x2, ex2, h⟩ := lt_e h
 refine WP.lstore (L' := (vR 0 :: vJ p1 :: vS :: vI p2 :: vJ x2 :: vS :: [])) d36_7 (leb rfl) (by subst ex2; rfl) ?_
 refine WP.aloadN d36_9 rfl ?_
 refine WP.lloadN d36_10 rfl ?_
 obtain ⟨c3, hc3, h⟩ := bd h
 refine WP.callP (i := 0) (y := y35) (as := [.long p1]) (S := []) d36_11 (hw _ m_199) (hw _ m_201) (hw _ m_5) (hw _ m_200) (hw _ m_202) (hw _ m_6) hy35 rfl (ok35 l Z a0 hw p1 s _ hc3) rfl (lenOf pd35 rfl) (leb rfl) (leb rfl) (leb rfl) (leb rfl) ?_
 rintro _ _ ⟨rfl, rfl⟩
 show W36 l Z n0 (P36 s r) 0 0 14 (vR 0 :: vJ p1 :: vS :: vI p2 :: vJ x2 :: vS :: []) [.long c3] (Hb 0 s)
 refine WP.lload d36_14 rfl ?_
 refine WP.lcmp d36_16 ?_
 rcases ite_e h with ⟨hc4, h⟩ | ⟨hc4, h⟩
 ·
  refine WP.ifY (pc' := 24) d36_17 (XT.ll_gt_t hc4) (by decide) rfl ?_
  refine WP.iconst (0 : Int32) d36_24 rfl ?_
  exact WP.weak (L' := (vU :: vU :: vU :: vU :: vU :: vU :: [])) trivial (ok36_25 l Z a0 hw n0 n (0 : Int32) s _ h)
 ·
  refine WP.ifN d36_17 (XT.ll_gt_f hc4) ?_
  refine WP.iconst (1 : Int32) d36_20 rfl ?_
  refine WP.goto (pc' := 25) d36_21 (by decide) rfl ?_
  exact WP.weak (L' := (vU :: vU :: vU :: vU :: vU :: vU :: [])) trivial (ok36_25 l Z a0 hw n0 n (1 : Int32) s _ h)
theorem d32_0 : dc k31 0 (.aload_n 0) 1 := by decide +kernel
theorem d32_1 : dc k31 1 (.getfield 35) 3 := by decide +kernel
theorem d32_4 : dc k31 4 (.iload_n 1) 1 := by decide +kernel
theorem d32_5 : dc k31 5 (.iaload) 1 := by decide +kernel
theorem d32_6 : dc k31 6 (.istore_n 2) 1 := by decide +kernel
theorem d32_7 : dc k31 7 (.aload_n 0) 1 := by decide +kernel
theorem d32_8 : dc k31 8 (.iload_n 1) 1 := by decide +kernel
theorem d32_9 : dc k31 9 (.invokevirtual 146) 3 := by decide +kernel
theorem d32_12 : dc k31 12 (.istore_n 3) 1 := by decide +kernel
theorem d32_13 : dc k31 13 (.iload_n 3) 1 := by decide +kernel
theorem d32_14 : dc k31 14 (.ifCond .ne 11) 3 := by decide +kernel
theorem d32_17 : dc k31 17 (.aload_n 0) 1 := by decide +kernel
theorem d32_18 : dc k31 18 (.iload_n 1) 1 := by decide +kernel
theorem d32_19 : dc k31 19 (.iconst 0) 1 := by decide +kernel
theorem d32_20 : dc k31 20 (.lconst 0) 1 := by decide +kernel
theorem d32_21 : dc k31 21 (.invokevirtual 149) 3 := by decide +kernel
theorem d32_24 : dc k31 24 (.return_) 1 := by decide +kernel
theorem d32_25 : dc k31 25 (.aload_n 0) 1 := by decide +kernel
theorem d32_26 : dc k31 26 (.getfield 19) 3 := by decide +kernel
theorem d32_29 : dc k31 29 (.iload_n 2) 1 := by decide +kernel
theorem d32_30 : dc k31 30 (.baload) 1 := by decide +kernel
theorem d32_31 : dc k31 31 (.ifCond .ne 15) 3 := by decide +kernel
theorem d32_34 : dc k31 34 (.aload_n 0) 1 := by decide +kernel
theorem d32_35 : dc k31 35 (.aload_n 0) 1 := by decide +kernel
theorem d32_36 : dc k31 36 (.aload_n 0) 1 := by decide +kernel
theorem d32_37 : dc k31 37 (.getfield 112) 3 := by decide +kernel
theorem d32_40 : dc k31 40 (.invokevirtual 116) 3 := by decide +kernel
theorem d32_43 : dc k31 43 (.putfield 112) 3 := by decide +kernel
theorem d32_46 : dc k31 46 (.aload_n 0) 1 := by decide +kernel
theorem d32_47 : dc k31 47 (.aload_n 0) 1 := by decide +kernel
theorem d32_48 : dc k31 48 (.getfield 26) 3 := by decide +kernel
theorem d32_51 : dc k31 51 (.iload_n 1) 1 := by decide +kernel
theorem d32_52 : dc k31 52 (.baload) 1 := by decide +kernel
theorem d32_53 : dc k31 53 (.invokevirtual 134) 3 := by decide +kernel
theorem d32_56 : dc k31 56 (.lstore 4) 2 := by decide +kernel
theorem d32_58 : dc k31 58 (.aload_n 0) 1 := by decide +kernel
theorem d32_59 : dc k31 59 (.iload_n 2) 1 := by decide +kernel
theorem d32_60 : dc k31 60 (.invokevirtual 81) 3 := by decide +kernel
theorem d32_63 : dc k31 63 (.istore 6) 2 := by decide +kernel
theorem d32_65 : dc k31 65 (.aload_n 0) 1 := by decide +kernel
theorem d32_66 : dc k31 66 (.lload 4) 2 := by decide +kernel
theorem d32_68 : dc k31 68 (.iload 6) 2 := by decide +kernel
theorem d32_70 : dc k31 70 (.invokevirtual 153) 3 := by decide +kernel
theorem d32_73 : dc k31 73 (.ifCond .eq 23) 3 := by decide +kernel
theorem d32_76 : dc k31 76 (.aload_n 0) 1 := by decide +kernel
theorem d32_77 : dc k31 77 (.getfield 16) 3 := by decide +kernel
theorem d32_80 : dc k31 80 (.iload_n 2) 1 := by decide +kernel
theorem d32_81 : dc k31 81 (.lload 4) 2 := by decide +kernel
theorem d32_83 : dc k31 83 (.l2i) 1 := by decide +kernel
theorem d32_84 : dc k31 84 (.iastore) 1 := by decide +kernel
theorem d32_85 : dc k31 85 (.aload_n 0) 1 := by decide +kernel
theorem d32_86 : dc k31 86 (.aload_n 0) 1 := by decide +kernel
theorem d32_87 : dc k31 87 (.getfield 68) 3 := by decide +kernel
theorem d32_90 : dc k31 90 (.iconst 1) 1 := by decide +kernel
theorem d32_91 : dc k31 91 (.iadd) 1 := by decide +kernel
theorem d32_92 : dc k31 92 (.putfield 68) 3 := by decide +kernel
theorem d32_95 : dc k31 95 (.return_) 1 := by decide +kernel
theorem d32_96 : dc k31 96 (.aload_n 0) 1 := by decide +kernel
theorem d32_97 : dc k31 97 (.iload_n 1) 1 := by decide +kernel
theorem d32_98 : dc k31 98 (.iconst 1) 1 := by decide +kernel
theorem d32_99 : dc k31 99 (.lload 4) 2 := by decide +kernel
theorem d32_101 : dc k31 101 (.invokevirtual 149) 3 := by decide +kernel
theorem d32_104 : dc k31 104 (.return_) 1 := by decide +kernel
abbrev y32 : MethodName := ⟨"PictureCobol", "execArith", "(I)V"⟩
theorem hy32 : y32.cls ≠ "java/lang/invoke/MethodHandle" ∧ y32.cls ≠ "java/lang/invoke/VarHandle" := by decide
theorem pd32 : parseMethodDescriptor y32.desc = some ⟨[.int], none⟩ := by decide +kernel
abbrev R32 : Room := { frames := 3, cells := 0, slots := 0, locals := 72 }
abbrev P32 (r : St) : Option Value → List OwnC → Prop := fun v H' => v = none ∧ H' = (Hb 0 r)
abbrev W32 (l : Launch) (Z : State) (n0 : Nat) (Q : Option Value → List OwnC → Prop) (k n pc : Nat) (L : List Slot) (S : List Value) (H : List OwnC) : Prop := WP l Z CN lay "PictureCobol" "execArith" prog_1_method_34_code 7 (none) R32 n0 0 Q k n pc L S H
def f_execArith_46 (n : Nat) (v1 v2 : Int32) (s : St) : Option (St) :=
 (rd (gA s 5) v1).bind fun x1 =>
 (f_toInteger x1 s).bind fun c2 =>
 (f_digits v2 s).bind fun c3 =>
 (f_fits n c2 c3 s).bind fun c4 =>
 if c4 = 0 then
  (f_sizeError n v1 (1 : Int32) c2 s).bind fun c6 =>
  some c6
 else
  (wrA s 2 v2 c2.toInt32).bind fun s7 =>
  lt (sI s7 6 ((gI s7 6) + (1 : Int32))) fun s8 =>
  some s8
theorem ok32_46 (l : Launch) (Z : State) (a0 : Array Value) (hw : HW a0 Z) (n0 n : Nat) (v1 v2 : Int32) (s r : St) (h : f_execArith_46 n v1 v2 s = some r) : W32 l Z n0 (P32 r) 0 0 46 (vR 0 :: vI v1 :: vI v2 :: vU :: vU :: vU :: vU :: []) [] (Hb 0 s) := by
 unfold f_execArith_46 at h
 refine WP.aloadN d32_46 rfl ?_
 refine WP.aloadN d32_47 rfl ?_
 refine WP.getfield (i := 0) (j := 9) d32_48 (hw _ m_25) rfl rfl rfl ?_
 refine WP.iloadN d32_51 rfl ?_
 obtain ⟨x1, hx1, h⟩ := bd h
 refine WP.baload (i := 6) d32_52 rfl hx1 ?_
 obtain ⟨c2, hc2, h⟩ := bd h
 refine WP.callP (i := 0) (y := y34) (as := [.int x1]) (S := []) d32_53 (hw _ m_195) (hw _ m_197) (hw _ m_5) (hw _ m_196) (hw _ m_198) (hw _ m_6) hy34 rfl (ok34 l Z a0 hw x1 s _ hc2) rfl (lenOf pd34 rfl) (leb rfl) (leb rfl) (leb rfl) (leb rfl) ?_
 rintro _ _ ⟨rfl, rfl⟩
 show W32 l Z n0 (P32 r) 0 0 56 (vR 0 :: vI v1 :: vI v2 :: vU :: vU :: vU :: vU :: []) [.long c2] (Hb 0 s)
 refine WP.lstore (L' := (vR 0 :: vI v1 :: vI v2 :: vU :: vJ c2 :: vS :: vU :: [])) d32_56 (leb rfl) rfl ?_
 refine WP.aloadN d32_58 rfl ?_
 refine WP.iloadN d32_59 rfl ?_
 obtain ⟨c3, hc3, h⟩ := bd h
 refine WP.callP (i := 0) (y := y12) (as := [.int v2]) (S := []) d32_60 (hw _ m_98) (hw _ m_100) (hw _ m_5) (hw _ m_99) (hw _ m_101) (hw _ m_6) hy12 rfl (ok12 l Z a0 hw v2 s _ hc3) rfl (lenOf pd12 rfl) (leb rfl) (leb rfl) (leb rfl) (leb rfl) ?_
 rintro _ _ ⟨rfl, rfl⟩
 show W32 l Z n0 (P32 r) 0 0 63 (vR 0 :: vI v1 :: vI v2 :: vU :: vJ c2 :: vS :: vU :: []) [.int c3] (Hb 0 s)
 refine WP.istore (L' := (vR 0 :: vI v1 :: vI v2 :: vU :: vJ c2 :: vS :: vI c3 :: [])) d32_63 (leb rfl) rfl ?_
 refine WP.aloadN d32_65 rfl ?_
 refine WP.lload d32_66 rfl ?_
 refine WP.iload d32_68 rfl ?_
 obtain ⟨c4, hc4, h⟩ := bd h
 refine WP.callP (i := 0) (y := y36) (as := [.long c2, .int c3]) (S := []) d32_70 (hw _ m_203) (hw _ m_205) (hw _ m_5) (hw _ m_204) (hw _ m_206) (hw _ m_6) hy36 rfl (ok36 l Z a0 hw n c2 c3 s _ hc4) rfl (lenOf pd36 rfl) (leb rfl) (leb rfl) (leb rfl) (leb rfl) ?_
 rintro _ _ ⟨rfl, rfl⟩
 show W32 l Z n0 (P32 r) 0 0 73 (vR 0 :: vI v1 :: vI v2 :: vU :: vJ c2 :: vS :: vI c3 :: []) [.int c4] (Hb 0 s)
 rcases ite_e h with ⟨hc5, h⟩ | ⟨hc5, h⟩
 ·
  refine WP.ifY (pc' := 96) d32_73 (XT.i0_eq_t hc5) (by decide) rfl ?_
  refine WP.aloadN d32_96 rfl ?_
  refine WP.iloadN d32_97 rfl ?_
  refine WP.iconst (1 : Int32) d32_98 rfl ?_
  refine WP.lload d32_99 rfl ?_
  obtain ⟨c6, hc6, h⟩ := bd h
  refine WP.callP (i := 0) (y := y38) (as := [.int v1, .int (1 : Int32), .long c2]) (S := []) d32_101 (hw _ m_214) (hw _ m_216) (hw _ m_5) (hw _ m_215) (hw _ m_217) (hw _ m_6) hy38 rfl (ok38 l Z a0 hw n v1 (1 : Int32) c2 s _ hc6) rfl (lenOf pd38 rfl) (leb rfl) (leb rfl) (leb rfl) (leb rfl) ?_
  rintro _ _ ⟨rfl, rfl⟩
  show W32 l Z n0 (P32 r) 0 0 104 (vR 0 :: vI v1 :: vI v2 :: vU :: vJ c2 :: vS :: vI c3 :: []) [] (Hb 0 c6)
  cases h
  exact WP.vreturn d32_104 rfl (leb rfl) (leb rfl) ⟨rfl, rfl⟩
 ·
  refine WP.ifN d32_73 (XT.i0_eq_f hc5) ?_
  refine WP.aloadN d32_76 rfl ?_
  refine WP.getfield (i := 0) (j := 5) d32_77 (hw _ m_18) rfl rfl rfl ?_
  refine WP.iloadN d32_80 rfl ?_
  refine WP.lload d32_81 rfl ?_
  refine WP.l2i d32_83 ?_
  obtain ⟨s7, hs7, h⟩ := bd h
  obtain ⟨ys7, gs7, es7⟩ := wrA_e hs7
  refine WP.iastore (i := 3) (xs := gA s 2) (H' := (Hb 0 s7)) d32_84 rfl (leb rfl) gs7 (by subst es7; rfl) ?_
  refine WP.aloadN d32_85 rfl ?_
  refine WP.aloadN d32_86 rfl ?_
  refine WP.getfield (i := 0) (j := 17) d32_87 (hw _ m_53) rfl rfl rfl ?_
  refine WP.iconst (1 : Int32) d32_90 rfl ?_
  refine WP.iadd d32_91 ?_
  obtain ⟨s8, es8, h⟩ := lt_e h
  refine WP.putI (i := 0) (j := 17) (H' := (Hb 0 s8)) d32_92 (hw _ m_53) (Or.inl (hw _ m_54)) (hw _ m_5) (hlay hw) rfl rfl rfl (leb rfl) (by subst es8; rfl) ?_
  cases h
  exact WP.vreturn d32_95 rfl (leb rfl) (leb rfl) ⟨rfl, rfl⟩
def f_execArith (n : Nat) (p1 : Int32) (s : St) : Option (St) :=
 (rd (gA s 8) p1).bind fun x1 =>
 (f_formQuotient n p1 s).bind fun c2 =>
 if c2.1 = 0 then
  (f_sizeError n p1 (0 : Int32) (0 : Int64) c2.2).bind fun c4 =>
  some c4
 else
  (rd (gA c2.2 3) x1).bind fun x5 =>
  if x5 = 0 then
   (f_absL (gJ c2.2 0) c2.2).bind fun c7 =>
   lt (sJ c2.2 0 c7) fun s8 =>
   f_execArith_46 n p1 x1 s8
  else
   f_execArith_46 n p1 x1 c2.2
theorem ok32 (l : Launch) (Z : State) (a0 : Array Value) (hw : HW a0 Z) (n : Nat) (p1 : Int32) (s r : St) (h : f_execArith n p1 s = some r) : CS l Z CN lay y32 prog_1_method_34_code 7 (none) R32 0 [.ref 0, .int p1] (Hb 0 s) (P32 r) := by
 refine CS.of_wp pn_cls (leb rfl) fun n0 => ?_
 show W32 l Z n0 (P32 r) 0 0 0 (vR 0 :: vI p1 :: vU :: vU :: vU :: vU :: vU :: []) [] (Hb 0 s)
 unfold f_execArith at h
 refine WP.aloadN d32_0 rfl ?_
 refine WP.getfield (i := 0) (j := 12) d32_1 (hw _ m_31) rfl rfl rfl ?_
 refine WP.iloadN d32_4 rfl ?_
 obtain ⟨x1, hx1, h⟩ := bd h
 refine WP.iaload (i := 9) d32_5 rfl hx1 ?_
 refine WP.istoreN (L' := (vR 0 :: vI p1 :: vI x1 :: vU :: vU :: vU :: vU :: [])) d32_6 (leb rfl) rfl ?_
 refine WP.aloadN d32_7 rfl ?_
 refine WP.iloadN d32_8 rfl ?_
 obtain ⟨c2, hc2, h⟩ := bd h
 refine WP.callP (i := 0) (y := y33) (as := [.int p1]) (S := []) d32_9 (hw _ m_187) (hw _ m_189) (hw _ m_5) (hw _ m_188) (hw _ m_190) (hw _ m_6) hy33 rfl (ok33 l Z a0 hw n p1 s _ hc2) rfl (lenOf pd33 rfl) (leb rfl) (leb rfl) (leb rfl) (leb rfl) ?_
 rintro _ _ ⟨rfl, rfl⟩
 show W32 l Z n0 (P32 r) 0 0 12 (vR 0 :: vI p1 :: vI x1 :: vU :: vU :: vU :: vU :: []) [.int c2.1] (Hb 0 c2.2)
 refine WP.istoreN (L' := (vR 0 :: vI p1 :: vI x1 :: vI c2.1 :: vU :: vU :: vU :: [])) d32_12 (leb rfl) rfl ?_
 refine WP.iloadN d32_13 rfl ?_
 rcases ite_e h with ⟨hc3, h⟩ | ⟨hc3, h⟩
 ·
  refine WP.ifN d32_14 (XT.i0_ne_f hc3) ?_
  refine WP.aloadN d32_17 rfl ?_
  refine WP.iloadN d32_18 rfl ?_
  refine WP.iconst (0 : Int32) d32_19 rfl ?_
  refine WP.lconst (0 : Int64) d32_20 rfl ?_
  obtain ⟨c4, hc4, h⟩ := bd h
  refine WP.callP (i := 0) (y := y38) (as := [.int p1, oN, .long (0 : Int64)]) (S := []) d32_21 (hw _ m_214) (hw _ m_216) (hw _ m_5) (hw _ m_215) (hw _ m_217) (hw _ m_6) hy38 rfl (ok38 l Z a0 hw n p1 (0 : Int32) (0 : Int64) c2.2 _ hc4) rfl (lenOf pd38 rfl) (leb rfl) (leb rfl) (leb rfl) (leb rfl) ?_
  rintro _ _ ⟨rfl, rfl⟩
  show W32 l Z n0 (P32 r) 0 0 24 (vR 0 :: vI p1 :: vI x1 :: vI c2.1 :: vU :: vU :: vU :: []) [] (Hb 0 c4)
  cases h
  exact WP.vreturn d32_24 rfl (leb rfl) (leb rfl) ⟨rfl, rfl⟩
 ·
  refine WP.ifY (pc' := 25) d32_14 (XT.i0_ne_t hc3) (by decide) rfl ?_
  refine WP.aloadN d32_25 rfl ?_
  refine WP.getfield (i := 0) (j := 6) d32_26 (hw _ m_21) rfl rfl rfl ?_
  refine WP.iloadN d32_29 rfl ?_
  obtain ⟨x5, hx5, h⟩ := bd h
  refine WP.baload (i := 4) d32_30 rfl hx5 ?_
  rcases ite_e h with ⟨hc6, h⟩ | ⟨hc6, h⟩
  ·
   refine WP.ifN d32_31 (XT.i0_ne_f hc6) ?_
   refine WP.aloadN d32_34 rfl ?_
   refine WP.aloadN d32_35 rfl ?_
   refine WP.aloadN d32_36 rfl ?_
   refine WP.getfield (i := 0) (j := 20) d32_37 (hw _ m_191) rfl rfl rfl ?_
   obtain ⟨c7, hc7, h⟩ := bd h
   refine WP.callP (i := 0) (y := y35) (as := [.long (gJ c2.2 0)]) (S := [.ref 0]) d32_40 (hw _ m_199) (hw _ m_201) (hw _ m_5) (hw _ m_200) (hw _ m_202) (hw _ m_6) hy35 rfl (ok35 l Z a0 hw (gJ c2.2 0) c2.2 _ hc7) rfl (lenOf pd35 rfl) (leb rfl) (leb rfl) (leb rfl) (leb rfl) ?_
   rintro _ _ ⟨rfl, rfl⟩
   show W32 l Z n0 (P32 r) 0 0 43 (vR 0 :: vI p1 :: vI x1 :: vI c2.1 :: vU :: vU :: vU :: []) [.long c7, .ref 0] (Hb 0 c2.2)
   obtain ⟨s8, es8, h⟩ := lt_e h
   refine WP.putJ (i := 0) (j := 20) (H' := (Hb 0 s8)) d32_43 (hw _ m_191) (Or.inl (hw _ m_192)) (hw _ m_5) (hlay hw) rfl rfl rfl (leb rfl) (by subst es8; rfl) ?_
   exact WP.weak (L' := (vR 0 :: vI p1 :: vI x1 :: vU :: vU :: vU :: vU :: [])) ⟨rfl, rfl, rfl, trivial⟩ (ok32_46 l Z a0 hw n0 n p1 x1 s8 _ h)
  ·
   refine WP.ifY (pc' := 46) d32_31 (XT.i0_ne_t hc6) (by decide) rfl ?_
   exact WP.weak (L' := (vR 0 :: vI p1 :: vI x1 :: vU :: vU :: vU :: vU :: [])) ⟨rfl, rfl, rfl, trivial⟩ (ok32_46 l Z a0 hw n0 n p1 x1 c2.2 _ h)
theorem d40_0 : dc k28 0 (.aload_n 0) 1 := by decide +kernel
theorem d40_1 : dc k28 1 (.getfield 29) 3 := by decide +kernel
theorem d40_4 : dc k28 4 (.iload_n 1) 1 := by decide +kernel
theorem d40_5 : dc k28 5 (.iaload) 1 := by decide +kernel
theorem d40_6 : dc k28 6 (.istore_n 2) 1 := by decide +kernel
theorem d40_7 : dc k28 7 (.aload_n 0) 1 := by decide +kernel
theorem d40_8 : dc k28 8 (.getfield 32) 3 := by decide +kernel
theorem d40_11 : dc k28 11 (.iload_n 1) 1 := by decide +kernel
theorem d40_12 : dc k28 12 (.iaload) 1 := by decide +kernel
theorem d40_13 : dc k28 13 (.istore_n 3) 1 := by decide +kernel
theorem d40_14 : dc k28 14 (.aload_n 0) 1 := by decide +kernel
theorem d40_15 : dc k28 15 (.aload_n 0) 1 := by decide +kernel
theorem d40_16 : dc k28 16 (.getfield 13) 3 := by decide +kernel
theorem d40_19 : dc k28 19 (.iload_n 3) 1 := by decide +kernel
theorem d40_20 : dc k28 20 (.iaload) 1 := by decide +kernel
theorem d40_21 : dc k28 21 (.invokevirtual 85) 3 := by decide +kernel
theorem d40_24 : dc k28 24 (.lstore 4) 2 := by decide +kernel
theorem d40_26 : dc k28 26 (.aload_n 0) 1 := by decide +kernel
theorem d40_27 : dc k28 27 (.aload_n 0) 1 := by decide +kernel
theorem d40_28 : dc k28 28 (.getfield 13) 3 := by decide +kernel
theorem d40_31 : dc k28 31 (.iload_n 2) 1 := by decide +kernel
theorem d40_32 : dc k28 32 (.iaload) 1 := by decide +kernel
theorem d40_33 : dc k28 33 (.invokevirtual 85) 3 := by decide +kernel
theorem d40_36 : dc k28 36 (.lstore 6) 2 := by decide +kernel
theorem d40_38 : dc k28 38 (.lload 4) 2 := by decide +kernel
theorem d40_40 : dc k28 40 (.aload_n 0) 1 := by decide +kernel
theorem d40_41 : dc k28 41 (.getfield 16) 3 := by decide +kernel
theorem d40_44 : dc k28 44 (.iload_n 2) 1 := by decide +kernel
theorem d40_45 : dc k28 45 (.iaload) 1 := by decide +kernel
theorem d40_46 : dc k28 46 (.i2l) 1 := by decide +kernel
theorem d40_47 : dc k28 47 (.lmul) 1 := by decide +kernel
theorem d40_48 : dc k28 48 (.lstore 8) 2 := by decide +kernel
theorem d40_50 : dc k28 50 (.lload 6) 2 := by decide +kernel
theorem d40_52 : dc k28 52 (.aload_n 0) 1 := by decide +kernel
theorem d40_53 : dc k28 53 (.getfield 16) 3 := by decide +kernel
theorem d40_56 : dc k28 56 (.iload_n 3) 1 := by decide +kernel
theorem d40_57 : dc k28 57 (.iaload) 1 := by decide +kernel
theorem d40_58 : dc k28 58 (.i2l) 1 := by decide +kernel
theorem d40_59 : dc k28 59 (.lmul) 1 := by decide +kernel
theorem d40_60 : dc k28 60 (.lstore 10) 2 := by decide +kernel
theorem d40_62 : dc k28 62 (.aload_n 0) 1 := by decide +kernel
theorem d40_63 : dc k28 63 (.getfield 23) 3 := by decide +kernel
theorem d40_66 : dc k28 66 (.iload_n 1) 1 := by decide +kernel
theorem d40_67 : dc k28 67 (.iaload) 1 := by decide +kernel
theorem d40_68 : dc k28 68 (.bipush 6) 2 := by decide +kernel
theorem d40_70 : dc k28 70 (.if_icmp .ne 19) 3 := by decide +kernel
theorem d40_73 : dc k28 73 (.lload 8) 2 := by decide +kernel
theorem d40_75 : dc k28 75 (.lload 10) 2 := by decide +kernel
theorem d40_77 : dc k28 77 (.lcmp) 1 := by decide +kernel
theorem d40_78 : dc k28 78 (.ifCond .ge 7) 3 := by decide +kernel
theorem d40_81 : dc k28 81 (.iconst 1) 1 := by decide +kernel
theorem d40_82 : dc k28 82 (.goto 20) 3 := by decide +kernel
theorem d40_85 : dc k28 85 (.iconst 0) 1 := by decide +kernel
theorem d40_86 : dc k28 86 (.goto 16) 3 := by decide +kernel
theorem d40_89 : dc k28 89 (.lload 8) 2 := by decide +kernel
theorem d40_91 : dc k28 91 (.lload 10) 2 := by decide +kernel
theorem d40_93 : dc k28 93 (.lcmp) 1 := by decide +kernel
theorem d40_94 : dc k28 94 (.ifCond .ne 7) 3 := by decide +kernel
theorem d40_97 : dc k28 97 (.iconst 1) 1 := by decide +kernel
theorem d40_98 : dc k28 98 (.goto 4) 3 := by decide +kernel
theorem d40_101 : dc k28 101 (.iconst 0) 1 := by decide +kernel
theorem d40_102 : dc k28 102 (.istore 12) 2 := by decide +kernel
theorem d40_104 : dc k28 104 (.iload 12) 2 := by decide +kernel
theorem d40_106 : dc k28 106 (.ifCond .eq 16) 3 := by decide +kernel
theorem d40_109 : dc k28 109 (.aload_n 0) 1 := by decide +kernel
theorem d40_110 : dc k28 110 (.aload_n 0) 1 := by decide +kernel
theorem d40_111 : dc k28 111 (.getfield 35) 3 := by decide +kernel
theorem d40_114 : dc k28 114 (.iload_n 1) 1 := by decide +kernel
theorem d40_115 : dc k28 115 (.iaload) 1 := by decide +kernel
theorem d40_116 : dc k28 116 (.putfield 68) 3 := by decide +kernel
theorem d40_119 : dc k28 119 (.goto 13) 3 := by decide +kernel
theorem d40_122 : dc k28 122 (.aload_n 0) 1 := by decide +kernel
theorem d40_123 : dc k28 123 (.aload_n 0) 1 := by decide +kernel
theorem d40_124 : dc k28 124 (.getfield 68) 3 := by decide +kernel
theorem d40_127 : dc k28 127 (.iconst 1) 1 := by decide +kernel
theorem d40_128 : dc k28 128 (.iadd) 1 := by decide +kernel
theorem d40_129 : dc k28 129 (.putfield 68) 3 := by decide +kernel
theorem d40_132 : dc k28 132 (.return_) 1 := by decide +kernel
abbrev y40 : MethodName := ⟨"PictureCobol", "execIf", "(I)V"⟩
theorem hy40 : y40.cls ≠ "java/lang/invoke/MethodHandle" ∧ y40.cls ≠ "java/lang/invoke/VarHandle" := by decide
theorem pd40 : parseMethodDescriptor y40.desc = some ⟨[.int], none⟩ := by decide +kernel
abbrev R40 : Room := { frames := 1, cells := 0, slots := 0, locals := 16 }
abbrev P40 (r : St) : Option Value → List OwnC → Prop := fun v H' => v = none ∧ H' = (Hb 0 r)
abbrev W40 (l : Launch) (Z : State) (n0 : Nat) (Q : Option Value → List OwnC → Prop) (k n pc : Nat) (L : List Slot) (S : List Value) (H : List OwnC) : Prop := WP l Z CN lay "PictureCobol" "execIf" prog_1_method_31_code 13 (none) R40 n0 0 Q k n pc L S H
def f_execIf_132 (n : Nat) (s : St) : Option (St) :=
 some s
theorem ok40_132 (l : Launch) (Z : State) (a0 : Array Value) (hw : HW a0 Z) (n0 n : Nat) (s r : St) (h : f_execIf_132 n s = some r) : W40 l Z n0 (P40 r) 0 0 132 (vU :: vU :: vU :: vU :: vU :: vU :: vU :: vU :: vU :: vU :: vU :: vU :: vU :: []) [] (Hb 0 s) := by
 unfold f_execIf_132 at h
 cases h
 exact WP.vreturn d40_132 rfl (leb rfl) (leb rfl) ⟨rfl, rfl⟩
def f_execIf_102 (n : Nat) (v1 t0 : Int32) (s : St) : Option (St) :=
 if t0 = 0 then
  lt (sI s 6 ((gI s 6) + (1 : Int32))) fun s2 =>
  f_execIf_132 n s2
 else
  (rd (gA s 8) v1).bind fun x3 =>
  lt (sI s 6 x3) fun s4 =>
  f_execIf_132 n s4
theorem ok40_102 (l : Launch) (Z : State) (a0 : Array Value) (hw : HW a0 Z) (n0 n : Nat) (v1 t0 : Int32) (s r : St) (h : f_execIf_102 n v1 t0 s = some r) : W40 l Z n0 (P40 r) 0 0 102 (vR 0 :: vI v1 :: vU :: vU :: vU :: vU :: vU :: vU :: vU :: vU :: vU :: vU :: vU :: []) [.int t0] (Hb 0 s) := by
 unfold f_execIf_102 at h
 refine WP.istore (L' := (vR 0 :: vI v1 :: vU :: vU :: vU :: vU :: vU :: vU :: vU :: vU :: vU :: vU :: vI t0 :: [])) d40_102 (leb rfl) rfl ?_
 refine WP.iload d40_104 rfl ?_
 rcases ite_e h with ⟨hc1, h⟩ | ⟨hc1, h⟩
 ·
  refine WP.ifY (pc' := 122) d40_106 (XT.i0_eq_t hc1) (by decide) rfl ?_
  refine WP.aloadN d40_122 rfl ?_
  refine WP.aloadN d40_123 rfl ?_
  refine WP.getfield (i := 0) (j := 17) d40_124 (hw _ m_53) rfl rfl rfl ?_
  refine WP.iconst (1 : Int32) d40_127 rfl ?_
  refine WP.iadd d40_128 ?_
  obtain ⟨s2, es2, h⟩ := lt_e h
  refine WP.putI (i := 0) (j := 17) (H' := (Hb 0 s2)) d40_129 (hw _ m_53) (Or.inl (hw _ m_54)) (hw _ m_5) (hlay hw) rfl rfl rfl (leb rfl) (by subst es2; rfl) ?_
  exact WP.weak (L' := (vU :: vU :: vU :: vU :: vU :: vU :: vU :: vU :: vU :: vU :: vU :: vU :: vU :: [])) trivial (ok40_132 l Z a0 hw n0 n s2 _ h)
 ·
  refine WP.ifN d40_106 (XT.i0_eq_f hc1) ?_
  refine WP.aloadN d40_109 rfl ?_
  refine WP.aloadN d40_110 rfl ?_
  refine WP.getfield (i := 0) (j := 12) d40_111 (hw _ m_31) rfl rfl rfl ?_
  refine WP.iloadN d40_114 rfl ?_
  obtain ⟨x3, hx3, h⟩ := bd h
  refine WP.iaload (i := 9) d40_115 rfl hx3 ?_
  obtain ⟨s4, es4, h⟩ := lt_e h
  refine WP.putI (i := 0) (j := 17) (H' := (Hb 0 s4)) d40_116 (hw _ m_53) (Or.inl (hw _ m_54)) (hw _ m_5) (hlay hw) rfl rfl rfl (leb rfl) (by subst es4; rfl) ?_
  refine WP.goto (pc' := 132) d40_119 (by decide) rfl ?_
  exact WP.weak (L' := (vU :: vU :: vU :: vU :: vU :: vU :: vU :: vU :: vU :: vU :: vU :: vU :: vU :: [])) trivial (ok40_132 l Z a0 hw n0 n s4 _ h)
def f_execIf (n : Nat) (p1 : Int32) (s : St) : Option (St) :=
 (rd (gA s 6) p1).bind fun x1 =>
 (rd (gA s 7) p1).bind fun x2 =>
 (rd (gA s 1) x2).bind fun x3 =>
 (f_pow10 n x3 s).bind fun c4 =>
 (rd (gA s 1) x1).bind fun x5 =>
 (f_pow10 n x5 s).bind fun c6 =>
 (rd (gA s 2) x1).bind fun x7 =>
 lt (c4 * x7.toInt64) fun x8 =>
 (rd (gA s 2) x2).bind fun x9 =>
 lt (c6 * x9.toInt64) fun x10 =>
 (rd (gA s 4) p1).bind fun x11 =>
 if x11 = (6 : Int32) then
  if x8 < x10 then
   f_execIf_102 n p1 (1 : Int32) s
  else
   f_execIf_102 n p1 (0 : Int32) s
 else
  if x8 = x10 then
   f_execIf_102 n p1 (1 : Int32) s
  else
   f_execIf_102 n p1 (0 : Int32) s
theorem ok40 (l : Launch) (Z : State) (a0 : Array Value) (hw : HW a0 Z) (n : Nat) (p1 : Int32) (s r : St) (h : f_execIf n p1 s = some r) : CS l Z CN lay y40 prog_1_method_31_code 13 (none) R40 0 [.ref 0, .int p1] (Hb 0 s) (P40 r) := by
 refine CS.of_wp pn_cls (leb rfl) fun n0 => ?_
 show W40 l Z n0 (P40 r) 0 0 0 (vR 0 :: vI p1 :: vU :: vU :: vU :: vU :: vU :: vU :: vU :: vU :: vU :: vU :: vU :: []) [] (Hb 0 s)
 unfold f_execIf at h
 refine WP.aloadN d40_0 rfl ?_
 refine WP.getfield (i := 0) (j := 10) d40_1 (hw _ m_27) rfl rfl rfl ?_
 refine WP.iloadN d40_4 rfl ?_
 obtain ⟨x1, hx1, h⟩ := bd h
 refine WP.iaload (i := 7) d40_5 rfl hx1 ?_
 refine WP.istoreN (L' := (vR 0 :: vI p1 :: vI x1 :: vU :: vU :: vU :: vU :: vU :: vU :: vU :: vU :: vU :: vU :: [])) d40_6 (leb rfl) rfl ?_
 refine WP.aloadN d40_7 rfl ?_
 refine WP.getfield (i := 0) (j := 11) d40_8 (hw _ m_29) rfl rfl rfl ?_
 refine WP.iloadN d40_11 rfl ?_
 obtain ⟨x2, hx2, h⟩ := bd h
 refine WP.iaload (i := 8) d40_12 rfl hx2 ?_
 refine WP.istoreN (L' := (vR 0 :: vI p1 :: vI x1 :: vI x2 :: vU :: vU :: vU :: vU :: vU :: vU :: vU :: vU :: vU :: [])) d40_13 (leb rfl) rfl ?_
 refine WP.aloadN d40_14 rfl ?_
 refine WP.aloadN d40_15 rfl ?_
 refine WP.getfield (i := 0) (j := 4) d40_16 (hw _ m_16) rfl rfl rfl ?_
 refine WP.iloadN d40_19 rfl ?_
 obtain ⟨x3, hx3, h⟩ := bd h
 refine WP.iaload (i := 2) d40_20 rfl hx3 ?_
 obtain ⟨c4, hc4, h⟩ := bd h
 refine WP.callP (i := 0) (y := y13) (as := [.int x3]) (S := []) d40_21 (hw _ m_102) (hw _ m_104) (hw _ m_5) (hw _ m_103) (hw _ m_105) (hw _ m_6) hy13 rfl (ok13 l Z a0 hw n x3 s _ hc4) rfl (lenOf pd13 rfl) (leb rfl) (leb rfl) (leb rfl) (leb rfl) ?_
 rintro _ _ ⟨rfl, rfl⟩
 show W40 l Z n0 (P40 r) 0 0 24 (vR 0 :: vI p1 :: vI x1 :: vI x2 :: vU :: vU :: vU :: vU :: vU :: vU :: vU :: vU :: vU :: []) [.long c4] (Hb 0 s)
 refine WP.lstore (L' := (vR 0 :: vI p1 :: vI x1 :: vI x2 :: vJ c4 :: vS :: vU :: vU :: vU :: vU :: vU :: vU :: vU :: [])) d40_24 (leb rfl) rfl ?_
 refine WP.aloadN d40_26 rfl ?_
 refine WP.aloadN d40_27 rfl ?_
 refine WP.getfield (i := 0) (j := 4) d40_28 (hw _ m_16) rfl rfl rfl ?_
 refine WP.iloadN d40_31 rfl ?_
 obtain ⟨x5, hx5, h⟩ := bd h
 refine WP.iaload (i := 2) d40_32 rfl hx5 ?_
 obtain ⟨c6, hc6, h⟩ := bd h
 refine WP.callP (i := 0) (y := y13) (as := [.int x5]) (S := []) d40_33 (hw _ m_102) (hw _ m_104) (hw _ m_5) (hw _ m_103) (hw _ m_105) (hw _ m_6) hy13 rfl (ok13 l Z a0 hw n x5 s _ hc6) rfl (lenOf pd13 rfl) (leb rfl) (leb rfl) (leb rfl) (leb rfl) ?_
 rintro _ _ ⟨rfl, rfl⟩
 show W40 l Z n0 (P40 r) 0 0 36 (vR 0 :: vI p1 :: vI x1 :: vI x2 :: vJ c4 :: vS :: vU :: vU :: vU :: vU :: vU :: vU :: vU :: []) [.long c6] (Hb 0 s)
 refine WP.lstore (L' := (vR 0 :: vI p1 :: vI x1 :: vI x2 :: vJ c4 :: vS :: vJ c6 :: vS :: vU :: vU :: vU :: vU :: vU :: [])) d40_36 (leb rfl) rfl ?_
 refine WP.lload d40_38 rfl ?_
 refine WP.aloadN d40_40 rfl ?_
 refine WP.getfield (i := 0) (j := 5) d40_41 (hw _ m_18) rfl rfl rfl ?_
 refine WP.iloadN d40_44 rfl ?_
 obtain ⟨x7, hx7, h⟩ := bd h
 refine WP.iaload (i := 3) d40_45 rfl hx7 ?_
 refine WP.i2l d40_46 ?_
 refine WP.lmul d40_47 ?_
 obtain ⟨x8, ex8, h⟩ := lt_e h
 refine WP.lstore (L' := (vR 0 :: vI p1 :: vI x1 :: vI x2 :: vJ c4 :: vS :: vJ c6 :: vS :: vJ x8 :: vS :: vU :: vU :: vU :: [])) d40_48 (leb rfl) (by subst ex8; rfl) ?_
 refine WP.lload d40_50 rfl ?_
 refine WP.aloadN d40_52 rfl ?_
 refine WP.getfield (i := 0) (j := 5) d40_53 (hw _ m_18) rfl rfl rfl ?_
 refine WP.iloadN d40_56 rfl ?_
 obtain ⟨x9, hx9, h⟩ := bd h
 refine WP.iaload (i := 3) d40_57 rfl hx9 ?_
 refine WP.i2l d40_58 ?_
 refine WP.lmul d40_59 ?_
 obtain ⟨x10, ex10, h⟩ := lt_e h
 refine WP.lstore (L' := (vR 0 :: vI p1 :: vI x1 :: vI x2 :: vJ c4 :: vS :: vJ c6 :: vS :: vJ x8 :: vS :: vJ x10 :: vS :: vU :: [])) d40_60 (leb rfl) (by subst ex10; rfl) ?_
 refine WP.aloadN d40_62 rfl ?_
 refine WP.getfield (i := 0) (j := 8) d40_63 (hw _ m_23) rfl rfl rfl ?_
 refine WP.iloadN d40_66 rfl ?_
 obtain ⟨x11, hx11, h⟩ := bd h
 refine WP.iaload (i := 5) d40_67 rfl hx11 ?_
 refine WP.bipush (6 : Int32) d40_68 rfl ?_
 rcases ite_e h with ⟨hc12, h⟩ | ⟨hc12, h⟩
 ·
  refine WP.icmpN d40_70 (XT.ii_ne_f hc12) ?_
  refine WP.lload d40_73 rfl ?_
  refine WP.lload d40_75 rfl ?_
  refine WP.lcmp d40_77 ?_
  rcases ite_e h with ⟨hc13, h⟩ | ⟨hc13, h⟩
  ·
   refine WP.ifN d40_78 (XT.ll_ge_f hc13) ?_
   refine WP.iconst (1 : Int32) d40_81 rfl ?_
   refine WP.goto (pc' := 102) d40_82 (by decide) rfl ?_
   exact WP.weak (L' := (vR 0 :: vI p1 :: vU :: vU :: vU :: vU :: vU :: vU :: vU :: vU :: vU :: vU :: vU :: [])) ⟨rfl, rfl, trivial⟩ (ok40_102 l Z a0 hw n0 n p1 (1 : Int32) s _ h)
  ·
   refine WP.ifY (pc' := 85) d40_78 (XT.ll_ge_t hc13) (by decide) rfl ?_
   refine WP.iconst (0 : Int32) d40_85 rfl ?_
   refine WP.goto (pc' := 102) d40_86 (by decide) rfl ?_
   exact WP.weak (L' := (vR 0 :: vI p1 :: vU :: vU :: vU :: vU :: vU :: vU :: vU :: vU :: vU :: vU :: vU :: [])) ⟨rfl, rfl, trivial⟩ (ok40_102 l Z a0 hw n0 n p1 (0 : Int32) s _ h)
 ·
  refine WP.icmpY (pc' := 89) d40_70 (XT.ii_ne_t hc12) (by decide) rfl ?_
  refine WP.lload d40_89 rfl ?_
  refine WP.lload d40_91 rfl ?_
  refine WP.lcmp d40_93 ?_
  rcases ite_e h with ⟨hc14, h⟩ | ⟨hc14, h⟩
  ·
   refine WP.ifN d40_94 (XT.ll_ne_f hc14) ?_
   refine WP.iconst (1 : Int32) d40_97 rfl ?_
   refine WP.goto (pc' := 102) d40_98 (by decide) rfl ?_
   exact WP.weak (L' := (vR 0 :: vI p1 :: vU :: vU :: vU :: vU :: vU :: vU :: vU :: vU :: vU :: vU :: vU :: [])) ⟨rfl, rfl, trivial⟩ (ok40_102 l Z a0 hw n0 n p1 (1 : Int32) s _ h)
  ·
   refine WP.ifY (pc' := 101) d40_94 (XT.ll_ne_t hc14) (by decide) rfl ?_
   refine WP.iconst (0 : Int32) d40_101 rfl ?_
   exact WP.weak (L' := (vR 0 :: vI p1 :: vU :: vU :: vU :: vU :: vU :: vU :: vU :: vU :: vU :: vU :: vU :: [])) ⟨rfl, rfl, trivial⟩ (ok40_102 l Z a0 hw n0 n p1 (0 : Int32) s _ h)
theorem d31_0 : dc k26 0 (.iload_n 1) 1 := by decide +kernel
theorem d31_1 : dc k26 1 (.ifCond .lt 9) 3 := by decide +kernel
theorem d31_4 : dc k26 4 (.iload_n 1) 1 := by decide +kernel
theorem d31_5 : dc k26 5 (.bipush 32) 2 := by decide +kernel
theorem d31_7 : dc k26 7 (.if_icmp .lt 4) 3 := by decide +kernel
theorem d31_10 : dc k26 10 (.return_) 1 := by decide +kernel
theorem d31_11 : dc k26 11 (.aload_n 0) 1 := by decide +kernel
theorem d31_12 : dc k26 12 (.getfield 23) 3 := by decide +kernel
theorem d31_15 : dc k26 15 (.iload_n 1) 1 := by decide +kernel
theorem d31_16 : dc k26 16 (.iaload) 1 := by decide +kernel
theorem d31_17 : dc k26 17 (.istore_n 2) 1 := by decide +kernel
theorem d31_18 : dc k26 18 (.iload_n 2) 1 := by decide +kernel
theorem d31_19 : dc k26 19 (.iconst 1) 1 := by decide +kernel
theorem d31_20 : dc k26 20 (.if_icmp .ne 11) 3 := by decide +kernel
theorem d31_23 : dc k26 23 (.aload_n 0) 1 := by decide +kernel
theorem d31_24 : dc k26 24 (.iload_n 1) 1 := by decide +kernel
theorem d31_25 : dc k26 25 (.invokevirtual 125) 3 := by decide +kernel
theorem d31_28 : dc k26 28 (.goto 63) 3 := by decide +kernel
theorem d31_31 : dc k26 31 (.aload_n 0) 1 := by decide +kernel
theorem d31_32 : dc k26 32 (.iload_n 2) 1 := by decide +kernel
theorem d31_33 : dc k26 33 (.invokevirtual 96) 3 := by decide +kernel
theorem d31_36 : dc k26 36 (.ifCond .eq 11) 3 := by decide +kernel
theorem d31_39 : dc k26 39 (.aload_n 0) 1 := by decide +kernel
theorem d31_40 : dc k26 40 (.iload_n 1) 1 := by decide +kernel
theorem d31_41 : dc k26 41 (.invokevirtual 128) 3 := by decide +kernel
theorem d31_44 : dc k26 44 (.goto 47) 3 := by decide +kernel
theorem d31_47 : dc k26 47 (.iload_n 2) 1 := by decide +kernel
theorem d31_48 : dc k26 48 (.bipush 6) 2 := by decide +kernel
theorem d31_50 : dc k26 50 (.if_icmp .eq 9) 3 := by decide +kernel
theorem d31_53 : dc k26 53 (.iload_n 2) 1 := by decide +kernel
theorem d31_54 : dc k26 54 (.bipush 7) 2 := by decide +kernel
theorem d31_56 : dc k26 56 (.if_icmp .ne 11) 3 := by decide +kernel
theorem d31_59 : dc k26 59 (.aload_n 0) 1 := by decide +kernel
theorem d31_60 : dc k26 60 (.iload_n 1) 1 := by decide +kernel
theorem d31_61 : dc k26 61 (.invokevirtual 131) 3 := by decide +kernel
theorem d31_64 : dc k26 64 (.goto 27) 3 := by decide +kernel
theorem d31_67 : dc k26 67 (.iload_n 2) 1 := by decide +kernel
theorem d31_68 : dc k26 68 (.bipush 8) 2 := by decide +kernel
theorem d31_70 : dc k26 70 (.if_icmp .ne 16) 3 := by decide +kernel
theorem d31_73 : dc k26 73 (.aload_n 0) 1 := by decide +kernel
theorem d31_74 : dc k26 74 (.aload_n 0) 1 := by decide +kernel
theorem d31_75 : dc k26 75 (.getfield 35) 3 := by decide +kernel
theorem d31_78 : dc k26 78 (.iload_n 1) 1 := by decide +kernel
theorem d31_79 : dc k26 79 (.iaload) 1 := by decide +kernel
theorem d31_80 : dc k26 80 (.putfield 68) 3 := by decide +kernel
theorem d31_83 : dc k26 83 (.goto 8) 3 := by decide +kernel
theorem d31_86 : dc k26 86 (.aload_n 0) 1 := by decide +kernel
theorem d31_87 : dc k26 87 (.iconst 1) 1 := by decide +kernel
theorem d31_88 : dc k26 88 (.putfield 65) 3 := by decide +kernel
theorem d31_91 : dc k26 91 (.return_) 1 := by decide +kernel
abbrev y31 : MethodName := ⟨"PictureCobol", "execute", "(I)V"⟩
theorem hy31 : y31.cls ≠ "java/lang/invoke/MethodHandle" ∧ y31.cls ≠ "java/lang/invoke/VarHandle" := by decide
theorem pd31 : parseMethodDescriptor y31.desc = some ⟨[.int], none⟩ := by decide +kernel
abbrev R31 : Room := { frames := 4, cells := 0, slots := 0, locals := 90 }
abbrev P31 (r : St) : Option Value → List OwnC → Prop := fun v H' => v = none ∧ H' = (Hb 0 r)
abbrev W31 (l : Launch) (Z : State) (n0 : Nat) (Q : Option Value → List OwnC → Prop) (k n pc : Nat) (L : List Slot) (S : List Value) (H : List OwnC) : Prop := WP l Z CN lay "PictureCobol" "execute" prog_1_method_29_code 3 (none) R31 n0 0 Q k n pc L S H
def f_execute_10 (n : Nat) (s : St) : Option (St) :=
 some s
theorem ok31_10 (l : Launch) (Z : State) (a0 : Array Value) (hw : HW a0 Z) (n0 n : Nat) (s r : St) (h : f_execute_10 n s = some r) : W31 l Z n0 (P31 r) 0 0 10 (vU :: vU :: vU :: []) [] (Hb 0 s) := by
 unfold f_execute_10 at h
 cases h
 exact WP.vreturn d31_10 rfl (leb rfl) (leb rfl) ⟨rfl, rfl⟩
def f_execute_91 (n : Nat) (s : St) : Option (St) :=
 some s
theorem ok31_91 (l : Launch) (Z : State) (a0 : Array Value) (hw : HW a0 Z) (n0 n : Nat) (s r : St) (h : f_execute_91 n s = some r) : W31 l Z n0 (P31 r) 0 0 91 (vU :: vU :: vU :: []) [] (Hb 0 s) := by
 unfold f_execute_91 at h
 cases h
 exact WP.vreturn d31_91 rfl (leb rfl) (leb rfl) ⟨rfl, rfl⟩
def f_execute_59 (n : Nat) (v1 : Int32) (s : St) : Option (St) :=
 (f_execIf n v1 s).bind fun c1 =>
 f_execute_91 n c1
theorem ok31_59 (l : Launch) (Z : State) (a0 : Array Value) (hw : HW a0 Z) (n0 n : Nat) (v1 : Int32) (s r : St) (h : f_execute_59 n v1 s = some r) : W31 l Z n0 (P31 r) 0 0 59 (vR 0 :: vI v1 :: vU :: []) [] (Hb 0 s) := by
 unfold f_execute_59 at h
 refine WP.aloadN d31_59 rfl ?_
 refine WP.iloadN d31_60 rfl ?_
 obtain ⟨c1, hc1, h⟩ := bd h
 refine WP.callP (i := 0) (y := y40) (as := [.int v1]) (S := []) d31_61 (hw _ m_222) (hw _ m_224) (hw _ m_5) (hw _ m_223) (hw _ m_225) (hw _ m_6) hy40 rfl (ok40 l Z a0 hw n v1 s _ hc1) rfl (lenOf pd40 rfl) (leb rfl) (leb rfl) (leb rfl) (leb rfl) ?_
 rintro _ _ ⟨rfl, rfl⟩
 show W31 l Z n0 (P31 r) 0 0 64 (vR 0 :: vI v1 :: vU :: []) [] (Hb 0 c1)
 refine WP.goto (pc' := 91) d31_64 (by decide) rfl ?_
 exact WP.weak (L' := (vU :: vU :: vU :: [])) trivial (ok31_91 l Z a0 hw n0 n c1 _ h)
def f_execute (n : Nat) (p1 : Int32) (s : St) : Option (St) :=
 if p1 < 0 then
  f_execute_10 n s
 else
  if p1 < (32 : Int32) then
   (rd (gA s 4) p1).bind fun x3 =>
   if x3 = (1 : Int32) then
    (f_execMove n p1 s).bind fun c5 =>
    f_execute_91 n c5
   else
    (f_isArith x3 s).bind fun c6 =>
    if c6 = 0 then
     if x3 = (6 : Int32) then
      f_execute_59 n p1 s
     else
      if x3 = (7 : Int32) then
       f_execute_59 n p1 s
      else
       if x3 = (8 : Int32) then
        (rd (gA s 8) p1).bind fun x11 =>
        lt (sI s 6 x11) fun s12 =>
        f_execute_91 n s12
       else
        lt (sI s 5 (1 : Int32)) fun s13 =>
        f_execute_91 n s13
    else
     (f_execArith n p1 s).bind fun c14 =>
     f_execute_91 n c14
  else
   f_execute_10 n s
theorem ok31 (l : Launch) (Z : State) (a0 : Array Value) (hw : HW a0 Z) (n : Nat) (p1 : Int32) (s r : St) (h : f_execute n p1 s = some r) : CS l Z CN lay y31 prog_1_method_29_code 3 (none) R31 0 [.ref 0, .int p1] (Hb 0 s) (P31 r) := by
 refine CS.of_wp pn_cls (leb rfl) fun n0 => ?_
 show W31 l Z n0 (P31 r) 0 0 0 (vR 0 :: vI p1 :: vU :: []) [] (Hb 0 s)
 unfold f_execute at h
 refine WP.iloadN d31_0 rfl ?_
 rcases ite_e h with ⟨hc1, h⟩ | ⟨hc1, h⟩
 ·
  refine WP.ifY (pc' := 10) d31_1 (XT.i0_lt_t hc1) (by decide) rfl ?_
  exact WP.weak (L' := (vU :: vU :: vU :: [])) trivial (ok31_10 l Z a0 hw n0 n s _ h)
 ·
  refine WP.ifN d31_1 (XT.i0_lt_f hc1) ?_
  refine WP.iloadN d31_4 rfl ?_
  refine WP.bipush (32 : Int32) d31_5 rfl ?_
  rcases ite_e h with ⟨hc2, h⟩ | ⟨hc2, h⟩
  ·
   refine WP.icmpY (pc' := 11) d31_7 (XT.ii_lt_t hc2) (by decide) rfl ?_
   refine WP.aloadN d31_11 rfl ?_
   refine WP.getfield (i := 0) (j := 8) d31_12 (hw _ m_23) rfl rfl rfl ?_
   refine WP.iloadN d31_15 rfl ?_
   obtain ⟨x3, hx3, h⟩ := bd h
   refine WP.iaload (i := 5) d31_16 rfl hx3 ?_
   refine WP.istoreN (L' := (vR 0 :: vI p1 :: vI x3 :: [])) d31_17 (leb rfl) rfl ?_
   refine WP.iloadN d31_18 rfl ?_
   refine WP.iconst (1 : Int32) d31_19 rfl ?_
   rcases ite_e h with ⟨hc4, h⟩ | ⟨hc4, h⟩
   ·
    refine WP.icmpN d31_20 (XT.ii_ne_f hc4) ?_
    refine WP.aloadN d31_23 rfl ?_
    refine WP.iloadN d31_24 rfl ?_
    obtain ⟨c5, hc5, h⟩ := bd h
    refine WP.callP (i := 0) (y := y41) (as := [.int p1]) (S := []) d31_25 (hw _ m_226) (hw _ m_228) (hw _ m_5) (hw _ m_227) (hw _ m_229) (hw _ m_6) hy41 rfl (ok41 l Z a0 hw n p1 s _ hc5) rfl (lenOf pd41 rfl) (leb rfl) (leb rfl) (leb rfl) (leb rfl) ?_
    rintro _ _ ⟨rfl, rfl⟩
    show W31 l Z n0 (P31 r) 0 0 28 (vR 0 :: vI p1 :: vI x3 :: []) [] (Hb 0 c5)
    refine WP.goto (pc' := 91) d31_28 (by decide) rfl ?_
    exact WP.weak (L' := (vU :: vU :: vU :: [])) trivial (ok31_91 l Z a0 hw n0 n c5 _ h)
   ·
    refine WP.icmpY (pc' := 31) d31_20 (XT.ii_ne_t hc4) (by decide) rfl ?_
    refine WP.aloadN d31_31 rfl ?_
    refine WP.iloadN d31_32 rfl ?_
    obtain ⟨c6, hc6, h⟩ := bd h
    refine WP.callP (i := 0) (y := y20) (as := [.int x3]) (S := []) d31_33 (hw _ m_130) (hw _ m_132) (hw _ m_5) (hw _ m_131) (hw _ m_133) (hw _ m_6) hy20 rfl (ok20 l Z a0 hw x3 s _ hc6) rfl (lenOf pd20 rfl) (leb rfl) (leb rfl) (leb rfl) (leb rfl) ?_
    rintro _ _ ⟨rfl, rfl⟩
    show W31 l Z n0 (P31 r) 0 0 36 (vR 0 :: vI p1 :: vI x3 :: []) [.int c6] (Hb 0 s)
    rcases ite_e h with ⟨hc7, h⟩ | ⟨hc7, h⟩
    ·
     refine WP.ifY (pc' := 47) d31_36 (XT.i0_eq_t hc7) (by decide) rfl ?_
     refine WP.iloadN d31_47 rfl ?_
     refine WP.bipush (6 : Int32) d31_48 rfl ?_
     rcases ite_e h with ⟨hc8, h⟩ | ⟨hc8, h⟩
     ·
      refine WP.icmpY (pc' := 59) d31_50 (XT.ii_eq_t hc8) (by decide) rfl ?_
      exact WP.weak (L' := (vR 0 :: vI p1 :: vU :: [])) ⟨rfl, rfl, trivial⟩ (ok31_59 l Z a0 hw n0 n p1 s _ h)
     ·
      refine WP.icmpN d31_50 (XT.ii_eq_f hc8) ?_
      refine WP.iloadN d31_53 rfl ?_
      refine WP.bipush (7 : Int32) d31_54 rfl ?_
      rcases ite_e h with ⟨hc9, h⟩ | ⟨hc9, h⟩
      ·
       refine WP.icmpN d31_56 (XT.ii_ne_f hc9) ?_
       exact WP.weak (L' := (vR 0 :: vI p1 :: vU :: [])) ⟨rfl, rfl, trivial⟩ (ok31_59 l Z a0 hw n0 n p1 s _ h)
      ·
       refine WP.icmpY (pc' := 67) d31_56 (XT.ii_ne_t hc9) (by decide) rfl ?_
       refine WP.iloadN d31_67 rfl ?_
       refine WP.bipush (8 : Int32) d31_68 rfl ?_
       rcases ite_e h with ⟨hc10, h⟩ | ⟨hc10, h⟩
       ·
        refine WP.icmpN d31_70 (XT.ii_ne_f hc10) ?_
        refine WP.aloadN d31_73 rfl ?_
        refine WP.aloadN d31_74 rfl ?_
        refine WP.getfield (i := 0) (j := 12) d31_75 (hw _ m_31) rfl rfl rfl ?_
        refine WP.iloadN d31_78 rfl ?_
        obtain ⟨x11, hx11, h⟩ := bd h
        refine WP.iaload (i := 9) d31_79 rfl hx11 ?_
        obtain ⟨s12, es12, h⟩ := lt_e h
        refine WP.putI (i := 0) (j := 17) (H' := (Hb 0 s12)) d31_80 (hw _ m_53) (Or.inl (hw _ m_54)) (hw _ m_5) (hlay hw) rfl rfl rfl (leb rfl) (by subst es12; rfl) ?_
        refine WP.goto (pc' := 91) d31_83 (by decide) rfl ?_
        exact WP.weak (L' := (vU :: vU :: vU :: [])) trivial (ok31_91 l Z a0 hw n0 n s12 _ h)
       ·
        refine WP.icmpY (pc' := 86) d31_70 (XT.ii_ne_t hc10) (by decide) rfl ?_
        refine WP.aloadN d31_86 rfl ?_
        refine WP.iconst (1 : Int32) d31_87 rfl ?_
        obtain ⟨s13, es13, h⟩ := lt_e h
        refine WP.putZ (i := 0) (j := 16) (H' := (Hb 0 s13)) d31_88 (hw _ m_51) (Or.inl (hw _ m_52)) (hw _ m_5) (hlay hw) rfl rfl rfl (leb rfl) (by subst es13; rfl) ?_
        exact WP.weak (L' := (vU :: vU :: vU :: [])) trivial (ok31_91 l Z a0 hw n0 n s13 _ h)
    ·
     refine WP.ifN d31_36 (XT.i0_eq_f hc7) ?_
     refine WP.aloadN d31_39 rfl ?_
     refine WP.iloadN d31_40 rfl ?_
     obtain ⟨c14, hc14, h⟩ := bd h
     refine WP.callP (i := 0) (y := y32) (as := [.int p1]) (S := []) d31_41 (hw _ m_183) (hw _ m_185) (hw _ m_5) (hw _ m_184) (hw _ m_186) (hw _ m_6) hy32 rfl (ok32 l Z a0 hw n p1 s _ hc14) rfl (lenOf pd32 rfl) (leb rfl) (leb rfl) (leb rfl) (leb rfl) ?_
     rintro _ _ ⟨rfl, rfl⟩
     show W31 l Z n0 (P31 r) 0 0 44 (vR 0 :: vI p1 :: vI x3 :: []) [] (Hb 0 c14)
     refine WP.goto (pc' := 91) d31_44 (by decide) rfl ?_
     exact WP.weak (L' := (vU :: vU :: vU :: [])) trivial (ok31_91 l Z a0 hw n0 n c14 _ h)
  ·
   refine WP.icmpN d31_7 (XT.ii_lt_f hc2) ?_
   exact WP.weak (L' := (vU :: vU :: vU :: [])) trivial (ok31_10 l Z a0 hw n0 n s _ h)
theorem d30_0 : dc k6 0 (.aload_n 0) 1 := by decide +kernel
theorem d30_1 : dc k6 1 (.getfield 61) 3 := by decide +kernel
theorem d30_4 : dc k6 4 (.ifCond .ne 5) 3 := by decide +kernel
theorem d30_7 : dc k6 7 (.iconst (-1)) 1 := by decide +kernel
theorem d30_8 : dc k6 8 (.ireturn) 1 := by decide +kernel
theorem d30_9 : dc k6 9 (.aload_n 0) 1 := by decide +kernel
theorem d30_10 : dc k6 10 (.iload_n 1) 1 := by decide +kernel
theorem d30_11 : dc k6 11 (.iconst 1) 1 := by decide +kernel
theorem d30_12 : dc k6 12 (.sipush 1000) 3 := by decide +kernel
theorem d30_15 : dc k6 15 (.invokevirtual 44) 3 := by decide +kernel
theorem d30_18 : dc k6 18 (.istore_n 2) 1 := by decide +kernel
theorem d30_19 : dc k6 19 (.iconst 0) 1 := by decide +kernel
theorem d30_20 : dc k6 20 (.istore_n 3) 1 := by decide +kernel
theorem d30_21 : dc k6 21 (.iload_n 3) 1 := by decide +kernel
theorem d30_22 : dc k6 22 (.iload_n 2) 1 := by decide +kernel
theorem d30_23 : dc k6 23 (.if_icmp .ge 56) 3 := by decide +kernel
theorem d30_26 : dc k6 26 (.aload_n 0) 1 := by decide +kernel
theorem d30_27 : dc k6 27 (.getfield 65) 3 := by decide +kernel
theorem d30_30 : dc k6 30 (.ifCond .eq 6) 3 := by decide +kernel
theorem d30_33 : dc k6 33 (.goto 46) 3 := by decide +kernel
theorem d30_36 : dc k6 36 (.aload_n 0) 1 := by decide +kernel
theorem d30_37 : dc k6 37 (.getfield 68) 3 := by decide +kernel
theorem d30_40 : dc k6 40 (.aload_n 0) 1 := by decide +kernel
theorem d30_41 : dc k6 41 (.getfield 58) 3 := by decide +kernel
theorem d30_44 : dc k6 44 (.if_icmp .ne 11) 3 := by decide +kernel
theorem d30_47 : dc k6 47 (.aload_n 0) 1 := by decide +kernel
theorem d30_48 : dc k6 48 (.iconst 1) 1 := by decide +kernel
theorem d30_49 : dc k6 49 (.putfield 65) 3 := by decide +kernel
theorem d30_52 : dc k6 52 (.goto 27) 3 := by decide +kernel
theorem d30_55 : dc k6 55 (.aload_n 0) 1 := by decide +kernel
theorem d30_56 : dc k6 56 (.aload_n 0) 1 := by decide +kernel
theorem d30_57 : dc k6 57 (.getfield 68) 3 := by decide +kernel
theorem d30_60 : dc k6 60 (.invokevirtual 103) 3 := by decide +kernel
theorem d30_63 : dc k6 63 (.aload_n 0) 1 := by decide +kernel
theorem d30_64 : dc k6 64 (.dup) 1 := by decide +kernel
theorem d30_65 : dc k6 65 (.getfield 71) 3 := by decide +kernel
theorem d30_68 : dc k6 68 (.iconst 1) 1 := by decide +kernel
theorem d30_69 : dc k6 69 (.iadd) 1 := by decide +kernel
theorem d30_70 : dc k6 70 (.putfield 71) 3 := by decide +kernel
theorem d30_73 : dc k6 73 (.iinc 3 1) 3 := by decide +kernel
theorem d30_76 : dc k6 76 (.goto (-55)) 3 := by decide +kernel
theorem d30_79 : dc k6 79 (.aload_n 0) 1 := by decide +kernel
theorem d30_80 : dc k6 80 (.getfield 65) 3 := by decide +kernel
theorem d30_83 : dc k6 83 (.ifCond .ne 19) 3 := by decide +kernel
theorem d30_86 : dc k6 86 (.aload_n 0) 1 := by decide +kernel
theorem d30_87 : dc k6 87 (.getfield 68) 3 := by decide +kernel
theorem d30_90 : dc k6 90 (.aload_n 0) 1 := by decide +kernel
theorem d30_91 : dc k6 91 (.getfield 58) 3 := by decide +kernel
theorem d30_94 : dc k6 94 (.if_icmp .ne 8) 3 := by decide +kernel
theorem d30_97 : dc k6 97 (.aload_n 0) 1 := by decide +kernel
theorem d30_98 : dc k6 98 (.iconst 1) 1 := by decide +kernel
theorem d30_99 : dc k6 99 (.putfield 65) 3 := by decide +kernel
theorem d30_102 : dc k6 102 (.aload_n 0) 1 := by decide +kernel
theorem d30_103 : dc k6 103 (.getfield 65) 3 := by decide +kernel
theorem d30_106 : dc k6 106 (.ifCond .eq 7) 3 := by decide +kernel
theorem d30_109 : dc k6 109 (.iconst 2) 1 := by decide +kernel
theorem d30_110 : dc k6 110 (.goto 4) 3 := by decide +kernel
theorem d30_113 : dc k6 113 (.iconst 1) 1 := by decide +kernel
theorem d30_114 : dc k6 114 (.ireturn) 1 := by decide +kernel
abbrev y30 : MethodName := ⟨"PictureCobol", "run", "(I)I"⟩
theorem hy30 : y30.cls ≠ "java/lang/invoke/MethodHandle" ∧ y30.cls ≠ "java/lang/invoke/VarHandle" := by decide
theorem pd30 : parseMethodDescriptor y30.desc = some ⟨[.int], some .int⟩ := by decide +kernel
abbrev R30 : Room := { frames := 5, cells := 0, slots := 0, locals := 104 }
abbrev P30 (r : Int32 × St) : Option Value → List OwnC → Prop := fun v H' => v = some (.int r.1) ∧ H' = (Hb 0 r.2)
abbrev W30 (l : Launch) (Z : State) (n0 : Nat) (Q : Option Value → List OwnC → Prop) (k n pc : Nat) (L : List Slot) (S : List Value) (H : List OwnC) : Prop := WP l Z CN lay "PictureCobol" "run" prog_1_method_7_code 4 (some FieldType.int) R30 n0 0 Q k n pc L S H
def f_run_114 (n : Nat) (t0 : Int32) (s : St) : Option (Int32 × St) :=
 some (t0, s)
theorem ok30_114 (l : Launch) (Z : State) (a0 : Array Value) (hw : HW a0 Z) (n0 n : Nat) (t0 : Int32) (s : St) (r : Int32 × St) (h : f_run_114 n t0 s = some r) : W30 l Z n0 (P30 r) 0 0 114 (vU :: vU :: vU :: vU :: []) [.int t0] (Hb 0 s) := by
 unfold f_run_114 at h
 cases h
 exact WP.ireturn d30_114 rfl (leb rfl) (leb rfl) ⟨rfl, rfl⟩
def f_run_102 (n : Nat) (s : St) : Option (Int32 × St) :=
 if (gI s 5) = 0 then
  f_run_114 n (1 : Int32) s
 else
  f_run_114 n (2 : Int32) s
theorem ok30_102 (l : Launch) (Z : State) (a0 : Array Value) (hw : HW a0 Z) (n0 n : Nat) (s : St) (r : Int32 × St) (h : f_run_102 n s = some r) : W30 l Z n0 (P30 r) 0 0 102 (vR 0 :: vU :: vU :: vU :: []) [] (Hb 0 s) := by
 unfold f_run_102 at h
 refine WP.aloadN d30_102 rfl ?_
 refine WP.getfield (i := 0) (j := 16) d30_103 (hw _ m_51) rfl rfl rfl ?_
 rcases ite_e h with ⟨hc1, h⟩ | ⟨hc1, h⟩
 ·
  refine WP.ifY (pc' := 113) d30_106 (XT.i0_eq_t hc1) (by decide) rfl ?_
  refine WP.iconst (1 : Int32) d30_113 rfl ?_
  exact WP.weak (L' := (vU :: vU :: vU :: vU :: [])) trivial (ok30_114 l Z a0 hw n0 n (1 : Int32) s _ h)
 ·
  refine WP.ifN d30_106 (XT.i0_eq_f hc1) ?_
  refine WP.iconst (2 : Int32) d30_109 rfl ?_
  refine WP.goto (pc' := 114) d30_110 (by decide) rfl ?_
  exact WP.weak (L' := (vU :: vU :: vU :: vU :: [])) trivial (ok30_114 l Z a0 hw n0 n (2 : Int32) s _ h)
def f_run_79 (n : Nat) (s : St) : Option (Int32 × St) :=
 if (gI s 5) = 0 then
  if (gI s 6) = (gI s 3) then
   lt (sI s 5 (1 : Int32)) fun s3 =>
   f_run_102 n s3
  else
   f_run_102 n s
 else
  f_run_102 n s
theorem ok30_79 (l : Launch) (Z : State) (a0 : Array Value) (hw : HW a0 Z) (n0 n : Nat) (s : St) (r : Int32 × St) (h : f_run_79 n s = some r) : W30 l Z n0 (P30 r) 0 0 79 (vR 0 :: vU :: vU :: vU :: []) [] (Hb 0 s) := by
 unfold f_run_79 at h
 refine WP.aloadN d30_79 rfl ?_
 refine WP.getfield (i := 0) (j := 16) d30_80 (hw _ m_51) rfl rfl rfl ?_
 rcases ite_e h with ⟨hc1, h⟩ | ⟨hc1, h⟩
 ·
  refine WP.ifN d30_83 (XT.i0_ne_f hc1) ?_
  refine WP.aloadN d30_86 rfl ?_
  refine WP.getfield (i := 0) (j := 17) d30_87 (hw _ m_53) rfl rfl rfl ?_
  refine WP.aloadN d30_90 rfl ?_
  refine WP.getfield (i := 0) (j := 7) d30_91 (hw _ m_47) rfl rfl rfl ?_
  rcases ite_e h with ⟨hc2, h⟩ | ⟨hc2, h⟩
  ·
   refine WP.icmpN d30_94 (XT.ii_ne_f hc2) ?_
   refine WP.aloadN d30_97 rfl ?_
   refine WP.iconst (1 : Int32) d30_98 rfl ?_
   obtain ⟨s3, es3, h⟩ := lt_e h
   refine WP.putZ (i := 0) (j := 16) (H' := (Hb 0 s3)) d30_99 (hw _ m_51) (Or.inl (hw _ m_52)) (hw _ m_5) (hlay hw) rfl rfl rfl (leb rfl) (by subst es3; rfl) ?_
   exact WP.weak (L' := (vR 0 :: vU :: vU :: vU :: [])) ⟨rfl, trivial⟩ (ok30_102 l Z a0 hw n0 n s3 _ h)
  ·
   refine WP.icmpY (pc' := 102) d30_94 (XT.ii_ne_t hc2) (by decide) rfl ?_
   exact WP.weak (L' := (vR 0 :: vU :: vU :: vU :: [])) ⟨rfl, trivial⟩ (ok30_102 l Z a0 hw n0 n s _ h)
 ·
  refine WP.ifY (pc' := 102) d30_83 (XT.i0_ne_t hc1) (by decide) rfl ?_
  exact WP.weak (L' := (vR 0 :: vU :: vU :: vU :: [])) ⟨rfl, trivial⟩ (ok30_102 l Z a0 hw n0 n s _ h)
def g_run_21 (k21 : KT1) (n : Nat) (v2 v3 : Int32) (s : St) : Option (Int32 × St) :=
 if v3 < v2 then
  if (gI s 5) = 0 then
   if (gI s 6) = (gI s 3) then
    lt (sI s 5 (1 : Int32)) fun s4 =>
    f_run_79 n s4
   else
    (f_execute n (gI s 6) s).bind fun c5 =>
    lt (sI c5 7 ((gI c5 7) + (1 : Int32))) fun s6 =>
    lt (v3 + (1 : Int32)) fun x7 =>
    k21 v2 x7 s6
  else
   f_run_79 n s
 else
  f_run_79 n s
abbrev HK30_21 (l : Launch) (Z : State) (n0 : Nat) (k21 : KT1) : Prop := ∀ (v2 v3 : Int32) (s : St) (r : Int32 × St), k21 v2 v3 s = some r → W30 l Z n0 (P30 r) 0 0 21 (vR 0 :: vU :: vI v2 :: vI v3 :: []) [] (Hb 0 s)
theorem okg30_21 (l : Launch) (Z : State) (a0 : Array Value) (hw : HW a0 Z) (n0 : Nat) (k21 : KT1) (hk21 : HK30_21 l Z n0 k21) (n : Nat) (v2 v3 : Int32) (s : St) (r : Int32 × St) (h : g_run_21 k21 n v2 v3 s = some r) : W30 l Z n0 (P30 r) 0 0 21 (vR 0 :: vU :: vI v2 :: vI v3 :: []) [] (Hb 0 s) := by
 unfold g_run_21 at h
 refine WP.iloadN d30_21 rfl ?_
 refine WP.iloadN d30_22 rfl ?_
 rcases ite_e h with ⟨hc1, h⟩ | ⟨hc1, h⟩
 ·
  refine WP.icmpN d30_23 (XT.ii_ge_f hc1) ?_
  refine WP.aloadN d30_26 rfl ?_
  refine WP.getfield (i := 0) (j := 16) d30_27 (hw _ m_51) rfl rfl rfl ?_
  rcases ite_e h with ⟨hc2, h⟩ | ⟨hc2, h⟩
  ·
   refine WP.ifY (pc' := 36) d30_30 (XT.i0_eq_t hc2) (by decide) rfl ?_
   refine WP.aloadN d30_36 rfl ?_
   refine WP.getfield (i := 0) (j := 17) d30_37 (hw _ m_53) rfl rfl rfl ?_
   refine WP.aloadN d30_40 rfl ?_
   refine WP.getfield (i := 0) (j := 7) d30_41 (hw _ m_47) rfl rfl rfl ?_
   rcases ite_e h with ⟨hc3, h⟩ | ⟨hc3, h⟩
   ·
    refine WP.icmpN d30_44 (XT.ii_ne_f hc3) ?_
    refine WP.aloadN d30_47 rfl ?_
    refine WP.iconst (1 : Int32) d30_48 rfl ?_
    obtain ⟨s4, es4, h⟩ := lt_e h
    refine WP.putZ (i := 0) (j := 16) (H' := (Hb 0 s4)) d30_49 (hw _ m_51) (Or.inl (hw _ m_52)) (hw _ m_5) (hlay hw) rfl rfl rfl (leb rfl) (by subst es4; rfl) ?_
    refine WP.goto (pc' := 79) d30_52 (by decide) rfl ?_
    exact WP.weak (L' := (vR 0 :: vU :: vU :: vU :: [])) ⟨rfl, trivial⟩ (ok30_79 l Z a0 hw n0 n s4 _ h)
   ·
    refine WP.icmpY (pc' := 55) d30_44 (XT.ii_ne_t hc3) (by decide) rfl ?_
    refine WP.aloadN d30_55 rfl ?_
    refine WP.aloadN d30_56 rfl ?_
    refine WP.getfield (i := 0) (j := 17) d30_57 (hw _ m_53) rfl rfl rfl ?_
    obtain ⟨c5, hc5, h⟩ := bd h
    refine WP.callP (i := 0) (y := y31) (as := [.int (gI s 6)]) (S := []) d30_60 (hw _ m_179) (hw _ m_181) (hw _ m_5) (hw _ m_180) (hw _ m_182) (hw _ m_6) hy31 rfl (ok31 l Z a0 hw n (gI s 6) s _ hc5) rfl (lenOf pd31 rfl) (leb rfl) (leb rfl) (leb rfl) (leb rfl) ?_
    rintro _ _ ⟨rfl, rfl⟩
    show W30 l Z n0 (P30 r) 0 0 63 (vR 0 :: vU :: vI v2 :: vI v3 :: []) [] (Hb 0 c5)
    refine WP.aloadN d30_63 rfl ?_
    refine WP.dup d30_64 rfl ?_
    refine WP.getfield (i := 0) (j := 18) d30_65 (hw _ m_55) rfl rfl rfl ?_
    refine WP.iconst (1 : Int32) d30_68 rfl ?_
    refine WP.iadd d30_69 ?_
    obtain ⟨s6, es6, h⟩ := lt_e h
    refine WP.putI (i := 0) (j := 18) (H' := (Hb 0 s6)) d30_70 (hw _ m_55) (Or.inl (hw _ m_56)) (hw _ m_5) (hlay hw) rfl rfl rfl (leb rfl) (by subst es6; rfl) ?_
    obtain ⟨x7, ex7, h⟩ := lt_e h
    refine WP.iinc (L' := (vR 0 :: vU :: vI v2 :: vI x7 :: [])) (1 : Int32) d30_73 rfl rfl (by subst ex7; rfl) ?_
    refine WP.goto (pc' := 21) d30_76 (by decide) rfl ?_
    exact WP.weak (L' := (vR 0 :: vU :: vI v2 :: vI x7 :: [])) ⟨rfl, rfl, rfl, trivial⟩ (hk21 v2 x7 s6 _ h)
  ·
   refine WP.ifN d30_30 (XT.i0_eq_f hc2) ?_
   refine WP.goto (pc' := 79) d30_33 (by decide) rfl ?_
   exact WP.weak (L' := (vR 0 :: vU :: vU :: vU :: [])) ⟨rfl, trivial⟩ (ok30_79 l Z a0 hw n0 n s _ h)
 ·
  refine WP.icmpY (pc' := 79) d30_23 (XT.ii_ge_t hc1) (by decide) rfl ?_
  exact WP.weak (L' := (vR 0 :: vU :: vU :: vU :: [])) ⟨rfl, trivial⟩ (ok30_79 l Z a0 hw n0 n s _ h)
def f_run_21 : Nat → Int32 → Int32 → St → Option (Int32 × St)
 | 0 => fun _ _ _ => none
 | n + 1 => g_run_21 (f_run_21 n) n
theorem ok30_21 (l : Launch) (Z : State) (a0 : Array Value) (hw : HW a0 Z) (n0 : Nat) : ∀ (n : Nat) (v2 v3 : Int32) (s : St) (r : Int32 × St), f_run_21 n v2 v3 s = some r → W30 l Z n0 (P30 r) 0 0 21 (vR 0 :: vU :: vI v2 :: vI v3 :: []) [] (Hb 0 s)
 | 0, v2, v3, s, r, h => nomatch (show none = some r from h)
 | n + 1, v2, v3, s, r, h => okg30_21 l Z a0 hw n0 _ (ok30_21 l Z a0 hw n0 n) n v2 v3 s r h
def f_run (n : Nat) (p1 : Int32) (s : St) : Option (Int32 × St) :=
 if (gI s 4) = 0 then
  some ((-1 : Int32), s)
 else
  (f_clamp p1 (1 : Int32) (1000 : Int32) s).bind fun c2 =>
  f_run_21 n c2 (0 : Int32) s
theorem ok30 (l : Launch) (Z : State) (a0 : Array Value) (hw : HW a0 Z) (n : Nat) (p1 : Int32) (s : St) (r : Int32 × St) (h : f_run n p1 s = some r) : CS l Z CN lay y30 prog_1_method_7_code 4 (some FieldType.int) R30 0 [.ref 0, .int p1] (Hb 0 s) (P30 r) := by
 refine CS.of_wp pn_cls (leb rfl) fun n0 => ?_
 show W30 l Z n0 (P30 r) 0 0 0 (vR 0 :: vI p1 :: vU :: vU :: []) [] (Hb 0 s)
 unfold f_run at h
 refine WP.aloadN d30_0 rfl ?_
 refine WP.getfield (i := 0) (j := 15) d30_1 (hw _ m_49) rfl rfl rfl ?_
 rcases ite_e h with ⟨hc1, h⟩ | ⟨hc1, h⟩
 ·
  refine WP.ifN d30_4 (XT.i0_ne_f hc1) ?_
  refine WP.iconst (-1 : Int32) d30_7 rfl ?_
  cases h
  exact WP.ireturn d30_8 rfl (leb rfl) (leb rfl) ⟨rfl, rfl⟩
 ·
  refine WP.ifY (pc' := 9) d30_4 (XT.i0_ne_t hc1) (by decide) rfl ?_
  refine WP.aloadN d30_9 rfl ?_
  refine WP.iloadN d30_10 rfl ?_
  refine WP.iconst (1 : Int32) d30_11 rfl ?_
  refine WP.sipush (1000 : Int32) d30_12 rfl ?_
  obtain ⟨c2, hc2, h⟩ := bd h
  refine WP.callP (i := 0) (y := y2) (as := [.int p1, .int (1 : Int32), .int (1000 : Int32)]) (S := []) d30_15 (hw _ m_37) (hw _ m_39) (hw _ m_5) (hw _ m_38) (hw _ m_40) (hw _ m_6) hy2 rfl (ok2 l Z a0 hw p1 (1 : Int32) (1000 : Int32) s _ hc2) rfl (lenOf pd2 rfl) (leb rfl) (leb rfl) (leb rfl) (leb rfl) ?_
  rintro _ _ ⟨rfl, rfl⟩
  show W30 l Z n0 (P30 r) 0 0 18 (vR 0 :: vI p1 :: vU :: vU :: []) [.int c2] (Hb 0 s)
  refine WP.istoreN (L' := (vR 0 :: vI p1 :: vI c2 :: vU :: [])) d30_18 (leb rfl) rfl ?_
  refine WP.iconst (0 : Int32) d30_19 rfl ?_
  refine WP.istoreN (L' := (vR 0 :: vI p1 :: vI c2 :: vI (0 : Int32) :: [])) d30_20 (leb rfl) rfl ?_
  exact WP.weak (L' := (vR 0 :: vU :: vI c2 :: vI (0 : Int32) :: [])) ⟨rfl, rfl, rfl, trivial⟩ (ok30_21 l Z a0 hw n0 n c2 (0 : Int32) s _ h)
theorem d7_0 : dc k12 0 (.aload_n 0) 1 := by decide +kernel
theorem d7_1 : dc k12 1 (.getfield 55) 3 := by decide +kernel
theorem d7_4 : dc k12 4 (.ireturn) 1 := by decide +kernel
abbrev y7 : MethodName := ⟨"PictureCobol", "getFieldCount", "()I"⟩
theorem hy7 : y7.cls ≠ "java/lang/invoke/MethodHandle" ∧ y7.cls ≠ "java/lang/invoke/VarHandle" := by decide
theorem pd7 : parseMethodDescriptor y7.desc = some ⟨[], some .int⟩ := by decide +kernel
abbrev R7 : Room := { frames := 0, cells := 0, slots := 0, locals := 0 }
abbrev P7 (s : St) (r : Int32) : Option Value → List OwnC → Prop := fun v H' => v = some (.int r) ∧ H' = (Hb 0 s)
abbrev W7 (l : Launch) (Z : State) (n0 : Nat) (Q : Option Value → List OwnC → Prop) (k n pc : Nat) (L : List Slot) (S : List Value) (H : List OwnC) : Prop := WP l Z CN lay "PictureCobol" "getFieldCount" prog_1_method_14_code 1 (some FieldType.int) R7 n0 0 Q k n pc L S H
def f_getFieldCount (s : St) : Option (Int32) :=
 some (gI s 2)
theorem ok7 (l : Launch) (Z : State) (a0 : Array Value) (hw : HW a0 Z) (s : St) (r : Int32) (h : f_getFieldCount s = some r) : CS l Z CN lay y7 prog_1_method_14_code 1 (some FieldType.int) R7 0 [.ref 0] (Hb 0 s) (P7 s r) := by
 refine CS.of_wp pn_cls (leb rfl) fun n0 => ?_
 show W7 l Z n0 (P7 s r) 0 0 0 (vR 0 :: []) [] (Hb 0 s)
 unfold f_getFieldCount at h
 refine WP.aloadN d7_0 rfl ?_
 refine WP.getfield (i := 0) (j := 2) d7_1 (hw _ m_45) rfl rfl rfl ?_
 cases h
 exact WP.ireturn d7_4 rfl (leb rfl) (leb rfl) ⟨rfl, rfl⟩
def fr0_f : List Nat := [0]
theorem fr0_c (x0 : List Int32) (x1 : St) : fr0_f.map (fun i => ([cI x0] ++ Hb 1 x1)[i]?) = ([cI x0]).map (fun c => some (rnC (ro1 fr0_f ([cI x0] ++ Hb 1 x1).length) c)) := rfl
theorem fr0_l (x0 : List Int32) (x1 : St) : ∀ x ∈ fr0_f, x < ([cI x0] ++ Hb 1 x1).length := by show ∀ x ∈ fr0_f, x < 13; decide
theorem fr0_p (x0 : List Int32) (x1 : St) : patch (ro1 fr0_f ([cI x0] ++ Hb 1 x1).length) fr0_f ([cI x0]) ([cI x0] ++ Hb 1 x1) = ([cI x0] ++ Hb 1 x1) := by
 have h := patch_seg (ro1 fr0_f ([cI x0] ++ Hb 1 x1).length) ([cI x0]) ([cI x0]) ([] : List OwnC) (Hb 1 x1) rfl
 rw [show List.range' ([] : List OwnC).length ([cI x0]).length = fr0_f from rfl, show ([cI x0]).map (rnC (ro1 fr0_f ([cI x0] ++ Hb 1 x1).length)) = ([cI x0]) from rfl] at h
 simpa only [List.append_assoc, List.append_nil, List.nil_append] using h
def fr1_f : List Nat := []
theorem fr1_c (x0 : List Int32) (x1 : St) : fr1_f.map (fun i => ([cI x0] ++ Hb 1 x1)[i]?) = ([] : List OwnC).map (fun c => some (rnC (ro1 fr1_f ([cI x0] ++ Hb 1 x1).length) c)) := rfl
theorem fr1_l (x0 : List Int32) (x1 : St) : ∀ x ∈ fr1_f, x < ([cI x0] ++ Hb 1 x1).length := by show ∀ x ∈ fr1_f, x < 13; decide
theorem fr1_p (x0 : List Int32) (x1 : St) : patch (ro1 fr1_f ([cI x0] ++ Hb 1 x1).length) fr1_f ([] : List OwnC) ([cI x0] ++ Hb 1 x1) = ([cI x0] ++ Hb 1 x1) := rfl
def fr2_f : List Nat := [1, 2, 3, 4, 5, 6, 7, 8, 9, 10, 11, 12]
theorem fr2_c (x0 : List Int32) (x1 : St) : fr2_f.map (fun i => ([cI x0] ++ Hb 1 x1)[i]?) = (Hb 0 x1).map (fun c => some (rnC (ro1 fr2_f ([cI x0] ++ Hb 1 x1).length) c)) := rfl
theorem fr2_l (x0 : List Int32) (x1 : St) : ∀ x ∈ fr2_f, x < ([cI x0] ++ Hb 1 x1).length := by show ∀ x ∈ fr2_f, x < 13; decide
theorem fr2_p (x0 : List Int32) (x1 y1 : St) : patch (ro1 fr2_f ([cI x0] ++ Hb 1 x1).length) fr2_f (Hb 0 y1) ([cI x0] ++ Hb 1 x1) = ([cI x0] ++ Hb 1 y1) := by
 have h := patch_seg (ro1 fr2_f ([cI x0] ++ Hb 1 x1).length) (Hb 0 y1) (Hb 1 x1) ([cI x0]) ([] : List OwnC) rfl
 rw [show List.range' ([cI x0]).length (Hb 0 y1).length = fr2_f from rfl, show (Hb 0 y1).map (rnC (ro1 fr2_f ([cI x0] ++ Hb 1 x1).length)) = (Hb 1 y1) from rfl] at h
 simpa only [List.append_assoc, List.append_nil, List.nil_append] using h
def fr3_f : List Nat := [1]
theorem fr3_c (x0 : List Int32) : fr3_f.map (fun i => ([cI x0] ++ [cO vs0])[i]?) = ([cO vs0]).map (fun c => some (rnC (ro1 fr3_f ([cI x0] ++ [cO vs0]).length) c)) := rfl
theorem fr3_l (x0 : List Int32) : ∀ x ∈ fr3_f, x < ([cI x0] ++ [cO vs0]).length := by show ∀ x ∈ fr3_f, x < 2; decide
theorem fr3_p (x0 : List Int32) (y1 : St) : patch (ro1 fr3_f ([cI x0] ++ [cO vs0]).length) fr3_f (Hb 0 y1) ([cI x0] ++ [cO vs0]) = ([cI x0] ++ Hb 1 y1) := rfl
abbrev PLAW (r : Int32) : Option Value → List OwnC → Prop := fun v _ => v = some (.int r)
abbrev WLAW (l : Launch) (Z : State) (n0 : Nat) (Q : Option Value → List OwnC → Prop) (k n pc : Nat) (L : List Slot) (S : List Value) (H : List OwnC) : Prop := WP l Z CN lay "PictureCobolOwnLaw" "law" code maxLocals ret room_1 n0 1 Q k n pc L S H
def f_law_1138 (n : Nat) (a : List Int32) (s0 : St) : Option (Int32) :=
 some (0 : Int32)
theorem okLAW_1138 (l : Launch) (Z : State) (a0 : Array Value) (hw : HW a0 Z) (n0 n : Nat) (a : List Int32) (s0 : St) (r : Int32) (h : f_law_1138 n a s0 = some r) : WLAW l Z n0 (PLAW r) 12 278 1138 (vU :: vU :: vU :: vU :: vU :: vU :: vU :: vU :: vU :: vU :: vU :: vU :: vU :: vU :: vU :: vU :: vU :: vU :: vU :: vU :: vU :: vU :: vU :: vU :: vU :: vU :: vU :: vU :: vU :: vU :: vU :: []) [] ([cI a] ++ Hb 1 s0) := by
 unfold f_law_1138 at h
 refine WP.iconst (0 : Int32) at_1138 rfl ?_
 cases h
 exact WP.zreturn at_1139 rfl (leb rfl) (leb rfl) rfl
def f_law_1157 (k56 : KT0) (k1083 : KT2) (n : Nat) (v1 v2 v4 v5 v6 v7 v8 v9 v10 v12 v13 : Int32) (a : List Int32) (s0 : St) : Option (Int32) :=
 lt (v13 + (1 : Int32)) fun x1 =>
 k1083 v1 v2 v4 v5 v6 v7 v8 v9 v10 v12 x1 a s0
abbrev HKLAW_56 (l : Launch) (Z : State) (n0 : Nat) (k56 : KT0) : Prop := ∀ (v1 v2 v4 v5 v6 v7 v8 v9 v10 : Int32) (a : List Int32) (s0 : St) (r : Int32), k56 v1 v2 v4 v5 v6 v7 v8 v9 v10 a s0 = some r → WLAW l Z n0 (PLAW r) 12 278 56 (vR 0 :: vI v1 :: vI v2 :: vR 1 :: vI v4 :: vI v5 :: vI v6 :: vI v7 :: vI v8 :: vI v9 :: vI v10 :: vU :: vU :: vU :: vU :: vU :: vU :: vU :: vU :: vU :: vU :: vU :: vU :: vU :: vU :: vU :: vU :: vU :: vU :: vU :: vU :: []) [] ([cI a] ++ Hb 1 s0)
abbrev HKLAW_1083 (l : Launch) (Z : State) (n0 : Nat) (k1083 : KT2) : Prop := ∀ (v1 v2 v4 v5 v6 v7 v8 v9 v10 v12 v13 : Int32) (a : List Int32) (s0 : St) (r : Int32), k1083 v1 v2 v4 v5 v6 v7 v8 v9 v10 v12 v13 a s0 = some r → WLAW l Z n0 (PLAW r) 12 278 1083 (vR 0 :: vI v1 :: vI v2 :: vR 1 :: vI v4 :: vI v5 :: vI v6 :: vI v7 :: vI v8 :: vI v9 :: vI v10 :: vU :: vI v12 :: vI v13 :: vU :: vU :: vU :: vU :: vU :: vU :: vU :: vU :: vU :: vU :: vU :: vU :: vU :: vU :: vU :: vU :: vU :: []) [] ([cI a] ++ Hb 1 s0)
theorem okLAW_1157 (l : Launch) (Z : State) (a0 : Array Value) (hw : HW a0 Z) (n0 : Nat) (k56 : KT0) (hk56 : HKLAW_56 l Z n0 k56) (k1083 : KT2) (hk1083 : HKLAW_1083 l Z n0 k1083) (n : Nat) (v1 v2 v4 v5 v6 v7 v8 v9 v10 v12 v13 : Int32) (a : List Int32) (s0 : St) (r : Int32) (h : f_law_1157 k56 k1083 n v1 v2 v4 v5 v6 v7 v8 v9 v10 v12 v13 a s0 = some r) : WLAW l Z n0 (PLAW r) 12 278 1157 (vR 0 :: vI v1 :: vI v2 :: vR 1 :: vI v4 :: vI v5 :: vI v6 :: vI v7 :: vI v8 :: vI v9 :: vI v10 :: vU :: vI v12 :: vI v13 :: vU :: vU :: vU :: vU :: vU :: vU :: vU :: vU :: vU :: vU :: vU :: vU :: vU :: vU :: vU :: vU :: vU :: []) [] ([cI a] ++ Hb 1 s0) := by
 unfold f_law_1157 at h
 obtain ⟨x1, ex1, h⟩ := lt_e h
 refine WP.iinc (L' := (vR 0 :: vI v1 :: vI v2 :: vR 1 :: vI v4 :: vI v5 :: vI v6 :: vI v7 :: vI v8 :: vI v9 :: vI v10 :: vU :: vI v12 :: vI x1 :: vU :: vU :: vU :: vU :: vU :: vU :: vU :: vU :: vU :: vU :: vU :: vU :: vU :: vU :: vU :: vU :: vU :: [])) (1 : Int32) at_1157 rfl rfl (by subst ex1; rfl) ?_
 refine WP.goto (pc' := 1083) at_1160 (by decide) rfl ?_
 exact WP.weak (L' := (vR 0 :: vI v1 :: vI v2 :: vR 1 :: vI v4 :: vI v5 :: vI v6 :: vI v7 :: vI v8 :: vI v9 :: vI v10 :: vU :: vI v12 :: vI x1 :: vU :: vU :: vU :: vU :: vU :: vU :: vU :: vU :: vU :: vU :: vU :: vU :: vU :: vU :: vU :: vU :: vU :: [])) ⟨rfl, rfl, rfl, rfl, rfl, rfl, rfl, rfl, rfl, rfl, rfl, rfl, rfl, trivial⟩ (hk1083 v1 v2 v4 v5 v6 v7 v8 v9 v10 v12 x1 a s0 _ h)
def f_law_1163 (k56 : KT0) (n : Nat) (v1 v2 v4 v5 v6 v7 v8 v9 v10 : Int32) (a : List Int32) (s0 : St) : Option (Int32) :=
 lt (v10 + (1 : Int32)) fun x1 =>
 k56 v1 v2 v4 v5 v6 v7 v8 v9 x1 a s0
theorem okLAW_1163 (l : Launch) (Z : State) (a0 : Array Value) (hw : HW a0 Z) (n0 : Nat) (k56 : KT0) (hk56 : HKLAW_56 l Z n0 k56) (n : Nat) (v1 v2 v4 v5 v6 v7 v8 v9 v10 : Int32) (a : List Int32) (s0 : St) (r : Int32) (h : f_law_1163 k56 n v1 v2 v4 v5 v6 v7 v8 v9 v10 a s0 = some r) : WLAW l Z n0 (PLAW r) 12 278 1163 (vR 0 :: vI v1 :: vI v2 :: vR 1 :: vI v4 :: vI v5 :: vI v6 :: vI v7 :: vI v8 :: vI v9 :: vI v10 :: vU :: vU :: vU :: vU :: vU :: vU :: vU :: vU :: vU :: vU :: vU :: vU :: vU :: vU :: vU :: vU :: vU :: vU :: vU :: vU :: []) [] ([cI a] ++ Hb 1 s0) := by
 unfold f_law_1163 at h
 obtain ⟨x1, ex1, h⟩ := lt_e h
 refine WP.iinc (L' := (vR 0 :: vI v1 :: vI v2 :: vR 1 :: vI v4 :: vI v5 :: vI v6 :: vI v7 :: vI v8 :: vI v9 :: vI x1 :: vU :: vU :: vU :: vU :: vU :: vU :: vU :: vU :: vU :: vU :: vU :: vU :: vU :: vU :: vU :: vU :: vU :: vU :: vU :: vU :: [])) (1 : Int32) at_1163 rfl rfl (by subst ex1; rfl) ?_
 refine WP.goto (pc' := 56) at_1166 (by decide) rfl ?_
 exact WP.weak (L' := (vR 0 :: vI v1 :: vI v2 :: vR 1 :: vI v4 :: vI v5 :: vI v6 :: vI v7 :: vI v8 :: vI v9 :: vI x1 :: vU :: vU :: vU :: vU :: vU :: vU :: vU :: vU :: vU :: vU :: vU :: vU :: vU :: vU :: vU :: vU :: vU :: vU :: vU :: vU :: [])) ⟨rfl, rfl, rfl, rfl, rfl, rfl, rfl, rfl, rfl, rfl, rfl, trivial⟩ (hk56 v1 v2 v4 v5 v6 v7 v8 v9 x1 a s0 _ h)
def g_law_1083 (k56 : KT0) (k1083 : KT2) (n : Nat) (v1 v2 v4 v5 v6 v7 v8 v9 v10 v12 v13 : Int32) (a : List Int32) (s0 : St) : Option (Int32) :=
 if v13 < v12 then
  (f_L_cell ((1 : Int32) + v13) a).bind fun c2 =>
  (f_getValue v13 s0).bind fun c3 =>
  lt (c3.toInt64) fun x4 =>
  (f_L_dOf c2).bind fun c5 =>
  (f_L_p10 n c5).bind fun c6 =>
  lt (c6 - (1 : Int64)) fun x7 =>
  if x7 < x4 then
   f_law_1138 n a s0
  else
   if x4 < (-x7) then
    f_law_1138 n a s0
   else
    (f_L_sgOf c2).bind fun c10 =>
    if c10 = 0 then
     if x4 < (0 : Int64) then
      some (0 : Int32)
     else
      f_law_1157 k56 k1083 n v1 v2 v4 v5 v6 v7 v8 v9 v10 v12 v13 a s0
    else
     f_law_1157 k56 k1083 n v1 v2 v4 v5 v6 v7 v8 v9 v10 v12 v13 a s0
 else
  f_law_1163 k56 n v1 v2 v4 v5 v6 v7 v8 v9 v10 a s0
theorem okgLAW_1083 (l : Launch) (Z : State) (a0 : Array Value) (hw : HW a0 Z) (n0 : Nat) (k56 : KT0) (hk56 : HKLAW_56 l Z n0 k56) (k1083 : KT2) (hk1083 : HKLAW_1083 l Z n0 k1083) (n : Nat) (v1 v2 v4 v5 v6 v7 v8 v9 v10 v12 v13 : Int32) (a : List Int32) (s0 : St) (r : Int32) (h : g_law_1083 k56 k1083 n v1 v2 v4 v5 v6 v7 v8 v9 v10 v12 v13 a s0 = some r) : WLAW l Z n0 (PLAW r) 12 278 1083 (vR 0 :: vI v1 :: vI v2 :: vR 1 :: vI v4 :: vI v5 :: vI v6 :: vI v7 :: vI v8 :: vI v9 :: vI v10 :: vU :: vI v12 :: vI v13 :: vU :: vU :: vU :: vU :: vU :: vU :: vU :: vU :: vU :: vU :: vU :: vU :: vU :: vU :: vU :: vU :: vU :: []) [] ([cI a] ++ Hb 1 s0) := by
 unfold g_law_1083 at h
 refine WP.iload at_1083 rfl ?_
 refine WP.iload at_1085 rfl ?_
 rcases ite_e h with ⟨hc1, h⟩ | ⟨hc1, h⟩
 ·
  refine WP.icmpN at_1087 (XT.ii_ge_f hc1) ?_
  refine WP.aloadN at_1090 rfl ?_
  refine WP.iconst (1 : Int32) at_1091 rfl ?_
  refine WP.iload at_1092 rfl ?_
  refine WP.iadd at_1094 ?_
  obtain ⟨c2, hc2, h⟩ := bd h
  refine WP.callS (y := y0) (as := [.ref 0, .int ((1 : Int32) + v13)]) (S := []) at_1095 (hw _ m_0) (hw _ m_1) (hw _ m_2) (hw _ m_3) hy0 (CS.frame (ro := 1) (H := ([cI a] ++ Hb 1 s0)) (as := [.ref 0, .int ((1 : Int32) + v13)]) fr0_f (ok0 l Z a0 hw ((1 : Int32) + v13) a _ hc2) rfl (by decide) (fr0_l a s0) (fr0_c a s0) (by decide) rfl) rfl (lenOf pd0 rfl) (leb rfl) (leb rfl) (leb rfl) (leb rfl) ?_
  rintro _ _ ⟨_, _, ⟨rfl, rfl⟩, rfl, rfl⟩
  rw [fr0_p a s0]
  show WLAW l Z n0 (PLAW r) 12 278 1098 (vR 0 :: vI v1 :: vI v2 :: vR 1 :: vI v4 :: vI v5 :: vI v6 :: vI v7 :: vI v8 :: vI v9 :: vI v10 :: vU :: vI v12 :: vI v13 :: vU :: vU :: vU :: vU :: vU :: vU :: vU :: vU :: vU :: vU :: vU :: vU :: vU :: vU :: vU :: vU :: vU :: []) [.int c2] ([cI a] ++ Hb 1 s0)
  refine WP.istore (L' := (vR 0 :: vI v1 :: vI v2 :: vR 1 :: vI v4 :: vI v5 :: vI v6 :: vI v7 :: vI v8 :: vI v9 :: vI v10 :: vU :: vI v12 :: vI v13 :: vI c2 :: vU :: vU :: vU :: vU :: vU :: vU :: vU :: vU :: vU :: vU :: vU :: vU :: vU :: vU :: vU :: vU :: [])) at_1098 (leb rfl) rfl ?_
  refine WP.aloadN at_1100 rfl ?_
  refine WP.iload at_1101 rfl ?_
  obtain ⟨c3, hc3, h⟩ := bd h
  refine WP.callV (i := 1) (y := y8) (as := [.int v13]) (S := []) at_1103 (hw _ m_80) (hw _ m_81) (hw _ m_83) (hw _ m_82) (hw _ m_84) (hw _ m_6) hy8 rfl (CS.frame (ro := 1) (H := ([cI a] ++ Hb 1 s0)) (as := [.ref 1, .int v13]) fr2_f (ok8 l Z a0 hw v13 s0 _ hc3) rfl (by decide) (fr2_l a s0) (fr2_c a s0) (by decide) rfl) rfl (lenOf pd8 rfl) (leb rfl) (leb rfl) (leb rfl) (leb rfl) ?_
  rintro _ _ ⟨_, _, ⟨rfl, rfl⟩, rfl, rfl⟩
  rw [fr2_p a s0 s0]
  show WLAW l Z n0 (PLAW r) 12 278 1106 (vR 0 :: vI v1 :: vI v2 :: vR 1 :: vI v4 :: vI v5 :: vI v6 :: vI v7 :: vI v8 :: vI v9 :: vI v10 :: vU :: vI v12 :: vI v13 :: vI c2 :: vU :: vU :: vU :: vU :: vU :: vU :: vU :: vU :: vU :: vU :: vU :: vU :: vU :: vU :: vU :: vU :: []) [.int c3] ([cI a] ++ Hb 1 s0)
  refine WP.i2l at_1106 ?_
  obtain ⟨x4, ex4, h⟩ := lt_e h
  refine WP.lstore (L' := (vR 0 :: vI v1 :: vI v2 :: vR 1 :: vI v4 :: vI v5 :: vI v6 :: vI v7 :: vI v8 :: vI v9 :: vI v10 :: vU :: vI v12 :: vI v13 :: vI c2 :: vJ x4 :: vS :: vU :: vU :: vU :: vU :: vU :: vU :: vU :: vU :: vU :: vU :: vU :: vU :: vU :: vU :: [])) at_1107 (leb rfl) (by subst ex4; rfl) ?_
  refine WP.iload at_1109 rfl ?_
  obtain ⟨c5, hc5, h⟩ := bd h
  refine WP.callS (y := y3) (as := [.int c2]) (S := []) at_1111 (hw _ m_59) (hw _ m_60) (hw _ m_2) (hw _ m_61) hy3 (CS.frame (ro := 1) (H := ([cI a] ++ Hb 1 s0)) (as := [.int c2]) fr1_f (ok3 l Z a0 hw c2 _ hc5) rfl (by decide) (fr1_l a s0) (fr1_c a s0) (by decide) rfl) rfl (lenOf pd3 rfl) (leb rfl) (leb rfl) (leb rfl) (leb rfl) ?_
  rintro _ _ ⟨_, _, ⟨rfl, rfl⟩, rfl, rfl⟩
  rw [fr1_p a s0]
  show WLAW l Z n0 (PLAW r) 12 278 1114 (vR 0 :: vI v1 :: vI v2 :: vR 1 :: vI v4 :: vI v5 :: vI v6 :: vI v7 :: vI v8 :: vI v9 :: vI v10 :: vU :: vI v12 :: vI v13 :: vI c2 :: vJ x4 :: vS :: vU :: vU :: vU :: vU :: vU :: vU :: vU :: vU :: vU :: vU :: vU :: vU :: vU :: vU :: []) [.int c5] ([cI a] ++ Hb 1 s0)
  obtain ⟨c6, hc6, h⟩ := bd h
  refine WP.callS (y := y10) (as := [.int c5]) (S := []) at_1114 (hw _ m_89) (hw _ m_90) (hw _ m_2) (hw _ m_91) hy10 (CS.frame (ro := 1) (H := ([cI a] ++ Hb 1 s0)) (as := [.int c5]) fr1_f (ok10 l Z a0 hw n c5 _ hc6) rfl (by decide) (fr1_l a s0) (fr1_c a s0) (by decide) rfl) rfl (lenOf pd10 rfl) (leb rfl) (leb rfl) (leb rfl) (leb rfl) ?_
  rintro _ _ ⟨_, _, ⟨rfl, rfl⟩, rfl, rfl⟩
  rw [fr1_p a s0]
  show WLAW l Z n0 (PLAW r) 12 278 1117 (vR 0 :: vI v1 :: vI v2 :: vR 1 :: vI v4 :: vI v5 :: vI v6 :: vI v7 :: vI v8 :: vI v9 :: vI v10 :: vU :: vI v12 :: vI v13 :: vI c2 :: vJ x4 :: vS :: vU :: vU :: vU :: vU :: vU :: vU :: vU :: vU :: vU :: vU :: vU :: vU :: vU :: vU :: []) [.long c6] ([cI a] ++ Hb 1 s0)
  refine WP.lconst (1 : Int64) at_1117 rfl ?_
  refine WP.lsub at_1118 ?_
  obtain ⟨x7, ex7, h⟩ := lt_e h
  refine WP.lstore (L' := (vR 0 :: vI v1 :: vI v2 :: vR 1 :: vI v4 :: vI v5 :: vI v6 :: vI v7 :: vI v8 :: vI v9 :: vI v10 :: vU :: vI v12 :: vI v13 :: vI c2 :: vJ x4 :: vS :: vJ x7 :: vS :: vU :: vU :: vU :: vU :: vU :: vU :: vU :: vU :: vU :: vU :: vU :: vU :: [])) at_1119 (leb rfl) (by subst ex7; rfl) ?_
  refine WP.lload at_1121 rfl ?_
  refine WP.lload at_1123 rfl ?_
  refine WP.lcmp at_1125 ?_
  rcases ite_e h with ⟨hc8, h⟩ | ⟨hc8, h⟩
  ·
   refine WP.ifY (pc' := 1138) at_1126 (XT.ll_gt_t hc8) (by decide) rfl ?_
   exact WP.weak (L' := (vU :: vU :: vU :: vU :: vU :: vU :: vU :: vU :: vU :: vU :: vU :: vU :: vU :: vU :: vU :: vU :: vU :: vU :: vU :: vU :: vU :: vU :: vU :: vU :: vU :: vU :: vU :: vU :: vU :: vU :: vU :: [])) trivial (okLAW_1138 l Z a0 hw n0 n a s0 _ h)
  ·
   refine WP.ifN at_1126 (XT.ll_gt_f hc8) ?_
   refine WP.lload at_1129 rfl ?_
   refine WP.lload at_1131 rfl ?_
   refine WP.lneg at_1133 ?_
   refine WP.lcmp at_1134 ?_
   rcases ite_e h with ⟨hc9, h⟩ | ⟨hc9, h⟩
   ·
    refine WP.ifN at_1135 (XT.ll_ge_f hc9) ?_
    exact WP.weak (L' := (vU :: vU :: vU :: vU :: vU :: vU :: vU :: vU :: vU :: vU :: vU :: vU :: vU :: vU :: vU :: vU :: vU :: vU :: vU :: vU :: vU :: vU :: vU :: vU :: vU :: vU :: vU :: vU :: vU :: vU :: vU :: [])) trivial (okLAW_1138 l Z a0 hw n0 n a s0 _ h)
   ·
    refine WP.ifY (pc' := 1140) at_1135 (XT.ll_ge_t hc9) (by decide) rfl ?_
    refine WP.iload at_1140 rfl ?_
    obtain ⟨c10, hc10, h⟩ := bd h
    refine WP.callS (y := y5) (as := [.int c2]) (S := []) at_1142 (hw _ m_66) (hw _ m_67) (hw _ m_2) (hw _ m_68) hy5 (CS.frame (ro := 1) (H := ([cI a] ++ Hb 1 s0)) (as := [.int c2]) fr1_f (ok5 l Z a0 hw c2 _ hc10) rfl (by decide) (fr1_l a s0) (fr1_c a s0) (by decide) rfl) rfl (lenOf pd5 rfl) (leb rfl) (leb rfl) (leb rfl) (leb rfl) ?_
    rintro _ _ ⟨_, _, ⟨rfl, rfl⟩, rfl, rfl⟩
    rw [fr1_p a s0]
    show WLAW l Z n0 (PLAW r) 12 278 1145 (vR 0 :: vI v1 :: vI v2 :: vR 1 :: vI v4 :: vI v5 :: vI v6 :: vI v7 :: vI v8 :: vI v9 :: vI v10 :: vU :: vI v12 :: vI v13 :: vI c2 :: vJ x4 :: vS :: vJ x7 :: vS :: vU :: vU :: vU :: vU :: vU :: vU :: vU :: vU :: vU :: vU :: vU :: vU :: []) [.int c10] ([cI a] ++ Hb 1 s0)
    rcases ite_e h with ⟨hc11, h⟩ | ⟨hc11, h⟩
    ·
     refine WP.ifN at_1145 (XT.i0_ne_f hc11) ?_
     refine WP.lload at_1148 rfl ?_
     refine WP.lconst (0 : Int64) at_1150 rfl ?_
     refine WP.lcmp at_1151 ?_
     rcases ite_e h with ⟨hc12, h⟩ | ⟨hc12, h⟩
     ·
      refine WP.ifN at_1152 (XT.ll_ge_f hc12) ?_
      refine WP.iconst (0 : Int32) at_1155 rfl ?_
      cases h
      exact WP.zreturn at_1156 rfl (leb rfl) (leb rfl) rfl
     ·
      refine WP.ifY (pc' := 1157) at_1152 (XT.ll_ge_t hc12) (by decide) rfl ?_
      exact WP.weak (L' := (vR 0 :: vI v1 :: vI v2 :: vR 1 :: vI v4 :: vI v5 :: vI v6 :: vI v7 :: vI v8 :: vI v9 :: vI v10 :: vU :: vI v12 :: vI v13 :: vU :: vU :: vU :: vU :: vU :: vU :: vU :: vU :: vU :: vU :: vU :: vU :: vU :: vU :: vU :: vU :: vU :: [])) ⟨rfl, rfl, rfl, rfl, rfl, rfl, rfl, rfl, rfl, rfl, rfl, rfl, rfl, trivial⟩ (okLAW_1157 l Z a0 hw n0 _ hk56 _ hk1083 n v1 v2 v4 v5 v6 v7 v8 v9 v10 v12 v13 a s0 _ h)
    ·
     refine WP.ifY (pc' := 1157) at_1145 (XT.i0_ne_t hc11) (by decide) rfl ?_
     exact WP.weak (L' := (vR 0 :: vI v1 :: vI v2 :: vR 1 :: vI v4 :: vI v5 :: vI v6 :: vI v7 :: vI v8 :: vI v9 :: vI v10 :: vU :: vI v12 :: vI v13 :: vU :: vU :: vU :: vU :: vU :: vU :: vU :: vU :: vU :: vU :: vU :: vU :: vU :: vU :: vU :: vU :: vU :: [])) ⟨rfl, rfl, rfl, rfl, rfl, rfl, rfl, rfl, rfl, rfl, rfl, rfl, rfl, trivial⟩ (okLAW_1157 l Z a0 hw n0 _ hk56 _ hk1083 n v1 v2 v4 v5 v6 v7 v8 v9 v10 v12 v13 a s0 _ h)
 ·
  refine WP.icmpY (pc' := 1163) at_1087 (XT.ii_ge_t hc1) (by decide) rfl ?_
  exact WP.weak (L' := (vR 0 :: vI v1 :: vI v2 :: vR 1 :: vI v4 :: vI v5 :: vI v6 :: vI v7 :: vI v8 :: vI v9 :: vI v10 :: vU :: vU :: vU :: vU :: vU :: vU :: vU :: vU :: vU :: vU :: vU :: vU :: vU :: vU :: vU :: vU :: vU :: vU :: vU :: vU :: [])) ⟨rfl, rfl, rfl, rfl, rfl, rfl, rfl, rfl, rfl, rfl, rfl, trivial⟩ (okLAW_1163 l Z a0 hw n0 _ hk56 n v1 v2 v4 v5 v6 v7 v8 v9 v10 a s0 _ h)
def f_law_1083 (k56 : KT0) : Nat → Int32 → Int32 → Int32 → Int32 → Int32 → Int32 → Int32 → Int32 → Int32 → Int32 → Int32 → List Int32 → St → Option (Int32)
 | 0 => fun _ _ _ _ _ _ _ _ _ _ _ _ _ => none
 | n + 1 => g_law_1083 k56 (f_law_1083 k56 n) n
theorem okLAW_1083 (l : Launch) (Z : State) (a0 : Array Value) (hw : HW a0 Z) (n0 : Nat) (k56 : KT0) (hk56 : HKLAW_56 l Z n0 k56) : ∀ (n : Nat) (v1 v2 v4 v5 v6 v7 v8 v9 v10 v12 v13 : Int32) (a : List Int32) (s0 : St) (r : Int32), f_law_1083 k56 n v1 v2 v4 v5 v6 v7 v8 v9 v10 v12 v13 a s0 = some r → WLAW l Z n0 (PLAW r) 12 278 1083 (vR 0 :: vI v1 :: vI v2 :: vR 1 :: vI v4 :: vI v5 :: vI v6 :: vI v7 :: vI v8 :: vI v9 :: vI v10 :: vU :: vI v12 :: vI v13 :: vU :: vU :: vU :: vU :: vU :: vU :: vU :: vU :: vU :: vU :: vU :: vU :: vU :: vU :: vU :: vU :: vU :: []) [] ([cI a] ++ Hb 1 s0)
 | 0, v1, v2, v4, v5, v6, v7, v8, v9, v10, v12, v13, a, s0, r, h => nomatch (show none = some r from h)
 | n + 1, v1, v2, v4, v5, v6, v7, v8, v9, v10, v12, v13, a, s0, r, h => okgLAW_1083 l Z a0 hw n0 _ hk56 _ (okLAW_1083 l Z a0 hw n0 k56 hk56 n) n v1 v2 v4 v5 v6 v7 v8 v9 v10 v12 v13 a s0 r h
def f_law_1078 (k56 : KT0) (n : Nat) (v1 v2 v4 v5 v6 v7 v8 v9 v10 t0 : Int32) (a : List Int32) (s0 : St) : Option (Int32) :=
 f_law_1083 k56 n v1 v2 v4 v5 v6 v7 v8 v9 v10 t0 (0 : Int32) a s0
theorem okLAW_1078 (l : Launch) (Z : State) (a0 : Array Value) (hw : HW a0 Z) (n0 : Nat) (k56 : KT0) (hk56 : HKLAW_56 l Z n0 k56) (n : Nat) (v1 v2 v4 v5 v6 v7 v8 v9 v10 t0 : Int32) (a : List Int32) (s0 : St) (r : Int32) (h : f_law_1078 k56 n v1 v2 v4 v5 v6 v7 v8 v9 v10 t0 a s0 = some r) : WLAW l Z n0 (PLAW r) 12 278 1078 (vR 0 :: vI v1 :: vI v2 :: vR 1 :: vI v4 :: vI v5 :: vI v6 :: vI v7 :: vI v8 :: vI v9 :: vI v10 :: vU :: vU :: vU :: vU :: vU :: vU :: vU :: vU :: vU :: vU :: vU :: vU :: vU :: vU :: vU :: vU :: vU :: vU :: vU :: vU :: []) [.int t0] ([cI a] ++ Hb 1 s0) := by
 unfold f_law_1078 at h
 refine WP.istore (L' := (vR 0 :: vI v1 :: vI v2 :: vR 1 :: vI v4 :: vI v5 :: vI v6 :: vI v7 :: vI v8 :: vI v9 :: vI v10 :: vU :: vI t0 :: vU :: vU :: vU :: vU :: vU :: vU :: vU :: vU :: vU :: vU :: vU :: vU :: vU :: vU :: vU :: vU :: vU :: vU :: [])) at_1078 (leb rfl) rfl ?_
 refine WP.iconst (0 : Int32) at_1080 rfl ?_
 refine WP.istore (L' := (vR 0 :: vI v1 :: vI v2 :: vR 1 :: vI v4 :: vI v5 :: vI v6 :: vI v7 :: vI v8 :: vI v9 :: vI v10 :: vU :: vI t0 :: vI (0 : Int32) :: vU :: vU :: vU :: vU :: vU :: vU :: vU :: vU :: vU :: vU :: vU :: vU :: vU :: vU :: vU :: vU :: vU :: [])) at_1081 (leb rfl) rfl ?_
 exact WP.weak (L' := (vR 0 :: vI v1 :: vI v2 :: vR 1 :: vI v4 :: vI v5 :: vI v6 :: vI v7 :: vI v8 :: vI v9 :: vI v10 :: vU :: vI t0 :: vI (0 : Int32) :: vU :: vU :: vU :: vU :: vU :: vU :: vU :: vU :: vU :: vU :: vU :: vU :: vU :: vU :: vU :: vU :: vU :: [])) ⟨rfl, rfl, rfl, rfl, rfl, rfl, rfl, rfl, rfl, rfl, rfl, rfl, rfl, trivial⟩ (okLAW_1083 l Z a0 hw n0 _ hk56 n v1 v2 v4 v5 v6 v7 v8 v9 v10 t0 (0 : Int32) a s0 _ h)
def f_law_1058 (k56 : KT0) (n : Nat) (v1 v2 v4 v5 v6 v7 v8 v9 v10 : Int32) (a : List Int32) (s0 : St) : Option (Int32) :=
 (f_getFieldCount s0).bind fun c1 =>
 if c1 < v6 then
  f_law_1078 k56 n v1 v2 v4 v5 v6 v7 v8 v9 v10 c1 a s0
 else
  f_law_1078 k56 n v1 v2 v4 v5 v6 v7 v8 v9 v10 v6 a s0
theorem okLAW_1058 (l : Launch) (Z : State) (a0 : Array Value) (hw : HW a0 Z) (n0 : Nat) (k56 : KT0) (hk56 : HKLAW_56 l Z n0 k56) (n : Nat) (v1 v2 v4 v5 v6 v7 v8 v9 v10 : Int32) (a : List Int32) (s0 : St) (r : Int32) (h : f_law_1058 k56 n v1 v2 v4 v5 v6 v7 v8 v9 v10 a s0 = some r) : WLAW l Z n0 (PLAW r) 12 278 1058 (vR 0 :: vI v1 :: vI v2 :: vR 1 :: vI v4 :: vI v5 :: vI v6 :: vI v7 :: vI v8 :: vI v9 :: vI v10 :: vU :: vU :: vU :: vU :: vU :: vU :: vU :: vU :: vU :: vU :: vU :: vU :: vU :: vU :: vU :: vU :: vU :: vU :: vU :: vU :: []) [] ([cI a] ++ Hb 1 s0) := by
 unfold f_law_1058 at h
 refine WP.aloadN at_1058 rfl ?_
 obtain ⟨c1, hc1, h⟩ := bd h
 refine WP.callV (i := 1) (y := y7) (as := []) (S := []) at_1059 (hw _ m_75) (hw _ m_76) (hw _ m_78) (hw _ m_77) (hw _ m_79) (hw _ m_6) hy7 rfl (CS.frame (ro := 1) (H := ([cI a] ++ Hb 1 s0)) (as := [.ref 1]) fr2_f (ok7 l Z a0 hw s0 _ hc1) rfl (by decide) (fr2_l a s0) (fr2_c a s0) (by decide) rfl) rfl (lenOf pd7 rfl) (leb rfl) (leb rfl) (leb rfl) (leb rfl) ?_
 rintro _ _ ⟨_, _, ⟨rfl, rfl⟩, rfl, rfl⟩
 rw [fr2_p a s0 s0]
 show WLAW l Z n0 (PLAW r) 12 278 1062 (vR 0 :: vI v1 :: vI v2 :: vR 1 :: vI v4 :: vI v5 :: vI v6 :: vI v7 :: vI v8 :: vI v9 :: vI v10 :: vU :: vU :: vU :: vU :: vU :: vU :: vU :: vU :: vU :: vU :: vU :: vU :: vU :: vU :: vU :: vU :: vU :: vU :: vU :: vU :: []) [.int c1] ([cI a] ++ Hb 1 s0)
 refine WP.istore (L' := (vR 0 :: vI v1 :: vI v2 :: vR 1 :: vI v4 :: vI v5 :: vI v6 :: vI v7 :: vI v8 :: vI v9 :: vI v10 :: vI c1 :: vU :: vU :: vU :: vU :: vU :: vU :: vU :: vU :: vU :: vU :: vU :: vU :: vU :: vU :: vU :: vU :: vU :: vU :: vU :: [])) at_1062 (leb rfl) rfl ?_
 refine WP.iload at_1064 rfl ?_
 refine WP.iload at_1066 rfl ?_
 rcases ite_e h with ⟨hc2, h⟩ | ⟨hc2, h⟩
 ·
  refine WP.icmpN at_1068 (XT.ii_ge_f hc2) ?_
  refine WP.iload at_1071 rfl ?_
  refine WP.goto (pc' := 1078) at_1073 (by decide) rfl ?_
  exact WP.weak (L' := (vR 0 :: vI v1 :: vI v2 :: vR 1 :: vI v4 :: vI v5 :: vI v6 :: vI v7 :: vI v8 :: vI v9 :: vI v10 :: vU :: vU :: vU :: vU :: vU :: vU :: vU :: vU :: vU :: vU :: vU :: vU :: vU :: vU :: vU :: vU :: vU :: vU :: vU :: vU :: [])) ⟨rfl, rfl, rfl, rfl, rfl, rfl, rfl, rfl, rfl, rfl, rfl, trivial⟩ (okLAW_1078 l Z a0 hw n0 _ hk56 n v1 v2 v4 v5 v6 v7 v8 v9 v10 c1 a s0 _ h)
 ·
  refine WP.icmpY (pc' := 1076) at_1068 (XT.ii_ge_t hc2) (by decide) rfl ?_
  refine WP.iload at_1076 rfl ?_
  exact WP.weak (L' := (vR 0 :: vI v1 :: vI v2 :: vR 1 :: vI v4 :: vI v5 :: vI v6 :: vI v7 :: vI v8 :: vI v9 :: vI v10 :: vU :: vU :: vU :: vU :: vU :: vU :: vU :: vU :: vU :: vU :: vU :: vU :: vU :: vU :: vU :: vU :: vU :: vU :: vU :: vU :: [])) ⟨rfl, rfl, rfl, rfl, rfl, rfl, rfl, rfl, rfl, rfl, rfl, trivial⟩ (okLAW_1078 l Z a0 hw n0 _ hk56 n v1 v2 v4 v5 v6 v7 v8 v9 v10 v6 a s0 _ h)
def f_law_155 (k56 : KT0) (n : Nat) (v1 v2 v4 v5 v6 v7 v8 v9 v10 : Int32) (a : List Int32) (s0 : St) : Option (Int32) :=
 f_law_1058 k56 n v1 v2 v4 v5 v6 v7 v8 v9 v10 a s0
theorem okLAW_155 (l : Launch) (Z : State) (a0 : Array Value) (hw : HW a0 Z) (n0 : Nat) (k56 : KT0) (hk56 : HKLAW_56 l Z n0 k56) (n : Nat) (v1 v2 v4 v5 v6 v7 v8 v9 v10 : Int32) (a : List Int32) (s0 : St) (r : Int32) (h : f_law_155 k56 n v1 v2 v4 v5 v6 v7 v8 v9 v10 a s0 = some r) : WLAW l Z n0 (PLAW r) 12 278 155 (vR 0 :: vI v1 :: vI v2 :: vR 1 :: vI v4 :: vI v5 :: vI v6 :: vI v7 :: vI v8 :: vI v9 :: vI v10 :: vU :: vU :: vU :: vU :: vU :: vU :: vU :: vU :: vU :: vU :: vU :: vU :: vU :: vU :: vU :: vU :: vU :: vU :: vU :: vU :: []) [] ([cI a] ++ Hb 1 s0) := by
 unfold f_law_155 at h
 refine WP.goto (pc' := 1058) at_155 (by decide) rfl ?_
 exact WP.weak (L' := (vR 0 :: vI v1 :: vI v2 :: vR 1 :: vI v4 :: vI v5 :: vI v6 :: vI v7 :: vI v8 :: vI v9 :: vI v10 :: vU :: vU :: vU :: vU :: vU :: vU :: vU :: vU :: vU :: vU :: vU :: vU :: vU :: vU :: vU :: vU :: vU :: vU :: vU :: vU :: [])) ⟨rfl, rfl, rfl, rfl, rfl, rfl, rfl, rfl, rfl, rfl, rfl, trivial⟩ (okLAW_1058 l Z a0 hw n0 _ hk56 n v1 v2 v4 v5 v6 v7 v8 v9 v10 a s0 _ h)
def f_law_136 (k56 : KT0) (n : Nat) (v1 v2 v4 v5 v6 v7 v8 v9 v10 : Int32) (a : List Int32) (s0 : St) : Option (Int32) :=
 if v5 < v1 then
  f_law_155 k56 n v1 v2 v4 v5 v6 v7 v8 v9 v10 a s0
 else
  if v6 = 0 then
   some (1 : Int32)
  else
   f_law_155 k56 n v1 v2 (1 : Int32) (0 : Int32) v6 v7 v8 v9 v10 a s0
theorem okLAW_136 (l : Launch) (Z : State) (a0 : Array Value) (hw : HW a0 Z) (n0 : Nat) (k56 : KT0) (hk56 : HKLAW_56 l Z n0 k56) (n : Nat) (v1 v2 v4 v5 v6 v7 v8 v9 v10 : Int32) (a : List Int32) (s0 : St) (r : Int32) (h : f_law_136 k56 n v1 v2 v4 v5 v6 v7 v8 v9 v10 a s0 = some r) : WLAW l Z n0 (PLAW r) 12 278 136 (vR 0 :: vI v1 :: vI v2 :: vR 1 :: vI v4 :: vI v5 :: vI v6 :: vI v7 :: vI v8 :: vI v9 :: vI v10 :: vU :: vU :: vU :: vU :: vU :: vU :: vU :: vU :: vU :: vU :: vU :: vU :: vU :: vU :: vU :: vU :: vU :: vU :: vU :: vU :: []) [] ([cI a] ++ Hb 1 s0) := by
 unfold f_law_136 at h
 refine WP.iload at_136 rfl ?_
 refine WP.iloadN at_138 rfl ?_
 rcases ite_e h with ⟨hc1, h⟩ | ⟨hc1, h⟩
 ·
  refine WP.icmpY (pc' := 155) at_139 (XT.ii_lt_t hc1) (by decide) rfl ?_
  exact WP.weak (L' := (vR 0 :: vI v1 :: vI v2 :: vR 1 :: vI v4 :: vI v5 :: vI v6 :: vI v7 :: vI v8 :: vI v9 :: vI v10 :: vU :: vU :: vU :: vU :: vU :: vU :: vU :: vU :: vU :: vU :: vU :: vU :: vU :: vU :: vU :: vU :: vU :: vU :: vU :: vU :: [])) ⟨rfl, rfl, rfl, rfl, rfl, rfl, rfl, rfl, rfl, rfl, rfl, trivial⟩ (okLAW_155 l Z a0 hw n0 _ hk56 n v1 v2 v4 v5 v6 v7 v8 v9 v10 a s0 _ h)
 ·
  refine WP.icmpN at_139 (XT.ii_lt_f hc1) ?_
  refine WP.iload at_142 rfl ?_
  rcases ite_e h with ⟨hc2, h⟩ | ⟨hc2, h⟩
  ·
   refine WP.ifN at_144 (XT.i0_ne_f hc2) ?_
   refine WP.iconst (1 : Int32) at_147 rfl ?_
   cases h
   exact WP.zreturn at_148 rfl (leb rfl) (leb rfl) rfl
  ·
   refine WP.ifY (pc' := 149) at_144 (XT.i0_ne_t hc2) (by decide) rfl ?_
   refine WP.iconst (1 : Int32) at_149 rfl ?_
   refine WP.istore (L' := (vR 0 :: vI v1 :: vI v2 :: vR 1 :: vI (1 : Int32) :: vI v5 :: vI v6 :: vI v7 :: vI v8 :: vI v9 :: vI v10 :: vU :: vU :: vU :: vU :: vU :: vU :: vU :: vU :: vU :: vU :: vU :: vU :: vU :: vU :: vU :: vU :: vU :: vU :: vU :: vU :: [])) at_150 (leb rfl) rfl ?_
   refine WP.iconst (0 : Int32) at_152 rfl ?_
   refine WP.istore (L' := (vR 0 :: vI v1 :: vI v2 :: vR 1 :: vI (1 : Int32) :: vI (0 : Int32) :: vI v6 :: vI v7 :: vI v8 :: vI v9 :: vI v10 :: vU :: vU :: vU :: vU :: vU :: vU :: vU :: vU :: vU :: vU :: vU :: vU :: vU :: vU :: vU :: vU :: vU :: vU :: vU :: vU :: [])) at_153 (leb rfl) rfl ?_
   exact WP.weak (L' := (vR 0 :: vI v1 :: vI v2 :: vR 1 :: vI (1 : Int32) :: vI (0 : Int32) :: vI v6 :: vI v7 :: vI v8 :: vI v9 :: vI v10 :: vU :: vU :: vU :: vU :: vU :: vU :: vU :: vU :: vU :: vU :: vU :: vU :: vU :: vU :: vU :: vU :: vU :: vU :: vU :: vU :: [])) ⟨rfl, rfl, rfl, rfl, rfl, rfl, rfl, rfl, rfl, rfl, rfl, trivial⟩ (okLAW_155 l Z a0 hw n0 _ hk56 n v1 v2 (1 : Int32) (0 : Int32) v6 v7 v8 v9 v10 a s0 _ h)
def f_law_286 (k56 : KT0) (n : Nat) (v1 v2 v4 v5 v6 v7 v8 v9 v10 : Int32) (a : List Int32) (s0 : St) : Option (Int32) :=
 f_law_1058 k56 n v1 v2 v4 v5 v6 v7 v8 v9 v10 a s0
theorem okLAW_286 (l : Launch) (Z : State) (a0 : Array Value) (hw : HW a0 Z) (n0 : Nat) (k56 : KT0) (hk56 : HKLAW_56 l Z n0 k56) (n : Nat) (v1 v2 v4 v5 v6 v7 v8 v9 v10 : Int32) (a : List Int32) (s0 : St) (r : Int32) (h : f_law_286 k56 n v1 v2 v4 v5 v6 v7 v8 v9 v10 a s0 = some r) : WLAW l Z n0 (PLAW r) 12 278 286 (vR 0 :: vI v1 :: vI v2 :: vR 1 :: vI v4 :: vI v5 :: vI v6 :: vI v7 :: vI v8 :: vI v9 :: vI v10 :: vU :: vU :: vU :: vU :: vU :: vU :: vU :: vU :: vU :: vU :: vU :: vU :: vU :: vU :: vU :: vU :: vU :: vU :: vU :: vU :: []) [] ([cI a] ++ Hb 1 s0) := by
 unfold f_law_286 at h
 refine WP.goto (pc' := 1058) at_286 (by decide) rfl ?_
 exact WP.weak (L' := (vR 0 :: vI v1 :: vI v2 :: vR 1 :: vI v4 :: vI v5 :: vI v6 :: vI v7 :: vI v8 :: vI v9 :: vI v10 :: vU :: vU :: vU :: vU :: vU :: vU :: vU :: vU :: vU :: vU :: vU :: vU :: vU :: vU :: vU :: vU :: vU :: vU :: vU :: vU :: [])) ⟨rfl, rfl, rfl, rfl, rfl, rfl, rfl, rfl, rfl, rfl, rfl, trivial⟩ (okLAW_1058 l Z a0 hw n0 _ hk56 n v1 v2 v4 v5 v6 v7 v8 v9 v10 a s0 _ h)
def f_law_268 (k56 : KT0) (n : Nat) (v1 v2 v4 v5 v6 v7 v8 v9 v10 : Int32) (a : List Int32) (s0 : St) : Option (Int32) :=
 lt (v5 + (1 : Int32)) fun x1 =>
 if x1 < ((2 : Int32) * v6) then
  f_law_286 k56 n v1 v2 v4 x1 v6 v7 v8 v9 v10 a s0
 else
  f_law_286 k56 n v1 v2 (2 : Int32) (0 : Int32) v6 v7 v8 v9 v10 a s0
theorem okLAW_268 (l : Launch) (Z : State) (a0 : Array Value) (hw : HW a0 Z) (n0 : Nat) (k56 : KT0) (hk56 : HKLAW_56 l Z n0 k56) (n : Nat) (v1 v2 v4 v5 v6 v7 v8 v9 v10 : Int32) (a : List Int32) (s0 : St) (r : Int32) (h : f_law_268 k56 n v1 v2 v4 v5 v6 v7 v8 v9 v10 a s0 = some r) : WLAW l Z n0 (PLAW r) 12 278 268 (vR 0 :: vI v1 :: vI v2 :: vR 1 :: vI v4 :: vI v5 :: vI v6 :: vI v7 :: vI v8 :: vI v9 :: vI v10 :: vU :: vU :: vU :: vU :: vU :: vU :: vU :: vU :: vU :: vU :: vU :: vU :: vU :: vU :: vU :: vU :: vU :: vU :: vU :: vU :: []) [] ([cI a] ++ Hb 1 s0) := by
 unfold f_law_268 at h
 obtain ⟨x1, ex1, h⟩ := lt_e h
 refine WP.iinc (L' := (vR 0 :: vI v1 :: vI v2 :: vR 1 :: vI v4 :: vI x1 :: vI v6 :: vI v7 :: vI v8 :: vI v9 :: vI v10 :: vU :: vU :: vU :: vU :: vU :: vU :: vU :: vU :: vU :: vU :: vU :: vU :: vU :: vU :: vU :: vU :: vU :: vU :: vU :: vU :: [])) (1 : Int32) at_268 rfl rfl (by subst ex1; rfl) ?_
 refine WP.iload at_271 rfl ?_
 refine WP.iconst (2 : Int32) at_273 rfl ?_
 refine WP.iload at_274 rfl ?_
 refine WP.imul at_276 ?_
 rcases ite_e h with ⟨hc2, h⟩ | ⟨hc2, h⟩
 ·
  refine WP.icmpY (pc' := 286) at_277 (XT.ii_lt_t hc2) (by decide) rfl ?_
  exact WP.weak (L' := (vR 0 :: vI v1 :: vI v2 :: vR 1 :: vI v4 :: vI x1 :: vI v6 :: vI v7 :: vI v8 :: vI v9 :: vI v10 :: vU :: vU :: vU :: vU :: vU :: vU :: vU :: vU :: vU :: vU :: vU :: vU :: vU :: vU :: vU :: vU :: vU :: vU :: vU :: vU :: [])) ⟨rfl, rfl, rfl, rfl, rfl, rfl, rfl, rfl, rfl, rfl, rfl, trivial⟩ (okLAW_286 l Z a0 hw n0 _ hk56 n v1 v2 v4 x1 v6 v7 v8 v9 v10 a s0 _ h)
 ·
  refine WP.icmpN at_277 (XT.ii_lt_f hc2) ?_
  refine WP.iconst (2 : Int32) at_280 rfl ?_
  refine WP.istore (L' := (vR 0 :: vI v1 :: vI v2 :: vR 1 :: vI (2 : Int32) :: vI x1 :: vI v6 :: vI v7 :: vI v8 :: vI v9 :: vI v10 :: vU :: vU :: vU :: vU :: vU :: vU :: vU :: vU :: vU :: vU :: vU :: vU :: vU :: vU :: vU :: vU :: vU :: vU :: vU :: vU :: [])) at_281 (leb rfl) rfl ?_
  refine WP.iconst (0 : Int32) at_283 rfl ?_
  refine WP.istore (L' := (vR 0 :: vI v1 :: vI v2 :: vR 1 :: vI (2 : Int32) :: vI (0 : Int32) :: vI v6 :: vI v7 :: vI v8 :: vI v9 :: vI v10 :: vU :: vU :: vU :: vU :: vU :: vU :: vU :: vU :: vU :: vU :: vU :: vU :: vU :: vU :: vU :: vU :: vU :: vU :: vU :: vU :: [])) at_284 (leb rfl) rfl ?_
  exact WP.weak (L' := (vR 0 :: vI v1 :: vI v2 :: vR 1 :: vI (2 : Int32) :: vI (0 : Int32) :: vI v6 :: vI v7 :: vI v8 :: vI v9 :: vI v10 :: vU :: vU :: vU :: vU :: vU :: vU :: vU :: vU :: vU :: vU :: vU :: vU :: vU :: vU :: vU :: vU :: vU :: vU :: vU :: vU :: [])) ⟨rfl, rfl, rfl, rfl, rfl, rfl, rfl, rfl, rfl, rfl, rfl, trivial⟩ (okLAW_286 l Z a0 hw n0 _ hk56 n v1 v2 (2 : Int32) (0 : Int32) v6 v7 v8 v9 v10 a s0 _ h)
def f_law_259 (k56 : KT0) (n : Nat) (v1 v2 v4 v5 v6 v7 v8 v9 v10 v11 v14 : Int32) (a : List Int32) (s0 : St) : Option (Int32) :=
 (f_setValue n v11 v14 s0).bind fun c1 =>
 f_law_268 k56 n v1 v2 v4 v5 v6 v7 v8 v9 v10 a c1.2
theorem okLAW_259 (l : Launch) (Z : State) (a0 : Array Value) (hw : HW a0 Z) (n0 : Nat) (k56 : KT0) (hk56 : HKLAW_56 l Z n0 k56) (n : Nat) (v1 v2 v4 v5 v6 v7 v8 v9 v10 v11 v14 : Int32) (a : List Int32) (s0 : St) (r : Int32) (h : f_law_259 k56 n v1 v2 v4 v5 v6 v7 v8 v9 v10 v11 v14 a s0 = some r) : WLAW l Z n0 (PLAW r) 12 278 259 (vR 0 :: vI v1 :: vI v2 :: vR 1 :: vI v4 :: vI v5 :: vI v6 :: vI v7 :: vI v8 :: vI v9 :: vI v10 :: vI v11 :: vU :: vU :: vI v14 :: vU :: vU :: vU :: vU :: vU :: vU :: vU :: vU :: vU :: vU :: vU :: vU :: vU :: vU :: vU :: vU :: []) [] ([cI a] ++ Hb 1 s0) := by
 unfold f_law_259 at h
 refine WP.aloadN at_259 rfl ?_
 refine WP.iload at_260 rfl ?_
 refine WP.iload at_262 rfl ?_
 obtain ⟨c1, hc1, h⟩ := bd h
 refine WP.callV (i := 1) (y := y11) (as := [.int v11, .int v14]) (S := []) at_264 (hw _ m_93) (hw _ m_94) (hw _ m_96) (hw _ m_95) (hw _ m_97) (hw _ m_6) hy11 rfl (CS.frame (ro := 1) (H := ([cI a] ++ Hb 1 s0)) (as := [.ref 1, .int v11, .int v14]) fr2_f (ok11 l Z a0 hw n v11 v14 s0 _ hc1) rfl (by decide) (fr2_l a s0) (fr2_c a s0) (by decide) rfl) rfl (lenOf pd11 rfl) (leb rfl) (leb rfl) (leb rfl) (leb rfl) ?_
 rintro _ _ ⟨_, _, ⟨rfl, rfl⟩, rfl, rfl⟩
 rw [fr2_p a s0 c1.2]
 show WLAW l Z n0 (PLAW r) 12 278 267 (vR 0 :: vI v1 :: vI v2 :: vR 1 :: vI v4 :: vI v5 :: vI v6 :: vI v7 :: vI v8 :: vI v9 :: vI v10 :: vI v11 :: vU :: vU :: vI v14 :: vU :: vU :: vU :: vU :: vU :: vU :: vU :: vU :: vU :: vU :: vU :: vU :: vU :: vU :: vU :: vU :: []) [.int c1.1] ([cI a] ++ Hb 1 c1.2)
 refine WP.pop at_267 rfl ?_
 exact WP.weak (L' := (vR 0 :: vI v1 :: vI v2 :: vR 1 :: vI v4 :: vI v5 :: vI v6 :: vI v7 :: vI v8 :: vI v9 :: vI v10 :: vU :: vU :: vU :: vU :: vU :: vU :: vU :: vU :: vU :: vU :: vU :: vU :: vU :: vU :: vU :: vU :: vU :: vU :: vU :: vU :: [])) ⟨rfl, rfl, rfl, rfl, rfl, rfl, rfl, rfl, rfl, rfl, rfl, trivial⟩ (okLAW_268 l Z a0 hw n0 _ hk56 n v1 v2 v4 v5 v6 v7 v8 v9 v10 a c1.2 _ h)
def f_law_533 (k56 : KT0) (n : Nat) (v1 v2 v4 v5 v6 v7 v8 v9 v10 : Int32) (a : List Int32) (s0 : St) : Option (Int32) :=
 f_law_1058 k56 n v1 v2 v4 v5 v6 v7 v8 v9 v10 a s0
theorem okLAW_533 (l : Launch) (Z : State) (a0 : Array Value) (hw : HW a0 Z) (n0 : Nat) (k56 : KT0) (hk56 : HKLAW_56 l Z n0 k56) (n : Nat) (v1 v2 v4 v5 v6 v7 v8 v9 v10 : Int32) (a : List Int32) (s0 : St) (r : Int32) (h : f_law_533 k56 n v1 v2 v4 v5 v6 v7 v8 v9 v10 a s0 = some r) : WLAW l Z n0 (PLAW r) 12 278 533 (vR 0 :: vI v1 :: vI v2 :: vR 1 :: vI v4 :: vI v5 :: vI v6 :: vI v7 :: vI v8 :: vI v9 :: vI v10 :: vU :: vU :: vU :: vU :: vU :: vU :: vU :: vU :: vU :: vU :: vU :: vU :: vU :: vU :: vU :: vU :: vU :: vU :: vU :: vU :: []) [] ([cI a] ++ Hb 1 s0) := by
 unfold f_law_533 at h
 refine WP.goto (pc' := 1058) at_533 (by decide) rfl ?_
 exact WP.weak (L' := (vR 0 :: vI v1 :: vI v2 :: vR 1 :: vI v4 :: vI v5 :: vI v6 :: vI v7 :: vI v8 :: vI v9 :: vI v10 :: vU :: vU :: vU :: vU :: vU :: vU :: vU :: vU :: vU :: vU :: vU :: vU :: vU :: vU :: vU :: vU :: vU :: vU :: vU :: vU :: [])) ⟨rfl, rfl, rfl, rfl, rfl, rfl, rfl, rfl, rfl, rfl, rfl, trivial⟩ (okLAW_1058 l Z a0 hw n0 _ hk56 n v1 v2 v4 v5 v6 v7 v8 v9 v10 a s0 _ h)
def f_law_524 (k56 : KT0) (n : Nat) (v1 v2 v4 v5 v6 v7 v8 v9 v10 : Int32) (a : List Int32) (s0 : St) : Option (Int32) :=
 if v5 < v2 then
  f_law_533 k56 n v1 v2 v4 v5 v6 v7 v8 v9 v10 a s0
 else
  f_law_533 k56 n v1 v2 (3 : Int32) v5 v6 v7 v8 v9 v10 a s0
theorem okLAW_524 (l : Launch) (Z : State) (a0 : Array Value) (hw : HW a0 Z) (n0 : Nat) (k56 : KT0) (hk56 : HKLAW_56 l Z n0 k56) (n : Nat) (v1 v2 v4 v5 v6 v7 v8 v9 v10 : Int32) (a : List Int32) (s0 : St) (r : Int32) (h : f_law_524 k56 n v1 v2 v4 v5 v6 v7 v8 v9 v10 a s0 = some r) : WLAW l Z n0 (PLAW r) 12 278 524 (vR 0 :: vI v1 :: vI v2 :: vR 1 :: vI v4 :: vI v5 :: vI v6 :: vI v7 :: vI v8 :: vI v9 :: vI v10 :: vU :: vU :: vU :: vU :: vU :: vU :: vU :: vU :: vU :: vU :: vU :: vU :: vU :: vU :: vU :: vU :: vU :: vU :: vU :: vU :: []) [] ([cI a] ++ Hb 1 s0) := by
 unfold f_law_524 at h
 refine WP.iload at_524 rfl ?_
 refine WP.iloadN at_526 rfl ?_
 rcases ite_e h with ⟨hc1, h⟩ | ⟨hc1, h⟩
 ·
  refine WP.icmpY (pc' := 533) at_527 (XT.ii_lt_t hc1) (by decide) rfl ?_
  exact WP.weak (L' := (vR 0 :: vI v1 :: vI v2 :: vR 1 :: vI v4 :: vI v5 :: vI v6 :: vI v7 :: vI v8 :: vI v9 :: vI v10 :: vU :: vU :: vU :: vU :: vU :: vU :: vU :: vU :: vU :: vU :: vU :: vU :: vU :: vU :: vU :: vU :: vU :: vU :: vU :: vU :: [])) ⟨rfl, rfl, rfl, rfl, rfl, rfl, rfl, rfl, rfl, rfl, rfl, trivial⟩ (okLAW_533 l Z a0 hw n0 _ hk56 n v1 v2 v4 v5 v6 v7 v8 v9 v10 a s0 _ h)
 ·
  refine WP.icmpN at_527 (XT.ii_lt_f hc1) ?_
  refine WP.iconst (3 : Int32) at_530 rfl ?_
  refine WP.istore (L' := (vR 0 :: vI v1 :: vI v2 :: vR 1 :: vI (3 : Int32) :: vI v5 :: vI v6 :: vI v7 :: vI v8 :: vI v9 :: vI v10 :: vU :: vU :: vU :: vU :: vU :: vU :: vU :: vU :: vU :: vU :: vU :: vU :: vU :: vU :: vU :: vU :: vU :: vU :: vU :: vU :: [])) at_531 (leb rfl) rfl ?_
  exact WP.weak (L' := (vR 0 :: vI v1 :: vI v2 :: vR 1 :: vI (3 : Int32) :: vI v5 :: vI v6 :: vI v7 :: vI v8 :: vI v9 :: vI v10 :: vU :: vU :: vU :: vU :: vU :: vU :: vU :: vU :: vU :: vU :: vU :: vU :: vU :: vU :: vU :: vU :: vU :: vU :: vU :: vU :: [])) ⟨rfl, rfl, rfl, rfl, rfl, rfl, rfl, rfl, rfl, rfl, rfl, trivial⟩ (okLAW_533 l Z a0 hw n0 _ hk56 n v1 v2 (3 : Int32) v5 v6 v7 v8 v9 v10 a s0 _ h)
def f_law_367 (k56 : KT0) (n : Nat) (v1 v2 v4 v5 v6 v7 v8 v10 : Int32) (a : List Int32) (s0 : St) : Option (Int32) :=
 lt (v5 + (1 : Int32)) fun x1 =>
 f_law_524 k56 n v1 v2 v4 x1 v6 v7 v8 (0 : Int32) v10 a s0
theorem okLAW_367 (l : Launch) (Z : State) (a0 : Array Value) (hw : HW a0 Z) (n0 : Nat) (k56 : KT0) (hk56 : HKLAW_56 l Z n0 k56) (n : Nat) (v1 v2 v4 v5 v6 v7 v8 v10 : Int32) (a : List Int32) (s0 : St) (r : Int32) (h : f_law_367 k56 n v1 v2 v4 v5 v6 v7 v8 v10 a s0 = some r) : WLAW l Z n0 (PLAW r) 12 278 367 (vR 0 :: vI v1 :: vI v2 :: vR 1 :: vI v4 :: vI v5 :: vI v6 :: vI v7 :: vI v8 :: vU :: vI v10 :: vU :: vU :: vU :: vU :: vU :: vU :: vU :: vU :: vU :: vU :: vU :: vU :: vU :: vU :: vU :: vU :: vU :: vU :: vU :: vU :: []) [] ([cI a] ++ Hb 1 s0) := by
 unfold f_law_367 at h
 refine WP.iconst (0 : Int32) at_367 rfl ?_
 refine WP.istore (L' := (vR 0 :: vI v1 :: vI v2 :: vR 1 :: vI v4 :: vI v5 :: vI v6 :: vI v7 :: vI v8 :: vI (0 : Int32) :: vI v10 :: vU :: vU :: vU :: vU :: vU :: vU :: vU :: vU :: vU :: vU :: vU :: vU :: vU :: vU :: vU :: vU :: vU :: vU :: vU :: vU :: [])) at_368 (leb rfl) rfl ?_
 obtain ⟨x1, ex1, h⟩ := lt_e h
 refine WP.iinc (L' := (vR 0 :: vI v1 :: vI v2 :: vR 1 :: vI v4 :: vI x1 :: vI v6 :: vI v7 :: vI v8 :: vI (0 : Int32) :: vI v10 :: vU :: vU :: vU :: vU :: vU :: vU :: vU :: vU :: vU :: vU :: vU :: vU :: vU :: vU :: vU :: vU :: vU :: vU :: vU :: vU :: [])) (1 : Int32) at_370 rfl rfl (by subst ex1; rfl) ?_
 refine WP.goto (pc' := 524) at_373 (by decide) rfl ?_
 exact WP.weak (L' := (vR 0 :: vI v1 :: vI v2 :: vR 1 :: vI v4 :: vI x1 :: vI v6 :: vI v7 :: vI v8 :: vI (0 : Int32) :: vI v10 :: vU :: vU :: vU :: vU :: vU :: vU :: vU :: vU :: vU :: vU :: vU :: vU :: vU :: vU :: vU :: vU :: vU :: vU :: vU :: vU :: [])) ⟨rfl, rfl, rfl, rfl, rfl, rfl, rfl, rfl, rfl, rfl, rfl, trivial⟩ (okLAW_524 l Z a0 hw n0 _ hk56 n v1 v2 v4 x1 v6 v7 v8 (0 : Int32) v10 a s0 _ h)
def f_law_521 (k56 : KT0) (n : Nat) (v1 v2 v4 v5 v6 v7 v8 v9 v10 : Int32) (a : List Int32) (s0 : St) : Option (Int32) :=
 lt (v5 + (1 : Int32)) fun x1 =>
 f_law_524 k56 n v1 v2 v4 x1 v6 v7 v8 v9 v10 a s0
theorem okLAW_521 (l : Launch) (Z : State) (a0 : Array Value) (hw : HW a0 Z) (n0 : Nat) (k56 : KT0) (hk56 : HKLAW_56 l Z n0 k56) (n : Nat) (v1 v2 v4 v5 v6 v7 v8 v9 v10 : Int32) (a : List Int32) (s0 : St) (r : Int32) (h : f_law_521 k56 n v1 v2 v4 v5 v6 v7 v8 v9 v10 a s0 = some r) : WLAW l Z n0 (PLAW r) 12 278 521 (vR 0 :: vI v1 :: vI v2 :: vR 1 :: vI v4 :: vI v5 :: vI v6 :: vI v7 :: vI v8 :: vI v9 :: vI v10 :: vU :: vU :: vU :: vU :: vU :: vU :: vU :: vU :: vU :: vU :: vU :: vU :: vU :: vU :: vU :: vU :: vU :: vU :: vU :: vU :: []) [] ([cI a] ++ Hb 1 s0) := by
 unfold f_law_521 at h
 obtain ⟨x1, ex1, h⟩ := lt_e h
 refine WP.iinc (L' := (vR 0 :: vI v1 :: vI v2 :: vR 1 :: vI v4 :: vI x1 :: vI v6 :: vI v7 :: vI v8 :: vI v9 :: vI v10 :: vU :: vU :: vU :: vU :: vU :: vU :: vU :: vU :: vU :: vU :: vU :: vU :: vU :: vU :: vU :: vU :: vU :: vU :: vU :: vU :: [])) (1 : Int32) at_521 rfl rfl (by subst ex1; rfl) ?_
 exact WP.weak (L' := (vR 0 :: vI v1 :: vI v2 :: vR 1 :: vI v4 :: vI x1 :: vI v6 :: vI v7 :: vI v8 :: vI v9 :: vI v10 :: vU :: vU :: vU :: vU :: vU :: vU :: vU :: vU :: vU :: vU :: vU :: vU :: vU :: vU :: vU :: vU :: vU :: vU :: vU :: vU :: [])) ⟨rfl, rfl, rfl, rfl, rfl, rfl, rfl, rfl, rfl, rfl, rfl, trivial⟩ (okLAW_524 l Z a0 hw n0 _ hk56 n v1 v2 v4 x1 v6 v7 v8 v9 v10 a s0 _ h)
def f_law_474 (k56 : KT0) (n : Nat) (v1 v2 v4 v5 v6 v7 v8 v9 v10 v12 v14 v15 v16 v17 t0 t1 : Int32) (a : List Int32) (s0 : St) : Option (Int32) :=
 (f_statement (t1 + t0) v15 v16 v17 s0).bind fun c1 =>
 if c1.1 = v5 then
  if v14 = 0 then
   f_law_521 k56 n v1 v2 v4 v5 v6 v7 v8 v9 v10 a c1.2
  else
   (f_L_targetOf v12).bind fun c4 =>
   if c4 = 0 then
    f_law_521 k56 n v1 v2 v4 v5 v6 v7 v8 v9 v10 a c1.2
   else
    f_law_524 k56 n v1 v2 v4 v5 v6 v7 v8 (1 : Int32) v10 a c1.2
 else
  f_law_524 k56 n v1 v2 v4 v2 v6 v7 (0 : Int32) v9 v10 a c1.2
theorem okLAW_474 (l : Launch) (Z : State) (a0 : Array Value) (hw : HW a0 Z) (n0 : Nat) (k56 : KT0) (hk56 : HKLAW_56 l Z n0 k56) (n : Nat) (v1 v2 v4 v5 v6 v7 v8 v9 v10 v12 v14 v15 v16 v17 t0 t1 : Int32) (a : List Int32) (s0 : St) (r : Int32) (h : f_law_474 k56 n v1 v2 v4 v5 v6 v7 v8 v9 v10 v12 v14 v15 v16 v17 t0 t1 a s0 = some r) : WLAW l Z n0 (PLAW r) 12 278 474 (vR 0 :: vI v1 :: vI v2 :: vR 1 :: vI v4 :: vI v5 :: vI v6 :: vI v7 :: vI v8 :: vI v9 :: vI v10 :: vU :: vI v12 :: vU :: vI v14 :: vI v15 :: vI v16 :: vI v17 :: vU :: vU :: vU :: vU :: vU :: vU :: vU :: vU :: vU :: vU :: vU :: vU :: vU :: []) [.int t0, .int t1, .ref 1] ([cI a] ++ Hb 1 s0) := by
 unfold f_law_474 at h
 refine WP.iadd at_474 ?_
 refine WP.iload at_475 rfl ?_
 refine WP.iload at_477 rfl ?_
 refine WP.iload at_479 rfl ?_
 obtain ⟨c1, hc1, h⟩ := bd h
 refine WP.callV (i := 1) (y := y17) (as := [.int (t1 + t0), .int v15, .int v16, .int v17]) (S := []) at_481 (hw _ m_117) (hw _ m_118) (hw _ m_120) (hw _ m_119) (hw _ m_121) (hw _ m_6) hy17 rfl (CS.frame (ro := 1) (H := ([cI a] ++ Hb 1 s0)) (as := [.ref 1, .int (t1 + t0), .int v15, .int v16, .int v17]) fr2_f (ok17 l Z a0 hw (t1 + t0) v15 v16 v17 s0 _ hc1) rfl (by decide) (fr2_l a s0) (fr2_c a s0) (by decide) rfl) rfl (lenOf pd17 rfl) (leb rfl) (leb rfl) (leb rfl) (leb rfl) ?_
 rintro _ _ ⟨_, _, ⟨rfl, rfl⟩, rfl, rfl⟩
 rw [fr2_p a s0 c1.2]
 show WLAW l Z n0 (PLAW r) 12 278 484 (vR 0 :: vI v1 :: vI v2 :: vR 1 :: vI v4 :: vI v5 :: vI v6 :: vI v7 :: vI v8 :: vI v9 :: vI v10 :: vU :: vI v12 :: vU :: vI v14 :: vI v15 :: vI v16 :: vI v17 :: vU :: vU :: vU :: vU :: vU :: vU :: vU :: vU :: vU :: vU :: vU :: vU :: vU :: []) [.int c1.1] ([cI a] ++ Hb 1 c1.2)
 refine WP.istore (L' := (vR 0 :: vI v1 :: vI v2 :: vR 1 :: vI v4 :: vI v5 :: vI v6 :: vI v7 :: vI v8 :: vI v9 :: vI v10 :: vU :: vI v12 :: vU :: vI v14 :: vI v15 :: vI v16 :: vI v17 :: vI c1.1 :: vU :: vU :: vU :: vU :: vU :: vU :: vU :: vU :: vU :: vU :: vU :: vU :: [])) at_484 (leb rfl) rfl ?_
 refine WP.iload at_486 rfl ?_
 refine WP.iload at_488 rfl ?_
 rcases ite_e h with ⟨hc2, h⟩ | ⟨hc2, h⟩
 ·
  refine WP.icmpY (pc' := 502) at_490 (XT.ii_eq_t hc2) (by decide) rfl ?_
  refine WP.iload at_502 rfl ?_
  rcases ite_e h with ⟨hc3, h⟩ | ⟨hc3, h⟩
  ·
   refine WP.ifY (pc' := 521) at_504 (XT.i0_eq_t hc3) (by decide) rfl ?_
   exact WP.weak (L' := (vR 0 :: vI v1 :: vI v2 :: vR 1 :: vI v4 :: vI v5 :: vI v6 :: vI v7 :: vI v8 :: vI v9 :: vI v10 :: vU :: vU :: vU :: vU :: vU :: vU :: vU :: vU :: vU :: vU :: vU :: vU :: vU :: vU :: vU :: vU :: vU :: vU :: vU :: vU :: [])) ⟨rfl, rfl, rfl, rfl, rfl, rfl, rfl, rfl, rfl, rfl, rfl, trivial⟩ (okLAW_521 l Z a0 hw n0 _ hk56 n v1 v2 v4 v5 v6 v7 v8 v9 v10 a c1.2 _ h)
  ·
   refine WP.ifN at_504 (XT.i0_eq_f hc3) ?_
   refine WP.iload at_507 rfl ?_
   obtain ⟨c4, hc4, h⟩ := bd h
   refine WP.callS (y := y21) (as := [.int v12]) (S := []) at_509 (hw _ m_134) (hw _ m_135) (hw _ m_2) (hw _ m_136) hy21 (CS.frame (ro := 1) (H := ([cI a] ++ Hb 1 c1.2)) (as := [.int v12]) fr1_f (ok21 l Z a0 hw v12 _ hc4) rfl (by decide) (fr1_l a c1.2) (fr1_c a c1.2) (by decide) rfl) rfl (lenOf pd21 rfl) (leb rfl) (leb rfl) (leb rfl) (leb rfl) ?_
   rintro _ _ ⟨_, _, ⟨rfl, rfl⟩, rfl, rfl⟩
   rw [fr1_p a c1.2]
   show WLAW l Z n0 (PLAW r) 12 278 512 (vR 0 :: vI v1 :: vI v2 :: vR 1 :: vI v4 :: vI v5 :: vI v6 :: vI v7 :: vI v8 :: vI v9 :: vI v10 :: vU :: vI v12 :: vU :: vI v14 :: vI v15 :: vI v16 :: vI v17 :: vI c1.1 :: vU :: vU :: vU :: vU :: vU :: vU :: vU :: vU :: vU :: vU :: vU :: vU :: []) [.int c4] ([cI a] ++ Hb 1 c1.2)
   rcases ite_e h with ⟨hc5, h⟩ | ⟨hc5, h⟩
   ·
    refine WP.ifY (pc' := 521) at_512 (XT.i0_eq_t hc5) (by decide) rfl ?_
    exact WP.weak (L' := (vR 0 :: vI v1 :: vI v2 :: vR 1 :: vI v4 :: vI v5 :: vI v6 :: vI v7 :: vI v8 :: vI v9 :: vI v10 :: vU :: vU :: vU :: vU :: vU :: vU :: vU :: vU :: vU :: vU :: vU :: vU :: vU :: vU :: vU :: vU :: vU :: vU :: vU :: vU :: [])) ⟨rfl, rfl, rfl, rfl, rfl, rfl, rfl, rfl, rfl, rfl, rfl, trivial⟩ (okLAW_521 l Z a0 hw n0 _ hk56 n v1 v2 v4 v5 v6 v7 v8 v9 v10 a c1.2 _ h)
   ·
    refine WP.ifN at_512 (XT.i0_eq_f hc5) ?_
    refine WP.iconst (1 : Int32) at_515 rfl ?_
    refine WP.istore (L' := (vR 0 :: vI v1 :: vI v2 :: vR 1 :: vI v4 :: vI v5 :: vI v6 :: vI v7 :: vI v8 :: vI (1 : Int32) :: vI v10 :: vU :: vI v12 :: vU :: vI v14 :: vI v15 :: vI v16 :: vI v17 :: vI c1.1 :: vU :: vU :: vU :: vU :: vU :: vU :: vU :: vU :: vU :: vU :: vU :: vU :: [])) at_516 (leb rfl) rfl ?_
    refine WP.goto (pc' := 524) at_518 (by decide) rfl ?_
    exact WP.weak (L' := (vR 0 :: vI v1 :: vI v2 :: vR 1 :: vI v4 :: vI v5 :: vI v6 :: vI v7 :: vI v8 :: vI (1 : Int32) :: vI v10 :: vU :: vU :: vU :: vU :: vU :: vU :: vU :: vU :: vU :: vU :: vU :: vU :: vU :: vU :: vU :: vU :: vU :: vU :: vU :: vU :: [])) ⟨rfl, rfl, rfl, rfl, rfl, rfl, rfl, rfl, rfl, rfl, rfl, trivial⟩ (okLAW_524 l Z a0 hw n0 _ hk56 n v1 v2 v4 v5 v6 v7 v8 (1 : Int32) v10 a c1.2 _ h)
 ·
  refine WP.icmpN at_490 (XT.ii_eq_f hc2) ?_
  refine WP.iconst (0 : Int32) at_493 rfl ?_
  refine WP.istore (L' := (vR 0 :: vI v1 :: vI v2 :: vR 1 :: vI v4 :: vI v5 :: vI v6 :: vI v7 :: vI (0 : Int32) :: vI v9 :: vI v10 :: vU :: vI v12 :: vU :: vI v14 :: vI v15 :: vI v16 :: vI v17 :: vI c1.1 :: vU :: vU :: vU :: vU :: vU :: vU :: vU :: vU :: vU :: vU :: vU :: vU :: [])) at_494 (leb rfl) rfl ?_
  refine WP.iloadN at_496 rfl ?_
  refine WP.istore (L' := (vR 0 :: vI v1 :: vI v2 :: vR 1 :: vI v4 :: vI v2 :: vI v6 :: vI v7 :: vI (0 : Int32) :: vI v9 :: vI v10 :: vU :: vI v12 :: vU :: vI v14 :: vI v15 :: vI v16 :: vI v17 :: vI c1.1 :: vU :: vU :: vU :: vU :: vU :: vU :: vU :: vU :: vU :: vU :: vU :: vU :: [])) at_497 (leb rfl) rfl ?_
  refine WP.goto (pc' := 524) at_499 (by decide) rfl ?_
  exact WP.weak (L' := (vR 0 :: vI v1 :: vI v2 :: vR 1 :: vI v4 :: vI v2 :: vI v6 :: vI v7 :: vI (0 : Int32) :: vI v9 :: vI v10 :: vU :: vU :: vU :: vU :: vU :: vU :: vU :: vU :: vU :: vU :: vU :: vU :: vU :: vU :: vU :: vU :: vU :: vU :: vU :: vU :: [])) ⟨rfl, rfl, rfl, rfl, rfl, rfl, rfl, rfl, rfl, rfl, rfl, trivial⟩ (okLAW_524 l Z a0 hw n0 _ hk56 n v1 v2 v4 v2 v6 v7 (0 : Int32) v9 v10 a c1.2 _ h)
def f_law_473 (k56 : KT0) (n : Nat) (v1 v2 v4 v5 v6 v7 v8 v9 v10 v12 v14 v15 v16 v17 t0 : Int32) (a : List Int32) (s0 : St) : Option (Int32) :=
 f_law_474 k56 n v1 v2 v4 v5 v6 v7 v8 v9 v10 v12 v14 v15 v16 v17 (0 : Int32) t0 a s0
theorem okLAW_473 (l : Launch) (Z : State) (a0 : Array Value) (hw : HW a0 Z) (n0 : Nat) (k56 : KT0) (hk56 : HKLAW_56 l Z n0 k56) (n : Nat) (v1 v2 v4 v5 v6 v7 v8 v9 v10 v12 v14 v15 v16 v17 t0 : Int32) (a : List Int32) (s0 : St) (r : Int32) (h : f_law_473 k56 n v1 v2 v4 v5 v6 v7 v8 v9 v10 v12 v14 v15 v16 v17 t0 a s0 = some r) : WLAW l Z n0 (PLAW r) 12 278 473 (vR 0 :: vI v1 :: vI v2 :: vR 1 :: vI v4 :: vI v5 :: vI v6 :: vI v7 :: vI v8 :: vI v9 :: vI v10 :: vU :: vI v12 :: vU :: vI v14 :: vI v15 :: vI v16 :: vI v17 :: vU :: vU :: vU :: vU :: vU :: vU :: vU :: vU :: vU :: vU :: vU :: vU :: vU :: []) [.int t0, .ref 1] ([cI a] ++ Hb 1 s0) := by
 unfold f_law_473 at h
 refine WP.iconst (0 : Int32) at_473 rfl ?_
 exact WP.weak (L' := (vR 0 :: vI v1 :: vI v2 :: vR 1 :: vI v4 :: vI v5 :: vI v6 :: vI v7 :: vI v8 :: vI v9 :: vI v10 :: vU :: vI v12 :: vU :: vI v14 :: vI v15 :: vI v16 :: vI v17 :: vU :: vU :: vU :: vU :: vU :: vU :: vU :: vU :: vU :: vU :: vU :: vU :: vU :: [])) ⟨rfl, rfl, rfl, rfl, rfl, rfl, rfl, rfl, rfl, rfl, rfl, rfl, rfl, rfl, rfl, rfl, trivial⟩ (okLAW_474 l Z a0 hw n0 _ hk56 n v1 v2 v4 v5 v6 v7 v8 v9 v10 v12 v14 v15 v16 v17 (0 : Int32) t0 a s0 _ h)
def f_law_450 (k56 : KT0) (n : Nat) (v1 v2 v4 v5 v6 v7 v8 v9 v10 v12 v13 v14 v15 v16 t0 : Int32) (a : List Int32) (s0 : St) : Option (Int32) :=
 if v14 = 0 then
  f_law_473 k56 n v1 v2 v4 v5 v6 v7 v8 v9 v10 v12 v14 v15 v16 t0 v13 a s0
 else
  (f_L_roundedOf v12).bind fun c2 =>
  if c2 = 0 then
   f_law_473 k56 n v1 v2 v4 v5 v6 v7 v8 v9 v10 v12 v14 v15 v16 t0 v13 a s0
  else
   f_law_474 k56 n v1 v2 v4 v5 v6 v7 v8 v9 v10 v12 v14 v15 v16 t0 (16 : Int32) v13 a s0
theorem okLAW_450 (l : Launch) (Z : State) (a0 : Array Value) (hw : HW a0 Z) (n0 : Nat) (k56 : KT0) (hk56 : HKLAW_56 l Z n0 k56) (n : Nat) (v1 v2 v4 v5 v6 v7 v8 v9 v10 v12 v13 v14 v15 v16 t0 : Int32) (a : List Int32) (s0 : St) (r : Int32) (h : f_law_450 k56 n v1 v2 v4 v5 v6 v7 v8 v9 v10 v12 v13 v14 v15 v16 t0 a s0 = some r) : WLAW l Z n0 (PLAW r) 12 278 450 (vR 0 :: vI v1 :: vI v2 :: vR 1 :: vI v4 :: vI v5 :: vI v6 :: vI v7 :: vI v8 :: vI v9 :: vI v10 :: vU :: vI v12 :: vI v13 :: vI v14 :: vI v15 :: vI v16 :: vU :: vU :: vU :: vU :: vU :: vU :: vU :: vU :: vU :: vU :: vU :: vU :: vU :: vU :: []) [.int t0] ([cI a] ++ Hb 1 s0) := by
 unfold f_law_450 at h
 refine WP.istore (L' := (vR 0 :: vI v1 :: vI v2 :: vR 1 :: vI v4 :: vI v5 :: vI v6 :: vI v7 :: vI v8 :: vI v9 :: vI v10 :: vU :: vI v12 :: vI v13 :: vI v14 :: vI v15 :: vI v16 :: vI t0 :: vU :: vU :: vU :: vU :: vU :: vU :: vU :: vU :: vU :: vU :: vU :: vU :: vU :: [])) at_450 (leb rfl) rfl ?_
 refine WP.aloadN at_452 rfl ?_
 refine WP.iload at_453 rfl ?_
 refine WP.iload at_455 rfl ?_
 rcases ite_e h with ⟨hc1, h⟩ | ⟨hc1, h⟩
 ·
  refine WP.ifY (pc' := 473) at_457 (XT.i0_eq_t hc1) (by decide) rfl ?_
  exact WP.weak (L' := (vR 0 :: vI v1 :: vI v2 :: vR 1 :: vI v4 :: vI v5 :: vI v6 :: vI v7 :: vI v8 :: vI v9 :: vI v10 :: vU :: vI v12 :: vU :: vI v14 :: vI v15 :: vI v16 :: vI t0 :: vU :: vU :: vU :: vU :: vU :: vU :: vU :: vU :: vU :: vU :: vU :: vU :: vU :: [])) ⟨rfl, rfl, rfl, rfl, rfl, rfl, rfl, rfl, rfl, rfl, rfl, rfl, rfl, rfl, rfl, rfl, trivial⟩ (okLAW_473 l Z a0 hw n0 _ hk56 n v1 v2 v4 v5 v6 v7 v8 v9 v10 v12 v14 v15 v16 t0 v13 a s0 _ h)
 ·
  refine WP.ifN at_457 (XT.i0_eq_f hc1) ?_
  refine WP.iload at_460 rfl ?_
  obtain ⟨c2, hc2, h⟩ := bd h
  refine WP.callS (y := y16) (as := [.int v12]) (S := [.int v13, .ref 1]) at_462 (hw _ m_114) (hw _ m_115) (hw _ m_2) (hw _ m_116) hy16 (CS.frame (ro := 1) (H := ([cI a] ++ Hb 1 s0)) (as := [.int v12]) fr1_f (ok16 l Z a0 hw v12 _ hc2) rfl (by decide) (fr1_l a s0) (fr1_c a s0) (by decide) rfl) rfl (lenOf pd16 rfl) (leb rfl) (leb rfl) (leb rfl) (leb rfl) ?_
  rintro _ _ ⟨_, _, ⟨rfl, rfl⟩, rfl, rfl⟩
  rw [fr1_p a s0]
  show WLAW l Z n0 (PLAW r) 12 278 465 (vR 0 :: vI v1 :: vI v2 :: vR 1 :: vI v4 :: vI v5 :: vI v6 :: vI v7 :: vI v8 :: vI v9 :: vI v10 :: vU :: vI v12 :: vI v13 :: vI v14 :: vI v15 :: vI v16 :: vI t0 :: vU :: vU :: vU :: vU :: vU :: vU :: vU :: vU :: vU :: vU :: vU :: vU :: vU :: []) [.int c2, .int v13, .ref 1] ([cI a] ++ Hb 1 s0)
  rcases ite_e h with ⟨hc3, h⟩ | ⟨hc3, h⟩
  ·
   refine WP.ifY (pc' := 473) at_465 (XT.i0_eq_t hc3) (by decide) rfl ?_
   exact WP.weak (L' := (vR 0 :: vI v1 :: vI v2 :: vR 1 :: vI v4 :: vI v5 :: vI v6 :: vI v7 :: vI v8 :: vI v9 :: vI v10 :: vU :: vI v12 :: vU :: vI v14 :: vI v15 :: vI v16 :: vI t0 :: vU :: vU :: vU :: vU :: vU :: vU :: vU :: vU :: vU :: vU :: vU :: vU :: vU :: [])) ⟨rfl, rfl, rfl, rfl, rfl, rfl, rfl, rfl, rfl, rfl, rfl, rfl, rfl, rfl, rfl, rfl, trivial⟩ (okLAW_473 l Z a0 hw n0 _ hk56 n v1 v2 v4 v5 v6 v7 v8 v9 v10 v12 v14 v15 v16 t0 v13 a s0 _ h)
  ·
   refine WP.ifN at_465 (XT.i0_eq_f hc3) ?_
   refine WP.bipush (16 : Int32) at_468 rfl ?_
   refine WP.goto (pc' := 474) at_470 (by decide) rfl ?_
   exact WP.weak (L' := (vR 0 :: vI v1 :: vI v2 :: vR 1 :: vI v4 :: vI v5 :: vI v6 :: vI v7 :: vI v8 :: vI v9 :: vI v10 :: vU :: vI v12 :: vU :: vI v14 :: vI v15 :: vI v16 :: vI t0 :: vU :: vU :: vU :: vU :: vU :: vU :: vU :: vU :: vU :: vU :: vU :: vU :: vU :: [])) ⟨rfl, rfl, rfl, rfl, rfl, rfl, rfl, rfl, rfl, rfl, rfl, rfl, rfl, rfl, rfl, rfl, trivial⟩ (okLAW_474 l Z a0 hw n0 _ hk56 n v1 v2 v4 v5 v6 v7 v8 v9 v10 v12 v14 v15 v16 t0 (16 : Int32) v13 a s0 _ h)
def f_law_437 (k56 : KT0) (n : Nat) (v1 v2 v4 v5 v6 v7 v8 v9 v10 v11 v12 v13 v14 v15 v16 : Int32) (a : List Int32) (s0 : St) : Option (Int32) :=
 (f_L_cell (v11 + (3 : Int32)) a).bind fun c1 =>
 (f_L_ix c1 v6).bind fun c2 =>
 f_law_450 k56 n v1 v2 v4 v5 v6 v7 v8 v9 v10 v12 v13 v14 v15 v16 c2 a s0
theorem okLAW_437 (l : Launch) (Z : State) (a0 : Array Value) (hw : HW a0 Z) (n0 : Nat) (k56 : KT0) (hk56 : HKLAW_56 l Z n0 k56) (n : Nat) (v1 v2 v4 v5 v6 v7 v8 v9 v10 v11 v12 v13 v14 v15 v16 : Int32) (a : List Int32) (s0 : St) (r : Int32) (h : f_law_437 k56 n v1 v2 v4 v5 v6 v7 v8 v9 v10 v11 v12 v13 v14 v15 v16 a s0 = some r) : WLAW l Z n0 (PLAW r) 12 278 437 (vR 0 :: vI v1 :: vI v2 :: vR 1 :: vI v4 :: vI v5 :: vI v6 :: vI v7 :: vI v8 :: vI v9 :: vI v10 :: vI v11 :: vI v12 :: vI v13 :: vI v14 :: vI v15 :: vI v16 :: vU :: vU :: vU :: vU :: vU :: vU :: vU :: vU :: vU :: vU :: vU :: vU :: vU :: vU :: []) [] ([cI a] ++ Hb 1 s0) := by
 unfold f_law_437 at h
 refine WP.aloadN at_437 rfl ?_
 refine WP.iload at_438 rfl ?_
 refine WP.iconst (3 : Int32) at_440 rfl ?_
 refine WP.iadd at_441 ?_
 obtain ⟨c1, hc1, h⟩ := bd h
 refine WP.callS (y := y0) (as := [.ref 0, .int (v11 + (3 : Int32))]) (S := []) at_442 (hw _ m_0) (hw _ m_1) (hw _ m_2) (hw _ m_3) hy0 (CS.frame (ro := 1) (H := ([cI a] ++ Hb 1 s0)) (as := [.ref 0, .int (v11 + (3 : Int32))]) fr0_f (ok0 l Z a0 hw (v11 + (3 : Int32)) a _ hc1) rfl (by decide) (fr0_l a s0) (fr0_c a s0) (by decide) rfl) rfl (lenOf pd0 rfl) (leb rfl) (leb rfl) (leb rfl) (leb rfl) ?_
 rintro _ _ ⟨_, _, ⟨rfl, rfl⟩, rfl, rfl⟩
 rw [fr0_p a s0]
 show WLAW l Z n0 (PLAW r) 12 278 445 (vR 0 :: vI v1 :: vI v2 :: vR 1 :: vI v4 :: vI v5 :: vI v6 :: vI v7 :: vI v8 :: vI v9 :: vI v10 :: vI v11 :: vI v12 :: vI v13 :: vI v14 :: vI v15 :: vI v16 :: vU :: vU :: vU :: vU :: vU :: vU :: vU :: vU :: vU :: vU :: vU :: vU :: vU :: vU :: []) [.int c1] ([cI a] ++ Hb 1 s0)
 refine WP.iload at_445 rfl ?_
 obtain ⟨c2, hc2, h⟩ := bd h
 refine WP.callS (y := y15) (as := [.int c1, .int v6]) (S := []) at_447 (hw _ m_110) (hw _ m_111) (hw _ m_2) (hw _ m_112) hy15 (CS.frame (ro := 1) (H := ([cI a] ++ Hb 1 s0)) (as := [.int c1, .int v6]) fr1_f (ok15 l Z a0 hw c1 v6 _ hc2) rfl (by decide) (fr1_l a s0) (fr1_c a s0) (by decide) rfl) rfl (lenOf pd15 rfl) (leb rfl) (leb rfl) (leb rfl) (leb rfl) ?_
 rintro _ _ ⟨_, _, ⟨rfl, rfl⟩, rfl, rfl⟩
 rw [fr1_p a s0]
 show WLAW l Z n0 (PLAW r) 12 278 450 (vR 0 :: vI v1 :: vI v2 :: vR 1 :: vI v4 :: vI v5 :: vI v6 :: vI v7 :: vI v8 :: vI v9 :: vI v10 :: vI v11 :: vI v12 :: vI v13 :: vI v14 :: vI v15 :: vI v16 :: vU :: vU :: vU :: vU :: vU :: vU :: vU :: vU :: vU :: vU :: vU :: vU :: vU :: vU :: []) [.int c2] ([cI a] ++ Hb 1 s0)
 exact WP.weak (L' := (vR 0 :: vI v1 :: vI v2 :: vR 1 :: vI v4 :: vI v5 :: vI v6 :: vI v7 :: vI v8 :: vI v9 :: vI v10 :: vU :: vI v12 :: vI v13 :: vI v14 :: vI v15 :: vI v16 :: vU :: vU :: vU :: vU :: vU :: vU :: vU :: vU :: vU :: vU :: vU :: vU :: vU :: vU :: [])) ⟨rfl, rfl, rfl, rfl, rfl, rfl, rfl, rfl, rfl, rfl, rfl, rfl, rfl, rfl, rfl, rfl, trivial⟩ (okLAW_450 l Z a0 hw n0 _ hk56 n v1 v2 v4 v5 v6 v7 v8 v9 v10 v12 v13 v14 v15 v16 c2 a s0 _ h)
def f_law_336 (k56 : KT0) (n : Nat) (v1 v2 v4 v5 v6 v7 v8 v9 v10 v11 v12 v13 t0 : Int32) (a : List Int32) (s0 : St) : Option (Int32) :=
 if v9 = 0 then
  (f_L_cell (v11 + (1 : Int32)) a).bind fun c2 =>
  (f_L_ix c2 v6).bind fun c3 =>
  (f_L_cell (v11 + (2 : Int32)) a).bind fun c4 =>
  (f_L_ix c4 v6).bind fun c5 =>
  if v13 < (6 : Int32) then
   f_law_437 k56 n v1 v2 v4 v5 v6 v7 v8 v9 v10 v11 v12 v13 t0 c3 c5 a s0
  else
   if (8 : Int32) < v13 then
    f_law_437 k56 n v1 v2 v4 v5 v6 v7 v8 v9 v10 v11 v12 v13 t0 c3 c5 a s0
   else
    (f_L_cell (v11 + (3 : Int32)) a).bind fun c8 =>
    (f_L_ix c8 (v2 + (1 : Int32))).bind fun c9 =>
    f_law_450 k56 n v1 v2 v4 v5 v6 v7 v8 v9 v10 v12 v13 t0 c3 c5 c9 a s0
 else
  (f_L_cell (v11 + (4 : Int32)) a).bind fun c10 =>
  (f_L_ix c10 (v2 + (1 : Int32))).bind fun c11 =>
  (f_onSizeError c11 s0).bind fun c12 =>
  if c12.1 = 0 then
   f_law_367 k56 n v1 v2 v4 v5 v6 v7 (0 : Int32) v10 a c12.2
  else
   f_law_367 k56 n v1 v2 v4 v5 v6 v7 v8 v10 a c12.2
theorem okLAW_336 (l : Launch) (Z : State) (a0 : Array Value) (hw : HW a0 Z) (n0 : Nat) (k56 : KT0) (hk56 : HKLAW_56 l Z n0 k56) (n : Nat) (v1 v2 v4 v5 v6 v7 v8 v9 v10 v11 v12 v13 t0 : Int32) (a : List Int32) (s0 : St) (r : Int32) (h : f_law_336 k56 n v1 v2 v4 v5 v6 v7 v8 v9 v10 v11 v12 v13 t0 a s0 = some r) : WLAW l Z n0 (PLAW r) 12 278 336 (vR 0 :: vI v1 :: vI v2 :: vR 1 :: vI v4 :: vI v5 :: vI v6 :: vI v7 :: vI v8 :: vI v9 :: vI v10 :: vI v11 :: vI v12 :: vI v13 :: vU :: vU :: vU :: vU :: vU :: vU :: vU :: vU :: vU :: vU :: vU :: vU :: vU :: vU :: vU :: vU :: vU :: []) [.int t0] ([cI a] ++ Hb 1 s0) := by
 unfold f_law_336 at h
 refine WP.istore (L' := (vR 0 :: vI v1 :: vI v2 :: vR 1 :: vI v4 :: vI v5 :: vI v6 :: vI v7 :: vI v8 :: vI v9 :: vI v10 :: vI v11 :: vI v12 :: vI v13 :: vI t0 :: vU :: vU :: vU :: vU :: vU :: vU :: vU :: vU :: vU :: vU :: vU :: vU :: vU :: vU :: vU :: vU :: [])) at_336 (leb rfl) rfl ?_
 refine WP.iload at_338 rfl ?_
 rcases ite_e h with ⟨hc1, h⟩ | ⟨hc1, h⟩
 ·
  refine WP.ifY (pc' := 376) at_340 (XT.i0_eq_t hc1) (by decide) rfl ?_
  refine WP.aloadN at_376 rfl ?_
  refine WP.iload at_377 rfl ?_
  refine WP.iconst (1 : Int32) at_379 rfl ?_
  refine WP.iadd at_380 ?_
  obtain ⟨c2, hc2, h⟩ := bd h
  refine WP.callS (y := y0) (as := [.ref 0, .int (v11 + (1 : Int32))]) (S := []) at_381 (hw _ m_0) (hw _ m_1) (hw _ m_2) (hw _ m_3) hy0 (CS.frame (ro := 1) (H := ([cI a] ++ Hb 1 s0)) (as := [.ref 0, .int (v11 + (1 : Int32))]) fr0_f (ok0 l Z a0 hw (v11 + (1 : Int32)) a _ hc2) rfl (by decide) (fr0_l a s0) (fr0_c a s0) (by decide) rfl) rfl (lenOf pd0 rfl) (leb rfl) (leb rfl) (leb rfl) (leb rfl) ?_
  rintro _ _ ⟨_, _, ⟨rfl, rfl⟩, rfl, rfl⟩
  rw [fr0_p a s0]
  show WLAW l Z n0 (PLAW r) 12 278 384 (vR 0 :: vI v1 :: vI v2 :: vR 1 :: vI v4 :: vI v5 :: vI v6 :: vI v7 :: vI v8 :: vI v9 :: vI v10 :: vI v11 :: vI v12 :: vI v13 :: vI t0 :: vU :: vU :: vU :: vU :: vU :: vU :: vU :: vU :: vU :: vU :: vU :: vU :: vU :: vU :: vU :: vU :: []) [.int c2] ([cI a] ++ Hb 1 s0)
  refine WP.iload at_384 rfl ?_
  obtain ⟨c3, hc3, h⟩ := bd h
  refine WP.callS (y := y15) (as := [.int c2, .int v6]) (S := []) at_386 (hw _ m_110) (hw _ m_111) (hw _ m_2) (hw _ m_112) hy15 (CS.frame (ro := 1) (H := ([cI a] ++ Hb 1 s0)) (as := [.int c2, .int v6]) fr1_f (ok15 l Z a0 hw c2 v6 _ hc3) rfl (by decide) (fr1_l a s0) (fr1_c a s0) (by decide) rfl) rfl (lenOf pd15 rfl) (leb rfl) (leb rfl) (leb rfl) (leb rfl) ?_
  rintro _ _ ⟨_, _, ⟨rfl, rfl⟩, rfl, rfl⟩
  rw [fr1_p a s0]
  show WLAW l Z n0 (PLAW r) 12 278 389 (vR 0 :: vI v1 :: vI v2 :: vR 1 :: vI v4 :: vI v5 :: vI v6 :: vI v7 :: vI v8 :: vI v9 :: vI v10 :: vI v11 :: vI v12 :: vI v13 :: vI t0 :: vU :: vU :: vU :: vU :: vU :: vU :: vU :: vU :: vU :: vU :: vU :: vU :: vU :: vU :: vU :: vU :: []) [.int c3] ([cI a] ++ Hb 1 s0)
  refine WP.istore (L' := (vR 0 :: vI v1 :: vI v2 :: vR 1 :: vI v4 :: vI v5 :: vI v6 :: vI v7 :: vI v8 :: vI v9 :: vI v10 :: vI v11 :: vI v12 :: vI v13 :: vI t0 :: vI c3 :: vU :: vU :: vU :: vU :: vU :: vU :: vU :: vU :: vU :: vU :: vU :: vU :: vU :: vU :: vU :: [])) at_389 (leb rfl) rfl ?_
  refine WP.aloadN at_391 rfl ?_
  refine WP.iload at_392 rfl ?_
  refine WP.iconst (2 : Int32) at_394 rfl ?_
  refine WP.iadd at_395 ?_
  obtain ⟨c4, hc4, h⟩ := bd h
  refine WP.callS (y := y0) (as := [.ref 0, .int (v11 + (2 : Int32))]) (S := []) at_396 (hw _ m_0) (hw _ m_1) (hw _ m_2) (hw _ m_3) hy0 (CS.frame (ro := 1) (H := ([cI a] ++ Hb 1 s0)) (as := [.ref 0, .int (v11 + (2 : Int32))]) fr0_f (ok0 l Z a0 hw (v11 + (2 : Int32)) a _ hc4) rfl (by decide) (fr0_l a s0) (fr0_c a s0) (by decide) rfl) rfl (lenOf pd0 rfl) (leb rfl) (leb rfl) (leb rfl) (leb rfl) ?_
  rintro _ _ ⟨_, _, ⟨rfl, rfl⟩, rfl, rfl⟩
  rw [fr0_p a s0]
  show WLAW l Z n0 (PLAW r) 12 278 399 (vR 0 :: vI v1 :: vI v2 :: vR 1 :: vI v4 :: vI v5 :: vI v6 :: vI v7 :: vI v8 :: vI v9 :: vI v10 :: vI v11 :: vI v12 :: vI v13 :: vI t0 :: vI c3 :: vU :: vU :: vU :: vU :: vU :: vU :: vU :: vU :: vU :: vU :: vU :: vU :: vU :: vU :: vU :: []) [.int c4] ([cI a] ++ Hb 1 s0)
  refine WP.iload at_399 rfl ?_
  obtain ⟨c5, hc5, h⟩ := bd h
  refine WP.callS (y := y15) (as := [.int c4, .int v6]) (S := []) at_401 (hw _ m_110) (hw _ m_111) (hw _ m_2) (hw _ m_112) hy15 (CS.frame (ro := 1) (H := ([cI a] ++ Hb 1 s0)) (as := [.int c4, .int v6]) fr1_f (ok15 l Z a0 hw c4 v6 _ hc5) rfl (by decide) (fr1_l a s0) (fr1_c a s0) (by decide) rfl) rfl (lenOf pd15 rfl) (leb rfl) (leb rfl) (leb rfl) (leb rfl) ?_
  rintro _ _ ⟨_, _, ⟨rfl, rfl⟩, rfl, rfl⟩
  rw [fr1_p a s0]
  show WLAW l Z n0 (PLAW r) 12 278 404 (vR 0 :: vI v1 :: vI v2 :: vR 1 :: vI v4 :: vI v5 :: vI v6 :: vI v7 :: vI v8 :: vI v9 :: vI v10 :: vI v11 :: vI v12 :: vI v13 :: vI t0 :: vI c3 :: vU :: vU :: vU :: vU :: vU :: vU :: vU :: vU :: vU :: vU :: vU :: vU :: vU :: vU :: vU :: []) [.int c5] ([cI a] ++ Hb 1 s0)
  refine WP.istore (L' := (vR 0 :: vI v1 :: vI v2 :: vR 1 :: vI v4 :: vI v5 :: vI v6 :: vI v7 :: vI v8 :: vI v9 :: vI v10 :: vI v11 :: vI v12 :: vI v13 :: vI t0 :: vI c3 :: vI c5 :: vU :: vU :: vU :: vU :: vU :: vU :: vU :: vU :: vU :: vU :: vU :: vU :: vU :: vU :: [])) at_404 (leb rfl) rfl ?_
  refine WP.iload at_406 rfl ?_
  refine WP.bipush (6 : Int32) at_408 rfl ?_
  rcases ite_e h with ⟨hc6, h⟩ | ⟨hc6, h⟩
  ·
   refine WP.icmpY (pc' := 437) at_410 (XT.ii_lt_t hc6) (by decide) rfl ?_
   exact WP.weak (L' := (vR 0 :: vI v1 :: vI v2 :: vR 1 :: vI v4 :: vI v5 :: vI v6 :: vI v7 :: vI v8 :: vI v9 :: vI v10 :: vI v11 :: vI v12 :: vI v13 :: vI t0 :: vI c3 :: vI c5 :: vU :: vU :: vU :: vU :: vU :: vU :: vU :: vU :: vU :: vU :: vU :: vU :: vU :: vU :: [])) ⟨rfl, rfl, rfl, rfl, rfl, rfl, rfl, rfl, rfl, rfl, rfl, rfl, rfl, rfl, rfl, rfl, rfl, trivial⟩ (okLAW_437 l Z a0 hw n0 _ hk56 n v1 v2 v4 v5 v6 v7 v8 v9 v10 v11 v12 v13 t0 c3 c5 a s0 _ h)
  ·
   refine WP.icmpN at_410 (XT.ii_lt_f hc6) ?_
   refine WP.iload at_413 rfl ?_
   refine WP.bipush (8 : Int32) at_415 rfl ?_
   rcases ite_e h with ⟨hc7, h⟩ | ⟨hc7, h⟩
   ·
    refine WP.icmpY (pc' := 437) at_417 (XT.ii_gt_t hc7) (by decide) rfl ?_
    exact WP.weak (L' := (vR 0 :: vI v1 :: vI v2 :: vR 1 :: vI v4 :: vI v5 :: vI v6 :: vI v7 :: vI v8 :: vI v9 :: vI v10 :: vI v11 :: vI v12 :: vI v13 :: vI t0 :: vI c3 :: vI c5 :: vU :: vU :: vU :: vU :: vU :: vU :: vU :: vU :: vU :: vU :: vU :: vU :: vU :: vU :: [])) ⟨rfl, rfl, rfl, rfl, rfl, rfl, rfl, rfl, rfl, rfl, rfl, rfl, rfl, rfl, rfl, rfl, rfl, trivial⟩ (okLAW_437 l Z a0 hw n0 _ hk56 n v1 v2 v4 v5 v6 v7 v8 v9 v10 v11 v12 v13 t0 c3 c5 a s0 _ h)
   ·
    refine WP.icmpN at_417 (XT.ii_gt_f hc7) ?_
    refine WP.aloadN at_420 rfl ?_
    refine WP.iload at_421 rfl ?_
    refine WP.iconst (3 : Int32) at_423 rfl ?_
    refine WP.iadd at_424 ?_
    obtain ⟨c8, hc8, h⟩ := bd h
    refine WP.callS (y := y0) (as := [.ref 0, .int (v11 + (3 : Int32))]) (S := []) at_425 (hw _ m_0) (hw _ m_1) (hw _ m_2) (hw _ m_3) hy0 (CS.frame (ro := 1) (H := ([cI a] ++ Hb 1 s0)) (as := [.ref 0, .int (v11 + (3 : Int32))]) fr0_f (ok0 l Z a0 hw (v11 + (3 : Int32)) a _ hc8) rfl (by decide) (fr0_l a s0) (fr0_c a s0) (by decide) rfl) rfl (lenOf pd0 rfl) (leb rfl) (leb rfl) (leb rfl) (leb rfl) ?_
    rintro _ _ ⟨_, _, ⟨rfl, rfl⟩, rfl, rfl⟩
    rw [fr0_p a s0]
    show WLAW l Z n0 (PLAW r) 12 278 428 (vR 0 :: vI v1 :: vI v2 :: vR 1 :: vI v4 :: vI v5 :: vI v6 :: vI v7 :: vI v8 :: vI v9 :: vI v10 :: vI v11 :: vI v12 :: vI v13 :: vI t0 :: vI c3 :: vI c5 :: vU :: vU :: vU :: vU :: vU :: vU :: vU :: vU :: vU :: vU :: vU :: vU :: vU :: vU :: []) [.int c8] ([cI a] ++ Hb 1 s0)
    refine WP.iloadN at_428 rfl ?_
    refine WP.iconst (1 : Int32) at_429 rfl ?_
    refine WP.iadd at_430 ?_
    obtain ⟨c9, hc9, h⟩ := bd h
    refine WP.callS (y := y15) (as := [.int c8, .int (v2 + (1 : Int32))]) (S := []) at_431 (hw _ m_110) (hw _ m_111) (hw _ m_2) (hw _ m_112) hy15 (CS.frame (ro := 1) (H := ([cI a] ++ Hb 1 s0)) (as := [.int c8, .int (v2 + (1 : Int32))]) fr1_f (ok15 l Z a0 hw c8 (v2 + (1 : Int32)) _ hc9) rfl (by decide) (fr1_l a s0) (fr1_c a s0) (by decide) rfl) rfl (lenOf pd15 rfl) (leb rfl) (leb rfl) (leb rfl) (leb rfl) ?_
    rintro _ _ ⟨_, _, ⟨rfl, rfl⟩, rfl, rfl⟩
    rw [fr1_p a s0]
    show WLAW l Z n0 (PLAW r) 12 278 434 (vR 0 :: vI v1 :: vI v2 :: vR 1 :: vI v4 :: vI v5 :: vI v6 :: vI v7 :: vI v8 :: vI v9 :: vI v10 :: vI v11 :: vI v12 :: vI v13 :: vI t0 :: vI c3 :: vI c5 :: vU :: vU :: vU :: vU :: vU :: vU :: vU :: vU :: vU :: vU :: vU :: vU :: vU :: vU :: []) [.int c9] ([cI a] ++ Hb 1 s0)
    refine WP.goto (pc' := 450) at_434 (by decide) rfl ?_
    exact WP.weak (L' := (vR 0 :: vI v1 :: vI v2 :: vR 1 :: vI v4 :: vI v5 :: vI v6 :: vI v7 :: vI v8 :: vI v9 :: vI v10 :: vU :: vI v12 :: vI v13 :: vI t0 :: vI c3 :: vI c5 :: vU :: vU :: vU :: vU :: vU :: vU :: vU :: vU :: vU :: vU :: vU :: vU :: vU :: vU :: [])) ⟨rfl, rfl, rfl, rfl, rfl, rfl, rfl, rfl, rfl, rfl, rfl, rfl, rfl, rfl, rfl, rfl, trivial⟩ (okLAW_450 l Z a0 hw n0 _ hk56 n v1 v2 v4 v5 v6 v7 v8 v9 v10 v12 v13 t0 c3 c5 c9 a s0 _ h)
 ·
  refine WP.ifN at_340 (XT.i0_eq_f hc1) ?_
  refine WP.aloadN at_343 rfl ?_
  refine WP.aloadN at_344 rfl ?_
  refine WP.iload at_345 rfl ?_
  refine WP.iconst (4 : Int32) at_347 rfl ?_
  refine WP.iadd at_348 ?_
  obtain ⟨c10, hc10, h⟩ := bd h
  refine WP.callS (y := y0) (as := [.ref 0, .int (v11 + (4 : Int32))]) (S := [.ref 1]) at_349 (hw _ m_0) (hw _ m_1) (hw _ m_2) (hw _ m_3) hy0 (CS.frame (ro := 1) (H := ([cI a] ++ Hb 1 s0)) (as := [.ref 0, .int (v11 + (4 : Int32))]) fr0_f (ok0 l Z a0 hw (v11 + (4 : Int32)) a _ hc10) rfl (by decide) (fr0_l a s0) (fr0_c a s0) (by decide) rfl) rfl (lenOf pd0 rfl) (leb rfl) (leb rfl) (leb rfl) (leb rfl) ?_
  rintro _ _ ⟨_, _, ⟨rfl, rfl⟩, rfl, rfl⟩
  rw [fr0_p a s0]
  show WLAW l Z n0 (PLAW r) 12 278 352 (vR 0 :: vI v1 :: vI v2 :: vR 1 :: vI v4 :: vI v5 :: vI v6 :: vI v7 :: vI v8 :: vI v9 :: vI v10 :: vI v11 :: vI v12 :: vI v13 :: vI t0 :: vU :: vU :: vU :: vU :: vU :: vU :: vU :: vU :: vU :: vU :: vU :: vU :: vU :: vU :: vU :: vU :: []) [.int c10, .ref 1] ([cI a] ++ Hb 1 s0)
  refine WP.iloadN at_352 rfl ?_
  refine WP.iconst (1 : Int32) at_353 rfl ?_
  refine WP.iadd at_354 ?_
  obtain ⟨c11, hc11, h⟩ := bd h
  refine WP.callS (y := y15) (as := [.int c10, .int (v2 + (1 : Int32))]) (S := [.ref 1]) at_355 (hw _ m_110) (hw _ m_111) (hw _ m_2) (hw _ m_112) hy15 (CS.frame (ro := 1) (H := ([cI a] ++ Hb 1 s0)) (as := [.int c10, .int (v2 + (1 : Int32))]) fr1_f (ok15 l Z a0 hw c10 (v2 + (1 : Int32)) _ hc11) rfl (by decide) (fr1_l a s0) (fr1_c a s0) (by decide) rfl) rfl (lenOf pd15 rfl) (leb rfl) (leb rfl) (leb rfl) (leb rfl) ?_
  rintro _ _ ⟨_, _, ⟨rfl, rfl⟩, rfl, rfl⟩
  rw [fr1_p a s0]
  show WLAW l Z n0 (PLAW r) 12 278 358 (vR 0 :: vI v1 :: vI v2 :: vR 1 :: vI v4 :: vI v5 :: vI v6 :: vI v7 :: vI v8 :: vI v9 :: vI v10 :: vI v11 :: vI v12 :: vI v13 :: vI t0 :: vU :: vU :: vU :: vU :: vU :: vU :: vU :: vU :: vU :: vU :: vU :: vU :: vU :: vU :: vU :: vU :: []) [.int c11, .ref 1] ([cI a] ++ Hb 1 s0)
  obtain ⟨c12, hc12, h⟩ := bd h
  refine WP.callV (i := 1) (y := y22) (as := [.int c11]) (S := []) at_358 (hw _ m_137) (hw _ m_138) (hw _ m_140) (hw _ m_139) (hw _ m_141) (hw _ m_6) hy22 rfl (CS.frame (ro := 1) (H := ([cI a] ++ Hb 1 s0)) (as := [.ref 1, .int c11]) fr2_f (ok22 l Z a0 hw c11 s0 _ hc12) rfl (by decide) (fr2_l a s0) (fr2_c a s0) (by decide) rfl) rfl (lenOf pd22 rfl) (leb rfl) (leb rfl) (leb rfl) (leb rfl) ?_
  rintro _ _ ⟨_, _, ⟨rfl, rfl⟩, rfl, rfl⟩
  rw [fr2_p a s0 c12.2]
  show WLAW l Z n0 (PLAW r) 12 278 361 (vR 0 :: vI v1 :: vI v2 :: vR 1 :: vI v4 :: vI v5 :: vI v6 :: vI v7 :: vI v8 :: vI v9 :: vI v10 :: vI v11 :: vI v12 :: vI v13 :: vI t0 :: vU :: vU :: vU :: vU :: vU :: vU :: vU :: vU :: vU :: vU :: vU :: vU :: vU :: vU :: vU :: vU :: []) [.int c12.1] ([cI a] ++ Hb 1 c12.2)
  rcases ite_e h with ⟨hc13, h⟩ | ⟨hc13, h⟩
  ·
   refine WP.ifN at_361 (XT.i0_ne_f hc13) ?_
   refine WP.iconst (0 : Int32) at_364 rfl ?_
   refine WP.istore (L' := (vR 0 :: vI v1 :: vI v2 :: vR 1 :: vI v4 :: vI v5 :: vI v6 :: vI v7 :: vI (0 : Int32) :: vI v9 :: vI v10 :: vI v11 :: vI v12 :: vI v13 :: vI t0 :: vU :: vU :: vU :: vU :: vU :: vU :: vU :: vU :: vU :: vU :: vU :: vU :: vU :: vU :: vU :: vU :: [])) at_365 (leb rfl) rfl ?_
   exact WP.weak (L' := (vR 0 :: vI v1 :: vI v2 :: vR 1 :: vI v4 :: vI v5 :: vI v6 :: vI v7 :: vI (0 : Int32) :: vU :: vI v10 :: vU :: vU :: vU :: vU :: vU :: vU :: vU :: vU :: vU :: vU :: vU :: vU :: vU :: vU :: vU :: vU :: vU :: vU :: vU :: vU :: [])) ⟨rfl, rfl, rfl, rfl, rfl, rfl, rfl, rfl, rfl, rfl, trivial⟩ (okLAW_367 l Z a0 hw n0 _ hk56 n v1 v2 v4 v5 v6 v7 (0 : Int32) v10 a c12.2 _ h)
  ·
   refine WP.ifY (pc' := 367) at_361 (XT.i0_ne_t hc13) (by decide) rfl ?_
   exact WP.weak (L' := (vR 0 :: vI v1 :: vI v2 :: vR 1 :: vI v4 :: vI v5 :: vI v6 :: vI v7 :: vI v8 :: vU :: vI v10 :: vU :: vU :: vU :: vU :: vU :: vU :: vU :: vU :: vU :: vU :: vU :: vU :: vU :: vU :: vU :: vU :: vU :: vU :: vU :: vU :: [])) ⟨rfl, rfl, rfl, rfl, rfl, rfl, rfl, rfl, rfl, rfl, trivial⟩ (okLAW_367 l Z a0 hw n0 _ hk56 n v1 v2 v4 v5 v6 v7 v8 v10 a c12.2 _ h)
def f_law_335 (k56 : KT0) (n : Nat) (v1 v2 v4 v5 v6 v7 v8 v9 v10 v11 v12 v13 : Int32) (a : List Int32) (s0 : St) : Option (Int32) :=
 f_law_336 k56 n v1 v2 v4 v5 v6 v7 v8 v9 v10 v11 v12 v13 (0 : Int32) a s0
theorem okLAW_335 (l : Launch) (Z : State) (a0 : Array Value) (hw : HW a0 Z) (n0 : Nat) (k56 : KT0) (hk56 : HKLAW_56 l Z n0 k56) (n : Nat) (v1 v2 v4 v5 v6 v7 v8 v9 v10 v11 v12 v13 : Int32) (a : List Int32) (s0 : St) (r : Int32) (h : f_law_335 k56 n v1 v2 v4 v5 v6 v7 v8 v9 v10 v11 v12 v13 a s0 = some r) : WLAW l Z n0 (PLAW r) 12 278 335 (vR 0 :: vI v1 :: vI v2 :: vR 1 :: vI v4 :: vI v5 :: vI v6 :: vI v7 :: vI v8 :: vI v9 :: vI v10 :: vI v11 :: vI v12 :: vI v13 :: vU :: vU :: vU :: vU :: vU :: vU :: vU :: vU :: vU :: vU :: vU :: vU :: vU :: vU :: vU :: vU :: vU :: []) [] ([cI a] ++ Hb 1 s0) := by
 unfold f_law_335 at h
 refine WP.iconst (0 : Int32) at_335 rfl ?_
 exact WP.weak (L' := (vR 0 :: vI v1 :: vI v2 :: vR 1 :: vI v4 :: vI v5 :: vI v6 :: vI v7 :: vI v8 :: vI v9 :: vI v10 :: vI v11 :: vI v12 :: vI v13 :: vU :: vU :: vU :: vU :: vU :: vU :: vU :: vU :: vU :: vU :: vU :: vU :: vU :: vU :: vU :: vU :: vU :: [])) ⟨rfl, rfl, rfl, rfl, rfl, rfl, rfl, rfl, rfl, rfl, rfl, rfl, rfl, rfl, trivial⟩ (okLAW_336 l Z a0 hw n0 _ hk56 n v1 v2 v4 v5 v6 v7 v8 v9 v10 v11 v12 v13 (0 : Int32) a s0 _ h)
def f_law_554 (k56 : KT0) (n : Nat) (v1 v2 v5 v6 v7 v8 v9 v10 : Int32) (a : List Int32) (s0 : St) : Option (Int32) :=
 f_law_1058 k56 n v1 v2 (4 : Int32) v5 v6 v7 v8 v9 v10 a s0
theorem okLAW_554 (l : Launch) (Z : State) (a0 : Array Value) (hw : HW a0 Z) (n0 : Nat) (k56 : KT0) (hk56 : HKLAW_56 l Z n0 k56) (n : Nat) (v1 v2 v5 v6 v7 v8 v9 v10 : Int32) (a : List Int32) (s0 : St) (r : Int32) (h : f_law_554 k56 n v1 v2 v5 v6 v7 v8 v9 v10 a s0 = some r) : WLAW l Z n0 (PLAW r) 12 278 554 (vR 0 :: vI v1 :: vI v2 :: vR 1 :: vU :: vI v5 :: vI v6 :: vI v7 :: vI v8 :: vI v9 :: vI v10 :: vU :: vU :: vU :: vU :: vU :: vU :: vU :: vU :: vU :: vU :: vU :: vU :: vU :: vU :: vU :: vU :: vU :: vU :: vU :: vU :: []) [] ([cI a] ++ Hb 1 s0) := by
 unfold f_law_554 at h
 refine WP.iconst (4 : Int32) at_554 rfl ?_
 refine WP.istore (L' := (vR 0 :: vI v1 :: vI v2 :: vR 1 :: vI (4 : Int32) :: vI v5 :: vI v6 :: vI v7 :: vI v8 :: vI v9 :: vI v10 :: vU :: vU :: vU :: vU :: vU :: vU :: vU :: vU :: vU :: vU :: vU :: vU :: vU :: vU :: vU :: vU :: vU :: vU :: vU :: vU :: [])) at_555 (leb rfl) rfl ?_
 refine WP.goto (pc' := 1058) at_557 (by decide) rfl ?_
 exact WP.weak (L' := (vR 0 :: vI v1 :: vI v2 :: vR 1 :: vI (4 : Int32) :: vI v5 :: vI v6 :: vI v7 :: vI v8 :: vI v9 :: vI v10 :: vU :: vU :: vU :: vU :: vU :: vU :: vU :: vU :: vU :: vU :: vU :: vU :: vU :: vU :: vU :: vU :: vU :: vU :: vU :: vU :: [])) ⟨rfl, rfl, rfl, rfl, rfl, rfl, rfl, rfl, rfl, rfl, rfl, trivial⟩ (okLAW_1058 l Z a0 hw n0 _ hk56 n v1 v2 (4 : Int32) v5 v6 v7 v8 v9 v10 a s0 _ h)
def f_law_889 (k56 : KT0) (k811 : KT3) (n : Nat) (v1 v2 v4 v5 v6 v7 v8 v9 v10 v12 v13 : Int32) (v14 v16 v18 : Int64) (v20 : Int32) (a : List Int32) (s0 : St) : Option (Int32) :=
 lt (v20 + (1 : Int32)) fun x1 =>
 k811 v1 v2 v4 v5 v6 v7 v8 v9 v10 v12 v13 v14 v16 v18 x1 a s0
abbrev HKLAW_811 (l : Launch) (Z : State) (n0 : Nat) (k811 : KT3) : Prop := ∀ (v1 v2 v4 v5 v6 v7 v8 v9 v10 v12 v13 : Int32) (v14 v16 v18 : Int64) (v20 : Int32) (a : List Int32) (s0 : St) (r : Int32), k811 v1 v2 v4 v5 v6 v7 v8 v9 v10 v12 v13 v14 v16 v18 v20 a s0 = some r → WLAW l Z n0 (PLAW r) 12 278 811 (vR 0 :: vI v1 :: vI v2 :: vR 1 :: vI v4 :: vI v5 :: vI v6 :: vI v7 :: vI v8 :: vI v9 :: vI v10 :: vU :: vI v12 :: vI v13 :: vJ v14 :: vS :: vJ v16 :: vS :: vJ v18 :: vS :: vI v20 :: vU :: vU :: vU :: vU :: vU :: vU :: vU :: vU :: vU :: vU :: []) [] ([cI a] ++ Hb 1 s0)
theorem okLAW_889 (l : Launch) (Z : State) (a0 : Array Value) (hw : HW a0 Z) (n0 : Nat) (k56 : KT0) (hk56 : HKLAW_56 l Z n0 k56) (k811 : KT3) (hk811 : HKLAW_811 l Z n0 k811) (n : Nat) (v1 v2 v4 v5 v6 v7 v8 v9 v10 v12 v13 : Int32) (v14 v16 v18 : Int64) (v20 : Int32) (a : List Int32) (s0 : St) (r : Int32) (h : f_law_889 k56 k811 n v1 v2 v4 v5 v6 v7 v8 v9 v10 v12 v13 v14 v16 v18 v20 a s0 = some r) : WLAW l Z n0 (PLAW r) 12 278 889 (vR 0 :: vI v1 :: vI v2 :: vR 1 :: vI v4 :: vI v5 :: vI v6 :: vI v7 :: vI v8 :: vI v9 :: vI v10 :: vU :: vI v12 :: vI v13 :: vJ v14 :: vS :: vJ v16 :: vS :: vJ v18 :: vS :: vI v20 :: vU :: vU :: vU :: vU :: vU :: vU :: vU :: vU :: vU :: vU :: []) [] ([cI a] ++ Hb 1 s0) := by
 unfold f_law_889 at h
 obtain ⟨x1, ex1, h⟩ := lt_e h
 refine WP.iinc (L' := (vR 0 :: vI v1 :: vI v2 :: vR 1 :: vI v4 :: vI v5 :: vI v6 :: vI v7 :: vI v8 :: vI v9 :: vI v10 :: vU :: vI v12 :: vI v13 :: vJ v14 :: vS :: vJ v16 :: vS :: vJ v18 :: vS :: vI x1 :: vU :: vU :: vU :: vU :: vU :: vU :: vU :: vU :: vU :: vU :: [])) (1 : Int32) at_889 rfl rfl (by subst ex1; rfl) ?_
 refine WP.goto (pc' := 811) at_892 (by decide) rfl ?_
 exact WP.weak (L' := (vR 0 :: vI v1 :: vI v2 :: vR 1 :: vI v4 :: vI v5 :: vI v6 :: vI v7 :: vI v8 :: vI v9 :: vI v10 :: vU :: vI v12 :: vI v13 :: vJ v14 :: vS :: vJ v16 :: vS :: vJ v18 :: vS :: vI x1 :: vU :: vU :: vU :: vU :: vU :: vU :: vU :: vU :: vU :: vU :: [])) ⟨rfl, rfl, rfl, rfl, rfl, rfl, rfl, rfl, rfl, rfl, rfl, rfl, rfl, rfl, rfl, rfl, rfl, rfl, rfl, rfl, trivial⟩ (hk811 v1 v2 v4 v5 v6 v7 v8 v9 v10 v12 v13 v14 v16 v18 x1 a s0 _ h)
def f_law_1002 (k56 : KT0) (k924 : KT4) (n : Nat) (v1 v2 v4 v5 v6 v7 v8 v9 v10 v13 : Int32) (v14 v16 v18 : Int64) (v20 : Int32) (v21 v23 v25 : Int64) (v27 : Int32) (a : List Int32) (s0 : St) : Option (Int32) :=
 lt (v27 + (1 : Int32)) fun x1 =>
 k924 v1 v2 v4 v5 v6 v7 v8 v9 v10 v13 v14 v16 v18 v20 v21 v23 v25 x1 a s0
abbrev HKLAW_924 (l : Launch) (Z : State) (n0 : Nat) (k924 : KT4) : Prop := ∀ (v1 v2 v4 v5 v6 v7 v8 v9 v10 v13 : Int32) (v14 v16 v18 : Int64) (v20 : Int32) (v21 v23 v25 : Int64) (v27 : Int32) (a : List Int32) (s0 : St) (r : Int32), k924 v1 v2 v4 v5 v6 v7 v8 v9 v10 v13 v14 v16 v18 v20 v21 v23 v25 v27 a s0 = some r → WLAW l Z n0 (PLAW r) 12 278 924 (vR 0 :: vI v1 :: vI v2 :: vR 1 :: vI v4 :: vI v5 :: vI v6 :: vI v7 :: vI v8 :: vI v9 :: vI v10 :: vU :: vU :: vI v13 :: vJ v14 :: vS :: vJ v16 :: vS :: vJ v18 :: vS :: vI v20 :: vJ v21 :: vS :: vJ v23 :: vS :: vJ v25 :: vS :: vI v27 :: vU :: vU :: vU :: []) [] ([cI a] ++ Hb 1 s0)
theorem okLAW_1002 (l : Launch) (Z : State) (a0 : Array Value) (hw : HW a0 Z) (n0 : Nat) (k56 : KT0) (hk56 : HKLAW_56 l Z n0 k56) (k924 : KT4) (hk924 : HKLAW_924 l Z n0 k924) (n : Nat) (v1 v2 v4 v5 v6 v7 v8 v9 v10 v13 : Int32) (v14 v16 v18 : Int64) (v20 : Int32) (v21 v23 v25 : Int64) (v27 : Int32) (a : List Int32) (s0 : St) (r : Int32) (h : f_law_1002 k56 k924 n v1 v2 v4 v5 v6 v7 v8 v9 v10 v13 v14 v16 v18 v20 v21 v23 v25 v27 a s0 = some r) : WLAW l Z n0 (PLAW r) 12 278 1002 (vR 0 :: vI v1 :: vI v2 :: vR 1 :: vI v4 :: vI v5 :: vI v6 :: vI v7 :: vI v8 :: vI v9 :: vI v10 :: vU :: vU :: vI v13 :: vJ v14 :: vS :: vJ v16 :: vS :: vJ v18 :: vS :: vI v20 :: vJ v21 :: vS :: vJ v23 :: vS :: vJ v25 :: vS :: vI v27 :: vU :: vU :: vU :: []) [] ([cI a] ++ Hb 1 s0) := by
 unfold f_law_1002 at h
 obtain ⟨x1, ex1, h⟩ := lt_e h
 refine WP.iinc (L' := (vR 0 :: vI v1 :: vI v2 :: vR 1 :: vI v4 :: vI v5 :: vI v6 :: vI v7 :: vI v8 :: vI v9 :: vI v10 :: vU :: vU :: vI v13 :: vJ v14 :: vS :: vJ v16 :: vS :: vJ v18 :: vS :: vI v20 :: vJ v21 :: vS :: vJ v23 :: vS :: vJ v25 :: vS :: vI x1 :: vU :: vU :: vU :: [])) (1 : Int32) at_1002 rfl rfl (by subst ex1; rfl) ?_
 refine WP.goto (pc' := 924) at_1005 (by decide) rfl ?_
 exact WP.weak (L' := (vR 0 :: vI v1 :: vI v2 :: vR 1 :: vI v4 :: vI v5 :: vI v6 :: vI v7 :: vI v8 :: vI v9 :: vI v10 :: vU :: vU :: vI v13 :: vJ v14 :: vS :: vJ v16 :: vS :: vJ v18 :: vS :: vI v20 :: vJ v21 :: vS :: vJ v23 :: vS :: vJ v25 :: vS :: vI x1 :: vU :: vU :: vU :: [])) ⟨rfl, rfl, rfl, rfl, rfl, rfl, rfl, rfl, rfl, rfl, rfl, rfl, rfl, rfl, rfl, rfl, rfl, rfl, rfl, rfl, rfl, rfl, rfl, rfl, rfl, rfl, trivial⟩ (hk924 v1 v2 v4 v5 v6 v7 v8 v9 v10 v13 v14 v16 v18 v20 v21 v23 v25 x1 a s0 _ h)
def f_law_1032 (n : Nat) (a : List Int32) (s0 : St) : Option (Int32) :=
 some (0 : Int32)
theorem okLAW_1032 (l : Launch) (Z : State) (a0 : Array Value) (hw : HW a0 Z) (n0 n : Nat) (a : List Int32) (s0 : St) (r : Int32) (h : f_law_1032 n a s0 = some r) : WLAW l Z n0 (PLAW r) 12 278 1032 (vU :: vU :: vU :: vU :: vU :: vU :: vU :: vU :: vU :: vU :: vU :: vU :: vU :: vU :: vU :: vU :: vU :: vU :: vU :: vU :: vU :: vU :: vU :: vU :: vU :: vU :: vU :: vU :: vU :: vU :: vU :: []) [] ([cI a] ++ Hb 1 s0) := by
 unfold f_law_1032 at h
 refine WP.iconst (0 : Int32) at_1032 rfl ?_
 cases h
 exact WP.zreturn at_1033 rfl (leb rfl) (leb rfl) rfl
def g_law_924 (k56 : KT0) (k924 : KT4) (n : Nat) (v1 v2 v4 v5 v6 v7 v8 v9 v10 v13 : Int32) (v14 v16 v18 : Int64) (v20 : Int32) (v21 v23 v25 : Int64) (v27 : Int32) (a : List Int32) (s0 : St) : Option (Int32) :=
 if v27 < v6 then
  (f_getValue v27 s0).bind fun c2 =>
  lt (c2.toInt64 + (100000 : Int64)) fun x3 =>
  lt ((18 : Int32) * (v27 % (3 : Int32))) fun x4 =>
  if v27 < (3 : Int32) then
   lt (v21 ||| (x3 <<< (x4.toInt64 &&& 63))) fun x6 =>
   f_law_1002 k56 k924 n v1 v2 v4 v5 v6 v7 v8 v9 v10 v13 v14 v16 v18 v20 x6 v23 v25 v27 a s0
  else
   if v27 < (6 : Int32) then
    lt (v23 ||| (x3 <<< (x4.toInt64 &&& 63))) fun x8 =>
    f_law_1002 k56 k924 n v1 v2 v4 v5 v6 v7 v8 v9 v10 v13 v14 v16 v18 v20 v21 x8 v25 v27 a s0
   else
    lt (v25 ||| (x3 <<< (x4.toInt64 &&& 63))) fun x9 =>
    f_law_1002 k56 k924 n v1 v2 v4 v5 v6 v7 v8 v9 v10 v13 v14 v16 v18 v20 v21 v23 x9 v27 a s0
 else
  if v21 = v14 then
   if v23 = v16 then
    if v25 = v18 then
     (f_getSizeErrors s0).bind fun c13 =>
     if c13 = (v20 + (1 : Int32)) then
      (f_getPc s0).bind fun c15 =>
      if c15 = v13 then
       f_law_1058 k56 n v1 v2 v4 v5 v6 v7 v8 v9 v10 a s0
      else
       some (0 : Int32)
     else
      some (0 : Int32)
    else
     f_law_1032 n a s0
   else
    f_law_1032 n a s0
  else
   f_law_1032 n a s0
theorem okgLAW_924 (l : Launch) (Z : State) (a0 : Array Value) (hw : HW a0 Z) (n0 : Nat) (k56 : KT0) (hk56 : HKLAW_56 l Z n0 k56) (k924 : KT4) (hk924 : HKLAW_924 l Z n0 k924) (n : Nat) (v1 v2 v4 v5 v6 v7 v8 v9 v10 v13 : Int32) (v14 v16 v18 : Int64) (v20 : Int32) (v21 v23 v25 : Int64) (v27 : Int32) (a : List Int32) (s0 : St) (r : Int32) (h : g_law_924 k56 k924 n v1 v2 v4 v5 v6 v7 v8 v9 v10 v13 v14 v16 v18 v20 v21 v23 v25 v27 a s0 = some r) : WLAW l Z n0 (PLAW r) 12 278 924 (vR 0 :: vI v1 :: vI v2 :: vR 1 :: vI v4 :: vI v5 :: vI v6 :: vI v7 :: vI v8 :: vI v9 :: vI v10 :: vU :: vU :: vI v13 :: vJ v14 :: vS :: vJ v16 :: vS :: vJ v18 :: vS :: vI v20 :: vJ v21 :: vS :: vJ v23 :: vS :: vJ v25 :: vS :: vI v27 :: vU :: vU :: vU :: []) [] ([cI a] ++ Hb 1 s0) := by
 unfold g_law_924 at h
 refine WP.iload at_924 rfl ?_
 refine WP.iload at_926 rfl ?_
 rcases ite_e h with ⟨hc1, h⟩ | ⟨hc1, h⟩
 ·
  refine WP.icmpN at_928 (XT.ii_ge_f hc1) ?_
  refine WP.aloadN at_931 rfl ?_
  refine WP.iload at_932 rfl ?_
  obtain ⟨c2, hc2, h⟩ := bd h
  refine WP.callV (i := 1) (y := y8) (as := [.int v27]) (S := []) at_934 (hw _ m_80) (hw _ m_81) (hw _ m_83) (hw _ m_82) (hw _ m_84) (hw _ m_6) hy8 rfl (CS.frame (ro := 1) (H := ([cI a] ++ Hb 1 s0)) (as := [.ref 1, .int v27]) fr2_f (ok8 l Z a0 hw v27 s0 _ hc2) rfl (by decide) (fr2_l a s0) (fr2_c a s0) (by decide) rfl) rfl (lenOf pd8 rfl) (leb rfl) (leb rfl) (leb rfl) (leb rfl) ?_
  rintro _ _ ⟨_, _, ⟨rfl, rfl⟩, rfl, rfl⟩
  rw [fr2_p a s0 s0]
  show WLAW l Z n0 (PLAW r) 12 278 937 (vR 0 :: vI v1 :: vI v2 :: vR 1 :: vI v4 :: vI v5 :: vI v6 :: vI v7 :: vI v8 :: vI v9 :: vI v10 :: vU :: vU :: vI v13 :: vJ v14 :: vS :: vJ v16 :: vS :: vJ v18 :: vS :: vI v20 :: vJ v21 :: vS :: vJ v23 :: vS :: vJ v25 :: vS :: vI v27 :: vU :: vU :: vU :: []) [.int c2] ([cI a] ++ Hb 1 s0)
  refine WP.i2l at_937 ?_
  refine WP.ldc2 at_938 (hw _ m_168) ?_
  refine WP.ladd at_941 ?_
  obtain ⟨x3, ex3, h⟩ := lt_e h
  refine WP.lstore (L' := (vR 0 :: vI v1 :: vI v2 :: vR 1 :: vI v4 :: vI v5 :: vI v6 :: vI v7 :: vI v8 :: vI v9 :: vI v10 :: vU :: vU :: vI v13 :: vJ v14 :: vS :: vJ v16 :: vS :: vJ v18 :: vS :: vI v20 :: vJ v21 :: vS :: vJ v23 :: vS :: vJ v25 :: vS :: vI v27 :: vJ x3 :: vS :: vU :: [])) at_942 (leb rfl) (by subst ex3; rfl) ?_
  refine WP.bipush (18 : Int32) at_944 rfl ?_
  refine WP.iload at_946 rfl ?_
  refine WP.iconst (3 : Int32) at_948 rfl ?_
  refine WP.irem at_949 (by decide) ?_
  refine WP.imul at_950 ?_
  obtain ⟨x4, ex4, h⟩ := lt_e h
  refine WP.istore (L' := (vR 0 :: vI v1 :: vI v2 :: vR 1 :: vI v4 :: vI v5 :: vI v6 :: vI v7 :: vI v8 :: vI v9 :: vI v10 :: vU :: vU :: vI v13 :: vJ v14 :: vS :: vJ v16 :: vS :: vJ v18 :: vS :: vI v20 :: vJ v21 :: vS :: vJ v23 :: vS :: vJ v25 :: vS :: vI v27 :: vJ x3 :: vS :: vI x4 :: [])) at_951 (leb rfl) (by subst ex4; rfl) ?_
  refine WP.iload at_953 rfl ?_
  refine WP.iconst (3 : Int32) at_955 rfl ?_
  rcases ite_e h with ⟨hc5, h⟩ | ⟨hc5, h⟩
  ·
   refine WP.icmpN at_956 (XT.ii_ge_f hc5) ?_
   refine WP.lload at_959 rfl ?_
   refine WP.lload at_961 rfl ?_
   refine WP.iload at_963 rfl ?_
   refine WP.lshl at_965 ?_
   refine WP.lor at_966 ?_
   obtain ⟨x6, ex6, h⟩ := lt_e h
   refine WP.lstore (L' := (vR 0 :: vI v1 :: vI v2 :: vR 1 :: vI v4 :: vI v5 :: vI v6 :: vI v7 :: vI v8 :: vI v9 :: vI v10 :: vU :: vU :: vI v13 :: vJ v14 :: vS :: vJ v16 :: vS :: vJ v18 :: vS :: vI v20 :: vJ x6 :: vS :: vJ v23 :: vS :: vJ v25 :: vS :: vI v27 :: vJ x3 :: vS :: vI x4 :: [])) at_967 (leb rfl) (by subst ex6; rfl) ?_
   refine WP.goto (pc' := 1002) at_969 (by decide) rfl ?_
   exact WP.weak (L' := (vR 0 :: vI v1 :: vI v2 :: vR 1 :: vI v4 :: vI v5 :: vI v6 :: vI v7 :: vI v8 :: vI v9 :: vI v10 :: vU :: vU :: vI v13 :: vJ v14 :: vS :: vJ v16 :: vS :: vJ v18 :: vS :: vI v20 :: vJ x6 :: vS :: vJ v23 :: vS :: vJ v25 :: vS :: vI v27 :: vU :: vU :: vU :: [])) ⟨rfl, rfl, rfl, rfl, rfl, rfl, rfl, rfl, rfl, rfl, rfl, rfl, rfl, rfl, rfl, rfl, rfl, rfl, rfl, rfl, rfl, rfl, rfl, rfl, rfl, rfl, trivial⟩ (okLAW_1002 l Z a0 hw n0 _ hk56 _ hk924 n v1 v2 v4 v5 v6 v7 v8 v9 v10 v13 v14 v16 v18 v20 x6 v23 v25 v27 a s0 _ h)
  ·
   refine WP.icmpY (pc' := 972) at_956 (XT.ii_ge_t hc5) (by decide) rfl ?_
   refine WP.iload at_972 rfl ?_
   refine WP.bipush (6 : Int32) at_974 rfl ?_
   rcases ite_e h with ⟨hc7, h⟩ | ⟨hc7, h⟩
   ·
    refine WP.icmpN at_976 (XT.ii_ge_f hc7) ?_
    refine WP.lload at_979 rfl ?_
    refine WP.lload at_981 rfl ?_
    refine WP.iload at_983 rfl ?_
    refine WP.lshl at_985 ?_
    refine WP.lor at_986 ?_
    obtain ⟨x8, ex8, h⟩ := lt_e h
    refine WP.lstore (L' := (vR 0 :: vI v1 :: vI v2 :: vR 1 :: vI v4 :: vI v5 :: vI v6 :: vI v7 :: vI v8 :: vI v9 :: vI v10 :: vU :: vU :: vI v13 :: vJ v14 :: vS :: vJ v16 :: vS :: vJ v18 :: vS :: vI v20 :: vJ v21 :: vS :: vJ x8 :: vS :: vJ v25 :: vS :: vI v27 :: vJ x3 :: vS :: vI x4 :: [])) at_987 (leb rfl) (by subst ex8; rfl) ?_
    refine WP.goto (pc' := 1002) at_989 (by decide) rfl ?_
    exact WP.weak (L' := (vR 0 :: vI v1 :: vI v2 :: vR 1 :: vI v4 :: vI v5 :: vI v6 :: vI v7 :: vI v8 :: vI v9 :: vI v10 :: vU :: vU :: vI v13 :: vJ v14 :: vS :: vJ v16 :: vS :: vJ v18 :: vS :: vI v20 :: vJ v21 :: vS :: vJ x8 :: vS :: vJ v25 :: vS :: vI v27 :: vU :: vU :: vU :: [])) ⟨rfl, rfl, rfl, rfl, rfl, rfl, rfl, rfl, rfl, rfl, rfl, rfl, rfl, rfl, rfl, rfl, rfl, rfl, rfl, rfl, rfl, rfl, rfl, rfl, rfl, rfl, trivial⟩ (okLAW_1002 l Z a0 hw n0 _ hk56 _ hk924 n v1 v2 v4 v5 v6 v7 v8 v9 v10 v13 v14 v16 v18 v20 v21 x8 v25 v27 a s0 _ h)
   ·
    refine WP.icmpY (pc' := 992) at_976 (XT.ii_ge_t hc7) (by decide) rfl ?_
    refine WP.lload at_992 rfl ?_
    refine WP.lload at_994 rfl ?_
    refine WP.iload at_996 rfl ?_
    refine WP.lshl at_998 ?_
    refine WP.lor at_999 ?_
    obtain ⟨x9, ex9, h⟩ := lt_e h
    refine WP.lstore (L' := (vR 0 :: vI v1 :: vI v2 :: vR 1 :: vI v4 :: vI v5 :: vI v6 :: vI v7 :: vI v8 :: vI v9 :: vI v10 :: vU :: vU :: vI v13 :: vJ v14 :: vS :: vJ v16 :: vS :: vJ v18 :: vS :: vI v20 :: vJ v21 :: vS :: vJ v23 :: vS :: vJ x9 :: vS :: vI v27 :: vJ x3 :: vS :: vI x4 :: [])) at_1000 (leb rfl) (by subst ex9; rfl) ?_
    exact WP.weak (L' := (vR 0 :: vI v1 :: vI v2 :: vR 1 :: vI v4 :: vI v5 :: vI v6 :: vI v7 :: vI v8 :: vI v9 :: vI v10 :: vU :: vU :: vI v13 :: vJ v14 :: vS :: vJ v16 :: vS :: vJ v18 :: vS :: vI v20 :: vJ v21 :: vS :: vJ v23 :: vS :: vJ x9 :: vS :: vI v27 :: vU :: vU :: vU :: [])) ⟨rfl, rfl, rfl, rfl, rfl, rfl, rfl, rfl, rfl, rfl, rfl, rfl, rfl, rfl, rfl, rfl, rfl, rfl, rfl, rfl, rfl, rfl, rfl, rfl, rfl, rfl, trivial⟩ (okLAW_1002 l Z a0 hw n0 _ hk56 _ hk924 n v1 v2 v4 v5 v6 v7 v8 v9 v10 v13 v14 v16 v18 v20 v21 v23 x9 v27 a s0 _ h)
 ·
  refine WP.icmpY (pc' := 1008) at_928 (XT.ii_ge_t hc1) (by decide) rfl ?_
  refine WP.lload at_1008 rfl ?_
  refine WP.lload at_1010 rfl ?_
  refine WP.lcmp at_1012 ?_
  rcases ite_e h with ⟨hc10, h⟩ | ⟨hc10, h⟩
  ·
   refine WP.ifN at_1013 (XT.ll_ne_f hc10) ?_
   refine WP.lload at_1016 rfl ?_
   refine WP.lload at_1018 rfl ?_
   refine WP.lcmp at_1020 ?_
   rcases ite_e h with ⟨hc11, h⟩ | ⟨hc11, h⟩
   ·
    refine WP.ifN at_1021 (XT.ll_ne_f hc11) ?_
    refine WP.lload at_1024 rfl ?_
    refine WP.lload at_1026 rfl ?_
    refine WP.lcmp at_1028 ?_
    rcases ite_e h with ⟨hc12, h⟩ | ⟨hc12, h⟩
    ·
     refine WP.ifY (pc' := 1034) at_1029 (XT.ll_eq_t hc12) (by decide) rfl ?_
     refine WP.aloadN at_1034 rfl ?_
     obtain ⟨c13, hc13, h⟩ := bd h
     refine WP.callV (i := 1) (y := y29) (as := []) (S := []) at_1035 (hw _ m_169) (hw _ m_170) (hw _ m_172) (hw _ m_171) (hw _ m_173) (hw _ m_6) hy29 rfl (CS.frame (ro := 1) (H := ([cI a] ++ Hb 1 s0)) (as := [.ref 1]) fr2_f (ok29 l Z a0 hw s0 _ hc13) rfl (by decide) (fr2_l a s0) (fr2_c a s0) (by decide) rfl) rfl (lenOf pd29 rfl) (leb rfl) (leb rfl) (leb rfl) (leb rfl) ?_
     rintro _ _ ⟨_, _, ⟨rfl, rfl⟩, rfl, rfl⟩
     rw [fr2_p a s0 s0]
     show WLAW l Z n0 (PLAW r) 12 278 1038 (vR 0 :: vI v1 :: vI v2 :: vR 1 :: vI v4 :: vI v5 :: vI v6 :: vI v7 :: vI v8 :: vI v9 :: vI v10 :: vU :: vU :: vI v13 :: vJ v14 :: vS :: vJ v16 :: vS :: vJ v18 :: vS :: vI v20 :: vJ v21 :: vS :: vJ v23 :: vS :: vJ v25 :: vS :: vI v27 :: vU :: vU :: vU :: []) [.int c13] ([cI a] ++ Hb 1 s0)
     refine WP.iload at_1038 rfl ?_
     refine WP.iconst (1 : Int32) at_1040 rfl ?_
     refine WP.iadd at_1041 ?_
     rcases ite_e h with ⟨hc14, h⟩ | ⟨hc14, h⟩
     ·
      refine WP.icmpY (pc' := 1047) at_1042 (XT.ii_eq_t hc14) (by decide) rfl ?_
      refine WP.aloadN at_1047 rfl ?_
      obtain ⟨c15, hc15, h⟩ := bd h
      refine WP.callV (i := 1) (y := y27) (as := []) (S := []) at_1048 (hw _ m_160) (hw _ m_161) (hw _ m_163) (hw _ m_162) (hw _ m_164) (hw _ m_6) hy27 rfl (CS.frame (ro := 1) (H := ([cI a] ++ Hb 1 s0)) (as := [.ref 1]) fr2_f (ok27 l Z a0 hw s0 _ hc15) rfl (by decide) (fr2_l a s0) (fr2_c a s0) (by decide) rfl) rfl (lenOf pd27 rfl) (leb rfl) (leb rfl) (leb rfl) (leb rfl) ?_
      rintro _ _ ⟨_, _, ⟨rfl, rfl⟩, rfl, rfl⟩
      rw [fr2_p a s0 s0]
      show WLAW l Z n0 (PLAW r) 12 278 1051 (vR 0 :: vI v1 :: vI v2 :: vR 1 :: vI v4 :: vI v5 :: vI v6 :: vI v7 :: vI v8 :: vI v9 :: vI v10 :: vU :: vU :: vI v13 :: vJ v14 :: vS :: vJ v16 :: vS :: vJ v18 :: vS :: vI v20 :: vJ v21 :: vS :: vJ v23 :: vS :: vJ v25 :: vS :: vI v27 :: vU :: vU :: vU :: []) [.int c15] ([cI a] ++ Hb 1 s0)
      refine WP.iload at_1051 rfl ?_
      rcases ite_e h with ⟨hc16, h⟩ | ⟨hc16, h⟩
      ·
       refine WP.icmpY (pc' := 1058) at_1053 (XT.ii_eq_t hc16) (by decide) rfl ?_
       exact WP.weak (L' := (vR 0 :: vI v1 :: vI v2 :: vR 1 :: vI v4 :: vI v5 :: vI v6 :: vI v7 :: vI v8 :: vI v9 :: vI v10 :: vU :: vU :: vU :: vU :: vU :: vU :: vU :: vU :: vU :: vU :: vU :: vU :: vU :: vU :: vU :: vU :: vU :: vU :: vU :: vU :: [])) ⟨rfl, rfl, rfl, rfl, rfl, rfl, rfl, rfl, rfl, rfl, rfl, trivial⟩ (okLAW_1058 l Z a0 hw n0 _ hk56 n v1 v2 v4 v5 v6 v7 v8 v9 v10 a s0 _ h)
      ·
       refine WP.icmpN at_1053 (XT.ii_eq_f hc16) ?_
       refine WP.iconst (0 : Int32) at_1056 rfl ?_
       cases h
       exact WP.zreturn at_1057 rfl (leb rfl) (leb rfl) rfl
     ·
      refine WP.icmpN at_1042 (XT.ii_eq_f hc14) ?_
      refine WP.iconst (0 : Int32) at_1045 rfl ?_
      cases h
      exact WP.zreturn at_1046 rfl (leb rfl) (leb rfl) rfl
    ·
     refine WP.ifN at_1029 (XT.ll_eq_f hc12) ?_
     exact WP.weak (L' := (vU :: vU :: vU :: vU :: vU :: vU :: vU :: vU :: vU :: vU :: vU :: vU :: vU :: vU :: vU :: vU :: vU :: vU :: vU :: vU :: vU :: vU :: vU :: vU :: vU :: vU :: vU :: vU :: vU :: vU :: vU :: [])) trivial (okLAW_1032 l Z a0 hw n0 n a s0 _ h)
   ·
    refine WP.ifY (pc' := 1032) at_1021 (XT.ll_ne_t hc11) (by decide) rfl ?_
    exact WP.weak (L' := (vU :: vU :: vU :: vU :: vU :: vU :: vU :: vU :: vU :: vU :: vU :: vU :: vU :: vU :: vU :: vU :: vU :: vU :: vU :: vU :: vU :: vU :: vU :: vU :: vU :: vU :: vU :: vU :: vU :: vU :: vU :: [])) trivial (okLAW_1032 l Z a0 hw n0 n a s0 _ h)
  ·
   refine WP.ifY (pc' := 1032) at_1013 (XT.ll_ne_t hc10) (by decide) rfl ?_
   exact WP.weak (L' := (vU :: vU :: vU :: vU :: vU :: vU :: vU :: vU :: vU :: vU :: vU :: vU :: vU :: vU :: vU :: vU :: vU :: vU :: vU :: vU :: vU :: vU :: vU :: vU :: vU :: vU :: vU :: vU :: vU :: vU :: vU :: [])) trivial (okLAW_1032 l Z a0 hw n0 n a s0 _ h)
def f_law_924 (k56 : KT0) : Nat → Int32 → Int32 → Int32 → Int32 → Int32 → Int32 → Int32 → Int32 → Int32 → Int32 → Int64 → Int64 → Int64 → Int32 → Int64 → Int64 → Int64 → Int32 → List Int32 → St → Option (Int32)
 | 0 => fun _ _ _ _ _ _ _ _ _ _ _ _ _ _ _ _ _ _ _ _ => none
 | n + 1 => g_law_924 k56 (f_law_924 k56 n) n
theorem okLAW_924 (l : Launch) (Z : State) (a0 : Array Value) (hw : HW a0 Z) (n0 : Nat) (k56 : KT0) (hk56 : HKLAW_56 l Z n0 k56) : ∀ (n : Nat) (v1 v2 v4 v5 v6 v7 v8 v9 v10 v13 : Int32) (v14 v16 v18 : Int64) (v20 : Int32) (v21 v23 v25 : Int64) (v27 : Int32) (a : List Int32) (s0 : St) (r : Int32), f_law_924 k56 n v1 v2 v4 v5 v6 v7 v8 v9 v10 v13 v14 v16 v18 v20 v21 v23 v25 v27 a s0 = some r → WLAW l Z n0 (PLAW r) 12 278 924 (vR 0 :: vI v1 :: vI v2 :: vR 1 :: vI v4 :: vI v5 :: vI v6 :: vI v7 :: vI v8 :: vI v9 :: vI v10 :: vU :: vU :: vI v13 :: vJ v14 :: vS :: vJ v16 :: vS :: vJ v18 :: vS :: vI v20 :: vJ v21 :: vS :: vJ v23 :: vS :: vJ v25 :: vS :: vI v27 :: vU :: vU :: vU :: []) [] ([cI a] ++ Hb 1 s0)
 | 0, v1, v2, v4, v5, v6, v7, v8, v9, v10, v13, v14, v16, v18, v20, v21, v23, v25, v27, a, s0, r, h => nomatch (show none = some r from h)
 | n + 1, v1, v2, v4, v5, v6, v7, v8, v9, v10, v13, v14, v16, v18, v20, v21, v23, v25, v27, a, s0, r, h => okgLAW_924 l Z a0 hw n0 _ hk56 _ (okLAW_924 l Z a0 hw n0 k56 hk56 n) n v1 v2 v4 v5 v6 v7 v8 v9 v10 v13 v14 v16 v18 v20 v21 v23 v25 v27 a s0 r h
def g_law_811 (k56 : KT0) (k811 : KT3) (n : Nat) (v1 v2 v4 v5 v6 v7 v8 v9 v10 v12 v13 : Int32) (v14 v16 v18 : Int64) (v20 : Int32) (a : List Int32) (s0 : St) : Option (Int32) :=
 if v20 < v6 then
  (f_getValue v20 s0).bind fun c2 =>
  lt (c2.toInt64 + (100000 : Int64)) fun x3 =>
  lt ((18 : Int32) * (v20 % (3 : Int32))) fun x4 =>
  if v20 < (3 : Int32) then
   lt (v14 ||| (x3 <<< (x4.toInt64 &&& 63))) fun x6 =>
   f_law_889 k56 k811 n v1 v2 v4 v5 v6 v7 v8 v9 v10 v12 v13 x6 v16 v18 v20 a s0
  else
   if v20 < (6 : Int32) then
    lt (v16 ||| (x3 <<< (x4.toInt64 &&& 63))) fun x8 =>
    f_law_889 k56 k811 n v1 v2 v4 v5 v6 v7 v8 v9 v10 v12 v13 v14 x8 v18 v20 a s0
   else
    lt (v18 ||| (x3 <<< (x4.toInt64 &&& 63))) fun x9 =>
    f_law_889 k56 k811 n v1 v2 v4 v5 v6 v7 v8 v9 v10 v12 v13 v14 v16 x9 v20 a s0
 else
  (f_getSizeErrors s0).bind fun c10 =>
  (f_run n (1 : Int32) s0).bind fun c11 =>
  if v12 = 0 then
   f_law_1058 k56 n v1 v2 v4 v5 v6 v7 v8 v9 v10 a c11.2
  else
   f_law_924 k56 n v1 v2 v4 v5 v6 v7 v8 v9 v10 v13 v14 v16 v18 c10 (0 : Int64) (0 : Int64) (0 : Int64) (0 : Int32) a c11.2
theorem okgLAW_811 (l : Launch) (Z : State) (a0 : Array Value) (hw : HW a0 Z) (n0 : Nat) (k56 : KT0) (hk56 : HKLAW_56 l Z n0 k56) (k811 : KT3) (hk811 : HKLAW_811 l Z n0 k811) (n : Nat) (v1 v2 v4 v5 v6 v7 v8 v9 v10 v12 v13 : Int32) (v14 v16 v18 : Int64) (v20 : Int32) (a : List Int32) (s0 : St) (r : Int32) (h : g_law_811 k56 k811 n v1 v2 v4 v5 v6 v7 v8 v9 v10 v12 v13 v14 v16 v18 v20 a s0 = some r) : WLAW l Z n0 (PLAW r) 12 278 811 (vR 0 :: vI v1 :: vI v2 :: vR 1 :: vI v4 :: vI v5 :: vI v6 :: vI v7 :: vI v8 :: vI v9 :: vI v10 :: vU :: vI v12 :: vI v13 :: vJ v14 :: vS :: vJ v16 :: vS :: vJ v18 :: vS :: vI v20 :: vU :: vU :: vU :: vU :: vU :: vU :: vU :: vU :: vU :: vU :: []) [] ([cI a] ++ Hb 1 s0) := by
 unfold g_law_811 at h
 refine WP.iload at_811 rfl ?_
 refine WP.iload at_813 rfl ?_
 rcases ite_e h with ⟨hc1, h⟩ | ⟨hc1, h⟩
 ·
  refine WP.icmpN at_815 (XT.ii_ge_f hc1) ?_
  refine WP.aloadN at_818 rfl ?_
  refine WP.iload at_819 rfl ?_
  obtain ⟨c2, hc2, h⟩ := bd h
  refine WP.callV (i := 1) (y := y8) (as := [.int v20]) (S := []) at_821 (hw _ m_80) (hw _ m_81) (hw _ m_83) (hw _ m_82) (hw _ m_84) (hw _ m_6) hy8 rfl (CS.frame (ro := 1) (H := ([cI a] ++ Hb 1 s0)) (as := [.ref 1, .int v20]) fr2_f (ok8 l Z a0 hw v20 s0 _ hc2) rfl (by decide) (fr2_l a s0) (fr2_c a s0) (by decide) rfl) rfl (lenOf pd8 rfl) (leb rfl) (leb rfl) (leb rfl) (leb rfl) ?_
  rintro _ _ ⟨_, _, ⟨rfl, rfl⟩, rfl, rfl⟩
  rw [fr2_p a s0 s0]
  show WLAW l Z n0 (PLAW r) 12 278 824 (vR 0 :: vI v1 :: vI v2 :: vR 1 :: vI v4 :: vI v5 :: vI v6 :: vI v7 :: vI v8 :: vI v9 :: vI v10 :: vU :: vI v12 :: vI v13 :: vJ v14 :: vS :: vJ v16 :: vS :: vJ v18 :: vS :: vI v20 :: vU :: vU :: vU :: vU :: vU :: vU :: vU :: vU :: vU :: vU :: []) [.int c2] ([cI a] ++ Hb 1 s0)
  refine WP.i2l at_824 ?_
  refine WP.ldc2 at_825 (hw _ m_168) ?_
  refine WP.ladd at_828 ?_
  obtain ⟨x3, ex3, h⟩ := lt_e h
  refine WP.lstore (L' := (vR 0 :: vI v1 :: vI v2 :: vR 1 :: vI v4 :: vI v5 :: vI v6 :: vI v7 :: vI v8 :: vI v9 :: vI v10 :: vU :: vI v12 :: vI v13 :: vJ v14 :: vS :: vJ v16 :: vS :: vJ v18 :: vS :: vI v20 :: vJ x3 :: vS :: vU :: vU :: vU :: vU :: vU :: vU :: vU :: vU :: [])) at_829 (leb rfl) (by subst ex3; rfl) ?_
  refine WP.bipush (18 : Int32) at_831 rfl ?_
  refine WP.iload at_833 rfl ?_
  refine WP.iconst (3 : Int32) at_835 rfl ?_
  refine WP.irem at_836 (by decide) ?_
  refine WP.imul at_837 ?_
  obtain ⟨x4, ex4, h⟩ := lt_e h
  refine WP.istore (L' := (vR 0 :: vI v1 :: vI v2 :: vR 1 :: vI v4 :: vI v5 :: vI v6 :: vI v7 :: vI v8 :: vI v9 :: vI v10 :: vU :: vI v12 :: vI v13 :: vJ v14 :: vS :: vJ v16 :: vS :: vJ v18 :: vS :: vI v20 :: vJ x3 :: vS :: vI x4 :: vU :: vU :: vU :: vU :: vU :: vU :: vU :: [])) at_838 (leb rfl) (by subst ex4; rfl) ?_
  refine WP.iload at_840 rfl ?_
  refine WP.iconst (3 : Int32) at_842 rfl ?_
  rcases ite_e h with ⟨hc5, h⟩ | ⟨hc5, h⟩
  ·
   refine WP.icmpN at_843 (XT.ii_ge_f hc5) ?_
   refine WP.lload at_846 rfl ?_
   refine WP.lload at_848 rfl ?_
   refine WP.iload at_850 rfl ?_
   refine WP.lshl at_852 ?_
   refine WP.lor at_853 ?_
   obtain ⟨x6, ex6, h⟩ := lt_e h
   refine WP.lstore (L' := (vR 0 :: vI v1 :: vI v2 :: vR 1 :: vI v4 :: vI v5 :: vI v6 :: vI v7 :: vI v8 :: vI v9 :: vI v10 :: vU :: vI v12 :: vI v13 :: vJ x6 :: vS :: vJ v16 :: vS :: vJ v18 :: vS :: vI v20 :: vJ x3 :: vS :: vI x4 :: vU :: vU :: vU :: vU :: vU :: vU :: vU :: [])) at_854 (leb rfl) (by subst ex6; rfl) ?_
   refine WP.goto (pc' := 889) at_856 (by decide) rfl ?_
   exact WP.weak (L' := (vR 0 :: vI v1 :: vI v2 :: vR 1 :: vI v4 :: vI v5 :: vI v6 :: vI v7 :: vI v8 :: vI v9 :: vI v10 :: vU :: vI v12 :: vI v13 :: vJ x6 :: vS :: vJ v16 :: vS :: vJ v18 :: vS :: vI v20 :: vU :: vU :: vU :: vU :: vU :: vU :: vU :: vU :: vU :: vU :: [])) ⟨rfl, rfl, rfl, rfl, rfl, rfl, rfl, rfl, rfl, rfl, rfl, rfl, rfl, rfl, rfl, rfl, rfl, rfl, rfl, rfl, trivial⟩ (okLAW_889 l Z a0 hw n0 _ hk56 _ hk811 n v1 v2 v4 v5 v6 v7 v8 v9 v10 v12 v13 x6 v16 v18 v20 a s0 _ h)
  ·
   refine WP.icmpY (pc' := 859) at_843 (XT.ii_ge_t hc5) (by decide) rfl ?_
   refine WP.iload at_859 rfl ?_
   refine WP.bipush (6 : Int32) at_861 rfl ?_
   rcases ite_e h with ⟨hc7, h⟩ | ⟨hc7, h⟩
   ·
    refine WP.icmpN at_863 (XT.ii_ge_f hc7) ?_
    refine WP.lload at_866 rfl ?_
    refine WP.lload at_868 rfl ?_
    refine WP.iload at_870 rfl ?_
    refine WP.lshl at_872 ?_
    refine WP.lor at_873 ?_
    obtain ⟨x8, ex8, h⟩ := lt_e h
    refine WP.lstore (L' := (vR 0 :: vI v1 :: vI v2 :: vR 1 :: vI v4 :: vI v5 :: vI v6 :: vI v7 :: vI v8 :: vI v9 :: vI v10 :: vU :: vI v12 :: vI v13 :: vJ v14 :: vS :: vJ x8 :: vS :: vJ v18 :: vS :: vI v20 :: vJ x3 :: vS :: vI x4 :: vU :: vU :: vU :: vU :: vU :: vU :: vU :: [])) at_874 (leb rfl) (by subst ex8; rfl) ?_
    refine WP.goto (pc' := 889) at_876 (by decide) rfl ?_
    exact WP.weak (L' := (vR 0 :: vI v1 :: vI v2 :: vR 1 :: vI v4 :: vI v5 :: vI v6 :: vI v7 :: vI v8 :: vI v9 :: vI v10 :: vU :: vI v12 :: vI v13 :: vJ v14 :: vS :: vJ x8 :: vS :: vJ v18 :: vS :: vI v20 :: vU :: vU :: vU :: vU :: vU :: vU :: vU :: vU :: vU :: vU :: [])) ⟨rfl, rfl, rfl, rfl, rfl, rfl, rfl, rfl, rfl, rfl, rfl, rfl, rfl, rfl, rfl, rfl, rfl, rfl, rfl, rfl, trivial⟩ (okLAW_889 l Z a0 hw n0 _ hk56 _ hk811 n v1 v2 v4 v5 v6 v7 v8 v9 v10 v12 v13 v14 x8 v18 v20 a s0 _ h)
   ·
    refine WP.icmpY (pc' := 879) at_863 (XT.ii_ge_t hc7) (by decide) rfl ?_
    refine WP.lload at_879 rfl ?_
    refine WP.lload at_881 rfl ?_
    refine WP.iload at_883 rfl ?_
    refine WP.lshl at_885 ?_
    refine WP.lor at_886 ?_
    obtain ⟨x9, ex9, h⟩ := lt_e h
    refine WP.lstore (L' := (vR 0 :: vI v1 :: vI v2 :: vR 1 :: vI v4 :: vI v5 :: vI v6 :: vI v7 :: vI v8 :: vI v9 :: vI v10 :: vU :: vI v12 :: vI v13 :: vJ v14 :: vS :: vJ v16 :: vS :: vJ x9 :: vS :: vI v20 :: vJ x3 :: vS :: vI x4 :: vU :: vU :: vU :: vU :: vU :: vU :: vU :: [])) at_887 (leb rfl) (by subst ex9; rfl) ?_
    exact WP.weak (L' := (vR 0 :: vI v1 :: vI v2 :: vR 1 :: vI v4 :: vI v5 :: vI v6 :: vI v7 :: vI v8 :: vI v9 :: vI v10 :: vU :: vI v12 :: vI v13 :: vJ v14 :: vS :: vJ v16 :: vS :: vJ x9 :: vS :: vI v20 :: vU :: vU :: vU :: vU :: vU :: vU :: vU :: vU :: vU :: vU :: [])) ⟨rfl, rfl, rfl, rfl, rfl, rfl, rfl, rfl, rfl, rfl, rfl, rfl, rfl, rfl, rfl, rfl, rfl, rfl, rfl, rfl, trivial⟩ (okLAW_889 l Z a0 hw n0 _ hk56 _ hk811 n v1 v2 v4 v5 v6 v7 v8 v9 v10 v12 v13 v14 v16 x9 v20 a s0 _ h)
 ·
  refine WP.icmpY (pc' := 895) at_815 (XT.ii_ge_t hc1) (by decide) rfl ?_
  refine WP.aloadN at_895 rfl ?_
  obtain ⟨c10, hc10, h⟩ := bd h
  refine WP.callV (i := 1) (y := y29) (as := []) (S := []) at_896 (hw _ m_169) (hw _ m_170) (hw _ m_172) (hw _ m_171) (hw _ m_173) (hw _ m_6) hy29 rfl (CS.frame (ro := 1) (H := ([cI a] ++ Hb 1 s0)) (as := [.ref 1]) fr2_f (ok29 l Z a0 hw s0 _ hc10) rfl (by decide) (fr2_l a s0) (fr2_c a s0) (by decide) rfl) rfl (lenOf pd29 rfl) (leb rfl) (leb rfl) (leb rfl) (leb rfl) ?_
  rintro _ _ ⟨_, _, ⟨rfl, rfl⟩, rfl, rfl⟩
  rw [fr2_p a s0 s0]
  show WLAW l Z n0 (PLAW r) 12 278 899 (vR 0 :: vI v1 :: vI v2 :: vR 1 :: vI v4 :: vI v5 :: vI v6 :: vI v7 :: vI v8 :: vI v9 :: vI v10 :: vU :: vI v12 :: vI v13 :: vJ v14 :: vS :: vJ v16 :: vS :: vJ v18 :: vS :: vI v20 :: vU :: vU :: vU :: vU :: vU :: vU :: vU :: vU :: vU :: vU :: []) [.int c10] ([cI a] ++ Hb 1 s0)
  refine WP.istore (L' := (vR 0 :: vI v1 :: vI v2 :: vR 1 :: vI v4 :: vI v5 :: vI v6 :: vI v7 :: vI v8 :: vI v9 :: vI v10 :: vU :: vI v12 :: vI v13 :: vJ v14 :: vS :: vJ v16 :: vS :: vJ v18 :: vS :: vI c10 :: vU :: vU :: vU :: vU :: vU :: vU :: vU :: vU :: vU :: vU :: [])) at_899 (leb rfl) rfl ?_
  refine WP.aloadN at_901 rfl ?_
  refine WP.iconst (1 : Int32) at_902 rfl ?_
  obtain ⟨c11, hc11, h⟩ := bd h
  refine WP.callV (i := 1) (y := y30) (as := [.int (1 : Int32)]) (S := []) at_903 (hw _ m_174) (hw _ m_175) (hw _ m_177) (hw _ m_176) (hw _ m_178) (hw _ m_6) hy30 rfl (CS.frame (ro := 1) (H := ([cI a] ++ Hb 1 s0)) (as := [.ref 1, .int (1 : Int32)]) fr2_f (ok30 l Z a0 hw n (1 : Int32) s0 _ hc11) rfl (by decide) (fr2_l a s0) (fr2_c a s0) (by decide) rfl) rfl (lenOf pd30 rfl) (leb rfl) (leb rfl) (leb rfl) (leb rfl) ?_
  rintro _ _ ⟨_, _, ⟨rfl, rfl⟩, rfl, rfl⟩
  rw [fr2_p a s0 c11.2]
  show WLAW l Z n0 (PLAW r) 12 278 906 (vR 0 :: vI v1 :: vI v2 :: vR 1 :: vI v4 :: vI v5 :: vI v6 :: vI v7 :: vI v8 :: vI v9 :: vI v10 :: vU :: vI v12 :: vI v13 :: vJ v14 :: vS :: vJ v16 :: vS :: vJ v18 :: vS :: vI c10 :: vU :: vU :: vU :: vU :: vU :: vU :: vU :: vU :: vU :: vU :: []) [.int c11.1] ([cI a] ++ Hb 1 c11.2)
  refine WP.pop at_906 rfl ?_
  refine WP.iload at_907 rfl ?_
  rcases ite_e h with ⟨hc12, h⟩ | ⟨hc12, h⟩
  ·
   refine WP.ifY (pc' := 1058) at_909 (XT.i0_eq_t hc12) (by decide) rfl ?_
   exact WP.weak (L' := (vR 0 :: vI v1 :: vI v2 :: vR 1 :: vI v4 :: vI v5 :: vI v6 :: vI v7 :: vI v8 :: vI v9 :: vI v10 :: vU :: vU :: vU :: vU :: vU :: vU :: vU :: vU :: vU :: vU :: vU :: vU :: vU :: vU :: vU :: vU :: vU :: vU :: vU :: vU :: [])) ⟨rfl, rfl, rfl, rfl, rfl, rfl, rfl, rfl, rfl, rfl, rfl, trivial⟩ (okLAW_1058 l Z a0 hw n0 _ hk56 n v1 v2 v4 v5 v6 v7 v8 v9 v10 a c11.2 _ h)
  ·
   refine WP.ifN at_909 (XT.i0_eq_f hc12) ?_
   refine WP.lconst (0 : Int64) at_912 rfl ?_
   refine WP.lstore (L' := (vR 0 :: vI v1 :: vI v2 :: vR 1 :: vI v4 :: vI v5 :: vI v6 :: vI v7 :: vI v8 :: vI v9 :: vI v10 :: vU :: vI v12 :: vI v13 :: vJ v14 :: vS :: vJ v16 :: vS :: vJ v18 :: vS :: vI c10 :: vJ (0 : Int64) :: vS :: vU :: vU :: vU :: vU :: vU :: vU :: vU :: vU :: [])) at_913 (leb rfl) rfl ?_
   refine WP.lconst (0 : Int64) at_915 rfl ?_
   refine WP.lstore (L' := (vR 0 :: vI v1 :: vI v2 :: vR 1 :: vI v4 :: vI v5 :: vI v6 :: vI v7 :: vI v8 :: vI v9 :: vI v10 :: vU :: vI v12 :: vI v13 :: vJ v14 :: vS :: vJ v16 :: vS :: vJ v18 :: vS :: vI c10 :: vJ (0 : Int64) :: vS :: vJ (0 : Int64) :: vS :: vU :: vU :: vU :: vU :: vU :: vU :: [])) at_916 (leb rfl) rfl ?_
   refine WP.lconst (0 : Int64) at_918 rfl ?_
   refine WP.lstore (L' := (vR 0 :: vI v1 :: vI v2 :: vR 1 :: vI v4 :: vI v5 :: vI v6 :: vI v7 :: vI v8 :: vI v9 :: vI v10 :: vU :: vI v12 :: vI v13 :: vJ v14 :: vS :: vJ v16 :: vS :: vJ v18 :: vS :: vI c10 :: vJ (0 : Int64) :: vS :: vJ (0 : Int64) :: vS :: vJ (0 : Int64) :: vS :: vU :: vU :: vU :: vU :: [])) at_919 (leb rfl) rfl ?_
   refine WP.iconst (0 : Int32) at_921 rfl ?_
   refine WP.istore (L' := (vR 0 :: vI v1 :: vI v2 :: vR 1 :: vI v4 :: vI v5 :: vI v6 :: vI v7 :: vI v8 :: vI v9 :: vI v10 :: vU :: vI v12 :: vI v13 :: vJ v14 :: vS :: vJ v16 :: vS :: vJ v18 :: vS :: vI c10 :: vJ (0 : Int64) :: vS :: vJ (0 : Int64) :: vS :: vJ (0 : Int64) :: vS :: vI (0 : Int32) :: vU :: vU :: vU :: [])) at_922 (leb rfl) rfl ?_
   exact WP.weak (L' := (vR 0 :: vI v1 :: vI v2 :: vR 1 :: vI v4 :: vI v5 :: vI v6 :: vI v7 :: vI v8 :: vI v9 :: vI v10 :: vU :: vU :: vI v13 :: vJ v14 :: vS :: vJ v16 :: vS :: vJ v18 :: vS :: vI c10 :: vJ (0 : Int64) :: vS :: vJ (0 : Int64) :: vS :: vJ (0 : Int64) :: vS :: vI (0 : Int32) :: vU :: vU :: vU :: [])) ⟨rfl, rfl, rfl, rfl, rfl, rfl, rfl, rfl, rfl, rfl, rfl, rfl, rfl, rfl, rfl, rfl, rfl, rfl, rfl, rfl, rfl, rfl, rfl, rfl, rfl, rfl, trivial⟩ (okLAW_924 l Z a0 hw n0 _ hk56 n v1 v2 v4 v5 v6 v7 v8 v9 v10 v13 v14 v16 v18 c10 (0 : Int64) (0 : Int64) (0 : Int64) (0 : Int32) a c11.2 _ h)
def f_law_811 (k56 : KT0) : Nat → Int32 → Int32 → Int32 → Int32 → Int32 → Int32 → Int32 → Int32 → Int32 → Int32 → Int32 → Int64 → Int64 → Int64 → Int32 → List Int32 → St → Option (Int32)
 | 0 => fun _ _ _ _ _ _ _ _ _ _ _ _ _ _ _ _ _ => none
 | n + 1 => g_law_811 k56 (f_law_811 k56 n) n
theorem okLAW_811 (l : Launch) (Z : State) (a0 : Array Value) (hw : HW a0 Z) (n0 : Nat) (k56 : KT0) (hk56 : HKLAW_56 l Z n0 k56) : ∀ (n : Nat) (v1 v2 v4 v5 v6 v7 v8 v9 v10 v12 v13 : Int32) (v14 v16 v18 : Int64) (v20 : Int32) (a : List Int32) (s0 : St) (r : Int32), f_law_811 k56 n v1 v2 v4 v5 v6 v7 v8 v9 v10 v12 v13 v14 v16 v18 v20 a s0 = some r → WLAW l Z n0 (PLAW r) 12 278 811 (vR 0 :: vI v1 :: vI v2 :: vR 1 :: vI v4 :: vI v5 :: vI v6 :: vI v7 :: vI v8 :: vI v9 :: vI v10 :: vU :: vI v12 :: vI v13 :: vJ v14 :: vS :: vJ v16 :: vS :: vJ v18 :: vS :: vI v20 :: vU :: vU :: vU :: vU :: vU :: vU :: vU :: vU :: vU :: vU :: []) [] ([cI a] ++ Hb 1 s0)
 | 0, v1, v2, v4, v5, v6, v7, v8, v9, v10, v12, v13, v14, v16, v18, v20, a, s0, r, h => nomatch (show none = some r from h)
 | n + 1, v1, v2, v4, v5, v6, v7, v8, v9, v10, v12, v13, v14, v16, v18, v20, a, s0, r, h => okgLAW_811 l Z a0 hw n0 _ hk56 _ (okLAW_811 l Z a0 hw n0 k56 hk56 n) n v1 v2 v4 v5 v6 v7 v8 v9 v10 v12 v13 v14 v16 v18 v20 a s0 r h
def f_law_799 (k56 : KT0) (n : Nat) (v1 v2 v4 v5 v6 v7 v8 v9 v10 v12 v13 : Int32) (a : List Int32) (s0 : St) : Option (Int32) :=
 f_law_811 k56 n v1 v2 v4 v5 v6 v7 v8 v9 v10 v12 v13 (0 : Int64) (0 : Int64) (0 : Int64) (0 : Int32) a s0
theorem okLAW_799 (l : Launch) (Z : State) (a0 : Array Value) (hw : HW a0 Z) (n0 : Nat) (k56 : KT0) (hk56 : HKLAW_56 l Z n0 k56) (n : Nat) (v1 v2 v4 v5 v6 v7 v8 v9 v10 v12 v13 : Int32) (a : List Int32) (s0 : St) (r : Int32) (h : f_law_799 k56 n v1 v2 v4 v5 v6 v7 v8 v9 v10 v12 v13 a s0 = some r) : WLAW l Z n0 (PLAW r) 12 278 799 (vR 0 :: vI v1 :: vI v2 :: vR 1 :: vI v4 :: vI v5 :: vI v6 :: vI v7 :: vI v8 :: vI v9 :: vI v10 :: vU :: vI v12 :: vI v13 :: vU :: vU :: vU :: vU :: vU :: vU :: vU :: vU :: vU :: vU :: vU :: vU :: vU :: vU :: vU :: vU :: vU :: []) [] ([cI a] ++ Hb 1 s0) := by
 unfold f_law_799 at h
 refine WP.lconst (0 : Int64) at_799 rfl ?_
 refine WP.lstore (L' := (vR 0 :: vI v1 :: vI v2 :: vR 1 :: vI v4 :: vI v5 :: vI v6 :: vI v7 :: vI v8 :: vI v9 :: vI v10 :: vU :: vI v12 :: vI v13 :: vJ (0 : Int64) :: vS :: vU :: vU :: vU :: vU :: vU :: vU :: vU :: vU :: vU :: vU :: vU :: vU :: vU :: vU :: vU :: [])) at_800 (leb rfl) rfl ?_
 refine WP.lconst (0 : Int64) at_802 rfl ?_
 refine WP.lstore (L' := (vR 0 :: vI v1 :: vI v2 :: vR 1 :: vI v4 :: vI v5 :: vI v6 :: vI v7 :: vI v8 :: vI v9 :: vI v10 :: vU :: vI v12 :: vI v13 :: vJ (0 : Int64) :: vS :: vJ (0 : Int64) :: vS :: vU :: vU :: vU :: vU :: vU :: vU :: vU :: vU :: vU :: vU :: vU :: vU :: vU :: [])) at_803 (leb rfl) rfl ?_
 refine WP.lconst (0 : Int64) at_805 rfl ?_
 refine WP.lstore (L' := (vR 0 :: vI v1 :: vI v2 :: vR 1 :: vI v4 :: vI v5 :: vI v6 :: vI v7 :: vI v8 :: vI v9 :: vI v10 :: vU :: vI v12 :: vI v13 :: vJ (0 : Int64) :: vS :: vJ (0 : Int64) :: vS :: vJ (0 : Int64) :: vS :: vU :: vU :: vU :: vU :: vU :: vU :: vU :: vU :: vU :: vU :: vU :: [])) at_806 (leb rfl) rfl ?_
 refine WP.iconst (0 : Int32) at_808 rfl ?_
 refine WP.istore (L' := (vR 0 :: vI v1 :: vI v2 :: vR 1 :: vI v4 :: vI v5 :: vI v6 :: vI v7 :: vI v8 :: vI v9 :: vI v10 :: vU :: vI v12 :: vI v13 :: vJ (0 : Int64) :: vS :: vJ (0 : Int64) :: vS :: vJ (0 : Int64) :: vS :: vI (0 : Int32) :: vU :: vU :: vU :: vU :: vU :: vU :: vU :: vU :: vU :: vU :: [])) at_809 (leb rfl) rfl ?_
 exact WP.weak (L' := (vR 0 :: vI v1 :: vI v2 :: vR 1 :: vI v4 :: vI v5 :: vI v6 :: vI v7 :: vI v8 :: vI v9 :: vI v10 :: vU :: vI v12 :: vI v13 :: vJ (0 : Int64) :: vS :: vJ (0 : Int64) :: vS :: vJ (0 : Int64) :: vS :: vI (0 : Int32) :: vU :: vU :: vU :: vU :: vU :: vU :: vU :: vU :: vU :: vU :: [])) ⟨rfl, rfl, rfl, rfl, rfl, rfl, rfl, rfl, rfl, rfl, rfl, rfl, rfl, rfl, rfl, rfl, rfl, rfl, rfl, rfl, trivial⟩ (okLAW_811 l Z a0 hw n0 _ hk56 n v1 v2 v4 v5 v6 v7 v8 v9 v10 v12 v13 (0 : Int64) (0 : Int64) (0 : Int64) (0 : Int32) a s0 _ h)
def f_law_1169 (n : Nat) (a : List Int32) (s0 : St) : Option (Int32) :=
 some (1 : Int32)
theorem okLAW_1169 (l : Launch) (Z : State) (a0 : Array Value) (hw : HW a0 Z) (n0 n : Nat) (a : List Int32) (s0 : St) (r : Int32) (h : f_law_1169 n a s0 = some r) : WLAW l Z n0 (PLAW r) 12 278 1169 (vU :: vU :: vU :: vU :: vU :: vU :: vU :: vU :: vU :: vU :: vU :: vU :: vU :: vU :: vU :: vU :: vU :: vU :: vU :: vU :: vU :: vU :: vU :: vU :: vU :: vU :: vU :: vU :: vU :: vU :: vU :: []) [] ([cI a] ++ Hb 1 s0) := by
 unfold f_law_1169 at h
 refine WP.iconst (1 : Int32) at_1169 rfl ?_
 cases h
 exact WP.zreturn at_1170 rfl (leb rfl) (leb rfl) rfl
def g_law_56 (k56 : KT0) (n : Nat) (v1 v2 v4 v5 v6 v7 v8 v9 v10 : Int32) (a : List Int32) (s0 : St) : Option (Int32) :=
 if v10 < (400 : Int32) then
  if v4 < (5 : Int32) then
   if v4 = 0 then
    (f_L_cell ((1 : Int32) + v5) a).bind fun c4 =>
    (f_L_dOf c4).bind fun c5 =>
    (f_L_fOf c4).bind fun c6 =>
    (f_L_sgOf c4).bind fun c7 =>
    (f_declareField (c5 - c6) c6 c7 s0).bind fun c8 =>
    if c8.1 = v5 then
     lt (v6 + (1 : Int32)) fun x10 =>
     lt (v5 + (1 : Int32)) fun x11 =>
     f_law_136 k56 n v1 v2 v4 x11 x10 v7 v8 v9 v10 a c8.2
    else
     f_law_136 k56 n v1 v2 v4 v1 v6 v7 v8 v9 v10 a c8.2
   else
    if v4 = (1 : Int32) then
     lt (v5 >>> ((1 : Int32) &&& 31)) fun x13 =>
     if (v5 &&& (1 : Int32)) = 0 then
      (f_L_cell ((90 : Int32) + ((2 : Int32) * x13)) a).bind fun c15 =>
      (f_setValue n x13 c15 s0).bind fun c16 =>
      f_law_268 k56 n v1 v2 v4 v5 v6 v7 v8 v9 v10 a c16.2
     else
      (f_L_cell ((91 : Int32) + ((2 : Int32) * x13)) a).bind fun c17 =>
      (f_L_cell ((1 : Int32) + x13) a).bind fun c18 =>
      (f_L_dOf c18).bind fun c19 =>
      (f_L_p10 n c19).bind fun c20 =>
      if c20 = 0 then none else
      lt ((((XT.ushr c17 (1 : Int32)).toInt64) % c20).toInt32) fun x22 =>
      (f_L_sgOf c18).bind fun c23 =>
      if c23 = 0 then
       f_law_259 k56 n v1 v2 v4 v5 v6 v7 v8 v9 v10 x13 x22 a s0
      else
       if (c17 &&& (1 : Int32)) = (1 : Int32) then
        lt (-x22) fun x26 =>
        f_law_259 k56 n v1 v2 v4 v5 v6 v7 v8 v9 v10 x13 x26 a s0
       else
        f_law_259 k56 n v1 v2 v4 v5 v6 v7 v8 v9 v10 x13 x22 a s0
    else
     if v4 = (2 : Int32) then
      lt ((10 : Int32) + ((5 : Int32) * v5)) fun x28 =>
      (f_L_cell x28 a).bind fun c29 =>
      (f_L_kindOf c29).bind fun c30 =>
      if c30 < (2 : Int32) then
       f_law_335 k56 n v1 v2 v4 v5 v6 v7 v8 v9 v10 x28 c29 c30 a s0
      else
       if (5 : Int32) < c30 then
        f_law_335 k56 n v1 v2 v4 v5 v6 v7 v8 v9 v10 x28 c29 c30 a s0
       else
        f_law_336 k56 n v1 v2 v4 v5 v6 v7 v8 v9 v10 x28 c29 c30 (1 : Int32) a s0
     else
      if v4 = (3 : Int32) then
       (f_compile n s0).bind fun c34 =>
       if c34.1 = (-2 : Int32) then
        f_law_554 k56 n v1 v2 v5 v6 v7 v8 v9 v10 a c34.2
       else
        f_law_554 k56 n v1 v2 v5 v6 v7 (0 : Int32) v9 v10 a c34.2
      else
       (f_isHalted s0).bind fun c36 =>
       if c36 = 0 then
        (f_getPc s0).bind fun c38 =>
        if v8 = 0 then
         f_law_799 k56 n v1 v2 v4 v5 v6 v7 v8 v9 v10 (0 : Int32) (0 : Int32) a s0
        else
         if c38 < 0 then
          f_law_799 k56 n v1 v2 v4 v5 v6 v7 v8 v9 v10 (0 : Int32) (0 : Int32) a s0
         else
          if c38 < v2 then
           lt ((10 : Int32) + ((5 : Int32) * c38)) fun x42 =>
           (f_L_cell x42 a).bind fun c43 =>
           (f_L_kindOf c43).bind fun c44 =>
           if c44 < (2 : Int32) then
            f_law_799 k56 n v1 v2 v4 v5 v6 v7 v8 v9 v10 (0 : Int32) (0 : Int32) a s0
           else
            if (5 : Int32) < c44 then
             f_law_799 k56 n v1 v2 v4 v5 v6 v7 v8 v9 v10 (0 : Int32) (0 : Int32) a s0
            else
             (f_L_targetOf c43).bind fun c47 =>
             if c47 = 0 then
              f_law_799 k56 n v1 v2 v4 v5 v6 v7 v8 v9 v10 (0 : Int32) (0 : Int32) a s0
             else
              (f_L_cell (x42 + (1 : Int32)) a).bind fun c49 =>
              (f_L_ix c49 v6).bind fun c50 =>
              (f_L_cell (x42 + (2 : Int32)) a).bind fun c51 =>
              (f_L_ix c51 v6).bind fun c52 =>
              (f_L_cell (x42 + (3 : Int32)) a).bind fun c53 =>
              (f_L_ix c53 v6).bind fun c54 =>
              (f_L_cell ((1 : Int32) + c50) a).bind fun c55 =>
              (f_L_cell ((1 : Int32) + c52) a).bind fun c56 =>
              (f_L_cell ((1 : Int32) + c54) a).bind fun c57 =>
              (f_L_roundedOf c43).bind fun c58 =>
              (f_getValue c50 s0).bind fun c59 =>
              (f_L_fOf c55).bind fun c60 =>
              (f_getValue c52 s0).bind fun c61 =>
              (f_L_fOf c56).bind fun c62 =>
              (f_L_fOf c57).bind fun c63 =>
              (f_L_dOf c57).bind fun c64 =>
              (f_L_sizeErr n c44 c58 c59.toInt64 c60 c61.toInt64 c62 c63 c64).bind fun c65 =>
              (f_L_cell (x42 + (4 : Int32)) a).bind fun c66 =>
              (f_L_ix c66 (v2 + (1 : Int32))).bind fun c67 =>
              f_law_799 k56 n v1 v2 v4 v5 v6 v7 v8 v9 v10 c65 c67 a s0
          else
           f_law_799 k56 n v1 v2 v4 v5 v6 v7 v8 v9 v10 (0 : Int32) (0 : Int32) a s0
       else
        if v7 < (3 : Int32) then
         (f_restart s0).bind fun c69 =>
         lt (v7 + (1 : Int32)) fun x70 =>
         f_law_1058 k56 n v1 v2 v4 v5 v6 x70 v8 v9 v10 a c69.2
        else
         f_law_1163 k56 n v1 v2 (5 : Int32) v5 v6 v7 v8 v9 v10 a s0
  else
   f_law_1169 n a s0
 else
  f_law_1169 n a s0
theorem okgLAW_56 (l : Launch) (Z : State) (a0 : Array Value) (hw : HW a0 Z) (n0 : Nat) (k56 : KT0) (hk56 : HKLAW_56 l Z n0 k56) (n : Nat) (v1 v2 v4 v5 v6 v7 v8 v9 v10 : Int32) (a : List Int32) (s0 : St) (r : Int32) (h : g_law_56 k56 n v1 v2 v4 v5 v6 v7 v8 v9 v10 a s0 = some r) : WLAW l Z n0 (PLAW r) 12 278 56 (vR 0 :: vI v1 :: vI v2 :: vR 1 :: vI v4 :: vI v5 :: vI v6 :: vI v7 :: vI v8 :: vI v9 :: vI v10 :: vU :: vU :: vU :: vU :: vU :: vU :: vU :: vU :: vU :: vU :: vU :: vU :: vU :: vU :: vU :: vU :: vU :: vU :: vU :: vU :: []) [] ([cI a] ++ Hb 1 s0) := by
 unfold g_law_56 at h
 refine WP.iload at_56 rfl ?_
 refine WP.sipush (400 : Int32) at_58 rfl ?_
 rcases ite_e h with ⟨hc1, h⟩ | ⟨hc1, h⟩
 ·
  refine WP.icmpN at_61 (XT.ii_ge_f hc1) ?_
  refine WP.iload at_64 rfl ?_
  refine WP.iconst (5 : Int32) at_66 rfl ?_
  rcases ite_e h with ⟨hc2, h⟩ | ⟨hc2, h⟩
  ·
   refine WP.icmpN at_67 (XT.ii_ge_f hc2) ?_
   refine WP.iload at_70 rfl ?_
   rcases ite_e h with ⟨hc3, h⟩ | ⟨hc3, h⟩
   ·
    refine WP.ifN at_72 (XT.i0_ne_f hc3) ?_
    refine WP.aloadN at_75 rfl ?_
    refine WP.iconst (1 : Int32) at_76 rfl ?_
    refine WP.iload at_77 rfl ?_
    refine WP.iadd at_79 ?_
    obtain ⟨c4, hc4, h⟩ := bd h
    refine WP.callS (y := y0) (as := [.ref 0, .int ((1 : Int32) + v5)]) (S := []) at_80 (hw _ m_0) (hw _ m_1) (hw _ m_2) (hw _ m_3) hy0 (CS.frame (ro := 1) (H := ([cI a] ++ Hb 1 s0)) (as := [.ref 0, .int ((1 : Int32) + v5)]) fr0_f (ok0 l Z a0 hw ((1 : Int32) + v5) a _ hc4) rfl (by decide) (fr0_l a s0) (fr0_c a s0) (by decide) rfl) rfl (lenOf pd0 rfl) (leb rfl) (leb rfl) (leb rfl) (leb rfl) ?_
    rintro _ _ ⟨_, _, ⟨rfl, rfl⟩, rfl, rfl⟩
    rw [fr0_p a s0]
    show WLAW l Z n0 (PLAW r) 12 278 83 (vR 0 :: vI v1 :: vI v2 :: vR 1 :: vI v4 :: vI v5 :: vI v6 :: vI v7 :: vI v8 :: vI v9 :: vI v10 :: vU :: vU :: vU :: vU :: vU :: vU :: vU :: vU :: vU :: vU :: vU :: vU :: vU :: vU :: vU :: vU :: vU :: vU :: vU :: vU :: []) [.int c4] ([cI a] ++ Hb 1 s0)
    refine WP.istore (L' := (vR 0 :: vI v1 :: vI v2 :: vR 1 :: vI v4 :: vI v5 :: vI v6 :: vI v7 :: vI v8 :: vI v9 :: vI v10 :: vI c4 :: vU :: vU :: vU :: vU :: vU :: vU :: vU :: vU :: vU :: vU :: vU :: vU :: vU :: vU :: vU :: vU :: vU :: vU :: vU :: [])) at_83 (leb rfl) rfl ?_
    refine WP.iload at_85 rfl ?_
    obtain ⟨c5, hc5, h⟩ := bd h
    refine WP.callS (y := y3) (as := [.int c4]) (S := []) at_87 (hw _ m_59) (hw _ m_60) (hw _ m_2) (hw _ m_61) hy3 (CS.frame (ro := 1) (H := ([cI a] ++ Hb 1 s0)) (as := [.int c4]) fr1_f (ok3 l Z a0 hw c4 _ hc5) rfl (by decide) (fr1_l a s0) (fr1_c a s0) (by decide) rfl) rfl (lenOf pd3 rfl) (leb rfl) (leb rfl) (leb rfl) (leb rfl) ?_
    rintro _ _ ⟨_, _, ⟨rfl, rfl⟩, rfl, rfl⟩
    rw [fr1_p a s0]
    show WLAW l Z n0 (PLAW r) 12 278 90 (vR 0 :: vI v1 :: vI v2 :: vR 1 :: vI v4 :: vI v5 :: vI v6 :: vI v7 :: vI v8 :: vI v9 :: vI v10 :: vI c4 :: vU :: vU :: vU :: vU :: vU :: vU :: vU :: vU :: vU :: vU :: vU :: vU :: vU :: vU :: vU :: vU :: vU :: vU :: vU :: []) [.int c5] ([cI a] ++ Hb 1 s0)
    refine WP.istore (L' := (vR 0 :: vI v1 :: vI v2 :: vR 1 :: vI v4 :: vI v5 :: vI v6 :: vI v7 :: vI v8 :: vI v9 :: vI v10 :: vI c4 :: vI c5 :: vU :: vU :: vU :: vU :: vU :: vU :: vU :: vU :: vU :: vU :: vU :: vU :: vU :: vU :: vU :: vU :: vU :: vU :: [])) at_90 (leb rfl) rfl ?_
    refine WP.iload at_92 rfl ?_
    obtain ⟨c6, hc6, h⟩ := bd h
    refine WP.callS (y := y4) (as := [.int c4]) (S := []) at_94 (hw _ m_63) (hw _ m_64) (hw _ m_2) (hw _ m_65) hy4 (CS.frame (ro := 1) (H := ([cI a] ++ Hb 1 s0)) (as := [.int c4]) fr1_f (ok4 l Z a0 hw c4 _ hc6) rfl (by decide) (fr1_l a s0) (fr1_c a s0) (by decide) rfl) rfl (lenOf pd4 rfl) (leb rfl) (leb rfl) (leb rfl) (leb rfl) ?_
    rintro _ _ ⟨_, _, ⟨rfl, rfl⟩, rfl, rfl⟩
    rw [fr1_p a s0]
    show WLAW l Z n0 (PLAW r) 12 278 97 (vR 0 :: vI v1 :: vI v2 :: vR 1 :: vI v4 :: vI v5 :: vI v6 :: vI v7 :: vI v8 :: vI v9 :: vI v10 :: vI c4 :: vI c5 :: vU :: vU :: vU :: vU :: vU :: vU :: vU :: vU :: vU :: vU :: vU :: vU :: vU :: vU :: vU :: vU :: vU :: vU :: []) [.int c6] ([cI a] ++ Hb 1 s0)
    refine WP.istore (L' := (vR 0 :: vI v1 :: vI v2 :: vR 1 :: vI v4 :: vI v5 :: vI v6 :: vI v7 :: vI v8 :: vI v9 :: vI v10 :: vI c4 :: vI c5 :: vI c6 :: vU :: vU :: vU :: vU :: vU :: vU :: vU :: vU :: vU :: vU :: vU :: vU :: vU :: vU :: vU :: vU :: vU :: [])) at_97 (leb rfl) rfl ?_
    refine WP.aloadN at_99 rfl ?_
    refine WP.iload at_100 rfl ?_
    refine WP.iload at_102 rfl ?_
    refine WP.isub at_104 ?_
    refine WP.iload at_105 rfl ?_
    refine WP.iload at_107 rfl ?_
    obtain ⟨c7, hc7, h⟩ := bd h
    refine WP.callS (y := y5) (as := [.int c4]) (S := [.int c6, .int (c5 - c6), .ref 1]) at_109 (hw _ m_66) (hw _ m_67) (hw _ m_2) (hw _ m_68) hy5 (CS.frame (ro := 1) (H := ([cI a] ++ Hb 1 s0)) (as := [.int c4]) fr1_f (ok5 l Z a0 hw c4 _ hc7) rfl (by decide) (fr1_l a s0) (fr1_c a s0) (by decide) rfl) rfl (lenOf pd5 rfl) (leb rfl) (leb rfl) (leb rfl) (leb rfl) ?_
    rintro _ _ ⟨_, _, ⟨rfl, rfl⟩, rfl, rfl⟩
    rw [fr1_p a s0]
    show WLAW l Z n0 (PLAW r) 12 278 112 (vR 0 :: vI v1 :: vI v2 :: vR 1 :: vI v4 :: vI v5 :: vI v6 :: vI v7 :: vI v8 :: vI v9 :: vI v10 :: vI c4 :: vI c5 :: vI c6 :: vU :: vU :: vU :: vU :: vU :: vU :: vU :: vU :: vU :: vU :: vU :: vU :: vU :: vU :: vU :: vU :: vU :: []) [.int c7, .int c6, .int (c5 - c6), .ref 1] ([cI a] ++ Hb 1 s0)
    obtain ⟨c8, hc8, h⟩ := bd h
    refine WP.callV (i := 1) (y := y6) (as := [.int (c5 - c6), .int c6, .int c7]) (S := []) at_112 (hw _ m_70) (hw _ m_71) (hw _ m_73) (hw _ m_72) (hw _ m_74) (hw _ m_6) hy6 rfl (CS.frame (ro := 1) (H := ([cI a] ++ Hb 1 s0)) (as := [.ref 1, .int (c5 - c6), .int c6, .int c7]) fr2_f (ok6 l Z a0 hw (c5 - c6) c6 c7 s0 _ hc8) rfl (by decide) (fr2_l a s0) (fr2_c a s0) (by decide) rfl) rfl (lenOf pd6 rfl) (leb rfl) (leb rfl) (leb rfl) (leb rfl) ?_
    rintro _ _ ⟨_, _, ⟨rfl, rfl⟩, rfl, rfl⟩
    rw [fr2_p a s0 c8.2]
    show WLAW l Z n0 (PLAW r) 12 278 115 (vR 0 :: vI v1 :: vI v2 :: vR 1 :: vI v4 :: vI v5 :: vI v6 :: vI v7 :: vI v8 :: vI v9 :: vI v10 :: vI c4 :: vI c5 :: vI c6 :: vU :: vU :: vU :: vU :: vU :: vU :: vU :: vU :: vU :: vU :: vU :: vU :: vU :: vU :: vU :: vU :: vU :: []) [.int c8.1] ([cI a] ++ Hb 1 c8.2)
    refine WP.istore (L' := (vR 0 :: vI v1 :: vI v2 :: vR 1 :: vI v4 :: vI v5 :: vI v6 :: vI v7 :: vI v8 :: vI v9 :: vI v10 :: vI c4 :: vI c5 :: vI c6 :: vI c8.1 :: vU :: vU :: vU :: vU :: vU :: vU :: vU :: vU :: vU :: vU :: vU :: vU :: vU :: vU :: vU :: vU :: [])) at_115 (leb rfl) rfl ?_
    refine WP.iload at_117 rfl ?_
    refine WP.iload at_119 rfl ?_
    rcases ite_e h with ⟨hc9, h⟩ | ⟨hc9, h⟩
    ·
     refine WP.icmpN at_121 (XT.ii_ne_f hc9) ?_
     obtain ⟨x10, ex10, h⟩ := lt_e h
     refine WP.iinc (L' := (vR 0 :: vI v1 :: vI v2 :: vR 1 :: vI v4 :: vI v5 :: vI x10 :: vI v7 :: vI v8 :: vI v9 :: vI v10 :: vI c4 :: vI c5 :: vI c6 :: vI c8.1 :: vU :: vU :: vU :: vU :: vU :: vU :: vU :: vU :: vU :: vU :: vU :: vU :: vU :: vU :: vU :: vU :: [])) (1 : Int32) at_124 rfl rfl (by subst ex10; rfl) ?_
     obtain ⟨x11, ex11, h⟩ := lt_e h
     refine WP.iinc (L' := (vR 0 :: vI v1 :: vI v2 :: vR 1 :: vI v4 :: vI x11 :: vI x10 :: vI v7 :: vI v8 :: vI v9 :: vI v10 :: vI c4 :: vI c5 :: vI c6 :: vI c8.1 :: vU :: vU :: vU :: vU :: vU :: vU :: vU :: vU :: vU :: vU :: vU :: vU :: vU :: vU :: vU :: vU :: [])) (1 : Int32) at_127 rfl rfl (by subst ex11; rfl) ?_
     refine WP.goto (pc' := 136) at_130 (by decide) rfl ?_
     exact WP.weak (L' := (vR 0 :: vI v1 :: vI v2 :: vR 1 :: vI v4 :: vI x11 :: vI x10 :: vI v7 :: vI v8 :: vI v9 :: vI v10 :: vU :: vU :: vU :: vU :: vU :: vU :: vU :: vU :: vU :: vU :: vU :: vU :: vU :: vU :: vU :: vU :: vU :: vU :: vU :: vU :: [])) ⟨rfl, rfl, rfl, rfl, rfl, rfl, rfl, rfl, rfl, rfl, rfl, trivial⟩ (okLAW_136 l Z a0 hw n0 _ hk56 n v1 v2 v4 x11 x10 v7 v8 v9 v10 a c8.2 _ h)
    ·
     refine WP.icmpY (pc' := 133) at_121 (XT.ii_ne_t hc9) (by decide) rfl ?_
     refine WP.iloadN at_133 rfl ?_
     refine WP.istore (L' := (vR 0 :: vI v1 :: vI v2 :: vR 1 :: vI v4 :: vI v1 :: vI v6 :: vI v7 :: vI v8 :: vI v9 :: vI v10 :: vI c4 :: vI c5 :: vI c6 :: vI c8.1 :: vU :: vU :: vU :: vU :: vU :: vU :: vU :: vU :: vU :: vU :: vU :: vU :: vU :: vU :: vU :: vU :: [])) at_134 (leb rfl) rfl ?_
     exact WP.weak (L' := (vR 0 :: vI v1 :: vI v2 :: vR 1 :: vI v4 :: vI v1 :: vI v6 :: vI v7 :: vI v8 :: vI v9 :: vI v10 :: vU :: vU :: vU :: vU :: vU :: vU :: vU :: vU :: vU :: vU :: vU :: vU :: vU :: vU :: vU :: vU :: vU :: vU :: vU :: vU :: [])) ⟨rfl, rfl, rfl, rfl, rfl, rfl, rfl, rfl, rfl, rfl, rfl, trivial⟩ (okLAW_136 l Z a0 hw n0 _ hk56 n v1 v2 v4 v1 v6 v7 v8 v9 v10 a c8.2 _ h)
   ·
    refine WP.ifY (pc' := 158) at_72 (XT.i0_ne_t hc3) (by decide) rfl ?_
    refine WP.iload at_158 rfl ?_
    refine WP.iconst (1 : Int32) at_160 rfl ?_
    rcases ite_e h with ⟨hc12, h⟩ | ⟨hc12, h⟩
    ·
     refine WP.icmpN at_161 (XT.ii_ne_f hc12) ?_
     refine WP.iload at_164 rfl ?_
     refine WP.iconst (1 : Int32) at_166 rfl ?_
     refine WP.ishr at_167 ?_
     obtain ⟨x13, ex13, h⟩ := lt_e h
     refine WP.istore (L' := (vR 0 :: vI v1 :: vI v2 :: vR 1 :: vI v4 :: vI v5 :: vI v6 :: vI v7 :: vI v8 :: vI v9 :: vI v10 :: vI x13 :: vU :: vU :: vU :: vU :: vU :: vU :: vU :: vU :: vU :: vU :: vU :: vU :: vU :: vU :: vU :: vU :: vU :: vU :: vU :: [])) at_168 (leb rfl) (by subst ex13; rfl) ?_
     refine WP.iload at_170 rfl ?_
     refine WP.iconst (1 : Int32) at_172 rfl ?_
     refine WP.iand at_173 ?_
     rcases ite_e h with ⟨hc14, h⟩ | ⟨hc14, h⟩
     ·
      refine WP.ifN at_174 (XT.i0_ne_f hc14) ?_
      refine WP.aloadN at_177 rfl ?_
      refine WP.iload at_178 rfl ?_
      refine WP.aloadN at_180 rfl ?_
      refine WP.bipush (90 : Int32) at_181 rfl ?_
      refine WP.iconst (2 : Int32) at_183 rfl ?_
      refine WP.iload at_184 rfl ?_
      refine WP.imul at_186 ?_
      refine WP.iadd at_187 ?_
      obtain ⟨c15, hc15, h⟩ := bd h
      refine WP.callS (y := y0) (as := [.ref 0, .int ((90 : Int32) + ((2 : Int32) * x13))]) (S := [.int x13, .ref 1]) at_188 (hw _ m_0) (hw _ m_1) (hw _ m_2) (hw _ m_3) hy0 (CS.frame (ro := 1) (H := ([cI a] ++ Hb 1 s0)) (as := [.ref 0, .int ((90 : Int32) + ((2 : Int32) * x13))]) fr0_f (ok0 l Z a0 hw ((90 : Int32) + ((2 : Int32) * x13)) a _ hc15) rfl (by decide) (fr0_l a s0) (fr0_c a s0) (by decide) rfl) rfl (lenOf pd0 rfl) (leb rfl) (leb rfl) (leb rfl) (leb rfl) ?_
      rintro _ _ ⟨_, _, ⟨rfl, rfl⟩, rfl, rfl⟩
      rw [fr0_p a s0]
      show WLAW l Z n0 (PLAW r) 12 278 191 (vR 0 :: vI v1 :: vI v2 :: vR 1 :: vI v4 :: vI v5 :: vI v6 :: vI v7 :: vI v8 :: vI v9 :: vI v10 :: vI x13 :: vU :: vU :: vU :: vU :: vU :: vU :: vU :: vU :: vU :: vU :: vU :: vU :: vU :: vU :: vU :: vU :: vU :: vU :: vU :: []) [.int c15, .int x13, .ref 1] ([cI a] ++ Hb 1 s0)
      obtain ⟨c16, hc16, h⟩ := bd h
      refine WP.callV (i := 1) (y := y11) (as := [.int x13, .int c15]) (S := []) at_191 (hw _ m_93) (hw _ m_94) (hw _ m_96) (hw _ m_95) (hw _ m_97) (hw _ m_6) hy11 rfl (CS.frame (ro := 1) (H := ([cI a] ++ Hb 1 s0)) (as := [.ref 1, .int x13, .int c15]) fr2_f (ok11 l Z a0 hw n x13 c15 s0 _ hc16) rfl (by decide) (fr2_l a s0) (fr2_c a s0) (by decide) rfl) rfl (lenOf pd11 rfl) (leb rfl) (leb rfl) (leb rfl) (leb rfl) ?_
      rintro _ _ ⟨_, _, ⟨rfl, rfl⟩, rfl, rfl⟩
      rw [fr2_p a s0 c16.2]
      show WLAW l Z n0 (PLAW r) 12 278 194 (vR 0 :: vI v1 :: vI v2 :: vR 1 :: vI v4 :: vI v5 :: vI v6 :: vI v7 :: vI v8 :: vI v9 :: vI v10 :: vI x13 :: vU :: vU :: vU :: vU :: vU :: vU :: vU :: vU :: vU :: vU :: vU :: vU :: vU :: vU :: vU :: vU :: vU :: vU :: vU :: []) [.int c16.1] ([cI a] ++ Hb 1 c16.2)
      refine WP.pop at_194 rfl ?_
      refine WP.goto (pc' := 268) at_195 (by decide) rfl ?_
      exact WP.weak (L' := (vR 0 :: vI v1 :: vI v2 :: vR 1 :: vI v4 :: vI v5 :: vI v6 :: vI v7 :: vI v8 :: vI v9 :: vI v10 :: vU :: vU :: vU :: vU :: vU :: vU :: vU :: vU :: vU :: vU :: vU :: vU :: vU :: vU :: vU :: vU :: vU :: vU :: vU :: vU :: [])) ⟨rfl, rfl, rfl, rfl, rfl, rfl, rfl, rfl, rfl, rfl, rfl, trivial⟩ (okLAW_268 l Z a0 hw n0 _ hk56 n v1 v2 v4 v5 v6 v7 v8 v9 v10 a c16.2 _ h)
     ·
      refine WP.ifY (pc' := 198) at_174 (XT.i0_ne_t hc14) (by decide) rfl ?_
      refine WP.aloadN at_198 rfl ?_
      refine WP.bipush (91 : Int32) at_199 rfl ?_
      refine WP.iconst (2 : Int32) at_201 rfl ?_
      refine WP.iload at_202 rfl ?_
      refine WP.imul at_204 ?_
      refine WP.iadd at_205 ?_
      obtain ⟨c17, hc17, h⟩ := bd h
      refine WP.callS (y := y0) (as := [.ref 0, .int ((91 : Int32) + ((2 : Int32) * x13))]) (S := []) at_206 (hw _ m_0) (hw _ m_1) (hw _ m_2) (hw _ m_3) hy0 (CS.frame (ro := 1) (H := ([cI a] ++ Hb 1 s0)) (as := [.ref 0, .int ((91 : Int32) + ((2 : Int32) * x13))]) fr0_f (ok0 l Z a0 hw ((91 : Int32) + ((2 : Int32) * x13)) a _ hc17) rfl (by decide) (fr0_l a s0) (fr0_c a s0) (by decide) rfl) rfl (lenOf pd0 rfl) (leb rfl) (leb rfl) (leb rfl) (leb rfl) ?_
      rintro _ _ ⟨_, _, ⟨rfl, rfl⟩, rfl, rfl⟩
      rw [fr0_p a s0]
      show WLAW l Z n0 (PLAW r) 12 278 209 (vR 0 :: vI v1 :: vI v2 :: vR 1 :: vI v4 :: vI v5 :: vI v6 :: vI v7 :: vI v8 :: vI v9 :: vI v10 :: vI x13 :: vU :: vU :: vU :: vU :: vU :: vU :: vU :: vU :: vU :: vU :: vU :: vU :: vU :: vU :: vU :: vU :: vU :: vU :: vU :: []) [.int c17] ([cI a] ++ Hb 1 s0)
      refine WP.istore (L' := (vR 0 :: vI v1 :: vI v2 :: vR 1 :: vI v4 :: vI v5 :: vI v6 :: vI v7 :: vI v8 :: vI v9 :: vI v10 :: vI x13 :: vI c17 :: vU :: vU :: vU :: vU :: vU :: vU :: vU :: vU :: vU :: vU :: vU :: vU :: vU :: vU :: vU :: vU :: vU :: vU :: [])) at_209 (leb rfl) rfl ?_
      refine WP.aloadN at_211 rfl ?_
      refine WP.iconst (1 : Int32) at_212 rfl ?_
      refine WP.iload at_213 rfl ?_
      refine WP.iadd at_215 ?_
      obtain ⟨c18, hc18, h⟩ := bd h
      refine WP.callS (y := y0) (as := [.ref 0, .int ((1 : Int32) + x13)]) (S := []) at_216 (hw _ m_0) (hw _ m_1) (hw _ m_2) (hw _ m_3) hy0 (CS.frame (ro := 1) (H := ([cI a] ++ Hb 1 s0)) (as := [.ref 0, .int ((1 : Int32) + x13)]) fr0_f (ok0 l Z a0 hw ((1 : Int32) + x13) a _ hc18) rfl (by decide) (fr0_l a s0) (fr0_c a s0) (by decide) rfl) rfl (lenOf pd0 rfl) (leb rfl) (leb rfl) (leb rfl) (leb rfl) ?_
      rintro _ _ ⟨_, _, ⟨rfl, rfl⟩, rfl, rfl⟩
      rw [fr0_p a s0]
      show WLAW l Z n0 (PLAW r) 12 278 219 (vR 0 :: vI v1 :: vI v2 :: vR 1 :: vI v4 :: vI v5 :: vI v6 :: vI v7 :: vI v8 :: vI v9 :: vI v10 :: vI x13 :: vI c17 :: vU :: vU :: vU :: vU :: vU :: vU :: vU :: vU :: vU :: vU :: vU :: vU :: vU :: vU :: vU :: vU :: vU :: vU :: []) [.int c18] ([cI a] ++ Hb 1 s0)
      refine WP.istore (L' := (vR 0 :: vI v1 :: vI v2 :: vR 1 :: vI v4 :: vI v5 :: vI v6 :: vI v7 :: vI v8 :: vI v9 :: vI v10 :: vI x13 :: vI c17 :: vI c18 :: vU :: vU :: vU :: vU :: vU :: vU :: vU :: vU :: vU :: vU :: vU :: vU :: vU :: vU :: vU :: vU :: vU :: [])) at_219 (leb rfl) rfl ?_
      refine WP.iload at_221 rfl ?_
      refine WP.iconst (1 : Int32) at_223 rfl ?_
      refine WP.iushr at_224 ?_
      refine WP.i2l at_225 ?_
      refine WP.iload at_226 rfl ?_
      obtain ⟨c19, hc19, h⟩ := bd h
      refine WP.callS (y := y3) (as := [.int c18]) (S := [.long ((XT.ushr c17 (1 : Int32)).toInt64)]) at_228 (hw _ m_59) (hw _ m_60) (hw _ m_2) (hw _ m_61) hy3 (CS.frame (ro := 1) (H := ([cI a] ++ Hb 1 s0)) (as := [.int c18]) fr1_f (ok3 l Z a0 hw c18 _ hc19) rfl (by decide) (fr1_l a s0) (fr1_c a s0) (by decide) rfl) rfl (lenOf pd3 rfl) (leb rfl) (leb rfl) (leb rfl) (leb rfl) ?_
      rintro _ _ ⟨_, _, ⟨rfl, rfl⟩, rfl, rfl⟩
      rw [fr1_p a s0]
      show WLAW l Z n0 (PLAW r) 12 278 231 (vR 0 :: vI v1 :: vI v2 :: vR 1 :: vI v4 :: vI v5 :: vI v6 :: vI v7 :: vI v8 :: vI v9 :: vI v10 :: vI x13 :: vI c17 :: vI c18 :: vU :: vU :: vU :: vU :: vU :: vU :: vU :: vU :: vU :: vU :: vU :: vU :: vU :: vU :: vU :: vU :: vU :: []) [.int c19, .long ((XT.ushr c17 (1 : Int32)).toInt64)] ([cI a] ++ Hb 1 s0)
      obtain ⟨c20, hc20, h⟩ := bd h
      refine WP.callS (y := y10) (as := [.int c19]) (S := [.long ((XT.ushr c17 (1 : Int32)).toInt64)]) at_231 (hw _ m_89) (hw _ m_90) (hw _ m_2) (hw _ m_91) hy10 (CS.frame (ro := 1) (H := ([cI a] ++ Hb 1 s0)) (as := [.int c19]) fr1_f (ok10 l Z a0 hw n c19 _ hc20) rfl (by decide) (fr1_l a s0) (fr1_c a s0) (by decide) rfl) rfl (lenOf pd10 rfl) (leb rfl) (leb rfl) (leb rfl) (leb rfl) ?_
      rintro _ _ ⟨_, _, ⟨rfl, rfl⟩, rfl, rfl⟩
      rw [fr1_p a s0]
      show WLAW l Z n0 (PLAW r) 12 278 234 (vR 0 :: vI v1 :: vI v2 :: vR 1 :: vI v4 :: vI v5 :: vI v6 :: vI v7 :: vI v8 :: vI v9 :: vI v10 :: vI x13 :: vI c17 :: vI c18 :: vU :: vU :: vU :: vU :: vU :: vU :: vU :: vU :: vU :: vU :: vU :: vU :: vU :: vU :: vU :: vU :: vU :: []) [.long c20, .long ((XT.ushr c17 (1 : Int32)).toInt64)] ([cI a] ++ Hb 1 s0)
      obtain ⟨hz21, h⟩ := nz_e h
      refine WP.lrem at_234 hz21 ?_
      refine WP.l2i at_235 ?_
      obtain ⟨x22, ex22, h⟩ := lt_e h
      refine WP.istore (L' := (vR 0 :: vI v1 :: vI v2 :: vR 1 :: vI v4 :: vI v5 :: vI v6 :: vI v7 :: vI v8 :: vI v9 :: vI v10 :: vI x13 :: vI c17 :: vI c18 :: vI x22 :: vU :: vU :: vU :: vU :: vU :: vU :: vU :: vU :: vU :: vU :: vU :: vU :: vU :: vU :: vU :: vU :: [])) at_236 (leb rfl) (by subst ex22; rfl) ?_
      refine WP.iload at_238 rfl ?_
      obtain ⟨c23, hc23, h⟩ := bd h
      refine WP.callS (y := y5) (as := [.int c18]) (S := []) at_240 (hw _ m_66) (hw _ m_67) (hw _ m_2) (hw _ m_68) hy5 (CS.frame (ro := 1) (H := ([cI a] ++ Hb 1 s0)) (as := [.int c18]) fr1_f (ok5 l Z a0 hw c18 _ hc23) rfl (by decide) (fr1_l a s0) (fr1_c a s0) (by decide) rfl) rfl (lenOf pd5 rfl) (leb rfl) (leb rfl) (leb rfl) (leb rfl) ?_
      rintro _ _ ⟨_, _, ⟨rfl, rfl⟩, rfl, rfl⟩
      rw [fr1_p a s0]
      show WLAW l Z n0 (PLAW r) 12 278 243 (vR 0 :: vI v1 :: vI v2 :: vR 1 :: vI v4 :: vI v5 :: vI v6 :: vI v7 :: vI v8 :: vI v9 :: vI v10 :: vI x13 :: vI c17 :: vI c18 :: vI x22 :: vU :: vU :: vU :: vU :: vU :: vU :: vU :: vU :: vU :: vU :: vU :: vU :: vU :: vU :: vU :: vU :: []) [.int c23] ([cI a] ++ Hb 1 s0)
      rcases ite_e h with ⟨hc24, h⟩ | ⟨hc24, h⟩
      ·
       refine WP.ifY (pc' := 259) at_243 (XT.i0_eq_t hc24) (by decide) rfl ?_
       exact WP.weak (L' := (vR 0 :: vI v1 :: vI v2 :: vR 1 :: vI v4 :: vI v5 :: vI v6 :: vI v7 :: vI v8 :: vI v9 :: vI v10 :: vI x13 :: vU :: vU :: vI x22 :: vU :: vU :: vU :: vU :: vU :: vU :: vU :: vU :: vU :: vU :: vU :: vU :: vU :: vU :: vU :: vU :: [])) ⟨rfl, rfl, rfl, rfl, rfl, rfl, rfl, rfl, rfl, rfl, rfl, rfl, rfl, trivial⟩ (okLAW_259 l Z a0 hw n0 _ hk56 n v1 v2 v4 v5 v6 v7 v8 v9 v10 x13 x22 a s0 _ h)
      ·
       refine WP.ifN at_243 (XT.i0_eq_f hc24) ?_
       refine WP.iload at_246 rfl ?_
       refine WP.iconst (1 : Int32) at_248 rfl ?_
       refine WP.iand at_249 ?_
       refine WP.iconst (1 : Int32) at_250 rfl ?_
       rcases ite_e h with ⟨hc25, h⟩ | ⟨hc25, h⟩
       ·
        refine WP.icmpN at_251 (XT.ii_ne_f hc25) ?_
        refine WP.iload at_254 rfl ?_
        refine WP.ineg at_256 ?_
        obtain ⟨x26, ex26, h⟩ := lt_e h
        refine WP.istore (L' := (vR 0 :: vI v1 :: vI v2 :: vR 1 :: vI v4 :: vI v5 :: vI v6 :: vI v7 :: vI v8 :: vI v9 :: vI v10 :: vI x13 :: vI c17 :: vI c18 :: vI x26 :: vU :: vU :: vU :: vU :: vU :: vU :: vU :: vU :: vU :: vU :: vU :: vU :: vU :: vU :: vU :: vU :: [])) at_257 (leb rfl) (by subst ex26; rfl) ?_
        exact WP.weak (L' := (vR 0 :: vI v1 :: vI v2 :: vR 1 :: vI v4 :: vI v5 :: vI v6 :: vI v7 :: vI v8 :: vI v9 :: vI v10 :: vI x13 :: vU :: vU :: vI x26 :: vU :: vU :: vU :: vU :: vU :: vU :: vU :: vU :: vU :: vU :: vU :: vU :: vU :: vU :: vU :: vU :: [])) ⟨rfl, rfl, rfl, rfl, rfl, rfl, rfl, rfl, rfl, rfl, rfl, rfl, rfl, trivial⟩ (okLAW_259 l Z a0 hw n0 _ hk56 n v1 v2 v4 v5 v6 v7 v8 v9 v10 x13 x26 a s0 _ h)
       ·
        refine WP.icmpY (pc' := 259) at_251 (XT.ii_ne_t hc25) (by decide) rfl ?_
        exact WP.weak (L' := (vR 0 :: vI v1 :: vI v2 :: vR 1 :: vI v4 :: vI v5 :: vI v6 :: vI v7 :: vI v8 :: vI v9 :: vI v10 :: vI x13 :: vU :: vU :: vI x22 :: vU :: vU :: vU :: vU :: vU :: vU :: vU :: vU :: vU :: vU :: vU :: vU :: vU :: vU :: vU :: vU :: [])) ⟨rfl, rfl, rfl, rfl, rfl, rfl, rfl, rfl, rfl, rfl, rfl, rfl, rfl, trivial⟩ (okLAW_259 l Z a0 hw n0 _ hk56 n v1 v2 v4 v5 v6 v7 v8 v9 v10 x13 x22 a s0 _ h)
    ·
     refine WP.icmpY (pc' := 289) at_161 (XT.ii_ne_t hc12) (by decide) rfl ?_
     refine WP.iload at_289 rfl ?_
     refine WP.iconst (2 : Int32) at_291 rfl ?_
     rcases ite_e h with ⟨hc27, h⟩ | ⟨hc27, h⟩
     ·
      refine WP.icmpN at_292 (XT.ii_ne_f hc27) ?_
      refine WP.bipush (10 : Int32) at_295 rfl ?_
      refine WP.iconst (5 : Int32) at_297 rfl ?_
      refine WP.iload at_298 rfl ?_
      refine WP.imul at_300 ?_
      refine WP.iadd at_301 ?_
      obtain ⟨x28, ex28, h⟩ := lt_e h
      refine WP.istore (L' := (vR 0 :: vI v1 :: vI v2 :: vR 1 :: vI v4 :: vI v5 :: vI v6 :: vI v7 :: vI v8 :: vI v9 :: vI v10 :: vI x28 :: vU :: vU :: vU :: vU :: vU :: vU :: vU :: vU :: vU :: vU :: vU :: vU :: vU :: vU :: vU :: vU :: vU :: vU :: vU :: [])) at_302 (leb rfl) (by subst ex28; rfl) ?_
      refine WP.aloadN at_304 rfl ?_
      refine WP.iload at_305 rfl ?_
      obtain ⟨c29, hc29, h⟩ := bd h
      refine WP.callS (y := y0) (as := [.ref 0, .int x28]) (S := []) at_307 (hw _ m_0) (hw _ m_1) (hw _ m_2) (hw _ m_3) hy0 (CS.frame (ro := 1) (H := ([cI a] ++ Hb 1 s0)) (as := [.ref 0, .int x28]) fr0_f (ok0 l Z a0 hw x28 a _ hc29) rfl (by decide) (fr0_l a s0) (fr0_c a s0) (by decide) rfl) rfl (lenOf pd0 rfl) (leb rfl) (leb rfl) (leb rfl) (leb rfl) ?_
      rintro _ _ ⟨_, _, ⟨rfl, rfl⟩, rfl, rfl⟩
      rw [fr0_p a s0]
      show WLAW l Z n0 (PLAW r) 12 278 310 (vR 0 :: vI v1 :: vI v2 :: vR 1 :: vI v4 :: vI v5 :: vI v6 :: vI v7 :: vI v8 :: vI v9 :: vI v10 :: vI x28 :: vU :: vU :: vU :: vU :: vU :: vU :: vU :: vU :: vU :: vU :: vU :: vU :: vU :: vU :: vU :: vU :: vU :: vU :: vU :: []) [.int c29] ([cI a] ++ Hb 1 s0)
      refine WP.istore (L' := (vR 0 :: vI v1 :: vI v2 :: vR 1 :: vI v4 :: vI v5 :: vI v6 :: vI v7 :: vI v8 :: vI v9 :: vI v10 :: vI x28 :: vI c29 :: vU :: vU :: vU :: vU :: vU :: vU :: vU :: vU :: vU :: vU :: vU :: vU :: vU :: vU :: vU :: vU :: vU :: vU :: [])) at_310 (leb rfl) rfl ?_
      refine WP.iload at_312 rfl ?_
      obtain ⟨c30, hc30, h⟩ := bd h
      refine WP.callS (y := y14) (as := [.int c29]) (S := []) at_314 (hw _ m_107) (hw _ m_108) (hw _ m_2) (hw _ m_109) hy14 (CS.frame (ro := 1) (H := ([cI a] ++ Hb 1 s0)) (as := [.int c29]) fr1_f (ok14 l Z a0 hw c29 _ hc30) rfl (by decide) (fr1_l a s0) (fr1_c a s0) (by decide) rfl) rfl (lenOf pd14 rfl) (leb rfl) (leb rfl) (leb rfl) (leb rfl) ?_
      rintro _ _ ⟨_, _, ⟨rfl, rfl⟩, rfl, rfl⟩
      rw [fr1_p a s0]
      show WLAW l Z n0 (PLAW r) 12 278 317 (vR 0 :: vI v1 :: vI v2 :: vR 1 :: vI v4 :: vI v5 :: vI v6 :: vI v7 :: vI v8 :: vI v9 :: vI v10 :: vI x28 :: vI c29 :: vU :: vU :: vU :: vU :: vU :: vU :: vU :: vU :: vU :: vU :: vU :: vU :: vU :: vU :: vU :: vU :: vU :: vU :: []) [.int c30] ([cI a] ++ Hb 1 s0)
      refine WP.istore (L' := (vR 0 :: vI v1 :: vI v2 :: vR 1 :: vI v4 :: vI v5 :: vI v6 :: vI v7 :: vI v8 :: vI v9 :: vI v10 :: vI x28 :: vI c29 :: vI c30 :: vU :: vU :: vU :: vU :: vU :: vU :: vU :: vU :: vU :: vU :: vU :: vU :: vU :: vU :: vU :: vU :: vU :: [])) at_317 (leb rfl) rfl ?_
      refine WP.iload at_319 rfl ?_
      refine WP.iconst (2 : Int32) at_321 rfl ?_
      rcases ite_e h with ⟨hc31, h⟩ | ⟨hc31, h⟩
      ·
       refine WP.icmpY (pc' := 335) at_322 (XT.ii_lt_t hc31) (by decide) rfl ?_
       exact WP.weak (L' := (vR 0 :: vI v1 :: vI v2 :: vR 1 :: vI v4 :: vI v5 :: vI v6 :: vI v7 :: vI v8 :: vI v9 :: vI v10 :: vI x28 :: vI c29 :: vI c30 :: vU :: vU :: vU :: vU :: vU :: vU :: vU :: vU :: vU :: vU :: vU :: vU :: vU :: vU :: vU :: vU :: vU :: [])) ⟨rfl, rfl, rfl, rfl, rfl, rfl, rfl, rfl, rfl, rfl, rfl, rfl, rfl, rfl, trivial⟩ (okLAW_335 l Z a0 hw n0 _ hk56 n v1 v2 v4 v5 v6 v7 v8 v9 v10 x28 c29 c30 a s0 _ h)
      ·
       refine WP.icmpN at_322 (XT.ii_lt_f hc31) ?_
       refine WP.iload at_325 rfl ?_
       refine WP.iconst (5 : Int32) at_327 rfl ?_
       rcases ite_e h with ⟨hc32, h⟩ | ⟨hc32, h⟩
       ·
        refine WP.icmpY (pc' := 335) at_328 (XT.ii_gt_t hc32) (by decide) rfl ?_
        exact WP.weak (L' := (vR 0 :: vI v1 :: vI v2 :: vR 1 :: vI v4 :: vI v5 :: vI v6 :: vI v7 :: vI v8 :: vI v9 :: vI v10 :: vI x28 :: vI c29 :: vI c30 :: vU :: vU :: vU :: vU :: vU :: vU :: vU :: vU :: vU :: vU :: vU :: vU :: vU :: vU :: vU :: vU :: vU :: [])) ⟨rfl, rfl, rfl, rfl, rfl, rfl, rfl, rfl, rfl, rfl, rfl, rfl, rfl, rfl, trivial⟩ (okLAW_335 l Z a0 hw n0 _ hk56 n v1 v2 v4 v5 v6 v7 v8 v9 v10 x28 c29 c30 a s0 _ h)
       ·
        refine WP.icmpN at_328 (XT.ii_gt_f hc32) ?_
        refine WP.iconst (1 : Int32) at_331 rfl ?_
        refine WP.goto (pc' := 336) at_332 (by decide) rfl ?_
        exact WP.weak (L' := (vR 0 :: vI v1 :: vI v2 :: vR 1 :: vI v4 :: vI v5 :: vI v6 :: vI v7 :: vI v8 :: vI v9 :: vI v10 :: vI x28 :: vI c29 :: vI c30 :: vU :: vU :: vU :: vU :: vU :: vU :: vU :: vU :: vU :: vU :: vU :: vU :: vU :: vU :: vU :: vU :: vU :: [])) ⟨rfl, rfl, rfl, rfl, rfl, rfl, rfl, rfl, rfl, rfl, rfl, rfl, rfl, rfl, trivial⟩ (okLAW_336 l Z a0 hw n0 _ hk56 n v1 v2 v4 v5 v6 v7 v8 v9 v10 x28 c29 c30 (1 : Int32) a s0 _ h)
     ·
      refine WP.icmpY (pc' := 536) at_292 (XT.ii_ne_t hc27) (by decide) rfl ?_
      refine WP.iload at_536 rfl ?_
      refine WP.iconst (3 : Int32) at_538 rfl ?_
      rcases ite_e h with ⟨hc33, h⟩ | ⟨hc33, h⟩
      ·
       refine WP.icmpN at_539 (XT.ii_ne_f hc33) ?_
       refine WP.aloadN at_542 rfl ?_
       obtain ⟨c34, hc34, h⟩ := bd h
       refine WP.callV (i := 1) (y := y23) (as := []) (S := []) at_543 (hw _ m_142) (hw _ m_143) (hw _ m_145) (hw _ m_144) (hw _ m_146) (hw _ m_6) hy23 rfl (CS.frame (ro := 1) (H := ([cI a] ++ Hb 1 s0)) (as := [.ref 1]) fr2_f (ok23 l Z a0 hw n s0 _ hc34) rfl (by decide) (fr2_l a s0) (fr2_c a s0) (by decide) rfl) rfl (lenOf pd23 rfl) (leb rfl) (leb rfl) (leb rfl) (leb rfl) ?_
       rintro _ _ ⟨_, _, ⟨rfl, rfl⟩, rfl, rfl⟩
       rw [fr2_p a s0 c34.2]
       show WLAW l Z n0 (PLAW r) 12 278 546 (vR 0 :: vI v1 :: vI v2 :: vR 1 :: vI v4 :: vI v5 :: vI v6 :: vI v7 :: vI v8 :: vI v9 :: vI v10 :: vU :: vU :: vU :: vU :: vU :: vU :: vU :: vU :: vU :: vU :: vU :: vU :: vU :: vU :: vU :: vU :: vU :: vU :: vU :: vU :: []) [.int c34.1] ([cI a] ++ Hb 1 c34.2)
       refine WP.bipush (-2 : Int32) at_546 rfl ?_
       rcases ite_e h with ⟨hc35, h⟩ | ⟨hc35, h⟩
       ·
        refine WP.icmpY (pc' := 554) at_548 (XT.ii_eq_t hc35) (by decide) rfl ?_
        exact WP.weak (L' := (vR 0 :: vI v1 :: vI v2 :: vR 1 :: vU :: vI v5 :: vI v6 :: vI v7 :: vI v8 :: vI v9 :: vI v10 :: vU :: vU :: vU :: vU :: vU :: vU :: vU :: vU :: vU :: vU :: vU :: vU :: vU :: vU :: vU :: vU :: vU :: vU :: vU :: vU :: [])) ⟨rfl, rfl, rfl, rfl, rfl, rfl, rfl, rfl, rfl, rfl, trivial⟩ (okLAW_554 l Z a0 hw n0 _ hk56 n v1 v2 v5 v6 v7 v8 v9 v10 a c34.2 _ h)
       ·
        refine WP.icmpN at_548 (XT.ii_eq_f hc35) ?_
        refine WP.iconst (0 : Int32) at_551 rfl ?_
        refine WP.istore (L' := (vR 0 :: vI v1 :: vI v2 :: vR 1 :: vI v4 :: vI v5 :: vI v6 :: vI v7 :: vI (0 : Int32) :: vI v9 :: vI v10 :: vU :: vU :: vU :: vU :: vU :: vU :: vU :: vU :: vU :: vU :: vU :: vU :: vU :: vU :: vU :: vU :: vU :: vU :: vU :: vU :: [])) at_552 (leb rfl) rfl ?_
        exact WP.weak (L' := (vR 0 :: vI v1 :: vI v2 :: vR 1 :: vU :: vI v5 :: vI v6 :: vI v7 :: vI (0 : Int32) :: vI v9 :: vI v10 :: vU :: vU :: vU :: vU :: vU :: vU :: vU :: vU :: vU :: vU :: vU :: vU :: vU :: vU :: vU :: vU :: vU :: vU :: vU :: vU :: [])) ⟨rfl, rfl, rfl, rfl, rfl, rfl, rfl, rfl, rfl, rfl, trivial⟩ (okLAW_554 l Z a0 hw n0 _ hk56 n v1 v2 v5 v6 v7 (0 : Int32) v9 v10 a c34.2 _ h)
      ·
       refine WP.icmpY (pc' := 560) at_539 (XT.ii_ne_t hc33) (by decide) rfl ?_
       refine WP.aloadN at_560 rfl ?_
       obtain ⟨c36, hc36, h⟩ := bd h
       refine WP.callV (i := 1) (y := y26) (as := []) (S := []) at_561 (hw _ m_155) (hw _ m_156) (hw _ m_158) (hw _ m_157) (hw _ m_159) (hw _ m_6) hy26 rfl (CS.frame (ro := 1) (H := ([cI a] ++ Hb 1 s0)) (as := [.ref 1]) fr2_f (ok26 l Z a0 hw s0 _ hc36) rfl (by decide) (fr2_l a s0) (fr2_c a s0) (by decide) rfl) rfl (lenOf pd26 rfl) (leb rfl) (leb rfl) (leb rfl) (leb rfl) ?_
       rintro _ _ ⟨_, _, ⟨rfl, rfl⟩, rfl, rfl⟩
       rw [fr2_p a s0 s0]
       show WLAW l Z n0 (PLAW r) 12 278 564 (vR 0 :: vI v1 :: vI v2 :: vR 1 :: vI v4 :: vI v5 :: vI v6 :: vI v7 :: vI v8 :: vI v9 :: vI v10 :: vU :: vU :: vU :: vU :: vU :: vU :: vU :: vU :: vU :: vU :: vU :: vU :: vU :: vU :: vU :: vU :: vU :: vU :: vU :: vU :: []) [.int c36] ([cI a] ++ Hb 1 s0)
       rcases ite_e h with ⟨hc37, h⟩ | ⟨hc37, h⟩
       ·
        refine WP.ifY (pc' := 590) at_564 (XT.i0_eq_t hc37) (by decide) rfl ?_
        refine WP.aloadN at_590 rfl ?_
        obtain ⟨c38, hc38, h⟩ := bd h
        refine WP.callV (i := 1) (y := y27) (as := []) (S := []) at_591 (hw _ m_160) (hw _ m_161) (hw _ m_163) (hw _ m_162) (hw _ m_164) (hw _ m_6) hy27 rfl (CS.frame (ro := 1) (H := ([cI a] ++ Hb 1 s0)) (as := [.ref 1]) fr2_f (ok27 l Z a0 hw s0 _ hc38) rfl (by decide) (fr2_l a s0) (fr2_c a s0) (by decide) rfl) rfl (lenOf pd27 rfl) (leb rfl) (leb rfl) (leb rfl) (leb rfl) ?_
        rintro _ _ ⟨_, _, ⟨rfl, rfl⟩, rfl, rfl⟩
        rw [fr2_p a s0 s0]
        show WLAW l Z n0 (PLAW r) 12 278 594 (vR 0 :: vI v1 :: vI v2 :: vR 1 :: vI v4 :: vI v5 :: vI v6 :: vI v7 :: vI v8 :: vI v9 :: vI v10 :: vU :: vU :: vU :: vU :: vU :: vU :: vU :: vU :: vU :: vU :: vU :: vU :: vU :: vU :: vU :: vU :: vU :: vU :: vU :: vU :: []) [.int c38] ([cI a] ++ Hb 1 s0)
        refine WP.istore (L' := (vR 0 :: vI v1 :: vI v2 :: vR 1 :: vI v4 :: vI v5 :: vI v6 :: vI v7 :: vI v8 :: vI v9 :: vI v10 :: vI c38 :: vU :: vU :: vU :: vU :: vU :: vU :: vU :: vU :: vU :: vU :: vU :: vU :: vU :: vU :: vU :: vU :: vU :: vU :: vU :: [])) at_594 (leb rfl) rfl ?_
        refine WP.iconst (0 : Int32) at_596 rfl ?_
        refine WP.istore (L' := (vR 0 :: vI v1 :: vI v2 :: vR 1 :: vI v4 :: vI v5 :: vI v6 :: vI v7 :: vI v8 :: vI v9 :: vI v10 :: vI c38 :: vI (0 : Int32) :: vU :: vU :: vU :: vU :: vU :: vU :: vU :: vU :: vU :: vU :: vU :: vU :: vU :: vU :: vU :: vU :: vU :: vU :: [])) at_597 (leb rfl) rfl ?_
        refine WP.iconst (0 : Int32) at_599 rfl ?_
        refine WP.istore (L' := (vR 0 :: vI v1 :: vI v2 :: vR 1 :: vI v4 :: vI v5 :: vI v6 :: vI v7 :: vI v8 :: vI v9 :: vI v10 :: vI c38 :: vI (0 : Int32) :: vI (0 : Int32) :: vU :: vU :: vU :: vU :: vU :: vU :: vU :: vU :: vU :: vU :: vU :: vU :: vU :: vU :: vU :: vU :: vU :: [])) at_600 (leb rfl) rfl ?_
        refine WP.iload at_602 rfl ?_
        rcases ite_e h with ⟨hc39, h⟩ | ⟨hc39, h⟩
        ·
         refine WP.ifY (pc' := 799) at_604 (XT.i0_eq_t hc39) (by decide) rfl ?_
         exact WP.weak (L' := (vR 0 :: vI v1 :: vI v2 :: vR 1 :: vI v4 :: vI v5 :: vI v6 :: vI v7 :: vI v8 :: vI v9 :: vI v10 :: vU :: vI (0 : Int32) :: vI (0 : Int32) :: vU :: vU :: vU :: vU :: vU :: vU :: vU :: vU :: vU :: vU :: vU :: vU :: vU :: vU :: vU :: vU :: vU :: [])) ⟨rfl, rfl, rfl, rfl, rfl, rfl, rfl, rfl, rfl, rfl, rfl, rfl, rfl, trivial⟩ (okLAW_799 l Z a0 hw n0 _ hk56 n v1 v2 v4 v5 v6 v7 v8 v9 v10 (0 : Int32) (0 : Int32) a s0 _ h)
        ·
         refine WP.ifN at_604 (XT.i0_eq_f hc39) ?_
         refine WP.iload at_607 rfl ?_
         rcases ite_e h with ⟨hc40, h⟩ | ⟨hc40, h⟩
         ·
          refine WP.ifY (pc' := 799) at_609 (XT.i0_lt_t hc40) (by decide) rfl ?_
          exact WP.weak (L' := (vR 0 :: vI v1 :: vI v2 :: vR 1 :: vI v4 :: vI v5 :: vI v6 :: vI v7 :: vI v8 :: vI v9 :: vI v10 :: vU :: vI (0 : Int32) :: vI (0 : Int32) :: vU :: vU :: vU :: vU :: vU :: vU :: vU :: vU :: vU :: vU :: vU :: vU :: vU :: vU :: vU :: vU :: vU :: [])) ⟨rfl, rfl, rfl, rfl, rfl, rfl, rfl, rfl, rfl, rfl, rfl, rfl, rfl, trivial⟩ (okLAW_799 l Z a0 hw n0 _ hk56 n v1 v2 v4 v5 v6 v7 v8 v9 v10 (0 : Int32) (0 : Int32) a s0 _ h)
         ·
          refine WP.ifN at_609 (XT.i0_lt_f hc40) ?_
          refine WP.iload at_612 rfl ?_
          refine WP.iloadN at_614 rfl ?_
          rcases ite_e h with ⟨hc41, h⟩ | ⟨hc41, h⟩
          ·
           refine WP.icmpN at_615 (XT.ii_ge_f hc41) ?_
           refine WP.bipush (10 : Int32) at_618 rfl ?_
           refine WP.iconst (5 : Int32) at_620 rfl ?_
           refine WP.iload at_621 rfl ?_
           refine WP.imul at_623 ?_
           refine WP.iadd at_624 ?_
           obtain ⟨x42, ex42, h⟩ := lt_e h
           refine WP.istore (L' := (vR 0 :: vI v1 :: vI v2 :: vR 1 :: vI v4 :: vI v5 :: vI v6 :: vI v7 :: vI v8 :: vI v9 :: vI v10 :: vI c38 :: vI (0 : Int32) :: vI (0 : Int32) :: vI x42 :: vU :: vU :: vU :: vU :: vU :: vU :: vU :: vU :: vU :: vU :: vU :: vU :: vU :: vU :: vU :: vU :: [])) at_625 (leb rfl) (by subst ex42; rfl) ?_
           refine WP.aloadN at_627 rfl ?_
           refine WP.iload at_628 rfl ?_
           obtain ⟨c43, hc43, h⟩ := bd h
           refine WP.callS (y := y0) (as := [.ref 0, .int x42]) (S := []) at_630 (hw _ m_0) (hw _ m_1) (hw _ m_2) (hw _ m_3) hy0 (CS.frame (ro := 1) (H := ([cI a] ++ Hb 1 s0)) (as := [.ref 0, .int x42]) fr0_f (ok0 l Z a0 hw x42 a _ hc43) rfl (by decide) (fr0_l a s0) (fr0_c a s0) (by decide) rfl) rfl (lenOf pd0 rfl) (leb rfl) (leb rfl) (leb rfl) (leb rfl) ?_
           rintro _ _ ⟨_, _, ⟨rfl, rfl⟩, rfl, rfl⟩
           rw [fr0_p a s0]
           show WLAW l Z n0 (PLAW r) 12 278 633 (vR 0 :: vI v1 :: vI v2 :: vR 1 :: vI v4 :: vI v5 :: vI v6 :: vI v7 :: vI v8 :: vI v9 :: vI v10 :: vI c38 :: vI (0 : Int32) :: vI (0 : Int32) :: vI x42 :: vU :: vU :: vU :: vU :: vU :: vU :: vU :: vU :: vU :: vU :: vU :: vU :: vU :: vU :: vU :: vU :: []) [.int c43] ([cI a] ++ Hb 1 s0)
           refine WP.istore (L' := (vR 0 :: vI v1 :: vI v2 :: vR 1 :: vI v4 :: vI v5 :: vI v6 :: vI v7 :: vI v8 :: vI v9 :: vI v10 :: vI c38 :: vI (0 : Int32) :: vI (0 : Int32) :: vI x42 :: vI c43 :: vU :: vU :: vU :: vU :: vU :: vU :: vU :: vU :: vU :: vU :: vU :: vU :: vU :: vU :: vU :: [])) at_633 (leb rfl) rfl ?_
           refine WP.iload at_635 rfl ?_
           obtain ⟨c44, hc44, h⟩ := bd h
           refine WP.callS (y := y14) (as := [.int c43]) (S := []) at_637 (hw _ m_107) (hw _ m_108) (hw _ m_2) (hw _ m_109) hy14 (CS.frame (ro := 1) (H := ([cI a] ++ Hb 1 s0)) (as := [.int c43]) fr1_f (ok14 l Z a0 hw c43 _ hc44) rfl (by decide) (fr1_l a s0) (fr1_c a s0) (by decide) rfl) rfl (lenOf pd14 rfl) (leb rfl) (leb rfl) (leb rfl) (leb rfl) ?_
           rintro _ _ ⟨_, _, ⟨rfl, rfl⟩, rfl, rfl⟩
           rw [fr1_p a s0]
           show WLAW l Z n0 (PLAW r) 12 278 640 (vR 0 :: vI v1 :: vI v2 :: vR 1 :: vI v4 :: vI v5 :: vI v6 :: vI v7 :: vI v8 :: vI v9 :: vI v10 :: vI c38 :: vI (0 : Int32) :: vI (0 : Int32) :: vI x42 :: vI c43 :: vU :: vU :: vU :: vU :: vU :: vU :: vU :: vU :: vU :: vU :: vU :: vU :: vU :: vU :: vU :: []) [.int c44] ([cI a] ++ Hb 1 s0)
           refine WP.istore (L' := (vR 0 :: vI v1 :: vI v2 :: vR 1 :: vI v4 :: vI v5 :: vI v6 :: vI v7 :: vI v8 :: vI v9 :: vI v10 :: vI c38 :: vI (0 : Int32) :: vI (0 : Int32) :: vI x42 :: vI c43 :: vI c44 :: vU :: vU :: vU :: vU :: vU :: vU :: vU :: vU :: vU :: vU :: vU :: vU :: vU :: vU :: [])) at_640 (leb rfl) rfl ?_
           refine WP.iload at_642 rfl ?_
           refine WP.iconst (2 : Int32) at_644 rfl ?_
           rcases ite_e h with ⟨hc45, h⟩ | ⟨hc45, h⟩
           ·
            refine WP.icmpY (pc' := 799) at_645 (XT.ii_lt_t hc45) (by decide) rfl ?_
            exact WP.weak (L' := (vR 0 :: vI v1 :: vI v2 :: vR 1 :: vI v4 :: vI v5 :: vI v6 :: vI v7 :: vI v8 :: vI v9 :: vI v10 :: vU :: vI (0 : Int32) :: vI (0 : Int32) :: vU :: vU :: vU :: vU :: vU :: vU :: vU :: vU :: vU :: vU :: vU :: vU :: vU :: vU :: vU :: vU :: vU :: [])) ⟨rfl, rfl, rfl, rfl, rfl, rfl, rfl, rfl, rfl, rfl, rfl, rfl, rfl, trivial⟩ (okLAW_799 l Z a0 hw n0 _ hk56 n v1 v2 v4 v5 v6 v7 v8 v9 v10 (0 : Int32) (0 : Int32) a s0 _ h)
           ·
            refine WP.icmpN at_645 (XT.ii_lt_f hc45) ?_
            refine WP.iload at_648 rfl ?_
            refine WP.iconst (5 : Int32) at_650 rfl ?_
            rcases ite_e h with ⟨hc46, h⟩ | ⟨hc46, h⟩
            ·
             refine WP.icmpY (pc' := 799) at_651 (XT.ii_gt_t hc46) (by decide) rfl ?_
             exact WP.weak (L' := (vR 0 :: vI v1 :: vI v2 :: vR 1 :: vI v4 :: vI v5 :: vI v6 :: vI v7 :: vI v8 :: vI v9 :: vI v10 :: vU :: vI (0 : Int32) :: vI (0 : Int32) :: vU :: vU :: vU :: vU :: vU :: vU :: vU :: vU :: vU :: vU :: vU :: vU :: vU :: vU :: vU :: vU :: vU :: [])) ⟨rfl, rfl, rfl, rfl, rfl, rfl, rfl, rfl, rfl, rfl, rfl, rfl, rfl, trivial⟩ (okLAW_799 l Z a0 hw n0 _ hk56 n v1 v2 v4 v5 v6 v7 v8 v9 v10 (0 : Int32) (0 : Int32) a s0 _ h)
            ·
             refine WP.icmpN at_651 (XT.ii_gt_f hc46) ?_
             refine WP.iload at_654 rfl ?_
             obtain ⟨c47, hc47, h⟩ := bd h
             refine WP.callS (y := y21) (as := [.int c43]) (S := []) at_656 (hw _ m_134) (hw _ m_135) (hw _ m_2) (hw _ m_136) hy21 (CS.frame (ro := 1) (H := ([cI a] ++ Hb 1 s0)) (as := [.int c43]) fr1_f (ok21 l Z a0 hw c43 _ hc47) rfl (by decide) (fr1_l a s0) (fr1_c a s0) (by decide) rfl) rfl (lenOf pd21 rfl) (leb rfl) (leb rfl) (leb rfl) (leb rfl) ?_
             rintro _ _ ⟨_, _, ⟨rfl, rfl⟩, rfl, rfl⟩
             rw [fr1_p a s0]
             show WLAW l Z n0 (PLAW r) 12 278 659 (vR 0 :: vI v1 :: vI v2 :: vR 1 :: vI v4 :: vI v5 :: vI v6 :: vI v7 :: vI v8 :: vI v9 :: vI v10 :: vI c38 :: vI (0 : Int32) :: vI (0 : Int32) :: vI x42 :: vI c43 :: vI c44 :: vU :: vU :: vU :: vU :: vU :: vU :: vU :: vU :: vU :: vU :: vU :: vU :: vU :: vU :: []) [.int c47] ([cI a] ++ Hb 1 s0)
             rcases ite_e h with ⟨hc48, h⟩ | ⟨hc48, h⟩
             ·
              refine WP.ifY (pc' := 799) at_659 (XT.i0_eq_t hc48) (by decide) rfl ?_
              exact WP.weak (L' := (vR 0 :: vI v1 :: vI v2 :: vR 1 :: vI v4 :: vI v5 :: vI v6 :: vI v7 :: vI v8 :: vI v9 :: vI v10 :: vU :: vI (0 : Int32) :: vI (0 : Int32) :: vU :: vU :: vU :: vU :: vU :: vU :: vU :: vU :: vU :: vU :: vU :: vU :: vU :: vU :: vU :: vU :: vU :: [])) ⟨rfl, rfl, rfl, rfl, rfl, rfl, rfl, rfl, rfl, rfl, rfl, rfl, rfl, trivial⟩ (okLAW_799 l Z a0 hw n0 _ hk56 n v1 v2 v4 v5 v6 v7 v8 v9 v10 (0 : Int32) (0 : Int32) a s0 _ h)
             ·
              refine WP.ifN at_659 (XT.i0_eq_f hc48) ?_
              refine WP.aloadN at_662 rfl ?_
              refine WP.iload at_663 rfl ?_
              refine WP.iconst (1 : Int32) at_665 rfl ?_
              refine WP.iadd at_666 ?_
              obtain ⟨c49, hc49, h⟩ := bd h
              refine WP.callS (y := y0) (as := [.ref 0, .int (x42 + (1 : Int32))]) (S := []) at_667 (hw _ m_0) (hw _ m_1) (hw _ m_2) (hw _ m_3) hy0 (CS.frame (ro := 1) (H := ([cI a] ++ Hb 1 s0)) (as := [.ref 0, .int (x42 + (1 : Int32))]) fr0_f (ok0 l Z a0 hw (x42 + (1 : Int32)) a _ hc49) rfl (by decide) (fr0_l a s0) (fr0_c a s0) (by decide) rfl) rfl (lenOf pd0 rfl) (leb rfl) (leb rfl) (leb rfl) (leb rfl) ?_
              rintro _ _ ⟨_, _, ⟨rfl, rfl⟩, rfl, rfl⟩
              rw [fr0_p a s0]
              show WLAW l Z n0 (PLAW r) 12 278 670 (vR 0 :: vI v1 :: vI v2 :: vR 1 :: vI v4 :: vI v5 :: vI v6 :: vI v7 :: vI v8 :: vI v9 :: vI v10 :: vI c38 :: vI (0 : Int32) :: vI (0 : Int32) :: vI x42 :: vI c43 :: vI c44 :: vU :: vU :: vU :: vU :: vU :: vU :: vU :: vU :: vU :: vU :: vU :: vU :: vU :: vU :: []) [.int c49] ([cI a] ++ Hb 1 s0)
              refine WP.iload at_670 rfl ?_
              obtain ⟨c50, hc50, h⟩ := bd h
              refine WP.callS (y := y15) (as := [.int c49, .int v6]) (S := []) at_672 (hw _ m_110) (hw _ m_111) (hw _ m_2) (hw _ m_112) hy15 (CS.frame (ro := 1) (H := ([cI a] ++ Hb 1 s0)) (as := [.int c49, .int v6]) fr1_f (ok15 l Z a0 hw c49 v6 _ hc50) rfl (by decide) (fr1_l a s0) (fr1_c a s0) (by decide) rfl) rfl (lenOf pd15 rfl) (leb rfl) (leb rfl) (leb rfl) (leb rfl) ?_
              rintro _ _ ⟨_, _, ⟨rfl, rfl⟩, rfl, rfl⟩
              rw [fr1_p a s0]
              show WLAW l Z n0 (PLAW r) 12 278 675 (vR 0 :: vI v1 :: vI v2 :: vR 1 :: vI v4 :: vI v5 :: vI v6 :: vI v7 :: vI v8 :: vI v9 :: vI v10 :: vI c38 :: vI (0 : Int32) :: vI (0 : Int32) :: vI x42 :: vI c43 :: vI c44 :: vU :: vU :: vU :: vU :: vU :: vU :: vU :: vU :: vU :: vU :: vU :: vU :: vU :: vU :: []) [.int c50] ([cI a] ++ Hb 1 s0)
              refine WP.istore (L' := (vR 0 :: vI v1 :: vI v2 :: vR 1 :: vI v4 :: vI v5 :: vI v6 :: vI v7 :: vI v8 :: vI v9 :: vI v10 :: vI c38 :: vI (0 : Int32) :: vI (0 : Int32) :: vI x42 :: vI c43 :: vI c44 :: vI c50 :: vU :: vU :: vU :: vU :: vU :: vU :: vU :: vU :: vU :: vU :: vU :: vU :: vU :: [])) at_675 (leb rfl) rfl ?_
              refine WP.aloadN at_677 rfl ?_
              refine WP.iload at_678 rfl ?_
              refine WP.iconst (2 : Int32) at_680 rfl ?_
              refine WP.iadd at_681 ?_
              obtain ⟨c51, hc51, h⟩ := bd h
              refine WP.callS (y := y0) (as := [.ref 0, .int (x42 + (2 : Int32))]) (S := []) at_682 (hw _ m_0) (hw _ m_1) (hw _ m_2) (hw _ m_3) hy0 (CS.frame (ro := 1) (H := ([cI a] ++ Hb 1 s0)) (as := [.ref 0, .int (x42 + (2 : Int32))]) fr0_f (ok0 l Z a0 hw (x42 + (2 : Int32)) a _ hc51) rfl (by decide) (fr0_l a s0) (fr0_c a s0) (by decide) rfl) rfl (lenOf pd0 rfl) (leb rfl) (leb rfl) (leb rfl) (leb rfl) ?_
              rintro _ _ ⟨_, _, ⟨rfl, rfl⟩, rfl, rfl⟩
              rw [fr0_p a s0]
              show WLAW l Z n0 (PLAW r) 12 278 685 (vR 0 :: vI v1 :: vI v2 :: vR 1 :: vI v4 :: vI v5 :: vI v6 :: vI v7 :: vI v8 :: vI v9 :: vI v10 :: vI c38 :: vI (0 : Int32) :: vI (0 : Int32) :: vI x42 :: vI c43 :: vI c44 :: vI c50 :: vU :: vU :: vU :: vU :: vU :: vU :: vU :: vU :: vU :: vU :: vU :: vU :: vU :: []) [.int c51] ([cI a] ++ Hb 1 s0)
              refine WP.iload at_685 rfl ?_
              obtain ⟨c52, hc52, h⟩ := bd h
              refine WP.callS (y := y15) (as := [.int c51, .int v6]) (S := []) at_687 (hw _ m_110) (hw _ m_111) (hw _ m_2) (hw _ m_112) hy15 (CS.frame (ro := 1) (H := ([cI a] ++ Hb 1 s0)) (as := [.int c51, .int v6]) fr1_f (ok15 l Z a0 hw c51 v6 _ hc52) rfl (by decide) (fr1_l a s0) (fr1_c a s0) (by decide) rfl) rfl (lenOf pd15 rfl) (leb rfl) (leb rfl) (leb rfl) (leb rfl) ?_
              rintro _ _ ⟨_, _, ⟨rfl, rfl⟩, rfl, rfl⟩
              rw [fr1_p a s0]
              show WLAW l Z n0 (PLAW r) 12 278 690 (vR 0 :: vI v1 :: vI v2 :: vR 1 :: vI v4 :: vI v5 :: vI v6 :: vI v7 :: vI v8 :: vI v9 :: vI v10 :: vI c38 :: vI (0 : Int32) :: vI (0 : Int32) :: vI x42 :: vI c43 :: vI c44 :: vI c50 :: vU :: vU :: vU :: vU :: vU :: vU :: vU :: vU :: vU :: vU :: vU :: vU :: vU :: []) [.int c52] ([cI a] ++ Hb 1 s0)
              refine WP.istore (L' := (vR 0 :: vI v1 :: vI v2 :: vR 1 :: vI v4 :: vI v5 :: vI v6 :: vI v7 :: vI v8 :: vI v9 :: vI v10 :: vI c38 :: vI (0 : Int32) :: vI (0 : Int32) :: vI x42 :: vI c43 :: vI c44 :: vI c50 :: vI c52 :: vU :: vU :: vU :: vU :: vU :: vU :: vU :: vU :: vU :: vU :: vU :: vU :: [])) at_690 (leb rfl) rfl ?_
              refine WP.aloadN at_692 rfl ?_
              refine WP.iload at_693 rfl ?_
              refine WP.iconst (3 : Int32) at_695 rfl ?_
              refine WP.iadd at_696 ?_
              obtain ⟨c53, hc53, h⟩ := bd h
              refine WP.callS (y := y0) (as := [.ref 0, .int (x42 + (3 : Int32))]) (S := []) at_697 (hw _ m_0) (hw _ m_1) (hw _ m_2) (hw _ m_3) hy0 (CS.frame (ro := 1) (H := ([cI a] ++ Hb 1 s0)) (as := [.ref 0, .int (x42 + (3 : Int32))]) fr0_f (ok0 l Z a0 hw (x42 + (3 : Int32)) a _ hc53) rfl (by decide) (fr0_l a s0) (fr0_c a s0) (by decide) rfl) rfl (lenOf pd0 rfl) (leb rfl) (leb rfl) (leb rfl) (leb rfl) ?_
              rintro _ _ ⟨_, _, ⟨rfl, rfl⟩, rfl, rfl⟩
              rw [fr0_p a s0]
              show WLAW l Z n0 (PLAW r) 12 278 700 (vR 0 :: vI v1 :: vI v2 :: vR 1 :: vI v4 :: vI v5 :: vI v6 :: vI v7 :: vI v8 :: vI v9 :: vI v10 :: vI c38 :: vI (0 : Int32) :: vI (0 : Int32) :: vI x42 :: vI c43 :: vI c44 :: vI c50 :: vI c52 :: vU :: vU :: vU :: vU :: vU :: vU :: vU :: vU :: vU :: vU :: vU :: vU :: []) [.int c53] ([cI a] ++ Hb 1 s0)
              refine WP.iload at_700 rfl ?_
              obtain ⟨c54, hc54, h⟩ := bd h
              refine WP.callS (y := y15) (as := [.int c53, .int v6]) (S := []) at_702 (hw _ m_110) (hw _ m_111) (hw _ m_2) (hw _ m_112) hy15 (CS.frame (ro := 1) (H := ([cI a] ++ Hb 1 s0)) (as := [.int c53, .int v6]) fr1_f (ok15 l Z a0 hw c53 v6 _ hc54) rfl (by decide) (fr1_l a s0) (fr1_c a s0) (by decide) rfl) rfl (lenOf pd15 rfl) (leb rfl) (leb rfl) (leb rfl) (leb rfl) ?_
              rintro _ _ ⟨_, _, ⟨rfl, rfl⟩, rfl, rfl⟩
              rw [fr1_p a s0]
              show WLAW l Z n0 (PLAW r) 12 278 705 (vR 0 :: vI v1 :: vI v2 :: vR 1 :: vI v4 :: vI v5 :: vI v6 :: vI v7 :: vI v8 :: vI v9 :: vI v10 :: vI c38 :: vI (0 : Int32) :: vI (0 : Int32) :: vI x42 :: vI c43 :: vI c44 :: vI c50 :: vI c52 :: vU :: vU :: vU :: vU :: vU :: vU :: vU :: vU :: vU :: vU :: vU :: vU :: []) [.int c54] ([cI a] ++ Hb 1 s0)
              refine WP.istore (L' := (vR 0 :: vI v1 :: vI v2 :: vR 1 :: vI v4 :: vI v5 :: vI v6 :: vI v7 :: vI v8 :: vI v9 :: vI v10 :: vI c38 :: vI (0 : Int32) :: vI (0 : Int32) :: vI x42 :: vI c43 :: vI c44 :: vI c50 :: vI c52 :: vI c54 :: vU :: vU :: vU :: vU :: vU :: vU :: vU :: vU :: vU :: vU :: vU :: [])) at_705 (leb rfl) rfl ?_
              refine WP.aloadN at_707 rfl ?_
              refine WP.iconst (1 : Int32) at_708 rfl ?_
              refine WP.iload at_709 rfl ?_
              refine WP.iadd at_711 ?_
              obtain ⟨c55, hc55, h⟩ := bd h
              refine WP.callS (y := y0) (as := [.ref 0, .int ((1 : Int32) + c50)]) (S := []) at_712 (hw _ m_0) (hw _ m_1) (hw _ m_2) (hw _ m_3) hy0 (CS.frame (ro := 1) (H := ([cI a] ++ Hb 1 s0)) (as := [.ref 0, .int ((1 : Int32) + c50)]) fr0_f (ok0 l Z a0 hw ((1 : Int32) + c50) a _ hc55) rfl (by decide) (fr0_l a s0) (fr0_c a s0) (by decide) rfl) rfl (lenOf pd0 rfl) (leb rfl) (leb rfl) (leb rfl) (leb rfl) ?_
              rintro _ _ ⟨_, _, ⟨rfl, rfl⟩, rfl, rfl⟩
              rw [fr0_p a s0]
              show WLAW l Z n0 (PLAW r) 12 278 715 (vR 0 :: vI v1 :: vI v2 :: vR 1 :: vI v4 :: vI v5 :: vI v6 :: vI v7 :: vI v8 :: vI v9 :: vI v10 :: vI c38 :: vI (0 : Int32) :: vI (0 : Int32) :: vI x42 :: vI c43 :: vI c44 :: vI c50 :: vI c52 :: vI c54 :: vU :: vU :: vU :: vU :: vU :: vU :: vU :: vU :: vU :: vU :: vU :: []) [.int c55] ([cI a] ++ Hb 1 s0)
              refine WP.istore (L' := (vR 0 :: vI v1 :: vI v2 :: vR 1 :: vI v4 :: vI v5 :: vI v6 :: vI v7 :: vI v8 :: vI v9 :: vI v10 :: vI c38 :: vI (0 : Int32) :: vI (0 : Int32) :: vI x42 :: vI c43 :: vI c44 :: vI c50 :: vI c52 :: vI c54 :: vI c55 :: vU :: vU :: vU :: vU :: vU :: vU :: vU :: vU :: vU :: vU :: [])) at_715 (leb rfl) rfl ?_
              refine WP.aloadN at_717 rfl ?_
              refine WP.iconst (1 : Int32) at_718 rfl ?_
              refine WP.iload at_719 rfl ?_
              refine WP.iadd at_721 ?_
              obtain ⟨c56, hc56, h⟩ := bd h
              refine WP.callS (y := y0) (as := [.ref 0, .int ((1 : Int32) + c52)]) (S := []) at_722 (hw _ m_0) (hw _ m_1) (hw _ m_2) (hw _ m_3) hy0 (CS.frame (ro := 1) (H := ([cI a] ++ Hb 1 s0)) (as := [.ref 0, .int ((1 : Int32) + c52)]) fr0_f (ok0 l Z a0 hw ((1 : Int32) + c52) a _ hc56) rfl (by decide) (fr0_l a s0) (fr0_c a s0) (by decide) rfl) rfl (lenOf pd0 rfl) (leb rfl) (leb rfl) (leb rfl) (leb rfl) ?_
              rintro _ _ ⟨_, _, ⟨rfl, rfl⟩, rfl, rfl⟩
              rw [fr0_p a s0]
              show WLAW l Z n0 (PLAW r) 12 278 725 (vR 0 :: vI v1 :: vI v2 :: vR 1 :: vI v4 :: vI v5 :: vI v6 :: vI v7 :: vI v8 :: vI v9 :: vI v10 :: vI c38 :: vI (0 : Int32) :: vI (0 : Int32) :: vI x42 :: vI c43 :: vI c44 :: vI c50 :: vI c52 :: vI c54 :: vI c55 :: vU :: vU :: vU :: vU :: vU :: vU :: vU :: vU :: vU :: vU :: []) [.int c56] ([cI a] ++ Hb 1 s0)
              refine WP.istore (L' := (vR 0 :: vI v1 :: vI v2 :: vR 1 :: vI v4 :: vI v5 :: vI v6 :: vI v7 :: vI v8 :: vI v9 :: vI v10 :: vI c38 :: vI (0 : Int32) :: vI (0 : Int32) :: vI x42 :: vI c43 :: vI c44 :: vI c50 :: vI c52 :: vI c54 :: vI c55 :: vI c56 :: vU :: vU :: vU :: vU :: vU :: vU :: vU :: vU :: vU :: [])) at_725 (leb rfl) rfl ?_
              refine WP.aloadN at_727 rfl ?_
              refine WP.iconst (1 : Int32) at_728 rfl ?_
              refine WP.iload at_729 rfl ?_
              refine WP.iadd at_731 ?_
              obtain ⟨c57, hc57, h⟩ := bd h
              refine WP.callS (y := y0) (as := [.ref 0, .int ((1 : Int32) + c54)]) (S := []) at_732 (hw _ m_0) (hw _ m_1) (hw _ m_2) (hw _ m_3) hy0 (CS.frame (ro := 1) (H := ([cI a] ++ Hb 1 s0)) (as := [.ref 0, .int ((1 : Int32) + c54)]) fr0_f (ok0 l Z a0 hw ((1 : Int32) + c54) a _ hc57) rfl (by decide) (fr0_l a s0) (fr0_c a s0) (by decide) rfl) rfl (lenOf pd0 rfl) (leb rfl) (leb rfl) (leb rfl) (leb rfl) ?_
              rintro _ _ ⟨_, _, ⟨rfl, rfl⟩, rfl, rfl⟩
              rw [fr0_p a s0]
              show WLAW l Z n0 (PLAW r) 12 278 735 (vR 0 :: vI v1 :: vI v2 :: vR 1 :: vI v4 :: vI v5 :: vI v6 :: vI v7 :: vI v8 :: vI v9 :: vI v10 :: vI c38 :: vI (0 : Int32) :: vI (0 : Int32) :: vI x42 :: vI c43 :: vI c44 :: vI c50 :: vI c52 :: vI c54 :: vI c55 :: vI c56 :: vU :: vU :: vU :: vU :: vU :: vU :: vU :: vU :: vU :: []) [.int c57] ([cI a] ++ Hb 1 s0)
              refine WP.istore (L' := (vR 0 :: vI v1 :: vI v2 :: vR 1 :: vI v4 :: vI v5 :: vI v6 :: vI v7 :: vI v8 :: vI v9 :: vI v10 :: vI c38 :: vI (0 : Int32) :: vI (0 : Int32) :: vI x42 :: vI c43 :: vI c44 :: vI c50 :: vI c52 :: vI c54 :: vI c55 :: vI c56 :: vI c57 :: vU :: vU :: vU :: vU :: vU :: vU :: vU :: vU :: [])) at_735 (leb rfl) rfl ?_
              refine WP.iload at_737 rfl ?_
              refine WP.iload at_739 rfl ?_
              obtain ⟨c58, hc58, h⟩ := bd h
              refine WP.callS (y := y16) (as := [.int c43]) (S := [.int c44]) at_741 (hw _ m_114) (hw _ m_115) (hw _ m_2) (hw _ m_116) hy16 (CS.frame (ro := 1) (H := ([cI a] ++ Hb 1 s0)) (as := [.int c43]) fr1_f (ok16 l Z a0 hw c43 _ hc58) rfl (by decide) (fr1_l a s0) (fr1_c a s0) (by decide) rfl) rfl (lenOf pd16 rfl) (leb rfl) (leb rfl) (leb rfl) (leb rfl) ?_
              rintro _ _ ⟨_, _, ⟨rfl, rfl⟩, rfl, rfl⟩
              rw [fr1_p a s0]
              show WLAW l Z n0 (PLAW r) 12 278 744 (vR 0 :: vI v1 :: vI v2 :: vR 1 :: vI v4 :: vI v5 :: vI v6 :: vI v7 :: vI v8 :: vI v9 :: vI v10 :: vI c38 :: vI (0 : Int32) :: vI (0 : Int32) :: vI x42 :: vI c43 :: vI c44 :: vI c50 :: vI c52 :: vI c54 :: vI c55 :: vI c56 :: vI c57 :: vU :: vU :: vU :: vU :: vU :: vU :: vU :: vU :: []) [.int c58, .int c44] ([cI a] ++ Hb 1 s0)
              refine WP.aloadN at_744 rfl ?_
              refine WP.iload at_745 rfl ?_
              obtain ⟨c59, hc59, h⟩ := bd h
              refine WP.callV (i := 1) (y := y8) (as := [.int c50]) (S := [.int c58, .int c44]) at_747 (hw _ m_80) (hw _ m_81) (hw _ m_83) (hw _ m_82) (hw _ m_84) (hw _ m_6) hy8 rfl (CS.frame (ro := 1) (H := ([cI a] ++ Hb 1 s0)) (as := [.ref 1, .int c50]) fr2_f (ok8 l Z a0 hw c50 s0 _ hc59) rfl (by decide) (fr2_l a s0) (fr2_c a s0) (by decide) rfl) rfl (lenOf pd8 rfl) (leb rfl) (leb rfl) (leb rfl) (leb rfl) ?_
              rintro _ _ ⟨_, _, ⟨rfl, rfl⟩, rfl, rfl⟩
              rw [fr2_p a s0 s0]
              show WLAW l Z n0 (PLAW r) 12 278 750 (vR 0 :: vI v1 :: vI v2 :: vR 1 :: vI v4 :: vI v5 :: vI v6 :: vI v7 :: vI v8 :: vI v9 :: vI v10 :: vI c38 :: vI (0 : Int32) :: vI (0 : Int32) :: vI x42 :: vI c43 :: vI c44 :: vI c50 :: vI c52 :: vI c54 :: vI c55 :: vI c56 :: vI c57 :: vU :: vU :: vU :: vU :: vU :: vU :: vU :: vU :: []) [.int c59, .int c58, .int c44] ([cI a] ++ Hb 1 s0)
              refine WP.i2l at_750 ?_
              refine WP.iload at_751 rfl ?_
              obtain ⟨c60, hc60, h⟩ := bd h
              refine WP.callS (y := y4) (as := [.int c55]) (S := [.long c59.toInt64, .int c58, .int c44]) at_753 (hw _ m_63) (hw _ m_64) (hw _ m_2) (hw _ m_65) hy4 (CS.frame (ro := 1) (H := ([cI a] ++ Hb 1 s0)) (as := [.int c55]) fr1_f (ok4 l Z a0 hw c55 _ hc60) rfl (by decide) (fr1_l a s0) (fr1_c a s0) (by decide) rfl) rfl (lenOf pd4 rfl) (leb rfl) (leb rfl) (leb rfl) (leb rfl) ?_
              rintro _ _ ⟨_, _, ⟨rfl, rfl⟩, rfl, rfl⟩
              rw [fr1_p a s0]
              show WLAW l Z n0 (PLAW r) 12 278 756 (vR 0 :: vI v1 :: vI v2 :: vR 1 :: vI v4 :: vI v5 :: vI v6 :: vI v7 :: vI v8 :: vI v9 :: vI v10 :: vI c38 :: vI (0 : Int32) :: vI (0 : Int32) :: vI x42 :: vI c43 :: vI c44 :: vI c50 :: vI c52 :: vI c54 :: vI c55 :: vI c56 :: vI c57 :: vU :: vU :: vU :: vU :: vU :: vU :: vU :: vU :: []) [.int c60, .long c59.toInt64, .int c58, .int c44] ([cI a] ++ Hb 1 s0)
              refine WP.aloadN at_756 rfl ?_
              refine WP.iload at_757 rfl ?_
              obtain ⟨c61, hc61, h⟩ := bd h
              refine WP.callV (i := 1) (y := y8) (as := [.int c52]) (S := [.int c60, .long c59.toInt64, .int c58, .int c44]) at_759 (hw _ m_80) (hw _ m_81) (hw _ m_83) (hw _ m_82) (hw _ m_84) (hw _ m_6) hy8 rfl (CS.frame (ro := 1) (H := ([cI a] ++ Hb 1 s0)) (as := [.ref 1, .int c52]) fr2_f (ok8 l Z a0 hw c52 s0 _ hc61) rfl (by decide) (fr2_l a s0) (fr2_c a s0) (by decide) rfl) rfl (lenOf pd8 rfl) (leb rfl) (leb rfl) (leb rfl) (leb rfl) ?_
              rintro _ _ ⟨_, _, ⟨rfl, rfl⟩, rfl, rfl⟩
              rw [fr2_p a s0 s0]
              show WLAW l Z n0 (PLAW r) 12 278 762 (vR 0 :: vI v1 :: vI v2 :: vR 1 :: vI v4 :: vI v5 :: vI v6 :: vI v7 :: vI v8 :: vI v9 :: vI v10 :: vI c38 :: vI (0 : Int32) :: vI (0 : Int32) :: vI x42 :: vI c43 :: vI c44 :: vI c50 :: vI c52 :: vI c54 :: vI c55 :: vI c56 :: vI c57 :: vU :: vU :: vU :: vU :: vU :: vU :: vU :: vU :: []) [.int c61, .int c60, .long c59.toInt64, .int c58, .int c44] ([cI a] ++ Hb 1 s0)
              refine WP.i2l at_762 ?_
              refine WP.iload at_763 rfl ?_
              obtain ⟨c62, hc62, h⟩ := bd h
              refine WP.callS (y := y4) (as := [.int c56]) (S := [.long c61.toInt64, .int c60, .long c59.toInt64, .int c58, .int c44]) at_765 (hw _ m_63) (hw _ m_64) (hw _ m_2) (hw _ m_65) hy4 (CS.frame (ro := 1) (H := ([cI a] ++ Hb 1 s0)) (as := [.int c56]) fr1_f (ok4 l Z a0 hw c56 _ hc62) rfl (by decide) (fr1_l a s0) (fr1_c a s0) (by decide) rfl) rfl (lenOf pd4 rfl) (leb rfl) (leb rfl) (leb rfl) (leb rfl) ?_
              rintro _ _ ⟨_, _, ⟨rfl, rfl⟩, rfl, rfl⟩
              rw [fr1_p a s0]
              show WLAW l Z n0 (PLAW r) 12 278 768 (vR 0 :: vI v1 :: vI v2 :: vR 1 :: vI v4 :: vI v5 :: vI v6 :: vI v7 :: vI v8 :: vI v9 :: vI v10 :: vI c38 :: vI (0 : Int32) :: vI (0 : Int32) :: vI x42 :: vI c43 :: vI c44 :: vI c50 :: vI c52 :: vI c54 :: vI c55 :: vI c56 :: vI c57 :: vU :: vU :: vU :: vU :: vU :: vU :: vU :: vU :: []) [.int c62, .long c61.toInt64, .int c60, .long c59.toInt64, .int c58, .int c44] ([cI a] ++ Hb 1 s0)
              refine WP.iload at_768 rfl ?_
              obtain ⟨c63, hc63, h⟩ := bd h
              refine WP.callS (y := y4) (as := [.int c57]) (S := [.int c62, .long c61.toInt64, .int c60, .long c59.toInt64, .int c58, .int c44]) at_770 (hw _ m_63) (hw _ m_64) (hw _ m_2) (hw _ m_65) hy4 (CS.frame (ro := 1) (H := ([cI a] ++ Hb 1 s0)) (as := [.int c57]) fr1_f (ok4 l Z a0 hw c57 _ hc63) rfl (by decide) (fr1_l a s0) (fr1_c a s0) (by decide) rfl) rfl (lenOf pd4 rfl) (leb rfl) (leb rfl) (leb rfl) (leb rfl) ?_
              rintro _ _ ⟨_, _, ⟨rfl, rfl⟩, rfl, rfl⟩
              rw [fr1_p a s0]
              show WLAW l Z n0 (PLAW r) 12 278 773 (vR 0 :: vI v1 :: vI v2 :: vR 1 :: vI v4 :: vI v5 :: vI v6 :: vI v7 :: vI v8 :: vI v9 :: vI v10 :: vI c38 :: vI (0 : Int32) :: vI (0 : Int32) :: vI x42 :: vI c43 :: vI c44 :: vI c50 :: vI c52 :: vI c54 :: vI c55 :: vI c56 :: vI c57 :: vU :: vU :: vU :: vU :: vU :: vU :: vU :: vU :: []) [.int c63, .int c62, .long c61.toInt64, .int c60, .long c59.toInt64, .int c58, .int c44] ([cI a] ++ Hb 1 s0)
              refine WP.iload at_773 rfl ?_
              obtain ⟨c64, hc64, h⟩ := bd h
              refine WP.callS (y := y3) (as := [.int c57]) (S := [.int c63, .int c62, .long c61.toInt64, .int c60, .long c59.toInt64, .int c58, .int c44]) at_775 (hw _ m_59) (hw _ m_60) (hw _ m_2) (hw _ m_61) hy3 (CS.frame (ro := 1) (H := ([cI a] ++ Hb 1 s0)) (as := [.int c57]) fr1_f (ok3 l Z a0 hw c57 _ hc64) rfl (by decide) (fr1_l a s0) (fr1_c a s0) (by decide) rfl) rfl (lenOf pd3 rfl) (leb rfl) (leb rfl) (leb rfl) (leb rfl) ?_
              rintro _ _ ⟨_, _, ⟨rfl, rfl⟩, rfl, rfl⟩
              rw [fr1_p a s0]
              show WLAW l Z n0 (PLAW r) 12 278 778 (vR 0 :: vI v1 :: vI v2 :: vR 1 :: vI v4 :: vI v5 :: vI v6 :: vI v7 :: vI v8 :: vI v9 :: vI v10 :: vI c38 :: vI (0 : Int32) :: vI (0 : Int32) :: vI x42 :: vI c43 :: vI c44 :: vI c50 :: vI c52 :: vI c54 :: vI c55 :: vI c56 :: vI c57 :: vU :: vU :: vU :: vU :: vU :: vU :: vU :: vU :: []) [.int c64, .int c63, .int c62, .long c61.toInt64, .int c60, .long c59.toInt64, .int c58, .int c44] ([cI a] ++ Hb 1 s0)
              obtain ⟨c65, hc65, h⟩ := bd h
              refine WP.callS (y := y28) (as := [.int c44, .int c58, .long c59.toInt64, .int c60, .long c61.toInt64, .int c62, .int c63, .int c64]) (S := []) at_778 (hw _ m_165) (hw _ m_166) (hw _ m_2) (hw _ m_167) hy28 (CS.frame (ro := 1) (H := ([cI a] ++ Hb 1 s0)) (as := [.int c44, .int c58, .long c59.toInt64, .int c60, .long c61.toInt64, .int c62, .int c63, .int c64]) fr1_f (ok28 l Z a0 hw n c44 c58 c59.toInt64 c60 c61.toInt64 c62 c63 c64 _ hc65) rfl (by decide) (fr1_l a s0) (fr1_c a s0) (by decide) rfl) rfl (lenOf pd28 rfl) (leb rfl) (leb rfl) (leb rfl) (leb rfl) ?_
              rintro _ _ ⟨_, _, ⟨rfl, rfl⟩, rfl, rfl⟩
              rw [fr1_p a s0]
              show WLAW l Z n0 (PLAW r) 12 278 781 (vR 0 :: vI v1 :: vI v2 :: vR 1 :: vI v4 :: vI v5 :: vI v6 :: vI v7 :: vI v8 :: vI v9 :: vI v10 :: vI c38 :: vI (0 : Int32) :: vI (0 : Int32) :: vI x42 :: vI c43 :: vI c44 :: vI c50 :: vI c52 :: vI c54 :: vI c55 :: vI c56 :: vI c57 :: vU :: vU :: vU :: vU :: vU :: vU :: vU :: vU :: []) [.int c65] ([cI a] ++ Hb 1 s0)
              refine WP.istore (L' := (vR 0 :: vI v1 :: vI v2 :: vR 1 :: vI v4 :: vI v5 :: vI v6 :: vI v7 :: vI v8 :: vI v9 :: vI v10 :: vI c38 :: vI c65 :: vI (0 : Int32) :: vI x42 :: vI c43 :: vI c44 :: vI c50 :: vI c52 :: vI c54 :: vI c55 :: vI c56 :: vI c57 :: vU :: vU :: vU :: vU :: vU :: vU :: vU :: vU :: [])) at_781 (leb rfl) rfl ?_
              refine WP.aloadN at_783 rfl ?_
              refine WP.iload at_784 rfl ?_
              refine WP.iconst (4 : Int32) at_786 rfl ?_
              refine WP.iadd at_787 ?_
              obtain ⟨c66, hc66, h⟩ := bd h
              refine WP.callS (y := y0) (as := [.ref 0, .int (x42 + (4 : Int32))]) (S := []) at_788 (hw _ m_0) (hw _ m_1) (hw _ m_2) (hw _ m_3) hy0 (CS.frame (ro := 1) (H := ([cI a] ++ Hb 1 s0)) (as := [.ref 0, .int (x42 + (4 : Int32))]) fr0_f (ok0 l Z a0 hw (x42 + (4 : Int32)) a _ hc66) rfl (by decide) (fr0_l a s0) (fr0_c a s0) (by decide) rfl) rfl (lenOf pd0 rfl) (leb rfl) (leb rfl) (leb rfl) (leb rfl) ?_
              rintro _ _ ⟨_, _, ⟨rfl, rfl⟩, rfl, rfl⟩
              rw [fr0_p a s0]
              show WLAW l Z n0 (PLAW r) 12 278 791 (vR 0 :: vI v1 :: vI v2 :: vR 1 :: vI v4 :: vI v5 :: vI v6 :: vI v7 :: vI v8 :: vI v9 :: vI v10 :: vI c38 :: vI c65 :: vI (0 : Int32) :: vI x42 :: vI c43 :: vI c44 :: vI c50 :: vI c52 :: vI c54 :: vI c55 :: vI c56 :: vI c57 :: vU :: vU :: vU :: vU :: vU :: vU :: vU :: vU :: []) [.int c66] ([cI a] ++ Hb 1 s0)
              refine WP.iloadN at_791 rfl ?_
              refine WP.iconst (1 : Int32) at_792 rfl ?_
              refine WP.iadd at_793 ?_
              obtain ⟨c67, hc67, h⟩ := bd h
              refine WP.callS (y := y15) (as := [.int c66, .int (v2 + (1 : Int32))]) (S := []) at_794 (hw _ m_110) (hw _ m_111) (hw _ m_2) (hw _ m_112) hy15 (CS.frame (ro := 1) (H := ([cI a] ++ Hb 1 s0)) (as := [.int c66, .int (v2 + (1 : Int32))]) fr1_f (ok15 l Z a0 hw c66 (v2 + (1 : Int32)) _ hc67) rfl (by decide) (fr1_l a s0) (fr1_c a s0) (by decide) rfl) rfl (lenOf pd15 rfl) (leb rfl) (leb rfl) (leb rfl) (leb rfl) ?_
              rintro _ _ ⟨_, _, ⟨rfl, rfl⟩, rfl, rfl⟩
              rw [fr1_p a s0]
              show WLAW l Z n0 (PLAW r) 12 278 797 (vR 0 :: vI v1 :: vI v2 :: vR 1 :: vI v4 :: vI v5 :: vI v6 :: vI v7 :: vI v8 :: vI v9 :: vI v10 :: vI c38 :: vI c65 :: vI (0 : Int32) :: vI x42 :: vI c43 :: vI c44 :: vI c50 :: vI c52 :: vI c54 :: vI c55 :: vI c56 :: vI c57 :: vU :: vU :: vU :: vU :: vU :: vU :: vU :: vU :: []) [.int c67] ([cI a] ++ Hb 1 s0)
              refine WP.istore (L' := (vR 0 :: vI v1 :: vI v2 :: vR 1 :: vI v4 :: vI v5 :: vI v6 :: vI v7 :: vI v8 :: vI v9 :: vI v10 :: vI c38 :: vI c65 :: vI c67 :: vI x42 :: vI c43 :: vI c44 :: vI c50 :: vI c52 :: vI c54 :: vI c55 :: vI c56 :: vI c57 :: vU :: vU :: vU :: vU :: vU :: vU :: vU :: vU :: [])) at_797 (leb rfl) rfl ?_
              exact WP.weak (L' := (vR 0 :: vI v1 :: vI v2 :: vR 1 :: vI v4 :: vI v5 :: vI v6 :: vI v7 :: vI v8 :: vI v9 :: vI v10 :: vU :: vI c65 :: vI c67 :: vU :: vU :: vU :: vU :: vU :: vU :: vU :: vU :: vU :: vU :: vU :: vU :: vU :: vU :: vU :: vU :: vU :: [])) ⟨rfl, rfl, rfl, rfl, rfl, rfl, rfl, rfl, rfl, rfl, rfl, rfl, rfl, trivial⟩ (okLAW_799 l Z a0 hw n0 _ hk56 n v1 v2 v4 v5 v6 v7 v8 v9 v10 c65 c67 a s0 _ h)
          ·
           refine WP.icmpY (pc' := 799) at_615 (XT.ii_ge_t hc41) (by decide) rfl ?_
           exact WP.weak (L' := (vR 0 :: vI v1 :: vI v2 :: vR 1 :: vI v4 :: vI v5 :: vI v6 :: vI v7 :: vI v8 :: vI v9 :: vI v10 :: vU :: vI (0 : Int32) :: vI (0 : Int32) :: vU :: vU :: vU :: vU :: vU :: vU :: vU :: vU :: vU :: vU :: vU :: vU :: vU :: vU :: vU :: vU :: vU :: [])) ⟨rfl, rfl, rfl, rfl, rfl, rfl, rfl, rfl, rfl, rfl, rfl, rfl, rfl, trivial⟩ (okLAW_799 l Z a0 hw n0 _ hk56 n v1 v2 v4 v5 v6 v7 v8 v9 v10 (0 : Int32) (0 : Int32) a s0 _ h)
       ·
        refine WP.ifN at_564 (XT.i0_eq_f hc37) ?_
        refine WP.iload at_567 rfl ?_
        refine WP.iconst (3 : Int32) at_569 rfl ?_
        rcases ite_e h with ⟨hc68, h⟩ | ⟨hc68, h⟩
        ·
         refine WP.icmpN at_570 (XT.ii_ge_f hc68) ?_
         refine WP.aloadN at_573 rfl ?_
         obtain ⟨c69, hc69, h⟩ := bd h
         refine WP.callV (i := 1) (y := y37) (as := []) (S := []) at_574 (hw _ m_207) (hw _ m_208) (hw _ m_210) (hw _ m_209) (hw _ m_211) (hw _ m_6) hy37 rfl (CS.frame (ro := 1) (H := ([cI a] ++ Hb 1 s0)) (as := [.ref 1]) fr2_f (ok37 l Z a0 hw s0 _ hc69) rfl (by decide) (fr2_l a s0) (fr2_c a s0) (by decide) rfl) rfl (lenOf pd37 rfl) (leb rfl) (leb rfl) (leb rfl) (leb rfl) ?_
         rintro _ _ ⟨_, _, ⟨rfl, rfl⟩, rfl, rfl⟩
         rw [fr2_p a s0 c69.2]
         show WLAW l Z n0 (PLAW r) 12 278 577 (vR 0 :: vI v1 :: vI v2 :: vR 1 :: vI v4 :: vI v5 :: vI v6 :: vI v7 :: vI v8 :: vI v9 :: vI v10 :: vU :: vU :: vU :: vU :: vU :: vU :: vU :: vU :: vU :: vU :: vU :: vU :: vU :: vU :: vU :: vU :: vU :: vU :: vU :: vU :: []) [.int c69.1] ([cI a] ++ Hb 1 c69.2)
         refine WP.pop at_577 rfl ?_
         obtain ⟨x70, ex70, h⟩ := lt_e h
         refine WP.iinc (L' := (vR 0 :: vI v1 :: vI v2 :: vR 1 :: vI v4 :: vI v5 :: vI v6 :: vI x70 :: vI v8 :: vI v9 :: vI v10 :: vU :: vU :: vU :: vU :: vU :: vU :: vU :: vU :: vU :: vU :: vU :: vU :: vU :: vU :: vU :: vU :: vU :: vU :: vU :: vU :: [])) (1 : Int32) at_578 rfl rfl (by subst ex70; rfl) ?_
         refine WP.goto (pc' := 1058) at_581 (by decide) rfl ?_
         exact WP.weak (L' := (vR 0 :: vI v1 :: vI v2 :: vR 1 :: vI v4 :: vI v5 :: vI v6 :: vI x70 :: vI v8 :: vI v9 :: vI v10 :: vU :: vU :: vU :: vU :: vU :: vU :: vU :: vU :: vU :: vU :: vU :: vU :: vU :: vU :: vU :: vU :: vU :: vU :: vU :: vU :: [])) ⟨rfl, rfl, rfl, rfl, rfl, rfl, rfl, rfl, rfl, rfl, rfl, trivial⟩ (okLAW_1058 l Z a0 hw n0 _ hk56 n v1 v2 v4 v5 v6 x70 v8 v9 v10 a c69.2 _ h)
        ·
         refine WP.icmpY (pc' := 584) at_570 (XT.ii_ge_t hc68) (by decide) rfl ?_
         refine WP.iconst (5 : Int32) at_584 rfl ?_
         refine WP.istore (L' := (vR 0 :: vI v1 :: vI v2 :: vR 1 :: vI (5 : Int32) :: vI v5 :: vI v6 :: vI v7 :: vI v8 :: vI v9 :: vI v10 :: vU :: vU :: vU :: vU :: vU :: vU :: vU :: vU :: vU :: vU :: vU :: vU :: vU :: vU :: vU :: vU :: vU :: vU :: vU :: vU :: [])) at_585 (leb rfl) rfl ?_
         refine WP.goto (pc' := 1163) at_587 (by decide) rfl ?_
         exact WP.weak (L' := (vR 0 :: vI v1 :: vI v2 :: vR 1 :: vI (5 : Int32) :: vI v5 :: vI v6 :: vI v7 :: vI v8 :: vI v9 :: vI v10 :: vU :: vU :: vU :: vU :: vU :: vU :: vU :: vU :: vU :: vU :: vU :: vU :: vU :: vU :: vU :: vU :: vU :: vU :: vU :: vU :: [])) ⟨rfl, rfl, rfl, rfl, rfl, rfl, rfl, rfl, rfl, rfl, rfl, trivial⟩ (okLAW_1163 l Z a0 hw n0 _ hk56 n v1 v2 (5 : Int32) v5 v6 v7 v8 v9 v10 a s0 _ h)
  ·
   refine WP.icmpY (pc' := 1169) at_67 (XT.ii_ge_t hc2) (by decide) rfl ?_
   exact WP.weak (L' := (vU :: vU :: vU :: vU :: vU :: vU :: vU :: vU :: vU :: vU :: vU :: vU :: vU :: vU :: vU :: vU :: vU :: vU :: vU :: vU :: vU :: vU :: vU :: vU :: vU :: vU :: vU :: vU :: vU :: vU :: vU :: [])) trivial (okLAW_1169 l Z a0 hw n0 n a s0 _ h)
 ·
  refine WP.icmpY (pc' := 1169) at_61 (XT.ii_ge_t hc1) (by decide) rfl ?_
  exact WP.weak (L' := (vU :: vU :: vU :: vU :: vU :: vU :: vU :: vU :: vU :: vU :: vU :: vU :: vU :: vU :: vU :: vU :: vU :: vU :: vU :: vU :: vU :: vU :: vU :: vU :: vU :: vU :: vU :: vU :: vU :: vU :: vU :: [])) trivial (okLAW_1169 l Z a0 hw n0 n a s0 _ h)
def f_law_56 : Nat → Int32 → Int32 → Int32 → Int32 → Int32 → Int32 → Int32 → Int32 → Int32 → List Int32 → St → Option (Int32)
 | 0 => fun _ _ _ _ _ _ _ _ _ _ _ => none
 | n + 1 => g_law_56 (f_law_56 n) n
theorem okLAW_56 (l : Launch) (Z : State) (a0 : Array Value) (hw : HW a0 Z) (n0 : Nat) : ∀ (n : Nat) (v1 v2 v4 v5 v6 v7 v8 v9 v10 : Int32) (a : List Int32) (s0 : St) (r : Int32), f_law_56 n v1 v2 v4 v5 v6 v7 v8 v9 v10 a s0 = some r → WLAW l Z n0 (PLAW r) 12 278 56 (vR 0 :: vI v1 :: vI v2 :: vR 1 :: vI v4 :: vI v5 :: vI v6 :: vI v7 :: vI v8 :: vI v9 :: vI v10 :: vU :: vU :: vU :: vU :: vU :: vU :: vU :: vU :: vU :: vU :: vU :: vU :: vU :: vU :: vU :: vU :: vU :: vU :: vU :: vU :: []) [] ([cI a] ++ Hb 1 s0)
 | 0, v1, v2, v4, v5, v6, v7, v8, v9, v10, a, s0, r, h => nomatch (show none = some r from h)
 | n + 1, v1, v2, v4, v5, v6, v7, v8, v9, v10, a, s0, r, h => okgLAW_56 l Z a0 hw n0 _ (okLAW_56 l Z a0 hw n0 n) n v1 v2 v4 v5 v6 v7 v8 v9 v10 a s0 r h
def f_law (n : Nat) (a : List Int32) : Option (Int32) :=
 (f_L_cell (0 : Int32) a).bind fun c1 =>
 lt ((1 : Int32) + (c1 &&& (7 : Int32))) fun x2 =>
 (f_L_cell (9 : Int32) a).bind fun c3 =>
 lt ((1 : Int32) + (c3 &&& (15 : Int32))) fun x4 =>
 (f_init (8 : Int32) (32 : Int32)).bind fun c5 =>
 f_law_56 n x2 x4 (0 : Int32) (0 : Int32) (0 : Int32) (0 : Int32) (1 : Int32) (0 : Int32) (0 : Int32) a c5
theorem okLAW (l : Launch) (Z : State) (a0 : Array Value) (hw : HW a0 Z) (n : Nat) (a : List Int32) (r : Int32) (h : f_law n a = some r) : CS l Z CN lay x code maxLocals ret room_1 1 [.ref 0] ([cI a]) (PLAW r) := by
 refine CS.of_wp pn_law (leb rfl) fun n0 => ?_
 show WLAW l Z n0 (PLAW r) 0 0 0 (vR 0 :: vU :: vU :: vU :: vU :: vU :: vU :: vU :: vU :: vU :: vU :: vU :: vU :: vU :: vU :: vU :: vU :: vU :: vU :: vU :: vU :: vU :: vU :: vU :: vU :: vU :: vU :: vU :: vU :: vU :: vU :: []) [] ([cI a])
 unfold f_law at h
 refine WP.iconst (1 : Int32) at_0 rfl ?_
 refine WP.aloadN at_1 rfl ?_
 refine WP.iconst (0 : Int32) at_2 rfl ?_
 obtain ⟨c1, hc1, h⟩ := bd h
 refine WP.callS (y := y0) (as := [.ref 0, oN]) (S := [.int (1 : Int32)]) at_3 (hw _ m_0) (hw _ m_1) (hw _ m_2) (hw _ m_3) hy0 (ok0 l Z a0 hw (0 : Int32) a _ hc1) rfl (lenOf pd0 rfl) (leb rfl) (leb rfl) (leb rfl) (leb rfl) ?_
 rintro _ _ ⟨rfl, rfl⟩
 show WLAW l Z n0 (PLAW r) 0 0 6 (vR 0 :: vU :: vU :: vU :: vU :: vU :: vU :: vU :: vU :: vU :: vU :: vU :: vU :: vU :: vU :: vU :: vU :: vU :: vU :: vU :: vU :: vU :: vU :: vU :: vU :: vU :: vU :: vU :: vU :: vU :: vU :: []) [.int c1, .int (1 : Int32)] ([cI a])
 refine WP.bipush (7 : Int32) at_6 rfl ?_
 refine WP.iand at_8 ?_
 refine WP.iadd at_9 ?_
 obtain ⟨x2, ex2, h⟩ := lt_e h
 refine WP.istoreN (L' := (vR 0 :: vI x2 :: vU :: vU :: vU :: vU :: vU :: vU :: vU :: vU :: vU :: vU :: vU :: vU :: vU :: vU :: vU :: vU :: vU :: vU :: vU :: vU :: vU :: vU :: vU :: vU :: vU :: vU :: vU :: vU :: vU :: [])) at_10 (leb rfl) (by subst ex2; rfl) ?_
 refine WP.iconst (1 : Int32) at_11 rfl ?_
 refine WP.aloadN at_12 rfl ?_
 refine WP.bipush (9 : Int32) at_13 rfl ?_
 obtain ⟨c3, hc3, h⟩ := bd h
 refine WP.callS (y := y0) (as := [.ref 0, .int (9 : Int32)]) (S := [.int (1 : Int32)]) at_15 (hw _ m_0) (hw _ m_1) (hw _ m_2) (hw _ m_3) hy0 (ok0 l Z a0 hw (9 : Int32) a _ hc3) rfl (lenOf pd0 rfl) (leb rfl) (leb rfl) (leb rfl) (leb rfl) ?_
 rintro _ _ ⟨rfl, rfl⟩
 show WLAW l Z n0 (PLAW r) 0 0 18 (vR 0 :: vI x2 :: vU :: vU :: vU :: vU :: vU :: vU :: vU :: vU :: vU :: vU :: vU :: vU :: vU :: vU :: vU :: vU :: vU :: vU :: vU :: vU :: vU :: vU :: vU :: vU :: vU :: vU :: vU :: vU :: vU :: []) [.int c3, .int (1 : Int32)] ([cI a])
 refine WP.bipush (15 : Int32) at_18 rfl ?_
 refine WP.iand at_20 ?_
 refine WP.iadd at_21 ?_
 obtain ⟨x4, ex4, h⟩ := lt_e h
 refine WP.istoreN (L' := (vR 0 :: vI x2 :: vI x4 :: vU :: vU :: vU :: vU :: vU :: vU :: vU :: vU :: vU :: vU :: vU :: vU :: vU :: vU :: vU :: vU :: vU :: vU :: vU :: vU :: vU :: vU :: vU :: vU :: vU :: vU :: vU :: vU :: [])) at_22 (leb rfl) (by subst ex4; rfl) ?_
 refine WP.new (vs := vs0) at_23 (hw _ m_4) (hw _ m_5) (hw _ m_6) (leb rfl) (leb rfl) (vs0_ok hw) ?_
 show WLAW l Z n0 (PLAW r) 1 22 26 (vR 0 :: vI x2 :: vI x4 :: vU :: vU :: vU :: vU :: vU :: vU :: vU :: vU :: vU :: vU :: vU :: vU :: vU :: vU :: vU :: vU :: vU :: vU :: vU :: vU :: vU :: vU :: vU :: vU :: vU :: vU :: vU :: vU :: []) [.ref 1] ([cI a] ++ [cO vs0])
 refine WP.dup at_26 rfl ?_
 refine WP.bipush (8 : Int32) at_27 rfl ?_
 refine WP.bipush (32 : Int32) at_29 rfl ?_
 obtain ⟨c5, hc5, h⟩ := bd h
 refine WP.callI (i := 1) (y := y1) (as := [.int (8 : Int32), .int (32 : Int32)]) (S := [.ref 1]) at_31 rfl (hw _ m_7) (hw _ m_8) (hw _ m_9) (hw _ m_6) hy1 (CS.frame (ro := 1) (H := ([cI a] ++ [cO vs0])) (as := [.ref 1, .int (8 : Int32), .int (32 : Int32)]) fr3_f (ok1 l Z a0 hw (8 : Int32) (32 : Int32) _ hc5) rfl (by decide) (fr3_l a) (fr3_c a) (by decide) rfl) rfl (lenOf pd1 rfl) (leb rfl) (leb rfl) (leb rfl) (leb rfl) ?_
 rintro _ _ ⟨_, _, ⟨rfl, rfl⟩, rfl, rfl⟩
 rw [fr3_p a c5]
 show WLAW l Z n0 (PLAW r) 12 278 34 (vR 0 :: vI x2 :: vI x4 :: vU :: vU :: vU :: vU :: vU :: vU :: vU :: vU :: vU :: vU :: vU :: vU :: vU :: vU :: vU :: vU :: vU :: vU :: vU :: vU :: vU :: vU :: vU :: vU :: vU :: vU :: vU :: vU :: []) [.ref 1] ([cI a] ++ Hb 1 c5)
 refine WP.astoreN (L' := (vR 0 :: vI x2 :: vI x4 :: vR 1 :: vU :: vU :: vU :: vU :: vU :: vU :: vU :: vU :: vU :: vU :: vU :: vU :: vU :: vU :: vU :: vU :: vU :: vU :: vU :: vU :: vU :: vU :: vU :: vU :: vU :: vU :: vU :: [])) at_34 (leb rfl) rfl ?_
 refine WP.iconst (0 : Int32) at_35 rfl ?_
 refine WP.istore (L' := (vR 0 :: vI x2 :: vI x4 :: vR 1 :: vI (0 : Int32) :: vU :: vU :: vU :: vU :: vU :: vU :: vU :: vU :: vU :: vU :: vU :: vU :: vU :: vU :: vU :: vU :: vU :: vU :: vU :: vU :: vU :: vU :: vU :: vU :: vU :: vU :: [])) at_36 (leb rfl) rfl ?_
 refine WP.iconst (0 : Int32) at_38 rfl ?_
 refine WP.istore (L' := (vR 0 :: vI x2 :: vI x4 :: vR 1 :: vI (0 : Int32) :: vI (0 : Int32) :: vU :: vU :: vU :: vU :: vU :: vU :: vU :: vU :: vU :: vU :: vU :: vU :: vU :: vU :: vU :: vU :: vU :: vU :: vU :: vU :: vU :: vU :: vU :: vU :: vU :: [])) at_39 (leb rfl) rfl ?_
 refine WP.iconst (0 : Int32) at_41 rfl ?_
 refine WP.istore (L' := (vR 0 :: vI x2 :: vI x4 :: vR 1 :: vI (0 : Int32) :: vI (0 : Int32) :: vI (0 : Int32) :: vU :: vU :: vU :: vU :: vU :: vU :: vU :: vU :: vU :: vU :: vU :: vU :: vU :: vU :: vU :: vU :: vU :: vU :: vU :: vU :: vU :: vU :: vU :: vU :: [])) at_42 (leb rfl) rfl ?_
 refine WP.iconst (0 : Int32) at_44 rfl ?_
 refine WP.istore (L' := (vR 0 :: vI x2 :: vI x4 :: vR 1 :: vI (0 : Int32) :: vI (0 : Int32) :: vI (0 : Int32) :: vI (0 : Int32) :: vU :: vU :: vU :: vU :: vU :: vU :: vU :: vU :: vU :: vU :: vU :: vU :: vU :: vU :: vU :: vU :: vU :: vU :: vU :: vU :: vU :: vU :: vU :: [])) at_45 (leb rfl) rfl ?_
 refine WP.iconst (1 : Int32) at_47 rfl ?_
 refine WP.istore (L' := (vR 0 :: vI x2 :: vI x4 :: vR 1 :: vI (0 : Int32) :: vI (0 : Int32) :: vI (0 : Int32) :: vI (0 : Int32) :: vI (1 : Int32) :: vU :: vU :: vU :: vU :: vU :: vU :: vU :: vU :: vU :: vU :: vU :: vU :: vU :: vU :: vU :: vU :: vU :: vU :: vU :: vU :: vU :: vU :: [])) at_48 (leb rfl) rfl ?_
 refine WP.iconst (0 : Int32) at_50 rfl ?_
 refine WP.istore (L' := (vR 0 :: vI x2 :: vI x4 :: vR 1 :: vI (0 : Int32) :: vI (0 : Int32) :: vI (0 : Int32) :: vI (0 : Int32) :: vI (1 : Int32) :: vI (0 : Int32) :: vU :: vU :: vU :: vU :: vU :: vU :: vU :: vU :: vU :: vU :: vU :: vU :: vU :: vU :: vU :: vU :: vU :: vU :: vU :: vU :: vU :: [])) at_51 (leb rfl) rfl ?_
 refine WP.iconst (0 : Int32) at_53 rfl ?_
 refine WP.istore (L' := (vR 0 :: vI x2 :: vI x4 :: vR 1 :: vI (0 : Int32) :: vI (0 : Int32) :: vI (0 : Int32) :: vI (0 : Int32) :: vI (1 : Int32) :: vI (0 : Int32) :: vI (0 : Int32) :: vU :: vU :: vU :: vU :: vU :: vU :: vU :: vU :: vU :: vU :: vU :: vU :: vU :: vU :: vU :: vU :: vU :: vU :: vU :: vU :: [])) at_54 (leb rfl) rfl ?_
 exact WP.weak (L' := (vR 0 :: vI x2 :: vI x4 :: vR 1 :: vI (0 : Int32) :: vI (0 : Int32) :: vI (0 : Int32) :: vI (0 : Int32) :: vI (1 : Int32) :: vI (0 : Int32) :: vI (0 : Int32) :: vU :: vU :: vU :: vU :: vU :: vU :: vU :: vU :: vU :: vU :: vU :: vU :: vU :: vU :: vU :: vU :: vU :: vU :: vU :: vU :: [])) ⟨rfl, rfl, rfl, rfl, rfl, rfl, rfl, rfl, rfl, rfl, rfl, trivial⟩ (okLAW_56 l Z a0 hw n0 n x2 x4 (0 : Int32) (0 : Int32) (0 : Int32) (0 : Int32) (1 : Int32) (0 : Int32) (0 : Int32) a c5 _ h)
/-! a call that comes to an end, and what it leaves -/
def own_Ok {α : Type} (f : Nat → Option α) (P : α → Prop) : Prop := ∃ r, Ev f r ∧ P r
theorem own_Ok.step {α : Type} {f g : Nat → Option α} {P : α → Prop} (e : ∀ n, f (n + 1) = g n) (h : own_Ok g P) : own_Ok f P := by
  obtain ⟨r, h1, h2⟩ := h
  exact ⟨r, Ev.step e h1, h2⟩
theorem own_Ok.congr {α : Type} {f g : Nat → Option α} {P : α → Prop} (e : ∀ n, f n = g n) (h : own_Ok g P) : own_Ok f P := by
  obtain ⟨r, h1, h2⟩ := h
  exact ⟨r, Ev.congr e h1, h2⟩
theorem own_Ok.ret {α : Type} {r : α} {P : α → Prop} (h : P r) : own_Ok (fun _ => some r) P := ⟨r, Ev.const rfl, h⟩
theorem own_Ok.mono {α : Type} {f : Nat → Option α} {P Q : α → Prop} (h : own_Ok f P) (k : ∀ r, P r → Q r) : own_Ok f Q := by
  obtain ⟨r, h1, h2⟩ := h
  exact ⟨r, h1, k r h2⟩
theorem own_Ok.bind {α β : Type} {f : Nat → Option β} {g : Nat → β → Option α} {Q : β → Prop} {P : α → Prop} (h : own_Ok f Q) (k : ∀ c, Q c → own_Ok (fun n => g n c) P) : own_Ok (fun n => (f n).bind (g n)) P := by
  obtain ⟨c, h1, h2⟩ := h
  obtain ⟨r, k1, k2⟩ := k c h2
  exact ⟨r, Ev.bind h1 k1, k2⟩
theorem own_Ok.ite {α : Type} {c : Prop} [Decidable c] {f g : Nat → Option α} {P : α → Prop} (h : c → own_Ok f P) (k : ¬ c → own_Ok g P) : own_Ok (fun n => if c then f n else g n) P := by
  by_cases q : c
  · exact own_Ok.congr (fun n => if_pos q) (h q)
  · exact own_Ok.congr (fun n => if_neg q) (k q)
theorem own_Ok.some_bind {α β : Type} {x : β} {g : Nat → β → Option α} {P : α → Prop} (h : own_Ok (fun n => g n x) P) : own_Ok (fun n => (some x).bind (g n)) P := own_Ok.congr (fun _ => rfl) h

/-! the cells of the arrays -/
def own_lA : List Nat := [8, 8, 8, 8, 32, 32, 32, 32, 32, 32, 32]
def own_Sh (s : St) : Prop := ∀ f, (gA s f).length = own_lA.getD f 0
def own_A (s : St) (f k : Nat) : Int32 := (gA s f).getD k 0
def own_u {α : Type} (a : Nat → Nat → α) (f k : Nat) (x : α) (g j : Nat) : α := if g = f ∧ j = k then x else a g j
theorem own_u0 {α : Type} (a : Nat → Nat → α) (f k : Nat) (x : α) : own_u a f k x f k = x := if_pos ⟨rfl, rfl⟩
theorem own_u1 {α : Type} (a : Nat → Nat → α) {f g : Nat} (k : Nat) (x : α) (j : Nat) (h : g ≠ f) : own_u a f k x g j = a g j := if_neg fun q => h q.1
theorem own_u2 {α : Type} (a : Nat → Nat → α) {k j : Nat} (f : Nat) (x : α) (g : Nat) (h : j ≠ k) : own_u a f k x g j = a g j := if_neg fun q => h q.2
theorem own_ShA {s : St} (h : own_Sh s) (f k : Nat) (x : Int32) : own_Sh (sA s f ((gA s f).set k x)) := fun g => by
  rw [gA_sA]
  split
  · rename_i e; rw [List.length_set, e]; exact h f
  · exact h g
theorem own_AwA {s : St} (f k : Nat) (x : Int32) (hk : k < (gA s f).length) : own_A (sA s f ((gA s f).set k x)) = own_u (own_A s) f k x := by
  funext g j
  unfold own_A own_u
  rw [gA_sA]
  by_cases c : g = f
  · rw [if_pos c]
    by_cases d : j = k
    · rw [if_pos ⟨c, d⟩, d, List.getD_eq_getElem?_getD, get_set_self _ hk]; rfl
    · rw [if_neg fun q => d q.2, List.getD_eq_getElem?_getD, get_set_ne _ (Ne.symm d), c]; exact List.getD_eq_getElem?_getD.symm
  · rw [if_neg c, if_neg fun q => c q.1]
theorem own_rdA {s : St} (h : own_Sh s) {f k : Nat} {i : Int32} (hi : i.toInt = k) (hk : k < own_lA.getD f 0) : rd (gA s f) i = some (own_A s f k) := by
  have hl := h f
  have hx : (gA s f)[k]? = some ((gA s f)[k]'(by omega)) := List.getElem?_eq_getElem _
  rw [rd_of hi hx]
  unfold own_A
  rw [List.getD_eq_getElem?_getD, hx]; rfl
/-- t is s with cells written -/
def own_M (s : St) (a : Nat → Nat → Int32) (t : St) : Prop := own_Sh t ∧ (∀ j, gI t j = gI s j) ∧ own_A t = a
theorem own_wrA {s : St} (h : own_Sh s) {f k : Nat} {i : Int32} (x : Int32) (hi : i.toInt = k) (hk : k < own_lA.getD f 0) : ∃ t, wrA s f i x = some t ∧ own_M s (own_u (own_A s) f k x) t := by
  have hl := h f
  exact ⟨_, wrA_of x hi (by omega), own_ShA h f k x, fun _ => rfl, own_AwA f k x (by omega)⟩
theorem own_Ok.rA {α : Type} {s : St} {f : Nat} {i : Int32} {G : Nat → Int32 → Option α} {P : α → Prop} (h : own_Sh s) (k : Nat) (hi : i.toInt = k) (hk : k < own_lA.getD f 0) (q : own_Ok (fun n => G n (own_A s f k)) P) : own_Ok (fun n => (rd (gA s f) i).bind (G n)) P := by
  rw [own_rdA h hi hk]; exact own_Ok.some_bind q
theorem own_Ok.wA {α : Type} {s : St} {f : Nat} {i : Int32} {x : Int32} {G : Nat → St → Option α} {P : α → Prop} (h : own_Sh s) (k : Nat) (hi : i.toInt = k) (hk : k < own_lA.getD f 0) (q : ∀ t, own_M s (own_u (own_A s) f k x) t → own_Ok (fun n => G n t) P) : own_Ok (fun n => (wrA s f i x).bind (G n)) P := by
  obtain ⟨t, e, ht⟩ := own_wrA h x hi hk
  rw [e]; exact own_Ok.some_bind (q t ht)
theorem own_Ok.let {α β : Type} {x : β} {F : Nat → β → Option α} {P : α → Prop} (h : own_Ok (fun n => F n x) P) : own_Ok (fun n => lt x (F n)) P := h
theorem own_evO {α β : Type} {f : Nat → Option β} {c : β} (e : ∀ n, f n = some c) {G : Nat → β → Option α} {P : α → Prop} (h : own_Ok (fun n => G n c) P) : own_Ok (fun n => (f n).bind (G n)) P :=
  own_Ok.congr (fun n => by rw [e n]; rfl) h
theorem own_Ok.eq {α β : Type} {o : Option β} {c : β} (e : o = some c) {G : Nat → β → Option α} {P : α → Prop} (h : own_Ok (fun n => G n c) P) : own_Ok (fun n => o.bind (G n)) P :=
  own_Ok.congr (fun n => by rw [e]; rfl) h
theorem own_sh {α : Type} {f : Nat → Option α} {P : α → Prop} (h : own_Ok f P) (d : Nat) : own_Ok (fun n => f (n + d)) P := by
  obtain ⟨r, ⟨N, h1⟩, h2⟩ := h
  exact ⟨r, ⟨N, fun n hn => h1 (n + d) (by omega)⟩, h2⟩
theorem own_ltN {i m : Nat} (hi : i ≤ 3000) (hm : m ≤ 3000) : Int32.ofNat i < Int32.ofNat m ↔ i < m := ofN_lt (by omega) (by omega)
theorem own_ltl {i m : Nat} (hi : i ≤ 3000) (hm : m < 3000) : Int32.ofNat i < (OfNat.ofNat m : Int32) ↔ i < m := ofN_ltL (by omega) (by omega)
theorem own_gtl {i m : Nat} (hi : i ≤ 3000) (hm : m < 3000) : (OfNat.ofNat m : Int32) < Int32.ofNat i ↔ m < i := ofN_gtL (by omega) (by omega)
theorem own_eql {i m : Nat} (hi : i ≤ 3000) (hm : m < 3000) : Int32.ofNat i = (OfNat.ofNat m : Int32) ↔ i = m := ofN_eqL (by omega) (by omega)
theorem own_modN (k m : Nat) (hk : k < 2147483648) (hm : 0 < m) (hm2 : m < 2147483648) : Int32.ofNat k % Int32.ofNat m = Int32.ofNat (k % m) := by
  have : k % m < m := Nat.mod_lt _ hm
  rw [x32_eq, Int32.toInt_mod, ofN_int hk, ofN_int hm2, ofN_int (by omega), Int.tmod_eq_emod_of_nonneg (by omega)]; rfl
/-! what the script says -/
def own_c (a : List Int32) (k : Nat) : Int32 := a.getD k 0
theorem own_cell {a : List Int32} (hl : a.length ≤ 260) (k : Nat) (hk : k ≤ 400) : f_L_cell (Int32.ofNat k) a = some (own_c a k) := by
  have el : a.length.toInt32 = Int32.ofNat a.length := rfl
  unfold f_L_cell f_L_cell_13 own_c
  rw [el]
  by_cases c : k < a.length
  · rw [if_pos ((own_ltN (by omega) (by omega)).mpr c), rd_at (by omega) (List.getElem?_eq_getElem c), List.getD_eq_getElem?_getD, List.getElem?_eq_getElem c]; rfl
  · rw [if_neg (fun q => c ((own_ltN (by omega) (by omega)).mp q)), List.getD_eq_getElem?_getD, List.getElem?_eq_none (by omega)]; rfl
def own_d (x : Int32) : Nat := ((1 : Int32) + ((x &&& 65535) % 5)).toInt.toNat
theorem own_dO (x : Int32) : f_L_dOf x = some (Int32.ofNat (own_d x)) ∧ 1 ≤ own_d x ∧ own_d x ≤ 5 := by
  obtain ⟨k, hk, e⟩ := and_natL x 65535 (by decide)
  have hk : k ≤ 65535 := hk
  have e : x &&& 65535 = Int32.ofNat k := e
  have m := Nat.mod_lt k (show 0 < 5 by decide)
  have e2 : (1 : Int32) + ((x &&& 65535) % 5) = Int32.ofNat (1 + k % 5) := by
    rw [e, show (5 : Int32) = Int32.ofNat 5 from rfl, own_modN k 5 (by omega) (by decide) (by decide), Int32.ofNat_add]; rfl
  have e3 : own_d x = 1 + k % 5 := by
    unfold own_d
    rw [e2, ofN_int (by omega)]; rfl
  refine ⟨?_, by omega, by omega⟩
  unfold f_L_dOf
  rw [e2, e3]
def own_f (x : Int32) : Nat := (((XT.ushr x 4) &&& 4095) % (Int32.ofNat (own_d x + 1))).toInt.toNat
theorem own_fO (x : Int32) : f_L_fOf x = some (Int32.ofNat (own_f x)) ∧ own_f x ≤ own_d x := by
  obtain ⟨h1, h2, h3⟩ := own_dO x
  obtain ⟨k, hk, e⟩ := and_natL (XT.ushr x 4) 4095 (by decide)
  have hk : k ≤ 4095 := hk
  have e : XT.ushr x 4 &&& 4095 = Int32.ofNat k := e
  have m := Nat.mod_lt k (show 0 < own_d x + 1 by omega)
  have e2 : ((XT.ushr x 4) &&& 4095) % (Int32.ofNat (own_d x + 1)) = Int32.ofNat (k % (own_d x + 1)) := by
    rw [e, own_modN k _ (by omega) (by omega) (by omega)]
  have e3 : own_f x = k % (own_d x + 1) := by
    unfold own_f
    rw [e2, ofN_int (by omega)]; rfl
  refine ⟨?_, by omega⟩
  unfold f_L_fOf
  rw [h1, Option.bind_some, ofN_succ, if_neg (fun q => by have := (own_eql (m := 0) (by omega) (by decide)).mp q; omega), e2, e3]
def own_g (x : Int32) : Int32 := if (x &&& 1048576) = 0 then 1 else 0
theorem own_gO (x : Int32) : f_L_sgOf x = some (own_g x) ∧ (own_g x = 0 ∨ own_g x = 1) := by
  unfold f_L_sgOf f_L_sgOf_12 own_g
  by_cases c : (x &&& 1048576) = 0
  · rw [if_pos c, if_pos c]; exact ⟨rfl, .inr rfl⟩
  · rw [if_neg c, if_neg c]; exact ⟨rfl, .inl rfl⟩
def own_kn (w : Nat) : Nat := if w < 10 then 2 + w % 4 else if w = 10 then 1 else if w = 11 then 6 else if w = 12 then 7 else if w = 13 then 8 else 9
def own_k (x : Int32) : Nat := own_kn (x &&& 15).toInt.toNat
theorem own_kO (x : Int32) : f_L_kindOf x = some (Int32.ofNat (own_k x)) ∧ 1 ≤ own_k x ∧ own_k x ≤ 9 := by
  obtain ⟨k, hk, e⟩ := and_natL x 15 (by decide)
  have hk : k ≤ 15 := hk
  have e : x &&& 15 = Int32.ofNat k := e
  have e3 : own_k x = own_kn k := by
    unfold own_k
    rw [e, ofN_int (by omega)]; rfl
  rw [e3]
  unfold f_L_kindOf
  rw [e]
  rcases (by omega : k = 0 ∨ k = 1 ∨ k = 2 ∨ k = 3 ∨ k = 4 ∨ k = 5 ∨ k = 6 ∨ k = 7 ∨ k = 8 ∨ k = 9 ∨ k = 10 ∨ k = 11 ∨ k = 12 ∨ k = 13 ∨ k = 14 ∨ k = 15) with rfl | rfl | rfl | rfl | rfl | rfl | rfl | rfl | rfl | rfl | rfl | rfl | rfl | rfl | rfl | rfl <;> exact ⟨rfl, by decide, by decide⟩
def own_r (x : Int32) : Int32 := if ((XT.ushr x 4) &&& 1) = 1 then 1 else 0
theorem own_rO (x : Int32) : f_L_roundedOf x = some (own_r x) ∧ (own_r x = 0 ∨ own_r x = 1) := by
  unfold f_L_roundedOf f_L_roundedOf_14 own_r
  by_cases c : ((XT.ushr x 4) &&& 1) = 1
  · rw [if_pos c, if_pos c]; exact ⟨rfl, .inr rfl⟩
  · rw [if_neg c, if_neg c]; exact ⟨rfl, .inl rfl⟩
def own_t (x : Int32) : Int32 := if ((XT.ushr x 5) &&& 1) = 0 then 1 else 0
theorem own_tO (x : Int32) : f_L_targetOf x = some (own_t x) ∧ (own_t x = 0 ∨ own_t x = 1) := by
  unfold f_L_targetOf f_L_targetOf_13 own_t
  by_cases c : ((XT.ushr x 5) &&& 1) = 0
  · rw [if_pos c, if_pos c]; exact ⟨rfl, .inr rfl⟩
  · rw [if_neg c, if_neg c]; exact ⟨rfl, .inl rfl⟩
def own_x (x : Int32) (n : Nat) : Nat := (x &&& 2147483647).toInt.toNat % n
theorem own_xO (x : Int32) (n : Nat) (h0 : 0 < n) (hn : n ≤ 100) : f_L_ix x (Int32.ofNat n) = some (Int32.ofNat (own_x x n)) ∧ own_x x n < n := by
  obtain ⟨k, hk, e⟩ := and_natL x 2147483647 (by decide)
  have hk : k ≤ 2147483647 := hk
  have e : x &&& 2147483647 = Int32.ofNat k := e
  have e3 : own_x x n = k % n := by
    unfold own_x
    rw [e, ofN_int (by omega)]; rfl
  have m := Nat.mod_lt k h0
  refine ⟨?_, by omega⟩
  unfold f_L_ix
  rw [if_neg (fun q => by have := (own_eql (m := 0) (by omega) (by decide)).mp q; omega), e, own_modN k n (by omega) h0 (by omega), e3]
/-! powers of ten -/
theorem own_jN (x : Nat) (h : x < 4611686018427387904) : (Int64.ofNat x).toInt = x := Int64.toInt_ofNat_of_lt (by omega)
theorem own_p10b {e : Nat} (h : e ≤ 18) : 1 ≤ 10 ^ e ∧ 10 ^ e ≤ 1000000000000000000 := by
  refine ⟨Nat.pos_of_ne_zero (by simp), ?_⟩
  exact Nat.pow_le_pow_right (by decide) h
theorem own_p10e {e k : Nat} (h : e ≤ k) (hk : k ≤ 18) : 10 ^ e ≤ 10 ^ k := Nat.pow_le_pow_right (by decide) h
theorem own_pow (s : St) (e : Nat) (he : e ≤ 18) : own_Ok (fun n => f_pow10 n (Int32.ofNat e) s) (· = Int64.ofNat (10 ^ e)) := by
  have key : ∀ (m i : Nat), i + m = e → own_Ok (fun n => f_pow10_5 n (Int32.ofNat e) (Int64.ofNat (10 ^ i)) (Int32.ofNat i) s) (· = Int64.ofNat (10 ^ e)) := by
    intro m
    induction m with
    | zero =>
      intro i hi
      obtain rfl : i = e := by omega
      refine own_Ok.step (g := fun n => g_pow10_5 (f_pow10_5 n) n (Int32.ofNat i) (Int64.ofNat (10 ^ i)) (Int32.ofNat i) s) (fun n => rfl) ?_
      unfold g_pow10_5 f_pow10_30
      exact own_Ok.ite (fun q => by have := (own_ltN (by omega) (by omega)).mp q; omega) fun _ => own_Ok.ret rfl
    | succ m ih =>
      intro i hi
      refine own_Ok.step (g := fun n => g_pow10_5 (f_pow10_5 n) n (Int32.ofNat e) (Int64.ofNat (10 ^ i)) (Int32.ofNat i) s) (fun n => rfl) ?_
      unfold g_pow10_5
      refine own_Ok.ite (fun _ => ?_) fun q => absurd ((own_ltN (by omega) (by omega)).mpr (by omega)) q
      refine own_Ok.ite (fun _ => ?_) fun q => absurd ((own_ltl (m := 18) (by omega) (by decide)).mpr (by omega)) q
      refine own_Ok.let (own_Ok.let ?_)
      rw [ofN_succ, show Int64.ofNat (10 ^ i) * 10 = Int64.ofNat (10 ^ (i + 1)) from (Int64.ofNat_mul (10 ^ i) 10).symm]
      exact ih (i + 1) (by omega)
  unfold f_pow10
  exact key e 0 (by omega)
theorem own_lp (e : Nat) (he : e ≤ 18) : own_Ok (fun n => f_L_p10 n (Int32.ofNat e)) (· = Int64.ofNat (10 ^ e)) := by
  have key : ∀ (m i : Nat), i + m = e → own_Ok (fun n => f_L_p10_4 n (Int32.ofNat e) (Int64.ofNat (10 ^ i)) (Int32.ofNat i)) (· = Int64.ofNat (10 ^ e)) := by
    intro m
    induction m with
    | zero =>
      intro i hi
      obtain rfl : i = e := by omega
      refine own_Ok.step (g := fun n => g_L_p10_4 (f_L_p10_4 n) n (Int32.ofNat i) (Int64.ofNat (10 ^ i)) (Int32.ofNat i)) (fun n => rfl) ?_
      unfold g_L_p10_4
      exact own_Ok.ite (fun q => by have := (own_ltN (by omega) (by omega)).mp q; omega) fun _ => own_Ok.ret rfl
    | succ m ih =>
      intro i hi
      refine own_Ok.step (g := fun n => g_L_p10_4 (f_L_p10_4 n) n (Int32.ofNat e) (Int64.ofNat (10 ^ i)) (Int32.ofNat i)) (fun n => rfl) ?_
      unfold g_L_p10_4
      refine own_Ok.ite (fun _ => ?_) fun q => absurd ((own_ltN (by omega) (by omega)).mpr (by omega)) q
      refine own_Ok.let (own_Ok.let ?_)
      rw [ofN_succ, show Int64.ofNat (10 ^ i) * 10 = Int64.ofNat (10 ^ (i + 1)) from (Int64.ofNat_mul (10 ^ i) 10).symm]
      exact ih (i + 1) (by omega)
  unfold f_L_p10
  exact key e 0 (by omega)

/-! numbers -/
theorem own_isb (x y : Nat) (hx : x < 1000000) (hy : y ≤ x) : Int32.ofNat x - Int32.ofNat y = Int32.ofNat (x - y) := by
  rw [x32_eq, x32_sub (by rw [ofN_int (by omega), ofN_int (by omega)]; omega) (by rw [ofN_int (by omega), ofN_int (by omega)]; omega), ofN_int (by omega), ofN_int (by omega), ofN_int (by omega)]; omega
def own_T (rnd : Int32) (N M : Nat) : Nat := if rnd = 0 then N / M else (2 * N + M) / (2 * M)
theorem own_rnd (N M : Nat) (hM : 0 < M) : (2 * N + M) / (2 * M) = N / M + (if (N % M) * 2 < M then 0 else 1) := by
  have h1 : M * (N / M) + N % M = N := Nat.div_add_mod N M
  have h2 : N % M < M := Nat.mod_lt _ hM
  generalize N / M = q at h1 ⊢
  generalize N % M = r at h1 h2 ⊢
  by_cases c : r * 2 < M
  · rw [if_pos c]
    refine Nat.div_eq_of_lt_le ?_ ?_
    · rw [Nat.add_zero, show q * (2 * M) = 2 * (M * q) by rw [Nat.mul_left_comm, Nat.mul_comm q M]]; omega
    · rw [Nat.add_zero, show (q + 1) * (2 * M) = 2 * (M * q) + 2 * M by rw [Nat.add_mul, Nat.one_mul, Nat.mul_left_comm, Nat.mul_comm q M]]; omega
  · rw [if_neg c]
    refine Nat.div_eq_of_lt_le ?_ ?_
    · rw [show (q + 1) * (2 * M) = 2 * (M * q) + 2 * M by rw [Nat.add_mul, Nat.one_mul, Nat.mul_left_comm, Nat.mul_comm q M]]; omega
    · rw [show (q + 1 + 1) * (2 * M) = 2 * (M * q) + 2 * M + 2 * M by rw [Nat.add_mul, Nat.add_mul, Nat.one_mul, Nat.mul_left_comm, Nat.mul_comm q M]]; omega
theorem own_Tb (rnd : Int32) (N M : Nat) (hM : 0 < M) : own_T rnd N M ≤ N + 1 := by
  unfold own_T
  have : N / M ≤ N := Nat.div_le_self _ _
  split
  · omega
  · rw [own_rnd N M hM]; split <;> omega
theorem own_dB {x y : Int64} (hx : 0 ≤ x.toInt) (hy : 0 < y.toInt) : (x / y).toInt = x.toInt / y.toInt := by
  have : y ≠ -1 := fun e => by
    rw [e] at hy
    have : (-1 : Int64).toInt = -1 := by decide
    omega
  rw [Int64.toInt_div_of_ne_right _ _ this, Int.tdiv_eq_ediv_of_nonneg hx]
theorem own_mB {x y : Int64} (hx : 0 ≤ x.toInt) : (x % y).toInt = x.toInt % y.toInt := by
  rw [Int64.toInt_mod, Int.tmod_eq_emod_of_nonneg hx]
theorem own_abs (p : Int64) (s : St) (h : -9223372036854775808 < p.toInt) : ∃ q, f_absL p s = some q ∧ q.toInt = p.toInt.natAbs := by
  have o : (0 : Int64).toInt = 0 := rfl
  unfold f_absL f_absL_12
  by_cases c : p < 0
  · rw [if_pos c]
    rw [x64_lt, o] at c
    exact ⟨_, rfl, by rw [x64_neg h]; omega⟩
  · rw [if_neg c]
    rw [x64_lt, o] at c
    exact ⟨_, rfl, by omega⟩
theorem own_toI {s : St} {z : Int} {M : Nat} (h0 : (gJ s 0).toInt = z) (h1 : (gJ s 1).toInt = M) (hM : 0 < M) (hz : z.natAbs ≤ 10000000000000000) (hM2 : M ≤ 10000000000000000) (rnd : Int32) : ∃ t, f_toInteger rnd s = some t ∧ t.toInt = (if z < 0 then -((own_T rnd z.natAbs M : Nat) : Int) else ((own_T rnd z.natAbs M : Nat) : Int)) := by
  have o : (0 : Int64).toInt = 0 := rfl
  have o1 : (1 : Int64).toInt = 1 := rfl
  have o2 : (2 : Int64).toInt = 2 := rfl
  have ne : ¬ gJ s 1 = 0 := fun q => by rw [q] at h1; omega
  obtain ⟨q, eq, hq⟩ := own_abs (gJ s 0) s (by omega)
  rw [h0] at hq
  have hT := own_Tb rnd z.natAbs M hM
  have dv : (q / gJ s 1).toInt = ((z.natAbs / M : Nat) : Int) := by rw [own_dB (by omega) (by omega), hq, h1]; rfl
  have md : (q % gJ s 1).toInt = ((z.natAbs % M : Nat) : Int) := by rw [own_mB (by omega), hq, h1]; rfl
  have dl : z.natAbs / M ≤ z.natAbs := Nat.div_le_self _ _
  have ml : z.natAbs % M < M := Nat.mod_lt _ hM
  have nn : (0 : Int) ≤ ((z.natAbs / M : Nat) : Int) := Int.natCast_nonneg _
  have fin : ∀ x : Int64, x.toInt = ((own_T rnd z.natAbs M : Nat) : Int) → ∃ t, f_toInteger_49 x s = some t ∧ t.toInt = (if z < 0 then -((own_T rnd z.natAbs M : Nat) : Int) else ((own_T rnd z.natAbs M : Nat) : Int)) := fun x hx => by
    unfold f_toInteger_49 f_toInteger_66
    by_cases c : gJ s 0 < 0
    · rw [if_pos c]
      rw [x64_lt, o, h0] at c
      exact ⟨_, rfl, by rw [if_pos c, x64_neg (by omega), hx]⟩
    · rw [if_neg c]
      rw [x64_lt, o, h0] at c
      exact ⟨_, rfl, by rw [if_neg c, hx]⟩
  unfold f_toInteger
  rw [eq, Option.bind_some, if_neg ne]
  show ∃ t, (if rnd = 0 then f_toInteger_49 (q / gJ s 1) s else if gJ s 1 = 0 then none else if q % gJ s 1 * 2 < gJ s 1 then f_toInteger_49 (q / gJ s 1) s else f_toInteger_49 (q / gJ s 1 + 1) s) = some t ∧ _
  by_cases c : rnd = 0
  · rw [if_pos c]
    refine fin _ ?_
    unfold own_T
    rw [if_pos c, dv]
  · rw [if_neg c, if_neg ne]
    have e2 : (q % gJ s 1 * 2).toInt = ((z.natAbs % M * 2 : Nat) : Int) := by rw [x64_mul (by rw [md, o2]; omega) (by rw [md, o2]; omega), md, o2]; omega
    have tt : own_T rnd z.natAbs M = z.natAbs / M + (if z.natAbs % M * 2 < M then 0 else 1) := by
      unfold own_T
      rw [if_neg c, own_rnd _ _ hM]
    by_cases d : q % gJ s 1 * 2 < gJ s 1
    · rw [if_pos d]
      rw [x64_lt, e2, h1] at d
      refine fin _ ?_
      rw [tt, if_pos (by omega), dv, Nat.add_zero]
    · rw [if_neg d]
      rw [x64_lt, e2, h1] at d
      refine fin _ ?_
      rw [tt, if_neg (by omega), x64_add (by rw [dv, o1]; omega) (by rw [dv, o1]; omega), dv, o1]; rfl
theorem own_fit {t : Int64} {s : St} {d : Nat} (hd : d ≤ 5) (ht : t.toInt.natAbs ≤ 100000000000000000) : own_Ok (fun n => f_fits n t (Int32.ofNat d) s) (· = if 10 ^ d ≤ t.toInt.natAbs then 0 else 1) := by
  obtain ⟨p1, p2⟩ := own_p10b (e := d) (by omega)
  have o1 : (1 : Int64).toInt = 1 := rfl
  unfold f_fits f_fits_25
  refine own_Ok.bind (own_pow s d (by omega)) fun c hc => ?_
  subst hc
  refine own_Ok.let ?_
  obtain ⟨q, eq, hq⟩ := own_abs t s (by omega)
  refine own_Ok.eq eq ?_
  have e : (Int64.ofNat (10 ^ d) - 1).toInt = ((10 ^ d : Nat) : Int) - 1 := by rw [x64_sub (by rw [own_jN _ (by omega), o1]; omega) (by rw [own_jN _ (by omega), o1]; omega), own_jN _ (by omega), o1]
  refine own_Ok.ite (fun c => own_Ok.ret ?_) fun c => own_Ok.ret ?_
  · rw [x64_lt, e, hq] at c
    rw [if_pos (by omega)]; rfl
  · rw [x64_lt, e, hq] at c
    rw [if_neg (by omega)]; rfl
theorem own_low {t : Int64} {s : St} {d : Nat} (hd : d ≤ 5) (ht : t.toInt.natAbs ≤ 100000000000000000) : own_Ok (fun n => f_lowDigits n t (Int32.ofNat d) s) (fun v => v.toInt = if t.toInt < 0 then -((t.toInt.natAbs % 10 ^ d : Nat) : Int) else ((t.toInt.natAbs % 10 ^ d : Nat) : Int)) := by
  obtain ⟨p1, p2⟩ := own_p10b (e := d) (by omega)
  have p5 : 10 ^ d ≤ 100000 := Nat.pow_le_pow_right (n := 10) (by decide) hd
  have o : (0 : Int64).toInt = 0 := rfl
  unfold f_lowDigits f_lowDigits_36
  refine own_Ok.bind (own_pow s d (by omega)) fun c hc => ?_
  subst hc
  obtain ⟨q, eq, hq⟩ := own_abs t s (by omega)
  refine own_Ok.eq eq ?_
  refine own_Ok.ite (fun z => by have z := congrArg Int64.toInt z; rw [own_jN _ (by omega), o] at z; omega) fun _ => ?_
  refine own_Ok.let (own_Ok.let ?_)
  have ml : t.toInt.natAbs % 10 ^ d < 10 ^ d := Nat.mod_lt _ (by omega)
  have e1 : (q % Int64.ofNat (10 ^ d)).toInt = ((t.toInt.natAbs % 10 ^ d : Nat) : Int) := by rw [own_mB (by omega), hq, own_jN _ (by omega)]; rfl
  have e2 : ((q % Int64.ofNat (10 ^ d)).toInt32).toInt = ((t.toInt.natAbs % 10 ^ d : Nat) : Int) := by
    rw [Int64.toInt_toInt32, e1]
    exact Int.bmod_eq_of_le (by omega) (by omega)
  refine own_Ok.ite (fun c => own_Ok.ret ?_) fun c => own_Ok.ret ?_
  · rw [x64_lt, o] at c
    rw [if_pos c, x32_neg (by rw [e2]; omega), e2]
  · rw [x64_lt, o] at c
    rw [if_neg c, e2]
/-! the law's own reckoning -/
theorem own_215 {t : Int64} {d T : Nat} (hd : d ≤ 5) (ht : t.toInt = T) : own_Ok (fun n => f_L_sizeErr_215 n (Int32.ofNat d) t) (· = if 10 ^ d ≤ T then 1 else 0) := by
  obtain ⟨p1, p2⟩ := own_p10b (e := d) (by omega)
  have o1 : (1 : Int64).toInt = 1 := rfl
  unfold f_L_sizeErr_215 f_L_sizeErr_235
  refine own_Ok.bind (own_lp d (by omega)) fun c hc => ?_
  subst hc
  have e : (Int64.ofNat (10 ^ d) - 1).toInt = ((10 ^ d : Nat) : Int) - 1 := by rw [x64_sub (by rw [own_jN _ (by omega), o1]; omega) (by rw [own_jN _ (by omega), o1]; omega), own_jN _ (by omega), o1]
  refine own_Ok.ite (fun c => own_Ok.ret ?_) fun c => own_Ok.ret ?_
  · rw [x64_lt, e, ht] at c
    rw [if_pos (by omega)]; rfl
  · rw [x64_lt, e, ht] at c
    rw [if_neg (by omega)]; rfl
theorem own_185 {x y : Int64} {N M d : Nat} (hd : d ≤ 5) (hx : x.toInt = N) (hy : y.toInt = M) (hM : 0 < M) (hN : N ≤ 10000000000000000) (hM2 : M ≤ 10000000000000000) (rnd : Int32) : own_Ok (fun n => f_L_sizeErr_185 n rnd (Int32.ofNat d) y x) (· = if 10 ^ d ≤ own_T rnd N M then 1 else 0) := by
  have o : (0 : Int64).toInt = 0 := rfl
  have o2 : (2 : Int64).toInt = 2 := rfl
  have e2 : ((2 : Int64) * y).toInt = ((2 * M : Nat) : Int) := by rw [x64_mul (by rw [hy, o2]; omega) (by rw [hy, o2]; omega), hy, o2]; omega
  have e3 : ((2 : Int64) * x).toInt = ((2 * N : Nat) : Int) := by rw [x64_mul (by rw [hx, o2]; omega) (by rw [hx, o2]; omega), hx, o2]; omega
  have e4 : ((2 : Int64) * x + y).toInt = ((2 * N + M : Nat) : Int) := by rw [x64_add (by rw [e3, hy]; omega) (by rw [e3, hy]; omega), e3, hy]; omega
  unfold f_L_sizeErr_185
  refine own_Ok.ite (fun c => ?_) fun c => ?_
  · refine own_Ok.ite (fun z => by rw [z, o] at hy; omega) fun _ => ?_
    unfold own_T
    rw [if_pos c]
    exact own_215 hd (by rw [own_dB (by omega) (by omega), hx, hy]; rfl)
  · refine own_Ok.ite (fun z => by rw [z, o] at e2; omega) fun _ => ?_
    unfold own_T
    rw [if_neg c]
    exact own_215 hd (by rw [own_dB (by omega) (by omega), e4, e2]; rfl)
theorem own_170 {x y : Int64} {z : Int} {M d : Nat} (hd : d ≤ 5) (hx : x.toInt = z) (hy : y.toInt = M) (hM : 0 < M) (hN : z.natAbs ≤ 10000000000000000) (hM2 : M ≤ 10000000000000000) (rnd : Int32) : own_Ok (fun n => f_L_sizeErr_170 n rnd (Int32.ofNat d) x y) (· = if 10 ^ d ≤ own_T rnd z.natAbs M then 1 else 0) := by
  have o : (0 : Int64).toInt = 0 := rfl
  unfold f_L_sizeErr_170
  refine own_Ok.ite (fun c => ?_) fun c => ?_
  · rw [x64_lt, o, hx] at c
    exact own_185 hd (by rw [x64_neg (by omega), hx]; omega) hy hM hN hM2 rnd
  · rw [x64_lt, o, hx] at c
    exact own_185 hd (by rw [hx]; omega) hy hM hN hM2 rnd
theorem own_m64 {x y : Int64} {X Y : Int} {A B : Nat} (ex : x.toInt = X) (ey : y.toInt = Y) (hx : X.natAbs ≤ A) (hy : Y.natAbs ≤ B) (h : A * B < 9223372036854775807) : (x * y).toInt = X * Y ∧ (X * Y).natAbs ≤ A * B := by
  have h2 : (X * Y).natAbs ≤ A * B := by rw [Int.natAbs_mul]; exact Nat.mul_le_mul hx hy
  refine ⟨?_, h2⟩
  rw [← ex, ← ey] at h2 ⊢
  generalize hz : x.toInt * y.toInt = z at h2
  generalize A * B = w at h h2
  rw [x64_mul (by rw [hz]; omega) (by rw [hz]; omega), hz]
/-! the quotient -/
def own_F (fa fb : Nat) : Nat := if fb < fa then fa else fb
def own_p (e : Nat) : Int := ((10 ^ e : Nat) : Int)
def own_nm (k : Nat) (va vb : Int) (fa fb fc : Nat) : Int := if k = 4 then va * vb * own_p fc else if k = 5 then (if vb * own_p fa < 0 then -(va * own_p fb * own_p fc) else va * own_p fb * own_p fc) else if k = 2 then (va * own_p (own_F fa fb - fa) + vb * own_p (own_F fa fb - fb)) * own_p fc else (vb * own_p (own_F fa fb - fb) - va * own_p (own_F fa fb - fa)) * own_p fc
def own_dn (k : Nat) (vb : Int) (fa fb : Nat) : Nat := if k = 4 then 10 ^ (fa + fb) else if k = 5 then (vb * own_p fa).natAbs else 10 ^ own_F fa fb
theorem own_pv {e : Nat} (h : e ≤ 5) : (Int64.ofNat (10 ^ e)).toInt = own_p e ∧ (own_p e).natAbs ≤ 100000 ∧ 1 ≤ own_p e := by
  have p5 : 10 ^ e ≤ 100000 := Nat.pow_le_pow_right (n := 10) (by decide) h
  have p1 := (own_p10b (e := e) (by omega)).1
  unfold own_p
  exact ⟨own_jN _ (by omega), by omega, by omega⟩
theorem own_Fb {fa fb : Nat} (ha : fa ≤ 5) (hb : fb ≤ 5) : own_F fa fb ≤ 5 ∧ fa ≤ own_F fa fb ∧ fb ≤ own_F fa fb := by
  unfold own_F
  split <;> omega
theorem own_dn0 {k : Nat} {vb : Int} {fa fb : Nat} (ha : fa ≤ 5) (hb : fb ≤ 5) (hv : vb.natAbs ≤ 99999) (h : k = 5 → vb ≠ 0) : 0 < own_dn k vb fa fb ∧ own_dn k vb fa fb ≤ 10000000000000000 := by
  unfold own_dn
  split
  · have := own_p10b (e := fa + fb) (by omega)
    have : 10 ^ (fa + fb) ≤ 10 ^ 10 := own_p10e (by omega) (by omega)
    have : 10 ^ 10 = 10000000000 := rfl
    omega
  · split
    · rename_i c
      obtain ⟨-, q2, q3⟩ := own_pv ha
      rw [Int.natAbs_mul]
      have : vb.natAbs * (own_p fa).natAbs ≤ 99999 * 100000 := Nat.mul_le_mul hv q2
      have : 0 < vb.natAbs * (own_p fa).natAbs := Nat.mul_pos (by have := h c; omega) (by omega)
      omega
    · have := own_Fb ha hb
      have := own_p10b (e := own_F fa fb) (by omega)
      have : 10 ^ (own_F fa fb) ≤ 10 ^ 10 := own_p10e (by omega) (by omega)
      have : 10 ^ 10 = 10000000000 := rfl
      omega

def own_Jq (s t : St) : Prop := (∀ j, gI t j = gI s j) ∧ ∀ j, gA t j = gA s j
theorem own_Jq.A {s t : St} (h : own_Jq s t) : own_A t = own_A s := by
  funext f k
  unfold own_A
  rw [h.2 f]
theorem own_Jq.sh {s t : St} (h : own_Jq s t) (hS : own_Sh s) : own_Sh t := fun f => by rw [h.2 f]; exact hS f
theorem own_Jq.refl (s : St) : own_Jq s s := ⟨fun _ => rfl, fun _ => rfl⟩
theorem own_Jq.trans {s t u : St} (h : own_Jq s t) (k : own_Jq t u) : own_Jq s u := ⟨fun j => (k.1 j).trans (h.1 j), fun j => (k.2 j).trans (h.2 j)⟩
theorem own_Jq.j (s : St) (i : Nat) (x : Int64) : own_Jq s (sJ s i x) := ⟨fun _ => rfl, fun _ => rfl⟩
theorem own_pa (a b : Nat) : own_p (a + b) = own_p a * own_p b := by
  unfold own_p
  rw [Nat.pow_add]; exact Int.natCast_mul _ _
theorem own_pv10 {e : Nat} (h : e ≤ 10) : (Int64.ofNat (10 ^ e)).toInt = own_p e ∧ (own_p e).natAbs ≤ 10000000000 ∧ 1 ≤ own_p e := by
  have p5 : 10 ^ e ≤ 10000000000 := Nat.pow_le_pow_right (n := 10) (by decide) h
  have p1 := (own_p10b (e := e) (by omega)).1
  unfold own_p
  exact ⟨own_jN _ (by omega), by omega, by omega⟩
theorem own_ad64 {x y : Int64} {X Y : Int} {A B : Nat} (ex : x.toInt = X) (ey : y.toInt = Y) (hx : X.natAbs ≤ A) (hy : Y.natAbs ≤ B) (h : A + B < 9223372036854775807) : (x + y).toInt = X + Y ∧ (X + Y).natAbs ≤ A + B := by
  refine ⟨?_, by omega⟩
  rw [x64_add (by omega) (by omega), ex, ey]
theorem own_sb64 {x y : Int64} {X Y : Int} {A B : Nat} (ex : x.toInt = X) (ey : y.toInt = Y) (hx : X.natAbs ≤ A) (hy : Y.natAbs ≤ B) (h : A + B < 9223372036854775807) : (x - y).toInt = X - Y ∧ (X - Y).natAbs ≤ A + B := by
  refine ⟨?_, by omega⟩
  rw [x64_sub (by omega) (by omega), ex, ey]
/-- the sum or difference, scaled -/
theorem own_sum {x y : Int64} {va vb : Int} {fa fb fc : Nat} (hx : x.toInt = va) (hy : y.toInt = vb) (ba : va.natAbs ≤ 99999) (bb : vb.natAbs ≤ 99999) (ha : fa ≤ 5) (hb : fb ≤ 5) (hc : fc ≤ 5) :
    ((x * Int64.ofNat (10 ^ (own_F fa fb - fa)) + y * Int64.ofNat (10 ^ (own_F fa fb - fb))) * Int64.ofNat (10 ^ fc)).toInt = own_nm 2 va vb fa fb fc ∧
    ((y * Int64.ofNat (10 ^ (own_F fa fb - fb)) - x * Int64.ofNat (10 ^ (own_F fa fb - fa))) * Int64.ofNat (10 ^ fc)).toInt = own_nm 3 va vb fa fb fc ∧
    (own_nm 2 va vb fa fb fc).natAbs ≤ 10000000000000000 ∧ (own_nm 3 va vb fa fb fc).natAbs ≤ 10000000000000000 := by
  have F := own_Fb ha hb
  obtain ⟨p1, p2, -⟩ := own_pv (e := own_F fa fb - fa) (by omega)
  obtain ⟨q1, q2, -⟩ := own_pv (e := own_F fa fb - fb) (by omega)
  obtain ⟨r1, r2, -⟩ := own_pv hc
  obtain ⟨a1, a2⟩ := own_m64 hx p1 ba p2 (by decide)
  obtain ⟨b1, b2⟩ := own_m64 hy q1 bb q2 (by decide)
  obtain ⟨c1, c2⟩ := own_ad64 a1 b1 a2 b2 (by decide)
  obtain ⟨d1, d2⟩ := own_sb64 b1 a1 b2 a2 (by decide)
  obtain ⟨e1, e2⟩ := own_m64 c1 r1 c2 r2 (by decide)
  obtain ⟨g1, g2⟩ := own_m64 d1 r1 d2 r2 (by decide)
  exact ⟨e1, g1, Nat.le_trans e2 (by decide), Nat.le_trans g2 (by decide)⟩
theorem own_mul {x y : Int64} {va vb : Int} {fa fb fc : Nat} (hx : x.toInt = va) (hy : y.toInt = vb) (ba : va.natAbs ≤ 99999) (bb : vb.natAbs ≤ 99999) (hc : fc ≤ 5) : (x * y * Int64.ofNat (10 ^ fc)).toInt = own_nm 4 va vb fa fb fc ∧ (own_nm 4 va vb fa fb fc).natAbs ≤ 10000000000000000 := by
  obtain ⟨r1, r2, -⟩ := own_pv hc
  obtain ⟨a1, a2⟩ := own_m64 hx hy ba bb (by decide)
  obtain ⟨e1, e2⟩ := own_m64 a1 r1 a2 r2 (by decide)
  exact ⟨e1, Nat.le_trans e2 (by decide)⟩
theorem own_dvn {x : Int64} {va : Int} {fb fc : Nat} (hx : x.toInt = va) (ba : va.natAbs ≤ 99999) (hb : fb ≤ 5) (hc : fc ≤ 5) : (x * Int64.ofNat (10 ^ fb) * Int64.ofNat (10 ^ fc)).toInt = va * own_p fb * own_p fc ∧ (x * Int64.ofNat (10 ^ (fb + fc))).toInt = va * own_p fb * own_p fc ∧ (va * own_p fb * own_p fc).natAbs ≤ 10000000000000000 := by
  obtain ⟨q1, q2, -⟩ := own_pv hb
  obtain ⟨r1, r2, -⟩ := own_pv hc
  obtain ⟨a1, a2⟩ := own_m64 hx q1 ba q2 (by decide)
  obtain ⟨e1, e2⟩ := own_m64 a1 r1 a2 r2 (by decide)
  obtain ⟨s1, s2, -⟩ := own_pv10 (e := fb + fc) (by omega)
  obtain ⟨g1, g2⟩ := own_m64 hx s1 ba s2 (by decide)
  exact ⟨e1, by rw [g1, own_pa, Int.mul_assoc], Nat.le_trans e2 (by decide)⟩
theorem own_dvd {y : Int64} {vb : Int} {fa : Nat} (hy : y.toInt = vb) (bb : vb.natAbs ≤ 99999) (ha : fa ≤ 5) : (y * Int64.ofNat (10 ^ fa)).toInt = vb * own_p fa ∧ (vb * own_p fa).natAbs ≤ 10000000000 := by
  obtain ⟨q1, q2, -⟩ := own_pv ha
  obtain ⟨a1, a2⟩ := own_m64 hy q1 bb q2 (by decide)
  exact ⟨a1, Nat.le_trans a2 (by decide)⟩
theorem own_dn5 (vb : Int) (fa fb : Nat) : own_dn 5 vb fa fb = (vb * own_p fa).natAbs := rfl
theorem own_nm5 (va vb : Int) (fa fb fc : Nat) : own_nm 5 va vb fa fb fc = if vb * own_p fa < 0 then -(va * own_p fb * own_p fc) else va * own_p fb * own_p fc := rfl
theorem own_isF (fa fb : Nat) (ha : fa ≤ 5) (hb : fb ≤ 5) {α : Type} (G : Int32 → α) : (if Int32.ofNat fb < Int32.ofNat fa then G (Int32.ofNat fa) else G (Int32.ofNat fb)) = G (Int32.ofNat (own_F fa fb)) := by
  unfold own_F
  by_cases c : fb < fa
  · rw [if_pos ((own_ltN (by omega) (by omega)).mpr c), if_pos c]
  · rw [if_neg (fun q => c ((own_ltN (by omega) (by omega)).mp q)), if_neg c]
/-- the law's prediction -/
def own_pr (k : Nat) (rnd : Int32) (va vb : Int) (fa fb fc d : Nat) : Int32 := if k = 5 ∧ vb = 0 then 1 else if 10 ^ d ≤ own_T rnd (own_nm k va vb fa fb fc).natAbs (own_dn k vb fa fb) then 1 else 0
theorem own_szE {x y : Int64} {va vb : Int} {k fa fb fc d : Nat} (hx : x.toInt = va) (hy : y.toInt = vb) (ba : va.natAbs ≤ 99999) (bb : vb.natAbs ≤ 99999) (ha : fa ≤ 5) (hb : fb ≤ 5) (hc : fc ≤ 5) (hd : d ≤ 5) (hk : 2 ≤ k ∧ k ≤ 5) (rnd : Int32) : own_Ok (fun n => f_L_sizeErr n (Int32.ofNat k) rnd x (Int32.ofNat fa) y (Int32.ofNat fb) (Int32.ofNat fc) (Int32.ofNat d)) (· = own_pr k rnd va vb fa fb fc d) := by
  have o : (0 : Int64).toInt = 0 := rfl
  have F := own_Fb ha hb
  have pos : ∀ (m : Nat) (z : Int64), m ≤ 10 → z.toInt = own_nm k va vb fa fb fc → (own_nm k va vb fa fb fc).natAbs ≤ 10000000000000000 → ¬ k = 5 → own_dn k vb fa fb = 10 ^ m → own_Ok (fun n => f_L_sizeErr_153 n rnd (Int32.ofNat d) z (Int64.ofNat (10 ^ m))) (· = own_pr k rnd va vb fa fb fc d) := fun m z hm hz bz k5 ed => by
    obtain ⟨t1, t2, t3⟩ := own_pv10 hm
    unfold f_L_sizeErr_153 own_pr
    rw [if_neg (fun q => k5 q.1), ed]
    refine own_Ok.ite (fun c => by rw [x64_lt, t1, o] at c; omega) fun _ => ?_
    have p1 := own_p10b (e := m) (by omega)
    have p2 : 10 ^ m ≤ 10 ^ 10 := own_p10e hm (by omega)
    have p3 : 10 ^ 10 = 10000000000 := rfl
    exact own_170 hd hz (own_jN _ (by omega)) (by omega) bz (by omega) rnd
  have sm := own_sum hx hy ba bb ha hb hc
  have add : k = 2 ∨ k = 3 → own_Ok (fun n => f_L_sizeErr_24 n (Int32.ofNat k) rnd x (Int32.ofNat fa) y (Int32.ofNat fb) (Int32.ofNat fc) (Int32.ofNat d)) (· = own_pr k rnd va vb fa fb fc d) := fun h23 => by
    unfold f_L_sizeErr_24
    refine own_Ok.congr (fun n => own_isF fa fb ha hb fun t => f_L_sizeErr_38 n (Int32.ofNat k) rnd x (Int32.ofNat fa) y (Int32.ofNat fb) (Int32.ofNat fc) (Int32.ofNat d) t) ?_
    unfold f_L_sizeErr_38 f_L_sizeErr_83
    rw [own_isb _ _ (by omega) F.2.1, own_isb _ _ (by omega) F.2.2]
    refine own_Ok.bind (own_lp _ (by omega)) fun c hc1 => ?_
    subst hc1
    refine own_Ok.let ?_
    refine own_Ok.bind (own_lp _ (by omega)) fun c hc1 => ?_
    subst hc1
    refine own_Ok.let ?_
    have ed : own_dn k vb fa fb = 10 ^ own_F fa fb := by
      unfold own_dn
      rw [if_neg (by omega), if_neg (by omega)]
    rcases h23 with rfl | rfl
    · refine own_Ok.ite (fun _ => ?_) fun q => absurd rfl q
      refine own_Ok.bind (own_lp fc (by omega)) fun c hc1 => ?_
      subst hc1
      refine own_Ok.let ?_
      refine own_Ok.bind (own_lp _ (by omega)) fun c hc1 => ?_
      subst hc1
      exact pos _ _ (by omega) sm.1 sm.2.2.1 (by decide) ed
    · refine own_Ok.ite (fun q => absurd q (by decide)) fun _ => ?_
      refine own_Ok.bind (own_lp fc (by omega)) fun c hc1 => ?_
      subst hc1
      refine own_Ok.let ?_
      refine own_Ok.bind (own_lp _ (by omega)) fun c hc1 => ?_
      subst hc1
      exact pos _ _ (by omega) sm.2.1 sm.2.2.2 (by decide) ed
  unfold f_L_sizeErr f_L_sizeErr_14
  rcases (by omega : k = 2 ∨ k = 3 ∨ k = 4 ∨ k = 5) with rfl | rfl | rfl | rfl
  · refine own_Ok.ite (fun q => absurd q (by decide)) fun _ => ?_
    exact own_Ok.ite (fun _ => add (.inl rfl)) fun q => absurd rfl q
  · refine own_Ok.ite (fun q => absurd q (by decide)) fun _ => ?_
    refine own_Ok.ite (fun q => absurd q (by decide)) fun _ => ?_
    exact own_Ok.ite (fun _ => add (.inr rfl)) fun q => absurd rfl q
  · refine own_Ok.ite (fun q => absurd q (by decide)) fun _ => ?_
    refine own_Ok.ite (fun q => absurd q (by decide)) fun _ => ?_
    refine own_Ok.ite (fun q => absurd q (by decide)) fun _ => ?_
    refine own_Ok.ite (fun _ => ?_) fun q => absurd rfl q
    refine own_Ok.bind (own_lp fc (by omega)) fun c hc1 => ?_
    subst hc1
    refine own_Ok.let ?_
    rw [← Int32.ofNat_add]
    refine own_Ok.bind (own_lp _ (by omega)) fun c hc1 => ?_
    subst hc1
    have m4 := own_mul (fa := fa) (fb := fb) hx hy ba bb hc
    exact pos _ _ (by omega) m4.1 m4.2 (by decide) rfl
  · refine own_Ok.ite (fun _ => ?_) fun q => absurd rfl q
    refine own_Ok.ite (fun q => ?_) fun q => ?_
    · refine own_Ok.ret ?_
      rw [x64_eq, hy, o] at q
      unfold own_pr
      rw [if_pos ⟨rfl, q⟩]
    · have q : vb ≠ 0 := fun e => q (by rw [x64_eq, hy, o]; exact e)
      refine own_Ok.ite (fun q => absurd q (by decide)) fun _ => ?_
      refine own_Ok.ite (fun q => absurd q (by decide)) fun _ => ?_
      refine own_Ok.ite (fun q => absurd q (by decide)) fun _ => ?_
      rw [← Int32.ofNat_add]
      refine own_Ok.bind (own_lp _ (by omega)) fun c hc1 => ?_
      subst hc1
      refine own_Ok.let ?_
      refine own_Ok.bind (own_lp _ (by omega)) fun c hc1 => ?_
      subst hc1
      refine own_Ok.let ?_
      have v1 := own_dvn hx ba hb hc
      have v2 := own_dvd hy bb ha
      have v3 := own_dn0 (k := 5) (fa := fa) (fb := fb) ha hb bb fun _ => q
      unfold f_L_sizeErr_153 own_pr
      rw [if_neg (fun e => q e.2)]
      rw [own_dn5] at v3 ⊢
      rw [own_nm5]
      refine own_Ok.ite (fun c => ?_) fun c => ?_
      · rw [x64_lt, v2.1, o] at c
        refine own_Ok.let (own_Ok.let ?_)
        rw [if_pos c]
        exact own_170 hd (by rw [x64_neg (by rw [v1.2.1]; omega), v1.2.1]) (by rw [x64_neg (by rw [v2.1]; omega), v2.1]; omega) v3.1 (by omega) v3.2 rnd
      · rw [x64_lt, v2.1, o] at c
        rw [if_neg c]
        exact own_170 hd v1.2.1 (by rw [v2.1]; omega) v3.1 v1.2.2 v3.2 rnd
/-- the program's own quotient -/
theorem own_fq {s : St} (hS : own_Sh s) {q ia ib ic k fa fb fc : Nat} (hq : q < 32) (h6 : own_A s 6 q = Int32.ofNat ia) (h7 : own_A s 7 q = Int32.ofNat ib) (h8 : own_A s 8 q = Int32.ofNat ic) (la : ia < 8) (lb : ib < 8) (lc : ic < 8) (f1 : own_A s 1 ia = Int32.ofNat fa) (f2 : own_A s 1 ib = Int32.ofNat fb) (f3 : own_A s 1 ic = Int32.ofNat fc) (ha : fa ≤ 5) (hb : fb ≤ 5) (hc : fc ≤ 5) (h4 : own_A s 4 q = Int32.ofNat k) (hk : 2 ≤ k ∧ k ≤ 5) (ba : (own_A s 2 ia).toInt.natAbs ≤ 99999) (bb : (own_A s 2 ib).toInt.natAbs ≤ 99999) : own_Ok (fun n => f_formQuotient n (Int32.ofNat q) s) (fun r => own_Jq s r.2 ∧ ((k = 5 ∧ (own_A s 2 ib).toInt = 0 ∧ r.1 = 0) ∨ (¬ (k = 5 ∧ (own_A s 2 ib).toInt = 0) ∧ r.1 = 1 ∧ (gJ r.2 0).toInt = own_nm k (own_A s 2 ia).toInt (own_A s 2 ib).toInt fa fb fc ∧ (gJ r.2 1).toInt = own_dn k (own_A s 2 ib).toInt fa fb ∧ (own_nm k (own_A s 2 ia).toInt (own_A s 2 ib).toInt fa fb fc).natAbs ≤ 10000000000000000))) := by
  have o : (0 : Int64).toInt = 0 := rfl
  have F := own_Fb ha hb
  have hx : ((own_A s 2 ia).toInt64).toInt = (own_A s 2 ia).toInt := Int32.toInt_toInt64 _
  have hy : ((own_A s 2 ib).toInt64).toInt = (own_A s 2 ib).toInt := Int32.toInt_toInt64 _
  generalize (own_A s 2 ia).toInt = va at hx ba ⊢
  generalize (own_A s 2 ib).toInt = vb at hy bb ⊢
  have ix : ∀ {m : Nat}, m < 2147483648 → (Int32.ofNat m).toInt = m := fun h => ofN_int h
  have sm := own_sum hx hy ba bb ha hb hc
  unfold f_formQuotient
  refine own_Ok.rA (f := 6) hS q (ix (by omega)) hq ?_
  refine own_Ok.rA (f := 7) hS q (ix (by omega)) hq ?_
  refine own_Ok.rA (f := 8) hS q (ix (by omega)) hq ?_
  rw [h6, h7, h8]
  refine own_Ok.rA (f := 2) hS ia (ix (by omega)) la ?_
  refine own_Ok.let ?_
  refine own_Ok.rA (f := 2) hS ib (ix (by omega)) lb ?_
  refine own_Ok.let ?_
  refine own_Ok.rA (f := 1) hS ia (ix (by omega)) la ?_
  refine own_Ok.rA (f := 1) hS ib (ix (by omega)) lb ?_
  refine own_Ok.rA (f := 1) hS ic (ix (by omega)) lc ?_
  rw [f1, f2, f3]
  refine own_Ok.bind (own_pow s fc (by omega)) fun c hc1 => ?_
  subst hc1
  refine own_Ok.rA (f := 4) hS q (ix (by omega)) hq ?_
  rw [h4]
  have add : k = 2 ∨ k = 3 → own_Ok (fun n => f_formQuotient_145 n (own_A s 2 ia).toInt64 (own_A s 2 ib).toInt64 (Int32.ofNat fa) (Int32.ofNat fb) (Int64.ofNat (10 ^ fc)) (Int32.ofNat k) (Int32.ofNat (own_F fa fb)) s) (fun r => own_Jq s r.2 ∧ ((k = 5 ∧ vb = 0 ∧ r.1 = 0) ∨ (¬ (k = 5 ∧ vb = 0) ∧ r.1 = 1 ∧ (gJ r.2 0).toInt = own_nm k va vb fa fb fc ∧ (gJ r.2 1).toInt = own_dn k vb fa fb ∧ (own_nm k va vb fa fb fc).natAbs ≤ 10000000000000000))) := fun h23 => by
    have ed : own_dn k vb fa fb = 10 ^ own_F fa fb := by
      unfold own_dn
      rw [if_neg (by omega), if_neg (by omega)]
    have pj := own_jN (10 ^ own_F fa fb) (by have := own_p10b (e := own_F fa fb) (by omega); omega)
    unfold f_formQuotient_145 f_formQuotient_194
    rw [own_isb _ _ (by omega) F.2.1, own_isb _ _ (by omega) F.2.2]
    refine own_Ok.bind (own_pow s _ (by omega)) fun c hc1 => ?_
    subst hc1
    refine own_Ok.let ?_
    refine own_Ok.bind (own_pow s _ (by omega)) fun c hc1 => ?_
    subst hc1
    refine own_Ok.let ?_
    rcases h23 with rfl | rfl
    · refine own_Ok.ite (fun _ => ?_) fun q => absurd rfl q
      refine own_Ok.let ?_
      refine own_Ok.bind (own_pow _ _ (by omega)) fun c hc1 => ?_
      subst hc1
      refine own_Ok.let (own_Ok.ret ⟨⟨fun _ => rfl, fun _ => rfl⟩, .inr ⟨fun q => absurd q.1 (by decide), rfl, sm.1, ?_, sm.2.2.1⟩⟩)
      rw [ed]; exact pj
    · refine own_Ok.ite (fun q => absurd q (by decide)) fun _ => ?_
      refine own_Ok.let ?_
      refine own_Ok.bind (own_pow _ _ (by omega)) fun c hc1 => ?_
      subst hc1
      refine own_Ok.let (own_Ok.ret ⟨⟨fun _ => rfl, fun _ => rfl⟩, .inr ⟨fun q => absurd q.1 (by decide), rfl, sm.2.1, ?_, sm.2.2.2⟩⟩)
      rw [ed]; exact pj
  rcases (by omega : (k = 2 ∨ k = 3) ∨ k = 4 ∨ k = 5) with h23 | rfl | rfl
  · refine own_Ok.ite (fun z => by have := (own_eql (m := 4) (by omega) (by decide)).mp z; omega) fun _ => ?_
    refine own_Ok.ite (fun z => by have := (own_eql (m := 5) (by omega) (by decide)).mp z; omega) fun _ => ?_
    exact own_Ok.congr (fun n => own_isF fa fb ha hb fun t => f_formQuotient_145 n (own_A s 2 ia).toInt64 (own_A s 2 ib).toInt64 (Int32.ofNat fa) (Int32.ofNat fb) (Int64.ofNat (10 ^ fc)) (Int32.ofNat k) t s) (add h23)
  · refine own_Ok.ite (fun _ => ?_) fun z => absurd rfl z
    refine own_Ok.let ?_
    rw [← Int32.ofNat_add]
    refine own_Ok.bind (own_pow _ _ (by omega)) fun c hc1 => ?_
    subst hc1
    have m4 := own_mul (fa := fa) (fb := fb) hx hy ba bb hc
    refine own_Ok.let (own_Ok.ret ⟨⟨fun _ => rfl, fun _ => rfl⟩, .inr ⟨fun q => absurd q.1 (by decide), rfl, m4.1, ?_, m4.2⟩⟩)
    exact own_jN (10 ^ (fa + fb)) (by have := own_p10b (e := fa + fb) (by omega); omega)
  · refine own_Ok.ite (fun z => absurd z (by decide)) fun _ => ?_
    refine own_Ok.ite (fun _ => ?_) fun z => absurd rfl z
    refine own_Ok.bind (Q := fun r => own_Jq s r.2 ∧ ((vb = 0 ∧ r.1 = 0) ∨ (vb ≠ 0 ∧ r.1 = 1 ∧ (gJ r.2 0).toInt = own_nm 5 va vb fa fb fc ∧ (gJ r.2 1).toInt = own_dn 5 vb fa fb ∧ (own_nm 5 va vb fa fb fc).natAbs ≤ 10000000000000000))) ?_ fun r hr => ?_
    · unfold f_formDivision f_formDivision_70
      refine own_Ok.ite (fun z => ?_) fun z => ?_
      · rw [x64_eq, hy, o] at z
        exact own_Ok.ret ⟨own_Jq.refl s, .inl ⟨z, rfl⟩⟩
      · have nz : vb ≠ 0 := fun e => z (by rw [x64_eq, hy, o]; exact e)
        refine own_Ok.bind (own_pow s fb (by omega)) fun c hc1 => ?_
        subst hc1
        refine own_Ok.bind (own_pow s fa (by omega)) fun c hc1 => ?_
        subst hc1
        have v1 := own_dvn hx ba hb hc
        have v2 := own_dvd hy bb ha
        refine own_Ok.let (own_Ok.let ?_)
        rw [own_dn5, own_nm5]
        refine own_Ok.ite (fun c => ?_) fun c => ?_
        · rw [x64_lt, o] at c
          have c : vb * own_p fa < 0 := by rw [← v2.1]; exact c
          rw [if_pos c]
          refine own_Ok.let (own_Ok.let (own_Ok.ret ⟨⟨fun _ => rfl, fun _ => rfl⟩, .inr ⟨nz, rfl, ?_, ?_, by omega⟩⟩))
          · show (-((own_A s 2 ia).toInt64 * Int64.ofNat (10 ^ fb) * Int64.ofNat (10 ^ fc))).toInt = _
            rw [x64_neg (by rw [v1.1]; omega), v1.1]
          · show (-((own_A s 2 ib).toInt64 * Int64.ofNat (10 ^ fa))).toInt = _
            rw [x64_neg (by rw [v2.1]; omega), v2.1]; omega
        · rw [x64_lt, o] at c
          have c : ¬ vb * own_p fa < 0 := by rw [← v2.1]; exact c
          rw [if_neg c]
          refine own_Ok.ret ⟨⟨fun _ => rfl, fun _ => rfl⟩, .inr ⟨nz, rfl, v1.1, ?_, v1.2.2⟩⟩
          show ((own_A s 2 ib).toInt64 * Int64.ofNat (10 ^ fa)).toInt = _
          rw [v2.1]; omega
    · refine own_Ok.ret ⟨hr.1, ?_⟩
      rcases hr.2 with ⟨e1, e2⟩ | ⟨e1, e2, e3, e4, e5⟩
      · exact .inl ⟨rfl, e1, by show r.1 &&& 1 = 0; rw [e2]; decide⟩
      · exact .inr ⟨fun q => e1 q.2, by show r.1 &&& 1 = 1; rw [e2]; decide, e3, e4, e5⟩

/-! fields and statements -/
def own_R (x v : Int32) : Prop := v.toInt.natAbs < 10 ^ own_d x ∧ (own_g x = 0 → 0 ≤ v.toInt)
def own_Fd (a : List Int32) (nd : Nat) (s : St) : Prop := own_Sh s ∧ gI s 2 = Int32.ofNat nd ∧ nd ≤ 8 ∧ ∀ f, f < nd → own_A s 0 f = Int32.ofNat (own_d (own_c a (1 + f)) - own_f (own_c a (1 + f))) ∧ own_A s 1 f = Int32.ofNat (own_f (own_c a (1 + f))) ∧ own_A s 3 f = own_g (own_c a (1 + f)) ∧ own_R (own_c a (1 + f)) (own_A s 2 f)
theorem own_Rb {x v : Int32} (h : own_R x v) : v.toInt.natAbs ≤ 99999 := by
  have := own_dO x
  have : 10 ^ own_d x ≤ 100000 := Nat.pow_le_pow_right (n := 10) (by decide) this.2.2
  have := h.1
  omega
theorem own_Fd.of {a : List Int32} {nd : Nat} {s t : St} (h : own_Fd a nd s) (hS : own_Sh t) (h2 : gI t 2 = gI s 2) (hA : ∀ f k, f < 4 → own_A t f k = own_A s f k) : own_Fd a nd t := by
  obtain ⟨-, h1, hn, hf⟩ := h
  refine ⟨hS, h2.trans h1, hn, fun f hl => ?_⟩
  rw [hA 0 f (by decide), hA 1 f (by decide), hA 2 f (by decide), hA 3 f (by decide)]
  exact hf f hl
theorem own_Fd.set {a : List Int32} {nd : Nat} {s t : St} (h : own_Fd a nd s) {c : Nat} {v : Int32} (hv : own_R (own_c a (1 + c)) v) (ht : own_M s (own_u (own_A s) 2 c v) t) : own_Fd a nd t := by
  obtain ⟨hS, h1, hn, hf⟩ := h
  refine ⟨ht.1, (ht.2.1 2).trans h1, hn, fun f hl => ?_⟩
  obtain ⟨f0, f1, f3, f2⟩ := hf f hl
  rw [ht.2.2, own_u1 _ _ _ _ (by decide), own_u1 _ _ _ _ (by decide), own_u1 _ _ _ _ (by decide)]
  refine ⟨f0, f1, f3, ?_⟩
  by_cases e : f = c
  · subst e; rw [own_u0]; exact hv
  · rw [own_u2 _ _ _ _ e]; exact f2
theorem own_dg {a : List Int32} {nd : Nat} {s : St} (h : own_Fd a nd s) {c : Nat} (hc : c < nd) : f_digits (Int32.ofNat c) s = some (Int32.ofNat (own_d (own_c a (1 + c)))) := by
  obtain ⟨hS, h1, hn, hf⟩ := h
  obtain ⟨f0, f1, -, -⟩ := hf c hc
  have d1 := own_dO (own_c a (1 + c))
  have d2 := own_fO (own_c a (1 + c))
  unfold f_digits
  rw [own_rdA (f := 0) hS (ofN_int (by omega)) (show c < 8 by omega), Option.bind_some, own_rdA (f := 1) hS (ofN_int (by omega)) (show c < 8 by omega), Option.bind_some, f0, f1, ← Int32.ofNat_add, show own_d (own_c a (1 + c)) - own_f (own_c a (1 + c)) + own_f (own_c a (1 + c)) = own_d (own_c a (1 + c)) by omega]
theorem own_isFd {a : List Int32} {nd : Nat} {s : St} (h : own_Fd a nd s) {c : Nat} (hc : c < nd) : f_isField (Int32.ofNat c) s = some 1 := by
  obtain ⟨hS, h1, hn, hf⟩ := h
  unfold f_isField f_isField_23
  rw [if_neg (ofN_nn (by omega)), h1, if_pos ((own_ltN (by omega) (by omega)).mpr hc), if_pos ((own_ltl (m := 8) (by omega) (by decide)).mpr (by omega))]; rfl
theorem own_gv {a : List Int32} {nd : Nat} {s : St} (h : own_Fd a nd s) {c : Nat} (hc : c < nd) : f_getValue (Int32.ofNat c) s = some (own_A s 2 c) := by
  unfold f_getValue
  rw [own_isFd h hc, Option.bind_some, if_neg (by decide), own_rdA (f := 2) h.1 (ofN_int (by have := h.2.2.1; omega)) (show c < 8 by have := h.2.2.1; omega)]; rfl
def own_tc (a : List Int32) (nd ns q : Nat) : Nat := if 6 ≤ own_k (own_c a (10 + 5 * q)) ∧ own_k (own_c a (10 + 5 * q)) ≤ 8 then own_x (own_c a (10 + 5 * q + 3)) (ns + 1) else own_x (own_c a (10 + 5 * q + 3)) nd
abbrev own_ar (a : List Int32) (q : Nat) : Prop := 2 ≤ own_k (own_c a (10 + 5 * q)) ∧ own_k (own_c a (10 + 5 * q)) ≤ 5
def own_Sm (a : List Int32) (nd ns : Nat) (s : St) (q : Nat) : Prop := own_A s 4 q = Int32.ofNat (own_k (own_c a (10 + 5 * q))) ∧ own_A s 6 q = Int32.ofNat (own_x (own_c a (10 + 5 * q + 1)) nd) ∧ own_A s 7 q = Int32.ofNat (own_x (own_c a (10 + 5 * q + 2)) nd) ∧ own_A s 8 q = Int32.ofNat (own_tc a nd ns q) ∧ own_A s 5 q = (if own_ar a q then own_r (own_c a (10 + 5 * q)) else 0)
def own_Er (a : List Int32) (ns : Nat) (s : St) (q : Nat) : Prop := own_A s 9 q = (if own_ar a q ∧ own_t (own_c a (10 + 5 * q)) = 1 then 1 else 0) ∧ (own_A s 9 q = 1 → own_A s 10 q = Int32.ofNat (own_x (own_c a (10 + 5 * q + 4)) (ns + 1)))
/-- what an executed statement leaves -/
def own_Af (a : List Int32) (nd : Nat) (s t : St) : Prop := own_Fd a nd t ∧ (∀ j, j ≠ 6 → j ≠ 8 → gI t j = gI s j) ∧ ∀ f k, 4 ≤ f → own_A t f k = own_A s f k
theorem own_lowR {x v : Int32} {t : Int} (hv : v.toInt = if t < 0 then -((t.natAbs % 10 ^ own_d x : Nat) : Int) else ((t.natAbs % 10 ^ own_d x : Nat) : Int)) (hg : own_g x = 0 → 0 ≤ t) : own_R x v := by
  have p := (own_p10b (e := own_d x) (by have := own_dO x; omega)).1
  have m := Nat.mod_lt t.natAbs (show 0 < 10 ^ own_d x by omega)
  generalize t.natAbs % 10 ^ own_d x = y at hv m
  unfold own_R
  by_cases c : t < 0
  · rw [if_pos c] at hv
    exact ⟨by omega, fun e => by have := hg e; omega⟩
  · rw [if_neg c] at hv
    exact ⟨by omega, fun _ => by omega⟩
theorem own_er1 {a : List Int32} {nd q ic : Nat} {s : St} (h : own_Fd a nd s) (hq : q < 32) (h8 : own_A s 8 q = Int32.ofNat ic) (lc : ic < nd) (b : Int32) (t : Int64) (hb : ¬ b = 0 → t.toInt.natAbs ≤ 100000000000000000 ∧ (own_g (own_c a (1 + ic)) = 0 → 0 ≤ t.toInt)) : own_Ok (fun n => f_sizeError n (Int32.ofNat q) b t s) (fun u => own_Af a nd s u ∧ ((own_A s 9 q = 0 ∧ gI u 6 = gI s 6 + 1) ∨ (¬ own_A s 9 q = 0 ∧ gI u 6 = own_A s 10 q ∧ gI u 8 = gI s 8 + 1 ∧ own_A u = own_A s))) := by
  have hn := h.2.2.1
  have S1 : own_Sh (sI s 8 (gI s 8 + 1)) := h.1
  have F1 : own_Fd a nd (sI s 8 (gI s 8 + 1)) := h
  unfold f_sizeError f_sizeError_64
  refine own_Ok.let ?_
  refine own_Ok.rA (f := 9) S1 q (ofN_int (by omega)) hq ?_
  refine own_Ok.ite (fun c => ?_) fun c => ?_
  · refine own_Ok.ite (fun d => ?_) fun d => ?_
    · refine own_Ok.let (own_Ok.ret ⟨⟨h.of h.1 rfl fun _ _ _ => rfl, fun j h1 h2 => ?_, fun _ _ _ => rfl⟩, .inl ⟨c, rfl⟩⟩)
      rw [gI_sI, if_neg h1, gI_sI, if_neg h2]
    · obtain ⟨b1, b2⟩ := hb d
      refine own_Ok.rA (f := 8) S1 q (ofN_int (by omega)) hq ?_
      rw [show own_A (sI s 8 (gI s 8 + 1)) 8 q = Int32.ofNat ic from h8]
      refine own_Ok.eq (own_dg F1 lc) ?_
      refine own_Ok.bind (own_low (own_dO _).2.2 b1) fun v hv => ?_
      refine own_Ok.wA (f := 2) S1 ic (ofN_int (by omega)) (show ic < 8 by omega) fun u hu => ?_
      have F2 := F1.set (own_lowR hv b2) hu
      refine own_Ok.let (own_Ok.ret ⟨⟨F2.of F2.1 rfl fun _ _ _ => rfl, fun j h1 h2 => ?_, fun f k hf => ?_⟩, .inl ⟨c, ?_⟩⟩)
      · rw [gI_sI, if_neg h1, hu.2.1, gI_sI, if_neg h2]
      · show own_A u f k = _
        rw [hu.2.2, own_u1 _ _ _ _ (by omega)]; rfl
      · show gI u 6 + 1 = _
        rw [hu.2.1]; rfl
  · refine own_Ok.rA (f := 10) S1 q (ofN_int (by omega)) hq ?_
    refine own_Ok.let (own_Ok.ret ⟨⟨h.of h.1 rfl fun _ _ _ => rfl, fun j h1 h2 => ?_, fun _ _ _ => rfl⟩, .inr ⟨c, rfl, rfl, rfl⟩⟩)
    rw [gI_sI, if_neg h1, gI_sI, if_neg h2]
theorem own_Af.pre {a : List Int32} {nd : Nat} {s t u : St} (j : own_Jq s t) (h : own_Af a nd t u) : own_Af a nd s u := ⟨h.1, fun l h1 h2 => (h.2.1 l h1 h2).trans (j.1 l), fun f k hf => by rw [h.2.2 f k hf, j.A]⟩
theorem own_Fd.jq {a : List Int32} {nd : Nat} {s t : St} (h : own_Fd a nd s) (j : own_Jq s t) : own_Fd a nd t := h.of (j.sh h.1) (j.1 2) fun f k _ => by rw [j.A]
/-- an arithmetic statement -/
theorem own_exA {a : List Int32} {nd ns q : Nat} {s : St} (h : own_Fd a nd s) (h0 : 0 < nd) (hq : q < 32) (hm : own_Sm a nd ns s q) (har : own_ar a q) : own_Ok (fun n => f_execArith n (Int32.ofNat q) s) (fun u => own_Af a nd s u ∧ (gI u 6 = gI s 6 + 1 ∨ (¬ own_A s 9 q = 0 ∧ gI u 6 = own_A s 10 q)) ∧ (¬ own_A s 9 q = 0 → own_pr (own_k (own_c a (10 + 5 * q))) (own_r (own_c a (10 + 5 * q))) (own_A s 2 (own_x (own_c a (10 + 5 * q + 1)) nd)).toInt (own_A s 2 (own_x (own_c a (10 + 5 * q + 2)) nd)).toInt (own_f (own_c a (1 + own_x (own_c a (10 + 5 * q + 1)) nd))) (own_f (own_c a (1 + own_x (own_c a (10 + 5 * q + 2)) nd))) (own_f (own_c a (1 + own_x (own_c a (10 + 5 * q + 3)) nd))) (own_d (own_c a (1 + own_x (own_c a (10 + 5 * q + 3)) nd))) = 1 → own_A u = own_A s ∧ gI u 8 = gI s 8 + 1 ∧ gI u 6 = own_A s 10 q)) := by
  have hn := h.2.2.1
  obtain ⟨m4, m6, m7, m8, m5⟩ := hm
  rw [if_pos har] at m5
  have etc : own_tc a nd ns q = own_x (own_c a (10 + 5 * q + 3)) nd := by
    unfold own_tc
    rw [if_neg (by have := har.2; omega)]
  rw [etc] at m8
  have la := (own_xO (own_c a (10 + 5 * q + 1)) nd h0 (by omega)).2
  have lb := (own_xO (own_c a (10 + 5 * q + 2)) nd h0 (by omega)).2
  have lc := (own_xO (own_c a (10 + 5 * q + 3)) nd h0 (by omega)).2
  generalize own_x (own_c a (10 + 5 * q + 1)) nd = ia at m6 la ⊢
  generalize own_x (own_c a (10 + 5 * q + 2)) nd = ib at m7 lb ⊢
  generalize own_x (own_c a (10 + 5 * q + 3)) nd = ic at m8 lc ⊢
  have hk : 2 ≤ own_k (own_c a (10 + 5 * q)) ∧ own_k (own_c a (10 + 5 * q)) ≤ 5 := har
  generalize own_k (own_c a (10 + 5 * q)) = k at m4 hk ⊢
  generalize own_r (own_c a (10 + 5 * q)) = rd' at m5 ⊢
  obtain ⟨-, fa1, -, Ra⟩ := h.2.2.2 ia la
  obtain ⟨-, fb1, -, Rb⟩ := h.2.2.2 ib lb
  obtain ⟨-, fc1, sg, Rc⟩ := h.2.2.2 ic lc
  have ba := own_Rb Ra
  have bb := own_Rb Rb
  have da := own_fO (own_c a (1 + ia))
  have db := own_fO (own_c a (1 + ib))
  have dc := own_fO (own_c a (1 + ic))
  have ea := own_dO (own_c a (1 + ia))
  have eb := own_dO (own_c a (1 + ib))
  have ec := own_dO (own_c a (1 + ic))
  unfold f_execArith
  refine own_Ok.rA (f := 8) h.1 q (ofN_int (by omega)) hq ?_
  rw [m8]
  refine own_Ok.bind (own_fq h.1 hq m6 m7 m8 (by omega) (by omega) (by omega) fa1 fb1 fc1 (by omega) (by omega) (by omega) m4 hk ba bb) fun r hr => ?_
  obtain ⟨r1, u⟩ := r
  obtain ⟨J, hr⟩ := hr
  dsimp only at J hr ⊢
  have Fu := h.jq J
  have Au := J.A
  generalize hva : (own_A s 2 ia).toInt = va at hr ⊢
  generalize hvb : (own_A s 2 ib).toInt = vb at hr bb ⊢
  rcases hr with ⟨k5, v0, rfl⟩ | ⟨nz, rfl, hN, hD, hB⟩
  · refine own_Ok.ite (fun _ => ?_) fun z => absurd rfl z
    refine own_Ok.bind (own_er1 Fu hq (by rw [Au]; exact m8) lc 0 0 fun z => absurd rfl z) fun v hv => own_Ok.ret ?_
    obtain ⟨A1, hv⟩ := hv
    rw [Au, J.1 6, J.1 8] at hv
    refine ⟨A1.pre J, ?_, fun n9 _ => ?_⟩
    · rcases hv with ⟨-, e⟩ | ⟨e1, e2, -⟩
      · exact .inl e
      · exact .inr ⟨e1, e2⟩
    · rcases hv with ⟨e, -⟩ | ⟨-, e2, e3, e4⟩
      · exact absurd e n9
      · exact ⟨e4, e3, e2⟩
  · refine own_Ok.ite (fun z => absurd z (by decide)) fun _ => ?_
    have dn := own_dn0 (k := k) (vb := vb) (fa := own_f (own_c a (1 + ia))) (fb := own_f (own_c a (1 + ib))) (by omega) (by omega) bb fun e1 e2 => nz ⟨e1, e2⟩
    have pr : own_pr k rd' va vb (own_f (own_c a (1 + ia))) (own_f (own_c a (1 + ib))) (own_f (own_c a (1 + ic))) (own_d (own_c a (1 + ic))) = if 10 ^ own_d (own_c a (1 + ic)) ≤ own_T rd' (own_nm k va vb (own_f (own_c a (1 + ia))) (own_f (own_c a (1 + ib))) (own_f (own_c a (1 + ic)))).natAbs (own_dn k vb (own_f (own_c a (1 + ia))) (own_f (own_c a (1 + ib)))) then 1 else 0 := by
      unfold own_pr
      rw [if_neg nz]
    rw [pr]
    generalize own_nm k va vb (own_f (own_c a (1 + ia))) (own_f (own_c a (1 + ib))) (own_f (own_c a (1 + ic))) = z at hN hB ⊢
    generalize own_dn k vb (own_f (own_c a (1 + ia))) (own_f (own_c a (1 + ib))) = M at hD dn ⊢
    have Tb := own_Tb rd' z.natAbs M dn.1
    have go : ∀ w, own_Jq s w → ∀ z' : Int, (gJ w 0).toInt = z' → (gJ w 1).toInt = M → z'.natAbs = z.natAbs → (own_g (own_c a (1 + ic)) = 0 → 0 ≤ z') → own_Ok (fun n => f_execArith_46 n (Int32.ofNat q) (Int32.ofNat ic) w) (fun u => own_Af a nd s u ∧ (gI u 6 = gI s 6 + 1 ∨ (¬ own_A s 9 q = 0 ∧ gI u 6 = own_A s 10 q)) ∧ (¬ own_A s 9 q = 0 → (if 10 ^ own_d (own_c a (1 + ic)) ≤ own_T rd' z.natAbs M then (1 : Int32) else 0) = 1 → own_A u = own_A s ∧ gI u 8 = gI s 8 + 1 ∧ gI u 6 = own_A s 10 q)) := fun w Jw z' g0 g1 ez gs => by
      have Fw := h.jq Jw
      have Aw := Jw.A
      unfold f_execArith_46
      refine own_Ok.rA (f := 5) Fw.1 q (ofN_int (by omega)) hq ?_
      rw [Aw, m5]
      obtain ⟨t, et, ht⟩ := own_toI g0 g1 dn.1 (by omega) dn.2 rd'
      rw [ez] at ht
      have tb : t.toInt.natAbs = own_T rd' z.natAbs M := by
        rw [ht]
        split <;> omega
      have tg : own_g (own_c a (1 + ic)) = 0 → 0 ≤ t.toInt := fun e => by
        rw [ht, if_neg (by have := gs e; omega)]; exact Int.natCast_nonneg _
      refine own_Ok.eq et ?_
      refine own_Ok.eq (own_dg Fw lc) ?_
      refine own_Ok.bind (own_fit ec.2.2 (by omega)) fun c hc => ?_
      rw [tb] at hc
      by_cases big : 10 ^ own_d (own_c a (1 + ic)) ≤ own_T rd' z.natAbs M
      · rw [if_pos big] at hc ⊢
        refine own_Ok.ite (fun _ => ?_) fun e => absurd hc e
        refine own_Ok.bind (own_er1 Fw hq (by rw [Aw]; exact m8) lc 1 t fun _ => ⟨by omega, tg⟩) fun v hv => own_Ok.ret ?_
        obtain ⟨A1, hv⟩ := hv
        rw [Aw, Jw.1 6, Jw.1 8] at hv
        refine ⟨A1.pre Jw, ?_, fun n9 _ => ?_⟩
        · rcases hv with ⟨-, e⟩ | ⟨e1, e2, -⟩
          · exact .inl e
          · exact .inr ⟨e1, e2⟩
        · rcases hv with ⟨e, -⟩ | ⟨-, e2, e3, e4⟩
          · exact absurd e n9
          · exact ⟨e4, e3, e2⟩
      · rw [if_neg big] at hc ⊢
        refine own_Ok.ite (fun e => by rw [hc] at e; exact absurd e (by decide)) fun _ => ?_
        have p5 : 10 ^ own_d (own_c a (1 + ic)) ≤ 100000 := Nat.pow_le_pow_right (n := 10) (by decide) ec.2.2
        have t32 : (t.toInt32).toInt = t.toInt := by
          rw [Int64.toInt_toInt32]
          exact Int.bmod_eq_of_le (by omega) (by omega)
        refine own_Ok.wA (f := 2) Fw.1 ic (ofN_int (by omega)) (show ic < 8 by omega) fun v hv => ?_
        have F2 := Fw.set (v := t.toInt32) ⟨by rw [t32, tb]; omega, fun e => by rw [t32]; exact tg e⟩ hv
        refine own_Ok.let (own_Ok.ret ⟨⟨F2.of F2.1 rfl fun _ _ _ => rfl, fun j h1 h2 => ?_, fun f l hf => ?_⟩, .inl ?_, fun _ e => absurd e (by decide)⟩)
        · rw [gI_sI, if_neg h1, hv.2.1, Jw.1]
        · show own_A v f l = _
          rw [hv.2.2, own_u1 _ _ _ _ (by omega), Aw]
        · show gI v 6 + 1 = _
          rw [hv.2.1, Jw.1]
    refine own_Ok.rA (f := 3) Fu.1 ic (ofN_int (by omega)) (show ic < 8 by omega) ?_
    rw [Au, sg]
    refine own_Ok.ite (fun e => ?_) fun e => ?_
    · obtain ⟨y, ey, hy⟩ := own_abs (gJ u 0) u (by omega)
      refine own_Ok.eq ey ?_
      refine own_Ok.let ?_
      refine go (sJ u 0 y) (J.trans (own_Jq.j u 0 y)) _ rfl hD ?_ fun _ => ?_
      · show y.toInt.natAbs = _
        rw [hy, hN]; omega
      · show 0 ≤ y.toInt
        rw [hy]; exact Int.natCast_nonneg _
    · exact go u J z hN hD rfl fun e' => absurd e' e

theorem own_exM {a : List Int32} {nd q ia ic : Nat} {s : St} (h : own_Fd a nd s) (hq : q < 32) (h6 : own_A s 6 q = Int32.ofNat ia) (h8 : own_A s 8 q = Int32.ofNat ic) (la : ia < nd) (lc : ic < nd) : own_Ok (fun n => f_execMove n (Int32.ofNat q) s) (fun u => own_Af a nd s u ∧ gI u 6 = gI s 6 + 1) := by
  have hn := h.2.2.1
  have o : (0 : Int64).toInt = 0 := rfl
  obtain ⟨-, fa1, -, Ra⟩ := h.2.2.2 ia la
  obtain ⟨-, fc1, sg, Rc⟩ := h.2.2.2 ic lc
  have ba := own_Rb Ra
  have da := own_fO (own_c a (1 + ia))
  have dc := own_fO (own_c a (1 + ic))
  have ea := own_dO (own_c a (1 + ia))
  have ec := own_dO (own_c a (1 + ic))
  have hx : ((own_A s 2 ia).toInt64).toInt = (own_A s 2 ia).toInt := Int32.toInt_toInt64 _
  obtain ⟨p1, p2, -⟩ := own_pv (e := own_f (own_c a (1 + ic))) (by omega)
  obtain ⟨q1, q2, q3⟩ := own_pv (e := own_f (own_c a (1 + ia))) (by omega)
  obtain ⟨n1, n2⟩ := own_m64 hx p1 ba p2 (by decide)
  have n2 := Nat.le_trans n2 (show 99999 * 100000 ≤ 10000000000 by decide)
  generalize (own_A s 2 ia).toInt * own_p (own_f (own_c a (1 + ic))) = z at n1 n2
  have pm := own_p10b (e := own_f (own_c a (1 + ia))) (by omega)
  have pm5 : 10 ^ own_f (own_c a (1 + ia)) ≤ 100000 := by unfold own_p at q2; omega
  have go : ∀ w, own_Jq s w → ∀ z' : Int, (gJ w 0).toInt = z' → (gJ w 1).toInt = ((10 ^ own_f (own_c a (1 + ia)) : Nat) : Int) → z'.natAbs = z.natAbs → (own_g (own_c a (1 + ic)) = 0 → 0 ≤ z') → own_Ok (fun n => f_execMove_79 n (Int32.ofNat ic) w) (fun u => own_Af a nd s u ∧ gI u 6 = gI s 6 + 1) := fun w Jw z' g0 g1 ez gs => by
    have Fw := h.jq Jw
    have Aw := Jw.A
    unfold f_execMove_79
    obtain ⟨t, et, ht⟩ := own_toI g0 g1 (by omega) (by omega) (by omega) 0
    rw [ez] at ht
    have Tb := own_Tb 0 z.natAbs (10 ^ own_f (own_c a (1 + ia))) (by omega)
    have tb : t.toInt.natAbs = own_T 0 z.natAbs (10 ^ own_f (own_c a (1 + ia))) := by
      rw [ht]
      split <;> omega
    have tg : own_g (own_c a (1 + ic)) = 0 → 0 ≤ t.toInt := fun e => by
      rw [ht, if_neg (by have := gs e; omega)]; exact Int.natCast_nonneg _
    refine own_Ok.eq et ?_
    refine own_Ok.eq (own_dg Fw lc) ?_
    refine own_Ok.bind (own_low ec.2.2 (by omega)) fun v hv => ?_
    refine own_Ok.wA (f := 2) Fw.1 ic (ofN_int (by omega)) (show ic < 8 by omega) fun y hy => ?_
    have F2 := Fw.set (own_lowR hv tg) hy
    refine own_Ok.let (own_Ok.ret ⟨⟨F2.of F2.1 rfl fun _ _ _ => rfl, fun j h1 h2 => ?_, fun f l hf => ?_⟩, ?_⟩)
    · rw [gI_sI, if_neg h1, hy.2.1, Jw.1]
    · show own_A y f l = _
      rw [hy.2.2, own_u1 _ _ _ _ (by omega), Aw]
    · show gI y 6 + 1 = _
      rw [hy.2.1, Jw.1]
  unfold f_execMove
  refine own_Ok.rA (f := 6) h.1 q (ofN_int (by omega)) hq ?_
  refine own_Ok.rA (f := 8) h.1 q (ofN_int (by omega)) hq ?_
  rw [h6, h8]
  refine own_Ok.rA (f := 2) h.1 ia (ofN_int (by omega)) (show ia < 8 by omega) ?_
  refine own_Ok.let ?_
  refine own_Ok.rA (f := 1) h.1 ic (ofN_int (by omega)) (show ic < 8 by omega) ?_
  rw [fc1]
  refine own_Ok.bind (own_pow s _ (by omega)) fun c hc => ?_
  subst hc
  refine own_Ok.let ?_
  have J1 := own_Jq.j s 0 ((own_A s 2 ia).toInt64 * Int64.ofNat (10 ^ own_f (own_c a (1 + ic))))
  generalize e1 : sJ s 0 ((own_A s 2 ia).toInt64 * Int64.ofNat (10 ^ own_f (own_c a (1 + ic)))) = s1 at J1
  have g1 : (gJ s1 0).toInt = z := by rw [← e1]; exact n1
  refine own_Ok.rA (f := 1) (J1.sh h.1) ia (ofN_int (by omega)) (show ia < 8 by omega) ?_
  rw [J1.A, fa1]
  refine own_Ok.bind (own_pow s1 _ (by omega)) fun c hc => ?_
  subst hc
  refine own_Ok.let ?_
  have J2 := J1.trans (own_Jq.j s1 1 (Int64.ofNat (10 ^ own_f (own_c a (1 + ia)))))
  refine own_Ok.rA (f := 3) (J2.sh h.1) ic (ofN_int (by omega)) (show ic < 8 by omega) ?_
  rw [J2.A, sg]
  have jn := own_jN (10 ^ own_f (own_c a (1 + ia))) (by omega)
  refine own_Ok.ite (fun e => ?_) fun e => ?_
  · obtain ⟨y, ey, hy⟩ := own_abs (gJ s1 0) (sJ s1 1 (Int64.ofNat (10 ^ own_f (own_c a (1 + ia))))) (by omega)
    refine own_Ok.eq ey ?_
    refine own_Ok.let ?_
    refine go _ (J2.trans (own_Jq.j _ 0 y)) _ rfl jn ?_ fun _ => ?_
    · show y.toInt.natAbs = _
      rw [hy, g1]; omega
    · show 0 ≤ y.toInt
      rw [hy]; exact Int.natCast_nonneg _
  · exact go _ J2 z g1 jn rfl fun e' => absurd e' e
theorem own_exI {a : List Int32} {nd q ia ib : Nat} {s : St} (h : own_Fd a nd s) (hq : q < 32) (h6 : own_A s 6 q = Int32.ofNat ia) (h7 : own_A s 7 q = Int32.ofNat ib) (la : ia < nd) (lb : ib < nd) : own_Ok (fun n => f_execIf n (Int32.ofNat q) s) (fun u => own_Af a nd s u ∧ (gI u 6 = gI s 6 + 1 ∨ gI u 6 = own_A s 8 q)) := by
  have hn := h.2.2.1
  obtain ⟨-, fa1, -, -⟩ := h.2.2.2 ia la
  obtain ⟨-, fb1, -, -⟩ := h.2.2.2 ib lb
  have da := own_fO (own_c a (1 + ia))
  have db := own_fO (own_c a (1 + ib))
  have ea := own_dO (own_c a (1 + ia))
  have eb := own_dO (own_c a (1 + ib))
  have fin : ∀ t, own_Ok (fun n => f_execIf_102 n (Int32.ofNat q) t s) (fun u => own_Af a nd s u ∧ (gI u 6 = gI s 6 + 1 ∨ gI u 6 = own_A s 8 q)) := fun t => by
    have go : ∀ x, own_Af a nd s (sI s 6 x) := fun x => ⟨h.of h.1 rfl fun _ _ _ => rfl, fun j h1 h2 => by rw [gI_sI, if_neg h1], fun _ _ _ => rfl⟩
    unfold f_execIf_102 f_execIf_132
    refine own_Ok.ite (fun _ => ?_) fun _ => ?_
    · exact own_Ok.let (own_Ok.ret ⟨go _, .inl rfl⟩)
    · refine own_Ok.rA (f := 8) h.1 q (ofN_int (by omega)) hq ?_
      exact own_Ok.let (own_Ok.ret ⟨go _, .inr rfl⟩)
  unfold f_execIf
  refine own_Ok.rA (f := 6) h.1 q (ofN_int (by omega)) hq ?_
  refine own_Ok.rA (f := 7) h.1 q (ofN_int (by omega)) hq ?_
  rw [h6, h7]
  refine own_Ok.rA (f := 1) h.1 ib (ofN_int (by omega)) (show ib < 8 by omega) ?_
  rw [fb1]
  refine own_Ok.bind (own_pow s _ (by omega)) fun c hc => ?_
  refine own_Ok.rA (f := 1) h.1 ia (ofN_int (by omega)) (show ia < 8 by omega) ?_
  rw [fa1]
  refine own_Ok.bind (own_pow s _ (by omega)) fun c hc => ?_
  refine own_Ok.rA (f := 2) h.1 ia (ofN_int (by omega)) (show ia < 8 by omega) ?_
  refine own_Ok.let ?_
  refine own_Ok.rA (f := 2) h.1 ib (ofN_int (by omega)) (show ib < 8 by omega) ?_
  refine own_Ok.let ?_
  refine own_Ok.rA (f := 4) h.1 q (ofN_int (by omega)) hq ?_
  refine own_Ok.ite (fun _ => ?_) fun _ => ?_
  · exact own_Ok.ite (fun _ => fin 1) fun _ => fin 0
  · exact own_Ok.ite (fun _ => fin 1) fun _ => fin 0
/-! the compiled program -/
def own_Pg (a : List Int32) (nd ns : Nat) (s : St) : Prop := own_Fd a nd s ∧ 0 < nd ∧ ns ≤ 16 ∧ gI s 4 = 1 ∧ gI s 3 = Int32.ofNat ns ∧ (∀ q, q < ns → own_Sm a nd ns s q ∧ own_Er a ns s q) ∧ (∃ p, p ≤ ns ∧ gI s 6 = Int32.ofNat p) ∧ (gI s 5 = 0 ∨ gI s 5 = 1)
def own_prq (a : List Int32) (nd : Nat) (s : St) (q : Nat) : Int32 := own_pr (own_k (own_c a (10 + 5 * q))) (own_r (own_c a (10 + 5 * q))) (own_A s 2 (own_x (own_c a (10 + 5 * q + 1)) nd)).toInt (own_A s 2 (own_x (own_c a (10 + 5 * q + 2)) nd)).toInt (own_f (own_c a (1 + own_x (own_c a (10 + 5 * q + 1)) nd))) (own_f (own_c a (1 + own_x (own_c a (10 + 5 * q + 2)) nd))) (own_f (own_c a (1 + own_x (own_c a (10 + 5 * q + 3)) nd))) (own_d (own_c a (1 + own_x (own_c a (10 + 5 * q + 3)) nd)))
theorem own_arB {k : Nat} (s : St) (hk : k ≤ 9) : f_isArith (Int32.ofNat k) s = some (if 2 ≤ k ∧ k ≤ 5 then 1 else 0) := by
  rcases (by omega : k = 0 ∨ k = 1 ∨ k = 2 ∨ k = 3 ∨ k = 4 ∨ k = 5 ∨ k = 6 ∨ k = 7 ∨ k = 8 ∨ k = 9) with rfl | rfl | rfl | rfl | rfl | rfl | rfl | rfl | rfl | rfl <;> rfl
/-- the statement at the counter -/
theorem own_exq {a : List Int32} {nd ns q : Nat} {s : St} (h : own_Pg a nd ns s) (hq : q < ns) (h6 : gI s 6 = Int32.ofNat q) : own_Ok (fun n => f_execute n (Int32.ofNat q) s) (fun u => own_Pg a nd ns u ∧ (own_ar a q → own_t (own_c a (10 + 5 * q)) = 1 → own_prq a nd s q = 1 → own_A u = own_A s ∧ gI u 8 = gI s 8 + 1 ∧ gI u 6 = Int32.ofNat (own_x (own_c a (10 + 5 * q + 4)) (ns + 1)))) := by
  obtain ⟨hF, h0, hns, h4, h3, hP, -, h5⟩ := h
  have hn := hF.2.2.1
  obtain ⟨hm, he⟩ := hP q hq
  obtain ⟨m4, m6, m7, m8, m5⟩ := id hm
  have kb := own_kO (own_c a (10 + 5 * q))
  have la := (own_xO (own_c a (10 + 5 * q + 1)) nd h0 (by omega)).2
  have lb := (own_xO (own_c a (10 + 5 * q + 2)) nd h0 (by omega)).2
  have lc := (own_xO (own_c a (10 + 5 * q + 3)) nd h0 (by omega)).2
  have lt3 := (own_xO (own_c a (10 + 5 * q + 3)) (ns + 1) (by omega) (by omega)).2
  have lt4 := (own_xO (own_c a (10 + 5 * q + 4)) (ns + 1) (by omega) (by omega)).2
  have mk : ∀ u, own_Af a nd s u → (∃ p, p ≤ ns ∧ gI u 6 = Int32.ofNat p) → own_Pg a nd ns u := fun u hu hp => by
    refine ⟨hu.1, h0, hns, (hu.2.1 4 (by decide) (by decide)).trans h4, (hu.2.1 3 (by decide) (by decide)).trans h3, fun l hl => ?_, hp, ?_⟩
    · obtain ⟨p1, p2⟩ := hP l hl
      unfold own_Sm at p1 ⊢
      unfold own_Er at p2 ⊢
      rw [hu.2.2 4 l (by decide), hu.2.2 5 l (by decide), hu.2.2 6 l (by decide), hu.2.2 7 l (by decide), hu.2.2 8 l (by decide), hu.2.2 9 l (by decide), hu.2.2 10 l (by decide)]
      exact ⟨p1, p2⟩
    · rw [hu.2.1 5 (by decide) (by decide)]; exact h5
  have nx : ∀ u, gI u 6 = gI s 6 + 1 → ∃ p, p ≤ ns ∧ gI u 6 = Int32.ofNat p := fun u e => ⟨q + 1, by omega, by rw [e, h6, ofN_succ]⟩
  unfold f_execute f_execute_59 f_execute_91
  refine own_Ok.ite (fun z => absurd z (ofN_nn (by omega))) fun _ => ?_
  refine own_Ok.ite (fun _ => ?_) fun z => absurd ((own_ltl (m := 32) (by omega) (by decide)).mpr (by omega)) z
  refine own_Ok.rA (f := 4) hF.1 q (ofN_int (by omega)) (show q < 32 by omega) ?_
  rw [m4]
  refine own_Ok.ite (fun z => ?_) fun z => ?_
  · have z := (own_eql (m := 1) (by omega) (by decide)).mp z
    have etc : own_tc a nd ns q = own_x (own_c a (10 + 5 * q + 3)) nd := by
      unfold own_tc
      rw [if_neg (by omega)]
    rw [etc] at m8
    refine own_Ok.bind (own_exM hF (by omega) m6 m8 la lc) fun u hu => own_Ok.ret ⟨mk u hu.1 (nx u hu.2), fun e => absurd e (by unfold own_ar; omega)⟩
  refine own_Ok.eq (own_arB s kb.2.2) ?_
  by_cases har : own_ar a q
  · rw [if_pos (show 2 ≤ own_k (own_c a (10 + 5 * q)) ∧ own_k (own_c a (10 + 5 * q)) ≤ 5 from har)]
    refine own_Ok.ite (fun z => absurd z (by decide)) fun _ => ?_
    refine own_Ok.bind (own_exA hF h0 (by omega) hm har) fun u hu => own_Ok.ret ?_
    obtain ⟨u1, u2, u3⟩ := hu
    refine ⟨mk u u1 ?_, fun _ ht hp => ?_⟩
    · rcases u2 with e | ⟨e1, e2⟩
      · exact nx u e
      · have e9 : own_A s 9 q = 1 := by
          have := he.1
          by_cases c : own_ar a q ∧ own_t (own_c a (10 + 5 * q)) = 1
          · rw [if_pos c] at this; exact this
          · rw [if_neg c] at this; exact absurd this e1
        exact ⟨_, by omega, e2.trans (he.2 e9)⟩
    · have e9 : own_A s 9 q = 1 := by
        have := he.1
        rw [if_pos ⟨har, ht⟩] at this; exact this
      obtain ⟨x1, x2, x3⟩ := u3 (by rw [e9]; decide) hp
      exact ⟨x1, x2, x3.trans (he.2 e9)⟩
  · rw [if_neg (show ¬ (2 ≤ own_k (own_c a (10 + 5 * q)) ∧ own_k (own_c a (10 + 5 * q)) ≤ 5) from har)]
    refine own_Ok.ite (fun _ => ?_) fun z => absurd rfl z
    have vac : ∀ u : St, own_ar a q → own_t (own_c a (10 + 5 * q)) = 1 → own_prq a nd s q = 1 → own_A u = own_A s ∧ gI u 8 = gI s 8 + 1 ∧ gI u 6 = Int32.ofNat (own_x (own_c a (10 + 5 * q + 4)) (ns + 1)) := fun u e => absurd e har
    have fi : own_k (own_c a (10 + 5 * q)) = 6 ∨ own_k (own_c a (10 + 5 * q)) = 7 → own_Ok (fun n => (f_execIf n (Int32.ofNat q) s).bind fun c1 => some c1) (fun u => own_Pg a nd ns u ∧ (own_ar a q → own_t (own_c a (10 + 5 * q)) = 1 → own_prq a nd s q = 1 → own_A u = own_A s ∧ gI u 8 = gI s 8 + 1 ∧ gI u 6 = Int32.ofNat (own_x (own_c a (10 + 5 * q + 4)) (ns + 1)))) := fun hk => by
      have etc : own_tc a nd ns q = own_x (own_c a (10 + 5 * q + 3)) (ns + 1) := by
        unfold own_tc
        rw [if_pos (by omega)]
      rw [etc] at m8
      refine own_Ok.bind (own_exI hF (by omega) m6 m7 la lb) fun u hu => own_Ok.ret ⟨mk u hu.1 ?_, vac u⟩
      rcases hu.2 with e | e
      · exact nx u e
      · exact ⟨_, by omega, e.trans m8⟩
    refine own_Ok.ite (fun z => fi (.inl ((own_eql (m := 6) (by omega) (by decide)).mp z))) fun z6 => ?_
    refine own_Ok.ite (fun z => fi (.inr ((own_eql (m := 7) (by omega) (by decide)).mp z))) fun z7 => ?_
    refine own_Ok.ite (fun z => ?_) fun z => ?_
    · have z := (own_eql (m := 8) (by omega) (by decide)).mp z
      have etc : own_tc a nd ns q = own_x (own_c a (10 + 5 * q + 3)) (ns + 1) := by
        unfold own_tc
        rw [if_pos (by omega)]
      rw [etc] at m8
      refine own_Ok.rA (f := 8) hF.1 q (ofN_int (by omega)) (show q < 32 by omega) ?_
      refine own_Ok.let (own_Ok.ret ⟨mk _ ⟨hF.of hF.1 rfl fun _ _ _ => rfl, fun j h1 h2 => by rw [gI_sI, if_neg h1], fun _ _ _ => rfl⟩ ⟨_, by omega, m8⟩, vac _⟩)
    · refine own_Ok.let (own_Ok.ret ⟨⟨hF.of hF.1 rfl fun _ _ _ => rfl, h0, hns, h4, h3, hP, ⟨q, by omega, h6⟩, .inr rfl⟩, vac _⟩)
/-- one step of a program that isn't halted -/
theorem own_run1 {a : List Int32} {nd ns : Nat} {s : St} (h : own_Pg a nd ns s) (h5 : gI s 5 = 0) : own_Ok (fun n => f_run n 1 s) (fun r => own_Pg a nd ns r.2 ∧ ∀ q, q < ns → gI s 6 = Int32.ofNat q → own_ar a q → own_t (own_c a (10 + 5 * q)) = 1 → own_prq a nd s q = 1 → own_A r.2 = own_A s ∧ gI r.2 8 = gI s 8 + 1 ∧ gI r.2 6 = Int32.ofNat (own_x (own_c a (10 + 5 * q + 4)) (ns + 1))) := by
  have hns := h.2.2.1
  have h4 := h.2.2.2.1
  have h3 := h.2.2.2.2.1
  obtain ⟨p, hp, h6⟩ := h.2.2.2.2.2.2.1
  have i5 : ∀ u x, own_Pg a nd ns u → (x = 0 ∨ x = 1) → own_Pg a nd ns (sI u 5 x) := fun u x hu hx => ⟨hu.1.of hu.1.1 rfl fun _ _ _ => rfl, hu.2.1, hu.2.2.1, hu.2.2.2.1, hu.2.2.2.2.1, hu.2.2.2.2.2.1, hu.2.2.2.2.2.2.1, hx⟩
  have e79 : ∀ (R : Int32 × St → Prop) u, own_Pg a nd ns u → (∀ r, (r.2 = u ∨ r.2 = sI u 5 1) → R r) → own_Ok (fun n => f_run_79 n u) R := fun R u hu hR => by
    unfold f_run_79 f_run_102 f_run_114
    refine own_Ok.ite (fun _ => ?_) fun _ => ?_
    · refine own_Ok.ite (fun _ => ?_) fun _ => ?_
      · refine own_Ok.let ?_
        exact own_Ok.ite (fun _ => own_Ok.ret (hR _ (.inr rfl))) fun _ => own_Ok.ret (hR _ (.inr rfl))
      · exact own_Ok.ite (fun _ => own_Ok.ret (hR _ (.inl rfl))) fun _ => own_Ok.ret (hR _ (.inl rfl))
    · exact own_Ok.ite (fun _ => own_Ok.ret (hR _ (.inl rfl))) fun _ => own_Ok.ret (hR _ (.inl rfl))
  unfold f_run f_clamp
  refine own_Ok.ite (fun z => by rw [h4] at z; exact absurd z (by decide)) fun _ => ?_
  rw [if_neg (by decide), if_neg (by decide)]
  refine own_Ok.some_bind ?_
  refine own_Ok.step (g := fun n => g_run_21 (f_run_21 n) n 1 0 s) (fun n => rfl) ?_
  unfold g_run_21
  refine own_Ok.ite (fun _ => ?_) fun z => absurd (by decide) z
  refine own_Ok.ite (fun _ => ?_) fun z => absurd h5 z
  rw [h6, h3]
  refine own_Ok.ite (fun z => ?_) fun z => ?_
  · have z := (ofN_eq (by omega) (by omega)).mp z
    refine own_Ok.let (e79 _ _ (i5 s 1 h (.inr rfl)) fun r hr => ?_)
    refine ⟨?_, fun q hq e => ?_⟩
    · rcases hr with e | e
      · rw [e]; exact i5 s 1 h (.inr rfl)
      · rw [e]; exact i5 _ 1 (i5 s 1 h (.inr rfl)) (.inr rfl)
    · have := (ofN_eq (by omega) (by omega)).mp e
      omega
  · have z : ¬ p = ns := fun e => z (by rw [e])
    refine own_Ok.bind (own_exq h (q := p) (by omega) h6) fun u hu => ?_
    refine own_Ok.let (own_Ok.let ?_)
    refine own_Ok.step (g := fun n => g_run_21 (f_run_21 n) n 1 (0 + 1) (sI u 7 (gI u 7 + 1))) (fun n => rfl) ?_
    unfold g_run_21
    refine own_Ok.ite (fun z => absurd z (by decide)) fun _ => ?_
    have U7 : own_Pg a nd ns (sI u 7 (gI u 7 + 1)) := ⟨hu.1.1.of hu.1.1.1 rfl fun _ _ _ => rfl, hu.1.2.1, hu.1.2.2.1, hu.1.2.2.2.1, hu.1.2.2.2.2.1, hu.1.2.2.2.2.2.1, hu.1.2.2.2.2.2.2.1, hu.1.2.2.2.2.2.2.2⟩
    refine e79 _ _ U7 fun r hr => ?_
    refine ⟨?_, fun q hq e har ht hpr => ?_⟩
    · rcases hr with e | e
      · rw [e]; exact U7
      · rw [e]; exact i5 _ 1 U7 (.inr rfl)
    · obtain rfl : p = q := (ofN_eq (by omega) (by omega)).mp e
      obtain ⟨x1, x2, x3⟩ := hu.2 har ht hpr
      rcases hr with e | e
      · rw [e]; exact ⟨x1, x2, x3⟩
      · rw [e]; exact ⟨x1, x2, x3⟩

/-! the program's building -/
theorem own_decl {a : List Int32} {q : Nat} {s : St} (h : own_Fd a q s) (hq : q < 8) (h4 : gI s 4 = 0) (h0 : gI s 0 = 8) : own_Ok (fun _ => f_declareField (Int32.ofNat (own_d (own_c a (1 + q))) - Int32.ofNat (own_f (own_c a (1 + q)))) (Int32.ofNat (own_f (own_c a (1 + q)))) (own_g (own_c a (1 + q))) s) (fun r => r.1 = Int32.ofNat q ∧ own_Fd a (q + 1) r.2 ∧ (∀ j, j ≠ 2 → gI r.2 j = gI s j) ∧ ∀ f k, 4 ≤ f → own_A r.2 f k = own_A s f k) := by
  obtain ⟨hS, h2, hn, hf⟩ := h
  have d1 := own_dO (own_c a (1 + q))
  have d2 := own_fO (own_c a (1 + q))
  have d3 := (own_gO (own_c a (1 + q))).2
  have gg : own_g (own_c a (1 + q)) &&& 1 = own_g (own_c a (1 + q)) := by
    rcases d3 with e | e <;> rw [e] <;> decide
  rw [own_isb _ _ (by omega) d2.2]
  unfold f_declareField
  refine own_Ok.ite (fun _ => ?_) fun z => absurd h4 z
  rw [h2, h0]
  refine own_Ok.ite (fun z => by have := (own_eql (m := 8) (by omega) (by decide)).mp z; omega) fun _ => ?_
  refine own_Ok.ite (fun z => absurd z (ofN_nn (by omega))) fun _ => ?_
  refine own_Ok.ite (fun z => by have := (own_gtl (m := 5) (by omega) (by decide)).mp z; omega) fun _ => ?_
  refine own_Ok.ite (fun z => absurd z (ofN_nn (by omega))) fun _ => ?_
  refine own_Ok.ite (fun z => by have := (own_gtl (m := 5) (by omega) (by decide)).mp z; omega) fun _ => ?_
  refine own_Ok.let ?_
  rw [← Int32.ofNat_add]
  refine own_Ok.ite (fun z => by have := (own_ltl (m := 1) (by omega) (by decide)).mp z; omega) fun _ => ?_
  refine own_Ok.ite (fun z => by have := (own_gtl (m := 5) (by omega) (by decide)).mp z; omega) fun _ => ?_
  refine own_Ok.ite (fun z => absurd z (ofN_nn (by omega))) fun _ => ?_
  refine own_Ok.ite (fun _ => ?_) fun z => absurd ((own_ltl (m := 8) (by omega) (by decide)).mpr hq) z
  refine own_Ok.let ?_
  refine own_Ok.wA (f := 0) hS q (ofN_int (by omega)) hq fun s1 k1 => ?_
  refine own_Ok.wA (f := 1) k1.1 q (ofN_int (by omega)) hq fun s2 k2 => ?_
  refine own_Ok.wA (f := 3) k2.1 q (ofN_int (by omega)) hq fun s3 k3 => ?_
  refine own_Ok.wA (f := 2) k3.1 q (ofN_int (by omega)) hq fun s4 k4 => ?_
  refine own_Ok.let (own_Ok.ret ⟨rfl, ⟨k4.1, ?_, by omega, fun f hl => ?_⟩, fun j hj => ?_, fun f k hf4 => ?_⟩)
  · show Int32.ofNat q + 1 = _
    rw [ofN_succ]
  · have A4 : ∀ g k, own_A (sI s4 2 (Int32.ofNat q + 1)) g k = own_u (own_u (own_u (own_u (own_A s) 0 q (Int32.ofNat (own_d (own_c a (1 + q)) - own_f (own_c a (1 + q))))) 1 q (Int32.ofNat (own_f (own_c a (1 + q))))) 3 q (own_g (own_c a (1 + q)) &&& 1)) 2 q 0 g k := fun g k => by
      show own_A s4 g k = _
      rw [k4.2.2, k3.2.2, k2.2.2, k1.2.2]
    rw [A4, A4, A4, A4]
    by_cases e : f = q
    · subst e
      rw [own_u1 _ _ _ _ (by decide), own_u1 _ _ _ _ (by decide), own_u1 _ _ _ _ (by decide), own_u0, own_u1 _ _ _ _ (by decide), own_u1 _ _ _ _ (by decide), own_u0, own_u1 _ _ _ _ (by decide), own_u0, own_u0, gg]
      exact ⟨rfl, rfl, rfl, by show (0 : Nat) < _; exact Nat.lt_of_lt_of_le (by decide) (own_p10b (e := own_d (own_c a (1 + f))) (by omega)).1, fun _ => by decide⟩
    · rw [own_u2 _ _ _ _ e, own_u2 _ _ _ _ e, own_u2 _ _ _ _ e, own_u2 _ _ _ _ e, own_u2 _ _ _ _ e, own_u2 _ _ _ _ e, own_u2 _ _ _ _ e, own_u2 _ _ _ _ e, own_u2 _ _ _ _ e, own_u2 _ _ _ _ e, own_u2 _ _ _ _ e, own_u2 _ _ _ _ e, own_u2 _ _ _ _ e, own_u2 _ _ _ _ e, own_u2 _ _ _ _ e, own_u2 _ _ _ _ e]
      exact hf f (by omega)
  · rw [gI_sI, if_neg hj, k4.2.1, k3.2.1, k2.2.1, k1.2.1]
  · show own_A s4 f k = _
    rw [k4.2.2, own_u1 _ _ _ _ (by omega), k3.2.2, own_u1 _ _ _ _ (by omega), k2.2.2, own_u1 _ _ _ _ (by omega), k1.2.2, own_u1 _ _ _ _ (by omega)]
theorem own_setv {a : List Int32} {nd j : Nat} {s : St} (h : own_Fd a nd s) (hj : j < nd) (v : Int32) : own_Ok (fun n => f_setValue n (Int32.ofNat j) v s) (fun r => own_Fd a nd r.2 ∧ (∀ i, gI r.2 i = gI s i) ∧ ∀ f k, 4 ≤ f → own_A r.2 f k = own_A s f k) := by
  have hn := h.2.2.1
  have o : (0 : Int64).toInt = 0 := rfl
  have o' : (0 : Int32).toInt = 0 := rfl
  have o1 : (1 : Int64).toInt = 1 := rfl
  have d1 := own_dO (own_c a (1 + j))
  obtain ⟨-, -, sg, -⟩ := h.2.2.2 j hj
  have keep : own_Fd a nd s ∧ (∀ i, gI s i = gI s i) ∧ ∀ f k, 4 ≤ f → own_A s f k = own_A s f k := ⟨h, fun _ => rfl, fun _ _ _ => rfl⟩
  have p := own_p10b (e := own_d (own_c a (1 + j))) (by omega)
  have e : (Int64.ofNat (10 ^ own_d (own_c a (1 + j))) - 1).toInt = ((10 ^ own_d (own_c a (1 + j)) : Nat) : Int) - 1 := by rw [x64_sub (by rw [own_jN _ (by omega), o1]; omega) (by rw [own_jN _ (by omega), o1]; omega), own_jN _ (by omega), o1]
  have go : ∀ t : Int64, t.toInt = v.toInt.natAbs → own_Ok (fun n => f_setValue_25 n (Int32.ofNat j) v t s) (fun r => own_Fd a nd r.2 ∧ (∀ i, gI r.2 i = gI s i) ∧ ∀ f k, 4 ≤ f → own_A r.2 f k = own_A s f k) := fun t ht => by
    unfold f_setValue_25 f_setValue_65
    refine own_Ok.eq (own_dg h hj) ?_
    refine own_Ok.bind (own_pow s _ (by omega)) fun c hc => ?_
    subst hc
    refine own_Ok.let ?_
    refine own_Ok.ite (fun _ => own_Ok.ret keep) fun z => ?_
    rw [x64_lt, e, ht] at z
    refine own_Ok.rA (f := 3) h.1 j (ofN_int (by omega)) (show j < 8 by omega) ?_
    rw [sg]
    have wr : (own_g (own_c a (1 + j)) = 0 → 0 ≤ v.toInt) → own_Ok (fun n => (wrA s 2 (Int32.ofNat j) v).bind fun s1 => some ((1 : Int32), s1)) (fun r => own_Fd a nd r.2 ∧ (∀ i, gI r.2 i = gI s i) ∧ ∀ f k, 4 ≤ f → own_A r.2 f k = own_A s f k) := fun hv => by
      refine own_Ok.wA (f := 2) h.1 j (ofN_int (by omega)) (show j < 8 by omega) fun u hu => own_Ok.ret ⟨h.set ⟨by omega, hv⟩ hu, hu.2.1, fun f k hf => ?_⟩
      rw [hu.2.2, own_u1 _ _ _ _ (by omega)]
    refine own_Ok.ite (fun y => ?_) fun y => wr fun y' => absurd y' y
    refine own_Ok.ite (fun _ => own_Ok.ret keep) fun x => wr fun _ => ?_
    rw [x32_lt, o'] at x; omega
  have tj := Int32.toInt_toInt64 v
  have vb := Int32.le_toInt v
  unfold f_setValue
  refine own_Ok.eq (own_isFd h hj) ?_
  refine own_Ok.ite (fun z => absurd z (by decide)) fun _ => ?_
  refine own_Ok.let ?_
  refine own_Ok.ite (fun c => go _ ?_) fun c => go _ ?_
  · rw [x64_lt, tj, o] at c
    rw [x64_neg (by rw [tj]; omega), tj]; omega
  · rw [x64_lt, tj, o] at c
    rw [tj]; omega
theorem own_vk (k : Nat) (hk : k ≤ 9) (h : 1 ≤ k) (s : St) : f_validKind (Int32.ofNat k) s = some 1 ∧ Int32.ofNat k &&& 15 = Int32.ofNat k ∧ Int32.ofNat k < 16 ∧ (2 ≤ k → k ≤ 5 → f_validKind (Int32.ofNat k + 16) s = some 1 ∧ (Int32.ofNat k + 16) &&& 15 = Int32.ofNat k ∧ ¬ Int32.ofNat k + 16 < 16) := by
  rcases (by omega : k = 0 ∨ k = 1 ∨ k = 2 ∨ k = 3 ∨ k = 4 ∨ k = 5 ∨ k = 6 ∨ k = 7 ∨ k = 8 ∨ k = 9) with rfl | rfl | rfl | rfl | rfl | rfl | rfl | rfl | rfl | rfl
  · exact absurd h (by decide)
  · exact ⟨rfl, by decide, by decide, fun z => absurd z (by decide)⟩
  · exact ⟨rfl, by decide, by decide, fun _ _ => ⟨rfl, by decide, by decide⟩⟩
  · exact ⟨rfl, by decide, by decide, fun _ _ => ⟨rfl, by decide, by decide⟩⟩
  · exact ⟨rfl, by decide, by decide, fun _ _ => ⟨rfl, by decide, by decide⟩⟩
  · exact ⟨rfl, by decide, by decide, fun _ _ => ⟨rfl, by decide, by decide⟩⟩
  · exact ⟨rfl, by decide, by decide, fun _ z => absurd z (by decide)⟩
  · exact ⟨rfl, by decide, by decide, fun _ z => absurd z (by decide)⟩
  · exact ⟨rfl, by decide, by decide, fun _ z => absurd z (by decide)⟩
  · exact ⟨rfl, by decide, by decide, fun _ z => absurd z (by decide)⟩
theorem own_opk {a : List Int32} {nd k ia ib : Nat} {s : St} (h : own_Fd a nd s) (hk : 1 ≤ k ∧ k ≤ 9) (la : ia < nd) (lb : ib < nd) : f_operandsOk (Int32.ofNat k) (Int32.ofNat ia) (Int32.ofNat ib) s = some 1 := by
  unfold f_operandsOk f_operandsOk_31 f_operandsOk_52
  rw [own_isFd h la, own_isFd h lb, own_arB s hk.2]
  rcases (by omega : k = 1 ∨ k = 2 ∨ k = 3 ∨ k = 4 ∨ k = 5 ∨ k = 6 ∨ k = 7 ∨ k = 8 ∨ k = 9) with rfl | rfl | rfl | rfl | rfl | rfl | rfl | rfl | rfl <;> rfl
theorem own_stmt {a : List Int32} {nd k ia ib ic q : Nat} {s : St} (h : own_Fd a nd s) (hk : 1 ≤ k ∧ k ≤ 9) (la : ia < nd) (lb : ib < nd) (lc : k ≤ 5 → ic < nd) (h4 : gI s 4 = 0) (h1 : gI s 1 = 32) (h3 : gI s 3 = Int32.ofNat q) (hq : q < 32) (kd rr : Int32) (hkd : (kd = Int32.ofNat k ∧ rr = 0) ∨ (kd = Int32.ofNat k + 16 ∧ rr = 1 ∧ 2 ≤ k ∧ k ≤ 5)) : own_Ok (fun _ => f_statement kd (Int32.ofNat ia) (Int32.ofNat ib) (Int32.ofNat ic) s) (fun r => r.1 = Int32.ofNat q ∧ own_Sh r.2 ∧ gI r.2 3 = Int32.ofNat (q + 1) ∧ (∀ j, j ≠ 3 → gI r.2 j = gI s j) ∧ own_A r.2 = own_u (own_u (own_u (own_u (own_u (own_u (own_u (own_A s) 4 q (Int32.ofNat k)) 5 q rr) 6 q (Int32.ofNat ia)) 7 q (Int32.ofNat ib)) 8 q (Int32.ofNat ic)) 9 q 0) 10 q 0) := by
  obtain ⟨w1, w2, w3, w4⟩ := own_vk k hk.2 hk.1 s
  have v1 : f_validKind kd s = some 1 := by
    rcases hkd with ⟨rfl, -⟩ | ⟨rfl, -, h2, h5⟩
    · exact w1
    · exact (w4 h2 h5).1
  have v2 : kd &&& 15 = Int32.ofNat k := by
    rcases hkd with ⟨rfl, -⟩ | ⟨rfl, -, h2, h5⟩
    · exact w2
    · exact (w4 h2 h5).2.1
  have f89 : own_Ok (fun _ => f_statement_89 kd (Int32.ofNat ia) (Int32.ofNat ib) (Int32.ofNat ic) (Int32.ofNat k) s) (fun r => r.1 = Int32.ofNat q ∧ own_Sh r.2 ∧ gI r.2 3 = Int32.ofNat (q + 1) ∧ (∀ j, j ≠ 3 → gI r.2 j = gI s j) ∧ own_A r.2 = own_u (own_u (own_u (own_u (own_u (own_u (own_u (own_A s) 4 q (Int32.ofNat k)) 5 q rr) 6 q (Int32.ofNat ia)) 7 q (Int32.ofNat ib)) 8 q (Int32.ofNat ic)) 9 q 0) 10 q 0) := by
    unfold f_statement_89
    rw [h3]
    refine own_Ok.ite (fun z => absurd z (ofN_nn (by omega))) fun _ => ?_
    refine own_Ok.ite (fun _ => ?_) fun z => absurd ((own_ltl (m := 32) (by omega) (by decide)).mpr hq) z
    refine own_Ok.let ?_
    refine own_Ok.wA (f := 4) h.1 q (ofN_int (by omega)) hq fun s1 k1 => ?_
    have go : ∀ t0 : Int32, t0 &&& 1 = rr → own_Ok (fun _ => f_statement_139 (Int32.ofNat ia) (Int32.ofNat ib) (Int32.ofNat ic) (Int32.ofNat q) t0 (Int32.ofNat q) s1) (fun r => r.1 = Int32.ofNat q ∧ own_Sh r.2 ∧ gI r.2 3 = Int32.ofNat (q + 1) ∧ (∀ j, j ≠ 3 → gI r.2 j = gI s j) ∧ own_A r.2 = own_u (own_u (own_u (own_u (own_u (own_u (own_u (own_A s) 4 q (Int32.ofNat k)) 5 q rr) 6 q (Int32.ofNat ia)) 7 q (Int32.ofNat ib)) 8 q (Int32.ofNat ic)) 9 q 0) 10 q 0) := fun t0 e0 => by
      unfold f_statement_139
      rw [e0]
      refine own_Ok.wA (f := 5) k1.1 q (ofN_int (by omega)) hq fun s2 k2 => ?_
      refine own_Ok.wA (f := 6) k2.1 q (ofN_int (by omega)) hq fun s3 k3 => ?_
      refine own_Ok.wA (f := 7) k3.1 q (ofN_int (by omega)) hq fun s4 k4 => ?_
      refine own_Ok.wA (f := 8) k4.1 q (ofN_int (by omega)) hq fun s5 k5 => ?_
      refine own_Ok.wA (f := 9) k5.1 q (ofN_int (by omega)) hq fun s6 k6 => ?_
      refine own_Ok.wA (f := 10) k6.1 q (ofN_int (by omega)) hq fun s7 k7 => ?_
      refine own_Ok.let (own_Ok.ret ⟨rfl, k7.1, ?_, fun j hj => ?_, ?_⟩)
      · show Int32.ofNat q + 1 = _
        rw [ofN_succ]
      · rw [gI_sI, if_neg hj, k7.2.1, k6.2.1, k5.2.1, k4.2.1, k3.2.1, k2.2.1, k1.2.1]
      · show own_A s7 = _
        rw [k7.2.2, k6.2.2, k5.2.2, k4.2.2, k3.2.2, k2.2.2, k1.2.2]
    rcases hkd with ⟨rfl, rfl⟩ | ⟨rfl, rfl, h2, h5⟩
    · exact own_Ok.ite (fun _ => go 0 (by decide)) fun z => absurd w3 z
    · exact own_Ok.ite (fun z => absurd z (w4 h2 h5).2.2) fun _ => go 1 (by decide)
  have f66 : own_Ok (fun _ => f_statement_66 kd (Int32.ofNat ia) (Int32.ofNat ib) (Int32.ofNat ic) (Int32.ofNat k) s) (fun r => r.1 = Int32.ofNat q ∧ own_Sh r.2 ∧ gI r.2 3 = Int32.ofNat (q + 1) ∧ (∀ j, j ≠ 3 → gI r.2 j = gI s j) ∧ own_A r.2 = own_u (own_u (own_u (own_u (own_u (own_u (own_u (own_A s) 4 q (Int32.ofNat k)) 5 q rr) 6 q (Int32.ofNat ia)) 7 q (Int32.ofNat ib)) 8 q (Int32.ofNat ic)) 9 q 0) 10 q 0) := by
    unfold f_statement_66
    refine own_Ok.ite (fun _ => f89) fun _ => ?_
    refine own_Ok.ite (fun _ => f89) fun z => ?_
    have z := mt (own_gtl (i := k) (m := 5) (by omega) (by decide)).mpr z
    refine own_Ok.eq (own_isFd h (lc (by omega))) ?_
    exact own_Ok.ite (fun z => absurd z (by decide)) fun _ => f89
  unfold f_statement
  refine own_Ok.ite (fun _ => ?_) fun z => absurd h4 z
  rw [h3, h1]
  refine own_Ok.ite (fun z => by have := (own_eql (m := 32) (by omega) (by decide)).mp z; omega) fun _ => ?_
  refine own_Ok.eq v1 ?_
  refine own_Ok.ite (fun z => absurd z (by decide)) fun _ => ?_
  refine own_Ok.let ?_
  rw [v2]
  refine own_Ok.eq (own_opk h hk la lb) ?_
  refine own_Ok.ite (fun z => absurd z (by decide)) fun _ => ?_
  refine own_Ok.ite (fun z => ?_) fun _ => f66
  have z := (own_eql (m := 1) (by omega) (by decide)).mp z
  refine own_Ok.eq (own_isFd h (lc (by omega))) ?_
  exact own_Ok.ite (fun z => absurd z (by decide)) fun _ => f66
theorem own_onE {k q : Nat} {s : St} (hS : own_Sh s) (hk : 2 ≤ k ∧ k ≤ 5) (h4 : gI s 4 = 0) (h3 : gI s 3 = Int32.ofNat (q + 1)) (hq : q < 32) (hA : own_A s 4 q = Int32.ofNat k) (t : Int32) : own_Ok (fun _ => f_onSizeError t s) (fun r => r.1 = 1 ∧ own_M s (own_u (own_u (own_A s) 9 q 1) 10 q t) r.2) := by
  unfold f_onSizeError
  refine own_Ok.ite (fun _ => ?_) fun z => absurd h4 z
  rw [h3]
  refine own_Ok.ite (fun _ => ?_) fun z => absurd ((own_gtl (m := 0) (by omega) (by decide)).mpr (by omega)) z
  refine own_Ok.ite (fun z => by have := (own_gtl (m := 32) (by omega) (by decide)).mp z; omega) fun _ => ?_
  refine own_Ok.let ?_
  rw [show Int32.ofNat (q + 1) - 1 = Int32.ofNat (q + 1 - 1) from own_isb (q + 1) 1 (by omega) (by omega), Nat.add_sub_cancel]
  refine own_Ok.rA (f := 4) hS q (ofN_int (by omega)) hq ?_
  rw [hA]
  refine own_Ok.eq (own_arB s (by omega)) ?_
  rw [if_pos hk]
  refine own_Ok.ite (fun z => absurd z (by decide)) fun _ => ?_
  refine own_Ok.wA (f := 9) hS q (ofN_int (by omega)) hq fun s1 k1 => ?_
  refine own_Ok.wA (f := 10) k1.1 q (ofN_int (by omega)) hq fun s2 k2 => ?_
  refine own_Ok.ret ⟨rfl, k2.1, fun j => (k2.2.1 j).trans (k1.2.1 j), ?_⟩
  show own_A s2 = _
  rw [k2.2.2, k1.2.2]
theorem own_comp {a : List Int32} {nd ns : Nat} {s : St} (hF : own_Fd a nd s) (h0 : 0 < nd) (hns : ns ≤ 16) (h4 : gI s 4 = 0) (h3 : gI s 3 = Int32.ofNat ns) (hP : ∀ q, q < ns → own_Sm a nd ns s q ∧ own_Er a ns s q) : own_Ok (fun n => f_compile n s) (fun r => r.1 = -2 ∧ own_Pg a nd ns r.2) := by
  have hn := hF.2.2.1
  have bad : ∀ q, q < ns → f_isBad (Int32.ofNat q) (Int32.ofNat ns) s = some 0 := fun q hq => by
    obtain ⟨⟨m4, m6, m7, m8, m5⟩, e9, e10⟩ := hP q hq
    have kb := own_kO (own_c a (10 + 5 * q))
    have lt3 := (own_xO (own_c a (10 + 5 * q + 3)) (ns + 1) (by omega) (by omega)).2
    have lt4 := (own_xO (own_c a (10 + 5 * q + 4)) (ns + 1) (by omega) (by omega)).2
    have inT : ∀ t, t ≤ ns → f_inTargets (Int32.ofNat t) (Int32.ofNat ns) s = some 1 := fun t ht => by
      unfold f_inTargets f_inTargets_14
      rw [if_neg (ofN_nn (by omega)), if_neg (fun z => by have := (own_ltN (by omega) (by omega)).mp z; omega)]; rfl
    have f25 : 6 ≤ own_k (own_c a (10 + 5 * q)) ∧ own_k (own_c a (10 + 5 * q)) ≤ 8 → f_isBad_25 (Int32.ofNat q) (Int32.ofNat ns) s = some 0 := fun hk => by
      have etc : own_tc a nd ns q = own_x (own_c a (10 + 5 * q + 3)) (ns + 1) := by
        unfold own_tc
        rw [if_pos hk]
      unfold f_isBad_25
      rw [own_rdA (f := 8) hF.1 (ofN_int (by omega)) (show q < 32 by omega), Option.bind_some, m8, etc, inT _ (by omega), Option.bind_some, if_neg (by decide)]; rfl
    unfold f_isBad f_isBad_82
    rw [own_rdA (f := 4) hF.1 (ofN_int (by omega)) (show q < 32 by omega), Option.bind_some, m4]
    by_cases c6 : own_k (own_c a (10 + 5 * q)) = 6
    · rw [if_pos (by rw [c6]; rfl)]; exact f25 (by omega)
    rw [if_neg (fun z => c6 ((own_eql (m := 6) (by omega) (by decide)).mp z))]
    by_cases c7 : own_k (own_c a (10 + 5 * q)) = 7
    · rw [if_pos (by rw [c7]; rfl)]; exact f25 (by omega)
    rw [if_neg (fun z => c7 ((own_eql (m := 7) (by omega) (by decide)).mp z))]
    by_cases c8 : own_k (own_c a (10 + 5 * q)) = 8
    · rw [if_pos (by rw [c8]; rfl)]; exact f25 (by omega)
    rw [if_neg (fun z => c8 ((own_eql (m := 8) (by omega) (by decide)).mp z)), own_arB s kb.2.2, Option.bind_some]
    by_cases ca : 2 ≤ own_k (own_c a (10 + 5 * q)) ∧ own_k (own_c a (10 + 5 * q)) ≤ 5
    · rw [if_pos ca, if_neg (by decide), own_rdA (f := 9) hF.1 (ofN_int (by omega)) (show q < 32 by omega), Option.bind_some]
      by_cases c9 : own_A s 9 q = 0
      · rw [if_pos c9]
      · rw [if_neg c9, own_rdA (f := 10) hF.1 (ofN_int (by omega)) (show q < 32 by omega), Option.bind_some]
        have e1 : own_A s 9 q = 1 := by
          by_cases c : own_ar a q ∧ own_t (own_c a (10 + 5 * q)) = 1
          · rw [if_pos c] at e9; exact e9
          · rw [if_neg c] at e9; exact absurd e9 c9
        rw [e10 e1, inT _ (by omega), Option.bind_some, if_neg (by decide)]; rfl
    · rw [if_neg ca, if_pos rfl]
  have fin : own_Ok (fun n => f_compile_44 n s) (fun r => r.1 = -2 ∧ own_Pg a nd ns r.2) := by
    unfold f_compile_44
    refine own_Ok.let (own_Ok.let (own_Ok.let (own_Ok.let (own_Ok.let (own_Ok.ret ⟨rfl, hF.of hF.1 rfl fun _ _ _ => rfl, h0, hns, rfl, h3, hP, ⟨0, by omega, rfl⟩, .inl rfl⟩)))))
  have key : ∀ (m q : Nat), q + m = ns → own_Ok (fun n => f_compile_16 n (Int32.ofNat ns) (Int32.ofNat q) s) (fun r => r.1 = -2 ∧ own_Pg a nd ns r.2) := by
    intro m
    induction m with
    | zero =>
      intro q hq
      refine own_Ok.step (g := fun n => g_compile_16 (f_compile_16 n) n (Int32.ofNat ns) (Int32.ofNat q) s) (fun n => rfl) ?_
      unfold g_compile_16
      exact own_Ok.ite (fun z => by have := (own_ltN (by omega) (by omega)).mp z; omega) fun _ => fin
    | succ m ih =>
      intro q hq
      refine own_Ok.step (g := fun n => g_compile_16 (f_compile_16 n) n (Int32.ofNat ns) (Int32.ofNat q) s) (fun n => rfl) ?_
      unfold g_compile_16
      refine own_Ok.ite (fun _ => ?_) fun _ => fin
      refine own_Ok.ite (fun _ => ?_) fun _ => fin
      refine own_Ok.eq (bad q (by omega)) ?_
      refine own_Ok.ite (fun _ => own_Ok.let ?_) fun z => absurd rfl z
      rw [ofN_succ]
      exact ih (q + 1) (by omega)
  unfold f_compile
  refine own_Ok.ite (fun _ => own_Ok.let ?_) fun z => absurd h4 z
  rw [h3]
  exact key ns 0 (by omega)

/-! the law's check of the fields -/
theorem own_1058 {a : List Int32} (hl : a.length ≤ 260) {nd : Nat} {s : St} (hF : own_Fd a nd s) (K : Nat → Int32 → Int32 → Int32 → Int32 → Int32 → Int32 → Int32 → Int32 → Int32 → List Int32 → St → Option Int32) (v1 v2 v4 v5 v7 v8 v9 v10 : Int32) (nx : own_Ok (fun n => K n v1 v2 v4 v5 (Int32.ofNat nd) v7 v8 v9 (v10 + 1) a s) (· = 1)) : own_Ok (fun n => f_law_1058 (K n) n v1 v2 v4 v5 (Int32.ofNat nd) v7 v8 v9 v10 a s) (· = 1) := by
  have hn := hF.2.2.1
  have o : (0 : Int64).toInt = 0 := rfl
  have o1 : (1 : Int64).toInt = 1 := rfl
  have key : ∀ (m f d : Nat), f + m = nd → own_Ok (fun n => f_law_1083 (K (n + d)) n v1 v2 v4 v5 (Int32.ofNat nd) v7 v8 v9 v10 (Int32.ofNat nd) (Int32.ofNat f) a s) (· = 1) := by
    intro m
    induction m with
    | zero =>
      intro f d hf
      refine own_Ok.step (g := fun n => g_law_1083 (K (n + (d + 1))) (f_law_1083 (K (n + (d + 1))) n) n v1 v2 v4 v5 (Int32.ofNat nd) v7 v8 v9 v10 (Int32.ofNat nd) (Int32.ofNat f) a s) (fun n => by rw [show n + (d + 1) = n + 1 + d by omega]; rfl) ?_
      unfold g_law_1083 f_law_1163
      refine own_Ok.ite (fun z => by have := (own_ltN (by omega) (by omega)).mp z; omega) fun _ => ?_
      exact own_Ok.let (own_sh nx (d + 1))
    | succ m ih =>
      intro f d hf
      refine own_Ok.step (g := fun n => g_law_1083 (K (n + (d + 1))) (f_law_1083 (K (n + (d + 1))) n) n v1 v2 v4 v5 (Int32.ofNat nd) v7 v8 v9 v10 (Int32.ofNat nd) (Int32.ofNat f) a s) (fun n => by rw [show n + (d + 1) = n + 1 + d by omega]; rfl) ?_
      unfold g_law_1083 f_law_1157
      obtain ⟨-, -, -, R1, R2⟩ := hF.2.2.2 f (by omega)
      have dd := own_dO (own_c a (1 + f))
      have gg := own_gO (own_c a (1 + f))
      have p := own_p10b (e := own_d (own_c a (1 + f))) (by omega)
      have tj := Int32.toInt_toInt64 (own_A s 2 f)
      refine own_Ok.ite (fun _ => ?_) fun z => absurd ((own_ltN (by omega) (by omega)).mpr (by omega)) z
      rw [show (1 : Int32) + Int32.ofNat f = Int32.ofNat (1 + f) from (Int32.ofNat_add 1 f).symm]
      refine own_Ok.eq (own_cell hl (1 + f) (by omega)) ?_
      refine own_Ok.eq (own_gv hF (show f < nd by omega)) ?_
      refine own_Ok.let ?_
      refine own_Ok.eq dd.1 ?_
      refine own_Ok.bind (own_lp _ (by omega)) fun c hc => ?_
      subst hc
      refine own_Ok.let ?_
      have e : (Int64.ofNat (10 ^ own_d (own_c a (1 + f))) - 1).toInt = ((10 ^ own_d (own_c a (1 + f)) : Nat) : Int) - 1 := by rw [x64_sub (by rw [own_jN _ (by omega), o1]; omega) (by rw [own_jN _ (by omega), o1]; omega), own_jN _ (by omega), o1]
      refine own_Ok.ite (fun z => by rw [x64_lt, e, tj] at z; omega) fun _ => ?_
      refine own_Ok.ite (fun z => by rw [x64_lt, x64_neg (by omega), e, tj] at z; omega) fun _ => ?_
      refine own_Ok.eq gg.1 ?_
      have nxt := ih (f + 1) (d + 1) (by omega)
      rw [ofN_succ]
      refine own_Ok.ite (fun y => ?_) fun _ => own_Ok.let nxt
      refine own_Ok.ite (fun z => by rw [x64_lt, tj, o] at z; have := R2 y; omega) fun _ => own_Ok.let nxt
  unfold f_law_1058 f_law_1078 f_getFieldCount
  refine own_Ok.some_bind ?_
  rw [hF.2.1]
  refine own_Ok.ite (fun z => by have := (own_ltN (by omega) (by omega)).mp z; omega) fun _ => ?_
  exact key nd 0 0 (by omega)
/-! the values, packed -/
def own_w (v : Nat → Int32) : Nat → Int64 × Int64 × Int64
  | 0 => (0, 0, 0)
  | j + 1 => if j < 3 then ((own_w v j).1 ||| (((v j).toInt64 + 100000) <<< (((18 : Int32) * (Int32.ofNat j % 3)).toInt64 &&& 63)), (own_w v j).2.1, (own_w v j).2.2) else if j < 6 then ((own_w v j).1, (own_w v j).2.1 ||| (((v j).toInt64 + 100000) <<< (((18 : Int32) * (Int32.ofNat j % 3)).toInt64 &&& 63)), (own_w v j).2.2) else ((own_w v j).1, (own_w v j).2.1, (own_w v j).2.2 ||| (((v j).toInt64 + 100000) <<< (((18 : Int32) * (Int32.ofNat j % 3)).toInt64 &&& 63)))
theorem own_w3 (v : Nat → Int32) {j : Nat} (h : j < 3) : own_w v (j + 1) = ((own_w v j).1 ||| (((v j).toInt64 + 100000) <<< (((18 : Int32) * (Int32.ofNat j % 3)).toInt64 &&& 63)), (own_w v j).2.1, (own_w v j).2.2) := if_pos h
theorem own_w6 (v : Nat → Int32) {j : Nat} (h : ¬ j < 3) (h' : j < 6) : own_w v (j + 1) = ((own_w v j).1, (own_w v j).2.1 ||| (((v j).toInt64 + 100000) <<< (((18 : Int32) * (Int32.ofNat j % 3)).toInt64 &&& 63)), (own_w v j).2.2) := (if_neg h).trans (if_pos h')
theorem own_w9 (v : Nat → Int32) {j : Nat} (h : ¬ j < 3) (h' : ¬ j < 6) : own_w v (j + 1) = ((own_w v j).1, (own_w v j).2.1, (own_w v j).2.2 ||| (((v j).toInt64 + 100000) <<< (((18 : Int32) * (Int32.ofNat j % 3)).toInt64 &&& 63))) := (if_neg h).trans (if_neg h')
theorem own_799 {a : List Int32} (hl : a.length ≤ 260) {nd ns : Nat} {s : St} (h : own_Pg a nd ns s) (h5 : gI s 5 = 0) (K : Nat → Int32 → Int32 → Int32 → Int32 → Int32 → Int32 → Int32 → Int32 → Int32 → List Int32 → St → Option Int32) (v1 v2 v4 v5 v7 v8 v9 v10 v12 v13 : Int32) (nx : ∀ t, own_Pg a nd ns t → own_Ok (fun n => K n v1 v2 v4 v5 (Int32.ofNat nd) v7 v8 v9 (v10 + 1) a t) (· = 1)) (hp : v12 = 0 ∨ (∃ q, q < ns ∧ gI s 6 = Int32.ofNat q ∧ own_ar a q ∧ own_t (own_c a (10 + 5 * q)) = 1 ∧ own_prq a nd s q = 1 ∧ v13 = Int32.ofNat (own_x (own_c a (10 + 5 * q + 4)) (ns + 1)))) : own_Ok (fun n => f_law_799 (K n) n v1 v2 v4 v5 (Int32.ofNat nd) v7 v8 v9 v10 v12 v13 a s) (· = 1) := by
  have hF := h.1
  have hn := hF.2.2.1
  have k924 : ∀ t, own_Pg a nd ns t → own_A t = own_A s → gI t 8 = gI s 8 + 1 → gI t 6 = v13 → ∀ (m j d : Nat), j + m = nd → own_Ok (fun n => f_law_924 (K (n + d)) n v1 v2 v4 v5 (Int32.ofNat nd) v7 v8 v9 v10 v13 (own_w (own_A s 2) nd).1 (own_w (own_A s 2) nd).2.1 (own_w (own_A s 2) nd).2.2 (gI s 8) (own_w (own_A s 2) j).1 (own_w (own_A s 2) j).2.1 (own_w (own_A s 2) j).2.2 (Int32.ofNat j) a t) (· = 1) := by
    intro t ht tA t8 t6 m
    induction m with
    | zero =>
      intro j d hj
      obtain rfl : j = nd := by omega
      refine own_Ok.step (g := fun n => g_law_924 (K (n + (d + 1))) (f_law_924 (K (n + (d + 1))) n) n v1 v2 v4 v5 (Int32.ofNat j) v7 v8 v9 v10 v13 (own_w (own_A s 2) j).1 (own_w (own_A s 2) j).2.1 (own_w (own_A s 2) j).2.2 (gI s 8) (own_w (own_A s 2) j).1 (own_w (own_A s 2) j).2.1 (own_w (own_A s 2) j).2.2 (Int32.ofNat j) a t) (fun n => by rw [show n + (d + 1) = n + 1 + d by omega]; rfl) ?_
      unfold g_law_924 f_getSizeErrors f_getPc
      refine own_Ok.ite (fun z => by have := (own_ltN (by omega) (by omega)).mp z; omega) fun _ => ?_
      refine own_Ok.ite (fun _ => ?_) fun z => absurd rfl z
      refine own_Ok.ite (fun _ => ?_) fun z => absurd rfl z
      refine own_Ok.ite (fun _ => ?_) fun z => absurd rfl z
      refine own_Ok.some_bind ?_
      refine own_Ok.ite (fun _ => ?_) fun z => absurd t8 z
      refine own_Ok.some_bind ?_
      refine own_Ok.ite (fun _ => ?_) fun z => absurd t6 z
      exact own_1058 hl ht.1 (fun n => K (n + (d + 1))) v1 v2 v4 v5 v7 v8 v9 v10 (own_sh (nx t ht) (d + 1))
    | succ m ih =>
      intro j d hj
      refine own_Ok.step (g := fun n => g_law_924 (K (n + (d + 1))) (f_law_924 (K (n + (d + 1))) n) n v1 v2 v4 v5 (Int32.ofNat nd) v7 v8 v9 v10 v13 (own_w (own_A s 2) nd).1 (own_w (own_A s 2) nd).2.1 (own_w (own_A s 2) nd).2.2 (gI s 8) (own_w (own_A s 2) j).1 (own_w (own_A s 2) j).2.1 (own_w (own_A s 2) j).2.2 (Int32.ofNat j) a t) (fun n => by rw [show n + (d + 1) = n + 1 + d by omega]; rfl) ?_
      unfold g_law_924 f_law_1002
      refine own_Ok.ite (fun _ => ?_) fun z => absurd ((own_ltN (by omega) (by omega)).mpr (by omega)) z
      refine own_Ok.eq (own_gv ht.1 (show j < nd by omega)) ?_
      rw [tA]
      refine own_Ok.let (own_Ok.let ?_)
      have nxt := ih (j + 1) (d + 1) (by omega)
      rw [ofN_succ]
      refine own_Ok.ite (fun z => ?_) fun z => ?_
      · have z := (own_ltl (m := 3) (by omega) (by decide)).mp z
        rw [own_w3 _ z] at nxt
        exact own_Ok.let (own_Ok.let nxt)
      · have z := mt (own_ltl (i := j) (m := 3) (by omega) (by decide)).mpr z
        refine own_Ok.ite (fun y => ?_) fun y => ?_
        · have y := (own_ltl (m := 6) (by omega) (by decide)).mp y
          rw [own_w6 _ z y] at nxt
          exact own_Ok.let (own_Ok.let nxt)
        · have y := mt (own_ltl (i := j) (m := 6) (by omega) (by decide)).mpr y
          rw [own_w9 _ z y] at nxt
          exact own_Ok.let (own_Ok.let nxt)
  have k811 : ∀ (m j d : Nat), j + m = nd → own_Ok (fun n => f_law_811 (K (n + d)) n v1 v2 v4 v5 (Int32.ofNat nd) v7 v8 v9 v10 v12 v13 (own_w (own_A s 2) j).1 (own_w (own_A s 2) j).2.1 (own_w (own_A s 2) j).2.2 (Int32.ofNat j) a s) (· = 1) := by
    intro m
    induction m with
    | zero =>
      intro j d hj
      obtain rfl : j = nd := by omega
      refine own_Ok.step (g := fun n => g_law_811 (K (n + (d + 1))) (f_law_811 (K (n + (d + 1))) n) n v1 v2 v4 v5 (Int32.ofNat j) v7 v8 v9 v10 v12 v13 (own_w (own_A s 2) j).1 (own_w (own_A s 2) j).2.1 (own_w (own_A s 2) j).2.2 (Int32.ofNat j) a s) (fun n => by rw [show n + (d + 1) = n + 1 + d by omega]; rfl) ?_
      unfold g_law_811 f_getSizeErrors
      refine own_Ok.ite (fun z => by have := (own_ltN (by omega) (by omega)).mp z; omega) fun _ => ?_
      refine own_Ok.some_bind ?_
      refine own_Ok.bind (own_run1 h h5) fun r hr => ?_
      refine own_Ok.ite (fun _ => ?_) fun z => ?_
      · exact own_1058 hl hr.1.1 (fun n => K (n + (d + 1))) v1 v2 v4 v5 v7 v8 v9 v10 (own_sh (nx r.2 hr.1) (d + 1))
      · obtain ⟨q, q1, q2, q3, q4, q5, q6⟩ := hp.resolve_left z
        obtain ⟨x1, x2, x3⟩ := hr.2 q q1 q2 q3 q4 q5
        exact k924 r.2 hr.1 x1 x2 (x3.trans q6.symm) j 0 (d + 1) (by omega)
    | succ m ih =>
      intro j d hj
      refine own_Ok.step (g := fun n => g_law_811 (K (n + (d + 1))) (f_law_811 (K (n + (d + 1))) n) n v1 v2 v4 v5 (Int32.ofNat nd) v7 v8 v9 v10 v12 v13 (own_w (own_A s 2) j).1 (own_w (own_A s 2) j).2.1 (own_w (own_A s 2) j).2.2 (Int32.ofNat j) a s) (fun n => by rw [show n + (d + 1) = n + 1 + d by omega]; rfl) ?_
      unfold g_law_811 f_law_889
      refine own_Ok.ite (fun _ => ?_) fun z => absurd ((own_ltN (by omega) (by omega)).mpr (by omega)) z
      refine own_Ok.eq (own_gv hF (show j < nd by omega)) ?_
      refine own_Ok.let (own_Ok.let ?_)
      have nxt := ih (j + 1) (d + 1) (by omega)
      rw [ofN_succ]
      refine own_Ok.ite (fun z => ?_) fun z => ?_
      · have z := (own_ltl (m := 3) (by omega) (by decide)).mp z
        rw [own_w3 _ z] at nxt
        exact own_Ok.let (own_Ok.let nxt)
      · have z := mt (own_ltl (i := j) (m := 3) (by omega) (by decide)).mpr z
        refine own_Ok.ite (fun y => ?_) fun y => ?_
        · have y := (own_ltl (m := 6) (by omega) (by decide)).mp y
          rw [own_w6 _ z y] at nxt
          exact own_Ok.let (own_Ok.let nxt)
        · have y := mt (own_ltl (i := j) (m := 6) (by omega) (by decide)).mpr y
          rw [own_w9 _ z y] at nxt
          exact own_Ok.let (own_Ok.let nxt)
  unfold f_law_799
  exact k811 nd 0 0 (by omega)
/-! the stages -/
def own_Bs (a : List Int32) (nd : Nat) (s : St) : Prop := own_Fd a nd s ∧ gI s 4 = 0 ∧ gI s 0 = 8 ∧ gI s 1 = 32
def own_I (a : List Int32) (nf ns st q nd pend : Nat) (s : St) : Prop :=
  (st = 0 ∧ q = nd ∧ q < nf ∧ pend = 0 ∧ own_Bs a nd s ∧ gI s 3 = 0) ∨
  (st = 1 ∧ nd = nf ∧ q < 2 * nf ∧ pend = 0 ∧ own_Bs a nd s ∧ gI s 3 = 0) ∨
  (st = 2 ∧ nd = nf ∧ q < ns ∧ own_Bs a nd s ∧ (∀ l, l < q → own_Sm a nd ns s l ∧ own_Er a ns s l) ∧ ((pend = 0 ∧ gI s 3 = Int32.ofNat q) ∨ (pend = 1 ∧ gI s 3 = Int32.ofNat (q + 1) ∧ own_Sm a nd ns s q ∧ own_ar a q ∧ own_t (own_c a (10 + 5 * q)) = 1))) ∨
  (st = 3 ∧ nd = nf ∧ own_Bs a nd s ∧ gI s 3 = Int32.ofNat ns ∧ ∀ l, l < ns → own_Sm a nd ns s l ∧ own_Er a ns s l) ∨
  (st = 4 ∧ nd = nf ∧ own_Pg a nd ns s) ∨ st = 5
def own_Nx (a : List Int32) (nf ns it : Nat) : Prop := ∀ st q nd pend v7 s, own_I a nf ns st q nd pend s → own_Ok (fun n => f_law_56 n (Int32.ofNat nf) (Int32.ofNat ns) (Int32.ofNat st) (Int32.ofNat q) (Int32.ofNat nd) v7 1 (Int32.ofNat pend) (Int32.ofNat it) a s) (· = 1)
theorem own_go {a : List Int32} (hl : a.length ≤ 260) {nf ns it : Nat} (nx : own_Nx a nf ns (it + 1)) {st q nd pend : Nat} {v7 : Int32} {s : St} (h : own_I a nf ns st q nd pend s) (hF : own_Fd a nd s) : own_Ok (fun n => f_law_1058 (f_law_56 n) n (Int32.ofNat nf) (Int32.ofNat ns) (Int32.ofNat st) (Int32.ofNat q) (Int32.ofNat nd) v7 1 (Int32.ofNat pend) (Int32.ofNat it) a s) (· = 1) :=
  own_1058 hl hF f_law_56 _ _ _ _ _ _ _ _ (by rw [ofN_succ]; exact nx st q nd pend v7 s h)
/-- behind a statement or its target -/
theorem own_524 {a : List Int32} (hl : a.length ≤ 260) {nf ns it q : Nat} (nx : own_Nx a nf ns (it + 1)) (hq : q < ns) (hns : ns ≤ 16) {v7 : Int32} {s : St} (hB : own_Bs a nf s) (h3 : gI s 3 = Int32.ofNat (q + 1)) (hP : ∀ l, l < q + 1 → own_Sm a nf ns s l ∧ own_Er a ns s l) : own_Ok (fun n => f_law_524 (f_law_56 n) n (Int32.ofNat nf) (Int32.ofNat ns) 2 (Int32.ofNat (q + 1)) (Int32.ofNat nf) v7 1 0 (Int32.ofNat it) a s) (· = 1) := by
  unfold f_law_524 f_law_533
  refine own_Ok.ite (fun z => ?_) fun z => ?_
  · have z := (own_ltN (by omega) (by omega)).mp z
    exact own_go hl nx (st := 2) (q := q + 1) (pend := 0) (.inr (.inr (.inl ⟨rfl, rfl, z, hB, hP, .inl ⟨rfl, h3⟩⟩))) hB.1
  · have z := mt (own_ltN (i := q + 1) (m := ns) (by omega) (by omega)).mpr z
    obtain rfl : ns = q + 1 := by omega
    exact own_go hl nx (st := 3) (q := q + 1) (pend := 0) (.inr (.inr (.inr (.inl ⟨rfl, rfl, hB, h3, hP⟩)))) hB.1
theorem own_474 {a : List Int32} (hl : a.length ≤ 260) {nf ns it q ic : Nat} (nx : own_Nx a nf ns (it + 1)) (h0 : 0 < nf) (hq : q < ns) (hns : ns ≤ 16) {v7 : Int32} {s : St} (hB : own_Bs a nf s) (h3 : gI s 3 = Int32.ofNat q) (hP : ∀ l, l < q → own_Sm a nf ns s l ∧ own_Er a ns s l) (hic : ic = own_tc a nf ns q) (v14 t0 : Int32) (h14 : (v14 = 0 ∧ ¬ own_ar a q ∧ t0 = 0) ∨ (v14 = 1 ∧ own_ar a q ∧ ((own_r (own_c a (10 + 5 * q)) = 0 ∧ t0 = 0) ∨ (own_r (own_c a (10 + 5 * q)) = 1 ∧ t0 = 16)))) : own_Ok (fun n => f_law_474 (f_law_56 n) n (Int32.ofNat nf) (Int32.ofNat ns) 2 (Int32.ofNat q) (Int32.ofNat nf) v7 1 0 (Int32.ofNat it) (own_c a (10 + 5 * q)) v14 (Int32.ofNat (own_x (own_c a (10 + 5 * q + 1)) nf)) (Int32.ofNat (own_x (own_c a (10 + 5 * q + 2)) nf)) (Int32.ofNat ic) t0 (Int32.ofNat (own_k (own_c a (10 + 5 * q)))) a s) (· = 1) := by
  obtain ⟨hF, h4, hb0, hb1⟩ := hB
  have hn := hF.2.2.1
  have kb := own_kO (own_c a (10 + 5 * q))
  have la := (own_xO (own_c a (10 + 5 * q + 1)) nf h0 (by omega)).2
  have lb := (own_xO (own_c a (10 + 5 * q + 2)) nf h0 (by omega)).2
  have lc := (own_xO (own_c a (10 + 5 * q + 3)) nf h0 (by omega)).2
  have lc' : own_k (own_c a (10 + 5 * q)) ≤ 5 → ic < nf := fun e => by
    rw [hic]
    unfold own_tc
    rw [if_neg (by omega)]; exact lc
  have tt := own_tO (own_c a (10 + 5 * q))
  unfold f_law_474 f_law_521
  refine own_Ok.bind (own_stmt hF kb.2 la lb lc' h4 hb1 h3 (by omega) (Int32.ofNat (own_k (own_c a (10 + 5 * q))) + t0) (if own_ar a q then own_r (own_c a (10 + 5 * q)) else 0) ?_) fun r hr => ?_
  · rcases h14 with ⟨-, na, rfl⟩ | ⟨-, ya, ⟨r0, rfl⟩ | ⟨r1, rfl⟩⟩
    · exact .inl ⟨Int32.add_zero _, if_neg na⟩
    · exact .inl ⟨Int32.add_zero _, by rw [if_pos ya]; exact r0⟩
    · exact .inr ⟨rfl, by rw [if_pos ya]; exact r1, ya.1, ya.2⟩
  obtain ⟨r1, t⟩ := r
  obtain ⟨e1, S1, e3, eI, eA⟩ := hr
  dsimp only at e1 S1 e3 eI eA ⊢
  subst e1
  have old : ∀ f l, l ≠ q → own_A t f l = own_A s f l := fun f l hlq => by
    rw [eA, own_u2 _ _ _ _ hlq, own_u2 _ _ _ _ hlq, own_u2 _ _ _ _ hlq, own_u2 _ _ _ _ hlq, own_u2 _ _ _ _ hlq, own_u2 _ _ _ _ hlq, own_u2 _ _ _ _ hlq]
  have low : ∀ f l, f < 4 → own_A t f l = own_A s f l := fun f l hf => by
    rw [eA, own_u1 _ _ _ _ (by omega), own_u1 _ _ _ _ (by omega), own_u1 _ _ _ _ (by omega), own_u1 _ _ _ _ (by omega), own_u1 _ _ _ _ (by omega), own_u1 _ _ _ _ (by omega), own_u1 _ _ _ _ (by omega)]
  have B2 : own_Bs a nf t := ⟨hF.of S1 (eI 2 (by decide)) low, (eI 4 (by decide)).trans h4, (eI 0 (by decide)).trans hb0, (eI 1 (by decide)).trans hb1⟩
  have P2 : ∀ l, l < q → own_Sm a nf ns t l ∧ own_Er a ns t l := fun l hl => by
    have ne : l ≠ q := by omega
    have := hP l hl
    unfold own_Sm own_Er at this ⊢
    rw [old 4 l ne, old 5 l ne, old 6 l ne, old 7 l ne, old 8 l ne, old 9 l ne, old 10 l ne]
    exact this
  have Sq : own_Sm a nf ns t q := by
    unfold own_Sm
    rw [eA]
    refine ⟨?_, ?_, ?_, ?_, ?_⟩
    · rw [own_u1 _ _ _ _ (by decide), own_u1 _ _ _ _ (by decide), own_u1 _ _ _ _ (by decide), own_u1 _ _ _ _ (by decide), own_u1 _ _ _ _ (by decide), own_u1 _ _ _ _ (by decide), own_u0]
    · rw [own_u1 _ _ _ _ (by decide), own_u1 _ _ _ _ (by decide), own_u1 _ _ _ _ (by decide), own_u1 _ _ _ _ (by decide), own_u0]
    · rw [own_u1 _ _ _ _ (by decide), own_u1 _ _ _ _ (by decide), own_u1 _ _ _ _ (by decide), own_u0]
    · rw [own_u1 _ _ _ _ (by decide), own_u1 _ _ _ _ (by decide), own_u0, hic]
    · rw [own_u1 _ _ _ _ (by decide), own_u1 _ _ _ _ (by decide), own_u1 _ _ _ _ (by decide), own_u1 _ _ _ _ (by decide), own_u1 _ _ _ _ (by decide), own_u0]
  have n9 : own_A t 9 q = 0 := by
    rw [eA, own_u1 _ _ _ _ (by decide), own_u0]
  have fin : ¬ (own_ar a q ∧ own_t (own_c a (10 + 5 * q)) = 1) → own_Ok (fun n => lt (Int32.ofNat q + 1) fun x1 => f_law_524 (f_law_56 n) n (Int32.ofNat nf) (Int32.ofNat ns) 2 x1 (Int32.ofNat nf) v7 1 0 (Int32.ofNat it) a t) (· = 1) := fun no => by
    refine own_Ok.let ?_
    rw [ofN_succ]
    refine own_524 hl nx hq hns B2 e3 fun l hl => ?_
    by_cases e : l = q
    · subst e
      refine ⟨Sq, ?_, fun e => by rw [n9] at e; exact absurd e (by decide)⟩
      rw [if_neg no]; exact n9
    · exact P2 l (by omega)
  refine own_Ok.ite (fun _ => ?_) fun z => absurd rfl z
  refine own_Ok.ite (fun z => ?_) fun z => ?_
  · refine fin fun e => ?_
    rcases h14 with ⟨-, na, -⟩ | ⟨e1, -⟩
    · exact na e.1
    · rw [e1] at z; exact absurd z (by decide)
  · have ya : own_ar a q := by
      rcases h14 with ⟨e1, -⟩ | ⟨-, ya, -⟩
      · exact absurd e1 z
      · exact ya
    refine own_Ok.eq tt.1 ?_
    refine own_Ok.ite (fun y => fin fun e => ?_) fun y => ?_
    · rw [y] at e; exact absurd e.2 (by decide)
    · unfold f_law_524 f_law_533
      refine own_Ok.ite (fun _ => ?_) fun z => absurd ((own_ltN (by omega) (by omega)).mpr hq) z
      exact own_go hl nx (st := 2) (q := q) (pend := 1) (.inr (.inr (.inl ⟨rfl, rfl, hq, B2, P2, .inr ⟨rfl, e3, Sq, ya, tt.2.resolve_left y⟩⟩))) B2.1
theorem own_ba (q k : Nat) : (10 : Int32) + 5 * Int32.ofNat q + Int32.ofNat k = Int32.ofNat (10 + 5 * q + k) := by
  rw [Int32.ofNat_add, Int32.ofNat_add, Int32.ofNat_mul]; rfl
theorem own_st2 {a : List Int32} (hl : a.length ≤ 260) {nf ns it q pend : Nat} (nx : own_Nx a nf ns (it + 1)) (h0 : 0 < nf) (hq : q < ns) (hns : ns ≤ 16) {v7 : Int32} {s : St} (hB : own_Bs a nf s) (hP : ∀ l, l < q → own_Sm a nf ns s l ∧ own_Er a ns s l) (hp : (pend = 0 ∧ gI s 3 = Int32.ofNat q) ∨ (pend = 1 ∧ gI s 3 = Int32.ofNat (q + 1) ∧ own_Sm a nf ns s q ∧ own_ar a q ∧ own_t (own_c a (10 + 5 * q)) = 1)) (t0 : Int32) (h14 : (t0 = 0 ∧ ¬ own_ar a q) ∨ (t0 = 1 ∧ own_ar a q)) : own_Ok (fun n => f_law_336 (f_law_56 n) n (Int32.ofNat nf) (Int32.ofNat ns) 2 (Int32.ofNat q) (Int32.ofNat nf) v7 1 (Int32.ofNat pend) (Int32.ofNat it) ((10 : Int32) + 5 * Int32.ofNat q) (own_c a (10 + 5 * q)) (Int32.ofNat (own_k (own_c a (10 + 5 * q)))) t0 a s) (· = 1) := by
  have hn := hB.1.2.2.1
  have kb := own_kO (own_c a (10 + 5 * q))
  have x1 := own_xO (own_c a (10 + 5 * q + 1)) nf h0 (by omega)
  have x2 := own_xO (own_c a (10 + 5 * q + 2)) nf h0 (by omega)
  have x3 := own_xO (own_c a (10 + 5 * q + 3)) nf h0 (by omega)
  have y3 := own_xO (own_c a (10 + 5 * q + 3)) (ns + 1) (by omega) (by omega)
  have y4 := own_xO (own_c a (10 + 5 * q + 4)) (ns + 1) (by omega) (by omega)
  have b1 : (10 : Int32) + 5 * Int32.ofNat q + 1 = Int32.ofNat (10 + 5 * q + 1) := own_ba q 1
  have b2 : (10 : Int32) + 5 * Int32.ofNat q + 2 = Int32.ofNat (10 + 5 * q + 2) := own_ba q 2
  have b3 : (10 : Int32) + 5 * Int32.ofNat q + 3 = Int32.ofNat (10 + 5 * q + 3) := own_ba q 3
  have b4 : (10 : Int32) + 5 * Int32.ofNat q + 4 = Int32.ofNat (10 + 5 * q + 4) := own_ba q 4
  have rr := own_rO (own_c a (10 + 5 * q))
  unfold f_law_336 f_law_437
  rcases hp with ⟨rfl, h3⟩ | ⟨rfl, h3, Sq, ya, yt⟩
  · refine own_Ok.ite (fun _ => ?_) fun z => absurd rfl z
    have f450 : ∀ ic, ic = own_tc a nf ns q → own_Ok (fun n => f_law_450 (f_law_56 n) n (Int32.ofNat nf) (Int32.ofNat ns) 2 (Int32.ofNat q) (Int32.ofNat nf) v7 1 0 (Int32.ofNat it) (own_c a (10 + 5 * q)) (Int32.ofNat (own_k (own_c a (10 + 5 * q)))) t0 (Int32.ofNat (own_x (own_c a (10 + 5 * q + 1)) nf)) (Int32.ofNat (own_x (own_c a (10 + 5 * q + 2)) nf)) (Int32.ofNat ic) a s) (· = 1) := fun ic hic => by
      unfold f_law_450 f_law_473
      refine own_Ok.ite (fun z => ?_) fun z => ?_
      · refine own_474 hl nx h0 hq hns hB h3 hP hic t0 0 (.inl ⟨z, ?_, rfl⟩)
        rcases h14 with ⟨-, e⟩ | ⟨e, -⟩
        · exact e
        · rw [e] at z; exact absurd z (by decide)
      · have e14 := h14.resolve_left fun e => z e.1
        refine own_Ok.eq rr.1 ?_
        refine own_Ok.ite (fun y => ?_) fun y => ?_
        · exact own_474 hl nx h0 hq hns hB h3 hP hic t0 0 (.inr ⟨e14.1, e14.2, .inl ⟨y, rfl⟩⟩)
        · exact own_474 hl nx h0 hq hns hB h3 hP hic t0 16 (.inr ⟨e14.1, e14.2, .inr ⟨rr.2.resolve_left y, rfl⟩⟩)
    rw [b1, b2, b3]
    refine own_Ok.eq (own_cell hl _ (by omega)) ?_
    refine own_Ok.eq x1.1 ?_
    refine own_Ok.eq (own_cell hl _ (by omega)) ?_
    refine own_Ok.eq x2.1 ?_
    have f437 : ¬ (6 ≤ own_k (own_c a (10 + 5 * q)) ∧ own_k (own_c a (10 + 5 * q)) ≤ 8) → own_Ok (fun n => (f_L_cell (Int32.ofNat (10 + 5 * q + 3)) a).bind fun c1 => (f_L_ix c1 (Int32.ofNat nf)).bind fun c2 => f_law_450 (f_law_56 n) n (Int32.ofNat nf) (Int32.ofNat ns) 2 (Int32.ofNat q) (Int32.ofNat nf) v7 1 0 (Int32.ofNat it) (own_c a (10 + 5 * q)) (Int32.ofNat (own_k (own_c a (10 + 5 * q)))) t0 (Int32.ofNat (own_x (own_c a (10 + 5 * q + 1)) nf)) (Int32.ofNat (own_x (own_c a (10 + 5 * q + 2)) nf)) c2 a s) (· = 1) := fun no => by
      refine own_Ok.eq (own_cell hl _ (by omega)) ?_
      refine own_Ok.eq x3.1 ?_
      refine f450 _ ?_
      unfold own_tc
      rw [if_neg no]
    refine own_Ok.ite (fun z => f437 ?_) fun z => ?_
    · have := (own_ltl (m := 6) (by omega) (by decide)).mp z
      omega
    have z := mt (own_ltl (i := own_k (own_c a (10 + 5 * q))) (m := 6) (by omega) (by decide)).mpr z
    refine own_Ok.ite (fun y => f437 ?_) fun y => ?_
    · have := (own_gtl (m := 8) (by omega) (by decide)).mp y
      omega
    have y := mt (own_gtl (i := own_k (own_c a (10 + 5 * q))) (m := 8) (by omega) (by decide)).mpr y
    refine own_Ok.eq (own_cell hl _ (by omega)) ?_
    rw [ofN_succ]
    refine own_Ok.eq y3.1 ?_
    refine f450 _ ?_
    unfold own_tc
    rw [if_pos (by omega)]
  · refine own_Ok.ite (fun z => absurd z (by decide)) fun _ => ?_
    rw [b4]
    refine own_Ok.eq (own_cell hl _ (by omega)) ?_
    rw [ofN_succ]
    refine own_Ok.eq y4.1 ?_
    obtain ⟨hF, h4, hb0, hb1⟩ := id hB
    refine own_Ok.bind (own_onE hF.1 (k := own_k (own_c a (10 + 5 * q))) (q := q) ya h4 h3 (by omega) Sq.1 _) fun r hr => ?_
    obtain ⟨r1, t⟩ := r
    obtain ⟨e1, S1, eI, eA⟩ := hr
    dsimp only at e1 S1 eI eA ⊢
    subst e1
    refine own_Ok.ite (fun z => absurd z (by decide)) fun _ => ?_
    unfold f_law_367
    refine own_Ok.let ?_
    rw [ofN_succ]
    have old : ∀ f l, l ≠ q → own_A t f l = own_A s f l := fun f l hlq => by
      rw [eA, own_u2 _ _ _ _ hlq, own_u2 _ _ _ _ hlq]
    have low : ∀ f l, f < 9 → own_A t f l = own_A s f l := fun f l hf => by
      rw [eA, own_u1 _ _ _ _ (by omega), own_u1 _ _ _ _ (by omega)]
    have B2 : own_Bs a nf t := ⟨hF.of S1 (eI 2) fun f k hf => low f k (by omega), (eI 4).trans h4, (eI 0).trans hb0, (eI 1).trans hb1⟩
    refine own_524 hl nx hq hns B2 ((eI 3).trans h3) fun l hlq => ?_
    by_cases e : l = q
    · subst e
      refine ⟨?_, ?_, fun _ => ?_⟩
      · unfold own_Sm at Sq ⊢
        rw [low 4 l (by decide), low 5 l (by decide), low 6 l (by decide), low 7 l (by decide), low 8 l (by decide)]
        exact Sq
      · rw [if_pos ⟨ya, yt⟩, eA, own_u1 _ _ _ _ (by decide), own_u0]
      · rw [eA, own_u0]
    · have := hP l (by omega)
      unfold own_Sm own_Er at this ⊢
      rw [old 4 l e, old 5 l e, old 6 l e, old 7 l e, old 8 l e, old 9 l e, old 10 l e]
      exact this
theorem own_hf : ∀ q : Fin 16, Int32.ofNat q.val >>> ((1 : Int32) &&& 31) = Int32.ofNat (q.val / 2) := by decide +kernel
theorem own_st1 {a : List Int32} (hl : a.length ≤ 260) {nf ns it q : Nat} (nx : own_Nx a nf ns (it + 1)) (hf : nf ≤ 8) (hns : 0 < ns) (hq : q < 2 * nf) {v7 : Int32} {s : St} (hB : own_Bs a nf s) (h3 : gI s 3 = 0) (v : Int32) : own_Ok (fun n => (f_setValue n (Int32.ofNat (q / 2)) v s).bind fun c16 => f_law_268 (f_law_56 n) n (Int32.ofNat nf) (Int32.ofNat ns) 1 (Int32.ofNat q) (Int32.ofNat nf) v7 1 0 (Int32.ofNat it) a c16.2) (· = 1) := by
  obtain ⟨hF, h4, hb0, hb1⟩ := hB
  refine own_Ok.bind (own_setv hF (show q / 2 < nf by omega) v) fun r hr => ?_
  obtain ⟨F2, eI, -⟩ := hr
  have B2 : own_Bs a nf r.2 := ⟨F2, (eI 4).trans h4, (eI 0).trans hb0, (eI 1).trans hb1⟩
  unfold f_law_268 f_law_286
  refine own_Ok.let ?_
  rw [ofN_succ, show (2 : Int32) * Int32.ofNat nf = Int32.ofNat (2 * nf) from (Int32.ofNat_mul 2 nf).symm]
  refine own_Ok.ite (fun z => ?_) fun z => ?_
  · have z := (own_ltN (by omega) (by omega)).mp z
    exact own_go hl nx (st := 1) (q := q + 1) (pend := 0) (.inr (.inl ⟨rfl, rfl, z, rfl, B2, (eI 3).trans h3⟩)) F2
  · exact own_go hl nx (st := 2) (q := 0) (pend := 0) (.inr (.inr (.inl ⟨rfl, rfl, hns, B2, fun l hl => absurd hl (Nat.not_lt_zero _), .inl ⟨rfl, (eI 3).trans h3⟩⟩))) F2
theorem own_turn {a : List Int32} (hl : a.length ≤ 260) {nf ns it : Nat} (hf : 1 ≤ nf ∧ nf ≤ 8) (hns : 1 ≤ ns ∧ ns ≤ 16) (hit : it < 400) (nx : own_Nx a nf ns (it + 1)) {st q nd pend : Nat} {v7 : Int32} {s : St} (h : own_I a nf ns st q nd pend s) : own_Ok (fun n => g_law_56 (f_law_56 n) n (Int32.ofNat nf) (Int32.ofNat ns) (Int32.ofNat st) (Int32.ofNat q) (Int32.ofNat nd) v7 1 (Int32.ofNat pend) (Int32.ofNat it) a s) (· = 1) := by
  have o : (0 : Int64).toInt = 0 := rfl
  unfold g_law_56
  refine own_Ok.ite (fun _ => ?_) fun z => absurd ((own_ltl (m := 400) (by omega) (by decide)).mpr hit) z
  rcases h with ⟨rfl, rfl, hq, rfl, hB, h3⟩ | ⟨rfl, rfl, hq, rfl, hB, h3⟩ | ⟨rfl, rfl, hq, hB, hP, hp⟩ | ⟨rfl, rfl, hB, h3, hP⟩ | ⟨rfl, rfl, hG⟩ | rfl
  · refine own_Ok.ite (fun _ => ?_) fun z => absurd (by decide) z
    refine own_Ok.ite (fun _ => ?_) fun z => absurd rfl z
    rw [show (1 : Int32) + Int32.ofNat q = Int32.ofNat (1 + q) from (Int32.ofNat_add 1 q).symm]
    refine own_Ok.eq (own_cell hl (1 + q) (by omega)) ?_
    refine own_Ok.eq (own_dO _).1 ?_
    refine own_Ok.eq (own_fO _).1 ?_
    refine own_Ok.eq (own_gO _).1 ?_
    obtain ⟨hF, h4, hb0, hb1⟩ := hB
    refine own_Ok.bind (own_decl hF (by omega) h4 hb0) fun r hr => ?_
    obtain ⟨e1, F2, eI, -⟩ := hr
    have B2 : own_Bs a (q + 1) r.2 := ⟨F2, (eI 4 (by decide)).trans h4, (eI 0 (by decide)).trans hb0, (eI 1 (by decide)).trans hb1⟩
    have g3 := (eI 3 (by decide)).trans h3
    refine own_Ok.ite (fun _ => ?_) fun z => absurd e1 z
    refine own_Ok.let (own_Ok.let ?_)
    unfold f_law_136 f_law_155
    rw [ofN_succ]
    refine own_Ok.ite (fun z => ?_) fun z => ?_
    · have z := (own_ltN (by omega) (by omega)).mp z
      exact own_go hl nx (st := 0) (q := q + 1) (pend := 0) (.inl ⟨rfl, rfl, z, rfl, B2, g3⟩) F2
    · have z := mt (own_ltN (i := q + 1) (m := nf) (by omega) (by omega)).mpr z
      obtain rfl : nf = q + 1 := by omega
      refine own_Ok.ite (fun y => by have := (own_eql (m := 0) (by omega) (by decide)).mp y; omega) fun _ => ?_
      exact own_go hl nx (st := 1) (q := 0) (pend := 0) (.inr (.inl ⟨rfl, rfl, by omega, rfl, B2, g3⟩)) F2
  · refine own_Ok.ite (fun _ => ?_) fun z => absurd (by decide) z
    refine own_Ok.ite (fun z => absurd z (by decide)) fun _ => ?_
    refine own_Ok.ite (fun _ => ?_) fun z => absurd rfl z
    refine own_Ok.let ?_
    rw [own_hf ⟨q, by omega⟩]
    dsimp only
    refine own_Ok.ite (fun _ => ?_) fun _ => ?_
    · rw [show (90 : Int32) + 2 * Int32.ofNat (q / 2) = Int32.ofNat (90 + 2 * (q / 2)) by rw [Int32.ofNat_add, Int32.ofNat_mul]; rfl]
      refine own_Ok.eq (own_cell hl _ (by omega)) ?_
      exact own_st1 hl nx (by omega) (by omega) hq hB h3 _
    · rw [show (91 : Int32) + 2 * Int32.ofNat (q / 2) = Int32.ofNat (91 + 2 * (q / 2)) by rw [Int32.ofNat_add, Int32.ofNat_mul]; rfl, show (1 : Int32) + Int32.ofNat (q / 2) = Int32.ofNat (1 + q / 2) from (Int32.ofNat_add 1 (q / 2)).symm]
      refine own_Ok.eq (own_cell hl _ (by omega)) ?_
      refine own_Ok.eq (own_cell hl _ (by omega)) ?_
      refine own_Ok.eq (own_dO _).1 ?_
      have dd := (own_dO (own_c a (1 + q / 2))).2
      have pp := own_p10b (e := own_d (own_c a (1 + q / 2))) (by omega)
      refine own_Ok.bind (own_lp _ (by omega)) fun c hc => ?_
      subst hc
      refine own_Ok.ite (fun z => by have z := congrArg Int64.toInt z; rw [own_jN _ (by omega), o] at z; omega) fun _ => ?_
      refine own_Ok.let ?_
      refine own_Ok.eq (own_gO _).1 ?_
      unfold f_law_259
      refine own_Ok.ite (fun _ => own_st1 hl nx (by omega) (by omega) hq hB h3 _) fun _ => ?_
      exact own_Ok.ite (fun _ => own_Ok.let (own_st1 hl nx (by omega) (by omega) hq hB h3 _)) fun _ => own_st1 hl nx (by omega) (by omega) hq hB h3 _
  · refine own_Ok.ite (fun _ => ?_) fun z => absurd (by decide) z
    refine own_Ok.ite (fun z => absurd z (by decide)) fun _ => ?_
    refine own_Ok.ite (fun z => absurd z (by decide)) fun _ => ?_
    refine own_Ok.ite (fun _ => ?_) fun z => absurd rfl z
    refine own_Ok.let ?_
    have eb : (10 : Int32) + 5 * Int32.ofNat q = Int32.ofNat (10 + 5 * q) := by rw [Int32.ofNat_add, Int32.ofNat_mul]; rfl
    have kb := own_kO (own_c a (10 + 5 * q))
    have ce : f_L_cell ((10 : Int32) + 5 * Int32.ofNat q) a = some (own_c a (10 + 5 * q)) := by rw [eb]; exact own_cell hl _ (by omega)
    refine own_Ok.eq ce ?_
    refine own_Ok.eq kb.1 ?_
    unfold f_law_335
    refine own_Ok.ite (fun z => ?_) fun z => ?_
    · have z := (own_ltl (m := 2) (by omega) (by decide)).mp z
      exact own_st2 hl nx (by omega) hq (by omega) hB hP hp 0 (.inl ⟨rfl, fun e => by have := e.1; omega⟩)
    · have z := mt (own_ltl (i := own_k (own_c a (10 + 5 * q))) (m := 2) (by omega) (by decide)).mpr z
      refine own_Ok.ite (fun y => ?_) fun y => ?_
      · have y := (own_gtl (m := 5) (by omega) (by decide)).mp y
        exact own_st2 hl nx (by omega) hq (by omega) hB hP hp 0 (.inl ⟨rfl, fun e => by have := e.2; omega⟩)
      · have y := mt (own_gtl (i := own_k (own_c a (10 + 5 * q))) (m := 5) (by omega) (by decide)).mpr y
        exact own_st2 hl nx (by omega) hq (by omega) hB hP hp 1 (.inr ⟨rfl, by omega, by omega⟩)
  · refine own_Ok.ite (fun _ => ?_) fun z => absurd (by decide) z
    refine own_Ok.ite (fun z => absurd z (by decide)) fun _ => ?_
    refine own_Ok.ite (fun z => absurd z (by decide)) fun _ => ?_
    refine own_Ok.ite (fun z => absurd z (by decide)) fun _ => ?_
    refine own_Ok.ite (fun _ => ?_) fun z => absurd rfl z
    refine own_Ok.bind (own_comp hB.1 (by omega) (by omega) hB.2.1 h3 hP) fun r hr => ?_
    refine own_Ok.ite (fun _ => ?_) fun z => absurd hr.1 z
    unfold f_law_554
    exact own_go hl nx (st := 4) (q := q) (pend := pend) (.inr (.inr (.inr (.inr (.inl ⟨rfl, rfl, hr.2⟩))))) hr.2.1
  · refine own_Ok.ite (fun _ => ?_) fun z => absurd (by decide) z
    refine own_Ok.ite (fun z => absurd z (by decide)) fun _ => ?_
    refine own_Ok.ite (fun z => absurd z (by decide)) fun _ => ?_
    refine own_Ok.ite (fun z => absurd z (by decide)) fun _ => ?_
    refine own_Ok.ite (fun z => absurd z (by decide)) fun _ => ?_
    unfold f_isHalted f_getPc
    refine own_Ok.some_bind ?_
    have nx4 : ∀ (w : Int32) t, own_Pg a nd ns t → own_Ok (fun n => f_law_56 n (Int32.ofNat nd) (Int32.ofNat ns) 4 (Int32.ofNat q) (Int32.ofNat nd) w 1 (Int32.ofNat pend) (Int32.ofNat it + 1) a t) (· = 1) := fun w t ht => by
      rw [ofN_succ]
      exact nx 4 q nd pend w t (.inr (.inr (.inr (.inr (.inl ⟨rfl, rfl, ht⟩)))))
    refine own_Ok.ite (fun z => ?_) fun z => ?_
    · have h5 : gI s 5 = 0 := by
        rcases hG.2.2.2.2.2.2.2 with e | e
        · exact e
        · rw [e] at z; exact absurd z (by decide)
      obtain ⟨p, hp, h6⟩ := hG.2.2.2.2.2.2.1
      have none' : own_Ok (fun n => f_law_799 (f_law_56 n) n (Int32.ofNat nd) (Int32.ofNat ns) 4 (Int32.ofNat q) (Int32.ofNat nd) v7 1 (Int32.ofNat pend) (Int32.ofNat it) 0 0 a s) (· = 1) := own_799 hl hG h5 f_law_56 _ _ _ _ _ _ _ _ _ _ (nx4 v7) (.inl rfl)
      refine own_Ok.some_bind ?_
      refine own_Ok.ite (fun z => absurd z (by decide)) fun _ => ?_
      rw [h6]
      refine own_Ok.ite (fun z => absurd z (ofN_nn (by omega))) fun _ => ?_
      refine own_Ok.ite (fun z => ?_) fun _ => none'
      have z := (own_ltN (by omega) (by omega)).mp z
      refine own_Ok.let ?_
      have eb : (10 : Int32) + 5 * Int32.ofNat p = Int32.ofNat (10 + 5 * p) := by rw [Int32.ofNat_add, Int32.ofNat_mul]; rfl
      have kb := own_kO (own_c a (10 + 5 * p))
      have tt := own_tO (own_c a (10 + 5 * p))
      have b1 : Int32.ofNat (10 + 5 * p) + 1 = Int32.ofNat (10 + 5 * p + 1) := (Int32.ofNat_add _ 1).symm
      have b2 : Int32.ofNat (10 + 5 * p) + 2 = Int32.ofNat (10 + 5 * p + 2) := (Int32.ofNat_add _ 2).symm
      have b3 : Int32.ofNat (10 + 5 * p) + 3 = Int32.ofNat (10 + 5 * p + 3) := (Int32.ofNat_add _ 3).symm
      have b4 : Int32.ofNat (10 + 5 * p) + 4 = Int32.ofNat (10 + 5 * p + 4) := (Int32.ofNat_add _ 4).symm
      rw [eb]
      refine own_Ok.eq (own_cell hl _ (by omega)) ?_
      refine own_Ok.eq kb.1 ?_
      refine own_Ok.ite (fun _ => none') fun k2 => ?_
      have k2 := mt (own_ltl (i := own_k (own_c a (10 + 5 * p))) (m := 2) (by omega) (by decide)).mpr k2
      refine own_Ok.ite (fun _ => none') fun k5 => ?_
      have k5 := mt (own_gtl (i := own_k (own_c a (10 + 5 * p))) (m := 5) (by omega) (by decide)).mpr k5
      refine own_Ok.eq tt.1 ?_
      refine own_Ok.ite (fun _ => none') fun ty => ?_
      have ty := tt.2.resolve_left ty
      have x1 := own_xO (own_c a (10 + 5 * p + 1)) nd (by omega) (by omega)
      have x2 := own_xO (own_c a (10 + 5 * p + 2)) nd (by omega) (by omega)
      have x3 := own_xO (own_c a (10 + 5 * p + 3)) nd (by omega) (by omega)
      have y4 := own_xO (own_c a (10 + 5 * p + 4)) (ns + 1) (by omega) (by omega)
      have hF := hG.1
      rw [b1, b2, b3, b4]
      refine own_Ok.eq (own_cell hl _ (by omega)) ?_
      refine own_Ok.eq x1.1 ?_
      refine own_Ok.eq (own_cell hl _ (by omega)) ?_
      refine own_Ok.eq x2.1 ?_
      refine own_Ok.eq (own_cell hl _ (by omega)) ?_
      refine own_Ok.eq x3.1 ?_
      have ai : ∀ m, (1 : Int32) + Int32.ofNat m = Int32.ofNat (1 + m) := fun m => (Int32.ofNat_add 1 m).symm
      rw [ai, ai, ai]
      refine own_Ok.eq (own_cell hl _ (by omega)) ?_
      refine own_Ok.eq (own_cell hl _ (by omega)) ?_
      refine own_Ok.eq (own_cell hl _ (by omega)) ?_
      refine own_Ok.eq (own_rO _).1 ?_
      refine own_Ok.eq (own_gv hF x1.2) ?_
      refine own_Ok.eq (own_fO _).1 ?_
      refine own_Ok.eq (own_gv hF x2.2) ?_
      refine own_Ok.eq (own_fO _).1 ?_
      refine own_Ok.eq (own_fO _).1 ?_
      refine own_Ok.eq (own_dO _).1 ?_
      have ba := own_Rb (hF.2.2.2 _ x1.2).2.2.2
      have bb := own_Rb (hF.2.2.2 _ x2.2).2.2.2
      have fa := (own_fO (own_c a (1 + own_x (own_c a (10 + 5 * p + 1)) nd))).2
      have fb := (own_fO (own_c a (1 + own_x (own_c a (10 + 5 * p + 2)) nd))).2
      have fc := (own_fO (own_c a (1 + own_x (own_c a (10 + 5 * p + 3)) nd))).2
      have da := (own_dO (own_c a (1 + own_x (own_c a (10 + 5 * p + 1)) nd))).2
      have db := (own_dO (own_c a (1 + own_x (own_c a (10 + 5 * p + 2)) nd))).2
      have dc := (own_dO (own_c a (1 + own_x (own_c a (10 + 5 * p + 3)) nd))).2
      refine own_Ok.bind (own_szE (Int32.toInt_toInt64 _) (Int32.toInt_toInt64 _) ba bb (by omega) (by omega) (by omega) (by omega) (by omega) _) fun c65 h65 => ?_
      refine own_Ok.eq (own_cell hl _ (by omega)) ?_
      rw [ofN_succ]
      refine own_Ok.eq y4.1 ?_
      refine own_799 hl hG h5 f_law_56 _ _ _ _ _ _ _ _ _ _ (nx4 v7) ?_
      by_cases e : c65 = 0
      · exact .inl e
      · refine .inr ⟨p, z, h6, ⟨by omega, by omega⟩, ty, ?_, rfl⟩
        unfold own_prq
        rw [← h65, h65]
        rw [h65] at e
        unfold own_pr at e ⊢
        split
        · rfl
        · rename_i n1
          rw [if_neg n1] at e
          split
          · rfl
          · rename_i n2
            rw [if_neg n2] at e
            exact absurd rfl e
    · refine own_Ok.ite (fun _ => ?_) fun _ => ?_
      · unfold f_restart
        rw [if_neg (by rw [hG.2.2.2.1]; decide)]
        refine own_Ok.some_bind (own_Ok.let ?_)
        have G2 : own_Pg a nd ns (sI (sI s 6 0) 5 0) := ⟨hG.1.of hG.1.1 rfl fun _ _ _ => rfl, hG.2.1, hG.2.2.1, hG.2.2.2.1, hG.2.2.2.2.1, hG.2.2.2.2.2.1, ⟨0, by omega, rfl⟩, .inl rfl⟩
        exact own_1058 hl G2.1 f_law_56 _ _ _ _ _ _ _ _ (nx4 _ _ G2)
      · unfold f_law_1163
        refine own_Ok.let ?_
        rw [ofN_succ]
        exact nx 5 q nd pend v7 s (.inr (.inr (.inr (.inr (.inr rfl)))))
  · refine own_Ok.ite (fun z => absurd z (by decide)) fun _ => ?_
    unfold f_law_1169
    exact own_Ok.ret rfl
theorem own_loop {a : List Int32} (hl : a.length ≤ 260) {nf ns : Nat} (hf : 1 ≤ nf ∧ nf ≤ 8) (hns : 1 ≤ ns ∧ ns ≤ 16) : ∀ (m it : Nat), it + m = 400 → own_Nx a nf ns it := by
  intro m
  induction m with
  | zero =>
    intro it hi st q nd pend v7 s h
    refine own_Ok.step (g := fun n => g_law_56 (f_law_56 n) n (Int32.ofNat nf) (Int32.ofNat ns) (Int32.ofNat st) (Int32.ofNat q) (Int32.ofNat nd) v7 1 (Int32.ofNat pend) (Int32.ofNat it) a s) (fun n => rfl) ?_
    unfold g_law_56 f_law_1169
    exact own_Ok.ite (fun z => by have := (own_ltl (m := 400) (by omega) (by decide)).mp z; omega) fun _ => own_Ok.ret rfl
  | succ m ih =>
    intro it hi st q nd pend v7 s h
    refine own_Ok.step (g := fun n => g_law_56 (f_law_56 n) n (Int32.ofNat nf) (Int32.ofNat ns) (Int32.ofNat st) (Int32.ofNat q) (Int32.ofNat nd) v7 1 (Int32.ofNat pend) (Int32.ofNat it) a s) (fun n => rfl) ?_
    exact own_turn hl hf hns (by omega) (ih (it + 1) (by omega)) h
theorem owed (a : List Int32) (hl : a.length ≤ 260) : ∃ fu, f_law fu a = some 1 := by
  suffices h : own_Ok (fun n => f_law n a) (· = 1) by
    obtain ⟨r, h1, rfl⟩ := h
    exact h1.get
  unfold f_law
  obtain ⟨k1, b1, e1⟩ := and_natL (own_c a 0) 7 (by decide)
  obtain ⟨k2, b2, e2⟩ := and_natL (own_c a 9) 15 (by decide)
  have b1 : k1 ≤ 7 := b1
  have b2 : k2 ≤ 15 := b2
  have e1 : own_c a 0 &&& 7 = Int32.ofNat k1 := e1
  have e2 : own_c a 9 &&& 15 = Int32.ofNat k2 := e2
  refine own_Ok.eq (own_cell hl 0 (by decide)) ?_
  refine own_Ok.let ?_
  refine own_Ok.eq (own_cell hl 9 (by decide)) ?_
  refine own_Ok.let ?_
  rw [e1, e2, show (1 : Int32) + Int32.ofNat k1 = Int32.ofNat (1 + k1) from (Int32.ofNat_add 1 k1).symm, show (1 : Int32) + Int32.ofNat k2 = Int32.ofNat (1 + k2) from (Int32.ofNat_add 1 k2).symm]
  have ei : f_init 8 32 = some (sI (sI (sI (sI (sI (sI (sI (sI (sI st0 0 8) 1 32) 2 0) 3 0) 4 0) 5 0) 6 0) 7 0) 8 0) := rfl
  refine own_Ok.eq ei ?_
  refine own_loop hl (nf := 1 + k1) (ns := 1 + k2) (by omega) (by omega) 400 0 rfl 0 0 0 0 0 _ (.inl ⟨rfl, rfl, by omega, rfl, ⟨⟨fun f => ?_, rfl, by decide, fun f z => absurd z (Nat.not_lt_zero _)⟩, rfl, rfl, rfl⟩, rfl⟩)
  show (gA st0 f).length = _
  by_cases c : f < 11
  · rcases (by omega : f = 0 ∨ f = 1 ∨ f = 2 ∨ f = 3 ∨ f = 4 ∨ f = 5 ∨ f = 6 ∨ f = 7 ∨ f = 8 ∨ f = 9 ∨ f = 10) with rfl | rfl | rfl | rfl | rfl | rfl | rfl | rfl | rfl | rfl | rfl <;> rfl
  · show (List.getD _ f []).length = own_lA.getD f 0
    rw [List.getD_eq_getElem?_getD, List.getElem?_eq_none (by show 11 ≤ f; omega), List.getD_eq_getElem?_getD, List.getElem?_eq_none (by show 11 ≤ f; omega)]; rfl

set_option maxRecDepth 65536 in
set_option maxHeartbeats 40000000 in
theorem comes_1 {Post : Tables → Env → Array Value → State → Outcome → State → Prop} (hpost : ∀ tb e args s v u, (limb_1_1.after args s (.returned v) u = true ∧ limb_1_2.after args s (.returned v) u = true ∧ True) → FrameEnd s (.returned v) u (Jvm.fieldLocs frame_1_writes args s ++ Jvm.arrayLocs frame_1_arrays args s ++ Jvm.staticLocs frame_1_statics s) 32 640 → Post tb e args s (.returned v) u) :
    ArmFor flags0 classFile x code maxLocals ret World_1 tables_1 room_1 Calls_1 rest_1 Pre_1 Post := by
  intro l hfl _ _ p e ha hc hk s m args below hf hA hF happ hP
  obtain ⟨hcalls, hrest, hpre⟩ := hP
  obtain ⟨-, -, -, hnamed, -, -, -, hat⟩ := (Spec.applies_iff hf).mp happ
  obtain ⟨hg, hn⟩ := and_e (Cond.before_iff.mp (show (Jvm.Cond.and given_1 narrow_1).before args s = true from hpre))
  obtain ⟨g0, q0⟩ := and_e hg
  obtain ⟨w0, rfl⟩ : ∃ w0 : Value, args = #[w0] := by
    have hs : args.size = 1 := by simpa [Cond.value, given_1] using g0
    obtain ⟨L⟩ := args
    match L, hs with
    | [w0], _ => exact ⟨w0, rfl⟩
  have hw := fun d (hd : d ∈ tables_1) => atoms_spec (ws := Jvm.Cond.code x code maxLocals ret :: tables_1) hat d (List.mem_cons_of_mem _ hd)
  have hfit : Fit s := fun {y c} hc i hi => by
    obtain ⟨ha, rfl⟩ := Array.getElem?_eq_some_iff.mp hc
    have q := List.all_eq_true.mp ((Array.all_eq_true_iff_forall_mem.mp hF) _ (Array.getElem_mem ha)) i (List.mem_range.mpr hi)
    simpa [Array.getElem?_eq_getElem hi] using q
  obtain ⟨v0, e0, r0⟩ := isR_v q0
  obtain rfl : w0 = v0 := Option.some.inj e0
  obtain ⟨n1, n2⟩ := and_e hn
  obtain ⟨ra, rfl⟩ : ∃ ra, w0 = .ref ra := by
    rcases ref_cases r0 with rfl | ⟨ra, rfl⟩
    · exfalso
      simp only [Cond.value, e0] at n1
      split at n1 <;> cases n1
    · exact ⟨ra, rfl⟩
  obtain ⟨cl, Ar⟩ := Arr.start e0 n1
  obtain ⟨xs, hxs⟩ := script_ints hfit Ar
  have hlen : xs.length ≤ 260 := by
    have e1 : cl.slots.size = xs.length := by rw [← Array.length_toList, hxs, List.length_map]
    exact script_len e0 Ar e1 n2
  obtain ⟨fu, hfu⟩ := owed xs hlen
  obtain ⟨n, o, h1, h2, h3, _, L, rfl, ⟨w, H', rfl, hv, -, -, N⟩, hq⟩ := okLAW l s _ hw fu xs 1 hfu tables_1 s.heap.size (ad1 ra s.heap.size) s.heap (HR.start1 CN lay Ar hxs) p e ha hc hk s m _ below hf ((Spec.applies_iff_loose hf).mp happ).1 ⟨rfl, State.Warmed39.refl s, rfl⟩ trivial
  obtain rfl : w = some (.int 1) := hv
  refine ⟨n, _, h1, h2, h3, hpost _ _ _ _ _ _ ⟨Cond.after_iff.mpr rfl, Cond.after_iff.mpr (eq_i res_at (Term.int_eval (1)) rfl), trivial⟩ ⟨hq.1, hq.2.1, (hq.2.2.sift fun y hy => Or.inr (N y hy)).mono (by decide) (by decide)⟩⟩
theorem main_1_1 : Claimed_1_1 := comes_1 fun _ _ _ _ _ _ h hF => ⟨h.1, hF⟩
theorem main_1_2 : Claimed_1_2 := comes_1 fun _ _ _ _ _ _ h hF => ⟨h.2.1, hF⟩

end Jvm.Pilot.@@N@@
namespace Jvm.Pilot.@@N@@
open Jvm Jvm.ClassFile Sem Op Lib Jvm.Free Jvm.Stand Jvm.Pilot.@@N@@.Jvm.D
/-! MADE BY PROGRAM (witnessworld.py) out of the Statement's table words and the real class files: 11 classes; the members and pool entries that the words name. The judged class is class 1, her method 11. -/
namespace start1
open Jvm.ClassFile
def u (s : String) : CpInfo := .utf8 (stringToUtf16 s)
/-- a pool by its gaps: so many unusable entries, then the entry; so many at the end -/
def gap : Nat → List CpInfo → List CpInfo
  | 0, r => r
  | n + 1, r => .unusable :: gap n r
def poolList (es : List (Nat × CpInfo)) (last : Nat) : List CpInfo := es.foldr (fun e r => gap e.1 (e.2 :: r)) (gap last [])
def pool (es : List (Nat × CpInfo)) (last : Nat) : Array CpInfo := ⟨poolList es last⟩
def fileOf (pool : Array CpInfo) (this : Nat) (attrs : Array Attribute := #[]) (ms : Array MethodInfo := #[]) (fl : Nat := 33) (sup : Nat := 0) (ifs : Array Nat := #[]) (fds : Array FieldInfo := #[]) : ClassFile where
  minorVersion := 0
  majorVersion := 65
  constantPool := pool
  accessFlags := fl
  thisClass := this
  superClass := sup
  interfaces := ifs
  fields := fds
  methods := ms
  attributes := attrs
def plain (name : String) (sup : Option ClassId) : Class where
  name := name
  kind := .ordinary
  loader := none
  accessFlags := 33
  super := sup
  interfaces := #[]
  cf := none
  fields := #[]
  methods := #[]
  instanceTypes := #[]
  staticTypes := #[]
  resolved := #[]
  callSites := []
  init := .initialized
  statics := none
  mirror := none

def pool0 : Array CpInfo := pool [(5, u "<init>"), (0, u "()V"), (1, .class_ 10), (1, u "java/lang/Object")] 113

def k0c0 : Code := { maxStack := 0, maxLocals := 1, code := object_method_1_code, exceptionTable := #[], attributes := #[] }
def k0m0 : Method := { name := "<init>", desc := "()V", sig := { parameters := [], returnType := none }, accessFlags := 1, code := some k0c0 }
/-- java/lang/Object -/
def k0 : Class := { plain "java/lang/Object" none with
  accessFlags := 33
  interfaces := #[]
  cf := some (fileOf pool0 8 #[] #[{ accessFlags := 1, nameIndex := 5, descriptorIndex := 6, attributes := #[] }] 33 0 #[] #[])
  fields := #[]
  methods := #[k0m0]
  instanceTypes := #[]
  staticTypes := #[]
  resolved := Array.replicate 124 none
  statics := none }

def pool1 : Array CpInfo := pool [(2, .class_ 4), (1, u "java/lang/Object"), (0, u "<init>"), (0, u "()V"), (0, .long 10), (1, .integer 65535), (0, .methodref 11 12), (0, .class_ 13), (0, .nameAndType 14 15), (0, u "PictureCobolOwnLaw"), (0, u "dOf"), (0, u "(I)I"), (0, .integer 1048576), (0, .integer 2147483647), (0, .methodref 11 19), (0, .nameAndType 20 21), (0, u "p10"), (0, u "(I)J"), (0, .long 2), (1, .methodref 11 25), (0, .nameAndType 26 27), (0, u "cell"), (0, u "([II)I"), (0, .class_ 29), (0, u "PictureCobol"), (0, .methodref 28 31), (0, .nameAndType 5 32), (0, u "(II)V"), (0, .methodref 11 34), (0, .nameAndType 35 15), (0, u "fOf"), (0, .methodref 11 37), (0, .nameAndType 38 39), (0, u "sgOf"), (0, u "(I)Z"), (0, .methodref 28 41), (0, .nameAndType 42 43), (0, u "declareField"), (0, u "(IIZ)I"), (0, .methodref 28 45), (0, .nameAndType 46 47), (0, u "setValue"), (0, u "(II)Z"), (0, .methodref 11 49), (0, .nameAndType 50 15), (0, u "kindOf"), (0, .methodref 11 52), (0, .nameAndType 53 54), (0, u "ix"), (0, u "(II)I"), (0, .methodref 28 56), (0, .nameAndType 57 39), (0, u "onSizeError"), (0, .methodref 11 59), (0, .nameAndType 60 39), (0, u "roundedOf"), (0, .methodref 28 62), (0, .nameAndType 63 64), (0, u "statement"), (0, u "(IIII)I"), (0, .methodref 11 66), (0, .nameAndType 67 39), (0, u "targetOf"), (0, .methodref 28 69), (0, .nameAndType 70 71), (0, u "compile"), (0, u "()I"), (0, .methodref 28 73), (0, .nameAndType 74 75), (0, u "isHalted"), (0, u "()Z"), (0, .methodref 28 77), (0, .nameAndType 78 75), (0, u "restart"), (0, .methodref 28 80), (0, .nameAndType 81 71), (0, u "getPc"), (0, .methodref 28 83), (0, .nameAndType 84 15), (0, u "getValue"), (0, .methodref 11 86), (0, .nameAndType 87 88), (0, u "sizeErr"), (0, u "(IZJIJIII)Z"), (0, .long 100000), (1, .methodref 28 92), (0, .nameAndType 93 71), (0, u "getSizeErrors"), (0, .methodref 28 95), (0, .nameAndType 96 15), (0, u "run"), (0, .methodref 28 98), (0, .nameAndType 99 71), (0, u "getFieldCount"), (3, u "law"), (0, u "([I)Z")] 4

def k1m0 : Method := { name := "<init>", desc := "()V", sig := { parameters := [], returnType := none }, accessFlags := 1, code := none }
def k1c1 : Code := { maxStack := 2, maxLocals := 2, code := method_2_code, exceptionTable := #[], attributes := #[] }
def k1m1 : Method := { name := "cell", desc := "([II)I", sig := { parameters := [(.array .int), .int], returnType := some .int }, accessFlags := 10, code := some k1c1 }
def k1c2 : Code := { maxStack := 4, maxLocals := 4, code := method_3_code, exceptionTable := #[], attributes := #[] }
def k1m2 : Method := { name := "p10", desc := "(I)J", sig := { parameters := [.int], returnType := some .long }, accessFlags := 10, code := some k1c2 }
def k1c3 : Code := { maxStack := 3, maxLocals := 1, code := method_4_code, exceptionTable := #[], attributes := #[] }
def k1m3 : Method := { name := "dOf", desc := "(I)I", sig := { parameters := [.int], returnType := some .int }, accessFlags := 10, code := some k1c3 }
def k1c4 : Code := { maxStack := 3, maxLocals := 1, code := method_5_code, exceptionTable := #[], attributes := #[] }
def k1m4 : Method := { name := "fOf", desc := "(I)I", sig := { parameters := [.int], returnType := some .int }, accessFlags := 10, code := some k1c4 }
def k1c5 : Code := { maxStack := 2, maxLocals := 1, code := method_6_code, exceptionTable := #[], attributes := #[] }
def k1m5 : Method := { name := "sgOf", desc := "(I)Z", sig := { parameters := [.int], returnType := some .boolean }, accessFlags := 10, code := some k1c5 }
def k1c6 : Code := { maxStack := 2, maxLocals := 2, code := method_7_code, exceptionTable := #[], attributes := #[] }
def k1m6 : Method := { name := "ix", desc := "(II)I", sig := { parameters := [.int, .int], returnType := some .int }, accessFlags := 10, code := some k1c6 }
def k1c7 : Code := { maxStack := 3, maxLocals := 2, code := method_8_code, exceptionTable := #[], attributes := #[] }
def k1m7 : Method := { name := "kindOf", desc := "(I)I", sig := { parameters := [.int], returnType := some .int }, accessFlags := 10, code := some k1c7 }
def k1c8 : Code := { maxStack := 2, maxLocals := 1, code := method_9_code, exceptionTable := #[], attributes := #[] }
def k1m8 : Method := { name := "roundedOf", desc := "(I)Z", sig := { parameters := [.int], returnType := some .boolean }, accessFlags := 10, code := some k1c8 }
def k1c9 : Code := { maxStack := 2, maxLocals := 1, code := method_10_code, exceptionTable := #[], attributes := #[] }
def k1m9 : Method := { name := "targetOf", desc := "(I)Z", sig := { parameters := [.int], returnType := some .boolean }, accessFlags := 10, code := some k1c9 }
def k1c10 : Code := { maxStack := 6, maxLocals := 19, code := method_11_code, exceptionTable := #[], attributes := #[] }
def k1m10 : Method := { name := "sizeErr", desc := "(IZJIJIII)Z", sig := { parameters := [.int, .boolean, .long, .int, .long, .int, .int, .int], returnType := some .boolean }, accessFlags := 10, code := some k1c10 }
def k1c11 : Code := { maxStack := 10, maxLocals := 31, code := code, exceptionTable := #[], attributes := #[] }
def k1m11 : Method := { name := "law", desc := "([I)Z", sig := { parameters := [(.array .int)], returnType := some .boolean }, accessFlags := 9, code := some k1c11 }
/-- PictureCobolOwnLaw -/
def k1 : Class := { plain "PictureCobolOwnLaw" (some 0) with
  accessFlags := 49
  interfaces := #[]
  cf := some (fileOf pool1 11 #[] #[{ accessFlags := 1, nameIndex := 5, descriptorIndex := 6, attributes := #[] }, { accessFlags := 10, nameIndex := 26, descriptorIndex := 27, attributes := #[] }, { accessFlags := 10, nameIndex := 20, descriptorIndex := 21, attributes := #[] }, { accessFlags := 10, nameIndex := 14, descriptorIndex := 15, attributes := #[] }, { accessFlags := 10, nameIndex := 35, descriptorIndex := 15, attributes := #[] }, { accessFlags := 10, nameIndex := 38, descriptorIndex := 39, attributes := #[] }, { accessFlags := 10, nameIndex := 53, descriptorIndex := 54, attributes := #[] }, { accessFlags := 10, nameIndex := 50, descriptorIndex := 15, attributes := #[] }, { accessFlags := 10, nameIndex := 60, descriptorIndex := 39, attributes := #[] }, { accessFlags := 10, nameIndex := 67, descriptorIndex := 39, attributes := #[] }, { accessFlags := 10, nameIndex := 87, descriptorIndex := 88, attributes := #[] }, { accessFlags := 9, nameIndex := 103, descriptorIndex := 104, attributes := #[] }] 49 2 #[] #[])
  fields := #[]
  methods := #[k1m0, k1m1, k1m2, k1m3, k1m4, k1m5, k1m6, k1m7, k1m8, k1m9, k1m10, k1m11]
  instanceTypes := #[]
  staticTypes := #[]
  resolved := Array.replicate 109 none
  statics := none }

def pool2 : Array CpInfo := pool [(1, .methodref 2 3), (0, .class_ 4), (0, .nameAndType 5 6), (0, u "java/lang/Object"), (0, u "<init>"), (0, u "()V"), (0, .fieldref 8 9), (0, .class_ 10), (0, .nameAndType 11 12), (0, u "PictureCobol"), (0, u "fInt"), (0, u "[I"), (0, .fieldref 8 14), (0, .nameAndType 15 12), (0, u "fFrac"), (0, .fieldref 8 17), (0, .nameAndType 18 12), (0, u "fVal"), (0, .fieldref 8 20), (0, .nameAndType 21 22), (0, u "fSigned"), (0, u "[Z"), (0, .fieldref 8 24), (0, .nameAndType 25 12), (0, u "sKind"), (0, .fieldref 8 27), (0, .nameAndType 28 22), (0, u "sRounded"), (0, .fieldref 8 30), (0, .nameAndType 31 12), (0, u "sA"), (0, .fieldref 8 33), (0, .nameAndType 34 12), (0, u "sB"), (0, .fieldref 8 36), (0, .nameAndType 37 12), (0, u "sC"), (0, .fieldref 8 39), (0, .nameAndType 40 22), (0, u "sHasErr"), (0, .fieldref 8 42), (0, .nameAndType 43 12), (0, u "sErr"), (0, .methodref 8 45), (0, .nameAndType 46 47), (0, u "clamp"), (0, u "(III)I"), (0, .fieldref 8 49), (0, .nameAndType 50 51), (0, u "maxFields"), (0, u "I"), (0, .fieldref 8 53), (0, .nameAndType 54 51), (0, u "maxStatements"), (0, .fieldref 8 56), (0, .nameAndType 57 51), (0, u "fieldCount"), (0, .fieldref 8 59), (0, .nameAndType 60 51), (0, u "stmtCount"), (0, .fieldref 8 62), (0, .nameAndType 63 64), (0, u "compiled"), (0, u "Z"), (0, .fieldref 8 66), (0, .nameAndType 67 64), (0, u "halted"), (0, .fieldref 8 69), (0, .nameAndType 70 51), (0, u "pc"), (0, .fieldref 8 72), (0, .nameAndType 73 51), (0, u "executed"), (0, .fieldref 8 75), (0, .nameAndType 76 51), (0, u "sizeErrors"), (0, .methodref 8 78), (0, .nameAndType 79 80), (0, u "isField"), (0, u "(I)Z"), (0, .methodref 8 82), (0, .nameAndType 83 84), (0, u "digits"), (0, u "(I)I"), (0, .methodref 8 86), (0, .nameAndType 87 88), (0, u "pow10"), (0, u "(I)J"), (0, .methodref 8 90), (0, .nameAndType 91 80), (0, u "validKind"), (0, .methodref 8 93), (0, .nameAndType 94 95), (0, u "operandsOk"), (0, u "(III)Z"), (0, .methodref 8 97), (0, .nameAndType 98 80), (0, u "isArith"), (0, .methodref 8 100), (0, .nameAndType 101 102), (0, u "isBad"), (0, u "(II)Z"), (0, .methodref 8 104), (0, .nameAndType 105 106), (0, u "execute"), (0, u "(I)V"), (0, .methodref 8 108), (0, .nameAndType 109 102), (0, u "inTargets"), (0, .long 10), (1, .fieldref 8 113), (0, .nameAndType 114 115), (0, u "num"), (0, u "J"), (0, .methodref 8 117), (0, .nameAndType 118 119), (0, u "absL"), (0, u "(J)J"), (0, .fieldref 8 121), (0, .nameAndType 122 115), (0, u "den"), (0, .long 2), (1, .methodref 8 126), (0, .nameAndType 127 106), (0, u "execMove"), (0, .methodref 8 129), (0, .nameAndType 130 106), (0, u "execArith"), (0, .methodref 8 132), (0, .nameAndType 133 106), (0, u "execIf"), (0, .methodref 8 135), (0, .nameAndType 136 137), (0, u "toInteger"), (0, u "(Z)J"), (0, .methodref 8 139), (0, .nameAndType 140 141), (0, u "lowDigits"), (0, u "(JI)I"), (0, .methodref 8 143), (0, .nameAndType 144 145), (0, u "formDivision"), (0, u "(JJIIJ)Z"), (0, .methodref 8 147), (0, .nameAndType 148 80), (0, u "formQuotient"), (0, .methodref 8 150), (0, .nameAndType 151 152), (0, u "sizeError"), (0, u "(IZJ)V"), (0, .methodref 8 154), (0, .nameAndType 155 156), (0, u "fits"), (0, u "(JI)Z"), (0, u "REFUSED"), (2, u "COMPILE_OK"), (1, u "RUNNING"), (1, u "HALTED"), (1, u "MAX_DIGITS"), (1, u "MAX_STEPS"), (1, u "MOVE"), (0, u "ADD"), (0, u "SUBTRACT"), (1, u "MULTIPLY"), (1, u "DIVIDE"), (0, u "IF_LESS"), (1, u "IF_EQUAL"), (1, u "GO_TO"), (1, u "STOP"), (1, u "ROUNDED"), (1, u "(II)V"), (2, u "declareField"), (0, u "(IIZ)I"), (1, u "setValue"), (0, u "statement"), (0, u "(IIII)I"), (1, u "onSizeError"), (0, u "compile"), (0, u "()I"), (0, u "run"), (0, u "restart"), (0, u "()Z"), (0, u "getValue"), (0, u "getPc"), (0, u "isHalted"), (0, u "getSizeErrors"), (1, u "getFieldCount")] 3

def k2c0 : Code := { maxStack := 5, maxLocals := 3, code := prog_1_method_1_code, exceptionTable := #[], attributes := #[] }
def k2m0 : Method := { name := "<init>", desc := "(II)V", sig := { parameters := [.int, .int], returnType := none }, accessFlags := 1, code := some k2c0 }
def k2c1 : Code := { maxStack := 3, maxLocals := 6, code := prog_1_method_2_code, exceptionTable := #[], attributes := #[] }
def k2m1 : Method := { name := "declareField", desc := "(IIZ)I", sig := { parameters := [.int, .int, .boolean], returnType := some .int }, accessFlags := 1, code := some k2c1 }
def k2c2 : Code := { maxStack := 4, maxLocals := 9, code := prog_1_method_3_code, exceptionTable := #[], attributes := #[] }
def k2m2 : Method := { name := "setValue", desc := "(II)Z", sig := { parameters := [.int, .int], returnType := some .boolean }, accessFlags := 1, code := some k2c2 }
def k2c3 : Code := { maxStack := 4, maxLocals := 7, code := prog_1_method_4_code, exceptionTable := #[], attributes := #[] }
def k2m3 : Method := { name := "statement", desc := "(IIII)I", sig := { parameters := [.int, .int, .int, .int], returnType := some .int }, accessFlags := 1, code := some k2c3 }
def k2c4 : Code := { maxStack := 3, maxLocals := 3, code := prog_1_method_5_code, exceptionTable := #[], attributes := #[] }
def k2m4 : Method := { name := "onSizeError", desc := "(I)Z", sig := { parameters := [.int], returnType := some .boolean }, accessFlags := 1, code := some k2c4 }
def k2c5 : Code := { maxStack := 3, maxLocals := 3, code := prog_1_method_6_code, exceptionTable := #[], attributes := #[] }
def k2m5 : Method := { name := "compile", desc := "()I", sig := { parameters := [], returnType := some .int }, accessFlags := 1, code := some k2c5 }
def k2c6 : Code := { maxStack := 4, maxLocals := 4, code := prog_1_method_7_code, exceptionTable := #[], attributes := #[] }
def k2m6 : Method := { name := "run", desc := "(I)I", sig := { parameters := [.int], returnType := some .int }, accessFlags := 1, code := some k2c6 }
def k2c7 : Code := { maxStack := 2, maxLocals := 1, code := prog_1_method_8_code, exceptionTable := #[], attributes := #[] }
def k2m7 : Method := { name := "restart", desc := "()Z", sig := { parameters := [], returnType := some .boolean }, accessFlags := 1, code := some k2c7 }
def k2c8 : Code := { maxStack := 2, maxLocals := 2, code := prog_1_method_9_code, exceptionTable := #[], attributes := #[] }
def k2m8 : Method := { name := "getValue", desc := "(I)I", sig := { parameters := [.int], returnType := some .int }, accessFlags := 1, code := some k2c8 }
def k2c9 : Code := { maxStack := 1, maxLocals := 1, code := prog_1_method_10_code, exceptionTable := #[], attributes := #[] }
def k2m9 : Method := { name := "getPc", desc := "()I", sig := { parameters := [], returnType := some .int }, accessFlags := 1, code := some k2c9 }
def k2c10 : Code := { maxStack := 1, maxLocals := 1, code := prog_1_method_11_code, exceptionTable := #[], attributes := #[] }
def k2m10 : Method := { name := "isHalted", desc := "()Z", sig := { parameters := [], returnType := some .boolean }, accessFlags := 1, code := some k2c10 }
def k2c11 : Code := { maxStack := 1, maxLocals := 1, code := prog_1_method_12_code, exceptionTable := #[], attributes := #[] }
def k2m11 : Method := { name := "getSizeErrors", desc := "()I", sig := { parameters := [], returnType := some .int }, accessFlags := 1, code := some k2c11 }
def k2c12 : Code := { maxStack := 1, maxLocals := 1, code := prog_1_method_14_code, exceptionTable := #[], attributes := #[] }
def k2m12 : Method := { name := "getFieldCount", desc := "()I", sig := { parameters := [], returnType := some .int }, accessFlags := 1, code := some k2c12 }
def k2c13 : Code := { maxStack := 2, maxLocals := 4, code := prog_1_method_16_code, exceptionTable := #[], attributes := #[] }
def k2m13 : Method := { name := "clamp", desc := "(III)I", sig := { parameters := [.int, .int, .int], returnType := some .int }, accessFlags := 2, code := some k2c13 }
def k2c14 : Code := { maxStack := 2, maxLocals := 2, code := prog_1_method_17_code, exceptionTable := #[], attributes := #[] }
def k2m14 : Method := { name := "isField", desc := "(I)Z", sig := { parameters := [.int], returnType := some .boolean }, accessFlags := 2, code := some k2c14 }
def k2c15 : Code := { maxStack := 3, maxLocals := 2, code := prog_1_method_18_code, exceptionTable := #[], attributes := #[] }
def k2m15 : Method := { name := "digits", desc := "(I)I", sig := { parameters := [.int], returnType := some .int }, accessFlags := 2, code := some k2c15 }
def k2c16 : Code := { maxStack := 2, maxLocals := 2, code := prog_1_method_19_code, exceptionTable := #[], attributes := #[] }
def k2m16 : Method := { name := "isArith", desc := "(I)Z", sig := { parameters := [.int], returnType := some .boolean }, accessFlags := 2, code := some k2c16 }
def k2c17 : Code := { maxStack := 2, maxLocals := 2, code := prog_1_method_20_code, exceptionTable := #[], attributes := #[] }
def k2m17 : Method := { name := "validKind", desc := "(I)Z", sig := { parameters := [.int], returnType := some .boolean }, accessFlags := 2, code := some k2c17 }
def k2c18 : Code := { maxStack := 2, maxLocals := 4, code := prog_1_method_21_code, exceptionTable := #[], attributes := #[] }
def k2m18 : Method := { name := "operandsOk", desc := "(III)Z", sig := { parameters := [.int, .int, .int], returnType := some .boolean }, accessFlags := 2, code := some k2c18 }
def k2c19 : Code := { maxStack := 2, maxLocals := 3, code := prog_1_method_22_code, exceptionTable := #[], attributes := #[] }
def k2m19 : Method := { name := "inTargets", desc := "(II)Z", sig := { parameters := [.int, .int], returnType := some .boolean }, accessFlags := 2, code := some k2c19 }
def k2c20 : Code := { maxStack := 3, maxLocals := 4, code := prog_1_method_23_code, exceptionTable := #[], attributes := #[] }
def k2m20 : Method := { name := "isBad", desc := "(II)Z", sig := { parameters := [.int, .int], returnType := some .boolean }, accessFlags := 2, code := some k2c20 }
def k2c21 : Code := { maxStack := 4, maxLocals := 5, code := prog_1_method_24_code, exceptionTable := #[], attributes := #[] }
def k2m21 : Method := { name := "pow10", desc := "(I)J", sig := { parameters := [.int], returnType := some .long }, accessFlags := 2, code := some k2c21 }
def k2c22 : Code := { maxStack := 4, maxLocals := 3, code := prog_1_method_25_code, exceptionTable := #[], attributes := #[] }
def k2m22 : Method := { name := "absL", desc := "(J)J", sig := { parameters := [.long], returnType := some .long }, accessFlags := 2, code := some k2c22 }
def k2c23 : Code := { maxStack := 4, maxLocals := 8, code := prog_1_method_26_code, exceptionTable := #[], attributes := #[] }
def k2m23 : Method := { name := "toInteger", desc := "(Z)J", sig := { parameters := [.boolean], returnType := some .long }, accessFlags := 2, code := some k2c23 }
def k2c24 : Code := { maxStack := 4, maxLocals := 6, code := prog_1_method_27_code, exceptionTable := #[], attributes := #[] }
def k2m24 : Method := { name := "fits", desc := "(JI)Z", sig := { parameters := [.long, .int], returnType := some .boolean }, accessFlags := 2, code := some k2c24 }
def k2c25 : Code := { maxStack := 4, maxLocals := 9, code := prog_1_method_28_code, exceptionTable := #[], attributes := #[] }
def k2m25 : Method := { name := "lowDigits", desc := "(JI)I", sig := { parameters := [.long, .int], returnType := some .int }, accessFlags := 2, code := some k2c25 }
def k2c26 : Code := { maxStack := 3, maxLocals := 3, code := prog_1_method_29_code, exceptionTable := #[], attributes := #[] }
def k2m26 : Method := { name := "execute", desc := "(I)V", sig := { parameters := [.int], returnType := none }, accessFlags := 2, code := some k2c26 }
def k2c27 : Code := { maxStack := 6, maxLocals := 11, code := prog_1_method_30_code, exceptionTable := #[], attributes := #[] }
def k2m27 : Method := { name := "execMove", desc := "(I)V", sig := { parameters := [.int], returnType := none }, accessFlags := 2, code := some k2c27 }
def k2c28 : Code := { maxStack := 4, maxLocals := 13, code := prog_1_method_31_code, exceptionTable := #[], attributes := #[] }
def k2m28 : Method := { name := "execIf", desc := "(I)V", sig := { parameters := [.int], returnType := none }, accessFlags := 2, code := some k2c28 }
def k2c29 : Code := { maxStack := 9, maxLocals := 21, code := prog_1_method_32_code, exceptionTable := #[], attributes := #[] }
def k2m29 : Method := { name := "formQuotient", desc := "(I)Z", sig := { parameters := [.int], returnType := some .boolean }, accessFlags := 2, code := some k2c29 }
def k2c30 : Code := { maxStack := 5, maxLocals := 13, code := prog_1_method_33_code, exceptionTable := #[], attributes := #[] }
def k2m30 : Method := { name := "formDivision", desc := "(JJIIJ)Z", sig := { parameters := [.long, .long, .int, .int, .long], returnType := some .boolean }, accessFlags := 2, code := some k2c30 }
def k2c31 : Code := { maxStack := 5, maxLocals := 7, code := prog_1_method_34_code, exceptionTable := #[], attributes := #[] }
def k2m31 : Method := { name := "execArith", desc := "(I)V", sig := { parameters := [.int], returnType := none }, accessFlags := 2, code := some k2c31 }
def k2c32 : Code := { maxStack := 6, maxLocals := 7, code := prog_1_method_35_code, exceptionTable := #[], attributes := #[] }
def k2m32 : Method := { name := "sizeError", desc := "(IZJ)V", sig := { parameters := [.int, .boolean, .long], returnType := none }, accessFlags := 2, code := some k2c32 }
/-- PictureCobol -/
def k2 : Class := { plain "PictureCobol" (some 0) with
  accessFlags := 49
  interfaces := #[]
  cf := some (fileOf pool2 8 #[] #[{ accessFlags := 1, nameIndex := 5, descriptorIndex := 187, attributes := #[] }, { accessFlags := 1, nameIndex := 190, descriptorIndex := 191, attributes := #[] }, { accessFlags := 1, nameIndex := 193, descriptorIndex := 102, attributes := #[] }, { accessFlags := 1, nameIndex := 194, descriptorIndex := 195, attributes := #[] }, { accessFlags := 1, nameIndex := 197, descriptorIndex := 80, attributes := #[] }, { accessFlags := 1, nameIndex := 198, descriptorIndex := 199, attributes := #[] }, { accessFlags := 1, nameIndex := 200, descriptorIndex := 84, attributes := #[] }, { accessFlags := 1, nameIndex := 201, descriptorIndex := 202, attributes := #[] }, { accessFlags := 1, nameIndex := 203, descriptorIndex := 84, attributes := #[] }, { accessFlags := 1, nameIndex := 204, descriptorIndex := 199, attributes := #[] }, { accessFlags := 1, nameIndex := 205, descriptorIndex := 202, attributes := #[] }, { accessFlags := 1, nameIndex := 206, descriptorIndex := 199, attributes := #[] }, { accessFlags := 1, nameIndex := 208, descriptorIndex := 199, attributes := #[] }, { accessFlags := 2, nameIndex := 46, descriptorIndex := 47, attributes := #[] }, { accessFlags := 2, nameIndex := 79, descriptorIndex := 80, attributes := #[] }, { accessFlags := 2, nameIndex := 83, descriptorIndex := 84, attributes := #[] }, { accessFlags := 2, nameIndex := 98, descriptorIndex := 80, attributes := #[] }, { accessFlags := 2, nameIndex := 91, descriptorIndex := 80, attributes := #[] }, { accessFlags := 2, nameIndex := 94, descriptorIndex := 95, attributes := #[] }, { accessFlags := 2, nameIndex := 109, descriptorIndex := 102, attributes := #[] }, { accessFlags := 2, nameIndex := 101, descriptorIndex := 102, attributes := #[] }, { accessFlags := 2, nameIndex := 87, descriptorIndex := 88, attributes := #[] }, { accessFlags := 2, nameIndex := 118, descriptorIndex := 119, attributes := #[] }, { accessFlags := 2, nameIndex := 136, descriptorIndex := 137, attributes := #[] }, { accessFlags := 2, nameIndex := 155, descriptorIndex := 156, attributes := #[] }, { accessFlags := 2, nameIndex := 140, descriptorIndex := 141, attributes := #[] }, { accessFlags := 2, nameIndex := 105, descriptorIndex := 106, attributes := #[] }, { accessFlags := 2, nameIndex := 127, descriptorIndex := 106, attributes := #[] }, { accessFlags := 2, nameIndex := 133, descriptorIndex := 106, attributes := #[] }, { accessFlags := 2, nameIndex := 148, descriptorIndex := 80, attributes := #[] }, { accessFlags := 2, nameIndex := 144, descriptorIndex := 145, attributes := #[] }, { accessFlags := 2, nameIndex := 130, descriptorIndex := 106, attributes := #[] }, { accessFlags := 2, nameIndex := 151, descriptorIndex := 152, attributes := #[] }] 49 2 #[] #[{ accessFlags := 25, nameIndex := 157, descriptorIndex := 51, attributes := #[] }, { accessFlags := 25, nameIndex := 160, descriptorIndex := 51, attributes := #[] }, { accessFlags := 25, nameIndex := 162, descriptorIndex := 51, attributes := #[] }, { accessFlags := 25, nameIndex := 164, descriptorIndex := 51, attributes := #[] }, { accessFlags := 25, nameIndex := 166, descriptorIndex := 51, attributes := #[] }, { accessFlags := 25, nameIndex := 168, descriptorIndex := 51, attributes := #[] }, { accessFlags := 25, nameIndex := 170, descriptorIndex := 51, attributes := #[] }, { accessFlags := 25, nameIndex := 171, descriptorIndex := 51, attributes := #[] }, { accessFlags := 25, nameIndex := 172, descriptorIndex := 51, attributes := #[] }, { accessFlags := 25, nameIndex := 174, descriptorIndex := 51, attributes := #[] }, { accessFlags := 25, nameIndex := 176, descriptorIndex := 51, attributes := #[] }, { accessFlags := 25, nameIndex := 177, descriptorIndex := 51, attributes := #[] }, { accessFlags := 25, nameIndex := 179, descriptorIndex := 51, attributes := #[] }, { accessFlags := 25, nameIndex := 181, descriptorIndex := 51, attributes := #[] }, { accessFlags := 25, nameIndex := 183, descriptorIndex := 51, attributes := #[] }, { accessFlags := 25, nameIndex := 185, descriptorIndex := 51, attributes := #[] }, { accessFlags := 2, nameIndex := 50, descriptorIndex := 51, attributes := #[] }, { accessFlags := 2, nameIndex := 54, descriptorIndex := 51, attributes := #[] }, { accessFlags := 2, nameIndex := 57, descriptorIndex := 51, attributes := #[] }, { accessFlags := 2, nameIndex := 11, descriptorIndex := 12, attributes := #[] }, { accessFlags := 2, nameIndex := 15, descriptorIndex := 12, attributes := #[] }, { accessFlags := 2, nameIndex := 18, descriptorIndex := 12, attributes := #[] }, { accessFlags := 2, nameIndex := 21, descriptorIndex := 22, attributes := #[] }, { accessFlags := 2, nameIndex := 60, descriptorIndex := 51, attributes := #[] }, { accessFlags := 2, nameIndex := 25, descriptorIndex := 12, attributes := #[] }, { accessFlags := 2, nameIndex := 28, descriptorIndex := 22, attributes := #[] }, { accessFlags := 2, nameIndex := 31, descriptorIndex := 12, attributes := #[] }, { accessFlags := 2, nameIndex := 34, descriptorIndex := 12, attributes := #[] }, { accessFlags := 2, nameIndex := 37, descriptorIndex := 12, attributes := #[] }, { accessFlags := 2, nameIndex := 40, descriptorIndex := 22, attributes := #[] }, { accessFlags := 2, nameIndex := 43, descriptorIndex := 12, attributes := #[] }, { accessFlags := 2, nameIndex := 63, descriptorIndex := 64, attributes := #[] }, { accessFlags := 2, nameIndex := 67, descriptorIndex := 64, attributes := #[] }, { accessFlags := 2, nameIndex := 70, descriptorIndex := 51, attributes := #[] }, { accessFlags := 2, nameIndex := 73, descriptorIndex := 51, attributes := #[] }, { accessFlags := 2, nameIndex := 76, descriptorIndex := 51, attributes := #[] }, { accessFlags := 2, nameIndex := 114, descriptorIndex := 115, attributes := #[] }, { accessFlags := 2, nameIndex := 122, descriptorIndex := 115, attributes := #[] }])
  fields := #[{ name := "REFUSED", type := .int, accessFlags := 25, slot := 0, constantValue := 0 }, { name := "COMPILE_OK", type := .int, accessFlags := 25, slot := 1, constantValue := 0 }, { name := "RUNNING", type := .int, accessFlags := 25, slot := 2, constantValue := 0 }, { name := "HALTED", type := .int, accessFlags := 25, slot := 3, constantValue := 0 }, { name := "MAX_DIGITS", type := .int, accessFlags := 25, slot := 4, constantValue := 0 }, { name := "MAX_STEPS", type := .int, accessFlags := 25, slot := 5, constantValue := 0 }, { name := "MOVE", type := .int, accessFlags := 25, slot := 6, constantValue := 0 }, { name := "ADD", type := .int, accessFlags := 25, slot := 7, constantValue := 0 }, { name := "SUBTRACT", type := .int, accessFlags := 25, slot := 8, constantValue := 0 }, { name := "MULTIPLY", type := .int, accessFlags := 25, slot := 9, constantValue := 0 }, { name := "DIVIDE", type := .int, accessFlags := 25, slot := 10, constantValue := 0 }, { name := "IF_LESS", type := .int, accessFlags := 25, slot := 11, constantValue := 0 }, { name := "IF_EQUAL", type := .int, accessFlags := 25, slot := 12, constantValue := 0 }, { name := "GO_TO", type := .int, accessFlags := 25, slot := 13, constantValue := 0 }, { name := "STOP", type := .int, accessFlags := 25, slot := 14, constantValue := 0 }, { name := "ROUNDED", type := .int, accessFlags := 25, slot := 15, constantValue := 0 }, { name := "maxFields", type := .int, accessFlags := 2, slot := 0, constantValue := 0 }, { name := "maxStatements", type := .int, accessFlags := 2, slot := 1, constantValue := 0 }, { name := "fieldCount", type := .int, accessFlags := 2, slot := 2, constantValue := 0 }, { name := "fInt", type := (.array .int), accessFlags := 2, slot := 3, constantValue := 0 }, { name := "fFrac", type := (.array .int), accessFlags := 2, slot := 4, constantValue := 0 }, { name := "fVal", type := (.array .int), accessFlags := 2, slot := 5, constantValue := 0 }, { name := "fSigned", type := (.array .boolean), accessFlags := 2, slot := 6, constantValue := 0 }, { name := "stmtCount", type := .int, accessFlags := 2, slot := 7, constantValue := 0 }, { name := "sKind", type := (.array .int), accessFlags := 2, slot := 8, constantValue := 0 }, { name := "sRounded", type := (.array .boolean), accessFlags := 2, slot := 9, constantValue := 0 }, { name := "sA", type := (.array .int), accessFlags := 2, slot := 10, constantValue := 0 }, { name := "sB", type := (.array .int), accessFlags := 2, slot := 11, constantValue := 0 }, { name := "sC", type := (.array .int), accessFlags := 2, slot := 12, constantValue := 0 }, { name := "sHasErr", type := (.array .boolean), accessFlags := 2, slot := 13, constantValue := 0 }, { name := "sErr", type := (.array .int), accessFlags := 2, slot := 14, constantValue := 0 }, { name := "compiled", type := .boolean, accessFlags := 2, slot := 15, constantValue := 0 }, { name := "halted", type := .boolean, accessFlags := 2, slot := 16, constantValue := 0 }, { name := "pc", type := .int, accessFlags := 2, slot := 17, constantValue := 0 }, { name := "executed", type := .int, accessFlags := 2, slot := 18, constantValue := 0 }, { name := "sizeErrors", type := .int, accessFlags := 2, slot := 19, constantValue := 0 }, { name := "num", type := .long, accessFlags := 2, slot := 20, constantValue := 0 }, { name := "den", type := .long, accessFlags := 2, slot := 21, constantValue := 0 }]
  methods := #[k2m0, k2m1, k2m2, k2m3, k2m4, k2m5, k2m6, k2m7, k2m8, k2m9, k2m10, k2m11, k2m12, k2m13, k2m14, k2m15, k2m16, k2m17, k2m18, k2m19, k2m20, k2m21, k2m22, k2m23, k2m24, k2m25, k2m26, k2m27, k2m28, k2m29, k2m30, k2m31, k2m32]
  instanceTypes := #[.int, .int, .int, (.array .int), (.array .int), (.array .int), (.array .boolean), .int, (.array .int), (.array .boolean), (.array .int), (.array .int), (.array .int), (.array .boolean), (.array .int), .boolean, .boolean, .int, .int, .int, .long, .long]
  staticTypes := #[.int, .int, .int, .int, .int, .int, .int, .int, .int, .int, .int, .int, .int, .int, .int, .int]
  resolved := Array.replicate 212 none
  statics := none }

def pool3 : Array CpInfo := pool [(1, u "java/lang/Cloneable"), (0, .class_ 1), (0, u "java/lang/Object"), (0, .class_ 3)] 3

/-- java/lang/Cloneable -/
def k3 : Class := { plain "java/lang/Cloneable" (some 0) with
  accessFlags := 1537
  interfaces := #[]
  cf := some (fileOf pool3 2 #[] #[] 1537 4 #[] #[])
  fields := #[]
  methods := #[]
  instanceTypes := #[]
  staticTypes := #[]
  resolved := Array.replicate 8 none
  statics := none }

def pool4 : Array CpInfo := pool [(1, u "java/io/Serializable"), (0, .class_ 1), (0, u "java/lang/Object"), (0, .class_ 3)] 3

/-- java/io/Serializable -/
def k4 : Class := { plain "java/io/Serializable" (some 0) with
  accessFlags := 1537
  interfaces := #[]
  cf := some (fileOf pool4 2 #[] #[] 1537 4 #[] #[])
  fields := #[]
  methods := #[]
  instanceTypes := #[]
  staticTypes := #[]
  resolved := Array.replicate 8 none
  statics := none }

/-- the primitive boolean -/
def k5 : Class := { plain "boolean" none with kind := .primitive 'Z', accessFlags := 0x411 }
/-- [Z -/
def k6 : Class := { plain "[Z" (some 0) with kind := .array 5 .boolean, interfaces := #[3, 4], accessFlags := 1041 }

/-- the primitive byte -/
def k7 : Class := { plain "byte" none with kind := .primitive 'B', accessFlags := 0x411 }
/-- [B -/
def k8 : Class := { plain "[B" (some 0) with kind := .array 7 .byte, interfaces := #[3, 4], accessFlags := 1041 }

/-- the primitive int -/
def k9 : Class := { plain "int" none with kind := .primitive 'I', accessFlags := 0x411 }
/-- [I -/
def k10 : Class := { plain "[I" (some 0) with kind := .array 9 .int, interfaces := #[3, 4], accessFlags := 1041 }

def heap : Heap := #[{ cls := 10, slots := #[.int 1, .int 2, .int 3], vm := .none }]
def classes : Array Class := #[k0, k1, k2, k3, k4, k5, k6, k7, k8, k9, k10]
def interned : List (Array UInt16 × Addr) := []
def slotsUsed : Nat := 3
def theMethod : MethodId := ⟨1, 11⟩
def args0 : Array Value := #[.ref 0]
def aboutOver (below : List Frame) : State where
  vm := { classes := classes, interned := interned.toArray }
  heap := heap
  slotsUsed := slotsUsed
  threads := #[{ frames := .invoking theMethod args0 :: below }]
def below0 : List Frame := [.native { method := ⟨0, 0⟩, args := #[] }]
def about1 : State := aboutOver below0
def p0 : Program := .bare "" "" ""
def e0 : Env := launch0.env 0 0 0
theorem w_frames : about1.frames = Frame.invoking theMethod args0 :: below0 := rfl
set_option maxRecDepth 65536 in
theorem w_args : argsFit about1.vm theMethod args0 = true := by decide +kernel
set_option maxRecDepth 65536 in
theorem w_heap : heapFits about1 = true := by decide +kernel
set_option maxRecDepth 65536 in
theorem w_runnable : about1.curStatus? = some .runnable := by decide +kernel
set_option maxRecDepth 65536 in
theorem w_alone : about1.alone = true := by decide +kernel
set_option maxRecDepth 65536 in
theorem w_named : about1.methodNamed? x = some theMethod := by decide +kernel
set_option maxRecDepth 65536 in
theorem w_hears : about1.hears theMethod below0 = true := by decide +kernel
set_option maxRecDepth 65536 in
theorem w_ripe : about1.ripe theMethod args0 below0 = true := by decide +kernel
theorem w_running : about1.status = .running := rfl
set_option maxRecDepth 65536 in
theorem w_room : about1.hasRoom e0.platform room_1 = true :=
  launch0.hasRoom_least _ room_1 (by decide +kernel) (by decide +kernel) (by decide +kernel) (by decide +kernel) (by decide +kernel) (by decide +kernel)
theorem allAtoms_all (ts : List Jvm.Cond) (a : Array Jvm.Value) (st : Jvm.State) : (allAtoms ts).before a st = ts.all (fun c => c.before a st) := by
  induction ts with
  | nil => rfl
  | cons c t ih =>
    show (Jvm.Cond.and c (allAtoms t)).before a st = _
    rw [Jvm.Cond.before_and, ih, List.all_cons]
def words1 : List Jvm.Cond := Jvm.Cond.code x code maxLocals ret :: tables_1
/-- a 'code' word, met by the world's own term for the bytes: nothing is compared byte by byte -/
theorem code_word {y : MethodName} {bytes : ByteArray} {mx : Nat} {rt : Option FieldType} {a : Array Value} {s : State} {m : MethodId} {meth : Method} {c : Code} (h1 : s.methodNamed? y = some m) (h2 : s.vm.method? m = some meth) (h3 : meth.code = some c) (h4 : c.code = bytes)
    (h5 : (c.maxLocals == mx && c.exceptionTable.isEmpty && decide (c.maxStack ≤ mostOperands) && decide (meth.sig.returnType = rt) && !meth.locks && decide (parseMethodDescriptor y.desc = some meth.sig)) = true) : (Jvm.Cond.code y bytes mx rt).before a s = true := by
  simp only [Bool.and_eq_true, beq_iff_eq, Bool.not_eq_true', decide_eq_true_eq] at h5
  obtain ⟨⟨⟨⟨⟨g1, g2⟩, g3⟩, g4⟩, g5⟩, g6⟩ := h5
  simp [Cond.before, Cond.holds, Cond.value, h1, h2, h3, h4, g1, g2, g3, g4, g5, g6]
def isCode : Jvm.Cond → Bool
  | .code _ _ _ _ => true
  | _ => false
theorem all_split {L : List Jvm.Cond} {P : Jvm.Cond → Bool} (h1 : L.all (fun c => isCode c || P c) = true) (h2 : ∀ c ∈ L.filter isCode, P c = true) : L.all P = true := by
  refine List.all_eq_true.mpr fun c hc => ?_
  have h := List.all_eq_true.mp h1 c hc
  rcases Bool.eq_false_or_eq_true (isCode c) with hi | hi
  · exact h2 c (List.mem_filter.mpr ⟨hc, hi⟩)
  · simpa [hi] using h
set_option maxRecDepth 65536 in
theorem w_c0 : (Jvm.Cond.code x code maxLocals ret).before args0 about1 = true := code_word (m := ⟨1, 11⟩) (meth := k1m11) (c := k1c11) (by decide +kernel) rfl rfl rfl (by decide +kernel)
set_option maxRecDepth 65536 in
theorem w_c1 : (Jvm.Cond.code ({ cls := "PictureCobolOwnLaw", name := "cell", desc := "([II)I" } : Jvm.MethodName) method_2_code (2 : Nat) (Option.some Jvm.ClassFile.FieldType.int)).before args0 about1 = true := code_word (m := ⟨1, 1⟩) (meth := k1m1) (c := k1c1) (by decide +kernel) rfl rfl rfl (by decide +kernel)
set_option maxRecDepth 65536 in
theorem w_c2 : (Jvm.Cond.code ({ cls := "PictureCobol", name := "<init>", desc := "(II)V" } : Jvm.MethodName) prog_1_method_1_code (3 : Nat) (Option.none : Option Jvm.ClassFile.FieldType)).before args0 about1 = true := code_word (m := ⟨2, 0⟩) (meth := k2m0) (c := k2c0) (by decide +kernel) rfl rfl rfl (by decide +kernel)
set_option maxRecDepth 65536 in
theorem w_c3 : (Jvm.Cond.code ({ cls := "java/lang/Object", name := "<init>", desc := "()V" } : Jvm.MethodName) object_method_1_code (1 : Nat) (Option.none : Option Jvm.ClassFile.FieldType)).before args0 about1 = true := code_word (m := ⟨0, 0⟩) (meth := k0m0) (c := k0c0) (by decide +kernel) rfl rfl rfl (by decide +kernel)
set_option maxRecDepth 65536 in
theorem w_c4 : (Jvm.Cond.code ({ cls := "PictureCobol", name := "clamp", desc := "(III)I" } : Jvm.MethodName) prog_1_method_16_code (4 : Nat) (Option.some Jvm.ClassFile.FieldType.int)).before args0 about1 = true := code_word (m := ⟨2, 13⟩) (meth := k2m13) (c := k2c13) (by decide +kernel) rfl rfl rfl (by decide +kernel)
set_option maxRecDepth 65536 in
theorem w_c5 : (Jvm.Cond.code ({ cls := "PictureCobolOwnLaw", name := "dOf", desc := "(I)I" } : Jvm.MethodName) method_4_code (1 : Nat) (Option.some Jvm.ClassFile.FieldType.int)).before args0 about1 = true := code_word (m := ⟨1, 3⟩) (meth := k1m3) (c := k1c3) (by decide +kernel) rfl rfl rfl (by decide +kernel)
set_option maxRecDepth 65536 in
theorem w_c6 : (Jvm.Cond.code ({ cls := "PictureCobolOwnLaw", name := "fOf", desc := "(I)I" } : Jvm.MethodName) method_5_code (1 : Nat) (Option.some Jvm.ClassFile.FieldType.int)).before args0 about1 = true := code_word (m := ⟨1, 4⟩) (meth := k1m4) (c := k1c4) (by decide +kernel) rfl rfl rfl (by decide +kernel)
set_option maxRecDepth 65536 in
theorem w_c7 : (Jvm.Cond.code ({ cls := "PictureCobolOwnLaw", name := "sgOf", desc := "(I)Z" } : Jvm.MethodName) method_6_code (1 : Nat) (Option.some Jvm.ClassFile.FieldType.boolean)).before args0 about1 = true := code_word (m := ⟨1, 5⟩) (meth := k1m5) (c := k1c5) (by decide +kernel) rfl rfl rfl (by decide +kernel)
set_option maxRecDepth 65536 in
theorem w_c8 : (Jvm.Cond.code ({ cls := "PictureCobol", name := "declareField", desc := "(IIZ)I" } : Jvm.MethodName) prog_1_method_2_code (6 : Nat) (Option.some Jvm.ClassFile.FieldType.int)).before args0 about1 = true := code_word (m := ⟨2, 1⟩) (meth := k2m1) (c := k2c1) (by decide +kernel) rfl rfl rfl (by decide +kernel)
set_option maxRecDepth 65536 in
theorem w_c9 : (Jvm.Cond.code ({ cls := "PictureCobol", name := "getFieldCount", desc := "()I" } : Jvm.MethodName) prog_1_method_14_code (1 : Nat) (Option.some Jvm.ClassFile.FieldType.int)).before args0 about1 = true := code_word (m := ⟨2, 12⟩) (meth := k2m12) (c := k2c12) (by decide +kernel) rfl rfl rfl (by decide +kernel)
set_option maxRecDepth 65536 in
theorem w_c10 : (Jvm.Cond.code ({ cls := "PictureCobol", name := "getValue", desc := "(I)I" } : Jvm.MethodName) prog_1_method_9_code (2 : Nat) (Option.some Jvm.ClassFile.FieldType.int)).before args0 about1 = true := code_word (m := ⟨2, 8⟩) (meth := k2m8) (c := k2c8) (by decide +kernel) rfl rfl rfl (by decide +kernel)
set_option maxRecDepth 65536 in
theorem w_c11 : (Jvm.Cond.code ({ cls := "PictureCobol", name := "isField", desc := "(I)Z" } : Jvm.MethodName) prog_1_method_17_code (2 : Nat) (Option.some Jvm.ClassFile.FieldType.boolean)).before args0 about1 = true := code_word (m := ⟨2, 14⟩) (meth := k2m14) (c := k2c14) (by decide +kernel) rfl rfl rfl (by decide +kernel)
set_option maxRecDepth 65536 in
theorem w_c12 : (Jvm.Cond.code ({ cls := "PictureCobolOwnLaw", name := "p10", desc := "(I)J" } : Jvm.MethodName) method_3_code (4 : Nat) (Option.some Jvm.ClassFile.FieldType.long)).before args0 about1 = true := code_word (m := ⟨1, 2⟩) (meth := k1m2) (c := k1c2) (by decide +kernel) rfl rfl rfl (by decide +kernel)
set_option maxRecDepth 65536 in
theorem w_c13 : (Jvm.Cond.code ({ cls := "PictureCobol", name := "setValue", desc := "(II)Z" } : Jvm.MethodName) prog_1_method_3_code (9 : Nat) (Option.some Jvm.ClassFile.FieldType.boolean)).before args0 about1 = true := code_word (m := ⟨2, 2⟩) (meth := k2m2) (c := k2c2) (by decide +kernel) rfl rfl rfl (by decide +kernel)
set_option maxRecDepth 65536 in
theorem w_c14 : (Jvm.Cond.code ({ cls := "PictureCobol", name := "digits", desc := "(I)I" } : Jvm.MethodName) prog_1_method_18_code (2 : Nat) (Option.some Jvm.ClassFile.FieldType.int)).before args0 about1 = true := code_word (m := ⟨2, 15⟩) (meth := k2m15) (c := k2c15) (by decide +kernel) rfl rfl rfl (by decide +kernel)
set_option maxRecDepth 65536 in
theorem w_c15 : (Jvm.Cond.code ({ cls := "PictureCobol", name := "pow10", desc := "(I)J" } : Jvm.MethodName) prog_1_method_24_code (5 : Nat) (Option.some Jvm.ClassFile.FieldType.long)).before args0 about1 = true := code_word (m := ⟨2, 21⟩) (meth := k2m21) (c := k2c21) (by decide +kernel) rfl rfl rfl (by decide +kernel)
set_option maxRecDepth 65536 in
theorem w_c16 : (Jvm.Cond.code ({ cls := "PictureCobolOwnLaw", name := "kindOf", desc := "(I)I" } : Jvm.MethodName) method_8_code (2 : Nat) (Option.some Jvm.ClassFile.FieldType.int)).before args0 about1 = true := code_word (m := ⟨1, 7⟩) (meth := k1m7) (c := k1c7) (by decide +kernel) rfl rfl rfl (by decide +kernel)
set_option maxRecDepth 65536 in
theorem w_c17 : (Jvm.Cond.code ({ cls := "PictureCobolOwnLaw", name := "ix", desc := "(II)I" } : Jvm.MethodName) method_7_code (2 : Nat) (Option.some Jvm.ClassFile.FieldType.int)).before args0 about1 = true := code_word (m := ⟨1, 6⟩) (meth := k1m6) (c := k1c6) (by decide +kernel) rfl rfl rfl (by decide +kernel)
set_option maxRecDepth 65536 in
theorem w_c18 : (Jvm.Cond.code ({ cls := "PictureCobolOwnLaw", name := "roundedOf", desc := "(I)Z" } : Jvm.MethodName) method_9_code (1 : Nat) (Option.some Jvm.ClassFile.FieldType.boolean)).before args0 about1 = true := code_word (m := ⟨1, 8⟩) (meth := k1m8) (c := k1c8) (by decide +kernel) rfl rfl rfl (by decide +kernel)
set_option maxRecDepth 65536 in
theorem w_c19 : (Jvm.Cond.code ({ cls := "PictureCobol", name := "statement", desc := "(IIII)I" } : Jvm.MethodName) prog_1_method_4_code (7 : Nat) (Option.some Jvm.ClassFile.FieldType.int)).before args0 about1 = true := code_word (m := ⟨2, 3⟩) (meth := k2m3) (c := k2c3) (by decide +kernel) rfl rfl rfl (by decide +kernel)
set_option maxRecDepth 65536 in
theorem w_c20 : (Jvm.Cond.code ({ cls := "PictureCobol", name := "validKind", desc := "(I)Z" } : Jvm.MethodName) prog_1_method_20_code (2 : Nat) (Option.some Jvm.ClassFile.FieldType.boolean)).before args0 about1 = true := code_word (m := ⟨2, 17⟩) (meth := k2m17) (c := k2c17) (by decide +kernel) rfl rfl rfl (by decide +kernel)
set_option maxRecDepth 65536 in
theorem w_c21 : (Jvm.Cond.code ({ cls := "PictureCobol", name := "operandsOk", desc := "(III)Z" } : Jvm.MethodName) prog_1_method_21_code (4 : Nat) (Option.some Jvm.ClassFile.FieldType.boolean)).before args0 about1 = true := code_word (m := ⟨2, 18⟩) (meth := k2m18) (c := k2c18) (by decide +kernel) rfl rfl rfl (by decide +kernel)
set_option maxRecDepth 65536 in
theorem w_c22 : (Jvm.Cond.code ({ cls := "PictureCobol", name := "isArith", desc := "(I)Z" } : Jvm.MethodName) prog_1_method_19_code (2 : Nat) (Option.some Jvm.ClassFile.FieldType.boolean)).before args0 about1 = true := code_word (m := ⟨2, 16⟩) (meth := k2m16) (c := k2c16) (by decide +kernel) rfl rfl rfl (by decide +kernel)
set_option maxRecDepth 65536 in
theorem w_c23 : (Jvm.Cond.code ({ cls := "PictureCobolOwnLaw", name := "targetOf", desc := "(I)Z" } : Jvm.MethodName) method_10_code (1 : Nat) (Option.some Jvm.ClassFile.FieldType.boolean)).before args0 about1 = true := code_word (m := ⟨1, 9⟩) (meth := k1m9) (c := k1c9) (by decide +kernel) rfl rfl rfl (by decide +kernel)
set_option maxRecDepth 65536 in
theorem w_c24 : (Jvm.Cond.code ({ cls := "PictureCobol", name := "onSizeError", desc := "(I)Z" } : Jvm.MethodName) prog_1_method_5_code (3 : Nat) (Option.some Jvm.ClassFile.FieldType.boolean)).before args0 about1 = true := code_word (m := ⟨2, 4⟩) (meth := k2m4) (c := k2c4) (by decide +kernel) rfl rfl rfl (by decide +kernel)
set_option maxRecDepth 65536 in
theorem w_c25 : (Jvm.Cond.code ({ cls := "PictureCobol", name := "compile", desc := "()I" } : Jvm.MethodName) prog_1_method_6_code (3 : Nat) (Option.some Jvm.ClassFile.FieldType.int)).before args0 about1 = true := code_word (m := ⟨2, 5⟩) (meth := k2m5) (c := k2c5) (by decide +kernel) rfl rfl rfl (by decide +kernel)
set_option maxRecDepth 65536 in
theorem w_c26 : (Jvm.Cond.code ({ cls := "PictureCobol", name := "isBad", desc := "(II)Z" } : Jvm.MethodName) prog_1_method_23_code (4 : Nat) (Option.some Jvm.ClassFile.FieldType.boolean)).before args0 about1 = true := code_word (m := ⟨2, 20⟩) (meth := k2m20) (c := k2c20) (by decide +kernel) rfl rfl rfl (by decide +kernel)
set_option maxRecDepth 65536 in
theorem w_c27 : (Jvm.Cond.code ({ cls := "PictureCobol", name := "inTargets", desc := "(II)Z" } : Jvm.MethodName) prog_1_method_22_code (3 : Nat) (Option.some Jvm.ClassFile.FieldType.boolean)).before args0 about1 = true := code_word (m := ⟨2, 19⟩) (meth := k2m19) (c := k2c19) (by decide +kernel) rfl rfl rfl (by decide +kernel)
set_option maxRecDepth 65536 in
theorem w_c28 : (Jvm.Cond.code ({ cls := "PictureCobol", name := "isHalted", desc := "()Z" } : Jvm.MethodName) prog_1_method_11_code (1 : Nat) (Option.some Jvm.ClassFile.FieldType.boolean)).before args0 about1 = true := code_word (m := ⟨2, 10⟩) (meth := k2m10) (c := k2c10) (by decide +kernel) rfl rfl rfl (by decide +kernel)
set_option maxRecDepth 65536 in
theorem w_c29 : (Jvm.Cond.code ({ cls := "PictureCobol", name := "getPc", desc := "()I" } : Jvm.MethodName) prog_1_method_10_code (1 : Nat) (Option.some Jvm.ClassFile.FieldType.int)).before args0 about1 = true := code_word (m := ⟨2, 9⟩) (meth := k2m9) (c := k2c9) (by decide +kernel) rfl rfl rfl (by decide +kernel)
set_option maxRecDepth 65536 in
theorem w_c30 : (Jvm.Cond.code ({ cls := "PictureCobolOwnLaw", name := "sizeErr", desc := "(IZJIJIII)Z" } : Jvm.MethodName) method_11_code (19 : Nat) (Option.some Jvm.ClassFile.FieldType.boolean)).before args0 about1 = true := code_word (m := ⟨1, 10⟩) (meth := k1m10) (c := k1c10) (by decide +kernel) rfl rfl rfl (by decide +kernel)
set_option maxRecDepth 65536 in
theorem w_c31 : (Jvm.Cond.code ({ cls := "PictureCobol", name := "getSizeErrors", desc := "()I" } : Jvm.MethodName) prog_1_method_12_code (1 : Nat) (Option.some Jvm.ClassFile.FieldType.int)).before args0 about1 = true := code_word (m := ⟨2, 11⟩) (meth := k2m11) (c := k2c11) (by decide +kernel) rfl rfl rfl (by decide +kernel)
set_option maxRecDepth 65536 in
theorem w_c32 : (Jvm.Cond.code ({ cls := "PictureCobol", name := "run", desc := "(I)I" } : Jvm.MethodName) prog_1_method_7_code (4 : Nat) (Option.some Jvm.ClassFile.FieldType.int)).before args0 about1 = true := code_word (m := ⟨2, 6⟩) (meth := k2m6) (c := k2c6) (by decide +kernel) rfl rfl rfl (by decide +kernel)
set_option maxRecDepth 65536 in
theorem w_c33 : (Jvm.Cond.code ({ cls := "PictureCobol", name := "execute", desc := "(I)V" } : Jvm.MethodName) prog_1_method_29_code (3 : Nat) (Option.none : Option Jvm.ClassFile.FieldType)).before args0 about1 = true := code_word (m := ⟨2, 26⟩) (meth := k2m26) (c := k2c26) (by decide +kernel) rfl rfl rfl (by decide +kernel)
set_option maxRecDepth 65536 in
theorem w_c34 : (Jvm.Cond.code ({ cls := "PictureCobol", name := "execArith", desc := "(I)V" } : Jvm.MethodName) prog_1_method_34_code (7 : Nat) (Option.none : Option Jvm.ClassFile.FieldType)).before args0 about1 = true := code_word (m := ⟨2, 31⟩) (meth := k2m31) (c := k2c31) (by decide +kernel) rfl rfl rfl (by decide +kernel)
set_option maxRecDepth 65536 in
theorem w_c35 : (Jvm.Cond.code ({ cls := "PictureCobol", name := "formQuotient", desc := "(I)Z" } : Jvm.MethodName) prog_1_method_32_code (21 : Nat) (Option.some Jvm.ClassFile.FieldType.boolean)).before args0 about1 = true := code_word (m := ⟨2, 29⟩) (meth := k2m29) (c := k2c29) (by decide +kernel) rfl rfl rfl (by decide +kernel)
set_option maxRecDepth 65536 in
theorem w_c36 : (Jvm.Cond.code ({ cls := "PictureCobol", name := "toInteger", desc := "(Z)J" } : Jvm.MethodName) prog_1_method_26_code (8 : Nat) (Option.some Jvm.ClassFile.FieldType.long)).before args0 about1 = true := code_word (m := ⟨2, 23⟩) (meth := k2m23) (c := k2c23) (by decide +kernel) rfl rfl rfl (by decide +kernel)
set_option maxRecDepth 65536 in
theorem w_c37 : (Jvm.Cond.code ({ cls := "PictureCobol", name := "absL", desc := "(J)J" } : Jvm.MethodName) prog_1_method_25_code (3 : Nat) (Option.some Jvm.ClassFile.FieldType.long)).before args0 about1 = true := code_word (m := ⟨2, 22⟩) (meth := k2m22) (c := k2c22) (by decide +kernel) rfl rfl rfl (by decide +kernel)
set_option maxRecDepth 65536 in
theorem w_c38 : (Jvm.Cond.code ({ cls := "PictureCobol", name := "fits", desc := "(JI)Z" } : Jvm.MethodName) prog_1_method_27_code (6 : Nat) (Option.some Jvm.ClassFile.FieldType.boolean)).before args0 about1 = true := code_word (m := ⟨2, 24⟩) (meth := k2m24) (c := k2c24) (by decide +kernel) rfl rfl rfl (by decide +kernel)
set_option maxRecDepth 65536 in
theorem w_c39 : (Jvm.Cond.code ({ cls := "PictureCobol", name := "restart", desc := "()Z" } : Jvm.MethodName) prog_1_method_8_code (1 : Nat) (Option.some Jvm.ClassFile.FieldType.boolean)).before args0 about1 = true := code_word (m := ⟨2, 7⟩) (meth := k2m7) (c := k2c7) (by decide +kernel) rfl rfl rfl (by decide +kernel)
set_option maxRecDepth 65536 in
theorem w_c40 : (Jvm.Cond.code ({ cls := "PictureCobol", name := "sizeError", desc := "(IZJ)V" } : Jvm.MethodName) prog_1_method_35_code (7 : Nat) (Option.none : Option Jvm.ClassFile.FieldType)).before args0 about1 = true := code_word (m := ⟨2, 32⟩) (meth := k2m32) (c := k2c32) (by decide +kernel) rfl rfl rfl (by decide +kernel)
set_option maxRecDepth 65536 in
theorem w_c41 : (Jvm.Cond.code ({ cls := "PictureCobol", name := "formDivision", desc := "(JJIIJ)Z" } : Jvm.MethodName) prog_1_method_33_code (13 : Nat) (Option.some Jvm.ClassFile.FieldType.boolean)).before args0 about1 = true := code_word (m := ⟨2, 30⟩) (meth := k2m30) (c := k2c30) (by decide +kernel) rfl rfl rfl (by decide +kernel)
set_option maxRecDepth 65536 in
theorem w_c42 : (Jvm.Cond.code ({ cls := "PictureCobol", name := "execIf", desc := "(I)V" } : Jvm.MethodName) prog_1_method_31_code (13 : Nat) (Option.none : Option Jvm.ClassFile.FieldType)).before args0 about1 = true := code_word (m := ⟨2, 28⟩) (meth := k2m28) (c := k2c28) (by decide +kernel) rfl rfl rfl (by decide +kernel)
set_option maxRecDepth 65536 in
theorem w_c43 : (Jvm.Cond.code ({ cls := "PictureCobol", name := "execMove", desc := "(I)V" } : Jvm.MethodName) prog_1_method_30_code (11 : Nat) (Option.none : Option Jvm.ClassFile.FieldType)).before args0 about1 = true := code_word (m := ⟨2, 27⟩) (meth := k2m27) (c := k2c27) (by decide +kernel) rfl rfl rfl (by decide +kernel)
set_option maxRecDepth 65536 in
theorem w_c44 : (Jvm.Cond.code ({ cls := "PictureCobol", name := "lowDigits", desc := "(JI)I" } : Jvm.MethodName) prog_1_method_28_code (9 : Nat) (Option.some Jvm.ClassFile.FieldType.int)).before args0 about1 = true := code_word (m := ⟨2, 25⟩) (meth := k2m25) (c := k2c25) (by decide +kernel) rfl rfl rfl (by decide +kernel)
def codes1 : List Jvm.Cond := [Jvm.Cond.code x code maxLocals ret, Jvm.Cond.code ({ cls := "PictureCobolOwnLaw", name := "cell", desc := "([II)I" } : Jvm.MethodName) method_2_code (2 : Nat) (Option.some Jvm.ClassFile.FieldType.int), Jvm.Cond.code ({ cls := "PictureCobol", name := "<init>", desc := "(II)V" } : Jvm.MethodName) prog_1_method_1_code (3 : Nat) (Option.none : Option Jvm.ClassFile.FieldType), Jvm.Cond.code ({ cls := "java/lang/Object", name := "<init>", desc := "()V" } : Jvm.MethodName) object_method_1_code (1 : Nat) (Option.none : Option Jvm.ClassFile.FieldType), Jvm.Cond.code ({ cls := "PictureCobol", name := "clamp", desc := "(III)I" } : Jvm.MethodName) prog_1_method_16_code (4 : Nat) (Option.some Jvm.ClassFile.FieldType.int), Jvm.Cond.code ({ cls := "PictureCobolOwnLaw", name := "dOf", desc := "(I)I" } : Jvm.MethodName) method_4_code (1 : Nat) (Option.some Jvm.ClassFile.FieldType.int), Jvm.Cond.code ({ cls := "PictureCobolOwnLaw", name := "fOf", desc := "(I)I" } : Jvm.MethodName) method_5_code (1 : Nat) (Option.some Jvm.ClassFile.FieldType.int), Jvm.Cond.code ({ cls := "PictureCobolOwnLaw", name := "sgOf", desc := "(I)Z" } : Jvm.MethodName) method_6_code (1 : Nat) (Option.some Jvm.ClassFile.FieldType.boolean), Jvm.Cond.code ({ cls := "PictureCobol", name := "declareField", desc := "(IIZ)I" } : Jvm.MethodName) prog_1_method_2_code (6 : Nat) (Option.some Jvm.ClassFile.FieldType.int), Jvm.Cond.code ({ cls := "PictureCobol", name := "getFieldCount", desc := "()I" } : Jvm.MethodName) prog_1_method_14_code (1 : Nat) (Option.some Jvm.ClassFile.FieldType.int), Jvm.Cond.code ({ cls := "PictureCobol", name := "getValue", desc := "(I)I" } : Jvm.MethodName) prog_1_method_9_code (2 : Nat) (Option.some Jvm.ClassFile.FieldType.int), Jvm.Cond.code ({ cls := "PictureCobol", name := "isField", desc := "(I)Z" } : Jvm.MethodName) prog_1_method_17_code (2 : Nat) (Option.some Jvm.ClassFile.FieldType.boolean), Jvm.Cond.code ({ cls := "PictureCobolOwnLaw", name := "p10", desc := "(I)J" } : Jvm.MethodName) method_3_code (4 : Nat) (Option.some Jvm.ClassFile.FieldType.long), Jvm.Cond.code ({ cls := "PictureCobol", name := "setValue", desc := "(II)Z" } : Jvm.MethodName) prog_1_method_3_code (9 : Nat) (Option.some Jvm.ClassFile.FieldType.boolean), Jvm.Cond.code ({ cls := "PictureCobol", name := "digits", desc := "(I)I" } : Jvm.MethodName) prog_1_method_18_code (2 : Nat) (Option.some Jvm.ClassFile.FieldType.int), Jvm.Cond.code ({ cls := "PictureCobol", name := "pow10", desc := "(I)J" } : Jvm.MethodName) prog_1_method_24_code (5 : Nat) (Option.some Jvm.ClassFile.FieldType.long), Jvm.Cond.code ({ cls := "PictureCobolOwnLaw", name := "kindOf", desc := "(I)I" } : Jvm.MethodName) method_8_code (2 : Nat) (Option.some Jvm.ClassFile.FieldType.int), Jvm.Cond.code ({ cls := "PictureCobolOwnLaw", name := "ix", desc := "(II)I" } : Jvm.MethodName) method_7_code (2 : Nat) (Option.some Jvm.ClassFile.FieldType.int), Jvm.Cond.code ({ cls := "PictureCobolOwnLaw", name := "roundedOf", desc := "(I)Z" } : Jvm.MethodName) method_9_code (1 : Nat) (Option.some Jvm.ClassFile.FieldType.boolean), Jvm.Cond.code ({ cls := "PictureCobol", name := "statement", desc := "(IIII)I" } : Jvm.MethodName) prog_1_method_4_code (7 : Nat) (Option.some Jvm.ClassFile.FieldType.int), Jvm.Cond.code ({ cls := "PictureCobol", name := "validKind", desc := "(I)Z" } : Jvm.MethodName) prog_1_method_20_code (2 : Nat) (Option.some Jvm.ClassFile.FieldType.boolean), Jvm.Cond.code ({ cls := "PictureCobol", name := "operandsOk", desc := "(III)Z" } : Jvm.MethodName) prog_1_method_21_code (4 : Nat) (Option.some Jvm.ClassFile.FieldType.boolean), Jvm.Cond.code ({ cls := "PictureCobol", name := "isArith", desc := "(I)Z" } : Jvm.MethodName) prog_1_method_19_code (2 : Nat) (Option.some Jvm.ClassFile.FieldType.boolean), Jvm.Cond.code ({ cls := "PictureCobolOwnLaw", name := "targetOf", desc := "(I)Z" } : Jvm.MethodName) method_10_code (1 : Nat) (Option.some Jvm.ClassFile.FieldType.boolean), Jvm.Cond.code ({ cls := "PictureCobol", name := "onSizeError", desc := "(I)Z" } : Jvm.MethodName) prog_1_method_5_code (3 : Nat) (Option.some Jvm.ClassFile.FieldType.boolean), Jvm.Cond.code ({ cls := "PictureCobol", name := "compile", desc := "()I" } : Jvm.MethodName) prog_1_method_6_code (3 : Nat) (Option.some Jvm.ClassFile.FieldType.int), Jvm.Cond.code ({ cls := "PictureCobol", name := "isBad", desc := "(II)Z" } : Jvm.MethodName) prog_1_method_23_code (4 : Nat) (Option.some Jvm.ClassFile.FieldType.boolean), Jvm.Cond.code ({ cls := "PictureCobol", name := "inTargets", desc := "(II)Z" } : Jvm.MethodName) prog_1_method_22_code (3 : Nat) (Option.some Jvm.ClassFile.FieldType.boolean), Jvm.Cond.code ({ cls := "PictureCobol", name := "isHalted", desc := "()Z" } : Jvm.MethodName) prog_1_method_11_code (1 : Nat) (Option.some Jvm.ClassFile.FieldType.boolean), Jvm.Cond.code ({ cls := "PictureCobol", name := "getPc", desc := "()I" } : Jvm.MethodName) prog_1_method_10_code (1 : Nat) (Option.some Jvm.ClassFile.FieldType.int), Jvm.Cond.code ({ cls := "PictureCobolOwnLaw", name := "sizeErr", desc := "(IZJIJIII)Z" } : Jvm.MethodName) method_11_code (19 : Nat) (Option.some Jvm.ClassFile.FieldType.boolean), Jvm.Cond.code ({ cls := "PictureCobol", name := "getSizeErrors", desc := "()I" } : Jvm.MethodName) prog_1_method_12_code (1 : Nat) (Option.some Jvm.ClassFile.FieldType.int), Jvm.Cond.code ({ cls := "PictureCobol", name := "run", desc := "(I)I" } : Jvm.MethodName) prog_1_method_7_code (4 : Nat) (Option.some Jvm.ClassFile.FieldType.int), Jvm.Cond.code ({ cls := "PictureCobol", name := "execute", desc := "(I)V" } : Jvm.MethodName) prog_1_method_29_code (3 : Nat) (Option.none : Option Jvm.ClassFile.FieldType), Jvm.Cond.code ({ cls := "PictureCobol", name := "execArith", desc := "(I)V" } : Jvm.MethodName) prog_1_method_34_code (7 : Nat) (Option.none : Option Jvm.ClassFile.FieldType), Jvm.Cond.code ({ cls := "PictureCobol", name := "formQuotient", desc := "(I)Z" } : Jvm.MethodName) prog_1_method_32_code (21 : Nat) (Option.some Jvm.ClassFile.FieldType.boolean), Jvm.Cond.code ({ cls := "PictureCobol", name := "toInteger", desc := "(Z)J" } : Jvm.MethodName) prog_1_method_26_code (8 : Nat) (Option.some Jvm.ClassFile.FieldType.long), Jvm.Cond.code ({ cls := "PictureCobol", name := "absL", desc := "(J)J" } : Jvm.MethodName) prog_1_method_25_code (3 : Nat) (Option.some Jvm.ClassFile.FieldType.long), Jvm.Cond.code ({ cls := "PictureCobol", name := "fits", desc := "(JI)Z" } : Jvm.MethodName) prog_1_method_27_code (6 : Nat) (Option.some Jvm.ClassFile.FieldType.boolean), Jvm.Cond.code ({ cls := "PictureCobol", name := "restart", desc := "()Z" } : Jvm.MethodName) prog_1_method_8_code (1 : Nat) (Option.some Jvm.ClassFile.FieldType.boolean), Jvm.Cond.code ({ cls := "PictureCobol", name := "sizeError", desc := "(IZJ)V" } : Jvm.MethodName) prog_1_method_35_code (7 : Nat) (Option.none : Option Jvm.ClassFile.FieldType), Jvm.Cond.code ({ cls := "PictureCobol", name := "formDivision", desc := "(JJIIJ)Z" } : Jvm.MethodName) prog_1_method_33_code (13 : Nat) (Option.some Jvm.ClassFile.FieldType.boolean), Jvm.Cond.code ({ cls := "PictureCobol", name := "execIf", desc := "(I)V" } : Jvm.MethodName) prog_1_method_31_code (13 : Nat) (Option.none : Option Jvm.ClassFile.FieldType), Jvm.Cond.code ({ cls := "PictureCobol", name := "execMove", desc := "(I)V" } : Jvm.MethodName) prog_1_method_30_code (11 : Nat) (Option.none : Option Jvm.ClassFile.FieldType), Jvm.Cond.code ({ cls := "PictureCobol", name := "lowDigits", desc := "(JI)I" } : Jvm.MethodName) prog_1_method_28_code (9 : Nat) (Option.some Jvm.ClassFile.FieldType.int)]
set_option maxRecDepth 65536 in
theorem codes_eq : words1.filter isCode = codes1 := rfl
theorem w_codes : ∀ c ∈ words1.filter isCode, c.before args0 about1 = true := by
  rw [codes_eq]
  intro c hc
  simp only [codes1, List.mem_cons, List.not_mem_nil, or_false] at hc
  rcases hc with rfl | rfl | rfl | rfl | rfl | rfl | rfl | rfl | rfl | rfl | rfl | rfl | rfl | rfl | rfl | rfl | rfl | rfl | rfl | rfl | rfl | rfl | rfl | rfl | rfl | rfl | rfl | rfl | rfl | rfl | rfl | rfl | rfl | rfl | rfl | rfl | rfl | rfl | rfl | rfl | rfl | rfl | rfl | rfl | rfl
  · exact w_c0
  · exact w_c1
  · exact w_c2
  · exact w_c3
  · exact w_c4
  · exact w_c5
  · exact w_c6
  · exact w_c7
  · exact w_c8
  · exact w_c9
  · exact w_c10
  · exact w_c11
  · exact w_c12
  · exact w_c13
  · exact w_c14
  · exact w_c15
  · exact w_c16
  · exact w_c17
  · exact w_c18
  · exact w_c19
  · exact w_c20
  · exact w_c21
  · exact w_c22
  · exact w_c23
  · exact w_c24
  · exact w_c25
  · exact w_c26
  · exact w_c27
  · exact w_c28
  · exact w_c29
  · exact w_c30
  · exact w_c31
  · exact w_c32
  · exact w_c33
  · exact w_c34
  · exact w_c35
  · exact w_c36
  · exact w_c37
  · exact w_c38
  · exact w_c39
  · exact w_c40
  · exact w_c41
  · exact w_c42
  · exact w_c43
  · exact w_c44
set_option maxRecDepth 65536 in
theorem w_t1 : (words1.take 24).all (fun c => isCode c || c.before args0 about1) = true := by decide +kernel
set_option maxRecDepth 65536 in
theorem w_t2 : ((words1.drop 24).take 24).all (fun c => isCode c || c.before args0 about1) = true := by decide +kernel
set_option maxRecDepth 65536 in
theorem w_t3 : (((words1.drop 24).drop 24).take 24).all (fun c => isCode c || c.before args0 about1) = true := by decide +kernel
set_option maxRecDepth 65536 in
theorem w_t4 : ((((words1.drop 24).drop 24).drop 24).take 24).all (fun c => isCode c || c.before args0 about1) = true := by decide +kernel
set_option maxRecDepth 65536 in
theorem w_t5 : (((((words1.drop 24).drop 24).drop 24).drop 24).take 24).all (fun c => isCode c || c.before args0 about1) = true := by decide +kernel
set_option maxRecDepth 65536 in
theorem w_t6 : ((((((words1.drop 24).drop 24).drop 24).drop 24).drop 24).take 24).all (fun c => isCode c || c.before args0 about1) = true := by decide +kernel
set_option maxRecDepth 65536 in
theorem w_t7 : (((((((words1.drop 24).drop 24).drop 24).drop 24).drop 24).drop 24).take 24).all (fun c => isCode c || c.before args0 about1) = true := by decide +kernel
set_option maxRecDepth 65536 in
theorem w_t8 : ((((((((words1.drop 24).drop 24).drop 24).drop 24).drop 24).drop 24).drop 24).take 24).all (fun c => isCode c || c.before args0 about1) = true := by decide +kernel
set_option maxRecDepth 65536 in
theorem w_t9 : (((((((((words1.drop 24).drop 24).drop 24).drop 24).drop 24).drop 24).drop 24).drop 24).take 24).all (fun c => isCode c || c.before args0 about1) = true := by decide +kernel
set_option maxRecDepth 65536 in
theorem w_t10 : (((((((((words1.drop 24).drop 24).drop 24).drop 24).drop 24).drop 24).drop 24).drop 24).drop 24).all (fun c => isCode c || c.before args0 about1) = true := by decide +kernel
theorem w_tables : (allAtoms (Jvm.Cond.code x code maxLocals ret :: tables_1)).before args0 about1 = true := by
  rw [allAtoms_all]
  show words1.all (fun c => c.before args0 about1) = true
  refine all_split ?_ w_codes
  rw [← List.take_append_drop 24 words1, List.all_append, w_t1, ← List.take_append_drop 24 (words1.drop 24), List.all_append, w_t2, ← List.take_append_drop 24 ((words1.drop 24).drop 24), List.all_append, w_t3, ← List.take_append_drop 24 (((words1.drop 24).drop 24).drop 24), List.all_append, w_t4, ← List.take_append_drop 24 ((((words1.drop 24).drop 24).drop 24).drop 24), List.all_append, w_t5, ← List.take_append_drop 24 (((((words1.drop 24).drop 24).drop 24).drop 24).drop 24), List.all_append, w_t6, ← List.take_append_drop 24 ((((((words1.drop 24).drop 24).drop 24).drop 24).drop 24).drop 24), List.all_append, w_t7, ← List.take_append_drop 24 (((((((words1.drop 24).drop 24).drop 24).drop 24).drop 24).drop 24).drop 24), List.all_append, w_t8, ← List.take_append_drop 24 ((((((((words1.drop 24).drop 24).drop 24).drop 24).drop 24).drop 24).drop 24).drop 24), List.all_append, w_t9, w_t10]
  rfl
set_option maxRecDepth 65536 in
theorem w_rest : rest_1_c.before args0 about1 = true := by decide +kernel
set_option maxRecDepth 65536 in
theorem w_case : (Jvm.Cond.and given_1 narrow_1).before args0 about1 = true := by decide +kernel
theorem w_applies : (headSpec (Jvm.Cond.code x code maxLocals ret :: tables_1) room_1).applies x e0.platform about1 = true :=
  (Spec.applies_iff w_frames).mpr ⟨w_running, w_runnable, w_alone, w_named, w_hears, w_ripe, w_room, w_tables⟩
theorem atStart : AtStart classFile x code maxLocals ret World_1 tables_1 room_1 Calls_1 rest_1 Pre_1 launch0 p0 e0 about1 theMethod args0 below0 :=
  ⟨lists_1, trivial, launch0.admits_env _ _ _, launch0.least_env, fairChoices_fair.cas, fairChoices_fair.clock, w_frames, w_args, w_heap, w_applies, trivial, w_rest, w_case⟩
end start1
theorem witness_1 : WitnessClaimed_1 := ⟨start1.p0, start1.e0, start1.about1, start1.theMethod, start1.args0, start1.below0, start1.atStart⟩
end Jvm.Pilot.@@N@@
