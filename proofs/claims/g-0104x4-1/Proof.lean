import JvmDerived
import JvmDerived.Pilot.@@N@@Statement
import JvmDerived.Pilot.@@N@@Code
set_option linter.unusedVariables false
set_option linter.unusedSimpArgs false
namespace Jvm.Own
open Jvm Jvm.ClassFile Sem Op Lib Jvm.Free Jvm.Stand Jvm.LawKit Jvm.RoadKit Bundle
/-! ## values, cells, heaps of the small view -/
theorem leb {a b : Nat} (h : Nat.ble a b = true) : a ≤ b := Nat.le_of_ble_eq_true h
abbrev dc (b : ByteArray) (pc : Nat) (i : Instr) (n : Nat) : Prop := decode b pc = .ok (i, n)
abbrev OwnC : Type := Sum (List Value) (Sum (List Int32) (Sum (List Int64) (List Int32)))
abbrev cO (vs : List Value) : OwnC := .inl vs
abbrev cI (xs : List Int32) : OwnC := .inr (.inl xs)
abbrev cJ (xs : List Int64) : OwnC := .inr (.inr (.inl xs))
abbrev cZ (xs : List Int32) : OwnC := .inr (.inr (.inr xs))
def rf (ad : Nat → Addr) : Value → Value
  | .ref i => .ref (ad i)
  | .int x => .int x
  | .long x => .long x
  | .float x => .float x
  | .double x => .double x
  | .null => .null
  | .retAddr x => .retAddr x
theorem rf_cat (ad : Nat → Addr) (v : Value) : (rf ad v).category = v.category := by cases v <;> rfl
theorem rf_isRef (ad : Nat → Addr) (v : Value) : (rf ad v).isRef = v.isRef := by cases v <;> rfl
theorem rf_cats (ad : Nat → Addr) (S : List Value) : ((S.map (rf ad)).map fun v => v.category) = S.map fun v => v.category := by
  simp [List.map_map, Function.comp_def, rf_cat]
def CelOk (Z : State) (C : String) (lay : List (String × String)) (ad : Nat → Addr) (h : Heap) (a : Addr) : OwnC → Prop
  | .inl vs => Exa Z h a C ∧ ∀ (i : Nat) (f : String × String) (v : Value), lay[i]? = some f → vs[i]? = some v → Fld Z h a C f.1 f.2 (rf ad v)
  | .inr (.inl xs) => ∃ cl : Cell, Arr Z h a cl .int ∧ cl.slots.toList = xs.map Value.int
  | .inr (.inr (.inl xs)) => ∃ cl : Cell, Arr Z h a cl .long ∧ cl.slots.toList = xs.map Value.long
  | .inr (.inr (.inr xs)) => ∃ cl : Cell, Arr Z h a cl .boolean ∧ cl.slots.toList = xs.map Value.int
def HR (Z : State) (C : String) (lay : List (String × String)) (n0 ro : Nat) (ad : Nat → Addr) (H : List OwnC) (h : Heap) : Prop :=
  (∀ i c, H[i]? = some c → CelOk Z C lay ad h (ad i) c) ∧ (∀ i j, i < H.length → j < H.length → ad i = ad j → i = j) ∧ (∀ t, ad (H.length + t) = h.size + t) ∧ (∀ i, i < H.length → ro ≤ i → n0 ≤ ad i) ∧ n0 ≤ h.size
def Kp (ad : Nat → Addr) (N : Nat) (h h' : Heap) : Prop := h.size ≤ h'.size ∧ ∀ (a : Addr) (c : Cell), h[a]? = some c → (∀ i, i < N → ad i ≠ a) → h'[a]? = some c
theorem CelOk.keep {Z : State} {C : String} {lay : List (String × String)} {ad : Nat → Addr} {h h' : Heap} {a : Addr} {c : OwnC} (q : ∀ cz : Cell, h[a]? = some cz → h'[a]? = some cz) (F : CelOk Z C lay ad h a c) : CelOk Z C lay ad h' a c := by
  rcases c with vs | xs | xs | xs
  · obtain ⟨⟨cell, k, h1, r⟩, F2⟩ := F
    refine ⟨⟨cell, k, q _ h1, r⟩, fun i f v hf hv => ?_⟩
    obtain ⟨cell, cf, k, i, f, h1, r⟩ := F2 i f v hf hv
    exact ⟨cell, cf, k, i, f, q _ h1, r⟩
  all_goals
    obtain ⟨cl, ⟨h1, r⟩, h2⟩ := F
    exact ⟨cl, ⟨q _ h1, r⟩, h2⟩
theorem CelOk.lt {Z : State} {C : String} {lay : List (String × String)} {ad : Nat → Addr} {h : Heap} {a : Addr} {c : OwnC} (F : CelOk Z C lay ad h a c) : a < h.size := by
  rcases c with vs | xs | xs | xs
  · exact F.1.lt
  all_goals
    obtain ⟨cl, A, h2⟩ := F
    exact A.lt
theorem Kp.refl (ad : Nat → Addr) (N : Nat) (h : Heap) : Kp ad N h h := ⟨Nat.le_refl _, fun _ _ q _ => q⟩
theorem get_lt {α : Type} {L : List α} {i : Nat} {c : α} (h : L[i]? = some c) : i < L.length := (List.getElem?_eq_some_iff.mp h).1
section HRs
variable {Z : State} {C : String} {lay : List (String × String)} {n0 ro : Nat} {ad : Nat → Addr} {H H' : List OwnC} {h h' h'' : Heap}
/-- the addresses at or above H.length lie at or above the heap's size -/
theorem HR.new (R : HR Z C lay n0 ro ad H h) {i : Nat} (hi : H.length ≤ i) : h.size ≤ ad i := by
  obtain ⟨t, rfl⟩ := Nat.exists_eq_add_of_le hi
  rw [R.2.2.1 t]; exact Nat.le_add_right _ _
theorem Kp.trans (R : HR Z C lay n0 ro ad H h) (K : Kp ad H.length h h') {N : Nat} (K' : Kp ad N h' h'') : Kp ad H.length h h'' := by
  refine ⟨Nat.le_trans K.1 K'.1, fun a c hc hn => K'.2 a c (K.2 a c hc hn) fun i hi q => ?_⟩
  by_cases hl : i < H.length
  · exact hn i hl q
  · have h1 := R.new (Nat.le_of_not_lt hl)
    rw [q] at h1
    exact absurd (Array.getElem?_eq_some_iff.mp hc).1 (Nat.not_lt.mpr h1)
/-- one cell of the small heap is written anew, at its own address -/
theorem HR.put (R : HR Z C lay n0 ro ad H h) {i : Nat} {c : OwnC} (hi : i < H.length) (hs : h'.size = h.size) (ho : ∀ a cz, a ≠ ad i → h[a]? = some cz → h'[a]? = some cz) (hc : CelOk Z C lay ad h' (ad i) c) :
    HR Z C lay n0 ro ad (H.set i c) h' ∧ Kp ad H.length h h' := by
  refine ⟨⟨fun j c' hj => ?_, fun i' j' hi' hj' => ?_, fun t => ?_, fun i' hi' => ?_, by rw [hs]; exact R.2.2.2.2⟩, by rw [hs]; exact Nat.le_refl _, fun a cz hz hn => ho a cz (fun q => hn i hi q.symm) hz⟩
  · rw [List.getElem?_set] at hj
    by_cases e : i = j
    · subst e
      simp [hi] at hj
      subst hj; exact hc
    · rw [if_neg e] at hj
      exact (R.1 j c' hj).keep fun cz q => ho _ cz (fun q' => e (R.2.1 _ _ hi (get_lt hj) q'.symm)) q
  · simp only [List.length_set] at hi' hj'; exact R.2.1 _ _ hi' hj'
  · rw [List.length_set, hs]; exact R.2.2.1 t
  · simp only [List.length_set] at hi'; exact R.2.2.2.1 _ hi'
/-- a new cell behind all others -/
theorem HR.push (R : HR Z C lay n0 ro ad H h) {c : OwnC} (hs : h'.size = h.size + 1) (hE : Ext h h') (hc : CelOk Z C lay ad h' h.size c) :
    HR Z C lay n0 ro ad (H ++ [c]) h' ∧ Kp ad H.length h h' ∧ ad H.length = h.size := by
  have e0 : ad H.length = h.size := R.2.2.1 0
  refine ⟨⟨fun j c' hj => ?_, fun i j hi hj q => ?_, fun t => ?_, fun i hi hr => ?_, by rw [hs]; exact Nat.le_succ_of_le R.2.2.2.2⟩, ⟨hE.1, fun a cz hz _ => hE.2 _ _ hz⟩, e0⟩
  · by_cases hl : j < H.length
    · rw [List.getElem?_append_left hl] at hj
      exact (R.1 j c' hj).keep fun cz q => hE.2 _ _ q
    · have hl' := get_lt hj
      simp only [List.length_append, List.length_singleton] at hl'
      obtain rfl : j = H.length := by omega
      simp at hj
      subst hj; rw [e0]; exact hc
  · simp only [List.length_append, List.length_singleton] at hi hj
    by_cases h1 : i < H.length
    · by_cases h2 : j < H.length
      · exact R.2.1 _ _ h1 h2 q
      · have a1 := (R.1 i _ (List.getElem?_eq_getElem h1)).lt
        have a2 := R.new (Nat.le_of_not_lt h2)
        rw [q] at a1
        exact absurd a1 (Nat.not_lt.mpr a2)
    · by_cases h2 : j < H.length
      · have a1 := (R.1 j _ (List.getElem?_eq_getElem h2)).lt
        have a2 := R.new (Nat.le_of_not_lt h1)
        rw [q] at a2
        exact absurd a1 (Nat.not_lt.mpr a2)
      · omega
  · rw [hs]
    have := R.2.2.1 (1 + t)
    simp only [List.length_append, List.length_singleton]
    rw [Nat.add_assoc, this]; exact (Nat.add_assoc _ _ _).symm
  · simp only [List.length_append, List.length_singleton] at hi
    by_cases h1 : i < H.length
    · exact R.2.2.2.1 _ h1 hr
    · exact Nat.le_trans R.2.2.2.2 (R.new (Nat.le_of_not_lt h1))
end HRs
/-! ## local variables: 'unset' in the small view says nothing -/
def WFs (f : Nat → Option Slot) : Prop := (∀ i, f i = some .second → ∃ j v, i = j + 1 ∧ f j = some (.val v) ∧ v.category = 2) ∧ ∀ i v, f i = some (.val v) → v.category = 2 → f (i + 1) = some .second
def LR (ad : Nat → Addr) (L : List Slot) (Ls : Array Slot) : Prop :=
  L.length = Ls.size ∧ (∀ (i : Nat) (v : Value), L[i]? = some (.val v) → Ls[i]? = some (.val (rf ad v))) ∧ (∀ i : Nat, L[i]? = some .second → Ls[i]? = some .second) ∧ WFs fun i => Ls[i]?
def kill2 : Slot → Slot
  | .val (.long _) => .unset
  | .val (.double _) => .unset
  | s => s
def killS : Slot → Slot
  | .second => .unset
  | s => s
def hd1 (f : Slot → Slot) : List Slot → List Slot
  | [] => []
  | y :: t => f y :: t
def st1 : List Slot → Nat → Value → List Slot
  | [], _, _ => []
  | _ :: t, 0, v => .val v :: hd1 killS t
  | y :: t, n + 1, v => match n with
    | 0 => kill2 y :: st1 t 0 v
    | k + 1 => y :: st1 t (k + 1) v
def st2 : List Slot → Nat → Value → List Slot
  | [], _, _ => []
  | _ :: t, 0, v => .val v :: (match t with | [] => [] | _ :: t' => .second :: hd1 killS t')
  | y :: t, n + 1, v => match n with
    | 0 => kill2 y :: st2 t 0 v
    | k + 1 => y :: st2 t (k + 1) v
theorem st1_len (v : Value) : ∀ (L : List Slot) (i : Nat), (st1 L i v).length = L.length
  | [], _ => rfl
  | y :: [], 0 => rfl
  | y :: z :: t, 0 => rfl
  | y :: t, 1 => congrArg Nat.succ (st1_len v t 0)
  | y :: t, k + 2 => congrArg Nat.succ (st1_len v t (k + 1))
theorem st2_len (v : Value) : ∀ (L : List Slot) (i : Nat), (st2 L i v).length = L.length
  | [], _ => rfl
  | y :: [], 0 => rfl
  | y :: z :: [], 0 => rfl
  | y :: z :: w :: t, 0 => rfl
  | y :: t, 1 => congrArg Nat.succ (st2_len v t 0)
  | y :: t, k + 2 => congrArg Nat.succ (st2_len v t (k + 1))
theorem kill2_e {y s : Slot} (h : kill2 y = s) (hs : s ≠ .unset) : y = s ∧ ∀ w, s = .val w → w.category = 1 := by
  subst h
  rcases y with _ | _ | w
  · exact absurd rfl hs
  · exact ⟨rfl, fun w h => by cases h⟩
  · cases w <;> first | exact absurd rfl hs | exact ⟨rfl, fun w h => by cases h; rfl⟩
theorem killS_e {y s : Slot} (h : killS y = s) (hs : s ≠ .unset) : y = s ∧ s ≠ .second := by
  subst h
  rcases y with _ | _ | w
  · exact absurd rfl hs
  · exact absurd rfl hs
  · exact ⟨rfl, fun h => by cases h⟩
theorem hd1_e {t : List Slot} {j : Nat} {s : Slot} (h : (hd1 killS t)[j]? = some s) (hs : s ≠ .unset) : t[j]? = some s ∧ (j = 0 → s ≠ .second) := by
  cases t with
  | nil => simp [hd1] at h
  | cons y t =>
    cases j with
    | zero =>
      have h' : killS y = s := by simpa [hd1] using h
      obtain ⟨e1, e2⟩ := killS_e h' hs
      exact ⟨by simp [e1], fun _ => e2⟩
    | succ j => exact ⟨by simpa [hd1] using h, fun q => by cases q⟩
theorem st1_at (v : Value) : ∀ (L : List Slot) (i : Nat), i < L.length → (st1 L i v)[i]? = some (.val v)
  | [], _, h => absurd h (by simp)
  | y :: t, 0, _ => rfl
  | y :: t, 1, h => by simpa [st1] using st1_at v t 0 (by simp at h; omega)
  | y :: t, k + 2, h => by simpa [st1] using st1_at v t (k + 1) (by simp at h; omega)
theorem st1_else (v : Value) : ∀ (L : List Slot) (i j : Nat) (s : Slot), j ≠ i → (st1 L i v)[j]? = some s → s ≠ .unset → L[j]? = some s ∧ (j + 1 = i → ∀ w, s = .val w → w.category = 1) ∧ (j = i + 1 → s ≠ .second)
  | [], _, j, s, _, h, _ => by simp [st1] at h
  | y :: t, 0, 0, s, hj, _, _ => absurd rfl hj
  | y :: t, 0, j + 1, s, hj, h, hs => by
    obtain ⟨e1, e2⟩ := hd1_e (t := t) (j := j) (by simpa [st1] using h) hs
    exact ⟨by simpa using e1, fun q => by omega, fun q => e2 (by omega)⟩
  | y :: t, 1, 0, s, hj, h, hs => by
    obtain ⟨e1, e2⟩ := kill2_e (y := y) (by simpa [st1] using h) hs
    exact ⟨by simp [e1], fun _ => e2, fun q => by omega⟩
  | y :: t, 1, j + 1, s, hj, h, hs => by
    obtain ⟨e1, e2, e3⟩ := st1_else v t 0 j s (by omega) (by simpa [st1] using h) hs
    exact ⟨by simpa using e1, fun q => by omega, fun q => e3 (by omega)⟩
  | y :: t, k + 2, 0, s, hj, h, hs => ⟨by simpa [st1] using h, fun q => by omega, fun q => by omega⟩
  | y :: t, k + 2, j + 1, s, hj, h, hs => by
    obtain ⟨e1, e2, e3⟩ := st1_else v t (k + 1) j s (by omega) (by simpa [st1] using h) hs
    exact ⟨by simpa using e1, fun q => e2 (by omega), fun q => e3 (by omega)⟩
theorem st2_at (v : Value) : ∀ (L : List Slot) (i : Nat), i + 1 < L.length → (st2 L i v)[i]? = some (.val v) ∧ (st2 L i v)[i + 1]? = some .second
  | [], _, h => absurd h (by simp)
  | y :: [], 0, h => absurd h (by simp)
  | y :: z :: t, 0, _ => ⟨rfl, rfl⟩
  | y :: t, 1, h => by simpa [st2] using st2_at v t 0 (by simp at h; omega)
  | y :: t, k + 2, h => by simpa [st2] using st2_at v t (k + 1) (by simp at h; omega)
theorem st2_else (v : Value) : ∀ (L : List Slot) (i j : Nat) (s : Slot), j ≠ i → j ≠ i + 1 → (st2 L i v)[j]? = some s → s ≠ .unset → L[j]? = some s ∧ (j + 1 = i → ∀ w, s = .val w → w.category = 1) ∧ (j = i + 2 → s ≠ .second)
  | [], _, j, s, _, _, h, _ => by simp [st2] at h
  | y :: t, 0, 0, s, hj, _, _, _ => absurd rfl hj
  | y :: t, 0, 1, s, _, hj, _, _ => absurd rfl hj
  | y :: [], 0, j + 2, s, _, _, h, _ => by simp [st2] at h
  | y :: z :: t, 0, j + 2, s, hj, _, h, hs => by
    obtain ⟨e1, e2⟩ := hd1_e (t := t) (j := j) (by simpa [st2] using h) hs
    exact ⟨by simpa using e1, fun q => by omega, fun q => e2 (by omega)⟩
  | y :: t, 1, 0, s, hj, _, h, hs => by
    obtain ⟨e1, e2⟩ := kill2_e (y := y) (by simpa [st2] using h) hs
    exact ⟨by simp [e1], fun _ => e2, fun q => by omega⟩
  | y :: t, 1, j + 1, s, hj, hj', h, hs => by
    obtain ⟨e1, e2, e3⟩ := st2_else v t 0 j s (by omega) (by omega) (by simpa [st2] using h) hs
    exact ⟨by simpa using e1, fun q => by omega, fun q => e3 (by omega)⟩
  | y :: t, k + 2, 0, s, hj, _, h, hs => ⟨by simpa [st2] using h, fun q => by omega, fun q => by omega⟩
  | y :: t, k + 2, j + 1, s, hj, hj', h, hs => by
    obtain ⟨e1, e2, e3⟩ := st2_else v t (k + 1) j s (by omega) (by omega) (by simpa [st2] using h) hs
    exact ⟨by simpa using e1, fun q => e2 (by omega), fun q => e3 (by omega)⟩
theorem setAt_ok {l : Array Slot} {i : Nat} (h : i < l.size) (x : Slot) : setAt l i x = some (l.setIfInBounds i x) := if_pos h
/-- which neighbours a store at i wipes -/
def Bad (Ls : Array Slot) (i j : Nat) : Prop := (j + 1 = i ∧ Ls[i]? = some .second) ∨ (j = i + 1 ∧ ∃ o, Ls[i]? = some (.val o) ∧ o.category = 2)
def Pre1 (Ls Ls1 : Array Slot) (i : Nat) : Prop := Ls1.size = Ls.size ∧ ∀ j, j ≠ i → (¬ Bad Ls i j ∧ Ls1[j]? = Ls[j]?) ∨ (Bad Ls i j ∧ Ls1[j]? = some .unset)
theorem storeLocals_pre {Ls : Array Slot} (wf : WFs fun i => Ls[i]?) {i : Nat} (hi : i < Ls.size) (w : Value) : ∃ Ls1, Pre1 Ls Ls1 i ∧ storeLocals Ls i w = storeSelf Ls1 i w := by
  have hg : Ls[i]? = some Ls[i] := Array.getElem?_eq_getElem hi
  rcases hs : Ls[i] with _ | _ | old
  · rw [hs] at hg
    refine ⟨Ls, ⟨rfl, fun j hj => Or.inl ⟨?_, rfl⟩⟩, ?_⟩
    · rintro (⟨-, q⟩ | ⟨-, o, q, -⟩) <;> (rw [hg] at q; cases q)
    · show (Ls[i]?).bind _ = _; rw [hg]; rfl
  · rw [hs] at hg
    obtain ⟨j0, v, rfl, hv, hc⟩ := wf.1 i hg
    have h0 : j0 < Ls.size := by omega
    refine ⟨Ls.setIfInBounds j0 .unset, ⟨by simp, fun j hj => ?_⟩, ?_⟩
    · by_cases e : j = j0
      · subst e; right; exact ⟨Or.inl ⟨rfl, hg⟩, by simp [h0]⟩
      · left
        refine ⟨?_, by rw [Array.getElem?_setIfInBounds_ne (Ne.symm e)]⟩
        rintro (⟨q', q⟩ | ⟨-, o, q, -⟩)
        · exact e (by omega)
        · rw [hg] at q; cases q
    · show (Ls[j0 + 1]?).bind _ = _; rw [hg]
      show (setAt Ls (j0 + 1 - 1) .unset).bind _ = _
      rw [Nat.add_sub_cancel, setAt_ok h0]; rfl
  · rw [hs] at hg
    by_cases hc : old.category = 2
    · have h1 := wf.2 i old hg hc
      have h1' : i + 1 < Ls.size := (Array.getElem?_eq_some_iff.mp h1).1
      refine ⟨Ls.setIfInBounds (i + 1) .unset, ⟨by simp, fun j hj => ?_⟩, ?_⟩
      · by_cases e : j = i + 1
        · subst e; right; exact ⟨Or.inr ⟨rfl, old, hg, hc⟩, by simp [h1']⟩
        · left
          refine ⟨?_, by rw [Array.getElem?_setIfInBounds_ne (Ne.symm e)]⟩
          rintro (⟨-, q⟩ | ⟨q, -⟩)
          · rw [hg] at q; cases q
          · exact e q
      · show (Ls[i]?).bind _ = _; rw [hg]
        show (if old.category = 2 then _ else _) = _
        rw [if_pos hc]
        show (setAt Ls (i + 1) .unset).bind _ = _
        rw [setAt_ok h1']; rfl
    · refine ⟨Ls, ⟨rfl, fun j hj => Or.inl ⟨?_, rfl⟩⟩, ?_⟩
      · rintro (⟨-, q⟩ | ⟨-, o, q, q'⟩) <;> (rw [hg] at q; cases q)
        exact hc q'
      · show (Ls[i]?).bind _ = _; rw [hg]
        show (if old.category = 2 then _ else _) = _
        rw [if_neg hc]
section St
variable {Ls : Array Slot} {i j : Nat}
/-- a value of one word is not wiped -/
theorem not_bad_val (wf : WFs fun i => Ls[i]?) {w : Value} (hj : Ls[j]? = some (.val w)) (hw : j + 1 = i → w.category = 1) : ¬ Bad Ls i j := by
  rintro (⟨rfl, q⟩ | ⟨rfl, o, q, q'⟩)
  · obtain ⟨j0, v, e, h1, h2⟩ := wf.1 _ q
    obtain rfl : j0 = j := by omega
    cases h1.symm.trans hj
    rw [hw rfl] at h2; cases h2
  · have := wf.2 _ _ q q'
    cases this.symm.trans hj
theorem not_bad_second (wf : WFs fun i => Ls[i]?) (hj : Ls[j]? = some .second) (hne : j ≠ i + 1) : ¬ Bad Ls i j := by
  rintro (⟨rfl, q⟩ | ⟨q, -⟩)
  · obtain ⟨j0, v, e, h1, h2⟩ := wf.1 _ q
    obtain rfl : j0 = j := by omega
    cases h1.symm.trans hj
  · exact hne q
end St
theorem LR.store1 {ad : Nat → Addr} {L : List Slot} {Ls : Array Slot} (hL : LR ad L Ls) {i : Nat} (hi : i < L.length) {v : Value} (hv : v.category = 1) : ∃ Ls', storeLocals Ls i (rf ad v) = some Ls' ∧ LR ad (st1 L i v) Ls' ∧ Ls'.size = Ls.size := by
  obtain ⟨l1, l2, l3, wf⟩ := hL
  have hi' : i < Ls.size := l1 ▸ hi
  have hv' : (rf ad v).category = 1 := by rw [rf_cat]; exact hv
  obtain ⟨Ls1, ⟨p1, p2⟩, e⟩ := storeLocals_pre wf hi' (rf ad v)
  have hi1 : i < Ls1.size := by rw [p1]; exact hi'
  have e2 : storeSelf Ls1 i (rf ad v) = some (Ls1.setIfInBounds i (.val (rf ad v))) := by
    show (setAt Ls1 i _).bind _ = _
    rw [setAt_ok hi1]
    show (if (rf ad v).category = 2 then _ else _) = _
    rw [if_neg (by rw [hv']; decide)]
  have at_i : (Ls1.setIfInBounds i (.val (rf ad v)))[i]? = some (.val (rf ad v)) := by simp [hi1]
  have at_j : ∀ j, j ≠ i → (Ls1.setIfInBounds i (.val (rf ad v)))[j]? = Ls1[j]? := fun j hj => Array.getElem?_setIfInBounds_ne (Ne.symm hj)
  have good : ∀ j, j ≠ i → ¬ Bad Ls i j → (Ls1.setIfInBounds i (.val (rf ad v)))[j]? = Ls[j]? := fun j hj hb => by
    rw [at_j j hj]
    rcases p2 j hj with ⟨-, q⟩ | ⟨q, -⟩
    · exact q
    · exact absurd q hb
  have back : ∀ j s, j ≠ i → s ≠ .unset → (Ls1.setIfInBounds i (.val (rf ad v)))[j]? = some s → ¬ Bad Ls i j ∧ Ls[j]? = some s := fun j s hj hs h => by
    rw [at_j j hj] at h
    rcases p2 j hj with ⟨q, q'⟩ | ⟨-, q⟩
    · exact ⟨q, by rw [← q']; exact h⟩
    · rw [q] at h; cases h; exact absurd rfl hs
  refine ⟨_, e.trans e2, ⟨by rw [st1_len, l1]; simp [p1], fun j w hj => ?_, fun j hj => ?_, fun j hj => ?_, fun j w hj hc => ?_⟩, by simp [p1]⟩
  · by_cases q : j = i
    · subst q
      rw [st1_at v L j hi] at hj
      cases hj; exact at_i
    · obtain ⟨a1, a2, -⟩ := st1_else v L i j _ q hj (by simp)
      have b1 := l2 j w a1
      rw [good j q (not_bad_val wf b1 fun z => by rw [rf_cat]; exact a2 z w rfl)]; exact b1
  · by_cases q : j = i
    · subst q
      rw [st1_at v L j hi] at hj
      cases hj
    · obtain ⟨a1, -, a3⟩ := st1_else v L i j _ q hj (by simp)
      have b1 := l3 j a1
      rw [good j q (not_bad_second wf b1 fun z => a3 z rfl)]; exact b1
  · dsimp only at hj ⊢
    have q : j ≠ i := fun q => by subst q; rw [at_i] at hj; cases hj
    obtain ⟨b1, b2⟩ := back j _ q (by simp) hj
    obtain ⟨j0, v', rfl, h1, h2⟩ := wf.1 j b2
    refine ⟨j0, v', rfl, ?_, h2⟩
    have q0 : j0 ≠ i := fun z => b1 (Or.inr ⟨by omega, v', z ▸ h1, h2⟩)
    rw [good j0 q0 ?_]; exact h1
    rintro (⟨z, -⟩ | ⟨z, o, z1, z2⟩)
    · exact q z
    · have := wf.2 _ _ z1 z2
      rw [← z] at this
      cases this.symm.trans h1
  · dsimp only at hj ⊢
    have q : j ≠ i := fun q => by subst q; rw [at_i] at hj; cases hj; rw [hv'] at hc; cases hc
    obtain ⟨b1, b2⟩ := back j _ q (by simp) hj
    have h1 := wf.2 j w b2 hc
    dsimp only at h1
    have q0 : j + 1 ≠ i := fun z => b1 (Or.inl ⟨z, z ▸ h1⟩)
    rw [good (j + 1) q0 ?_]; exact h1
    rintro (⟨z, z1⟩ | ⟨z, -⟩)
    · obtain ⟨j1, v1, e1, e2, -⟩ := wf.1 _ z1
      obtain rfl : j1 = j + 1 := by omega
      cases h1.symm.trans e2
    · omega
theorem LR.store2 {ad : Nat → Addr} {L : List Slot} {Ls : Array Slot} (hL : LR ad L Ls) {i : Nat} (hi : i + 1 < L.length) {v : Value} (hv : v.category = 2) : ∃ Ls', storeLocals Ls i (rf ad v) = some Ls' ∧ LR ad (st2 L i v) Ls' ∧ Ls'.size = Ls.size := by
  obtain ⟨l1, l2, l3, wf⟩ := hL
  have hi' : i + 1 < Ls.size := l1 ▸ hi
  have hv' : (rf ad v).category = 2 := by rw [rf_cat]; exact hv
  obtain ⟨Ls1, ⟨p1, p2⟩, e⟩ := storeLocals_pre wf (by omega : i < Ls.size) (rf ad v)
  have hi1 : i < Ls1.size := by rw [p1]; omega
  have hi2 : i + 1 < Ls1.size := by rw [p1]; omega
  -- what the second half leaves: two slots, and the one behind wiped where a long began at i + 1
  have key : ∃ Ls', storeSelf Ls1 i (rf ad v) = some Ls' ∧ Ls'.size = Ls1.size ∧ Ls'[i]? = some (.val (rf ad v)) ∧ Ls'[i + 1]? = some .second ∧ ∀ j, j ≠ i → j ≠ i + 1 → (Ls'[j]? = Ls1[j]? ∧ ¬ (j = i + 2 ∧ ∃ o, Ls1[i + 1]? = some (.val o) ∧ o.category = 2)) ∨ (Ls'[j]? = some .unset ∧ j = i + 2 ∧ ∃ o, Ls1[i + 1]? = some (.val o) ∧ o.category = 2) := by
    have n1 : (Ls1.setIfInBounds i (.val (rf ad v)))[i + 1]? = Ls1[i + 1]? := Array.getElem?_setIfInBounds_ne (by omega)
    have g1 : Ls1[i + 1]? = some Ls1[i + 1] := Array.getElem?_eq_getElem hi2
    have open1 : storeSelf Ls1 i (rf ad v) = ((Ls1.setIfInBounds i (.val (rf ad v)))[i + 1]?).bind fun x => match x with
      | .val old => if old.category = 2 then (setAt (Ls1.setIfInBounds i (.val (rf ad v))) (i + 2) .unset).bind fun z => setAt z (i + 1) .second else setAt (Ls1.setIfInBounds i (.val (rf ad v))) (i + 1) .second
      | _ => setAt (Ls1.setIfInBounds i (.val (rf ad v))) (i + 1) .second := by
      show (setAt Ls1 i _).bind _ = _
      rw [setAt_ok hi1]
      show (if (rf ad v).category = 2 then _ else _) = _
      rw [if_pos hv']; rfl
    have plain : (∀ o, Ls1[i + 1]? = some (.val o) → o.category ≠ 2) → storeSelf Ls1 i (rf ad v) = setAt (Ls1.setIfInBounds i (.val (rf ad v))) (i + 1) .second := fun hno => by
      rw [open1, n1, g1]
      rcases hs : Ls1[i + 1] with _ | _ | old
      · rfl
      · rfl
      · show (if old.category = 2 then _ else _) = _
        rw [if_neg (hno old (by rw [g1, hs]))]
    have szz : i + 1 < (Ls1.setIfInBounds i (.val (rf ad v))).size := by simpa using hi2
    by_cases hb : ∃ o, Ls1[i + 1]? = some (.val o) ∧ o.category = 2
    · obtain ⟨o, ho, ho2⟩ := hb
      have b1 : Ls[i + 1]? = some (.val o) := by
        rcases p2 (i + 1) (by omega) with ⟨-, q⟩ | ⟨-, q⟩
        · rw [← q]; exact ho
        · rw [q] at ho; cases ho
      have h3 : i + 2 < Ls1.size := by rw [p1]; exact (Array.getElem?_eq_some_iff.mp (wf.2 _ _ b1 ho2)).1
      refine ⟨((Ls1.setIfInBounds i (.val (rf ad v))).setIfInBounds (i + 2) .unset).setIfInBounds (i + 1) .second, ?_, by simp, ?_, ?_, fun j hj hj' => ?_⟩
      · rw [open1, n1, ho]
        show (if o.category = 2 then _ else _) = _
        rw [if_pos ho2, setAt_ok (by simpa using h3)]
        show setAt _ (i + 1) .second = _
        rw [setAt_ok (by simpa using hi2)]
      · rw [Array.getElem?_setIfInBounds_ne (by omega), Array.getElem?_setIfInBounds_ne (by omega)]; simp [hi1]
      · simp [hi2]
      · rw [Array.getElem?_setIfInBounds_ne (by omega)]
        by_cases z : j = i + 2
        · subst z; right; exact ⟨by simp [h3], rfl, o, ho, ho2⟩
        · left; exact ⟨by rw [Array.getElem?_setIfInBounds_ne (by omega), Array.getElem?_setIfInBounds_ne (by omega)], fun q => z q.1⟩
    · refine ⟨(Ls1.setIfInBounds i (.val (rf ad v))).setIfInBounds (i + 1) .second, ?_, by simp, ?_, ?_, fun j hj hj' => Or.inl ⟨?_, fun q => hb q.2⟩⟩
      · rw [plain fun o ho q => hb ⟨o, ho, q⟩, setAt_ok szz]
      · rw [Array.getElem?_setIfInBounds_ne (by omega)]; simp [hi1]
      · simp [hi2]
      · rw [Array.getElem?_setIfInBounds_ne (by omega), Array.getElem?_setIfInBounds_ne (by omega)]
  obtain ⟨Ls', e2, sz, at_i, at_i1, at_j⟩ := key
  -- i + 1 seen from Ls
  have up : ∀ o, Ls1[i + 1]? = some (.val o) → Ls[i + 1]? = some (.val o) := fun o ho => by
    rcases p2 (i + 1) (by omega) with ⟨-, q⟩ | ⟨-, q⟩
    · rw [← q]; exact ho
    · rw [q] at ho; cases ho
  have good : ∀ j, j ≠ i → j ≠ i + 1 → ¬ Bad Ls i j → ¬ (j = i + 2 ∧ ∃ o, Ls[i + 1]? = some (.val o) ∧ o.category = 2) → Ls'[j]? = Ls[j]? := fun j hj hj' hb hb' => by
    rcases at_j j hj hj' with ⟨q, -⟩ | ⟨-, q1, o, q2, q3⟩
    · rw [q]
      rcases p2 j hj with ⟨-, q⟩ | ⟨q, -⟩
      · exact q
      · exact absurd q hb
    · exact absurd ⟨q1, o, up o q2, q3⟩ hb'
  have back : ∀ j s, j ≠ i → j ≠ i + 1 → s ≠ .unset → Ls'[j]? = some s → ¬ Bad Ls i j ∧ Ls[j]? = some s ∧ ¬ (j = i + 2 ∧ ∃ o, Ls1[i + 1]? = some (.val o) ∧ o.category = 2) := fun j s hj hj' hs h => by
    rcases at_j j hj hj' with ⟨q, q0⟩ | ⟨q, -⟩
    · rw [q] at h
      rcases p2 j hj with ⟨q1, q'⟩ | ⟨-, q'⟩
      · exact ⟨q1, by rw [← q']; exact h, q0⟩
      · rw [q'] at h; cases h; exact absurd rfl hs
    · rw [q] at h; cases h; exact absurd rfl hs
  have s2 := st2_at v L i hi
  refine ⟨_, e.trans e2, ⟨by rw [st2_len, l1, sz, p1], fun j w hj => ?_, fun j hj => ?_, fun j hj => ?_, fun j w hj hc => ?_⟩, by rw [sz, p1]⟩
  · by_cases q : j = i
    · subst q
      rw [s2.1] at hj
      cases hj; exact at_i
    · by_cases q1 : j = i + 1
      · subst q1; rw [s2.2] at hj; cases hj
      · obtain ⟨a1, a2, -⟩ := st2_else v L i j _ q q1 hj (by simp)
        have b1 := l2 j w a1
        rw [good j q q1 (not_bad_val wf b1 fun z => by rw [rf_cat]; exact a2 z w rfl) ?_]; exact b1
        rintro ⟨rfl, o, z1, z2⟩
        have := wf.2 _ _ z1 z2
        cases this.symm.trans b1
  · by_cases q : j = i
    · subst q
      rw [s2.1] at hj
      cases hj
    · by_cases q1 : j = i + 1
      · subst q1; exact at_i1
      · obtain ⟨a1, -, a3⟩ := st2_else v L i j _ q q1 hj (by simp)
        have b1 := l3 j a1
        rw [good j q q1 (not_bad_second wf b1 q1) fun z => a3 z.1 rfl]; exact b1
  · dsimp only at hj ⊢
    by_cases q1 : j = i + 1
    · subst q1; exact ⟨i, _, rfl, at_i, hv'⟩
    have q : j ≠ i := fun q => by subst q; rw [at_i] at hj; cases hj
    obtain ⟨b1, b2, b3⟩ := back j _ q q1 (by simp) hj
    obtain ⟨j0, v', rfl, h1, h2⟩ := wf.1 j b2
    dsimp only at h1
    have q0 : j0 ≠ i := fun z => b1 (Or.inr ⟨by omega, v', z ▸ h1, h2⟩)
    -- j0 = i + 1: then j = i + 2 was wiped
    have q0' : j0 ≠ i + 1 := fun z => by
      subst z
      rcases p2 (i + 1) (by omega) with ⟨-, w1⟩ | ⟨w1, -⟩
      · exact b3 ⟨rfl, v', by rw [w1]; exact h1, h2⟩
      · rcases w1 with ⟨w1, -⟩ | ⟨-, o, w1, w2⟩
        · omega
        · have := wf.2 _ _ w1 w2
          cases this.symm.trans h1
    refine ⟨j0, v', rfl, ?_, h2⟩
    rw [good j0 q0 q0' ?_ ?_]; exact h1
    · rintro (⟨z, -⟩ | ⟨z, -⟩)
      · exact q z
      · exact q0' z
    · rintro ⟨rfl, o, z1, z2⟩
      have := wf.2 _ _ z1 z2
      cases this.symm.trans h1
  · dsimp only at hj ⊢
    by_cases q1 : j = i
    · subst q1; exact at_i1
    have q : j ≠ i + 1 := fun q => by subst q; rw [at_i1] at hj; cases hj
    obtain ⟨b1, b2, -⟩ := back j _ q1 q (by simp) hj
    have h1 := wf.2 j w b2 hc
    dsimp only at h1
    have q0 : j + 1 ≠ i := fun z => b1 (Or.inl ⟨z, z ▸ h1⟩)
    rw [good (j + 1) q0 (by omega) ?_ ?_]; exact h1
    · rintro (⟨z, z1⟩ | ⟨z, -⟩)
      · obtain ⟨j1, v1, e1, e2, -⟩ := wf.1 _ z1
        obtain rfl : j1 = j + 1 := by omega
        cases h1.symm.trans e2
      · omega
    · rintro ⟨z, -⟩; omega
/-! what is known less of -/
def leL : List Slot → List Slot → Prop
  | [], [] => True
  | .unset :: a, _ :: b => leL a b
  | x :: a, y :: b => x = y ∧ leL a b
  | _, _ => False
theorem leL_len : ∀ {A B : List Slot}, leL A B → A.length = B.length
  | [], [], _ => rfl
  | .unset :: a, _ :: b, h => congrArg Nat.succ (leL_len (A := a) (B := b) h)
  | .second :: a, _ :: b, h => congrArg Nat.succ (leL_len (A := a) (B := b) h.2)
  | .val _ :: a, _ :: b, h => congrArg Nat.succ (leL_len (A := a) (B := b) h.2)
theorem leL_get : ∀ {A B : List Slot}, leL A B → ∀ {i : Nat} {s : Slot}, A[i]? = some s → s ≠ .unset → B[i]? = some s
  | [], [], _, i, s, h, _ => by simp at h
  | .unset :: a, _ :: b, _, 0, s, h, hs => by simp at h; exact absurd h.symm hs
  | .unset :: a, _ :: b, hl, i + 1, s, h, hs => by simpa using leL_get (A := a) (B := b) hl (by simpa using h) hs
  | .second :: a, _ :: b, hl, 0, s, h, hs => by simp at h; subst h; simp [← hl.1]
  | .second :: a, _ :: b, hl, i + 1, s, h, hs => by simpa using leL_get (A := a) (B := b) hl.2 (by simpa using h) hs
  | .val _ :: a, _ :: b, hl, 0, s, h, hs => by simp at h; subst h; simp [← hl.1]
  | .val _ :: a, _ :: b, hl, i + 1, s, h, hs => by simpa using leL_get (A := a) (B := b) hl.2 (by simpa using h) hs
theorem LR.weak {ad : Nat → Addr} {A B : List Slot} {Ls : Array Slot} (h : leL A B) (hL : LR ad B Ls) : LR ad A Ls :=
  ⟨(leL_len h).trans hL.1, fun i v q => hL.2.1 i v (leL_get h q (by simp)), fun i q => hL.2.2.1 i (leL_get h q (by simp)), hL.2.2.2⟩
theorem wf_cons {x : Slot} {M : List Slot} (hx : x = .unset ∨ ∃ v, x = .val v ∧ v.category = 1) (h : WFs fun i => M[i]?) : WFs fun i => (x :: M)[i]? := by
  refine ⟨fun i hi => ?_, fun i v hi hc => ?_⟩
  · cases i with
    | zero => rcases hx with rfl | ⟨v, rfl, -⟩ <;> (simp at hi)
    | succ i =>
      obtain ⟨j, v, rfl, h1, h2⟩ := h.1 i (by simpa using hi)
      exact ⟨j + 1, v, rfl, by simpa using h1, h2⟩
  · cases i with
    | zero =>
      rcases hx with rfl | ⟨w, rfl, hw⟩
      · simp at hi
      · simp at hi; subst hi; rw [hw] at hc; cases hc
    | succ i => simpa using h.2 i v (by simpa using hi) hc
theorem wf_cons2 {w : Value} {M : List Slot} (hw : w.category = 2) (h : WFs fun i => M[i]?) : WFs fun i => (.val w :: .second :: M)[i]? := by
  refine ⟨fun i hi => ?_, fun i v hi hc => ?_⟩
  · match i, hi with
    | 0, hi => simp at hi
    | 1, _ => exact ⟨0, w, rfl, rfl, hw⟩
    | i + 2, hi =>
      obtain ⟨j, v, rfl, h1, h2⟩ := h.1 i (by simpa using hi)
      exact ⟨j + 2, v, rfl, by simpa using h1, h2⟩
  · match i, hi with
    | 0, _ => rfl
    | 1, hi => simp at hi
    | i + 2, hi => simpa using h.2 i v (by simpa using hi) hc
/-- the local variables at the entry -/
def laid : List Value → List Slot
  | [] => []
  | v :: vs => if v.category = 2 then .val v :: .second :: laid vs else .val v :: laid vs
def entL (as : List Value) (n : Nat) : List Slot := laid as ++ List.replicate (n - (laid as).length) Slot.unset
theorem laid_rel (ad : Nat → Addr) (k : Nat) : ∀ as : List Value, (laid as ++ List.replicate k Slot.unset).length = (laid (as.map (rf ad)) ++ List.replicate k Slot.unset).length ∧ (∀ (i : Nat) (v : Value), (laid as ++ List.replicate k Slot.unset)[i]? = some (.val v) → (laid (as.map (rf ad)) ++ List.replicate k Slot.unset)[i]? = some (.val (rf ad v))) ∧
    (∀ i : Nat, (laid as ++ List.replicate k Slot.unset)[i]? = some .second → (laid (as.map (rf ad)) ++ List.replicate k Slot.unset)[i]? = some .second) ∧ WFs fun i => (laid (as.map (rf ad)) ++ List.replicate k Slot.unset)[i]?
  | [] => by
    refine ⟨rfl, fun i v h => ?_, fun i h => h, fun i h => ?_, fun i v h => ?_⟩
    · simp [laid, List.getElem?_replicate] at h
    · simp [laid, List.getElem?_replicate] at h
    · simp [laid, List.getElem?_replicate] at h
  | v :: vs => by
    obtain ⟨a1, a2, a3, a4⟩ := laid_rel ad k vs
    have hc : (rf ad v).category = v.category := rf_cat ad v
    by_cases h : v.category = 2
    · have e1 : laid (v :: vs) = .val v :: .second :: laid vs := if_pos h
      have e2 : laid ((v :: vs).map (rf ad)) = .val (rf ad v) :: .second :: laid (vs.map (rf ad)) := if_pos (hc.trans h)
      rw [e1, e2]
      refine ⟨by simpa using a1, fun i w hi => ?_, fun i hi => ?_, wf_cons2 (hc.trans h) a4⟩
      · match i, hi with
        | 0, hi => simp at hi; subst hi; rfl
        | 1, hi => simp at hi
        | i + 2, hi => simpa using a2 i w (by simpa using hi)
      · match i, hi with
        | 0, hi => simp at hi
        | 1, hi => rfl
        | i + 2, hi => simpa using a3 i (by simpa using hi)
    · have e1 : laid (v :: vs) = .val v :: laid vs := if_neg h
      have e2 : laid ((v :: vs).map (rf ad)) = .val (rf ad v) :: laid (vs.map (rf ad)) := if_neg (by rw [hc]; exact h)
      have h1 : (rf ad v).category = 1 := by
        rw [hc]; cases v <;> first | rfl | exact absurd rfl h
      rw [e1, e2]
      refine ⟨by simpa using a1, fun i w hi => ?_, fun i hi => ?_, wf_cons (Or.inr ⟨_, rfl, h1⟩) a4⟩
      · match i, hi with
        | 0, hi => simp at hi; subst hi; rfl
        | i + 1, hi => simpa using a2 i w (by simpa using hi)
      · match i, hi with
        | 0, hi => simp at hi
        | i + 1, hi => simpa using a3 i (by simpa using hi)
theorem laid_foldl : ∀ (as : List Value) (acc : Array Slot), (as.foldl (fun acc v => if v.category = 2 then (acc.push (.val v)).push .second else acc.push (.val v)) acc).toList = acc.toList ++ laid as
  | [], acc => by simp [laid]
  | v :: vs, acc => by
    show (List.foldl _ (if v.category = 2 then (acc.push (.val v)).push .second else acc.push (.val v)) vs : Array Slot).toList = _
    rw [laid_foldl vs]
    by_cases h : v.category = 2
    · rw [if_pos h, show laid (v :: vs) = .val v :: .second :: laid vs from if_pos h]; simp
    · rw [if_neg h, show laid (v :: vs) = .val v :: laid vs from if_neg h]; simp
theorem laid_map_len (ad : Nat → Addr) (as : List Value) : (laid (as.map (rf ad))).length = (laid as).length := by
  have := (laid_rel ad 0 as).1
  simpa using this.symm
theorem entry_LR (ad : Nat → Addr) (as : List Value) (n : Nat) (hn : (laid as).length ≤ n) : LR ad (entL as n) (argsToLocals (as.map (rf ad)).toArray n) ∧ (argsToLocals (as.map (rf ad)).toArray n).size = n := by
  have e : (argsToLocals (as.map (rf ad)).toArray n).toList = laid (as.map (rf ad)) ++ List.replicate (n - (laid as).length) Slot.unset := by
    have e1 := laid_foldl (as.map (rf ad)) #[]
    have e2 : ((as.map (rf ad)).toArray.foldl (fun acc v => if v.category = 2 then (acc.push (.val v)).push .second else acc.push (.val v)) #[] : Array Slot).toList = laid (as.map (rf ad)) := by
      rw [List.foldl_toArray']
      · rw [e1]; rfl
      · rfl
    have e3 : ((as.map (rf ad)).toArray.foldl (fun acc v => if v.category = 2 then (acc.push (.val v)).push .second else acc.push (.val v)) #[] : Array Slot).size = (laid as).length := by
      rw [← Array.length_toList, e2, laid_map_len]
    show (_ ++ Array.replicate (n - _) Slot.unset).toList = _
    rw [Array.toList_append, e2, Array.toList_replicate, e3]
  obtain ⟨a1, a2, a3, a4⟩ := laid_rel ad (n - (laid as).length) as
  have g : ∀ i : Nat, (argsToLocals (as.map (rf ad)).toArray n)[i]? = (laid (as.map (rf ad)) ++ List.replicate (n - (laid as).length) Slot.unset)[i]? := fun i => by rw [← e, Array.getElem?_toList]
  have sz : (argsToLocals (as.map (rf ad)).toArray n).size = (laid (as.map (rf ad)) ++ List.replicate (n - (laid as).length) Slot.unset).length := by rw [← e, Array.length_toList]
  refine ⟨⟨by rw [sz]; exact a1, fun i v h => by rw [g]; exact a2 i v h, fun i h => by rw [g]; exact a3 i h, ?_⟩, by rw [sz, ← a1]; simp; omega⟩
  have : (fun i => (argsToLocals (as.map (rf ad)).toArray n)[i]?) = fun i => (laid (as.map (rf ad)) ++ List.replicate (n - (laid as).length) Slot.unset)[i]? := funext g
  rw [this]; exact a4
/-! ## reading and writing a list as Java does an array -/
def rd {α : Type} (xs : List α) (i : Int32) : Option α := if i < 0 then none else xs[i.toNatClampNeg]?
def wr {α : Type} (xs : List α) (i : Int32) (x : α) : Option (List α) := if i < 0 then none else if i.toNatClampNeg < xs.length then some (xs.set i.toNatClampNeg x) else none
theorem rd_slots {α : Type} {f : α → Value} {sl : Array Value} {xs : List α} (h : sl.toList = xs.map f) {j : Int32} {x : α} (hx : rd xs j = some x) : ¬ (j < 0 ∨ sl.size ≤ j.toNatClampNeg) ∧ sl[j.toNatClampNeg]? = some (f x) := by
  unfold rd at hx
  by_cases hj : j < 0
  · rw [if_pos hj] at hx; cases hx
  · rw [if_neg hj] at hx
    have h1 : sl[j.toNatClampNeg]? = some (f x) := by rw [← Array.getElem?_toList, h, List.getElem?_map, hx]; rfl
    exact ⟨fun q => q.elim hj fun q => absurd (Array.getElem?_eq_some_iff.mp h1).1 (Nat.not_lt.mpr q), h1⟩
theorem wr_slots {α : Type} {f : α → Value} {cl : Cell} {xs xs' : List α} (h : cl.slots.toList = xs.map f) {j : Int32} {x : α} (hx : wr xs j x = some xs') : ¬ (j < 0 ∨ cl.slots.size ≤ j.toNatClampNeg) ∧ (cl.setSlot j.toNatClampNeg (f x)).slots.toList = xs'.map f := by
  unfold wr at hx
  by_cases hj : j < 0
  · rw [if_pos hj] at hx; cases hx
  · rw [if_neg hj] at hx
    by_cases hl : j.toNatClampNeg < xs.length
    · rw [if_pos hl] at hx; cases hx
      have sz : cl.slots.size = xs.length := by rw [← Array.length_toList, h, List.length_map]
      refine ⟨fun q => q.elim hj fun q => by omega, ?_⟩
      show (cl.slots.setIfInBounds _ _).toList = _
      rw [Array.toList_setIfInBounds, h, List.map_set]
    · rw [if_neg hl] at hx; cases hx
/-! ## the walk's promise, said of the small view -/
def Am (Z : State) (own mn : String) (bytes : ByteArray) (maxL : Nat) (ret : Option FieldType) (p : Program) (s : State) (m : MethodId) (meth : Method) (c : Code) : Prop :=
  p.tables.exec = Jvm.exec ∧ Z.Warmed39 s.vm ∧ c.code = bytes ∧ c.maxLocals = maxL ∧ meth.sig.returnType = ret ∧ meth.locks = false ∧ s.vm.findClass own = some m.cls ∧ meth.name = mn
def WP (l : Launch) (Z : State) (C : String) (lay : List (String × String)) (own mn : String) (bytes : ByteArray) (maxL : Nat) (ret : Option FieldType) (R : Room) (n0 ro : Nat) (Q : Option Value → List OwnC → Prop) (k n pc : Nat) (L : List Slot) (S : List Value) (H : List OwnC) : Prop :=
  ∀ (p : Program) (e : Env) (s : State) (m : MethodId) (args : Array Value) (below : List Frame) (meth : Method) (c : Code) (T : State) (locs : List Loc) (ad : Nat → Addr) (Ls : Array Slot),
    Stand p l e R s m args below meth c T locs k n → Am Z own mn bytes maxL ret p s m meth c → HR Z C lay n0 ro ad H T.heap → Fr n0 locs → LR ad L Ls → Ls.size = maxL →
    ∃ (s₂ : State) (v : Option Value) (H' : List OwnC) (locs' : List Loc),
      Steps p.tables e below (T.setTop (mkF m pc Ls (S.map (rf ad)))) s₂ ∧ s₂.status = .running ∧ Ended s₂ below (.returned (v.map (rf ad))) ∧ Q v H' ∧ HR Z C lay n0 ro ad H' s₂.heap ∧ Kp ad H.length T.heap s₂.heap ∧ Fr n0 locs' ∧ FrameEnd s (.returned (v.map (rf ad))) s₂ locs' R.cells R.slots
section Rules
variable {l : Launch} {Z : State} {a0 : Array Value} {C : String} {lay : List (String × String)} {own mn : String} {bytes : ByteArray} {maxL : Nat} {ret : Option FieldType} {R : Room} {n0 ro : Nat} {Q : Option Value → List OwnC → Prop} {k n pc pc' : Nat} {L L' : List Slot} {S S' : List Value} {H H' : List OwnC}
theorem WP.weak (h : leL L' L) (nx : WP l Z C lay own mn bytes maxL ret R n0 ro Q k n pc L' S H) : WP l Z C lay own mn bytes maxL ret R n0 ro Q k n pc L S H :=
  fun p e s m args below meth c T locs ad Ls X A hr N hL hz => nx p e s m args below meth c T locs ad Ls X A hr N (LR.weak h hL) hz
theorem WP.of (hs : ∀ (p : Program) (e : Env) (s : State) (m : MethodId) (args : Array Value) (below : List Frame) (meth : Method) (c : Code) (T : State) (locs : List Loc) (ad : Nat → Addr) (Ls : Array Slot), Stand p l e R s m args below meth c T locs k n → Am Z own mn bytes maxL ret p s m meth c → LR ad L Ls → Ls.size = maxL →
      ∃ Ls', LR ad L' Ls' ∧ Ls'.size = maxL ∧ ∀ t, Steps p.tables e below (T.setTop (mkF m pc' Ls' (S'.map (rf ad)))) t → Steps p.tables e below (T.setTop (mkF m pc Ls (S.map (rf ad)))) t)
    (nx : WP l Z C lay own mn bytes maxL ret R n0 ro Q k n pc' L' S' H) : WP l Z C lay own mn bytes maxL ret R n0 ro Q k n pc L S H := by
  intro p e s m args below meth c T locs ad Ls X A hr N hL hz
  obtain ⟨Ls', hL', hz', st⟩ := hs p e s m args below meth c T locs ad Ls X A hL hz
  obtain ⟨s₂, v, H', locs', h1, h2⟩ := nx p e s m args below meth c T locs ad Ls' X A hr N hL' hz'
  exact ⟨s₂, v, H', locs', st _ h1, h2⟩
theorem WP.iload {j : Nat} {x : Int32} (hd : decode bytes pc = .ok (.iload j, 2)) (hl : L[j]? = some (.val (.int x))) (nx : WP l Z C lay own mn bytes maxL ret R n0 ro Q k n (pc + 2) L (.int x :: S) H) : WP l Z C lay own mn bytes maxL ret R n0 ro Q k n pc L (S) H :=
  WP.of (fun p e s m args below meth c T locs ad Ls X A hL hz => ⟨Ls, hL, hz, fun t ht => XS.iload X.here A.1 rfl (hb A.2.2.1 hd) (hL.2.1 _ _ hl) ht⟩) nx
theorem WP.iloadN {j : Fin 4} {x : Int32} (hd : decode bytes pc = .ok (.iload_n j, 1)) (hl : L[j.val]? = some (.val (.int x))) (nx : WP l Z C lay own mn bytes maxL ret R n0 ro Q k n (pc + 1) L (.int x :: S) H) : WP l Z C lay own mn bytes maxL ret R n0 ro Q k n pc L (S) H :=
  WP.of (fun p e s m args below meth c T locs ad Ls X A hL hz => ⟨Ls, hL, hz, fun t ht => XS.iloadN X.here A.1 rfl (hb A.2.2.1 hd) (hL.2.1 _ _ hl) ht⟩) nx
theorem WP.lload {j : Nat} {x : Int64} (hd : decode bytes pc = .ok (.lload j, 2)) (hl : L[j]? = some (.val (.long x))) (nx : WP l Z C lay own mn bytes maxL ret R n0 ro Q k n (pc + 2) L (.long x :: S) H) : WP l Z C lay own mn bytes maxL ret R n0 ro Q k n pc L (S) H :=
  WP.of (fun p e s m args below meth c T locs ad Ls X A hL hz => ⟨Ls, hL, hz, fun t ht => XT.lload X.here A.1 rfl (hb A.2.2.1 hd) (hL.2.1 _ _ hl) ht⟩) nx
theorem WP.lloadN {j : Fin 4} {x : Int64} (hd : decode bytes pc = .ok (.lload_n j, 1)) (hl : L[j.val]? = some (.val (.long x))) (nx : WP l Z C lay own mn bytes maxL ret R n0 ro Q k n (pc + 1) L (.long x :: S) H) : WP l Z C lay own mn bytes maxL ret R n0 ro Q k n pc L (S) H :=
  WP.of (fun p e s m args below meth c T locs ad Ls X A hL hz => ⟨Ls, hL, hz, fun t ht => XT.lloadN X.here A.1 rfl (hb A.2.2.1 hd) (hL.2.1 _ _ hl) ht⟩) nx
theorem WP.aload {j : Nat} {i : Nat} (hd : decode bytes pc = .ok (.aload j, 2)) (hl : L[j]? = some (.val (.ref i))) (nx : WP l Z C lay own mn bytes maxL ret R n0 ro Q k n (pc + 2) L (.ref i :: S) H) : WP l Z C lay own mn bytes maxL ret R n0 ro Q k n pc L (S) H :=
  WP.of (fun p e s m args below meth c T locs ad Ls X A hL hz => ⟨Ls, hL, hz, fun t ht => XS.aload X.here A.1 rfl (hb A.2.2.1 hd) (hL.2.1 _ _ hl) rfl ht⟩) nx
theorem WP.aloadN {j : Fin 4} {i : Nat} (hd : decode bytes pc = .ok (.aload_n j, 1)) (hl : L[j.val]? = some (.val (.ref i))) (nx : WP l Z C lay own mn bytes maxL ret R n0 ro Q k n (pc + 1) L (.ref i :: S) H) : WP l Z C lay own mn bytes maxL ret R n0 ro Q k n pc L (S) H :=
  WP.of (fun p e s m args below meth c T locs ad Ls X A hL hz => ⟨Ls, hL, hz, fun t ht => XS.aloadN X.here A.1 rfl (hb A.2.2.1 hd) (hL.2.1 _ _ hl) rfl ht⟩) nx
theorem WP.iconst {i : Int} (v : Int32) (hd : decode bytes pc = .ok (.iconst i, 1)) (hv : Int32.ofInt i = v) (nx : WP l Z C lay own mn bytes maxL ret R n0 ro Q k n (pc + 1) L (.int v :: S) H) : WP l Z C lay own mn bytes maxL ret R n0 ro Q k n pc L (S) H :=
  WP.of (fun p e s m args below meth c T locs ad Ls X A hL hz => ⟨Ls, hL, hz, fun t ht => XS.iconst X.here A.1 rfl (hb A.2.2.1 hd) (by rw [hv]; exact ht)⟩) nx
theorem WP.bipush {i : Int} (v : Int32) (hd : decode bytes pc = .ok (.bipush i, 2)) (hv : (Int8.ofInt i).toInt32 = v) (nx : WP l Z C lay own mn bytes maxL ret R n0 ro Q k n (pc + 2) L (.int v :: S) H) : WP l Z C lay own mn bytes maxL ret R n0 ro Q k n pc L (S) H :=
  WP.of (fun p e s m args below meth c T locs ad Ls X A hL hz => ⟨Ls, hL, hz, fun t ht => XS.bipush X.here A.1 rfl (hb A.2.2.1 hd) (by rw [hv]; exact ht)⟩) nx
theorem WP.sipush {i : Int} (v : Int32) (hd : decode bytes pc = .ok (.sipush i, 3)) (hv : (Int16.ofInt i).toInt32 = v) (nx : WP l Z C lay own mn bytes maxL ret R n0 ro Q k n (pc + 3) L (.int v :: S) H) : WP l Z C lay own mn bytes maxL ret R n0 ro Q k n pc L (S) H :=
  WP.of (fun p e s m args below meth c T locs ad Ls X A hL hz => ⟨Ls, hL, hz, fun t ht => XS.sipush X.here A.1 rfl (hb A.2.2.1 hd) (by rw [hv]; exact ht)⟩) nx
theorem WP.lconst {j : Fin 2} (v : Int64) (hd : decode bytes pc = .ok (.lconst j, 1)) (hv : Int64.ofNat j = v) (nx : WP l Z C lay own mn bytes maxL ret R n0 ro Q k n (pc + 1) L (.long v :: S) H) : WP l Z C lay own mn bytes maxL ret R n0 ro Q k n pc L (S) H :=
  WP.of (fun p e s m args below meth c T locs ad Ls X A hL hz => ⟨Ls, hL, hz, fun t ht => XT.lconst X.here A.1 rfl (hb A.2.2.1 hd) (by rw [hv]; exact ht)⟩) nx
theorem WP.ldc {idx : Nat} {v : Int32} (hd : decode bytes pc = .ok (.ldc idx, 2)) (hw : (Cond.constant own idx v).before a0 Z = true) (nx : WP l Z C lay own mn bytes maxL ret R n0 ro Q k n (pc + 2) L (.int v :: S) H) : WP l Z C lay own mn bytes maxL ret R n0 ro Q k n pc L (S) H :=
  WP.of (fun p e s m args below meth c T locs ad Ls X A hL hz => ⟨Ls, hL, hz, fun t ht => X.ldcInt A.1 A.2.2.2.2.2.2.1 (mvT A.2.1 hw) (g := mkF m pc Ls (S.map (rf ad))) rfl (hb A.2.2.1 hd) t ht⟩) nx
theorem WP.ldcw {idx : Nat} {v : Int32} (hd : decode bytes pc = .ok (.ldc_w idx, 3)) (hw : (Cond.constant own idx v).before a0 Z = true) (nx : WP l Z C lay own mn bytes maxL ret R n0 ro Q k n (pc + 3) L (.int v :: S) H) : WP l Z C lay own mn bytes maxL ret R n0 ro Q k n pc L (S) H :=
  WP.of (fun p e s m args below meth c T locs ad Ls X A hL hz => ⟨Ls, hL, hz, fun t ht => X.ldcwInt A.1 A.2.2.2.2.2.2.1 (mvT A.2.1 hw) (g := mkF m pc Ls (S.map (rf ad))) rfl (hb A.2.2.1 hd) t ht⟩) nx
theorem WP.ldc2 {idx : Nat} {v : Int64} (hd : decode bytes pc = .ok (.ldc2_w idx, 3)) (hw : (Cond.constantLong own idx v).before a0 Z = true) (nx : WP l Z C lay own mn bytes maxL ret R n0 ro Q k n (pc + 3) L (.long v :: S) H) : WP l Z C lay own mn bytes maxL ret R n0 ro Q k n pc L (S) H :=
  WP.of (fun p e s m args below meth c T locs ad Ls X A hL hz => ⟨Ls, hL, hz, fun t ht => X.ldc2Long A.1 A.2.2.2.2.2.2.1 (mvT A.2.1 hw) (g := mkF m pc Ls (S.map (rf ad))) rfl (hb A.2.2.1 hd) t ht⟩) nx
theorem WP.iadd {x y : Int32} (hd : decode bytes pc = .ok (.iadd, 1)) (nx : WP l Z C lay own mn bytes maxL ret R n0 ro Q k n (pc + 1) L (.int (x + y) :: S) H) : WP l Z C lay own mn bytes maxL ret R n0 ro Q k n pc L (.int y :: .int x :: S) H :=
  WP.of (fun p e s m args below meth c T locs ad Ls X A hL hz => ⟨Ls, hL, hz, fun t ht => XS.iadd X.here A.1 rfl (hb A.2.2.1 hd) rfl ht⟩) nx
theorem WP.ladd {x y : Int64} (hd : decode bytes pc = .ok (.ladd, 1)) (nx : WP l Z C lay own mn bytes maxL ret R n0 ro Q k n (pc + 1) L (.long (x + y) :: S) H) : WP l Z C lay own mn bytes maxL ret R n0 ro Q k n pc L (.long y :: .long x :: S) H :=
  WP.of (fun p e s m args below meth c T locs ad Ls X A hL hz => ⟨Ls, hL, hz, fun t ht => XT.ladd X.here A.1 rfl (hb A.2.2.1 hd) rfl ht⟩) nx
theorem WP.isub {x y : Int32} (hd : decode bytes pc = .ok (.isub, 1)) (nx : WP l Z C lay own mn bytes maxL ret R n0 ro Q k n (pc + 1) L (.int (x - y) :: S) H) : WP l Z C lay own mn bytes maxL ret R n0 ro Q k n pc L (.int y :: .int x :: S) H :=
  WP.of (fun p e s m args below meth c T locs ad Ls X A hL hz => ⟨Ls, hL, hz, fun t ht => XS.isub X.here A.1 rfl (hb A.2.2.1 hd) rfl ht⟩) nx
theorem WP.lsub {x y : Int64} (hd : decode bytes pc = .ok (.lsub, 1)) (nx : WP l Z C lay own mn bytes maxL ret R n0 ro Q k n (pc + 1) L (.long (x - y) :: S) H) : WP l Z C lay own mn bytes maxL ret R n0 ro Q k n pc L (.long y :: .long x :: S) H :=
  WP.of (fun p e s m args below meth c T locs ad Ls X A hL hz => ⟨Ls, hL, hz, fun t ht => XT.lsub X.here A.1 rfl (hb A.2.2.1 hd) rfl ht⟩) nx
theorem WP.imul {x y : Int32} (hd : decode bytes pc = .ok (.imul, 1)) (nx : WP l Z C lay own mn bytes maxL ret R n0 ro Q k n (pc + 1) L (.int (x * y) :: S) H) : WP l Z C lay own mn bytes maxL ret R n0 ro Q k n pc L (.int y :: .int x :: S) H :=
  WP.of (fun p e s m args below meth c T locs ad Ls X A hL hz => ⟨Ls, hL, hz, fun t ht => XS.imul X.here A.1 rfl (hb A.2.2.1 hd) rfl ht⟩) nx
theorem WP.lmul {x y : Int64} (hd : decode bytes pc = .ok (.lmul, 1)) (nx : WP l Z C lay own mn bytes maxL ret R n0 ro Q k n (pc + 1) L (.long (x * y) :: S) H) : WP l Z C lay own mn bytes maxL ret R n0 ro Q k n pc L (.long y :: .long x :: S) H :=
  WP.of (fun p e s m args below meth c T locs ad Ls X A hL hz => ⟨Ls, hL, hz, fun t ht => XT.lmul X.here A.1 rfl (hb A.2.2.1 hd) rfl ht⟩) nx
theorem WP.iand {x y : Int32} (hd : decode bytes pc = .ok (.iand, 1)) (nx : WP l Z C lay own mn bytes maxL ret R n0 ro Q k n (pc + 1) L (.int (x &&& y) :: S) H) : WP l Z C lay own mn bytes maxL ret R n0 ro Q k n pc L (.int y :: .int x :: S) H :=
  WP.of (fun p e s m args below meth c T locs ad Ls X A hL hz => ⟨Ls, hL, hz, fun t ht => XS.iand X.here A.1 rfl (hb A.2.2.1 hd) rfl ht⟩) nx
theorem WP.land {x y : Int64} (hd : decode bytes pc = .ok (.land, 1)) (nx : WP l Z C lay own mn bytes maxL ret R n0 ro Q k n (pc + 1) L (.long (x &&& y) :: S) H) : WP l Z C lay own mn bytes maxL ret R n0 ro Q k n pc L (.long y :: .long x :: S) H :=
  WP.of (fun p e s m args below meth c T locs ad Ls X A hL hz => ⟨Ls, hL, hz, fun t ht => XT.land X.here A.1 rfl (hb A.2.2.1 hd) rfl ht⟩) nx
theorem WP.ior {x y : Int32} (hd : decode bytes pc = .ok (.ior, 1)) (nx : WP l Z C lay own mn bytes maxL ret R n0 ro Q k n (pc + 1) L (.int (x ||| y) :: S) H) : WP l Z C lay own mn bytes maxL ret R n0 ro Q k n pc L (.int y :: .int x :: S) H :=
  WP.of (fun p e s m args below meth c T locs ad Ls X A hL hz => ⟨Ls, hL, hz, fun t ht => XT.ior X.here A.1 rfl (hb A.2.2.1 hd) rfl ht⟩) nx
theorem WP.lor {x y : Int64} (hd : decode bytes pc = .ok (.lor, 1)) (nx : WP l Z C lay own mn bytes maxL ret R n0 ro Q k n (pc + 1) L (.long (x ||| y) :: S) H) : WP l Z C lay own mn bytes maxL ret R n0 ro Q k n pc L (.long y :: .long x :: S) H :=
  WP.of (fun p e s m args below meth c T locs ad Ls X A hL hz => ⟨Ls, hL, hz, fun t ht => XT.lor X.here A.1 rfl (hb A.2.2.1 hd) rfl ht⟩) nx
theorem WP.ixor {x y : Int32} (hd : decode bytes pc = .ok (.ixor, 1)) (nx : WP l Z C lay own mn bytes maxL ret R n0 ro Q k n (pc + 1) L (.int (x ^^^ y) :: S) H) : WP l Z C lay own mn bytes maxL ret R n0 ro Q k n pc L (.int y :: .int x :: S) H :=
  WP.of (fun p e s m args below meth c T locs ad Ls X A hL hz => ⟨Ls, hL, hz, fun t ht => XT.ixor X.here A.1 rfl (hb A.2.2.1 hd) rfl ht⟩) nx
theorem WP.lxor {x y : Int64} (hd : decode bytes pc = .ok (.lxor, 1)) (nx : WP l Z C lay own mn bytes maxL ret R n0 ro Q k n (pc + 1) L (.long (x ^^^ y) :: S) H) : WP l Z C lay own mn bytes maxL ret R n0 ro Q k n pc L (.long y :: .long x :: S) H :=
  WP.of (fun p e s m args below meth c T locs ad Ls X A hL hz => ⟨Ls, hL, hz, fun t ht => XT.lxor X.here A.1 rfl (hb A.2.2.1 hd) rfl ht⟩) nx
theorem WP.idiv {x y : Int32} (hd : decode bytes pc = .ok (.idiv, 1)) (hy : ¬ y = 0) (nx : WP l Z C lay own mn bytes maxL ret R n0 ro Q k n (pc + 1) L (.int (x / y) :: S) H) : WP l Z C lay own mn bytes maxL ret R n0 ro Q k n pc L (.int y :: .int x :: S) H :=
  WP.of (fun p e s m args below meth c T locs ad Ls X A hL hz => ⟨Ls, hL, hz, fun t ht => XS.idiv X.here A.1 rfl (hb A.2.2.1 hd) rfl hy ht⟩) nx
theorem WP.irem {x y : Int32} (hd : decode bytes pc = .ok (.irem, 1)) (hy : ¬ y = 0) (nx : WP l Z C lay own mn bytes maxL ret R n0 ro Q k n (pc + 1) L (.int (x % y) :: S) H) : WP l Z C lay own mn bytes maxL ret R n0 ro Q k n pc L (.int y :: .int x :: S) H :=
  WP.of (fun p e s m args below meth c T locs ad Ls X A hL hz => ⟨Ls, hL, hz, fun t ht => iremM X A.1 rfl (hb A.2.2.1 hd) rfl hy ht⟩) nx
theorem WP.ldiv {x y : Int64} (hd : decode bytes pc = .ok (.ldiv, 1)) (hy : ¬ y = 0) (nx : WP l Z C lay own mn bytes maxL ret R n0 ro Q k n (pc + 1) L (.long (x / y) :: S) H) : WP l Z C lay own mn bytes maxL ret R n0 ro Q k n pc L (.long y :: .long x :: S) H :=
  WP.of (fun p e s m args below meth c T locs ad Ls X A hL hz => ⟨Ls, hL, hz, fun t ht => XT.ldiv X.here A.1 rfl (hb A.2.2.1 hd) rfl hy ht⟩) nx
theorem lrem_mod (x y : Int64) : x - (x / y) * y = x % y := by
  apply Int64.toInt_inj.mp
  have h1 := Int64.le_toInt (x % y)
  have h2 := Int64.toInt_lt (x % y)
  rw [Int64.toInt_sub, Int64.toInt_mul, Int64.toInt_div, Int.bmod_mul_bmod, Int.sub_bmod_bmod, Int.mul_comm (x.toInt.tdiv y.toInt), ← Int.tmod_def, ← Int64.toInt_mod]
  exact Int.bmod_eq_of_le_mul_two (by omega) (by omega)
theorem WP.lrem {x y : Int64} (hd : decode bytes pc = .ok (.lrem, 1)) (hy : ¬ y = 0) (nx : WP l Z C lay own mn bytes maxL ret R n0 ro Q k n (pc + 1) L (.long (x % y) :: S) H) : WP l Z C lay own mn bytes maxL ret R n0 ro Q k n pc L (.long y :: .long x :: S) H :=
  WP.of (fun p e s m args below meth c T locs ad Ls X A hL hz => ⟨Ls, hL, hz, fun t ht => XT.lrem X.here A.1 rfl (hb A.2.2.1 hd) rfl hy (by rw [lrem_mod]; exact ht)⟩) nx
theorem WP.ishl {x y : Int32} (hd : decode bytes pc = .ok (.ishl, 1)) (nx : WP l Z C lay own mn bytes maxL ret R n0 ro Q k n (pc + 1) L (.int (x <<< (y &&& 31)) :: S) H) : WP l Z C lay own mn bytes maxL ret R n0 ro Q k n pc L (.int y :: .int x :: S) H :=
  WP.of (fun p e s m args below meth c T locs ad Ls X A hL hz => ⟨Ls, hL, hz, fun t ht => XT.ishl X.here A.1 rfl (hb A.2.2.1 hd) rfl ht⟩) nx
theorem WP.ishr {x y : Int32} (hd : decode bytes pc = .ok (.ishr, 1)) (nx : WP l Z C lay own mn bytes maxL ret R n0 ro Q k n (pc + 1) L (.int (x >>> (y &&& 31)) :: S) H) : WP l Z C lay own mn bytes maxL ret R n0 ro Q k n pc L (.int y :: .int x :: S) H :=
  WP.of (fun p e s m args below meth c T locs ad Ls X A hL hz => ⟨Ls, hL, hz, fun t ht => XT.ishr X.here A.1 rfl (hb A.2.2.1 hd) rfl ht⟩) nx
theorem WP.iushr {x y : Int32} (hd : decode bytes pc = .ok (.iushr, 1)) (nx : WP l Z C lay own mn bytes maxL ret R n0 ro Q k n (pc + 1) L (.int (XT.ushr x y) :: S) H) : WP l Z C lay own mn bytes maxL ret R n0 ro Q k n pc L (.int y :: .int x :: S) H :=
  WP.of (fun p e s m args below meth c T locs ad Ls X A hL hz => ⟨Ls, hL, hz, fun t ht => XT.iushr X.here A.1 rfl (hb A.2.2.1 hd) rfl ht⟩) nx
theorem WP.lshl {x : Int64} {y : Int32} (hd : decode bytes pc = .ok (.lshl, 1)) (nx : WP l Z C lay own mn bytes maxL ret R n0 ro Q k n (pc + 1) L (.long (x <<< (y.toInt64 &&& 63)) :: S) H) : WP l Z C lay own mn bytes maxL ret R n0 ro Q k n pc L (.int y :: .long x :: S) H :=
  WP.of (fun p e s m args below meth c T locs ad Ls X A hL hz => ⟨Ls, hL, hz, fun t ht => XT.lshl X.here A.1 rfl (hb A.2.2.1 hd) rfl ht⟩) nx
theorem WP.lshr {x : Int64} {y : Int32} (hd : decode bytes pc = .ok (.lshr, 1)) (nx : WP l Z C lay own mn bytes maxL ret R n0 ro Q k n (pc + 1) L (.long (x >>> (y.toInt64 &&& 63)) :: S) H) : WP l Z C lay own mn bytes maxL ret R n0 ro Q k n pc L (.int y :: .long x :: S) H :=
  WP.of (fun p e s m args below meth c T locs ad Ls X A hL hz => ⟨Ls, hL, hz, fun t ht => XT.lshr X.here A.1 rfl (hb A.2.2.1 hd) rfl ht⟩) nx
theorem WP.lushr {x : Int64} {y : Int32} (hd : decode bytes pc = .ok (.lushr, 1)) (nx : WP l Z C lay own mn bytes maxL ret R n0 ro Q k n (pc + 1) L (.long (XT.ushrL x y) :: S) H) : WP l Z C lay own mn bytes maxL ret R n0 ro Q k n pc L (.int y :: .long x :: S) H :=
  WP.of (fun p e s m args below meth c T locs ad Ls X A hL hz => ⟨Ls, hL, hz, fun t ht => XT.lushr X.here A.1 rfl (hb A.2.2.1 hd) rfl ht⟩) nx
theorem WP.ineg {x : Int32} (hd : decode bytes pc = .ok (.ineg, 1)) (nx : WP l Z C lay own mn bytes maxL ret R n0 ro Q k n (pc + 1) L (.int (-x) :: S) H) : WP l Z C lay own mn bytes maxL ret R n0 ro Q k n pc L (.int x :: S) H :=
  WP.of (fun p e s m args below meth c T locs ad Ls X A hL hz => ⟨Ls, hL, hz, fun t ht => XS.ineg X.here A.1 rfl (hb A.2.2.1 hd) rfl ht⟩) nx
theorem WP.lneg {x : Int64} (hd : decode bytes pc = .ok (.lneg, 1)) (nx : WP l Z C lay own mn bytes maxL ret R n0 ro Q k n (pc + 1) L (.long (-x) :: S) H) : WP l Z C lay own mn bytes maxL ret R n0 ro Q k n pc L (.long x :: S) H :=
  WP.of (fun p e s m args below meth c T locs ad Ls X A hL hz => ⟨Ls, hL, hz, fun t ht => XT.lneg X.here A.1 rfl (hb A.2.2.1 hd) rfl ht⟩) nx
theorem WP.i2l {x : Int32} (hd : decode bytes pc = .ok (.i2l, 1)) (nx : WP l Z C lay own mn bytes maxL ret R n0 ro Q k n (pc + 1) L (.long x.toInt64 :: S) H) : WP l Z C lay own mn bytes maxL ret R n0 ro Q k n pc L (.int x :: S) H :=
  WP.of (fun p e s m args below meth c T locs ad Ls X A hL hz => ⟨Ls, hL, hz, fun t ht => XT.i2l X.here A.1 rfl (hb A.2.2.1 hd) rfl ht⟩) nx
theorem WP.l2i {x : Int64} (hd : decode bytes pc = .ok (.l2i, 1)) (nx : WP l Z C lay own mn bytes maxL ret R n0 ro Q k n (pc + 1) L (.int x.toInt32 :: S) H) : WP l Z C lay own mn bytes maxL ret R n0 ro Q k n pc L (.long x :: S) H :=
  WP.of (fun p e s m args below meth c T locs ad Ls X A hL hz => ⟨Ls, hL, hz, fun t ht => XT.l2i X.here A.1 rfl (hb A.2.2.1 hd) rfl ht⟩) nx
theorem WP.lcmp {x y : Int64} (hd : decode bytes pc = .ok (.lcmp, 1)) (nx : WP l Z C lay own mn bytes maxL ret R n0 ro Q k n (pc + 1) L (.int (XT.cmpL x y) :: S) H) : WP l Z C lay own mn bytes maxL ret R n0 ro Q k n pc L (.long y :: .long x :: S) H :=
  WP.of (fun p e s m args below meth c T locs ad Ls X A hL hz => ⟨Ls, hL, hz, fun t ht => XT.lcmp X.here A.1 rfl (hb A.2.2.1 hd) rfl ht⟩) nx
theorem WP.dup {v : Value} (hd : decode bytes pc = .ok (.dup, 1)) (hc : v.category = 1) (nx : WP l Z C lay own mn bytes maxL ret R n0 ro Q k n (pc + 1) L (v :: v :: S) H) : WP l Z C lay own mn bytes maxL ret R n0 ro Q k n pc L (v :: S) H :=
  WP.of (fun p e s m args below meth c T locs ad Ls X A hL hz => ⟨Ls, hL, hz, fun t ht => XS.dup X.here A.1 rfl (hb A.2.2.1 hd) rfl (by rw [rf_cat]; exact hc) ht⟩) nx
theorem WP.dup2 {v w : Value} (hd : decode bytes pc = .ok (.dup2, 1)) (hc : v.category = 1) (hc' : w.category = 1) (nx : WP l Z C lay own mn bytes maxL ret R n0 ro Q k n (pc + 1) L (v :: w :: v :: w :: S) H) : WP l Z C lay own mn bytes maxL ret R n0 ro Q k n pc L (v :: w :: S) H :=
  WP.of (fun p e s m args below meth c T locs ad Ls X A hL hz => ⟨Ls, hL, hz, fun t ht => XT.dup2 X.here A.1 rfl (hb A.2.2.1 hd) rfl (by rw [rf_cat]; exact hc) (by rw [rf_cat]; exact hc') ht⟩) nx
theorem WP.dup2L {x : Int64} (hd : decode bytes pc = .ok (.dup2, 1)) (nx : WP l Z C lay own mn bytes maxL ret R n0 ro Q k n (pc + 1) L (.long x :: .long x :: S) H) : WP l Z C lay own mn bytes maxL ret R n0 ro Q k n pc L (.long x :: S) H :=
  WP.of (fun p e s m args below meth c T locs ad Ls X A hL hz => ⟨Ls, hL, hz, fun t ht => XT.dup2L X.here A.1 rfl (hb A.2.2.1 hd) rfl ht⟩) nx
theorem WP.pop {v : Value} (hd : decode bytes pc = .ok (.pop, 1)) (hc : v.category = 1) (nx : WP l Z C lay own mn bytes maxL ret R n0 ro Q k n (pc + 1) L (S) H) : WP l Z C lay own mn bytes maxL ret R n0 ro Q k n pc L (v :: S) H :=
  WP.of (fun p e s m args below meth c T locs ad Ls X A hL hz => ⟨Ls, hL, hz, fun t ht => XT.pop X.here A.1 rfl (hb A.2.2.1 hd) rfl (by rw [rf_cat]; exact hc) ht⟩) nx
theorem WP.istore {j : Nat} {x : Int32} (hd : decode bytes pc = .ok (.istore j, 2)) (hi : j < L.length) (hL' : st1 L j (.int x) = L') (nx : WP l Z C lay own mn bytes maxL ret R n0 ro Q k n (pc + 2) L' S H) : WP l Z C lay own mn bytes maxL ret R n0 ro Q k n pc L (.int x :: S) H :=
  WP.of (fun p e s m args below meth c T locs ad Ls X A hL hz => by
    obtain ⟨Ls', e1, e2, e3⟩ := hL.store1 hi (v := .int x) rfl
    exact ⟨Ls', hL' ▸ e2, e3.trans hz, fun t ht => XS.istore X.here A.1 rfl (hb A.2.2.1 hd) rfl e1 ht⟩) nx
theorem WP.istoreN {j : Fin 4} {x : Int32} (hd : decode bytes pc = .ok (.istore_n j, 1)) (hi : j.val < L.length) (hL' : st1 L j.val (.int x) = L') (nx : WP l Z C lay own mn bytes maxL ret R n0 ro Q k n (pc + 1) L' S H) : WP l Z C lay own mn bytes maxL ret R n0 ro Q k n pc L (.int x :: S) H :=
  WP.of (fun p e s m args below meth c T locs ad Ls X A hL hz => by
    obtain ⟨Ls', e1, e2, e3⟩ := hL.store1 hi (v := .int x) rfl
    exact ⟨Ls', hL' ▸ e2, e3.trans hz, fun t ht => XS.istoreN X.here A.1 rfl (hb A.2.2.1 hd) rfl e1 ht⟩) nx
theorem WP.astore {j : Nat} {i : Nat} (hd : decode bytes pc = .ok (.astore j, 2)) (hi : j < L.length) (hL' : st1 L j (.ref i) = L') (nx : WP l Z C lay own mn bytes maxL ret R n0 ro Q k n (pc + 2) L' S H) : WP l Z C lay own mn bytes maxL ret R n0 ro Q k n pc L (.ref i :: S) H :=
  WP.of (fun p e s m args below meth c T locs ad Ls X A hL hz => by
    obtain ⟨Ls', e1, e2, e3⟩ := hL.store1 hi (v := .ref i) rfl
    exact ⟨Ls', hL' ▸ e2, e3.trans hz, fun t ht => XS.astore X.here A.1 rfl (hb A.2.2.1 hd) rfl rfl e1 ht⟩) nx
theorem WP.astoreN {j : Fin 4} {i : Nat} (hd : decode bytes pc = .ok (.astore_n j, 1)) (hi : j.val < L.length) (hL' : st1 L j.val (.ref i) = L') (nx : WP l Z C lay own mn bytes maxL ret R n0 ro Q k n (pc + 1) L' S H) : WP l Z C lay own mn bytes maxL ret R n0 ro Q k n pc L (.ref i :: S) H :=
  WP.of (fun p e s m args below meth c T locs ad Ls X A hL hz => by
    obtain ⟨Ls', e1, e2, e3⟩ := hL.store1 hi (v := .ref i) rfl
    exact ⟨Ls', hL' ▸ e2, e3.trans hz, fun t ht => XS.astoreN X.here A.1 rfl (hb A.2.2.1 hd) rfl rfl e1 ht⟩) nx
theorem WP.lstore {j : Nat} {x : Int64} (hd : decode bytes pc = .ok (.lstore j, 2)) (hi : j + 1 < L.length) (hL' : st2 L j (.long x) = L') (nx : WP l Z C lay own mn bytes maxL ret R n0 ro Q k n (pc + 2) L' S H) : WP l Z C lay own mn bytes maxL ret R n0 ro Q k n pc L (.long x :: S) H :=
  WP.of (fun p e s m args below meth c T locs ad Ls X A hL hz => by
    obtain ⟨Ls', e1, e2, e3⟩ := hL.store2 hi (v := .long x) rfl
    exact ⟨Ls', hL' ▸ e2, e3.trans hz, fun t ht => XT.lstore X.here A.1 rfl (hb A.2.2.1 hd) rfl e1 ht⟩) nx
theorem WP.lstoreN {j : Fin 4} {x : Int64} (hd : decode bytes pc = .ok (.lstore_n j, 1)) (hi : j.val + 1 < L.length) (hL' : st2 L j.val (.long x) = L') (nx : WP l Z C lay own mn bytes maxL ret R n0 ro Q k n (pc + 1) L' S H) : WP l Z C lay own mn bytes maxL ret R n0 ro Q k n pc L (.long x :: S) H :=
  WP.of (fun p e s m args below meth c T locs ad Ls X A hL hz => by
    obtain ⟨Ls', e1, e2, e3⟩ := hL.store2 hi (v := .long x) rfl
    exact ⟨Ls', hL' ▸ e2, e3.trans hz, fun t ht => XT.lstoreN X.here A.1 rfl (hb A.2.2.1 hd) rfl e1 ht⟩) nx
theorem WP.iinc {j : Nat} {cst : Int} {x : Int32} (v : Int32) (hd : decode bytes pc = .ok (.iinc j cst, 3)) (hv : Int32.ofInt cst = v) (hl : L[j]? = some (.val (.int x))) (hL' : st1 L j (.int (x + v)) = L') (nx : WP l Z C lay own mn bytes maxL ret R n0 ro Q k n (pc + 3) L' S H) : WP l Z C lay own mn bytes maxL ret R n0 ro Q k n pc L S H :=
  WP.of (fun p e s m args below meth c T locs ad Ls X A hL hz => by
    subst hv
    obtain ⟨Ls', e1, e2, e3⟩ := hL.store1 (get_lt hl) (v := .int (x + Int32.ofInt cst)) rfl
    exact ⟨Ls', hL' ▸ e2, e3.trans hz, fun t ht => XS.iinc X.here A.1 rfl (hb A.2.2.1 hd) (hL.2.1 _ _ hl) e1 ht⟩) nx
theorem iincW {tb : Tables} [Ours tb] {e : Env} {below : List Frame} {T target : State} {m : MethodId} {c : Code} {g : JFrame} (h : At T m c below) (hx : tb.exec = Jvm.exec) (hg : g.method = m) {k : Nat} {cst : Int} {x : Int32} {l' : Array Slot} (hd : decode c.code g.pc = .ok (.iinc k cst, 6)) (hl : g.locals[k]? = some (.val (.int x))) (hl' : storeLocals g.locals k (.int (x + Int32.ofInt cst)) = some l')
    (hr : Steps tb e below (T.setTop { g with pc := g.pc + 6, locals := l' }) target) : Steps tb e below (T.setTop g) target := by
  subst hg
  jvm_step h [h.top, hx, hd, hl, hl']
  exact hr
theorem WP.iincW {j : Nat} {cst : Int} {x : Int32} (v : Int32) (hd : decode bytes pc = .ok (.iinc j cst, 6)) (hv : Int32.ofInt cst = v) (hl : L[j]? = some (.val (.int x))) (hL' : st1 L j (.int (x + v)) = L') (nx : WP l Z C lay own mn bytes maxL ret R n0 ro Q k n (pc + 6) L' S H) : WP l Z C lay own mn bytes maxL ret R n0 ro Q k n pc L S H :=
  WP.of (fun p e s m args below meth c T locs ad Ls X A hL hz => by
    subst hv
    obtain ⟨Ls', e1, e2, e3⟩ := hL.store1 (get_lt hl) (v := .int (x + Int32.ofInt cst)) rfl
    exact ⟨Ls', hL' ▸ e2, e3.trans hz, fun t ht => Own.iincW X.here A.1 rfl (hb A.2.2.1 hd) (hL.2.1 _ _ hl) e1 ht⟩) nx
theorem WP.goto {o : Int} (hd : decode bytes pc = .ok (.goto o, 3)) (ho : 0 ≤ (pc : Int) + o) (hp : ((pc : Int) + o).toNat = pc') (nx : WP l Z C lay own mn bytes maxL ret R n0 ro Q k n pc' L S H) : WP l Z C lay own mn bytes maxL ret R n0 ro Q k n pc L S H :=
  WP.of (fun p e s m args below meth c T locs ad Ls X A hL hz => ⟨Ls, hL, hz, fun t ht => XS.goto X.here A.1 rfl rfl (hb A.2.2.1 hd) ho hp ht⟩) nx
theorem WP.ifY {cd : ClassFile.Cond} {x : Int32} {o : Int} (hd : decode bytes pc = .ok (.ifCond cd o, 3)) (hc : ifCond.holds cd x = true) (ho : 0 ≤ (pc : Int) + o) (hp : ((pc : Int) + o).toNat = pc') (nx : WP l Z C lay own mn bytes maxL ret R n0 ro Q k n pc' L S H) : WP l Z C lay own mn bytes maxL ret R n0 ro Q k n pc L (.int x :: S) H :=
  WP.of (fun p e s m args below meth c T locs ad Ls X A hL hz => ⟨Ls, hL, hz, fun t ht => XS.ifYes X.here A.1 rfl rfl (hb A.2.2.1 hd) rfl hc ho hp ht⟩) nx
theorem WP.ifN {cd : ClassFile.Cond} {x : Int32} {o : Int} (hd : decode bytes pc = .ok (.ifCond cd o, 3)) (hc : ifCond.holds cd x = false) (nx : WP l Z C lay own mn bytes maxL ret R n0 ro Q k n (pc + 3) L S H) : WP l Z C lay own mn bytes maxL ret R n0 ro Q k n pc L (.int x :: S) H :=
  WP.of (fun p e s m args below meth c T locs ad Ls X A hL hz => ⟨Ls, hL, hz, fun t ht => XS.ifNo X.here A.1 rfl (hb A.2.2.1 hd) rfl hc ht⟩) nx
theorem WP.icmpY {cd : ClassFile.Cond} {x y : Int32} {o : Int} (hd : decode bytes pc = .ok (.if_icmp cd o, 3)) (hc : if_icmp.holds cd x y = true) (ho : 0 ≤ (pc : Int) + o) (hp : ((pc : Int) + o).toNat = pc') (nx : WP l Z C lay own mn bytes maxL ret R n0 ro Q k n pc' L S H) : WP l Z C lay own mn bytes maxL ret R n0 ro Q k n pc L (.int y :: .int x :: S) H :=
  WP.of (fun p e s m args below meth c T locs ad Ls X A hL hz => ⟨Ls, hL, hz, fun t ht => XS.icmpYes X.here A.1 rfl rfl (hb A.2.2.1 hd) rfl hc ho hp ht⟩) nx
theorem WP.icmpN {cd : ClassFile.Cond} {x y : Int32} {o : Int} (hd : decode bytes pc = .ok (.if_icmp cd o, 3)) (hc : if_icmp.holds cd x y = false) (nx : WP l Z C lay own mn bytes maxL ret R n0 ro Q k n (pc + 3) L S H) : WP l Z C lay own mn bytes maxL ret R n0 ro Q k n pc L (.int y :: .int x :: S) H :=
  WP.of (fun p e s m args below meth c T locs ad Ls X A hL hz => ⟨Ls, hL, hz, fun t ht => XS.icmpNo X.here A.1 rfl (hb A.2.2.1 hd) rfl hc ht⟩) nx
theorem WP.nonnull {i : Nat} {o : Int} (hd : decode bytes pc = .ok (.ifnonnull o, 3)) (ho : 0 ≤ (pc : Int) + o) (hp : ((pc : Int) + o).toNat = pc') (nx : WP l Z C lay own mn bytes maxL ret R n0 ro Q k n pc' L S H) : WP l Z C lay own mn bytes maxL ret R n0 ro Q k n pc L (.ref i :: S) H :=
  WP.of (fun p e s m args below meth c T locs ad Ls X A hL hz => ⟨Ls, hL, hz, fun t ht => XT.ifnonnullYes X.here A.1 rfl rfl (hb A.2.2.1 hd) rfl ho hp ht⟩) nx
theorem WP.tswIn {dflt low high o : Int} {offs : Array Int} {len : Nat} {i : Int32} (hd : decode bytes pc = .ok (.tableswitch dflt low high offs, len)) (hin : ¬ (i.toInt < low ∨ i.toInt > high)) (hoff : offs[(i.toInt - low).toNat]? = some o) (ho : 0 ≤ (pc : Int) + o) (hp : ((pc : Int) + o).toNat = pc') (nx : WP l Z C lay own mn bytes maxL ret R n0 ro Q k n pc' L S H) : WP l Z C lay own mn bytes maxL ret R n0 ro Q k n pc L (.int i :: S) H :=
  WP.of (fun p e s m args below meth c T locs ad Ls X A hL hz => ⟨Ls, hL, hz, fun t ht => XS.tswIn X.here A.1 rfl rfl (hb A.2.2.1 hd) rfl hin hoff ho hp ht⟩) nx
theorem WP.tswOut {dflt low high : Int} {offs : Array Int} {len : Nat} {i : Int32} (hd : decode bytes pc = .ok (.tableswitch dflt low high offs, len)) (hout : i.toInt < low ∨ i.toInt > high) (ho : 0 ≤ (pc : Int) + dflt) (hp : ((pc : Int) + dflt).toNat = pc') (nx : WP l Z C lay own mn bytes maxL ret R n0 ro Q k n pc' L S H) : WP l Z C lay own mn bytes maxL ret R n0 ro Q k n pc L (.int i :: S) H :=
  WP.of (fun p e s m args below meth c T locs ad Ls X A hL hz => ⟨Ls, hL, hz, fun t ht => XS.tswOut X.here A.1 rfl rfl (hb A.2.2.1 hd) rfl hout ho hp ht⟩) nx
theorem tsw_miss {i : Int32} {low high : Int} (h : ∀ z : Int, low ≤ z → z ≤ high → ¬ i = Int32.ofInt z) : i.toInt < low ∨ i.toInt > high := by
  by_cases a : i.toInt < low
  · exact Or.inl a
  · by_cases b : i.toInt > high
    · exact Or.inr b
    · exact absurd (by rw [Int32.ofInt_toInt]) (h i.toInt (by omega) (by omega))
theorem WP.moved (hs : ∀ (p : Program) (e : Env) (s : State) (m : MethodId) (args : Array Value) (below : List Frame) (meth : Method) (c : Code) (T : State) (locs : List Loc) (ad : Nat → Addr) (Ls : Array Slot), Stand p l e R s m args below meth c T locs k n → Am Z own mn bytes maxL ret p s m meth c → HR Z C lay n0 ro ad H T.heap → Fr n0 locs → LR ad L Ls → Ls.size = maxL →
      ∃ T' locs', Stand p l e R s m args below meth c T' locs' k' n' ∧ HR Z C lay n0 ro ad H' T'.heap ∧ Kp ad H.length T.heap T'.heap ∧ Fr n0 locs' ∧ ∀ t, Steps p.tables e below (T'.setTop (mkF m pc' Ls (S'.map (rf ad)))) t → Steps p.tables e below (T.setTop (mkF m pc Ls (S.map (rf ad)))) t)
    (nx : WP l Z C lay own mn bytes maxL ret R n0 ro Q k' n' pc' L S' H') : WP l Z C lay own mn bytes maxL ret R n0 ro Q k n pc L S H := by
  intro p e s m args below meth c T locs ad Ls X A hr N hL hz
  obtain ⟨T', locs', X', hr', K, N', st⟩ := hs p e s m args below meth c T locs ad Ls X A hr N hL hz
  obtain ⟨s₂, v, H2, locs2, h1, h2, h3, h4, h5, h6, h7⟩ := nx p e s m args below meth c T' locs' ad Ls X' A hr' N' hL hz
  exact ⟨s₂, v, H2, locs2, st _ h1, h2, h3, h4, h5, Kp.trans hr K h6, h7⟩
theorem WP.getfield {idx i j : Nat} {f d : String} {vs : List Value} {v : Value} (hd : decode bytes pc = .ok (.getfield idx, 3)) (hw : (Cond.fieldLink own idx C f d).before a0 Z = true) (hj : lay[j]? = some (f, d)) (hH : H[i]? = some (.inl vs)) (hv : vs[j]? = some v) (nx : WP l Z C lay own mn bytes maxL ret R n0 ro Q k n (pc + 3) L (v :: S) H) : WP l Z C lay own mn bytes maxL ret R n0 ro Q k n pc L (.ref i :: S) H :=
  WP.moved (fun p e s m args below meth c T locs ad Ls X A hr N hL hz => by
    have F := (hr.1 i _ hH).2 j _ v hj hv
    obtain ⟨T', X', e', st⟩ := getF X A.1 A.2.1 A.2.2.2.2.2.2.1 (host := "") (Or.inl hw) Via.refl rfl F (g := mkF m pc Ls (.ref (ad i) :: S.map (rf ad))) rfl rfl (hb A.2.2.1 hd)
    exact ⟨T', locs, X', by rw [e']; exact hr, by rw [e']; exact Kp.refl _ _ _, N, fun t ht => st t ht⟩) nx
theorem WP.iaload {i : Nat} {xs : List Int32} {j x : Int32} (hd : decode bytes pc = .ok (.iaload, 1)) (hH : H[i]? = some (cI xs)) (hx : rd xs j = some x) (nx : WP l Z C lay own mn bytes maxL ret R n0 ro Q k n (pc + 1) L (.int x :: S) H) : WP l Z C lay own mn bytes maxL ret R n0 ro Q k n pc L (.int j :: .ref i :: S) H :=
  WP.moved (fun p e s m args below meth c T locs ad Ls X A hr N hL hz => by
    obtain ⟨cl, Ar, hsl⟩ := hr.1 i _ hH
    obtain ⟨q1, q2⟩ := rd_slots hsl hx
    exact ⟨T, locs, X, hr, Kp.refl _ _ _, N, fun t ht => X.iaload A.1 (j := j) Ar.1 (State.isArrayOf_alike A.2.1.alike Ar.2.1) Ar.2.2 q1 q2 (g := mkF m pc Ls (.int j :: .ref (ad i) :: S.map (rf ad))) rfl rfl (hb A.2.2.1 hd) _ ht⟩) nx
theorem WP.laload {i : Nat} {xs : List Int64} {j : Int32} {x : Int64} (hd : decode bytes pc = .ok (.laload, 1)) (hH : H[i]? = some (cJ xs)) (hx : rd xs j = some x) (nx : WP l Z C lay own mn bytes maxL ret R n0 ro Q k n (pc + 1) L (.long x :: S) H) : WP l Z C lay own mn bytes maxL ret R n0 ro Q k n pc L (.int j :: .ref i :: S) H :=
  WP.moved (fun p e s m args below meth c T locs ad Ls X A hr N hL hz => by
    obtain ⟨cl, Ar, hsl⟩ := hr.1 i _ hH
    obtain ⟨q1, q2⟩ := rd_slots hsl hx
    exact ⟨T, locs, X, hr, Kp.refl _ _ _, N, fun t ht => X.laload A.1 (j := j) Ar.1 (State.isArrayOf_alike A.2.1.alike Ar.2.1) Ar.2.2 q1 q2 (g := mkF m pc Ls (.int j :: .ref (ad i) :: S.map (rf ad))) rfl rfl (hb A.2.2.1 hd) _ ht⟩) nx
theorem baloadZ {p : Program} {e : Env} {s : State} {m : MethodId} {args : Array Value} {below : List Frame} {meth : Method} {c : Code} {T : State} {locs : List Loc} {cells slots : Nat} (X : Stand p l e R s m args below meth c T locs cells slots) (hexec : p.tables.exec = Jvm.exec) {a : Addr} {cell : Cell} {j : Int32} {v : Value} (hcell : T.heap[a]? = some cell) (harr : s.isArrayOf cell .boolean) (hknown : cell.vm ≠ .unknown)
    (hin : ¬ (j < 0 ∨ cell.slots.size ≤ j.toNatClampNeg)) (hv : cell.slots[j.toNatClampNeg]? = some v) {g : JFrame} (hg : g.method = m) {rest : List Value} (hstack : g.stack = .int j :: .ref a :: rest) (hdg : decode c.code g.pc = .ok (.baload, 1)) (target : State)
    (hrest : Steps p.tables e below (T.setTop { g with pc := g.pc + 1, stack := v :: rest }) target) : Steps p.tables e below (T.setTop g) target := by
  have hT := State.isArrayOf_alike X.warmed.alike harr
  subst hg
  jvm_step X.here [hexec, hdg, baload.wp_booleans (e := e) (s := T) (f := g) X.here.top hstack hcell hT hin hknown hv]
  exact hrest
theorem WP.baload {i : Nat} {xs : List Int32} {j x : Int32} (hd : decode bytes pc = .ok (.baload, 1)) (hH : H[i]? = some (cZ xs)) (hx : rd xs j = some x) (nx : WP l Z C lay own mn bytes maxL ret R n0 ro Q k n (pc + 1) L (.int x :: S) H) : WP l Z C lay own mn bytes maxL ret R n0 ro Q k n pc L (.int j :: .ref i :: S) H :=
  WP.moved (fun p e s m args below meth c T locs ad Ls X A hr N hL hz => by
    obtain ⟨cl, Ar, hsl⟩ := hr.1 i _ hH
    obtain ⟨q1, q2⟩ := rd_slots hsl hx
    exact ⟨T, locs, X, hr, Kp.refl _ _ _, N, fun t ht => baloadZ X A.1 (j := j) Ar.1 (State.isArrayOf_alike A.2.1.alike Ar.2.1) Ar.2.2 q1 q2 (g := mkF m pc Ls (.int j :: .ref (ad i) :: S.map (rf ad))) rfl rfl (hb A.2.2.1 hd) _ ht⟩) nx
theorem WP.arraylength {i : Nat} {xs : List Int32} (hd : decode bytes pc = .ok (.arraylength, 1)) (hH : H[i]? = some (cI xs)) (nx : WP l Z C lay own mn bytes maxL ret R n0 ro Q k n (pc + 1) L (.int xs.length.toInt32 :: S) H) : WP l Z C lay own mn bytes maxL ret R n0 ro Q k n pc L (.ref i :: S) H :=
  WP.moved (fun p e s m args below meth c T locs ad Ls X A hr N hL hz => by
    obtain ⟨cl, Ar, hsl⟩ := hr.1 i _ hH
    have e1 : cl.slots.size = xs.length := by rw [← Array.length_toList, hsl, List.length_map]
    refine ⟨T, locs, X, hr, Kp.refl _ _ _, N, fun t ht => X.arraylength A.1 Ar.1 (State.isArrayOf_alike A.2.1.alike Ar.2.1) (g := mkF m pc Ls (.ref (ad i) :: S.map (rf ad))) rfl rfl (hb A.2.2.1 hd) _ ?_⟩
    rw [e1]; exact ht) nx
theorem WP.iastore {i : Nat} {xs xs' : List Int32} {j : Int32} {x : Int32} (hd : decode bytes pc = .ok (.iastore, 1)) (hH : H[i]? = some (cI xs)) (hi : ro ≤ i) (hx : wr xs j x = some xs') (hH' : H.set i (cI xs') = H') (nx : WP l Z C lay own mn bytes maxL ret R n0 ro Q k n (pc + 1) L S H') : WP l Z C lay own mn bytes maxL ret R n0 ro Q k n pc L (.int x :: .int j :: .ref i :: S) H :=
  WP.moved (fun p e s m args below meth c T locs ad Ls X A hr N hL hz => by
    obtain ⟨cl, Ar, hsl⟩ := hr.1 i _ hH
    obtain ⟨q1, q2⟩ := wr_slots hsl hx
    obtain ⟨T', h', X', e', w, st⟩ := stI X A.1 A.2.1 rfl Ar (j := j) (x := x) q1 (g := mkF m pc Ls (.int x :: .int j :: .ref (ad i) :: S.map (rf ad))) rfl rfl (hb A.2.2.1 hd)
    subst e'
    have hi' := get_lt hH
    have P := hr.put (h' := T'.heap) (c := cI xs') hi' w.size (fun a cz hne q => by
      obtain ⟨c', g1, -, -, -, g5, -⟩ := wr_at w q
      rw [g5 hne] at g1; exact g1) ⟨_, Ar.same w, q2⟩
    exact ⟨T', _, X', hH' ▸ P.1, P.2, Fr.snoc X' N (hr.2.2.2.1 i hi' hi), fun t ht => st t ht⟩) nx
theorem WP.lastore {i : Nat} {xs xs' : List Int64} {j : Int32} {x : Int64} (hd : decode bytes pc = .ok (.lastore, 1)) (hH : H[i]? = some (cJ xs)) (hi : ro ≤ i) (hx : wr xs j x = some xs') (hH' : H.set i (cJ xs') = H') (nx : WP l Z C lay own mn bytes maxL ret R n0 ro Q k n (pc + 1) L S H') : WP l Z C lay own mn bytes maxL ret R n0 ro Q k n pc L (.long x :: .int j :: .ref i :: S) H :=
  WP.moved (fun p e s m args below meth c T locs ad Ls X A hr N hL hz => by
    obtain ⟨cl, Ar, hsl⟩ := hr.1 i _ hH
    obtain ⟨q1, q2⟩ := wr_slots hsl hx
    obtain ⟨T', h', X', e', w, st⟩ := stJ X A.1 A.2.1 rfl Ar (j := j) (x := x) q1 (g := mkF m pc Ls (.long x :: .int j :: .ref (ad i) :: S.map (rf ad))) rfl rfl (hb A.2.2.1 hd)
    subst e'
    have hi' := get_lt hH
    have P := hr.put (h' := T'.heap) (c := cJ xs') hi' w.size (fun a cz hne q => by
      obtain ⟨c', g1, -, -, -, g5, -⟩ := wr_at w q
      rw [g5 hne] at g1; exact g1) ⟨_, Ar.same w, q2⟩
    exact ⟨T', _, X', hH' ▸ P.1, P.2, Fr.snoc X' N (hr.2.2.2.1 i hi' hi), fun t ht => st t ht⟩) nx
theorem WP.bastore {i : Nat} {xs xs' : List Int32} {j : Int32} {x : Int32} (hd : decode bytes pc = .ok (.bastore, 1)) (hH : H[i]? = some (cZ xs)) (hi : ro ≤ i) (hx : wr xs j (x &&& 1) = some xs') (hH' : H.set i (cZ xs') = H') (nx : WP l Z C lay own mn bytes maxL ret R n0 ro Q k n (pc + 1) L S H') : WP l Z C lay own mn bytes maxL ret R n0 ro Q k n pc L (.int x :: .int j :: .ref i :: S) H :=
  WP.moved (fun p e s m args below meth c T locs ad Ls X A hr N hL hz => by
    obtain ⟨cl, Ar, hsl⟩ := hr.1 i _ hH
    obtain ⟨q1, q2⟩ := wr_slots hsl hx
    obtain ⟨T', h', X', e', w, st⟩ := stZ X A.1 A.2.1 rfl Ar (j := j) (x := x) q1 (g := mkF m pc Ls (.int x :: .int j :: .ref (ad i) :: S.map (rf ad))) rfl rfl (hb A.2.2.1 hd)
    subst e'
    have hi' := get_lt hH
    have P := hr.put (h' := T'.heap) (c := cZ xs') hi' w.size (fun a cz hne q => by
      obtain ⟨c', g1, -, -, -, g5, -⟩ := wr_at w q
      rw [g5 hne] at g1; exact g1) ⟨_, Ar.same w, q2⟩
    exact ⟨T', _, X', hH' ▸ P.1, P.2, Fr.snoc X' N (hr.2.2.2.1 i hi' hi), fun t ht => st t ht⟩) nx
/-- a field of the one class is written -/
theorem WP.put {idx i j kk : Nat} {f d : String} {vs : List Value} {v v' old : Value} {ty : FieldType} (hd : decode bytes pc = .ok (.putfield idx, 3)) (hw : (Cond.fieldLink own idx C f d).before a0 Z = true) (hl : (Cond.lays C C f d).before a0 Z = true ∨ ((Cond.laysFinal C C f d).before a0 Z = true ∧ own = C ∧ mn = "<init>")) (wi : (Cond.instantiable C kk).before a0 Z = true)
    (hlay : ∀ (a b : Nat) (f g : String × String), lay[a]? = some f → lay[b]? = some g → a ≠ b → RoadKit.slotOf Z C f.1 f.2 ≠ RoadKit.slotOf Z C g.1 g.2) (hty : parseFieldDescriptor d = some ty) (hn : ∀ ad, narrow ty (rf ad v) = rf ad v') (hf : ∀ ad, fits ty (rf ad v') = true)
    (hj : lay[j]? = some (f, d)) (hH : H[i]? = some (.inl vs)) (hv : vs[j]? = some old) (hi : ro ≤ i) (hH' : H.set i (.inl (vs.set j v')) = H') (nx : WP l Z C lay own mn bytes maxL ret R n0 ro Q k n (pc + 3) L S H') : WP l Z C lay own mn bytes maxL ret R n0 ro Q k n pc L (v :: .ref i :: S) H :=
  WP.moved (fun p e s m args below meth c T locs ad Ls X A hr N hL hz => by
    obtain ⟨E, F⟩ := hr.1 i _ hH
    obtain ⟨T', h', X', e', w, st⟩ := putFN X A.1 A.2.1 A.2.2.2.2.2.2.1 hw Via.refl rfl (F j _ old hj hv) E (hl.imp id fun q => ⟨q.1, q.2.1, A.2.2.2.2.2.2.2.trans q.2.2⟩) wi hty (hn ad) (hf ad) (g := mkF m pc Ls (rf ad v :: .ref (ad i) :: S.map (rf ad))) rfl rfl (hb A.2.2.1 hd)
    subst e'
    have hi' := get_lt hH
    have P := hr.put (h' := T'.heap) (c := .inl (vs.set j v')) hi' w.size (fun a cz hne q => by
      obtain ⟨c', g1, -, -, -, g5, -⟩ := wr_at w q
      rw [g5 hne] at g1; exact g1) ⟨E.wr w, fun a g u hg hu => by
        rw [List.getElem?_set] at hu
        by_cases e : j = a
        · subst e
          cases hj.symm.trans hg
          rw [if_pos rfl, if_pos (get_lt hv)] at hu
          cases hu
          exact (F j _ old hj hv).same w
        · rw [if_neg e] at hu
          exact (F a g u hg hu).other w (Or.inr (hlay a j g (f, d) hg hj (Ne.symm e)))⟩
    exact ⟨T', _, X', hH' ▸ P.1, P.2, Fr.snoc X' N (hr.2.2.2.1 i hi' hi), fun t ht => st t ht⟩) nx
/-- newarray -/
theorem WP.newarray {aty : ArrayType} {c0 : OwnC} {cnt : Int32} (hd : decode bytes pc = .ok (.newarray aty, 2)) (hw : (Cond.arrayClass (newarray.typeOf aty)).before a0 Z = true) (hn : ¬ cnt < 0) (hb8 : cnt.toNatClampNeg * 8 ≤ 536870912) (hc : k + 1 ≤ R.cells) (hl : n + cnt.toNatClampNeg ≤ R.slots)
    (h0 : (aty = .int ∧ c0 = cI (List.replicate cnt.toNatClampNeg 0)) ∨ (aty = .long ∧ c0 = cJ (List.replicate cnt.toNatClampNeg 0)) ∨ (aty = .boolean ∧ c0 = cZ (List.replicate cnt.toNatClampNeg 0)))
    (nx : WP l Z C lay own mn bytes maxL ret R n0 ro Q (k + 1) (n + cnt.toNatClampNeg) (pc + 2) L (.ref H.length :: S) (H ++ [c0])) : WP l Z C lay own mn bytes maxL ret R n0 ro Q k n pc L (.int cnt :: S) H :=
  WP.moved (fun p e s m args below meth c T locs ad Ls X A hr N hL hz => by
    have hcb : componentBytes (newarray.typeOf aty) ≤ 8 := by cases aty <;> decide
    obtain ⟨cA, kA, comp, h1, h2, h3, X', st⟩ := X.newarrayPrim A.1 (mvA A.2.1 hw) (g := mkF m pc Ls (.int cnt :: S.map (rf ad))) rfl (hb A.2.2.1 hd) rfl hn (Nat.le_trans (Nat.mul_le_mul (Nat.le_refl _) hcb) hb8) hc hl
    rw [A.2.1.alike.findClass] at h1
    obtain ⟨kZ, z1, -⟩ := Vm.findClass_spec h1
    obtain ⟨k', z2, z3⟩ := A.2.1.alike.2.2 _ _ z1
    cases h2.symm.trans z2
    have hE : Ext T.heap (T.heap.push { cls := cA, slots := Array.replicate cnt.toNatClampNeg (defaultValue (newarray.typeOf aty)), vm := .none }) := ⟨by simp, fun a c h => by
      rw [Array.getElem?_push_lt (Array.getElem?_eq_some_iff.mp h).1]; exact (Array.getElem?_eq_getElem _).symm.trans h⟩
    have Ar : Arr Z (T.heap.push { cls := cA, slots := Array.replicate cnt.toNatClampNeg (defaultValue (newarray.typeOf aty)), vm := .none }) T.heap.size { cls := cA, slots := Array.replicate cnt.toNatClampNeg (defaultValue (newarray.typeOf aty)), vm := .none } (newarray.typeOf aty) :=
      ⟨by simp, ⟨by simp, kZ, z1, comp, by rw [← h3, z3]⟩, by simp⟩
    have hc0 : CelOk Z C lay ad (T.heap.push { cls := cA, slots := Array.replicate cnt.toNatClampNeg (defaultValue (newarray.typeOf aty)), vm := .none }) T.heap.size c0 := by
      rcases h0 with ⟨rfl, rfl⟩ | ⟨rfl, rfl⟩ | ⟨rfl, rfl⟩
      all_goals exact ⟨_, Ar, by simp [defaultValue, newarray.typeOf]⟩
    have P := hr.push (h' := T.heap.push _) (by simp) hE hc0
    refine ⟨_, locs, X', P.1, P.2.1, N, fun t ht => st t ?_⟩
    have e0 : (List.map (rf ad) (.ref H.length :: S)) = .ref T.heap.size :: S.map (rf ad) := by show (Value.ref (ad H.length) :: _) = _; rw [P.2.2]
    rw [e0] at ht; exact ht) nx
theorem rf_default (ad : Nat → Addr) (ty : FieldType) : rf ad (defaultValue ty) = defaultValue ty := by cases ty <;> rfl
/-- new -/
theorem WP.new {idx kk : Nat} {vs : List Value} (hd : decode bytes pc = .ok (.new idx, 3)) (hw : (Cond.classLink own idx C).before a0 Z = true) (wi : (Cond.instantiable C kk).before a0 Z = true) (wz : (Cond.initialized C).before a0 Z = true) (hc : k + 1 ≤ R.cells) (hl : n + kk ≤ R.slots)
    (h0 : ∀ (i : Nat) (f : String × String) (v : Value), lay[i]? = some f → vs[i]? = some v → Laid Z a0 C C f.1 f.2 ∧ ∃ ty, parseFieldDescriptor f.2 = some ty ∧ v = defaultValue ty)
    (nx : WP l Z C lay own mn bytes maxL ret R n0 ro Q (k + 1) (n + kk) (pc + 3) L (.ref H.length :: S) (H ++ [.inl vs])) : WP l Z C lay own mn bytes maxL ret R n0 ro Q k n pc L S H :=
  WP.moved (fun p e s m args below meth c T locs ad Ls X A hr N hL hz => by
    obtain ⟨vm', cC, kC, h1, h2, h3, h4, X', st⟩ := X.newCold A.1 A.2.2.2.2.2.2.1 (mv A.2.1 hw) (mv A.2.1 wi) (mv A.2.1 wz) (g := mkF m pc Ls (S.map (rf ad))) rfl (hb A.2.2.1 hd) hc hl
    rw [A.2.1.alike.findClass] at h1
    obtain ⟨kZ, z1, -⟩ := Vm.findClass_spec h1
    obtain ⟨k', z2, z3⟩ := A.2.1.alike.2.2 _ _ z1
    cases h2.symm.trans z2
    have ei : kC.instanceTypes = kZ.instanceTypes := by rw [z3]
    have hN : (T.heap.push { cls := cC, slots := kC.instanceTypes.map defaultValue, vm := .none })[T.heap.size]? = some { cls := cC, slots := kC.instanceTypes.map defaultValue, vm := .none } := by simp
    have hE : Ext T.heap (T.heap.push { cls := cC, slots := kC.instanceTypes.map defaultValue, vm := .none }) := ⟨by simp, fun a c h => by
      rw [Array.getElem?_push_lt (Array.getElem?_eq_some_iff.mp h).1]; exact (Array.getElem?_eq_getElem _).symm.trans h⟩
    have hc0 : CelOk Z C lay ad (T.heap.push { cls := cC, slots := kC.instanceTypes.map defaultValue, vm := .none }) T.heap.size (.inl vs) := by
      refine ⟨⟨_, kZ, hN, h1, z1, rfl, fun _ => by simp [ei]⟩, fun i f v hf hv => ?_⟩
      obtain ⟨La, ty, ht, rfl⟩ := h0 i f v hf hv
      obtain ⟨c1, k1, cf, kf, i1, f1, a1, a2, a3, a4, a5, a6, -⟩ := La.spec
      cases h1.symm.trans a1
      cases z1.symm.trans a2
      rw [rf_default]
      exact ⟨_, cf, kf, i1, f1, hN, a3, a4, by simp, rfl, a5, by simp [ei, a6, (State.fieldFound?_type a3 ht).2]⟩
    have P := hr.push (h' := T.heap.push _) (by simp) hE hc0
    refine ⟨_, locs, X', P.1, P.2.1, N, fun t ht => st t ?_⟩
    have e0 : (List.map (rf ad) (.ref H.length :: S)) = .ref T.heap.size :: S.map (rf ad) := by show (Value.ref (ad H.length) :: _) = _; rw [P.2.2]
    rw [e0] at ht; exact ht) nx
/-- Object.<init> -/
theorem WP.initO {idx i : Nat} (hd : decode bytes pc = .ok (.invokespecial idx, 3)) (w1 : (Cond.methodLink own idx Lib.objectInit).before a0 Z = true) (w2 : (Cond.instanceMethod Lib.objectInit).before a0 Z = true) (w3 : (Cond.code Lib.objectInit ⟨#[0xb1]⟩ 1 none).before a0 Z = true) (hf : 1 ≤ R.frames) (hl : (S.map fun v => v.category).sum + 12 ≤ R.locals)
    (nx : WP l Z C lay own mn bytes maxL ret R n0 ro Q k n (pc + 3) L S H) : WP l Z C lay own mn bytes maxL ret R n0 ro Q k n pc L (.ref i :: S) H :=
  WP.moved (fun p e s m args below meth c T locs ad Ls X A hr N hL hz => by
    obtain ⟨T', X', e', st⟩ := RoadKit.initO X A.1 A.2.1 A.2.2.2.2.2.2.1 w1 w2 w3 rfl (g := mkF m pc Ls (.ref (ad i) :: S.map (rf ad))) rfl (hz.trans A.2.2.2.1.symm) rfl (hb A.2.2.1 hd) hf (W := (S.map fun v => v.category).sum) (by show 2 * 0 + _ ≤ _; rw [rf_cats]; omega) hl
    exact ⟨T', locs, X', by rw [e']; exact hr, by rw [e']; exact Kp.refl _ _ _, N, fun t ht => st t ht⟩) nx
theorem WP.leave {v : Option Value} (hk : k ≤ R.cells) (hn : n ≤ R.slots) (hv : ret = none → v = none) (hq : Q v H)
    (hs : ∀ (p : Program) (e : Env) (s : State) (m : MethodId) (args : Array Value) (below : List Frame) (meth : Method) (c : Code) (T : State) (locs : List Loc) (ad : Nat → Addr) (Ls : Array Slot) (fs : List Frame), Stand p l e R s m args below meth c T locs k n → Am Z own mn bytes maxL ret p s m meth c →
      (∀ (f : JFrame) (acts : List Action), f.method = m → f.locked = none → f.entered = [] → (doReturn e (T.setTop f) acts (v.map (rf ad))).1 = T.setFrames fs) → Steps p.tables e below (T.setTop (mkF m pc Ls (S.map (rf ad)))) (T.setFrames fs)) : WP l Z C lay own mn bytes maxL ret R n0 ro Q k n pc L S H := by
  intro p e s m args below meth c T locs ad Ls X A hr N hL hz
  obtain ⟨fs, hr', hrun, hended, hW, hsame⟩ := X.leave (v := v.map (rf ad)) (fun q => by rw [hv (A.2.2.2.2.1.symm.trans q)]; rfl) A.2.2.2.2.2.1
  exact ⟨_, v, H, locs, hs p e s m args below meth c T locs ad Ls fs X A hr', hrun, hended, hq, hr, Kp.refl _ _ _, N, ⟨_, rfl⟩, hW, hsame.mono hk hn⟩
theorem retI' {p : Program} {e : Env} {s : State} {m : MethodId} {args : Array Value} {below : List Frame} {meth : Method} {c : Code} {T : State} {locs : List Loc} {cells slots : Nat} (X : Stand p l e R s m args below meth c T locs cells slots) (hx : p.tables.exec = Jvm.exec) {pc : Nat} {Ls : Array Slot} {z : Int32} {rest : List Value} (hret : meth.sig.returnType = some .int) (hd : decode c.code pc = .ok (.ireturn, 1)) {fs : List Frame}
    (hl : ∀ (f : JFrame) (acts : List Action), f.method = m → f.locked = none → f.entered = [] → (doReturn e (T.setTop f) acts (some (.int z))).1 = T.setFrames fs) : Steps p.tables e below (T.setTop (mkF m pc Ls (.int z :: rest))) (T.setFrames fs) := by
  have hm' : T.vm.method? m = some meth := X.method'
  have hn : narrow .int (.int z) = .int z := rfl
  show Steps p.tables e below (T.setTop { method := m, pc := pc, locals := Ls, stack := _ :: rest, locked := none }) _
  jvm_step X.here [X.here.top, hx, hd, hm', hret, hn]
  first | (intro acts; rw [hl _ acts rfl rfl rfl]) | rw [hl _ _ rfl rfl rfl]
  exact Steps.refl _
theorem WP.ireturn {x : Int32} (hd : decode bytes pc = .ok (.ireturn, 1)) (hret : ret = some .int) (hk : k ≤ R.cells) (hn : n ≤ R.slots) (hq : Q (some (.int x)) H) : WP l Z C lay own mn bytes maxL ret R n0 ro Q k n pc L (.int x :: S) H :=
  WP.leave (v := some (.int x)) hk hn (fun q => by rw [hret] at q; cases q) hq fun p e s m args below meth c T locs ad Ls fs X A hr' => retI' X A.1 (A.2.2.2.2.1.trans hret) (hb A.2.2.1 hd) hr'
theorem WP.zreturn {x : Int32} (hd : decode bytes pc = .ok (.ireturn, 1)) (hret : ret = some .boolean) (hk : k ≤ R.cells) (hn : n ≤ R.slots) (hq : Q (some (.int (x &&& 1))) H) : WP l Z C lay own mn bytes maxL ret R n0 ro Q k n pc L (.int x :: S) H :=
  WP.leave (v := some (.int (x &&& 1))) hk hn (fun q => by rw [hret] at q; cases q) hq fun p e s m args below meth c T locs ad Ls fs X A hr' => retN X A.1 (t := .boolean) (A.2.2.2.2.1.trans hret) (Or.inl rfl) (hb A.2.2.1 hd) hr'
theorem WP.lreturn {x : Int64} (hd : decode bytes pc = .ok (.lreturn, 1)) (hret : ret = some .long) (hk : k ≤ R.cells) (hn : n ≤ R.slots) (hq : Q (some (.long x)) H) : WP l Z C lay own mn bytes maxL ret R n0 ro Q k n pc L [.long x] H :=
  WP.leave (v := some (.long x)) hk hn (fun q => by rw [hret] at q; cases q) hq fun p e s m args below meth c T locs ad Ls fs X A hr' => X.lreturnOut A.1 (A.2.2.2.2.1.trans hret) (hb A.2.2.1 hd) hr'
theorem WP.vreturn (hd : decode bytes pc = .ok (.return_, 1)) (hret : ret = none) (hk : k ≤ R.cells) (hn : n ≤ R.slots) (hq : Q none H) : WP l Z C lay own mn bytes maxL ret R n0 ro Q k n pc L [] H :=
  WP.leave (v := none) hk hn (fun _ => rfl) hq fun p e s m args below meth c T locs ad Ls fs X A hr' => X.returnOut A.1 (A.2.2.2.2.1.trans hret) (hb A.2.2.1 hd) hr'
end Rules
/-! ## a callee's promise, said of the small view -/
def QQ (Z : State) (C : String) (lay : List (String × String)) (n0 ro : Nat) (ad : Nat → Addr) (N : Nat) (h : Heap) (Q : Option Value → List OwnC → Prop) (v : Option Value) (h' : Heap) (L : List Loc) : Prop :=
  ∃ w H', v = w.map (rf ad) ∧ Q w H' ∧ HR Z C lay n0 ro ad H' h' ∧ Kp ad N h h' ∧ Fr n0 L
def CS (l : Launch) (Z : State) (C : String) (lay : List (String × String)) (y : MethodName) (bytes : ByteArray) (maxL : Nat) (ret : Option FieldType) (R : Room) (ro : Nat) (as : List Value) (H : List OwnC) (Q : Option Value → List OwnC → Prop) : Prop :=
  ∀ (ws : List Cond) (n0 : Nat) (ad : Nat → Addr) (h : Heap), HR Z C lay n0 ro ad H h →
    MetFree l y (head1 (Cond.code y bytes maxL ret :: ws) R) (fun a U => a = (as.map (rf ad)).toArray ∧ Z.Warmed39 U.vm ∧ U.heap = h) (fun _ _ _ _ _ => True)
      (fun _ U o U' => ∃ v L, o = .returned v ∧ QQ Z C lay n0 ro ad H.length h Q v U'.heap L ∧ FrameEnd U o U' L R.cells R.slots)
section Calls
variable {l : Launch} {Z : State} {a0 : Array Value} {C : String} {lay : List (String × String)} {own mn : String} {bytes cb : ByteArray} {maxL cm : Nat} {ret cr : Option FieldType} {R Rc : Room} {n0 ro : Nat} {Q Qc : Option Value → List OwnC → Prop} {k n pc pc' : Nat} {L L' : List Slot} {S S0 as : List Value} {H H' : List OwnC} {y : MethodName}
theorem CS.of_wp (hx : plainName y.cls = true) (hn : (laid as).length ≤ maxL) (w : ∀ n0, WP l Z C lay y.cls y.name bytes maxL ret R n0 ro Q 0 0 0 (entL as maxL) [] H) : CS l Z C lay y bytes maxL ret R ro as H Q := by
  intro ws n0 ad h hr
  refine MetFree.of_bodySF (plainFor_of_name hx) hisR ?_
  intro p e s m args below meth c s₁ Bd hml0 hP hK
  obtain ⟨rfl, hZ, hh⟩ := hP
  have e0 : s₁.heap = h := by rw [← hh, Bd.state]; rfl
  obtain ⟨E1, E2⟩ := entry_LR ad as maxL hn
  obtain ⟨s₂, v, H', locs', h1, h2, h3, h4, h5, h6, h7, h8⟩ := w n0 p e s m _ below meth c s₁ [] ad _ (Stand.of_body Bd) ⟨Bd.exec, hZ, Bd.bytes, hml0, Bd.returns, Bd.notSynchronized, findClass_of_methodNamed Bd.named, (name_of_methodNamed Bd.named Bd.method).1⟩ (by rw [e0]; exact hr) (Fr.nil n0) E1 E2
  rw [e0] at h6
  exact ⟨s₂, _, h1, h2, h3, _, locs', rfl, ⟨v, H', rfl, h4, h5, h6, h7⟩, h8⟩
theorem CS.mono (cs : CS l Z C lay y bytes maxL ret R ro as H Q) (h : ∀ v H', Q v H' → Qc v H') : CS l Z C lay y bytes maxL ret R ro as H Qc := by
  intro ws n0 ad hh hr p e ha hc hk s m args below hf happ hP hK
  obtain ⟨N, o, h1, h2, h3, v, L, h4, ⟨w, H', g1, g2, g3⟩, h5⟩ := cs ws n0 ad hh hr p e ha hc hk s m args below hf happ hP hK
  exact ⟨N, o, h1, h2, h3, v, L, h4, ⟨w, H', g1, h _ _ g2, g3⟩, h5⟩
/-- what every call leaves: the walk goes on behind it -/
theorem go_on {p : Program} {e : Env} {s : State} {m : MethodId} {args : Array Value} {below : List Frame} {meth : Method} {c : Code} {T : State} {locs : List Loc} {ad : Nat → Addr} {Ls : Array Slot} {B : Pt} {v : Option Value} {Lc : List Loc} {s₀ : State}
    (nx : ∀ v H', Qc v H' → WP l Z C lay own mn bytes maxL ret R n0 ro Q (k + Rc.cells) (n + Rc.slots) (pc + 3) L (v.toList ++ S) H') (X : Stand p l e R s m args below meth c B.U B.locs B.cells B.slots) (A : Am Z own mn bytes maxL ret p s m meth c) (hr : HR Z C lay n0 ro ad H T.heap) (N : Fr n0 locs) (hL : LR ad L Ls) (hz : Ls.size = maxL)
    (hQ : QQ Z C lay n0 ro ad H.length T.heap Qc v B.U.heap Lc) (e1 : B.locs = locs ++ Lc) (e2 : B.cells = k + Rc.cells) (e3 : B.slots = n + Rc.slots) (st : Steps p.tables e below s₀ (B.U.setTop (mkF m (pc + 3) Ls (v.toList ++ S.map (rf ad))))) :
    ∃ (s₂ : State) (v : Option Value) (H' : List OwnC) (locs' : List Loc), Steps p.tables e below s₀ s₂ ∧ s₂.status = .running ∧ Ended s₂ below (.returned (v.map (rf ad))) ∧ Q v H' ∧ HR Z C lay n0 ro ad H' s₂.heap ∧ Kp ad H.length T.heap s₂.heap ∧ Fr n0 locs' ∧ FrameEnd s (.returned (v.map (rf ad))) s₂ locs' R.cells R.slots := by
  obtain ⟨w, H1, rfl, g2, g3, g4, g5⟩ := hQ
  rw [e1, e2, e3] at X
  obtain ⟨s₂, v, H2, locs2, h1, h2, h3, h4, h5, h6, h7⟩ := nx w H1 g2 p e s m args below meth c B.U _ ad Ls X A g3 (N.app g5) hL hz
  refine ⟨s₂, v, H2, locs2, st.trans ?_, h2, h3, h4, h5, Kp.trans hr g4 h6, h7⟩
  have e0 : (w.toList ++ S).map (rf ad) = (w.map (rf ad)).toList ++ S.map (rf ad) := by cases w <;> rfl
  rw [← e0]; exact h1
theorem stack_of (ad : Nat → Addr) (h : S0 = as.reverse ++ S) : S0.map (rf ad) = (as.map (rf ad)).reverse ++ S.map (rf ad) := by rw [h, List.map_append, List.map_reverse]
theorem stack_of1 {i : Nat} (ad : Nat → Addr) (h : S0 = as.reverse ++ .ref i :: S) : S0.map (rf ad) = (as.map (rf ad)).reverse ++ .ref (ad i) :: S.map (rf ad) := by rw [h, List.map_append, List.map_reverse]; rfl
theorem WP.callS {idx : Nat} (hd : decode bytes pc = .ok (.invokestatic idx, 3)) (w1 : (Cond.methodLink own idx y).before a0 Z = true) (w2 : (Cond.static y).before a0 Z = true) (w3 : (Cond.initialized y.cls).before a0 Z = true) (w4 : (Cond.code y cb cm cr).before a0 Z = true) (hy : y.cls ≠ "java/lang/invoke/MethodHandle" ∧ y.cls ≠ "java/lang/invoke/VarHandle")
    (cs : CS l Z C lay y cb cm cr Rc ro as H Qc) (hS : S0 = as.reverse ++ S) (hlen : ∀ sig, parseMethodDescriptor y.desc = some sig → as.length = sig.parameters.length) (hf : Rc.frames + 1 ≤ R.frames) (hl : (S.map fun v => v.category).sum + (cm + 11) + Rc.locals ≤ R.locals) (hc : k + Rc.cells ≤ R.cells) (hs : n + Rc.slots ≤ R.slots)
    (nx : ∀ v H', Qc v H' → WP l Z C lay own mn bytes maxL ret R n0 ro Q (k + Rc.cells) (n + Rc.slots) (pc + 3) L (v.toList ++ S) H') : WP l Z C lay own mn bytes maxL ret R n0 ro Q k n pc L S0 H := by
  intro p e s m args below meth c T locs ad Ls X A hr N hL hz
  obtain ⟨v, vm₁, B, hW₁, X', ⟨Lc, hQ, e1, e2, e3⟩, st⟩ := Jvm.LawKit.callS X A.1 (y := y) A.2.2.2.2.2.2.1 (mvT A.2.1 w1) (mvT A.2.1 w2) (mvT A.2.1 w3) (mvT A.2.1 w4) hy
    (backOf (W := (S.map fun v => v.category).sum) (cs [] n0 ad T.heap hr) A.2.1 w4 w3 hf hl) (g := mkF m pc Ls (S0.map (rf ad))) rfl (hz.trans A.2.2.2.1.symm) (argsL := as.map (rf ad)) (rest := S.map (rf ad)) (fun sig q => by rw [List.length_map]; exact hlen sig q) (stack_of ad hS) (by show 2 * 0 + _ ≤ _; rw [rf_cats]; omega) (hb A.2.2.1 hd) (fun _ _ => ⟨rfl, rfl, hc, hs⟩)
  exact go_on (T := T) nx X' A hr N hL hz hQ e1 e2 e3 (st _ (Steps.refl _))
theorem WP.callV {idx i : Nat} {vs : List Value} (hd : decode bytes pc = .ok (.invokevirtual idx, 3)) (w1 : (Cond.methodLink own idx y).before a0 Z = true) (w2 : (Cond.declares y).before a0 Z = true) (w3 : (Cond.selects C y y).before a0 Z = true) (w4 : (Cond.instanceMethod y).before a0 Z = true) (w5 : (Cond.code y cb cm cr).before a0 Z = true) (w6 : (Cond.initialized y.cls).before a0 Z = true) (hy : y.cls ≠ "java/lang/invoke/MethodHandle" ∧ y.cls ≠ "java/lang/invoke/VarHandle")
    (hH : H[i]? = some (.inl vs)) (cs : CS l Z C lay y cb cm cr Rc ro (.ref i :: as) H Qc) (hS : S0 = as.reverse ++ .ref i :: S) (hlen : ∀ sig, parseMethodDescriptor y.desc = some sig → as.length = sig.parameters.length) (hf : Rc.frames + 1 ≤ R.frames) (hl : (S.map fun v => v.category).sum + (cm + 11) + Rc.locals ≤ R.locals) (hc : k + Rc.cells ≤ R.cells) (hs : n + Rc.slots ≤ R.slots)
    (nx : ∀ v H', Qc v H' → WP l Z C lay own mn bytes maxL ret R n0 ro Q (k + Rc.cells) (n + Rc.slots) (pc + 3) L (v.toList ++ S) H') : WP l Z C lay own mn bytes maxL ret R n0 ro Q k n pc L S0 H := by
  intro p e s m args below meth c T locs ad Ls X A hr N hL hz
  obtain ⟨cq, kq, qa, qb, qc⟩ := isOf A.2.1 rfl (hr.1 i _ hH).1
  obtain ⟨v, vm₁, B, hW₁, X', ⟨Lc, hQ, e1, e2, e3⟩, st⟩ := X.virtualBack A.1 (y := y) (z := y) A.2.2.2.2.2.2.1 (mvT A.2.1 w1) (mvT A.2.1 w2) (notFace_of_selects (args := #[]) (mvT A.2.1 w3)) (mvT A.2.1 w3) (mvT A.2.1 w4) hy
    (backOf (W := (S.map fun v => v.category).sum) (cs [] n0 ad T.heap hr) A.2.1 w5 w6 hf hl) qa qc (g := mkF m pc Ls (S0.map (rf ad))) rfl (hz.trans A.2.2.2.1.symm) (Steps.refl _) (argsL := as.map (rf ad)) (rest := S.map (rf ad)) (fun sig q => by rw [List.length_map]; exact hlen sig q) (stack_of1 ad hS) (by show 2 * 0 + _ ≤ _; rw [rf_cats]; omega) (hb A.2.2.1 hd) (fun _ _ => ⟨rfl, rfl, hc, hs⟩)
  exact go_on (T := T) nx X' A hr N hL hz hQ e1 e2 e3 st
theorem WP.callP {idx i kk : Nat} {vs : List Value} (hd : decode bytes pc = .ok (.invokevirtual idx, 3)) (w1 : (Cond.methodLink own idx y).before a0 Z = true) (w2 : (Cond.privateMethod y).before a0 Z = true) (wi : (Cond.instantiable y.cls kk).before a0 Z = true) (w4 : (Cond.instanceMethod y).before a0 Z = true) (w5 : (Cond.code y cb cm cr).before a0 Z = true) (w6 : (Cond.initialized y.cls).before a0 Z = true) (hy : y.cls ≠ "java/lang/invoke/MethodHandle" ∧ y.cls ≠ "java/lang/invoke/VarHandle")
    (hH : H[i]? = some (.inl vs)) (cs : CS l Z C lay y cb cm cr Rc ro (.ref i :: as) H Qc) (hS : S0 = as.reverse ++ .ref i :: S) (hlen : ∀ sig, parseMethodDescriptor y.desc = some sig → as.length = sig.parameters.length) (hf : Rc.frames + 1 ≤ R.frames) (hl : (S.map fun v => v.category).sum + (cm + 11) + Rc.locals ≤ R.locals) (hc : k + Rc.cells ≤ R.cells) (hs : n + Rc.slots ≤ R.slots)
    (nx : ∀ v H', Qc v H' → WP l Z C lay own mn bytes maxL ret R n0 ro Q (k + Rc.cells) (n + Rc.slots) (pc + 3) L (v.toList ++ S) H') : WP l Z C lay own mn bytes maxL ret R n0 ro Q k n pc L S0 H := by
  intro p e s m args below meth c T locs ad Ls X A hr N hL hz
  obtain ⟨cq, q, q'⟩ := (hr.1 i _ hH).1.cell
  have hpr : s.PrivateAt y := Cond.privateMethod_at (mvP A.2.1 w2 (args := #[]))
  have hin : (Cond.instanceMethod y).before args s = true := mvT A.2.1 w4
  have hsel : (Cond.selects y.cls y y).before args s = true := by
    have wi' : (Cond.instantiable y.cls kk).before args s = true := mvT A.2.1 wi
    obtain ⟨c1, k1, g1, g2, g3, g4, -⟩ := Cond.instantiable_spec wi'
    have g5 : k1.isInterface = false := by
      cases hq : k1.isInterface
      · rfl
      · rw [hq] at g4; cases g4
    exact selects_self_of_private g1 g2 g5 hpr hin hy
  obtain ⟨v, vm₁, B, hW₁, X', ⟨Lc, hQ, e1, e2, e3⟩, st⟩ := X.privateBack A.1 (y := y) A.2.2.2.2.2.2.1 (mvT A.2.1 w1) hin hsel hpr (mvT A.2.1 w5) hy
    (backOf (W := (S.map fun v => v.category).sum) (cs [] n0 ad T.heap hr) A.2.1 w5 w6 hf hl) (g := mkF m pc Ls (S0.map (rf ad))) rfl (hz.trans A.2.2.2.1.symm) (Steps.refl _) q q' (argsL := as.map (rf ad)) (rest := S.map (rf ad)) (fun sig q => by rw [List.length_map]; exact hlen sig q) (stack_of1 ad hS) (by show 2 * 0 + _ ≤ _; rw [rf_cats]; omega) (hb A.2.2.1 hd) (fun _ _ => ⟨rfl, rfl, hc, hs⟩)
  exact go_on (T := T) nx X' A hr N hL hz hQ e1 e2 e3 st
theorem WP.callI {idx i : Nat} (hd : decode bytes pc = .ok (.invokespecial idx, 3)) (hn1 : y.name = "<init>") (w1 : (Cond.methodLink own idx y).before a0 Z = true) (w4 : (Cond.instanceMethod y).before a0 Z = true) (w5 : (Cond.code y cb cm none).before a0 Z = true) (w6 : (Cond.initialized y.cls).before a0 Z = true) (hy : y.cls ≠ "java/lang/invoke/MethodHandle" ∧ y.cls ≠ "java/lang/invoke/VarHandle")
    (cs : CS l Z C lay y cb cm none Rc ro (.ref i :: as) H Qc) (hS : S0 = as.reverse ++ .ref i :: S) (hlen : ∀ sig, parseMethodDescriptor y.desc = some sig → as.length = sig.parameters.length) (hf : Rc.frames + 1 ≤ R.frames) (hl : (S.map fun v => v.category).sum + (cm + 11) + Rc.locals ≤ R.locals) (hc : k + Rc.cells ≤ R.cells) (hs : n + Rc.slots ≤ R.slots)
    (nx : ∀ v H', Qc v H' → WP l Z C lay own mn bytes maxL ret R n0 ro Q (k + Rc.cells) (n + Rc.slots) (pc + 3) L (v.toList ++ S) H') : WP l Z C lay own mn bytes maxL ret R n0 ro Q k n pc L S0 H := by
  intro p e s m args below meth c T locs ad Ls X A hr N hL hz
  obtain ⟨v, vm₁, B, hW₁, X', ⟨Lc, hQ, e1, e2, e3⟩, st⟩ := X.specialBack A.1 (y := y) hn1 A.2.2.2.2.2.2.1 (mvT A.2.1 w1) (mvT A.2.1 w4) (mvT A.2.1 w5) hy
    (backOf (W := (S.map fun v => v.category).sum) (cs [] n0 ad T.heap hr) A.2.1 w5 w6 hf hl) (g := mkF m pc Ls (S0.map (rf ad))) rfl (hz.trans A.2.2.2.1.symm) (Steps.refl _) (a := ad i) (argsL := as.map (rf ad)) (rest := S.map (rf ad)) (fun sig q => by rw [List.length_map]; exact hlen sig q) (stack_of1 ad hS) (by show 2 * 0 + _ ≤ _; rw [rf_cats]; omega) (hb A.2.2.1 hd) (fun _ _ => ⟨rfl, rfl, hc, hs⟩)
  exact go_on (T := T) nx X' A hr N hL hz hQ e1 e2 e3 st
end Calls
/-! ## a callee that sees a part of the heap -/
def rn (ρ : Nat → Nat) : Value → Value
  | .ref i => .ref (ρ i)
  | .int x => .int x
  | .long x => .long x
  | .float x => .float x
  | .double x => .double x
  | .null => .null
  | .retAddr x => .retAddr x
theorem rf_rn (ad : Nat → Addr) (ρ : Nat → Nat) (v : Value) : rf ad (rn ρ v) = rf (fun j => ad (ρ j)) v := by cases v <;> rfl
def rnC (ρ : Nat → Nat) : OwnC → OwnC
  | .inl vs => .inl (vs.map (rn ρ))
  | .inr x => .inr x
theorem CelOk_rn {Z : State} {C : String} {lay : List (String × String)} {ad : Nat → Addr} {ρ : Nat → Nat} {h : Heap} {a : Addr} {c : OwnC} : CelOk Z C lay ad h a (rnC ρ c) ↔ CelOk Z C lay (fun j => ad (ρ j)) h a c := by
  rcases c with vs | xs | xs | xs
  · constructor
    · rintro ⟨E, F⟩
      refine ⟨E, fun i f v hf hv => ?_⟩
      have := F i f (rn ρ v) hf (by rw [List.getElem?_map, hv]; rfl)
      rwa [rf_rn] at this
    · rintro ⟨E, F⟩
      refine ⟨E, fun i f v hf hv => ?_⟩
      rw [List.getElem?_map] at hv
      obtain ⟨w, hw, rfl⟩ := Option.map_eq_some_iff.mp hv
      rw [rf_rn]; exact F i f w hf hw
  all_goals exact Iff.rfl
def patch (ρ : Nat → Nat) : List Nat → List OwnC → List OwnC → List OwnC
  | [], D, H => H ++ D.map (rnC ρ)
  | i :: is, c :: D, H => patch ρ is D (H.set i (rnC ρ c))
  | _ :: _, [], H => H
theorem patch_len (ρ : Nat → Nat) : ∀ (foot : List Nat) (D H : List OwnC), foot.length ≤ D.length → (patch ρ foot D H).length = H.length + (D.length - foot.length)
  | [], D, H, _ => by simp [patch]
  | i :: is, [], H, h => by simp at h
  | i :: is, c :: D, H, h => by
    show (patch ρ is D (H.set i (rnC ρ c))).length = _
    rw [patch_len ρ is D _ (by simpa using h)]; simp
theorem patch_out (ρ : Nat → Nat) : ∀ (foot : List Nat) (D H : List OwnC) (i : Nat), i < H.length → i ∉ foot → (patch ρ foot D H)[i]? = H[i]?
  | [], D, H, i, hi, _ => by simp [patch, List.getElem?_append_left hi]
  | j :: is, [], H, i, _, _ => rfl
  | j :: is, c :: D, H, i, hi, hn => by
    show (patch ρ is D (H.set j (rnC ρ c)))[i]? = _
    rw [patch_out ρ is D _ i (by simpa using hi) (fun q => hn (List.mem_cons_of_mem _ q)), List.getElem?_set_ne (fun q => hn (by rw [q]; exact List.mem_cons_self ..))]
theorem patch_new (ρ : Nat → Nat) : ∀ (foot : List Nat) (D H : List OwnC) (t : Nat), foot.length ≤ D.length → (patch ρ foot D H)[H.length + t]? = (D[foot.length + t]?).map (rnC ρ)
  | [], D, H, t, _ => by simp [patch, List.getElem?_append_right (Nat.le_add_right _ _)]
  | i :: is, [], H, _, h => by simp at h
  | i :: is, c :: D, H, t, h => by
    show (patch ρ is D (H.set i (rnC ρ c)))[H.length + t]? = _
    have := patch_new ρ is D (H.set i (rnC ρ c)) t (by simpa using h)
    rw [List.length_set] at this
    rw [this]; simp [Nat.add_right_comm _ 1 t]
theorem patch_in (ρ : Nat → Nat) : ∀ (foot : List Nat) (D H : List OwnC) (j i : Nat), foot.Nodup → (∀ x ∈ foot, x < H.length) → foot[j]? = some i → foot.length ≤ D.length → (patch ρ foot D H)[i]? = (D[j]?).map (rnC ρ)
  | [], D, H, j, i, _, _, h, _ => by simp at h
  | x :: is, [], H, j, i, _, _, _, h => by simp at h
  | x :: is, c :: D, H, 0, i, nd, hl, h, _ => by
    obtain rfl : x = i := by simpa using h
    show (patch ρ is D (H.set x (rnC ρ c)))[x]? = _
    rw [patch_out ρ is D _ x (by simpa using hl x (List.mem_cons_self ..)) (List.nodup_cons.mp nd).1]
    simp [hl x (List.mem_cons_self ..)]
  | x :: is, c :: D, H, j + 1, i, nd, hl, h, hd => by
    show (patch ρ is D (H.set x (rnC ρ c)))[i]? = _
    rw [patch_in ρ is D _ j i (List.nodup_cons.mp nd).2 (fun y hy => by simpa using hl y (List.mem_cons_of_mem _ hy)) (by simpa using h) (by simpa using hd)]
    simp
def ro1 (foot : List Nat) (N : Nat) (j : Nat) : Nat := if j < foot.length then foot.getD j 0 else N + (j - foot.length)
theorem ro1_in {foot : List Nat} {N j i : Nat} (h : foot[j]? = some i) : ro1 foot N j = i := by
  have hj := get_lt h
  unfold ro1
  rw [if_pos hj, List.getD_eq_getElem?_getD, h]; rfl
theorem ro1_new (foot : List Nat) (N t : Nat) : ro1 foot N (foot.length + t) = N + t := by
  unfold ro1
  rw [if_neg (by omega)]; omega
theorem CS.frame {l : Launch} {Z : State} {C : String} {lay : List (String × String)} {y : MethodName} {bytes : ByteArray} {maxL : Nat} {ret : Option FieldType} {R : Room} {ro roc : Nat} {as asc : List Value} {H Hc : List OwnC} {Qc : Option Value → List OwnC → Prop} (foot : List Nat)
    (cs : CS l Z C lay y bytes maxL ret R roc asc Hc Qc) (hlen : Hc.length = foot.length) (hnd : foot.Nodup) (hlt : ∀ x ∈ foot, x < H.length) (hcell : foot.map (fun i => H[i]?) = Hc.map (fun c => some (rnC (ro1 foot H.length) c))) (hro : ∀ x ∈ foot.drop roc, ro ≤ x) (has : asc.map (rn (ro1 foot H.length)) = as) :
    CS l Z C lay y bytes maxL ret R ro as H (fun v H' => ∃ vc D, Qc vc D ∧ v = vc.map (rn (ro1 foot H.length)) ∧ H' = patch (ro1 foot H.length) foot D H) := by
  intro ws n0 ad h hr
  obtain ⟨r1, r2, r3, r4, r5⟩ := hr
  have cellAt : ∀ (j i : Nat), foot[j]? = some i → ∃ c, Hc[j]? = some c ∧ H[i]? = some (rnC (ro1 foot H.length) c) := fun j i hj => by
    have h1 : (foot.map (fun i => H[i]?))[j]? = some H[i]? := by rw [List.getElem?_map, hj]; rfl
    rw [hcell, List.getElem?_map] at h1
    obtain ⟨c, e1, e2⟩ := Option.map_eq_some_iff.mp h1
    exact ⟨c, e1, e2.symm⟩
  have idx : ∀ j : Nat, j < foot.length → ∃ i, foot[j]? = some i ∧ i < H.length := fun j hj => ⟨_, List.getElem?_eq_getElem hj, hlt _ (List.getElem_mem hj)⟩
  have hrc : HR Z C lay n0 roc (fun j => ad (ro1 foot H.length j)) Hc h := by
    refine ⟨fun j c hj => ?_, fun i j hi hj q => ?_, fun t => ?_, fun j hj hr => ?_, r5⟩
    · obtain ⟨i, e1, e2⟩ := idx j (hlen ▸ get_lt hj)
      obtain ⟨c', g1, g2⟩ := cellAt j i e1
      cases g1.symm.trans hj
      show CelOk Z C lay (fun j => ad (ro1 foot H.length j)) h (ad (ro1 foot H.length j)) c
      rw [ro1_in e1]
      exact CelOk_rn.mp (r1 i _ g2)
    · rw [hlen] at hi hj
      obtain ⟨i', e1, e2⟩ := idx i hi
      obtain ⟨j', g1, g2⟩ := idx j hj
      dsimp only at q
      rw [ro1_in e1, ro1_in g1] at q
      have q' := r2 _ _ e2 g2 q
      subst q'
      exact (List.getElem?_inj hi hnd).mp (e1.trans g1.symm)
    · dsimp only
      rw [hlen, ro1_new]; exact r3 t
    · rw [hlen] at hj
      obtain ⟨i', e1, e2⟩ := idx j hj
      dsimp only
      rw [ro1_in e1]; refine r4 _ e2 (hro i' (List.mem_of_getElem? (i := j - roc) ?_)); rw [List.getElem?_drop, Nat.add_sub_cancel' hr]; exact e1
  intro p e ha hc hk s m args below hf happ hP hK
  have eas : (asc.map (rf fun j => ad (ro1 foot H.length j))) = as.map (rf ad) := by
    rw [← has, List.map_map]; congr 1; funext v; exact (rf_rn ad _ v).symm
  obtain ⟨N, o, h1, h2, h3, v, L, h4, ⟨w, D, rfl, g2, g3, g4, g5⟩, h5⟩ := cs ws n0 _ h hrc p e ha hc hk s m args below hf happ (by rw [eas]; exact hP) hK
  refine ⟨N, o, h1, h2, h3, _, L, h4, ⟨w.map (rn (ro1 foot H.length)), patch (ro1 foot H.length) foot D H, ?_, ⟨w, D, g2, rfl, rfl⟩, ?_, ?_, g5⟩, h5⟩
  · cases w with
    | none => rfl
    | some w => exact congrArg some (rf_rn ad _ w).symm
  · generalize hU : (stepsAlone p.tables e N s).heap = h' at g3 g4
    obtain ⟨d1, d2, d3, d4, d5⟩ := g3
    have hD : foot.length ≤ D.length := by
      by_cases q : foot.length ≤ D.length
      · exact q
      · exfalso
        obtain ⟨i, e1, e2⟩ := idx D.length (by omega)
        have z := d3 0
        simp only [Nat.add_zero] at z
        rw [ro1_in e1] at z
        obtain ⟨c', -, g2'⟩ := cellAt _ i e1
        have a1 := (r1 i _ g2').lt
        rw [z] at a1
        exact absurd a1 (Nat.not_lt.mpr g4.1)
    have hPl := patch_len (ro1 foot H.length) foot D H hD
    have old : ∀ i, i < H.length → ad i < h.size := fun i hi => (r1 i _ (List.getElem?_eq_getElem hi)).lt
    have new : ∀ i, H.length ≤ i → h.size ≤ ad i := fun i hi => by
      obtain ⟨t, rfl⟩ := Nat.exists_eq_add_of_le hi
      rw [r3 t]; exact Nat.le_add_right _ _
    refine ⟨fun i c hi => ?_, fun i j hi hj q => ?_, fun t => ?_, fun i hi hr => ?_, Nat.le_trans r5 g4.1⟩
    · by_cases hl : i < H.length
      · by_cases hm : i ∈ foot
        · obtain ⟨j, hj⟩ := List.getElem?_of_mem hm
          rw [patch_in _ foot D H j i hnd hlt hj hD] at hi
          obtain ⟨c', e1, rfl⟩ := Option.map_eq_some_iff.mp hi
          have := d1 j c' e1
          dsimp only at this
          rw [ro1_in hj] at this
          exact CelOk_rn.mpr this
        · rw [patch_out _ foot D H i hl hm] at hi
          refine (r1 i c hi).keep fun cz q => g4.2 _ cz q fun j hj q' => ?_
          rw [hlen] at hj
          obtain ⟨i', e1, e2⟩ := idx j hj
          dsimp only at q'
          rw [ro1_in e1] at q'
          have := r2 _ _ e2 hl q'
          subst this
          exact hm (List.mem_of_getElem? e1)
      · obtain ⟨t, rfl⟩ := Nat.exists_eq_add_of_le (Nat.le_of_not_lt hl)
        rw [patch_new _ foot D H t hD] at hi
        obtain ⟨c', e1, rfl⟩ := Option.map_eq_some_iff.mp hi
        have := d1 _ c' e1
        dsimp only at this
        rw [ro1_new] at this
        exact CelOk_rn.mpr this
    · by_cases a1 : i < H.length
      · by_cases a2 : j < H.length
        · exact r2 _ _ a1 a2 q
        · have b1 := old i a1
          rw [q] at b1
          exact absurd b1 (Nat.not_lt.mpr (new j (Nat.le_of_not_lt a2)))
      · by_cases a2 : j < H.length
        · have b1 := new i (Nat.le_of_not_lt a1)
          rw [q] at b1
          exact absurd (old j a2) (Nat.not_lt.mpr b1)
        · obtain ⟨t, rfl⟩ := Nat.exists_eq_add_of_le (Nat.le_of_not_lt a1)
          obtain ⟨t', rfl⟩ := Nat.exists_eq_add_of_le (Nat.le_of_not_lt a2)
          rw [r3, r3] at q; exact congrArg (H.length + ·) (Nat.add_left_cancel q)
    · have z := d3 t
      dsimp only at z
      have e1 : D.length + t = foot.length + (D.length - foot.length + t) := by omega
      rw [e1, ro1_new] at z
      rw [hPl, Nat.add_assoc]; exact z
    · by_cases a1 : i < H.length
      · exact r4 i a1 hr
      · exact Nat.le_trans r5 (new i (Nat.le_of_not_lt a1))
  · refine ⟨g4.1, fun a cz hz hn => g4.2 a cz hz fun j hj q => ?_⟩
    rw [hlen] at hj
    obtain ⟨i', e1, e2⟩ := idx j hj
    dsimp only at q
    rw [ro1_in e1] at q
    exact hn i' e2 q
/-! ## an object's state: ints (and booleans), longs, int[] (and boolean[]), long[], each by a number -/
abbrev St : Type := (Nat → Int32) × (Nat → Int64) × (Nat → List Int32) × (Nat → List Int64)
def upd {α : Type} (f : Nat → α) (i : Nat) (v : α) : Nat → α := fun j => if j = i then v else f j
def gI (s : St) (i : Nat) : Int32 := s.1 i
def gJ (s : St) (i : Nat) : Int64 := s.2.1 i
def gA (s : St) (i : Nat) : List Int32 := s.2.2.1 i
def gB (s : St) (i : Nat) : List Int64 := s.2.2.2 i
def sI (s : St) (i : Nat) (v : Int32) : St := (upd s.1 i v, s.2.1, s.2.2.1, s.2.2.2)
def sJ (s : St) (i : Nat) (v : Int64) : St := (s.1, upd s.2.1 i v, s.2.2.1, s.2.2.2)
def sA (s : St) (i : Nat) (v : List Int32) : St := (s.1, s.2.1, upd s.2.2.1 i v, s.2.2.2)
def sB (s : St) (i : Nat) (v : List Int64) : St := (s.1, s.2.1, s.2.2.1, upd s.2.2.2 i v)
theorem gI_sI (s : St) (i j : Nat) (v : Int32) : gI (sI s i v) j = if j = i then v else gI s j := rfl
theorem gI_sJ (s : St) (i j : Nat) (v : Int64) : gI (sJ s i v) j = gI s j := rfl
theorem gI_sA (s : St) (i j : Nat) (v : List Int32) : gI (sA s i v) j = gI s j := rfl
theorem gI_sB (s : St) (i j : Nat) (v : List Int64) : gI (sB s i v) j = gI s j := rfl
theorem gJ_sI (s : St) (i j : Nat) (v : Int32) : gJ (sI s i v) j = gJ s j := rfl
theorem gJ_sJ (s : St) (i j : Nat) (v : Int64) : gJ (sJ s i v) j = if j = i then v else gJ s j := rfl
theorem gJ_sA (s : St) (i j : Nat) (v : List Int32) : gJ (sA s i v) j = gJ s j := rfl
theorem gJ_sB (s : St) (i j : Nat) (v : List Int64) : gJ (sB s i v) j = gJ s j := rfl
theorem gA_sI (s : St) (i j : Nat) (v : Int32) : gA (sI s i v) j = gA s j := rfl
theorem gA_sJ (s : St) (i j : Nat) (v : Int64) : gA (sJ s i v) j = gA s j := rfl
theorem gA_sA (s : St) (i j : Nat) (v : List Int32) : gA (sA s i v) j = if j = i then v else gA s j := rfl
theorem gA_sB (s : St) (i j : Nat) (v : List Int64) : gA (sB s i v) j = gA s j := rfl
theorem gB_sI (s : St) (i j : Nat) (v : Int32) : gB (sI s i v) j = gB s j := rfl
theorem gB_sJ (s : St) (i j : Nat) (v : Int64) : gB (sJ s i v) j = gB s j := rfl
theorem gB_sA (s : St) (i j : Nat) (v : List Int32) : gB (sA s i v) j = gB s j := rfl
theorem gB_sB (s : St) (i j : Nat) (v : List Int64) : gB (sB s i v) j = if j = i then v else gB s j := rfl
def wrA (s : St) (i : Nat) (j x : Int32) : Option St := (wr (gA s i) j x).map (sA s i)
def wrB (s : St) (i : Nat) (j : Int32) (x : Int64) : Option St := (wr (gB s i) j x).map (sB s i)
theorem wrA_e {s s' : St} {i : Nat} {j x : Int32} (h : wrA s i j x = some s') : ∃ ys, wr (gA s i) j x = some ys ∧ s' = sA s i ys := by
  obtain ⟨ys, h1, h2⟩ := Option.map_eq_some_iff.mp h
  exact ⟨ys, h1, h2.symm⟩
theorem wrB_e {s s' : St} {i : Nat} {j : Int32} {x : Int64} (h : wrB s i j x = some s') : ∃ ys, wr (gB s i) j x = some ys ∧ s' = sB s i ys := by
  obtain ⟨ys, h1, h2⟩ := Option.map_eq_some_iff.mp h
  exact ⟨ys, h1, h2.symm⟩
def lt {α β : Type} (x : α) (f : α → β) : β := f x
theorem lt_e {α β : Type} {x : α} {f : α → β} {r : β} (h : lt x f = r) : ∃ y, y = x ∧ f y = r := ⟨x, rfl, h⟩
theorem ite_e {α : Type} {c : Prop} [Decidable c] {a b r : α} (h : (if c then a else b) = r) : (c ∧ a = r) ∨ (¬ c ∧ b = r) := by
  by_cases hc : c
  · rw [if_pos hc] at h; exact Or.inl ⟨hc, h⟩
  · rw [if_neg hc] at h; exact Or.inr ⟨hc, h⟩
theorem nz_e {α : Type} {c : Prop} [Decidable c] {b : Option α} {r : α} (h : (if c then none else b) = some r) : ¬ c ∧ b = some r := by
  by_cases hc : c
  · rw [if_pos hc] at h; cases h
  · rw [if_neg hc] at h; exact ⟨hc, h⟩
/-! the class's fields -/
def LaidAll (Z : State) (a0 : Array Value) (C : String) : List (String × String) → List Value → Prop
  | f :: fs, v :: vs => (Laid Z a0 C C f.1 f.2 ∧ ∃ ty, parseFieldDescriptor f.2 = some ty ∧ v = defaultValue ty) ∧ LaidAll Z a0 C fs vs
  | [], [] => True
  | _, _ => False
theorem LaidAll.new {Z : State} {a0 : Array Value} {C : String} : ∀ {lay : List (String × String)} {vs : List Value}, LaidAll Z a0 C lay vs → ∀ (i : Nat) (f : String × String) (v : Value), lay[i]? = some f → vs[i]? = some v → Laid Z a0 C C f.1 f.2 ∧ ∃ ty, parseFieldDescriptor f.2 = some ty ∧ v = defaultValue ty
  | [], [], _, i, f, v, h, _ => by simp at h
  | g :: fs, w :: vs, h, 0, f, v, h1, h2 => by
    obtain rfl : g = f := by simpa using h1
    obtain rfl : w = v := by simpa using h2
    exact h.1
  | g :: fs, w :: vs, h, i + 1, f, v, h1, h2 => LaidAll.new h.2 i f v (by simpa using h1) (by simpa using h2)
theorem LaidAll.len {Z : State} {a0 : Array Value} {C : String} : ∀ {lay : List (String × String)} {vs : List Value}, LaidAll Z a0 C lay vs → lay.length = vs.length
  | [], [], _ => rfl
  | g :: fs, w :: vs, h => congrArg Nat.succ (LaidAll.len h.2)
theorem LaidAll.ne {Z : State} {a0 : Array Value} {C : String} {lay : List (String × String)} {vs : List Value} (h : LaidAll Z a0 C lay vs) (nd : (lay.map Prod.fst).Nodup) : ∀ (a b : Nat) (f g : String × String), lay[a]? = some f → lay[b]? = some g → a ≠ b → RoadKit.slotOf Z C f.1 f.2 ≠ RoadKit.slotOf Z C g.1 g.2 := by
  intro a b f g ha hb' hne
  have la := get_lt ha
  have lb := get_lt hb'
  obtain ⟨L1, t1, e1, -⟩ := h.new a f _ ha (List.getElem?_eq_getElem (h.len ▸ la))
  obtain ⟨L2, t2, e2, -⟩ := h.new b g _ hb' (List.getElem?_eq_getElem (h.len ▸ lb))
  refine slot_ne L1 L2 (fun q => hne ?_) e1 e2
  have h1 : (lay.map Prod.fst)[a]? = some f.1 := by rw [List.getElem?_map, ha]; rfl
  have h2 : (lay.map Prod.fst)[b]? = some g.1 := by rw [List.getElem?_map, hb']; rfl
  exact (List.getElem?_inj (by simpa using la) nd).mp (h1.trans (by rw [q]; exact h2.symm))
section Puts
variable {l : Launch} {Z : State} {a0 : Array Value} {C : String} {lay : List (String × String)} {own mn : String} {bytes : ByteArray} {maxL : Nat} {ret : Option FieldType} {R : Room} {n0 ro : Nat} {Q : Option Value → List OwnC → Prop} {k n pc pc' : Nat} {L L' : List Slot} {S S' : List Value} {H H' : List OwnC}
theorem WP.putI {idx i j kk : Nat} {f : String} {vs : List Value} {x : Int32} {old : Value} (hd : decode bytes pc = .ok (.putfield idx, 3)) (hw : (Cond.fieldLink own idx C f "I").before a0 Z = true) (hl : (Cond.lays C C f "I").before a0 Z = true ∨ ((Cond.laysFinal C C f "I").before a0 Z = true ∧ own = C ∧ mn = "<init>")) (wi : (Cond.instantiable C kk).before a0 Z = true)
    (hlay : ∀ (a b : Nat) (f g : String × String), lay[a]? = some f → lay[b]? = some g → a ≠ b → RoadKit.slotOf Z C f.1 f.2 ≠ RoadKit.slotOf Z C g.1 g.2) (hj : lay[j]? = some (f, "I")) (hH : H[i]? = some (.inl vs)) (hv : vs[j]? = some old) (hi : ro ≤ i) (hH' : H.set i (.inl (vs.set j (.int x))) = H') (nx : WP l Z C lay own mn bytes maxL ret R n0 ro Q k n (pc + 3) L S H') : WP l Z C lay own mn bytes maxL ret R n0 ro Q k n pc L (.int x :: .ref i :: S) H :=
  WP.put hd hw hl wi hlay (ty := .int) (by decide) (fun _ => rfl) (fun _ => rfl) hj hH hv hi hH' nx
theorem WP.putJ {idx i j kk : Nat} {f : String} {vs : List Value} {x : Int64} {old : Value} (hd : decode bytes pc = .ok (.putfield idx, 3)) (hw : (Cond.fieldLink own idx C f "J").before a0 Z = true) (hl : (Cond.lays C C f "J").before a0 Z = true ∨ ((Cond.laysFinal C C f "J").before a0 Z = true ∧ own = C ∧ mn = "<init>")) (wi : (Cond.instantiable C kk).before a0 Z = true)
    (hlay : ∀ (a b : Nat) (f g : String × String), lay[a]? = some f → lay[b]? = some g → a ≠ b → RoadKit.slotOf Z C f.1 f.2 ≠ RoadKit.slotOf Z C g.1 g.2) (hj : lay[j]? = some (f, "J")) (hH : H[i]? = some (.inl vs)) (hv : vs[j]? = some old) (hi : ro ≤ i) (hH' : H.set i (.inl (vs.set j (.long x))) = H') (nx : WP l Z C lay own mn bytes maxL ret R n0 ro Q k n (pc + 3) L S H') : WP l Z C lay own mn bytes maxL ret R n0 ro Q k n pc L (.long x :: .ref i :: S) H :=
  WP.put hd hw hl wi hlay (ty := .long) (by decide) (fun _ => rfl) (fun _ => rfl) hj hH hv hi hH' nx
theorem WP.putZ {idx i j kk : Nat} {f : String} {vs : List Value} {x : Int32} {old : Value} (hd : decode bytes pc = .ok (.putfield idx, 3)) (hw : (Cond.fieldLink own idx C f "Z").before a0 Z = true) (hl : (Cond.lays C C f "Z").before a0 Z = true ∨ ((Cond.laysFinal C C f "Z").before a0 Z = true ∧ own = C ∧ mn = "<init>")) (wi : (Cond.instantiable C kk).before a0 Z = true)
    (hlay : ∀ (a b : Nat) (f g : String × String), lay[a]? = some f → lay[b]? = some g → a ≠ b → RoadKit.slotOf Z C f.1 f.2 ≠ RoadKit.slotOf Z C g.1 g.2) (hj : lay[j]? = some (f, "Z")) (hH : H[i]? = some (.inl vs)) (hv : vs[j]? = some old) (hi : ro ≤ i) (hH' : H.set i (.inl (vs.set j (.int (x &&& 1)))) = H') (nx : WP l Z C lay own mn bytes maxL ret R n0 ro Q k n (pc + 3) L S H') : WP l Z C lay own mn bytes maxL ret R n0 ro Q k n pc L (.int x :: .ref i :: S) H :=
  WP.put (v' := .int (x &&& 1)) hd hw hl wi hlay (ty := .boolean) (by decide) (fun _ => rfl) (fun _ => fits_nar_bool x) hj hH hv hi hH' nx
theorem WP.putR {idx i j kk i2 : Nat} {f d : String} {vs : List Value} {old : Value} {ty : FieldType} (hd : decode bytes pc = .ok (.putfield idx, 3)) (hw : (Cond.fieldLink own idx C f d).before a0 Z = true) (hl : (Cond.lays C C f d).before a0 Z = true ∨ ((Cond.laysFinal C C f d).before a0 Z = true ∧ own = C ∧ mn = "<init>")) (wi : (Cond.instantiable C kk).before a0 Z = true)
    (hlay : ∀ (a b : Nat) (f g : String × String), lay[a]? = some f → lay[b]? = some g → a ≠ b → RoadKit.slotOf Z C f.1 f.2 ≠ RoadKit.slotOf Z C g.1 g.2) (hty : parseFieldDescriptor d = some ty) (hn : ∀ a, narrow ty (.ref a) = .ref a) (hf : ∀ a, fits ty (.ref a) = true) (hj : lay[j]? = some (f, d)) (hH : H[i]? = some (.inl vs)) (hv : vs[j]? = some old) (hi : ro ≤ i) (hH' : H.set i (.inl (vs.set j (.ref i2))) = H') (nx : WP l Z C lay own mn bytes maxL ret R n0 ro Q k n (pc + 3) L S H') : WP l Z C lay own mn bytes maxL ret R n0 ro Q k n pc L (.ref i2 :: .ref i :: S) H :=
  WP.put (v' := .ref i2) hd hw hl wi hlay hty (fun ad => hn (ad i2)) (fun ad => hf (ad i2)) hj hH hv hi hH' nx
end Puts
/-! ## the start of a law -/
theorem HR.start0 (s : State) (C : String) (lay : List (String × String)) : HR s C lay s.heap.size 0 (fun t => s.heap.size + t) [] s.heap :=
  ⟨fun i c h => by simp at h, fun i j h => by simp at h, fun t => by simp, fun i h => by simp at h, Nat.le_refl _⟩
theorem script_ints {s : State} {a : Addr} {c : Cell} (hf : Fit s) (A : Arr s s.heap a c .int) : ∃ xs : List Int32, c.slots.toList = xs.map Value.int := by
  have h : ∀ v ∈ c.slots.toList, ∃ x : Int32, v = Value.int x := fun v hv => by
    obtain ⟨i, hi, e⟩ := List.mem_iff_getElem.mp hv
    have hi' : i < c.slots.size := by simpa using hi
    have q := hf A.1 hi'
    obtain ⟨hs, k, hk, comp, hkind⟩ := A.2.1
    have e2 : s.slotType? c.cls c.vm i = some .int := by
      cases hq : c.vm <;> first | exact absurd hq (hs _) | simp [State.slotType?, hk, hkind]
    have e3 : c.slots[i] = v := by rw [← e]; simp
    have q2 : fits .int v = true := by rw [← e3]; simpa [State.fitsSlot, e2] using q
    exact fit_I q2 (by simp)
  generalize c.slots.toList = L at h
  induction L with
  | nil => exact ⟨[], rfl⟩
  | cons v L ih =>
    obtain ⟨x, rfl⟩ := h v (List.mem_cons_self ..)
    obtain ⟨xs, rfl⟩ := ih fun w hw => h w (List.mem_cons_of_mem _ hw)
    exact ⟨x :: xs, rfl⟩
def ad1 (a N : Nat) : Nat → Addr
  | 0 => a
  | t + 1 => N + t
theorem HR.start1 {s : State} (C : String) (lay : List (String × String)) {a : Addr} {c : Cell} {xs : List Int32} (A : Arr s s.heap a c .int) (hx : c.slots.toList = xs.map Value.int) : HR s C lay s.heap.size 1 (ad1 a s.heap.size) [cI xs] s.heap := by
  refine ⟨fun i cc h => ?_, fun i j hi hj _ => ?_, fun t => ?_, fun i hi hr => ?_, Nat.le_refl _⟩
  · have hi := get_lt h
    simp at hi; subst hi
    simp at h; subst h
    exact ⟨c, A, hx⟩
  · simp at hi hj; omega
  · show ad1 a s.heap.size (1 + t) = _; rw [Nat.add_comm 1 t]; rfl
  · simp at hi; omega
theorem script_len {s : State} {a : Addr} {c : Cell} {n : Nat} {args : Array Value} {t : Term} (ev : t.eval args s none [] s = some (.ref a)) (A : Arr s s.heap a c .int) (e1 : c.slots.size = n) (h : (Cond.le (Term.length t) (Term.int (260 : Int32))).value args s none s [] = some true) : n ≤ 260 := by
  have hat := A.fin (Vm.Alike.refl _)
  have hl : (Term.length t).eval args s none [] s = if n < 2 ^ 31 then some (.int n.toInt32) else none := by
    simp only [Term.eval, ev, hat, Option.bind_eq_bind, Option.bind_some, e1]; rfl
  by_cases hn : n < 2 ^ 31
  · rw [if_pos hn] at hl
    have h1 := gotT (Cond.le_ints hl (Term.int_eval (260 : Int32))) h
    have h2 : n.toInt32.toInt = n := by
      show (Int32.ofNat n).toInt = n
      exact Int32.toInt_ofNat_of_lt hn
    have h3 := Int32.le_iff_toInt_le.mp h1
    rw [h2] at h3
    have : (260 : Int32).toInt = 260 := by decide
    omega
  · rw [if_neg hn] at hl
    simp [Cond.value, hl] at h
/-! ## plain laws -/
/-- with fuel enough it answers r -/
def Ev {α : Type} (f : Nat → Option α) (r : α) : Prop := ∃ N, ∀ n, N ≤ n → f n = some r
theorem Ev.const {α : Type} {x : Option α} {r : α} (h : x = some r) : Ev (fun _ => x) r := ⟨0, fun _ _ => h⟩
theorem Ev.get {α : Type} {f : Nat → Option α} {r : α} (h : Ev f r) : ∃ n, f n = some r := by obtain ⟨N, h⟩ := h; exact ⟨N, h N (Nat.le_refl _)⟩
theorem Ev.step {α : Type} {f g : Nat → Option α} {r : α} (e : ∀ n, f (n + 1) = g n) (h : Ev g r) : Ev f r := by
  obtain ⟨N, h⟩ := h
  refine ⟨N + 1, fun n hn => ?_⟩
  cases n with
  | zero => omega
  | succ n => rw [e n]; exact h n (by omega)
theorem Ev.congr {α : Type} {f g : Nat → Option α} {r : α} (e : ∀ n, f n = g n) (h : Ev g r) : Ev f r := by
  obtain ⟨N, h⟩ := h
  exact ⟨N, fun n hn => (e n).trans (h n hn)⟩
theorem Ev.bind {α β : Type} {f : Nat → Option β} {g : Nat → β → Option α} {c : β} {r : α} (h1 : Ev f c) (h2 : Ev (fun n => g n c) r) : Ev (fun n => (f n).bind (g n)) r := by
  obtain ⟨N, h1⟩ := h1
  obtain ⟨M, h2⟩ := h2
  refine ⟨N + M, fun n hn => ?_⟩
  show (f n).bind (g n) = some r
  rw [h1 n (by omega)]; exact h2 n (by omega)
theorem Ev.uniq {α : Type} {f : Nat → Option α} {r r' : α} (h : Ev f r) (h' : Ev f r') : r = r' := by
  obtain ⟨N, h⟩ := h
  obtain ⟨M, h'⟩ := h'
  exact Option.some.inj ((h (N + M) (by omega)).symm.trans (h' (N + M) (by omega)))
/-! Int32 as Int -/
theorem x32_lt {x y : Int32} : x < y ↔ x.toInt < y.toInt := Int32.lt_iff_toInt_lt
theorem x32_eq {x y : Int32} : x = y ↔ x.toInt = y.toInt := Int32.toInt_inj.symm
theorem x32_add {x y : Int32} (h1 : -2147483648 ≤ x.toInt + y.toInt) (h2 : x.toInt + y.toInt < 2147483648) : (x + y).toInt = x.toInt + y.toInt := by
  rw [Int32.toInt_add]; exact Int.bmod_eq_of_le (by omega) (by omega)
theorem x32_sub {x y : Int32} (h1 : -2147483648 ≤ x.toInt - y.toInt) (h2 : x.toInt - y.toInt < 2147483648) : (x - y).toInt = x.toInt - y.toInt := by
  rw [Int32.toInt_sub]; exact Int.bmod_eq_of_le (by omega) (by omega)
theorem x32_mul {x y : Int32} (h1 : -2147483648 ≤ x.toInt * y.toInt) (h2 : x.toInt * y.toInt < 2147483648) : (x * y).toInt = x.toInt * y.toInt := by
  rw [Int32.toInt_mul]; exact Int.bmod_eq_of_le (by omega) (by omega)
theorem clamp_nat (x : Int32) : x.toNatClampNeg = x.toInt.toNat := rfl
/-! reading and writing -/
theorem rd_of {α : Type} {xs : List α} {i : Int32} {k : Nat} {x : α} (hi : i.toInt = k) (h : xs[k]? = some x) : rd xs i = some x := by
  have h0 : ¬ i < 0 := by rw [x32_lt, hi]; show ¬ (k : Int) < 0; omega
  unfold rd
  rw [if_neg h0, clamp_nat, hi]; exact h
theorem wr_of {α : Type} {xs : List α} {i : Int32} {k : Nat} (x : α) (hi : i.toInt = k) (h : k < xs.length) : wr xs i x = some (xs.set k x) := by
  have h0 : ¬ i < 0 := by rw [x32_lt, hi]; show ¬ (k : Int) < 0; omega
  unfold wr
  rw [if_neg h0, clamp_nat, hi]; exact if_pos h
theorem wrA_of {s : St} {f : Nat} {i : Int32} {k : Nat} (x : Int32) (hi : i.toInt = k) (h : k < (gA s f).length) : wrA s f i x = some (sA s f ((gA s f).set k x)) := by
  unfold wrA; rw [wr_of x hi h]; rfl
theorem wrB_of {s : St} {f : Nat} {i : Int32} {k : Nat} (x : Int64) (hi : i.toInt = k) (h : k < (gB s f).length) : wrB s f i x = some (sB s f ((gB s f).set k x)) := by
  unfold wrB; rw [wr_of x hi h]; rfl
theorem nn_of {i : Int32} (h : ¬ i < 0) : ∃ k : Nat, i.toInt = k := ⟨i.toInt.toNat, by
  rw [x32_lt] at h
  have : (0 : Int32).toInt = 0 := by decide
  omega⟩
theorem Ev.all {α : Type} {f : Nat → Option α} {r : α} (h : ∀ n, f n = some r) : Ev f r := ⟨0, fun n _ => h n⟩
theorem ofN_int {k : Nat} (h : k < 2147483648) : (Int32.ofNat k).toInt = k := Int32.toInt_ofNat_of_lt (by omega)
theorem ofN_lt {i m : Nat} (hi : i < 2147483648) (hm : m < 2147483648) : Int32.ofNat i < Int32.ofNat m ↔ i < m := by
  rw [x32_lt, ofN_int hi, ofN_int hm]; omega
theorem ofN_succ (k : Nat) : Int32.ofNat k + 1 = Int32.ofNat (k + 1) := (Int32.ofNat_add k 1).symm
theorem ofN_eq {i m : Nat} (hi : i < 2147483648) (hm : m < 2147483648) : Int32.ofNat i = Int32.ofNat m ↔ i = m := by
  rw [x32_eq, ofN_int hi, ofN_int hm]; omega
theorem ofN_of {x : Int32} {k : Nat} (h : x.toInt = k) : x = Int32.ofNat k := by
  have h2 := Int32.toInt_lt x
  rw [x32_eq, ofN_int (by omega)]; exact h
/-- a loop that counts up to N -/
theorem loop_up {α σ : Type} {F : Nat → Int32 → σ → Option α} {E : Nat → σ → Option α} {N : Nat} (Inv : Nat → σ → Prop)
    (hstep : ∀ (i : Nat) (s : σ), i < N → Inv i s → ∃ s', Inv (i + 1) s' ∧ ∀ n, F (n + 1) (Int32.ofNat i) s = F n (Int32.ofNat (i + 1)) s')
    (hend : ∀ s, Inv N s → ∀ n, F (n + 1) (Int32.ofNat N) s = E n s) : ∀ (k i : Nat) (s : σ), i + k = N → Inv i s → ∃ s', Inv N s' ∧ ∀ r, Ev (fun n => E n s') r → Ev (fun n => F n (Int32.ofNat i) s) r := by
  intro k
  induction k with
  | zero =>
    intro i s hi h
    obtain rfl : i = N := by omega
    exact ⟨s, h, fun r hr => Ev.step (hend s h) hr⟩
  | succ k ih =>
    intro i s hi h
    obtain ⟨s', h1, h2⟩ := hstep i s (by omega) h
    obtain ⟨s2, h3, h4⟩ := ih (i + 1) s' (by omega) h1
    exact ⟨s2, h3, fun r hr => Ev.step h2 (h4 r hr)⟩
theorem set_len {α : Type} (xs : List α) (k : Nat) (x : α) : (xs.set k x).length = xs.length := List.length_set
theorem ofN_ltL {i m : Nat} (hi : i < 2147483648) (hm : m < 2147483648) : Int32.ofNat i < (OfNat.ofNat m : Int32) ↔ i < m := ofN_lt hi hm
theorem ofN_gtL {i m : Nat} (hi : i < 2147483648) (hm : m < 2147483648) : (OfNat.ofNat m : Int32) < Int32.ofNat i ↔ m < i := ofN_lt hm hi
theorem ofN_eqL {i m : Nat} (hi : i < 2147483648) (hm : m < 2147483648) : Int32.ofNat i = (OfNat.ofNat m : Int32) ↔ i = m := ofN_eq hi hm
theorem ofN_nn {i : Nat} (hi : i < 2147483648) : ¬ Int32.ofNat i < 0 := fun h => Nat.not_lt_zero _ ((ofN_ltL hi (by decide)).mp h)
theorem lit_int {m : Nat} (hm : m < 2147483648) : (OfNat.ofNat m : Int32).toInt = m := ofN_int hm
theorem upd_upd {α : Type} (f : Nat → α) (i : Nat) (x y : α) : upd (upd f i x) i y = upd f i y := by
  funext j; unfold upd; by_cases h : j = i <;> simp [h]
theorem upd_self {α : Type} (f : Nat → α) (i : Nat) : upd f i (f i) = f := by
  funext j; unfold upd; by_cases h : j = i <;> simp [h]
theorem sA_sA (s : St) (i : Nat) (x y : List Int32) : sA (sA s i x) i y = sA s i y := by unfold sA; dsimp only; rw [upd_upd]
theorem sB_sB (s : St) (i : Nat) (x y : List Int64) : sB (sB s i x) i y = sB s i y := by unfold sB; dsimp only; rw [upd_upd]
theorem sI_sI (s : St) (i : Nat) (x y : Int32) : sI (sI s i x) i y = sI s i y := by unfold sI; dsimp only; rw [upd_upd]
theorem sA_self {s : St} {i : Nat} {x : List Int32} (h : gA s i = x) : sA s i x = s := by
  subst h; unfold sA gA; rw [upd_self]
theorem sB_self {s : St} {i : Nat} {x : List Int64} (h : gB s i = x) : sB s i x = s := by
  subst h; unfold sB gB; rw [upd_self]
theorem sI_self {s : St} {i : Nat} {x : Int32} (h : gI s i = x) : sI s i x = s := by
  subst h; unfold sI gI; rw [upd_self]
theorem fill_set {α : Type} (a b : α) (n i : Nat) (h : i < n) : (List.replicate i a ++ List.replicate (n - i) b).set i a = List.replicate (i + 1) a ++ List.replicate (n - (i + 1)) b := by
  rw [List.set_append_right _ _ (by simp), List.length_replicate, Nat.sub_self]
  obtain ⟨m, hm⟩ : ∃ m, n - i = m + 1 := ⟨n - i - 1, by omega⟩
  have hm2 : n - (i + 1) = m := by omega
  rw [hm, hm2, List.replicate_succ, List.set_cons_zero, List.replicate_succ', List.append_assoc]; rfl
theorem and_nat (x : Int32) (m : Nat) (hm : m < 2147483648) : ∃ k, k ≤ m ∧ (x &&& Int32.ofNat m) = Int32.ofNat k := by
  refine ⟨(x.toBitVec &&& BitVec.ofNat 32 m).toNat, ?_, ?_⟩
  · rw [BitVec.toNat_and, BitVec.toNat_ofNat, Nat.mod_eq_of_lt (by omega)]
    exact Nat.and_le_right
  · apply Int32.toBitVec_inj.mp
    show x.toBitVec &&& BitVec.ofNat 32 m = BitVec.ofNat 32 _
    rw [BitVec.ofNat_toNat, BitVec.setWidth_eq]
theorem and_natL (x : Int32) (m : Nat) (hm : m < 2147483648) : ∃ k, k ≤ m ∧ (x &&& (OfNat.ofNat m : Int32)) = Int32.ofNat k := and_nat x m hm
theorem nat_lt {i : Int32} {m : Nat} (h : ¬ i < 0) (h2 : i < (OfNat.ofNat m : Int32)) (hm : m < 2147483648) : ∃ k : Nat, k < m ∧ i = Int32.ofNat k := by
  obtain ⟨k, hk⟩ := nn_of h
  rw [x32_lt, lit_int hm, hk] at h2
  exact ⟨k, by omega, ofN_of hk⟩
theorem nat_le {i : Int32} {m : Nat} (h : ¬ i < 0) (h2 : ¬ (OfNat.ofNat m : Int32) < i) (hm : m < 2147483648) : ∃ k : Nat, k ≤ m ∧ i = Int32.ofNat k := by
  obtain ⟨k, hk⟩ := nn_of h
  rw [x32_lt, lit_int hm, hk] at h2
  exact ⟨k, by omega, ofN_of hk⟩
theorem rd_at {α : Type} {xs : List α} {k : Nat} {x : α} (hk : k < 2147483648) (h : xs[k]? = some x) : rd xs (Int32.ofNat k) = some x := rd_of (ofN_int hk) h
theorem wr_at' {α : Type} {xs : List α} {k : Nat} (x : α) (hk : k < 2147483648) (h : k < xs.length) : wr xs (Int32.ofNat k) x = some (xs.set k x) := wr_of x (ofN_int hk) h
theorem rep_get {α : Type} {n k : Nat} (a : α) (h : k < n) : (List.replicate n a)[k]? = some a := by rw [List.getElem?_replicate, if_pos h]
theorem get_set_self {α : Type} {xs : List α} {k : Nat} (x : α) (h : k < xs.length) : (xs.set k x)[k]? = some x := by rw [List.getElem?_set_self h]
theorem get_set_ne {α : Type} {xs : List α} {k j : Nat} (x : α) (h : k ≠ j) : (xs.set k x)[j]? = xs[j]? := List.getElem?_set_ne h
theorem upd_comm {α : Type} (f : Nat → α) {i j : Nat} (h : i ≠ j) (x y : α) : upd (upd f i x) j y = upd (upd f j y) i x := by
  funext m; unfold upd
  by_cases h1 : m = j
  · subst h1; rw [if_pos rfl, if_neg (Ne.symm h), if_pos rfl]
  · rw [if_neg h1]; by_cases h2 : m = i
    · rw [if_pos h2, if_pos h2]
    · rw [if_neg h2, if_neg h2, if_neg h1]
theorem sA_comm {s : St} {i j : Nat} (h : i ≠ j) {x y : List Int32} : sA (sA s i x) j y = sA (sA s j y) i x := by unfold sA; dsimp only; rw [upd_comm _ h]
theorem sB_comm {s : St} {i j : Nat} (h : i ≠ j) {x y : List Int64} : sB (sB s i x) j y = sB (sB s j y) i x := by unfold sB; dsimp only; rw [upd_comm _ h]
theorem sI_comm {s : St} {i j : Nat} (h : i ≠ j) {x y : Int32} : sI (sI s i x) j y = sI (sI s j y) i x := by unfold sI; dsimp only; rw [upd_comm _ h]
theorem sJ_self {s : St} {i : Nat} {x : Int64} (h : gJ s i = x) : sJ s i x = s := by
  subst h; unfold sJ gJ; rw [upd_self]
theorem wrA_nop {s : St} {f N k : Nat} {v : Int32} (h : gA s f = List.replicate N v) (hk : k < N) (hN : N ≤ 2147483647) : wrA s f (Int32.ofNat k) v = some s := by
  rw [wrA_of (k := k) v (ofN_int (by omega)) (by rw [h, List.length_replicate]; exact hk), sA_self (by rw [h, List.set_replicate_self])]
theorem wrB_nop {s : St} {f N k : Nat} {v : Int64} (h : gB s f = List.replicate N v) (hk : k < N) (hN : N ≤ 2147483647) : wrB s f (Int32.ofNat k) v = some s := by
  rw [wrB_of (k := k) v (ofN_int (by omega)) (by rw [h, List.length_replicate]; exact hk), sB_self (by rw [h, List.set_replicate_self])]
/-- a loop that fills -/
theorem wrA_fill {s : St} {f N k : Nat} {u v : Int32} (hk : k < N) (hN : N ≤ 2147483647) : wrA (sA s f (List.replicate k v ++ List.replicate (N - k) u)) f (Int32.ofNat k) v = some (sA s f (List.replicate (k + 1) v ++ List.replicate (N - (k + 1)) u)) := by
  rw [wrA_of (k := k) v (ofN_int (by omega)) (by rw [gA_sA, if_pos rfl]; simp; omega), gA_sA, if_pos rfl, fill_set _ _ _ _ hk, sA_sA]
theorem fill_start {s : St} {f N : Nat} {u v : Int32} (h : gA s f = List.replicate N u) : s = sA s f (List.replicate 0 v ++ List.replicate (N - 0) u) := (sA_self (by rw [h]; rfl)).symm
theorem fill_end {s : St} {f N : Nat} {u v : Int32} : sA s f (List.replicate N v ++ List.replicate (N - N) u) = sA s f (List.replicate N v) := by rw [Nat.sub_self]; simp
theorem x32_neg {x : Int32} (h : -2147483648 < x.toInt) : (-x).toInt = -x.toInt := by
  have := Int32.toInt_lt x
  rw [Int32.toInt_neg]; exact Int.bmod_eq_of_le (by omega) (by omega)
theorem x64_neg {x : Int64} (h : -9223372036854775808 < x.toInt) : (-x).toInt = -x.toInt := by
  have := Int64.toInt_lt x
  rw [Int64.toInt_neg]; exact Int.bmod_eq_of_le (by omega) (by omega)
theorem x64_lt {x y : Int64} : x < y ↔ x.toInt < y.toInt := Int64.lt_iff_toInt_lt
theorem x64_eq {x y : Int64} : x = y ↔ x.toInt = y.toInt := Int64.toInt_inj.symm
theorem x64_add {x y : Int64} (h1 : -9223372036854775808 ≤ x.toInt + y.toInt) (h2 : x.toInt + y.toInt < 9223372036854775808) : (x + y).toInt = x.toInt + y.toInt := by
  rw [Int64.toInt_add]; exact Int.bmod_eq_of_le (by omega) (by omega)
theorem x64_sub {x y : Int64} (h1 : -9223372036854775808 ≤ x.toInt - y.toInt) (h2 : x.toInt - y.toInt < 9223372036854775808) : (x - y).toInt = x.toInt - y.toInt := by
  rw [Int64.toInt_sub]; exact Int.bmod_eq_of_le (by omega) (by omega)
theorem x64_mul {x y : Int64} (h1 : -9223372036854775808 ≤ x.toInt * y.toInt) (h2 : x.toInt * y.toInt < 9223372036854775808) : (x * y).toInt = x.toInt * y.toInt := by
  rw [Int64.toInt_mul]; exact Int.bmod_eq_of_le (by omega) (by omega)
end Jvm.Own
namespace Jvm.Pilot.@@N@@
open Jvm Jvm.ClassFile Sem Op Lib Jvm.Free Jvm.Stand Jvm.LawKit Jvm.RoadKit Bundle Jvm.Pilot.@@N@@.Jvm.D Jvm.Own
abbrev HW (a0 : Array Value) (Z : State) : Prop := ∀ d ∈ tables_1, d.before a0 Z = true
abbrev CN : String := "PictureCobol"
def lay : List (String × String) := [("maxFields", "I"), ("maxStatements", "I"), ("fieldCount", "I"), ("fInt", "[I"), ("fFrac", "[I"), ("fVal", "[I"), ("fSigned", "[Z"), ("stmtCount", "I"), ("sKind", "[I"), ("sRounded", "[Z"), ("sA", "[I"), ("sB", "[I"), ("sC", "[I"), ("sHasErr", "[Z"), ("sErr", "[I"), ("compiled", "Z"), ("halted", "Z"), ("pc", "I"), ("executed", "I"), ("sizeErrors", "I")]
abbrev vs0 : List Value := [.int 0, .int 0, .int 0, .null, .null, .null, .null, .int 0, .null, .null, .null, .null, .null, .null, .null, .int 0, .int 0, .int 0, .int 0, .int 0]
abbrev Hb (b : Nat) (s : St) : List OwnC := [cO [.int (gI s 0), .int (gI s 1), .int (gI s 2), .ref (b + 1), .ref (b + 2), .ref (b + 3), .ref (b + 4), .int (gI s 3), .ref (b + 5), .ref (b + 6), .ref (b + 7), .ref (b + 8), .ref (b + 9), .ref (b + 10), .ref (b + 11), .int (gI s 4), .int (gI s 5), .int (gI s 6), .int (gI s 7), .int (gI s 8)], cI (gA s 0), cI (gA s 1), cI (gA s 2), cZ (gA s 3), cI (gA s 4), cZ (gA s 5), cI (gA s 6), cI (gA s 7), cI (gA s 8), cZ (gA s 9), cI (gA s 10)]
def st0 : St := (fun _ => 0, fun _ => 0, fun i => ([List.replicate 8 0, List.replicate 8 0, List.replicate 8 0, List.replicate 8 0, List.replicate 32 0, List.replicate 32 0, List.replicate 32 0, List.replicate 32 0, List.replicate 32 0, List.replicate 32 0, List.replicate 32 0] : List (List Int32)).getD i [], fun i => ([] : List (List Int64)).getD i [])
theorem m_0 : (Jvm.Cond.classLink "PictureCobolL2" (7 : Nat) "PictureCobol") ∈ tables_1 := List.mem_of_getElem? (i := 0) rfl
theorem m_1 : (Jvm.Cond.instantiable "PictureCobol" (22 : Nat)) ∈ tables_1 := List.mem_of_getElem? (i := 1) rfl
theorem m_2 : (Jvm.Cond.initialized "PictureCobol") ∈ tables_1 := List.mem_of_getElem? (i := 2) rfl
theorem m_3 : (Jvm.Cond.methodLink "PictureCobolL2" (9 : Nat) ({ cls := "PictureCobol", name := "<init>", desc := "(II)V" } : Jvm.MethodName)) ∈ tables_1 := List.mem_of_getElem? (i := 3) rfl
theorem m_4 : (Jvm.Cond.instanceMethod ({ cls := "PictureCobol", name := "<init>", desc := "(II)V" } : Jvm.MethodName)) ∈ tables_1 := List.mem_of_getElem? (i := 4) rfl
theorem m_5 : (Jvm.Cond.code ({ cls := "PictureCobol", name := "<init>", desc := "(II)V" } : Jvm.MethodName) prog_1_method_1_code (3 : Nat) (Option.none : Option Jvm.ClassFile.FieldType)) ∈ tables_1 := List.mem_of_getElem? (i := 5) rfl
theorem m_6 : (Jvm.Cond.methodLink "PictureCobol" (1 : Nat) ({ cls := "java/lang/Object", name := "<init>", desc := "()V" } : Jvm.MethodName)) ∈ tables_1 := List.mem_of_getElem? (i := 6) rfl
theorem m_7 : (Jvm.Cond.instanceMethod ({ cls := "java/lang/Object", name := "<init>", desc := "()V" } : Jvm.MethodName)) ∈ tables_1 := List.mem_of_getElem? (i := 7) rfl
theorem m_8 : (Jvm.Cond.code ({ cls := "java/lang/Object", name := "<init>", desc := "()V" } : Jvm.MethodName) object_method_1_code (1 : Nat) (Option.none : Option Jvm.ClassFile.FieldType)) ∈ tables_1 := List.mem_of_getElem? (i := 8) rfl
theorem m_9 : (Jvm.Cond.arrayClass Jvm.ClassFile.FieldType.int) ∈ tables_1 := List.mem_of_getElem? (i := 9) rfl
theorem m_10 : (Jvm.Cond.fieldLink "PictureCobol" (7 : Nat) "PictureCobol" "fInt" "[I") ∈ tables_1 := List.mem_of_getElem? (i := 10) rfl
theorem m_11 : (Jvm.Cond.lays "PictureCobol" "PictureCobol" "fInt" "[I") ∈ tables_1 := List.mem_of_getElem? (i := 11) rfl
theorem m_12 : (Jvm.Cond.fieldLink "PictureCobol" (13 : Nat) "PictureCobol" "fFrac" "[I") ∈ tables_1 := List.mem_of_getElem? (i := 12) rfl
theorem m_13 : (Jvm.Cond.lays "PictureCobol" "PictureCobol" "fFrac" "[I") ∈ tables_1 := List.mem_of_getElem? (i := 13) rfl
theorem m_14 : (Jvm.Cond.fieldLink "PictureCobol" (16 : Nat) "PictureCobol" "fVal" "[I") ∈ tables_1 := List.mem_of_getElem? (i := 14) rfl
theorem m_15 : (Jvm.Cond.lays "PictureCobol" "PictureCobol" "fVal" "[I") ∈ tables_1 := List.mem_of_getElem? (i := 15) rfl
theorem m_16 : (Jvm.Cond.arrayClass Jvm.ClassFile.FieldType.boolean) ∈ tables_1 := List.mem_of_getElem? (i := 16) rfl
theorem m_17 : (Jvm.Cond.fieldLink "PictureCobol" (19 : Nat) "PictureCobol" "fSigned" "[Z") ∈ tables_1 := List.mem_of_getElem? (i := 17) rfl
theorem m_18 : (Jvm.Cond.lays "PictureCobol" "PictureCobol" "fSigned" "[Z") ∈ tables_1 := List.mem_of_getElem? (i := 18) rfl
theorem m_19 : (Jvm.Cond.fieldLink "PictureCobol" (23 : Nat) "PictureCobol" "sKind" "[I") ∈ tables_1 := List.mem_of_getElem? (i := 19) rfl
theorem m_20 : (Jvm.Cond.lays "PictureCobol" "PictureCobol" "sKind" "[I") ∈ tables_1 := List.mem_of_getElem? (i := 20) rfl
theorem m_21 : (Jvm.Cond.fieldLink "PictureCobol" (26 : Nat) "PictureCobol" "sRounded" "[Z") ∈ tables_1 := List.mem_of_getElem? (i := 21) rfl
theorem m_22 : (Jvm.Cond.lays "PictureCobol" "PictureCobol" "sRounded" "[Z") ∈ tables_1 := List.mem_of_getElem? (i := 22) rfl
theorem m_23 : (Jvm.Cond.fieldLink "PictureCobol" (29 : Nat) "PictureCobol" "sA" "[I") ∈ tables_1 := List.mem_of_getElem? (i := 23) rfl
theorem m_24 : (Jvm.Cond.lays "PictureCobol" "PictureCobol" "sA" "[I") ∈ tables_1 := List.mem_of_getElem? (i := 24) rfl
theorem m_25 : (Jvm.Cond.fieldLink "PictureCobol" (32 : Nat) "PictureCobol" "sB" "[I") ∈ tables_1 := List.mem_of_getElem? (i := 25) rfl
theorem m_26 : (Jvm.Cond.lays "PictureCobol" "PictureCobol" "sB" "[I") ∈ tables_1 := List.mem_of_getElem? (i := 26) rfl
theorem m_27 : (Jvm.Cond.fieldLink "PictureCobol" (35 : Nat) "PictureCobol" "sC" "[I") ∈ tables_1 := List.mem_of_getElem? (i := 27) rfl
theorem m_28 : (Jvm.Cond.lays "PictureCobol" "PictureCobol" "sC" "[I") ∈ tables_1 := List.mem_of_getElem? (i := 28) rfl
theorem m_29 : (Jvm.Cond.fieldLink "PictureCobol" (38 : Nat) "PictureCobol" "sHasErr" "[Z") ∈ tables_1 := List.mem_of_getElem? (i := 29) rfl
theorem m_30 : (Jvm.Cond.lays "PictureCobol" "PictureCobol" "sHasErr" "[Z") ∈ tables_1 := List.mem_of_getElem? (i := 30) rfl
theorem m_31 : (Jvm.Cond.fieldLink "PictureCobol" (41 : Nat) "PictureCobol" "sErr" "[I") ∈ tables_1 := List.mem_of_getElem? (i := 31) rfl
theorem m_32 : (Jvm.Cond.lays "PictureCobol" "PictureCobol" "sErr" "[I") ∈ tables_1 := List.mem_of_getElem? (i := 32) rfl
theorem m_33 : (Jvm.Cond.methodLink "PictureCobol" (44 : Nat) ({ cls := "PictureCobol", name := "clamp", desc := "(III)I" } : Jvm.MethodName)) ∈ tables_1 := List.mem_of_getElem? (i := 33) rfl
theorem m_34 : (Jvm.Cond.instanceMethod ({ cls := "PictureCobol", name := "clamp", desc := "(III)I" } : Jvm.MethodName)) ∈ tables_1 := List.mem_of_getElem? (i := 34) rfl
theorem m_35 : (Jvm.Cond.privateMethod ({ cls := "PictureCobol", name := "clamp", desc := "(III)I" } : Jvm.MethodName)) ∈ tables_1 := List.mem_of_getElem? (i := 35) rfl
theorem m_36 : (Jvm.Cond.code ({ cls := "PictureCobol", name := "clamp", desc := "(III)I" } : Jvm.MethodName) prog_1_method_16_code (4 : Nat) (Option.some Jvm.ClassFile.FieldType.int)) ∈ tables_1 := List.mem_of_getElem? (i := 36) rfl
theorem m_37 : (Jvm.Cond.fieldLink "PictureCobol" (48 : Nat) "PictureCobol" "maxFields" "I") ∈ tables_1 := List.mem_of_getElem? (i := 37) rfl
theorem m_38 : (Jvm.Cond.lays "PictureCobol" "PictureCobol" "maxFields" "I") ∈ tables_1 := List.mem_of_getElem? (i := 38) rfl
theorem m_39 : (Jvm.Cond.fieldLink "PictureCobol" (52 : Nat) "PictureCobol" "maxStatements" "I") ∈ tables_1 := List.mem_of_getElem? (i := 39) rfl
theorem m_40 : (Jvm.Cond.lays "PictureCobol" "PictureCobol" "maxStatements" "I") ∈ tables_1 := List.mem_of_getElem? (i := 40) rfl
theorem m_41 : (Jvm.Cond.fieldLink "PictureCobol" (55 : Nat) "PictureCobol" "fieldCount" "I") ∈ tables_1 := List.mem_of_getElem? (i := 41) rfl
theorem m_42 : (Jvm.Cond.lays "PictureCobol" "PictureCobol" "fieldCount" "I") ∈ tables_1 := List.mem_of_getElem? (i := 42) rfl
theorem m_43 : (Jvm.Cond.fieldLink "PictureCobol" (58 : Nat) "PictureCobol" "stmtCount" "I") ∈ tables_1 := List.mem_of_getElem? (i := 43) rfl
theorem m_44 : (Jvm.Cond.lays "PictureCobol" "PictureCobol" "stmtCount" "I") ∈ tables_1 := List.mem_of_getElem? (i := 44) rfl
theorem m_45 : (Jvm.Cond.fieldLink "PictureCobol" (61 : Nat) "PictureCobol" "compiled" "Z") ∈ tables_1 := List.mem_of_getElem? (i := 45) rfl
theorem m_46 : (Jvm.Cond.lays "PictureCobol" "PictureCobol" "compiled" "Z") ∈ tables_1 := List.mem_of_getElem? (i := 46) rfl
theorem m_47 : (Jvm.Cond.fieldLink "PictureCobol" (65 : Nat) "PictureCobol" "halted" "Z") ∈ tables_1 := List.mem_of_getElem? (i := 47) rfl
theorem m_48 : (Jvm.Cond.lays "PictureCobol" "PictureCobol" "halted" "Z") ∈ tables_1 := List.mem_of_getElem? (i := 48) rfl
theorem m_49 : (Jvm.Cond.fieldLink "PictureCobol" (68 : Nat) "PictureCobol" "pc" "I") ∈ tables_1 := List.mem_of_getElem? (i := 49) rfl
theorem m_50 : (Jvm.Cond.lays "PictureCobol" "PictureCobol" "pc" "I") ∈ tables_1 := List.mem_of_getElem? (i := 50) rfl
theorem m_51 : (Jvm.Cond.fieldLink "PictureCobol" (71 : Nat) "PictureCobol" "executed" "I") ∈ tables_1 := List.mem_of_getElem? (i := 51) rfl
theorem m_52 : (Jvm.Cond.lays "PictureCobol" "PictureCobol" "executed" "I") ∈ tables_1 := List.mem_of_getElem? (i := 52) rfl
theorem m_53 : (Jvm.Cond.fieldLink "PictureCobol" (74 : Nat) "PictureCobol" "sizeErrors" "I") ∈ tables_1 := List.mem_of_getElem? (i := 53) rfl
theorem m_54 : (Jvm.Cond.lays "PictureCobol" "PictureCobol" "sizeErrors" "I") ∈ tables_1 := List.mem_of_getElem? (i := 54) rfl
theorem m_55 : (Jvm.Cond.methodLink "PictureCobolL2" (12 : Nat) ({ cls := "PictureCobol", name := "declareField", desc := "(IIZ)I" } : Jvm.MethodName)) ∈ tables_1 := List.mem_of_getElem? (i := 55) rfl
theorem m_56 : (Jvm.Cond.declares ({ cls := "PictureCobol", name := "declareField", desc := "(IIZ)I" } : Jvm.MethodName)) ∈ tables_1 := List.mem_of_getElem? (i := 56) rfl
theorem m_57 : (Jvm.Cond.instanceMethod ({ cls := "PictureCobol", name := "declareField", desc := "(IIZ)I" } : Jvm.MethodName)) ∈ tables_1 := List.mem_of_getElem? (i := 57) rfl
theorem m_58 : (Jvm.Cond.selects "PictureCobol" ({ cls := "PictureCobol", name := "declareField", desc := "(IIZ)I" } : Jvm.MethodName) ({ cls := "PictureCobol", name := "declareField", desc := "(IIZ)I" } : Jvm.MethodName)) ∈ tables_1 := List.mem_of_getElem? (i := 58) rfl
theorem m_59 : (Jvm.Cond.code ({ cls := "PictureCobol", name := "declareField", desc := "(IIZ)I" } : Jvm.MethodName) prog_1_method_2_code (6 : Nat) (Option.some Jvm.ClassFile.FieldType.int)) ∈ tables_1 := List.mem_of_getElem? (i := 59) rfl
theorem m_60 : (Jvm.Cond.methodLink "PictureCobolL2" (16 : Nat) ({ cls := "PictureCobol", name := "statement", desc := "(IIII)I" } : Jvm.MethodName)) ∈ tables_1 := List.mem_of_getElem? (i := 60) rfl
theorem m_61 : (Jvm.Cond.declares ({ cls := "PictureCobol", name := "statement", desc := "(IIII)I" } : Jvm.MethodName)) ∈ tables_1 := List.mem_of_getElem? (i := 61) rfl
theorem m_62 : (Jvm.Cond.instanceMethod ({ cls := "PictureCobol", name := "statement", desc := "(IIII)I" } : Jvm.MethodName)) ∈ tables_1 := List.mem_of_getElem? (i := 62) rfl
theorem m_63 : (Jvm.Cond.selects "PictureCobol" ({ cls := "PictureCobol", name := "statement", desc := "(IIII)I" } : Jvm.MethodName) ({ cls := "PictureCobol", name := "statement", desc := "(IIII)I" } : Jvm.MethodName)) ∈ tables_1 := List.mem_of_getElem? (i := 63) rfl
theorem m_64 : (Jvm.Cond.code ({ cls := "PictureCobol", name := "statement", desc := "(IIII)I" } : Jvm.MethodName) prog_1_method_4_code (7 : Nat) (Option.some Jvm.ClassFile.FieldType.int)) ∈ tables_1 := List.mem_of_getElem? (i := 64) rfl
theorem m_65 : (Jvm.Cond.methodLink "PictureCobol" (89 : Nat) ({ cls := "PictureCobol", name := "validKind", desc := "(I)Z" } : Jvm.MethodName)) ∈ tables_1 := List.mem_of_getElem? (i := 65) rfl
theorem m_66 : (Jvm.Cond.instanceMethod ({ cls := "PictureCobol", name := "validKind", desc := "(I)Z" } : Jvm.MethodName)) ∈ tables_1 := List.mem_of_getElem? (i := 66) rfl
theorem m_67 : (Jvm.Cond.privateMethod ({ cls := "PictureCobol", name := "validKind", desc := "(I)Z" } : Jvm.MethodName)) ∈ tables_1 := List.mem_of_getElem? (i := 67) rfl
theorem m_68 : (Jvm.Cond.code ({ cls := "PictureCobol", name := "validKind", desc := "(I)Z" } : Jvm.MethodName) prog_1_method_20_code (2 : Nat) (Option.some Jvm.ClassFile.FieldType.boolean)) ∈ tables_1 := List.mem_of_getElem? (i := 68) rfl
theorem m_69 : (Jvm.Cond.methodLink "PictureCobolL2" (26 : Nat) ({ cls := "PictureCobol", name := "getStatementCount", desc := "()I" } : Jvm.MethodName)) ∈ tables_1 := List.mem_of_getElem? (i := 69) rfl
theorem m_70 : (Jvm.Cond.declares ({ cls := "PictureCobol", name := "getStatementCount", desc := "()I" } : Jvm.MethodName)) ∈ tables_1 := List.mem_of_getElem? (i := 70) rfl
theorem m_71 : (Jvm.Cond.instanceMethod ({ cls := "PictureCobol", name := "getStatementCount", desc := "()I" } : Jvm.MethodName)) ∈ tables_1 := List.mem_of_getElem? (i := 71) rfl
theorem m_72 : (Jvm.Cond.selects "PictureCobol" ({ cls := "PictureCobol", name := "getStatementCount", desc := "()I" } : Jvm.MethodName) ({ cls := "PictureCobol", name := "getStatementCount", desc := "()I" } : Jvm.MethodName)) ∈ tables_1 := List.mem_of_getElem? (i := 72) rfl
theorem m_73 : (Jvm.Cond.code ({ cls := "PictureCobol", name := "getStatementCount", desc := "()I" } : Jvm.MethodName) prog_1_method_15_code (1 : Nat) (Option.some Jvm.ClassFile.FieldType.int)) ∈ tables_1 := List.mem_of_getElem? (i := 73) rfl
theorem m_74 : (Jvm.Cond.methodLink "PictureCobolL2" (30 : Nat) ({ cls := "PictureCobol", name := "compile", desc := "()I" } : Jvm.MethodName)) ∈ tables_1 := List.mem_of_getElem? (i := 74) rfl
theorem m_75 : (Jvm.Cond.declares ({ cls := "PictureCobol", name := "compile", desc := "()I" } : Jvm.MethodName)) ∈ tables_1 := List.mem_of_getElem? (i := 75) rfl
theorem m_76 : (Jvm.Cond.instanceMethod ({ cls := "PictureCobol", name := "compile", desc := "()I" } : Jvm.MethodName)) ∈ tables_1 := List.mem_of_getElem? (i := 76) rfl
theorem m_77 : (Jvm.Cond.selects "PictureCobol" ({ cls := "PictureCobol", name := "compile", desc := "()I" } : Jvm.MethodName) ({ cls := "PictureCobol", name := "compile", desc := "()I" } : Jvm.MethodName)) ∈ tables_1 := List.mem_of_getElem? (i := 77) rfl
theorem m_78 : (Jvm.Cond.code ({ cls := "PictureCobol", name := "compile", desc := "()I" } : Jvm.MethodName) prog_1_method_6_code (3 : Nat) (Option.some Jvm.ClassFile.FieldType.int)) ∈ tables_1 := List.mem_of_getElem? (i := 78) rfl
theorem m_79 : (Jvm.Cond.methodLink "PictureCobolL2" (33 : Nat) ({ cls := "PictureCobol", name := "getPc", desc := "()I" } : Jvm.MethodName)) ∈ tables_1 := List.mem_of_getElem? (i := 79) rfl
theorem m_80 : (Jvm.Cond.declares ({ cls := "PictureCobol", name := "getPc", desc := "()I" } : Jvm.MethodName)) ∈ tables_1 := List.mem_of_getElem? (i := 80) rfl
theorem m_81 : (Jvm.Cond.instanceMethod ({ cls := "PictureCobol", name := "getPc", desc := "()I" } : Jvm.MethodName)) ∈ tables_1 := List.mem_of_getElem? (i := 81) rfl
theorem m_82 : (Jvm.Cond.selects "PictureCobol" ({ cls := "PictureCobol", name := "getPc", desc := "()I" } : Jvm.MethodName) ({ cls := "PictureCobol", name := "getPc", desc := "()I" } : Jvm.MethodName)) ∈ tables_1 := List.mem_of_getElem? (i := 82) rfl
theorem m_83 : (Jvm.Cond.code ({ cls := "PictureCobol", name := "getPc", desc := "()I" } : Jvm.MethodName) prog_1_method_10_code (1 : Nat) (Option.some Jvm.ClassFile.FieldType.int)) ∈ tables_1 := List.mem_of_getElem? (i := 83) rfl
theorem m_84 : (Jvm.Cond.methodLink "PictureCobolL2" (36 : Nat) ({ cls := "PictureCobol", name := "isHalted", desc := "()Z" } : Jvm.MethodName)) ∈ tables_1 := List.mem_of_getElem? (i := 84) rfl
theorem m_85 : (Jvm.Cond.declares ({ cls := "PictureCobol", name := "isHalted", desc := "()Z" } : Jvm.MethodName)) ∈ tables_1 := List.mem_of_getElem? (i := 85) rfl
theorem m_86 : (Jvm.Cond.instanceMethod ({ cls := "PictureCobol", name := "isHalted", desc := "()Z" } : Jvm.MethodName)) ∈ tables_1 := List.mem_of_getElem? (i := 86) rfl
theorem m_87 : (Jvm.Cond.selects "PictureCobol" ({ cls := "PictureCobol", name := "isHalted", desc := "()Z" } : Jvm.MethodName) ({ cls := "PictureCobol", name := "isHalted", desc := "()Z" } : Jvm.MethodName)) ∈ tables_1 := List.mem_of_getElem? (i := 87) rfl
theorem m_88 : (Jvm.Cond.code ({ cls := "PictureCobol", name := "isHalted", desc := "()Z" } : Jvm.MethodName) prog_1_method_11_code (1 : Nat) (Option.some Jvm.ClassFile.FieldType.boolean)) ∈ tables_1 := List.mem_of_getElem? (i := 88) rfl
theorem m_89 : (Jvm.Cond.methodLink "PictureCobolL2" (40 : Nat) ({ cls := "PictureCobol", name := "getExecuted", desc := "()I" } : Jvm.MethodName)) ∈ tables_1 := List.mem_of_getElem? (i := 89) rfl
theorem m_90 : (Jvm.Cond.declares ({ cls := "PictureCobol", name := "getExecuted", desc := "()I" } : Jvm.MethodName)) ∈ tables_1 := List.mem_of_getElem? (i := 90) rfl
theorem m_91 : (Jvm.Cond.instanceMethod ({ cls := "PictureCobol", name := "getExecuted", desc := "()I" } : Jvm.MethodName)) ∈ tables_1 := List.mem_of_getElem? (i := 91) rfl
theorem m_92 : (Jvm.Cond.selects "PictureCobol" ({ cls := "PictureCobol", name := "getExecuted", desc := "()I" } : Jvm.MethodName) ({ cls := "PictureCobol", name := "getExecuted", desc := "()I" } : Jvm.MethodName)) ∈ tables_1 := List.mem_of_getElem? (i := 92) rfl
theorem m_93 : (Jvm.Cond.code ({ cls := "PictureCobol", name := "getExecuted", desc := "()I" } : Jvm.MethodName) prog_1_method_13_code (1 : Nat) (Option.some Jvm.ClassFile.FieldType.int)) ∈ tables_1 := List.mem_of_getElem? (i := 93) rfl
theorem m_94 : (Jvm.Cond.methodLink "PictureCobol" (92 : Nat) ({ cls := "PictureCobol", name := "operandsOk", desc := "(III)Z" } : Jvm.MethodName)) ∈ tables_1 := List.mem_of_getElem? (i := 94) rfl
theorem m_95 : (Jvm.Cond.instanceMethod ({ cls := "PictureCobol", name := "operandsOk", desc := "(III)Z" } : Jvm.MethodName)) ∈ tables_1 := List.mem_of_getElem? (i := 95) rfl
theorem m_96 : (Jvm.Cond.privateMethod ({ cls := "PictureCobol", name := "operandsOk", desc := "(III)Z" } : Jvm.MethodName)) ∈ tables_1 := List.mem_of_getElem? (i := 96) rfl
theorem m_97 : (Jvm.Cond.code ({ cls := "PictureCobol", name := "operandsOk", desc := "(III)Z" } : Jvm.MethodName) prog_1_method_21_code (4 : Nat) (Option.some Jvm.ClassFile.FieldType.boolean)) ∈ tables_1 := List.mem_of_getElem? (i := 97) rfl
theorem m_98 : (Jvm.Cond.methodLink "PictureCobol" (77 : Nat) ({ cls := "PictureCobol", name := "isField", desc := "(I)Z" } : Jvm.MethodName)) ∈ tables_1 := List.mem_of_getElem? (i := 98) rfl
theorem m_99 : (Jvm.Cond.instanceMethod ({ cls := "PictureCobol", name := "isField", desc := "(I)Z" } : Jvm.MethodName)) ∈ tables_1 := List.mem_of_getElem? (i := 99) rfl
theorem m_100 : (Jvm.Cond.privateMethod ({ cls := "PictureCobol", name := "isField", desc := "(I)Z" } : Jvm.MethodName)) ∈ tables_1 := List.mem_of_getElem? (i := 100) rfl
theorem m_101 : (Jvm.Cond.code ({ cls := "PictureCobol", name := "isField", desc := "(I)Z" } : Jvm.MethodName) prog_1_method_17_code (2 : Nat) (Option.some Jvm.ClassFile.FieldType.boolean)) ∈ tables_1 := List.mem_of_getElem? (i := 101) rfl
theorem m_102 : (Jvm.Cond.methodLink "PictureCobolL2" (20 : Nat) ({ cls := "PictureCobolL2", name := "isField", desc := "(I)Z" } : Jvm.MethodName)) ∈ tables_1 := List.mem_of_getElem? (i := 102) rfl
theorem m_103 : (Jvm.Cond.static ({ cls := "PictureCobolL2", name := "isField", desc := "(I)Z" } : Jvm.MethodName)) ∈ tables_1 := List.mem_of_getElem? (i := 103) rfl
theorem m_104 : (Jvm.Cond.initialized "PictureCobolL2") ∈ tables_1 := List.mem_of_getElem? (i := 104) rfl
theorem m_105 : (Jvm.Cond.code ({ cls := "PictureCobolL2", name := "isField", desc := "(I)Z" } : Jvm.MethodName) method_2_code (1 : Nat) (Option.some Jvm.ClassFile.FieldType.boolean)) ∈ tables_1 := List.mem_of_getElem? (i := 105) rfl
theorem m_106 : (Jvm.Cond.methodLink "PictureCobol" (96 : Nat) ({ cls := "PictureCobol", name := "isArith", desc := "(I)Z" } : Jvm.MethodName)) ∈ tables_1 := List.mem_of_getElem? (i := 106) rfl
theorem m_107 : (Jvm.Cond.instanceMethod ({ cls := "PictureCobol", name := "isArith", desc := "(I)Z" } : Jvm.MethodName)) ∈ tables_1 := List.mem_of_getElem? (i := 107) rfl
theorem m_108 : (Jvm.Cond.privateMethod ({ cls := "PictureCobol", name := "isArith", desc := "(I)Z" } : Jvm.MethodName)) ∈ tables_1 := List.mem_of_getElem? (i := 108) rfl
theorem m_109 : (Jvm.Cond.code ({ cls := "PictureCobol", name := "isArith", desc := "(I)Z" } : Jvm.MethodName) prog_1_method_19_code (2 : Nat) (Option.some Jvm.ClassFile.FieldType.boolean)) ∈ tables_1 := List.mem_of_getElem? (i := 109) rfl
theorem m_110 : (Jvm.Cond.methodLink "PictureCobol" (99 : Nat) ({ cls := "PictureCobol", name := "isBad", desc := "(II)Z" } : Jvm.MethodName)) ∈ tables_1 := List.mem_of_getElem? (i := 110) rfl
theorem m_111 : (Jvm.Cond.instanceMethod ({ cls := "PictureCobol", name := "isBad", desc := "(II)Z" } : Jvm.MethodName)) ∈ tables_1 := List.mem_of_getElem? (i := 111) rfl
theorem m_112 : (Jvm.Cond.privateMethod ({ cls := "PictureCobol", name := "isBad", desc := "(II)Z" } : Jvm.MethodName)) ∈ tables_1 := List.mem_of_getElem? (i := 112) rfl
theorem m_113 : (Jvm.Cond.code ({ cls := "PictureCobol", name := "isBad", desc := "(II)Z" } : Jvm.MethodName) prog_1_method_23_code (4 : Nat) (Option.some Jvm.ClassFile.FieldType.boolean)) ∈ tables_1 := List.mem_of_getElem? (i := 113) rfl
theorem m_114 : (Jvm.Cond.methodLink "PictureCobol" (107 : Nat) ({ cls := "PictureCobol", name := "inTargets", desc := "(II)Z" } : Jvm.MethodName)) ∈ tables_1 := List.mem_of_getElem? (i := 114) rfl
theorem m_115 : (Jvm.Cond.instanceMethod ({ cls := "PictureCobol", name := "inTargets", desc := "(II)Z" } : Jvm.MethodName)) ∈ tables_1 := List.mem_of_getElem? (i := 115) rfl
theorem m_116 : (Jvm.Cond.privateMethod ({ cls := "PictureCobol", name := "inTargets", desc := "(II)Z" } : Jvm.MethodName)) ∈ tables_1 := List.mem_of_getElem? (i := 116) rfl
theorem m_117 : (Jvm.Cond.code ({ cls := "PictureCobol", name := "inTargets", desc := "(II)Z" } : Jvm.MethodName) prog_1_method_22_code (3 : Nat) (Option.some Jvm.ClassFile.FieldType.boolean)) ∈ tables_1 := List.mem_of_getElem? (i := 117) rfl
theorem laid0 {Z : State} {a0 : Array Value} (hw : HW a0 Z) : LaidAll Z a0 CN lay vs0 :=
  ⟨⟨Or.inl (hw _ m_38), .int, by decide, rfl⟩, ⟨Or.inl (hw _ m_40), .int, by decide, rfl⟩, ⟨Or.inl (hw _ m_42), .int, by decide, rfl⟩, ⟨Or.inl (hw _ m_11), .array .int, by decide, rfl⟩, ⟨Or.inl (hw _ m_13), .array .int, by decide, rfl⟩, ⟨Or.inl (hw _ m_15), .array .int, by decide, rfl⟩, ⟨Or.inl (hw _ m_18), .array .boolean, by decide, rfl⟩, ⟨Or.inl (hw _ m_44), .int, by decide, rfl⟩, ⟨Or.inl (hw _ m_20), .array .int, by decide, rfl⟩, ⟨Or.inl (hw _ m_22), .array .boolean, by decide, rfl⟩, ⟨Or.inl (hw _ m_24), .array .int, by decide, rfl⟩, ⟨Or.inl (hw _ m_26), .array .int, by decide, rfl⟩, ⟨Or.inl (hw _ m_28), .array .int, by decide, rfl⟩, ⟨Or.inl (hw _ m_30), .array .boolean, by decide, rfl⟩, ⟨Or.inl (hw _ m_32), .array .int, by decide, rfl⟩, ⟨Or.inl (hw _ m_46), .boolean, by decide, rfl⟩, ⟨Or.inl (hw _ m_48), .boolean, by decide, rfl⟩, ⟨Or.inl (hw _ m_50), .int, by decide, rfl⟩, ⟨Or.inl (hw _ m_52), .int, by decide, rfl⟩, ⟨Or.inl (hw _ m_54), .int, by decide, rfl⟩, trivial⟩
theorem hlay {Z : State} {a0 : Array Value} (hw : HW a0 Z) : ∀ (a b : Nat) (f g : String × String), lay[a]? = some f → lay[b]? = some g → a ≠ b → RoadKit.slotOf Z CN f.1 f.2 ≠ RoadKit.slotOf Z CN g.1 g.2 := (laid0 hw).ne (by decide)
theorem vs0_ok {Z : State} {a0 : Array Value} (hw : HW a0 Z) : ∀ (i : Nat) (f : String × String) (v : Value), lay[i]? = some f → vs0[i]? = some v → Laid Z a0 CN CN f.1 f.2 ∧ ∃ ty, parseFieldDescriptor f.2 = some ty ∧ v = defaultValue ty := (laid0 hw).new
theorem pn_cls : plainName CN = true := by first | (simp [plainName, overriddenIn]; done) | decide +kernel
theorem pn_law : plainName "PictureCobolL2" = true := by first | (simp [plainName, overriddenIn]; done) | decide +kernel
theorem d1_0 : dc prog_1_method_16_code 0 (.iload_n 1) 1 := by decide +kernel
theorem d1_1 : dc prog_1_method_16_code 1 (.iload_n 2) 1 := by decide +kernel
theorem d1_2 : dc prog_1_method_16_code 2 (.if_icmp .ge 5) 3 := by decide +kernel
theorem d1_5 : dc prog_1_method_16_code 5 (.iload_n 2) 1 := by decide +kernel
theorem d1_6 : dc prog_1_method_16_code 6 (.ireturn) 1 := by decide +kernel
theorem d1_7 : dc prog_1_method_16_code 7 (.iload_n 1) 1 := by decide +kernel
theorem d1_8 : dc prog_1_method_16_code 8 (.iload_n 3) 1 := by decide +kernel
theorem d1_9 : dc prog_1_method_16_code 9 (.if_icmp .le 5) 3 := by decide +kernel
theorem d1_12 : dc prog_1_method_16_code 12 (.iload_n 3) 1 := by decide +kernel
theorem d1_13 : dc prog_1_method_16_code 13 (.ireturn) 1 := by decide +kernel
theorem d1_14 : dc prog_1_method_16_code 14 (.iload_n 1) 1 := by decide +kernel
theorem d1_15 : dc prog_1_method_16_code 15 (.ireturn) 1 := by decide +kernel
abbrev y1 : MethodName := ⟨"PictureCobol", "clamp", "(III)I"⟩
theorem hy1 : y1.cls ≠ "java/lang/invoke/MethodHandle" ∧ y1.cls ≠ "java/lang/invoke/VarHandle" := by decide
theorem pd1 : parseMethodDescriptor y1.desc = some ⟨[.int, .int, .int], some .int⟩ := by decide +kernel
abbrev R1 : Room := { frames := 0, cells := 0, slots := 0, locals := 0 }
abbrev P1 (s : St) (r : Int32) : Option Value → List OwnC → Prop := fun v H' => v = some (.int r) ∧ H' = (Hb 0 s)
abbrev W1 (l : Launch) (Z : State) (n0 : Nat) (Q : Option Value → List OwnC → Prop) (k n pc : Nat) (L : List Slot) (S : List Value) (H : List OwnC) : Prop := WP l Z CN lay "PictureCobol" "clamp" prog_1_method_16_code 4 (some FieldType.int) R1 n0 0 Q k n pc L S H
def f_clamp (p1 : Int32) (p2 : Int32) (p3 : Int32) (s : St) : Option (Int32) :=
  if p1 < p2 then
    some p2
  else
    if p3 < p1 then
      some p3
    else
      some p1
set_option maxRecDepth 65536 in
set_option maxHeartbeats 4000000 in
theorem ok1 (l : Launch) (Z : State) (a0 : Array Value) (hw : HW a0 Z) (p1 : Int32) (p2 : Int32) (p3 : Int32) (s : St) (r : Int32) (h : f_clamp p1 p2 p3 s = some r) : CS l Z CN lay y1 prog_1_method_16_code 4 (some FieldType.int) R1 0 [.ref 0, .int p1, .int p2, .int p3] (Hb 0 s) (P1 s r) := by
  refine CS.of_wp pn_cls (leb rfl) fun n0 => ?_
  show W1 l Z n0 (P1 s r) 0 0 0 [.val (.ref 0), .val (.int p1), .val (.int p2), .val (.int p3)] [] (Hb 0 s)
  unfold f_clamp at h
  refine WP.iloadN d1_0 rfl ?_
  refine WP.iloadN d1_1 rfl ?_
  rcases ite_e h with ⟨hc1, h⟩ | ⟨hc1, h⟩
  ·
    refine WP.icmpN d1_2 (XT.ii_ge_f hc1) ?_
    refine WP.iloadN d1_5 rfl ?_
    cases h
    exact WP.ireturn d1_6 rfl (leb rfl) (leb rfl) ⟨rfl, rfl⟩
  ·
    refine WP.icmpY (pc' := 7) d1_2 (XT.ii_ge_t hc1) (by decide) rfl ?_
    refine WP.iloadN d1_7 rfl ?_
    refine WP.iloadN d1_8 rfl ?_
    rcases ite_e h with ⟨hc2, h⟩ | ⟨hc2, h⟩
    ·
      refine WP.icmpN d1_9 (XT.ii_le_f hc2) ?_
      refine WP.iloadN d1_12 rfl ?_
      cases h
      exact WP.ireturn d1_13 rfl (leb rfl) (leb rfl) ⟨rfl, rfl⟩
    ·
      refine WP.icmpY (pc' := 14) d1_9 (XT.ii_le_t hc2) (by decide) rfl ?_
      refine WP.iloadN d1_14 rfl ?_
      cases h
      exact WP.ireturn d1_15 rfl (leb rfl) (leb rfl) ⟨rfl, rfl⟩
theorem d0_0 : dc prog_1_method_1_code 0 (.aload_n 0) 1 := by decide +kernel
theorem d0_1 : dc prog_1_method_1_code 1 (.invokespecial 1) 3 := by decide +kernel
theorem d0_4 : dc prog_1_method_1_code 4 (.aload_n 0) 1 := by decide +kernel
theorem d0_5 : dc prog_1_method_1_code 5 (.bipush 8) 2 := by decide +kernel
theorem d0_7 : dc prog_1_method_1_code 7 (.newarray .int) 2 := by decide +kernel
theorem d0_9 : dc prog_1_method_1_code 9 (.putfield 7) 3 := by decide +kernel
theorem d0_12 : dc prog_1_method_1_code 12 (.aload_n 0) 1 := by decide +kernel
theorem d0_13 : dc prog_1_method_1_code 13 (.bipush 8) 2 := by decide +kernel
theorem d0_15 : dc prog_1_method_1_code 15 (.newarray .int) 2 := by decide +kernel
theorem d0_17 : dc prog_1_method_1_code 17 (.putfield 13) 3 := by decide +kernel
theorem d0_20 : dc prog_1_method_1_code 20 (.aload_n 0) 1 := by decide +kernel
theorem d0_21 : dc prog_1_method_1_code 21 (.bipush 8) 2 := by decide +kernel
theorem d0_23 : dc prog_1_method_1_code 23 (.newarray .int) 2 := by decide +kernel
theorem d0_25 : dc prog_1_method_1_code 25 (.putfield 16) 3 := by decide +kernel
theorem d0_28 : dc prog_1_method_1_code 28 (.aload_n 0) 1 := by decide +kernel
theorem d0_29 : dc prog_1_method_1_code 29 (.bipush 8) 2 := by decide +kernel
theorem d0_31 : dc prog_1_method_1_code 31 (.newarray .boolean) 2 := by decide +kernel
theorem d0_33 : dc prog_1_method_1_code 33 (.putfield 19) 3 := by decide +kernel
theorem d0_36 : dc prog_1_method_1_code 36 (.aload_n 0) 1 := by decide +kernel
theorem d0_37 : dc prog_1_method_1_code 37 (.bipush 32) 2 := by decide +kernel
theorem d0_39 : dc prog_1_method_1_code 39 (.newarray .int) 2 := by decide +kernel
theorem d0_41 : dc prog_1_method_1_code 41 (.putfield 23) 3 := by decide +kernel
theorem d0_44 : dc prog_1_method_1_code 44 (.aload_n 0) 1 := by decide +kernel
theorem d0_45 : dc prog_1_method_1_code 45 (.bipush 32) 2 := by decide +kernel
theorem d0_47 : dc prog_1_method_1_code 47 (.newarray .boolean) 2 := by decide +kernel
theorem d0_49 : dc prog_1_method_1_code 49 (.putfield 26) 3 := by decide +kernel
theorem d0_52 : dc prog_1_method_1_code 52 (.aload_n 0) 1 := by decide +kernel
theorem d0_53 : dc prog_1_method_1_code 53 (.bipush 32) 2 := by decide +kernel
theorem d0_55 : dc prog_1_method_1_code 55 (.newarray .int) 2 := by decide +kernel
theorem d0_57 : dc prog_1_method_1_code 57 (.putfield 29) 3 := by decide +kernel
theorem d0_60 : dc prog_1_method_1_code 60 (.aload_n 0) 1 := by decide +kernel
theorem d0_61 : dc prog_1_method_1_code 61 (.bipush 32) 2 := by decide +kernel
theorem d0_63 : dc prog_1_method_1_code 63 (.newarray .int) 2 := by decide +kernel
theorem d0_65 : dc prog_1_method_1_code 65 (.putfield 32) 3 := by decide +kernel
theorem d0_68 : dc prog_1_method_1_code 68 (.aload_n 0) 1 := by decide +kernel
theorem d0_69 : dc prog_1_method_1_code 69 (.bipush 32) 2 := by decide +kernel
theorem d0_71 : dc prog_1_method_1_code 71 (.newarray .int) 2 := by decide +kernel
theorem d0_73 : dc prog_1_method_1_code 73 (.putfield 35) 3 := by decide +kernel
theorem d0_76 : dc prog_1_method_1_code 76 (.aload_n 0) 1 := by decide +kernel
theorem d0_77 : dc prog_1_method_1_code 77 (.bipush 32) 2 := by decide +kernel
theorem d0_79 : dc prog_1_method_1_code 79 (.newarray .boolean) 2 := by decide +kernel
theorem d0_81 : dc prog_1_method_1_code 81 (.putfield 38) 3 := by decide +kernel
theorem d0_84 : dc prog_1_method_1_code 84 (.aload_n 0) 1 := by decide +kernel
theorem d0_85 : dc prog_1_method_1_code 85 (.bipush 32) 2 := by decide +kernel
theorem d0_87 : dc prog_1_method_1_code 87 (.newarray .int) 2 := by decide +kernel
theorem d0_89 : dc prog_1_method_1_code 89 (.putfield 41) 3 := by decide +kernel
theorem d0_92 : dc prog_1_method_1_code 92 (.aload_n 0) 1 := by decide +kernel
theorem d0_93 : dc prog_1_method_1_code 93 (.aload_n 0) 1 := by decide +kernel
theorem d0_94 : dc prog_1_method_1_code 94 (.iload_n 1) 1 := by decide +kernel
theorem d0_95 : dc prog_1_method_1_code 95 (.iconst 1) 1 := by decide +kernel
theorem d0_96 : dc prog_1_method_1_code 96 (.bipush 8) 2 := by decide +kernel
theorem d0_98 : dc prog_1_method_1_code 98 (.invokevirtual 44) 3 := by decide +kernel
theorem d0_101 : dc prog_1_method_1_code 101 (.putfield 48) 3 := by decide +kernel
theorem d0_104 : dc prog_1_method_1_code 104 (.aload_n 0) 1 := by decide +kernel
theorem d0_105 : dc prog_1_method_1_code 105 (.aload_n 0) 1 := by decide +kernel
theorem d0_106 : dc prog_1_method_1_code 106 (.iload_n 2) 1 := by decide +kernel
theorem d0_107 : dc prog_1_method_1_code 107 (.iconst 1) 1 := by decide +kernel
theorem d0_108 : dc prog_1_method_1_code 108 (.bipush 32) 2 := by decide +kernel
theorem d0_110 : dc prog_1_method_1_code 110 (.invokevirtual 44) 3 := by decide +kernel
theorem d0_113 : dc prog_1_method_1_code 113 (.putfield 52) 3 := by decide +kernel
theorem d0_116 : dc prog_1_method_1_code 116 (.aload_n 0) 1 := by decide +kernel
theorem d0_117 : dc prog_1_method_1_code 117 (.iconst 0) 1 := by decide +kernel
theorem d0_118 : dc prog_1_method_1_code 118 (.putfield 55) 3 := by decide +kernel
theorem d0_121 : dc prog_1_method_1_code 121 (.aload_n 0) 1 := by decide +kernel
theorem d0_122 : dc prog_1_method_1_code 122 (.iconst 0) 1 := by decide +kernel
theorem d0_123 : dc prog_1_method_1_code 123 (.putfield 58) 3 := by decide +kernel
theorem d0_126 : dc prog_1_method_1_code 126 (.aload_n 0) 1 := by decide +kernel
theorem d0_127 : dc prog_1_method_1_code 127 (.iconst 0) 1 := by decide +kernel
theorem d0_128 : dc prog_1_method_1_code 128 (.putfield 61) 3 := by decide +kernel
theorem d0_131 : dc prog_1_method_1_code 131 (.aload_n 0) 1 := by decide +kernel
theorem d0_132 : dc prog_1_method_1_code 132 (.iconst 0) 1 := by decide +kernel
theorem d0_133 : dc prog_1_method_1_code 133 (.putfield 65) 3 := by decide +kernel
theorem d0_136 : dc prog_1_method_1_code 136 (.aload_n 0) 1 := by decide +kernel
theorem d0_137 : dc prog_1_method_1_code 137 (.iconst 0) 1 := by decide +kernel
theorem d0_138 : dc prog_1_method_1_code 138 (.putfield 68) 3 := by decide +kernel
theorem d0_141 : dc prog_1_method_1_code 141 (.aload_n 0) 1 := by decide +kernel
theorem d0_142 : dc prog_1_method_1_code 142 (.iconst 0) 1 := by decide +kernel
theorem d0_143 : dc prog_1_method_1_code 143 (.putfield 71) 3 := by decide +kernel
theorem d0_146 : dc prog_1_method_1_code 146 (.aload_n 0) 1 := by decide +kernel
theorem d0_147 : dc prog_1_method_1_code 147 (.iconst 0) 1 := by decide +kernel
theorem d0_148 : dc prog_1_method_1_code 148 (.putfield 74) 3 := by decide +kernel
theorem d0_151 : dc prog_1_method_1_code 151 (.return_) 1 := by decide +kernel
abbrev y0 : MethodName := ⟨"PictureCobol", "<init>", "(II)V"⟩
theorem hy0 : y0.cls ≠ "java/lang/invoke/MethodHandle" ∧ y0.cls ≠ "java/lang/invoke/VarHandle" := by decide
theorem pd0 : parseMethodDescriptor y0.desc = some ⟨[.int, .int], none⟩ := by decide +kernel
abbrev R0 : Room := { frames := 1, cells := 11, slots := 256, locals := 16 }
abbrev P0 (r : St) : Option Value → List OwnC → Prop := fun v H' => v = none ∧ H' = (Hb 0 r)
abbrev W0 (l : Launch) (Z : State) (n0 : Nat) (Q : Option Value → List OwnC → Prop) (k n pc : Nat) (L : List Slot) (S : List Value) (H : List OwnC) : Prop := WP l Z CN lay "PictureCobol" "<init>" prog_1_method_1_code 3 (none) R0 n0 0 Q k n pc L S H
def f_init (p1 : Int32) (p2 : Int32) : Option (St) :=
  lt (st0) fun s1 =>
  (f_clamp p1 (1 : Int32) (8 : Int32) s1).bind fun c2 =>
  lt (sI s1 0 c2) fun s3 =>
  (f_clamp p2 (1 : Int32) (32 : Int32) s3).bind fun c4 =>
  lt (sI s3 1 c4) fun s5 =>
  lt (sI s5 2 (0 : Int32)) fun s6 =>
  lt (sI s6 3 (0 : Int32)) fun s7 =>
  lt (sI s7 4 (0 : Int32)) fun s8 =>
  lt (sI s8 5 (0 : Int32)) fun s9 =>
  lt (sI s9 6 (0 : Int32)) fun s10 =>
  lt (sI s10 7 (0 : Int32)) fun s11 =>
  lt (sI s11 8 (0 : Int32)) fun s12 =>
  some s12
set_option maxRecDepth 65536 in
set_option maxHeartbeats 4000000 in
theorem ok0 (l : Launch) (Z : State) (a0 : Array Value) (hw : HW a0 Z) (p1 : Int32) (p2 : Int32) (r : St) (h : f_init p1 p2 = some r) : CS l Z CN lay y0 prog_1_method_1_code 3 (none) R0 0 [.ref 0, .int p1, .int p2] [cO vs0] (P0 r) := by
  refine CS.of_wp pn_cls (leb rfl) fun n0 => ?_
  show W0 l Z n0 (P0 r) 0 0 0 [.val (.ref 0), .val (.int p1), .val (.int p2)] [] [cO vs0]
  unfold f_init at h
  refine WP.aloadN d0_0 rfl ?_
  refine WP.initO d0_1 (hw _ m_6) (hw _ m_7) (hw _ m_8) (leb rfl) (leb rfl) ?_
  refine WP.aloadN d0_4 rfl ?_
  refine WP.bipush (8 : Int32) d0_5 rfl ?_
  refine WP.newarray d0_7 (hw _ m_9) (by decide) (leb rfl) (leb rfl) (leb rfl) (Or.inl ⟨rfl, rfl⟩) ?_
  show W0 l Z n0 (P0 r) 1 8 9 [.val (.ref 0), .val (.int p1), .val (.int p2)] [.ref 1, .ref 0] ([cO [.int (0 : Int32), .int (0 : Int32), .int (0 : Int32), .null, .null, .null, .null, .int (0 : Int32), .null, .null, .null, .null, .null, .null, .null, .int (0 : Int32), .int (0 : Int32), .int (0 : Int32), .int (0 : Int32), .int (0 : Int32)], cI (List.replicate 8 0)] : List OwnC)
  refine WP.putR (ty := .array .int) (i := 0) (j := 3) (H' := ([cO [.int (0 : Int32), .int (0 : Int32), .int (0 : Int32), .ref 1, .null, .null, .null, .int (0 : Int32), .null, .null, .null, .null, .null, .null, .null, .int (0 : Int32), .int (0 : Int32), .int (0 : Int32), .int (0 : Int32), .int (0 : Int32)], cI (List.replicate 8 0)] : List OwnC)) d0_9 (hw _ m_10) (Or.inl (hw _ m_11)) (hw _ m_1) (hlay hw) (by decide) (fun _ => rfl) (fun _ => rfl) rfl rfl rfl (leb rfl) rfl ?_
  refine WP.aloadN d0_12 rfl ?_
  refine WP.bipush (8 : Int32) d0_13 rfl ?_
  refine WP.newarray d0_15 (hw _ m_9) (by decide) (leb rfl) (leb rfl) (leb rfl) (Or.inl ⟨rfl, rfl⟩) ?_
  show W0 l Z n0 (P0 r) 2 16 17 [.val (.ref 0), .val (.int p1), .val (.int p2)] [.ref 2, .ref 0] ([cO [.int (0 : Int32), .int (0 : Int32), .int (0 : Int32), .ref 1, .null, .null, .null, .int (0 : Int32), .null, .null, .null, .null, .null, .null, .null, .int (0 : Int32), .int (0 : Int32), .int (0 : Int32), .int (0 : Int32), .int (0 : Int32)], cI (List.replicate 8 0), cI (List.replicate 8 0)] : List OwnC)
  refine WP.putR (ty := .array .int) (i := 0) (j := 4) (H' := ([cO [.int (0 : Int32), .int (0 : Int32), .int (0 : Int32), .ref 1, .ref 2, .null, .null, .int (0 : Int32), .null, .null, .null, .null, .null, .null, .null, .int (0 : Int32), .int (0 : Int32), .int (0 : Int32), .int (0 : Int32), .int (0 : Int32)], cI (List.replicate 8 0), cI (List.replicate 8 0)] : List OwnC)) d0_17 (hw _ m_12) (Or.inl (hw _ m_13)) (hw _ m_1) (hlay hw) (by decide) (fun _ => rfl) (fun _ => rfl) rfl rfl rfl (leb rfl) rfl ?_
  refine WP.aloadN d0_20 rfl ?_
  refine WP.bipush (8 : Int32) d0_21 rfl ?_
  refine WP.newarray d0_23 (hw _ m_9) (by decide) (leb rfl) (leb rfl) (leb rfl) (Or.inl ⟨rfl, rfl⟩) ?_
  show W0 l Z n0 (P0 r) 3 24 25 [.val (.ref 0), .val (.int p1), .val (.int p2)] [.ref 3, .ref 0] ([cO [.int (0 : Int32), .int (0 : Int32), .int (0 : Int32), .ref 1, .ref 2, .null, .null, .int (0 : Int32), .null, .null, .null, .null, .null, .null, .null, .int (0 : Int32), .int (0 : Int32), .int (0 : Int32), .int (0 : Int32), .int (0 : Int32)], cI (List.replicate 8 0), cI (List.replicate 8 0), cI (List.replicate 8 0)] : List OwnC)
  refine WP.putR (ty := .array .int) (i := 0) (j := 5) (H' := ([cO [.int (0 : Int32), .int (0 : Int32), .int (0 : Int32), .ref 1, .ref 2, .ref 3, .null, .int (0 : Int32), .null, .null, .null, .null, .null, .null, .null, .int (0 : Int32), .int (0 : Int32), .int (0 : Int32), .int (0 : Int32), .int (0 : Int32)], cI (List.replicate 8 0), cI (List.replicate 8 0), cI (List.replicate 8 0)] : List OwnC)) d0_25 (hw _ m_14) (Or.inl (hw _ m_15)) (hw _ m_1) (hlay hw) (by decide) (fun _ => rfl) (fun _ => rfl) rfl rfl rfl (leb rfl) rfl ?_
  refine WP.aloadN d0_28 rfl ?_
  refine WP.bipush (8 : Int32) d0_29 rfl ?_
  refine WP.newarray d0_31 (hw _ m_16) (by decide) (leb rfl) (leb rfl) (leb rfl) (Or.inr (Or.inr ⟨rfl, rfl⟩)) ?_
  show W0 l Z n0 (P0 r) 4 32 33 [.val (.ref 0), .val (.int p1), .val (.int p2)] [.ref 4, .ref 0] ([cO [.int (0 : Int32), .int (0 : Int32), .int (0 : Int32), .ref 1, .ref 2, .ref 3, .null, .int (0 : Int32), .null, .null, .null, .null, .null, .null, .null, .int (0 : Int32), .int (0 : Int32), .int (0 : Int32), .int (0 : Int32), .int (0 : Int32)], cI (List.replicate 8 0), cI (List.replicate 8 0), cI (List.replicate 8 0), cZ (List.replicate 8 0)] : List OwnC)
  refine WP.putR (ty := .array .boolean) (i := 0) (j := 6) (H' := ([cO [.int (0 : Int32), .int (0 : Int32), .int (0 : Int32), .ref 1, .ref 2, .ref 3, .ref 4, .int (0 : Int32), .null, .null, .null, .null, .null, .null, .null, .int (0 : Int32), .int (0 : Int32), .int (0 : Int32), .int (0 : Int32), .int (0 : Int32)], cI (List.replicate 8 0), cI (List.replicate 8 0), cI (List.replicate 8 0), cZ (List.replicate 8 0)] : List OwnC)) d0_33 (hw _ m_17) (Or.inl (hw _ m_18)) (hw _ m_1) (hlay hw) (by decide) (fun _ => rfl) (fun _ => rfl) rfl rfl rfl (leb rfl) rfl ?_
  refine WP.aloadN d0_36 rfl ?_
  refine WP.bipush (32 : Int32) d0_37 rfl ?_
  refine WP.newarray d0_39 (hw _ m_9) (by decide) (leb rfl) (leb rfl) (leb rfl) (Or.inl ⟨rfl, rfl⟩) ?_
  show W0 l Z n0 (P0 r) 5 64 41 [.val (.ref 0), .val (.int p1), .val (.int p2)] [.ref 5, .ref 0] ([cO [.int (0 : Int32), .int (0 : Int32), .int (0 : Int32), .ref 1, .ref 2, .ref 3, .ref 4, .int (0 : Int32), .null, .null, .null, .null, .null, .null, .null, .int (0 : Int32), .int (0 : Int32), .int (0 : Int32), .int (0 : Int32), .int (0 : Int32)], cI (List.replicate 8 0), cI (List.replicate 8 0), cI (List.replicate 8 0), cZ (List.replicate 8 0), cI (List.replicate 32 0)] : List OwnC)
  refine WP.putR (ty := .array .int) (i := 0) (j := 8) (H' := ([cO [.int (0 : Int32), .int (0 : Int32), .int (0 : Int32), .ref 1, .ref 2, .ref 3, .ref 4, .int (0 : Int32), .ref 5, .null, .null, .null, .null, .null, .null, .int (0 : Int32), .int (0 : Int32), .int (0 : Int32), .int (0 : Int32), .int (0 : Int32)], cI (List.replicate 8 0), cI (List.replicate 8 0), cI (List.replicate 8 0), cZ (List.replicate 8 0), cI (List.replicate 32 0)] : List OwnC)) d0_41 (hw _ m_19) (Or.inl (hw _ m_20)) (hw _ m_1) (hlay hw) (by decide) (fun _ => rfl) (fun _ => rfl) rfl rfl rfl (leb rfl) rfl ?_
  refine WP.aloadN d0_44 rfl ?_
  refine WP.bipush (32 : Int32) d0_45 rfl ?_
  refine WP.newarray d0_47 (hw _ m_16) (by decide) (leb rfl) (leb rfl) (leb rfl) (Or.inr (Or.inr ⟨rfl, rfl⟩)) ?_
  show W0 l Z n0 (P0 r) 6 96 49 [.val (.ref 0), .val (.int p1), .val (.int p2)] [.ref 6, .ref 0] ([cO [.int (0 : Int32), .int (0 : Int32), .int (0 : Int32), .ref 1, .ref 2, .ref 3, .ref 4, .int (0 : Int32), .ref 5, .null, .null, .null, .null, .null, .null, .int (0 : Int32), .int (0 : Int32), .int (0 : Int32), .int (0 : Int32), .int (0 : Int32)], cI (List.replicate 8 0), cI (List.replicate 8 0), cI (List.replicate 8 0), cZ (List.replicate 8 0), cI (List.replicate 32 0), cZ (List.replicate 32 0)] : List OwnC)
  refine WP.putR (ty := .array .boolean) (i := 0) (j := 9) (H' := ([cO [.int (0 : Int32), .int (0 : Int32), .int (0 : Int32), .ref 1, .ref 2, .ref 3, .ref 4, .int (0 : Int32), .ref 5, .ref 6, .null, .null, .null, .null, .null, .int (0 : Int32), .int (0 : Int32), .int (0 : Int32), .int (0 : Int32), .int (0 : Int32)], cI (List.replicate 8 0), cI (List.replicate 8 0), cI (List.replicate 8 0), cZ (List.replicate 8 0), cI (List.replicate 32 0), cZ (List.replicate 32 0)] : List OwnC)) d0_49 (hw _ m_21) (Or.inl (hw _ m_22)) (hw _ m_1) (hlay hw) (by decide) (fun _ => rfl) (fun _ => rfl) rfl rfl rfl (leb rfl) rfl ?_
  refine WP.aloadN d0_52 rfl ?_
  refine WP.bipush (32 : Int32) d0_53 rfl ?_
  refine WP.newarray d0_55 (hw _ m_9) (by decide) (leb rfl) (leb rfl) (leb rfl) (Or.inl ⟨rfl, rfl⟩) ?_
  show W0 l Z n0 (P0 r) 7 128 57 [.val (.ref 0), .val (.int p1), .val (.int p2)] [.ref 7, .ref 0] ([cO [.int (0 : Int32), .int (0 : Int32), .int (0 : Int32), .ref 1, .ref 2, .ref 3, .ref 4, .int (0 : Int32), .ref 5, .ref 6, .null, .null, .null, .null, .null, .int (0 : Int32), .int (0 : Int32), .int (0 : Int32), .int (0 : Int32), .int (0 : Int32)], cI (List.replicate 8 0), cI (List.replicate 8 0), cI (List.replicate 8 0), cZ (List.replicate 8 0), cI (List.replicate 32 0), cZ (List.replicate 32 0), cI (List.replicate 32 0)] : List OwnC)
  refine WP.putR (ty := .array .int) (i := 0) (j := 10) (H' := ([cO [.int (0 : Int32), .int (0 : Int32), .int (0 : Int32), .ref 1, .ref 2, .ref 3, .ref 4, .int (0 : Int32), .ref 5, .ref 6, .ref 7, .null, .null, .null, .null, .int (0 : Int32), .int (0 : Int32), .int (0 : Int32), .int (0 : Int32), .int (0 : Int32)], cI (List.replicate 8 0), cI (List.replicate 8 0), cI (List.replicate 8 0), cZ (List.replicate 8 0), cI (List.replicate 32 0), cZ (List.replicate 32 0), cI (List.replicate 32 0)] : List OwnC)) d0_57 (hw _ m_23) (Or.inl (hw _ m_24)) (hw _ m_1) (hlay hw) (by decide) (fun _ => rfl) (fun _ => rfl) rfl rfl rfl (leb rfl) rfl ?_
  refine WP.aloadN d0_60 rfl ?_
  refine WP.bipush (32 : Int32) d0_61 rfl ?_
  refine WP.newarray d0_63 (hw _ m_9) (by decide) (leb rfl) (leb rfl) (leb rfl) (Or.inl ⟨rfl, rfl⟩) ?_
  show W0 l Z n0 (P0 r) 8 160 65 [.val (.ref 0), .val (.int p1), .val (.int p2)] [.ref 8, .ref 0] ([cO [.int (0 : Int32), .int (0 : Int32), .int (0 : Int32), .ref 1, .ref 2, .ref 3, .ref 4, .int (0 : Int32), .ref 5, .ref 6, .ref 7, .null, .null, .null, .null, .int (0 : Int32), .int (0 : Int32), .int (0 : Int32), .int (0 : Int32), .int (0 : Int32)], cI (List.replicate 8 0), cI (List.replicate 8 0), cI (List.replicate 8 0), cZ (List.replicate 8 0), cI (List.replicate 32 0), cZ (List.replicate 32 0), cI (List.replicate 32 0), cI (List.replicate 32 0)] : List OwnC)
  refine WP.putR (ty := .array .int) (i := 0) (j := 11) (H' := ([cO [.int (0 : Int32), .int (0 : Int32), .int (0 : Int32), .ref 1, .ref 2, .ref 3, .ref 4, .int (0 : Int32), .ref 5, .ref 6, .ref 7, .ref 8, .null, .null, .null, .int (0 : Int32), .int (0 : Int32), .int (0 : Int32), .int (0 : Int32), .int (0 : Int32)], cI (List.replicate 8 0), cI (List.replicate 8 0), cI (List.replicate 8 0), cZ (List.replicate 8 0), cI (List.replicate 32 0), cZ (List.replicate 32 0), cI (List.replicate 32 0), cI (List.replicate 32 0)] : List OwnC)) d0_65 (hw _ m_25) (Or.inl (hw _ m_26)) (hw _ m_1) (hlay hw) (by decide) (fun _ => rfl) (fun _ => rfl) rfl rfl rfl (leb rfl) rfl ?_
  refine WP.aloadN d0_68 rfl ?_
  refine WP.bipush (32 : Int32) d0_69 rfl ?_
  refine WP.newarray d0_71 (hw _ m_9) (by decide) (leb rfl) (leb rfl) (leb rfl) (Or.inl ⟨rfl, rfl⟩) ?_
  show W0 l Z n0 (P0 r) 9 192 73 [.val (.ref 0), .val (.int p1), .val (.int p2)] [.ref 9, .ref 0] ([cO [.int (0 : Int32), .int (0 : Int32), .int (0 : Int32), .ref 1, .ref 2, .ref 3, .ref 4, .int (0 : Int32), .ref 5, .ref 6, .ref 7, .ref 8, .null, .null, .null, .int (0 : Int32), .int (0 : Int32), .int (0 : Int32), .int (0 : Int32), .int (0 : Int32)], cI (List.replicate 8 0), cI (List.replicate 8 0), cI (List.replicate 8 0), cZ (List.replicate 8 0), cI (List.replicate 32 0), cZ (List.replicate 32 0), cI (List.replicate 32 0), cI (List.replicate 32 0), cI (List.replicate 32 0)] : List OwnC)
  refine WP.putR (ty := .array .int) (i := 0) (j := 12) (H' := ([cO [.int (0 : Int32), .int (0 : Int32), .int (0 : Int32), .ref 1, .ref 2, .ref 3, .ref 4, .int (0 : Int32), .ref 5, .ref 6, .ref 7, .ref 8, .ref 9, .null, .null, .int (0 : Int32), .int (0 : Int32), .int (0 : Int32), .int (0 : Int32), .int (0 : Int32)], cI (List.replicate 8 0), cI (List.replicate 8 0), cI (List.replicate 8 0), cZ (List.replicate 8 0), cI (List.replicate 32 0), cZ (List.replicate 32 0), cI (List.replicate 32 0), cI (List.replicate 32 0), cI (List.replicate 32 0)] : List OwnC)) d0_73 (hw _ m_27) (Or.inl (hw _ m_28)) (hw _ m_1) (hlay hw) (by decide) (fun _ => rfl) (fun _ => rfl) rfl rfl rfl (leb rfl) rfl ?_
  refine WP.aloadN d0_76 rfl ?_
  refine WP.bipush (32 : Int32) d0_77 rfl ?_
  refine WP.newarray d0_79 (hw _ m_16) (by decide) (leb rfl) (leb rfl) (leb rfl) (Or.inr (Or.inr ⟨rfl, rfl⟩)) ?_
  show W0 l Z n0 (P0 r) 10 224 81 [.val (.ref 0), .val (.int p1), .val (.int p2)] [.ref 10, .ref 0] ([cO [.int (0 : Int32), .int (0 : Int32), .int (0 : Int32), .ref 1, .ref 2, .ref 3, .ref 4, .int (0 : Int32), .ref 5, .ref 6, .ref 7, .ref 8, .ref 9, .null, .null, .int (0 : Int32), .int (0 : Int32), .int (0 : Int32), .int (0 : Int32), .int (0 : Int32)], cI (List.replicate 8 0), cI (List.replicate 8 0), cI (List.replicate 8 0), cZ (List.replicate 8 0), cI (List.replicate 32 0), cZ (List.replicate 32 0), cI (List.replicate 32 0), cI (List.replicate 32 0), cI (List.replicate 32 0), cZ (List.replicate 32 0)] : List OwnC)
  refine WP.putR (ty := .array .boolean) (i := 0) (j := 13) (H' := ([cO [.int (0 : Int32), .int (0 : Int32), .int (0 : Int32), .ref 1, .ref 2, .ref 3, .ref 4, .int (0 : Int32), .ref 5, .ref 6, .ref 7, .ref 8, .ref 9, .ref 10, .null, .int (0 : Int32), .int (0 : Int32), .int (0 : Int32), .int (0 : Int32), .int (0 : Int32)], cI (List.replicate 8 0), cI (List.replicate 8 0), cI (List.replicate 8 0), cZ (List.replicate 8 0), cI (List.replicate 32 0), cZ (List.replicate 32 0), cI (List.replicate 32 0), cI (List.replicate 32 0), cI (List.replicate 32 0), cZ (List.replicate 32 0)] : List OwnC)) d0_81 (hw _ m_29) (Or.inl (hw _ m_30)) (hw _ m_1) (hlay hw) (by decide) (fun _ => rfl) (fun _ => rfl) rfl rfl rfl (leb rfl) rfl ?_
  refine WP.aloadN d0_84 rfl ?_
  refine WP.bipush (32 : Int32) d0_85 rfl ?_
  refine WP.newarray d0_87 (hw _ m_9) (by decide) (leb rfl) (leb rfl) (leb rfl) (Or.inl ⟨rfl, rfl⟩) ?_
  show W0 l Z n0 (P0 r) 11 256 89 [.val (.ref 0), .val (.int p1), .val (.int p2)] [.ref 11, .ref 0] ([cO [.int (0 : Int32), .int (0 : Int32), .int (0 : Int32), .ref 1, .ref 2, .ref 3, .ref 4, .int (0 : Int32), .ref 5, .ref 6, .ref 7, .ref 8, .ref 9, .ref 10, .null, .int (0 : Int32), .int (0 : Int32), .int (0 : Int32), .int (0 : Int32), .int (0 : Int32)], cI (List.replicate 8 0), cI (List.replicate 8 0), cI (List.replicate 8 0), cZ (List.replicate 8 0), cI (List.replicate 32 0), cZ (List.replicate 32 0), cI (List.replicate 32 0), cI (List.replicate 32 0), cI (List.replicate 32 0), cZ (List.replicate 32 0), cI (List.replicate 32 0)] : List OwnC)
  obtain ⟨s1, es1, h⟩ := lt_e h
  refine WP.putR (ty := .array .int) (i := 0) (j := 14) (H' := (Hb 0 s1)) d0_89 (hw _ m_31) (Or.inl (hw _ m_32)) (hw _ m_1) (hlay hw) (by decide) (fun _ => rfl) (fun _ => rfl) rfl rfl rfl (leb rfl) (by subst es1; rfl) ?_
  refine WP.aloadN d0_92 rfl ?_
  refine WP.aloadN d0_93 rfl ?_
  refine WP.iloadN d0_94 rfl ?_
  refine WP.iconst (1 : Int32) d0_95 rfl ?_
  refine WP.bipush (8 : Int32) d0_96 rfl ?_
  obtain ⟨c2, hc2, h⟩ := Option.bind_eq_some_iff.mp h
  refine WP.callP (i := 0) (y := y1) (as := [.int p1, .int (1 : Int32), .int (8 : Int32)]) (S := [.ref 0]) d0_98 (hw _ m_33) (hw _ m_35) (hw _ m_1) (hw _ m_34) (hw _ m_36) (hw _ m_2) hy1 rfl (ok1 l Z a0 hw p1 (1 : Int32) (8 : Int32) s1 _ hc2) rfl (lenOf pd1 rfl) (leb rfl) (leb rfl) (leb rfl) (leb rfl) ?_
  rintro _ _ ⟨rfl, rfl⟩
  show W0 l Z n0 (P0 r) 11 256 101 [.val (.ref 0), .val (.int p1), .val (.int p2)] [.int c2, .ref 0] (Hb 0 s1)
  obtain ⟨s3, es3, h⟩ := lt_e h
  refine WP.putI (i := 0) (j := 0) (H' := (Hb 0 s3)) d0_101 (hw _ m_37) (Or.inl (hw _ m_38)) (hw _ m_1) (hlay hw) rfl rfl rfl (leb rfl) (by subst es3; rfl) ?_
  refine WP.aloadN d0_104 rfl ?_
  refine WP.aloadN d0_105 rfl ?_
  refine WP.iloadN d0_106 rfl ?_
  refine WP.iconst (1 : Int32) d0_107 rfl ?_
  refine WP.bipush (32 : Int32) d0_108 rfl ?_
  obtain ⟨c4, hc4, h⟩ := Option.bind_eq_some_iff.mp h
  refine WP.callP (i := 0) (y := y1) (as := [.int p2, .int (1 : Int32), .int (32 : Int32)]) (S := [.ref 0]) d0_110 (hw _ m_33) (hw _ m_35) (hw _ m_1) (hw _ m_34) (hw _ m_36) (hw _ m_2) hy1 rfl (ok1 l Z a0 hw p2 (1 : Int32) (32 : Int32) s3 _ hc4) rfl (lenOf pd1 rfl) (leb rfl) (leb rfl) (leb rfl) (leb rfl) ?_
  rintro _ _ ⟨rfl, rfl⟩
  show W0 l Z n0 (P0 r) 11 256 113 [.val (.ref 0), .val (.int p1), .val (.int p2)] [.int c4, .ref 0] (Hb 0 s3)
  obtain ⟨s5, es5, h⟩ := lt_e h
  refine WP.putI (i := 0) (j := 1) (H' := (Hb 0 s5)) d0_113 (hw _ m_39) (Or.inl (hw _ m_40)) (hw _ m_1) (hlay hw) rfl rfl rfl (leb rfl) (by subst es5; rfl) ?_
  refine WP.aloadN d0_116 rfl ?_
  refine WP.iconst (0 : Int32) d0_117 rfl ?_
  obtain ⟨s6, es6, h⟩ := lt_e h
  refine WP.putI (i := 0) (j := 2) (H' := (Hb 0 s6)) d0_118 (hw _ m_41) (Or.inl (hw _ m_42)) (hw _ m_1) (hlay hw) rfl rfl rfl (leb rfl) (by subst es6; rfl) ?_
  refine WP.aloadN d0_121 rfl ?_
  refine WP.iconst (0 : Int32) d0_122 rfl ?_
  obtain ⟨s7, es7, h⟩ := lt_e h
  refine WP.putI (i := 0) (j := 7) (H' := (Hb 0 s7)) d0_123 (hw _ m_43) (Or.inl (hw _ m_44)) (hw _ m_1) (hlay hw) rfl rfl rfl (leb rfl) (by subst es7; rfl) ?_
  refine WP.aloadN d0_126 rfl ?_
  refine WP.iconst (0 : Int32) d0_127 rfl ?_
  obtain ⟨s8, es8, h⟩ := lt_e h
  refine WP.putZ (i := 0) (j := 15) (H' := (Hb 0 s8)) d0_128 (hw _ m_45) (Or.inl (hw _ m_46)) (hw _ m_1) (hlay hw) rfl rfl rfl (leb rfl) (by subst es8; rfl) ?_
  refine WP.aloadN d0_131 rfl ?_
  refine WP.iconst (0 : Int32) d0_132 rfl ?_
  obtain ⟨s9, es9, h⟩ := lt_e h
  refine WP.putZ (i := 0) (j := 16) (H' := (Hb 0 s9)) d0_133 (hw _ m_47) (Or.inl (hw _ m_48)) (hw _ m_1) (hlay hw) rfl rfl rfl (leb rfl) (by subst es9; rfl) ?_
  refine WP.aloadN d0_136 rfl ?_
  refine WP.iconst (0 : Int32) d0_137 rfl ?_
  obtain ⟨s10, es10, h⟩ := lt_e h
  refine WP.putI (i := 0) (j := 17) (H' := (Hb 0 s10)) d0_138 (hw _ m_49) (Or.inl (hw _ m_50)) (hw _ m_1) (hlay hw) rfl rfl rfl (leb rfl) (by subst es10; rfl) ?_
  refine WP.aloadN d0_141 rfl ?_
  refine WP.iconst (0 : Int32) d0_142 rfl ?_
  obtain ⟨s11, es11, h⟩ := lt_e h
  refine WP.putI (i := 0) (j := 18) (H' := (Hb 0 s11)) d0_143 (hw _ m_51) (Or.inl (hw _ m_52)) (hw _ m_1) (hlay hw) rfl rfl rfl (leb rfl) (by subst es11; rfl) ?_
  refine WP.aloadN d0_146 rfl ?_
  refine WP.iconst (0 : Int32) d0_147 rfl ?_
  obtain ⟨s12, es12, h⟩ := lt_e h
  refine WP.putI (i := 0) (j := 19) (H' := (Hb 0 s12)) d0_148 (hw _ m_53) (Or.inl (hw _ m_54)) (hw _ m_1) (hlay hw) rfl rfl rfl (leb rfl) (by subst es12; rfl) ?_
  cases h
  exact WP.vreturn d0_151 rfl (leb rfl) (leb rfl) ⟨rfl, rfl⟩
theorem d2_0 : dc prog_1_method_2_code 0 (.aload_n 0) 1 := by decide +kernel
theorem d2_1 : dc prog_1_method_2_code 1 (.getfield 61) 3 := by decide +kernel
theorem d2_4 : dc prog_1_method_2_code 4 (.ifCond .ne 14) 3 := by decide +kernel
theorem d2_7 : dc prog_1_method_2_code 7 (.aload_n 0) 1 := by decide +kernel
theorem d2_8 : dc prog_1_method_2_code 8 (.getfield 55) 3 := by decide +kernel
theorem d2_11 : dc prog_1_method_2_code 11 (.aload_n 0) 1 := by decide +kernel
theorem d2_12 : dc prog_1_method_2_code 12 (.getfield 48) 3 := by decide +kernel
theorem d2_15 : dc prog_1_method_2_code 15 (.if_icmp .ne 5) 3 := by decide +kernel
theorem d2_18 : dc prog_1_method_2_code 18 (.iconst (-1)) 1 := by decide +kernel
theorem d2_19 : dc prog_1_method_2_code 19 (.ireturn) 1 := by decide +kernel
theorem d2_20 : dc prog_1_method_2_code 20 (.iload_n 1) 1 := by decide +kernel
theorem d2_21 : dc prog_1_method_2_code 21 (.ifCond .lt 17) 3 := by decide +kernel
theorem d2_24 : dc prog_1_method_2_code 24 (.iload_n 1) 1 := by decide +kernel
theorem d2_25 : dc prog_1_method_2_code 25 (.iconst 5) 1 := by decide +kernel
theorem d2_26 : dc prog_1_method_2_code 26 (.if_icmp .gt 12) 3 := by decide +kernel
theorem d2_29 : dc prog_1_method_2_code 29 (.iload_n 2) 1 := by decide +kernel
theorem d2_30 : dc prog_1_method_2_code 30 (.ifCond .lt 8) 3 := by decide +kernel
theorem d2_33 : dc prog_1_method_2_code 33 (.iload_n 2) 1 := by decide +kernel
theorem d2_34 : dc prog_1_method_2_code 34 (.iconst 5) 1 := by decide +kernel
theorem d2_35 : dc prog_1_method_2_code 35 (.if_icmp .le 5) 3 := by decide +kernel
theorem d2_38 : dc prog_1_method_2_code 38 (.iconst (-1)) 1 := by decide +kernel
theorem d2_39 : dc prog_1_method_2_code 39 (.ireturn) 1 := by decide +kernel
theorem d2_40 : dc prog_1_method_2_code 40 (.iload_n 1) 1 := by decide +kernel
theorem d2_41 : dc prog_1_method_2_code 41 (.iload_n 2) 1 := by decide +kernel
theorem d2_42 : dc prog_1_method_2_code 42 (.iadd) 1 := by decide +kernel
theorem d2_43 : dc prog_1_method_2_code 43 (.istore 4) 2 := by decide +kernel
theorem d2_45 : dc prog_1_method_2_code 45 (.iload 4) 2 := by decide +kernel
theorem d2_47 : dc prog_1_method_2_code 47 (.iconst 1) 1 := by decide +kernel
theorem d2_48 : dc prog_1_method_2_code 48 (.if_icmp .lt 9) 3 := by decide +kernel
theorem d2_51 : dc prog_1_method_2_code 51 (.iload 4) 2 := by decide +kernel
theorem d2_53 : dc prog_1_method_2_code 53 (.iconst 5) 1 := by decide +kernel
theorem d2_54 : dc prog_1_method_2_code 54 (.if_icmp .le 5) 3 := by decide +kernel
theorem d2_57 : dc prog_1_method_2_code 57 (.iconst (-1)) 1 := by decide +kernel
theorem d2_58 : dc prog_1_method_2_code 58 (.ireturn) 1 := by decide +kernel
theorem d2_59 : dc prog_1_method_2_code 59 (.aload_n 0) 1 := by decide +kernel
theorem d2_60 : dc prog_1_method_2_code 60 (.getfield 55) 3 := by decide +kernel
theorem d2_63 : dc prog_1_method_2_code 63 (.ifCond .lt 12) 3 := by decide +kernel
theorem d2_66 : dc prog_1_method_2_code 66 (.aload_n 0) 1 := by decide +kernel
theorem d2_67 : dc prog_1_method_2_code 67 (.getfield 55) 3 := by decide +kernel
theorem d2_70 : dc prog_1_method_2_code 70 (.bipush 8) 2 := by decide +kernel
theorem d2_72 : dc prog_1_method_2_code 72 (.if_icmp .lt 5) 3 := by decide +kernel
theorem d2_75 : dc prog_1_method_2_code 75 (.iconst (-1)) 1 := by decide +kernel
theorem d2_76 : dc prog_1_method_2_code 76 (.ireturn) 1 := by decide +kernel
theorem d2_77 : dc prog_1_method_2_code 77 (.aload_n 0) 1 := by decide +kernel
theorem d2_78 : dc prog_1_method_2_code 78 (.getfield 55) 3 := by decide +kernel
theorem d2_81 : dc prog_1_method_2_code 81 (.istore 5) 2 := by decide +kernel
theorem d2_83 : dc prog_1_method_2_code 83 (.aload_n 0) 1 := by decide +kernel
theorem d2_84 : dc prog_1_method_2_code 84 (.getfield 7) 3 := by decide +kernel
theorem d2_87 : dc prog_1_method_2_code 87 (.iload 5) 2 := by decide +kernel
theorem d2_89 : dc prog_1_method_2_code 89 (.iload_n 1) 1 := by decide +kernel
theorem d2_90 : dc prog_1_method_2_code 90 (.iastore) 1 := by decide +kernel
theorem d2_91 : dc prog_1_method_2_code 91 (.aload_n 0) 1 := by decide +kernel
theorem d2_92 : dc prog_1_method_2_code 92 (.getfield 13) 3 := by decide +kernel
theorem d2_95 : dc prog_1_method_2_code 95 (.iload 5) 2 := by decide +kernel
theorem d2_97 : dc prog_1_method_2_code 97 (.iload_n 2) 1 := by decide +kernel
theorem d2_98 : dc prog_1_method_2_code 98 (.iastore) 1 := by decide +kernel
theorem d2_99 : dc prog_1_method_2_code 99 (.aload_n 0) 1 := by decide +kernel
theorem d2_100 : dc prog_1_method_2_code 100 (.getfield 19) 3 := by decide +kernel
theorem d2_103 : dc prog_1_method_2_code 103 (.iload 5) 2 := by decide +kernel
theorem d2_105 : dc prog_1_method_2_code 105 (.iload_n 3) 1 := by decide +kernel
theorem d2_106 : dc prog_1_method_2_code 106 (.bastore) 1 := by decide +kernel
theorem d2_107 : dc prog_1_method_2_code 107 (.aload_n 0) 1 := by decide +kernel
theorem d2_108 : dc prog_1_method_2_code 108 (.getfield 16) 3 := by decide +kernel
theorem d2_111 : dc prog_1_method_2_code 111 (.iload 5) 2 := by decide +kernel
theorem d2_113 : dc prog_1_method_2_code 113 (.iconst 0) 1 := by decide +kernel
theorem d2_114 : dc prog_1_method_2_code 114 (.iastore) 1 := by decide +kernel
theorem d2_115 : dc prog_1_method_2_code 115 (.aload_n 0) 1 := by decide +kernel
theorem d2_116 : dc prog_1_method_2_code 116 (.iload 5) 2 := by decide +kernel
theorem d2_118 : dc prog_1_method_2_code 118 (.iconst 1) 1 := by decide +kernel
theorem d2_119 : dc prog_1_method_2_code 119 (.iadd) 1 := by decide +kernel
theorem d2_120 : dc prog_1_method_2_code 120 (.putfield 55) 3 := by decide +kernel
theorem d2_123 : dc prog_1_method_2_code 123 (.iload 5) 2 := by decide +kernel
theorem d2_125 : dc prog_1_method_2_code 125 (.ireturn) 1 := by decide +kernel
abbrev y2 : MethodName := ⟨"PictureCobol", "declareField", "(IIZ)I"⟩
theorem hy2 : y2.cls ≠ "java/lang/invoke/MethodHandle" ∧ y2.cls ≠ "java/lang/invoke/VarHandle" := by decide
theorem pd2 : parseMethodDescriptor y2.desc = some ⟨[.int, .int, .boolean], some .int⟩ := by decide +kernel
abbrev R2 : Room := { frames := 0, cells := 0, slots := 0, locals := 0 }
abbrev P2 (r : Int32 × St) : Option Value → List OwnC → Prop := fun v H' => v = some (.int r.1) ∧ H' = (Hb 0 r.2)
abbrev W2 (l : Launch) (Z : State) (n0 : Nat) (Q : Option Value → List OwnC → Prop) (k n pc : Nat) (L : List Slot) (S : List Value) (H : List OwnC) : Prop := WP l Z CN lay "PictureCobol" "declareField" prog_1_method_2_code 6 (some FieldType.int) R2 n0 0 Q k n pc L S H
def f_declareField_18 (s : St) : Option (Int32 × St) :=
  some ((-1 : Int32), s)
set_option maxRecDepth 65536 in
set_option maxHeartbeats 4000000 in
theorem ok2_18 (l : Launch) (Z : State) (a0 : Array Value) (hw : HW a0 Z) (n0 : Nat) (s : St) (r : Int32 × St) (h : f_declareField_18 s = some r) : W2 l Z n0 (P2 r) 0 0 18 [.unset, .unset, .unset, .unset, .unset, .unset] [] (Hb 0 s) := by
  unfold f_declareField_18 at h
  refine WP.iconst (-1 : Int32) d2_18 rfl ?_
  cases h
  exact WP.ireturn d2_19 rfl (leb rfl) (leb rfl) ⟨rfl, rfl⟩
def f_declareField_38 (s : St) : Option (Int32 × St) :=
  some ((-1 : Int32), s)
set_option maxRecDepth 65536 in
set_option maxHeartbeats 4000000 in
theorem ok2_38 (l : Launch) (Z : State) (a0 : Array Value) (hw : HW a0 Z) (n0 : Nat) (s : St) (r : Int32 × St) (h : f_declareField_38 s = some r) : W2 l Z n0 (P2 r) 0 0 38 [.unset, .unset, .unset, .unset, .unset, .unset] [] (Hb 0 s) := by
  unfold f_declareField_38 at h
  refine WP.iconst (-1 : Int32) d2_38 rfl ?_
  cases h
  exact WP.ireturn d2_39 rfl (leb rfl) (leb rfl) ⟨rfl, rfl⟩
def f_declareField_57 (s : St) : Option (Int32 × St) :=
  some ((-1 : Int32), s)
set_option maxRecDepth 65536 in
set_option maxHeartbeats 4000000 in
theorem ok2_57 (l : Launch) (Z : State) (a0 : Array Value) (hw : HW a0 Z) (n0 : Nat) (s : St) (r : Int32 × St) (h : f_declareField_57 s = some r) : W2 l Z n0 (P2 r) 0 0 57 [.unset, .unset, .unset, .unset, .unset, .unset] [] (Hb 0 s) := by
  unfold f_declareField_57 at h
  refine WP.iconst (-1 : Int32) d2_57 rfl ?_
  cases h
  exact WP.ireturn d2_58 rfl (leb rfl) (leb rfl) ⟨rfl, rfl⟩
def f_declareField_75 (s : St) : Option (Int32 × St) :=
  some ((-1 : Int32), s)
set_option maxRecDepth 65536 in
set_option maxHeartbeats 4000000 in
theorem ok2_75 (l : Launch) (Z : State) (a0 : Array Value) (hw : HW a0 Z) (n0 : Nat) (s : St) (r : Int32 × St) (h : f_declareField_75 s = some r) : W2 l Z n0 (P2 r) 0 0 75 [.unset, .unset, .unset, .unset, .unset, .unset] [] (Hb 0 s) := by
  unfold f_declareField_75 at h
  refine WP.iconst (-1 : Int32) d2_75 rfl ?_
  cases h
  exact WP.ireturn d2_76 rfl (leb rfl) (leb rfl) ⟨rfl, rfl⟩
def f_declareField (p1 : Int32) (p2 : Int32) (p3 : Int32) (s : St) : Option (Int32 × St) :=
  if (gI s 4) = 0 then
    if (gI s 2) = (gI s 0) then
      f_declareField_18 s
    else
      if p1 < 0 then
        f_declareField_38 s
      else
        if (5 : Int32) < p1 then
          f_declareField_38 s
        else
          if p2 < 0 then
            f_declareField_38 s
          else
            if (5 : Int32) < p2 then
              f_declareField_38 s
            else
              lt (p1 + p2) fun x7 =>
              if x7 < (1 : Int32) then
                f_declareField_57 s
              else
                if (5 : Int32) < x7 then
                  f_declareField_57 s
                else
                  if (gI s 2) < 0 then
                    f_declareField_75 s
                  else
                    if (gI s 2) < (8 : Int32) then
                      lt (gI s 2) fun x12 =>
                      (wrA s 0 x12 p1).bind fun s13 =>
                      (wrA s13 1 x12 p2).bind fun s14 =>
                      (wrA s14 3 x12 (p3 &&& 1)).bind fun s15 =>
                      (wrA s15 2 x12 (0 : Int32)).bind fun s16 =>
                      lt (sI s16 2 (x12 + (1 : Int32))) fun s17 =>
                      some (x12, s17)
                    else
                      f_declareField_75 s
  else
    f_declareField_18 s
set_option maxRecDepth 65536 in
set_option maxHeartbeats 4000000 in
theorem ok2 (l : Launch) (Z : State) (a0 : Array Value) (hw : HW a0 Z) (p1 : Int32) (p2 : Int32) (p3 : Int32) (s : St) (r : Int32 × St) (h : f_declareField p1 p2 p3 s = some r) : CS l Z CN lay y2 prog_1_method_2_code 6 (some FieldType.int) R2 0 [.ref 0, .int p1, .int p2, .int p3] (Hb 0 s) (P2 r) := by
  refine CS.of_wp pn_cls (leb rfl) fun n0 => ?_
  show W2 l Z n0 (P2 r) 0 0 0 [.val (.ref 0), .val (.int p1), .val (.int p2), .val (.int p3), .unset, .unset] [] (Hb 0 s)
  unfold f_declareField at h
  refine WP.aloadN d2_0 rfl ?_
  refine WP.getfield (i := 0) (j := 15) d2_1 (hw _ m_45) rfl rfl rfl ?_
  rcases ite_e h with ⟨hc1, h⟩ | ⟨hc1, h⟩
  ·
    refine WP.ifN d2_4 (XT.i0_ne_f hc1) ?_
    refine WP.aloadN d2_7 rfl ?_
    refine WP.getfield (i := 0) (j := 2) d2_8 (hw _ m_41) rfl rfl rfl ?_
    refine WP.aloadN d2_11 rfl ?_
    refine WP.getfield (i := 0) (j := 0) d2_12 (hw _ m_37) rfl rfl rfl ?_
    rcases ite_e h with ⟨hc2, h⟩ | ⟨hc2, h⟩
    ·
      refine WP.icmpN d2_15 (XT.ii_ne_f hc2) ?_
      exact WP.weak (L' := [.unset, .unset, .unset, .unset, .unset, .unset]) trivial (ok2_18 l Z a0 hw n0 s _ h)
    ·
      refine WP.icmpY (pc' := 20) d2_15 (XT.ii_ne_t hc2) (by decide) rfl ?_
      refine WP.iloadN d2_20 rfl ?_
      rcases ite_e h with ⟨hc3, h⟩ | ⟨hc3, h⟩
      ·
        refine WP.ifY (pc' := 38) d2_21 (XT.i0_lt_t hc3) (by decide) rfl ?_
        exact WP.weak (L' := [.unset, .unset, .unset, .unset, .unset, .unset]) trivial (ok2_38 l Z a0 hw n0 s _ h)
      ·
        refine WP.ifN d2_21 (XT.i0_lt_f hc3) ?_
        refine WP.iloadN d2_24 rfl ?_
        refine WP.iconst (5 : Int32) d2_25 rfl ?_
        rcases ite_e h with ⟨hc4, h⟩ | ⟨hc4, h⟩
        ·
          refine WP.icmpY (pc' := 38) d2_26 (XT.ii_gt_t hc4) (by decide) rfl ?_
          exact WP.weak (L' := [.unset, .unset, .unset, .unset, .unset, .unset]) trivial (ok2_38 l Z a0 hw n0 s _ h)
        ·
          refine WP.icmpN d2_26 (XT.ii_gt_f hc4) ?_
          refine WP.iloadN d2_29 rfl ?_
          rcases ite_e h with ⟨hc5, h⟩ | ⟨hc5, h⟩
          ·
            refine WP.ifY (pc' := 38) d2_30 (XT.i0_lt_t hc5) (by decide) rfl ?_
            exact WP.weak (L' := [.unset, .unset, .unset, .unset, .unset, .unset]) trivial (ok2_38 l Z a0 hw n0 s _ h)
          ·
            refine WP.ifN d2_30 (XT.i0_lt_f hc5) ?_
            refine WP.iloadN d2_33 rfl ?_
            refine WP.iconst (5 : Int32) d2_34 rfl ?_
            rcases ite_e h with ⟨hc6, h⟩ | ⟨hc6, h⟩
            ·
              refine WP.icmpN d2_35 (XT.ii_le_f hc6) ?_
              exact WP.weak (L' := [.unset, .unset, .unset, .unset, .unset, .unset]) trivial (ok2_38 l Z a0 hw n0 s _ h)
            ·
              refine WP.icmpY (pc' := 40) d2_35 (XT.ii_le_t hc6) (by decide) rfl ?_
              refine WP.iloadN d2_40 rfl ?_
              refine WP.iloadN d2_41 rfl ?_
              refine WP.iadd d2_42 ?_
              obtain ⟨x7, ex7, h⟩ := lt_e h
              refine WP.istore (L' := [.val (.ref 0), .val (.int p1), .val (.int p2), .val (.int p3), .val (.int x7), .unset]) d2_43 (leb rfl) (by subst ex7; rfl) ?_
              refine WP.iload d2_45 rfl ?_
              refine WP.iconst (1 : Int32) d2_47 rfl ?_
              rcases ite_e h with ⟨hc8, h⟩ | ⟨hc8, h⟩
              ·
                refine WP.icmpY (pc' := 57) d2_48 (XT.ii_lt_t hc8) (by decide) rfl ?_
                exact WP.weak (L' := [.unset, .unset, .unset, .unset, .unset, .unset]) trivial (ok2_57 l Z a0 hw n0 s _ h)
              ·
                refine WP.icmpN d2_48 (XT.ii_lt_f hc8) ?_
                refine WP.iload d2_51 rfl ?_
                refine WP.iconst (5 : Int32) d2_53 rfl ?_
                rcases ite_e h with ⟨hc9, h⟩ | ⟨hc9, h⟩
                ·
                  refine WP.icmpN d2_54 (XT.ii_le_f hc9) ?_
                  exact WP.weak (L' := [.unset, .unset, .unset, .unset, .unset, .unset]) trivial (ok2_57 l Z a0 hw n0 s _ h)
                ·
                  refine WP.icmpY (pc' := 59) d2_54 (XT.ii_le_t hc9) (by decide) rfl ?_
                  refine WP.aloadN d2_59 rfl ?_
                  refine WP.getfield (i := 0) (j := 2) d2_60 (hw _ m_41) rfl rfl rfl ?_
                  rcases ite_e h with ⟨hc10, h⟩ | ⟨hc10, h⟩
                  ·
                    refine WP.ifY (pc' := 75) d2_63 (XT.i0_lt_t hc10) (by decide) rfl ?_
                    exact WP.weak (L' := [.unset, .unset, .unset, .unset, .unset, .unset]) trivial (ok2_75 l Z a0 hw n0 s _ h)
                  ·
                    refine WP.ifN d2_63 (XT.i0_lt_f hc10) ?_
                    refine WP.aloadN d2_66 rfl ?_
                    refine WP.getfield (i := 0) (j := 2) d2_67 (hw _ m_41) rfl rfl rfl ?_
                    refine WP.bipush (8 : Int32) d2_70 rfl ?_
                    rcases ite_e h with ⟨hc11, h⟩ | ⟨hc11, h⟩
                    ·
                      refine WP.icmpY (pc' := 77) d2_72 (XT.ii_lt_t hc11) (by decide) rfl ?_
                      refine WP.aloadN d2_77 rfl ?_
                      refine WP.getfield (i := 0) (j := 2) d2_78 (hw _ m_41) rfl rfl rfl ?_
                      obtain ⟨x12, ex12, h⟩ := lt_e h
                      refine WP.istore (L' := [.val (.ref 0), .val (.int p1), .val (.int p2), .val (.int p3), .val (.int x7), .val (.int x12)]) d2_81 (leb rfl) (by subst ex12; rfl) ?_
                      refine WP.aloadN d2_83 rfl ?_
                      refine WP.getfield (i := 0) (j := 3) d2_84 (hw _ m_10) rfl rfl rfl ?_
                      refine WP.iload d2_87 rfl ?_
                      refine WP.iloadN d2_89 rfl ?_
                      obtain ⟨s13, hs13, h⟩ := Option.bind_eq_some_iff.mp h
                      obtain ⟨ys13, gs13, es13⟩ := wrA_e hs13
                      refine WP.iastore (i := 1) (xs := gA s 0) (H' := (Hb 0 s13)) d2_90 rfl (leb rfl) gs13 (by subst es13; rfl) ?_
                      refine WP.aloadN d2_91 rfl ?_
                      refine WP.getfield (i := 0) (j := 4) d2_92 (hw _ m_12) rfl rfl rfl ?_
                      refine WP.iload d2_95 rfl ?_
                      refine WP.iloadN d2_97 rfl ?_
                      obtain ⟨s14, hs14, h⟩ := Option.bind_eq_some_iff.mp h
                      obtain ⟨ys14, gs14, es14⟩ := wrA_e hs14
                      refine WP.iastore (i := 2) (xs := gA s13 1) (H' := (Hb 0 s14)) d2_98 rfl (leb rfl) gs14 (by subst es14; rfl) ?_
                      refine WP.aloadN d2_99 rfl ?_
                      refine WP.getfield (i := 0) (j := 6) d2_100 (hw _ m_17) rfl rfl rfl ?_
                      refine WP.iload d2_103 rfl ?_
                      refine WP.iloadN d2_105 rfl ?_
                      obtain ⟨s15, hs15, h⟩ := Option.bind_eq_some_iff.mp h
                      obtain ⟨ys15, gs15, es15⟩ := wrA_e hs15
                      refine WP.bastore (i := 4) (xs := gA s14 3) (H' := (Hb 0 s15)) d2_106 rfl (leb rfl) gs15 (by subst es15; rfl) ?_
                      refine WP.aloadN d2_107 rfl ?_
                      refine WP.getfield (i := 0) (j := 5) d2_108 (hw _ m_14) rfl rfl rfl ?_
                      refine WP.iload d2_111 rfl ?_
                      refine WP.iconst (0 : Int32) d2_113 rfl ?_
                      obtain ⟨s16, hs16, h⟩ := Option.bind_eq_some_iff.mp h
                      obtain ⟨ys16, gs16, es16⟩ := wrA_e hs16
                      refine WP.iastore (i := 3) (xs := gA s15 2) (H' := (Hb 0 s16)) d2_114 rfl (leb rfl) gs16 (by subst es16; rfl) ?_
                      refine WP.aloadN d2_115 rfl ?_
                      refine WP.iload d2_116 rfl ?_
                      refine WP.iconst (1 : Int32) d2_118 rfl ?_
                      refine WP.iadd d2_119 ?_
                      obtain ⟨s17, es17, h⟩ := lt_e h
                      refine WP.putI (i := 0) (j := 2) (H' := (Hb 0 s17)) d2_120 (hw _ m_41) (Or.inl (hw _ m_42)) (hw _ m_1) (hlay hw) rfl rfl rfl (leb rfl) (by subst es17; rfl) ?_
                      refine WP.iload d2_123 rfl ?_
                      cases h
                      exact WP.ireturn d2_125 rfl (leb rfl) (leb rfl) ⟨rfl, rfl⟩
                    ·
                      refine WP.icmpN d2_72 (XT.ii_lt_f hc11) ?_
                      exact WP.weak (L' := [.unset, .unset, .unset, .unset, .unset, .unset]) trivial (ok2_75 l Z a0 hw n0 s _ h)
  ·
    refine WP.ifY (pc' := 18) d2_4 (XT.i0_ne_t hc1) (by decide) rfl ?_
    exact WP.weak (L' := [.unset, .unset, .unset, .unset, .unset, .unset]) trivial (ok2_18 l Z a0 hw n0 s _ h)
theorem d4_0 : dc prog_1_method_20_code 0 (.iload_n 1) 1 := by decide +kernel
theorem d4_1 : dc prog_1_method_20_code 1 (.iconst 1) 1 := by decide +kernel
theorem d4_2 : dc prog_1_method_20_code 2 (.if_icmp .lt 11) 3 := by decide +kernel
theorem d4_5 : dc prog_1_method_20_code 5 (.iload_n 1) 1 := by decide +kernel
theorem d4_6 : dc prog_1_method_20_code 6 (.bipush 9) 2 := by decide +kernel
theorem d4_8 : dc prog_1_method_20_code 8 (.if_icmp .gt 5) 3 := by decide +kernel
theorem d4_11 : dc prog_1_method_20_code 11 (.iconst 1) 1 := by decide +kernel
theorem d4_12 : dc prog_1_method_20_code 12 (.ireturn) 1 := by decide +kernel
theorem d4_13 : dc prog_1_method_20_code 13 (.iload_n 1) 1 := by decide +kernel
theorem d4_14 : dc prog_1_method_20_code 14 (.bipush 18) 2 := by decide +kernel
theorem d4_16 : dc prog_1_method_20_code 16 (.if_icmp .lt 13) 3 := by decide +kernel
theorem d4_19 : dc prog_1_method_20_code 19 (.iload_n 1) 1 := by decide +kernel
theorem d4_20 : dc prog_1_method_20_code 20 (.bipush 21) 2 := by decide +kernel
theorem d4_22 : dc prog_1_method_20_code 22 (.if_icmp .gt 7) 3 := by decide +kernel
theorem d4_25 : dc prog_1_method_20_code 25 (.iconst 1) 1 := by decide +kernel
theorem d4_26 : dc prog_1_method_20_code 26 (.goto 4) 3 := by decide +kernel
theorem d4_29 : dc prog_1_method_20_code 29 (.iconst 0) 1 := by decide +kernel
theorem d4_30 : dc prog_1_method_20_code 30 (.ireturn) 1 := by decide +kernel
abbrev y4 : MethodName := ⟨"PictureCobol", "validKind", "(I)Z"⟩
theorem hy4 : y4.cls ≠ "java/lang/invoke/MethodHandle" ∧ y4.cls ≠ "java/lang/invoke/VarHandle" := by decide
theorem pd4 : parseMethodDescriptor y4.desc = some ⟨[.int], some .boolean⟩ := by decide +kernel
abbrev R4 : Room := { frames := 0, cells := 0, slots := 0, locals := 0 }
abbrev P4 (s : St) (r : Int32) : Option Value → List OwnC → Prop := fun v H' => v = some (.int r) ∧ H' = (Hb 0 s)
abbrev W4 (l : Launch) (Z : State) (n0 : Nat) (Q : Option Value → List OwnC → Prop) (k n pc : Nat) (L : List Slot) (S : List Value) (H : List OwnC) : Prop := WP l Z CN lay "PictureCobol" "validKind" prog_1_method_20_code 2 (some FieldType.boolean) R4 n0 0 Q k n pc L S H
def f_validKind_30 (t0 : Int32) (s : St) : Option (Int32) :=
  some (t0 &&& 1)
set_option maxRecDepth 65536 in
set_option maxHeartbeats 4000000 in
theorem ok4_30 (l : Launch) (Z : State) (a0 : Array Value) (hw : HW a0 Z) (n0 : Nat) (t0 : Int32) (s : St) (r : Int32) (h : f_validKind_30 t0 s = some r) : W4 l Z n0 (P4 s r) 0 0 30 [.unset, .unset] [.int t0] (Hb 0 s) := by
  unfold f_validKind_30 at h
  cases h
  exact WP.zreturn d4_30 rfl (leb rfl) (leb rfl) ⟨rfl, rfl⟩
def f_validKind_29 (s : St) : Option (Int32) :=
  f_validKind_30 (0 : Int32) s
set_option maxRecDepth 65536 in
set_option maxHeartbeats 4000000 in
theorem ok4_29 (l : Launch) (Z : State) (a0 : Array Value) (hw : HW a0 Z) (n0 : Nat) (s : St) (r : Int32) (h : f_validKind_29 s = some r) : W4 l Z n0 (P4 s r) 0 0 29 [.unset, .unset] [] (Hb 0 s) := by
  unfold f_validKind_29 at h
  refine WP.iconst (0 : Int32) d4_29 rfl ?_
  exact WP.weak (L' := [.unset, .unset]) trivial (ok4_30 l Z a0 hw n0 (0 : Int32) s _ h)
def f_validKind_13 (v1 : Int32) (s : St) : Option (Int32) :=
  if v1 < (18 : Int32) then
    f_validKind_29 s
  else
    if (21 : Int32) < v1 then
      f_validKind_29 s
    else
      f_validKind_30 (1 : Int32) s
set_option maxRecDepth 65536 in
set_option maxHeartbeats 4000000 in
theorem ok4_13 (l : Launch) (Z : State) (a0 : Array Value) (hw : HW a0 Z) (n0 : Nat) (v1 : Int32) (s : St) (r : Int32) (h : f_validKind_13 v1 s = some r) : W4 l Z n0 (P4 s r) 0 0 13 [.unset, .val (.int v1)] [] (Hb 0 s) := by
  unfold f_validKind_13 at h
  refine WP.iloadN d4_13 rfl ?_
  refine WP.bipush (18 : Int32) d4_14 rfl ?_
  rcases ite_e h with ⟨hc1, h⟩ | ⟨hc1, h⟩
  ·
    refine WP.icmpY (pc' := 29) d4_16 (XT.ii_lt_t hc1) (by decide) rfl ?_
    exact WP.weak (L' := [.unset, .unset]) trivial (ok4_29 l Z a0 hw n0 s _ h)
  ·
    refine WP.icmpN d4_16 (XT.ii_lt_f hc1) ?_
    refine WP.iloadN d4_19 rfl ?_
    refine WP.bipush (21 : Int32) d4_20 rfl ?_
    rcases ite_e h with ⟨hc2, h⟩ | ⟨hc2, h⟩
    ·
      refine WP.icmpY (pc' := 29) d4_22 (XT.ii_gt_t hc2) (by decide) rfl ?_
      exact WP.weak (L' := [.unset, .unset]) trivial (ok4_29 l Z a0 hw n0 s _ h)
    ·
      refine WP.icmpN d4_22 (XT.ii_gt_f hc2) ?_
      refine WP.iconst (1 : Int32) d4_25 rfl ?_
      refine WP.goto (pc' := 30) d4_26 (by decide) rfl ?_
      exact WP.weak (L' := [.unset, .unset]) trivial (ok4_30 l Z a0 hw n0 (1 : Int32) s _ h)
def f_validKind (p1 : Int32) (s : St) : Option (Int32) :=
  if p1 < (1 : Int32) then
    f_validKind_13 p1 s
  else
    if (9 : Int32) < p1 then
      f_validKind_13 p1 s
    else
      some (1 : Int32)
set_option maxRecDepth 65536 in
set_option maxHeartbeats 4000000 in
theorem ok4 (l : Launch) (Z : State) (a0 : Array Value) (hw : HW a0 Z) (p1 : Int32) (s : St) (r : Int32) (h : f_validKind p1 s = some r) : CS l Z CN lay y4 prog_1_method_20_code 2 (some FieldType.boolean) R4 0 [.ref 0, .int p1] (Hb 0 s) (P4 s r) := by
  refine CS.of_wp pn_cls (leb rfl) fun n0 => ?_
  show W4 l Z n0 (P4 s r) 0 0 0 [.val (.ref 0), .val (.int p1)] [] (Hb 0 s)
  unfold f_validKind at h
  refine WP.iloadN d4_0 rfl ?_
  refine WP.iconst (1 : Int32) d4_1 rfl ?_
  rcases ite_e h with ⟨hc1, h⟩ | ⟨hc1, h⟩
  ·
    refine WP.icmpY (pc' := 13) d4_2 (XT.ii_lt_t hc1) (by decide) rfl ?_
    exact WP.weak (L' := [.unset, .val (.int p1)]) ⟨rfl, trivial⟩ (ok4_13 l Z a0 hw n0 p1 s _ h)
  ·
    refine WP.icmpN d4_2 (XT.ii_lt_f hc1) ?_
    refine WP.iloadN d4_5 rfl ?_
    refine WP.bipush (9 : Int32) d4_6 rfl ?_
    rcases ite_e h with ⟨hc2, h⟩ | ⟨hc2, h⟩
    ·
      refine WP.icmpY (pc' := 13) d4_8 (XT.ii_gt_t hc2) (by decide) rfl ?_
      exact WP.weak (L' := [.unset, .val (.int p1)]) ⟨rfl, trivial⟩ (ok4_13 l Z a0 hw n0 p1 s _ h)
    ·
      refine WP.icmpN d4_8 (XT.ii_gt_f hc2) ?_
      refine WP.iconst (1 : Int32) d4_11 rfl ?_
      cases h
      exact WP.zreturn d4_12 rfl (leb rfl) (leb rfl) ⟨rfl, rfl⟩
theorem d11_0 : dc prog_1_method_17_code 0 (.iload_n 1) 1 := by decide +kernel
theorem d11_1 : dc prog_1_method_17_code 1 (.ifCond .lt 21) 3 := by decide +kernel
theorem d11_4 : dc prog_1_method_17_code 4 (.iload_n 1) 1 := by decide +kernel
theorem d11_5 : dc prog_1_method_17_code 5 (.aload_n 0) 1 := by decide +kernel
theorem d11_6 : dc prog_1_method_17_code 6 (.getfield 55) 3 := by decide +kernel
theorem d11_9 : dc prog_1_method_17_code 9 (.if_icmp .ge 13) 3 := by decide +kernel
theorem d11_12 : dc prog_1_method_17_code 12 (.iload_n 1) 1 := by decide +kernel
theorem d11_13 : dc prog_1_method_17_code 13 (.bipush 8) 2 := by decide +kernel
theorem d11_15 : dc prog_1_method_17_code 15 (.if_icmp .ge 7) 3 := by decide +kernel
theorem d11_18 : dc prog_1_method_17_code 18 (.iconst 1) 1 := by decide +kernel
theorem d11_19 : dc prog_1_method_17_code 19 (.goto 4) 3 := by decide +kernel
theorem d11_22 : dc prog_1_method_17_code 22 (.iconst 0) 1 := by decide +kernel
theorem d11_23 : dc prog_1_method_17_code 23 (.ireturn) 1 := by decide +kernel
abbrev y11 : MethodName := ⟨"PictureCobol", "isField", "(I)Z"⟩
theorem hy11 : y11.cls ≠ "java/lang/invoke/MethodHandle" ∧ y11.cls ≠ "java/lang/invoke/VarHandle" := by decide
theorem pd11 : parseMethodDescriptor y11.desc = some ⟨[.int], some .boolean⟩ := by decide +kernel
abbrev R11 : Room := { frames := 0, cells := 0, slots := 0, locals := 0 }
abbrev P11 (s : St) (r : Int32) : Option Value → List OwnC → Prop := fun v H' => v = some (.int r) ∧ H' = (Hb 0 s)
abbrev W11 (l : Launch) (Z : State) (n0 : Nat) (Q : Option Value → List OwnC → Prop) (k n pc : Nat) (L : List Slot) (S : List Value) (H : List OwnC) : Prop := WP l Z CN lay "PictureCobol" "isField" prog_1_method_17_code 2 (some FieldType.boolean) R11 n0 0 Q k n pc L S H
def f_isField_23 (t0 : Int32) (s : St) : Option (Int32) :=
  some (t0 &&& 1)
set_option maxRecDepth 65536 in
set_option maxHeartbeats 4000000 in
theorem ok11_23 (l : Launch) (Z : State) (a0 : Array Value) (hw : HW a0 Z) (n0 : Nat) (t0 : Int32) (s : St) (r : Int32) (h : f_isField_23 t0 s = some r) : W11 l Z n0 (P11 s r) 0 0 23 [.unset, .unset] [.int t0] (Hb 0 s) := by
  unfold f_isField_23 at h
  cases h
  exact WP.zreturn d11_23 rfl (leb rfl) (leb rfl) ⟨rfl, rfl⟩
def f_isField_22 (s : St) : Option (Int32) :=
  f_isField_23 (0 : Int32) s
set_option maxRecDepth 65536 in
set_option maxHeartbeats 4000000 in
theorem ok11_22 (l : Launch) (Z : State) (a0 : Array Value) (hw : HW a0 Z) (n0 : Nat) (s : St) (r : Int32) (h : f_isField_22 s = some r) : W11 l Z n0 (P11 s r) 0 0 22 [.unset, .unset] [] (Hb 0 s) := by
  unfold f_isField_22 at h
  refine WP.iconst (0 : Int32) d11_22 rfl ?_
  exact WP.weak (L' := [.unset, .unset]) trivial (ok11_23 l Z a0 hw n0 (0 : Int32) s _ h)
def f_isField (p1 : Int32) (s : St) : Option (Int32) :=
  if p1 < 0 then
    f_isField_22 s
  else
    if p1 < (gI s 2) then
      if p1 < (8 : Int32) then
        f_isField_23 (1 : Int32) s
      else
        f_isField_22 s
    else
      f_isField_22 s
set_option maxRecDepth 65536 in
set_option maxHeartbeats 4000000 in
theorem ok11 (l : Launch) (Z : State) (a0 : Array Value) (hw : HW a0 Z) (p1 : Int32) (s : St) (r : Int32) (h : f_isField p1 s = some r) : CS l Z CN lay y11 prog_1_method_17_code 2 (some FieldType.boolean) R11 0 [.ref 0, .int p1] (Hb 0 s) (P11 s r) := by
  refine CS.of_wp pn_cls (leb rfl) fun n0 => ?_
  show W11 l Z n0 (P11 s r) 0 0 0 [.val (.ref 0), .val (.int p1)] [] (Hb 0 s)
  unfold f_isField at h
  refine WP.iloadN d11_0 rfl ?_
  rcases ite_e h with ⟨hc1, h⟩ | ⟨hc1, h⟩
  ·
    refine WP.ifY (pc' := 22) d11_1 (XT.i0_lt_t hc1) (by decide) rfl ?_
    exact WP.weak (L' := [.unset, .unset]) trivial (ok11_22 l Z a0 hw n0 s _ h)
  ·
    refine WP.ifN d11_1 (XT.i0_lt_f hc1) ?_
    refine WP.iloadN d11_4 rfl ?_
    refine WP.aloadN d11_5 rfl ?_
    refine WP.getfield (i := 0) (j := 2) d11_6 (hw _ m_41) rfl rfl rfl ?_
    rcases ite_e h with ⟨hc2, h⟩ | ⟨hc2, h⟩
    ·
      refine WP.icmpN d11_9 (XT.ii_ge_f hc2) ?_
      refine WP.iloadN d11_12 rfl ?_
      refine WP.bipush (8 : Int32) d11_13 rfl ?_
      rcases ite_e h with ⟨hc3, h⟩ | ⟨hc3, h⟩
      ·
        refine WP.icmpN d11_15 (XT.ii_ge_f hc3) ?_
        refine WP.iconst (1 : Int32) d11_18 rfl ?_
        refine WP.goto (pc' := 23) d11_19 (by decide) rfl ?_
        exact WP.weak (L' := [.unset, .unset]) trivial (ok11_23 l Z a0 hw n0 (1 : Int32) s _ h)
      ·
        refine WP.icmpY (pc' := 22) d11_15 (XT.ii_ge_t hc3) (by decide) rfl ?_
        exact WP.weak (L' := [.unset, .unset]) trivial (ok11_22 l Z a0 hw n0 s _ h)
    ·
      refine WP.icmpY (pc' := 22) d11_9 (XT.ii_ge_t hc2) (by decide) rfl ?_
      exact WP.weak (L' := [.unset, .unset]) trivial (ok11_22 l Z a0 hw n0 s _ h)
theorem d13_0 : dc prog_1_method_19_code 0 (.iload_n 1) 1 := by decide +kernel
theorem d13_1 : dc prog_1_method_19_code 1 (.iconst 2) 1 := by decide +kernel
theorem d13_2 : dc prog_1_method_19_code 2 (.if_icmp .lt 12) 3 := by decide +kernel
theorem d13_5 : dc prog_1_method_19_code 5 (.iload_n 1) 1 := by decide +kernel
theorem d13_6 : dc prog_1_method_19_code 6 (.iconst 5) 1 := by decide +kernel
theorem d13_7 : dc prog_1_method_19_code 7 (.if_icmp .gt 7) 3 := by decide +kernel
theorem d13_10 : dc prog_1_method_19_code 10 (.iconst 1) 1 := by decide +kernel
theorem d13_11 : dc prog_1_method_19_code 11 (.goto 4) 3 := by decide +kernel
theorem d13_14 : dc prog_1_method_19_code 14 (.iconst 0) 1 := by decide +kernel
theorem d13_15 : dc prog_1_method_19_code 15 (.ireturn) 1 := by decide +kernel
abbrev y13 : MethodName := ⟨"PictureCobol", "isArith", "(I)Z"⟩
theorem hy13 : y13.cls ≠ "java/lang/invoke/MethodHandle" ∧ y13.cls ≠ "java/lang/invoke/VarHandle" := by decide
theorem pd13 : parseMethodDescriptor y13.desc = some ⟨[.int], some .boolean⟩ := by decide +kernel
abbrev R13 : Room := { frames := 0, cells := 0, slots := 0, locals := 0 }
abbrev P13 (s : St) (r : Int32) : Option Value → List OwnC → Prop := fun v H' => v = some (.int r) ∧ H' = (Hb 0 s)
abbrev W13 (l : Launch) (Z : State) (n0 : Nat) (Q : Option Value → List OwnC → Prop) (k n pc : Nat) (L : List Slot) (S : List Value) (H : List OwnC) : Prop := WP l Z CN lay "PictureCobol" "isArith" prog_1_method_19_code 2 (some FieldType.boolean) R13 n0 0 Q k n pc L S H
def f_isArith_15 (t0 : Int32) (s : St) : Option (Int32) :=
  some (t0 &&& 1)
set_option maxRecDepth 65536 in
set_option maxHeartbeats 4000000 in
theorem ok13_15 (l : Launch) (Z : State) (a0 : Array Value) (hw : HW a0 Z) (n0 : Nat) (t0 : Int32) (s : St) (r : Int32) (h : f_isArith_15 t0 s = some r) : W13 l Z n0 (P13 s r) 0 0 15 [.unset, .unset] [.int t0] (Hb 0 s) := by
  unfold f_isArith_15 at h
  cases h
  exact WP.zreturn d13_15 rfl (leb rfl) (leb rfl) ⟨rfl, rfl⟩
def f_isArith_14 (s : St) : Option (Int32) :=
  f_isArith_15 (0 : Int32) s
set_option maxRecDepth 65536 in
set_option maxHeartbeats 4000000 in
theorem ok13_14 (l : Launch) (Z : State) (a0 : Array Value) (hw : HW a0 Z) (n0 : Nat) (s : St) (r : Int32) (h : f_isArith_14 s = some r) : W13 l Z n0 (P13 s r) 0 0 14 [.unset, .unset] [] (Hb 0 s) := by
  unfold f_isArith_14 at h
  refine WP.iconst (0 : Int32) d13_14 rfl ?_
  exact WP.weak (L' := [.unset, .unset]) trivial (ok13_15 l Z a0 hw n0 (0 : Int32) s _ h)
def f_isArith (p1 : Int32) (s : St) : Option (Int32) :=
  if p1 < (2 : Int32) then
    f_isArith_14 s
  else
    if (5 : Int32) < p1 then
      f_isArith_14 s
    else
      f_isArith_15 (1 : Int32) s
set_option maxRecDepth 65536 in
set_option maxHeartbeats 4000000 in
theorem ok13 (l : Launch) (Z : State) (a0 : Array Value) (hw : HW a0 Z) (p1 : Int32) (s : St) (r : Int32) (h : f_isArith p1 s = some r) : CS l Z CN lay y13 prog_1_method_19_code 2 (some FieldType.boolean) R13 0 [.ref 0, .int p1] (Hb 0 s) (P13 s r) := by
  refine CS.of_wp pn_cls (leb rfl) fun n0 => ?_
  show W13 l Z n0 (P13 s r) 0 0 0 [.val (.ref 0), .val (.int p1)] [] (Hb 0 s)
  unfold f_isArith at h
  refine WP.iloadN d13_0 rfl ?_
  refine WP.iconst (2 : Int32) d13_1 rfl ?_
  rcases ite_e h with ⟨hc1, h⟩ | ⟨hc1, h⟩
  ·
    refine WP.icmpY (pc' := 14) d13_2 (XT.ii_lt_t hc1) (by decide) rfl ?_
    exact WP.weak (L' := [.unset, .unset]) trivial (ok13_14 l Z a0 hw n0 s _ h)
  ·
    refine WP.icmpN d13_2 (XT.ii_lt_f hc1) ?_
    refine WP.iloadN d13_5 rfl ?_
    refine WP.iconst (5 : Int32) d13_6 rfl ?_
    rcases ite_e h with ⟨hc2, h⟩ | ⟨hc2, h⟩
    ·
      refine WP.icmpY (pc' := 14) d13_7 (XT.ii_gt_t hc2) (by decide) rfl ?_
      exact WP.weak (L' := [.unset, .unset]) trivial (ok13_14 l Z a0 hw n0 s _ h)
    ·
      refine WP.icmpN d13_7 (XT.ii_gt_f hc2) ?_
      refine WP.iconst (1 : Int32) d13_10 rfl ?_
      refine WP.goto (pc' := 15) d13_11 (by decide) rfl ?_
      exact WP.weak (L' := [.unset, .unset]) trivial (ok13_15 l Z a0 hw n0 (1 : Int32) s _ h)
theorem d10_0 : dc prog_1_method_21_code 0 (.iload_n 1) 1 := by decide +kernel
theorem d10_1 : dc prog_1_method_21_code 1 (.iconst 1) 1 := by decide +kernel
theorem d10_2 : dc prog_1_method_21_code 2 (.if_icmp .ne 9) 3 := by decide +kernel
theorem d10_5 : dc prog_1_method_21_code 5 (.aload_n 0) 1 := by decide +kernel
theorem d10_6 : dc prog_1_method_21_code 6 (.iload_n 2) 1 := by decide +kernel
theorem d10_7 : dc prog_1_method_21_code 7 (.invokevirtual 77) 3 := by decide +kernel
theorem d10_10 : dc prog_1_method_21_code 10 (.ireturn) 1 := by decide +kernel
theorem d10_11 : dc prog_1_method_21_code 11 (.aload_n 0) 1 := by decide +kernel
theorem d10_12 : dc prog_1_method_21_code 12 (.iload_n 1) 1 := by decide +kernel
theorem d10_13 : dc prog_1_method_21_code 13 (.invokevirtual 96) 3 := by decide +kernel
theorem d10_16 : dc prog_1_method_21_code 16 (.ifCond .ne 15) 3 := by decide +kernel
theorem d10_19 : dc prog_1_method_21_code 19 (.iload_n 1) 1 := by decide +kernel
theorem d10_20 : dc prog_1_method_21_code 20 (.bipush 6) 2 := by decide +kernel
theorem d10_22 : dc prog_1_method_21_code 22 (.if_icmp .eq 9) 3 := by decide +kernel
theorem d10_25 : dc prog_1_method_21_code 25 (.iload_n 1) 1 := by decide +kernel
theorem d10_26 : dc prog_1_method_21_code 26 (.bipush 7) 2 := by decide +kernel
theorem d10_28 : dc prog_1_method_21_code 28 (.if_icmp .ne 25) 3 := by decide +kernel
theorem d10_31 : dc prog_1_method_21_code 31 (.aload_n 0) 1 := by decide +kernel
theorem d10_32 : dc prog_1_method_21_code 32 (.iload_n 2) 1 := by decide +kernel
theorem d10_33 : dc prog_1_method_21_code 33 (.invokevirtual 77) 3 := by decide +kernel
theorem d10_36 : dc prog_1_method_21_code 36 (.ifCond .eq 15) 3 := by decide +kernel
theorem d10_39 : dc prog_1_method_21_code 39 (.aload_n 0) 1 := by decide +kernel
theorem d10_40 : dc prog_1_method_21_code 40 (.iload_n 3) 1 := by decide +kernel
theorem d10_41 : dc prog_1_method_21_code 41 (.invokevirtual 77) 3 := by decide +kernel
theorem d10_44 : dc prog_1_method_21_code 44 (.ifCond .eq 7) 3 := by decide +kernel
theorem d10_47 : dc prog_1_method_21_code 47 (.iconst 1) 1 := by decide +kernel
theorem d10_48 : dc prog_1_method_21_code 48 (.goto 4) 3 := by decide +kernel
theorem d10_51 : dc prog_1_method_21_code 51 (.iconst 0) 1 := by decide +kernel
theorem d10_52 : dc prog_1_method_21_code 52 (.ireturn) 1 := by decide +kernel
theorem d10_53 : dc prog_1_method_21_code 53 (.iconst 1) 1 := by decide +kernel
theorem d10_54 : dc prog_1_method_21_code 54 (.ireturn) 1 := by decide +kernel
abbrev y10 : MethodName := ⟨"PictureCobol", "operandsOk", "(III)Z"⟩
theorem hy10 : y10.cls ≠ "java/lang/invoke/MethodHandle" ∧ y10.cls ≠ "java/lang/invoke/VarHandle" := by decide
theorem pd10 : parseMethodDescriptor y10.desc = some ⟨[.int, .int, .int], some .boolean⟩ := by decide +kernel
abbrev R10 : Room := { frames := 1, cells := 0, slots := 0, locals := 13 }
abbrev P10 (s : St) (r : Int32) : Option Value → List OwnC → Prop := fun v H' => v = some (.int r) ∧ H' = (Hb 0 s)
abbrev W10 (l : Launch) (Z : State) (n0 : Nat) (Q : Option Value → List OwnC → Prop) (k n pc : Nat) (L : List Slot) (S : List Value) (H : List OwnC) : Prop := WP l Z CN lay "PictureCobol" "operandsOk" prog_1_method_21_code 4 (some FieldType.boolean) R10 n0 0 Q k n pc L S H
def f_operandsOk_52 (t0 : Int32) (s : St) : Option (Int32) :=
  some (t0 &&& 1)
set_option maxRecDepth 65536 in
set_option maxHeartbeats 4000000 in
theorem ok10_52 (l : Launch) (Z : State) (a0 : Array Value) (hw : HW a0 Z) (n0 : Nat) (t0 : Int32) (s : St) (r : Int32) (h : f_operandsOk_52 t0 s = some r) : W10 l Z n0 (P10 s r) 0 0 52 [.unset, .unset, .unset, .unset] [.int t0] (Hb 0 s) := by
  unfold f_operandsOk_52 at h
  cases h
  exact WP.zreturn d10_52 rfl (leb rfl) (leb rfl) ⟨rfl, rfl⟩
def f_operandsOk_51 (s : St) : Option (Int32) :=
  f_operandsOk_52 (0 : Int32) s
set_option maxRecDepth 65536 in
set_option maxHeartbeats 4000000 in
theorem ok10_51 (l : Launch) (Z : State) (a0 : Array Value) (hw : HW a0 Z) (n0 : Nat) (s : St) (r : Int32) (h : f_operandsOk_51 s = some r) : W10 l Z n0 (P10 s r) 0 0 51 [.unset, .unset, .unset, .unset] [] (Hb 0 s) := by
  unfold f_operandsOk_51 at h
  refine WP.iconst (0 : Int32) d10_51 rfl ?_
  exact WP.weak (L' := [.unset, .unset, .unset, .unset]) trivial (ok10_52 l Z a0 hw n0 (0 : Int32) s _ h)
def f_operandsOk_31 (v2 : Int32) (v3 : Int32) (s : St) : Option (Int32) :=
  (f_isField v2 s).bind fun c1 =>
  if c1 = 0 then
    f_operandsOk_51 s
  else
    (f_isField v3 s).bind fun c3 =>
    if c3 = 0 then
      f_operandsOk_51 s
    else
      f_operandsOk_52 (1 : Int32) s
set_option maxRecDepth 65536 in
set_option maxHeartbeats 4000000 in
theorem ok10_31 (l : Launch) (Z : State) (a0 : Array Value) (hw : HW a0 Z) (n0 : Nat) (v2 : Int32) (v3 : Int32) (s : St) (r : Int32) (h : f_operandsOk_31 v2 v3 s = some r) : W10 l Z n0 (P10 s r) 0 0 31 [.val (.ref 0), .unset, .val (.int v2), .val (.int v3)] [] (Hb 0 s) := by
  unfold f_operandsOk_31 at h
  refine WP.aloadN d10_31 rfl ?_
  refine WP.iloadN d10_32 rfl ?_
  obtain ⟨c1, hc1, h⟩ := Option.bind_eq_some_iff.mp h
  refine WP.callP (i := 0) (y := y11) (as := [.int v2]) (S := []) d10_33 (hw _ m_98) (hw _ m_100) (hw _ m_1) (hw _ m_99) (hw _ m_101) (hw _ m_2) hy11 rfl (ok11 l Z a0 hw v2 s _ hc1) rfl (lenOf pd11 rfl) (leb rfl) (leb rfl) (leb rfl) (leb rfl) ?_
  rintro _ _ ⟨rfl, rfl⟩
  show W10 l Z n0 (P10 s r) 0 0 36 [.val (.ref 0), .unset, .val (.int v2), .val (.int v3)] [.int c1] (Hb 0 s)
  rcases ite_e h with ⟨hc2, h⟩ | ⟨hc2, h⟩
  ·
    refine WP.ifY (pc' := 51) d10_36 (XT.i0_eq_t hc2) (by decide) rfl ?_
    exact WP.weak (L' := [.unset, .unset, .unset, .unset]) trivial (ok10_51 l Z a0 hw n0 s _ h)
  ·
    refine WP.ifN d10_36 (XT.i0_eq_f hc2) ?_
    refine WP.aloadN d10_39 rfl ?_
    refine WP.iloadN d10_40 rfl ?_
    obtain ⟨c3, hc3, h⟩ := Option.bind_eq_some_iff.mp h
    refine WP.callP (i := 0) (y := y11) (as := [.int v3]) (S := []) d10_41 (hw _ m_98) (hw _ m_100) (hw _ m_1) (hw _ m_99) (hw _ m_101) (hw _ m_2) hy11 rfl (ok11 l Z a0 hw v3 s _ hc3) rfl (lenOf pd11 rfl) (leb rfl) (leb rfl) (leb rfl) (leb rfl) ?_
    rintro _ _ ⟨rfl, rfl⟩
    show W10 l Z n0 (P10 s r) 0 0 44 [.val (.ref 0), .unset, .val (.int v2), .val (.int v3)] [.int c3] (Hb 0 s)
    rcases ite_e h with ⟨hc4, h⟩ | ⟨hc4, h⟩
    ·
      refine WP.ifY (pc' := 51) d10_44 (XT.i0_eq_t hc4) (by decide) rfl ?_
      exact WP.weak (L' := [.unset, .unset, .unset, .unset]) trivial (ok10_51 l Z a0 hw n0 s _ h)
    ·
      refine WP.ifN d10_44 (XT.i0_eq_f hc4) ?_
      refine WP.iconst (1 : Int32) d10_47 rfl ?_
      refine WP.goto (pc' := 52) d10_48 (by decide) rfl ?_
      exact WP.weak (L' := [.unset, .unset, .unset, .unset]) trivial (ok10_52 l Z a0 hw n0 (1 : Int32) s _ h)
def f_operandsOk (p1 : Int32) (p2 : Int32) (p3 : Int32) (s : St) : Option (Int32) :=
  if p1 = (1 : Int32) then
    (f_isField p2 s).bind fun c2 =>
    some (c2 &&& 1)
  else
    (f_isArith p1 s).bind fun c3 =>
    if c3 = 0 then
      if p1 = (6 : Int32) then
        f_operandsOk_31 p2 p3 s
      else
        if p1 = (7 : Int32) then
          f_operandsOk_31 p2 p3 s
        else
          some (1 : Int32)
    else
      f_operandsOk_31 p2 p3 s
set_option maxRecDepth 65536 in
set_option maxHeartbeats 4000000 in
theorem ok10 (l : Launch) (Z : State) (a0 : Array Value) (hw : HW a0 Z) (p1 : Int32) (p2 : Int32) (p3 : Int32) (s : St) (r : Int32) (h : f_operandsOk p1 p2 p3 s = some r) : CS l Z CN lay y10 prog_1_method_21_code 4 (some FieldType.boolean) R10 0 [.ref 0, .int p1, .int p2, .int p3] (Hb 0 s) (P10 s r) := by
  refine CS.of_wp pn_cls (leb rfl) fun n0 => ?_
  show W10 l Z n0 (P10 s r) 0 0 0 [.val (.ref 0), .val (.int p1), .val (.int p2), .val (.int p3)] [] (Hb 0 s)
  unfold f_operandsOk at h
  refine WP.iloadN d10_0 rfl ?_
  refine WP.iconst (1 : Int32) d10_1 rfl ?_
  rcases ite_e h with ⟨hc1, h⟩ | ⟨hc1, h⟩
  ·
    refine WP.icmpN d10_2 (XT.ii_ne_f hc1) ?_
    refine WP.aloadN d10_5 rfl ?_
    refine WP.iloadN d10_6 rfl ?_
    obtain ⟨c2, hc2, h⟩ := Option.bind_eq_some_iff.mp h
    refine WP.callP (i := 0) (y := y11) (as := [.int p2]) (S := []) d10_7 (hw _ m_98) (hw _ m_100) (hw _ m_1) (hw _ m_99) (hw _ m_101) (hw _ m_2) hy11 rfl (ok11 l Z a0 hw p2 s _ hc2) rfl (lenOf pd11 rfl) (leb rfl) (leb rfl) (leb rfl) (leb rfl) ?_
    rintro _ _ ⟨rfl, rfl⟩
    show W10 l Z n0 (P10 s r) 0 0 10 [.val (.ref 0), .val (.int p1), .val (.int p2), .val (.int p3)] [.int c2] (Hb 0 s)
    cases h
    exact WP.zreturn d10_10 rfl (leb rfl) (leb rfl) ⟨rfl, rfl⟩
  ·
    refine WP.icmpY (pc' := 11) d10_2 (XT.ii_ne_t hc1) (by decide) rfl ?_
    refine WP.aloadN d10_11 rfl ?_
    refine WP.iloadN d10_12 rfl ?_
    obtain ⟨c3, hc3, h⟩ := Option.bind_eq_some_iff.mp h
    refine WP.callP (i := 0) (y := y13) (as := [.int p1]) (S := []) d10_13 (hw _ m_106) (hw _ m_108) (hw _ m_1) (hw _ m_107) (hw _ m_109) (hw _ m_2) hy13 rfl (ok13 l Z a0 hw p1 s _ hc3) rfl (lenOf pd13 rfl) (leb rfl) (leb rfl) (leb rfl) (leb rfl) ?_
    rintro _ _ ⟨rfl, rfl⟩
    show W10 l Z n0 (P10 s r) 0 0 16 [.val (.ref 0), .val (.int p1), .val (.int p2), .val (.int p3)] [.int c3] (Hb 0 s)
    rcases ite_e h with ⟨hc4, h⟩ | ⟨hc4, h⟩
    ·
      refine WP.ifN d10_16 (XT.i0_ne_f hc4) ?_
      refine WP.iloadN d10_19 rfl ?_
      refine WP.bipush (6 : Int32) d10_20 rfl ?_
      rcases ite_e h with ⟨hc5, h⟩ | ⟨hc5, h⟩
      ·
        refine WP.icmpY (pc' := 31) d10_22 (XT.ii_eq_t hc5) (by decide) rfl ?_
        exact WP.weak (L' := [.val (.ref 0), .unset, .val (.int p2), .val (.int p3)]) ⟨rfl, rfl, rfl, trivial⟩ (ok10_31 l Z a0 hw n0 p2 p3 s _ h)
      ·
        refine WP.icmpN d10_22 (XT.ii_eq_f hc5) ?_
        refine WP.iloadN d10_25 rfl ?_
        refine WP.bipush (7 : Int32) d10_26 rfl ?_
        rcases ite_e h with ⟨hc6, h⟩ | ⟨hc6, h⟩
        ·
          refine WP.icmpN d10_28 (XT.ii_ne_f hc6) ?_
          exact WP.weak (L' := [.val (.ref 0), .unset, .val (.int p2), .val (.int p3)]) ⟨rfl, rfl, rfl, trivial⟩ (ok10_31 l Z a0 hw n0 p2 p3 s _ h)
        ·
          refine WP.icmpY (pc' := 53) d10_28 (XT.ii_ne_t hc6) (by decide) rfl ?_
          refine WP.iconst (1 : Int32) d10_53 rfl ?_
          cases h
          exact WP.zreturn d10_54 rfl (leb rfl) (leb rfl) ⟨rfl, rfl⟩
    ·
      refine WP.ifY (pc' := 31) d10_16 (XT.i0_ne_t hc4) (by decide) rfl ?_
      exact WP.weak (L' := [.val (.ref 0), .unset, .val (.int p2), .val (.int p3)]) ⟨rfl, rfl, rfl, trivial⟩ (ok10_31 l Z a0 hw n0 p2 p3 s _ h)
theorem d3_0 : dc prog_1_method_4_code 0 (.aload_n 0) 1 := by decide +kernel
theorem d3_1 : dc prog_1_method_4_code 1 (.getfield 61) 3 := by decide +kernel
theorem d3_4 : dc prog_1_method_4_code 4 (.ifCond .ne 14) 3 := by decide +kernel
theorem d3_7 : dc prog_1_method_4_code 7 (.aload_n 0) 1 := by decide +kernel
theorem d3_8 : dc prog_1_method_4_code 8 (.getfield 58) 3 := by decide +kernel
theorem d3_11 : dc prog_1_method_4_code 11 (.aload_n 0) 1 := by decide +kernel
theorem d3_12 : dc prog_1_method_4_code 12 (.getfield 52) 3 := by decide +kernel
theorem d3_15 : dc prog_1_method_4_code 15 (.if_icmp .ne 5) 3 := by decide +kernel
theorem d3_18 : dc prog_1_method_4_code 18 (.iconst (-1)) 1 := by decide +kernel
theorem d3_19 : dc prog_1_method_4_code 19 (.ireturn) 1 := by decide +kernel
theorem d3_20 : dc prog_1_method_4_code 20 (.aload_n 0) 1 := by decide +kernel
theorem d3_21 : dc prog_1_method_4_code 21 (.iload_n 1) 1 := by decide +kernel
theorem d3_22 : dc prog_1_method_4_code 22 (.invokevirtual 89) 3 := by decide +kernel
theorem d3_25 : dc prog_1_method_4_code 25 (.ifCond .ne 5) 3 := by decide +kernel
theorem d3_28 : dc prog_1_method_4_code 28 (.iconst (-1)) 1 := by decide +kernel
theorem d3_29 : dc prog_1_method_4_code 29 (.ireturn) 1 := by decide +kernel
theorem d3_30 : dc prog_1_method_4_code 30 (.iload_n 1) 1 := by decide +kernel
theorem d3_31 : dc prog_1_method_4_code 31 (.bipush 15) 2 := by decide +kernel
theorem d3_33 : dc prog_1_method_4_code 33 (.iand) 1 := by decide +kernel
theorem d3_34 : dc prog_1_method_4_code 34 (.istore 5) 2 := by decide +kernel
theorem d3_36 : dc prog_1_method_4_code 36 (.aload_n 0) 1 := by decide +kernel
theorem d3_37 : dc prog_1_method_4_code 37 (.iload 5) 2 := by decide +kernel
theorem d3_39 : dc prog_1_method_4_code 39 (.iload_n 2) 1 := by decide +kernel
theorem d3_40 : dc prog_1_method_4_code 40 (.iload_n 3) 1 := by decide +kernel
theorem d3_41 : dc prog_1_method_4_code 41 (.invokevirtual 92) 3 := by decide +kernel
theorem d3_44 : dc prog_1_method_4_code 44 (.ifCond .ne 5) 3 := by decide +kernel
theorem d3_47 : dc prog_1_method_4_code 47 (.iconst (-1)) 1 := by decide +kernel
theorem d3_48 : dc prog_1_method_4_code 48 (.ireturn) 1 := by decide +kernel
theorem d3_49 : dc prog_1_method_4_code 49 (.iload 5) 2 := by decide +kernel
theorem d3_51 : dc prog_1_method_4_code 51 (.iconst 1) 1 := by decide +kernel
theorem d3_52 : dc prog_1_method_4_code 52 (.if_icmp .ne 14) 3 := by decide +kernel
theorem d3_55 : dc prog_1_method_4_code 55 (.aload_n 0) 1 := by decide +kernel
theorem d3_56 : dc prog_1_method_4_code 56 (.iload 4) 2 := by decide +kernel
theorem d3_58 : dc prog_1_method_4_code 58 (.invokevirtual 77) 3 := by decide +kernel
theorem d3_61 : dc prog_1_method_4_code 61 (.ifCond .ne 5) 3 := by decide +kernel
theorem d3_64 : dc prog_1_method_4_code 64 (.iconst (-1)) 1 := by decide +kernel
theorem d3_65 : dc prog_1_method_4_code 65 (.ireturn) 1 := by decide +kernel
theorem d3_66 : dc prog_1_method_4_code 66 (.iload 5) 2 := by decide +kernel
theorem d3_68 : dc prog_1_method_4_code 68 (.iconst 2) 1 := by decide +kernel
theorem d3_69 : dc prog_1_method_4_code 69 (.if_icmp .lt 20) 3 := by decide +kernel
theorem d3_72 : dc prog_1_method_4_code 72 (.iload 5) 2 := by decide +kernel
theorem d3_74 : dc prog_1_method_4_code 74 (.iconst 5) 1 := by decide +kernel
theorem d3_75 : dc prog_1_method_4_code 75 (.if_icmp .gt 14) 3 := by decide +kernel
theorem d3_78 : dc prog_1_method_4_code 78 (.aload_n 0) 1 := by decide +kernel
theorem d3_79 : dc prog_1_method_4_code 79 (.iload 4) 2 := by decide +kernel
theorem d3_81 : dc prog_1_method_4_code 81 (.invokevirtual 77) 3 := by decide +kernel
theorem d3_84 : dc prog_1_method_4_code 84 (.ifCond .ne 5) 3 := by decide +kernel
theorem d3_87 : dc prog_1_method_4_code 87 (.iconst (-1)) 1 := by decide +kernel
theorem d3_88 : dc prog_1_method_4_code 88 (.ireturn) 1 := by decide +kernel
theorem d3_89 : dc prog_1_method_4_code 89 (.aload_n 0) 1 := by decide +kernel
theorem d3_90 : dc prog_1_method_4_code 90 (.getfield 58) 3 := by decide +kernel
theorem d3_93 : dc prog_1_method_4_code 93 (.ifCond .lt 12) 3 := by decide +kernel
theorem d3_96 : dc prog_1_method_4_code 96 (.aload_n 0) 1 := by decide +kernel
theorem d3_97 : dc prog_1_method_4_code 97 (.getfield 58) 3 := by decide +kernel
theorem d3_100 : dc prog_1_method_4_code 100 (.bipush 32) 2 := by decide +kernel
theorem d3_102 : dc prog_1_method_4_code 102 (.if_icmp .lt 5) 3 := by decide +kernel
theorem d3_105 : dc prog_1_method_4_code 105 (.iconst (-1)) 1 := by decide +kernel
theorem d3_106 : dc prog_1_method_4_code 106 (.ireturn) 1 := by decide +kernel
theorem d3_107 : dc prog_1_method_4_code 107 (.aload_n 0) 1 := by decide +kernel
theorem d3_108 : dc prog_1_method_4_code 108 (.getfield 58) 3 := by decide +kernel
theorem d3_111 : dc prog_1_method_4_code 111 (.istore 6) 2 := by decide +kernel
theorem d3_113 : dc prog_1_method_4_code 113 (.aload_n 0) 1 := by decide +kernel
theorem d3_114 : dc prog_1_method_4_code 114 (.getfield 23) 3 := by decide +kernel
theorem d3_117 : dc prog_1_method_4_code 117 (.iload 6) 2 := by decide +kernel
theorem d3_119 : dc prog_1_method_4_code 119 (.iload 5) 2 := by decide +kernel
theorem d3_121 : dc prog_1_method_4_code 121 (.iastore) 1 := by decide +kernel
theorem d3_122 : dc prog_1_method_4_code 122 (.aload_n 0) 1 := by decide +kernel
theorem d3_123 : dc prog_1_method_4_code 123 (.getfield 26) 3 := by decide +kernel
theorem d3_126 : dc prog_1_method_4_code 126 (.iload 6) 2 := by decide +kernel
theorem d3_128 : dc prog_1_method_4_code 128 (.iload_n 1) 1 := by decide +kernel
theorem d3_129 : dc prog_1_method_4_code 129 (.bipush 16) 2 := by decide +kernel
theorem d3_131 : dc prog_1_method_4_code 131 (.if_icmp .lt 7) 3 := by decide +kernel
theorem d3_134 : dc prog_1_method_4_code 134 (.iconst 1) 1 := by decide +kernel
theorem d3_135 : dc prog_1_method_4_code 135 (.goto 4) 3 := by decide +kernel
theorem d3_138 : dc prog_1_method_4_code 138 (.iconst 0) 1 := by decide +kernel
theorem d3_139 : dc prog_1_method_4_code 139 (.bastore) 1 := by decide +kernel
theorem d3_140 : dc prog_1_method_4_code 140 (.aload_n 0) 1 := by decide +kernel
theorem d3_141 : dc prog_1_method_4_code 141 (.getfield 29) 3 := by decide +kernel
theorem d3_144 : dc prog_1_method_4_code 144 (.iload 6) 2 := by decide +kernel
theorem d3_146 : dc prog_1_method_4_code 146 (.iload_n 2) 1 := by decide +kernel
theorem d3_147 : dc prog_1_method_4_code 147 (.iastore) 1 := by decide +kernel
theorem d3_148 : dc prog_1_method_4_code 148 (.aload_n 0) 1 := by decide +kernel
theorem d3_149 : dc prog_1_method_4_code 149 (.getfield 32) 3 := by decide +kernel
theorem d3_152 : dc prog_1_method_4_code 152 (.iload 6) 2 := by decide +kernel
theorem d3_154 : dc prog_1_method_4_code 154 (.iload_n 3) 1 := by decide +kernel
theorem d3_155 : dc prog_1_method_4_code 155 (.iastore) 1 := by decide +kernel
theorem d3_156 : dc prog_1_method_4_code 156 (.aload_n 0) 1 := by decide +kernel
theorem d3_157 : dc prog_1_method_4_code 157 (.getfield 35) 3 := by decide +kernel
theorem d3_160 : dc prog_1_method_4_code 160 (.iload 6) 2 := by decide +kernel
theorem d3_162 : dc prog_1_method_4_code 162 (.iload 4) 2 := by decide +kernel
theorem d3_164 : dc prog_1_method_4_code 164 (.iastore) 1 := by decide +kernel
theorem d3_165 : dc prog_1_method_4_code 165 (.aload_n 0) 1 := by decide +kernel
theorem d3_166 : dc prog_1_method_4_code 166 (.getfield 38) 3 := by decide +kernel
theorem d3_169 : dc prog_1_method_4_code 169 (.iload 6) 2 := by decide +kernel
theorem d3_171 : dc prog_1_method_4_code 171 (.iconst 0) 1 := by decide +kernel
theorem d3_172 : dc prog_1_method_4_code 172 (.bastore) 1 := by decide +kernel
theorem d3_173 : dc prog_1_method_4_code 173 (.aload_n 0) 1 := by decide +kernel
theorem d3_174 : dc prog_1_method_4_code 174 (.getfield 41) 3 := by decide +kernel
theorem d3_177 : dc prog_1_method_4_code 177 (.iload 6) 2 := by decide +kernel
theorem d3_179 : dc prog_1_method_4_code 179 (.iconst 0) 1 := by decide +kernel
theorem d3_180 : dc prog_1_method_4_code 180 (.iastore) 1 := by decide +kernel
theorem d3_181 : dc prog_1_method_4_code 181 (.aload_n 0) 1 := by decide +kernel
theorem d3_182 : dc prog_1_method_4_code 182 (.iload 6) 2 := by decide +kernel
theorem d3_184 : dc prog_1_method_4_code 184 (.iconst 1) 1 := by decide +kernel
theorem d3_185 : dc prog_1_method_4_code 185 (.iadd) 1 := by decide +kernel
theorem d3_186 : dc prog_1_method_4_code 186 (.putfield 58) 3 := by decide +kernel
theorem d3_189 : dc prog_1_method_4_code 189 (.iload 6) 2 := by decide +kernel
theorem d3_191 : dc prog_1_method_4_code 191 (.ireturn) 1 := by decide +kernel
abbrev y3 : MethodName := ⟨"PictureCobol", "statement", "(IIII)I"⟩
theorem hy3 : y3.cls ≠ "java/lang/invoke/MethodHandle" ∧ y3.cls ≠ "java/lang/invoke/VarHandle" := by decide
theorem pd3 : parseMethodDescriptor y3.desc = some ⟨[.int, .int, .int, .int], some .int⟩ := by decide +kernel
abbrev R3 : Room := { frames := 2, cells := 0, slots := 0, locals := 28 }
abbrev P3 (r : Int32 × St) : Option Value → List OwnC → Prop := fun v H' => v = some (.int r.1) ∧ H' = (Hb 0 r.2)
abbrev W3 (l : Launch) (Z : State) (n0 : Nat) (Q : Option Value → List OwnC → Prop) (k n pc : Nat) (L : List Slot) (S : List Value) (H : List OwnC) : Prop := WP l Z CN lay "PictureCobol" "statement" prog_1_method_4_code 7 (some FieldType.int) R3 n0 0 Q k n pc L S H
def f_statement_18 (s : St) : Option (Int32 × St) :=
  some ((-1 : Int32), s)
set_option maxRecDepth 65536 in
set_option maxHeartbeats 4000000 in
theorem ok3_18 (l : Launch) (Z : State) (a0 : Array Value) (hw : HW a0 Z) (n0 : Nat) (s : St) (r : Int32 × St) (h : f_statement_18 s = some r) : W3 l Z n0 (P3 r) 0 0 18 [.unset, .unset, .unset, .unset, .unset, .unset, .unset] [] (Hb 0 s) := by
  unfold f_statement_18 at h
  refine WP.iconst (-1 : Int32) d3_18 rfl ?_
  cases h
  exact WP.ireturn d3_19 rfl (leb rfl) (leb rfl) ⟨rfl, rfl⟩
def f_statement_105 (s : St) : Option (Int32 × St) :=
  some ((-1 : Int32), s)
set_option maxRecDepth 65536 in
set_option maxHeartbeats 4000000 in
theorem ok3_105 (l : Launch) (Z : State) (a0 : Array Value) (hw : HW a0 Z) (n0 : Nat) (s : St) (r : Int32 × St) (h : f_statement_105 s = some r) : W3 l Z n0 (P3 r) 0 0 105 [.unset, .unset, .unset, .unset, .unset, .unset, .unset] [] (Hb 0 s) := by
  unfold f_statement_105 at h
  refine WP.iconst (-1 : Int32) d3_105 rfl ?_
  cases h
  exact WP.ireturn d3_106 rfl (leb rfl) (leb rfl) ⟨rfl, rfl⟩
def f_statement_139 (v2 : Int32) (v3 : Int32) (v4 : Int32) (v6 : Int32) (t0 : Int32) (t1 : Int32) (s : St) : Option (Int32 × St) :=
  (wrA s 5 t1 (t0 &&& 1)).bind fun s1 =>
  (wrA s1 6 v6 v2).bind fun s2 =>
  (wrA s2 7 v6 v3).bind fun s3 =>
  (wrA s3 8 v6 v4).bind fun s4 =>
  (wrA s4 9 v6 (0 : Int32)).bind fun s5 =>
  (wrA s5 10 v6 (0 : Int32)).bind fun s6 =>
  lt (sI s6 3 (v6 + (1 : Int32))) fun s7 =>
  some (v6, s7)
set_option maxRecDepth 65536 in
set_option maxHeartbeats 4000000 in
theorem ok3_139 (l : Launch) (Z : State) (a0 : Array Value) (hw : HW a0 Z) (n0 : Nat) (v2 : Int32) (v3 : Int32) (v4 : Int32) (v6 : Int32) (t0 : Int32) (t1 : Int32) (s : St) (r : Int32 × St) (h : f_statement_139 v2 v3 v4 v6 t0 t1 s = some r) : W3 l Z n0 (P3 r) 0 0 139 [.val (.ref 0), .unset, .val (.int v2), .val (.int v3), .val (.int v4), .unset, .val (.int v6)] [.int t0, .int t1, .ref 6] (Hb 0 s) := by
  unfold f_statement_139 at h
  obtain ⟨s1, hs1, h⟩ := Option.bind_eq_some_iff.mp h
  obtain ⟨ys1, gs1, es1⟩ := wrA_e hs1
  refine WP.bastore (i := 6) (xs := gA s 5) (H' := (Hb 0 s1)) d3_139 rfl (leb rfl) gs1 (by subst es1; rfl) ?_
  refine WP.aloadN d3_140 rfl ?_
  refine WP.getfield (i := 0) (j := 10) d3_141 (hw _ m_23) rfl rfl rfl ?_
  refine WP.iload d3_144 rfl ?_
  refine WP.iloadN d3_146 rfl ?_
  obtain ⟨s2, hs2, h⟩ := Option.bind_eq_some_iff.mp h
  obtain ⟨ys2, gs2, es2⟩ := wrA_e hs2
  refine WP.iastore (i := 7) (xs := gA s1 6) (H' := (Hb 0 s2)) d3_147 rfl (leb rfl) gs2 (by subst es2; rfl) ?_
  refine WP.aloadN d3_148 rfl ?_
  refine WP.getfield (i := 0) (j := 11) d3_149 (hw _ m_25) rfl rfl rfl ?_
  refine WP.iload d3_152 rfl ?_
  refine WP.iloadN d3_154 rfl ?_
  obtain ⟨s3, hs3, h⟩ := Option.bind_eq_some_iff.mp h
  obtain ⟨ys3, gs3, es3⟩ := wrA_e hs3
  refine WP.iastore (i := 8) (xs := gA s2 7) (H' := (Hb 0 s3)) d3_155 rfl (leb rfl) gs3 (by subst es3; rfl) ?_
  refine WP.aloadN d3_156 rfl ?_
  refine WP.getfield (i := 0) (j := 12) d3_157 (hw _ m_27) rfl rfl rfl ?_
  refine WP.iload d3_160 rfl ?_
  refine WP.iload d3_162 rfl ?_
  obtain ⟨s4, hs4, h⟩ := Option.bind_eq_some_iff.mp h
  obtain ⟨ys4, gs4, es4⟩ := wrA_e hs4
  refine WP.iastore (i := 9) (xs := gA s3 8) (H' := (Hb 0 s4)) d3_164 rfl (leb rfl) gs4 (by subst es4; rfl) ?_
  refine WP.aloadN d3_165 rfl ?_
  refine WP.getfield (i := 0) (j := 13) d3_166 (hw _ m_29) rfl rfl rfl ?_
  refine WP.iload d3_169 rfl ?_
  refine WP.iconst (0 : Int32) d3_171 rfl ?_
  obtain ⟨s5, hs5, h⟩ := Option.bind_eq_some_iff.mp h
  obtain ⟨ys5, gs5, es5⟩ := wrA_e hs5
  refine WP.bastore (i := 10) (xs := gA s4 9) (H' := (Hb 0 s5)) d3_172 rfl (leb rfl) gs5 (by subst es5; rfl) ?_
  refine WP.aloadN d3_173 rfl ?_
  refine WP.getfield (i := 0) (j := 14) d3_174 (hw _ m_31) rfl rfl rfl ?_
  refine WP.iload d3_177 rfl ?_
  refine WP.iconst (0 : Int32) d3_179 rfl ?_
  obtain ⟨s6, hs6, h⟩ := Option.bind_eq_some_iff.mp h
  obtain ⟨ys6, gs6, es6⟩ := wrA_e hs6
  refine WP.iastore (i := 11) (xs := gA s5 10) (H' := (Hb 0 s6)) d3_180 rfl (leb rfl) gs6 (by subst es6; rfl) ?_
  refine WP.aloadN d3_181 rfl ?_
  refine WP.iload d3_182 rfl ?_
  refine WP.iconst (1 : Int32) d3_184 rfl ?_
  refine WP.iadd d3_185 ?_
  obtain ⟨s7, es7, h⟩ := lt_e h
  refine WP.putI (i := 0) (j := 7) (H' := (Hb 0 s7)) d3_186 (hw _ m_43) (Or.inl (hw _ m_44)) (hw _ m_1) (hlay hw) rfl rfl rfl (leb rfl) (by subst es7; rfl) ?_
  refine WP.iload d3_189 rfl ?_
  cases h
  exact WP.ireturn d3_191 rfl (leb rfl) (leb rfl) ⟨rfl, rfl⟩
def f_statement_89 (v1 : Int32) (v2 : Int32) (v3 : Int32) (v4 : Int32) (v5 : Int32) (s : St) : Option (Int32 × St) :=
  if (gI s 3) < 0 then
    f_statement_105 s
  else
    if (gI s 3) < (32 : Int32) then
      lt (gI s 3) fun x3 =>
      (wrA s 4 x3 v5).bind fun s4 =>
      if v1 < (16 : Int32) then
        f_statement_139 v2 v3 v4 x3 (0 : Int32) x3 s4
      else
        f_statement_139 v2 v3 v4 x3 (1 : Int32) x3 s4
    else
      f_statement_105 s
set_option maxRecDepth 65536 in
set_option maxHeartbeats 4000000 in
theorem ok3_89 (l : Launch) (Z : State) (a0 : Array Value) (hw : HW a0 Z) (n0 : Nat) (v1 : Int32) (v2 : Int32) (v3 : Int32) (v4 : Int32) (v5 : Int32) (s : St) (r : Int32 × St) (h : f_statement_89 v1 v2 v3 v4 v5 s = some r) : W3 l Z n0 (P3 r) 0 0 89 [.val (.ref 0), .val (.int v1), .val (.int v2), .val (.int v3), .val (.int v4), .val (.int v5), .unset] [] (Hb 0 s) := by
  unfold f_statement_89 at h
  refine WP.aloadN d3_89 rfl ?_
  refine WP.getfield (i := 0) (j := 7) d3_90 (hw _ m_43) rfl rfl rfl ?_
  rcases ite_e h with ⟨hc1, h⟩ | ⟨hc1, h⟩
  ·
    refine WP.ifY (pc' := 105) d3_93 (XT.i0_lt_t hc1) (by decide) rfl ?_
    exact WP.weak (L' := [.unset, .unset, .unset, .unset, .unset, .unset, .unset]) trivial (ok3_105 l Z a0 hw n0 s _ h)
  ·
    refine WP.ifN d3_93 (XT.i0_lt_f hc1) ?_
    refine WP.aloadN d3_96 rfl ?_
    refine WP.getfield (i := 0) (j := 7) d3_97 (hw _ m_43) rfl rfl rfl ?_
    refine WP.bipush (32 : Int32) d3_100 rfl ?_
    rcases ite_e h with ⟨hc2, h⟩ | ⟨hc2, h⟩
    ·
      refine WP.icmpY (pc' := 107) d3_102 (XT.ii_lt_t hc2) (by decide) rfl ?_
      refine WP.aloadN d3_107 rfl ?_
      refine WP.getfield (i := 0) (j := 7) d3_108 (hw _ m_43) rfl rfl rfl ?_
      obtain ⟨x3, ex3, h⟩ := lt_e h
      refine WP.istore (L' := [.val (.ref 0), .val (.int v1), .val (.int v2), .val (.int v3), .val (.int v4), .val (.int v5), .val (.int x3)]) d3_111 (leb rfl) (by subst ex3; rfl) ?_
      refine WP.aloadN d3_113 rfl ?_
      refine WP.getfield (i := 0) (j := 8) d3_114 (hw _ m_19) rfl rfl rfl ?_
      refine WP.iload d3_117 rfl ?_
      refine WP.iload d3_119 rfl ?_
      obtain ⟨s4, hs4, h⟩ := Option.bind_eq_some_iff.mp h
      obtain ⟨ys4, gs4, es4⟩ := wrA_e hs4
      refine WP.iastore (i := 5) (xs := gA s 4) (H' := (Hb 0 s4)) d3_121 rfl (leb rfl) gs4 (by subst es4; rfl) ?_
      refine WP.aloadN d3_122 rfl ?_
      refine WP.getfield (i := 0) (j := 9) d3_123 (hw _ m_21) rfl rfl rfl ?_
      refine WP.iload d3_126 rfl ?_
      refine WP.iloadN d3_128 rfl ?_
      refine WP.bipush (16 : Int32) d3_129 rfl ?_
      rcases ite_e h with ⟨hc5, h⟩ | ⟨hc5, h⟩
      ·
        refine WP.icmpY (pc' := 138) d3_131 (XT.ii_lt_t hc5) (by decide) rfl ?_
        refine WP.iconst (0 : Int32) d3_138 rfl ?_
        exact WP.weak (L' := [.val (.ref 0), .unset, .val (.int v2), .val (.int v3), .val (.int v4), .unset, .val (.int x3)]) ⟨rfl, rfl, rfl, rfl, rfl, trivial⟩ (ok3_139 l Z a0 hw n0 v2 v3 v4 x3 (0 : Int32) x3 s4 _ h)
      ·
        refine WP.icmpN d3_131 (XT.ii_lt_f hc5) ?_
        refine WP.iconst (1 : Int32) d3_134 rfl ?_
        refine WP.goto (pc' := 139) d3_135 (by decide) rfl ?_
        exact WP.weak (L' := [.val (.ref 0), .unset, .val (.int v2), .val (.int v3), .val (.int v4), .unset, .val (.int x3)]) ⟨rfl, rfl, rfl, rfl, rfl, trivial⟩ (ok3_139 l Z a0 hw n0 v2 v3 v4 x3 (1 : Int32) x3 s4 _ h)
    ·
      refine WP.icmpN d3_102 (XT.ii_lt_f hc2) ?_
      exact WP.weak (L' := [.unset, .unset, .unset, .unset, .unset, .unset, .unset]) trivial (ok3_105 l Z a0 hw n0 s _ h)
def f_statement_66 (v1 : Int32) (v2 : Int32) (v3 : Int32) (v4 : Int32) (v5 : Int32) (s : St) : Option (Int32 × St) :=
  if v5 < (2 : Int32) then
    f_statement_89 v1 v2 v3 v4 v5 s
  else
    if (5 : Int32) < v5 then
      f_statement_89 v1 v2 v3 v4 v5 s
    else
      (f_isField v4 s).bind fun c3 =>
      if c3 = 0 then
        some ((-1 : Int32), s)
      else
        f_statement_89 v1 v2 v3 v4 v5 s
set_option maxRecDepth 65536 in
set_option maxHeartbeats 4000000 in
theorem ok3_66 (l : Launch) (Z : State) (a0 : Array Value) (hw : HW a0 Z) (n0 : Nat) (v1 : Int32) (v2 : Int32) (v3 : Int32) (v4 : Int32) (v5 : Int32) (s : St) (r : Int32 × St) (h : f_statement_66 v1 v2 v3 v4 v5 s = some r) : W3 l Z n0 (P3 r) 0 0 66 [.val (.ref 0), .val (.int v1), .val (.int v2), .val (.int v3), .val (.int v4), .val (.int v5), .unset] [] (Hb 0 s) := by
  unfold f_statement_66 at h
  refine WP.iload d3_66 rfl ?_
  refine WP.iconst (2 : Int32) d3_68 rfl ?_
  rcases ite_e h with ⟨hc1, h⟩ | ⟨hc1, h⟩
  ·
    refine WP.icmpY (pc' := 89) d3_69 (XT.ii_lt_t hc1) (by decide) rfl ?_
    exact WP.weak (L' := [.val (.ref 0), .val (.int v1), .val (.int v2), .val (.int v3), .val (.int v4), .val (.int v5), .unset]) ⟨rfl, rfl, rfl, rfl, rfl, rfl, trivial⟩ (ok3_89 l Z a0 hw n0 v1 v2 v3 v4 v5 s _ h)
  ·
    refine WP.icmpN d3_69 (XT.ii_lt_f hc1) ?_
    refine WP.iload d3_72 rfl ?_
    refine WP.iconst (5 : Int32) d3_74 rfl ?_
    rcases ite_e h with ⟨hc2, h⟩ | ⟨hc2, h⟩
    ·
      refine WP.icmpY (pc' := 89) d3_75 (XT.ii_gt_t hc2) (by decide) rfl ?_
      exact WP.weak (L' := [.val (.ref 0), .val (.int v1), .val (.int v2), .val (.int v3), .val (.int v4), .val (.int v5), .unset]) ⟨rfl, rfl, rfl, rfl, rfl, rfl, trivial⟩ (ok3_89 l Z a0 hw n0 v1 v2 v3 v4 v5 s _ h)
    ·
      refine WP.icmpN d3_75 (XT.ii_gt_f hc2) ?_
      refine WP.aloadN d3_78 rfl ?_
      refine WP.iload d3_79 rfl ?_
      obtain ⟨c3, hc3, h⟩ := Option.bind_eq_some_iff.mp h
      refine WP.callP (i := 0) (y := y11) (as := [.int v4]) (S := []) d3_81 (hw _ m_98) (hw _ m_100) (hw _ m_1) (hw _ m_99) (hw _ m_101) (hw _ m_2) hy11 rfl (ok11 l Z a0 hw v4 s _ hc3) rfl (lenOf pd11 rfl) (leb rfl) (leb rfl) (leb rfl) (leb rfl) ?_
      rintro _ _ ⟨rfl, rfl⟩
      show W3 l Z n0 (P3 r) 0 0 84 [.val (.ref 0), .val (.int v1), .val (.int v2), .val (.int v3), .val (.int v4), .val (.int v5), .unset] [.int c3] (Hb 0 s)
      rcases ite_e h with ⟨hc4, h⟩ | ⟨hc4, h⟩
      ·
        refine WP.ifN d3_84 (XT.i0_ne_f hc4) ?_
        refine WP.iconst (-1 : Int32) d3_87 rfl ?_
        cases h
        exact WP.ireturn d3_88 rfl (leb rfl) (leb rfl) ⟨rfl, rfl⟩
      ·
        refine WP.ifY (pc' := 89) d3_84 (XT.i0_ne_t hc4) (by decide) rfl ?_
        exact WP.weak (L' := [.val (.ref 0), .val (.int v1), .val (.int v2), .val (.int v3), .val (.int v4), .val (.int v5), .unset]) ⟨rfl, rfl, rfl, rfl, rfl, rfl, trivial⟩ (ok3_89 l Z a0 hw n0 v1 v2 v3 v4 v5 s _ h)
def f_statement (p1 : Int32) (p2 : Int32) (p3 : Int32) (p4 : Int32) (s : St) : Option (Int32 × St) :=
  if (gI s 4) = 0 then
    if (gI s 3) = (gI s 1) then
      f_statement_18 s
    else
      (f_validKind p1 s).bind fun c3 =>
      if c3 = 0 then
        some ((-1 : Int32), s)
      else
        lt (p1 &&& (15 : Int32)) fun x5 =>
        (f_operandsOk x5 p2 p3 s).bind fun c6 =>
        if c6 = 0 then
          some ((-1 : Int32), s)
        else
          if x5 = (1 : Int32) then
            (f_isField p4 s).bind fun c9 =>
            if c9 = 0 then
              some ((-1 : Int32), s)
            else
              f_statement_66 p1 p2 p3 p4 x5 s
          else
            f_statement_66 p1 p2 p3 p4 x5 s
  else
    f_statement_18 s
set_option maxRecDepth 65536 in
set_option maxHeartbeats 4000000 in
theorem ok3 (l : Launch) (Z : State) (a0 : Array Value) (hw : HW a0 Z) (p1 : Int32) (p2 : Int32) (p3 : Int32) (p4 : Int32) (s : St) (r : Int32 × St) (h : f_statement p1 p2 p3 p4 s = some r) : CS l Z CN lay y3 prog_1_method_4_code 7 (some FieldType.int) R3 0 [.ref 0, .int p1, .int p2, .int p3, .int p4] (Hb 0 s) (P3 r) := by
  refine CS.of_wp pn_cls (leb rfl) fun n0 => ?_
  show W3 l Z n0 (P3 r) 0 0 0 [.val (.ref 0), .val (.int p1), .val (.int p2), .val (.int p3), .val (.int p4), .unset, .unset] [] (Hb 0 s)
  unfold f_statement at h
  refine WP.aloadN d3_0 rfl ?_
  refine WP.getfield (i := 0) (j := 15) d3_1 (hw _ m_45) rfl rfl rfl ?_
  rcases ite_e h with ⟨hc1, h⟩ | ⟨hc1, h⟩
  ·
    refine WP.ifN d3_4 (XT.i0_ne_f hc1) ?_
    refine WP.aloadN d3_7 rfl ?_
    refine WP.getfield (i := 0) (j := 7) d3_8 (hw _ m_43) rfl rfl rfl ?_
    refine WP.aloadN d3_11 rfl ?_
    refine WP.getfield (i := 0) (j := 1) d3_12 (hw _ m_39) rfl rfl rfl ?_
    rcases ite_e h with ⟨hc2, h⟩ | ⟨hc2, h⟩
    ·
      refine WP.icmpN d3_15 (XT.ii_ne_f hc2) ?_
      exact WP.weak (L' := [.unset, .unset, .unset, .unset, .unset, .unset, .unset]) trivial (ok3_18 l Z a0 hw n0 s _ h)
    ·
      refine WP.icmpY (pc' := 20) d3_15 (XT.ii_ne_t hc2) (by decide) rfl ?_
      refine WP.aloadN d3_20 rfl ?_
      refine WP.iloadN d3_21 rfl ?_
      obtain ⟨c3, hc3, h⟩ := Option.bind_eq_some_iff.mp h
      refine WP.callP (i := 0) (y := y4) (as := [.int p1]) (S := []) d3_22 (hw _ m_65) (hw _ m_67) (hw _ m_1) (hw _ m_66) (hw _ m_68) (hw _ m_2) hy4 rfl (ok4 l Z a0 hw p1 s _ hc3) rfl (lenOf pd4 rfl) (leb rfl) (leb rfl) (leb rfl) (leb rfl) ?_
      rintro _ _ ⟨rfl, rfl⟩
      show W3 l Z n0 (P3 r) 0 0 25 [.val (.ref 0), .val (.int p1), .val (.int p2), .val (.int p3), .val (.int p4), .unset, .unset] [.int c3] (Hb 0 s)
      rcases ite_e h with ⟨hc4, h⟩ | ⟨hc4, h⟩
      ·
        refine WP.ifN d3_25 (XT.i0_ne_f hc4) ?_
        refine WP.iconst (-1 : Int32) d3_28 rfl ?_
        cases h
        exact WP.ireturn d3_29 rfl (leb rfl) (leb rfl) ⟨rfl, rfl⟩
      ·
        refine WP.ifY (pc' := 30) d3_25 (XT.i0_ne_t hc4) (by decide) rfl ?_
        refine WP.iloadN d3_30 rfl ?_
        refine WP.bipush (15 : Int32) d3_31 rfl ?_
        refine WP.iand d3_33 ?_
        obtain ⟨x5, ex5, h⟩ := lt_e h
        refine WP.istore (L' := [.val (.ref 0), .val (.int p1), .val (.int p2), .val (.int p3), .val (.int p4), .val (.int x5), .unset]) d3_34 (leb rfl) (by subst ex5; rfl) ?_
        refine WP.aloadN d3_36 rfl ?_
        refine WP.iload d3_37 rfl ?_
        refine WP.iloadN d3_39 rfl ?_
        refine WP.iloadN d3_40 rfl ?_
        obtain ⟨c6, hc6, h⟩ := Option.bind_eq_some_iff.mp h
        refine WP.callP (i := 0) (y := y10) (as := [.int x5, .int p2, .int p3]) (S := []) d3_41 (hw _ m_94) (hw _ m_96) (hw _ m_1) (hw _ m_95) (hw _ m_97) (hw _ m_2) hy10 rfl (ok10 l Z a0 hw x5 p2 p3 s _ hc6) rfl (lenOf pd10 rfl) (leb rfl) (leb rfl) (leb rfl) (leb rfl) ?_
        rintro _ _ ⟨rfl, rfl⟩
        show W3 l Z n0 (P3 r) 0 0 44 [.val (.ref 0), .val (.int p1), .val (.int p2), .val (.int p3), .val (.int p4), .val (.int x5), .unset] [.int c6] (Hb 0 s)
        rcases ite_e h with ⟨hc7, h⟩ | ⟨hc7, h⟩
        ·
          refine WP.ifN d3_44 (XT.i0_ne_f hc7) ?_
          refine WP.iconst (-1 : Int32) d3_47 rfl ?_
          cases h
          exact WP.ireturn d3_48 rfl (leb rfl) (leb rfl) ⟨rfl, rfl⟩
        ·
          refine WP.ifY (pc' := 49) d3_44 (XT.i0_ne_t hc7) (by decide) rfl ?_
          refine WP.iload d3_49 rfl ?_
          refine WP.iconst (1 : Int32) d3_51 rfl ?_
          rcases ite_e h with ⟨hc8, h⟩ | ⟨hc8, h⟩
          ·
            refine WP.icmpN d3_52 (XT.ii_ne_f hc8) ?_
            refine WP.aloadN d3_55 rfl ?_
            refine WP.iload d3_56 rfl ?_
            obtain ⟨c9, hc9, h⟩ := Option.bind_eq_some_iff.mp h
            refine WP.callP (i := 0) (y := y11) (as := [.int p4]) (S := []) d3_58 (hw _ m_98) (hw _ m_100) (hw _ m_1) (hw _ m_99) (hw _ m_101) (hw _ m_2) hy11 rfl (ok11 l Z a0 hw p4 s _ hc9) rfl (lenOf pd11 rfl) (leb rfl) (leb rfl) (leb rfl) (leb rfl) ?_
            rintro _ _ ⟨rfl, rfl⟩
            show W3 l Z n0 (P3 r) 0 0 61 [.val (.ref 0), .val (.int p1), .val (.int p2), .val (.int p3), .val (.int p4), .val (.int x5), .unset] [.int c9] (Hb 0 s)
            rcases ite_e h with ⟨hc10, h⟩ | ⟨hc10, h⟩
            ·
              refine WP.ifN d3_61 (XT.i0_ne_f hc10) ?_
              refine WP.iconst (-1 : Int32) d3_64 rfl ?_
              cases h
              exact WP.ireturn d3_65 rfl (leb rfl) (leb rfl) ⟨rfl, rfl⟩
            ·
              refine WP.ifY (pc' := 66) d3_61 (XT.i0_ne_t hc10) (by decide) rfl ?_
              exact WP.weak (L' := [.val (.ref 0), .val (.int p1), .val (.int p2), .val (.int p3), .val (.int p4), .val (.int x5), .unset]) ⟨rfl, rfl, rfl, rfl, rfl, rfl, trivial⟩ (ok3_66 l Z a0 hw n0 p1 p2 p3 p4 x5 s _ h)
          ·
            refine WP.icmpY (pc' := 66) d3_52 (XT.ii_ne_t hc8) (by decide) rfl ?_
            exact WP.weak (L' := [.val (.ref 0), .val (.int p1), .val (.int p2), .val (.int p3), .val (.int p4), .val (.int x5), .unset]) ⟨rfl, rfl, rfl, rfl, rfl, rfl, trivial⟩ (ok3_66 l Z a0 hw n0 p1 p2 p3 p4 x5 s _ h)
  ·
    refine WP.ifY (pc' := 18) d3_4 (XT.i0_ne_t hc1) (by decide) rfl ?_
    exact WP.weak (L' := [.unset, .unset, .unset, .unset, .unset, .unset, .unset]) trivial (ok3_18 l Z a0 hw n0 s _ h)
theorem d12_0 : dc method_2_code 0 (.iload_n 0) 1 := by decide +kernel
theorem d12_1 : dc method_2_code 1 (.ifCond .lt 12) 3 := by decide +kernel
theorem d12_4 : dc method_2_code 4 (.iload_n 0) 1 := by decide +kernel
theorem d12_5 : dc method_2_code 5 (.iconst 1) 1 := by decide +kernel
theorem d12_6 : dc method_2_code 6 (.if_icmp .gt 7) 3 := by decide +kernel
theorem d12_9 : dc method_2_code 9 (.iconst 1) 1 := by decide +kernel
theorem d12_10 : dc method_2_code 10 (.goto 4) 3 := by decide +kernel
theorem d12_13 : dc method_2_code 13 (.iconst 0) 1 := by decide +kernel
theorem d12_14 : dc method_2_code 14 (.ireturn) 1 := by decide +kernel
abbrev y12 : MethodName := ⟨"PictureCobolL2", "isField", "(I)Z"⟩
theorem hy12 : y12.cls ≠ "java/lang/invoke/MethodHandle" ∧ y12.cls ≠ "java/lang/invoke/VarHandle" := by decide
theorem pd12 : parseMethodDescriptor y12.desc = some ⟨[.int], some .boolean⟩ := by decide +kernel
abbrev R12 : Room := { frames := 0, cells := 0, slots := 0, locals := 0 }
abbrev P12 (r : Int32) : Option Value → List OwnC → Prop := fun v H' => v = some (.int r) ∧ H' = ([] : List OwnC)
abbrev W12 (l : Launch) (Z : State) (n0 : Nat) (Q : Option Value → List OwnC → Prop) (k n pc : Nat) (L : List Slot) (S : List Value) (H : List OwnC) : Prop := WP l Z CN lay "PictureCobolL2" "isField" method_2_code 1 (some FieldType.boolean) R12 n0 0 Q k n pc L S H
def f_L_isField_14 (t0 : Int32) : Option (Int32) :=
  some (t0 &&& 1)
set_option maxRecDepth 65536 in
set_option maxHeartbeats 4000000 in
theorem ok12_14 (l : Launch) (Z : State) (a0 : Array Value) (hw : HW a0 Z) (n0 : Nat) (t0 : Int32) (r : Int32) (h : f_L_isField_14 t0 = some r) : W12 l Z n0 (P12 r) 0 0 14 [.unset] [.int t0] ([] : List OwnC) := by
  unfold f_L_isField_14 at h
  cases h
  exact WP.zreturn d12_14 rfl (leb rfl) (leb rfl) ⟨rfl, rfl⟩
def f_L_isField_13 : Option (Int32) :=
  f_L_isField_14 (0 : Int32)
set_option maxRecDepth 65536 in
set_option maxHeartbeats 4000000 in
theorem ok12_13 (l : Launch) (Z : State) (a0 : Array Value) (hw : HW a0 Z) (n0 : Nat) (r : Int32) (h : f_L_isField_13 = some r) : W12 l Z n0 (P12 r) 0 0 13 [.unset] [] ([] : List OwnC) := by
  unfold f_L_isField_13 at h
  refine WP.iconst (0 : Int32) d12_13 rfl ?_
  exact WP.weak (L' := [.unset]) trivial (ok12_14 l Z a0 hw n0 (0 : Int32) _ h)
def f_L_isField (p0 : Int32) : Option (Int32) :=
  if p0 < 0 then
    f_L_isField_13 
  else
    if (1 : Int32) < p0 then
      f_L_isField_13 
    else
      f_L_isField_14 (1 : Int32)
set_option maxRecDepth 65536 in
set_option maxHeartbeats 4000000 in
theorem ok12 (l : Launch) (Z : State) (a0 : Array Value) (hw : HW a0 Z) (p0 : Int32) (r : Int32) (h : f_L_isField p0 = some r) : CS l Z CN lay y12 method_2_code 1 (some FieldType.boolean) R12 0 [.int p0] ([] : List OwnC) (P12 r) := by
  refine CS.of_wp pn_law (leb rfl) fun n0 => ?_
  show W12 l Z n0 (P12 r) 0 0 0 [.val (.int p0)] [] ([] : List OwnC)
  unfold f_L_isField at h
  refine WP.iloadN d12_0 rfl ?_
  rcases ite_e h with ⟨hc1, h⟩ | ⟨hc1, h⟩
  ·
    refine WP.ifY (pc' := 13) d12_1 (XT.i0_lt_t hc1) (by decide) rfl ?_
    exact WP.weak (L' := [.unset]) trivial (ok12_13 l Z a0 hw n0  _ h)
  ·
    refine WP.ifN d12_1 (XT.i0_lt_f hc1) ?_
    refine WP.iloadN d12_4 rfl ?_
    refine WP.iconst (1 : Int32) d12_5 rfl ?_
    rcases ite_e h with ⟨hc2, h⟩ | ⟨hc2, h⟩
    ·
      refine WP.icmpY (pc' := 13) d12_6 (XT.ii_gt_t hc2) (by decide) rfl ?_
      exact WP.weak (L' := [.unset]) trivial (ok12_13 l Z a0 hw n0  _ h)
    ·
      refine WP.icmpN d12_6 (XT.ii_gt_f hc2) ?_
      refine WP.iconst (1 : Int32) d12_9 rfl ?_
      refine WP.goto (pc' := 14) d12_10 (by decide) rfl ?_
      exact WP.weak (L' := [.unset]) trivial (ok12_14 l Z a0 hw n0 (1 : Int32) _ h)
theorem d5_0 : dc prog_1_method_15_code 0 (.aload_n 0) 1 := by decide +kernel
theorem d5_1 : dc prog_1_method_15_code 1 (.getfield 58) 3 := by decide +kernel
theorem d5_4 : dc prog_1_method_15_code 4 (.ireturn) 1 := by decide +kernel
abbrev y5 : MethodName := ⟨"PictureCobol", "getStatementCount", "()I"⟩
theorem hy5 : y5.cls ≠ "java/lang/invoke/MethodHandle" ∧ y5.cls ≠ "java/lang/invoke/VarHandle" := by decide
theorem pd5 : parseMethodDescriptor y5.desc = some ⟨[], some .int⟩ := by decide +kernel
abbrev R5 : Room := { frames := 0, cells := 0, slots := 0, locals := 0 }
abbrev P5 (s : St) (r : Int32) : Option Value → List OwnC → Prop := fun v H' => v = some (.int r) ∧ H' = (Hb 0 s)
abbrev W5 (l : Launch) (Z : State) (n0 : Nat) (Q : Option Value → List OwnC → Prop) (k n pc : Nat) (L : List Slot) (S : List Value) (H : List OwnC) : Prop := WP l Z CN lay "PictureCobol" "getStatementCount" prog_1_method_15_code 1 (some FieldType.int) R5 n0 0 Q k n pc L S H
def f_getStatementCount (s : St) : Option (Int32) :=
  some (gI s 3)
set_option maxRecDepth 65536 in
set_option maxHeartbeats 4000000 in
theorem ok5 (l : Launch) (Z : State) (a0 : Array Value) (hw : HW a0 Z) (s : St) (r : Int32) (h : f_getStatementCount s = some r) : CS l Z CN lay y5 prog_1_method_15_code 1 (some FieldType.int) R5 0 [.ref 0] (Hb 0 s) (P5 s r) := by
  refine CS.of_wp pn_cls (leb rfl) fun n0 => ?_
  show W5 l Z n0 (P5 s r) 0 0 0 [.val (.ref 0)] [] (Hb 0 s)
  unfold f_getStatementCount at h
  refine WP.aloadN d5_0 rfl ?_
  refine WP.getfield (i := 0) (j := 7) d5_1 (hw _ m_43) rfl rfl rfl ?_
  cases h
  exact WP.ireturn d5_4 rfl (leb rfl) (leb rfl) ⟨rfl, rfl⟩
theorem d15_0 : dc prog_1_method_22_code 0 (.iload_n 1) 1 := by decide +kernel
theorem d15_1 : dc prog_1_method_22_code 1 (.ifCond .lt 12) 3 := by decide +kernel
theorem d15_4 : dc prog_1_method_22_code 4 (.iload_n 1) 1 := by decide +kernel
theorem d15_5 : dc prog_1_method_22_code 5 (.iload_n 2) 1 := by decide +kernel
theorem d15_6 : dc prog_1_method_22_code 6 (.if_icmp .gt 7) 3 := by decide +kernel
theorem d15_9 : dc prog_1_method_22_code 9 (.iconst 1) 1 := by decide +kernel
theorem d15_10 : dc prog_1_method_22_code 10 (.goto 4) 3 := by decide +kernel
theorem d15_13 : dc prog_1_method_22_code 13 (.iconst 0) 1 := by decide +kernel
theorem d15_14 : dc prog_1_method_22_code 14 (.ireturn) 1 := by decide +kernel
abbrev y15 : MethodName := ⟨"PictureCobol", "inTargets", "(II)Z"⟩
theorem hy15 : y15.cls ≠ "java/lang/invoke/MethodHandle" ∧ y15.cls ≠ "java/lang/invoke/VarHandle" := by decide
theorem pd15 : parseMethodDescriptor y15.desc = some ⟨[.int, .int], some .boolean⟩ := by decide +kernel
abbrev R15 : Room := { frames := 0, cells := 0, slots := 0, locals := 0 }
abbrev P15 (s : St) (r : Int32) : Option Value → List OwnC → Prop := fun v H' => v = some (.int r) ∧ H' = (Hb 0 s)
abbrev W15 (l : Launch) (Z : State) (n0 : Nat) (Q : Option Value → List OwnC → Prop) (k n pc : Nat) (L : List Slot) (S : List Value) (H : List OwnC) : Prop := WP l Z CN lay "PictureCobol" "inTargets" prog_1_method_22_code 3 (some FieldType.boolean) R15 n0 0 Q k n pc L S H
def f_inTargets_14 (t0 : Int32) (s : St) : Option (Int32) :=
  some (t0 &&& 1)
set_option maxRecDepth 65536 in
set_option maxHeartbeats 4000000 in
theorem ok15_14 (l : Launch) (Z : State) (a0 : Array Value) (hw : HW a0 Z) (n0 : Nat) (t0 : Int32) (s : St) (r : Int32) (h : f_inTargets_14 t0 s = some r) : W15 l Z n0 (P15 s r) 0 0 14 [.unset, .unset, .unset] [.int t0] (Hb 0 s) := by
  unfold f_inTargets_14 at h
  cases h
  exact WP.zreturn d15_14 rfl (leb rfl) (leb rfl) ⟨rfl, rfl⟩
def f_inTargets_13 (s : St) : Option (Int32) :=
  f_inTargets_14 (0 : Int32) s
set_option maxRecDepth 65536 in
set_option maxHeartbeats 4000000 in
theorem ok15_13 (l : Launch) (Z : State) (a0 : Array Value) (hw : HW a0 Z) (n0 : Nat) (s : St) (r : Int32) (h : f_inTargets_13 s = some r) : W15 l Z n0 (P15 s r) 0 0 13 [.unset, .unset, .unset] [] (Hb 0 s) := by
  unfold f_inTargets_13 at h
  refine WP.iconst (0 : Int32) d15_13 rfl ?_
  exact WP.weak (L' := [.unset, .unset, .unset]) trivial (ok15_14 l Z a0 hw n0 (0 : Int32) s _ h)
def f_inTargets (p1 : Int32) (p2 : Int32) (s : St) : Option (Int32) :=
  if p1 < 0 then
    f_inTargets_13 s
  else
    if p2 < p1 then
      f_inTargets_13 s
    else
      f_inTargets_14 (1 : Int32) s
set_option maxRecDepth 65536 in
set_option maxHeartbeats 4000000 in
theorem ok15 (l : Launch) (Z : State) (a0 : Array Value) (hw : HW a0 Z) (p1 : Int32) (p2 : Int32) (s : St) (r : Int32) (h : f_inTargets p1 p2 s = some r) : CS l Z CN lay y15 prog_1_method_22_code 3 (some FieldType.boolean) R15 0 [.ref 0, .int p1, .int p2] (Hb 0 s) (P15 s r) := by
  refine CS.of_wp pn_cls (leb rfl) fun n0 => ?_
  show W15 l Z n0 (P15 s r) 0 0 0 [.val (.ref 0), .val (.int p1), .val (.int p2)] [] (Hb 0 s)
  unfold f_inTargets at h
  refine WP.iloadN d15_0 rfl ?_
  rcases ite_e h with ⟨hc1, h⟩ | ⟨hc1, h⟩
  ·
    refine WP.ifY (pc' := 13) d15_1 (XT.i0_lt_t hc1) (by decide) rfl ?_
    exact WP.weak (L' := [.unset, .unset, .unset]) trivial (ok15_13 l Z a0 hw n0 s _ h)
  ·
    refine WP.ifN d15_1 (XT.i0_lt_f hc1) ?_
    refine WP.iloadN d15_4 rfl ?_
    refine WP.iloadN d15_5 rfl ?_
    rcases ite_e h with ⟨hc2, h⟩ | ⟨hc2, h⟩
    ·
      refine WP.icmpY (pc' := 13) d15_6 (XT.ii_gt_t hc2) (by decide) rfl ?_
      exact WP.weak (L' := [.unset, .unset, .unset]) trivial (ok15_13 l Z a0 hw n0 s _ h)
    ·
      refine WP.icmpN d15_6 (XT.ii_gt_f hc2) ?_
      refine WP.iconst (1 : Int32) d15_9 rfl ?_
      refine WP.goto (pc' := 14) d15_10 (by decide) rfl ?_
      exact WP.weak (L' := [.unset, .unset, .unset]) trivial (ok15_14 l Z a0 hw n0 (1 : Int32) s _ h)
theorem d14_0 : dc prog_1_method_23_code 0 (.aload_n 0) 1 := by decide +kernel
theorem d14_1 : dc prog_1_method_23_code 1 (.getfield 23) 3 := by decide +kernel
theorem d14_4 : dc prog_1_method_23_code 4 (.iload_n 1) 1 := by decide +kernel
theorem d14_5 : dc prog_1_method_23_code 5 (.iaload) 1 := by decide +kernel
theorem d14_6 : dc prog_1_method_23_code 6 (.istore_n 3) 1 := by decide +kernel
theorem d14_7 : dc prog_1_method_23_code 7 (.iload_n 3) 1 := by decide +kernel
theorem d14_8 : dc prog_1_method_23_code 8 (.bipush 6) 2 := by decide +kernel
theorem d14_10 : dc prog_1_method_23_code 10 (.if_icmp .eq 15) 3 := by decide +kernel
theorem d14_13 : dc prog_1_method_23_code 13 (.iload_n 3) 1 := by decide +kernel
theorem d14_14 : dc prog_1_method_23_code 14 (.bipush 7) 2 := by decide +kernel
theorem d14_16 : dc prog_1_method_23_code 16 (.if_icmp .eq 9) 3 := by decide +kernel
theorem d14_19 : dc prog_1_method_23_code 19 (.iload_n 3) 1 := by decide +kernel
theorem d14_20 : dc prog_1_method_23_code 20 (.bipush 8) 2 := by decide +kernel
theorem d14_22 : dc prog_1_method_23_code 22 (.if_icmp .ne 23) 3 := by decide +kernel
theorem d14_25 : dc prog_1_method_23_code 25 (.aload_n 0) 1 := by decide +kernel
theorem d14_26 : dc prog_1_method_23_code 26 (.aload_n 0) 1 := by decide +kernel
theorem d14_27 : dc prog_1_method_23_code 27 (.getfield 35) 3 := by decide +kernel
theorem d14_30 : dc prog_1_method_23_code 30 (.iload_n 1) 1 := by decide +kernel
theorem d14_31 : dc prog_1_method_23_code 31 (.iaload) 1 := by decide +kernel
theorem d14_32 : dc prog_1_method_23_code 32 (.iload_n 2) 1 := by decide +kernel
theorem d14_33 : dc prog_1_method_23_code 33 (.invokevirtual 107) 3 := by decide +kernel
theorem d14_36 : dc prog_1_method_23_code 36 (.ifCond .ne 7) 3 := by decide +kernel
theorem d14_39 : dc prog_1_method_23_code 39 (.iconst 1) 1 := by decide +kernel
theorem d14_40 : dc prog_1_method_23_code 40 (.goto 4) 3 := by decide +kernel
theorem d14_43 : dc prog_1_method_23_code 43 (.iconst 0) 1 := by decide +kernel
theorem d14_44 : dc prog_1_method_23_code 44 (.ireturn) 1 := by decide +kernel
theorem d14_45 : dc prog_1_method_23_code 45 (.aload_n 0) 1 := by decide +kernel
theorem d14_46 : dc prog_1_method_23_code 46 (.iload_n 3) 1 := by decide +kernel
theorem d14_47 : dc prog_1_method_23_code 47 (.invokevirtual 96) 3 := by decide +kernel
theorem d14_50 : dc prog_1_method_23_code 50 (.ifCond .eq 32) 3 := by decide +kernel
theorem d14_53 : dc prog_1_method_23_code 53 (.aload_n 0) 1 := by decide +kernel
theorem d14_54 : dc prog_1_method_23_code 54 (.getfield 38) 3 := by decide +kernel
theorem d14_57 : dc prog_1_method_23_code 57 (.iload_n 1) 1 := by decide +kernel
theorem d14_58 : dc prog_1_method_23_code 58 (.baload) 1 := by decide +kernel
theorem d14_59 : dc prog_1_method_23_code 59 (.ifCond .eq 23) 3 := by decide +kernel
theorem d14_62 : dc prog_1_method_23_code 62 (.aload_n 0) 1 := by decide +kernel
theorem d14_63 : dc prog_1_method_23_code 63 (.aload_n 0) 1 := by decide +kernel
theorem d14_64 : dc prog_1_method_23_code 64 (.getfield 41) 3 := by decide +kernel
theorem d14_67 : dc prog_1_method_23_code 67 (.iload_n 1) 1 := by decide +kernel
theorem d14_68 : dc prog_1_method_23_code 68 (.iaload) 1 := by decide +kernel
theorem d14_69 : dc prog_1_method_23_code 69 (.iload_n 2) 1 := by decide +kernel
theorem d14_70 : dc prog_1_method_23_code 70 (.invokevirtual 107) 3 := by decide +kernel
theorem d14_73 : dc prog_1_method_23_code 73 (.ifCond .ne 7) 3 := by decide +kernel
theorem d14_76 : dc prog_1_method_23_code 76 (.iconst 1) 1 := by decide +kernel
theorem d14_77 : dc prog_1_method_23_code 77 (.goto 4) 3 := by decide +kernel
theorem d14_80 : dc prog_1_method_23_code 80 (.iconst 0) 1 := by decide +kernel
theorem d14_81 : dc prog_1_method_23_code 81 (.ireturn) 1 := by decide +kernel
theorem d14_82 : dc prog_1_method_23_code 82 (.iconst 0) 1 := by decide +kernel
theorem d14_83 : dc prog_1_method_23_code 83 (.ireturn) 1 := by decide +kernel
abbrev y14 : MethodName := ⟨"PictureCobol", "isBad", "(II)Z"⟩
theorem hy14 : y14.cls ≠ "java/lang/invoke/MethodHandle" ∧ y14.cls ≠ "java/lang/invoke/VarHandle" := by decide
theorem pd14 : parseMethodDescriptor y14.desc = some ⟨[.int, .int], some .boolean⟩ := by decide +kernel
abbrev R14 : Room := { frames := 1, cells := 0, slots := 0, locals := 14 }
abbrev P14 (s : St) (r : Int32) : Option Value → List OwnC → Prop := fun v H' => v = some (.int r) ∧ H' = (Hb 0 s)
abbrev W14 (l : Launch) (Z : State) (n0 : Nat) (Q : Option Value → List OwnC → Prop) (k n pc : Nat) (L : List Slot) (S : List Value) (H : List OwnC) : Prop := WP l Z CN lay "PictureCobol" "isBad" prog_1_method_23_code 4 (some FieldType.boolean) R14 n0 0 Q k n pc L S H
def f_isBad_44 (t0 : Int32) (s : St) : Option (Int32) :=
  some (t0 &&& 1)
set_option maxRecDepth 65536 in
set_option maxHeartbeats 4000000 in
theorem ok14_44 (l : Launch) (Z : State) (a0 : Array Value) (hw : HW a0 Z) (n0 : Nat) (t0 : Int32) (s : St) (r : Int32) (h : f_isBad_44 t0 s = some r) : W14 l Z n0 (P14 s r) 0 0 44 [.unset, .unset, .unset, .unset] [.int t0] (Hb 0 s) := by
  unfold f_isBad_44 at h
  cases h
  exact WP.zreturn d14_44 rfl (leb rfl) (leb rfl) ⟨rfl, rfl⟩
def f_isBad_25 (v1 : Int32) (v2 : Int32) (s : St) : Option (Int32) :=
  (rd (gA s 8) v1).bind fun x1 =>
  (f_inTargets x1 v2 s).bind fun c2 =>
  if c2 = 0 then
    f_isBad_44 (1 : Int32) s
  else
    f_isBad_44 (0 : Int32) s
set_option maxRecDepth 65536 in
set_option maxHeartbeats 4000000 in
theorem ok14_25 (l : Launch) (Z : State) (a0 : Array Value) (hw : HW a0 Z) (n0 : Nat) (v1 : Int32) (v2 : Int32) (s : St) (r : Int32) (h : f_isBad_25 v1 v2 s = some r) : W14 l Z n0 (P14 s r) 0 0 25 [.val (.ref 0), .val (.int v1), .val (.int v2), .unset] [] (Hb 0 s) := by
  unfold f_isBad_25 at h
  refine WP.aloadN d14_25 rfl ?_
  refine WP.aloadN d14_26 rfl ?_
  refine WP.getfield (i := 0) (j := 12) d14_27 (hw _ m_27) rfl rfl rfl ?_
  refine WP.iloadN d14_30 rfl ?_
  obtain ⟨x1, hx1, h⟩ := Option.bind_eq_some_iff.mp h
  refine WP.iaload (i := 9) d14_31 rfl hx1 ?_
  refine WP.iloadN d14_32 rfl ?_
  obtain ⟨c2, hc2, h⟩ := Option.bind_eq_some_iff.mp h
  refine WP.callP (i := 0) (y := y15) (as := [.int x1, .int v2]) (S := []) d14_33 (hw _ m_114) (hw _ m_116) (hw _ m_1) (hw _ m_115) (hw _ m_117) (hw _ m_2) hy15 rfl (ok15 l Z a0 hw x1 v2 s _ hc2) rfl (lenOf pd15 rfl) (leb rfl) (leb rfl) (leb rfl) (leb rfl) ?_
  rintro _ _ ⟨rfl, rfl⟩
  show W14 l Z n0 (P14 s r) 0 0 36 [.val (.ref 0), .val (.int v1), .val (.int v2), .unset] [.int c2] (Hb 0 s)
  rcases ite_e h with ⟨hc3, h⟩ | ⟨hc3, h⟩
  ·
    refine WP.ifN d14_36 (XT.i0_ne_f hc3) ?_
    refine WP.iconst (1 : Int32) d14_39 rfl ?_
    refine WP.goto (pc' := 44) d14_40 (by decide) rfl ?_
    exact WP.weak (L' := [.unset, .unset, .unset, .unset]) trivial (ok14_44 l Z a0 hw n0 (1 : Int32) s _ h)
  ·
    refine WP.ifY (pc' := 43) d14_36 (XT.i0_ne_t hc3) (by decide) rfl ?_
    refine WP.iconst (0 : Int32) d14_43 rfl ?_
    exact WP.weak (L' := [.unset, .unset, .unset, .unset]) trivial (ok14_44 l Z a0 hw n0 (0 : Int32) s _ h)
def f_isBad_81 (t0 : Int32) (s : St) : Option (Int32) :=
  some (t0 &&& 1)
set_option maxRecDepth 65536 in
set_option maxHeartbeats 4000000 in
theorem ok14_81 (l : Launch) (Z : State) (a0 : Array Value) (hw : HW a0 Z) (n0 : Nat) (t0 : Int32) (s : St) (r : Int32) (h : f_isBad_81 t0 s = some r) : W14 l Z n0 (P14 s r) 0 0 81 [.unset, .unset, .unset, .unset] [.int t0] (Hb 0 s) := by
  unfold f_isBad_81 at h
  cases h
  exact WP.zreturn d14_81 rfl (leb rfl) (leb rfl) ⟨rfl, rfl⟩
def f_isBad_82 (s : St) : Option (Int32) :=
  some (0 : Int32)
set_option maxRecDepth 65536 in
set_option maxHeartbeats 4000000 in
theorem ok14_82 (l : Launch) (Z : State) (a0 : Array Value) (hw : HW a0 Z) (n0 : Nat) (s : St) (r : Int32) (h : f_isBad_82 s = some r) : W14 l Z n0 (P14 s r) 0 0 82 [.unset, .unset, .unset, .unset] [] (Hb 0 s) := by
  unfold f_isBad_82 at h
  refine WP.iconst (0 : Int32) d14_82 rfl ?_
  cases h
  exact WP.zreturn d14_83 rfl (leb rfl) (leb rfl) ⟨rfl, rfl⟩
def f_isBad (p1 : Int32) (p2 : Int32) (s : St) : Option (Int32) :=
  (rd (gA s 4) p1).bind fun x1 =>
  if x1 = (6 : Int32) then
    f_isBad_25 p1 p2 s
  else
    if x1 = (7 : Int32) then
      f_isBad_25 p1 p2 s
    else
      if x1 = (8 : Int32) then
        f_isBad_25 p1 p2 s
      else
        (f_isArith x1 s).bind fun c5 =>
        if c5 = 0 then
          f_isBad_82 s
        else
          (rd (gA s 9) p1).bind fun x7 =>
          if x7 = 0 then
            f_isBad_82 s
          else
            (rd (gA s 10) p1).bind fun x9 =>
            (f_inTargets x9 p2 s).bind fun c10 =>
            if c10 = 0 then
              f_isBad_81 (1 : Int32) s
            else
              f_isBad_81 (0 : Int32) s
set_option maxRecDepth 65536 in
set_option maxHeartbeats 4000000 in
theorem ok14 (l : Launch) (Z : State) (a0 : Array Value) (hw : HW a0 Z) (p1 : Int32) (p2 : Int32) (s : St) (r : Int32) (h : f_isBad p1 p2 s = some r) : CS l Z CN lay y14 prog_1_method_23_code 4 (some FieldType.boolean) R14 0 [.ref 0, .int p1, .int p2] (Hb 0 s) (P14 s r) := by
  refine CS.of_wp pn_cls (leb rfl) fun n0 => ?_
  show W14 l Z n0 (P14 s r) 0 0 0 [.val (.ref 0), .val (.int p1), .val (.int p2), .unset] [] (Hb 0 s)
  unfold f_isBad at h
  refine WP.aloadN d14_0 rfl ?_
  refine WP.getfield (i := 0) (j := 8) d14_1 (hw _ m_19) rfl rfl rfl ?_
  refine WP.iloadN d14_4 rfl ?_
  obtain ⟨x1, hx1, h⟩ := Option.bind_eq_some_iff.mp h
  refine WP.iaload (i := 5) d14_5 rfl hx1 ?_
  refine WP.istoreN (L' := [.val (.ref 0), .val (.int p1), .val (.int p2), .val (.int x1)]) d14_6 (leb rfl) rfl ?_
  refine WP.iloadN d14_7 rfl ?_
  refine WP.bipush (6 : Int32) d14_8 rfl ?_
  rcases ite_e h with ⟨hc2, h⟩ | ⟨hc2, h⟩
  ·
    refine WP.icmpY (pc' := 25) d14_10 (XT.ii_eq_t hc2) (by decide) rfl ?_
    exact WP.weak (L' := [.val (.ref 0), .val (.int p1), .val (.int p2), .unset]) ⟨rfl, rfl, rfl, trivial⟩ (ok14_25 l Z a0 hw n0 p1 p2 s _ h)
  ·
    refine WP.icmpN d14_10 (XT.ii_eq_f hc2) ?_
    refine WP.iloadN d14_13 rfl ?_
    refine WP.bipush (7 : Int32) d14_14 rfl ?_
    rcases ite_e h with ⟨hc3, h⟩ | ⟨hc3, h⟩
    ·
      refine WP.icmpY (pc' := 25) d14_16 (XT.ii_eq_t hc3) (by decide) rfl ?_
      exact WP.weak (L' := [.val (.ref 0), .val (.int p1), .val (.int p2), .unset]) ⟨rfl, rfl, rfl, trivial⟩ (ok14_25 l Z a0 hw n0 p1 p2 s _ h)
    ·
      refine WP.icmpN d14_16 (XT.ii_eq_f hc3) ?_
      refine WP.iloadN d14_19 rfl ?_
      refine WP.bipush (8 : Int32) d14_20 rfl ?_
      rcases ite_e h with ⟨hc4, h⟩ | ⟨hc4, h⟩
      ·
        refine WP.icmpN d14_22 (XT.ii_ne_f hc4) ?_
        exact WP.weak (L' := [.val (.ref 0), .val (.int p1), .val (.int p2), .unset]) ⟨rfl, rfl, rfl, trivial⟩ (ok14_25 l Z a0 hw n0 p1 p2 s _ h)
      ·
        refine WP.icmpY (pc' := 45) d14_22 (XT.ii_ne_t hc4) (by decide) rfl ?_
        refine WP.aloadN d14_45 rfl ?_
        refine WP.iloadN d14_46 rfl ?_
        obtain ⟨c5, hc5, h⟩ := Option.bind_eq_some_iff.mp h
        refine WP.callP (i := 0) (y := y13) (as := [.int x1]) (S := []) d14_47 (hw _ m_106) (hw _ m_108) (hw _ m_1) (hw _ m_107) (hw _ m_109) (hw _ m_2) hy13 rfl (ok13 l Z a0 hw x1 s _ hc5) rfl (lenOf pd13 rfl) (leb rfl) (leb rfl) (leb rfl) (leb rfl) ?_
        rintro _ _ ⟨rfl, rfl⟩
        show W14 l Z n0 (P14 s r) 0 0 50 [.val (.ref 0), .val (.int p1), .val (.int p2), .val (.int x1)] [.int c5] (Hb 0 s)
        rcases ite_e h with ⟨hc6, h⟩ | ⟨hc6, h⟩
        ·
          refine WP.ifY (pc' := 82) d14_50 (XT.i0_eq_t hc6) (by decide) rfl ?_
          exact WP.weak (L' := [.unset, .unset, .unset, .unset]) trivial (ok14_82 l Z a0 hw n0 s _ h)
        ·
          refine WP.ifN d14_50 (XT.i0_eq_f hc6) ?_
          refine WP.aloadN d14_53 rfl ?_
          refine WP.getfield (i := 0) (j := 13) d14_54 (hw _ m_29) rfl rfl rfl ?_
          refine WP.iloadN d14_57 rfl ?_
          obtain ⟨x7, hx7, h⟩ := Option.bind_eq_some_iff.mp h
          refine WP.baload (i := 10) d14_58 rfl hx7 ?_
          rcases ite_e h with ⟨hc8, h⟩ | ⟨hc8, h⟩
          ·
            refine WP.ifY (pc' := 82) d14_59 (XT.i0_eq_t hc8) (by decide) rfl ?_
            exact WP.weak (L' := [.unset, .unset, .unset, .unset]) trivial (ok14_82 l Z a0 hw n0 s _ h)
          ·
            refine WP.ifN d14_59 (XT.i0_eq_f hc8) ?_
            refine WP.aloadN d14_62 rfl ?_
            refine WP.aloadN d14_63 rfl ?_
            refine WP.getfield (i := 0) (j := 14) d14_64 (hw _ m_31) rfl rfl rfl ?_
            refine WP.iloadN d14_67 rfl ?_
            obtain ⟨x9, hx9, h⟩ := Option.bind_eq_some_iff.mp h
            refine WP.iaload (i := 11) d14_68 rfl hx9 ?_
            refine WP.iloadN d14_69 rfl ?_
            obtain ⟨c10, hc10, h⟩ := Option.bind_eq_some_iff.mp h
            refine WP.callP (i := 0) (y := y15) (as := [.int x9, .int p2]) (S := []) d14_70 (hw _ m_114) (hw _ m_116) (hw _ m_1) (hw _ m_115) (hw _ m_117) (hw _ m_2) hy15 rfl (ok15 l Z a0 hw x9 p2 s _ hc10) rfl (lenOf pd15 rfl) (leb rfl) (leb rfl) (leb rfl) (leb rfl) ?_
            rintro _ _ ⟨rfl, rfl⟩
            show W14 l Z n0 (P14 s r) 0 0 73 [.val (.ref 0), .val (.int p1), .val (.int p2), .val (.int x1)] [.int c10] (Hb 0 s)
            rcases ite_e h with ⟨hc11, h⟩ | ⟨hc11, h⟩
            ·
              refine WP.ifN d14_73 (XT.i0_ne_f hc11) ?_
              refine WP.iconst (1 : Int32) d14_76 rfl ?_
              refine WP.goto (pc' := 81) d14_77 (by decide) rfl ?_
              exact WP.weak (L' := [.unset, .unset, .unset, .unset]) trivial (ok14_81 l Z a0 hw n0 (1 : Int32) s _ h)
            ·
              refine WP.ifY (pc' := 80) d14_73 (XT.i0_ne_t hc11) (by decide) rfl ?_
              refine WP.iconst (0 : Int32) d14_80 rfl ?_
              exact WP.weak (L' := [.unset, .unset, .unset, .unset]) trivial (ok14_81 l Z a0 hw n0 (0 : Int32) s _ h)
theorem d6_0 : dc prog_1_method_6_code 0 (.aload_n 0) 1 := by decide +kernel
theorem d6_1 : dc prog_1_method_6_code 1 (.getfield 61) 3 := by decide +kernel
theorem d6_4 : dc prog_1_method_6_code 4 (.ifCond .eq 5) 3 := by decide +kernel
theorem d6_7 : dc prog_1_method_6_code 7 (.iconst (-1)) 1 := by decide +kernel
theorem d6_8 : dc prog_1_method_6_code 8 (.ireturn) 1 := by decide +kernel
theorem d6_9 : dc prog_1_method_6_code 9 (.aload_n 0) 1 := by decide +kernel
theorem d6_10 : dc prog_1_method_6_code 10 (.getfield 58) 3 := by decide +kernel
theorem d6_13 : dc prog_1_method_6_code 13 (.istore_n 1) 1 := by decide +kernel
theorem d6_14 : dc prog_1_method_6_code 14 (.iconst 0) 1 := by decide +kernel
theorem d6_15 : dc prog_1_method_6_code 15 (.istore_n 2) 1 := by decide +kernel
theorem d6_16 : dc prog_1_method_6_code 16 (.iload_n 2) 1 := by decide +kernel
theorem d6_17 : dc prog_1_method_6_code 17 (.iload_n 1) 1 := by decide +kernel
theorem d6_18 : dc prog_1_method_6_code 18 (.if_icmp .ge 26) 3 := by decide +kernel
theorem d6_21 : dc prog_1_method_6_code 21 (.iload_n 2) 1 := by decide +kernel
theorem d6_22 : dc prog_1_method_6_code 22 (.bipush 32) 2 := by decide +kernel
theorem d6_24 : dc prog_1_method_6_code 24 (.if_icmp .ge 20) 3 := by decide +kernel
theorem d6_27 : dc prog_1_method_6_code 27 (.aload_n 0) 1 := by decide +kernel
theorem d6_28 : dc prog_1_method_6_code 28 (.iload_n 2) 1 := by decide +kernel
theorem d6_29 : dc prog_1_method_6_code 29 (.iload_n 1) 1 := by decide +kernel
theorem d6_30 : dc prog_1_method_6_code 30 (.invokevirtual 99) 3 := by decide +kernel
theorem d6_33 : dc prog_1_method_6_code 33 (.ifCond .eq 5) 3 := by decide +kernel
theorem d6_36 : dc prog_1_method_6_code 36 (.iload_n 2) 1 := by decide +kernel
theorem d6_37 : dc prog_1_method_6_code 37 (.ireturn) 1 := by decide +kernel
theorem d6_38 : dc prog_1_method_6_code 38 (.iinc 2 1) 3 := by decide +kernel
theorem d6_41 : dc prog_1_method_6_code 41 (.goto (-25)) 3 := by decide +kernel
theorem d6_44 : dc prog_1_method_6_code 44 (.aload_n 0) 1 := by decide +kernel
theorem d6_45 : dc prog_1_method_6_code 45 (.iconst 1) 1 := by decide +kernel
theorem d6_46 : dc prog_1_method_6_code 46 (.putfield 61) 3 := by decide +kernel
theorem d6_49 : dc prog_1_method_6_code 49 (.aload_n 0) 1 := by decide +kernel
theorem d6_50 : dc prog_1_method_6_code 50 (.iconst 0) 1 := by decide +kernel
theorem d6_51 : dc prog_1_method_6_code 51 (.putfield 68) 3 := by decide +kernel
theorem d6_54 : dc prog_1_method_6_code 54 (.aload_n 0) 1 := by decide +kernel
theorem d6_55 : dc prog_1_method_6_code 55 (.iconst 0) 1 := by decide +kernel
theorem d6_56 : dc prog_1_method_6_code 56 (.putfield 65) 3 := by decide +kernel
theorem d6_59 : dc prog_1_method_6_code 59 (.aload_n 0) 1 := by decide +kernel
theorem d6_60 : dc prog_1_method_6_code 60 (.iconst 0) 1 := by decide +kernel
theorem d6_61 : dc prog_1_method_6_code 61 (.putfield 71) 3 := by decide +kernel
theorem d6_64 : dc prog_1_method_6_code 64 (.aload_n 0) 1 := by decide +kernel
theorem d6_65 : dc prog_1_method_6_code 65 (.iconst 0) 1 := by decide +kernel
theorem d6_66 : dc prog_1_method_6_code 66 (.putfield 74) 3 := by decide +kernel
theorem d6_69 : dc prog_1_method_6_code 69 (.bipush (-2)) 2 := by decide +kernel
theorem d6_71 : dc prog_1_method_6_code 71 (.ireturn) 1 := by decide +kernel
abbrev y6 : MethodName := ⟨"PictureCobol", "compile", "()I"⟩
theorem hy6 : y6.cls ≠ "java/lang/invoke/MethodHandle" ∧ y6.cls ≠ "java/lang/invoke/VarHandle" := by decide
theorem pd6 : parseMethodDescriptor y6.desc = some ⟨[], some .int⟩ := by decide +kernel
abbrev R6 : Room := { frames := 2, cells := 0, slots := 0, locals := 29 }
abbrev P6 (r : Int32 × St) : Option Value → List OwnC → Prop := fun v H' => v = some (.int r.1) ∧ H' = (Hb 0 r.2)
abbrev W6 (l : Launch) (Z : State) (n0 : Nat) (Q : Option Value → List OwnC → Prop) (k n pc : Nat) (L : List Slot) (S : List Value) (H : List OwnC) : Prop := WP l Z CN lay "PictureCobol" "compile" prog_1_method_6_code 3 (some FieldType.int) R6 n0 0 Q k n pc L S H
def f_compile_44 (n : Nat) (s : St) : Option (Int32 × St) :=
  lt (sI s 4 (1 : Int32)) fun s1 =>
  lt (sI s1 6 (0 : Int32)) fun s2 =>
  lt (sI s2 5 (0 : Int32)) fun s3 =>
  lt (sI s3 7 (0 : Int32)) fun s4 =>
  lt (sI s4 8 (0 : Int32)) fun s5 =>
  some ((-2 : Int32), s5)
set_option maxRecDepth 65536 in
set_option maxHeartbeats 4000000 in
theorem ok6_44 (l : Launch) (Z : State) (a0 : Array Value) (hw : HW a0 Z) (n0 : Nat) (n : Nat) (s : St) (r : Int32 × St) (h : f_compile_44 n s = some r) : W6 l Z n0 (P6 r) 0 0 44 [.val (.ref 0), .unset, .unset] [] (Hb 0 s) := by
  unfold f_compile_44 at h
  refine WP.aloadN d6_44 rfl ?_
  refine WP.iconst (1 : Int32) d6_45 rfl ?_
  obtain ⟨s1, es1, h⟩ := lt_e h
  refine WP.putZ (i := 0) (j := 15) (H' := (Hb 0 s1)) d6_46 (hw _ m_45) (Or.inl (hw _ m_46)) (hw _ m_1) (hlay hw) rfl rfl rfl (leb rfl) (by subst es1; rfl) ?_
  refine WP.aloadN d6_49 rfl ?_
  refine WP.iconst (0 : Int32) d6_50 rfl ?_
  obtain ⟨s2, es2, h⟩ := lt_e h
  refine WP.putI (i := 0) (j := 17) (H' := (Hb 0 s2)) d6_51 (hw _ m_49) (Or.inl (hw _ m_50)) (hw _ m_1) (hlay hw) rfl rfl rfl (leb rfl) (by subst es2; rfl) ?_
  refine WP.aloadN d6_54 rfl ?_
  refine WP.iconst (0 : Int32) d6_55 rfl ?_
  obtain ⟨s3, es3, h⟩ := lt_e h
  refine WP.putZ (i := 0) (j := 16) (H' := (Hb 0 s3)) d6_56 (hw _ m_47) (Or.inl (hw _ m_48)) (hw _ m_1) (hlay hw) rfl rfl rfl (leb rfl) (by subst es3; rfl) ?_
  refine WP.aloadN d6_59 rfl ?_
  refine WP.iconst (0 : Int32) d6_60 rfl ?_
  obtain ⟨s4, es4, h⟩ := lt_e h
  refine WP.putI (i := 0) (j := 18) (H' := (Hb 0 s4)) d6_61 (hw _ m_51) (Or.inl (hw _ m_52)) (hw _ m_1) (hlay hw) rfl rfl rfl (leb rfl) (by subst es4; rfl) ?_
  refine WP.aloadN d6_64 rfl ?_
  refine WP.iconst (0 : Int32) d6_65 rfl ?_
  obtain ⟨s5, es5, h⟩ := lt_e h
  refine WP.putI (i := 0) (j := 19) (H' := (Hb 0 s5)) d6_66 (hw _ m_53) (Or.inl (hw _ m_54)) (hw _ m_1) (hlay hw) rfl rfl rfl (leb rfl) (by subst es5; rfl) ?_
  refine WP.bipush (-2 : Int32) d6_69 rfl ?_
  cases h
  exact WP.ireturn d6_71 rfl (leb rfl) (leb rfl) ⟨rfl, rfl⟩
def g_compile_16 (k16 : Int32 → Int32 → St → Option (Int32 × St)) (n : Nat) (v1 : Int32) (v2 : Int32) (s : St) : Option (Int32 × St) :=
  if v2 < v1 then
    if v2 < (32 : Int32) then
      (f_isBad v2 v1 s).bind fun c3 =>
      if c3 = 0 then
        lt (v2 + (1 : Int32)) fun x5 =>
        k16 v1 x5 s
      else
        some (v2, s)
    else
      f_compile_44 n s
  else
    f_compile_44 n s
set_option maxRecDepth 65536 in
set_option maxHeartbeats 4000000 in
theorem okg6_16 (l : Launch) (Z : State) (a0 : Array Value) (hw : HW a0 Z) (n0 : Nat) (k16 : Int32 → Int32 → St → Option (Int32 × St)) (hk16 : ∀ (v1 : Int32) (v2 : Int32) (s : St) (r : Int32 × St), k16 v1 v2 s = some r → W6 l Z n0 (P6 r) 0 0 16 [.val (.ref 0), .val (.int v1), .val (.int v2)] [] (Hb 0 s)) (n : Nat) (v1 : Int32) (v2 : Int32) (s : St) (r : Int32 × St) (h : g_compile_16 k16 n v1 v2 s = some r) : W6 l Z n0 (P6 r) 0 0 16 [.val (.ref 0), .val (.int v1), .val (.int v2)] [] (Hb 0 s) := by
  unfold g_compile_16 at h
  refine WP.iloadN d6_16 rfl ?_
  refine WP.iloadN d6_17 rfl ?_
  rcases ite_e h with ⟨hc1, h⟩ | ⟨hc1, h⟩
  ·
    refine WP.icmpN d6_18 (XT.ii_ge_f hc1) ?_
    refine WP.iloadN d6_21 rfl ?_
    refine WP.bipush (32 : Int32) d6_22 rfl ?_
    rcases ite_e h with ⟨hc2, h⟩ | ⟨hc2, h⟩
    ·
      refine WP.icmpN d6_24 (XT.ii_ge_f hc2) ?_
      refine WP.aloadN d6_27 rfl ?_
      refine WP.iloadN d6_28 rfl ?_
      refine WP.iloadN d6_29 rfl ?_
      obtain ⟨c3, hc3, h⟩ := Option.bind_eq_some_iff.mp h
      refine WP.callP (i := 0) (y := y14) (as := [.int v2, .int v1]) (S := []) d6_30 (hw _ m_110) (hw _ m_112) (hw _ m_1) (hw _ m_111) (hw _ m_113) (hw _ m_2) hy14 rfl (ok14 l Z a0 hw v2 v1 s _ hc3) rfl (lenOf pd14 rfl) (leb rfl) (leb rfl) (leb rfl) (leb rfl) ?_
      rintro _ _ ⟨rfl, rfl⟩
      show W6 l Z n0 (P6 r) 0 0 33 [.val (.ref 0), .val (.int v1), .val (.int v2)] [.int c3] (Hb 0 s)
      rcases ite_e h with ⟨hc4, h⟩ | ⟨hc4, h⟩
      ·
        refine WP.ifY (pc' := 38) d6_33 (XT.i0_eq_t hc4) (by decide) rfl ?_
        obtain ⟨x5, ex5, h⟩ := lt_e h
        refine WP.iinc (L' := [.val (.ref 0), .val (.int v1), .val (.int x5)]) (1 : Int32) d6_38 rfl rfl (by subst ex5; rfl) ?_
        refine WP.goto (pc' := 16) d6_41 (by decide) rfl ?_
        exact WP.weak (L' := [.val (.ref 0), .val (.int v1), .val (.int x5)]) ⟨rfl, rfl, rfl, trivial⟩ (hk16 v1 x5 s _ h)
      ·
        refine WP.ifN d6_33 (XT.i0_eq_f hc4) ?_
        refine WP.iloadN d6_36 rfl ?_
        cases h
        exact WP.ireturn d6_37 rfl (leb rfl) (leb rfl) ⟨rfl, rfl⟩
    ·
      refine WP.icmpY (pc' := 44) d6_24 (XT.ii_ge_t hc2) (by decide) rfl ?_
      exact WP.weak (L' := [.val (.ref 0), .unset, .unset]) ⟨rfl, trivial⟩ (ok6_44 l Z a0 hw n0 n s _ h)
  ·
    refine WP.icmpY (pc' := 44) d6_18 (XT.ii_ge_t hc1) (by decide) rfl ?_
    exact WP.weak (L' := [.val (.ref 0), .unset, .unset]) ⟨rfl, trivial⟩ (ok6_44 l Z a0 hw n0 n s _ h)
def f_compile_16 : Nat → Int32 → Int32 → St → Option (Int32 × St)
  | 0 => fun _ _ _ => none
  | n + 1 => g_compile_16 (f_compile_16 n) n
theorem ok6_16 (l : Launch) (Z : State) (a0 : Array Value) (hw : HW a0 Z) (n0 : Nat) : ∀ (n : Nat) (v1 : Int32) (v2 : Int32) (s : St) (r : Int32 × St), f_compile_16 n v1 v2 s = some r → W6 l Z n0 (P6 r) 0 0 16 [.val (.ref 0), .val (.int v1), .val (.int v2)] [] (Hb 0 s)
  | 0, v1, v2, s, r, h => nomatch (show none = some r from h)
  | n + 1, v1, v2, s, r, h => okg6_16 l Z a0 hw n0 _ (ok6_16 l Z a0 hw n0 n) n v1 v2 s r h
def f_compile (n : Nat) (s : St) : Option (Int32 × St) :=
  if (gI s 4) = 0 then
    lt (gI s 3) fun x2 =>
    f_compile_16 n x2 (0 : Int32) s
  else
    some ((-1 : Int32), s)
set_option maxRecDepth 65536 in
set_option maxHeartbeats 4000000 in
theorem ok6 (l : Launch) (Z : State) (a0 : Array Value) (hw : HW a0 Z) (n : Nat) (s : St) (r : Int32 × St) (h : f_compile n s = some r) : CS l Z CN lay y6 prog_1_method_6_code 3 (some FieldType.int) R6 0 [.ref 0] (Hb 0 s) (P6 r) := by
  refine CS.of_wp pn_cls (leb rfl) fun n0 => ?_
  show W6 l Z n0 (P6 r) 0 0 0 [.val (.ref 0), .unset, .unset] [] (Hb 0 s)
  unfold f_compile at h
  refine WP.aloadN d6_0 rfl ?_
  refine WP.getfield (i := 0) (j := 15) d6_1 (hw _ m_45) rfl rfl rfl ?_
  rcases ite_e h with ⟨hc1, h⟩ | ⟨hc1, h⟩
  ·
    refine WP.ifY (pc' := 9) d6_4 (XT.i0_eq_t hc1) (by decide) rfl ?_
    refine WP.aloadN d6_9 rfl ?_
    refine WP.getfield (i := 0) (j := 7) d6_10 (hw _ m_43) rfl rfl rfl ?_
    obtain ⟨x2, ex2, h⟩ := lt_e h
    refine WP.istoreN (L' := [.val (.ref 0), .val (.int x2), .unset]) d6_13 (leb rfl) (by subst ex2; rfl) ?_
    refine WP.iconst (0 : Int32) d6_14 rfl ?_
    refine WP.istoreN (L' := [.val (.ref 0), .val (.int x2), .val (.int (0 : Int32))]) d6_15 (leb rfl) rfl ?_
    exact WP.weak (L' := [.val (.ref 0), .val (.int x2), .val (.int (0 : Int32))]) ⟨rfl, rfl, rfl, trivial⟩ (ok6_16 l Z a0 hw n0 n x2 (0 : Int32) s _ h)
  ·
    refine WP.ifN d6_4 (XT.i0_eq_f hc1) ?_
    refine WP.iconst (-1 : Int32) d6_7 rfl ?_
    cases h
    exact WP.ireturn d6_8 rfl (leb rfl) (leb rfl) ⟨rfl, rfl⟩
theorem d7_0 : dc prog_1_method_10_code 0 (.aload_n 0) 1 := by decide +kernel
theorem d7_1 : dc prog_1_method_10_code 1 (.getfield 68) 3 := by decide +kernel
theorem d7_4 : dc prog_1_method_10_code 4 (.ireturn) 1 := by decide +kernel
abbrev y7 : MethodName := ⟨"PictureCobol", "getPc", "()I"⟩
theorem hy7 : y7.cls ≠ "java/lang/invoke/MethodHandle" ∧ y7.cls ≠ "java/lang/invoke/VarHandle" := by decide
theorem pd7 : parseMethodDescriptor y7.desc = some ⟨[], some .int⟩ := by decide +kernel
abbrev R7 : Room := { frames := 0, cells := 0, slots := 0, locals := 0 }
abbrev P7 (s : St) (r : Int32) : Option Value → List OwnC → Prop := fun v H' => v = some (.int r) ∧ H' = (Hb 0 s)
abbrev W7 (l : Launch) (Z : State) (n0 : Nat) (Q : Option Value → List OwnC → Prop) (k n pc : Nat) (L : List Slot) (S : List Value) (H : List OwnC) : Prop := WP l Z CN lay "PictureCobol" "getPc" prog_1_method_10_code 1 (some FieldType.int) R7 n0 0 Q k n pc L S H
def f_getPc (s : St) : Option (Int32) :=
  some (gI s 6)
set_option maxRecDepth 65536 in
set_option maxHeartbeats 4000000 in
theorem ok7 (l : Launch) (Z : State) (a0 : Array Value) (hw : HW a0 Z) (s : St) (r : Int32) (h : f_getPc s = some r) : CS l Z CN lay y7 prog_1_method_10_code 1 (some FieldType.int) R7 0 [.ref 0] (Hb 0 s) (P7 s r) := by
  refine CS.of_wp pn_cls (leb rfl) fun n0 => ?_
  show W7 l Z n0 (P7 s r) 0 0 0 [.val (.ref 0)] [] (Hb 0 s)
  unfold f_getPc at h
  refine WP.aloadN d7_0 rfl ?_
  refine WP.getfield (i := 0) (j := 17) d7_1 (hw _ m_49) rfl rfl rfl ?_
  cases h
  exact WP.ireturn d7_4 rfl (leb rfl) (leb rfl) ⟨rfl, rfl⟩
theorem d8_0 : dc prog_1_method_11_code 0 (.aload_n 0) 1 := by decide +kernel
theorem d8_1 : dc prog_1_method_11_code 1 (.getfield 65) 3 := by decide +kernel
theorem d8_4 : dc prog_1_method_11_code 4 (.ireturn) 1 := by decide +kernel
abbrev y8 : MethodName := ⟨"PictureCobol", "isHalted", "()Z"⟩
theorem hy8 : y8.cls ≠ "java/lang/invoke/MethodHandle" ∧ y8.cls ≠ "java/lang/invoke/VarHandle" := by decide
theorem pd8 : parseMethodDescriptor y8.desc = some ⟨[], some .boolean⟩ := by decide +kernel
abbrev R8 : Room := { frames := 0, cells := 0, slots := 0, locals := 0 }
abbrev P8 (s : St) (r : Int32) : Option Value → List OwnC → Prop := fun v H' => v = some (.int r) ∧ H' = (Hb 0 s)
abbrev W8 (l : Launch) (Z : State) (n0 : Nat) (Q : Option Value → List OwnC → Prop) (k n pc : Nat) (L : List Slot) (S : List Value) (H : List OwnC) : Prop := WP l Z CN lay "PictureCobol" "isHalted" prog_1_method_11_code 1 (some FieldType.boolean) R8 n0 0 Q k n pc L S H
def f_isHalted (s : St) : Option (Int32) :=
  some ((gI s 5) &&& 1)
set_option maxRecDepth 65536 in
set_option maxHeartbeats 4000000 in
theorem ok8 (l : Launch) (Z : State) (a0 : Array Value) (hw : HW a0 Z) (s : St) (r : Int32) (h : f_isHalted s = some r) : CS l Z CN lay y8 prog_1_method_11_code 1 (some FieldType.boolean) R8 0 [.ref 0] (Hb 0 s) (P8 s r) := by
  refine CS.of_wp pn_cls (leb rfl) fun n0 => ?_
  show W8 l Z n0 (P8 s r) 0 0 0 [.val (.ref 0)] [] (Hb 0 s)
  unfold f_isHalted at h
  refine WP.aloadN d8_0 rfl ?_
  refine WP.getfield (i := 0) (j := 16) d8_1 (hw _ m_47) rfl rfl rfl ?_
  cases h
  exact WP.zreturn d8_4 rfl (leb rfl) (leb rfl) ⟨rfl, rfl⟩
theorem d9_0 : dc prog_1_method_13_code 0 (.aload_n 0) 1 := by decide +kernel
theorem d9_1 : dc prog_1_method_13_code 1 (.getfield 71) 3 := by decide +kernel
theorem d9_4 : dc prog_1_method_13_code 4 (.ireturn) 1 := by decide +kernel
abbrev y9 : MethodName := ⟨"PictureCobol", "getExecuted", "()I"⟩
theorem hy9 : y9.cls ≠ "java/lang/invoke/MethodHandle" ∧ y9.cls ≠ "java/lang/invoke/VarHandle" := by decide
theorem pd9 : parseMethodDescriptor y9.desc = some ⟨[], some .int⟩ := by decide +kernel
abbrev R9 : Room := { frames := 0, cells := 0, slots := 0, locals := 0 }
abbrev P9 (s : St) (r : Int32) : Option Value → List OwnC → Prop := fun v H' => v = some (.int r) ∧ H' = (Hb 0 s)
abbrev W9 (l : Launch) (Z : State) (n0 : Nat) (Q : Option Value → List OwnC → Prop) (k n pc : Nat) (L : List Slot) (S : List Value) (H : List OwnC) : Prop := WP l Z CN lay "PictureCobol" "getExecuted" prog_1_method_13_code 1 (some FieldType.int) R9 n0 0 Q k n pc L S H
def f_getExecuted (s : St) : Option (Int32) :=
  some (gI s 7)
set_option maxRecDepth 65536 in
set_option maxHeartbeats 4000000 in
theorem ok9 (l : Launch) (Z : State) (a0 : Array Value) (hw : HW a0 Z) (s : St) (r : Int32) (h : f_getExecuted s = some r) : CS l Z CN lay y9 prog_1_method_13_code 1 (some FieldType.int) R9 0 [.ref 0] (Hb 0 s) (P9 s r) := by
  refine CS.of_wp pn_cls (leb rfl) fun n0 => ?_
  show W9 l Z n0 (P9 s r) 0 0 0 [.val (.ref 0)] [] (Hb 0 s)
  unfold f_getExecuted at h
  refine WP.aloadN d9_0 rfl ?_
  refine WP.getfield (i := 0) (j := 18) d9_1 (hw _ m_51) rfl rfl rfl ?_
  cases h
  exact WP.ireturn d9_4 rfl (leb rfl) (leb rfl) ⟨rfl, rfl⟩
def fr0_f : List Nat := []
theorem fr0_c (x0 : St) : fr0_f.map (fun i => (Hb 0 x0)[i]?) = ([] : List OwnC).map (fun c => some (rnC (ro1 fr0_f (Hb 0 x0).length) c)) := rfl
theorem fr0_l (x0 : St) : ∀ x ∈ fr0_f, x < (Hb 0 x0).length := by show ∀ x ∈ fr0_f, x < 12; decide
theorem fr0_p (x0 : St) : patch (ro1 fr0_f (Hb 0 x0).length) fr0_f ([] : List OwnC) (Hb 0 x0) = (Hb 0 x0) := rfl
abbrev PLAW (r : Int32) : Option Value → List OwnC → Prop := fun v _ => v = some (.int r)
abbrev WLAW (l : Launch) (Z : State) (n0 : Nat) (Q : Option Value → List OwnC → Prop) (k n pc : Nat) (L : List Slot) (S : List Value) (H : List OwnC) : Prop := WP l Z CN lay "PictureCobolL2" "law" code maxLocals ret room_1 n0 0 Q k n pc L S H
def f_law_349 (n : Nat) (t0 : Int32) (s0 : St) : Option (Int32) :=
  some (t0 &&& 1)
set_option maxRecDepth 65536 in
set_option maxHeartbeats 4000000 in
theorem okLAW_349 (l : Launch) (Z : State) (a0 : Array Value) (hw : HW a0 Z) (n0 : Nat) (n : Nat) (t0 : Int32) (s0 : St) (r : Int32) (h : f_law_349 n t0 s0 = some r) : WLAW l Z n0 (PLAW r) 12 278 349 [.unset, .unset, .unset, .unset, .unset, .unset, .unset, .unset, .unset, .unset, .unset] [.int t0] (Hb 0 s0) := by
  unfold f_law_349 at h
  cases h
  exact WP.zreturn at_349 rfl (leb rfl) (leb rfl) rfl
def f_law_348 (n : Nat) (s0 : St) : Option (Int32) :=
  f_law_349 n (0 : Int32) s0
set_option maxRecDepth 65536 in
set_option maxHeartbeats 4000000 in
theorem okLAW_348 (l : Launch) (Z : State) (a0 : Array Value) (hw : HW a0 Z) (n0 : Nat) (n : Nat) (s0 : St) (r : Int32) (h : f_law_348 n s0 = some r) : WLAW l Z n0 (PLAW r) 12 278 348 [.unset, .unset, .unset, .unset, .unset, .unset, .unset, .unset, .unset, .unset, .unset] [] (Hb 0 s0) := by
  unfold f_law_348 at h
  refine WP.iconst (0 : Int32) at_348 rfl ?_
  exact WP.weak (L' := [.unset, .unset, .unset, .unset, .unset, .unset, .unset, .unset, .unset, .unset, .unset]) trivial (okLAW_349 l Z a0 hw n0 n (0 : Int32) s0 _ h)
def f_law_315 (n : Nat) (t0 : Int32) (t1 : Int32) (s0 : St) : Option (Int32) :=
  if t1 = t0 then
    (f_getPc s0).bind fun c2 =>
    if c2 = 0 then
      (f_isHalted s0).bind fun c4 =>
      if c4 = 0 then
        (f_getExecuted s0).bind fun c6 =>
        if c6 = 0 then
          f_law_349 n (1 : Int32) s0
        else
          f_law_348 n s0
      else
        f_law_348 n s0
    else
      f_law_348 n s0
  else
    some (0 : Int32)
set_option maxRecDepth 65536 in
set_option maxHeartbeats 4000000 in
theorem okLAW_315 (l : Launch) (Z : State) (a0 : Array Value) (hw : HW a0 Z) (n0 : Nat) (n : Nat) (t0 : Int32) (t1 : Int32) (s0 : St) (r : Int32) (h : f_law_315 n t0 t1 s0 = some r) : WLAW l Z n0 (PLAW r) 12 278 315 [.unset, .unset, .unset, .unset, .val (.ref 0), .unset, .unset, .unset, .unset, .unset, .unset] [.int t0, .int t1] (Hb 0 s0) := by
  unfold f_law_315 at h
  rcases ite_e h with ⟨hc1, h⟩ | ⟨hc1, h⟩
  ·
    refine WP.icmpY (pc' := 320) at_315 (XT.ii_eq_t hc1) (by decide) rfl ?_
    refine WP.aload at_320 rfl ?_
    obtain ⟨c2, hc2, h⟩ := Option.bind_eq_some_iff.mp h
    refine WP.callV (i := 0) (y := y7) (as := []) (S := []) at_322 (hw _ m_79) (hw _ m_80) (hw _ m_82) (hw _ m_81) (hw _ m_83) (hw _ m_2) hy7 rfl (ok7 l Z a0 hw s0 _ hc2) rfl (lenOf pd7 rfl) (leb rfl) (leb rfl) (leb rfl) (leb rfl) ?_
    rintro _ _ ⟨rfl, rfl⟩
    show WLAW l Z n0 (PLAW r) 12 278 325 [.unset, .unset, .unset, .unset, .val (.ref 0), .unset, .unset, .unset, .unset, .unset, .unset] [.int c2] (Hb 0 s0)
    rcases ite_e h with ⟨hc3, h⟩ | ⟨hc3, h⟩
    ·
      refine WP.ifN at_325 (XT.i0_ne_f hc3) ?_
      refine WP.aload at_328 rfl ?_
      obtain ⟨c4, hc4, h⟩ := Option.bind_eq_some_iff.mp h
      refine WP.callV (i := 0) (y := y8) (as := []) (S := []) at_330 (hw _ m_84) (hw _ m_85) (hw _ m_87) (hw _ m_86) (hw _ m_88) (hw _ m_2) hy8 rfl (ok8 l Z a0 hw s0 _ hc4) rfl (lenOf pd8 rfl) (leb rfl) (leb rfl) (leb rfl) (leb rfl) ?_
      rintro _ _ ⟨rfl, rfl⟩
      show WLAW l Z n0 (PLAW r) 12 278 333 [.unset, .unset, .unset, .unset, .val (.ref 0), .unset, .unset, .unset, .unset, .unset, .unset] [.int c4] (Hb 0 s0)
      rcases ite_e h with ⟨hc5, h⟩ | ⟨hc5, h⟩
      ·
        refine WP.ifN at_333 (XT.i0_ne_f hc5) ?_
        refine WP.aload at_336 rfl ?_
        obtain ⟨c6, hc6, h⟩ := Option.bind_eq_some_iff.mp h
        refine WP.callV (i := 0) (y := y9) (as := []) (S := []) at_338 (hw _ m_89) (hw _ m_90) (hw _ m_92) (hw _ m_91) (hw _ m_93) (hw _ m_2) hy9 rfl (ok9 l Z a0 hw s0 _ hc6) rfl (lenOf pd9 rfl) (leb rfl) (leb rfl) (leb rfl) (leb rfl) ?_
        rintro _ _ ⟨rfl, rfl⟩
        show WLAW l Z n0 (PLAW r) 12 278 341 [.unset, .unset, .unset, .unset, .val (.ref 0), .unset, .unset, .unset, .unset, .unset, .unset] [.int c6] (Hb 0 s0)
        rcases ite_e h with ⟨hc7, h⟩ | ⟨hc7, h⟩
        ·
          refine WP.ifN at_341 (XT.i0_ne_f hc7) ?_
          refine WP.iconst (1 : Int32) at_344 rfl ?_
          refine WP.goto (pc' := 349) at_345 (by decide) rfl ?_
          exact WP.weak (L' := [.unset, .unset, .unset, .unset, .unset, .unset, .unset, .unset, .unset, .unset, .unset]) trivial (okLAW_349 l Z a0 hw n0 n (1 : Int32) s0 _ h)
        ·
          refine WP.ifY (pc' := 348) at_341 (XT.i0_ne_t hc7) (by decide) rfl ?_
          exact WP.weak (L' := [.unset, .unset, .unset, .unset, .unset, .unset, .unset, .unset, .unset, .unset, .unset]) trivial (okLAW_348 l Z a0 hw n0 n s0 _ h)
      ·
        refine WP.ifY (pc' := 348) at_333 (XT.i0_ne_t hc5) (by decide) rfl ?_
        exact WP.weak (L' := [.unset, .unset, .unset, .unset, .unset, .unset, .unset, .unset, .unset, .unset, .unset]) trivial (okLAW_348 l Z a0 hw n0 n s0 _ h)
    ·
      refine WP.ifY (pc' := 348) at_325 (XT.i0_ne_t hc3) (by decide) rfl ?_
      exact WP.weak (L' := [.unset, .unset, .unset, .unset, .unset, .unset, .unset, .unset, .unset, .unset, .unset]) trivial (okLAW_348 l Z a0 hw n0 n s0 _ h)
  ·
    refine WP.icmpN at_315 (XT.ii_eq_f hc1) ?_
    refine WP.iconst (0 : Int32) at_318 rfl ?_
    cases h
    exact WP.zreturn at_319 rfl (leb rfl) (leb rfl) rfl
def f_law_295 (n : Nat) (v7 : Int32) (t0 : Int32) (t1 : Int32) (s0 : St) : Option (Int32) :=
  if t1 = t0 then
    (f_getStatementCount s0).bind fun c2 =>
    if v7 = 0 then
      f_law_315 n (0 : Int32) c2 s0
    else
      f_law_315 n (1 : Int32) c2 s0
  else
    some (0 : Int32)
set_option maxRecDepth 65536 in
set_option maxHeartbeats 4000000 in
theorem okLAW_295 (l : Launch) (Z : State) (a0 : Array Value) (hw : HW a0 Z) (n0 : Nat) (n : Nat) (v7 : Int32) (t0 : Int32) (t1 : Int32) (s0 : St) (r : Int32) (h : f_law_295 n v7 t0 t1 s0 = some r) : WLAW l Z n0 (PLAW r) 12 278 295 [.unset, .unset, .unset, .unset, .val (.ref 0), .unset, .unset, .val (.int v7), .unset, .unset, .unset] [.int t0, .int t1] (Hb 0 s0) := by
  unfold f_law_295 at h
  rcases ite_e h with ⟨hc1, h⟩ | ⟨hc1, h⟩
  ·
    refine WP.icmpY (pc' := 300) at_295 (XT.ii_eq_t hc1) (by decide) rfl ?_
    refine WP.aload at_300 rfl ?_
    obtain ⟨c2, hc2, h⟩ := Option.bind_eq_some_iff.mp h
    refine WP.callV (i := 0) (y := y5) (as := []) (S := []) at_302 (hw _ m_69) (hw _ m_70) (hw _ m_72) (hw _ m_71) (hw _ m_73) (hw _ m_2) hy5 rfl (ok5 l Z a0 hw s0 _ hc2) rfl (lenOf pd5 rfl) (leb rfl) (leb rfl) (leb rfl) (leb rfl) ?_
    rintro _ _ ⟨rfl, rfl⟩
    show WLAW l Z n0 (PLAW r) 12 278 305 [.unset, .unset, .unset, .unset, .val (.ref 0), .unset, .unset, .val (.int v7), .unset, .unset, .unset] [.int c2] (Hb 0 s0)
    refine WP.iload at_305 rfl ?_
    rcases ite_e h with ⟨hc3, h⟩ | ⟨hc3, h⟩
    ·
      refine WP.ifY (pc' := 314) at_307 (XT.i0_eq_t hc3) (by decide) rfl ?_
      refine WP.iconst (0 : Int32) at_314 rfl ?_
      exact WP.weak (L' := [.unset, .unset, .unset, .unset, .val (.ref 0), .unset, .unset, .unset, .unset, .unset, .unset]) ⟨rfl, trivial⟩ (okLAW_315 l Z a0 hw n0 n (0 : Int32) c2 s0 _ h)
    ·
      refine WP.ifN at_307 (XT.i0_eq_f hc3) ?_
      refine WP.iconst (1 : Int32) at_310 rfl ?_
      refine WP.goto (pc' := 315) at_311 (by decide) rfl ?_
      exact WP.weak (L' := [.unset, .unset, .unset, .unset, .val (.ref 0), .unset, .unset, .unset, .unset, .unset, .unset]) ⟨rfl, trivial⟩ (okLAW_315 l Z a0 hw n0 n (1 : Int32) c2 s0 _ h)
  ·
    refine WP.icmpN at_295 (XT.ii_eq_f hc1) ?_
    refine WP.iconst (0 : Int32) at_298 rfl ?_
    cases h
    exact WP.zreturn at_299 rfl (leb rfl) (leb rfl) rfl
def f_law_273 (n : Nat) (v7 : Int32) (t0 : Int32) (s0 : St) : Option (Int32) :=
  (f_compile n s0).bind fun c1 =>
  if t0 = 0 then
    f_law_295 n v7 (-2 : Int32) c1.1 c1.2
  else
    f_law_295 n v7 (0 : Int32) c1.1 c1.2
set_option maxRecDepth 65536 in
set_option maxHeartbeats 4000000 in
theorem okLAW_273 (l : Launch) (Z : State) (a0 : Array Value) (hw : HW a0 Z) (n0 : Nat) (n : Nat) (v7 : Int32) (t0 : Int32) (s0 : St) (r : Int32) (h : f_law_273 n v7 t0 s0 = some r) : WLAW l Z n0 (PLAW r) 12 278 273 [.unset, .unset, .unset, .unset, .val (.ref 0), .unset, .unset, .val (.int v7), .unset, .unset, .unset] [.int t0] (Hb 0 s0) := by
  unfold f_law_273 at h
  refine WP.istore (L' := [.unset, .unset, .unset, .unset, .val (.ref 0), .unset, .unset, .val (.int v7), .unset, .val (.int t0), .unset]) at_273 (leb rfl) rfl ?_
  refine WP.aload at_275 rfl ?_
  obtain ⟨c1, hc1, h⟩ := Option.bind_eq_some_iff.mp h
  refine WP.callV (i := 0) (y := y6) (as := []) (S := []) at_277 (hw _ m_74) (hw _ m_75) (hw _ m_77) (hw _ m_76) (hw _ m_78) (hw _ m_2) hy6 rfl (ok6 l Z a0 hw n s0 _ hc1) rfl (lenOf pd6 rfl) (leb rfl) (leb rfl) (leb rfl) (leb rfl) ?_
  rintro _ _ ⟨rfl, rfl⟩
  show WLAW l Z n0 (PLAW r) 12 278 280 [.unset, .unset, .unset, .unset, .val (.ref 0), .unset, .unset, .val (.int v7), .unset, .val (.int t0), .unset] [.int c1.1] (Hb 0 c1.2)
  refine WP.istore (L' := [.unset, .unset, .unset, .unset, .val (.ref 0), .unset, .unset, .val (.int v7), .unset, .val (.int t0), .val (.int c1.1)]) at_280 (leb rfl) rfl ?_
  refine WP.iload at_282 rfl ?_
  refine WP.iload at_284 rfl ?_
  rcases ite_e h with ⟨hc2, h⟩ | ⟨hc2, h⟩
  ·
    refine WP.ifY (pc' := 293) at_286 (XT.i0_eq_t hc2) (by decide) rfl ?_
    refine WP.bipush (-2 : Int32) at_293 rfl ?_
    exact WP.weak (L' := [.unset, .unset, .unset, .unset, .val (.ref 0), .unset, .unset, .val (.int v7), .unset, .unset, .unset]) ⟨rfl, rfl, trivial⟩ (okLAW_295 l Z a0 hw n0 n v7 (-2 : Int32) c1.1 c1.2 _ h)
  ·
    refine WP.ifN at_286 (XT.i0_eq_f hc2) ?_
    refine WP.iconst (0 : Int32) at_289 rfl ?_
    refine WP.goto (pc' := 295) at_290 (by decide) rfl ?_
    exact WP.weak (L' := [.unset, .unset, .unset, .unset, .val (.ref 0), .unset, .unset, .val (.int v7), .unset, .unset, .unset]) ⟨rfl, rfl, trivial⟩ (okLAW_295 l Z a0 hw n0 n v7 (0 : Int32) c1.1 c1.2 _ h)
def f_law_268 (n : Nat) (v7 : Int32) (s0 : St) : Option (Int32) :=
  f_law_273 n v7 (1 : Int32) s0
set_option maxRecDepth 65536 in
set_option maxHeartbeats 4000000 in
theorem okLAW_268 (l : Launch) (Z : State) (a0 : Array Value) (hw : HW a0 Z) (n0 : Nat) (n : Nat) (v7 : Int32) (s0 : St) (r : Int32) (h : f_law_268 n v7 s0 = some r) : WLAW l Z n0 (PLAW r) 12 278 268 [.unset, .unset, .unset, .unset, .val (.ref 0), .unset, .unset, .val (.int v7), .unset, .unset, .unset] [] (Hb 0 s0) := by
  unfold f_law_268 at h
  refine WP.iconst (1 : Int32) at_268 rfl ?_
  refine WP.goto (pc' := 273) at_269 (by decide) rfl ?_
  exact WP.weak (L' := [.unset, .unset, .unset, .unset, .val (.ref 0), .unset, .unset, .val (.int v7), .unset, .unset, .unset]) ⟨rfl, rfl, trivial⟩ (okLAW_273 l Z a0 hw n0 n v7 (1 : Int32) s0 _ h)
def f_law_272 (n : Nat) (v7 : Int32) (s0 : St) : Option (Int32) :=
  f_law_273 n v7 (0 : Int32) s0
set_option maxRecDepth 65536 in
set_option maxHeartbeats 4000000 in
theorem okLAW_272 (l : Launch) (Z : State) (a0 : Array Value) (hw : HW a0 Z) (n0 : Nat) (n : Nat) (v7 : Int32) (s0 : St) (r : Int32) (h : f_law_272 n v7 s0 = some r) : WLAW l Z n0 (PLAW r) 12 278 272 [.unset, .unset, .unset, .unset, .val (.ref 0), .unset, .unset, .val (.int v7), .unset, .unset, .unset] [] (Hb 0 s0) := by
  unfold f_law_272 at h
  refine WP.iconst (0 : Int32) at_272 rfl ?_
  exact WP.weak (L' := [.unset, .unset, .unset, .unset, .val (.ref 0), .unset, .unset, .val (.int v7), .unset, .unset, .unset]) ⟨rfl, rfl, trivial⟩ (okLAW_273 l Z a0 hw n0 n v7 (0 : Int32) s0 _ h)
def f_law_247 (n : Nat) (v3 : Int32) (v7 : Int32) (t0 : Int32) (s0 : St) : Option (Int32) :=
  if v7 = 0 then
    f_law_272 n v7 s0
  else
    if t0 = 0 then
      f_law_272 n v7 s0
    else
      if v3 < 0 then
        f_law_268 n v7 s0
      else
        if (1 : Int32) < v3 then
          f_law_268 n v7 s0
        else
          f_law_272 n v7 s0
set_option maxRecDepth 65536 in
set_option maxHeartbeats 4000000 in
theorem okLAW_247 (l : Launch) (Z : State) (a0 : Array Value) (hw : HW a0 Z) (n0 : Nat) (n : Nat) (v3 : Int32) (v7 : Int32) (t0 : Int32) (s0 : St) (r : Int32) (h : f_law_247 n v3 v7 t0 s0 = some r) : WLAW l Z n0 (PLAW r) 12 278 247 [.unset, .unset, .unset, .val (.int v3), .val (.ref 0), .unset, .unset, .val (.int v7), .unset, .unset, .unset] [.int t0] (Hb 0 s0) := by
  unfold f_law_247 at h
  refine WP.istore (L' := [.unset, .unset, .unset, .val (.int v3), .val (.ref 0), .unset, .unset, .val (.int v7), .val (.int t0), .unset, .unset]) at_247 (leb rfl) rfl ?_
  refine WP.iload at_249 rfl ?_
  rcases ite_e h with ⟨hc1, h⟩ | ⟨hc1, h⟩
  ·
    refine WP.ifY (pc' := 272) at_251 (XT.i0_eq_t hc1) (by decide) rfl ?_
    exact WP.weak (L' := [.unset, .unset, .unset, .unset, .val (.ref 0), .unset, .unset, .val (.int v7), .unset, .unset, .unset]) ⟨rfl, rfl, trivial⟩ (okLAW_272 l Z a0 hw n0 n v7 s0 _ h)
  ·
    refine WP.ifN at_251 (XT.i0_eq_f hc1) ?_
    refine WP.iload at_254 rfl ?_
    rcases ite_e h with ⟨hc2, h⟩ | ⟨hc2, h⟩
    ·
      refine WP.ifY (pc' := 272) at_256 (XT.i0_eq_t hc2) (by decide) rfl ?_
      exact WP.weak (L' := [.unset, .unset, .unset, .unset, .val (.ref 0), .unset, .unset, .val (.int v7), .unset, .unset, .unset]) ⟨rfl, rfl, trivial⟩ (okLAW_272 l Z a0 hw n0 n v7 s0 _ h)
    ·
      refine WP.ifN at_256 (XT.i0_eq_f hc2) ?_
      refine WP.iloadN at_259 rfl ?_
      rcases ite_e h with ⟨hc3, h⟩ | ⟨hc3, h⟩
      ·
        refine WP.ifY (pc' := 268) at_260 (XT.i0_lt_t hc3) (by decide) rfl ?_
        exact WP.weak (L' := [.unset, .unset, .unset, .unset, .val (.ref 0), .unset, .unset, .val (.int v7), .unset, .unset, .unset]) ⟨rfl, rfl, trivial⟩ (okLAW_268 l Z a0 hw n0 n v7 s0 _ h)
      ·
        refine WP.ifN at_260 (XT.i0_lt_f hc3) ?_
        refine WP.iloadN at_263 rfl ?_
        refine WP.iconst (1 : Int32) at_264 rfl ?_
        rcases ite_e h with ⟨hc4, h⟩ | ⟨hc4, h⟩
        ·
          refine WP.icmpN at_265 (XT.ii_le_f hc4) ?_
          exact WP.weak (L' := [.unset, .unset, .unset, .unset, .val (.ref 0), .unset, .unset, .val (.int v7), .unset, .unset, .unset]) ⟨rfl, rfl, trivial⟩ (okLAW_268 l Z a0 hw n0 n v7 s0 _ h)
        ·
          refine WP.icmpY (pc' := 272) at_265 (XT.ii_le_t hc4) (by decide) rfl ?_
          exact WP.weak (L' := [.unset, .unset, .unset, .unset, .val (.ref 0), .unset, .unset, .val (.int v7), .unset, .unset, .unset]) ⟨rfl, rfl, trivial⟩ (okLAW_272 l Z a0 hw n0 n v7 s0 _ h)
def f_law_246 (n : Nat) (v3 : Int32) (v7 : Int32) (s0 : St) : Option (Int32) :=
  f_law_247 n v3 v7 (0 : Int32) s0
set_option maxRecDepth 65536 in
set_option maxHeartbeats 4000000 in
theorem okLAW_246 (l : Launch) (Z : State) (a0 : Array Value) (hw : HW a0 Z) (n0 : Nat) (n : Nat) (v3 : Int32) (v7 : Int32) (s0 : St) (r : Int32) (h : f_law_246 n v3 v7 s0 = some r) : WLAW l Z n0 (PLAW r) 12 278 246 [.unset, .unset, .unset, .val (.int v3), .val (.ref 0), .unset, .unset, .val (.int v7), .unset, .unset, .unset] [] (Hb 0 s0) := by
  unfold f_law_246 at h
  refine WP.iconst (0 : Int32) at_246 rfl ?_
  exact WP.weak (L' := [.unset, .unset, .unset, .val (.int v3), .val (.ref 0), .unset, .unset, .val (.int v7), .unset, .unset, .unset]) ⟨rfl, rfl, rfl, trivial⟩ (okLAW_247 l Z a0 hw n0 n v3 v7 (0 : Int32) s0 _ h)
def f_law_225 (n : Nat) (v0 : Int32) (v3 : Int32) (v7 : Int32) (t0 : Int32) (t1 : Int32) (s0 : St) : Option (Int32) :=
  if t1 = t0 then
    if v0 < (6 : Int32) then
      f_law_246 n v3 v7 s0
    else
      if (8 : Int32) < v0 then
        f_law_246 n v3 v7 s0
      else
        f_law_247 n v3 v7 (1 : Int32) s0
  else
    some (0 : Int32)
set_option maxRecDepth 65536 in
set_option maxHeartbeats 4000000 in
theorem okLAW_225 (l : Launch) (Z : State) (a0 : Array Value) (hw : HW a0 Z) (n0 : Nat) (n : Nat) (v0 : Int32) (v3 : Int32) (v7 : Int32) (t0 : Int32) (t1 : Int32) (s0 : St) (r : Int32) (h : f_law_225 n v0 v3 v7 t0 t1 s0 = some r) : WLAW l Z n0 (PLAW r) 12 278 225 [.val (.int v0), .unset, .unset, .val (.int v3), .val (.ref 0), .unset, .unset, .val (.int v7), .unset, .unset, .unset] [.int t0, .int t1] (Hb 0 s0) := by
  unfold f_law_225 at h
  rcases ite_e h with ⟨hc1, h⟩ | ⟨hc1, h⟩
  ·
    refine WP.icmpY (pc' := 230) at_225 (XT.ii_eq_t hc1) (by decide) rfl ?_
    refine WP.iloadN at_230 rfl ?_
    refine WP.bipush (6 : Int32) at_231 rfl ?_
    rcases ite_e h with ⟨hc2, h⟩ | ⟨hc2, h⟩
    ·
      refine WP.icmpY (pc' := 246) at_233 (XT.ii_lt_t hc2) (by decide) rfl ?_
      exact WP.weak (L' := [.unset, .unset, .unset, .val (.int v3), .val (.ref 0), .unset, .unset, .val (.int v7), .unset, .unset, .unset]) ⟨rfl, rfl, rfl, trivial⟩ (okLAW_246 l Z a0 hw n0 n v3 v7 s0 _ h)
    ·
      refine WP.icmpN at_233 (XT.ii_lt_f hc2) ?_
      refine WP.iloadN at_236 rfl ?_
      refine WP.bipush (8 : Int32) at_237 rfl ?_
      rcases ite_e h with ⟨hc3, h⟩ | ⟨hc3, h⟩
      ·
        refine WP.icmpY (pc' := 246) at_239 (XT.ii_gt_t hc3) (by decide) rfl ?_
        exact WP.weak (L' := [.unset, .unset, .unset, .val (.int v3), .val (.ref 0), .unset, .unset, .val (.int v7), .unset, .unset, .unset]) ⟨rfl, rfl, rfl, trivial⟩ (okLAW_246 l Z a0 hw n0 n v3 v7 s0 _ h)
      ·
        refine WP.icmpN at_239 (XT.ii_gt_f hc3) ?_
        refine WP.iconst (1 : Int32) at_242 rfl ?_
        refine WP.goto (pc' := 247) at_243 (by decide) rfl ?_
        exact WP.weak (L' := [.unset, .unset, .unset, .val (.int v3), .val (.ref 0), .unset, .unset, .val (.int v7), .unset, .unset, .unset]) ⟨rfl, rfl, rfl, trivial⟩ (okLAW_247 l Z a0 hw n0 n v3 v7 (1 : Int32) s0 _ h)
  ·
    refine WP.icmpN at_225 (XT.ii_eq_f hc1) ?_
    refine WP.iconst (0 : Int32) at_228 rfl ?_
    cases h
    exact WP.zreturn at_229 rfl (leb rfl) (leb rfl) rfl
def f_law_205 (n : Nat) (v0 : Int32) (v3 : Int32) (v7 : Int32) (t0 : Int32) (t1 : Int32) (s0 : St) : Option (Int32) :=
  if t1 = t0 then
    (f_getStatementCount s0).bind fun c2 =>
    if v7 = 0 then
      f_law_225 n v0 v3 v7 (0 : Int32) c2 s0
    else
      f_law_225 n v0 v3 v7 (1 : Int32) c2 s0
  else
    some (0 : Int32)
set_option maxRecDepth 65536 in
set_option maxHeartbeats 4000000 in
theorem okLAW_205 (l : Launch) (Z : State) (a0 : Array Value) (hw : HW a0 Z) (n0 : Nat) (n : Nat) (v0 : Int32) (v3 : Int32) (v7 : Int32) (t0 : Int32) (t1 : Int32) (s0 : St) (r : Int32) (h : f_law_205 n v0 v3 v7 t0 t1 s0 = some r) : WLAW l Z n0 (PLAW r) 12 278 205 [.val (.int v0), .unset, .unset, .val (.int v3), .val (.ref 0), .unset, .unset, .val (.int v7), .unset, .unset, .unset] [.int t0, .int t1] (Hb 0 s0) := by
  unfold f_law_205 at h
  rcases ite_e h with ⟨hc1, h⟩ | ⟨hc1, h⟩
  ·
    refine WP.icmpY (pc' := 210) at_205 (XT.ii_eq_t hc1) (by decide) rfl ?_
    refine WP.aload at_210 rfl ?_
    obtain ⟨c2, hc2, h⟩ := Option.bind_eq_some_iff.mp h
    refine WP.callV (i := 0) (y := y5) (as := []) (S := []) at_212 (hw _ m_69) (hw _ m_70) (hw _ m_72) (hw _ m_71) (hw _ m_73) (hw _ m_2) hy5 rfl (ok5 l Z a0 hw s0 _ hc2) rfl (lenOf pd5 rfl) (leb rfl) (leb rfl) (leb rfl) (leb rfl) ?_
    rintro _ _ ⟨rfl, rfl⟩
    show WLAW l Z n0 (PLAW r) 12 278 215 [.val (.int v0), .unset, .unset, .val (.int v3), .val (.ref 0), .unset, .unset, .val (.int v7), .unset, .unset, .unset] [.int c2] (Hb 0 s0)
    refine WP.iload at_215 rfl ?_
    rcases ite_e h with ⟨hc3, h⟩ | ⟨hc3, h⟩
    ·
      refine WP.ifY (pc' := 224) at_217 (XT.i0_eq_t hc3) (by decide) rfl ?_
      refine WP.iconst (0 : Int32) at_224 rfl ?_
      exact WP.weak (L' := [.val (.int v0), .unset, .unset, .val (.int v3), .val (.ref 0), .unset, .unset, .val (.int v7), .unset, .unset, .unset]) ⟨rfl, rfl, rfl, rfl, trivial⟩ (okLAW_225 l Z a0 hw n0 n v0 v3 v7 (0 : Int32) c2 s0 _ h)
    ·
      refine WP.ifN at_217 (XT.i0_eq_f hc3) ?_
      refine WP.iconst (1 : Int32) at_220 rfl ?_
      refine WP.goto (pc' := 225) at_221 (by decide) rfl ?_
      exact WP.weak (L' := [.val (.int v0), .unset, .unset, .val (.int v3), .val (.ref 0), .unset, .unset, .val (.int v7), .unset, .unset, .unset]) ⟨rfl, rfl, rfl, rfl, trivial⟩ (okLAW_225 l Z a0 hw n0 n v0 v3 v7 (1 : Int32) c2 s0 _ h)
  ·
    refine WP.icmpN at_205 (XT.ii_eq_f hc1) ?_
    refine WP.iconst (0 : Int32) at_208 rfl ?_
    cases h
    exact WP.zreturn at_209 rfl (leb rfl) (leb rfl) rfl
def f_law_193 (n : Nat) (v0 : Int32) (v3 : Int32) (v5 : Int32) (v7 : Int32) (s0 : St) : Option (Int32) :=
  if v7 = 0 then
    f_law_205 n v0 v3 v7 (-1 : Int32) v5 s0
  else
    f_law_205 n v0 v3 v7 (0 : Int32) v5 s0
set_option maxRecDepth 65536 in
set_option maxHeartbeats 4000000 in
theorem okLAW_193 (l : Launch) (Z : State) (a0 : Array Value) (hw : HW a0 Z) (n0 : Nat) (n : Nat) (v0 : Int32) (v3 : Int32) (v5 : Int32) (v7 : Int32) (s0 : St) (r : Int32) (h : f_law_193 n v0 v3 v5 v7 s0 = some r) : WLAW l Z n0 (PLAW r) 12 278 193 [.val (.int v0), .unset, .unset, .val (.int v3), .val (.ref 0), .val (.int v5), .unset, .val (.int v7), .unset, .unset, .unset] [] (Hb 0 s0) := by
  unfold f_law_193 at h
  refine WP.iload at_193 rfl ?_
  refine WP.iload at_195 rfl ?_
  rcases ite_e h with ⟨hc1, h⟩ | ⟨hc1, h⟩
  ·
    refine WP.ifY (pc' := 204) at_197 (XT.i0_eq_t hc1) (by decide) rfl ?_
    refine WP.iconst (-1 : Int32) at_204 rfl ?_
    exact WP.weak (L' := [.val (.int v0), .unset, .unset, .val (.int v3), .val (.ref 0), .unset, .unset, .val (.int v7), .unset, .unset, .unset]) ⟨rfl, rfl, rfl, rfl, trivial⟩ (okLAW_205 l Z a0 hw n0 n v0 v3 v7 (-1 : Int32) v5 s0 _ h)
  ·
    refine WP.ifN at_197 (XT.i0_eq_f hc1) ?_
    refine WP.iconst (0 : Int32) at_200 rfl ?_
    refine WP.goto (pc' := 205) at_201 (by decide) rfl ?_
    exact WP.weak (L' := [.val (.int v0), .unset, .unset, .val (.int v3), .val (.ref 0), .unset, .unset, .val (.int v7), .unset, .unset, .unset]) ⟨rfl, rfl, rfl, rfl, trivial⟩ (okLAW_205 l Z a0 hw n0 n v0 v3 v7 (0 : Int32) v5 s0 _ h)
def f_law_95 (n : Nat) (v0 : Int32) (v3 : Int32) (v5 : Int32) (t0 : Int32) (s0 : St) : Option (Int32) :=
  f_law_193 n v0 v3 v5 t0 s0
set_option maxRecDepth 65536 in
set_option maxHeartbeats 4000000 in
theorem okLAW_95 (l : Launch) (Z : State) (a0 : Array Value) (hw : HW a0 Z) (n0 : Nat) (n : Nat) (v0 : Int32) (v3 : Int32) (v5 : Int32) (t0 : Int32) (s0 : St) (r : Int32) (h : f_law_95 n v0 v3 v5 t0 s0 = some r) : WLAW l Z n0 (PLAW r) 12 278 95 [.val (.int v0), .unset, .unset, .val (.int v3), .val (.ref 0), .val (.int v5), .unset, .unset, .unset, .unset, .unset] [.int t0] (Hb 0 s0) := by
  unfold f_law_95 at h
  refine WP.istore (L' := [.val (.int v0), .unset, .unset, .val (.int v3), .val (.ref 0), .val (.int v5), .unset, .val (.int t0), .unset, .unset, .unset]) at_95 (leb rfl) rfl ?_
  refine WP.goto (pc' := 193) at_97 (by decide) rfl ?_
  exact WP.weak (L' := [.val (.int v0), .unset, .unset, .val (.int v3), .val (.ref 0), .val (.int v5), .unset, .val (.int t0), .unset, .unset, .unset]) ⟨rfl, rfl, rfl, rfl, rfl, trivial⟩ (okLAW_193 l Z a0 hw n0 n v0 v3 v5 t0 s0 _ h)
def f_law_94 (n : Nat) (v0 : Int32) (v3 : Int32) (v5 : Int32) (s0 : St) : Option (Int32) :=
  f_law_95 n v0 v3 v5 (0 : Int32) s0
set_option maxRecDepth 65536 in
set_option maxHeartbeats 4000000 in
theorem okLAW_94 (l : Launch) (Z : State) (a0 : Array Value) (hw : HW a0 Z) (n0 : Nat) (n : Nat) (v0 : Int32) (v3 : Int32) (v5 : Int32) (s0 : St) (r : Int32) (h : f_law_94 n v0 v3 v5 s0 = some r) : WLAW l Z n0 (PLAW r) 12 278 94 [.val (.int v0), .unset, .unset, .val (.int v3), .val (.ref 0), .val (.int v5), .unset, .unset, .unset, .unset, .unset] [] (Hb 0 s0) := by
  unfold f_law_94 at h
  refine WP.iconst (0 : Int32) at_94 rfl ?_
  exact WP.weak (L' := [.val (.int v0), .unset, .unset, .val (.int v3), .val (.ref 0), .val (.int v5), .unset, .unset, .unset, .unset, .unset]) ⟨rfl, rfl, rfl, rfl, trivial⟩ (okLAW_95 l Z a0 hw n0 n v0 v3 v5 (0 : Int32) s0 _ h)
def f_law_131 (n : Nat) (v0 : Int32) (v3 : Int32) (v5 : Int32) (t0 : Int32) (s0 : St) : Option (Int32) :=
  f_law_193 n v0 v3 v5 t0 s0
set_option maxRecDepth 65536 in
set_option maxHeartbeats 4000000 in
theorem okLAW_131 (l : Launch) (Z : State) (a0 : Array Value) (hw : HW a0 Z) (n0 : Nat) (n : Nat) (v0 : Int32) (v3 : Int32) (v5 : Int32) (t0 : Int32) (s0 : St) (r : Int32) (h : f_law_131 n v0 v3 v5 t0 s0 = some r) : WLAW l Z n0 (PLAW r) 12 278 131 [.val (.int v0), .unset, .unset, .val (.int v3), .val (.ref 0), .val (.int v5), .unset, .unset, .unset, .unset, .unset] [.int t0] (Hb 0 s0) := by
  unfold f_law_131 at h
  refine WP.istore (L' := [.val (.int v0), .unset, .unset, .val (.int v3), .val (.ref 0), .val (.int v5), .unset, .val (.int t0), .unset, .unset, .unset]) at_131 (leb rfl) rfl ?_
  refine WP.goto (pc' := 193) at_133 (by decide) rfl ?_
  exact WP.weak (L' := [.val (.int v0), .unset, .unset, .val (.int v3), .val (.ref 0), .val (.int v5), .unset, .val (.int t0), .unset, .unset, .unset]) ⟨rfl, rfl, rfl, rfl, rfl, trivial⟩ (okLAW_193 l Z a0 hw n0 n v0 v3 v5 t0 s0 _ h)
def f_law_130 (n : Nat) (v0 : Int32) (v3 : Int32) (v5 : Int32) (s0 : St) : Option (Int32) :=
  f_law_131 n v0 v3 v5 (0 : Int32) s0
set_option maxRecDepth 65536 in
set_option maxHeartbeats 4000000 in
theorem okLAW_130 (l : Launch) (Z : State) (a0 : Array Value) (hw : HW a0 Z) (n0 : Nat) (n : Nat) (v0 : Int32) (v3 : Int32) (v5 : Int32) (s0 : St) (r : Int32) (h : f_law_130 n v0 v3 v5 s0 = some r) : WLAW l Z n0 (PLAW r) 12 278 130 [.val (.int v0), .unset, .unset, .val (.int v3), .val (.ref 0), .val (.int v5), .unset, .unset, .unset, .unset, .unset] [] (Hb 0 s0) := by
  unfold f_law_130 at h
  refine WP.iconst (0 : Int32) at_130 rfl ?_
  exact WP.weak (L' := [.val (.int v0), .unset, .unset, .val (.int v3), .val (.ref 0), .val (.int v5), .unset, .unset, .unset, .unset, .unset]) ⟨rfl, rfl, rfl, rfl, trivial⟩ (okLAW_131 l Z a0 hw n0 n v0 v3 v5 (0 : Int32) s0 _ h)
def f_law_167 (n : Nat) (v0 : Int32) (v3 : Int32) (v5 : Int32) (t0 : Int32) (s0 : St) : Option (Int32) :=
  f_law_193 n v0 v3 v5 t0 s0
set_option maxRecDepth 65536 in
set_option maxHeartbeats 4000000 in
theorem okLAW_167 (l : Launch) (Z : State) (a0 : Array Value) (hw : HW a0 Z) (n0 : Nat) (n : Nat) (v0 : Int32) (v3 : Int32) (v5 : Int32) (t0 : Int32) (s0 : St) (r : Int32) (h : f_law_167 n v0 v3 v5 t0 s0 = some r) : WLAW l Z n0 (PLAW r) 12 278 167 [.val (.int v0), .unset, .unset, .val (.int v3), .val (.ref 0), .val (.int v5), .unset, .unset, .unset, .unset, .unset] [.int t0] (Hb 0 s0) := by
  unfold f_law_167 at h
  refine WP.istore (L' := [.val (.int v0), .unset, .unset, .val (.int v3), .val (.ref 0), .val (.int v5), .unset, .val (.int t0), .unset, .unset, .unset]) at_167 (leb rfl) rfl ?_
  refine WP.goto (pc' := 193) at_169 (by decide) rfl ?_
  exact WP.weak (L' := [.val (.int v0), .unset, .unset, .val (.int v3), .val (.ref 0), .val (.int v5), .unset, .val (.int t0), .unset, .unset, .unset]) ⟨rfl, rfl, rfl, rfl, rfl, trivial⟩ (okLAW_193 l Z a0 hw n0 n v0 v3 v5 t0 s0 _ h)
def f_law_166 (n : Nat) (v0 : Int32) (v3 : Int32) (v5 : Int32) (s0 : St) : Option (Int32) :=
  f_law_167 n v0 v3 v5 (0 : Int32) s0
set_option maxRecDepth 65536 in
set_option maxHeartbeats 4000000 in
theorem okLAW_166 (l : Launch) (Z : State) (a0 : Array Value) (hw : HW a0 Z) (n0 : Nat) (n : Nat) (v0 : Int32) (v3 : Int32) (v5 : Int32) (s0 : St) (r : Int32) (h : f_law_166 n v0 v3 v5 s0 = some r) : WLAW l Z n0 (PLAW r) 12 278 166 [.val (.int v0), .unset, .unset, .val (.int v3), .val (.ref 0), .val (.int v5), .unset, .unset, .unset, .unset, .unset] [] (Hb 0 s0) := by
  unfold f_law_166 at h
  refine WP.iconst (0 : Int32) at_166 rfl ?_
  exact WP.weak (L' := [.val (.int v0), .unset, .unset, .val (.int v3), .val (.ref 0), .val (.int v5), .unset, .unset, .unset, .unset, .unset]) ⟨rfl, rfl, rfl, rfl, trivial⟩ (okLAW_167 l Z a0 hw n0 n v0 v3 v5 (0 : Int32) s0 _ h)
def f_law_148 (n : Nat) (v0 : Int32) (v1 : Int32) (v2 : Int32) (v3 : Int32) (v5 : Int32) (s0 : St) : Option (Int32) :=
  (f_L_isField v1).bind fun c1 =>
  if c1 = 0 then
    f_law_166 n v0 v3 v5 s0
  else
    (f_L_isField v2).bind fun c3 =>
    if c3 = 0 then
      f_law_166 n v0 v3 v5 s0
    else
      f_law_167 n v0 v3 v5 (1 : Int32) s0
set_option maxRecDepth 65536 in
set_option maxHeartbeats 4000000 in
theorem okLAW_148 (l : Launch) (Z : State) (a0 : Array Value) (hw : HW a0 Z) (n0 : Nat) (n : Nat) (v0 : Int32) (v1 : Int32) (v2 : Int32) (v3 : Int32) (v5 : Int32) (s0 : St) (r : Int32) (h : f_law_148 n v0 v1 v2 v3 v5 s0 = some r) : WLAW l Z n0 (PLAW r) 12 278 148 [.val (.int v0), .val (.int v1), .val (.int v2), .val (.int v3), .val (.ref 0), .val (.int v5), .unset, .unset, .unset, .unset, .unset] [] (Hb 0 s0) := by
  unfold f_law_148 at h
  refine WP.iloadN at_148 rfl ?_
  obtain ⟨c1, hc1, h⟩ := Option.bind_eq_some_iff.mp h
  refine WP.callS (y := y12) (as := [.int v1]) (S := []) at_149 (hw _ m_102) (hw _ m_103) (hw _ m_104) (hw _ m_105) hy12 (CS.frame (ro := 0) (H := (Hb 0 s0)) (as := [.int v1]) fr0_f (ok12 l Z a0 hw v1 _ hc1) rfl (by decide) (fr0_l s0) (fr0_c s0) (by decide) rfl) rfl (lenOf pd12 rfl) (leb rfl) (leb rfl) (leb rfl) (leb rfl) ?_
  rintro _ _ ⟨_, _, ⟨rfl, rfl⟩, rfl, rfl⟩
  rw [fr0_p s0]
  show WLAW l Z n0 (PLAW r) 12 278 152 [.val (.int v0), .val (.int v1), .val (.int v2), .val (.int v3), .val (.ref 0), .val (.int v5), .unset, .unset, .unset, .unset, .unset] [.int c1] (Hb 0 s0)
  rcases ite_e h with ⟨hc2, h⟩ | ⟨hc2, h⟩
  ·
    refine WP.ifY (pc' := 166) at_152 (XT.i0_eq_t hc2) (by decide) rfl ?_
    exact WP.weak (L' := [.val (.int v0), .unset, .unset, .val (.int v3), .val (.ref 0), .val (.int v5), .unset, .unset, .unset, .unset, .unset]) ⟨rfl, rfl, rfl, rfl, trivial⟩ (okLAW_166 l Z a0 hw n0 n v0 v3 v5 s0 _ h)
  ·
    refine WP.ifN at_152 (XT.i0_eq_f hc2) ?_
    refine WP.iloadN at_155 rfl ?_
    obtain ⟨c3, hc3, h⟩ := Option.bind_eq_some_iff.mp h
    refine WP.callS (y := y12) (as := [.int v2]) (S := []) at_156 (hw _ m_102) (hw _ m_103) (hw _ m_104) (hw _ m_105) hy12 (CS.frame (ro := 0) (H := (Hb 0 s0)) (as := [.int v2]) fr0_f (ok12 l Z a0 hw v2 _ hc3) rfl (by decide) (fr0_l s0) (fr0_c s0) (by decide) rfl) rfl (lenOf pd12 rfl) (leb rfl) (leb rfl) (leb rfl) (leb rfl) ?_
    rintro _ _ ⟨_, _, ⟨rfl, rfl⟩, rfl, rfl⟩
    rw [fr0_p s0]
    show WLAW l Z n0 (PLAW r) 12 278 159 [.val (.int v0), .val (.int v1), .val (.int v2), .val (.int v3), .val (.ref 0), .val (.int v5), .unset, .unset, .unset, .unset, .unset] [.int c3] (Hb 0 s0)
    rcases ite_e h with ⟨hc4, h⟩ | ⟨hc4, h⟩
    ·
      refine WP.ifY (pc' := 166) at_159 (XT.i0_eq_t hc4) (by decide) rfl ?_
      exact WP.weak (L' := [.val (.int v0), .unset, .unset, .val (.int v3), .val (.ref 0), .val (.int v5), .unset, .unset, .unset, .unset, .unset]) ⟨rfl, rfl, rfl, rfl, trivial⟩ (okLAW_166 l Z a0 hw n0 n v0 v3 v5 s0 _ h)
    ·
      refine WP.ifN at_159 (XT.i0_eq_f hc4) ?_
      refine WP.iconst (1 : Int32) at_162 rfl ?_
      refine WP.goto (pc' := 167) at_163 (by decide) rfl ?_
      exact WP.weak (L' := [.val (.int v0), .unset, .unset, .val (.int v3), .val (.ref 0), .val (.int v5), .unset, .unset, .unset, .unset, .unset]) ⟨rfl, rfl, rfl, rfl, trivial⟩ (okLAW_167 l Z a0 hw n0 n v0 v3 v5 (1 : Int32) s0 _ h)
def f_law_184 (n : Nat) (v0 : Int32) (v3 : Int32) (v5 : Int32) (s0 : St) : Option (Int32) :=
  f_law_193 n v0 v3 v5 (1 : Int32) s0
set_option maxRecDepth 65536 in
set_option maxHeartbeats 4000000 in
theorem okLAW_184 (l : Launch) (Z : State) (a0 : Array Value) (hw : HW a0 Z) (n0 : Nat) (n : Nat) (v0 : Int32) (v3 : Int32) (v5 : Int32) (s0 : St) (r : Int32) (h : f_law_184 n v0 v3 v5 s0 = some r) : WLAW l Z n0 (PLAW r) 12 278 184 [.val (.int v0), .unset, .unset, .val (.int v3), .val (.ref 0), .val (.int v5), .unset, .unset, .unset, .unset, .unset] [] (Hb 0 s0) := by
  unfold f_law_184 at h
  refine WP.iconst (1 : Int32) at_184 rfl ?_
  refine WP.istore (L' := [.val (.int v0), .unset, .unset, .val (.int v3), .val (.ref 0), .val (.int v5), .unset, .val (.int (1 : Int32)), .unset, .unset, .unset]) at_185 (leb rfl) rfl ?_
  refine WP.goto (pc' := 193) at_187 (by decide) rfl ?_
  exact WP.weak (L' := [.val (.int v0), .unset, .unset, .val (.int v3), .val (.ref 0), .val (.int v5), .unset, .val (.int (1 : Int32)), .unset, .unset, .unset]) ⟨rfl, rfl, rfl, rfl, rfl, trivial⟩ (okLAW_193 l Z a0 hw n0 n v0 v3 v5 (1 : Int32) s0 _ h)
def f_law_69 (n : Nat) (v0 : Int32) (v1 : Int32) (v2 : Int32) (v3 : Int32) (v5 : Int32) (t0 : Int32) (s0 : St) : Option (Int32) :=
  if v0 = (1 : Int32) then
    (f_L_isField v1).bind fun c2 =>
    if c2 = 0 then
      f_law_94 n v0 v3 v5 s0
    else
      (f_L_isField v3).bind fun c4 =>
      if c4 = 0 then
        f_law_94 n v0 v3 v5 s0
      else
        f_law_95 n v0 v3 v5 (1 : Int32) s0
  else
    if t0 = 0 then
      if v0 = (6 : Int32) then
        f_law_148 n v0 v1 v2 v3 v5 s0
      else
        if v0 = (7 : Int32) then
          f_law_148 n v0 v1 v2 v3 v5 s0
        else
          if v0 = (8 : Int32) then
            f_law_184 n v0 v3 v5 s0
          else
            if v0 = (9 : Int32) then
              f_law_184 n v0 v3 v5 s0
            else
              f_law_193 n v0 v3 v5 (0 : Int32) s0
    else
      (f_L_isField v1).bind fun c11 =>
      if c11 = 0 then
        f_law_130 n v0 v3 v5 s0
      else
        (f_L_isField v2).bind fun c13 =>
        if c13 = 0 then
          f_law_130 n v0 v3 v5 s0
        else
          (f_L_isField v3).bind fun c15 =>
          if c15 = 0 then
            f_law_130 n v0 v3 v5 s0
          else
            f_law_131 n v0 v3 v5 (1 : Int32) s0
set_option maxRecDepth 65536 in
set_option maxHeartbeats 4000000 in
theorem okLAW_69 (l : Launch) (Z : State) (a0 : Array Value) (hw : HW a0 Z) (n0 : Nat) (n : Nat) (v0 : Int32) (v1 : Int32) (v2 : Int32) (v3 : Int32) (v5 : Int32) (t0 : Int32) (s0 : St) (r : Int32) (h : f_law_69 n v0 v1 v2 v3 v5 t0 s0 = some r) : WLAW l Z n0 (PLAW r) 12 278 69 [.val (.int v0), .val (.int v1), .val (.int v2), .val (.int v3), .val (.ref 0), .val (.int v5), .unset, .unset, .unset, .unset, .unset] [.int t0] (Hb 0 s0) := by
  unfold f_law_69 at h
  refine WP.istore (L' := [.val (.int v0), .val (.int v1), .val (.int v2), .val (.int v3), .val (.ref 0), .val (.int v5), .val (.int t0), .unset, .unset, .unset, .unset]) at_69 (leb rfl) rfl ?_
  refine WP.iloadN at_71 rfl ?_
  refine WP.iconst (1 : Int32) at_72 rfl ?_
  rcases ite_e h with ⟨hc1, h⟩ | ⟨hc1, h⟩
  ·
    refine WP.icmpN at_73 (XT.ii_ne_f hc1) ?_
    refine WP.iloadN at_76 rfl ?_
    obtain ⟨c2, hc2, h⟩ := Option.bind_eq_some_iff.mp h
    refine WP.callS (y := y12) (as := [.int v1]) (S := []) at_77 (hw _ m_102) (hw _ m_103) (hw _ m_104) (hw _ m_105) hy12 (CS.frame (ro := 0) (H := (Hb 0 s0)) (as := [.int v1]) fr0_f (ok12 l Z a0 hw v1 _ hc2) rfl (by decide) (fr0_l s0) (fr0_c s0) (by decide) rfl) rfl (lenOf pd12 rfl) (leb rfl) (leb rfl) (leb rfl) (leb rfl) ?_
    rintro _ _ ⟨_, _, ⟨rfl, rfl⟩, rfl, rfl⟩
    rw [fr0_p s0]
    show WLAW l Z n0 (PLAW r) 12 278 80 [.val (.int v0), .val (.int v1), .val (.int v2), .val (.int v3), .val (.ref 0), .val (.int v5), .val (.int t0), .unset, .unset, .unset, .unset] [.int c2] (Hb 0 s0)
    rcases ite_e h with ⟨hc3, h⟩ | ⟨hc3, h⟩
    ·
      refine WP.ifY (pc' := 94) at_80 (XT.i0_eq_t hc3) (by decide) rfl ?_
      exact WP.weak (L' := [.val (.int v0), .unset, .unset, .val (.int v3), .val (.ref 0), .val (.int v5), .unset, .unset, .unset, .unset, .unset]) ⟨rfl, rfl, rfl, rfl, trivial⟩ (okLAW_94 l Z a0 hw n0 n v0 v3 v5 s0 _ h)
    ·
      refine WP.ifN at_80 (XT.i0_eq_f hc3) ?_
      refine WP.iloadN at_83 rfl ?_
      obtain ⟨c4, hc4, h⟩ := Option.bind_eq_some_iff.mp h
      refine WP.callS (y := y12) (as := [.int v3]) (S := []) at_84 (hw _ m_102) (hw _ m_103) (hw _ m_104) (hw _ m_105) hy12 (CS.frame (ro := 0) (H := (Hb 0 s0)) (as := [.int v3]) fr0_f (ok12 l Z a0 hw v3 _ hc4) rfl (by decide) (fr0_l s0) (fr0_c s0) (by decide) rfl) rfl (lenOf pd12 rfl) (leb rfl) (leb rfl) (leb rfl) (leb rfl) ?_
      rintro _ _ ⟨_, _, ⟨rfl, rfl⟩, rfl, rfl⟩
      rw [fr0_p s0]
      show WLAW l Z n0 (PLAW r) 12 278 87 [.val (.int v0), .val (.int v1), .val (.int v2), .val (.int v3), .val (.ref 0), .val (.int v5), .val (.int t0), .unset, .unset, .unset, .unset] [.int c4] (Hb 0 s0)
      rcases ite_e h with ⟨hc5, h⟩ | ⟨hc5, h⟩
      ·
        refine WP.ifY (pc' := 94) at_87 (XT.i0_eq_t hc5) (by decide) rfl ?_
        exact WP.weak (L' := [.val (.int v0), .unset, .unset, .val (.int v3), .val (.ref 0), .val (.int v5), .unset, .unset, .unset, .unset, .unset]) ⟨rfl, rfl, rfl, rfl, trivial⟩ (okLAW_94 l Z a0 hw n0 n v0 v3 v5 s0 _ h)
      ·
        refine WP.ifN at_87 (XT.i0_eq_f hc5) ?_
        refine WP.iconst (1 : Int32) at_90 rfl ?_
        refine WP.goto (pc' := 95) at_91 (by decide) rfl ?_
        exact WP.weak (L' := [.val (.int v0), .unset, .unset, .val (.int v3), .val (.ref 0), .val (.int v5), .unset, .unset, .unset, .unset, .unset]) ⟨rfl, rfl, rfl, rfl, trivial⟩ (okLAW_95 l Z a0 hw n0 n v0 v3 v5 (1 : Int32) s0 _ h)
  ·
    refine WP.icmpY (pc' := 100) at_73 (XT.ii_ne_t hc1) (by decide) rfl ?_
    refine WP.iload at_100 rfl ?_
    rcases ite_e h with ⟨hc6, h⟩ | ⟨hc6, h⟩
    ·
      refine WP.ifY (pc' := 136) at_102 (XT.i0_eq_t hc6) (by decide) rfl ?_
      refine WP.iloadN at_136 rfl ?_
      refine WP.bipush (6 : Int32) at_137 rfl ?_
      rcases ite_e h with ⟨hc7, h⟩ | ⟨hc7, h⟩
      ·
        refine WP.icmpY (pc' := 148) at_139 (XT.ii_eq_t hc7) (by decide) rfl ?_
        exact WP.weak (L' := [.val (.int v0), .val (.int v1), .val (.int v2), .val (.int v3), .val (.ref 0), .val (.int v5), .unset, .unset, .unset, .unset, .unset]) ⟨rfl, rfl, rfl, rfl, rfl, rfl, trivial⟩ (okLAW_148 l Z a0 hw n0 n v0 v1 v2 v3 v5 s0 _ h)
      ·
        refine WP.icmpN at_139 (XT.ii_eq_f hc7) ?_
        refine WP.iloadN at_142 rfl ?_
        refine WP.bipush (7 : Int32) at_143 rfl ?_
        rcases ite_e h with ⟨hc8, h⟩ | ⟨hc8, h⟩
        ·
          refine WP.icmpN at_145 (XT.ii_ne_f hc8) ?_
          exact WP.weak (L' := [.val (.int v0), .val (.int v1), .val (.int v2), .val (.int v3), .val (.ref 0), .val (.int v5), .unset, .unset, .unset, .unset, .unset]) ⟨rfl, rfl, rfl, rfl, rfl, rfl, trivial⟩ (okLAW_148 l Z a0 hw n0 n v0 v1 v2 v3 v5 s0 _ h)
        ·
          refine WP.icmpY (pc' := 172) at_145 (XT.ii_ne_t hc8) (by decide) rfl ?_
          refine WP.iloadN at_172 rfl ?_
          refine WP.bipush (8 : Int32) at_173 rfl ?_
          rcases ite_e h with ⟨hc9, h⟩ | ⟨hc9, h⟩
          ·
            refine WP.icmpY (pc' := 184) at_175 (XT.ii_eq_t hc9) (by decide) rfl ?_
            exact WP.weak (L' := [.val (.int v0), .unset, .unset, .val (.int v3), .val (.ref 0), .val (.int v5), .unset, .unset, .unset, .unset, .unset]) ⟨rfl, rfl, rfl, rfl, trivial⟩ (okLAW_184 l Z a0 hw n0 n v0 v3 v5 s0 _ h)
          ·
            refine WP.icmpN at_175 (XT.ii_eq_f hc9) ?_
            refine WP.iloadN at_178 rfl ?_
            refine WP.bipush (9 : Int32) at_179 rfl ?_
            rcases ite_e h with ⟨hc10, h⟩ | ⟨hc10, h⟩
            ·
              refine WP.icmpN at_181 (XT.ii_ne_f hc10) ?_
              exact WP.weak (L' := [.val (.int v0), .unset, .unset, .val (.int v3), .val (.ref 0), .val (.int v5), .unset, .unset, .unset, .unset, .unset]) ⟨rfl, rfl, rfl, rfl, trivial⟩ (okLAW_184 l Z a0 hw n0 n v0 v3 v5 s0 _ h)
            ·
              refine WP.icmpY (pc' := 190) at_181 (XT.ii_ne_t hc10) (by decide) rfl ?_
              refine WP.iconst (0 : Int32) at_190 rfl ?_
              refine WP.istore (L' := [.val (.int v0), .val (.int v1), .val (.int v2), .val (.int v3), .val (.ref 0), .val (.int v5), .val (.int t0), .val (.int (0 : Int32)), .unset, .unset, .unset]) at_191 (leb rfl) rfl ?_
              exact WP.weak (L' := [.val (.int v0), .unset, .unset, .val (.int v3), .val (.ref 0), .val (.int v5), .unset, .val (.int (0 : Int32)), .unset, .unset, .unset]) ⟨rfl, rfl, rfl, rfl, rfl, trivial⟩ (okLAW_193 l Z a0 hw n0 n v0 v3 v5 (0 : Int32) s0 _ h)
    ·
      refine WP.ifN at_102 (XT.i0_eq_f hc6) ?_
      refine WP.iloadN at_105 rfl ?_
      obtain ⟨c11, hc11, h⟩ := Option.bind_eq_some_iff.mp h
      refine WP.callS (y := y12) (as := [.int v1]) (S := []) at_106 (hw _ m_102) (hw _ m_103) (hw _ m_104) (hw _ m_105) hy12 (CS.frame (ro := 0) (H := (Hb 0 s0)) (as := [.int v1]) fr0_f (ok12 l Z a0 hw v1 _ hc11) rfl (by decide) (fr0_l s0) (fr0_c s0) (by decide) rfl) rfl (lenOf pd12 rfl) (leb rfl) (leb rfl) (leb rfl) (leb rfl) ?_
      rintro _ _ ⟨_, _, ⟨rfl, rfl⟩, rfl, rfl⟩
      rw [fr0_p s0]
      show WLAW l Z n0 (PLAW r) 12 278 109 [.val (.int v0), .val (.int v1), .val (.int v2), .val (.int v3), .val (.ref 0), .val (.int v5), .val (.int t0), .unset, .unset, .unset, .unset] [.int c11] (Hb 0 s0)
      rcases ite_e h with ⟨hc12, h⟩ | ⟨hc12, h⟩
      ·
        refine WP.ifY (pc' := 130) at_109 (XT.i0_eq_t hc12) (by decide) rfl ?_
        exact WP.weak (L' := [.val (.int v0), .unset, .unset, .val (.int v3), .val (.ref 0), .val (.int v5), .unset, .unset, .unset, .unset, .unset]) ⟨rfl, rfl, rfl, rfl, trivial⟩ (okLAW_130 l Z a0 hw n0 n v0 v3 v5 s0 _ h)
      ·
        refine WP.ifN at_109 (XT.i0_eq_f hc12) ?_
        refine WP.iloadN at_112 rfl ?_
        obtain ⟨c13, hc13, h⟩ := Option.bind_eq_some_iff.mp h
        refine WP.callS (y := y12) (as := [.int v2]) (S := []) at_113 (hw _ m_102) (hw _ m_103) (hw _ m_104) (hw _ m_105) hy12 (CS.frame (ro := 0) (H := (Hb 0 s0)) (as := [.int v2]) fr0_f (ok12 l Z a0 hw v2 _ hc13) rfl (by decide) (fr0_l s0) (fr0_c s0) (by decide) rfl) rfl (lenOf pd12 rfl) (leb rfl) (leb rfl) (leb rfl) (leb rfl) ?_
        rintro _ _ ⟨_, _, ⟨rfl, rfl⟩, rfl, rfl⟩
        rw [fr0_p s0]
        show WLAW l Z n0 (PLAW r) 12 278 116 [.val (.int v0), .val (.int v1), .val (.int v2), .val (.int v3), .val (.ref 0), .val (.int v5), .val (.int t0), .unset, .unset, .unset, .unset] [.int c13] (Hb 0 s0)
        rcases ite_e h with ⟨hc14, h⟩ | ⟨hc14, h⟩
        ·
          refine WP.ifY (pc' := 130) at_116 (XT.i0_eq_t hc14) (by decide) rfl ?_
          exact WP.weak (L' := [.val (.int v0), .unset, .unset, .val (.int v3), .val (.ref 0), .val (.int v5), .unset, .unset, .unset, .unset, .unset]) ⟨rfl, rfl, rfl, rfl, trivial⟩ (okLAW_130 l Z a0 hw n0 n v0 v3 v5 s0 _ h)
        ·
          refine WP.ifN at_116 (XT.i0_eq_f hc14) ?_
          refine WP.iloadN at_119 rfl ?_
          obtain ⟨c15, hc15, h⟩ := Option.bind_eq_some_iff.mp h
          refine WP.callS (y := y12) (as := [.int v3]) (S := []) at_120 (hw _ m_102) (hw _ m_103) (hw _ m_104) (hw _ m_105) hy12 (CS.frame (ro := 0) (H := (Hb 0 s0)) (as := [.int v3]) fr0_f (ok12 l Z a0 hw v3 _ hc15) rfl (by decide) (fr0_l s0) (fr0_c s0) (by decide) rfl) rfl (lenOf pd12 rfl) (leb rfl) (leb rfl) (leb rfl) (leb rfl) ?_
          rintro _ _ ⟨_, _, ⟨rfl, rfl⟩, rfl, rfl⟩
          rw [fr0_p s0]
          show WLAW l Z n0 (PLAW r) 12 278 123 [.val (.int v0), .val (.int v1), .val (.int v2), .val (.int v3), .val (.ref 0), .val (.int v5), .val (.int t0), .unset, .unset, .unset, .unset] [.int c15] (Hb 0 s0)
          rcases ite_e h with ⟨hc16, h⟩ | ⟨hc16, h⟩
          ·
            refine WP.ifY (pc' := 130) at_123 (XT.i0_eq_t hc16) (by decide) rfl ?_
            exact WP.weak (L' := [.val (.int v0), .unset, .unset, .val (.int v3), .val (.ref 0), .val (.int v5), .unset, .unset, .unset, .unset, .unset]) ⟨rfl, rfl, rfl, rfl, trivial⟩ (okLAW_130 l Z a0 hw n0 n v0 v3 v5 s0 _ h)
          ·
            refine WP.ifN at_123 (XT.i0_eq_f hc16) ?_
            refine WP.iconst (1 : Int32) at_126 rfl ?_
            refine WP.goto (pc' := 131) at_127 (by decide) rfl ?_
            exact WP.weak (L' := [.val (.int v0), .unset, .unset, .val (.int v3), .val (.ref 0), .val (.int v5), .unset, .unset, .unset, .unset, .unset]) ⟨rfl, rfl, rfl, rfl, trivial⟩ (okLAW_131 l Z a0 hw n0 n v0 v3 v5 (1 : Int32) s0 _ h)
def f_law_64 (n : Nat) (v0 : Int32) (v1 : Int32) (v2 : Int32) (v3 : Int32) (v5 : Int32) (s0 : St) : Option (Int32) :=
  f_law_69 n v0 v1 v2 v3 v5 (1 : Int32) s0
set_option maxRecDepth 65536 in
set_option maxHeartbeats 4000000 in
theorem okLAW_64 (l : Launch) (Z : State) (a0 : Array Value) (hw : HW a0 Z) (n0 : Nat) (n : Nat) (v0 : Int32) (v1 : Int32) (v2 : Int32) (v3 : Int32) (v5 : Int32) (s0 : St) (r : Int32) (h : f_law_64 n v0 v1 v2 v3 v5 s0 = some r) : WLAW l Z n0 (PLAW r) 12 278 64 [.val (.int v0), .val (.int v1), .val (.int v2), .val (.int v3), .val (.ref 0), .val (.int v5), .unset, .unset, .unset, .unset, .unset] [] (Hb 0 s0) := by
  unfold f_law_64 at h
  refine WP.iconst (1 : Int32) at_64 rfl ?_
  refine WP.goto (pc' := 69) at_65 (by decide) rfl ?_
  exact WP.weak (L' := [.val (.int v0), .val (.int v1), .val (.int v2), .val (.int v3), .val (.ref 0), .val (.int v5), .unset, .unset, .unset, .unset, .unset]) ⟨rfl, rfl, rfl, rfl, rfl, rfl, trivial⟩ (okLAW_69 l Z a0 hw n0 n v0 v1 v2 v3 v5 (1 : Int32) s0 _ h)
def f_law_68 (n : Nat) (v0 : Int32) (v1 : Int32) (v2 : Int32) (v3 : Int32) (v5 : Int32) (s0 : St) : Option (Int32) :=
  f_law_69 n v0 v1 v2 v3 v5 (0 : Int32) s0
set_option maxRecDepth 65536 in
set_option maxHeartbeats 4000000 in
theorem okLAW_68 (l : Launch) (Z : State) (a0 : Array Value) (hw : HW a0 Z) (n0 : Nat) (n : Nat) (v0 : Int32) (v1 : Int32) (v2 : Int32) (v3 : Int32) (v5 : Int32) (s0 : St) (r : Int32) (h : f_law_68 n v0 v1 v2 v3 v5 s0 = some r) : WLAW l Z n0 (PLAW r) 12 278 68 [.val (.int v0), .val (.int v1), .val (.int v2), .val (.int v3), .val (.ref 0), .val (.int v5), .unset, .unset, .unset, .unset, .unset] [] (Hb 0 s0) := by
  unfold f_law_68 at h
  refine WP.iconst (0 : Int32) at_68 rfl ?_
  exact WP.weak (L' := [.val (.int v0), .val (.int v1), .val (.int v2), .val (.int v3), .val (.ref 0), .val (.int v5), .unset, .unset, .unset, .unset, .unset]) ⟨rfl, rfl, rfl, rfl, rfl, rfl, trivial⟩ (okLAW_69 l Z a0 hw n0 n v0 v1 v2 v3 v5 (0 : Int32) s0 _ h)
def f_law_52 (n : Nat) (v0 : Int32) (v1 : Int32) (v2 : Int32) (v3 : Int32) (v5 : Int32) (s0 : St) : Option (Int32) :=
  if v0 < (18 : Int32) then
    f_law_68 n v0 v1 v2 v3 v5 s0
  else
    if (21 : Int32) < v0 then
      f_law_68 n v0 v1 v2 v3 v5 s0
    else
      f_law_64 n v0 v1 v2 v3 v5 s0
set_option maxRecDepth 65536 in
set_option maxHeartbeats 4000000 in
theorem okLAW_52 (l : Launch) (Z : State) (a0 : Array Value) (hw : HW a0 Z) (n0 : Nat) (n : Nat) (v0 : Int32) (v1 : Int32) (v2 : Int32) (v3 : Int32) (v5 : Int32) (s0 : St) (r : Int32) (h : f_law_52 n v0 v1 v2 v3 v5 s0 = some r) : WLAW l Z n0 (PLAW r) 12 278 52 [.val (.int v0), .val (.int v1), .val (.int v2), .val (.int v3), .val (.ref 0), .val (.int v5), .unset, .unset, .unset, .unset, .unset] [] (Hb 0 s0) := by
  unfold f_law_52 at h
  refine WP.iloadN at_52 rfl ?_
  refine WP.bipush (18 : Int32) at_53 rfl ?_
  rcases ite_e h with ⟨hc1, h⟩ | ⟨hc1, h⟩
  ·
    refine WP.icmpY (pc' := 68) at_55 (XT.ii_lt_t hc1) (by decide) rfl ?_
    exact WP.weak (L' := [.val (.int v0), .val (.int v1), .val (.int v2), .val (.int v3), .val (.ref 0), .val (.int v5), .unset, .unset, .unset, .unset, .unset]) ⟨rfl, rfl, rfl, rfl, rfl, rfl, trivial⟩ (okLAW_68 l Z a0 hw n0 n v0 v1 v2 v3 v5 s0 _ h)
  ·
    refine WP.icmpN at_55 (XT.ii_lt_f hc1) ?_
    refine WP.iloadN at_58 rfl ?_
    refine WP.bipush (21 : Int32) at_59 rfl ?_
    rcases ite_e h with ⟨hc2, h⟩ | ⟨hc2, h⟩
    ·
      refine WP.icmpY (pc' := 68) at_61 (XT.ii_gt_t hc2) (by decide) rfl ?_
      exact WP.weak (L' := [.val (.int v0), .val (.int v1), .val (.int v2), .val (.int v3), .val (.ref 0), .val (.int v5), .unset, .unset, .unset, .unset, .unset]) ⟨rfl, rfl, rfl, rfl, rfl, rfl, trivial⟩ (okLAW_68 l Z a0 hw n0 n v0 v1 v2 v3 v5 s0 _ h)
    ·
      refine WP.icmpN at_61 (XT.ii_gt_f hc2) ?_
      exact WP.weak (L' := [.val (.int v0), .val (.int v1), .val (.int v2), .val (.int v3), .val (.ref 0), .val (.int v5), .unset, .unset, .unset, .unset, .unset]) ⟨rfl, rfl, rfl, rfl, rfl, rfl, trivial⟩ (okLAW_64 l Z a0 hw n0 n v0 v1 v2 v3 v5 s0 _ h)
def f_law (n : Nat) (p0 : Int32) (p1 : Int32) (p2 : Int32) (p3 : Int32) : Option (Int32) :=
  (f_init (8 : Int32) (32 : Int32)).bind fun c1 =>
  (f_declareField (2 : Int32) (1 : Int32) (1 : Int32) c1).bind fun c2 =>
  (f_declareField (3 : Int32) (0 : Int32) (0 : Int32) c2.2).bind fun c3 =>
  (f_statement p0 p1 p2 p3 c3.2).bind fun c4 =>
  if p0 < (2 : Int32) then
    f_law_52 n p0 p1 p2 p3 c4.1 c4.2
  else
    if (5 : Int32) < p0 then
      f_law_52 n p0 p1 p2 p3 c4.1 c4.2
    else
      f_law_64 n p0 p1 p2 p3 c4.1 c4.2
set_option maxRecDepth 65536 in
set_option maxHeartbeats 4000000 in
theorem okLAW (l : Launch) (Z : State) (a0 : Array Value) (hw : HW a0 Z) (n : Nat) (p0 : Int32) (p1 : Int32) (p2 : Int32) (p3 : Int32) (r : Int32) (h : f_law n p0 p1 p2 p3 = some r) : CS l Z CN lay x code maxLocals ret room_1 0 [.int p0, .int p1, .int p2, .int p3] ([] : List OwnC) (PLAW r) := by
  refine CS.of_wp pn_law (leb rfl) fun n0 => ?_
  show WLAW l Z n0 (PLAW r) 0 0 0 [.val (.int p0), .val (.int p1), .val (.int p2), .val (.int p3), .unset, .unset, .unset, .unset, .unset, .unset, .unset] [] ([] : List OwnC)
  unfold f_law at h
  refine WP.new (vs := vs0) at_0 (hw _ m_0) (hw _ m_1) (hw _ m_2) (leb rfl) (leb rfl) (vs0_ok hw) ?_
  show WLAW l Z n0 (PLAW r) 1 22 3 [.val (.int p0), .val (.int p1), .val (.int p2), .val (.int p3), .unset, .unset, .unset, .unset, .unset, .unset, .unset] [.ref 0] ([cO vs0])
  refine WP.dup at_3 rfl ?_
  refine WP.bipush (8 : Int32) at_4 rfl ?_
  refine WP.bipush (32 : Int32) at_6 rfl ?_
  obtain ⟨c1, hc1, h⟩ := Option.bind_eq_some_iff.mp h
  refine WP.callI (i := 0) (y := y0) (as := [.int (8 : Int32), .int (32 : Int32)]) (S := [.ref 0]) at_8 rfl (hw _ m_3) (hw _ m_4) (hw _ m_5) (hw _ m_2) hy0 (ok0 l Z a0 hw (8 : Int32) (32 : Int32) _ hc1) rfl (lenOf pd0 rfl) (leb rfl) (leb rfl) (leb rfl) (leb rfl) ?_
  rintro _ _ ⟨rfl, rfl⟩
  show WLAW l Z n0 (PLAW r) 12 278 11 [.val (.int p0), .val (.int p1), .val (.int p2), .val (.int p3), .unset, .unset, .unset, .unset, .unset, .unset, .unset] [.ref 0] (Hb 0 c1)
  refine WP.astore (L' := [.val (.int p0), .val (.int p1), .val (.int p2), .val (.int p3), .val (.ref 0), .unset, .unset, .unset, .unset, .unset, .unset]) at_11 (leb rfl) rfl ?_
  refine WP.aload at_13 rfl ?_
  refine WP.iconst (2 : Int32) at_15 rfl ?_
  refine WP.iconst (1 : Int32) at_16 rfl ?_
  refine WP.iconst (1 : Int32) at_17 rfl ?_
  obtain ⟨c2, hc2, h⟩ := Option.bind_eq_some_iff.mp h
  refine WP.callV (i := 0) (y := y2) (as := [.int (2 : Int32), .int (1 : Int32), .int (1 : Int32)]) (S := []) at_18 (hw _ m_55) (hw _ m_56) (hw _ m_58) (hw _ m_57) (hw _ m_59) (hw _ m_2) hy2 rfl (ok2 l Z a0 hw (2 : Int32) (1 : Int32) (1 : Int32) c1 _ hc2) rfl (lenOf pd2 rfl) (leb rfl) (leb rfl) (leb rfl) (leb rfl) ?_
  rintro _ _ ⟨rfl, rfl⟩
  show WLAW l Z n0 (PLAW r) 12 278 21 [.val (.int p0), .val (.int p1), .val (.int p2), .val (.int p3), .val (.ref 0), .unset, .unset, .unset, .unset, .unset, .unset] [.int c2.1] (Hb 0 c2.2)
  refine WP.pop at_21 rfl ?_
  refine WP.aload at_22 rfl ?_
  refine WP.iconst (3 : Int32) at_24 rfl ?_
  refine WP.iconst (0 : Int32) at_25 rfl ?_
  refine WP.iconst (0 : Int32) at_26 rfl ?_
  obtain ⟨c3, hc3, h⟩ := Option.bind_eq_some_iff.mp h
  refine WP.callV (i := 0) (y := y2) (as := [.int (3 : Int32), .int (0 : Int32), .int (0 : Int32)]) (S := []) at_27 (hw _ m_55) (hw _ m_56) (hw _ m_58) (hw _ m_57) (hw _ m_59) (hw _ m_2) hy2 rfl (ok2 l Z a0 hw (3 : Int32) (0 : Int32) (0 : Int32) c2.2 _ hc3) rfl (lenOf pd2 rfl) (leb rfl) (leb rfl) (leb rfl) (leb rfl) ?_
  rintro _ _ ⟨rfl, rfl⟩
  show WLAW l Z n0 (PLAW r) 12 278 30 [.val (.int p0), .val (.int p1), .val (.int p2), .val (.int p3), .val (.ref 0), .unset, .unset, .unset, .unset, .unset, .unset] [.int c3.1] (Hb 0 c3.2)
  refine WP.pop at_30 rfl ?_
  refine WP.aload at_31 rfl ?_
  refine WP.iloadN at_33 rfl ?_
  refine WP.iloadN at_34 rfl ?_
  refine WP.iloadN at_35 rfl ?_
  refine WP.iloadN at_36 rfl ?_
  obtain ⟨c4, hc4, h⟩ := Option.bind_eq_some_iff.mp h
  refine WP.callV (i := 0) (y := y3) (as := [.int p0, .int p1, .int p2, .int p3]) (S := []) at_37 (hw _ m_60) (hw _ m_61) (hw _ m_63) (hw _ m_62) (hw _ m_64) (hw _ m_2) hy3 rfl (ok3 l Z a0 hw p0 p1 p2 p3 c3.2 _ hc4) rfl (lenOf pd3 rfl) (leb rfl) (leb rfl) (leb rfl) (leb rfl) ?_
  rintro _ _ ⟨rfl, rfl⟩
  show WLAW l Z n0 (PLAW r) 12 278 40 [.val (.int p0), .val (.int p1), .val (.int p2), .val (.int p3), .val (.ref 0), .unset, .unset, .unset, .unset, .unset, .unset] [.int c4.1] (Hb 0 c4.2)
  refine WP.istore (L' := [.val (.int p0), .val (.int p1), .val (.int p2), .val (.int p3), .val (.ref 0), .val (.int c4.1), .unset, .unset, .unset, .unset, .unset]) at_40 (leb rfl) rfl ?_
  refine WP.iloadN at_42 rfl ?_
  refine WP.iconst (2 : Int32) at_43 rfl ?_
  rcases ite_e h with ⟨hc5, h⟩ | ⟨hc5, h⟩
  ·
    refine WP.icmpY (pc' := 52) at_44 (XT.ii_lt_t hc5) (by decide) rfl ?_
    exact WP.weak (L' := [.val (.int p0), .val (.int p1), .val (.int p2), .val (.int p3), .val (.ref 0), .val (.int c4.1), .unset, .unset, .unset, .unset, .unset]) ⟨rfl, rfl, rfl, rfl, rfl, rfl, trivial⟩ (okLAW_52 l Z a0 hw n0 n p0 p1 p2 p3 c4.1 c4.2 _ h)
  ·
    refine WP.icmpN at_44 (XT.ii_lt_f hc5) ?_
    refine WP.iloadN at_47 rfl ?_
    refine WP.iconst (5 : Int32) at_48 rfl ?_
    rcases ite_e h with ⟨hc6, h⟩ | ⟨hc6, h⟩
    ·
      refine WP.icmpN at_49 (XT.ii_le_f hc6) ?_
      exact WP.weak (L' := [.val (.int p0), .val (.int p1), .val (.int p2), .val (.int p3), .val (.ref 0), .val (.int c4.1), .unset, .unset, .unset, .unset, .unset]) ⟨rfl, rfl, rfl, rfl, rfl, rfl, trivial⟩ (okLAW_52 l Z a0 hw n0 n p0 p1 p2 p3 c4.1 c4.2 _ h)
    ·
      refine WP.icmpY (pc' := 64) at_49 (XT.ii_le_t hc6) (by decide) rfl ?_
      exact WP.weak (L' := [.val (.int p0), .val (.int p1), .val (.int p2), .val (.int p3), .val (.ref 0), .val (.int c4.1), .unset, .unset, .unset, .unset, .unset]) ⟨rfl, rfl, rfl, rfl, rfl, rfl, trivial⟩ (okLAW_64 l Z a0 hw n0 n p0 p1 p2 p3 c4.1 c4.2 _ h)
def own_cl (a b c : Int32) : Int32 := if a < b then b else if c < a then c else a
theorem own_clamp (a b c : Int32) (s : St) : f_clamp a b c s = some (own_cl a b c) := by
  unfold f_clamp own_cl; split; rfl; split <;> rfl
def own_s0 (p1 p2 : Int32) : St := sI (sI st0 0 (own_cl p1 1 8)) 1 (own_cl p2 1 32)
theorem own_init (p1 p2 : Int32) : f_init p1 p2 = some (own_s0 p1 p2) := by
  unfold f_init
  simp only [lt, own_clamp, Option.bind_some]
  show some (sI (sI (sI (sI (sI (sI (sI (own_s0 p1 p2) 2 0) 3 0) 4 0) 5 0) 6 0) 7 0) 8 0) = _
  rw [sI_self (s := own_s0 p1 p2) (i := 2) (x := 0) rfl, sI_self (s := own_s0 p1 p2) (i := 3) (x := 0) rfl, sI_self (s := own_s0 p1 p2) (i := 4) (x := 0) rfl, sI_self (s := own_s0 p1 p2) (i := 5) (x := 0) rfl, sI_self (s := own_s0 p1 p2) (i := 6) (x := 0) rfl, sI_self (s := own_s0 p1 p2) (i := 7) (x := 0) rfl, sI_self (s := own_s0 p1 p2) (i := 8) (x := 0) rfl]
theorem own_cl_ge (a : Int32) : 1 ≤ (own_cl a 1 8).toInt := by
  unfold own_cl
  split
  · decide
  · rename_i h1
    split
    · decide
    · rw [x32_lt] at h1
      have e1 : (1 : Int32).toInt = 1 := by decide
      omega

/-- two fields declared, nothing else -/
def own_S : St := sI (sA (sA (sA (sI (sA (sA (sA (own_s0 8 32) 0 ((List.replicate 8 0).set 0 2)) 1 ((List.replicate 8 0).set 0 1)) 3 ((List.replicate 8 0).set 0 1)) 2 1) 0 (((List.replicate 8 0).set 0 2).set 1 3)) 1 (((List.replicate 8 0).set 0 1).set 1 0)) 3 (((List.replicate 8 0).set 0 1).set 1 0)) 2 2
theorem own_decl : ∃ c, f_declareField 2 1 1 (own_s0 8 32) = some (0, c) ∧ f_declareField 3 0 0 c = some (1, own_S) := by
  refine ⟨sI (sA (sA (sA (own_s0 8 32) 0 ((List.replicate 8 0).set 0 2)) 1 ((List.replicate 8 0).set 0 1)) 3 ((List.replicate 8 0).set 0 1)) 2 1, ?_, ?_⟩
  · show (wrA (sA (sA (sA (own_s0 8 32) 0 ((List.replicate 8 0).set 0 2)) 1 ((List.replicate 8 0).set 0 1)) 3 ((List.replicate 8 0).set 0 1)) 2 0 0).bind (fun s16 => some ((0 : Int32), sI s16 2 1)) = _
    rw [show wrA _ 2 0 0 = some _ from wrA_nop (s := (sA (sA (sA (own_s0 8 32) 0 ((List.replicate 8 0).set 0 2)) 1 ((List.replicate 8 0).set 0 1)) 3 ((List.replicate 8 0).set 0 1))) (f := 2) (N := 8) (k := 0) (v := 0) rfl (by decide) (by decide)]; rfl
  · show (wrA (sA (sA (sA (sI (sA (sA (sA (own_s0 8 32) 0 ((List.replicate 8 0).set 0 2)) 1 ((List.replicate 8 0).set 0 1)) 3 ((List.replicate 8 0).set 0 1)) 2 1) 0 (((List.replicate 8 0).set 0 2).set 1 3)) 1 (((List.replicate 8 0).set 0 1).set 1 0)) 3 (((List.replicate 8 0).set 0 1).set 1 0)) 2 1 0).bind (fun s16 => some ((1 : Int32), sI s16 2 2)) = _
    rw [show wrA _ 2 1 0 = some _ from wrA_nop (s := (sA (sA (sA (sI (sA (sA (sA (own_s0 8 32) 0 ((List.replicate 8 0).set 0 2)) 1 ((List.replicate 8 0).set 0 1)) 3 ((List.replicate 8 0).set 0 1)) 2 1) 0 (((List.replicate 8 0).set 0 2).set 1 3)) 1 (((List.replicate 8 0).set 0 1).set 1 0)) 3 (((List.replicate 8 0).set 0 1).set 1 0))) (f := 2) (N := 8) (k := 1) (v := 0) rfl (by decide) (by decide)]; rfl
def own_F (x : Int32) : Int32 := if x < 0 then 0 else if x < 2 then 1 else 0
theorem own_F01 (x : Int32) : own_F x = 0 ∨ own_F x = 1 := by unfold own_F; split; exact Or.inl rfl; split; exact Or.inr rfl; exact Or.inl rfl
theorem own_isF (x : Int32) : f_isField x own_S = some (own_F x) := by
  unfold f_isField f_isField_22 f_isField_23 own_F
  show (if x < 0 then _ else if x < 2 then _ else _) = _
  split
  · rfl
  · split
    · rename_i h1 h2
      rw [if_pos (by rw [x32_lt] at h2 ⊢; have : (2 : Int32).toInt = 2 := by decide
                     have : (8 : Int32).toInt = 8 := by decide
                     omega)]; rfl
    · rfl
theorem own_LF (x : Int32) : f_L_isField x = some (own_F x) := by
  unfold f_L_isField f_L_isField_13 f_L_isField_14 own_F
  have e : (1 : Int32) < x ↔ ¬ x < 2 := by
    rw [x32_lt, x32_lt]
    have : (2 : Int32).toInt = 2 := by decide
    have : (1 : Int32).toInt = 1 := by decide
    omega
  by_cases h1 : x < 0
  · rw [if_pos h1, if_pos h1]; rfl
  · rw [if_neg h1, if_neg h1]
    by_cases h2 : x < 2
    · rw [if_neg (fun q => e.mp q h2), if_pos h2]; rfl
    · rw [if_pos (e.mpr h2), if_neg h2]; rfl
/-- the state behind a statement that is taken -/
def own_T (t u a b c : Int32) : St := sI (sA (sA (sA (sA (sA (sA (sA own_S 4 ((List.replicate 32 0).set 0 t)) 5 ((List.replicate 32 0).set 0 (u &&& 1))) 6 ((List.replicate 32 0).set 0 a)) 7 ((List.replicate 32 0).set 0 b)) 8 ((List.replicate 32 0).set 0 c)) 9 ((List.replicate 32 0).set 0 0)) 10 ((List.replicate 32 0).set 0 0)) 3 1
theorem own_89 (k a b c t : Int32) : f_statement_89 k a b c t own_S = some (0, own_T t (if k < 16 then 0 else 1) a b c) := by
  unfold f_statement_89 lt
  show (if (0 : Int32) < 0 then _ else _) = _
  rw [if_neg (by decide)]
  show (if (0 : Int32) < 32 then _ else _) = _
  rw [if_pos (by decide)]
  dsimp only
  rw [wrA_of (k := 0) t (by decide) (by show 0 < (List.replicate 32 (0 : Int32)).length; decide), Option.bind_some]
  split <;> rfl
theorem own_cmp44 (n : Nat) (s : St) : ∃ s', f_compile_44 n s = some (-2, s') ∧ gI s' 3 = gI s 3 ∧ gI s' 6 = 0 ∧ gI s' 5 = 0 ∧ gI s' 7 = 0 := ⟨_, rfl, rfl, rfl, rfl, rfl⟩
/-- the law's last part -/
theorem own_295 (n : Nat) (s : St) (v k : Int32) (hv : v = 0 ∨ v = 1) (h3 : gI s 3 = v) (h6 : gI s 6 = 0) (h5 : gI s 5 = 0) (h7 : gI s 7 = 0) : f_law_295 n v k k s = some 1 := by
  have e : f_law_315 n v v s = some 1 := by
    unfold f_law_315 f_getPc f_isHalted f_getExecuted
    rw [if_pos rfl, Option.bind_some, h6, if_pos rfl, Option.bind_some, h5, if_pos (by decide), Option.bind_some, h7, if_pos rfl]; rfl
  unfold f_law_295 f_getStatementCount
  rw [if_pos rfl, Option.bind_some, h3]
  rcases hv with rfl | rfl
  · rw [if_pos rfl]; exact e
  · rw [if_neg (by decide)]; exact e
/-- a statement that isn't taken -/
theorem own_no (k c : Int32) : Ev (fun n => f_law_193 n k c (-1) 0 own_S) 1 := by
  have hc : Ev (fun n => f_law_273 n 0 0 own_S) 1 := by
    unfold f_law_273
    obtain ⟨s', e1, e2, e3, e4, e5⟩ := own_cmp44 0 own_S
    refine Ev.bind (c := (-2, s')) ?_ (Ev.all fun n => ?_)
    · refine Ev.step (g := fun n => f_compile_44 n own_S) (fun n => rfl) (Ev.all fun n => e1)
    · dsimp only; rw [if_pos rfl]; exact own_295 n s' 0 _ (Or.inl rfl) e2 e3 e4 e5
  have h247 : ∀ t, Ev (fun n => f_law_247 n c 0 t own_S) 1 := fun t => by
    unfold f_law_247 f_law_272; simp only [if_true]; exact hc
  have h225 : Ev (fun n => f_law_225 n k c 0 0 0 own_S) 1 := by
    unfold f_law_225 f_law_246
    simp only [if_true]
    split
    · exact h247 0
    · split
      · exact h247 0
      · exact h247 1
  refine Ev.congr (fun n => ?_) h225
  unfold f_law_193
  rw [if_pos rfl]
  unfold f_law_205 f_getStatementCount
  rw [if_pos rfl, Option.bind_some, if_pos rfl]; rfl
/-- a statement that is taken; j: it jumps -/
theorem own_yes (k t u a b c : Int32) (hj : (k < 6 ∨ 8 < k) ∧ (¬ t = 6 ∧ ¬ t = 7 ∧ ¬ t = 8) ∨ (¬ k < 6 ∧ ¬ 8 < k) ∧ (t = 6 ∨ t = 7 ∨ t = 8)) : Ev (fun n => f_law_193 n k c 0 1 (own_T t u a b c)) 1 := by
  have r4 : rd (gA (own_T t u a b c) 4) 0 = some t := rfl
  have r8 : rd (gA (own_T t u a b c) 8) 0 = some c := rfl
  have r9 : rd (gA (own_T t u a b c) 9) 0 = some 0 := rfl
  -- what compile answers
  have good : f_isBad 0 1 (own_T t u a b c) = some 0 → Ev (fun n => f_law_273 n 1 0 (own_T t u a b c)) 1 := fun hb => by
    unfold f_law_273
    obtain ⟨s', e1, e2, e3, e4, e5⟩ := own_cmp44 0 (own_T t u a b c)
    refine Ev.bind (c := (-2, s')) ?_ (Ev.all fun n => ?_)
    · refine Ev.step (g := fun n => f_compile_16 n 1 1 (own_T t u a b c)) (fun n => ?_) (Ev.step (g := fun n => f_compile_44 n (own_T t u a b c)) (fun n => rfl) (Ev.all fun n => e1))
      show g_compile_16 (f_compile_16 n) n 1 0 (own_T t u a b c) = _
      unfold g_compile_16 lt
      rw [if_pos (by decide), if_pos (by decide), hb, Option.bind_some, if_pos rfl]; rfl
    · dsimp only; rw [if_pos rfl]; exact own_295 n s' 1 _ (Or.inr rfl) e2 e3 e4 e5
  have badc : f_isBad 0 1 (own_T t u a b c) = some 1 → Ev (fun n => f_law_273 n 1 1 (own_T t u a b c)) 1 := fun hb => by
    unfold f_law_273
    refine Ev.bind (c := (0, own_T t u a b c)) ?_ (Ev.all fun n => ?_)
    · refine Ev.step (g := fun n => some (0, own_T t u a b c)) (fun n => ?_) (Ev.const rfl)
      show g_compile_16 (f_compile_16 n) n 1 0 (own_T t u a b c) = _
      unfold g_compile_16 lt
      rw [if_pos (by decide), if_pos (by decide), hb, Option.bind_some, if_neg (by decide)]
    · dsimp only; rw [if_neg (by decide)]; exact own_295 n (own_T t u a b c) 1 0 (Or.inr rfl) rfl rfl rfl rfl
  refine Ev.congr (g := fun n => f_law_225 n k c 1 1 1 (own_T t u a b c)) (fun n => ?_) ?_
  · unfold f_law_193
    rw [if_neg (by decide)]
    unfold f_law_205 f_getStatementCount
    rw [if_pos rfl, Option.bind_some, if_neg (by decide)]; rfl
  · rcases hj with ⟨hk, h6, h7, h8⟩ | ⟨⟨hk1, hk2⟩, ht⟩
    · have hb : f_isBad 0 1 (own_T t u a b c) = some 0 := by
        unfold f_isBad
        rw [r4, Option.bind_some, if_neg h6, if_neg h7, if_neg h8]
        have ha : ∃ z, f_isArith t (own_T t u a b c) = some z := by
          unfold f_isArith f_isArith_14 f_isArith_15; split; exact ⟨_, rfl⟩; split <;> exact ⟨_, rfl⟩
        obtain ⟨z, hz⟩ := ha
        rw [hz, Option.bind_some]
        split
        · rfl
        · rw [r9, Option.bind_some, if_pos rfl]; rfl
      have h := good hb
      have h246 : Ev (fun n => f_law_246 n c 1 (own_T t u a b c)) 1 := by
        refine Ev.congr (fun n => ?_) h
        unfold f_law_246 f_law_247 f_law_272
        rw [if_neg (by decide), if_pos rfl]
      refine Ev.congr (fun n => ?_) h246
      unfold f_law_225
      rw [if_pos rfl]
      by_cases c1 : k < 6
      · rw [if_pos c1]
      · rw [if_neg c1]
        rcases hk with q | q
        · exact absurd q c1
        · rw [if_pos q]
    · have h25 : f_isBad 0 1 (own_T t u a b c) = f_isBad_25 0 1 (own_T t u a b c) := by
        unfold f_isBad
        rw [r4, Option.bind_some]
        rcases ht with rfl | rfl | rfl
        · rw [if_pos rfl]
        · rw [if_neg (by decide), if_pos rfl]
        · rw [if_neg (by decide), if_neg (by decide), if_pos rfl]
      have hin : f_isBad_25 0 1 (own_T t u a b c) = some (if c < 0 then 1 else if 1 < c then 1 else 0) := by
        unfold f_isBad_25
        rw [r8, Option.bind_some]
        unfold f_inTargets f_inTargets_13 f_inTargets_14
        split
        · rfl
        · split <;> rfl
      refine Ev.congr (g := fun n => f_law_247 n c 1 1 (own_T t u a b c)) (fun n => by unfold f_law_225; rw [if_pos rfl, if_neg hk1, if_neg hk2]) ?_
      unfold f_law_247 f_law_268 f_law_272
      rw [hin] at h25
      by_cases c1 : c < 0
      · rw [if_pos c1] at h25
        refine Ev.congr (fun n => ?_) (badc h25)
        rw [if_neg (by decide), if_neg (by decide), if_pos c1]
      · rw [if_neg c1] at h25
        by_cases c2 : 1 < c
        · rw [if_pos c2] at h25
          refine Ev.congr (fun n => ?_) (badc h25)
          rw [if_neg (by decide), if_neg (by decide), if_neg c1, if_pos c2]
        · rw [if_neg c2] at h25
          refine Ev.congr (fun n => ?_) (good h25)
          rw [if_neg (by decide), if_neg (by decide), if_neg c1, if_neg c2]
theorem own_st {k : Int32} (a b c t : Int32) (hv : f_validKind k own_S = some 1) (ht : k &&& 15 = t) : f_statement k a b c own_S = (f_operandsOk t a b own_S).bind fun c6 => if c6 = 0 then some (-1, own_S) else if t = 1 then (f_isField c own_S).bind (fun c9 => if c9 = 0 then some (-1, own_S) else f_statement_66 k a b c t own_S) else f_statement_66 k a b c t own_S := by
  unfold f_statement lt
  rw [show gI own_S 4 = 0 from rfl, if_pos rfl, show gI own_S 3 = 0 from rfl, show gI own_S 1 = 32 from rfl, if_neg (by decide), hv, Option.bind_some, if_neg (by decide), ht]
theorem own_op31 (a b : Int32) : f_operandsOk_31 a b own_S = some (if own_F a = 0 then 0 else if own_F b = 0 then 0 else 1) := by
  unfold f_operandsOk_31 f_operandsOk_51 f_operandsOk_52
  rw [own_isF, Option.bind_some, own_isF, Option.bind_some]
  split
  · rfl
  · split <;> rfl
def own_ar (k : Int32) : Prop := ¬ k < 2 ∧ ¬ 5 < k ∨ ¬ k < 18 ∧ ¬ 21 < k
/-- from the law's entry to its fork -/
theorem own_69 (n : Nat) (k a b c r : Int32) (s : St) (j : Int32) (h : j = 1 ∧ own_ar k ∨ j = 0 ∧ ¬ own_ar k) : (if k < 2 then f_law_52 n k a b c r s else if 5 < k then f_law_52 n k a b c r s else f_law_64 n k a b c r s) = f_law_69 n k a b c r j s := by
  have yes : own_ar k → j = 1 := fun q => by rcases h with ⟨h, -⟩ | ⟨-, h⟩; exact h; exact absurd q h
  have no : ¬ own_ar k → j = 0 := fun q => by rcases h with ⟨-, h⟩ | ⟨h, -⟩; exact absurd h q; exact h
  have h52 : (k < 2 ∨ 5 < k) → f_law_52 n k a b c r s = f_law_69 n k a b c r j s := fun q => by
    unfold f_law_52 f_law_68 f_law_64
    by_cases c1 : k < 18
    · rw [if_pos c1, no]
      rintro (⟨z1, z2⟩ | ⟨z1, -⟩)
      · rcases q with q | q; exact z1 q; exact z2 q
      · exact z1 c1
    · rw [if_neg c1]
      by_cases c2 : 21 < k
      · rw [if_pos c2, no]
        rintro (⟨z1, z2⟩ | ⟨-, z1⟩)
        · rcases q with q | q; exact z1 q; exact z2 q
        · exact z1 c2
      · rw [if_neg c2, yes (Or.inr ⟨c1, c2⟩)]
  by_cases c1 : k < 2
  · rw [if_pos c1]; exact h52 (Or.inl c1)
  · rw [if_neg c1]
    by_cases c2 : 5 < k
    · rw [if_pos c2]; exact h52 (Or.inr c2)
    · rw [if_neg c2]; unfold f_law_64; rw [yes (Or.inl ⟨c1, c2⟩)]
theorem own_arith (k t a b c : Int32) (hv : f_validKind k own_S = some 1) (ht : k &&& 15 = t) (h1 : ¬ k = 1) (har : own_ar k) (t2 : ¬ t < 2) (t5 : ¬ 5 < t) (hj : (k < 6 ∨ 8 < k)) (tj : ¬ t = 1 ∧ ¬ t = 6 ∧ ¬ t = 7 ∧ ¬ t = 8) : ∃ r s, f_statement k a b c own_S = some (r, s) ∧ Ev (fun n => f_law_69 n k a b c r 1 s) 1 := by
  have hop : f_operandsOk t a b own_S = some (if own_F a = 0 then 0 else if own_F b = 0 then 0 else 1) := by
    unfold f_operandsOk
    rw [if_neg tj.1, show f_isArith t own_S = some 1 from by unfold f_isArith; rw [if_neg t2, if_neg t5]; rfl, Option.bind_some, if_neg (by decide)]; exact own_op31 a b
  have hs := own_st a b c t hv ht
  rw [hop, Option.bind_some] at hs
  have l : ∀ n r s, f_law_69 n k a b c r 1 s = f_law_193 n k c r (if own_F a = 0 then 0 else if own_F b = 0 then 0 else if own_F c = 0 then 0 else 1) s := fun n r s => by
    unfold f_law_69 f_law_130 f_law_131
    rw [if_neg h1, if_neg (by decide), own_LF, Option.bind_some, own_LF, Option.bind_some, own_LF, Option.bind_some]
    split
    · rfl
    · split
      · rfl
      · split <;> rfl
  have no : ∀ r s, (r, s) = ((-1 : Int32), own_S) → (if own_F a = 0 then (0 : Int32) else if own_F b = 0 then 0 else if own_F c = 0 then 0 else 1) = 0 → Ev (fun n => f_law_69 n k a b c r 1 s) 1 := fun r s e q => by
    cases e
    refine Ev.congr (fun n => by rw [l, q]) (own_no k c)
  by_cases ca : own_F a = 0
  · rw [if_pos ca, if_pos rfl] at hs
    exact ⟨_, _, hs, no _ _ rfl (if_pos ca)⟩
  · by_cases cb : own_F b = 0
    · rw [if_neg ca, if_pos cb, if_pos rfl] at hs
      exact ⟨_, _, hs, no _ _ rfl (by rw [if_neg ca, if_pos cb])⟩
    · rw [if_neg ca, if_neg cb, if_neg (by decide), if_neg tj.1] at hs
      unfold f_statement_66 at hs
      rw [if_neg t2, if_neg t5, own_isF, Option.bind_some] at hs
      by_cases cc : own_F c = 0
      · rw [if_pos cc] at hs
        exact ⟨_, _, hs, no _ _ rfl (by rw [if_neg ca, if_neg cb, if_pos cc])⟩
      · rw [if_neg cc, own_89] at hs
        refine ⟨_, _, hs, Ev.congr (fun n => by rw [l, if_neg ca, if_neg cb, if_neg cc]) (own_yes k t _ a b c (Or.inl ⟨hj, tj.2⟩))⟩
theorem own_cmpj (k a b c : Int32) (hk : k = 6 ∨ k = 7) : ∃ r s, f_statement k a b c own_S = some (r, s) ∧ Ev (fun n => f_law_69 n k a b c r 0 s) 1 := by
  have hv : f_validKind k own_S = some 1 := by rcases hk with rfl | rfl <;> rfl
  have ht : k &&& 15 = k := by rcases hk with rfl | rfl <;> decide
  have h1 : ¬ k = 1 := by rcases hk with rfl | rfl <;> decide
  have hop : f_operandsOk k a b own_S = some (if own_F a = 0 then 0 else if own_F b = 0 then 0 else 1) := by
    rw [← own_op31]; rcases hk with rfl | rfl <;> rfl
  have hs := own_st a b c k hv ht
  rw [hop, Option.bind_some] at hs
  have l : ∀ n r s, f_law_69 n k a b c r 0 s = f_law_193 n k c r (if own_F a = 0 then 0 else if own_F b = 0 then 0 else 1) s := fun n r s => by
    have e : f_law_69 n k a b c r 0 s = f_law_148 n k a b c r s := by
      unfold f_law_69
      rw [if_neg h1, if_pos rfl]
      rcases hk with rfl | rfl
      · rw [if_pos rfl]
      · rw [if_neg (by decide), if_pos rfl]
    rw [e]
    unfold f_law_148 f_law_166 f_law_167
    rw [own_LF, Option.bind_some, own_LF, Option.bind_some]
    split
    · rfl
    · split <;> rfl
  have no : ∀ r s, (r, s) = ((-1 : Int32), own_S) → (if own_F a = 0 then (0 : Int32) else if own_F b = 0 then 0 else 1) = 0 → Ev (fun n => f_law_69 n k a b c r 0 s) 1 := fun r s e q => by
    cases e
    refine Ev.congr (fun n => by rw [l, q]) (own_no k c)
  by_cases ca : own_F a = 0
  · rw [if_pos ca, if_pos rfl] at hs
    exact ⟨_, _, hs, no _ _ rfl (if_pos ca)⟩
  · by_cases cb : own_F b = 0
    · rw [if_neg ca, if_pos cb, if_pos rfl] at hs
      exact ⟨_, _, hs, no _ _ rfl (by rw [if_neg ca, if_pos cb])⟩
    · rw [if_neg ca, if_neg cb, if_neg (by decide), if_neg h1] at hs
      have e66 : f_statement_66 k a b c k own_S = f_statement_89 k a b c k own_S := by
        unfold f_statement_66
        rcases hk with rfl | rfl <;> rw [if_neg (by decide), if_pos (by decide)]
      rw [e66, own_89] at hs
      refine ⟨_, _, hs, Ev.congr (fun n => by rw [l, if_neg ca, if_neg cb]) (own_yes k k _ a b c (Or.inr ?_))⟩
      rcases hk with rfl | rfl <;> decide
theorem own_plain (k a b c : Int32) (hk : k = 8 ∨ k = 9) : ∃ r s, f_statement k a b c own_S = some (r, s) ∧ Ev (fun n => f_law_69 n k a b c r 0 s) 1 := by
  have hv : f_validKind k own_S = some 1 := by rcases hk with rfl | rfl <;> rfl
  have ht : k &&& 15 = k := by rcases hk with rfl | rfl <;> decide
  have h1 : ¬ k = 1 := by rcases hk with rfl | rfl <;> decide
  have hop : f_operandsOk k a b own_S = some 1 := by rcases hk with rfl | rfl <;> rfl
  have hs := own_st a b c k hv ht
  rw [hop, Option.bind_some, if_neg (by decide), if_neg h1] at hs
  have e66 : f_statement_66 k a b c k own_S = f_statement_89 k a b c k own_S := by
    unfold f_statement_66
    rcases hk with rfl | rfl <;> rw [if_neg (by decide), if_pos (by decide)]
  rw [e66, own_89] at hs
  have l : ∀ n r s, f_law_69 n k a b c r 0 s = f_law_193 n k c r 1 s := fun n r s => by
    unfold f_law_69 f_law_184
    rw [if_neg h1, if_pos rfl]
    rcases hk with rfl | rfl
    · rw [if_neg (by decide), if_neg (by decide), if_pos rfl]
    · rw [if_neg (by decide), if_neg (by decide), if_neg (by decide), if_pos rfl]
  refine ⟨_, _, hs, Ev.congr (fun n => l n _ _) (own_yes k k _ a b c ?_)⟩
  rcases hk with rfl | rfl <;> decide
theorem own_move (a b c : Int32) : ∃ r s, f_statement 1 a b c own_S = some (r, s) ∧ Ev (fun n => f_law_69 n 1 a b c r 0 s) 1 := by
  have hop : f_operandsOk 1 a b own_S = some (own_F a) := by
    unfold f_operandsOk
    rw [if_pos rfl, own_isF, Option.bind_some]
    rcases own_F01 a with e | e <;> rw [e] <;> rfl
  have hs := own_st a b c 1 (k := 1) rfl (by decide)
  rw [hop, Option.bind_some, if_pos rfl, own_isF, Option.bind_some] at hs
  have l : ∀ n r s, f_law_69 n 1 a b c r 0 s = f_law_193 n 1 c r (if own_F a = 0 then 0 else if own_F c = 0 then 0 else 1) s := fun n r s => by
    unfold f_law_69 f_law_94 f_law_95
    rw [if_pos rfl, own_LF, Option.bind_some, own_LF, Option.bind_some]
    split
    · rfl
    · split <;> rfl
  have no : ∀ r s, (r, s) = ((-1 : Int32), own_S) → (if own_F a = 0 then (0 : Int32) else if own_F c = 0 then 0 else 1) = 0 → Ev (fun n => f_law_69 n 1 a b c r 0 s) 1 := fun r s e q => by
    cases e
    refine Ev.congr (fun n => by rw [l, q]) (own_no 1 c)
  by_cases ca : own_F a = 0
  · rw [if_pos ca] at hs
    exact ⟨_, _, hs, no _ _ rfl (if_pos ca)⟩
  · by_cases cc : own_F c = 0
    · rw [if_neg ca, if_pos cc] at hs
      exact ⟨_, _, hs, no _ _ rfl (by rw [if_neg ca, if_pos cc])⟩
    · rw [if_neg ca, if_neg cc] at hs
      have e66 : f_statement_66 1 a b c 1 own_S = f_statement_89 1 a b c 1 own_S := by unfold f_statement_66; rw [if_pos (by decide)]
      rw [e66, own_89] at hs
      exact ⟨_, _, hs, Ev.congr (fun n => by rw [l, if_neg ca, if_neg cc]) (own_yes 1 1 _ a b c (by decide))⟩
theorem own_inv (k a b c : Int32) (hv : f_validKind k own_S = some 0) : f_statement k a b c own_S = some (-1, own_S) := by
  unfold f_statement
  rw [show gI own_S 4 = 0 from rfl, if_pos rfl, show gI own_S 3 = 0 from rfl, show gI own_S 1 = 32 from rfl, if_neg (by decide), hv, Option.bind_some, if_pos rfl]
theorem own_kinds (k : Int32) : (k = 1 ∨ k = 2 ∨ k = 3 ∨ k = 4 ∨ k = 5 ∨ k = 6 ∨ k = 7 ∨ k = 8 ∨ k = 9 ∨ k = 18 ∨ k = 19 ∨ k = 20 ∨ k = 21) ∨ ((k < 1 ∨ 9 < k) ∧ (k < 18 ∨ 21 < k)) := by
  simp only [x32_eq, x32_lt]
  simp only [show (1 : Int32).toInt = 1 from rfl, show (2 : Int32).toInt = 2 from rfl, show (3 : Int32).toInt = 3 from rfl, show (4 : Int32).toInt = 4 from rfl, show (5 : Int32).toInt = 5 from rfl, show (6 : Int32).toInt = 6 from rfl, show (7 : Int32).toInt = 7 from rfl, show (8 : Int32).toInt = 8 from rfl, show (9 : Int32).toInt = 9 from rfl, show (18 : Int32).toInt = 18 from rfl, show (19 : Int32).toInt = 19 from rfl, show (20 : Int32).toInt = 20 from rfl, show (21 : Int32).toInt = 21 from rfl]
  omega
theorem own_whole (k a b c : Int32) : ∃ r s j, f_statement k a b c own_S = some (r, s) ∧ Ev (fun n => f_law_69 n k a b c r j s) 1 ∧ (j = 1 ∧ own_ar k ∨ j = 0 ∧ ¬ own_ar k) := by
  have ar : ∀ t, f_validKind k own_S = some 1 → k &&& 15 = t → ¬ k = 1 → own_ar k → ¬ t < 2 → ¬ 5 < t → (k < 6 ∨ 8 < k) → (¬ t = 1 ∧ ¬ t = 6 ∧ ¬ t = 7 ∧ ¬ t = 8) → ∃ r s j, f_statement k a b c own_S = some (r, s) ∧ Ev (fun n => f_law_69 n k a b c r j s) 1 ∧ (j = 1 ∧ own_ar k ∨ j = 0 ∧ ¬ own_ar k) := fun t h1 h2 h3 h4 h5 h6 h7 h8 => by
    obtain ⟨r, s, e1, e2⟩ := own_arith k t a b c h1 h2 h3 h4 h5 h6 h7 h8
    exact ⟨r, s, 1, e1, e2, Or.inl ⟨rfl, h4⟩⟩
  rcases own_kinds k with h | ⟨h1, h2⟩
  · rcases h with rfl | rfl | rfl | rfl | rfl | rfl | rfl | rfl | rfl | rfl | rfl | rfl | rfl
    · obtain ⟨r, s, e1, e2⟩ := own_move a b c
      exact ⟨r, s, 0, e1, e2, Or.inr ⟨rfl, by unfold own_ar; decide⟩⟩
    · exact ar 2 rfl (by decide) (by decide) (by unfold own_ar; decide) (by decide) (by decide) (by decide) (by decide)
    · exact ar 3 rfl (by decide) (by decide) (by unfold own_ar; decide) (by decide) (by decide) (by decide) (by decide)
    · exact ar 4 rfl (by decide) (by decide) (by unfold own_ar; decide) (by decide) (by decide) (by decide) (by decide)
    · exact ar 5 rfl (by decide) (by decide) (by unfold own_ar; decide) (by decide) (by decide) (by decide) (by decide)
    · obtain ⟨r, s, e1, e2⟩ := own_cmpj 6 a b c (Or.inl rfl)
      exact ⟨r, s, 0, e1, e2, Or.inr ⟨rfl, by unfold own_ar; decide⟩⟩
    · obtain ⟨r, s, e1, e2⟩ := own_cmpj 7 a b c (Or.inr rfl)
      exact ⟨r, s, 0, e1, e2, Or.inr ⟨rfl, by unfold own_ar; decide⟩⟩
    · obtain ⟨r, s, e1, e2⟩ := own_plain 8 a b c (Or.inl rfl)
      exact ⟨r, s, 0, e1, e2, Or.inr ⟨rfl, by unfold own_ar; decide⟩⟩
    · obtain ⟨r, s, e1, e2⟩ := own_plain 9 a b c (Or.inr rfl)
      exact ⟨r, s, 0, e1, e2, Or.inr ⟨rfl, by unfold own_ar; decide⟩⟩
    · exact ar 2 rfl (by decide) (by decide) (by unfold own_ar; decide) (by decide) (by decide) (by decide) (by decide)
    · exact ar 3 rfl (by decide) (by decide) (by unfold own_ar; decide) (by decide) (by decide) (by decide) (by decide)
    · exact ar 4 rfl (by decide) (by decide) (by unfold own_ar; decide) (by decide) (by decide) (by decide) (by decide)
    · exact ar 5 rfl (by decide) (by decide) (by unfold own_ar; decide) (by decide) (by decide) (by decide) (by decide)
  · have e18 : f_validKind_13 k own_S = some 0 := by
      unfold f_validKind_13
      by_cases c1 : k < 18
      · rw [if_pos c1]; rfl
      · rw [if_neg c1]
        rcases h2 with q | q
        · exact absurd q c1
        · rw [if_pos q]; rfl
    have hv : f_validKind k own_S = some 0 := by
      unfold f_validKind
      by_cases c1 : k < 1
      · rw [if_pos c1]; exact e18
      · rw [if_neg c1]
        rcases h1 with q | q
        · exact absurd q c1
        · rw [if_pos q]; exact e18
    have ne : ∀ z : Int32, ¬ z < 1 → ¬ 9 < z → ¬ k = z := fun z z1 z2 q => by rw [q] at h1; rcases h1 with q | q; exact z1 q; exact z2 q
    have nar : ¬ own_ar k := by
      unfold own_ar
      rintro (⟨z1, z2⟩ | ⟨z1, z2⟩)
      · rcases h1 with q | q
        · exact z1 (by rw [x32_lt] at q ⊢; have : (1 : Int32).toInt = 1 := rfl
                       have : (2 : Int32).toInt = 2 := rfl
                       omega)
        · exact z2 (by rw [x32_lt] at q ⊢; have : (9 : Int32).toInt = 9 := rfl
                       have : (5 : Int32).toInt = 5 := rfl
                       omega)
      · rcases h2 with q | q; exact z1 q; exact z2 q
    refine ⟨_, _, 0, own_inv k a b c hv, Ev.congr (fun n => ?_) (own_no k c), Or.inr ⟨rfl, nar⟩⟩
    unfold f_law_69
    rw [if_neg (ne 1 (by decide) (by decide)), if_pos rfl, if_neg (ne 6 (by decide) (by decide)), if_neg (ne 7 (by decide) (by decide)), if_neg (ne 8 (by decide) (by decide)), if_neg (ne 9 (by decide) (by decide))]
theorem owed (p0 p1 p2 p3 : Int32) : ∃ fu, f_law fu p0 p1 p2 p3 = some 1 := by
  obtain ⟨c, d1, d2⟩ := own_decl
  obtain ⟨r, s, j, e1, e2, e3⟩ := own_whole p0 p1 p2 p3
  refine Ev.get (Ev.bind (Ev.const (own_init 8 32)) (Ev.bind (Ev.const d1) (Ev.bind (Ev.const d2) (Ev.bind (Ev.const e1) (Ev.congr (fun n => ?_) e2)))))
  exact own_69 n p0 p1 p2 p3 r s j e3

set_option maxRecDepth 65536 in
set_option maxHeartbeats 40000000 in
theorem comes_1 {Post : Tables → Env → Array Value → State → Outcome → State → Prop} (hpost : ∀ tb e args s v u, (limb_1_1.after args s (.returned v) u = true ∧ limb_1_2.after args s (.returned v) u = true ∧ True) → FrameEnd s (.returned v) u (Jvm.fieldLocs frame_1_writes args s ++ Jvm.arrayLocs frame_1_arrays args s ++ Jvm.staticLocs frame_1_statics s) 32 640 → Post tb e args s (.returned v) u) :
    ArmFor flags0 classFile x code maxLocals ret World_1 tables_1 room_1 Calls_1 rest_1 Pre_1 Post := by
  intro l hfl _ _ p e ha hc hk s m args below hf hA hF happ hP
  obtain ⟨hcalls, hrest, hpre⟩ := hP
  obtain ⟨-, -, -, hnamed, -, -, -, hat⟩ := (Spec.applies_iff hf).mp happ
  obtain ⟨hg, hn⟩ := and_e (Cond.before_iff.mp (show (Jvm.Cond.and given_1 narrow_1).before args s = true from hpre))
  obtain ⟨g0, q0⟩ := and_e hg
  obtain ⟨w0, w1, w2, w3, rfl⟩ : ∃ w0 w1 w2 w3 : Value, args = #[w0, w1, w2, w3] := by
    have hs : args.size = 4 := by simpa [Cond.value, given_1] using g0
    obtain ⟨L⟩ := args
    match L, hs with
    | [w0, w1, w2, w3], _ => exact ⟨w0, w1, w2, w3, rfl⟩
  have hw := fun d (hd : d ∈ tables_1) => atoms_spec (ws := Jvm.Cond.code x code maxLocals ret :: tables_1) hat d (List.mem_cons_of_mem _ hd)
  obtain ⟨h0, q1⟩ := and_e q0
  obtain ⟨i0, e0⟩ := is_v h0
  obtain rfl : w0 = (.int i0) := Option.some.inj e0
  obtain ⟨h1, q2⟩ := and_e q1
  obtain ⟨i1, e1⟩ := is_v h1
  obtain rfl : w1 = (.int i1) := Option.some.inj e1
  obtain ⟨h2, q3⟩ := and_e q2
  obtain ⟨i2, e2⟩ := is_v h2
  obtain rfl : w2 = (.int i2) := Option.some.inj e2
  obtain ⟨i3, e3⟩ := is_v q3
  obtain rfl : w3 = (.int i3) := Option.some.inj e3
  obtain ⟨fu, hfu⟩ := owed i0 i1 i2 i3
  obtain ⟨n, o, h1, h2, h3, _, L, rfl, ⟨w, H', rfl, hv, -, -, N⟩, hq⟩ := okLAW l s _ hw fu i0 i1 i2 i3 1 hfu tables_1 s.heap.size _ s.heap (HR.start0 s CN lay) p e ha hc hk s m _ below hf ((Spec.applies_iff_loose hf).mp happ).1 ⟨rfl, State.Warmed39.refl s, rfl⟩ trivial
  obtain rfl : w = some (.int 1) := hv
  refine ⟨n, _, h1, h2, h3, hpost _ _ _ _ _ _ ⟨Cond.after_iff.mpr rfl, Cond.after_iff.mpr (eq_i res_at (Term.int_eval (1)) rfl), trivial⟩ ⟨hq.1, hq.2.1, (hq.2.2.sift fun y hy => Or.inr (N y hy)).mono (by decide) (by decide)⟩⟩
theorem main_1_1 : Claimed_1_1 := comes_1 fun _ _ _ _ _ _ h hF => ⟨h.1, hF⟩
theorem main_1_2 : Claimed_1_2 := comes_1 fun _ _ _ _ _ _ h hF => ⟨h.2.1, hF⟩

end Jvm.Pilot.@@N@@
namespace Jvm.Pilot.@@N@@
open Jvm Jvm.ClassFile Sem Op Lib Jvm.Free Jvm.Stand Jvm.Pilot.@@N@@.Jvm.D
/-! MADE BY PROGRAM (witnessworld.py) out of the Statement's table words and the real class files: 11 classes; the members and pool entries that the words name. The judged class is class 1, her method 2. -/
namespace start1
open Jvm.ClassFile
def u (s : String) : CpInfo := .utf8 (stringToUtf16 s)
/-- a pool by its gaps: so many unusable entries, then the entry; so many at the end -/
def gap : Nat → List CpInfo → List CpInfo
  | 0, r => r
  | n + 1, r => .unusable :: gap n r
def poolList (es : List (Nat × CpInfo)) (last : Nat) : List CpInfo := es.foldr (fun e r => gap e.1 (e.2 :: r)) (gap last [])
def pool (es : List (Nat × CpInfo)) (last : Nat) : Array CpInfo := ⟨poolList es last⟩
def fileOf (pool : Array CpInfo) (this : Nat) (attrs : Array Attribute := #[]) (ms : Array MethodInfo := #[]) (fl : Nat := 33) (sup : Nat := 0) (ifs : Array Nat := #[]) (fds : Array FieldInfo := #[]) : ClassFile where
  minorVersion := 0
  majorVersion := 65
  constantPool := pool
  accessFlags := fl
  thisClass := this
  superClass := sup
  interfaces := ifs
  fields := fds
  methods := ms
  attributes := attrs
def plain (name : String) (sup : Option ClassId) : Class where
  name := name
  kind := .ordinary
  loader := none
  accessFlags := 33
  super := sup
  interfaces := #[]
  cf := none
  fields := #[]
  methods := #[]
  instanceTypes := #[]
  staticTypes := #[]
  resolved := #[]
  callSites := []
  init := .initialized
  statics := none
  mirror := none

def pool0 : Array CpInfo := pool [(5, u "<init>"), (0, u "()V"), (1, .class_ 10), (1, u "java/lang/Object")] 113

def k0c0 : Code := { maxStack := 0, maxLocals := 1, code := object_method_1_code, exceptionTable := #[], attributes := #[] }
def k0m0 : Method := { name := "<init>", desc := "()V", sig := { parameters := [], returnType := none }, accessFlags := 1, code := some k0c0 }
/-- java/lang/Object -/
def k0 : Class := { plain "java/lang/Object" none with
  accessFlags := 33
  interfaces := #[]
  cf := some (fileOf pool0 8 #[] #[{ accessFlags := 1, nameIndex := 5, descriptorIndex := 6, attributes := #[] }] 33 0 #[] #[])
  fields := #[]
  methods := #[k0m0]
  instanceTypes := #[]
  staticTypes := #[]
  resolved := Array.replicate 124 none
  statics := none }

def pool1 : Array CpInfo := pool [(2, .class_ 4), (1, u "java/lang/Object"), (0, u "<init>"), (0, u "()V"), (0, .class_ 8), (0, u "PictureCobol"), (0, .methodref 7 10), (0, .nameAndType 5 11), (0, u "(II)V"), (0, .methodref 7 13), (0, .nameAndType 14 15), (0, u "declareField"), (0, u "(IIZ)I"), (0, .methodref 7 17), (0, .nameAndType 18 19), (0, u "statement"), (0, u "(IIII)I"), (0, .methodref 21 22), (0, .class_ 23), (0, .nameAndType 24 25), (0, u "PictureCobolL2"), (0, u "isField"), (0, u "(I)Z"), (0, .methodref 7 27), (0, .nameAndType 28 29), (0, u "getStatementCount"), (0, u "()I"), (0, .methodref 7 31), (0, .nameAndType 32 29), (0, u "compile"), (0, .methodref 7 34), (0, .nameAndType 35 29), (0, u "getPc"), (0, .methodref 7 37), (0, .nameAndType 38 39), (0, u "isHalted"), (0, u "()Z"), (0, .methodref 7 41), (0, .nameAndType 42 29), (0, u "getExecuted"), (3, u "law"), (0, u "(IIII)Z")] 2

def k1m0 : Method := { name := "<init>", desc := "()V", sig := { parameters := [], returnType := none }, accessFlags := 1, code := none }
def k1c1 : Code := { maxStack := 2, maxLocals := 1, code := method_2_code, exceptionTable := #[], attributes := #[] }
def k1m1 : Method := { name := "isField", desc := "(I)Z", sig := { parameters := [.int], returnType := some .boolean }, accessFlags := 10, code := some k1c1 }
def k1c2 : Code := { maxStack := 5, maxLocals := 11, code := code, exceptionTable := #[], attributes := #[] }
def k1m2 : Method := { name := "law", desc := "(IIII)Z", sig := { parameters := [.int, .int, .int, .int], returnType := some .boolean }, accessFlags := 9, code := some k1c2 }
/-- PictureCobolL2 -/
def k1 : Class := { plain "PictureCobolL2" (some 0) with
  accessFlags := 33
  interfaces := #[]
  cf := some (fileOf pool1 21 #[] #[{ accessFlags := 1, nameIndex := 5, descriptorIndex := 6, attributes := #[] }, { accessFlags := 10, nameIndex := 24, descriptorIndex := 25, attributes := #[] }, { accessFlags := 9, nameIndex := 46, descriptorIndex := 47, attributes := #[] }] 33 2 #[] #[])
  fields := #[]
  methods := #[k1m0, k1m1, k1m2]
  instanceTypes := #[]
  staticTypes := #[]
  resolved := Array.replicate 50 none
  statics := none }

def pool2 : Array CpInfo := pool [(1, .methodref 2 3), (0, .class_ 4), (0, .nameAndType 5 6), (0, u "java/lang/Object"), (0, u "<init>"), (0, u "()V"), (0, .fieldref 8 9), (0, .class_ 10), (0, .nameAndType 11 12), (0, u "PictureCobol"), (0, u "fInt"), (0, u "[I"), (0, .fieldref 8 14), (0, .nameAndType 15 12), (0, u "fFrac"), (0, .fieldref 8 17), (0, .nameAndType 18 12), (0, u "fVal"), (0, .fieldref 8 20), (0, .nameAndType 21 22), (0, u "fSigned"), (0, u "[Z"), (0, .fieldref 8 24), (0, .nameAndType 25 12), (0, u "sKind"), (0, .fieldref 8 27), (0, .nameAndType 28 22), (0, u "sRounded"), (0, .fieldref 8 30), (0, .nameAndType 31 12), (0, u "sA"), (0, .fieldref 8 33), (0, .nameAndType 34 12), (0, u "sB"), (0, .fieldref 8 36), (0, .nameAndType 37 12), (0, u "sC"), (0, .fieldref 8 39), (0, .nameAndType 40 22), (0, u "sHasErr"), (0, .fieldref 8 42), (0, .nameAndType 43 12), (0, u "sErr"), (0, .methodref 8 45), (0, .nameAndType 46 47), (0, u "clamp"), (0, u "(III)I"), (0, .fieldref 8 49), (0, .nameAndType 50 51), (0, u "maxFields"), (0, u "I"), (0, .fieldref 8 53), (0, .nameAndType 54 51), (0, u "maxStatements"), (0, .fieldref 8 56), (0, .nameAndType 57 51), (0, u "fieldCount"), (0, .fieldref 8 59), (0, .nameAndType 60 51), (0, u "stmtCount"), (0, .fieldref 8 62), (0, .nameAndType 63 64), (0, u "compiled"), (0, u "Z"), (0, .fieldref 8 66), (0, .nameAndType 67 64), (0, u "halted"), (0, .fieldref 8 69), (0, .nameAndType 70 51), (0, u "pc"), (0, .fieldref 8 72), (0, .nameAndType 73 51), (0, u "executed"), (0, .fieldref 8 75), (0, .nameAndType 76 51), (0, u "sizeErrors"), (0, .methodref 8 78), (0, .nameAndType 79 80), (0, u "isField"), (0, u "(I)Z"), (8, .methodref 8 90), (0, .nameAndType 91 80), (0, u "validKind"), (0, .methodref 8 93), (0, .nameAndType 94 95), (0, u "operandsOk"), (0, u "(III)Z"), (0, .methodref 8 97), (0, .nameAndType 98 80), (0, u "isArith"), (0, .methodref 8 100), (0, .nameAndType 101 102), (0, u "isBad"), (0, u "(II)Z"), (4, .methodref 8 108), (0, .nameAndType 109 102), (0, u "inTargets"), (4, u "num"), (0, u "J"), (6, u "den"), (34, u "REFUSED"), (2, u "COMPILE_OK"), (1, u "RUNNING"), (1, u "HALTED"), (1, u "MAX_DIGITS"), (1, u "MAX_STEPS"), (1, u "MOVE"), (0, u "ADD"), (0, u "SUBTRACT"), (1, u "MULTIPLY"), (1, u "DIVIDE"), (0, u "IF_LESS"), (1, u "IF_EQUAL"), (1, u "GO_TO"), (1, u "STOP"), (1, u "ROUNDED"), (1, u "(II)V"), (2, u "declareField"), (0, u "(IIZ)I"), (2, u "statement"), (0, u "(IIII)I"), (2, u "compile"), (0, u "()I"), (2, u "()Z"), (1, u "getPc"), (0, u "isHalted"), (1, u "getExecuted"), (1, u "getStatementCount")] 2

def k2c0 : Code := { maxStack := 5, maxLocals := 3, code := prog_1_method_1_code, exceptionTable := #[], attributes := #[] }
def k2m0 : Method := { name := "<init>", desc := "(II)V", sig := { parameters := [.int, .int], returnType := none }, accessFlags := 1, code := some k2c0 }
def k2c1 : Code := { maxStack := 3, maxLocals := 6, code := prog_1_method_2_code, exceptionTable := #[], attributes := #[] }
def k2m1 : Method := { name := "declareField", desc := "(IIZ)I", sig := { parameters := [.int, .int, .boolean], returnType := some .int }, accessFlags := 1, code := some k2c1 }
def k2c2 : Code := { maxStack := 4, maxLocals := 7, code := prog_1_method_4_code, exceptionTable := #[], attributes := #[] }
def k2m2 : Method := { name := "statement", desc := "(IIII)I", sig := { parameters := [.int, .int, .int, .int], returnType := some .int }, accessFlags := 1, code := some k2c2 }
def k2c3 : Code := { maxStack := 3, maxLocals := 3, code := prog_1_method_6_code, exceptionTable := #[], attributes := #[] }
def k2m3 : Method := { name := "compile", desc := "()I", sig := { parameters := [], returnType := some .int }, accessFlags := 1, code := some k2c3 }
def k2c4 : Code := { maxStack := 1, maxLocals := 1, code := prog_1_method_10_code, exceptionTable := #[], attributes := #[] }
def k2m4 : Method := { name := "getPc", desc := "()I", sig := { parameters := [], returnType := some .int }, accessFlags := 1, code := some k2c4 }
def k2c5 : Code := { maxStack := 1, maxLocals := 1, code := prog_1_method_11_code, exceptionTable := #[], attributes := #[] }
def k2m5 : Method := { name := "isHalted", desc := "()Z", sig := { parameters := [], returnType := some .boolean }, accessFlags := 1, code := some k2c5 }
def k2c6 : Code := { maxStack := 1, maxLocals := 1, code := prog_1_method_13_code, exceptionTable := #[], attributes := #[] }
def k2m6 : Method := { name := "getExecuted", desc := "()I", sig := { parameters := [], returnType := some .int }, accessFlags := 1, code := some k2c6 }
def k2c7 : Code := { maxStack := 1, maxLocals := 1, code := prog_1_method_15_code, exceptionTable := #[], attributes := #[] }
def k2m7 : Method := { name := "getStatementCount", desc := "()I", sig := { parameters := [], returnType := some .int }, accessFlags := 1, code := some k2c7 }
def k2c8 : Code := { maxStack := 2, maxLocals := 4, code := prog_1_method_16_code, exceptionTable := #[], attributes := #[] }
def k2m8 : Method := { name := "clamp", desc := "(III)I", sig := { parameters := [.int, .int, .int], returnType := some .int }, accessFlags := 2, code := some k2c8 }
def k2c9 : Code := { maxStack := 2, maxLocals := 2, code := prog_1_method_17_code, exceptionTable := #[], attributes := #[] }
def k2m9 : Method := { name := "isField", desc := "(I)Z", sig := { parameters := [.int], returnType := some .boolean }, accessFlags := 2, code := some k2c9 }
def k2c10 : Code := { maxStack := 2, maxLocals := 2, code := prog_1_method_19_code, exceptionTable := #[], attributes := #[] }
def k2m10 : Method := { name := "isArith", desc := "(I)Z", sig := { parameters := [.int], returnType := some .boolean }, accessFlags := 2, code := some k2c10 }
def k2c11 : Code := { maxStack := 2, maxLocals := 2, code := prog_1_method_20_code, exceptionTable := #[], attributes := #[] }
def k2m11 : Method := { name := "validKind", desc := "(I)Z", sig := { parameters := [.int], returnType := some .boolean }, accessFlags := 2, code := some k2c11 }
def k2c12 : Code := { maxStack := 2, maxLocals := 4, code := prog_1_method_21_code, exceptionTable := #[], attributes := #[] }
def k2m12 : Method := { name := "operandsOk", desc := "(III)Z", sig := { parameters := [.int, .int, .int], returnType := some .boolean }, accessFlags := 2, code := some k2c12 }
def k2c13 : Code := { maxStack := 2, maxLocals := 3, code := prog_1_method_22_code, exceptionTable := #[], attributes := #[] }
def k2m13 : Method := { name := "inTargets", desc := "(II)Z", sig := { parameters := [.int, .int], returnType := some .boolean }, accessFlags := 2, code := some k2c13 }
def k2c14 : Code := { maxStack := 3, maxLocals := 4, code := prog_1_method_23_code, exceptionTable := #[], attributes := #[] }
def k2m14 : Method := { name := "isBad", desc := "(II)Z", sig := { parameters := [.int, .int], returnType := some .boolean }, accessFlags := 2, code := some k2c14 }
/-- PictureCobol -/
def k2 : Class := { plain "PictureCobol" (some 0) with
  accessFlags := 49
  interfaces := #[]
  cf := some (fileOf pool2 8 #[] #[{ accessFlags := 1, nameIndex := 5, descriptorIndex := 187, attributes := #[] }, { accessFlags := 1, nameIndex := 190, descriptorIndex := 191, attributes := #[] }, { accessFlags := 1, nameIndex := 194, descriptorIndex := 195, attributes := #[] }, { accessFlags := 1, nameIndex := 198, descriptorIndex := 199, attributes := #[] }, { accessFlags := 1, nameIndex := 204, descriptorIndex := 199, attributes := #[] }, { accessFlags := 1, nameIndex := 205, descriptorIndex := 202, attributes := #[] }, { accessFlags := 1, nameIndex := 207, descriptorIndex := 199, attributes := #[] }, { accessFlags := 1, nameIndex := 209, descriptorIndex := 199, attributes := #[] }, { accessFlags := 2, nameIndex := 46, descriptorIndex := 47, attributes := #[] }, { accessFlags := 2, nameIndex := 79, descriptorIndex := 80, attributes := #[] }, { accessFlags := 2, nameIndex := 98, descriptorIndex := 80, attributes := #[] }, { accessFlags := 2, nameIndex := 91, descriptorIndex := 80, attributes := #[] }, { accessFlags := 2, nameIndex := 94, descriptorIndex := 95, attributes := #[] }, { accessFlags := 2, nameIndex := 109, descriptorIndex := 102, attributes := #[] }, { accessFlags := 2, nameIndex := 101, descriptorIndex := 102, attributes := #[] }] 49 2 #[] #[{ accessFlags := 25, nameIndex := 157, descriptorIndex := 51, attributes := #[] }, { accessFlags := 25, nameIndex := 160, descriptorIndex := 51, attributes := #[] }, { accessFlags := 25, nameIndex := 162, descriptorIndex := 51, attributes := #[] }, { accessFlags := 25, nameIndex := 164, descriptorIndex := 51, attributes := #[] }, { accessFlags := 25, nameIndex := 166, descriptorIndex := 51, attributes := #[] }, { accessFlags := 25, nameIndex := 168, descriptorIndex := 51, attributes := #[] }, { accessFlags := 25, nameIndex := 170, descriptorIndex := 51, attributes := #[] }, { accessFlags := 25, nameIndex := 171, descriptorIndex := 51, attributes := #[] }, { accessFlags := 25, nameIndex := 172, descriptorIndex := 51, attributes := #[] }, { accessFlags := 25, nameIndex := 174, descriptorIndex := 51, attributes := #[] }, { accessFlags := 25, nameIndex := 176, descriptorIndex := 51, attributes := #[] }, { accessFlags := 25, nameIndex := 177, descriptorIndex := 51, attributes := #[] }, { accessFlags := 25, nameIndex := 179, descriptorIndex := 51, attributes := #[] }, { accessFlags := 25, nameIndex := 181, descriptorIndex := 51, attributes := #[] }, { accessFlags := 25, nameIndex := 183, descriptorIndex := 51, attributes := #[] }, { accessFlags := 25, nameIndex := 185, descriptorIndex := 51, attributes := #[] }, { accessFlags := 2, nameIndex := 50, descriptorIndex := 51, attributes := #[] }, { accessFlags := 2, nameIndex := 54, descriptorIndex := 51, attributes := #[] }, { accessFlags := 2, nameIndex := 57, descriptorIndex := 51, attributes := #[] }, { accessFlags := 2, nameIndex := 11, descriptorIndex := 12, attributes := #[] }, { accessFlags := 2, nameIndex := 15, descriptorIndex := 12, attributes := #[] }, { accessFlags := 2, nameIndex := 18, descriptorIndex := 12, attributes := #[] }, { accessFlags := 2, nameIndex := 21, descriptorIndex := 22, attributes := #[] }, { accessFlags := 2, nameIndex := 60, descriptorIndex := 51, attributes := #[] }, { accessFlags := 2, nameIndex := 25, descriptorIndex := 12, attributes := #[] }, { accessFlags := 2, nameIndex := 28, descriptorIndex := 22, attributes := #[] }, { accessFlags := 2, nameIndex := 31, descriptorIndex := 12, attributes := #[] }, { accessFlags := 2, nameIndex := 34, descriptorIndex := 12, attributes := #[] }, { accessFlags := 2, nameIndex := 37, descriptorIndex := 12, attributes := #[] }, { accessFlags := 2, nameIndex := 40, descriptorIndex := 22, attributes := #[] }, { accessFlags := 2, nameIndex := 43, descriptorIndex := 12, attributes := #[] }, { accessFlags := 2, nameIndex := 63, descriptorIndex := 64, attributes := #[] }, { accessFlags := 2, nameIndex := 67, descriptorIndex := 64, attributes := #[] }, { accessFlags := 2, nameIndex := 70, descriptorIndex := 51, attributes := #[] }, { accessFlags := 2, nameIndex := 73, descriptorIndex := 51, attributes := #[] }, { accessFlags := 2, nameIndex := 76, descriptorIndex := 51, attributes := #[] }, { accessFlags := 2, nameIndex := 114, descriptorIndex := 115, attributes := #[] }, { accessFlags := 2, nameIndex := 122, descriptorIndex := 115, attributes := #[] }])
  fields := #[{ name := "REFUSED", type := .int, accessFlags := 25, slot := 0, constantValue := 0 }, { name := "COMPILE_OK", type := .int, accessFlags := 25, slot := 1, constantValue := 0 }, { name := "RUNNING", type := .int, accessFlags := 25, slot := 2, constantValue := 0 }, { name := "HALTED", type := .int, accessFlags := 25, slot := 3, constantValue := 0 }, { name := "MAX_DIGITS", type := .int, accessFlags := 25, slot := 4, constantValue := 0 }, { name := "MAX_STEPS", type := .int, accessFlags := 25, slot := 5, constantValue := 0 }, { name := "MOVE", type := .int, accessFlags := 25, slot := 6, constantValue := 0 }, { name := "ADD", type := .int, accessFlags := 25, slot := 7, constantValue := 0 }, { name := "SUBTRACT", type := .int, accessFlags := 25, slot := 8, constantValue := 0 }, { name := "MULTIPLY", type := .int, accessFlags := 25, slot := 9, constantValue := 0 }, { name := "DIVIDE", type := .int, accessFlags := 25, slot := 10, constantValue := 0 }, { name := "IF_LESS", type := .int, accessFlags := 25, slot := 11, constantValue := 0 }, { name := "IF_EQUAL", type := .int, accessFlags := 25, slot := 12, constantValue := 0 }, { name := "GO_TO", type := .int, accessFlags := 25, slot := 13, constantValue := 0 }, { name := "STOP", type := .int, accessFlags := 25, slot := 14, constantValue := 0 }, { name := "ROUNDED", type := .int, accessFlags := 25, slot := 15, constantValue := 0 }, { name := "maxFields", type := .int, accessFlags := 2, slot := 0, constantValue := 0 }, { name := "maxStatements", type := .int, accessFlags := 2, slot := 1, constantValue := 0 }, { name := "fieldCount", type := .int, accessFlags := 2, slot := 2, constantValue := 0 }, { name := "fInt", type := (.array .int), accessFlags := 2, slot := 3, constantValue := 0 }, { name := "fFrac", type := (.array .int), accessFlags := 2, slot := 4, constantValue := 0 }, { name := "fVal", type := (.array .int), accessFlags := 2, slot := 5, constantValue := 0 }, { name := "fSigned", type := (.array .boolean), accessFlags := 2, slot := 6, constantValue := 0 }, { name := "stmtCount", type := .int, accessFlags := 2, slot := 7, constantValue := 0 }, { name := "sKind", type := (.array .int), accessFlags := 2, slot := 8, constantValue := 0 }, { name := "sRounded", type := (.array .boolean), accessFlags := 2, slot := 9, constantValue := 0 }, { name := "sA", type := (.array .int), accessFlags := 2, slot := 10, constantValue := 0 }, { name := "sB", type := (.array .int), accessFlags := 2, slot := 11, constantValue := 0 }, { name := "sC", type := (.array .int), accessFlags := 2, slot := 12, constantValue := 0 }, { name := "sHasErr", type := (.array .boolean), accessFlags := 2, slot := 13, constantValue := 0 }, { name := "sErr", type := (.array .int), accessFlags := 2, slot := 14, constantValue := 0 }, { name := "compiled", type := .boolean, accessFlags := 2, slot := 15, constantValue := 0 }, { name := "halted", type := .boolean, accessFlags := 2, slot := 16, constantValue := 0 }, { name := "pc", type := .int, accessFlags := 2, slot := 17, constantValue := 0 }, { name := "executed", type := .int, accessFlags := 2, slot := 18, constantValue := 0 }, { name := "sizeErrors", type := .int, accessFlags := 2, slot := 19, constantValue := 0 }, { name := "num", type := .long, accessFlags := 2, slot := 20, constantValue := 0 }, { name := "den", type := .long, accessFlags := 2, slot := 21, constantValue := 0 }]
  methods := #[k2m0, k2m1, k2m2, k2m3, k2m4, k2m5, k2m6, k2m7, k2m8, k2m9, k2m10, k2m11, k2m12, k2m13, k2m14]
  instanceTypes := #[.int, .int, .int, (.array .int), (.array .int), (.array .int), (.array .boolean), .int, (.array .int), (.array .boolean), (.array .int), (.array .int), (.array .int), (.array .boolean), (.array .int), .boolean, .boolean, .int, .int, .int, .long, .long]
  staticTypes := #[.int, .int, .int, .int, .int, .int, .int, .int, .int, .int, .int, .int, .int, .int, .int, .int]
  resolved := Array.replicate 212 none
  statics := none }

def pool3 : Array CpInfo := pool [(1, u "java/lang/Cloneable"), (0, .class_ 1), (0, u "java/lang/Object"), (0, .class_ 3)] 3

/-- java/lang/Cloneable -/
def k3 : Class := { plain "java/lang/Cloneable" (some 0) with
  accessFlags := 1537
  interfaces := #[]
  cf := some (fileOf pool3 2 #[] #[] 1537 4 #[] #[])
  fields := #[]
  methods := #[]
  instanceTypes := #[]
  staticTypes := #[]
  resolved := Array.replicate 8 none
  statics := none }

def pool4 : Array CpInfo := pool [(1, u "java/io/Serializable"), (0, .class_ 1), (0, u "java/lang/Object"), (0, .class_ 3)] 3

/-- java/io/Serializable -/
def k4 : Class := { plain "java/io/Serializable" (some 0) with
  accessFlags := 1537
  interfaces := #[]
  cf := some (fileOf pool4 2 #[] #[] 1537 4 #[] #[])
  fields := #[]
  methods := #[]
  instanceTypes := #[]
  staticTypes := #[]
  resolved := Array.replicate 8 none
  statics := none }

/-- the primitive boolean -/
def k5 : Class := { plain "boolean" none with kind := .primitive 'Z', accessFlags := 0x411 }
/-- [Z -/
def k6 : Class := { plain "[Z" (some 0) with kind := .array 5 .boolean, interfaces := #[3, 4], accessFlags := 1041 }

/-- the primitive byte -/
def k7 : Class := { plain "byte" none with kind := .primitive 'B', accessFlags := 0x411 }
/-- [B -/
def k8 : Class := { plain "[B" (some 0) with kind := .array 7 .byte, interfaces := #[3, 4], accessFlags := 1041 }

/-- the primitive int -/
def k9 : Class := { plain "int" none with kind := .primitive 'I', accessFlags := 0x411 }
/-- [I -/
def k10 : Class := { plain "[I" (some 0) with kind := .array 9 .int, interfaces := #[3, 4], accessFlags := 1041 }

def heap : Heap := #[]
def classes : Array Class := #[k0, k1, k2, k3, k4, k5, k6, k7, k8, k9, k10]
def interned : List (Array UInt16 × Addr) := []
def slotsUsed : Nat := 0
def theMethod : MethodId := ⟨1, 2⟩
def args0 : Array Value := #[.int 1, .int 1, .int 1, .int 1]
def aboutOver (below : List Frame) : State where
  vm := { classes := classes, interned := interned.toArray }
  heap := heap
  slotsUsed := slotsUsed
  threads := #[{ frames := .invoking theMethod args0 :: below }]
def below0 : List Frame := [.native { method := ⟨0, 0⟩, args := #[] }]
def about1 : State := aboutOver below0
def p0 : Program := .bare "" "" ""
def e0 : Env := launch0.env 0 0 0
theorem w_frames : about1.frames = Frame.invoking theMethod args0 :: below0 := rfl
set_option maxRecDepth 65536 in
theorem w_args : argsFit about1.vm theMethod args0 = true := by decide +kernel
set_option maxRecDepth 65536 in
theorem w_heap : heapFits about1 = true := by decide +kernel
set_option maxRecDepth 65536 in
theorem w_runnable : about1.curStatus? = some .runnable := by decide +kernel
set_option maxRecDepth 65536 in
theorem w_alone : about1.alone = true := by decide +kernel
set_option maxRecDepth 65536 in
theorem w_named : about1.methodNamed? x = some theMethod := by decide +kernel
set_option maxRecDepth 65536 in
theorem w_hears : about1.hears theMethod below0 = true := by decide +kernel
set_option maxRecDepth 65536 in
theorem w_ripe : about1.ripe theMethod args0 below0 = true := by decide +kernel
theorem w_running : about1.status = .running := rfl
set_option maxRecDepth 65536 in
theorem w_room : about1.hasRoom e0.platform room_1 = true :=
  launch0.hasRoom_least _ room_1 (by decide +kernel) (by decide +kernel) (by decide +kernel) (by decide +kernel) (by decide +kernel) (by decide +kernel)
theorem allAtoms_all (ts : List Jvm.Cond) (a : Array Jvm.Value) (st : Jvm.State) : (allAtoms ts).before a st = ts.all (fun c => c.before a st) := by
  induction ts with
  | nil => rfl
  | cons c t ih =>
    show (Jvm.Cond.and c (allAtoms t)).before a st = _
    rw [Jvm.Cond.before_and, ih, List.all_cons]
def words1 : List Jvm.Cond := Jvm.Cond.code x code maxLocals ret :: tables_1
/-- a 'code' word, met by the world's own term for the bytes: nothing is compared byte by byte -/
theorem code_word {y : MethodName} {bytes : ByteArray} {mx : Nat} {rt : Option FieldType} {a : Array Value} {s : State} {m : MethodId} {meth : Method} {c : Code} (h1 : s.methodNamed? y = some m) (h2 : s.vm.method? m = some meth) (h3 : meth.code = some c) (h4 : c.code = bytes)
    (h5 : (c.maxLocals == mx && c.exceptionTable.isEmpty && decide (c.maxStack ≤ mostOperands) && decide (meth.sig.returnType = rt) && !meth.locks && decide (parseMethodDescriptor y.desc = some meth.sig)) = true) : (Jvm.Cond.code y bytes mx rt).before a s = true := by
  simp only [Bool.and_eq_true, beq_iff_eq, Bool.not_eq_true', decide_eq_true_eq] at h5
  obtain ⟨⟨⟨⟨⟨g1, g2⟩, g3⟩, g4⟩, g5⟩, g6⟩ := h5
  simp [Cond.before, Cond.holds, Cond.value, h1, h2, h3, h4, g1, g2, g3, g4, g5, g6]
def isCode : Jvm.Cond → Bool
  | .code _ _ _ _ => true
  | _ => false
theorem all_split {L : List Jvm.Cond} {P : Jvm.Cond → Bool} (h1 : L.all (fun c => isCode c || P c) = true) (h2 : ∀ c ∈ L.filter isCode, P c = true) : L.all P = true := by
  refine List.all_eq_true.mpr fun c hc => ?_
  have h := List.all_eq_true.mp h1 c hc
  rcases Bool.eq_false_or_eq_true (isCode c) with hi | hi
  · exact h2 c (List.mem_filter.mpr ⟨hc, hi⟩)
  · simpa [hi] using h
set_option maxRecDepth 65536 in
theorem w_c0 : (Jvm.Cond.code x code maxLocals ret).before args0 about1 = true := code_word (m := ⟨1, 2⟩) (meth := k1m2) (c := k1c2) (by decide +kernel) rfl rfl rfl (by decide +kernel)
set_option maxRecDepth 65536 in
theorem w_c1 : (Jvm.Cond.code ({ cls := "PictureCobol", name := "<init>", desc := "(II)V" } : Jvm.MethodName) prog_1_method_1_code (3 : Nat) (Option.none : Option Jvm.ClassFile.FieldType)).before args0 about1 = true := code_word (m := ⟨2, 0⟩) (meth := k2m0) (c := k2c0) (by decide +kernel) rfl rfl rfl (by decide +kernel)
set_option maxRecDepth 65536 in
theorem w_c2 : (Jvm.Cond.code ({ cls := "java/lang/Object", name := "<init>", desc := "()V" } : Jvm.MethodName) object_method_1_code (1 : Nat) (Option.none : Option Jvm.ClassFile.FieldType)).before args0 about1 = true := code_word (m := ⟨0, 0⟩) (meth := k0m0) (c := k0c0) (by decide +kernel) rfl rfl rfl (by decide +kernel)
set_option maxRecDepth 65536 in
theorem w_c3 : (Jvm.Cond.code ({ cls := "PictureCobol", name := "clamp", desc := "(III)I" } : Jvm.MethodName) prog_1_method_16_code (4 : Nat) (Option.some Jvm.ClassFile.FieldType.int)).before args0 about1 = true := code_word (m := ⟨2, 8⟩) (meth := k2m8) (c := k2c8) (by decide +kernel) rfl rfl rfl (by decide +kernel)
set_option maxRecDepth 65536 in
theorem w_c4 : (Jvm.Cond.code ({ cls := "PictureCobol", name := "declareField", desc := "(IIZ)I" } : Jvm.MethodName) prog_1_method_2_code (6 : Nat) (Option.some Jvm.ClassFile.FieldType.int)).before args0 about1 = true := code_word (m := ⟨2, 1⟩) (meth := k2m1) (c := k2c1) (by decide +kernel) rfl rfl rfl (by decide +kernel)
set_option maxRecDepth 65536 in
theorem w_c5 : (Jvm.Cond.code ({ cls := "PictureCobol", name := "statement", desc := "(IIII)I" } : Jvm.MethodName) prog_1_method_4_code (7 : Nat) (Option.some Jvm.ClassFile.FieldType.int)).before args0 about1 = true := code_word (m := ⟨2, 2⟩) (meth := k2m2) (c := k2c2) (by decide +kernel) rfl rfl rfl (by decide +kernel)
set_option maxRecDepth 65536 in
theorem w_c6 : (Jvm.Cond.code ({ cls := "PictureCobol", name := "validKind", desc := "(I)Z" } : Jvm.MethodName) prog_1_method_20_code (2 : Nat) (Option.some Jvm.ClassFile.FieldType.boolean)).before args0 about1 = true := code_word (m := ⟨2, 11⟩) (meth := k2m11) (c := k2c11) (by decide +kernel) rfl rfl rfl (by decide +kernel)
set_option maxRecDepth 65536 in
theorem w_c7 : (Jvm.Cond.code ({ cls := "PictureCobol", name := "getStatementCount", desc := "()I" } : Jvm.MethodName) prog_1_method_15_code (1 : Nat) (Option.some Jvm.ClassFile.FieldType.int)).before args0 about1 = true := code_word (m := ⟨2, 7⟩) (meth := k2m7) (c := k2c7) (by decide +kernel) rfl rfl rfl (by decide +kernel)
set_option maxRecDepth 65536 in
theorem w_c8 : (Jvm.Cond.code ({ cls := "PictureCobol", name := "compile", desc := "()I" } : Jvm.MethodName) prog_1_method_6_code (3 : Nat) (Option.some Jvm.ClassFile.FieldType.int)).before args0 about1 = true := code_word (m := ⟨2, 3⟩) (meth := k2m3) (c := k2c3) (by decide +kernel) rfl rfl rfl (by decide +kernel)
set_option maxRecDepth 65536 in
theorem w_c9 : (Jvm.Cond.code ({ cls := "PictureCobol", name := "getPc", desc := "()I" } : Jvm.MethodName) prog_1_method_10_code (1 : Nat) (Option.some Jvm.ClassFile.FieldType.int)).before args0 about1 = true := code_word (m := ⟨2, 4⟩) (meth := k2m4) (c := k2c4) (by decide +kernel) rfl rfl rfl (by decide +kernel)
set_option maxRecDepth 65536 in
theorem w_c10 : (Jvm.Cond.code ({ cls := "PictureCobol", name := "isHalted", desc := "()Z" } : Jvm.MethodName) prog_1_method_11_code (1 : Nat) (Option.some Jvm.ClassFile.FieldType.boolean)).before args0 about1 = true := code_word (m := ⟨2, 5⟩) (meth := k2m5) (c := k2c5) (by decide +kernel) rfl rfl rfl (by decide +kernel)
set_option maxRecDepth 65536 in
theorem w_c11 : (Jvm.Cond.code ({ cls := "PictureCobol", name := "getExecuted", desc := "()I" } : Jvm.MethodName) prog_1_method_13_code (1 : Nat) (Option.some Jvm.ClassFile.FieldType.int)).before args0 about1 = true := code_word (m := ⟨2, 6⟩) (meth := k2m6) (c := k2c6) (by decide +kernel) rfl rfl rfl (by decide +kernel)
set_option maxRecDepth 65536 in
theorem w_c12 : (Jvm.Cond.code ({ cls := "PictureCobol", name := "operandsOk", desc := "(III)Z" } : Jvm.MethodName) prog_1_method_21_code (4 : Nat) (Option.some Jvm.ClassFile.FieldType.boolean)).before args0 about1 = true := code_word (m := ⟨2, 12⟩) (meth := k2m12) (c := k2c12) (by decide +kernel) rfl rfl rfl (by decide +kernel)
set_option maxRecDepth 65536 in
theorem w_c13 : (Jvm.Cond.code ({ cls := "PictureCobol", name := "isField", desc := "(I)Z" } : Jvm.MethodName) prog_1_method_17_code (2 : Nat) (Option.some Jvm.ClassFile.FieldType.boolean)).before args0 about1 = true := code_word (m := ⟨2, 9⟩) (meth := k2m9) (c := k2c9) (by decide +kernel) rfl rfl rfl (by decide +kernel)
set_option maxRecDepth 65536 in
theorem w_c14 : (Jvm.Cond.code ({ cls := "PictureCobolL2", name := "isField", desc := "(I)Z" } : Jvm.MethodName) method_2_code (1 : Nat) (Option.some Jvm.ClassFile.FieldType.boolean)).before args0 about1 = true := code_word (m := ⟨1, 1⟩) (meth := k1m1) (c := k1c1) (by decide +kernel) rfl rfl rfl (by decide +kernel)
set_option maxRecDepth 65536 in
theorem w_c15 : (Jvm.Cond.code ({ cls := "PictureCobol", name := "isArith", desc := "(I)Z" } : Jvm.MethodName) prog_1_method_19_code (2 : Nat) (Option.some Jvm.ClassFile.FieldType.boolean)).before args0 about1 = true := code_word (m := ⟨2, 10⟩) (meth := k2m10) (c := k2c10) (by decide +kernel) rfl rfl rfl (by decide +kernel)
set_option maxRecDepth 65536 in
theorem w_c16 : (Jvm.Cond.code ({ cls := "PictureCobol", name := "isBad", desc := "(II)Z" } : Jvm.MethodName) prog_1_method_23_code (4 : Nat) (Option.some Jvm.ClassFile.FieldType.boolean)).before args0 about1 = true := code_word (m := ⟨2, 14⟩) (meth := k2m14) (c := k2c14) (by decide +kernel) rfl rfl rfl (by decide +kernel)
set_option maxRecDepth 65536 in
theorem w_c17 : (Jvm.Cond.code ({ cls := "PictureCobol", name := "inTargets", desc := "(II)Z" } : Jvm.MethodName) prog_1_method_22_code (3 : Nat) (Option.some Jvm.ClassFile.FieldType.boolean)).before args0 about1 = true := code_word (m := ⟨2, 13⟩) (meth := k2m13) (c := k2c13) (by decide +kernel) rfl rfl rfl (by decide +kernel)
def codes1 : List Jvm.Cond := [Jvm.Cond.code x code maxLocals ret, Jvm.Cond.code ({ cls := "PictureCobol", name := "<init>", desc := "(II)V" } : Jvm.MethodName) prog_1_method_1_code (3 : Nat) (Option.none : Option Jvm.ClassFile.FieldType), Jvm.Cond.code ({ cls := "java/lang/Object", name := "<init>", desc := "()V" } : Jvm.MethodName) object_method_1_code (1 : Nat) (Option.none : Option Jvm.ClassFile.FieldType), Jvm.Cond.code ({ cls := "PictureCobol", name := "clamp", desc := "(III)I" } : Jvm.MethodName) prog_1_method_16_code (4 : Nat) (Option.some Jvm.ClassFile.FieldType.int), Jvm.Cond.code ({ cls := "PictureCobol", name := "declareField", desc := "(IIZ)I" } : Jvm.MethodName) prog_1_method_2_code (6 : Nat) (Option.some Jvm.ClassFile.FieldType.int), Jvm.Cond.code ({ cls := "PictureCobol", name := "statement", desc := "(IIII)I" } : Jvm.MethodName) prog_1_method_4_code (7 : Nat) (Option.some Jvm.ClassFile.FieldType.int), Jvm.Cond.code ({ cls := "PictureCobol", name := "validKind", desc := "(I)Z" } : Jvm.MethodName) prog_1_method_20_code (2 : Nat) (Option.some Jvm.ClassFile.FieldType.boolean), Jvm.Cond.code ({ cls := "PictureCobol", name := "getStatementCount", desc := "()I" } : Jvm.MethodName) prog_1_method_15_code (1 : Nat) (Option.some Jvm.ClassFile.FieldType.int), Jvm.Cond.code ({ cls := "PictureCobol", name := "compile", desc := "()I" } : Jvm.MethodName) prog_1_method_6_code (3 : Nat) (Option.some Jvm.ClassFile.FieldType.int), Jvm.Cond.code ({ cls := "PictureCobol", name := "getPc", desc := "()I" } : Jvm.MethodName) prog_1_method_10_code (1 : Nat) (Option.some Jvm.ClassFile.FieldType.int), Jvm.Cond.code ({ cls := "PictureCobol", name := "isHalted", desc := "()Z" } : Jvm.MethodName) prog_1_method_11_code (1 : Nat) (Option.some Jvm.ClassFile.FieldType.boolean), Jvm.Cond.code ({ cls := "PictureCobol", name := "getExecuted", desc := "()I" } : Jvm.MethodName) prog_1_method_13_code (1 : Nat) (Option.some Jvm.ClassFile.FieldType.int), Jvm.Cond.code ({ cls := "PictureCobol", name := "operandsOk", desc := "(III)Z" } : Jvm.MethodName) prog_1_method_21_code (4 : Nat) (Option.some Jvm.ClassFile.FieldType.boolean), Jvm.Cond.code ({ cls := "PictureCobol", name := "isField", desc := "(I)Z" } : Jvm.MethodName) prog_1_method_17_code (2 : Nat) (Option.some Jvm.ClassFile.FieldType.boolean), Jvm.Cond.code ({ cls := "PictureCobolL2", name := "isField", desc := "(I)Z" } : Jvm.MethodName) method_2_code (1 : Nat) (Option.some Jvm.ClassFile.FieldType.boolean), Jvm.Cond.code ({ cls := "PictureCobol", name := "isArith", desc := "(I)Z" } : Jvm.MethodName) prog_1_method_19_code (2 : Nat) (Option.some Jvm.ClassFile.FieldType.boolean), Jvm.Cond.code ({ cls := "PictureCobol", name := "isBad", desc := "(II)Z" } : Jvm.MethodName) prog_1_method_23_code (4 : Nat) (Option.some Jvm.ClassFile.FieldType.boolean), Jvm.Cond.code ({ cls := "PictureCobol", name := "inTargets", desc := "(II)Z" } : Jvm.MethodName) prog_1_method_22_code (3 : Nat) (Option.some Jvm.ClassFile.FieldType.boolean)]
set_option maxRecDepth 65536 in
theorem codes_eq : words1.filter isCode = codes1 := rfl
theorem w_codes : ∀ c ∈ words1.filter isCode, c.before args0 about1 = true := by
  rw [codes_eq]
  intro c hc
  simp only [codes1, List.mem_cons, List.not_mem_nil, or_false] at hc
  rcases hc with rfl | rfl | rfl | rfl | rfl | rfl | rfl | rfl | rfl | rfl | rfl | rfl | rfl | rfl | rfl | rfl | rfl | rfl
  · exact w_c0
  · exact w_c1
  · exact w_c2
  · exact w_c3
  · exact w_c4
  · exact w_c5
  · exact w_c6
  · exact w_c7
  · exact w_c8
  · exact w_c9
  · exact w_c10
  · exact w_c11
  · exact w_c12
  · exact w_c13
  · exact w_c14
  · exact w_c15
  · exact w_c16
  · exact w_c17
set_option maxRecDepth 65536 in
theorem w_t1 : (words1.take 24).all (fun c => isCode c || c.before args0 about1) = true := by decide +kernel
set_option maxRecDepth 65536 in
theorem w_t2 : ((words1.drop 24).take 24).all (fun c => isCode c || c.before args0 about1) = true := by decide +kernel
set_option maxRecDepth 65536 in
theorem w_t3 : (((words1.drop 24).drop 24).take 24).all (fun c => isCode c || c.before args0 about1) = true := by decide +kernel
set_option maxRecDepth 65536 in
theorem w_t4 : ((((words1.drop 24).drop 24).drop 24).take 24).all (fun c => isCode c || c.before args0 about1) = true := by decide +kernel
set_option maxRecDepth 65536 in
theorem w_t5 : ((((words1.drop 24).drop 24).drop 24).drop 24).all (fun c => isCode c || c.before args0 about1) = true := by decide +kernel
theorem w_tables : (allAtoms (Jvm.Cond.code x code maxLocals ret :: tables_1)).before args0 about1 = true := by
  rw [allAtoms_all]
  show words1.all (fun c => c.before args0 about1) = true
  refine all_split ?_ w_codes
  rw [← List.take_append_drop 24 words1, List.all_append, w_t1, ← List.take_append_drop 24 (words1.drop 24), List.all_append, w_t2, ← List.take_append_drop 24 ((words1.drop 24).drop 24), List.all_append, w_t3, ← List.take_append_drop 24 (((words1.drop 24).drop 24).drop 24), List.all_append, w_t4, w_t5]
  rfl
set_option maxRecDepth 65536 in
theorem w_case : (Jvm.Cond.and given_1 narrow_1).before args0 about1 = true := by decide +kernel
theorem w_applies : (headSpec (Jvm.Cond.code x code maxLocals ret :: tables_1) room_1).applies x e0.platform about1 = true :=
  (Spec.applies_iff w_frames).mpr ⟨w_running, w_runnable, w_alone, w_named, w_hears, w_ripe, w_room, w_tables⟩
theorem atStart : AtStart classFile x code maxLocals ret World_1 tables_1 room_1 Calls_1 rest_1 Pre_1 launch0 p0 e0 about1 theMethod args0 below0 :=
  ⟨lists_1, trivial, launch0.admits_env _ _ _, launch0.least_env, fairChoices_fair.cas, fairChoices_fair.clock, w_frames, w_args, w_heap, w_applies, trivial, trivial, w_case⟩
end start1
theorem witness_1 : WitnessClaimed_1 := ⟨start1.p0, start1.e0, start1.about1, start1.theMethod, start1.args0, start1.below0, start1.atStart⟩
end Jvm.Pilot.@@N@@
