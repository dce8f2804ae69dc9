import JvmDerived
import JvmDerived.Pilot.@@N@@Statement
import JvmDerived.Pilot.@@N@@Code
set_option linter.unusedVariables false
set_option linter.unusedSimpArgs false
namespace Jvm.Own
open Jvm Jvm.ClassFile Sem Op Lib Jvm.Free Jvm.Stand Jvm.LawKit Jvm.RoadKit Bundle
/-! ## values, cells, heaps of the small view -/
theorem leb {a b : Nat} (h : Nat.ble a b = true) : a ≤ b := Nat.le_of_ble_eq_true h
abbrev dc (b : ByteArray) (pc : Nat) (i : Instr) (n : Nat) : Prop := decode b pc = .ok (i, n)
abbrev OwnC : Type := Sum (List Value) (Sum (List Int32) (Sum (List Int64) (List Int32)))
abbrev cO (vs : List Value) : OwnC := .inl vs
abbrev cI (xs : List Int32) : OwnC := .inr (.inl xs)
abbrev cJ (xs : List Int64) : OwnC := .inr (.inr (.inl xs))
abbrev cZ (xs : List Int32) : OwnC := .inr (.inr (.inr xs))
def rf (ad : Nat → Addr) : Value → Value
  | .ref i => .ref (ad i)
  | .int x => .int x
  | .long x => .long x
  | .float x => .float x
  | .double x => .double x
  | .null => .null
  | .retAddr x => .retAddr x
theorem rf_cat (ad : Nat → Addr) (v : Value) : (rf ad v).category = v.category := by cases v <;> rfl
theorem rf_isRef (ad : Nat → Addr) (v : Value) : (rf ad v).isRef = v.isRef := by cases v <;> rfl
theorem rf_cats (ad : Nat → Addr) (S : List Value) : ((S.map (rf ad)).map fun v => v.category) = S.map fun v => v.category := by
  simp [List.map_map, Function.comp_def, rf_cat]
def CelOk (Z : State) (C : String) (lay : List (String × String)) (ad : Nat → Addr) (h : Heap) (a : Addr) : OwnC → Prop
  | .inl vs => Exa Z h a C ∧ ∀ (i : Nat) (f : String × String) (v : Value), lay[i]? = some f → vs[i]? = some v → Fld Z h a C f.1 f.2 (rf ad v)
  | .inr (.inl xs) => ∃ cl : Cell, Arr Z h a cl .int ∧ cl.slots.toList = xs.map Value.int
  | .inr (.inr (.inl xs)) => ∃ cl : Cell, Arr Z h a cl .long ∧ cl.slots.toList = xs.map Value.long
  | .inr (.inr (.inr xs)) => ∃ cl : Cell, Arr Z h a cl .boolean ∧ cl.slots.toList = xs.map Value.int
def HR (Z : State) (C : String) (lay : List (String × String)) (n0 ro : Nat) (ad : Nat → Addr) (H : List OwnC) (h : Heap) : Prop :=
  (∀ i c, H[i]? = some c → CelOk Z C lay ad h (ad i) c) ∧ (∀ i j, i < H.length → j < H.length → ad i = ad j → i = j) ∧ (∀ t, ad (H.length + t) = h.size + t) ∧ (∀ i, i < H.length → ro ≤ i → n0 ≤ ad i) ∧ n0 ≤ h.size
def Kp (ad : Nat → Addr) (N : Nat) (h h' : Heap) : Prop := h.size ≤ h'.size ∧ ∀ (a : Addr) (c : Cell), h[a]? = some c → (∀ i, i < N → ad i ≠ a) → h'[a]? = some c
theorem CelOk.keep {Z : State} {C : String} {lay : List (String × String)} {ad : Nat → Addr} {h h' : Heap} {a : Addr} {c : OwnC} (q : ∀ cz : Cell, h[a]? = some cz → h'[a]? = some cz) (F : CelOk Z C lay ad h a c) : CelOk Z C lay ad h' a c := by
  rcases c with vs | xs | xs | xs
  · obtain ⟨⟨cell, k, h1, r⟩, F2⟩ := F
    refine ⟨⟨cell, k, q _ h1, r⟩, fun i f v hf hv => ?_⟩
    obtain ⟨cell, cf, k, i, f, h1, r⟩ := F2 i f v hf hv
    exact ⟨cell, cf, k, i, f, q _ h1, r⟩
  all_goals
    obtain ⟨cl, ⟨h1, r⟩, h2⟩ := F
    exact ⟨cl, ⟨q _ h1, r⟩, h2⟩
theorem CelOk.lt {Z : State} {C : String} {lay : List (String × String)} {ad : Nat → Addr} {h : Heap} {a : Addr} {c : OwnC} (F : CelOk Z C lay ad h a c) : a < h.size := by
  rcases c with vs | xs | xs | xs
  · exact F.1.lt
  all_goals
    obtain ⟨cl, A, h2⟩ := F
    exact A.lt
theorem Kp.refl (ad : Nat → Addr) (N : Nat) (h : Heap) : Kp ad N h h := ⟨Nat.le_refl _, fun _ _ q _ => q⟩
theorem get_lt {α : Type} {L : List α} {i : Nat} {c : α} (h : L[i]? = some c) : i < L.length := (List.getElem?_eq_some_iff.mp h).1
section HRs
variable {Z : State} {C : String} {lay : List (String × String)} {n0 ro : Nat} {ad : Nat → Addr} {H H' : List OwnC} {h h' h'' : Heap}
/-- the addresses at or above H.length lie at or above the heap's size -/
theorem HR.new (R : HR Z C lay n0 ro ad H h) {i : Nat} (hi : H.length ≤ i) : h.size ≤ ad i := by
  obtain ⟨t, rfl⟩ := Nat.exists_eq_add_of_le hi
  rw [R.2.2.1 t]; exact Nat.le_add_right _ _
theorem Kp.trans (R : HR Z C lay n0 ro ad H h) (K : Kp ad H.length h h') {N : Nat} (K' : Kp ad N h' h'') : Kp ad H.length h h'' := by
  refine ⟨Nat.le_trans K.1 K'.1, fun a c hc hn => K'.2 a c (K.2 a c hc hn) fun i hi q => ?_⟩
  by_cases hl : i < H.length
  · exact hn i hl q
  · have h1 := R.new (Nat.le_of_not_lt hl)
    rw [q] at h1
    exact absurd (Array.getElem?_eq_some_iff.mp hc).1 (Nat.not_lt.mpr h1)
/-- one cell of the small heap is written anew, at its own address -/
theorem HR.put (R : HR Z C lay n0 ro ad H h) {i : Nat} {c : OwnC} (hi : i < H.length) (hs : h'.size = h.size) (ho : ∀ a cz, a ≠ ad i → h[a]? = some cz → h'[a]? = some cz) (hc : CelOk Z C lay ad h' (ad i) c) :
    HR Z C lay n0 ro ad (H.set i c) h' ∧ Kp ad H.length h h' := by
  refine ⟨⟨fun j c' hj => ?_, fun i' j' hi' hj' => ?_, fun t => ?_, fun i' hi' => ?_, by rw [hs]; exact R.2.2.2.2⟩, by rw [hs]; exact Nat.le_refl _, fun a cz hz hn => ho a cz (fun q => hn i hi q.symm) hz⟩
  · rw [List.getElem?_set] at hj
    by_cases e : i = j
    · subst e
      simp [hi] at hj
      subst hj; exact hc
    · rw [if_neg e] at hj
      exact (R.1 j c' hj).keep fun cz q => ho _ cz (fun q' => e (R.2.1 _ _ hi (get_lt hj) q'.symm)) q
  · simp only [List.length_set] at hi' hj'; exact R.2.1 _ _ hi' hj'
  · rw [List.length_set, hs]; exact R.2.2.1 t
  · simp only [List.length_set] at hi'; exact R.2.2.2.1 _ hi'
/-- a new cell behind all others -/
theorem HR.push (R : HR Z C lay n0 ro ad H h) {c : OwnC} (hs : h'.size = h.size + 1) (hE : Ext h h') (hc : CelOk Z C lay ad h' h.size c) :
    HR Z C lay n0 ro ad (H ++ [c]) h' ∧ Kp ad H.length h h' ∧ ad H.length = h.size := by
  have e0 : ad H.length = h.size := R.2.2.1 0
  refine ⟨⟨fun j c' hj => ?_, fun i j hi hj q => ?_, fun t => ?_, fun i hi hr => ?_, by rw [hs]; exact Nat.le_succ_of_le R.2.2.2.2⟩, ⟨hE.1, fun a cz hz _ => hE.2 _ _ hz⟩, e0⟩
  · by_cases hl : j < H.length
    · rw [List.getElem?_append_left hl] at hj
      exact (R.1 j c' hj).keep fun cz q => hE.2 _ _ q
    · have hl' := get_lt hj
      simp only [List.length_append, List.length_singleton] at hl'
      obtain rfl : j = H.length := by omega
      simp at hj
      subst hj; rw [e0]; exact hc
  · simp only [List.length_append, List.length_singleton] at hi hj
    by_cases h1 : i < H.length
    · by_cases h2 : j < H.length
      · exact R.2.1 _ _ h1 h2 q
      · have a1 := (R.1 i _ (List.getElem?_eq_getElem h1)).lt
        have a2 := R.new (Nat.le_of_not_lt h2)
        rw [q] at a1
        exact absurd a1 (Nat.not_lt.mpr a2)
    · by_cases h2 : j < H.length
      · have a1 := (R.1 j _ (List.getElem?_eq_getElem h2)).lt
        have a2 := R.new (Nat.le_of_not_lt h1)
        rw [q] at a2
        exact absurd a1 (Nat.not_lt.mpr a2)
      · omega
  · rw [hs]
    have := R.2.2.1 (1 + t)
    simp only [List.length_append, List.length_singleton]
    rw [Nat.add_assoc, this]; exact (Nat.add_assoc _ _ _).symm
  · simp only [List.length_append, List.length_singleton] at hi
    by_cases h1 : i < H.length
    · exact R.2.2.2.1 _ h1 hr
    · exact Nat.le_trans R.2.2.2.2 (R.new (Nat.le_of_not_lt h1))
end HRs
/-! ## local variables: 'unset' in the small view says nothing -/
def WFs (f : Nat → Option Slot) : Prop := (∀ i, f i = some .second → ∃ j v, i = j + 1 ∧ f j = some (.val v) ∧ v.category = 2) ∧ ∀ i v, f i = some (.val v) → v.category = 2 → f (i + 1) = some .second
def LR (ad : Nat → Addr) (L : List Slot) (Ls : Array Slot) : Prop :=
  L.length = Ls.size ∧ (∀ (i : Nat) (v : Value), L[i]? = some (.val v) → Ls[i]? = some (.val (rf ad v))) ∧ (∀ i : Nat, L[i]? = some .second → Ls[i]? = some .second) ∧ WFs fun i => Ls[i]?
def kill2 : Slot → Slot
  | .val (.long _) => .unset
  | .val (.double _) => .unset
  | s => s
def killS : Slot → Slot
  | .second => .unset
  | s => s
def hd1 (f : Slot → Slot) : List Slot → List Slot
  | [] => []
  | y :: t => f y :: t
def st1 : List Slot → Nat → Value → List Slot
  | [], _, _ => []
  | _ :: t, 0, v => .val v :: hd1 killS t
  | y :: t, n + 1, v => match n with
    | 0 => kill2 y :: st1 t 0 v
    | k + 1 => y :: st1 t (k + 1) v
def st2 : List Slot → Nat → Value → List Slot
  | [], _, _ => []
  | _ :: t, 0, v => .val v :: (match t with | [] => [] | _ :: t' => .second :: hd1 killS t')
  | y :: t, n + 1, v => match n with
    | 0 => kill2 y :: st2 t 0 v
    | k + 1 => y :: st2 t (k + 1) v
theorem st1_len (v : Value) : ∀ (L : List Slot) (i : Nat), (st1 L i v).length = L.length
  | [], _ => rfl
  | y :: [], 0 => rfl
  | y :: z :: t, 0 => rfl
  | y :: t, 1 => congrArg Nat.succ (st1_len v t 0)
  | y :: t, k + 2 => congrArg Nat.succ (st1_len v t (k + 1))
theorem st2_len (v : Value) : ∀ (L : List Slot) (i : Nat), (st2 L i v).length = L.length
  | [], _ => rfl
  | y :: [], 0 => rfl
  | y :: z :: [], 0 => rfl
  | y :: z :: w :: t, 0 => rfl
  | y :: t, 1 => congrArg Nat.succ (st2_len v t 0)
  | y :: t, k + 2 => congrArg Nat.succ (st2_len v t (k + 1))
theorem kill2_e {y s : Slot} (h : kill2 y = s) (hs : s ≠ .unset) : y = s ∧ ∀ w, s = .val w → w.category = 1 := by
  subst h
  rcases y with _ | _ | w
  · exact absurd rfl hs
  · exact ⟨rfl, fun w h => by cases h⟩
  · cases w <;> first | exact absurd rfl hs | exact ⟨rfl, fun w h => by cases h; rfl⟩
theorem killS_e {y s : Slot} (h : killS y = s) (hs : s ≠ .unset) : y = s ∧ s ≠ .second := by
  subst h
  rcases y with _ | _ | w
  · exact absurd rfl hs
  · exact absurd rfl hs
  · exact ⟨rfl, fun h => by cases h⟩
theorem hd1_e {t : List Slot} {j : Nat} {s : Slot} (h : (hd1 killS t)[j]? = some s) (hs : s ≠ .unset) : t[j]? = some s ∧ (j = 0 → s ≠ .second) := by
  cases t with
  | nil => simp [hd1] at h
  | cons y t =>
    cases j with
    | zero =>
      have h' : killS y = s := by simpa [hd1] using h
      obtain ⟨e1, e2⟩ := killS_e h' hs
      exact ⟨by simp [e1], fun _ => e2⟩
    | succ j => exact ⟨by simpa [hd1] using h, fun q => by cases q⟩
theorem st1_at (v : Value) : ∀ (L : List Slot) (i : Nat), i < L.length → (st1 L i v)[i]? = some (.val v)
  | [], _, h => absurd h (by simp)
  | y :: t, 0, _ => rfl
  | y :: t, 1, h => by simpa [st1] using st1_at v t 0 (by simp at h; omega)
  | y :: t, k + 2, h => by simpa [st1] using st1_at v t (k + 1) (by simp at h; omega)
theorem st1_else (v : Value) : ∀ (L : List Slot) (i j : Nat) (s : Slot), j ≠ i → (st1 L i v)[j]? = some s → s ≠ .unset → L[j]? = some s ∧ (j + 1 = i → ∀ w, s = .val w → w.category = 1) ∧ (j = i + 1 → s ≠ .second)
  | [], _, j, s, _, h, _ => by simp [st1] at h
  | y :: t, 0, 0, s, hj, _, _ => absurd rfl hj
  | y :: t, 0, j + 1, s, hj, h, hs => by
    obtain ⟨e1, e2⟩ := hd1_e (t := t) (j := j) (by simpa [st1] using h) hs
    exact ⟨by simpa using e1, fun q => by omega, fun q => e2 (by omega)⟩
  | y :: t, 1, 0, s, hj, h, hs => by
    obtain ⟨e1, e2⟩ := kill2_e (y := y) (by simpa [st1] using h) hs
    exact ⟨by simp [e1], fun _ => e2, fun q => by omega⟩
  | y :: t, 1, j + 1, s, hj, h, hs => by
    obtain ⟨e1, e2, e3⟩ := st1_else v t 0 j s (by omega) (by simpa [st1] using h) hs
    exact ⟨by simpa using e1, fun q => by omega, fun q => e3 (by omega)⟩
  | y :: t, k + 2, 0, s, hj, h, hs => ⟨by simpa [st1] using h, fun q => by omega, fun q => by omega⟩
  | y :: t, k + 2, j + 1, s, hj, h, hs => by
    obtain ⟨e1, e2, e3⟩ := st1_else v t (k + 1) j s (by omega) (by simpa [st1] using h) hs
    exact ⟨by simpa using e1, fun q => e2 (by omega), fun q => e3 (by omega)⟩
theorem st2_at (v : Value) : ∀ (L : List Slot) (i : Nat), i + 1 < L.length → (st2 L i v)[i]? = some (.val v) ∧ (st2 L i v)[i + 1]? = some .second
  | [], _, h => absurd h (by simp)
  | y :: [], 0, h => absurd h (by simp)
  | y :: z :: t, 0, _ => ⟨rfl, rfl⟩
  | y :: t, 1, h => by simpa [st2] using st2_at v t 0 (by simp at h; omega)
  | y :: t, k + 2, h => by simpa [st2] using st2_at v t (k + 1) (by simp at h; omega)
theorem st2_else (v : Value) : ∀ (L : List Slot) (i j : Nat) (s : Slot), j ≠ i → j ≠ i + 1 → (st2 L i v)[j]? = some s → s ≠ .unset → L[j]? = some s ∧ (j + 1 = i → ∀ w, s = .val w → w.category = 1) ∧ (j = i + 2 → s ≠ .second)
  | [], _, j, s, _, _, h, _ => by simp [st2] at h
  | y :: t, 0, 0, s, hj, _, _, _ => absurd rfl hj
  | y :: t, 0, 1, s, _, hj, _, _ => absurd rfl hj
  | y :: [], 0, j + 2, s, _, _, h, _ => by simp [st2] at h
  | y :: z :: t, 0, j + 2, s, hj, _, h, hs => by
    obtain ⟨e1, e2⟩ := hd1_e (t := t) (j := j) (by simpa [st2] using h) hs
    exact ⟨by simpa using e1, fun q => by omega, fun q => e2 (by omega)⟩
  | y :: t, 1, 0, s, hj, _, h, hs => by
    obtain ⟨e1, e2⟩ := kill2_e (y := y) (by simpa [st2] using h) hs
    exact ⟨by simp [e1], fun _ => e2, fun q => by omega⟩
  | y :: t, 1, j + 1, s, hj, hj', h, hs => by
    obtain ⟨e1, e2, e3⟩ := st2_else v t 0 j s (by omega) (by omega) (by simpa [st2] using h) hs
    exact ⟨by simpa using e1, fun q => by omega, fun q => e3 (by omega)⟩
  | y :: t, k + 2, 0, s, hj, _, h, hs => ⟨by simpa [st2] using h, fun q => by omega, fun q => by omega⟩
  | y :: t, k + 2, j + 1, s, hj, hj', h, hs => by
    obtain ⟨e1, e2, e3⟩ := st2_else v t (k + 1) j s (by omega) (by omega) (by simpa [st2] using h) hs
    exact ⟨by simpa using e1, fun q => e2 (by omega), fun q => e3 (by omega)⟩
theorem setAt_ok {l : Array Slot} {i : Nat} (h : i < l.size) (x : Slot) : setAt l i x = some (l.setIfInBounds i x) := if_pos h
/-- which neighbours a store at i wipes -/
def Bad (Ls : Array Slot) (i j : Nat) : Prop := (j + 1 = i ∧ Ls[i]? = some .second) ∨ (j = i + 1 ∧ ∃ o, Ls[i]? = some (.val o) ∧ o.category = 2)
def Pre1 (Ls Ls1 : Array Slot) (i : Nat) : Prop := Ls1.size = Ls.size ∧ ∀ j, j ≠ i → (¬ Bad Ls i j ∧ Ls1[j]? = Ls[j]?) ∨ (Bad Ls i j ∧ Ls1[j]? = some .unset)
theorem storeLocals_pre {Ls : Array Slot} (wf : WFs fun i => Ls[i]?) {i : Nat} (hi : i < Ls.size) (w : Value) : ∃ Ls1, Pre1 Ls Ls1 i ∧ storeLocals Ls i w = storeSelf Ls1 i w := by
  have hg : Ls[i]? = some Ls[i] := Array.getElem?_eq_getElem hi
  rcases hs : Ls[i] with _ | _ | old
  · rw [hs] at hg
    refine ⟨Ls, ⟨rfl, fun j hj => Or.inl ⟨?_, rfl⟩⟩, ?_⟩
    · rintro (⟨-, q⟩ | ⟨-, o, q, -⟩) <;> (rw [hg] at q; cases q)
    · show (Ls[i]?).bind _ = _; rw [hg]; rfl
  · rw [hs] at hg
    obtain ⟨j0, v, rfl, hv, hc⟩ := wf.1 i hg
    have h0 : j0 < Ls.size := by omega
    refine ⟨Ls.setIfInBounds j0 .unset, ⟨by simp, fun j hj => ?_⟩, ?_⟩
    · by_cases e : j = j0
      · subst e; right; exact ⟨Or.inl ⟨rfl, hg⟩, by simp [h0]⟩
      · left
        refine ⟨?_, by rw [Array.getElem?_setIfInBounds_ne (Ne.symm e)]⟩
        rintro (⟨q', q⟩ | ⟨-, o, q, -⟩)
        · exact e (by omega)
        · rw [hg] at q; cases q
    · show (Ls[j0 + 1]?).bind _ = _; rw [hg]
      show (setAt Ls (j0 + 1 - 1) .unset).bind _ = _
      rw [Nat.add_sub_cancel, setAt_ok h0]; rfl
  · rw [hs] at hg
    by_cases hc : old.category = 2
    · have h1 := wf.2 i old hg hc
      have h1' : i + 1 < Ls.size := (Array.getElem?_eq_some_iff.mp h1).1
      refine ⟨Ls.setIfInBounds (i + 1) .unset, ⟨by simp, fun j hj => ?_⟩, ?_⟩
      · by_cases e : j = i + 1
        · subst e; right; exact ⟨Or.inr ⟨rfl, old, hg, hc⟩, by simp [h1']⟩
        · left
          refine ⟨?_, by rw [Array.getElem?_setIfInBounds_ne (Ne.symm e)]⟩
          rintro (⟨-, q⟩ | ⟨q, -⟩)
          · rw [hg] at q; cases q
          · exact e q
      · show (Ls[i]?).bind _ = _; rw [hg]
        show (if old.category = 2 then _ else _) = _
        rw [if_pos hc]
        show (setAt Ls (i + 1) .unset).bind _ = _
        rw [setAt_ok h1']; rfl
    · refine ⟨Ls, ⟨rfl, fun j hj => Or.inl ⟨?_, rfl⟩⟩, ?_⟩
      · rintro (⟨-, q⟩ | ⟨-, o, q, q'⟩) <;> (rw [hg] at q; cases q)
        exact hc q'
      · show (Ls[i]?).bind _ = _; rw [hg]
        show (if old.category = 2 then _ else _) = _
        rw [if_neg hc]
section St
variable {Ls : Array Slot} {i j : Nat}
/-- a value of one word is not wiped -/
theorem not_bad_val (wf : WFs fun i => Ls[i]?) {w : Value} (hj : Ls[j]? = some (.val w)) (hw : j + 1 = i → w.category = 1) : ¬ Bad Ls i j := by
  rintro (⟨rfl, q⟩ | ⟨rfl, o, q, q'⟩)
  · obtain ⟨j0, v, e, h1, h2⟩ := wf.1 _ q
    obtain rfl : j0 = j := by omega
    cases h1.symm.trans hj
    rw [hw rfl] at h2; cases h2
  · have := wf.2 _ _ q q'
    cases this.symm.trans hj
theorem not_bad_second (wf : WFs fun i => Ls[i]?) (hj : Ls[j]? = some .second) (hne : j ≠ i + 1) : ¬ Bad Ls i j := by
  rintro (⟨rfl, q⟩ | ⟨q, -⟩)
  · obtain ⟨j0, v, e, h1, h2⟩ := wf.1 _ q
    obtain rfl : j0 = j := by omega
    cases h1.symm.trans hj
  · exact hne q
end St
theorem LR.store1 {ad : Nat → Addr} {L : List Slot} {Ls : Array Slot} (hL : LR ad L Ls) {i : Nat} (hi : i < L.length) {v : Value} (hv : v.category = 1) : ∃ Ls', storeLocals Ls i (rf ad v) = some Ls' ∧ LR ad (st1 L i v) Ls' ∧ Ls'.size = Ls.size := by
  obtain ⟨l1, l2, l3, wf⟩ := hL
  have hi' : i < Ls.size := l1 ▸ hi
  have hv' : (rf ad v).category = 1 := by rw [rf_cat]; exact hv
  obtain ⟨Ls1, ⟨p1, p2⟩, e⟩ := storeLocals_pre wf hi' (rf ad v)
  have hi1 : i < Ls1.size := by rw [p1]; exact hi'
  have e2 : storeSelf Ls1 i (rf ad v) = some (Ls1.setIfInBounds i (.val (rf ad v))) := by
    show (setAt Ls1 i _).bind _ = _
    rw [setAt_ok hi1]
    show (if (rf ad v).category = 2 then _ else _) = _
    rw [if_neg (by rw [hv']; decide)]
  have at_i : (Ls1.setIfInBounds i (.val (rf ad v)))[i]? = some (.val (rf ad v)) := by simp [hi1]
  have at_j : ∀ j, j ≠ i → (Ls1.setIfInBounds i (.val (rf ad v)))[j]? = Ls1[j]? := fun j hj => Array.getElem?_setIfInBounds_ne (Ne.symm hj)
  have good : ∀ j, j ≠ i → ¬ Bad Ls i j → (Ls1.setIfInBounds i (.val (rf ad v)))[j]? = Ls[j]? := fun j hj hb => by
    rw [at_j j hj]
    rcases p2 j hj with ⟨-, q⟩ | ⟨q, -⟩
    · exact q
    · exact absurd q hb
  have back : ∀ j s, j ≠ i → s ≠ .unset → (Ls1.setIfInBounds i (.val (rf ad v)))[j]? = some s → ¬ Bad Ls i j ∧ Ls[j]? = some s := fun j s hj hs h => by
    rw [at_j j hj] at h
    rcases p2 j hj with ⟨q, q'⟩ | ⟨-, q⟩
    · exact ⟨q, by rw [← q']; exact h⟩
    · rw [q] at h; cases h; exact absurd rfl hs
  refine ⟨_, e.trans e2, ⟨by rw [st1_len, l1]; simp [p1], fun j w hj => ?_, fun j hj => ?_, fun j hj => ?_, fun j w hj hc => ?_⟩, by simp [p1]⟩
  · by_cases q : j = i
    · subst q
      rw [st1_at v L j hi] at hj
      cases hj; exact at_i
    · obtain ⟨a1, a2, -⟩ := st1_else v L i j _ q hj (by simp)
      have b1 := l2 j w a1
      rw [good j q (not_bad_val wf b1 fun z => by rw [rf_cat]; exact a2 z w rfl)]; exact b1
  · by_cases q : j = i
    · subst q
      rw [st1_at v L j hi] at hj
      cases hj
    · obtain ⟨a1, -, a3⟩ := st1_else v L i j _ q hj (by simp)
      have b1 := l3 j a1
      rw [good j q (not_bad_second wf b1 fun z => a3 z rfl)]; exact b1
  · dsimp only at hj ⊢
    have q : j ≠ i := fun q => by subst q; rw [at_i] at hj; cases hj
    obtain ⟨b1, b2⟩ := back j _ q (by simp) hj
    obtain ⟨j0, v', rfl, h1, h2⟩ := wf.1 j b2
    refine ⟨j0, v', rfl, ?_, h2⟩
    have q0 : j0 ≠ i := fun z => b1 (Or.inr ⟨by omega, v', z ▸ h1, h2⟩)
    rw [good j0 q0 ?_]; exact h1
    rintro (⟨z, -⟩ | ⟨z, o, z1, z2⟩)
    · exact q z
    · have := wf.2 _ _ z1 z2
      rw [← z] at this
      cases this.symm.trans h1
  · dsimp only at hj ⊢
    have q : j ≠ i := fun q => by subst q; rw [at_i] at hj; cases hj; rw [hv'] at hc; cases hc
    obtain ⟨b1, b2⟩ := back j _ q (by simp) hj
    have h1 := wf.2 j w b2 hc
    dsimp only at h1
    have q0 : j + 1 ≠ i := fun z => b1 (Or.inl ⟨z, z ▸ h1⟩)
    rw [good (j + 1) q0 ?_]; exact h1
    rintro (⟨z, z1⟩ | ⟨z, -⟩)
    · obtain ⟨j1, v1, e1, e2, -⟩ := wf.1 _ z1
      obtain rfl : j1 = j + 1 := by omega
      cases h1.symm.trans e2
    · omega
theorem LR.store2 {ad : Nat → Addr} {L : List Slot} {Ls : Array Slot} (hL : LR ad L Ls) {i : Nat} (hi : i + 1 < L.length) {v : Value} (hv : v.category = 2) : ∃ Ls', storeLocals Ls i (rf ad v) = some Ls' ∧ LR ad (st2 L i v) Ls' ∧ Ls'.size = Ls.size := by
  obtain ⟨l1, l2, l3, wf⟩ := hL
  have hi' : i + 1 < Ls.size := l1 ▸ hi
  have hv' : (rf ad v).category = 2 := by rw [rf_cat]; exact hv
  obtain ⟨Ls1, ⟨p1, p2⟩, e⟩ := storeLocals_pre wf (by omega : i < Ls.size) (rf ad v)
  have hi1 : i < Ls1.size := by rw [p1]; omega
  have hi2 : i + 1 < Ls1.size := by rw [p1]; omega
  -- what the second half leaves: two slots, and the one behind wiped where a long began at i + 1
  have key : ∃ Ls', storeSelf Ls1 i (rf ad v) = some Ls' ∧ Ls'.size = Ls1.size ∧ Ls'[i]? = some (.val (rf ad v)) ∧ Ls'[i + 1]? = some .second ∧ ∀ j, j ≠ i → j ≠ i + 1 → (Ls'[j]? = Ls1[j]? ∧ ¬ (j = i + 2 ∧ ∃ o, Ls1[i + 1]? = some (.val o) ∧ o.category = 2)) ∨ (Ls'[j]? = some .unset ∧ j = i + 2 ∧ ∃ o, Ls1[i + 1]? = some (.val o) ∧ o.category = 2) := by
    have n1 : (Ls1.setIfInBounds i (.val (rf ad v)))[i + 1]? = Ls1[i + 1]? := Array.getElem?_setIfInBounds_ne (by omega)
    have g1 : Ls1[i + 1]? = some Ls1[i + 1] := Array.getElem?_eq_getElem hi2
    have open1 : storeSelf Ls1 i (rf ad v) = ((Ls1.setIfInBounds i (.val (rf ad v)))[i + 1]?).bind fun x => match x with
      | .val old => if old.category = 2 then (setAt (Ls1.setIfInBounds i (.val (rf ad v))) (i + 2) .unset).bind fun z => setAt z (i + 1) .second else setAt (Ls1.setIfInBounds i (.val (rf ad v))) (i + 1) .second
      | _ => setAt (Ls1.setIfInBounds i (.val (rf ad v))) (i + 1) .second := by
      show (setAt Ls1 i _).bind _ = _
      rw [setAt_ok hi1]
      show (if (rf ad v).category = 2 then _ else _) = _
      rw [if_pos hv']; rfl
    have plain : (∀ o, Ls1[i + 1]? = some (.val o) → o.category ≠ 2) → storeSelf Ls1 i (rf ad v) = setAt (Ls1.setIfInBounds i (.val (rf ad v))) (i + 1) .second := fun hno => by
      rw [open1, n1, g1]
      rcases hs : Ls1[i + 1] with _ | _ | old
      · rfl
      · rfl
      · show (if old.category = 2 then _ else _) = _
        rw [if_neg (hno old (by rw [g1, hs]))]
    have szz : i + 1 < (Ls1.setIfInBounds i (.val (rf ad v))).size := by simpa using hi2
    by_cases hb : ∃ o, Ls1[i + 1]? = some (.val o) ∧ o.category = 2
    · obtain ⟨o, ho, ho2⟩ := hb
      have b1 : Ls[i + 1]? = some (.val o) := by
        rcases p2 (i + 1) (by omega) with ⟨-, q⟩ | ⟨-, q⟩
        · rw [← q]; exact ho
        · rw [q] at ho; cases ho
      have h3 : i + 2 < Ls1.size := by rw [p1]; exact (Array.getElem?_eq_some_iff.mp (wf.2 _ _ b1 ho2)).1
      refine ⟨((Ls1.setIfInBounds i (.val (rf ad v))).setIfInBounds (i + 2) .unset).setIfInBounds (i + 1) .second, ?_, by simp, ?_, ?_, fun j hj hj' => ?_⟩
      · rw [open1, n1, ho]
        show (if o.category = 2 then _ else _) = _
        rw [if_pos ho2, setAt_ok (by simpa using h3)]
        show setAt _ (i + 1) .second = _
        rw [setAt_ok (by simpa using hi2)]
      · rw [Array.getElem?_setIfInBounds_ne (by omega), Array.getElem?_setIfInBounds_ne (by omega)]; simp [hi1]
      · simp [hi2]
      · rw [Array.getElem?_setIfInBounds_ne (by omega)]
        by_cases z : j = i + 2
        · subst z; right; exact ⟨by simp [h3], rfl, o, ho, ho2⟩
        · left; exact ⟨by rw [Array.getElem?_setIfInBounds_ne (by omega), Array.getElem?_setIfInBounds_ne (by omega)], fun q => z q.1⟩
    · refine ⟨(Ls1.setIfInBounds i (.val (rf ad v))).setIfInBounds (i + 1) .second, ?_, by simp, ?_, ?_, fun j hj hj' => Or.inl ⟨?_, fun q => hb q.2⟩⟩
      · rw [plain fun o ho q => hb ⟨o, ho, q⟩, setAt_ok szz]
      · rw [Array.getElem?_setIfInBounds_ne (by omega)]; simp [hi1]
      · simp [hi2]
      · rw [Array.getElem?_setIfInBounds_ne (by omega), Array.getElem?_setIfInBounds_ne (by omega)]
  obtain ⟨Ls', e2, sz, at_i, at_i1, at_j⟩ := key
  -- i + 1 seen from Ls
  have up : ∀ o, Ls1[i + 1]? = some (.val o) → Ls[i + 1]? = some (.val o) := fun o ho => by
    rcases p2 (i + 1) (by omega) with ⟨-, q⟩ | ⟨-, q⟩
    · rw [← q]; exact ho
    · rw [q] at ho; cases ho
  have good : ∀ j, j ≠ i → j ≠ i + 1 → ¬ Bad Ls i j → ¬ (j = i + 2 ∧ ∃ o, Ls[i + 1]? = some (.val o) ∧ o.category = 2) → Ls'[j]? = Ls[j]? := fun j hj hj' hb hb' => by
    rcases at_j j hj hj' with ⟨q, -⟩ | ⟨-, q1, o, q2, q3⟩
    · rw [q]
      rcases p2 j hj with ⟨-, q⟩ | ⟨q, -⟩
      · exact q
      · exact absurd q hb
    · exact absurd ⟨q1, o, up o q2, q3⟩ hb'
  have back : ∀ j s, j ≠ i → j ≠ i + 1 → s ≠ .unset → Ls'[j]? = some s → ¬ Bad Ls i j ∧ Ls[j]? = some s ∧ ¬ (j = i + 2 ∧ ∃ o, Ls1[i + 1]? = some (.val o) ∧ o.category = 2) := fun j s hj hj' hs h => by
    rcases at_j j hj hj' with ⟨q, q0⟩ | ⟨q, -⟩
    · rw [q] at h
      rcases p2 j hj with ⟨q1, q'⟩ | ⟨-, q'⟩
      · exact ⟨q1, by rw [← q']; exact h, q0⟩
      · rw [q'] at h; cases h; exact absurd rfl hs
    · rw [q] at h; cases h; exact absurd rfl hs
  have s2 := st2_at v L i hi
  refine ⟨_, e.trans e2, ⟨by rw [st2_len, l1, sz, p1], fun j w hj => ?_, fun j hj => ?_, fun j hj => ?_, fun j w hj hc => ?_⟩, by rw [sz, p1]⟩
  · by_cases q : j = i
    · subst q
      rw [s2.1] at hj
      cases hj; exact at_i
    · by_cases q1 : j = i + 1
      · subst q1; rw [s2.2] at hj; cases hj
      · obtain ⟨a1, a2, -⟩ := st2_else v L i j _ q q1 hj (by simp)
        have b1 := l2 j w a1
        rw [good j q q1 (not_bad_val wf b1 fun z => by rw [rf_cat]; exact a2 z w rfl) ?_]; exact b1
        rintro ⟨rfl, o, z1, z2⟩
        have := wf.2 _ _ z1 z2
        cases this.symm.trans b1
  · by_cases q : j = i
    · subst q
      rw [s2.1] at hj
      cases hj
    · by_cases q1 : j = i + 1
      · subst q1; exact at_i1
      · obtain ⟨a1, -, a3⟩ := st2_else v L i j _ q q1 hj (by simp)
        have b1 := l3 j a1
        rw [good j q q1 (not_bad_second wf b1 q1) fun z => a3 z.1 rfl]; exact b1
  · dsimp only at hj ⊢
    by_cases q1 : j = i + 1
    · subst q1; exact ⟨i, _, rfl, at_i, hv'⟩
    have q : j ≠ i := fun q => by subst q; rw [at_i] at hj; cases hj
    obtain ⟨b1, b2, b3⟩ := back j _ q q1 (by simp) hj
    obtain ⟨j0, v', rfl, h1, h2⟩ := wf.1 j b2
    dsimp only at h1
    have q0 : j0 ≠ i := fun z => b1 (Or.inr ⟨by omega, v', z ▸ h1, h2⟩)
    -- j0 = i + 1: then j = i + 2 was wiped
    have q0' : j0 ≠ i + 1 := fun z => by
      subst z
      rcases p2 (i + 1) (by omega) with ⟨-, w1⟩ | ⟨w1, -⟩
      · exact b3 ⟨rfl, v', by rw [w1]; exact h1, h2⟩
      · rcases w1 with ⟨w1, -⟩ | ⟨-, o, w1, w2⟩
        · omega
        · have := wf.2 _ _ w1 w2
          cases this.symm.trans h1
    refine ⟨j0, v', rfl, ?_, h2⟩
    rw [good j0 q0 q0' ?_ ?_]; exact h1
    · rintro (⟨z, -⟩ | ⟨z, -⟩)
      · exact q z
      · exact q0' z
    · rintro ⟨rfl, o, z1, z2⟩
      have := wf.2 _ _ z1 z2
      cases this.symm.trans h1
  · dsimp only at hj ⊢
    by_cases q1 : j = i
    · subst q1; exact at_i1
    have q : j ≠ i + 1 := fun q => by subst q; rw [at_i1] at hj; cases hj
    obtain ⟨b1, b2, -⟩ := back j _ q1 q (by simp) hj
    have h1 := wf.2 j w b2 hc
    dsimp only at h1
    have q0 : j + 1 ≠ i := fun z => b1 (Or.inl ⟨z, z ▸ h1⟩)
    rw [good (j + 1) q0 (by omega) ?_ ?_]; exact h1
    · rintro (⟨z, z1⟩ | ⟨z, -⟩)
      · obtain ⟨j1, v1, e1, e2, -⟩ := wf.1 _ z1
        obtain rfl : j1 = j + 1 := by omega
        cases h1.symm.trans e2
      · omega
    · rintro ⟨z, -⟩; omega
/-! what is known less of -/
def leL : List Slot → List Slot → Prop
  | [], [] => True
  | .unset :: a, _ :: b => leL a b
  | x :: a, y :: b => x = y ∧ leL a b
  | _, _ => False
theorem leL_len : ∀ {A B : List Slot}, leL A B → A.length = B.length
  | [], [], _ => rfl
  | .unset :: a, _ :: b, h => congrArg Nat.succ (leL_len (A := a) (B := b) h)
  | .second :: a, _ :: b, h => congrArg Nat.succ (leL_len (A := a) (B := b) h.2)
  | .val _ :: a, _ :: b, h => congrArg Nat.succ (leL_len (A := a) (B := b) h.2)
theorem leL_get : ∀ {A B : List Slot}, leL A B → ∀ {i : Nat} {s : Slot}, A[i]? = some s → s ≠ .unset → B[i]? = some s
  | [], [], _, i, s, h, _ => by simp at h
  | .unset :: a, _ :: b, _, 0, s, h, hs => by simp at h; exact absurd h.symm hs
  | .unset :: a, _ :: b, hl, i + 1, s, h, hs => by simpa using leL_get (A := a) (B := b) hl (by simpa using h) hs
  | .second :: a, _ :: b, hl, 0, s, h, hs => by simp at h; subst h; simp [← hl.1]
  | .second :: a, _ :: b, hl, i + 1, s, h, hs => by simpa using leL_get (A := a) (B := b) hl.2 (by simpa using h) hs
  | .val _ :: a, _ :: b, hl, 0, s, h, hs => by simp at h; subst h; simp [← hl.1]
  | .val _ :: a, _ :: b, hl, i + 1, s, h, hs => by simpa using leL_get (A := a) (B := b) hl.2 (by simpa using h) hs
theorem LR.weak {ad : Nat → Addr} {A B : List Slot} {Ls : Array Slot} (h : leL A B) (hL : LR ad B Ls) : LR ad A Ls :=
  ⟨(leL_len h).trans hL.1, fun i v q => hL.2.1 i v (leL_get h q (by simp)), fun i q => hL.2.2.1 i (leL_get h q (by simp)), hL.2.2.2⟩
theorem wf_cons {x : Slot} {M : List Slot} (hx : x = .unset ∨ ∃ v, x = .val v ∧ v.category = 1) (h : WFs fun i => M[i]?) : WFs fun i => (x :: M)[i]? := by
  refine ⟨fun i hi => ?_, fun i v hi hc => ?_⟩
  · cases i with
    | zero => rcases hx with rfl | ⟨v, rfl, -⟩ <;> (simp at hi)
    | succ i =>
      obtain ⟨j, v, rfl, h1, h2⟩ := h.1 i (by simpa using hi)
      exact ⟨j + 1, v, rfl, by simpa using h1, h2⟩
  · cases i with
    | zero =>
      rcases hx with rfl | ⟨w, rfl, hw⟩
      · simp at hi
      · simp at hi; subst hi; rw [hw] at hc; cases hc
    | succ i => simpa using h.2 i v (by simpa using hi) hc
theorem wf_cons2 {w : Value} {M : List Slot} (hw : w.category = 2) (h : WFs fun i => M[i]?) : WFs fun i => (.val w :: .second :: M)[i]? := by
  refine ⟨fun i hi => ?_, fun i v hi hc => ?_⟩
  · match i, hi with
    | 0, hi => simp at hi
    | 1, _ => exact ⟨0, w, rfl, rfl, hw⟩
    | i + 2, hi =>
      obtain ⟨j, v, rfl, h1, h2⟩ := h.1 i (by simpa using hi)
      exact ⟨j + 2, v, rfl, by simpa using h1, h2⟩
  · match i, hi with
    | 0, _ => rfl
    | 1, hi => simp at hi
    | i + 2, hi => simpa using h.2 i v (by simpa using hi) hc
/-- the local variables at the entry -/
def laid : List Value → List Slot
  | [] => []
  | v :: vs => if v.category = 2 then .val v :: .second :: laid vs else .val v :: laid vs
def entL (as : List Value) (n : Nat) : List Slot := laid as ++ List.replicate (n - (laid as).length) Slot.unset
theorem laid_rel (ad : Nat → Addr) (k : Nat) : ∀ as : List Value, (laid as ++ List.replicate k Slot.unset).length = (laid (as.map (rf ad)) ++ List.replicate k Slot.unset).length ∧ (∀ (i : Nat) (v : Value), (laid as ++ List.replicate k Slot.unset)[i]? = some (.val v) → (laid (as.map (rf ad)) ++ List.replicate k Slot.unset)[i]? = some (.val (rf ad v))) ∧
    (∀ i : Nat, (laid as ++ List.replicate k Slot.unset)[i]? = some .second → (laid (as.map (rf ad)) ++ List.replicate k Slot.unset)[i]? = some .second) ∧ WFs fun i => (laid (as.map (rf ad)) ++ List.replicate k Slot.unset)[i]?
  | [] => by
    refine ⟨rfl, fun i v h => ?_, fun i h => h, fun i h => ?_, fun i v h => ?_⟩
    · simp [laid, List.getElem?_replicate] at h
    · simp [laid, List.getElem?_replicate] at h
    · simp [laid, List.getElem?_replicate] at h
  | v :: vs => by
    obtain ⟨a1, a2, a3, a4⟩ := laid_rel ad k vs
    have hc : (rf ad v).category = v.category := rf_cat ad v
    by_cases h : v.category = 2
    · have e1 : laid (v :: vs) = .val v :: .second :: laid vs := if_pos h
      have e2 : laid ((v :: vs).map (rf ad)) = .val (rf ad v) :: .second :: laid (vs.map (rf ad)) := if_pos (hc.trans h)
      rw [e1, e2]
      refine ⟨by simpa using a1, fun i w hi => ?_, fun i hi => ?_, wf_cons2 (hc.trans h) a4⟩
      · match i, hi with
        | 0, hi => simp at hi; subst hi; rfl
        | 1, hi => simp at hi
        | i + 2, hi => simpa using a2 i w (by simpa using hi)
      · match i, hi with
        | 0, hi => simp at hi
        | 1, hi => rfl
        | i + 2, hi => simpa using a3 i (by simpa using hi)
    · have e1 : laid (v :: vs) = .val v :: laid vs := if_neg h
      have e2 : laid ((v :: vs).map (rf ad)) = .val (rf ad v) :: laid (vs.map (rf ad)) := if_neg (by rw [hc]; exact h)
      have h1 : (rf ad v).category = 1 := by
        rw [hc]; cases v <;> first | rfl | exact absurd rfl h
      rw [e1, e2]
      refine ⟨by simpa using a1, fun i w hi => ?_, fun i hi => ?_, wf_cons (Or.inr ⟨_, rfl, h1⟩) a4⟩
      · match i, hi with
        | 0, hi => simp at hi; subst hi; rfl
        | i + 1, hi => simpa using a2 i w (by simpa using hi)
      · match i, hi with
        | 0, hi => simp at hi
        | i + 1, hi => simpa using a3 i (by simpa using hi)
theorem laid_foldl : ∀ (as : List Value) (acc : Array Slot), (as.foldl (fun acc v => if v.category = 2 then (acc.push (.val v)).push .second else acc.push (.val v)) acc).toList = acc.toList ++ laid as
  | [], acc => by simp [laid]
  | v :: vs, acc => by
    show (List.foldl _ (if v.category = 2 then (acc.push (.val v)).push .second else acc.push (.val v)) vs : Array Slot).toList = _
    rw [laid_foldl vs]
    by_cases h : v.category = 2
    · rw [if_pos h, show laid (v :: vs) = .val v :: .second :: laid vs from if_pos h]; simp
    · rw [if_neg h, show laid (v :: vs) = .val v :: laid vs from if_neg h]; simp
theorem laid_map_len (ad : Nat → Addr) (as : List Value) : (laid (as.map (rf ad))).length = (laid as).length := by
  have := (laid_rel ad 0 as).1
  simpa using this.symm
theorem entry_LR (ad : Nat → Addr) (as : List Value) (n : Nat) (hn : (laid as).length ≤ n) : LR ad (entL as n) (argsToLocals (as.map (rf ad)).toArray n) ∧ (argsToLocals (as.map (rf ad)).toArray n).size = n := by
  have e : (argsToLocals (as.map (rf ad)).toArray n).toList = laid (as.map (rf ad)) ++ List.replicate (n - (laid as).length) Slot.unset := by
    have e1 := laid_foldl (as.map (rf ad)) #[]
    have e2 : ((as.map (rf ad)).toArray.foldl (fun acc v => if v.category = 2 then (acc.push (.val v)).push .second else acc.push (.val v)) #[] : Array Slot).toList = laid (as.map (rf ad)) := by
      rw [List.foldl_toArray']
      · rw [e1]; rfl
      · rfl
    have e3 : ((as.map (rf ad)).toArray.foldl (fun acc v => if v.category = 2 then (acc.push (.val v)).push .second else acc.push (.val v)) #[] : Array Slot).size = (laid as).length := by
      rw [← Array.length_toList, e2, laid_map_len]
    show (_ ++ Array.replicate (n - _) Slot.unset).toList = _
    rw [Array.toList_append, e2, Array.toList_replicate, e3]
  obtain ⟨a1, a2, a3, a4⟩ := laid_rel ad (n - (laid as).length) as
  have g : ∀ i : Nat, (argsToLocals (as.map (rf ad)).toArray n)[i]? = (laid (as.map (rf ad)) ++ List.replicate (n - (laid as).length) Slot.unset)[i]? := fun i => by rw [← e, Array.getElem?_toList]
  have sz : (argsToLocals (as.map (rf ad)).toArray n).size = (laid (as.map (rf ad)) ++ List.replicate (n - (laid as).length) Slot.unset).length := by rw [← e, Array.length_toList]
  refine ⟨⟨by rw [sz]; exact a1, fun i v h => by rw [g]; exact a2 i v h, fun i h => by rw [g]; exact a3 i h, ?_⟩, by rw [sz, ← a1]; simp; omega⟩
  have : (fun i => (argsToLocals (as.map (rf ad)).toArray n)[i]?) = fun i => (laid (as.map (rf ad)) ++ List.replicate (n - (laid as).length) Slot.unset)[i]? := funext g
  rw [this]; exact a4
/-! ## reading and writing a list as Java does an array -/
def rd {α : Type} (xs : List α) (i : Int32) : Option α := if i < 0 then none else xs[i.toNatClampNeg]?
def wr {α : Type} (xs : List α) (i : Int32) (x : α) : Option (List α) := if i < 0 then none else if i.toNatClampNeg < xs.length then some (xs.set i.toNatClampNeg x) else none
theorem rd_slots {α : Type} {f : α → Value} {sl : Array Value} {xs : List α} (h : sl.toList = xs.map f) {j : Int32} {x : α} (hx : rd xs j = some x) : ¬ (j < 0 ∨ sl.size ≤ j.toNatClampNeg) ∧ sl[j.toNatClampNeg]? = some (f x) := by
  unfold rd at hx
  by_cases hj : j < 0
  · rw [if_pos hj] at hx; cases hx
  · rw [if_neg hj] at hx
    have h1 : sl[j.toNatClampNeg]? = some (f x) := by rw [← Array.getElem?_toList, h, List.getElem?_map, hx]; rfl
    exact ⟨fun q => q.elim hj fun q => absurd (Array.getElem?_eq_some_iff.mp h1).1 (Nat.not_lt.mpr q), h1⟩
theorem wr_slots {α : Type} {f : α → Value} {cl : Cell} {xs xs' : List α} (h : cl.slots.toList = xs.map f) {j : Int32} {x : α} (hx : wr xs j x = some xs') : ¬ (j < 0 ∨ cl.slots.size ≤ j.toNatClampNeg) ∧ (cl.setSlot j.toNatClampNeg (f x)).slots.toList = xs'.map f := by
  unfold wr at hx
  by_cases hj : j < 0
  · rw [if_pos hj] at hx; cases hx
  · rw [if_neg hj] at hx
    by_cases hl : j.toNatClampNeg < xs.length
    · rw [if_pos hl] at hx; cases hx
      have sz : cl.slots.size = xs.length := by rw [← Array.length_toList, h, List.length_map]
      refine ⟨fun q => q.elim hj fun q => by omega, ?_⟩
      show (cl.slots.setIfInBounds _ _).toList = _
      rw [Array.toList_setIfInBounds, h, List.map_set]
    · rw [if_neg hl] at hx; cases hx
/-! ## the walk's promise, said of the small view -/
def Am (Z : State) (own mn : String) (bytes : ByteArray) (maxL : Nat) (ret : Option FieldType) (p : Program) (s : State) (m : MethodId) (meth : Method) (c : Code) : Prop :=
  p.tables.exec = Jvm.exec ∧ Z.Warmed39 s.vm ∧ c.code = bytes ∧ c.maxLocals = maxL ∧ meth.sig.returnType = ret ∧ meth.locks = false ∧ s.vm.findClass own = some m.cls ∧ meth.name = mn
def WP (l : Launch) (Z : State) (C : String) (lay : List (String × String)) (own mn : String) (bytes : ByteArray) (maxL : Nat) (ret : Option FieldType) (R : Room) (n0 ro : Nat) (Q : Option Value → List OwnC → Prop) (k n pc : Nat) (L : List Slot) (S : List Value) (H : List OwnC) : Prop :=
  ∀ (p : Program) (e : Env) (s : State) (m : MethodId) (args : Array Value) (below : List Frame) (meth : Method) (c : Code) (T : State) (locs : List Loc) (ad : Nat → Addr) (Ls : Array Slot),
    Stand p l e R s m args below meth c T locs k n → Am Z own mn bytes maxL ret p s m meth c → HR Z C lay n0 ro ad H T.heap → Fr n0 locs → LR ad L Ls → Ls.size = maxL →
    ∃ (s₂ : State) (v : Option Value) (H' : List OwnC) (locs' : List Loc),
      Steps p.tables e below (T.setTop (mkF m pc Ls (S.map (rf ad)))) s₂ ∧ s₂.status = .running ∧ Ended s₂ below (.returned (v.map (rf ad))) ∧ Q v H' ∧ HR Z C lay n0 ro ad H' s₂.heap ∧ Kp ad H.length T.heap s₂.heap ∧ Fr n0 locs' ∧ FrameEnd s (.returned (v.map (rf ad))) s₂ locs' R.cells R.slots
section Rules
variable {l : Launch} {Z : State} {a0 : Array Value} {C : String} {lay : List (String × String)} {own mn : String} {bytes : ByteArray} {maxL : Nat} {ret : Option FieldType} {R : Room} {n0 ro : Nat} {Q : Option Value → List OwnC → Prop} {k n pc pc' : Nat} {L L' : List Slot} {S S' : List Value} {H H' : List OwnC}
theorem WP.weak (h : leL L' L) (nx : WP l Z C lay own mn bytes maxL ret R n0 ro Q k n pc L' S H) : WP l Z C lay own mn bytes maxL ret R n0 ro Q k n pc L S H :=
  fun p e s m args below meth c T locs ad Ls X A hr N hL hz => nx p e s m args below meth c T locs ad Ls X A hr N (LR.weak h hL) hz
theorem WP.of (hs : ∀ (p : Program) (e : Env) (s : State) (m : MethodId) (args : Array Value) (below : List Frame) (meth : Method) (c : Code) (T : State) (locs : List Loc) (ad : Nat → Addr) (Ls : Array Slot), Stand p l e R s m args below meth c T locs k n → Am Z own mn bytes maxL ret p s m meth c → LR ad L Ls → Ls.size = maxL →
      ∃ Ls', LR ad L' Ls' ∧ Ls'.size = maxL ∧ ∀ t, Steps p.tables e below (T.setTop (mkF m pc' Ls' (S'.map (rf ad)))) t → Steps p.tables e below (T.setTop (mkF m pc Ls (S.map (rf ad)))) t)
    (nx : WP l Z C lay own mn bytes maxL ret R n0 ro Q k n pc' L' S' H) : WP l Z C lay own mn bytes maxL ret R n0 ro Q k n pc L S H := by
  intro p e s m args below meth c T locs ad Ls X A hr N hL hz
  obtain ⟨Ls', hL', hz', st⟩ := hs p e s m args below meth c T locs ad Ls X A hL hz
  obtain ⟨s₂, v, H', locs', h1, h2⟩ := nx p e s m args below meth c T locs ad Ls' X A hr N hL' hz'
  exact ⟨s₂, v, H', locs', st _ h1, h2⟩
theorem WP.iload {j : Nat} {x : Int32} (hd : decode bytes pc = .ok (.iload j, 2)) (hl : L[j]? = some (.val (.int x))) (nx : WP l Z C lay own mn bytes maxL ret R n0 ro Q k n (pc + 2) L (.int x :: S) H) : WP l Z C lay own mn bytes maxL ret R n0 ro Q k n pc L (S) H :=
  WP.of (fun p e s m args below meth c T locs ad Ls X A hL hz => ⟨Ls, hL, hz, fun t ht => XS.iload X.here A.1 rfl (hb A.2.2.1 hd) (hL.2.1 _ _ hl) ht⟩) nx
theorem WP.iloadN {j : Fin 4} {x : Int32} (hd : decode bytes pc = .ok (.iload_n j, 1)) (hl : L[j.val]? = some (.val (.int x))) (nx : WP l Z C lay own mn bytes maxL ret R n0 ro Q k n (pc + 1) L (.int x :: S) H) : WP l Z C lay own mn bytes maxL ret R n0 ro Q k n pc L (S) H :=
  WP.of (fun p e s m args below meth c T locs ad Ls X A hL hz => ⟨Ls, hL, hz, fun t ht => XS.iloadN X.here A.1 rfl (hb A.2.2.1 hd) (hL.2.1 _ _ hl) ht⟩) nx
theorem WP.lload {j : Nat} {x : Int64} (hd : decode bytes pc = .ok (.lload j, 2)) (hl : L[j]? = some (.val (.long x))) (nx : WP l Z C lay own mn bytes maxL ret R n0 ro Q k n (pc + 2) L (.long x :: S) H) : WP l Z C lay own mn bytes maxL ret R n0 ro Q k n pc L (S) H :=
  WP.of (fun p e s m args below meth c T locs ad Ls X A hL hz => ⟨Ls, hL, hz, fun t ht => XT.lload X.here A.1 rfl (hb A.2.2.1 hd) (hL.2.1 _ _ hl) ht⟩) nx
theorem WP.lloadN {j : Fin 4} {x : Int64} (hd : decode bytes pc = .ok (.lload_n j, 1)) (hl : L[j.val]? = some (.val (.long x))) (nx : WP l Z C lay own mn bytes maxL ret R n0 ro Q k n (pc + 1) L (.long x :: S) H) : WP l Z C lay own mn bytes maxL ret R n0 ro Q k n pc L (S) H :=
  WP.of (fun p e s m args below meth c T locs ad Ls X A hL hz => ⟨Ls, hL, hz, fun t ht => XT.lloadN X.here A.1 rfl (hb A.2.2.1 hd) (hL.2.1 _ _ hl) ht⟩) nx
theorem WP.aload {j : Nat} {i : Nat} (hd : decode bytes pc = .ok (.aload j, 2)) (hl : L[j]? = some (.val (.ref i))) (nx : WP l Z C lay own mn bytes maxL ret R n0 ro Q k n (pc + 2) L (.ref i :: S) H) : WP l Z C lay own mn bytes maxL ret R n0 ro Q k n pc L (S) H :=
  WP.of (fun p e s m args below meth c T locs ad Ls X A hL hz => ⟨Ls, hL, hz, fun t ht => XS.aload X.here A.1 rfl (hb A.2.2.1 hd) (hL.2.1 _ _ hl) rfl ht⟩) nx
theorem WP.aloadN {j : Fin 4} {i : Nat} (hd : decode bytes pc = .ok (.aload_n j, 1)) (hl : L[j.val]? = some (.val (.ref i))) (nx : WP l Z C lay own mn bytes maxL ret R n0 ro Q k n (pc + 1) L (.ref i :: S) H) : WP l Z C lay own mn bytes maxL ret R n0 ro Q k n pc L (S) H :=
  WP.of (fun p e s m args below meth c T locs ad Ls X A hL hz => ⟨Ls, hL, hz, fun t ht => XS.aloadN X.here A.1 rfl (hb A.2.2.1 hd) (hL.2.1 _ _ hl) rfl ht⟩) nx
theorem WP.iconst {i : Int} (v : Int32) (hd : decode bytes pc = .ok (.iconst i, 1)) (hv : Int32.ofInt i = v) (nx : WP l Z C lay own mn bytes maxL ret R n0 ro Q k n (pc + 1) L (.int v :: S) H) : WP l Z C lay own mn bytes maxL ret R n0 ro Q k n pc L (S) H :=
  WP.of (fun p e s m args below meth c T locs ad Ls X A hL hz => ⟨Ls, hL, hz, fun t ht => XS.iconst X.here A.1 rfl (hb A.2.2.1 hd) (by rw [hv]; exact ht)⟩) nx
theorem WP.bipush {i : Int} (v : Int32) (hd : decode bytes pc = .ok (.bipush i, 2)) (hv : (Int8.ofInt i).toInt32 = v) (nx : WP l Z C lay own mn bytes maxL ret R n0 ro Q k n (pc + 2) L (.int v :: S) H) : WP l Z C lay own mn bytes maxL ret R n0 ro Q k n pc L (S) H :=
  WP.of (fun p e s m args below meth c T locs ad Ls X A hL hz => ⟨Ls, hL, hz, fun t ht => XS.bipush X.here A.1 rfl (hb A.2.2.1 hd) (by rw [hv]; exact ht)⟩) nx
theorem WP.sipush {i : Int} (v : Int32) (hd : decode bytes pc = .ok (.sipush i, 3)) (hv : (Int16.ofInt i).toInt32 = v) (nx : WP l Z C lay own mn bytes maxL ret R n0 ro Q k n (pc + 3) L (.int v :: S) H) : WP l Z C lay own mn bytes maxL ret R n0 ro Q k n pc L (S) H :=
  WP.of (fun p e s m args below meth c T locs ad Ls X A hL hz => ⟨Ls, hL, hz, fun t ht => XS.sipush X.here A.1 rfl (hb A.2.2.1 hd) (by rw [hv]; exact ht)⟩) nx
theorem WP.lconst {j : Fin 2} (v : Int64) (hd : decode bytes pc = .ok (.lconst j, 1)) (hv : Int64.ofNat j = v) (nx : WP l Z C lay own mn bytes maxL ret R n0 ro Q k n (pc + 1) L (.long v :: S) H) : WP l Z C lay own mn bytes maxL ret R n0 ro Q k n pc L (S) H :=
  WP.of (fun p e s m args below meth c T locs ad Ls X A hL hz => ⟨Ls, hL, hz, fun t ht => XT.lconst X.here A.1 rfl (hb A.2.2.1 hd) (by rw [hv]; exact ht)⟩) nx
theorem WP.ldc {idx : Nat} {v : Int32} (hd : decode bytes pc = .ok (.ldc idx, 2)) (hw : (Cond.constant own idx v).before a0 Z = true) (nx : WP l Z C lay own mn bytes maxL ret R n0 ro Q k n (pc + 2) L (.int v :: S) H) : WP l Z C lay own mn bytes maxL ret R n0 ro Q k n pc L (S) H :=
  WP.of (fun p e s m args below meth c T locs ad Ls X A hL hz => ⟨Ls, hL, hz, fun t ht => X.ldcInt A.1 A.2.2.2.2.2.2.1 (mvT A.2.1 hw) (g := mkF m pc Ls (S.map (rf ad))) rfl (hb A.2.2.1 hd) t ht⟩) nx
theorem WP.ldcw {idx : Nat} {v : Int32} (hd : decode bytes pc = .ok (.ldc_w idx, 3)) (hw : (Cond.constant own idx v).before a0 Z = true) (nx : WP l Z C lay own mn bytes maxL ret R n0 ro Q k n (pc + 3) L (.int v :: S) H) : WP l Z C lay own mn bytes maxL ret R n0 ro Q k n pc L (S) H :=
  WP.of (fun p e s m args below meth c T locs ad Ls X A hL hz => ⟨Ls, hL, hz, fun t ht => X.ldcwInt A.1 A.2.2.2.2.2.2.1 (mvT A.2.1 hw) (g := mkF m pc Ls (S.map (rf ad))) rfl (hb A.2.2.1 hd) t ht⟩) nx
theorem WP.ldc2 {idx : Nat} {v : Int64} (hd : decode bytes pc = .ok (.ldc2_w idx, 3)) (hw : (Cond.constantLong own idx v).before a0 Z = true) (nx : WP l Z C lay own mn bytes maxL ret R n0 ro Q k n (pc + 3) L (.long v :: S) H) : WP l Z C lay own mn bytes maxL ret R n0 ro Q k n pc L (S) H :=
  WP.of (fun p e s m args below meth c T locs ad Ls X A hL hz => ⟨Ls, hL, hz, fun t ht => X.ldc2Long A.1 A.2.2.2.2.2.2.1 (mvT A.2.1 hw) (g := mkF m pc Ls (S.map (rf ad))) rfl (hb A.2.2.1 hd) t ht⟩) nx
theorem WP.iadd {x y : Int32} (hd : decode bytes pc = .ok (.iadd, 1)) (nx : WP l Z C lay own mn bytes maxL ret R n0 ro Q k n (pc + 1) L (.int (x + y) :: S) H) : WP l Z C lay own mn bytes maxL ret R n0 ro Q k n pc L (.int y :: .int x :: S) H :=
  WP.of (fun p e s m args below meth c T locs ad Ls X A hL hz => ⟨Ls, hL, hz, fun t ht => XS.iadd X.here A.1 rfl (hb A.2.2.1 hd) rfl ht⟩) nx
theorem WP.ladd {x y : Int64} (hd : decode bytes pc = .ok (.ladd, 1)) (nx : WP l Z C lay own mn bytes maxL ret R n0 ro Q k n (pc + 1) L (.long (x + y) :: S) H) : WP l Z C lay own mn bytes maxL ret R n0 ro Q k n pc L (.long y :: .long x :: S) H :=
  WP.of (fun p e s m args below meth c T locs ad Ls X A hL hz => ⟨Ls, hL, hz, fun t ht => XT.ladd X.here A.1 rfl (hb A.2.2.1 hd) rfl ht⟩) nx
theorem WP.isub {x y : Int32} (hd : decode bytes pc = .ok (.isub, 1)) (nx : WP l Z C lay own mn bytes maxL ret R n0 ro Q k n (pc + 1) L (.int (x - y) :: S) H) : WP l Z C lay own mn bytes maxL ret R n0 ro Q k n pc L (.int y :: .int x :: S) H :=
  WP.of (fun p e s m args below meth c T locs ad Ls X A hL hz => ⟨Ls, hL, hz, fun t ht => XS.isub X.here A.1 rfl (hb A.2.2.1 hd) rfl ht⟩) nx
theorem WP.lsub {x y : Int64} (hd : decode bytes pc = .ok (.lsub, 1)) (nx : WP l Z C lay own mn bytes maxL ret R n0 ro Q k n (pc + 1) L (.long (x - y) :: S) H) : WP l Z C lay own mn bytes maxL ret R n0 ro Q k n pc L (.long y :: .long x :: S) H :=
  WP.of (fun p e s m args below meth c T locs ad Ls X A hL hz => ⟨Ls, hL, hz, fun t ht => XT.lsub X.here A.1 rfl (hb A.2.2.1 hd) rfl ht⟩) nx
theorem WP.imul {x y : Int32} (hd : decode bytes pc = .ok (.imul, 1)) (nx : WP l Z C lay own mn bytes maxL ret R n0 ro Q k n (pc + 1) L (.int (x * y) :: S) H) : WP l Z C lay own mn bytes maxL ret R n0 ro Q k n pc L (.int y :: .int x :: S) H :=
  WP.of (fun p e s m args below meth c T locs ad Ls X A hL hz => ⟨Ls, hL, hz, fun t ht => XS.imul X.here A.1 rfl (hb A.2.2.1 hd) rfl ht⟩) nx
theorem WP.lmul {x y : Int64} (hd : decode bytes pc = .ok (.lmul, 1)) (nx : WP l Z C lay own mn bytes maxL ret R n0 ro Q k n (pc + 1) L (.long (x * y) :: S) H) : WP l Z C lay own mn bytes maxL ret R n0 ro Q k n pc L (.long y :: .long x :: S) H :=
  WP.of (fun p e s m args below meth c T locs ad Ls X A hL hz => ⟨Ls, hL, hz, fun t ht => XT.lmul X.here A.1 rfl (hb A.2.2.1 hd) rfl ht⟩) nx
theorem WP.iand {x y : Int32} (hd : decode bytes pc = .ok (.iand, 1)) (nx : WP l Z C lay own mn bytes maxL ret R n0 ro Q k n (pc + 1) L (.int (x &&& y) :: S) H) : WP l Z C lay own mn bytes maxL ret R n0 ro Q k n pc L (.int y :: .int x :: S) H :=
  WP.of (fun p e s m args below meth c T locs ad Ls X A hL hz => ⟨Ls, hL, hz, fun t ht => XS.iand X.here A.1 rfl (hb A.2.2.1 hd) rfl ht⟩) nx
theorem WP.land {x y : Int64} (hd : decode bytes pc = .ok (.land, 1)) (nx : WP l Z C lay own mn bytes maxL ret R n0 ro Q k n (pc + 1) L (.long (x &&& y) :: S) H) : WP l Z C lay own mn bytes maxL ret R n0 ro Q k n pc L (.long y :: .long x :: S) H :=
  WP.of (fun p e s m args below meth c T locs ad Ls X A hL hz => ⟨Ls, hL, hz, fun t ht => XT.land X.here A.1 rfl (hb A.2.2.1 hd) rfl ht⟩) nx
theorem WP.ior {x y : Int32} (hd : decode bytes pc = .ok (.ior, 1)) (nx : WP l Z C lay own mn bytes maxL ret R n0 ro Q k n (pc + 1) L (.int (x ||| y) :: S) H) : WP l Z C lay own mn bytes maxL ret R n0 ro Q k n pc L (.int y :: .int x :: S) H :=
  WP.of (fun p e s m args below meth c T locs ad Ls X A hL hz => ⟨Ls, hL, hz, fun t ht => XT.ior X.here A.1 rfl (hb A.2.2.1 hd) rfl ht⟩) nx
theorem WP.lor {x y : Int64} (hd : decode bytes pc = .ok (.lor, 1)) (nx : WP l Z C lay own mn bytes maxL ret R n0 ro Q k n (pc + 1) L (.long (x ||| y) :: S) H) : WP l Z C lay own mn bytes maxL ret R n0 ro Q k n pc L (.long y :: .long x :: S) H :=
  WP.of (fun p e s m args below meth c T locs ad Ls X A hL hz => ⟨Ls, hL, hz, fun t ht => XT.lor X.here A.1 rfl (hb A.2.2.1 hd) rfl ht⟩) nx
theorem WP.ixor {x y : Int32} (hd : decode bytes pc = .ok (.ixor, 1)) (nx : WP l Z C lay own mn bytes maxL ret R n0 ro Q k n (pc + 1) L (.int (x ^^^ y) :: S) H) : WP l Z C lay own mn bytes maxL ret R n0 ro Q k n pc L (.int y :: .int x :: S) H :=
  WP.of (fun p e s m args below meth c T locs ad Ls X A hL hz => ⟨Ls, hL, hz, fun t ht => XT.ixor X.here A.1 rfl (hb A.2.2.1 hd) rfl ht⟩) nx
theorem WP.lxor {x y : Int64} (hd : decode bytes pc = .ok (.lxor, 1)) (nx : WP l Z C lay own mn bytes maxL ret R n0 ro Q k n (pc + 1) L (.long (x ^^^ y) :: S) H) : WP l Z C lay own mn bytes maxL ret R n0 ro Q k n pc L (.long y :: .long x :: S) H :=
  WP.of (fun p e s m args below meth c T locs ad Ls X A hL hz => ⟨Ls, hL, hz, fun t ht => XT.lxor X.here A.1 rfl (hb A.2.2.1 hd) rfl ht⟩) nx
theorem WP.idiv {x y : Int32} (hd : decode bytes pc = .ok (.idiv, 1)) (hy : ¬ y = 0) (nx : WP l Z C lay own mn bytes maxL ret R n0 ro Q k n (pc + 1) L (.int (x / y) :: S) H) : WP l Z C lay own mn bytes maxL ret R n0 ro Q k n pc L (.int y :: .int x :: S) H :=
  WP.of (fun p e s m args below meth c T locs ad Ls X A hL hz => ⟨Ls, hL, hz, fun t ht => XS.idiv X.here A.1 rfl (hb A.2.2.1 hd) rfl hy ht⟩) nx
theorem WP.irem {x y : Int32} (hd : decode bytes pc = .ok (.irem, 1)) (hy : ¬ y = 0) (nx : WP l Z C lay own mn bytes maxL ret R n0 ro Q k n (pc + 1) L (.int (x % y) :: S) H) : WP l Z C lay own mn bytes maxL ret R n0 ro Q k n pc L (.int y :: .int x :: S) H :=
  WP.of (fun p e s m args below meth c T locs ad Ls X A hL hz => ⟨Ls, hL, hz, fun t ht => iremM X A.1 rfl (hb A.2.2.1 hd) rfl hy ht⟩) nx
theorem WP.ldiv {x y : Int64} (hd : decode bytes pc = .ok (.ldiv, 1)) (hy : ¬ y = 0) (nx : WP l Z C lay own mn bytes maxL ret R n0 ro Q k n (pc + 1) L (.long (x / y) :: S) H) : WP l Z C lay own mn bytes maxL ret R n0 ro Q k n pc L (.long y :: .long x :: S) H :=
  WP.of (fun p e s m args below meth c T locs ad Ls X A hL hz => ⟨Ls, hL, hz, fun t ht => XT.ldiv X.here A.1 rfl (hb A.2.2.1 hd) rfl hy ht⟩) nx
theorem lrem_mod (x y : Int64) : x - (x / y) * y = x % y := by
  apply Int64.toInt_inj.mp
  have h1 := Int64.le_toInt (x % y)
  have h2 := Int64.toInt_lt (x % y)
  rw [Int64.toInt_sub, Int64.toInt_mul, Int64.toInt_div, Int.bmod_mul_bmod, Int.sub_bmod_bmod, Int.mul_comm (x.toInt.tdiv y.toInt), ← Int.tmod_def, ← Int64.toInt_mod]
  exact Int.bmod_eq_of_le_mul_two (by omega) (by omega)
theorem WP.lrem {x y : Int64} (hd : decode bytes pc = .ok (.lrem, 1)) (hy : ¬ y = 0) (nx : WP l Z C lay own mn bytes maxL ret R n0 ro Q k n (pc + 1) L (.long (x % y) :: S) H) : WP l Z C lay own mn bytes maxL ret R n0 ro Q k n pc L (.long y :: .long x :: S) H :=
  WP.of (fun p e s m args below meth c T locs ad Ls X A hL hz => ⟨Ls, hL, hz, fun t ht => XT.lrem X.here A.1 rfl (hb A.2.2.1 hd) rfl hy (by rw [lrem_mod]; exact ht)⟩) nx
theorem WP.ishl {x y : Int32} (hd : decode bytes pc = .ok (.ishl, 1)) (nx : WP l Z C lay own mn bytes maxL ret R n0 ro Q k n (pc + 1) L (.int (x <<< (y &&& 31)) :: S) H) : WP l Z C lay own mn bytes maxL ret R n0 ro Q k n pc L (.int y :: .int x :: S) H :=
  WP.of (fun p e s m args below meth c T locs ad Ls X A hL hz => ⟨Ls, hL, hz, fun t ht => XT.ishl X.here A.1 rfl (hb A.2.2.1 hd) rfl ht⟩) nx
theorem WP.ishr {x y : Int32} (hd : decode bytes pc = .ok (.ishr, 1)) (nx : WP l Z C lay own mn bytes maxL ret R n0 ro Q k n (pc + 1) L (.int (x >>> (y &&& 31)) :: S) H) : WP l Z C lay own mn bytes maxL ret R n0 ro Q k n pc L (.int y :: .int x :: S) H :=
  WP.of (fun p e s m args below meth c T locs ad Ls X A hL hz => ⟨Ls, hL, hz, fun t ht => XT.ishr X.here A.1 rfl (hb A.2.2.1 hd) rfl ht⟩) nx
theorem WP.iushr {x y : Int32} (hd : decode bytes pc = .ok (.iushr, 1)) (nx : WP l Z C lay own mn bytes maxL ret R n0 ro Q k n (pc + 1) L (.int (XT.ushr x y) :: S) H) : WP l Z C lay own mn bytes maxL ret R n0 ro Q k n pc L (.int y :: .int x :: S) H :=
  WP.of (fun p e s m args below meth c T locs ad Ls X A hL hz => ⟨Ls, hL, hz, fun t ht => XT.iushr X.here A.1 rfl (hb A.2.2.1 hd) rfl ht⟩) nx
theorem WP.lshl {x : Int64} {y : Int32} (hd : decode bytes pc = .ok (.lshl, 1)) (nx : WP l Z C lay own mn bytes maxL ret R n0 ro Q k n (pc + 1) L (.long (x <<< (y.toInt64 &&& 63)) :: S) H) : WP l Z C lay own mn bytes maxL ret R n0 ro Q k n pc L (.int y :: .long x :: S) H :=
  WP.of (fun p e s m args below meth c T locs ad Ls X A hL hz => ⟨Ls, hL, hz, fun t ht => XT.lshl X.here A.1 rfl (hb A.2.2.1 hd) rfl ht⟩) nx
theorem WP.lshr {x : Int64} {y : Int32} (hd : decode bytes pc = .ok (.lshr, 1)) (nx : WP l Z C lay own mn bytes maxL ret R n0 ro Q k n (pc + 1) L (.long (x >>> (y.toInt64 &&& 63)) :: S) H) : WP l Z C lay own mn bytes maxL ret R n0 ro Q k n pc L (.int y :: .long x :: S) H :=
  WP.of (fun p e s m args below meth c T locs ad Ls X A hL hz => ⟨Ls, hL, hz, fun t ht => XT.lshr X.here A.1 rfl (hb A.2.2.1 hd) rfl ht⟩) nx
theorem WP.lushr {x : Int64} {y : Int32} (hd : decode bytes pc = .ok (.lushr, 1)) (nx : WP l Z C lay own mn bytes maxL ret R n0 ro Q k n (pc + 1) L (.long (XT.ushrL x y) :: S) H) : WP l Z C lay own mn bytes maxL ret R n0 ro Q k n pc L (.int y :: .long x :: S) H :=
  WP.of (fun p e s m args below meth c T locs ad Ls X A hL hz => ⟨Ls, hL, hz, fun t ht => XT.lushr X.here A.1 rfl (hb A.2.2.1 hd) rfl ht⟩) nx
theorem WP.ineg {x : Int32} (hd : decode bytes pc = .ok (.ineg, 1)) (nx : WP l Z C lay own mn bytes maxL ret R n0 ro Q k n (pc + 1) L (.int (-x) :: S) H) : WP l Z C lay own mn bytes maxL ret R n0 ro Q k n pc L (.int x :: S) H :=
  WP.of (fun p e s m args below meth c T locs ad Ls X A hL hz => ⟨Ls, hL, hz, fun t ht => XS.ineg X.here A.1 rfl (hb A.2.2.1 hd) rfl ht⟩) nx
theorem WP.lneg {x : Int64} (hd : decode bytes pc = .ok (.lneg, 1)) (nx : WP l Z C lay own mn bytes maxL ret R n0 ro Q k n (pc + 1) L (.long (-x) :: S) H) : WP l Z C lay own mn bytes maxL ret R n0 ro Q k n pc L (.long x :: S) H :=
  WP.of (fun p e s m args below meth c T locs ad Ls X A hL hz => ⟨Ls, hL, hz, fun t ht => XT.lneg X.here A.1 rfl (hb A.2.2.1 hd) rfl ht⟩) nx
theorem WP.i2l {x : Int32} (hd : decode bytes pc = .ok (.i2l, 1)) (nx : WP l Z C lay own mn bytes maxL ret R n0 ro Q k n (pc + 1) L (.long x.toInt64 :: S) H) : WP l Z C lay own mn bytes maxL ret R n0 ro Q k n pc L (.int x :: S) H :=
  WP.of (fun p e s m args below meth c T locs ad Ls X A hL hz => ⟨Ls, hL, hz, fun t ht => XT.i2l X.here A.1 rfl (hb A.2.2.1 hd) rfl ht⟩) nx
theorem WP.l2i {x : Int64} (hd : decode bytes pc = .ok (.l2i, 1)) (nx : WP l Z C lay own mn bytes maxL ret R n0 ro Q k n (pc + 1) L (.int x.toInt32 :: S) H) : WP l Z C lay own mn bytes maxL ret R n0 ro Q k n pc L (.long x :: S) H :=
  WP.of (fun p e s m args below meth c T locs ad Ls X A hL hz => ⟨Ls, hL, hz, fun t ht => XT.l2i X.here A.1 rfl (hb A.2.2.1 hd) rfl ht⟩) nx
theorem WP.lcmp {x y : Int64} (hd : decode bytes pc = .ok (.lcmp, 1)) (nx : WP l Z C lay own mn bytes maxL ret R n0 ro Q k n (pc + 1) L (.int (XT.cmpL x y) :: S) H) : WP l Z C lay own mn bytes maxL ret R n0 ro Q k n pc L (.long y :: .long x :: S) H :=
  WP.of (fun p e s m args below meth c T locs ad Ls X A hL hz => ⟨Ls, hL, hz, fun t ht => XT.lcmp X.here A.1 rfl (hb A.2.2.1 hd) rfl ht⟩) nx
theorem WP.dup {v : Value} (hd : decode bytes pc = .ok (.dup, 1)) (hc : v.category = 1) (nx : WP l Z C lay own mn bytes maxL ret R n0 ro Q k n (pc + 1) L (v :: v :: S) H) : WP l Z C lay own mn bytes maxL ret R n0 ro Q k n pc L (v :: S) H :=
  WP.of (fun p e s m args below meth c T locs ad Ls X A hL hz => ⟨Ls, hL, hz, fun t ht => XS.dup X.here A.1 rfl (hb A.2.2.1 hd) rfl (by rw [rf_cat]; exact hc) ht⟩) nx
theorem WP.dup2 {v w : Value} (hd : decode bytes pc = .ok (.dup2, 1)) (hc : v.category = 1) (hc' : w.category = 1) (nx : WP l Z C lay own mn bytes maxL ret R n0 ro Q k n (pc + 1) L (v :: w :: v :: w :: S) H) : WP l Z C lay own mn bytes maxL ret R n0 ro Q k n pc L (v :: w :: S) H :=
  WP.of (fun p e s m args below meth c T locs ad Ls X A hL hz => ⟨Ls, hL, hz, fun t ht => XT.dup2 X.here A.1 rfl (hb A.2.2.1 hd) rfl (by rw [rf_cat]; exact hc) (by rw [rf_cat]; exact hc') ht⟩) nx
theorem WP.dup2L {x : Int64} (hd : decode bytes pc = .ok (.dup2, 1)) (nx : WP l Z C lay own mn bytes maxL ret R n0 ro Q k n (pc + 1) L (.long x :: .long x :: S) H) : WP l Z C lay own mn bytes maxL ret R n0 ro Q k n pc L (.long x :: S) H :=
  WP.of (fun p e s m args below meth c T locs ad Ls X A hL hz => ⟨Ls, hL, hz, fun t ht => XT.dup2L X.here A.1 rfl (hb A.2.2.1 hd) rfl ht⟩) nx
theorem WP.pop {v : Value} (hd : decode bytes pc = .ok (.pop, 1)) (hc : v.category = 1) (nx : WP l Z C lay own mn bytes maxL ret R n0 ro Q k n (pc + 1) L (S) H) : WP l Z C lay own mn bytes maxL ret R n0 ro Q k n pc L (v :: S) H :=
  WP.of (fun p e s m args below meth c T locs ad Ls X A hL hz => ⟨Ls, hL, hz, fun t ht => XT.pop X.here A.1 rfl (hb A.2.2.1 hd) rfl (by rw [rf_cat]; exact hc) ht⟩) nx
theorem WP.istore {j : Nat} {x : Int32} (hd : decode bytes pc = .ok (.istore j, 2)) (hi : j < L.length) (hL' : st1 L j (.int x) = L') (nx : WP l Z C lay own mn bytes maxL ret R n0 ro Q k n (pc + 2) L' S H) : WP l Z C lay own mn bytes maxL ret R n0 ro Q k n pc L (.int x :: S) H :=
  WP.of (fun p e s m args below meth c T locs ad Ls X A hL hz => by
    obtain ⟨Ls', e1, e2, e3⟩ := hL.store1 hi (v := .int x) rfl
    exact ⟨Ls', hL' ▸ e2, e3.trans hz, fun t ht => XS.istore X.here A.1 rfl (hb A.2.2.1 hd) rfl e1 ht⟩) nx
theorem WP.istoreN {j : Fin 4} {x : Int32} (hd : decode bytes pc = .ok (.istore_n j, 1)) (hi : j.val < L.length) (hL' : st1 L j.val (.int x) = L') (nx : WP l Z C lay own mn bytes maxL ret R n0 ro Q k n (pc + 1) L' S H) : WP l Z C lay own mn bytes maxL ret R n0 ro Q k n pc L (.int x :: S) H :=
  WP.of (fun p e s m args below meth c T locs ad Ls X A hL hz => by
    obtain ⟨Ls', e1, e2, e3⟩ := hL.store1 hi (v := .int x) rfl
    exact ⟨Ls', hL' ▸ e2, e3.trans hz, fun t ht => XS.istoreN X.here A.1 rfl (hb A.2.2.1 hd) rfl e1 ht⟩) nx
theorem WP.astore {j : Nat} {i : Nat} (hd : decode bytes pc = .ok (.astore j, 2)) (hi : j < L.length) (hL' : st1 L j (.ref i) = L') (nx : WP l Z C lay own mn bytes maxL ret R n0 ro Q k n (pc + 2) L' S H) : WP l Z C lay own mn bytes maxL ret R n0 ro Q k n pc L (.ref i :: S) H :=
  WP.of (fun p e s m args below meth c T locs ad Ls X A hL hz => by
    obtain ⟨Ls', e1, e2, e3⟩ := hL.store1 hi (v := .ref i) rfl
    exact ⟨Ls', hL' ▸ e2, e3.trans hz, fun t ht => XS.astore X.here A.1 rfl (hb A.2.2.1 hd) rfl rfl e1 ht⟩) nx
theorem WP.astoreN {j : Fin 4} {i : Nat} (hd : decode bytes pc = .ok (.astore_n j, 1)) (hi : j.val < L.length) (hL' : st1 L j.val (.ref i) = L') (nx : WP l Z C lay own mn bytes maxL ret R n0 ro Q k n (pc + 1) L' S H) : WP l Z C lay own mn bytes maxL ret R n0 ro Q k n pc L (.ref i :: S) H :=
  WP.of (fun p e s m args below meth c T locs ad Ls X A hL hz => by
    obtain ⟨Ls', e1, e2, e3⟩ := hL.store1 hi (v := .ref i) rfl
    exact ⟨Ls', hL' ▸ e2, e3.trans hz, fun t ht => XS.astoreN X.here A.1 rfl (hb A.2.2.1 hd) rfl rfl e1 ht⟩) nx
theorem WP.lstore {j : Nat} {x : Int64} (hd : decode bytes pc = .ok (.lstore j, 2)) (hi : j + 1 < L.length) (hL' : st2 L j (.long x) = L') (nx : WP l Z C lay own mn bytes maxL ret R n0 ro Q k n (pc + 2) L' S H) : WP l Z C lay own mn bytes maxL ret R n0 ro Q k n pc L (.long x :: S) H :=
  WP.of (fun p e s m args below meth c T locs ad Ls X A hL hz => by
    obtain ⟨Ls', e1, e2, e3⟩ := hL.store2 hi (v := .long x) rfl
    exact ⟨Ls', hL' ▸ e2, e3.trans hz, fun t ht => XT.lstore X.here A.1 rfl (hb A.2.2.1 hd) rfl e1 ht⟩) nx
theorem WP.lstoreN {j : Fin 4} {x : Int64} (hd : decode bytes pc = .ok (.lstore_n j, 1)) (hi : j.val + 1 < L.length) (hL' : st2 L j.val (.long x) = L') (nx : WP l Z C lay own mn bytes maxL ret R n0 ro Q k n (pc + 1) L' S H) : WP l Z C lay own mn bytes maxL ret R n0 ro Q k n pc L (.long x :: S) H :=
  WP.of (fun p e s m args below meth c T locs ad Ls X A hL hz => by
    obtain ⟨Ls', e1, e2, e3⟩ := hL.store2 hi (v := .long x) rfl
    exact ⟨Ls', hL' ▸ e2, e3.trans hz, fun t ht => XT.lstoreN X.here A.1 rfl (hb A.2.2.1 hd) rfl e1 ht⟩) nx
theorem WP.iinc {j : Nat} {cst : Int} {x : Int32} (v : Int32) (hd : decode bytes pc = .ok (.iinc j cst, 3)) (hv : Int32.ofInt cst = v) (hl : L[j]? = some (.val (.int x))) (hL' : st1 L j (.int (x + v)) = L') (nx : WP l Z C lay own mn bytes maxL ret R n0 ro Q k n (pc + 3) L' S H) : WP l Z C lay own mn bytes maxL ret R n0 ro Q k n pc L S H :=
  WP.of (fun p e s m args below meth c T locs ad Ls X A hL hz => by
    subst hv
    obtain ⟨Ls', e1, e2, e3⟩ := hL.store1 (get_lt hl) (v := .int (x + Int32.ofInt cst)) rfl
    exact ⟨Ls', hL' ▸ e2, e3.trans hz, fun t ht => XS.iinc X.here A.1 rfl (hb A.2.2.1 hd) (hL.2.1 _ _ hl) e1 ht⟩) nx
theorem iincW {tb : Tables} [Ours tb] {e : Env} {below : List Frame} {T target : State} {m : MethodId} {c : Code} {g : JFrame} (h : At T m c below) (hx : tb.exec = Jvm.exec) (hg : g.method = m) {k : Nat} {cst : Int} {x : Int32} {l' : Array Slot} (hd : decode c.code g.pc = .ok (.iinc k cst, 6)) (hl : g.locals[k]? = some (.val (.int x))) (hl' : storeLocals g.locals k (.int (x + Int32.ofInt cst)) = some l')
    (hr : Steps tb e below (T.setTop { g with pc := g.pc + 6, locals := l' }) target) : Steps tb e below (T.setTop g) target := by
  subst hg
  jvm_step h [h.top, hx, hd, hl, hl']
  exact hr
theorem WP.iincW {j : Nat} {cst : Int} {x : Int32} (v : Int32) (hd : decode bytes pc = .ok (.iinc j cst, 6)) (hv : Int32.ofInt cst = v) (hl : L[j]? = some (.val (.int x))) (hL' : st1 L j (.int (x + v)) = L') (nx : WP l Z C lay own mn bytes maxL ret R n0 ro Q k n (pc + 6) L' S H) : WP l Z C lay own mn bytes maxL ret R n0 ro Q k n pc L S H :=
  WP.of (fun p e s m args below meth c T locs ad Ls X A hL hz => by
    subst hv
    obtain ⟨Ls', e1, e2, e3⟩ := hL.store1 (get_lt hl) (v := .int (x + Int32.ofInt cst)) rfl
    exact ⟨Ls', hL' ▸ e2, e3.trans hz, fun t ht => Own.iincW X.here A.1 rfl (hb A.2.2.1 hd) (hL.2.1 _ _ hl) e1 ht⟩) nx
theorem WP.goto {o : Int} (hd : decode bytes pc = .ok (.goto o, 3)) (ho : 0 ≤ (pc : Int) + o) (hp : ((pc : Int) + o).toNat = pc') (nx : WP l Z C lay own mn bytes maxL ret R n0 ro Q k n pc' L S H) : WP l Z C lay own mn bytes maxL ret R n0 ro Q k n pc L S H :=
  WP.of (fun p e s m args below meth c T locs ad Ls X A hL hz => ⟨Ls, hL, hz, fun t ht => XS.goto X.here A.1 rfl rfl (hb A.2.2.1 hd) ho hp ht⟩) nx
theorem WP.ifY {cd : ClassFile.Cond} {x : Int32} {o : Int} (hd : decode bytes pc = .ok (.ifCond cd o, 3)) (hc : ifCond.holds cd x = true) (ho : 0 ≤ (pc : Int) + o) (hp : ((pc : Int) + o).toNat = pc') (nx : WP l Z C lay own mn bytes maxL ret R n0 ro Q k n pc' L S H) : WP l Z C lay own mn bytes maxL ret R n0 ro Q k n pc L (.int x :: S) H :=
  WP.of (fun p e s m args below meth c T locs ad Ls X A hL hz => ⟨Ls, hL, hz, fun t ht => XS.ifYes X.here A.1 rfl rfl (hb A.2.2.1 hd) rfl hc ho hp ht⟩) nx
theorem WP.ifN {cd : ClassFile.Cond} {x : Int32} {o : Int} (hd : decode bytes pc = .ok (.ifCond cd o, 3)) (hc : ifCond.holds cd x = false) (nx : WP l Z C lay own mn bytes maxL ret R n0 ro Q k n (pc + 3) L S H) : WP l Z C lay own mn bytes maxL ret R n0 ro Q k n pc L (.int x :: S) H :=
  WP.of (fun p e s m args below meth c T locs ad Ls X A hL hz => ⟨Ls, hL, hz, fun t ht => XS.ifNo X.here A.1 rfl (hb A.2.2.1 hd) rfl hc ht⟩) nx
theorem WP.icmpY {cd : ClassFile.Cond} {x y : Int32} {o : Int} (hd : decode bytes pc = .ok (.if_icmp cd o, 3)) (hc : if_icmp.holds cd x y = true) (ho : 0 ≤ (pc : Int) + o) (hp : ((pc : Int) + o).toNat = pc') (nx : WP l Z C lay own mn bytes maxL ret R n0 ro Q k n pc' L S H) : WP l Z C lay own mn bytes maxL ret R n0 ro Q k n pc L (.int y :: .int x :: S) H :=
  WP.of (fun p e s m args below meth c T locs ad Ls X A hL hz => ⟨Ls, hL, hz, fun t ht => XS.icmpYes X.here A.1 rfl rfl (hb A.2.2.1 hd) rfl hc ho hp ht⟩) nx
theorem WP.icmpN {cd : ClassFile.Cond} {x y : Int32} {o : Int} (hd : decode bytes pc = .ok (.if_icmp cd o, 3)) (hc : if_icmp.holds cd x y = false) (nx : WP l Z C lay own mn bytes maxL ret R n0 ro Q k n (pc + 3) L S H) : WP l Z C lay own mn bytes maxL ret R n0 ro Q k n pc L (.int y :: .int x :: S) H :=
  WP.of (fun p e s m args below meth c T locs ad Ls X A hL hz => ⟨Ls, hL, hz, fun t ht => XS.icmpNo X.here A.1 rfl (hb A.2.2.1 hd) rfl hc ht⟩) nx
theorem WP.nonnull {i : Nat} {o : Int} (hd : decode bytes pc = .ok (.ifnonnull o, 3)) (ho : 0 ≤ (pc : Int) + o) (hp : ((pc : Int) + o).toNat = pc') (nx : WP l Z C lay own mn bytes maxL ret R n0 ro Q k n pc' L S H) : WP l Z C lay own mn bytes maxL ret R n0 ro Q k n pc L (.ref i :: S) H :=
  WP.of (fun p e s m args below meth c T locs ad Ls X A hL hz => ⟨Ls, hL, hz, fun t ht => XT.ifnonnullYes X.here A.1 rfl rfl (hb A.2.2.1 hd) rfl ho hp ht⟩) nx
theorem WP.tswIn {dflt low high o : Int} {offs : Array Int} {len : Nat} {i : Int32} (hd : decode bytes pc = .ok (.tableswitch dflt low high offs, len)) (hin : ¬ (i.toInt < low ∨ i.toInt > high)) (hoff : offs[(i.toInt - low).toNat]? = some o) (ho : 0 ≤ (pc : Int) + o) (hp : ((pc : Int) + o).toNat = pc') (nx : WP l Z C lay own mn bytes maxL ret R n0 ro Q k n pc' L S H) : WP l Z C lay own mn bytes maxL ret R n0 ro Q k n pc L (.int i :: S) H :=
  WP.of (fun p e s m args below meth c T locs ad Ls X A hL hz => ⟨Ls, hL, hz, fun t ht => XS.tswIn X.here A.1 rfl rfl (hb A.2.2.1 hd) rfl hin hoff ho hp ht⟩) nx
theorem WP.tswOut {dflt low high : Int} {offs : Array Int} {len : Nat} {i : Int32} (hd : decode bytes pc = .ok (.tableswitch dflt low high offs, len)) (hout : i.toInt < low ∨ i.toInt > high) (ho : 0 ≤ (pc : Int) + dflt) (hp : ((pc : Int) + dflt).toNat = pc') (nx : WP l Z C lay own mn bytes maxL ret R n0 ro Q k n pc' L S H) : WP l Z C lay own mn bytes maxL ret R n0 ro Q k n pc L (.int i :: S) H :=
  WP.of (fun p e s m args below meth c T locs ad Ls X A hL hz => ⟨Ls, hL, hz, fun t ht => XS.tswOut X.here A.1 rfl rfl (hb A.2.2.1 hd) rfl hout ho hp ht⟩) nx
theorem tsw_miss {i : Int32} {low high : Int} (h : ∀ z : Int, low ≤ z → z ≤ high → ¬ i = Int32.ofInt z) : i.toInt < low ∨ i.toInt > high := by
  by_cases a : i.toInt < low
  · exact Or.inl a
  · by_cases b : i.toInt > high
    · exact Or.inr b
    · exact absurd (by rw [Int32.ofInt_toInt]) (h i.toInt (by omega) (by omega))
theorem WP.moved (hs : ∀ (p : Program) (e : Env) (s : State) (m : MethodId) (args : Array Value) (below : List Frame) (meth : Method) (c : Code) (T : State) (locs : List Loc) (ad : Nat → Addr) (Ls : Array Slot), Stand p l e R s m args below meth c T locs k n → Am Z own mn bytes maxL ret p s m meth c → HR Z C lay n0 ro ad H T.heap → Fr n0 locs → LR ad L Ls → Ls.size = maxL →
      ∃ T' locs', Stand p l e R s m args below meth c T' locs' k' n' ∧ HR Z C lay n0 ro ad H' T'.heap ∧ Kp ad H.length T.heap T'.heap ∧ Fr n0 locs' ∧ ∀ t, Steps p.tables e below (T'.setTop (mkF m pc' Ls (S'.map (rf ad)))) t → Steps p.tables e below (T.setTop (mkF m pc Ls (S.map (rf ad)))) t)
    (nx : WP l Z C lay own mn bytes maxL ret R n0 ro Q k' n' pc' L S' H') : WP l Z C lay own mn bytes maxL ret R n0 ro Q k n pc L S H := by
  intro p e s m args below meth c T locs ad Ls X A hr N hL hz
  obtain ⟨T', locs', X', hr', K, N', st⟩ := hs p e s m args below meth c T locs ad Ls X A hr N hL hz
  obtain ⟨s₂, v, H2, locs2, h1, h2, h3, h4, h5, h6, h7⟩ := nx p e s m args below meth c T' locs' ad Ls X' A hr' N' hL hz
  exact ⟨s₂, v, H2, locs2, st _ h1, h2, h3, h4, h5, Kp.trans hr K h6, h7⟩
theorem WP.getfield {idx i j : Nat} {f d : String} {vs : List Value} {v : Value} (hd : decode bytes pc = .ok (.getfield idx, 3)) (hw : (Cond.fieldLink own idx C f d).before a0 Z = true) (hj : lay[j]? = some (f, d)) (hH : H[i]? = some (.inl vs)) (hv : vs[j]? = some v) (nx : WP l Z C lay own mn bytes maxL ret R n0 ro Q k n (pc + 3) L (v :: S) H) : WP l Z C lay own mn bytes maxL ret R n0 ro Q k n pc L (.ref i :: S) H :=
  WP.moved (fun p e s m args below meth c T locs ad Ls X A hr N hL hz => by
    have F := (hr.1 i _ hH).2 j _ v hj hv
    obtain ⟨T', X', e', st⟩ := getF X A.1 A.2.1 A.2.2.2.2.2.2.1 (host := "") (Or.inl hw) Via.refl rfl F (g := mkF m pc Ls (.ref (ad i) :: S.map (rf ad))) rfl rfl (hb A.2.2.1 hd)
    exact ⟨T', locs, X', by rw [e']; exact hr, by rw [e']; exact Kp.refl _ _ _, N, fun t ht => st t ht⟩) nx
theorem WP.iaload {i : Nat} {xs : List Int32} {j x : Int32} (hd : decode bytes pc = .ok (.iaload, 1)) (hH : H[i]? = some (cI xs)) (hx : rd xs j = some x) (nx : WP l Z C lay own mn bytes maxL ret R n0 ro Q k n (pc + 1) L (.int x :: S) H) : WP l Z C lay own mn bytes maxL ret R n0 ro Q k n pc L (.int j :: .ref i :: S) H :=
  WP.moved (fun p e s m args below meth c T locs ad Ls X A hr N hL hz => by
    obtain ⟨cl, Ar, hsl⟩ := hr.1 i _ hH
    obtain ⟨q1, q2⟩ := rd_slots hsl hx
    exact ⟨T, locs, X, hr, Kp.refl _ _ _, N, fun t ht => X.iaload A.1 (j := j) Ar.1 (State.isArrayOf_alike A.2.1.alike Ar.2.1) Ar.2.2 q1 q2 (g := mkF m pc Ls (.int j :: .ref (ad i) :: S.map (rf ad))) rfl rfl (hb A.2.2.1 hd) _ ht⟩) nx
theorem WP.laload {i : Nat} {xs : List Int64} {j : Int32} {x : Int64} (hd : decode bytes pc = .ok (.laload, 1)) (hH : H[i]? = some (cJ xs)) (hx : rd xs j = some x) (nx : WP l Z C lay own mn bytes maxL ret R n0 ro Q k n (pc + 1) L (.long x :: S) H) : WP l Z C lay own mn bytes maxL ret R n0 ro Q k n pc L (.int j :: .ref i :: S) H :=
  WP.moved (fun p e s m args below meth c T locs ad Ls X A hr N hL hz => by
    obtain ⟨cl, Ar, hsl⟩ := hr.1 i _ hH
    obtain ⟨q1, q2⟩ := rd_slots hsl hx
    exact ⟨T, locs, X, hr, Kp.refl _ _ _, N, fun t ht => X.laload A.1 (j := j) Ar.1 (State.isArrayOf_alike A.2.1.alike Ar.2.1) Ar.2.2 q1 q2 (g := mkF m pc Ls (.int j :: .ref (ad i) :: S.map (rf ad))) rfl rfl (hb A.2.2.1 hd) _ ht⟩) nx
theorem baloadZ {p : Program} {e : Env} {s : State} {m : MethodId} {args : Array Value} {below : List Frame} {meth : Method} {c : Code} {T : State} {locs : List Loc} {cells slots : Nat} (X : Stand p l e R s m args below meth c T locs cells slots) (hexec : p.tables.exec = Jvm.exec) {a : Addr} {cell : Cell} {j : Int32} {v : Value} (hcell : T.heap[a]? = some cell) (harr : s.isArrayOf cell .boolean) (hknown : cell.vm ≠ .unknown)
    (hin : ¬ (j < 0 ∨ cell.slots.size ≤ j.toNatClampNeg)) (hv : cell.slots[j.toNatClampNeg]? = some v) {g : JFrame} (hg : g.method = m) {rest : List Value} (hstack : g.stack = .int j :: .ref a :: rest) (hdg : decode c.code g.pc = .ok (.baload, 1)) (target : State)
    (hrest : Steps p.tables e below (T.setTop { g with pc := g.pc + 1, stack := v :: rest }) target) : Steps p.tables e below (T.setTop g) target := by
  have hT := State.isArrayOf_alike X.warmed.alike harr
  subst hg
  jvm_step X.here [hexec, hdg, baload.wp_booleans (e := e) (s := T) (f := g) X.here.top hstack hcell hT hin hknown hv]
  exact hrest
theorem WP.baload {i : Nat} {xs : List Int32} {j x : Int32} (hd : decode bytes pc = .ok (.baload, 1)) (hH : H[i]? = some (cZ xs)) (hx : rd xs j = some x) (nx : WP l Z C lay own mn bytes maxL ret R n0 ro Q k n (pc + 1) L (.int x :: S) H) : WP l Z C lay own mn bytes maxL ret R n0 ro Q k n pc L (.int j :: .ref i :: S) H :=
  WP.moved (fun p e s m args below meth c T locs ad Ls X A hr N hL hz => by
    obtain ⟨cl, Ar, hsl⟩ := hr.1 i _ hH
    obtain ⟨q1, q2⟩ := rd_slots hsl hx
    exact ⟨T, locs, X, hr, Kp.refl _ _ _, N, fun t ht => baloadZ X A.1 (j := j) Ar.1 (State.isArrayOf_alike A.2.1.alike Ar.2.1) Ar.2.2 q1 q2 (g := mkF m pc Ls (.int j :: .ref (ad i) :: S.map (rf ad))) rfl rfl (hb A.2.2.1 hd) _ ht⟩) nx
theorem WP.arraylength {i : Nat} {xs : List Int32} (hd : decode bytes pc = .ok (.arraylength, 1)) (hH : H[i]? = some (cI xs)) (nx : WP l Z C lay own mn bytes maxL ret R n0 ro Q k n (pc + 1) L (.int xs.length.toInt32 :: S) H) : WP l Z C lay own mn bytes maxL ret R n0 ro Q k n pc L (.ref i :: S) H :=
  WP.moved (fun p e s m args below meth c T locs ad Ls X A hr N hL hz => by
    obtain ⟨cl, Ar, hsl⟩ := hr.1 i _ hH
    have e1 : cl.slots.size = xs.length := by rw [← Array.length_toList, hsl, List.length_map]
    refine ⟨T, locs, X, hr, Kp.refl _ _ _, N, fun t ht => X.arraylength A.1 Ar.1 (State.isArrayOf_alike A.2.1.alike Ar.2.1) (g := mkF m pc Ls (.ref (ad i) :: S.map (rf ad))) rfl rfl (hb A.2.2.1 hd) _ ?_⟩
    rw [e1]; exact ht) nx
theorem WP.iastore {i : Nat} {xs xs' : List Int32} {j : Int32} {x : Int32} (hd : decode bytes pc = .ok (.iastore, 1)) (hH : H[i]? = some (cI xs)) (hi : ro ≤ i) (hx : wr xs j x = some xs') (hH' : H.set i (cI xs') = H') (nx : WP l Z C lay own mn bytes maxL ret R n0 ro Q k n (pc + 1) L S H') : WP l Z C lay own mn bytes maxL ret R n0 ro Q k n pc L (.int x :: .int j :: .ref i :: S) H :=
  WP.moved (fun p e s m args below meth c T locs ad Ls X A hr N hL hz => by
    obtain ⟨cl, Ar, hsl⟩ := hr.1 i _ hH
    obtain ⟨q1, q2⟩ := wr_slots hsl hx
    obtain ⟨T', h', X', e', w, st⟩ := stI X A.1 A.2.1 rfl Ar (j := j) (x := x) q1 (g := mkF m pc Ls (.int x :: .int j :: .ref (ad i) :: S.map (rf ad))) rfl rfl (hb A.2.2.1 hd)
    subst e'
    have hi' := get_lt hH
    have P := hr.put (h' := T'.heap) (c := cI xs') hi' w.size (fun a cz hne q => by
      obtain ⟨c', g1, -, -, -, g5, -⟩ := wr_at w q
      rw [g5 hne] at g1; exact g1) ⟨_, Ar.same w, q2⟩
    exact ⟨T', _, X', hH' ▸ P.1, P.2, Fr.snoc X' N (hr.2.2.2.1 i hi' hi), fun t ht => st t ht⟩) nx
theorem WP.lastore {i : Nat} {xs xs' : List Int64} {j : Int32} {x : Int64} (hd : decode bytes pc = .ok (.lastore, 1)) (hH : H[i]? = some (cJ xs)) (hi : ro ≤ i) (hx : wr xs j x = some xs') (hH' : H.set i (cJ xs') = H') (nx : WP l Z C lay own mn bytes maxL ret R n0 ro Q k n (pc + 1) L S H') : WP l Z C lay own mn bytes maxL ret R n0 ro Q k n pc L (.long x :: .int j :: .ref i :: S) H :=
  WP.moved (fun p e s m args below meth c T locs ad Ls X A hr N hL hz => by
    obtain ⟨cl, Ar, hsl⟩ := hr.1 i _ hH
    obtain ⟨q1, q2⟩ := wr_slots hsl hx
    obtain ⟨T', h', X', e', w, st⟩ := stJ X A.1 A.2.1 rfl Ar (j := j) (x := x) q1 (g := mkF m pc Ls (.long x :: .int j :: .ref (ad i) :: S.map (rf ad))) rfl rfl (hb A.2.2.1 hd)
    subst e'
    have hi' := get_lt hH
    have P := hr.put (h' := T'.heap) (c := cJ xs') hi' w.size (fun a cz hne q => by
      obtain ⟨c', g1, -, -, -, g5, -⟩ := wr_at w q
      rw [g5 hne] at g1; exact g1) ⟨_, Ar.same w, q2⟩
    exact ⟨T', _, X', hH' ▸ P.1, P.2, Fr.snoc X' N (hr.2.2.2.1 i hi' hi), fun t ht => st t ht⟩) nx
theorem WP.bastore {i : Nat} {xs xs' : List Int32} {j : Int32} {x : Int32} (hd : decode bytes pc = .ok (.bastore, 1)) (hH : H[i]? = some (cZ xs)) (hi : ro ≤ i) (hx : wr xs j (x &&& 1) = some xs') (hH' : H.set i (cZ xs') = H') (nx : WP l Z C lay own mn bytes maxL ret R n0 ro Q k n (pc + 1) L S H') : WP l Z C lay own mn bytes maxL ret R n0 ro Q k n pc L (.int x :: .int j :: .ref i :: S) H :=
  WP.moved (fun p e s m args below meth c T locs ad Ls X A hr N hL hz => by
    obtain ⟨cl, Ar, hsl⟩ := hr.1 i _ hH
    obtain ⟨q1, q2⟩ := wr_slots hsl hx
    obtain ⟨T', h', X', e', w, st⟩ := stZ X A.1 A.2.1 rfl Ar (j := j) (x := x) q1 (g := mkF m pc Ls (.int x :: .int j :: .ref (ad i) :: S.map (rf ad))) rfl rfl (hb A.2.2.1 hd)
    subst e'
    have hi' := get_lt hH
    have P := hr.put (h' := T'.heap) (c := cZ xs') hi' w.size (fun a cz hne q => by
      obtain ⟨c', g1, -, -, -, g5, -⟩ := wr_at w q
      rw [g5 hne] at g1; exact g1) ⟨_, Ar.same w, q2⟩
    exact ⟨T', _, X', hH' ▸ P.1, P.2, Fr.snoc X' N (hr.2.2.2.1 i hi' hi), fun t ht => st t ht⟩) nx
/-- a field of the one class is written -/
theorem WP.put {idx i j kk : Nat} {f d : String} {vs : List Value} {v v' old : Value} {ty : FieldType} (hd : decode bytes pc = .ok (.putfield idx, 3)) (hw : (Cond.fieldLink own idx C f d).before a0 Z = true) (hl : (Cond.lays C C f d).before a0 Z = true ∨ ((Cond.laysFinal C C f d).before a0 Z = true ∧ own = C ∧ mn = "<init>")) (wi : (Cond.instantiable C kk).before a0 Z = true)
    (hlay : ∀ (a b : Nat) (f g : String × String), lay[a]? = some f → lay[b]? = some g → a ≠ b → RoadKit.slotOf Z C f.1 f.2 ≠ RoadKit.slotOf Z C g.1 g.2) (hty : parseFieldDescriptor d = some ty) (hn : ∀ ad, narrow ty (rf ad v) = rf ad v') (hf : ∀ ad, fits ty (rf ad v') = true)
    (hj : lay[j]? = some (f, d)) (hH : H[i]? = some (.inl vs)) (hv : vs[j]? = some old) (hi : ro ≤ i) (hH' : H.set i (.inl (vs.set j v')) = H') (nx : WP l Z C lay own mn bytes maxL ret R n0 ro Q k n (pc + 3) L S H') : WP l Z C lay own mn bytes maxL ret R n0 ro Q k n pc L (v :: .ref i :: S) H :=
  WP.moved (fun p e s m args below meth c T locs ad Ls X A hr N hL hz => by
    obtain ⟨E, F⟩ := hr.1 i _ hH
    obtain ⟨T', h', X', e', w, st⟩ := putFN X A.1 A.2.1 A.2.2.2.2.2.2.1 hw Via.refl rfl (F j _ old hj hv) E (hl.imp id fun q => ⟨q.1, q.2.1, A.2.2.2.2.2.2.2.trans q.2.2⟩) wi hty (hn ad) (hf ad) (g := mkF m pc Ls (rf ad v :: .ref (ad i) :: S.map (rf ad))) rfl rfl (hb A.2.2.1 hd)
    subst e'
    have hi' := get_lt hH
    have P := hr.put (h' := T'.heap) (c := .inl (vs.set j v')) hi' w.size (fun a cz hne q => by
      obtain ⟨c', g1, -, -, -, g5, -⟩ := wr_at w q
      rw [g5 hne] at g1; exact g1) ⟨E.wr w, fun a g u hg hu => by
        rw [List.getElem?_set] at hu
        by_cases e : j = a
        · subst e
          cases hj.symm.trans hg
          rw [if_pos rfl, if_pos (get_lt hv)] at hu
          cases hu
          exact (F j _ old hj hv).same w
        · rw [if_neg e] at hu
          exact (F a g u hg hu).other w (Or.inr (hlay a j g (f, d) hg hj (Ne.symm e)))⟩
    exact ⟨T', _, X', hH' ▸ P.1, P.2, Fr.snoc X' N (hr.2.2.2.1 i hi' hi), fun t ht => st t ht⟩) nx
/-- newarray -/
theorem WP.newarray {aty : ArrayType} {c0 : OwnC} {cnt : Int32} (hd : decode bytes pc = .ok (.newarray aty, 2)) (hw : (Cond.arrayClass (newarray.typeOf aty)).before a0 Z = true) (hn : ¬ cnt < 0) (hb8 : cnt.toNatClampNeg * 8 ≤ 536870912) (hc : k + 1 ≤ R.cells) (hl : n + cnt.toNatClampNeg ≤ R.slots)
    (h0 : (aty = .int ∧ c0 = cI (List.replicate cnt.toNatClampNeg 0)) ∨ (aty = .long ∧ c0 = cJ (List.replicate cnt.toNatClampNeg 0)) ∨ (aty = .boolean ∧ c0 = cZ (List.replicate cnt.toNatClampNeg 0)))
    (nx : WP l Z C lay own mn bytes maxL ret R n0 ro Q (k + 1) (n + cnt.toNatClampNeg) (pc + 2) L (.ref H.length :: S) (H ++ [c0])) : WP l Z C lay own mn bytes maxL ret R n0 ro Q k n pc L (.int cnt :: S) H :=
  WP.moved (fun p e s m args below meth c T locs ad Ls X A hr N hL hz => by
    have hcb : componentBytes (newarray.typeOf aty) ≤ 8 := by cases aty <;> decide
    obtain ⟨cA, kA, comp, h1, h2, h3, X', st⟩ := X.newarrayPrim A.1 (mvA A.2.1 hw) (g := mkF m pc Ls (.int cnt :: S.map (rf ad))) rfl (hb A.2.2.1 hd) rfl hn (Nat.le_trans (Nat.mul_le_mul (Nat.le_refl _) hcb) hb8) hc hl
    rw [A.2.1.alike.findClass] at h1
    obtain ⟨kZ, z1, -⟩ := Vm.findClass_spec h1
    obtain ⟨k', z2, z3⟩ := A.2.1.alike.2.2 _ _ z1
    cases h2.symm.trans z2
    have hE : Ext T.heap (T.heap.push { cls := cA, slots := Array.replicate cnt.toNatClampNeg (defaultValue (newarray.typeOf aty)), vm := .none }) := ⟨by simp, fun a c h => by
      rw [Array.getElem?_push_lt (Array.getElem?_eq_some_iff.mp h).1]; exact (Array.getElem?_eq_getElem _).symm.trans h⟩
    have Ar : Arr Z (T.heap.push { cls := cA, slots := Array.replicate cnt.toNatClampNeg (defaultValue (newarray.typeOf aty)), vm := .none }) T.heap.size { cls := cA, slots := Array.replicate cnt.toNatClampNeg (defaultValue (newarray.typeOf aty)), vm := .none } (newarray.typeOf aty) :=
      ⟨by simp, ⟨by simp, kZ, z1, comp, by rw [← h3, z3]⟩, by simp⟩
    have hc0 : CelOk Z C lay ad (T.heap.push { cls := cA, slots := Array.replicate cnt.toNatClampNeg (defaultValue (newarray.typeOf aty)), vm := .none }) T.heap.size c0 := by
      rcases h0 with ⟨rfl, rfl⟩ | ⟨rfl, rfl⟩ | ⟨rfl, rfl⟩
      all_goals exact ⟨_, Ar, by simp [defaultValue, newarray.typeOf]⟩
    have P := hr.push (h' := T.heap.push _) (by simp) hE hc0
    refine ⟨_, locs, X', P.1, P.2.1, N, fun t ht => st t ?_⟩
    have e0 : (List.map (rf ad) (.ref H.length :: S)) = .ref T.heap.size :: S.map (rf ad) := by show (Value.ref (ad H.length) :: _) = _; rw [P.2.2]
    rw [e0] at ht; exact ht) nx
theorem rf_default (ad : Nat → Addr) (ty : FieldType) : rf ad (defaultValue ty) = defaultValue ty := by cases ty <;> rfl
/-- new -/
theorem WP.new {idx kk : Nat} {vs : List Value} (hd : decode bytes pc = .ok (.new idx, 3)) (hw : (Cond.classLink own idx C).before a0 Z = true) (wi : (Cond.instantiable C kk).before a0 Z = true) (wz : (Cond.initialized C).before a0 Z = true) (hc : k + 1 ≤ R.cells) (hl : n + kk ≤ R.slots)
    (h0 : ∀ (i : Nat) (f : String × String) (v : Value), lay[i]? = some f → vs[i]? = some v → Laid Z a0 C C f.1 f.2 ∧ ∃ ty, parseFieldDescriptor f.2 = some ty ∧ v = defaultValue ty)
    (nx : WP l Z C lay own mn bytes maxL ret R n0 ro Q (k + 1) (n + kk) (pc + 3) L (.ref H.length :: S) (H ++ [.inl vs])) : WP l Z C lay own mn bytes maxL ret R n0 ro Q k n pc L S H :=
  WP.moved (fun p e s m args below meth c T locs ad Ls X A hr N hL hz => by
    obtain ⟨vm', cC, kC, h1, h2, h3, h4, X', st⟩ := X.newCold A.1 A.2.2.2.2.2.2.1 (mv A.2.1 hw) (mv A.2.1 wi) (mv A.2.1 wz) (g := mkF m pc Ls (S.map (rf ad))) rfl (hb A.2.2.1 hd) hc hl
    rw [A.2.1.alike.findClass] at h1
    obtain ⟨kZ, z1, -⟩ := Vm.findClass_spec h1
    obtain ⟨k', z2, z3⟩ := A.2.1.alike.2.2 _ _ z1
    cases h2.symm.trans z2
    have ei : kC.instanceTypes = kZ.instanceTypes := by rw [z3]
    have hN : (T.heap.push { cls := cC, slots := kC.instanceTypes.map defaultValue, vm := .none })[T.heap.size]? = some { cls := cC, slots := kC.instanceTypes.map defaultValue, vm := .none } := by simp
    have hE : Ext T.heap (T.heap.push { cls := cC, slots := kC.instanceTypes.map defaultValue, vm := .none }) := ⟨by simp, fun a c h => by
      rw [Array.getElem?_push_lt (Array.getElem?_eq_some_iff.mp h).1]; exact (Array.getElem?_eq_getElem _).symm.trans h⟩
    have hc0 : CelOk Z C lay ad (T.heap.push { cls := cC, slots := kC.instanceTypes.map defaultValue, vm := .none }) T.heap.size (.inl vs) := by
      refine ⟨⟨_, kZ, hN, h1, z1, rfl, fun _ => by simp [ei]⟩, fun i f v hf hv => ?_⟩
      obtain ⟨La, ty, ht, rfl⟩ := h0 i f v hf hv
      obtain ⟨c1, k1, cf, kf, i1, f1, a1, a2, a3, a4, a5, a6, -⟩ := La.spec
      cases h1.symm.trans a1
      cases z1.symm.trans a2
      rw [rf_default]
      exact ⟨_, cf, kf, i1, f1, hN, a3, a4, by simp, rfl, a5, by simp [ei, a6, (State.fieldFound?_type a3 ht).2]⟩
    have P := hr.push (h' := T.heap.push _) (by simp) hE hc0
    refine ⟨_, locs, X', P.1, P.2.1, N, fun t ht => st t ?_⟩
    have e0 : (List.map (rf ad) (.ref H.length :: S)) = .ref T.heap.size :: S.map (rf ad) := by show (Value.ref (ad H.length) :: _) = _; rw [P.2.2]
    rw [e0] at ht; exact ht) nx
/-- Object.<init> -/
theorem WP.initO {idx i : Nat} (hd : decode bytes pc = .ok (.invokespecial idx, 3)) (w1 : (Cond.methodLink own idx Lib.objectInit).before a0 Z = true) (w2 : (Cond.instanceMethod Lib.objectInit).before a0 Z = true) (w3 : (Cond.code Lib.objectInit ⟨#[0xb1]⟩ 1 none).before a0 Z = true) (hf : 1 ≤ R.frames) (hl : (S.map fun v => v.category).sum + 12 ≤ R.locals)
    (nx : WP l Z C lay own mn bytes maxL ret R n0 ro Q k n (pc + 3) L S H) : WP l Z C lay own mn bytes maxL ret R n0 ro Q k n pc L (.ref i :: S) H :=
  WP.moved (fun p e s m args below meth c T locs ad Ls X A hr N hL hz => by
    obtain ⟨T', X', e', st⟩ := RoadKit.initO X A.1 A.2.1 A.2.2.2.2.2.2.1 w1 w2 w3 rfl (g := mkF m pc Ls (.ref (ad i) :: S.map (rf ad))) rfl (hz.trans A.2.2.2.1.symm) rfl (hb A.2.2.1 hd) hf (W := (S.map fun v => v.category).sum) (by show 2 * 0 + _ ≤ _; rw [rf_cats]; omega) hl
    exact ⟨T', locs, X', by rw [e']; exact hr, by rw [e']; exact Kp.refl _ _ _, N, fun t ht => st t ht⟩) nx
theorem WP.leave {v : Option Value} (hk : k ≤ R.cells) (hn : n ≤ R.slots) (hv : ret = none → v = none) (hq : Q v H)
    (hs : ∀ (p : Program) (e : Env) (s : State) (m : MethodId) (args : Array Value) (below : List Frame) (meth : Method) (c : Code) (T : State) (locs : List Loc) (ad : Nat → Addr) (Ls : Array Slot) (fs : List Frame), Stand p l e R s m args below meth c T locs k n → Am Z own mn bytes maxL ret p s m meth c →
      (∀ (f : JFrame) (acts : List Action), f.method = m → f.locked = none → f.entered = [] → (doReturn e (T.setTop f) acts (v.map (rf ad))).1 = T.setFrames fs) → Steps p.tables e below (T.setTop (mkF m pc Ls (S.map (rf ad)))) (T.setFrames fs)) : WP l Z C lay own mn bytes maxL ret R n0 ro Q k n pc L S H := by
  intro p e s m args below meth c T locs ad Ls X A hr N hL hz
  obtain ⟨fs, hr', hrun, hended, hW, hsame⟩ := X.leave (v := v.map (rf ad)) (fun q => by rw [hv (A.2.2.2.2.1.symm.trans q)]; rfl) A.2.2.2.2.2.1
  exact ⟨_, v, H, locs, hs p e s m args below meth c T locs ad Ls fs X A hr', hrun, hended, hq, hr, Kp.refl _ _ _, N, ⟨_, rfl⟩, hW, hsame.mono hk hn⟩
theorem retI' {p : Program} {e : Env} {s : State} {m : MethodId} {args : Array Value} {below : List Frame} {meth : Method} {c : Code} {T : State} {locs : List Loc} {cells slots : Nat} (X : Stand p l e R s m args below meth c T locs cells slots) (hx : p.tables.exec = Jvm.exec) {pc : Nat} {Ls : Array Slot} {z : Int32} {rest : List Value} (hret : meth.sig.returnType = some .int) (hd : decode c.code pc = .ok (.ireturn, 1)) {fs : List Frame}
    (hl : ∀ (f : JFrame) (acts : List Action), f.method = m → f.locked = none → f.entered = [] → (doReturn e (T.setTop f) acts (some (.int z))).1 = T.setFrames fs) : Steps p.tables e below (T.setTop (mkF m pc Ls (.int z :: rest))) (T.setFrames fs) := by
  have hm' : T.vm.method? m = some meth := X.method'
  have hn : narrow .int (.int z) = .int z := rfl
  show Steps p.tables e below (T.setTop { method := m, pc := pc, locals := Ls, stack := _ :: rest, locked := none }) _
  jvm_step X.here [X.here.top, hx, hd, hm', hret, hn]
  first | (intro acts; rw [hl _ acts rfl rfl rfl]) | rw [hl _ _ rfl rfl rfl]
  exact Steps.refl _
theorem WP.ireturn {x : Int32} (hd : decode bytes pc = .ok (.ireturn, 1)) (hret : ret = some .int) (hk : k ≤ R.cells) (hn : n ≤ R.slots) (hq : Q (some (.int x)) H) : WP l Z C lay own mn bytes maxL ret R n0 ro Q k n pc L (.int x :: S) H :=
  WP.leave (v := some (.int x)) hk hn (fun q => by rw [hret] at q; cases q) hq fun p e s m args below meth c T locs ad Ls fs X A hr' => retI' X A.1 (A.2.2.2.2.1.trans hret) (hb A.2.2.1 hd) hr'
theorem WP.zreturn {x : Int32} (hd : decode bytes pc = .ok (.ireturn, 1)) (hret : ret = some .boolean) (hk : k ≤ R.cells) (hn : n ≤ R.slots) (hq : Q (some (.int (x &&& 1))) H) : WP l Z C lay own mn bytes maxL ret R n0 ro Q k n pc L (.int x :: S) H :=
  WP.leave (v := some (.int (x &&& 1))) hk hn (fun q => by rw [hret] at q; cases q) hq fun p e s m args below meth c T locs ad Ls fs X A hr' => retN X A.1 (t := .boolean) (A.2.2.2.2.1.trans hret) (Or.inl rfl) (hb A.2.2.1 hd) hr'
theorem WP.lreturn {x : Int64} (hd : decode bytes pc = .ok (.lreturn, 1)) (hret : ret = some .long) (hk : k ≤ R.cells) (hn : n ≤ R.slots) (hq : Q (some (.long x)) H) : WP l Z C lay own mn bytes maxL ret R n0 ro Q k n pc L [.long x] H :=
  WP.leave (v := some (.long x)) hk hn (fun q => by rw [hret] at q; cases q) hq fun p e s m args below meth c T locs ad Ls fs X A hr' => X.lreturnOut A.1 (A.2.2.2.2.1.trans hret) (hb A.2.2.1 hd) hr'
theorem WP.vreturn (hd : decode bytes pc = .ok (.return_, 1)) (hret : ret = none) (hk : k ≤ R.cells) (hn : n ≤ R.slots) (hq : Q none H) : WP l Z C lay own mn bytes maxL ret R n0 ro Q k n pc L [] H :=
  WP.leave (v := none) hk hn (fun _ => rfl) hq fun p e s m args below meth c T locs ad Ls fs X A hr' => X.returnOut A.1 (A.2.2.2.2.1.trans hret) (hb A.2.2.1 hd) hr'
end Rules
/-! ## a callee's promise, said of the small view -/
def QQ (Z : State) (C : String) (lay : List (String × String)) (n0 ro : Nat) (ad : Nat → Addr) (N : Nat) (h : Heap) (Q : Option Value → List OwnC → Prop) (v : Option Value) (h' : Heap) (L : List Loc) : Prop :=
  ∃ w H', v = w.map (rf ad) ∧ Q w H' ∧ HR Z C lay n0 ro ad H' h' ∧ Kp ad N h h' ∧ Fr n0 L
def CS (l : Launch) (Z : State) (C : String) (lay : List (String × String)) (y : MethodName) (bytes : ByteArray) (maxL : Nat) (ret : Option FieldType) (R : Room) (ro : Nat) (as : List Value) (H : List OwnC) (Q : Option Value → List OwnC → Prop) : Prop :=
  ∀ (ws : List Cond) (n0 : Nat) (ad : Nat → Addr) (h : Heap), HR Z C lay n0 ro ad H h →
    MetFree l y (head1 (Cond.code y bytes maxL ret :: ws) R) (fun a U => a = (as.map (rf ad)).toArray ∧ Z.Warmed39 U.vm ∧ U.heap = h) (fun _ _ _ _ _ => True)
      (fun _ U o U' => ∃ v L, o = .returned v ∧ QQ Z C lay n0 ro ad H.length h Q v U'.heap L ∧ FrameEnd U o U' L R.cells R.slots)
section Calls
variable {l : Launch} {Z : State} {a0 : Array Value} {C : String} {lay : List (String × String)} {own mn : String} {bytes cb : ByteArray} {maxL cm : Nat} {ret cr : Option FieldType} {R Rc : Room} {n0 ro : Nat} {Q Qc : Option Value → List OwnC → Prop} {k n pc pc' : Nat} {L L' : List Slot} {S S0 as : List Value} {H H' : List OwnC} {y : MethodName}
theorem CS.of_wp (hx : plainName y.cls = true) (hn : (laid as).length ≤ maxL) (w : ∀ n0, WP l Z C lay y.cls y.name bytes maxL ret R n0 ro Q 0 0 0 (entL as maxL) [] H) : CS l Z C lay y bytes maxL ret R ro as H Q := by
  intro ws n0 ad h hr
  refine MetFree.of_bodySF (plainFor_of_name hx) hisR ?_
  intro p e s m args below meth c s₁ Bd hml0 hP hK
  obtain ⟨rfl, hZ, hh⟩ := hP
  have e0 : s₁.heap = h := by rw [← hh, Bd.state]; rfl
  obtain ⟨E1, E2⟩ := entry_LR ad as maxL hn
  obtain ⟨s₂, v, H', locs', h1, h2, h3, h4, h5, h6, h7, h8⟩ := w n0 p e s m _ below meth c s₁ [] ad _ (Stand.of_body Bd) ⟨Bd.exec, hZ, Bd.bytes, hml0, Bd.returns, Bd.notSynchronized, findClass_of_methodNamed Bd.named, (name_of_methodNamed Bd.named Bd.method).1⟩ (by rw [e0]; exact hr) (Fr.nil n0) E1 E2
  rw [e0] at h6
  exact ⟨s₂, _, h1, h2, h3, _, locs', rfl, ⟨v, H', rfl, h4, h5, h6, h7⟩, h8⟩
theorem CS.mono (cs : CS l Z C lay y bytes maxL ret R ro as H Q) (h : ∀ v H', Q v H' → Qc v H') : CS l Z C lay y bytes maxL ret R ro as H Qc := by
  intro ws n0 ad hh hr p e ha hc hk s m args below hf happ hP hK
  obtain ⟨N, o, h1, h2, h3, v, L, h4, ⟨w, H', g1, g2, g3⟩, h5⟩ := cs ws n0 ad hh hr p e ha hc hk s m args below hf happ hP hK
  exact ⟨N, o, h1, h2, h3, v, L, h4, ⟨w, H', g1, h _ _ g2, g3⟩, h5⟩
/-- what every call leaves: the walk goes on behind it -/
theorem go_on {p : Program} {e : Env} {s : State} {m : MethodId} {args : Array Value} {below : List Frame} {meth : Method} {c : Code} {T : State} {locs : List Loc} {ad : Nat → Addr} {Ls : Array Slot} {B : Pt} {v : Option Value} {Lc : List Loc} {s₀ : State}
    (nx : ∀ v H', Qc v H' → WP l Z C lay own mn bytes maxL ret R n0 ro Q (k + Rc.cells) (n + Rc.slots) (pc + 3) L (v.toList ++ S) H') (X : Stand p l e R s m args below meth c B.U B.locs B.cells B.slots) (A : Am Z own mn bytes maxL ret p s m meth c) (hr : HR Z C lay n0 ro ad H T.heap) (N : Fr n0 locs) (hL : LR ad L Ls) (hz : Ls.size = maxL)
    (hQ : QQ Z C lay n0 ro ad H.length T.heap Qc v B.U.heap Lc) (e1 : B.locs = locs ++ Lc) (e2 : B.cells = k + Rc.cells) (e3 : B.slots = n + Rc.slots) (st : Steps p.tables e below s₀ (B.U.setTop (mkF m (pc + 3) Ls (v.toList ++ S.map (rf ad))))) :
    ∃ (s₂ : State) (v : Option Value) (H' : List OwnC) (locs' : List Loc), Steps p.tables e below s₀ s₂ ∧ s₂.status = .running ∧ Ended s₂ below (.returned (v.map (rf ad))) ∧ Q v H' ∧ HR Z C lay n0 ro ad H' s₂.heap ∧ Kp ad H.length T.heap s₂.heap ∧ Fr n0 locs' ∧ FrameEnd s (.returned (v.map (rf ad))) s₂ locs' R.cells R.slots := by
  obtain ⟨w, H1, rfl, g2, g3, g4, g5⟩ := hQ
  rw [e1, e2, e3] at X
  obtain ⟨s₂, v, H2, locs2, h1, h2, h3, h4, h5, h6, h7⟩ := nx w H1 g2 p e s m args below meth c B.U _ ad Ls X A g3 (N.app g5) hL hz
  refine ⟨s₂, v, H2, locs2, st.trans ?_, h2, h3, h4, h5, Kp.trans hr g4 h6, h7⟩
  have e0 : (w.toList ++ S).map (rf ad) = (w.map (rf ad)).toList ++ S.map (rf ad) := by cases w <;> rfl
  rw [← e0]; exact h1
theorem stack_of (ad : Nat → Addr) (h : S0 = as.reverse ++ S) : S0.map (rf ad) = (as.map (rf ad)).reverse ++ S.map (rf ad) := by rw [h, List.map_append, List.map_reverse]
theorem stack_of1 {i : Nat} (ad : Nat → Addr) (h : S0 = as.reverse ++ .ref i :: S) : S0.map (rf ad) = (as.map (rf ad)).reverse ++ .ref (ad i) :: S.map (rf ad) := by rw [h, List.map_append, List.map_reverse]; rfl
theorem WP.callS {idx : Nat} (hd : decode bytes pc = .ok (.invokestatic idx, 3)) (w1 : (Cond.methodLink own idx y).before a0 Z = true) (w2 : (Cond.static y).before a0 Z = true) (w3 : (Cond.initialized y.cls).before a0 Z = true) (w4 : (Cond.code y cb cm cr).before a0 Z = true) (hy : y.cls ≠ "java/lang/invoke/MethodHandle" ∧ y.cls ≠ "java/lang/invoke/VarHandle")
    (cs : CS l Z C lay y cb cm cr Rc ro as H Qc) (hS : S0 = as.reverse ++ S) (hlen : ∀ sig, parseMethodDescriptor y.desc = some sig → as.length = sig.parameters.length) (hf : Rc.frames + 1 ≤ R.frames) (hl : (S.map fun v => v.category).sum + (cm + 11) + Rc.locals ≤ R.locals) (hc : k + Rc.cells ≤ R.cells) (hs : n + Rc.slots ≤ R.slots)
    (nx : ∀ v H', Qc v H' → WP l Z C lay own mn bytes maxL ret R n0 ro Q (k + Rc.cells) (n + Rc.slots) (pc + 3) L (v.toList ++ S) H') : WP l Z C lay own mn bytes maxL ret R n0 ro Q k n pc L S0 H := by
  intro p e s m args below meth c T locs ad Ls X A hr N hL hz
  obtain ⟨v, vm₁, B, hW₁, X', ⟨Lc, hQ, e1, e2, e3⟩, st⟩ := Jvm.LawKit.callS X A.1 (y := y) A.2.2.2.2.2.2.1 (mvT A.2.1 w1) (mvT A.2.1 w2) (mvT A.2.1 w3) (mvT A.2.1 w4) hy
    (backOf (W := (S.map fun v => v.category).sum) (cs [] n0 ad T.heap hr) A.2.1 w4 w3 hf hl) (g := mkF m pc Ls (S0.map (rf ad))) rfl (hz.trans A.2.2.2.1.symm) (argsL := as.map (rf ad)) (rest := S.map (rf ad)) (fun sig q => by rw [List.length_map]; exact hlen sig q) (stack_of ad hS) (by show 2 * 0 + _ ≤ _; rw [rf_cats]; omega) (hb A.2.2.1 hd) (fun _ _ => ⟨rfl, rfl, hc, hs⟩)
  exact go_on (T := T) nx X' A hr N hL hz hQ e1 e2 e3 (st _ (Steps.refl _))
theorem WP.callV {idx i : Nat} {vs : List Value} (hd : decode bytes pc = .ok (.invokevirtual idx, 3)) (w1 : (Cond.methodLink own idx y).before a0 Z = true) (w2 : (Cond.declares y).before a0 Z = true) (w3 : (Cond.selects C y y).before a0 Z = true) (w4 : (Cond.instanceMethod y).before a0 Z = true) (w5 : (Cond.code y cb cm cr).before a0 Z = true) (w6 : (Cond.initialized y.cls).before a0 Z = true) (hy : y.cls ≠ "java/lang/invoke/MethodHandle" ∧ y.cls ≠ "java/lang/invoke/VarHandle")
    (hH : H[i]? = some (.inl vs)) (cs : CS l Z C lay y cb cm cr Rc ro (.ref i :: as) H Qc) (hS : S0 = as.reverse ++ .ref i :: S) (hlen : ∀ sig, parseMethodDescriptor y.desc = some sig → as.length = sig.parameters.length) (hf : Rc.frames + 1 ≤ R.frames) (hl : (S.map fun v => v.category).sum + (cm + 11) + Rc.locals ≤ R.locals) (hc : k + Rc.cells ≤ R.cells) (hs : n + Rc.slots ≤ R.slots)
    (nx : ∀ v H', Qc v H' → WP l Z C lay own mn bytes maxL ret R n0 ro Q (k + Rc.cells) (n + Rc.slots) (pc + 3) L (v.toList ++ S) H') : WP l Z C lay own mn bytes maxL ret R n0 ro Q k n pc L S0 H := by
  intro p e s m args below meth c T locs ad Ls X A hr N hL hz
  obtain ⟨cq, kq, qa, qb, qc⟩ := isOf A.2.1 rfl (hr.1 i _ hH).1
  obtain ⟨v, vm₁, B, hW₁, X', ⟨Lc, hQ, e1, e2, e3⟩, st⟩ := X.virtualBack A.1 (y := y) (z := y) A.2.2.2.2.2.2.1 (mvT A.2.1 w1) (mvT A.2.1 w2) (notFace_of_selects (args := #[]) (mvT A.2.1 w3)) (mvT A.2.1 w3) (mvT A.2.1 w4) hy
    (backOf (W := (S.map fun v => v.category).sum) (cs [] n0 ad T.heap hr) A.2.1 w5 w6 hf hl) qa qc (g := mkF m pc Ls (S0.map (rf ad))) rfl (hz.trans A.2.2.2.1.symm) (Steps.refl _) (argsL := as.map (rf ad)) (rest := S.map (rf ad)) (fun sig q => by rw [List.length_map]; exact hlen sig q) (stack_of1 ad hS) (by show 2 * 0 + _ ≤ _; rw [rf_cats]; omega) (hb A.2.2.1 hd) (fun _ _ => ⟨rfl, rfl, hc, hs⟩)
  exact go_on (T := T) nx X' A hr N hL hz hQ e1 e2 e3 st
theorem WP.callP {idx i kk : Nat} {vs : List Value} (hd : decode bytes pc = .ok (.invokevirtual idx, 3)) (w1 : (Cond.methodLink own idx y).before a0 Z = true) (w2 : (Cond.privateMethod y).before a0 Z = true) (wi : (Cond.instantiable y.cls kk).before a0 Z = true) (w4 : (Cond.instanceMethod y).before a0 Z = true) (w5 : (Cond.code y cb cm cr).before a0 Z = true) (w6 : (Cond.initialized y.cls).before a0 Z = true) (hy : y.cls ≠ "java/lang/invoke/MethodHandle" ∧ y.cls ≠ "java/lang/invoke/VarHandle")
    (hH : H[i]? = some (.inl vs)) (cs : CS l Z C lay y cb cm cr Rc ro (.ref i :: as) H Qc) (hS : S0 = as.reverse ++ .ref i :: S) (hlen : ∀ sig, parseMethodDescriptor y.desc = some sig → as.length = sig.parameters.length) (hf : Rc.frames + 1 ≤ R.frames) (hl : (S.map fun v => v.category).sum + (cm + 11) + Rc.locals ≤ R.locals) (hc : k + Rc.cells ≤ R.cells) (hs : n + Rc.slots ≤ R.slots)
    (nx : ∀ v H', Qc v H' → WP l Z C lay own mn bytes maxL ret R n0 ro Q (k + Rc.cells) (n + Rc.slots) (pc + 3) L (v.toList ++ S) H') : WP l Z C lay own mn bytes maxL ret R n0 ro Q k n pc L S0 H := by
  intro p e s m args below meth c T locs ad Ls X A hr N hL hz
  obtain ⟨cq, q, q'⟩ := (hr.1 i _ hH).1.cell
  have hpr : s.PrivateAt y := Cond.privateMethod_at (mvP A.2.1 w2 (args := #[]))
  have hin : (Cond.instanceMethod y).before args s = true := mvT A.2.1 w4
  have hsel : (Cond.selects y.cls y y).before args s = true := by
    have wi' : (Cond.instantiable y.cls kk).before args s = true := mvT A.2.1 wi
    obtain ⟨c1, k1, g1, g2, g3, g4, -⟩ := Cond.instantiable_spec wi'
    have g5 : k1.isInterface = false := by
      cases hq : k1.isInterface
      · rfl
      · rw [hq] at g4; cases g4
    exact selects_self_of_private g1 g2 g5 hpr hin hy
  obtain ⟨v, vm₁, B, hW₁, X', ⟨Lc, hQ, e1, e2, e3⟩, st⟩ := X.privateBack A.1 (y := y) A.2.2.2.2.2.2.1 (mvT A.2.1 w1) hin hsel hpr (mvT A.2.1 w5) hy
    (backOf (W := (S.map fun v => v.category).sum) (cs [] n0 ad T.heap hr) A.2.1 w5 w6 hf hl) (g := mkF m pc Ls (S0.map (rf ad))) rfl (hz.trans A.2.2.2.1.symm) (Steps.refl _) q q' (argsL := as.map (rf ad)) (rest := S.map (rf ad)) (fun sig q => by rw [List.length_map]; exact hlen sig q) (stack_of1 ad hS) (by show 2 * 0 + _ ≤ _; rw [rf_cats]; omega) (hb A.2.2.1 hd) (fun _ _ => ⟨rfl, rfl, hc, hs⟩)
  exact go_on (T := T) nx X' A hr N hL hz hQ e1 e2 e3 st
theorem WP.callI {idx i : Nat} (hd : decode bytes pc = .ok (.invokespecial idx, 3)) (hn1 : y.name = "<init>") (w1 : (Cond.methodLink own idx y).before a0 Z = true) (w4 : (Cond.instanceMethod y).before a0 Z = true) (w5 : (Cond.code y cb cm none).before a0 Z = true) (w6 : (Cond.initialized y.cls).before a0 Z = true) (hy : y.cls ≠ "java/lang/invoke/MethodHandle" ∧ y.cls ≠ "java/lang/invoke/VarHandle")
    (cs : CS l Z C lay y cb cm none Rc ro (.ref i :: as) H Qc) (hS : S0 = as.reverse ++ .ref i :: S) (hlen : ∀ sig, parseMethodDescriptor y.desc = some sig → as.length = sig.parameters.length) (hf : Rc.frames + 1 ≤ R.frames) (hl : (S.map fun v => v.category).sum + (cm + 11) + Rc.locals ≤ R.locals) (hc : k + Rc.cells ≤ R.cells) (hs : n + Rc.slots ≤ R.slots)
    (nx : ∀ v H', Qc v H' → WP l Z C lay own mn bytes maxL ret R n0 ro Q (k + Rc.cells) (n + Rc.slots) (pc + 3) L (v.toList ++ S) H') : WP l Z C lay own mn bytes maxL ret R n0 ro Q k n pc L S0 H := by
  intro p e s m args below meth c T locs ad Ls X A hr N hL hz
  obtain ⟨v, vm₁, B, hW₁, X', ⟨Lc, hQ, e1, e2, e3⟩, st⟩ := X.specialBack A.1 (y := y) hn1 A.2.2.2.2.2.2.1 (mvT A.2.1 w1) (mvT A.2.1 w4) (mvT A.2.1 w5) hy
    (backOf (W := (S.map fun v => v.category).sum) (cs [] n0 ad T.heap hr) A.2.1 w5 w6 hf hl) (g := mkF m pc Ls (S0.map (rf ad))) rfl (hz.trans A.2.2.2.1.symm) (Steps.refl _) (a := ad i) (argsL := as.map (rf ad)) (rest := S.map (rf ad)) (fun sig q => by rw [List.length_map]; exact hlen sig q) (stack_of1 ad hS) (by show 2 * 0 + _ ≤ _; rw [rf_cats]; omega) (hb A.2.2.1 hd) (fun _ _ => ⟨rfl, rfl, hc, hs⟩)
  exact go_on (T := T) nx X' A hr N hL hz hQ e1 e2 e3 st
end Calls
/-! ## a callee that sees a part of the heap -/
def rn (ρ : Nat → Nat) : Value → Value
  | .ref i => .ref (ρ i)
  | .int x => .int x
  | .long x => .long x
  | .float x => .float x
  | .double x => .double x
  | .null => .null
  | .retAddr x => .retAddr x
theorem rf_rn (ad : Nat → Addr) (ρ : Nat → Nat) (v : Value) : rf ad (rn ρ v) = rf (fun j => ad (ρ j)) v := by cases v <;> rfl
def rnC (ρ : Nat → Nat) : OwnC → OwnC
  | .inl vs => .inl (vs.map (rn ρ))
  | .inr x => .inr x
theorem CelOk_rn {Z : State} {C : String} {lay : List (String × String)} {ad : Nat → Addr} {ρ : Nat → Nat} {h : Heap} {a : Addr} {c : OwnC} : CelOk Z C lay ad h a (rnC ρ c) ↔ CelOk Z C lay (fun j => ad (ρ j)) h a c := by
  rcases c with vs | xs | xs | xs
  · constructor
    · rintro ⟨E, F⟩
      refine ⟨E, fun i f v hf hv => ?_⟩
      have := F i f (rn ρ v) hf (by rw [List.getElem?_map, hv]; rfl)
      rwa [rf_rn] at this
    · rintro ⟨E, F⟩
      refine ⟨E, fun i f v hf hv => ?_⟩
      rw [List.getElem?_map] at hv
      obtain ⟨w, hw, rfl⟩ := Option.map_eq_some_iff.mp hv
      rw [rf_rn]; exact F i f w hf hw
  all_goals exact Iff.rfl
def patch (ρ : Nat → Nat) : List Nat → List OwnC → List OwnC → List OwnC
  | [], D, H => H ++ D.map (rnC ρ)
  | i :: is, c :: D, H => patch ρ is D (H.set i (rnC ρ c))
  | _ :: _, [], H => H
theorem patch_seg (ρ : Nat → Nat) : ∀ (D B A C : List OwnC), B.length = D.length → patch ρ (List.range' A.length D.length) D (A ++ (B ++ C)) = A ++ (D.map (rnC ρ) ++ C)
  | [], B, A, C, h => by
    obtain rfl : B = [] := List.eq_nil_of_length_eq_zero h
    simp [patch]
  | d :: D, [], A, C, h => by simp at h
  | d :: D, b :: B, A, C, h => by
    have h' : B.length = D.length := by simpa using h
    have ih := patch_seg ρ D B (A ++ [rnC ρ d]) C h'
    rw [List.length_append] at ih
    show patch ρ (List.range' (A.length + 1) D.length) D ((A ++ (b :: B ++ C)).set A.length (rnC ρ d)) = _
    rw [List.set_append_right _ _ (Nat.le_refl _), Nat.sub_self]
    simpa using ih
theorem patch_len (ρ : Nat → Nat) : ∀ (foot : List Nat) (D H : List OwnC), foot.length ≤ D.length → (patch ρ foot D H).length = H.length + (D.length - foot.length)
  | [], D, H, _ => by simp [patch]
  | i :: is, [], H, h => by simp at h
  | i :: is, c :: D, H, h => by
    show (patch ρ is D (H.set i (rnC ρ c))).length = _
    rw [patch_len ρ is D _ (by simpa using h)]; simp
theorem patch_out (ρ : Nat → Nat) : ∀ (foot : List Nat) (D H : List OwnC) (i : Nat), i < H.length → i ∉ foot → (patch ρ foot D H)[i]? = H[i]?
  | [], D, H, i, hi, _ => by simp [patch, List.getElem?_append_left hi]
  | j :: is, [], H, i, _, _ => rfl
  | j :: is, c :: D, H, i, hi, hn => by
    show (patch ρ is D (H.set j (rnC ρ c)))[i]? = _
    rw [patch_out ρ is D _ i (by simpa using hi) (fun q => hn (List.mem_cons_of_mem _ q)), List.getElem?_set_ne (fun q => hn (by rw [q]; exact List.mem_cons_self ..))]
theorem patch_new (ρ : Nat → Nat) : ∀ (foot : List Nat) (D H : List OwnC) (t : Nat), foot.length ≤ D.length → (patch ρ foot D H)[H.length + t]? = (D[foot.length + t]?).map (rnC ρ)
  | [], D, H, t, _ => by simp [patch, List.getElem?_append_right (Nat.le_add_right _ _)]
  | i :: is, [], H, _, h => by simp at h
  | i :: is, c :: D, H, t, h => by
    show (patch ρ is D (H.set i (rnC ρ c)))[H.length + t]? = _
    have := patch_new ρ is D (H.set i (rnC ρ c)) t (by simpa using h)
    rw [List.length_set] at this
    rw [this]; simp [Nat.add_right_comm _ 1 t]
theorem patch_in (ρ : Nat → Nat) : ∀ (foot : List Nat) (D H : List OwnC) (j i : Nat), foot.Nodup → (∀ x ∈ foot, x < H.length) → foot[j]? = some i → foot.length ≤ D.length → (patch ρ foot D H)[i]? = (D[j]?).map (rnC ρ)
  | [], D, H, j, i, _, _, h, _ => by simp at h
  | x :: is, [], H, j, i, _, _, _, h => by simp at h
  | x :: is, c :: D, H, 0, i, nd, hl, h, _ => by
    obtain rfl : x = i := by simpa using h
    show (patch ρ is D (H.set x (rnC ρ c)))[x]? = _
    rw [patch_out ρ is D _ x (by simpa using hl x (List.mem_cons_self ..)) (List.nodup_cons.mp nd).1]
    simp [hl x (List.mem_cons_self ..)]
  | x :: is, c :: D, H, j + 1, i, nd, hl, h, hd => by
    show (patch ρ is D (H.set x (rnC ρ c)))[i]? = _
    rw [patch_in ρ is D _ j i (List.nodup_cons.mp nd).2 (fun y hy => by simpa using hl y (List.mem_cons_of_mem _ hy)) (by simpa using h) (by simpa using hd)]
    simp
def ro1 (foot : List Nat) (N : Nat) (j : Nat) : Nat := if j < foot.length then foot.getD j 0 else N + (j - foot.length)
theorem ro1_in {foot : List Nat} {N j i : Nat} (h : foot[j]? = some i) : ro1 foot N j = i := by
  have hj := get_lt h
  unfold ro1
  rw [if_pos hj, List.getD_eq_getElem?_getD, h]; rfl
theorem ro1_new (foot : List Nat) (N t : Nat) : ro1 foot N (foot.length + t) = N + t := by
  unfold ro1
  rw [if_neg (by omega)]; omega
theorem CS.frame {l : Launch} {Z : State} {C : String} {lay : List (String × String)} {y : MethodName} {bytes : ByteArray} {maxL : Nat} {ret : Option FieldType} {R : Room} {ro roc : Nat} {as asc : List Value} {H Hc : List OwnC} {Qc : Option Value → List OwnC → Prop} (foot : List Nat)
    (cs : CS l Z C lay y bytes maxL ret R roc asc Hc Qc) (hlen : Hc.length = foot.length) (hnd : foot.Nodup) (hlt : ∀ x ∈ foot, x < H.length) (hcell : foot.map (fun i => H[i]?) = Hc.map (fun c => some (rnC (ro1 foot H.length) c))) (hro : ∀ x ∈ foot.drop roc, ro ≤ x) (has : asc.map (rn (ro1 foot H.length)) = as) :
    CS l Z C lay y bytes maxL ret R ro as H (fun v H' => ∃ vc D, Qc vc D ∧ v = vc.map (rn (ro1 foot H.length)) ∧ H' = patch (ro1 foot H.length) foot D H) := by
  intro ws n0 ad h hr
  obtain ⟨r1, r2, r3, r4, r5⟩ := hr
  have cellAt : ∀ (j i : Nat), foot[j]? = some i → ∃ c, Hc[j]? = some c ∧ H[i]? = some (rnC (ro1 foot H.length) c) := fun j i hj => by
    have h1 : (foot.map (fun i => H[i]?))[j]? = some H[i]? := by rw [List.getElem?_map, hj]; rfl
    rw [hcell, List.getElem?_map] at h1
    obtain ⟨c, e1, e2⟩ := Option.map_eq_some_iff.mp h1
    exact ⟨c, e1, e2.symm⟩
  have idx : ∀ j : Nat, j < foot.length → ∃ i, foot[j]? = some i ∧ i < H.length := fun j hj => ⟨_, List.getElem?_eq_getElem hj, hlt _ (List.getElem_mem hj)⟩
  have hrc : HR Z C lay n0 roc (fun j => ad (ro1 foot H.length j)) Hc h := by
    refine ⟨fun j c hj => ?_, fun i j hi hj q => ?_, fun t => ?_, fun j hj hr => ?_, r5⟩
    · obtain ⟨i, e1, e2⟩ := idx j (hlen ▸ get_lt hj)
      obtain ⟨c', g1, g2⟩ := cellAt j i e1
      cases g1.symm.trans hj
      show CelOk Z C lay (fun j => ad (ro1 foot H.length j)) h (ad (ro1 foot H.length j)) c
      rw [ro1_in e1]
      exact CelOk_rn.mp (r1 i _ g2)
    · rw [hlen] at hi hj
      obtain ⟨i', e1, e2⟩ := idx i hi
      obtain ⟨j', g1, g2⟩ := idx j hj
      dsimp only at q
      rw [ro1_in e1, ro1_in g1] at q
      have q' := r2 _ _ e2 g2 q
      subst q'
      exact (List.getElem?_inj hi hnd).mp (e1.trans g1.symm)
    · dsimp only
      rw [hlen, ro1_new]; exact r3 t
    · rw [hlen] at hj
      obtain ⟨i', e1, e2⟩ := idx j hj
      dsimp only
      rw [ro1_in e1]; refine r4 _ e2 (hro i' (List.mem_of_getElem? (i := j - roc) ?_)); rw [List.getElem?_drop, Nat.add_sub_cancel' hr]; exact e1
  intro p e ha hc hk s m args below hf happ hP hK
  have eas : (asc.map (rf fun j => ad (ro1 foot H.length j))) = as.map (rf ad) := by
    rw [← has, List.map_map]; congr 1; funext v; exact (rf_rn ad _ v).symm
  obtain ⟨N, o, h1, h2, h3, v, L, h4, ⟨w, D, rfl, g2, g3, g4, g5⟩, h5⟩ := cs ws n0 _ h hrc p e ha hc hk s m args below hf happ (by rw [eas]; exact hP) hK
  refine ⟨N, o, h1, h2, h3, _, L, h4, ⟨w.map (rn (ro1 foot H.length)), patch (ro1 foot H.length) foot D H, ?_, ⟨w, D, g2, rfl, rfl⟩, ?_, ?_, g5⟩, h5⟩
  · cases w with
    | none => rfl
    | some w => exact congrArg some (rf_rn ad _ w).symm
  · generalize hU : (stepsAlone p.tables e N s).heap = h' at g3 g4
    obtain ⟨d1, d2, d3, d4, d5⟩ := g3
    have hD : foot.length ≤ D.length := by
      by_cases q : foot.length ≤ D.length
      · exact q
      · exfalso
        obtain ⟨i, e1, e2⟩ := idx D.length (by omega)
        have z := d3 0
        simp only [Nat.add_zero] at z
        rw [ro1_in e1] at z
        obtain ⟨c', -, g2'⟩ := cellAt _ i e1
        have a1 := (r1 i _ g2').lt
        rw [z] at a1
        exact absurd a1 (Nat.not_lt.mpr g4.1)
    have hPl := patch_len (ro1 foot H.length) foot D H hD
    have old : ∀ i, i < H.length → ad i < h.size := fun i hi => (r1 i _ (List.getElem?_eq_getElem hi)).lt
    have new : ∀ i, H.length ≤ i → h.size ≤ ad i := fun i hi => by
      obtain ⟨t, rfl⟩ := Nat.exists_eq_add_of_le hi
      rw [r3 t]; exact Nat.le_add_right _ _
    refine ⟨fun i c hi => ?_, fun i j hi hj q => ?_, fun t => ?_, fun i hi hr => ?_, Nat.le_trans r5 g4.1⟩
    · by_cases hl : i < H.length
      · by_cases hm : i ∈ foot
        · obtain ⟨j, hj⟩ := List.getElem?_of_mem hm
          rw [patch_in _ foot D H j i hnd hlt hj hD] at hi
          obtain ⟨c', e1, rfl⟩ := Option.map_eq_some_iff.mp hi
          have := d1 j c' e1
          dsimp only at this
          rw [ro1_in hj] at this
          exact CelOk_rn.mpr this
        · rw [patch_out _ foot D H i hl hm] at hi
          refine (r1 i c hi).keep fun cz q => g4.2 _ cz q fun j hj q' => ?_
          rw [hlen] at hj
          obtain ⟨i', e1, e2⟩ := idx j hj
          dsimp only at q'
          rw [ro1_in e1] at q'
          have := r2 _ _ e2 hl q'
          subst this
          exact hm (List.mem_of_getElem? e1)
      · obtain ⟨t, rfl⟩ := Nat.exists_eq_add_of_le (Nat.le_of_not_lt hl)
        rw [patch_new _ foot D H t hD] at hi
        obtain ⟨c', e1, rfl⟩ := Option.map_eq_some_iff.mp hi
        have := d1 _ c' e1
        dsimp only at this
        rw [ro1_new] at this
        exact CelOk_rn.mpr this
    · by_cases a1 : i < H.length
      · by_cases a2 : j < H.length
        · exact r2 _ _ a1 a2 q
        · have b1 := old i a1
          rw [q] at b1
          exact absurd b1 (Nat.not_lt.mpr (new j (Nat.le_of_not_lt a2)))
      · by_cases a2 : j < H.length
        · have b1 := new i (Nat.le_of_not_lt a1)
          rw [q] at b1
          exact absurd (old j a2) (Nat.not_lt.mpr b1)
        · obtain ⟨t, rfl⟩ := Nat.exists_eq_add_of_le (Nat.le_of_not_lt a1)
          obtain ⟨t', rfl⟩ := Nat.exists_eq_add_of_le (Nat.le_of_not_lt a2)
          rw [r3, r3] at q; exact congrArg (H.length + ·) (Nat.add_left_cancel q)
    · have z := d3 t
      dsimp only at z
      have e1 : D.length + t = foot.length + (D.length - foot.length + t) := by omega
      rw [e1, ro1_new] at z
      rw [hPl, Nat.add_assoc]; exact z
    · by_cases a1 : i < H.length
      · exact r4 i a1 hr
      · exact Nat.le_trans r5 (new i (Nat.le_of_not_lt a1))
  · refine ⟨g4.1, fun a cz hz hn => g4.2 a cz hz fun j hj q => ?_⟩
    rw [hlen] at hj
    obtain ⟨i', e1, e2⟩ := idx j hj
    dsimp only at q
    rw [ro1_in e1] at q
    exact hn i' e2 q
/-! ## an object's state: ints (and booleans), longs, int[] (and boolean[]), long[], each by a number -/
abbrev St : Type := (Nat → Int32) × (Nat → Int64) × (Nat → List Int32) × (Nat → List Int64)
def upd {α : Type} (f : Nat → α) (i : Nat) (v : α) : Nat → α := fun j => if j = i then v else f j
def gI (s : St) (i : Nat) : Int32 := s.1 i
def gJ (s : St) (i : Nat) : Int64 := s.2.1 i
def gA (s : St) (i : Nat) : List Int32 := s.2.2.1 i
def gB (s : St) (i : Nat) : List Int64 := s.2.2.2 i
def sI (s : St) (i : Nat) (v : Int32) : St := (upd s.1 i v, s.2.1, s.2.2.1, s.2.2.2)
def sJ (s : St) (i : Nat) (v : Int64) : St := (s.1, upd s.2.1 i v, s.2.2.1, s.2.2.2)
def sA (s : St) (i : Nat) (v : List Int32) : St := (s.1, s.2.1, upd s.2.2.1 i v, s.2.2.2)
def sB (s : St) (i : Nat) (v : List Int64) : St := (s.1, s.2.1, s.2.2.1, upd s.2.2.2 i v)
theorem gI_sI (s : St) (i j : Nat) (v : Int32) : gI (sI s i v) j = if j = i then v else gI s j := rfl
theorem gI_sJ (s : St) (i j : Nat) (v : Int64) : gI (sJ s i v) j = gI s j := rfl
theorem gI_sA (s : St) (i j : Nat) (v : List Int32) : gI (sA s i v) j = gI s j := rfl
theorem gI_sB (s : St) (i j : Nat) (v : List Int64) : gI (sB s i v) j = gI s j := rfl
theorem gJ_sI (s : St) (i j : Nat) (v : Int32) : gJ (sI s i v) j = gJ s j := rfl
theorem gJ_sJ (s : St) (i j : Nat) (v : Int64) : gJ (sJ s i v) j = if j = i then v else gJ s j := rfl
theorem gJ_sA (s : St) (i j : Nat) (v : List Int32) : gJ (sA s i v) j = gJ s j := rfl
theorem gJ_sB (s : St) (i j : Nat) (v : List Int64) : gJ (sB s i v) j = gJ s j := rfl
theorem gA_sI (s : St) (i j : Nat) (v : Int32) : gA (sI s i v) j = gA s j := rfl
theorem gA_sJ (s : St) (i j : Nat) (v : Int64) : gA (sJ s i v) j = gA s j := rfl
theorem gA_sA (s : St) (i j : Nat) (v : List Int32) : gA (sA s i v) j = if j = i then v else gA s j := rfl
theorem gA_sB (s : St) (i j : Nat) (v : List Int64) : gA (sB s i v) j = gA s j := rfl
theorem gB_sI (s : St) (i j : Nat) (v : Int32) : gB (sI s i v) j = gB s j := rfl
theorem gB_sJ (s : St) (i j : Nat) (v : Int64) : gB (sJ s i v) j = gB s j := rfl
theorem gB_sA (s : St) (i j : Nat) (v : List Int32) : gB (sA s i v) j = gB s j := rfl
theorem gB_sB (s : St) (i j : Nat) (v : List Int64) : gB (sB s i v) j = if j = i then v else gB s j := rfl
def wrA (s : St) (i : Nat) (j x : Int32) : Option St := (wr (gA s i) j x).map (sA s i)
def wrB (s : St) (i : Nat) (j : Int32) (x : Int64) : Option St := (wr (gB s i) j x).map (sB s i)
theorem wrA_e {s s' : St} {i : Nat} {j x : Int32} (h : wrA s i j x = some s') : ∃ ys, wr (gA s i) j x = some ys ∧ s' = sA s i ys := by
  obtain ⟨ys, h1, h2⟩ := Option.map_eq_some_iff.mp h
  exact ⟨ys, h1, h2.symm⟩
theorem wrB_e {s s' : St} {i : Nat} {j : Int32} {x : Int64} (h : wrB s i j x = some s') : ∃ ys, wr (gB s i) j x = some ys ∧ s' = sB s i ys := by
  obtain ⟨ys, h1, h2⟩ := Option.map_eq_some_iff.mp h
  exact ⟨ys, h1, h2.symm⟩
def lt {α β : Type} (x : α) (f : α → β) : β := f x
theorem lt_e {α β : Type} {x : α} {f : α → β} {r : β} (h : lt x f = r) : ∃ y, y = x ∧ f y = r := ⟨x, rfl, h⟩
theorem ite_e {α : Type} {c : Prop} [Decidable c] {a b r : α} (h : (if c then a else b) = r) : (c ∧ a = r) ∨ (¬ c ∧ b = r) := by
  by_cases hc : c
  · rw [if_pos hc] at h; exact Or.inl ⟨hc, h⟩
  · rw [if_neg hc] at h; exact Or.inr ⟨hc, h⟩
theorem nz_e {α : Type} {c : Prop} [Decidable c] {b : Option α} {r : α} (h : (if c then none else b) = some r) : ¬ c ∧ b = some r := by
  by_cases hc : c
  · rw [if_pos hc] at h; cases h
  · rw [if_neg hc] at h; exact ⟨hc, h⟩
/-! the class's fields -/
def LaidAll (Z : State) (a0 : Array Value) (C : String) : List (String × String) → List Value → Prop
  | f :: fs, v :: vs => (Laid Z a0 C C f.1 f.2 ∧ ∃ ty, parseFieldDescriptor f.2 = some ty ∧ v = defaultValue ty) ∧ LaidAll Z a0 C fs vs
  | [], [] => True
  | _, _ => False
theorem LaidAll.new {Z : State} {a0 : Array Value} {C : String} : ∀ {lay : List (String × String)} {vs : List Value}, LaidAll Z a0 C lay vs → ∀ (i : Nat) (f : String × String) (v : Value), lay[i]? = some f → vs[i]? = some v → Laid Z a0 C C f.1 f.2 ∧ ∃ ty, parseFieldDescriptor f.2 = some ty ∧ v = defaultValue ty
  | [], [], _, i, f, v, h, _ => by simp at h
  | g :: fs, w :: vs, h, 0, f, v, h1, h2 => by
    obtain rfl : g = f := by simpa using h1
    obtain rfl : w = v := by simpa using h2
    exact h.1
  | g :: fs, w :: vs, h, i + 1, f, v, h1, h2 => LaidAll.new h.2 i f v (by simpa using h1) (by simpa using h2)
theorem LaidAll.len {Z : State} {a0 : Array Value} {C : String} : ∀ {lay : List (String × String)} {vs : List Value}, LaidAll Z a0 C lay vs → lay.length = vs.length
  | [], [], _ => rfl
  | g :: fs, w :: vs, h => congrArg Nat.succ (LaidAll.len h.2)
theorem LaidAll.ne {Z : State} {a0 : Array Value} {C : String} {lay : List (String × String)} {vs : List Value} (h : LaidAll Z a0 C lay vs) (nd : (lay.map Prod.fst).Nodup) : ∀ (a b : Nat) (f g : String × String), lay[a]? = some f → lay[b]? = some g → a ≠ b → RoadKit.slotOf Z C f.1 f.2 ≠ RoadKit.slotOf Z C g.1 g.2 := by
  intro a b f g ha hb' hne
  have la := get_lt ha
  have lb := get_lt hb'
  obtain ⟨L1, t1, e1, -⟩ := h.new a f _ ha (List.getElem?_eq_getElem (h.len ▸ la))
  obtain ⟨L2, t2, e2, -⟩ := h.new b g _ hb' (List.getElem?_eq_getElem (h.len ▸ lb))
  refine slot_ne L1 L2 (fun q => hne ?_) e1 e2
  have h1 : (lay.map Prod.fst)[a]? = some f.1 := by rw [List.getElem?_map, ha]; rfl
  have h2 : (lay.map Prod.fst)[b]? = some g.1 := by rw [List.getElem?_map, hb']; rfl
  exact (List.getElem?_inj (by simpa using la) nd).mp (h1.trans (by rw [q]; exact h2.symm))
section Puts
variable {l : Launch} {Z : State} {a0 : Array Value} {C : String} {lay : List (String × String)} {own mn : String} {bytes : ByteArray} {maxL : Nat} {ret : Option FieldType} {R : Room} {n0 ro : Nat} {Q : Option Value → List OwnC → Prop} {k n pc pc' : Nat} {L L' : List Slot} {S S' : List Value} {H H' : List OwnC}
theorem WP.putI {idx i j kk : Nat} {f : String} {vs : List Value} {x : Int32} {old : Value} (hd : decode bytes pc = .ok (.putfield idx, 3)) (hw : (Cond.fieldLink own idx C f "I").before a0 Z = true) (hl : (Cond.lays C C f "I").before a0 Z = true ∨ ((Cond.laysFinal C C f "I").before a0 Z = true ∧ own = C ∧ mn = "<init>")) (wi : (Cond.instantiable C kk).before a0 Z = true)
    (hlay : ∀ (a b : Nat) (f g : String × String), lay[a]? = some f → lay[b]? = some g → a ≠ b → RoadKit.slotOf Z C f.1 f.2 ≠ RoadKit.slotOf Z C g.1 g.2) (hj : lay[j]? = some (f, "I")) (hH : H[i]? = some (.inl vs)) (hv : vs[j]? = some old) (hi : ro ≤ i) (hH' : H.set i (.inl (vs.set j (.int x))) = H') (nx : WP l Z C lay own mn bytes maxL ret R n0 ro Q k n (pc + 3) L S H') : WP l Z C lay own mn bytes maxL ret R n0 ro Q k n pc L (.int x :: .ref i :: S) H :=
  WP.put hd hw hl wi hlay (ty := .int) (by decide) (fun _ => rfl) (fun _ => rfl) hj hH hv hi hH' nx
theorem WP.putJ {idx i j kk : Nat} {f : String} {vs : List Value} {x : Int64} {old : Value} (hd : decode bytes pc = .ok (.putfield idx, 3)) (hw : (Cond.fieldLink own idx C f "J").before a0 Z = true) (hl : (Cond.lays C C f "J").before a0 Z = true ∨ ((Cond.laysFinal C C f "J").before a0 Z = true ∧ own = C ∧ mn = "<init>")) (wi : (Cond.instantiable C kk).before a0 Z = true)
    (hlay : ∀ (a b : Nat) (f g : String × String), lay[a]? = some f → lay[b]? = some g → a ≠ b → RoadKit.slotOf Z C f.1 f.2 ≠ RoadKit.slotOf Z C g.1 g.2) (hj : lay[j]? = some (f, "J")) (hH : H[i]? = some (.inl vs)) (hv : vs[j]? = some old) (hi : ro ≤ i) (hH' : H.set i (.inl (vs.set j (.long x))) = H') (nx : WP l Z C lay own mn bytes maxL ret R n0 ro Q k n (pc + 3) L S H') : WP l Z C lay own mn bytes maxL ret R n0 ro Q k n pc L (.long x :: .ref i :: S) H :=
  WP.put hd hw hl wi hlay (ty := .long) (by decide) (fun _ => rfl) (fun _ => rfl) hj hH hv hi hH' nx
theorem WP.putZ {idx i j kk : Nat} {f : String} {vs : List Value} {x : Int32} {old : Value} (hd : decode bytes pc = .ok (.putfield idx, 3)) (hw : (Cond.fieldLink own idx C f "Z").before a0 Z = true) (hl : (Cond.lays C C f "Z").before a0 Z = true ∨ ((Cond.laysFinal C C f "Z").before a0 Z = true ∧ own = C ∧ mn = "<init>")) (wi : (Cond.instantiable C kk).before a0 Z = true)
    (hlay : ∀ (a b : Nat) (f g : String × String), lay[a]? = some f → lay[b]? = some g → a ≠ b → RoadKit.slotOf Z C f.1 f.2 ≠ RoadKit.slotOf Z C g.1 g.2) (hj : lay[j]? = some (f, "Z")) (hH : H[i]? = some (.inl vs)) (hv : vs[j]? = some old) (hi : ro ≤ i) (hH' : H.set i (.inl (vs.set j (.int (x &&& 1)))) = H') (nx : WP l Z C lay own mn bytes maxL ret R n0 ro Q k n (pc + 3) L S H') : WP l Z C lay own mn bytes maxL ret R n0 ro Q k n pc L (.int x :: .ref i :: S) H :=
  WP.put (v' := .int (x &&& 1)) hd hw hl wi hlay (ty := .boolean) (by decide) (fun _ => rfl) (fun _ => fits_nar_bool x) hj hH hv hi hH' nx
theorem WP.putR {idx i j kk i2 : Nat} {f d : String} {vs : List Value} {old : Value} {ty : FieldType} (hd : decode bytes pc = .ok (.putfield idx, 3)) (hw : (Cond.fieldLink own idx C f d).before a0 Z = true) (hl : (Cond.lays C C f d).before a0 Z = true ∨ ((Cond.laysFinal C C f d).before a0 Z = true ∧ own = C ∧ mn = "<init>")) (wi : (Cond.instantiable C kk).before a0 Z = true)
    (hlay : ∀ (a b : Nat) (f g : String × String), lay[a]? = some f → lay[b]? = some g → a ≠ b → RoadKit.slotOf Z C f.1 f.2 ≠ RoadKit.slotOf Z C g.1 g.2) (hty : parseFieldDescriptor d = some ty) (hn : ∀ a, narrow ty (.ref a) = .ref a) (hf : ∀ a, fits ty (.ref a) = true) (hj : lay[j]? = some (f, d)) (hH : H[i]? = some (.inl vs)) (hv : vs[j]? = some old) (hi : ro ≤ i) (hH' : H.set i (.inl (vs.set j (.ref i2))) = H') (nx : WP l Z C lay own mn bytes maxL ret R n0 ro Q k n (pc + 3) L S H') : WP l Z C lay own mn bytes maxL ret R n0 ro Q k n pc L (.ref i2 :: .ref i :: S) H :=
  WP.put (v' := .ref i2) hd hw hl wi hlay hty (fun ad => hn (ad i2)) (fun ad => hf (ad i2)) hj hH hv hi hH' nx
end Puts
/-! ## the start of a law -/
theorem HR.start0 (s : State) (C : String) (lay : List (String × String)) : HR s C lay s.heap.size 0 (fun t => s.heap.size + t) [] s.heap :=
  ⟨fun i c h => by simp at h, fun i j h => by simp at h, fun t => by simp, fun i h => by simp at h, Nat.le_refl _⟩
theorem script_ints {s : State} {a : Addr} {c : Cell} (hf : Fit s) (A : Arr s s.heap a c .int) : ∃ xs : List Int32, c.slots.toList = xs.map Value.int := by
  have h : ∀ v ∈ c.slots.toList, ∃ x : Int32, v = Value.int x := fun v hv => by
    obtain ⟨i, hi, e⟩ := List.mem_iff_getElem.mp hv
    have hi' : i < c.slots.size := by simpa using hi
    have q := hf A.1 hi'
    obtain ⟨hs, k, hk, comp, hkind⟩ := A.2.1
    have e2 : s.slotType? c.cls c.vm i = some .int := by
      cases hq : c.vm <;> first | exact absurd hq (hs _) | simp [State.slotType?, hk, hkind]
    have e3 : c.slots[i] = v := by rw [← e]; simp
    have q2 : fits .int v = true := by rw [← e3]; simpa [State.fitsSlot, e2] using q
    exact fit_I q2 (by simp)
  generalize c.slots.toList = L at h
  induction L with
  | nil => exact ⟨[], rfl⟩
  | cons v L ih =>
    obtain ⟨x, rfl⟩ := h v (List.mem_cons_self ..)
    obtain ⟨xs, rfl⟩ := ih fun w hw => h w (List.mem_cons_of_mem _ hw)
    exact ⟨x :: xs, rfl⟩
def ad1 (a N : Nat) : Nat → Addr
  | 0 => a
  | t + 1 => N + t
theorem HR.start1 {s : State} (C : String) (lay : List (String × String)) {a : Addr} {c : Cell} {xs : List Int32} (A : Arr s s.heap a c .int) (hx : c.slots.toList = xs.map Value.int) : HR s C lay s.heap.size 1 (ad1 a s.heap.size) [cI xs] s.heap := by
  refine ⟨fun i cc h => ?_, fun i j hi hj _ => ?_, fun t => ?_, fun i hi hr => ?_, Nat.le_refl _⟩
  · have hi := get_lt h
    simp at hi; subst hi
    simp at h; subst h
    exact ⟨c, A, hx⟩
  · simp at hi hj; omega
  · show ad1 a s.heap.size (1 + t) = _; rw [Nat.add_comm 1 t]; rfl
  · simp at hi; omega
theorem script_len {s : State} {a : Addr} {c : Cell} {n : Nat} {args : Array Value} {t : Term} (ev : t.eval args s none [] s = some (.ref a)) (A : Arr s s.heap a c .int) (e1 : c.slots.size = n) (h : (Cond.le (Term.length t) (Term.int (260 : Int32))).value args s none s [] = some true) : n ≤ 260 := by
  have hat := A.fin (Vm.Alike.refl _)
  have hl : (Term.length t).eval args s none [] s = if n < 2 ^ 31 then some (.int n.toInt32) else none := by
    simp only [Term.eval, ev, hat, Option.bind_eq_bind, Option.bind_some, e1]; rfl
  by_cases hn : n < 2 ^ 31
  · rw [if_pos hn] at hl
    have h1 := gotT (Cond.le_ints hl (Term.int_eval (260 : Int32))) h
    have h2 : n.toInt32.toInt = n := by
      show (Int32.ofNat n).toInt = n
      exact Int32.toInt_ofNat_of_lt hn
    have h3 := Int32.le_iff_toInt_le.mp h1
    rw [h2] at h3
    have : (260 : Int32).toInt = 260 := by decide
    omega
  · rw [if_neg hn] at hl
    simp [Cond.value, hl] at h
/-! ## plain laws -/
/-- with fuel enough it answers r -/
def Ev {α : Type} (f : Nat → Option α) (r : α) : Prop := ∃ N, ∀ n, N ≤ n → f n = some r
theorem Ev.const {α : Type} {x : Option α} {r : α} (h : x = some r) : Ev (fun _ => x) r := ⟨0, fun _ _ => h⟩
theorem Ev.get {α : Type} {f : Nat → Option α} {r : α} (h : Ev f r) : ∃ n, f n = some r := by obtain ⟨N, h⟩ := h; exact ⟨N, h N (Nat.le_refl _)⟩
theorem Ev.step {α : Type} {f g : Nat → Option α} {r : α} (e : ∀ n, f (n + 1) = g n) (h : Ev g r) : Ev f r := by
  obtain ⟨N, h⟩ := h
  refine ⟨N + 1, fun n hn => ?_⟩
  cases n with
  | zero => omega
  | succ n => rw [e n]; exact h n (by omega)
theorem Ev.congr {α : Type} {f g : Nat → Option α} {r : α} (e : ∀ n, f n = g n) (h : Ev g r) : Ev f r := by
  obtain ⟨N, h⟩ := h
  exact ⟨N, fun n hn => (e n).trans (h n hn)⟩
theorem Ev.bind {α β : Type} {f : Nat → Option β} {g : Nat → β → Option α} {c : β} {r : α} (h1 : Ev f c) (h2 : Ev (fun n => g n c) r) : Ev (fun n => (f n).bind (g n)) r := by
  obtain ⟨N, h1⟩ := h1
  obtain ⟨M, h2⟩ := h2
  refine ⟨N + M, fun n hn => ?_⟩
  show (f n).bind (g n) = some r
  rw [h1 n (by omega)]; exact h2 n (by omega)
theorem Ev.uniq {α : Type} {f : Nat → Option α} {r r' : α} (h : Ev f r) (h' : Ev f r') : r = r' := by
  obtain ⟨N, h⟩ := h
  obtain ⟨M, h'⟩ := h'
  exact Option.some.inj ((h (N + M) (by omega)).symm.trans (h' (N + M) (by omega)))
/-! Int32 as Int -/
theorem x32_lt {x y : Int32} : x < y ↔ x.toInt < y.toInt := Int32.lt_iff_toInt_lt
theorem x32_eq {x y : Int32} : x = y ↔ x.toInt = y.toInt := Int32.toInt_inj.symm
theorem x32_add {x y : Int32} (h1 : -2147483648 ≤ x.toInt + y.toInt) (h2 : x.toInt + y.toInt < 2147483648) : (x + y).toInt = x.toInt + y.toInt := by
  rw [Int32.toInt_add]; exact Int.bmod_eq_of_le (by omega) (by omega)
theorem x32_sub {x y : Int32} (h1 : -2147483648 ≤ x.toInt - y.toInt) (h2 : x.toInt - y.toInt < 2147483648) : (x - y).toInt = x.toInt - y.toInt := by
  rw [Int32.toInt_sub]; exact Int.bmod_eq_of_le (by omega) (by omega)
theorem x32_mul {x y : Int32} (h1 : -2147483648 ≤ x.toInt * y.toInt) (h2 : x.toInt * y.toInt < 2147483648) : (x * y).toInt = x.toInt * y.toInt := by
  rw [Int32.toInt_mul]; exact Int.bmod_eq_of_le (by omega) (by omega)
theorem clamp_nat (x : Int32) : x.toNatClampNeg = x.toInt.toNat := rfl
/-! reading and writing -/
theorem rd_of {α : Type} {xs : List α} {i : Int32} {k : Nat} {x : α} (hi : i.toInt = k) (h : xs[k]? = some x) : rd xs i = some x := by
  have h0 : ¬ i < 0 := by rw [x32_lt, hi]; show ¬ (k : Int) < 0; omega
  unfold rd
  rw [if_neg h0, clamp_nat, hi]; exact h
theorem wr_of {α : Type} {xs : List α} {i : Int32} {k : Nat} (x : α) (hi : i.toInt = k) (h : k < xs.length) : wr xs i x = some (xs.set k x) := by
  have h0 : ¬ i < 0 := by rw [x32_lt, hi]; show ¬ (k : Int) < 0; omega
  unfold wr
  rw [if_neg h0, clamp_nat, hi]; exact if_pos h
theorem wrA_of {s : St} {f : Nat} {i : Int32} {k : Nat} (x : Int32) (hi : i.toInt = k) (h : k < (gA s f).length) : wrA s f i x = some (sA s f ((gA s f).set k x)) := by
  unfold wrA; rw [wr_of x hi h]; rfl
theorem wrB_of {s : St} {f : Nat} {i : Int32} {k : Nat} (x : Int64) (hi : i.toInt = k) (h : k < (gB s f).length) : wrB s f i x = some (sB s f ((gB s f).set k x)) := by
  unfold wrB; rw [wr_of x hi h]; rfl
theorem nn_of {i : Int32} (h : ¬ i < 0) : ∃ k : Nat, i.toInt = k := ⟨i.toInt.toNat, by
  rw [x32_lt] at h
  have : (0 : Int32).toInt = 0 := by decide
  omega⟩
theorem Ev.all {α : Type} {f : Nat → Option α} {r : α} (h : ∀ n, f n = some r) : Ev f r := ⟨0, fun n _ => h n⟩
theorem ofN_int {k : Nat} (h : k < 2147483648) : (Int32.ofNat k).toInt = k := Int32.toInt_ofNat_of_lt (by omega)
theorem ofN_lt {i m : Nat} (hi : i < 2147483648) (hm : m < 2147483648) : Int32.ofNat i < Int32.ofNat m ↔ i < m := by
  rw [x32_lt, ofN_int hi, ofN_int hm]; omega
theorem ofN_succ (k : Nat) : Int32.ofNat k + 1 = Int32.ofNat (k + 1) := (Int32.ofNat_add k 1).symm
theorem ofN_eq {i m : Nat} (hi : i < 2147483648) (hm : m < 2147483648) : Int32.ofNat i = Int32.ofNat m ↔ i = m := by
  rw [x32_eq, ofN_int hi, ofN_int hm]; omega
theorem ofN_of {x : Int32} {k : Nat} (h : x.toInt = k) : x = Int32.ofNat k := by
  have h2 := Int32.toInt_lt x
  rw [x32_eq, ofN_int (by omega)]; exact h
/-- a loop that counts up to N -/
theorem loop_up {α σ : Type} {F : Nat → Int32 → σ → Option α} {E : Nat → σ → Option α} {N : Nat} (Inv : Nat → σ → Prop)
    (hstep : ∀ (i : Nat) (s : σ), i < N → Inv i s → ∃ s', Inv (i + 1) s' ∧ ∀ n, F (n + 1) (Int32.ofNat i) s = F n (Int32.ofNat (i + 1)) s')
    (hend : ∀ s, Inv N s → ∀ n, F (n + 1) (Int32.ofNat N) s = E n s) : ∀ (k i : Nat) (s : σ), i + k = N → Inv i s → ∃ s', Inv N s' ∧ ∀ r, Ev (fun n => E n s') r → Ev (fun n => F n (Int32.ofNat i) s) r := by
  intro k
  induction k with
  | zero =>
    intro i s hi h
    obtain rfl : i = N := by omega
    exact ⟨s, h, fun r hr => Ev.step (hend s h) hr⟩
  | succ k ih =>
    intro i s hi h
    obtain ⟨s', h1, h2⟩ := hstep i s (by omega) h
    obtain ⟨s2, h3, h4⟩ := ih (i + 1) s' (by omega) h1
    exact ⟨s2, h3, fun r hr => Ev.step h2 (h4 r hr)⟩
theorem set_len {α : Type} (xs : List α) (k : Nat) (x : α) : (xs.set k x).length = xs.length := List.length_set
theorem ofN_ltL {i m : Nat} (hi : i < 2147483648) (hm : m < 2147483648) : Int32.ofNat i < (OfNat.ofNat m : Int32) ↔ i < m := ofN_lt hi hm
theorem ofN_gtL {i m : Nat} (hi : i < 2147483648) (hm : m < 2147483648) : (OfNat.ofNat m : Int32) < Int32.ofNat i ↔ m < i := ofN_lt hm hi
theorem ofN_eqL {i m : Nat} (hi : i < 2147483648) (hm : m < 2147483648) : Int32.ofNat i = (OfNat.ofNat m : Int32) ↔ i = m := ofN_eq hi hm
theorem ofN_nn {i : Nat} (hi : i < 2147483648) : ¬ Int32.ofNat i < 0 := fun h => Nat.not_lt_zero _ ((ofN_ltL hi (by decide)).mp h)
theorem lit_int {m : Nat} (hm : m < 2147483648) : (OfNat.ofNat m : Int32).toInt = m := ofN_int hm
theorem upd_upd {α : Type} (f : Nat → α) (i : Nat) (x y : α) : upd (upd f i x) i y = upd f i y := by
  funext j; unfold upd; by_cases h : j = i <;> simp [h]
theorem upd_self {α : Type} (f : Nat → α) (i : Nat) : upd f i (f i) = f := by
  funext j; unfold upd; by_cases h : j = i <;> simp [h]
theorem sA_sA (s : St) (i : Nat) (x y : List Int32) : sA (sA s i x) i y = sA s i y := by unfold sA; dsimp only; rw [upd_upd]
theorem sB_sB (s : St) (i : Nat) (x y : List Int64) : sB (sB s i x) i y = sB s i y := by unfold sB; dsimp only; rw [upd_upd]
theorem sI_sI (s : St) (i : Nat) (x y : Int32) : sI (sI s i x) i y = sI s i y := by unfold sI; dsimp only; rw [upd_upd]
theorem sA_self {s : St} {i : Nat} {x : List Int32} (h : gA s i = x) : sA s i x = s := by
  subst h; unfold sA gA; rw [upd_self]
theorem sB_self {s : St} {i : Nat} {x : List Int64} (h : gB s i = x) : sB s i x = s := by
  subst h; unfold sB gB; rw [upd_self]
theorem sI_self {s : St} {i : Nat} {x : Int32} (h : gI s i = x) : sI s i x = s := by
  subst h; unfold sI gI; rw [upd_self]
theorem fill_set {α : Type} (a b : α) (n i : Nat) (h : i < n) : (List.replicate i a ++ List.replicate (n - i) b).set i a = List.replicate (i + 1) a ++ List.replicate (n - (i + 1)) b := by
  rw [List.set_append_right _ _ (by simp), List.length_replicate, Nat.sub_self]
  obtain ⟨m, hm⟩ : ∃ m, n - i = m + 1 := ⟨n - i - 1, by omega⟩
  have hm2 : n - (i + 1) = m := by omega
  rw [hm, hm2, List.replicate_succ, List.set_cons_zero, List.replicate_succ', List.append_assoc]; rfl
theorem and_nat (x : Int32) (m : Nat) (hm : m < 2147483648) : ∃ k, k ≤ m ∧ (x &&& Int32.ofNat m) = Int32.ofNat k := by
  refine ⟨(x.toBitVec &&& BitVec.ofNat 32 m).toNat, ?_, ?_⟩
  · rw [BitVec.toNat_and, BitVec.toNat_ofNat, Nat.mod_eq_of_lt (by omega)]
    exact Nat.and_le_right
  · apply Int32.toBitVec_inj.mp
    show x.toBitVec &&& BitVec.ofNat 32 m = BitVec.ofNat 32 _
    rw [BitVec.ofNat_toNat, BitVec.setWidth_eq]
theorem and_natL (x : Int32) (m : Nat) (hm : m < 2147483648) : ∃ k, k ≤ m ∧ (x &&& (OfNat.ofNat m : Int32)) = Int32.ofNat k := and_nat x m hm
theorem nat_lt {i : Int32} {m : Nat} (h : ¬ i < 0) (h2 : i < (OfNat.ofNat m : Int32)) (hm : m < 2147483648) : ∃ k : Nat, k < m ∧ i = Int32.ofNat k := by
  obtain ⟨k, hk⟩ := nn_of h
  rw [x32_lt, lit_int hm, hk] at h2
  exact ⟨k, by omega, ofN_of hk⟩
theorem nat_le {i : Int32} {m : Nat} (h : ¬ i < 0) (h2 : ¬ (OfNat.ofNat m : Int32) < i) (hm : m < 2147483648) : ∃ k : Nat, k ≤ m ∧ i = Int32.ofNat k := by
  obtain ⟨k, hk⟩ := nn_of h
  rw [x32_lt, lit_int hm, hk] at h2
  exact ⟨k, by omega, ofN_of hk⟩
theorem rd_at {α : Type} {xs : List α} {k : Nat} {x : α} (hk : k < 2147483648) (h : xs[k]? = some x) : rd xs (Int32.ofNat k) = some x := rd_of (ofN_int hk) h
theorem wr_at' {α : Type} {xs : List α} {k : Nat} (x : α) (hk : k < 2147483648) (h : k < xs.length) : wr xs (Int32.ofNat k) x = some (xs.set k x) := wr_of x (ofN_int hk) h
theorem rep_get {α : Type} {n k : Nat} (a : α) (h : k < n) : (List.replicate n a)[k]? = some a := by rw [List.getElem?_replicate, if_pos h]
theorem get_set_self {α : Type} {xs : List α} {k : Nat} (x : α) (h : k < xs.length) : (xs.set k x)[k]? = some x := by rw [List.getElem?_set_self h]
theorem get_set_ne {α : Type} {xs : List α} {k j : Nat} (x : α) (h : k ≠ j) : (xs.set k x)[j]? = xs[j]? := List.getElem?_set_ne h
theorem upd_comm {α : Type} (f : Nat → α) {i j : Nat} (h : i ≠ j) (x y : α) : upd (upd f i x) j y = upd (upd f j y) i x := by
  funext m; unfold upd
  by_cases h1 : m = j
  · subst h1; rw [if_pos rfl, if_neg (Ne.symm h), if_pos rfl]
  · rw [if_neg h1]; by_cases h2 : m = i
    · rw [if_pos h2, if_pos h2]
    · rw [if_neg h2, if_neg h2, if_neg h1]
theorem sA_comm {s : St} {i j : Nat} (h : i ≠ j) {x y : List Int32} : sA (sA s i x) j y = sA (sA s j y) i x := by unfold sA; dsimp only; rw [upd_comm _ h]
theorem sB_comm {s : St} {i j : Nat} (h : i ≠ j) {x y : List Int64} : sB (sB s i x) j y = sB (sB s j y) i x := by unfold sB; dsimp only; rw [upd_comm _ h]
theorem sI_comm {s : St} {i j : Nat} (h : i ≠ j) {x y : Int32} : sI (sI s i x) j y = sI (sI s j y) i x := by unfold sI; dsimp only; rw [upd_comm _ h]
theorem sJ_self {s : St} {i : Nat} {x : Int64} (h : gJ s i = x) : sJ s i x = s := by
  subst h; unfold sJ gJ; rw [upd_self]
theorem wrA_nop {s : St} {f N k : Nat} {v : Int32} (h : gA s f = List.replicate N v) (hk : k < N) (hN : N ≤ 2147483647) : wrA s f (Int32.ofNat k) v = some s := by
  rw [wrA_of (k := k) v (ofN_int (by omega)) (by rw [h, List.length_replicate]; exact hk), sA_self (by rw [h, List.set_replicate_self])]
theorem wrB_nop {s : St} {f N k : Nat} {v : Int64} (h : gB s f = List.replicate N v) (hk : k < N) (hN : N ≤ 2147483647) : wrB s f (Int32.ofNat k) v = some s := by
  rw [wrB_of (k := k) v (ofN_int (by omega)) (by rw [h, List.length_replicate]; exact hk), sB_self (by rw [h, List.set_replicate_self])]
/-- a loop that fills -/
theorem wrA_fill {s : St} {f N k : Nat} {u v : Int32} (hk : k < N) (hN : N ≤ 2147483647) : wrA (sA s f (List.replicate k v ++ List.replicate (N - k) u)) f (Int32.ofNat k) v = some (sA s f (List.replicate (k + 1) v ++ List.replicate (N - (k + 1)) u)) := by
  rw [wrA_of (k := k) v (ofN_int (by omega)) (by rw [gA_sA, if_pos rfl]; simp; omega), gA_sA, if_pos rfl, fill_set _ _ _ _ hk, sA_sA]
theorem fill_start {s : St} {f N : Nat} {u v : Int32} (h : gA s f = List.replicate N u) : s = sA s f (List.replicate 0 v ++ List.replicate (N - 0) u) := (sA_self (by rw [h]; rfl)).symm
theorem fill_end {s : St} {f N : Nat} {u v : Int32} : sA s f (List.replicate N v ++ List.replicate (N - N) u) = sA s f (List.replicate N v) := by rw [Nat.sub_self]; simp
theorem x32_neg {x : Int32} (h : -2147483648 < x.toInt) : (-x).toInt = -x.toInt := by
  have := Int32.toInt_lt x
  rw [Int32.toInt_neg]; exact Int.bmod_eq_of_le (by omega) (by omega)
theorem x64_neg {x : Int64} (h : -9223372036854775808 < x.toInt) : (-x).toInt = -x.toInt := by
  have := Int64.toInt_lt x
  rw [Int64.toInt_neg]; exact Int.bmod_eq_of_le (by omega) (by omega)
theorem x64_lt {x y : Int64} : x < y ↔ x.toInt < y.toInt := Int64.lt_iff_toInt_lt
theorem x64_eq {x y : Int64} : x = y ↔ x.toInt = y.toInt := Int64.toInt_inj.symm
theorem x64_add {x y : Int64} (h1 : -9223372036854775808 ≤ x.toInt + y.toInt) (h2 : x.toInt + y.toInt < 9223372036854775808) : (x + y).toInt = x.toInt + y.toInt := by
  rw [Int64.toInt_add]; exact Int.bmod_eq_of_le (by omega) (by omega)
theorem x64_sub {x y : Int64} (h1 : -9223372036854775808 ≤ x.toInt - y.toInt) (h2 : x.toInt - y.toInt < 9223372036854775808) : (x - y).toInt = x.toInt - y.toInt := by
  rw [Int64.toInt_sub]; exact Int.bmod_eq_of_le (by omega) (by omega)
theorem x64_mul {x y : Int64} (h1 : -9223372036854775808 ≤ x.toInt * y.toInt) (h2 : x.toInt * y.toInt < 9223372036854775808) : (x * y).toInt = x.toInt * y.toInt := by
  rw [Int64.toInt_mul]; exact Int.bmod_eq_of_le (by omega) (by omega)
end Jvm.Own
namespace Jvm.Pilot.@@N@@
open Jvm Jvm.ClassFile Sem Op Lib Jvm.Free Jvm.Stand Jvm.LawKit Jvm.RoadKit Bundle Jvm.Pilot.@@N@@.Jvm.D Jvm.Own
abbrev HW (a0 : Array Value) (Z : State) : Prop := ∀ d ∈ tables_1, d.before a0 Z = true
abbrev CN : String := "DisplayMap"
def lay : List (String × String) := [("text", "[I"), ("len", "I"), ("foldS", "[I"), ("foldE", "[I"), ("foldN", "I"), ("tabSize", "I"), ("wrapWidth", "I"), ("dirty", "Z"), ("elStart", "[I"), ("elEnd", "[I"), ("elWidth", "[I"), ("elCount", "I"), ("rowS", "[I"), ("rowW", "[I"), ("rowFirst", "[I"), ("rowNum", "[I"), ("rowN", "I"), ("curStart", "I"), ("curWidth", "I"), ("curFirst", "I"), ("curNum", "I"), ("curCol", "I")]
abbrev vs0 : List Value := [.null, .int 0, .null, .null, .int 0, .int 0, .int 0, .int 0, .null, .null, .null, .int 0, .null, .null, .null, .null, .int 0, .int 0, .int 0, .int 0, .int 0, .int 0]
abbrev Hb (b : Nat) (s : St) : List OwnC := [cO [.ref (b + 1), .int (gI s 0), .ref (b + 2), .ref (b + 3), .int (gI s 1), .int (gI s 2), .int (gI s 3), .int (gI s 4), .ref (b + 4), .ref (b + 5), .ref (b + 6), .int (gI s 5), .ref (b + 7), .ref (b + 8), .ref (b + 9), .ref (b + 10), .int (gI s 6), .int (gI s 7), .int (gI s 8), .int (gI s 9), .int (gI s 10), .int (gI s 11)], cI (gA s 0), cI (gA s 1), cI (gA s 2), cI (gA s 3), cI (gA s 4), cI (gA s 5), cI (gA s 6), cI (gA s 7), cI (gA s 8), cI (gA s 9)]
def st0 : St := (fun _ => 0, fun _ => 0, fun i => ([List.replicate 256 0, List.replicate 8 0, List.replicate 8 0, List.replicate 256 0, List.replicate 256 0, List.replicate 256 0, List.replicate 260 0, List.replicate 260 0, List.replicate 260 0, List.replicate 260 0] : List (List Int32)).getD i [], fun i => ([] : List (List Int64)).getD i [])
theorem m_0 : (Jvm.Cond.classLink "DisplayMapOwnLaw" (8 : Nat) "DisplayMap") ∈ tables_1 := List.mem_of_getElem? (i := 0) rfl
theorem m_1 : (Jvm.Cond.instantiable "DisplayMap" (22 : Nat)) ∈ tables_1 := List.mem_of_getElem? (i := 1) rfl
theorem m_2 : (Jvm.Cond.initialized "DisplayMap") ∈ tables_1 := List.mem_of_getElem? (i := 2) rfl
theorem m_3 : (Jvm.Cond.methodLink "DisplayMapOwnLaw" (10 : Nat) ({ cls := "DisplayMapOwnLaw", name := "cell", desc := "([II)I" } : Jvm.MethodName)) ∈ tables_1 := List.mem_of_getElem? (i := 3) rfl
theorem m_4 : (Jvm.Cond.static ({ cls := "DisplayMapOwnLaw", name := "cell", desc := "([II)I" } : Jvm.MethodName)) ∈ tables_1 := List.mem_of_getElem? (i := 4) rfl
theorem m_5 : (Jvm.Cond.initialized "DisplayMapOwnLaw") ∈ tables_1 := List.mem_of_getElem? (i := 5) rfl
theorem m_6 : (Jvm.Cond.code ({ cls := "DisplayMapOwnLaw", name := "cell", desc := "([II)I" } : Jvm.MethodName) method_2_code (2 : Nat) (Option.some Jvm.ClassFile.FieldType.int)) ∈ tables_1 := List.mem_of_getElem? (i := 6) rfl
theorem m_7 : (Jvm.Cond.methodLink "DisplayMapOwnLaw" (16 : Nat) ({ cls := "DisplayMapOwnLaw", name := "nat", desc := "(I)I" } : Jvm.MethodName)) ∈ tables_1 := List.mem_of_getElem? (i := 7) rfl
theorem m_8 : (Jvm.Cond.static ({ cls := "DisplayMapOwnLaw", name := "nat", desc := "(I)I" } : Jvm.MethodName)) ∈ tables_1 := List.mem_of_getElem? (i := 8) rfl
theorem m_9 : (Jvm.Cond.code ({ cls := "DisplayMapOwnLaw", name := "nat", desc := "(I)I" } : Jvm.MethodName) method_3_code (1 : Nat) (Option.some Jvm.ClassFile.FieldType.int)) ∈ tables_1 := List.mem_of_getElem? (i := 9) rfl
theorem m_10 : (Jvm.Cond.constant "DisplayMapOwnLaw" (7 : Nat) (2147483647 : Int32)) ∈ tables_1 := List.mem_of_getElem? (i := 10) rfl
theorem m_11 : (Jvm.Cond.methodLink "DisplayMapOwnLaw" (20 : Nat) ({ cls := "DisplayMap", name := "<init>", desc := "(II)V" } : Jvm.MethodName)) ∈ tables_1 := List.mem_of_getElem? (i := 11) rfl
theorem m_12 : (Jvm.Cond.instanceMethod ({ cls := "DisplayMap", name := "<init>", desc := "(II)V" } : Jvm.MethodName)) ∈ tables_1 := List.mem_of_getElem? (i := 12) rfl
theorem m_13 : (Jvm.Cond.code ({ cls := "DisplayMap", name := "<init>", desc := "(II)V" } : Jvm.MethodName) prog_1_method_1_code (3 : Nat) (Option.none : Option Jvm.ClassFile.FieldType)) ∈ tables_1 := List.mem_of_getElem? (i := 13) rfl
theorem m_14 : (Jvm.Cond.methodLink "DisplayMap" (1 : Nat) ({ cls := "java/lang/Object", name := "<init>", desc := "()V" } : Jvm.MethodName)) ∈ tables_1 := List.mem_of_getElem? (i := 14) rfl
theorem m_15 : (Jvm.Cond.instanceMethod ({ cls := "java/lang/Object", name := "<init>", desc := "()V" } : Jvm.MethodName)) ∈ tables_1 := List.mem_of_getElem? (i := 15) rfl
theorem m_16 : (Jvm.Cond.code ({ cls := "java/lang/Object", name := "<init>", desc := "()V" } : Jvm.MethodName) object_method_1_code (1 : Nat) (Option.none : Option Jvm.ClassFile.FieldType)) ∈ tables_1 := List.mem_of_getElem? (i := 16) rfl
theorem m_17 : (Jvm.Cond.arrayClass Jvm.ClassFile.FieldType.int) ∈ tables_1 := List.mem_of_getElem? (i := 17) rfl
theorem m_18 : (Jvm.Cond.fieldLink "DisplayMap" (7 : Nat) "DisplayMap" "text" "[I") ∈ tables_1 := List.mem_of_getElem? (i := 18) rfl
theorem m_19 : (Jvm.Cond.laysFinal "DisplayMap" "DisplayMap" "text" "[I") ∈ tables_1 := List.mem_of_getElem? (i := 19) rfl
theorem m_20 : (Jvm.Cond.fieldLink "DisplayMap" (13 : Nat) "DisplayMap" "foldS" "[I") ∈ tables_1 := List.mem_of_getElem? (i := 20) rfl
theorem m_21 : (Jvm.Cond.laysFinal "DisplayMap" "DisplayMap" "foldS" "[I") ∈ tables_1 := List.mem_of_getElem? (i := 21) rfl
theorem m_22 : (Jvm.Cond.fieldLink "DisplayMap" (16 : Nat) "DisplayMap" "foldE" "[I") ∈ tables_1 := List.mem_of_getElem? (i := 22) rfl
theorem m_23 : (Jvm.Cond.laysFinal "DisplayMap" "DisplayMap" "foldE" "[I") ∈ tables_1 := List.mem_of_getElem? (i := 23) rfl
theorem m_24 : (Jvm.Cond.fieldLink "DisplayMap" (19 : Nat) "DisplayMap" "elStart" "[I") ∈ tables_1 := List.mem_of_getElem? (i := 24) rfl
theorem m_25 : (Jvm.Cond.laysFinal "DisplayMap" "DisplayMap" "elStart" "[I") ∈ tables_1 := List.mem_of_getElem? (i := 25) rfl
theorem m_26 : (Jvm.Cond.fieldLink "DisplayMap" (22 : Nat) "DisplayMap" "elEnd" "[I") ∈ tables_1 := List.mem_of_getElem? (i := 26) rfl
theorem m_27 : (Jvm.Cond.laysFinal "DisplayMap" "DisplayMap" "elEnd" "[I") ∈ tables_1 := List.mem_of_getElem? (i := 27) rfl
theorem m_28 : (Jvm.Cond.fieldLink "DisplayMap" (25 : Nat) "DisplayMap" "elWidth" "[I") ∈ tables_1 := List.mem_of_getElem? (i := 28) rfl
theorem m_29 : (Jvm.Cond.laysFinal "DisplayMap" "DisplayMap" "elWidth" "[I") ∈ tables_1 := List.mem_of_getElem? (i := 29) rfl
theorem m_30 : (Jvm.Cond.fieldLink "DisplayMap" (28 : Nat) "DisplayMap" "rowS" "[I") ∈ tables_1 := List.mem_of_getElem? (i := 30) rfl
theorem m_31 : (Jvm.Cond.laysFinal "DisplayMap" "DisplayMap" "rowS" "[I") ∈ tables_1 := List.mem_of_getElem? (i := 31) rfl
theorem m_32 : (Jvm.Cond.fieldLink "DisplayMap" (31 : Nat) "DisplayMap" "rowW" "[I") ∈ tables_1 := List.mem_of_getElem? (i := 32) rfl
theorem m_33 : (Jvm.Cond.laysFinal "DisplayMap" "DisplayMap" "rowW" "[I") ∈ tables_1 := List.mem_of_getElem? (i := 33) rfl
theorem m_34 : (Jvm.Cond.fieldLink "DisplayMap" (34 : Nat) "DisplayMap" "rowFirst" "[I") ∈ tables_1 := List.mem_of_getElem? (i := 34) rfl
theorem m_35 : (Jvm.Cond.laysFinal "DisplayMap" "DisplayMap" "rowFirst" "[I") ∈ tables_1 := List.mem_of_getElem? (i := 35) rfl
theorem m_36 : (Jvm.Cond.fieldLink "DisplayMap" (37 : Nat) "DisplayMap" "rowNum" "[I") ∈ tables_1 := List.mem_of_getElem? (i := 36) rfl
theorem m_37 : (Jvm.Cond.laysFinal "DisplayMap" "DisplayMap" "rowNum" "[I") ∈ tables_1 := List.mem_of_getElem? (i := 37) rfl
theorem m_38 : (Jvm.Cond.methodLink "DisplayMap" (40 : Nat) ({ cls := "DisplayMap", name := "clampTab", desc := "(I)I" } : Jvm.MethodName)) ∈ tables_1 := List.mem_of_getElem? (i := 38) rfl
theorem m_39 : (Jvm.Cond.static ({ cls := "DisplayMap", name := "clampTab", desc := "(I)I" } : Jvm.MethodName)) ∈ tables_1 := List.mem_of_getElem? (i := 39) rfl
theorem m_40 : (Jvm.Cond.code ({ cls := "DisplayMap", name := "clampTab", desc := "(I)I" } : Jvm.MethodName) prog_1_method_18_code (1 : Nat) (Option.some Jvm.ClassFile.FieldType.int)) ∈ tables_1 := List.mem_of_getElem? (i := 40) rfl
theorem m_41 : (Jvm.Cond.fieldLink "DisplayMap" (44 : Nat) "DisplayMap" "tabSize" "I") ∈ tables_1 := List.mem_of_getElem? (i := 41) rfl
theorem m_42 : (Jvm.Cond.lays "DisplayMap" "DisplayMap" "tabSize" "I") ∈ tables_1 := List.mem_of_getElem? (i := 42) rfl
theorem m_43 : (Jvm.Cond.methodLink "DisplayMap" (48 : Nat) ({ cls := "DisplayMap", name := "clampWrap", desc := "(I)I" } : Jvm.MethodName)) ∈ tables_1 := List.mem_of_getElem? (i := 43) rfl
theorem m_44 : (Jvm.Cond.static ({ cls := "DisplayMap", name := "clampWrap", desc := "(I)I" } : Jvm.MethodName)) ∈ tables_1 := List.mem_of_getElem? (i := 44) rfl
theorem m_45 : (Jvm.Cond.code ({ cls := "DisplayMap", name := "clampWrap", desc := "(I)I" } : Jvm.MethodName) prog_1_method_19_code (1 : Nat) (Option.some Jvm.ClassFile.FieldType.int)) ∈ tables_1 := List.mem_of_getElem? (i := 45) rfl
theorem m_46 : (Jvm.Cond.fieldLink "DisplayMap" (51 : Nat) "DisplayMap" "wrapWidth" "I") ∈ tables_1 := List.mem_of_getElem? (i := 46) rfl
theorem m_47 : (Jvm.Cond.lays "DisplayMap" "DisplayMap" "wrapWidth" "I") ∈ tables_1 := List.mem_of_getElem? (i := 47) rfl
theorem m_48 : (Jvm.Cond.fieldLink "DisplayMap" (54 : Nat) "DisplayMap" "len" "I") ∈ tables_1 := List.mem_of_getElem? (i := 48) rfl
theorem m_49 : (Jvm.Cond.lays "DisplayMap" "DisplayMap" "len" "I") ∈ tables_1 := List.mem_of_getElem? (i := 49) rfl
theorem m_50 : (Jvm.Cond.fieldLink "DisplayMap" (57 : Nat) "DisplayMap" "foldN" "I") ∈ tables_1 := List.mem_of_getElem? (i := 50) rfl
theorem m_51 : (Jvm.Cond.lays "DisplayMap" "DisplayMap" "foldN" "I") ∈ tables_1 := List.mem_of_getElem? (i := 51) rfl
theorem m_52 : (Jvm.Cond.fieldLink "DisplayMap" (60 : Nat) "DisplayMap" "dirty" "Z") ∈ tables_1 := List.mem_of_getElem? (i := 52) rfl
theorem m_53 : (Jvm.Cond.lays "DisplayMap" "DisplayMap" "dirty" "Z") ∈ tables_1 := List.mem_of_getElem? (i := 53) rfl
theorem m_54 : (Jvm.Cond.methodLink "DisplayMapOwnLaw" (23 : Nat) ({ cls := "DisplayMapOwnLaw", name := "holds", desc := "(LDisplayMap;)Z" } : Jvm.MethodName)) ∈ tables_1 := List.mem_of_getElem? (i := 54) rfl
theorem m_55 : (Jvm.Cond.static ({ cls := "DisplayMapOwnLaw", name := "holds", desc := "(LDisplayMap;)Z" } : Jvm.MethodName)) ∈ tables_1 := List.mem_of_getElem? (i := 55) rfl
theorem m_56 : (Jvm.Cond.code ({ cls := "DisplayMapOwnLaw", name := "holds", desc := "(LDisplayMap;)Z" } : Jvm.MethodName) method_6_code (11 : Nat) (Option.some Jvm.ClassFile.FieldType.boolean)) ∈ tables_1 := List.mem_of_getElem? (i := 56) rfl
theorem m_57 : (Jvm.Cond.methodLink "DisplayMapOwnLaw" (55 : Nat) ({ cls := "DisplayMap", name := "rowCount", desc := "()I" } : Jvm.MethodName)) ∈ tables_1 := List.mem_of_getElem? (i := 57) rfl
theorem m_58 : (Jvm.Cond.declares ({ cls := "DisplayMap", name := "rowCount", desc := "()I" } : Jvm.MethodName)) ∈ tables_1 := List.mem_of_getElem? (i := 58) rfl
theorem m_59 : (Jvm.Cond.instanceMethod ({ cls := "DisplayMap", name := "rowCount", desc := "()I" } : Jvm.MethodName)) ∈ tables_1 := List.mem_of_getElem? (i := 59) rfl
theorem m_60 : (Jvm.Cond.selects "DisplayMap" ({ cls := "DisplayMap", name := "rowCount", desc := "()I" } : Jvm.MethodName) ({ cls := "DisplayMap", name := "rowCount", desc := "()I" } : Jvm.MethodName)) ∈ tables_1 := List.mem_of_getElem? (i := 60) rfl
theorem m_61 : (Jvm.Cond.code ({ cls := "DisplayMap", name := "rowCount", desc := "()I" } : Jvm.MethodName) prog_1_method_13_code (1 : Nat) (Option.some Jvm.ClassFile.FieldType.int)) ∈ tables_1 := List.mem_of_getElem? (i := 61) rfl
theorem m_62 : (Jvm.Cond.methodLink "DisplayMap" (72 : Nat) ({ cls := "DisplayMap", name := "ensureLayout", desc := "()V" } : Jvm.MethodName)) ∈ tables_1 := List.mem_of_getElem? (i := 62) rfl
theorem m_63 : (Jvm.Cond.instanceMethod ({ cls := "DisplayMap", name := "ensureLayout", desc := "()V" } : Jvm.MethodName)) ∈ tables_1 := List.mem_of_getElem? (i := 63) rfl
theorem m_64 : (Jvm.Cond.privateMethod ({ cls := "DisplayMap", name := "ensureLayout", desc := "()V" } : Jvm.MethodName)) ∈ tables_1 := List.mem_of_getElem? (i := 64) rfl
theorem m_65 : (Jvm.Cond.code ({ cls := "DisplayMap", name := "ensureLayout", desc := "()V" } : Jvm.MethodName) prog_1_method_25_code (1 : Nat) (Option.none : Option Jvm.ClassFile.FieldType)) ∈ tables_1 := List.mem_of_getElem? (i := 65) rfl
theorem m_66 : (Jvm.Cond.methodLink "DisplayMap" (85 : Nat) ({ cls := "DisplayMap", name := "layout", desc := "()V" } : Jvm.MethodName)) ∈ tables_1 := List.mem_of_getElem? (i := 66) rfl
theorem m_67 : (Jvm.Cond.instanceMethod ({ cls := "DisplayMap", name := "layout", desc := "()V" } : Jvm.MethodName)) ∈ tables_1 := List.mem_of_getElem? (i := 67) rfl
theorem m_68 : (Jvm.Cond.privateMethod ({ cls := "DisplayMap", name := "layout", desc := "()V" } : Jvm.MethodName)) ∈ tables_1 := List.mem_of_getElem? (i := 68) rfl
theorem m_69 : (Jvm.Cond.code ({ cls := "DisplayMap", name := "layout", desc := "()V" } : Jvm.MethodName) prog_1_method_26_code (5 : Nat) (Option.none : Option Jvm.ClassFile.FieldType)) ∈ tables_1 := List.mem_of_getElem? (i := 69) rfl
theorem m_70 : (Jvm.Cond.fieldLink "DisplayMap" (88 : Nat) "DisplayMap" "elCount" "I") ∈ tables_1 := List.mem_of_getElem? (i := 70) rfl
theorem m_71 : (Jvm.Cond.lays "DisplayMap" "DisplayMap" "elCount" "I") ∈ tables_1 := List.mem_of_getElem? (i := 71) rfl
theorem m_72 : (Jvm.Cond.fieldLink "DisplayMap" (75 : Nat) "DisplayMap" "rowN" "I") ∈ tables_1 := List.mem_of_getElem? (i := 72) rfl
theorem m_73 : (Jvm.Cond.lays "DisplayMap" "DisplayMap" "rowN" "I") ∈ tables_1 := List.mem_of_getElem? (i := 73) rfl
theorem m_74 : (Jvm.Cond.methodLink "DisplayMap" (91 : Nat) ({ cls := "DisplayMap", name := "openRow", desc := "(I)V" } : Jvm.MethodName)) ∈ tables_1 := List.mem_of_getElem? (i := 74) rfl
theorem m_75 : (Jvm.Cond.instanceMethod ({ cls := "DisplayMap", name := "openRow", desc := "(I)V" } : Jvm.MethodName)) ∈ tables_1 := List.mem_of_getElem? (i := 75) rfl
theorem m_76 : (Jvm.Cond.privateMethod ({ cls := "DisplayMap", name := "openRow", desc := "(I)V" } : Jvm.MethodName)) ∈ tables_1 := List.mem_of_getElem? (i := 76) rfl
theorem m_77 : (Jvm.Cond.code ({ cls := "DisplayMap", name := "openRow", desc := "(I)V" } : Jvm.MethodName) prog_1_method_27_code (2 : Nat) (Option.none : Option Jvm.ClassFile.FieldType)) ∈ tables_1 := List.mem_of_getElem? (i := 77) rfl
theorem m_78 : (Jvm.Cond.fieldLink "DisplayMap" (108 : Nat) "DisplayMap" "curStart" "I") ∈ tables_1 := List.mem_of_getElem? (i := 78) rfl
theorem m_79 : (Jvm.Cond.lays "DisplayMap" "DisplayMap" "curStart" "I") ∈ tables_1 := List.mem_of_getElem? (i := 79) rfl
theorem m_80 : (Jvm.Cond.fieldLink "DisplayMap" (111 : Nat) "DisplayMap" "curWidth" "I") ∈ tables_1 := List.mem_of_getElem? (i := 80) rfl
theorem m_81 : (Jvm.Cond.lays "DisplayMap" "DisplayMap" "curWidth" "I") ∈ tables_1 := List.mem_of_getElem? (i := 81) rfl
theorem m_82 : (Jvm.Cond.fieldLink "DisplayMap" (114 : Nat) "DisplayMap" "curFirst" "I") ∈ tables_1 := List.mem_of_getElem? (i := 82) rfl
theorem m_83 : (Jvm.Cond.lays "DisplayMap" "DisplayMap" "curFirst" "I") ∈ tables_1 := List.mem_of_getElem? (i := 83) rfl
theorem m_84 : (Jvm.Cond.fieldLink "DisplayMap" (117 : Nat) "DisplayMap" "curNum" "I") ∈ tables_1 := List.mem_of_getElem? (i := 84) rfl
theorem m_85 : (Jvm.Cond.lays "DisplayMap" "DisplayMap" "curNum" "I") ∈ tables_1 := List.mem_of_getElem? (i := 85) rfl
theorem m_86 : (Jvm.Cond.fieldLink "DisplayMap" (95 : Nat) "DisplayMap" "curCol" "I") ∈ tables_1 := List.mem_of_getElem? (i := 86) rfl
theorem m_87 : (Jvm.Cond.lays "DisplayMap" "DisplayMap" "curCol" "I") ∈ tables_1 := List.mem_of_getElem? (i := 87) rfl
theorem m_88 : (Jvm.Cond.methodLink "DisplayMap" (105 : Nat) ({ cls := "DisplayMap", name := "closeRow", desc := "()V" } : Jvm.MethodName)) ∈ tables_1 := List.mem_of_getElem? (i := 88) rfl
theorem m_89 : (Jvm.Cond.instanceMethod ({ cls := "DisplayMap", name := "closeRow", desc := "()V" } : Jvm.MethodName)) ∈ tables_1 := List.mem_of_getElem? (i := 89) rfl
theorem m_90 : (Jvm.Cond.privateMethod ({ cls := "DisplayMap", name := "closeRow", desc := "()V" } : Jvm.MethodName)) ∈ tables_1 := List.mem_of_getElem? (i := 90) rfl
theorem m_91 : (Jvm.Cond.code ({ cls := "DisplayMap", name := "closeRow", desc := "()V" } : Jvm.MethodName) prog_1_method_28_code (1 : Nat) (Option.none : Option Jvm.ClassFile.FieldType)) ∈ tables_1 := List.mem_of_getElem? (i := 91) rfl
theorem m_92 : (Jvm.Cond.methodLink "DisplayMapOwnLaw" (58 : Nat) ({ cls := "DisplayMap", name := "rowStart", desc := "(I)I" } : Jvm.MethodName)) ∈ tables_1 := List.mem_of_getElem? (i := 92) rfl
theorem m_93 : (Jvm.Cond.declares ({ cls := "DisplayMap", name := "rowStart", desc := "(I)I" } : Jvm.MethodName)) ∈ tables_1 := List.mem_of_getElem? (i := 93) rfl
theorem m_94 : (Jvm.Cond.instanceMethod ({ cls := "DisplayMap", name := "rowStart", desc := "(I)I" } : Jvm.MethodName)) ∈ tables_1 := List.mem_of_getElem? (i := 94) rfl
theorem m_95 : (Jvm.Cond.selects "DisplayMap" ({ cls := "DisplayMap", name := "rowStart", desc := "(I)I" } : Jvm.MethodName) ({ cls := "DisplayMap", name := "rowStart", desc := "(I)I" } : Jvm.MethodName)) ∈ tables_1 := List.mem_of_getElem? (i := 95) rfl
theorem m_96 : (Jvm.Cond.code ({ cls := "DisplayMap", name := "rowStart", desc := "(I)I" } : Jvm.MethodName) prog_1_method_14_code (2 : Nat) (Option.some Jvm.ClassFile.FieldType.int)) ∈ tables_1 := List.mem_of_getElem? (i := 96) rfl
theorem m_97 : (Jvm.Cond.methodLink "DisplayMapOwnLaw" (27 : Nat) ({ cls := "DisplayMap", name := "length", desc := "()I" } : Jvm.MethodName)) ∈ tables_1 := List.mem_of_getElem? (i := 97) rfl
theorem m_98 : (Jvm.Cond.declares ({ cls := "DisplayMap", name := "length", desc := "()I" } : Jvm.MethodName)) ∈ tables_1 := List.mem_of_getElem? (i := 98) rfl
theorem m_99 : (Jvm.Cond.instanceMethod ({ cls := "DisplayMap", name := "length", desc := "()I" } : Jvm.MethodName)) ∈ tables_1 := List.mem_of_getElem? (i := 99) rfl
theorem m_100 : (Jvm.Cond.selects "DisplayMap" ({ cls := "DisplayMap", name := "length", desc := "()I" } : Jvm.MethodName) ({ cls := "DisplayMap", name := "length", desc := "()I" } : Jvm.MethodName)) ∈ tables_1 := List.mem_of_getElem? (i := 100) rfl
theorem m_101 : (Jvm.Cond.code ({ cls := "DisplayMap", name := "length", desc := "()I" } : Jvm.MethodName) prog_1_method_8_code (1 : Nat) (Option.some Jvm.ClassFile.FieldType.int)) ∈ tables_1 := List.mem_of_getElem? (i := 101) rfl
theorem m_102 : (Jvm.Cond.methodLink "DisplayMapOwnLaw" (61 : Nat) ({ cls := "DisplayMap", name := "foldCount", desc := "()I" } : Jvm.MethodName)) ∈ tables_1 := List.mem_of_getElem? (i := 102) rfl
theorem m_103 : (Jvm.Cond.declares ({ cls := "DisplayMap", name := "foldCount", desc := "()I" } : Jvm.MethodName)) ∈ tables_1 := List.mem_of_getElem? (i := 103) rfl
theorem m_104 : (Jvm.Cond.instanceMethod ({ cls := "DisplayMap", name := "foldCount", desc := "()I" } : Jvm.MethodName)) ∈ tables_1 := List.mem_of_getElem? (i := 104) rfl
theorem m_105 : (Jvm.Cond.selects "DisplayMap" ({ cls := "DisplayMap", name := "foldCount", desc := "()I" } : Jvm.MethodName) ({ cls := "DisplayMap", name := "foldCount", desc := "()I" } : Jvm.MethodName)) ∈ tables_1 := List.mem_of_getElem? (i := 105) rfl
theorem m_106 : (Jvm.Cond.code ({ cls := "DisplayMap", name := "foldCount", desc := "()I" } : Jvm.MethodName) prog_1_method_10_code (1 : Nat) (Option.some Jvm.ClassFile.FieldType.int)) ∈ tables_1 := List.mem_of_getElem? (i := 106) rfl
theorem m_107 : (Jvm.Cond.methodLink "DisplayMapOwnLaw" (70 : Nat) ({ cls := "DisplayMap", name := "toDisplay", desc := "(II)I" } : Jvm.MethodName)) ∈ tables_1 := List.mem_of_getElem? (i := 107) rfl
theorem m_108 : (Jvm.Cond.declares ({ cls := "DisplayMap", name := "toDisplay", desc := "(II)I" } : Jvm.MethodName)) ∈ tables_1 := List.mem_of_getElem? (i := 108) rfl
theorem m_109 : (Jvm.Cond.instanceMethod ({ cls := "DisplayMap", name := "toDisplay", desc := "(II)I" } : Jvm.MethodName)) ∈ tables_1 := List.mem_of_getElem? (i := 109) rfl
theorem m_110 : (Jvm.Cond.selects "DisplayMap" ({ cls := "DisplayMap", name := "toDisplay", desc := "(II)I" } : Jvm.MethodName) ({ cls := "DisplayMap", name := "toDisplay", desc := "(II)I" } : Jvm.MethodName)) ∈ tables_1 := List.mem_of_getElem? (i := 110) rfl
theorem m_111 : (Jvm.Cond.code ({ cls := "DisplayMap", name := "toDisplay", desc := "(II)I" } : Jvm.MethodName) prog_1_method_16_code (9 : Nat) (Option.some Jvm.ClassFile.FieldType.int)) ∈ tables_1 := List.mem_of_getElem? (i := 111) rfl
theorem m_112 : (Jvm.Cond.methodLink "DisplayMap" (78 : Nat) ({ cls := "DisplayMap", name := "snapOutOfFold", desc := "(II)I" } : Jvm.MethodName)) ∈ tables_1 := List.mem_of_getElem? (i := 112) rfl
theorem m_113 : (Jvm.Cond.instanceMethod ({ cls := "DisplayMap", name := "snapOutOfFold", desc := "(II)I" } : Jvm.MethodName)) ∈ tables_1 := List.mem_of_getElem? (i := 113) rfl
theorem m_114 : (Jvm.Cond.privateMethod ({ cls := "DisplayMap", name := "snapOutOfFold", desc := "(II)I" } : Jvm.MethodName)) ∈ tables_1 := List.mem_of_getElem? (i := 114) rfl
theorem m_115 : (Jvm.Cond.code ({ cls := "DisplayMap", name := "snapOutOfFold", desc := "(II)I" } : Jvm.MethodName) prog_1_method_22_code (4 : Nat) (Option.some Jvm.ClassFile.FieldType.int)) ∈ tables_1 := List.mem_of_getElem? (i := 115) rfl
theorem m_116 : (Jvm.Cond.methodLink "DisplayMapOwnLaw" (74 : Nat) ({ cls := "DisplayMap", name := "fromDisplay", desc := "(III)I" } : Jvm.MethodName)) ∈ tables_1 := List.mem_of_getElem? (i := 116) rfl
theorem m_117 : (Jvm.Cond.declares ({ cls := "DisplayMap", name := "fromDisplay", desc := "(III)I" } : Jvm.MethodName)) ∈ tables_1 := List.mem_of_getElem? (i := 117) rfl
theorem m_118 : (Jvm.Cond.instanceMethod ({ cls := "DisplayMap", name := "fromDisplay", desc := "(III)I" } : Jvm.MethodName)) ∈ tables_1 := List.mem_of_getElem? (i := 118) rfl
theorem m_119 : (Jvm.Cond.selects "DisplayMap" ({ cls := "DisplayMap", name := "fromDisplay", desc := "(III)I" } : Jvm.MethodName) ({ cls := "DisplayMap", name := "fromDisplay", desc := "(III)I" } : Jvm.MethodName)) ∈ tables_1 := List.mem_of_getElem? (i := 119) rfl
theorem m_120 : (Jvm.Cond.code ({ cls := "DisplayMap", name := "fromDisplay", desc := "(III)I" } : Jvm.MethodName) prog_1_method_17_code (9 : Nat) (Option.some Jvm.ClassFile.FieldType.int)) ∈ tables_1 := List.mem_of_getElem? (i := 120) rfl
theorem m_121 : (Jvm.Cond.methodLink "DisplayMap" (82 : Nat) ({ cls := "DisplayMap", name := "rowEnd", desc := "(I)I" } : Jvm.MethodName)) ∈ tables_1 := List.mem_of_getElem? (i := 121) rfl
theorem m_122 : (Jvm.Cond.instanceMethod ({ cls := "DisplayMap", name := "rowEnd", desc := "(I)I" } : Jvm.MethodName)) ∈ tables_1 := List.mem_of_getElem? (i := 122) rfl
theorem m_123 : (Jvm.Cond.privateMethod ({ cls := "DisplayMap", name := "rowEnd", desc := "(I)I" } : Jvm.MethodName)) ∈ tables_1 := List.mem_of_getElem? (i := 123) rfl
theorem m_124 : (Jvm.Cond.code ({ cls := "DisplayMap", name := "rowEnd", desc := "(I)I" } : Jvm.MethodName) prog_1_method_24_code (4 : Nat) (Option.some Jvm.ClassFile.FieldType.int)) ∈ tables_1 := List.mem_of_getElem? (i := 124) rfl
theorem m_125 : (Jvm.Cond.methodLink "DisplayMapOwnLaw" (31 : Nat) ({ cls := "DisplayMapOwnLaw", name := "charOf", desc := "(I)I" } : Jvm.MethodName)) ∈ tables_1 := List.mem_of_getElem? (i := 125) rfl
theorem m_126 : (Jvm.Cond.static ({ cls := "DisplayMapOwnLaw", name := "charOf", desc := "(I)I" } : Jvm.MethodName)) ∈ tables_1 := List.mem_of_getElem? (i := 126) rfl
theorem m_127 : (Jvm.Cond.code ({ cls := "DisplayMapOwnLaw", name := "charOf", desc := "(I)I" } : Jvm.MethodName) method_4_code (2 : Nat) (Option.some Jvm.ClassFile.FieldType.int)) ∈ tables_1 := List.mem_of_getElem? (i := 127) rfl
theorem m_128 : (Jvm.Cond.methodLink "DisplayMapOwnLaw" (34 : Nat) ({ cls := "DisplayMap", name := "insert", desc := "(II)Z" } : Jvm.MethodName)) ∈ tables_1 := List.mem_of_getElem? (i := 128) rfl
theorem m_129 : (Jvm.Cond.declares ({ cls := "DisplayMap", name := "insert", desc := "(II)Z" } : Jvm.MethodName)) ∈ tables_1 := List.mem_of_getElem? (i := 129) rfl
theorem m_130 : (Jvm.Cond.instanceMethod ({ cls := "DisplayMap", name := "insert", desc := "(II)Z" } : Jvm.MethodName)) ∈ tables_1 := List.mem_of_getElem? (i := 130) rfl
theorem m_131 : (Jvm.Cond.selects "DisplayMap" ({ cls := "DisplayMap", name := "insert", desc := "(II)Z" } : Jvm.MethodName) ({ cls := "DisplayMap", name := "insert", desc := "(II)Z" } : Jvm.MethodName)) ∈ tables_1 := List.mem_of_getElem? (i := 131) rfl
theorem m_132 : (Jvm.Cond.code ({ cls := "DisplayMap", name := "insert", desc := "(II)Z" } : Jvm.MethodName) prog_1_method_2_code (4 : Nat) (Option.some Jvm.ClassFile.FieldType.boolean)) ∈ tables_1 := List.mem_of_getElem? (i := 132) rfl
theorem m_133 : (Jvm.Cond.methodLink "DisplayMap" (64 : Nat) ({ cls := "DisplayMap", name := "validChar", desc := "(I)Z" } : Jvm.MethodName)) ∈ tables_1 := List.mem_of_getElem? (i := 133) rfl
theorem m_134 : (Jvm.Cond.static ({ cls := "DisplayMap", name := "validChar", desc := "(I)Z" } : Jvm.MethodName)) ∈ tables_1 := List.mem_of_getElem? (i := 134) rfl
theorem m_135 : (Jvm.Cond.code ({ cls := "DisplayMap", name := "validChar", desc := "(I)Z" } : Jvm.MethodName) prog_1_method_20_code (1 : Nat) (Option.some Jvm.ClassFile.FieldType.boolean)) ∈ tables_1 := List.mem_of_getElem? (i := 135) rfl
theorem m_136 : (Jvm.Cond.methodLink "DisplayMap" (98 : Nat) ({ cls := "DisplayMap", name := "foldStartingAt", desc := "(I)I" } : Jvm.MethodName)) ∈ tables_1 := List.mem_of_getElem? (i := 136) rfl
theorem m_137 : (Jvm.Cond.instanceMethod ({ cls := "DisplayMap", name := "foldStartingAt", desc := "(I)I" } : Jvm.MethodName)) ∈ tables_1 := List.mem_of_getElem? (i := 137) rfl
theorem m_138 : (Jvm.Cond.privateMethod ({ cls := "DisplayMap", name := "foldStartingAt", desc := "(I)I" } : Jvm.MethodName)) ∈ tables_1 := List.mem_of_getElem? (i := 138) rfl
theorem m_139 : (Jvm.Cond.code ({ cls := "DisplayMap", name := "foldStartingAt", desc := "(I)I" } : Jvm.MethodName) prog_1_method_23_code (3 : Nat) (Option.some Jvm.ClassFile.FieldType.int)) ∈ tables_1 := List.mem_of_getElem? (i := 139) rfl
theorem m_140 : (Jvm.Cond.methodLink "DisplayMap" (101 : Nat) ({ cls := "DisplayMap", name := "addElement", desc := "(III)V" } : Jvm.MethodName)) ∈ tables_1 := List.mem_of_getElem? (i := 140) rfl
theorem m_141 : (Jvm.Cond.instanceMethod ({ cls := "DisplayMap", name := "addElement", desc := "(III)V" } : Jvm.MethodName)) ∈ tables_1 := List.mem_of_getElem? (i := 141) rfl
theorem m_142 : (Jvm.Cond.privateMethod ({ cls := "DisplayMap", name := "addElement", desc := "(III)V" } : Jvm.MethodName)) ∈ tables_1 := List.mem_of_getElem? (i := 142) rfl
theorem m_143 : (Jvm.Cond.code ({ cls := "DisplayMap", name := "addElement", desc := "(III)V" } : Jvm.MethodName) prog_1_method_29_code (4 : Nat) (Option.none : Option Jvm.ClassFile.FieldType)) ∈ tables_1 := List.mem_of_getElem? (i := 143) rfl
theorem m_144 : (Jvm.Cond.methodLink "DisplayMapOwnLaw" (42 : Nat) ({ cls := "DisplayMap", name := "fold", desc := "(II)Z" } : Jvm.MethodName)) ∈ tables_1 := List.mem_of_getElem? (i := 144) rfl
theorem m_145 : (Jvm.Cond.declares ({ cls := "DisplayMap", name := "fold", desc := "(II)Z" } : Jvm.MethodName)) ∈ tables_1 := List.mem_of_getElem? (i := 145) rfl
theorem m_146 : (Jvm.Cond.instanceMethod ({ cls := "DisplayMap", name := "fold", desc := "(II)Z" } : Jvm.MethodName)) ∈ tables_1 := List.mem_of_getElem? (i := 146) rfl
theorem m_147 : (Jvm.Cond.selects "DisplayMap" ({ cls := "DisplayMap", name := "fold", desc := "(II)Z" } : Jvm.MethodName) ({ cls := "DisplayMap", name := "fold", desc := "(II)Z" } : Jvm.MethodName)) ∈ tables_1 := List.mem_of_getElem? (i := 147) rfl
theorem m_148 : (Jvm.Cond.code ({ cls := "DisplayMap", name := "fold", desc := "(II)Z" } : Jvm.MethodName) prog_1_method_4_code (5 : Nat) (Option.some Jvm.ClassFile.FieldType.boolean)) ∈ tables_1 := List.mem_of_getElem? (i := 148) rfl
theorem m_149 : (Jvm.Cond.methodLink "DisplayMapOwnLaw" (45 : Nat) ({ cls := "DisplayMap", name := "unfoldAt", desc := "(I)Z" } : Jvm.MethodName)) ∈ tables_1 := List.mem_of_getElem? (i := 149) rfl
theorem m_150 : (Jvm.Cond.declares ({ cls := "DisplayMap", name := "unfoldAt", desc := "(I)Z" } : Jvm.MethodName)) ∈ tables_1 := List.mem_of_getElem? (i := 150) rfl
theorem m_151 : (Jvm.Cond.instanceMethod ({ cls := "DisplayMap", name := "unfoldAt", desc := "(I)Z" } : Jvm.MethodName)) ∈ tables_1 := List.mem_of_getElem? (i := 151) rfl
theorem m_152 : (Jvm.Cond.selects "DisplayMap" ({ cls := "DisplayMap", name := "unfoldAt", desc := "(I)Z" } : Jvm.MethodName) ({ cls := "DisplayMap", name := "unfoldAt", desc := "(I)Z" } : Jvm.MethodName)) ∈ tables_1 := List.mem_of_getElem? (i := 152) rfl
theorem m_153 : (Jvm.Cond.code ({ cls := "DisplayMap", name := "unfoldAt", desc := "(I)Z" } : Jvm.MethodName) prog_1_method_5_code (4 : Nat) (Option.some Jvm.ClassFile.FieldType.boolean)) ∈ tables_1 := List.mem_of_getElem? (i := 153) rfl
theorem m_154 : (Jvm.Cond.methodLink "DisplayMapOwnLaw" (48 : Nat) ({ cls := "DisplayMap", name := "setWrapWidth", desc := "(I)V" } : Jvm.MethodName)) ∈ tables_1 := List.mem_of_getElem? (i := 154) rfl
theorem m_155 : (Jvm.Cond.declares ({ cls := "DisplayMap", name := "setWrapWidth", desc := "(I)V" } : Jvm.MethodName)) ∈ tables_1 := List.mem_of_getElem? (i := 155) rfl
theorem m_156 : (Jvm.Cond.instanceMethod ({ cls := "DisplayMap", name := "setWrapWidth", desc := "(I)V" } : Jvm.MethodName)) ∈ tables_1 := List.mem_of_getElem? (i := 156) rfl
theorem m_157 : (Jvm.Cond.selects "DisplayMap" ({ cls := "DisplayMap", name := "setWrapWidth", desc := "(I)V" } : Jvm.MethodName) ({ cls := "DisplayMap", name := "setWrapWidth", desc := "(I)V" } : Jvm.MethodName)) ∈ tables_1 := List.mem_of_getElem? (i := 157) rfl
theorem m_158 : (Jvm.Cond.code ({ cls := "DisplayMap", name := "setWrapWidth", desc := "(I)V" } : Jvm.MethodName) prog_1_method_6_code (2 : Nat) (Option.none : Option Jvm.ClassFile.FieldType)) ∈ tables_1 := List.mem_of_getElem? (i := 158) rfl
theorem m_159 : (Jvm.Cond.methodLink "DisplayMap" (68 : Nat) ({ cls := "DisplayMap", name := "overlapsAny", desc := "(II)Z" } : Jvm.MethodName)) ∈ tables_1 := List.mem_of_getElem? (i := 159) rfl
theorem m_160 : (Jvm.Cond.instanceMethod ({ cls := "DisplayMap", name := "overlapsAny", desc := "(II)Z" } : Jvm.MethodName)) ∈ tables_1 := List.mem_of_getElem? (i := 160) rfl
theorem m_161 : (Jvm.Cond.privateMethod ({ cls := "DisplayMap", name := "overlapsAny", desc := "(II)Z" } : Jvm.MethodName)) ∈ tables_1 := List.mem_of_getElem? (i := 161) rfl
theorem m_162 : (Jvm.Cond.code ({ cls := "DisplayMap", name := "overlapsAny", desc := "(II)Z" } : Jvm.MethodName) prog_1_method_21_code (4 : Nat) (Option.some Jvm.ClassFile.FieldType.boolean)) ∈ tables_1 := List.mem_of_getElem? (i := 162) rfl
theorem m_163 : (Jvm.Cond.methodLink "DisplayMapOwnLaw" (64 : Nat) ({ cls := "DisplayMap", name := "foldStart", desc := "(I)I" } : Jvm.MethodName)) ∈ tables_1 := List.mem_of_getElem? (i := 163) rfl
theorem m_164 : (Jvm.Cond.declares ({ cls := "DisplayMap", name := "foldStart", desc := "(I)I" } : Jvm.MethodName)) ∈ tables_1 := List.mem_of_getElem? (i := 164) rfl
theorem m_165 : (Jvm.Cond.instanceMethod ({ cls := "DisplayMap", name := "foldStart", desc := "(I)I" } : Jvm.MethodName)) ∈ tables_1 := List.mem_of_getElem? (i := 165) rfl
theorem m_166 : (Jvm.Cond.selects "DisplayMap" ({ cls := "DisplayMap", name := "foldStart", desc := "(I)I" } : Jvm.MethodName) ({ cls := "DisplayMap", name := "foldStart", desc := "(I)I" } : Jvm.MethodName)) ∈ tables_1 := List.mem_of_getElem? (i := 166) rfl
theorem m_167 : (Jvm.Cond.code ({ cls := "DisplayMap", name := "foldStart", desc := "(I)I" } : Jvm.MethodName) prog_1_method_11_code (2 : Nat) (Option.some Jvm.ClassFile.FieldType.int)) ∈ tables_1 := List.mem_of_getElem? (i := 167) rfl
theorem m_168 : (Jvm.Cond.methodLink "DisplayMapOwnLaw" (67 : Nat) ({ cls := "DisplayMap", name := "foldEnd", desc := "(I)I" } : Jvm.MethodName)) ∈ tables_1 := List.mem_of_getElem? (i := 168) rfl
theorem m_169 : (Jvm.Cond.declares ({ cls := "DisplayMap", name := "foldEnd", desc := "(I)I" } : Jvm.MethodName)) ∈ tables_1 := List.mem_of_getElem? (i := 169) rfl
theorem m_170 : (Jvm.Cond.instanceMethod ({ cls := "DisplayMap", name := "foldEnd", desc := "(I)I" } : Jvm.MethodName)) ∈ tables_1 := List.mem_of_getElem? (i := 170) rfl
theorem m_171 : (Jvm.Cond.selects "DisplayMap" ({ cls := "DisplayMap", name := "foldEnd", desc := "(I)I" } : Jvm.MethodName) ({ cls := "DisplayMap", name := "foldEnd", desc := "(I)I" } : Jvm.MethodName)) ∈ tables_1 := List.mem_of_getElem? (i := 171) rfl
theorem m_172 : (Jvm.Cond.code ({ cls := "DisplayMap", name := "foldEnd", desc := "(I)I" } : Jvm.MethodName) prog_1_method_12_code (2 : Nat) (Option.some Jvm.ClassFile.FieldType.int)) ∈ tables_1 := List.mem_of_getElem? (i := 172) rfl
theorem m_173 : (Jvm.Cond.methodLink "DisplayMapOwnLaw" (38 : Nat) ({ cls := "DisplayMap", name := "delete", desc := "(I)Z" } : Jvm.MethodName)) ∈ tables_1 := List.mem_of_getElem? (i := 173) rfl
theorem m_174 : (Jvm.Cond.declares ({ cls := "DisplayMap", name := "delete", desc := "(I)Z" } : Jvm.MethodName)) ∈ tables_1 := List.mem_of_getElem? (i := 174) rfl
theorem m_175 : (Jvm.Cond.instanceMethod ({ cls := "DisplayMap", name := "delete", desc := "(I)Z" } : Jvm.MethodName)) ∈ tables_1 := List.mem_of_getElem? (i := 175) rfl
theorem m_176 : (Jvm.Cond.selects "DisplayMap" ({ cls := "DisplayMap", name := "delete", desc := "(I)Z" } : Jvm.MethodName) ({ cls := "DisplayMap", name := "delete", desc := "(I)Z" } : Jvm.MethodName)) ∈ tables_1 := List.mem_of_getElem? (i := 176) rfl
theorem m_177 : (Jvm.Cond.code ({ cls := "DisplayMap", name := "delete", desc := "(I)Z" } : Jvm.MethodName) prog_1_method_3_code (6 : Nat) (Option.some Jvm.ClassFile.FieldType.boolean)) ∈ tables_1 := List.mem_of_getElem? (i := 177) rfl
theorem m_178 : (Jvm.Cond.methodLink "DisplayMapOwnLaw" (52 : Nat) ({ cls := "DisplayMap", name := "setTabSize", desc := "(I)V" } : Jvm.MethodName)) ∈ tables_1 := List.mem_of_getElem? (i := 178) rfl
theorem m_179 : (Jvm.Cond.declares ({ cls := "DisplayMap", name := "setTabSize", desc := "(I)V" } : Jvm.MethodName)) ∈ tables_1 := List.mem_of_getElem? (i := 179) rfl
theorem m_180 : (Jvm.Cond.instanceMethod ({ cls := "DisplayMap", name := "setTabSize", desc := "(I)V" } : Jvm.MethodName)) ∈ tables_1 := List.mem_of_getElem? (i := 180) rfl
theorem m_181 : (Jvm.Cond.selects "DisplayMap" ({ cls := "DisplayMap", name := "setTabSize", desc := "(I)V" } : Jvm.MethodName) ({ cls := "DisplayMap", name := "setTabSize", desc := "(I)V" } : Jvm.MethodName)) ∈ tables_1 := List.mem_of_getElem? (i := 181) rfl
theorem m_182 : (Jvm.Cond.code ({ cls := "DisplayMap", name := "setTabSize", desc := "(I)V" } : Jvm.MethodName) prog_1_method_7_code (2 : Nat) (Option.none : Option Jvm.ClassFile.FieldType)) ∈ tables_1 := List.mem_of_getElem? (i := 182) rfl
theorem laid0 {Z : State} {a0 : Array Value} (hw : HW a0 Z) : LaidAll Z a0 CN lay vs0 :=
  ⟨⟨Or.inr (hw _ m_19), .array .int, by decide, rfl⟩, ⟨Or.inl (hw _ m_49), .int, by decide, rfl⟩, ⟨Or.inr (hw _ m_21), .array .int, by decide, rfl⟩, ⟨Or.inr (hw _ m_23), .array .int, by decide, rfl⟩, ⟨Or.inl (hw _ m_51), .int, by decide, rfl⟩, ⟨Or.inl (hw _ m_42), .int, by decide, rfl⟩, ⟨Or.inl (hw _ m_47), .int, by decide, rfl⟩, ⟨Or.inl (hw _ m_53), .boolean, by decide, rfl⟩, ⟨Or.inr (hw _ m_25), .array .int, by decide, rfl⟩, ⟨Or.inr (hw _ m_27), .array .int, by decide, rfl⟩, ⟨Or.inr (hw _ m_29), .array .int, by decide, rfl⟩, ⟨Or.inl (hw _ m_71), .int, by decide, rfl⟩, ⟨Or.inr (hw _ m_31), .array .int, by decide, rfl⟩, ⟨Or.inr (hw _ m_33), .array .int, by decide, rfl⟩, ⟨Or.inr (hw _ m_35), .array .int, by decide, rfl⟩, ⟨Or.inr (hw _ m_37), .array .int, by decide, rfl⟩, ⟨Or.inl (hw _ m_73), .int, by decide, rfl⟩, ⟨Or.inl (hw _ m_79), .int, by decide, rfl⟩, ⟨Or.inl (hw _ m_81), .int, by decide, rfl⟩, ⟨Or.inl (hw _ m_83), .int, by decide, rfl⟩, ⟨Or.inl (hw _ m_85), .int, by decide, rfl⟩, ⟨Or.inl (hw _ m_87), .int, by decide, rfl⟩, trivial⟩
theorem hlay {Z : State} {a0 : Array Value} (hw : HW a0 Z) : ∀ (a b : Nat) (f g : String × String), lay[a]? = some f → lay[b]? = some g → a ≠ b → RoadKit.slotOf Z CN f.1 f.2 ≠ RoadKit.slotOf Z CN g.1 g.2 := (laid0 hw).ne (by decide)
theorem vs0_ok {Z : State} {a0 : Array Value} (hw : HW a0 Z) : ∀ (i : Nat) (f : String × String) (v : Value), lay[i]? = some f → vs0[i]? = some v → Laid Z a0 CN CN f.1 f.2 ∧ ∃ ty, parseFieldDescriptor f.2 = some ty ∧ v = defaultValue ty := (laid0 hw).new
theorem pn_cls : plainName CN = true := by first | (simp [plainName, overriddenIn]; done) | decide +kernel
theorem pn_law : plainName "DisplayMapOwnLaw" = true := by first | (simp [plainName, overriddenIn]; done) | decide +kernel
theorem d0_0 : dc method_2_code 0 (.iload_n 1) 1 := by decide +kernel
theorem d0_1 : dc method_2_code 1 (.aload_n 0) 1 := by decide +kernel
theorem d0_2 : dc method_2_code 2 (.arraylength) 1 := by decide +kernel
theorem d0_3 : dc method_2_code 3 (.if_icmp .ge 9) 3 := by decide +kernel
theorem d0_6 : dc method_2_code 6 (.aload_n 0) 1 := by decide +kernel
theorem d0_7 : dc method_2_code 7 (.iload_n 1) 1 := by decide +kernel
theorem d0_8 : dc method_2_code 8 (.iaload) 1 := by decide +kernel
theorem d0_9 : dc method_2_code 9 (.goto 4) 3 := by decide +kernel
theorem d0_12 : dc method_2_code 12 (.iconst 0) 1 := by decide +kernel
theorem d0_13 : dc method_2_code 13 (.ireturn) 1 := by decide +kernel
abbrev y0 : MethodName := ⟨"DisplayMapOwnLaw", "cell", "([II)I"⟩
theorem hy0 : y0.cls ≠ "java/lang/invoke/MethodHandle" ∧ y0.cls ≠ "java/lang/invoke/VarHandle" := by decide
theorem pd0 : parseMethodDescriptor y0.desc = some ⟨[.array .int, .int], some .int⟩ := by decide +kernel
abbrev R0 : Room := { frames := 0, cells := 0, slots := 0, locals := 0 }
abbrev P0 (a : List Int32) (r : Int32) : Option Value → List OwnC → Prop := fun v H' => v = some (.int r) ∧ H' = ([cI a])
abbrev W0 (l : Launch) (Z : State) (n0 : Nat) (Q : Option Value → List OwnC → Prop) (k n pc : Nat) (L : List Slot) (S : List Value) (H : List OwnC) : Prop := WP l Z CN lay "DisplayMapOwnLaw" "cell" method_2_code 2 (some FieldType.int) R0 n0 1 Q k n pc L S H
def f_L_cell_13 (t0 : Int32) (a : List Int32) : Option (Int32) :=
  some t0
set_option maxRecDepth 65536 in
set_option maxHeartbeats 4000000 in
theorem ok0_13 (l : Launch) (Z : State) (a0 : Array Value) (hw : HW a0 Z) (n0 : Nat) (t0 : Int32) (a : List Int32) (r : Int32) (h : f_L_cell_13 t0 a = some r) : W0 l Z n0 (P0 a r) 0 0 13 [.unset, .unset] [.int t0] ([cI a]) := by
  unfold f_L_cell_13 at h
  cases h
  exact WP.ireturn d0_13 rfl (leb rfl) (leb rfl) ⟨rfl, rfl⟩
def f_L_cell (p1 : Int32) (a : List Int32) : Option (Int32) :=
  if p1 < a.length.toInt32 then
    (rd a p1).bind fun x2 =>
    f_L_cell_13 x2 a
  else
    f_L_cell_13 (0 : Int32) a
set_option maxRecDepth 65536 in
set_option maxHeartbeats 4000000 in
theorem ok0 (l : Launch) (Z : State) (a0 : Array Value) (hw : HW a0 Z) (p1 : Int32) (a : List Int32) (r : Int32) (h : f_L_cell p1 a = some r) : CS l Z CN lay y0 method_2_code 2 (some FieldType.int) R0 1 [.ref 0, .int p1] ([cI a]) (P0 a r) := by
  refine CS.of_wp pn_law (leb rfl) fun n0 => ?_
  show W0 l Z n0 (P0 a r) 0 0 0 [.val (.ref 0), .val (.int p1)] [] ([cI a])
  unfold f_L_cell at h
  refine WP.iloadN d0_0 rfl ?_
  refine WP.aloadN d0_1 rfl ?_
  refine WP.arraylength (i := 0) (xs := a) d0_2 rfl ?_
  rcases ite_e h with ⟨hc1, h⟩ | ⟨hc1, h⟩
  ·
    refine WP.icmpN d0_3 (XT.ii_ge_f hc1) ?_
    refine WP.aloadN d0_6 rfl ?_
    refine WP.iloadN d0_7 rfl ?_
    obtain ⟨x2, hx2, h⟩ := Option.bind_eq_some_iff.mp h
    refine WP.iaload (i := 0) d0_8 rfl hx2 ?_
    refine WP.goto (pc' := 13) d0_9 (by decide) rfl ?_
    exact WP.weak (L' := [.unset, .unset]) trivial (ok0_13 l Z a0 hw n0 x2 a _ h)
  ·
    refine WP.icmpY (pc' := 12) d0_3 (XT.ii_ge_t hc1) (by decide) rfl ?_
    refine WP.iconst (0 : Int32) d0_12 rfl ?_
    exact WP.weak (L' := [.unset, .unset]) trivial (ok0_13 l Z a0 hw n0 (0 : Int32) a _ h)
theorem d1_0 : dc method_3_code 0 (.iload_n 0) 1 := by decide +kernel
theorem d1_1 : dc method_3_code 1 (.ldc 7) 2 := by decide +kernel
theorem d1_3 : dc method_3_code 3 (.iand) 1 := by decide +kernel
theorem d1_4 : dc method_3_code 4 (.ireturn) 1 := by decide +kernel
abbrev y1 : MethodName := ⟨"DisplayMapOwnLaw", "nat", "(I)I"⟩
theorem hy1 : y1.cls ≠ "java/lang/invoke/MethodHandle" ∧ y1.cls ≠ "java/lang/invoke/VarHandle" := by decide
theorem pd1 : parseMethodDescriptor y1.desc = some ⟨[.int], some .int⟩ := by decide +kernel
abbrev R1 : Room := { frames := 0, cells := 0, slots := 0, locals := 0 }
abbrev P1 (r : Int32) : Option Value → List OwnC → Prop := fun v H' => v = some (.int r) ∧ H' = ([] : List OwnC)
abbrev W1 (l : Launch) (Z : State) (n0 : Nat) (Q : Option Value → List OwnC → Prop) (k n pc : Nat) (L : List Slot) (S : List Value) (H : List OwnC) : Prop := WP l Z CN lay "DisplayMapOwnLaw" "nat" method_3_code 1 (some FieldType.int) R1 n0 0 Q k n pc L S H
def f_L_nat (p0 : Int32) : Option (Int32) :=
  some (p0 &&& (2147483647 : Int32))
set_option maxRecDepth 65536 in
set_option maxHeartbeats 4000000 in
theorem ok1 (l : Launch) (Z : State) (a0 : Array Value) (hw : HW a0 Z) (p0 : Int32) (r : Int32) (h : f_L_nat p0 = some r) : CS l Z CN lay y1 method_3_code 1 (some FieldType.int) R1 0 [.int p0] ([] : List OwnC) (P1 r) := by
  refine CS.of_wp pn_law (leb rfl) fun n0 => ?_
  show W1 l Z n0 (P1 r) 0 0 0 [.val (.int p0)] [] ([] : List OwnC)
  unfold f_L_nat at h
  refine WP.iloadN d1_0 rfl ?_
  refine WP.ldc d1_1 (hw _ m_10) ?_
  refine WP.iand d1_3 ?_
  cases h
  exact WP.ireturn d1_4 rfl (leb rfl) (leb rfl) ⟨rfl, rfl⟩
theorem d3_0 : dc prog_1_method_18_code 0 (.iload_n 0) 1 := by decide +kernel
theorem d3_1 : dc prog_1_method_18_code 1 (.iconst 1) 1 := by decide +kernel
theorem d3_2 : dc prog_1_method_18_code 2 (.if_icmp .ge 5) 3 := by decide +kernel
theorem d3_5 : dc prog_1_method_18_code 5 (.iconst 1) 1 := by decide +kernel
theorem d3_6 : dc prog_1_method_18_code 6 (.ireturn) 1 := by decide +kernel
theorem d3_7 : dc prog_1_method_18_code 7 (.iload_n 0) 1 := by decide +kernel
theorem d3_8 : dc prog_1_method_18_code 8 (.bipush 8) 2 := by decide +kernel
theorem d3_10 : dc prog_1_method_18_code 10 (.if_icmp .le 6) 3 := by decide +kernel
theorem d3_13 : dc prog_1_method_18_code 13 (.bipush 8) 2 := by decide +kernel
theorem d3_15 : dc prog_1_method_18_code 15 (.ireturn) 1 := by decide +kernel
theorem d3_16 : dc prog_1_method_18_code 16 (.iload_n 0) 1 := by decide +kernel
theorem d3_17 : dc prog_1_method_18_code 17 (.ireturn) 1 := by decide +kernel
abbrev y3 : MethodName := ⟨"DisplayMap", "clampTab", "(I)I"⟩
theorem hy3 : y3.cls ≠ "java/lang/invoke/MethodHandle" ∧ y3.cls ≠ "java/lang/invoke/VarHandle" := by decide
theorem pd3 : parseMethodDescriptor y3.desc = some ⟨[.int], some .int⟩ := by decide +kernel
abbrev R3 : Room := { frames := 0, cells := 0, slots := 0, locals := 0 }
abbrev P3 (r : Int32) : Option Value → List OwnC → Prop := fun v H' => v = some (.int r) ∧ H' = ([] : List OwnC)
abbrev W3 (l : Launch) (Z : State) (n0 : Nat) (Q : Option Value → List OwnC → Prop) (k n pc : Nat) (L : List Slot) (S : List Value) (H : List OwnC) : Prop := WP l Z CN lay "DisplayMap" "clampTab" prog_1_method_18_code 1 (some FieldType.int) R3 n0 0 Q k n pc L S H
def f_clampTab (p0 : Int32) : Option (Int32) :=
  if p0 < (1 : Int32) then
    some (1 : Int32)
  else
    if (8 : Int32) < p0 then
      some (8 : Int32)
    else
      some p0
set_option maxRecDepth 65536 in
set_option maxHeartbeats 4000000 in
theorem ok3 (l : Launch) (Z : State) (a0 : Array Value) (hw : HW a0 Z) (p0 : Int32) (r : Int32) (h : f_clampTab p0 = some r) : CS l Z CN lay y3 prog_1_method_18_code 1 (some FieldType.int) R3 0 [.int p0] ([] : List OwnC) (P3 r) := by
  refine CS.of_wp pn_cls (leb rfl) fun n0 => ?_
  show W3 l Z n0 (P3 r) 0 0 0 [.val (.int p0)] [] ([] : List OwnC)
  unfold f_clampTab at h
  refine WP.iloadN d3_0 rfl ?_
  refine WP.iconst (1 : Int32) d3_1 rfl ?_
  rcases ite_e h with ⟨hc1, h⟩ | ⟨hc1, h⟩
  ·
    refine WP.icmpN d3_2 (XT.ii_ge_f hc1) ?_
    refine WP.iconst (1 : Int32) d3_5 rfl ?_
    cases h
    exact WP.ireturn d3_6 rfl (leb rfl) (leb rfl) ⟨rfl, rfl⟩
  ·
    refine WP.icmpY (pc' := 7) d3_2 (XT.ii_ge_t hc1) (by decide) rfl ?_
    refine WP.iloadN d3_7 rfl ?_
    refine WP.bipush (8 : Int32) d3_8 rfl ?_
    rcases ite_e h with ⟨hc2, h⟩ | ⟨hc2, h⟩
    ·
      refine WP.icmpN d3_10 (XT.ii_le_f hc2) ?_
      refine WP.bipush (8 : Int32) d3_13 rfl ?_
      cases h
      exact WP.ireturn d3_15 rfl (leb rfl) (leb rfl) ⟨rfl, rfl⟩
    ·
      refine WP.icmpY (pc' := 16) d3_10 (XT.ii_le_t hc2) (by decide) rfl ?_
      refine WP.iloadN d3_16 rfl ?_
      cases h
      exact WP.ireturn d3_17 rfl (leb rfl) (leb rfl) ⟨rfl, rfl⟩
theorem d4_0 : dc prog_1_method_19_code 0 (.iload_n 0) 1 := by decide +kernel
theorem d4_1 : dc prog_1_method_19_code 1 (.bipush 8) 2 := by decide +kernel
theorem d4_3 : dc prog_1_method_19_code 3 (.if_icmp .ge 6) 3 := by decide +kernel
theorem d4_6 : dc prog_1_method_19_code 6 (.bipush 8) 2 := by decide +kernel
theorem d4_8 : dc prog_1_method_19_code 8 (.ireturn) 1 := by decide +kernel
theorem d4_9 : dc prog_1_method_19_code 9 (.iload_n 0) 1 := by decide +kernel
theorem d4_10 : dc prog_1_method_19_code 10 (.bipush 32) 2 := by decide +kernel
theorem d4_12 : dc prog_1_method_19_code 12 (.if_icmp .le 6) 3 := by decide +kernel
theorem d4_15 : dc prog_1_method_19_code 15 (.bipush 32) 2 := by decide +kernel
theorem d4_17 : dc prog_1_method_19_code 17 (.ireturn) 1 := by decide +kernel
theorem d4_18 : dc prog_1_method_19_code 18 (.iload_n 0) 1 := by decide +kernel
theorem d4_19 : dc prog_1_method_19_code 19 (.ireturn) 1 := by decide +kernel
abbrev y4 : MethodName := ⟨"DisplayMap", "clampWrap", "(I)I"⟩
theorem hy4 : y4.cls ≠ "java/lang/invoke/MethodHandle" ∧ y4.cls ≠ "java/lang/invoke/VarHandle" := by decide
theorem pd4 : parseMethodDescriptor y4.desc = some ⟨[.int], some .int⟩ := by decide +kernel
abbrev R4 : Room := { frames := 0, cells := 0, slots := 0, locals := 0 }
abbrev P4 (r : Int32) : Option Value → List OwnC → Prop := fun v H' => v = some (.int r) ∧ H' = ([] : List OwnC)
abbrev W4 (l : Launch) (Z : State) (n0 : Nat) (Q : Option Value → List OwnC → Prop) (k n pc : Nat) (L : List Slot) (S : List Value) (H : List OwnC) : Prop := WP l Z CN lay "DisplayMap" "clampWrap" prog_1_method_19_code 1 (some FieldType.int) R4 n0 0 Q k n pc L S H
def f_clampWrap (p0 : Int32) : Option (Int32) :=
  if p0 < (8 : Int32) then
    some (8 : Int32)
  else
    if (32 : Int32) < p0 then
      some (32 : Int32)
    else
      some p0
set_option maxRecDepth 65536 in
set_option maxHeartbeats 4000000 in
theorem ok4 (l : Launch) (Z : State) (a0 : Array Value) (hw : HW a0 Z) (p0 : Int32) (r : Int32) (h : f_clampWrap p0 = some r) : CS l Z CN lay y4 prog_1_method_19_code 1 (some FieldType.int) R4 0 [.int p0] ([] : List OwnC) (P4 r) := by
  refine CS.of_wp pn_cls (leb rfl) fun n0 => ?_
  show W4 l Z n0 (P4 r) 0 0 0 [.val (.int p0)] [] ([] : List OwnC)
  unfold f_clampWrap at h
  refine WP.iloadN d4_0 rfl ?_
  refine WP.bipush (8 : Int32) d4_1 rfl ?_
  rcases ite_e h with ⟨hc1, h⟩ | ⟨hc1, h⟩
  ·
    refine WP.icmpN d4_3 (XT.ii_ge_f hc1) ?_
    refine WP.bipush (8 : Int32) d4_6 rfl ?_
    cases h
    exact WP.ireturn d4_8 rfl (leb rfl) (leb rfl) ⟨rfl, rfl⟩
  ·
    refine WP.icmpY (pc' := 9) d4_3 (XT.ii_ge_t hc1) (by decide) rfl ?_
    refine WP.iloadN d4_9 rfl ?_
    refine WP.bipush (32 : Int32) d4_10 rfl ?_
    rcases ite_e h with ⟨hc2, h⟩ | ⟨hc2, h⟩
    ·
      refine WP.icmpN d4_12 (XT.ii_le_f hc2) ?_
      refine WP.bipush (32 : Int32) d4_15 rfl ?_
      cases h
      exact WP.ireturn d4_17 rfl (leb rfl) (leb rfl) ⟨rfl, rfl⟩
    ·
      refine WP.icmpY (pc' := 18) d4_12 (XT.ii_le_t hc2) (by decide) rfl ?_
      refine WP.iloadN d4_18 rfl ?_
      cases h
      exact WP.ireturn d4_19 rfl (leb rfl) (leb rfl) ⟨rfl, rfl⟩
def fr0_f : List Nat := []
theorem fr0_c (x0 : St) : fr0_f.map (fun i => (Hb 0 x0)[i]?) = ([] : List OwnC).map (fun c => some (rnC (ro1 fr0_f (Hb 0 x0).length) c)) := rfl
theorem fr0_l (x0 : St) : ∀ x ∈ fr0_f, x < (Hb 0 x0).length := by show ∀ x ∈ fr0_f, x < 11; decide
theorem fr0_p (x0 : St) : patch (ro1 fr0_f (Hb 0 x0).length) fr0_f ([] : List OwnC) (Hb 0 x0) = (Hb 0 x0) := rfl
theorem d2_0 : dc prog_1_method_1_code 0 (.aload_n 0) 1 := by decide +kernel
theorem d2_1 : dc prog_1_method_1_code 1 (.invokespecial 1) 3 := by decide +kernel
theorem d2_4 : dc prog_1_method_1_code 4 (.aload_n 0) 1 := by decide +kernel
theorem d2_5 : dc prog_1_method_1_code 5 (.sipush 256) 3 := by decide +kernel
theorem d2_8 : dc prog_1_method_1_code 8 (.newarray .int) 2 := by decide +kernel
theorem d2_10 : dc prog_1_method_1_code 10 (.putfield 7) 3 := by decide +kernel
theorem d2_13 : dc prog_1_method_1_code 13 (.aload_n 0) 1 := by decide +kernel
theorem d2_14 : dc prog_1_method_1_code 14 (.bipush 8) 2 := by decide +kernel
theorem d2_16 : dc prog_1_method_1_code 16 (.newarray .int) 2 := by decide +kernel
theorem d2_18 : dc prog_1_method_1_code 18 (.putfield 13) 3 := by decide +kernel
theorem d2_21 : dc prog_1_method_1_code 21 (.aload_n 0) 1 := by decide +kernel
theorem d2_22 : dc prog_1_method_1_code 22 (.bipush 8) 2 := by decide +kernel
theorem d2_24 : dc prog_1_method_1_code 24 (.newarray .int) 2 := by decide +kernel
theorem d2_26 : dc prog_1_method_1_code 26 (.putfield 16) 3 := by decide +kernel
theorem d2_29 : dc prog_1_method_1_code 29 (.aload_n 0) 1 := by decide +kernel
theorem d2_30 : dc prog_1_method_1_code 30 (.sipush 256) 3 := by decide +kernel
theorem d2_33 : dc prog_1_method_1_code 33 (.newarray .int) 2 := by decide +kernel
theorem d2_35 : dc prog_1_method_1_code 35 (.putfield 19) 3 := by decide +kernel
theorem d2_38 : dc prog_1_method_1_code 38 (.aload_n 0) 1 := by decide +kernel
theorem d2_39 : dc prog_1_method_1_code 39 (.sipush 256) 3 := by decide +kernel
theorem d2_42 : dc prog_1_method_1_code 42 (.newarray .int) 2 := by decide +kernel
theorem d2_44 : dc prog_1_method_1_code 44 (.putfield 22) 3 := by decide +kernel
theorem d2_47 : dc prog_1_method_1_code 47 (.aload_n 0) 1 := by decide +kernel
theorem d2_48 : dc prog_1_method_1_code 48 (.sipush 256) 3 := by decide +kernel
theorem d2_51 : dc prog_1_method_1_code 51 (.newarray .int) 2 := by decide +kernel
theorem d2_53 : dc prog_1_method_1_code 53 (.putfield 25) 3 := by decide +kernel
theorem d2_56 : dc prog_1_method_1_code 56 (.aload_n 0) 1 := by decide +kernel
theorem d2_57 : dc prog_1_method_1_code 57 (.sipush 260) 3 := by decide +kernel
theorem d2_60 : dc prog_1_method_1_code 60 (.newarray .int) 2 := by decide +kernel
theorem d2_62 : dc prog_1_method_1_code 62 (.putfield 28) 3 := by decide +kernel
theorem d2_65 : dc prog_1_method_1_code 65 (.aload_n 0) 1 := by decide +kernel
theorem d2_66 : dc prog_1_method_1_code 66 (.sipush 260) 3 := by decide +kernel
theorem d2_69 : dc prog_1_method_1_code 69 (.newarray .int) 2 := by decide +kernel
theorem d2_71 : dc prog_1_method_1_code 71 (.putfield 31) 3 := by decide +kernel
theorem d2_74 : dc prog_1_method_1_code 74 (.aload_n 0) 1 := by decide +kernel
theorem d2_75 : dc prog_1_method_1_code 75 (.sipush 260) 3 := by decide +kernel
theorem d2_78 : dc prog_1_method_1_code 78 (.newarray .int) 2 := by decide +kernel
theorem d2_80 : dc prog_1_method_1_code 80 (.putfield 34) 3 := by decide +kernel
theorem d2_83 : dc prog_1_method_1_code 83 (.aload_n 0) 1 := by decide +kernel
theorem d2_84 : dc prog_1_method_1_code 84 (.sipush 260) 3 := by decide +kernel
theorem d2_87 : dc prog_1_method_1_code 87 (.newarray .int) 2 := by decide +kernel
theorem d2_89 : dc prog_1_method_1_code 89 (.putfield 37) 3 := by decide +kernel
theorem d2_92 : dc prog_1_method_1_code 92 (.aload_n 0) 1 := by decide +kernel
theorem d2_93 : dc prog_1_method_1_code 93 (.iload_n 1) 1 := by decide +kernel
theorem d2_94 : dc prog_1_method_1_code 94 (.invokestatic 40) 3 := by decide +kernel
theorem d2_97 : dc prog_1_method_1_code 97 (.putfield 44) 3 := by decide +kernel
theorem d2_100 : dc prog_1_method_1_code 100 (.aload_n 0) 1 := by decide +kernel
theorem d2_101 : dc prog_1_method_1_code 101 (.iload_n 2) 1 := by decide +kernel
theorem d2_102 : dc prog_1_method_1_code 102 (.invokestatic 48) 3 := by decide +kernel
theorem d2_105 : dc prog_1_method_1_code 105 (.putfield 51) 3 := by decide +kernel
theorem d2_108 : dc prog_1_method_1_code 108 (.aload_n 0) 1 := by decide +kernel
theorem d2_109 : dc prog_1_method_1_code 109 (.iconst 0) 1 := by decide +kernel
theorem d2_110 : dc prog_1_method_1_code 110 (.putfield 54) 3 := by decide +kernel
theorem d2_113 : dc prog_1_method_1_code 113 (.aload_n 0) 1 := by decide +kernel
theorem d2_114 : dc prog_1_method_1_code 114 (.iconst 0) 1 := by decide +kernel
theorem d2_115 : dc prog_1_method_1_code 115 (.putfield 57) 3 := by decide +kernel
theorem d2_118 : dc prog_1_method_1_code 118 (.aload_n 0) 1 := by decide +kernel
theorem d2_119 : dc prog_1_method_1_code 119 (.iconst 1) 1 := by decide +kernel
theorem d2_120 : dc prog_1_method_1_code 120 (.putfield 60) 3 := by decide +kernel
theorem d2_123 : dc prog_1_method_1_code 123 (.return_) 1 := by decide +kernel
abbrev y2 : MethodName := ⟨"DisplayMap", "<init>", "(II)V"⟩
theorem hy2 : y2.cls ≠ "java/lang/invoke/MethodHandle" ∧ y2.cls ≠ "java/lang/invoke/VarHandle" := by decide
theorem pd2 : parseMethodDescriptor y2.desc = some ⟨[.int, .int], none⟩ := by decide +kernel
abbrev R2 : Room := { frames := 1, cells := 10, slots := 2080, locals := 13 }
abbrev P2 (r : St) : Option Value → List OwnC → Prop := fun v H' => v = none ∧ H' = (Hb 0 r)
abbrev W2 (l : Launch) (Z : State) (n0 : Nat) (Q : Option Value → List OwnC → Prop) (k n pc : Nat) (L : List Slot) (S : List Value) (H : List OwnC) : Prop := WP l Z CN lay "DisplayMap" "<init>" prog_1_method_1_code 3 (none) R2 n0 0 Q k n pc L S H
def f_init (p1 : Int32) (p2 : Int32) : Option (St) :=
  lt (st0) fun s1 =>
  (f_clampTab p1).bind fun c2 =>
  lt (sI s1 2 c2) fun s3 =>
  (f_clampWrap p2).bind fun c4 =>
  lt (sI s3 3 c4) fun s5 =>
  lt (sI s5 0 (0 : Int32)) fun s6 =>
  lt (sI s6 1 (0 : Int32)) fun s7 =>
  lt (sI s7 4 (1 : Int32)) fun s8 =>
  some s8
set_option maxRecDepth 65536 in
set_option maxHeartbeats 4000000 in
theorem ok2 (l : Launch) (Z : State) (a0 : Array Value) (hw : HW a0 Z) (p1 : Int32) (p2 : Int32) (r : St) (h : f_init p1 p2 = some r) : CS l Z CN lay y2 prog_1_method_1_code 3 (none) R2 0 [.ref 0, .int p1, .int p2] [cO vs0] (P2 r) := by
  refine CS.of_wp pn_cls (leb rfl) fun n0 => ?_
  show W2 l Z n0 (P2 r) 0 0 0 [.val (.ref 0), .val (.int p1), .val (.int p2)] [] [cO vs0]
  unfold f_init at h
  refine WP.aloadN d2_0 rfl ?_
  refine WP.initO d2_1 (hw _ m_14) (hw _ m_15) (hw _ m_16) (leb rfl) (leb rfl) ?_
  refine WP.aloadN d2_4 rfl ?_
  refine WP.sipush (256 : Int32) d2_5 rfl ?_
  refine WP.newarray d2_8 (hw _ m_17) (by decide) (leb rfl) (leb rfl) (leb rfl) (Or.inl ⟨rfl, rfl⟩) ?_
  show W2 l Z n0 (P2 r) 1 256 10 [.val (.ref 0), .val (.int p1), .val (.int p2)] [.ref 1, .ref 0] ([cO [.null, .int (0 : Int32), .null, .null, .int (0 : Int32), .int (0 : Int32), .int (0 : Int32), .int (0 : Int32), .null, .null, .null, .int (0 : Int32), .null, .null, .null, .null, .int (0 : Int32), .int (0 : Int32), .int (0 : Int32), .int (0 : Int32), .int (0 : Int32), .int (0 : Int32)], cI (List.replicate 256 0)] : List OwnC)
  refine WP.putR (ty := .array .int) (i := 0) (j := 0) (H' := ([cO [.ref 1, .int (0 : Int32), .null, .null, .int (0 : Int32), .int (0 : Int32), .int (0 : Int32), .int (0 : Int32), .null, .null, .null, .int (0 : Int32), .null, .null, .null, .null, .int (0 : Int32), .int (0 : Int32), .int (0 : Int32), .int (0 : Int32), .int (0 : Int32), .int (0 : Int32)], cI (List.replicate 256 0)] : List OwnC)) d2_10 (hw _ m_18) (Or.inr ⟨(hw _ m_19), rfl, rfl⟩) (hw _ m_1) (hlay hw) (by decide) (fun _ => rfl) (fun _ => rfl) rfl rfl rfl (leb rfl) rfl ?_
  refine WP.aloadN d2_13 rfl ?_
  refine WP.bipush (8 : Int32) d2_14 rfl ?_
  refine WP.newarray d2_16 (hw _ m_17) (by decide) (leb rfl) (leb rfl) (leb rfl) (Or.inl ⟨rfl, rfl⟩) ?_
  show W2 l Z n0 (P2 r) 2 264 18 [.val (.ref 0), .val (.int p1), .val (.int p2)] [.ref 2, .ref 0] ([cO [.ref 1, .int (0 : Int32), .null, .null, .int (0 : Int32), .int (0 : Int32), .int (0 : Int32), .int (0 : Int32), .null, .null, .null, .int (0 : Int32), .null, .null, .null, .null, .int (0 : Int32), .int (0 : Int32), .int (0 : Int32), .int (0 : Int32), .int (0 : Int32), .int (0 : Int32)], cI (List.replicate 256 0), cI (List.replicate 8 0)] : List OwnC)
  refine WP.putR (ty := .array .int) (i := 0) (j := 2) (H' := ([cO [.ref 1, .int (0 : Int32), .ref 2, .null, .int (0 : Int32), .int (0 : Int32), .int (0 : Int32), .int (0 : Int32), .null, .null, .null, .int (0 : Int32), .null, .null, .null, .null, .int (0 : Int32), .int (0 : Int32), .int (0 : Int32), .int (0 : Int32), .int (0 : Int32), .int (0 : Int32)], cI (List.replicate 256 0), cI (List.replicate 8 0)] : List OwnC)) d2_18 (hw _ m_20) (Or.inr ⟨(hw _ m_21), rfl, rfl⟩) (hw _ m_1) (hlay hw) (by decide) (fun _ => rfl) (fun _ => rfl) rfl rfl rfl (leb rfl) rfl ?_
  refine WP.aloadN d2_21 rfl ?_
  refine WP.bipush (8 : Int32) d2_22 rfl ?_
  refine WP.newarray d2_24 (hw _ m_17) (by decide) (leb rfl) (leb rfl) (leb rfl) (Or.inl ⟨rfl, rfl⟩) ?_
  show W2 l Z n0 (P2 r) 3 272 26 [.val (.ref 0), .val (.int p1), .val (.int p2)] [.ref 3, .ref 0] ([cO [.ref 1, .int (0 : Int32), .ref 2, .null, .int (0 : Int32), .int (0 : Int32), .int (0 : Int32), .int (0 : Int32), .null, .null, .null, .int (0 : Int32), .null, .null, .null, .null, .int (0 : Int32), .int (0 : Int32), .int (0 : Int32), .int (0 : Int32), .int (0 : Int32), .int (0 : Int32)], cI (List.replicate 256 0), cI (List.replicate 8 0), cI (List.replicate 8 0)] : List OwnC)
  refine WP.putR (ty := .array .int) (i := 0) (j := 3) (H' := ([cO [.ref 1, .int (0 : Int32), .ref 2, .ref 3, .int (0 : Int32), .int (0 : Int32), .int (0 : Int32), .int (0 : Int32), .null, .null, .null, .int (0 : Int32), .null, .null, .null, .null, .int (0 : Int32), .int (0 : Int32), .int (0 : Int32), .int (0 : Int32), .int (0 : Int32), .int (0 : Int32)], cI (List.replicate 256 0), cI (List.replicate 8 0), cI (List.replicate 8 0)] : List OwnC)) d2_26 (hw _ m_22) (Or.inr ⟨(hw _ m_23), rfl, rfl⟩) (hw _ m_1) (hlay hw) (by decide) (fun _ => rfl) (fun _ => rfl) rfl rfl rfl (leb rfl) rfl ?_
  refine WP.aloadN d2_29 rfl ?_
  refine WP.sipush (256 : Int32) d2_30 rfl ?_
  refine WP.newarray d2_33 (hw _ m_17) (by decide) (leb rfl) (leb rfl) (leb rfl) (Or.inl ⟨rfl, rfl⟩) ?_
  show W2 l Z n0 (P2 r) 4 528 35 [.val (.ref 0), .val (.int p1), .val (.int p2)] [.ref 4, .ref 0] ([cO [.ref 1, .int (0 : Int32), .ref 2, .ref 3, .int (0 : Int32), .int (0 : Int32), .int (0 : Int32), .int (0 : Int32), .null, .null, .null, .int (0 : Int32), .null, .null, .null, .null, .int (0 : Int32), .int (0 : Int32), .int (0 : Int32), .int (0 : Int32), .int (0 : Int32), .int (0 : Int32)], cI (List.replicate 256 0), cI (List.replicate 8 0), cI (List.replicate 8 0), cI (List.replicate 256 0)] : List OwnC)
  refine WP.putR (ty := .array .int) (i := 0) (j := 8) (H' := ([cO [.ref 1, .int (0 : Int32), .ref 2, .ref 3, .int (0 : Int32), .int (0 : Int32), .int (0 : Int32), .int (0 : Int32), .ref 4, .null, .null, .int (0 : Int32), .null, .null, .null, .null, .int (0 : Int32), .int (0 : Int32), .int (0 : Int32), .int (0 : Int32), .int (0 : Int32), .int (0 : Int32)], cI (List.replicate 256 0), cI (List.replicate 8 0), cI (List.replicate 8 0), cI (List.replicate 256 0)] : List OwnC)) d2_35 (hw _ m_24) (Or.inr ⟨(hw _ m_25), rfl, rfl⟩) (hw _ m_1) (hlay hw) (by decide) (fun _ => rfl) (fun _ => rfl) rfl rfl rfl (leb rfl) rfl ?_
  refine WP.aloadN d2_38 rfl ?_
  refine WP.sipush (256 : Int32) d2_39 rfl ?_
  refine WP.newarray d2_42 (hw _ m_17) (by decide) (leb rfl) (leb rfl) (leb rfl) (Or.inl ⟨rfl, rfl⟩) ?_
  show W2 l Z n0 (P2 r) 5 784 44 [.val (.ref 0), .val (.int p1), .val (.int p2)] [.ref 5, .ref 0] ([cO [.ref 1, .int (0 : Int32), .ref 2, .ref 3, .int (0 : Int32), .int (0 : Int32), .int (0 : Int32), .int (0 : Int32), .ref 4, .null, .null, .int (0 : Int32), .null, .null, .null, .null, .int (0 : Int32), .int (0 : Int32), .int (0 : Int32), .int (0 : Int32), .int (0 : Int32), .int (0 : Int32)], cI (List.replicate 256 0), cI (List.replicate 8 0), cI (List.replicate 8 0), cI (List.replicate 256 0), cI (List.replicate 256 0)] : List OwnC)
  refine WP.putR (ty := .array .int) (i := 0) (j := 9) (H' := ([cO [.ref 1, .int (0 : Int32), .ref 2, .ref 3, .int (0 : Int32), .int (0 : Int32), .int (0 : Int32), .int (0 : Int32), .ref 4, .ref 5, .null, .int (0 : Int32), .null, .null, .null, .null, .int (0 : Int32), .int (0 : Int32), .int (0 : Int32), .int (0 : Int32), .int (0 : Int32), .int (0 : Int32)], cI (List.replicate 256 0), cI (List.replicate 8 0), cI (List.replicate 8 0), cI (List.replicate 256 0), cI (List.replicate 256 0)] : List OwnC)) d2_44 (hw _ m_26) (Or.inr ⟨(hw _ m_27), rfl, rfl⟩) (hw _ m_1) (hlay hw) (by decide) (fun _ => rfl) (fun _ => rfl) rfl rfl rfl (leb rfl) rfl ?_
  refine WP.aloadN d2_47 rfl ?_
  refine WP.sipush (256 : Int32) d2_48 rfl ?_
  refine WP.newarray d2_51 (hw _ m_17) (by decide) (leb rfl) (leb rfl) (leb rfl) (Or.inl ⟨rfl, rfl⟩) ?_
  show W2 l Z n0 (P2 r) 6 1040 53 [.val (.ref 0), .val (.int p1), .val (.int p2)] [.ref 6, .ref 0] ([cO [.ref 1, .int (0 : Int32), .ref 2, .ref 3, .int (0 : Int32), .int (0 : Int32), .int (0 : Int32), .int (0 : Int32), .ref 4, .ref 5, .null, .int (0 : Int32), .null, .null, .null, .null, .int (0 : Int32), .int (0 : Int32), .int (0 : Int32), .int (0 : Int32), .int (0 : Int32), .int (0 : Int32)], cI (List.replicate 256 0), cI (List.replicate 8 0), cI (List.replicate 8 0), cI (List.replicate 256 0), cI (List.replicate 256 0), cI (List.replicate 256 0)] : List OwnC)
  refine WP.putR (ty := .array .int) (i := 0) (j := 10) (H' := ([cO [.ref 1, .int (0 : Int32), .ref 2, .ref 3, .int (0 : Int32), .int (0 : Int32), .int (0 : Int32), .int (0 : Int32), .ref 4, .ref 5, .ref 6, .int (0 : Int32), .null, .null, .null, .null, .int (0 : Int32), .int (0 : Int32), .int (0 : Int32), .int (0 : Int32), .int (0 : Int32), .int (0 : Int32)], cI (List.replicate 256 0), cI (List.replicate 8 0), cI (List.replicate 8 0), cI (List.replicate 256 0), cI (List.replicate 256 0), cI (List.replicate 256 0)] : List OwnC)) d2_53 (hw _ m_28) (Or.inr ⟨(hw _ m_29), rfl, rfl⟩) (hw _ m_1) (hlay hw) (by decide) (fun _ => rfl) (fun _ => rfl) rfl rfl rfl (leb rfl) rfl ?_
  refine WP.aloadN d2_56 rfl ?_
  refine WP.sipush (260 : Int32) d2_57 rfl ?_
  refine WP.newarray d2_60 (hw _ m_17) (by decide) (leb rfl) (leb rfl) (leb rfl) (Or.inl ⟨rfl, rfl⟩) ?_
  show W2 l Z n0 (P2 r) 7 1300 62 [.val (.ref 0), .val (.int p1), .val (.int p2)] [.ref 7, .ref 0] ([cO [.ref 1, .int (0 : Int32), .ref 2, .ref 3, .int (0 : Int32), .int (0 : Int32), .int (0 : Int32), .int (0 : Int32), .ref 4, .ref 5, .ref 6, .int (0 : Int32), .null, .null, .null, .null, .int (0 : Int32), .int (0 : Int32), .int (0 : Int32), .int (0 : Int32), .int (0 : Int32), .int (0 : Int32)], cI (List.replicate 256 0), cI (List.replicate 8 0), cI (List.replicate 8 0), cI (List.replicate 256 0), cI (List.replicate 256 0), cI (List.replicate 256 0), cI (List.replicate 260 0)] : List OwnC)
  refine WP.putR (ty := .array .int) (i := 0) (j := 12) (H' := ([cO [.ref 1, .int (0 : Int32), .ref 2, .ref 3, .int (0 : Int32), .int (0 : Int32), .int (0 : Int32), .int (0 : Int32), .ref 4, .ref 5, .ref 6, .int (0 : Int32), .ref 7, .null, .null, .null, .int (0 : Int32), .int (0 : Int32), .int (0 : Int32), .int (0 : Int32), .int (0 : Int32), .int (0 : Int32)], cI (List.replicate 256 0), cI (List.replicate 8 0), cI (List.replicate 8 0), cI (List.replicate 256 0), cI (List.replicate 256 0), cI (List.replicate 256 0), cI (List.replicate 260 0)] : List OwnC)) d2_62 (hw _ m_30) (Or.inr ⟨(hw _ m_31), rfl, rfl⟩) (hw _ m_1) (hlay hw) (by decide) (fun _ => rfl) (fun _ => rfl) rfl rfl rfl (leb rfl) rfl ?_
  refine WP.aloadN d2_65 rfl ?_
  refine WP.sipush (260 : Int32) d2_66 rfl ?_
  refine WP.newarray d2_69 (hw _ m_17) (by decide) (leb rfl) (leb rfl) (leb rfl) (Or.inl ⟨rfl, rfl⟩) ?_
  show W2 l Z n0 (P2 r) 8 1560 71 [.val (.ref 0), .val (.int p1), .val (.int p2)] [.ref 8, .ref 0] ([cO [.ref 1, .int (0 : Int32), .ref 2, .ref 3, .int (0 : Int32), .int (0 : Int32), .int (0 : Int32), .int (0 : Int32), .ref 4, .ref 5, .ref 6, .int (0 : Int32), .ref 7, .null, .null, .null, .int (0 : Int32), .int (0 : Int32), .int (0 : Int32), .int (0 : Int32), .int (0 : Int32), .int (0 : Int32)], cI (List.replicate 256 0), cI (List.replicate 8 0), cI (List.replicate 8 0), cI (List.replicate 256 0), cI (List.replicate 256 0), cI (List.replicate 256 0), cI (List.replicate 260 0), cI (List.replicate 260 0)] : List OwnC)
  refine WP.putR (ty := .array .int) (i := 0) (j := 13) (H' := ([cO [.ref 1, .int (0 : Int32), .ref 2, .ref 3, .int (0 : Int32), .int (0 : Int32), .int (0 : Int32), .int (0 : Int32), .ref 4, .ref 5, .ref 6, .int (0 : Int32), .ref 7, .ref 8, .null, .null, .int (0 : Int32), .int (0 : Int32), .int (0 : Int32), .int (0 : Int32), .int (0 : Int32), .int (0 : Int32)], cI (List.replicate 256 0), cI (List.replicate 8 0), cI (List.replicate 8 0), cI (List.replicate 256 0), cI (List.replicate 256 0), cI (List.replicate 256 0), cI (List.replicate 260 0), cI (List.replicate 260 0)] : List OwnC)) d2_71 (hw _ m_32) (Or.inr ⟨(hw _ m_33), rfl, rfl⟩) (hw _ m_1) (hlay hw) (by decide) (fun _ => rfl) (fun _ => rfl) rfl rfl rfl (leb rfl) rfl ?_
  refine WP.aloadN d2_74 rfl ?_
  refine WP.sipush (260 : Int32) d2_75 rfl ?_
  refine WP.newarray d2_78 (hw _ m_17) (by decide) (leb rfl) (leb rfl) (leb rfl) (Or.inl ⟨rfl, rfl⟩) ?_
  show W2 l Z n0 (P2 r) 9 1820 80 [.val (.ref 0), .val (.int p1), .val (.int p2)] [.ref 9, .ref 0] ([cO [.ref 1, .int (0 : Int32), .ref 2, .ref 3, .int (0 : Int32), .int (0 : Int32), .int (0 : Int32), .int (0 : Int32), .ref 4, .ref 5, .ref 6, .int (0 : Int32), .ref 7, .ref 8, .null, .null, .int (0 : Int32), .int (0 : Int32), .int (0 : Int32), .int (0 : Int32), .int (0 : Int32), .int (0 : Int32)], cI (List.replicate 256 0), cI (List.replicate 8 0), cI (List.replicate 8 0), cI (List.replicate 256 0), cI (List.replicate 256 0), cI (List.replicate 256 0), cI (List.replicate 260 0), cI (List.replicate 260 0), cI (List.replicate 260 0)] : List OwnC)
  refine WP.putR (ty := .array .int) (i := 0) (j := 14) (H' := ([cO [.ref 1, .int (0 : Int32), .ref 2, .ref 3, .int (0 : Int32), .int (0 : Int32), .int (0 : Int32), .int (0 : Int32), .ref 4, .ref 5, .ref 6, .int (0 : Int32), .ref 7, .ref 8, .ref 9, .null, .int (0 : Int32), .int (0 : Int32), .int (0 : Int32), .int (0 : Int32), .int (0 : Int32), .int (0 : Int32)], cI (List.replicate 256 0), cI (List.replicate 8 0), cI (List.replicate 8 0), cI (List.replicate 256 0), cI (List.replicate 256 0), cI (List.replicate 256 0), cI (List.replicate 260 0), cI (List.replicate 260 0), cI (List.replicate 260 0)] : List OwnC)) d2_80 (hw _ m_34) (Or.inr ⟨(hw _ m_35), rfl, rfl⟩) (hw _ m_1) (hlay hw) (by decide) (fun _ => rfl) (fun _ => rfl) rfl rfl rfl (leb rfl) rfl ?_
  refine WP.aloadN d2_83 rfl ?_
  refine WP.sipush (260 : Int32) d2_84 rfl ?_
  refine WP.newarray d2_87 (hw _ m_17) (by decide) (leb rfl) (leb rfl) (leb rfl) (Or.inl ⟨rfl, rfl⟩) ?_
  show W2 l Z n0 (P2 r) 10 2080 89 [.val (.ref 0), .val (.int p1), .val (.int p2)] [.ref 10, .ref 0] ([cO [.ref 1, .int (0 : Int32), .ref 2, .ref 3, .int (0 : Int32), .int (0 : Int32), .int (0 : Int32), .int (0 : Int32), .ref 4, .ref 5, .ref 6, .int (0 : Int32), .ref 7, .ref 8, .ref 9, .null, .int (0 : Int32), .int (0 : Int32), .int (0 : Int32), .int (0 : Int32), .int (0 : Int32), .int (0 : Int32)], cI (List.replicate 256 0), cI (List.replicate 8 0), cI (List.replicate 8 0), cI (List.replicate 256 0), cI (List.replicate 256 0), cI (List.replicate 256 0), cI (List.replicate 260 0), cI (List.replicate 260 0), cI (List.replicate 260 0), cI (List.replicate 260 0)] : List OwnC)
  obtain ⟨s1, es1, h⟩ := lt_e h
  refine WP.putR (ty := .array .int) (i := 0) (j := 15) (H' := (Hb 0 s1)) d2_89 (hw _ m_36) (Or.inr ⟨(hw _ m_37), rfl, rfl⟩) (hw _ m_1) (hlay hw) (by decide) (fun _ => rfl) (fun _ => rfl) rfl rfl rfl (leb rfl) (by subst es1; rfl) ?_
  refine WP.aloadN d2_92 rfl ?_
  refine WP.iloadN d2_93 rfl ?_
  obtain ⟨c2, hc2, h⟩ := Option.bind_eq_some_iff.mp h
  refine WP.callS (y := y3) (as := [.int p1]) (S := [.ref 0]) d2_94 (hw _ m_38) (hw _ m_39) (hw _ m_2) (hw _ m_40) hy3 (CS.frame (ro := 0) (H := (Hb 0 s1)) (as := [.int p1]) fr0_f (ok3 l Z a0 hw p1 _ hc2) rfl (by decide) (fr0_l s1) (fr0_c s1) (by decide) rfl) rfl (lenOf pd3 rfl) (leb rfl) (leb rfl) (leb rfl) (leb rfl) ?_
  rintro _ _ ⟨_, _, ⟨rfl, rfl⟩, rfl, rfl⟩
  rw [fr0_p s1]
  show W2 l Z n0 (P2 r) 10 2080 97 [.val (.ref 0), .val (.int p1), .val (.int p2)] [.int c2, .ref 0] (Hb 0 s1)
  obtain ⟨s3, es3, h⟩ := lt_e h
  refine WP.putI (i := 0) (j := 5) (H' := (Hb 0 s3)) d2_97 (hw _ m_41) (Or.inl (hw _ m_42)) (hw _ m_1) (hlay hw) rfl rfl rfl (leb rfl) (by subst es3; rfl) ?_
  refine WP.aloadN d2_100 rfl ?_
  refine WP.iloadN d2_101 rfl ?_
  obtain ⟨c4, hc4, h⟩ := Option.bind_eq_some_iff.mp h
  refine WP.callS (y := y4) (as := [.int p2]) (S := [.ref 0]) d2_102 (hw _ m_43) (hw _ m_44) (hw _ m_2) (hw _ m_45) hy4 (CS.frame (ro := 0) (H := (Hb 0 s3)) (as := [.int p2]) fr0_f (ok4 l Z a0 hw p2 _ hc4) rfl (by decide) (fr0_l s3) (fr0_c s3) (by decide) rfl) rfl (lenOf pd4 rfl) (leb rfl) (leb rfl) (leb rfl) (leb rfl) ?_
  rintro _ _ ⟨_, _, ⟨rfl, rfl⟩, rfl, rfl⟩
  rw [fr0_p s3]
  show W2 l Z n0 (P2 r) 10 2080 105 [.val (.ref 0), .val (.int p1), .val (.int p2)] [.int c4, .ref 0] (Hb 0 s3)
  obtain ⟨s5, es5, h⟩ := lt_e h
  refine WP.putI (i := 0) (j := 6) (H' := (Hb 0 s5)) d2_105 (hw _ m_46) (Or.inl (hw _ m_47)) (hw _ m_1) (hlay hw) rfl rfl rfl (leb rfl) (by subst es5; rfl) ?_
  refine WP.aloadN d2_108 rfl ?_
  refine WP.iconst (0 : Int32) d2_109 rfl ?_
  obtain ⟨s6, es6, h⟩ := lt_e h
  refine WP.putI (i := 0) (j := 1) (H' := (Hb 0 s6)) d2_110 (hw _ m_48) (Or.inl (hw _ m_49)) (hw _ m_1) (hlay hw) rfl rfl rfl (leb rfl) (by subst es6; rfl) ?_
  refine WP.aloadN d2_113 rfl ?_
  refine WP.iconst (0 : Int32) d2_114 rfl ?_
  obtain ⟨s7, es7, h⟩ := lt_e h
  refine WP.putI (i := 0) (j := 4) (H' := (Hb 0 s7)) d2_115 (hw _ m_50) (Or.inl (hw _ m_51)) (hw _ m_1) (hlay hw) rfl rfl rfl (leb rfl) (by subst es7; rfl) ?_
  refine WP.aloadN d2_118 rfl ?_
  refine WP.iconst (1 : Int32) d2_119 rfl ?_
  obtain ⟨s8, es8, h⟩ := lt_e h
  refine WP.putZ (i := 0) (j := 7) (H' := (Hb 0 s8)) d2_120 (hw _ m_52) (Or.inl (hw _ m_53)) (hw _ m_1) (hlay hw) rfl rfl rfl (leb rfl) (by subst es8; rfl) ?_
  cases h
  exact WP.vreturn d2_123 rfl (leb rfl) (leb rfl) ⟨rfl, rfl⟩
theorem d9_0 : dc prog_1_method_27_code 0 (.aload_n 0) 1 := by decide +kernel
theorem d9_1 : dc prog_1_method_27_code 1 (.iload_n 1) 1 := by decide +kernel
theorem d9_2 : dc prog_1_method_27_code 2 (.putfield 108) 3 := by decide +kernel
theorem d9_5 : dc prog_1_method_27_code 5 (.aload_n 0) 1 := by decide +kernel
theorem d9_6 : dc prog_1_method_27_code 6 (.iconst 0) 1 := by decide +kernel
theorem d9_7 : dc prog_1_method_27_code 7 (.putfield 111) 3 := by decide +kernel
theorem d9_10 : dc prog_1_method_27_code 10 (.aload_n 0) 1 := by decide +kernel
theorem d9_11 : dc prog_1_method_27_code 11 (.aload_n 0) 1 := by decide +kernel
theorem d9_12 : dc prog_1_method_27_code 12 (.getfield 88) 3 := by decide +kernel
theorem d9_15 : dc prog_1_method_27_code 15 (.putfield 114) 3 := by decide +kernel
theorem d9_18 : dc prog_1_method_27_code 18 (.aload_n 0) 1 := by decide +kernel
theorem d9_19 : dc prog_1_method_27_code 19 (.iconst 0) 1 := by decide +kernel
theorem d9_20 : dc prog_1_method_27_code 20 (.putfield 117) 3 := by decide +kernel
theorem d9_23 : dc prog_1_method_27_code 23 (.return_) 1 := by decide +kernel
abbrev y9 : MethodName := ⟨"DisplayMap", "openRow", "(I)V"⟩
theorem hy9 : y9.cls ≠ "java/lang/invoke/MethodHandle" ∧ y9.cls ≠ "java/lang/invoke/VarHandle" := by decide
theorem pd9 : parseMethodDescriptor y9.desc = some ⟨[.int], none⟩ := by decide +kernel
abbrev R9 : Room := { frames := 0, cells := 0, slots := 0, locals := 0 }
abbrev P9 (r : St) : Option Value → List OwnC → Prop := fun v H' => v = none ∧ H' = (Hb 0 r)
abbrev W9 (l : Launch) (Z : State) (n0 : Nat) (Q : Option Value → List OwnC → Prop) (k n pc : Nat) (L : List Slot) (S : List Value) (H : List OwnC) : Prop := WP l Z CN lay "DisplayMap" "openRow" prog_1_method_27_code 2 (none) R9 n0 0 Q k n pc L S H
def f_openRow (p1 : Int32) (s : St) : Option (St) :=
  lt (sI s 7 p1) fun s1 =>
  lt (sI s1 8 (0 : Int32)) fun s2 =>
  lt (sI s2 9 (gI s2 5)) fun s3 =>
  lt (sI s3 10 (0 : Int32)) fun s4 =>
  some s4
set_option maxRecDepth 65536 in
set_option maxHeartbeats 4000000 in
theorem ok9 (l : Launch) (Z : State) (a0 : Array Value) (hw : HW a0 Z) (p1 : Int32) (s : St) (r : St) (h : f_openRow p1 s = some r) : CS l Z CN lay y9 prog_1_method_27_code 2 (none) R9 0 [.ref 0, .int p1] (Hb 0 s) (P9 r) := by
  refine CS.of_wp pn_cls (leb rfl) fun n0 => ?_
  show W9 l Z n0 (P9 r) 0 0 0 [.val (.ref 0), .val (.int p1)] [] (Hb 0 s)
  unfold f_openRow at h
  refine WP.aloadN d9_0 rfl ?_
  refine WP.iloadN d9_1 rfl ?_
  obtain ⟨s1, es1, h⟩ := lt_e h
  refine WP.putI (i := 0) (j := 17) (H' := (Hb 0 s1)) d9_2 (hw _ m_78) (Or.inl (hw _ m_79)) (hw _ m_1) (hlay hw) rfl rfl rfl (leb rfl) (by subst es1; rfl) ?_
  refine WP.aloadN d9_5 rfl ?_
  refine WP.iconst (0 : Int32) d9_6 rfl ?_
  obtain ⟨s2, es2, h⟩ := lt_e h
  refine WP.putI (i := 0) (j := 18) (H' := (Hb 0 s2)) d9_7 (hw _ m_80) (Or.inl (hw _ m_81)) (hw _ m_1) (hlay hw) rfl rfl rfl (leb rfl) (by subst es2; rfl) ?_
  refine WP.aloadN d9_10 rfl ?_
  refine WP.aloadN d9_11 rfl ?_
  refine WP.getfield (i := 0) (j := 11) d9_12 (hw _ m_70) rfl rfl rfl ?_
  obtain ⟨s3, es3, h⟩ := lt_e h
  refine WP.putI (i := 0) (j := 19) (H' := (Hb 0 s3)) d9_15 (hw _ m_82) (Or.inl (hw _ m_83)) (hw _ m_1) (hlay hw) rfl rfl rfl (leb rfl) (by subst es3; rfl) ?_
  refine WP.aloadN d9_18 rfl ?_
  refine WP.iconst (0 : Int32) d9_19 rfl ?_
  obtain ⟨s4, es4, h⟩ := lt_e h
  refine WP.putI (i := 0) (j := 20) (H' := (Hb 0 s4)) d9_20 (hw _ m_84) (Or.inl (hw _ m_85)) (hw _ m_1) (hlay hw) rfl rfl rfl (leb rfl) (by subst es4; rfl) ?_
  cases h
  exact WP.vreturn d9_23 rfl (leb rfl) (leb rfl) ⟨rfl, rfl⟩
theorem d21_0 : dc prog_1_method_23_code 0 (.iconst 0) 1 := by decide +kernel
theorem d21_1 : dc prog_1_method_23_code 1 (.istore_n 2) 1 := by decide +kernel
theorem d21_2 : dc prog_1_method_23_code 2 (.iload_n 2) 1 := by decide +kernel
theorem d21_3 : dc prog_1_method_23_code 3 (.aload_n 0) 1 := by decide +kernel
theorem d21_4 : dc prog_1_method_23_code 4 (.getfield 57) 3 := by decide +kernel
theorem d21_7 : dc prog_1_method_23_code 7 (.if_icmp .ge 21) 3 := by decide +kernel
theorem d21_10 : dc prog_1_method_23_code 10 (.aload_n 0) 1 := by decide +kernel
theorem d21_11 : dc prog_1_method_23_code 11 (.getfield 13) 3 := by decide +kernel
theorem d21_14 : dc prog_1_method_23_code 14 (.iload_n 2) 1 := by decide +kernel
theorem d21_15 : dc prog_1_method_23_code 15 (.iaload) 1 := by decide +kernel
theorem d21_16 : dc prog_1_method_23_code 16 (.iload_n 1) 1 := by decide +kernel
theorem d21_17 : dc prog_1_method_23_code 17 (.if_icmp .ne 5) 3 := by decide +kernel
theorem d21_20 : dc prog_1_method_23_code 20 (.iload_n 2) 1 := by decide +kernel
theorem d21_21 : dc prog_1_method_23_code 21 (.ireturn) 1 := by decide +kernel
theorem d21_22 : dc prog_1_method_23_code 22 (.iinc 2 1) 3 := by decide +kernel
theorem d21_25 : dc prog_1_method_23_code 25 (.goto (-23)) 3 := by decide +kernel
theorem d21_28 : dc prog_1_method_23_code 28 (.iconst (-1)) 1 := by decide +kernel
theorem d21_29 : dc prog_1_method_23_code 29 (.ireturn) 1 := by decide +kernel
abbrev y21 : MethodName := ⟨"DisplayMap", "foldStartingAt", "(I)I"⟩
theorem hy21 : y21.cls ≠ "java/lang/invoke/MethodHandle" ∧ y21.cls ≠ "java/lang/invoke/VarHandle" := by decide
theorem pd21 : parseMethodDescriptor y21.desc = some ⟨[.int], some .int⟩ := by decide +kernel
abbrev R21 : Room := { frames := 0, cells := 0, slots := 0, locals := 0 }
abbrev P21 (s : St) (r : Int32) : Option Value → List OwnC → Prop := fun v H' => v = some (.int r) ∧ H' = (Hb 0 s)
abbrev W21 (l : Launch) (Z : State) (n0 : Nat) (Q : Option Value → List OwnC → Prop) (k n pc : Nat) (L : List Slot) (S : List Value) (H : List OwnC) : Prop := WP l Z CN lay "DisplayMap" "foldStartingAt" prog_1_method_23_code 3 (some FieldType.int) R21 n0 0 Q k n pc L S H
def g_foldStartingAt_2 (k2 : Int32 → Int32 → St → Option (Int32)) (n : Nat) (v1 : Int32) (v2 : Int32) (s : St) : Option (Int32) :=
  if v2 < (gI s 1) then
    (rd (gA s 1) v2).bind fun x2 =>
    if x2 = v1 then
      some v2
    else
      lt (v2 + (1 : Int32)) fun x4 =>
      k2 v1 x4 s
  else
    some (-1 : Int32)
set_option maxRecDepth 65536 in
set_option maxHeartbeats 4000000 in
theorem okg21_2 (l : Launch) (Z : State) (a0 : Array Value) (hw : HW a0 Z) (n0 : Nat) (k2 : Int32 → Int32 → St → Option (Int32)) (hk2 : ∀ (v1 : Int32) (v2 : Int32) (s : St) (r : Int32), k2 v1 v2 s = some r → W21 l Z n0 (P21 s r) 0 0 2 [.val (.ref 0), .val (.int v1), .val (.int v2)] [] (Hb 0 s)) (n : Nat) (v1 : Int32) (v2 : Int32) (s : St) (r : Int32) (h : g_foldStartingAt_2 k2 n v1 v2 s = some r) : W21 l Z n0 (P21 s r) 0 0 2 [.val (.ref 0), .val (.int v1), .val (.int v2)] [] (Hb 0 s) := by
  unfold g_foldStartingAt_2 at h
  refine WP.iloadN d21_2 rfl ?_
  refine WP.aloadN d21_3 rfl ?_
  refine WP.getfield (i := 0) (j := 4) d21_4 (hw _ m_50) rfl rfl rfl ?_
  rcases ite_e h with ⟨hc1, h⟩ | ⟨hc1, h⟩
  ·
    refine WP.icmpN d21_7 (XT.ii_ge_f hc1) ?_
    refine WP.aloadN d21_10 rfl ?_
    refine WP.getfield (i := 0) (j := 2) d21_11 (hw _ m_20) rfl rfl rfl ?_
    refine WP.iloadN d21_14 rfl ?_
    obtain ⟨x2, hx2, h⟩ := Option.bind_eq_some_iff.mp h
    refine WP.iaload (i := 2) d21_15 rfl hx2 ?_
    refine WP.iloadN d21_16 rfl ?_
    rcases ite_e h with ⟨hc3, h⟩ | ⟨hc3, h⟩
    ·
      refine WP.icmpN d21_17 (XT.ii_ne_f hc3) ?_
      refine WP.iloadN d21_20 rfl ?_
      cases h
      exact WP.ireturn d21_21 rfl (leb rfl) (leb rfl) ⟨rfl, rfl⟩
    ·
      refine WP.icmpY (pc' := 22) d21_17 (XT.ii_ne_t hc3) (by decide) rfl ?_
      obtain ⟨x4, ex4, h⟩ := lt_e h
      refine WP.iinc (L' := [.val (.ref 0), .val (.int v1), .val (.int x4)]) (1 : Int32) d21_22 rfl rfl (by subst ex4; rfl) ?_
      refine WP.goto (pc' := 2) d21_25 (by decide) rfl ?_
      exact WP.weak (L' := [.val (.ref 0), .val (.int v1), .val (.int x4)]) ⟨rfl, rfl, rfl, trivial⟩ (hk2 v1 x4 s _ h)
  ·
    refine WP.icmpY (pc' := 28) d21_7 (XT.ii_ge_t hc1) (by decide) rfl ?_
    refine WP.iconst (-1 : Int32) d21_28 rfl ?_
    cases h
    exact WP.ireturn d21_29 rfl (leb rfl) (leb rfl) ⟨rfl, rfl⟩
def f_foldStartingAt_2 : Nat → Int32 → Int32 → St → Option (Int32)
  | 0 => fun _ _ _ => none
  | n + 1 => g_foldStartingAt_2 (f_foldStartingAt_2 n) n
theorem ok21_2 (l : Launch) (Z : State) (a0 : Array Value) (hw : HW a0 Z) (n0 : Nat) : ∀ (n : Nat) (v1 : Int32) (v2 : Int32) (s : St) (r : Int32), f_foldStartingAt_2 n v1 v2 s = some r → W21 l Z n0 (P21 s r) 0 0 2 [.val (.ref 0), .val (.int v1), .val (.int v2)] [] (Hb 0 s)
  | 0, v1, v2, s, r, h => nomatch (show none = some r from h)
  | n + 1, v1, v2, s, r, h => okg21_2 l Z a0 hw n0 _ (ok21_2 l Z a0 hw n0 n) n v1 v2 s r h
def f_foldStartingAt (n : Nat) (p1 : Int32) (s : St) : Option (Int32) :=
  f_foldStartingAt_2 n p1 (0 : Int32) s
set_option maxRecDepth 65536 in
set_option maxHeartbeats 4000000 in
theorem ok21 (l : Launch) (Z : State) (a0 : Array Value) (hw : HW a0 Z) (n : Nat) (p1 : Int32) (s : St) (r : Int32) (h : f_foldStartingAt n p1 s = some r) : CS l Z CN lay y21 prog_1_method_23_code 3 (some FieldType.int) R21 0 [.ref 0, .int p1] (Hb 0 s) (P21 s r) := by
  refine CS.of_wp pn_cls (leb rfl) fun n0 => ?_
  show W21 l Z n0 (P21 s r) 0 0 0 [.val (.ref 0), .val (.int p1), .unset] [] (Hb 0 s)
  unfold f_foldStartingAt at h
  refine WP.iconst (0 : Int32) d21_0 rfl ?_
  refine WP.istoreN (L' := [.val (.ref 0), .val (.int p1), .val (.int (0 : Int32))]) d21_1 (leb rfl) rfl ?_
  exact WP.weak (L' := [.val (.ref 0), .val (.int p1), .val (.int (0 : Int32))]) ⟨rfl, rfl, rfl, trivial⟩ (ok21_2 l Z a0 hw n0 n p1 (0 : Int32) s _ h)
theorem d10_0 : dc prog_1_method_28_code 0 (.aload_n 0) 1 := by decide +kernel
theorem d10_1 : dc prog_1_method_28_code 1 (.getfield 75) 3 := by decide +kernel
theorem d10_4 : dc prog_1_method_28_code 4 (.sipush 260) 3 := by decide +kernel
theorem d10_7 : dc prog_1_method_28_code 7 (.if_icmp .ge 65) 3 := by decide +kernel
theorem d10_10 : dc prog_1_method_28_code 10 (.aload_n 0) 1 := by decide +kernel
theorem d10_11 : dc prog_1_method_28_code 11 (.getfield 28) 3 := by decide +kernel
theorem d10_14 : dc prog_1_method_28_code 14 (.aload_n 0) 1 := by decide +kernel
theorem d10_15 : dc prog_1_method_28_code 15 (.getfield 75) 3 := by decide +kernel
theorem d10_18 : dc prog_1_method_28_code 18 (.aload_n 0) 1 := by decide +kernel
theorem d10_19 : dc prog_1_method_28_code 19 (.getfield 108) 3 := by decide +kernel
theorem d10_22 : dc prog_1_method_28_code 22 (.iastore) 1 := by decide +kernel
theorem d10_23 : dc prog_1_method_28_code 23 (.aload_n 0) 1 := by decide +kernel
theorem d10_24 : dc prog_1_method_28_code 24 (.getfield 31) 3 := by decide +kernel
theorem d10_27 : dc prog_1_method_28_code 27 (.aload_n 0) 1 := by decide +kernel
theorem d10_28 : dc prog_1_method_28_code 28 (.getfield 75) 3 := by decide +kernel
theorem d10_31 : dc prog_1_method_28_code 31 (.aload_n 0) 1 := by decide +kernel
theorem d10_32 : dc prog_1_method_28_code 32 (.getfield 111) 3 := by decide +kernel
theorem d10_35 : dc prog_1_method_28_code 35 (.iastore) 1 := by decide +kernel
theorem d10_36 : dc prog_1_method_28_code 36 (.aload_n 0) 1 := by decide +kernel
theorem d10_37 : dc prog_1_method_28_code 37 (.getfield 34) 3 := by decide +kernel
theorem d10_40 : dc prog_1_method_28_code 40 (.aload_n 0) 1 := by decide +kernel
theorem d10_41 : dc prog_1_method_28_code 41 (.getfield 75) 3 := by decide +kernel
theorem d10_44 : dc prog_1_method_28_code 44 (.aload_n 0) 1 := by decide +kernel
theorem d10_45 : dc prog_1_method_28_code 45 (.getfield 114) 3 := by decide +kernel
theorem d10_48 : dc prog_1_method_28_code 48 (.iastore) 1 := by decide +kernel
theorem d10_49 : dc prog_1_method_28_code 49 (.aload_n 0) 1 := by decide +kernel
theorem d10_50 : dc prog_1_method_28_code 50 (.getfield 37) 3 := by decide +kernel
theorem d10_53 : dc prog_1_method_28_code 53 (.aload_n 0) 1 := by decide +kernel
theorem d10_54 : dc prog_1_method_28_code 54 (.getfield 75) 3 := by decide +kernel
theorem d10_57 : dc prog_1_method_28_code 57 (.aload_n 0) 1 := by decide +kernel
theorem d10_58 : dc prog_1_method_28_code 58 (.getfield 117) 3 := by decide +kernel
theorem d10_61 : dc prog_1_method_28_code 61 (.iastore) 1 := by decide +kernel
theorem d10_62 : dc prog_1_method_28_code 62 (.aload_n 0) 1 := by decide +kernel
theorem d10_63 : dc prog_1_method_28_code 63 (.dup) 1 := by decide +kernel
theorem d10_64 : dc prog_1_method_28_code 64 (.getfield 75) 3 := by decide +kernel
theorem d10_67 : dc prog_1_method_28_code 67 (.iconst 1) 1 := by decide +kernel
theorem d10_68 : dc prog_1_method_28_code 68 (.iadd) 1 := by decide +kernel
theorem d10_69 : dc prog_1_method_28_code 69 (.putfield 75) 3 := by decide +kernel
theorem d10_72 : dc prog_1_method_28_code 72 (.return_) 1 := by decide +kernel
abbrev y10 : MethodName := ⟨"DisplayMap", "closeRow", "()V"⟩
theorem hy10 : y10.cls ≠ "java/lang/invoke/MethodHandle" ∧ y10.cls ≠ "java/lang/invoke/VarHandle" := by decide
theorem pd10 : parseMethodDescriptor y10.desc = some ⟨[], none⟩ := by decide +kernel
abbrev R10 : Room := { frames := 0, cells := 0, slots := 0, locals := 0 }
abbrev P10 (r : St) : Option Value → List OwnC → Prop := fun v H' => v = none ∧ H' = (Hb 0 r)
abbrev W10 (l : Launch) (Z : State) (n0 : Nat) (Q : Option Value → List OwnC → Prop) (k n pc : Nat) (L : List Slot) (S : List Value) (H : List OwnC) : Prop := WP l Z CN lay "DisplayMap" "closeRow" prog_1_method_28_code 1 (none) R10 n0 0 Q k n pc L S H
def f_closeRow_72 (s : St) : Option (St) :=
  some s
set_option maxRecDepth 65536 in
set_option maxHeartbeats 4000000 in
theorem ok10_72 (l : Launch) (Z : State) (a0 : Array Value) (hw : HW a0 Z) (n0 : Nat) (s : St) (r : St) (h : f_closeRow_72 s = some r) : W10 l Z n0 (P10 r) 0 0 72 [.unset] [] (Hb 0 s) := by
  unfold f_closeRow_72 at h
  cases h
  exact WP.vreturn d10_72 rfl (leb rfl) (leb rfl) ⟨rfl, rfl⟩
def f_closeRow (s : St) : Option (St) :=
  if (gI s 6) < (260 : Int32) then
    (wrA s 6 (gI s 6) (gI s 7)).bind fun s2 =>
    (wrA s2 7 (gI s2 6) (gI s2 8)).bind fun s3 =>
    (wrA s3 8 (gI s3 6) (gI s3 9)).bind fun s4 =>
    (wrA s4 9 (gI s4 6) (gI s4 10)).bind fun s5 =>
    lt (sI s5 6 ((gI s5 6) + (1 : Int32))) fun s6 =>
    f_closeRow_72 s6
  else
    f_closeRow_72 s
set_option maxRecDepth 65536 in
set_option maxHeartbeats 4000000 in
theorem ok10 (l : Launch) (Z : State) (a0 : Array Value) (hw : HW a0 Z) (s : St) (r : St) (h : f_closeRow s = some r) : CS l Z CN lay y10 prog_1_method_28_code 1 (none) R10 0 [.ref 0] (Hb 0 s) (P10 r) := by
  refine CS.of_wp pn_cls (leb rfl) fun n0 => ?_
  show W10 l Z n0 (P10 r) 0 0 0 [.val (.ref 0)] [] (Hb 0 s)
  unfold f_closeRow at h
  refine WP.aloadN d10_0 rfl ?_
  refine WP.getfield (i := 0) (j := 16) d10_1 (hw _ m_72) rfl rfl rfl ?_
  refine WP.sipush (260 : Int32) d10_4 rfl ?_
  rcases ite_e h with ⟨hc1, h⟩ | ⟨hc1, h⟩
  ·
    refine WP.icmpN d10_7 (XT.ii_ge_f hc1) ?_
    refine WP.aloadN d10_10 rfl ?_
    refine WP.getfield (i := 0) (j := 12) d10_11 (hw _ m_30) rfl rfl rfl ?_
    refine WP.aloadN d10_14 rfl ?_
    refine WP.getfield (i := 0) (j := 16) d10_15 (hw _ m_72) rfl rfl rfl ?_
    refine WP.aloadN d10_18 rfl ?_
    refine WP.getfield (i := 0) (j := 17) d10_19 (hw _ m_78) rfl rfl rfl ?_
    obtain ⟨s2, hs2, h⟩ := Option.bind_eq_some_iff.mp h
    obtain ⟨ys2, gs2, es2⟩ := wrA_e hs2
    refine WP.iastore (i := 7) (xs := gA s 6) (H' := (Hb 0 s2)) d10_22 rfl (leb rfl) gs2 (by subst es2; rfl) ?_
    refine WP.aloadN d10_23 rfl ?_
    refine WP.getfield (i := 0) (j := 13) d10_24 (hw _ m_32) rfl rfl rfl ?_
    refine WP.aloadN d10_27 rfl ?_
    refine WP.getfield (i := 0) (j := 16) d10_28 (hw _ m_72) rfl rfl rfl ?_
    refine WP.aloadN d10_31 rfl ?_
    refine WP.getfield (i := 0) (j := 18) d10_32 (hw _ m_80) rfl rfl rfl ?_
    obtain ⟨s3, hs3, h⟩ := Option.bind_eq_some_iff.mp h
    obtain ⟨ys3, gs3, es3⟩ := wrA_e hs3
    refine WP.iastore (i := 8) (xs := gA s2 7) (H' := (Hb 0 s3)) d10_35 rfl (leb rfl) gs3 (by subst es3; rfl) ?_
    refine WP.aloadN d10_36 rfl ?_
    refine WP.getfield (i := 0) (j := 14) d10_37 (hw _ m_34) rfl rfl rfl ?_
    refine WP.aloadN d10_40 rfl ?_
    refine WP.getfield (i := 0) (j := 16) d10_41 (hw _ m_72) rfl rfl rfl ?_
    refine WP.aloadN d10_44 rfl ?_
    refine WP.getfield (i := 0) (j := 19) d10_45 (hw _ m_82) rfl rfl rfl ?_
    obtain ⟨s4, hs4, h⟩ := Option.bind_eq_some_iff.mp h
    obtain ⟨ys4, gs4, es4⟩ := wrA_e hs4
    refine WP.iastore (i := 9) (xs := gA s3 8) (H' := (Hb 0 s4)) d10_48 rfl (leb rfl) gs4 (by subst es4; rfl) ?_
    refine WP.aloadN d10_49 rfl ?_
    refine WP.getfield (i := 0) (j := 15) d10_50 (hw _ m_36) rfl rfl rfl ?_
    refine WP.aloadN d10_53 rfl ?_
    refine WP.getfield (i := 0) (j := 16) d10_54 (hw _ m_72) rfl rfl rfl ?_
    refine WP.aloadN d10_57 rfl ?_
    refine WP.getfield (i := 0) (j := 20) d10_58 (hw _ m_84) rfl rfl rfl ?_
    obtain ⟨s5, hs5, h⟩ := Option.bind_eq_some_iff.mp h
    obtain ⟨ys5, gs5, es5⟩ := wrA_e hs5
    refine WP.iastore (i := 10) (xs := gA s4 9) (H' := (Hb 0 s5)) d10_61 rfl (leb rfl) gs5 (by subst es5; rfl) ?_
    refine WP.aloadN d10_62 rfl ?_
    refine WP.dup d10_63 rfl ?_
    refine WP.getfield (i := 0) (j := 16) d10_64 (hw _ m_72) rfl rfl rfl ?_
    refine WP.iconst (1 : Int32) d10_67 rfl ?_
    refine WP.iadd d10_68 ?_
    obtain ⟨s6, es6, h⟩ := lt_e h
    refine WP.putI (i := 0) (j := 16) (H' := (Hb 0 s6)) d10_69 (hw _ m_72) (Or.inl (hw _ m_73)) (hw _ m_1) (hlay hw) rfl rfl rfl (leb rfl) (by subst es6; rfl) ?_
    exact WP.weak (L' := [.unset]) trivial (ok10_72 l Z a0 hw n0 s6 _ h)
  ·
    refine WP.icmpY (pc' := 72) d10_7 (XT.ii_ge_t hc1) (by decide) rfl ?_
    exact WP.weak (L' := [.unset]) trivial (ok10_72 l Z a0 hw n0 s _ h)
theorem d22_0 : dc prog_1_method_29_code 0 (.aload_n 0) 1 := by decide +kernel
theorem d22_1 : dc prog_1_method_29_code 1 (.getfield 117) 3 := by decide +kernel
theorem d22_4 : dc prog_1_method_29_code 4 (.ifCond .le 25) 3 := by decide +kernel
theorem d22_7 : dc prog_1_method_29_code 7 (.aload_n 0) 1 := by decide +kernel
theorem d22_8 : dc prog_1_method_29_code 8 (.getfield 111) 3 := by decide +kernel
theorem d22_11 : dc prog_1_method_29_code 11 (.iload_n 3) 1 := by decide +kernel
theorem d22_12 : dc prog_1_method_29_code 12 (.iadd) 1 := by decide +kernel
theorem d22_13 : dc prog_1_method_29_code 13 (.aload_n 0) 1 := by decide +kernel
theorem d22_14 : dc prog_1_method_29_code 14 (.getfield 51) 3 := by decide +kernel
theorem d22_17 : dc prog_1_method_29_code 17 (.if_icmp .le 12) 3 := by decide +kernel
theorem d22_20 : dc prog_1_method_29_code 20 (.aload_n 0) 1 := by decide +kernel
theorem d22_21 : dc prog_1_method_29_code 21 (.invokevirtual 105) 3 := by decide +kernel
theorem d22_24 : dc prog_1_method_29_code 24 (.aload_n 0) 1 := by decide +kernel
theorem d22_25 : dc prog_1_method_29_code 25 (.iload_n 1) 1 := by decide +kernel
theorem d22_26 : dc prog_1_method_29_code 26 (.invokevirtual 91) 3 := by decide +kernel
theorem d22_29 : dc prog_1_method_29_code 29 (.aload_n 0) 1 := by decide +kernel
theorem d22_30 : dc prog_1_method_29_code 30 (.getfield 88) 3 := by decide +kernel
theorem d22_33 : dc prog_1_method_29_code 33 (.sipush 256) 3 := by decide +kernel
theorem d22_36 : dc prog_1_method_29_code 36 (.if_icmp .ge 53) 3 := by decide +kernel
theorem d22_39 : dc prog_1_method_29_code 39 (.aload_n 0) 1 := by decide +kernel
theorem d22_40 : dc prog_1_method_29_code 40 (.getfield 19) 3 := by decide +kernel
theorem d22_43 : dc prog_1_method_29_code 43 (.aload_n 0) 1 := by decide +kernel
theorem d22_44 : dc prog_1_method_29_code 44 (.getfield 88) 3 := by decide +kernel
theorem d22_47 : dc prog_1_method_29_code 47 (.iload_n 1) 1 := by decide +kernel
theorem d22_48 : dc prog_1_method_29_code 48 (.iastore) 1 := by decide +kernel
theorem d22_49 : dc prog_1_method_29_code 49 (.aload_n 0) 1 := by decide +kernel
theorem d22_50 : dc prog_1_method_29_code 50 (.getfield 22) 3 := by decide +kernel
theorem d22_53 : dc prog_1_method_29_code 53 (.aload_n 0) 1 := by decide +kernel
theorem d22_54 : dc prog_1_method_29_code 54 (.getfield 88) 3 := by decide +kernel
theorem d22_57 : dc prog_1_method_29_code 57 (.iload_n 2) 1 := by decide +kernel
theorem d22_58 : dc prog_1_method_29_code 58 (.iastore) 1 := by decide +kernel
theorem d22_59 : dc prog_1_method_29_code 59 (.aload_n 0) 1 := by decide +kernel
theorem d22_60 : dc prog_1_method_29_code 60 (.getfield 25) 3 := by decide +kernel
theorem d22_63 : dc prog_1_method_29_code 63 (.aload_n 0) 1 := by decide +kernel
theorem d22_64 : dc prog_1_method_29_code 64 (.getfield 88) 3 := by decide +kernel
theorem d22_67 : dc prog_1_method_29_code 67 (.iload_n 3) 1 := by decide +kernel
theorem d22_68 : dc prog_1_method_29_code 68 (.iastore) 1 := by decide +kernel
theorem d22_69 : dc prog_1_method_29_code 69 (.aload_n 0) 1 := by decide +kernel
theorem d22_70 : dc prog_1_method_29_code 70 (.dup) 1 := by decide +kernel
theorem d22_71 : dc prog_1_method_29_code 71 (.getfield 88) 3 := by decide +kernel
theorem d22_74 : dc prog_1_method_29_code 74 (.iconst 1) 1 := by decide +kernel
theorem d22_75 : dc prog_1_method_29_code 75 (.iadd) 1 := by decide +kernel
theorem d22_76 : dc prog_1_method_29_code 76 (.putfield 88) 3 := by decide +kernel
theorem d22_79 : dc prog_1_method_29_code 79 (.aload_n 0) 1 := by decide +kernel
theorem d22_80 : dc prog_1_method_29_code 80 (.dup) 1 := by decide +kernel
theorem d22_81 : dc prog_1_method_29_code 81 (.getfield 117) 3 := by decide +kernel
theorem d22_84 : dc prog_1_method_29_code 84 (.iconst 1) 1 := by decide +kernel
theorem d22_85 : dc prog_1_method_29_code 85 (.iadd) 1 := by decide +kernel
theorem d22_86 : dc prog_1_method_29_code 86 (.putfield 117) 3 := by decide +kernel
theorem d22_89 : dc prog_1_method_29_code 89 (.aload_n 0) 1 := by decide +kernel
theorem d22_90 : dc prog_1_method_29_code 90 (.dup) 1 := by decide +kernel
theorem d22_91 : dc prog_1_method_29_code 91 (.getfield 111) 3 := by decide +kernel
theorem d22_94 : dc prog_1_method_29_code 94 (.iload_n 3) 1 := by decide +kernel
theorem d22_95 : dc prog_1_method_29_code 95 (.iadd) 1 := by decide +kernel
theorem d22_96 : dc prog_1_method_29_code 96 (.putfield 111) 3 := by decide +kernel
theorem d22_99 : dc prog_1_method_29_code 99 (.aload_n 0) 1 := by decide +kernel
theorem d22_100 : dc prog_1_method_29_code 100 (.dup) 1 := by decide +kernel
theorem d22_101 : dc prog_1_method_29_code 101 (.getfield 95) 3 := by decide +kernel
theorem d22_104 : dc prog_1_method_29_code 104 (.iload_n 3) 1 := by decide +kernel
theorem d22_105 : dc prog_1_method_29_code 105 (.iadd) 1 := by decide +kernel
theorem d22_106 : dc prog_1_method_29_code 106 (.putfield 95) 3 := by decide +kernel
theorem d22_109 : dc prog_1_method_29_code 109 (.return_) 1 := by decide +kernel
abbrev y22 : MethodName := ⟨"DisplayMap", "addElement", "(III)V"⟩
theorem hy22 : y22.cls ≠ "java/lang/invoke/MethodHandle" ∧ y22.cls ≠ "java/lang/invoke/VarHandle" := by decide
theorem pd22 : parseMethodDescriptor y22.desc = some ⟨[.int, .int, .int], none⟩ := by decide +kernel
abbrev R22 : Room := { frames := 1, cells := 0, slots := 0, locals := 13 }
abbrev P22 (r : St) : Option Value → List OwnC → Prop := fun v H' => v = none ∧ H' = (Hb 0 r)
abbrev W22 (l : Launch) (Z : State) (n0 : Nat) (Q : Option Value → List OwnC → Prop) (k n pc : Nat) (L : List Slot) (S : List Value) (H : List OwnC) : Prop := WP l Z CN lay "DisplayMap" "addElement" prog_1_method_29_code 4 (none) R22 n0 0 Q k n pc L S H
def f_addElement_89 (v3 : Int32) (s : St) : Option (St) :=
  lt (sI s 8 ((gI s 8) + v3)) fun s1 =>
  lt (sI s1 11 ((gI s1 11) + v3)) fun s2 =>
  some s2
set_option maxRecDepth 65536 in
set_option maxHeartbeats 4000000 in
theorem ok22_89 (l : Launch) (Z : State) (a0 : Array Value) (hw : HW a0 Z) (n0 : Nat) (v3 : Int32) (s : St) (r : St) (h : f_addElement_89 v3 s = some r) : W22 l Z n0 (P22 r) 0 0 89 [.val (.ref 0), .unset, .unset, .val (.int v3)] [] (Hb 0 s) := by
  unfold f_addElement_89 at h
  refine WP.aloadN d22_89 rfl ?_
  refine WP.dup d22_90 rfl ?_
  refine WP.getfield (i := 0) (j := 18) d22_91 (hw _ m_80) rfl rfl rfl ?_
  refine WP.iloadN d22_94 rfl ?_
  refine WP.iadd d22_95 ?_
  obtain ⟨s1, es1, h⟩ := lt_e h
  refine WP.putI (i := 0) (j := 18) (H' := (Hb 0 s1)) d22_96 (hw _ m_80) (Or.inl (hw _ m_81)) (hw _ m_1) (hlay hw) rfl rfl rfl (leb rfl) (by subst es1; rfl) ?_
  refine WP.aloadN d22_99 rfl ?_
  refine WP.dup d22_100 rfl ?_
  refine WP.getfield (i := 0) (j := 21) d22_101 (hw _ m_86) rfl rfl rfl ?_
  refine WP.iloadN d22_104 rfl ?_
  refine WP.iadd d22_105 ?_
  obtain ⟨s2, es2, h⟩ := lt_e h
  refine WP.putI (i := 0) (j := 21) (H' := (Hb 0 s2)) d22_106 (hw _ m_86) (Or.inl (hw _ m_87)) (hw _ m_1) (hlay hw) rfl rfl rfl (leb rfl) (by subst es2; rfl) ?_
  cases h
  exact WP.vreturn d22_109 rfl (leb rfl) (leb rfl) ⟨rfl, rfl⟩
def f_addElement_29 (v1 : Int32) (v2 : Int32) (v3 : Int32) (s : St) : Option (St) :=
  if (gI s 5) < (256 : Int32) then
    (wrA s 3 (gI s 5) v1).bind fun s2 =>
    (wrA s2 4 (gI s2 5) v2).bind fun s3 =>
    (wrA s3 5 (gI s3 5) v3).bind fun s4 =>
    lt (sI s4 5 ((gI s4 5) + (1 : Int32))) fun s5 =>
    lt (sI s5 10 ((gI s5 10) + (1 : Int32))) fun s6 =>
    f_addElement_89 v3 s6
  else
    f_addElement_89 v3 s
set_option maxRecDepth 65536 in
set_option maxHeartbeats 4000000 in
theorem ok22_29 (l : Launch) (Z : State) (a0 : Array Value) (hw : HW a0 Z) (n0 : Nat) (v1 : Int32) (v2 : Int32) (v3 : Int32) (s : St) (r : St) (h : f_addElement_29 v1 v2 v3 s = some r) : W22 l Z n0 (P22 r) 0 0 29 [.val (.ref 0), .val (.int v1), .val (.int v2), .val (.int v3)] [] (Hb 0 s) := by
  unfold f_addElement_29 at h
  refine WP.aloadN d22_29 rfl ?_
  refine WP.getfield (i := 0) (j := 11) d22_30 (hw _ m_70) rfl rfl rfl ?_
  refine WP.sipush (256 : Int32) d22_33 rfl ?_
  rcases ite_e h with ⟨hc1, h⟩ | ⟨hc1, h⟩
  ·
    refine WP.icmpN d22_36 (XT.ii_ge_f hc1) ?_
    refine WP.aloadN d22_39 rfl ?_
    refine WP.getfield (i := 0) (j := 8) d22_40 (hw _ m_24) rfl rfl rfl ?_
    refine WP.aloadN d22_43 rfl ?_
    refine WP.getfield (i := 0) (j := 11) d22_44 (hw _ m_70) rfl rfl rfl ?_
    refine WP.iloadN d22_47 rfl ?_
    obtain ⟨s2, hs2, h⟩ := Option.bind_eq_some_iff.mp h
    obtain ⟨ys2, gs2, es2⟩ := wrA_e hs2
    refine WP.iastore (i := 4) (xs := gA s 3) (H' := (Hb 0 s2)) d22_48 rfl (leb rfl) gs2 (by subst es2; rfl) ?_
    refine WP.aloadN d22_49 rfl ?_
    refine WP.getfield (i := 0) (j := 9) d22_50 (hw _ m_26) rfl rfl rfl ?_
    refine WP.aloadN d22_53 rfl ?_
    refine WP.getfield (i := 0) (j := 11) d22_54 (hw _ m_70) rfl rfl rfl ?_
    refine WP.iloadN d22_57 rfl ?_
    obtain ⟨s3, hs3, h⟩ := Option.bind_eq_some_iff.mp h
    obtain ⟨ys3, gs3, es3⟩ := wrA_e hs3
    refine WP.iastore (i := 5) (xs := gA s2 4) (H' := (Hb 0 s3)) d22_58 rfl (leb rfl) gs3 (by subst es3; rfl) ?_
    refine WP.aloadN d22_59 rfl ?_
    refine WP.getfield (i := 0) (j := 10) d22_60 (hw _ m_28) rfl rfl rfl ?_
    refine WP.aloadN d22_63 rfl ?_
    refine WP.getfield (i := 0) (j := 11) d22_64 (hw _ m_70) rfl rfl rfl ?_
    refine WP.iloadN d22_67 rfl ?_
    obtain ⟨s4, hs4, h⟩ := Option.bind_eq_some_iff.mp h
    obtain ⟨ys4, gs4, es4⟩ := wrA_e hs4
    refine WP.iastore (i := 6) (xs := gA s3 5) (H' := (Hb 0 s4)) d22_68 rfl (leb rfl) gs4 (by subst es4; rfl) ?_
    refine WP.aloadN d22_69 rfl ?_
    refine WP.dup d22_70 rfl ?_
    refine WP.getfield (i := 0) (j := 11) d22_71 (hw _ m_70) rfl rfl rfl ?_
    refine WP.iconst (1 : Int32) d22_74 rfl ?_
    refine WP.iadd d22_75 ?_
    obtain ⟨s5, es5, h⟩ := lt_e h
    refine WP.putI (i := 0) (j := 11) (H' := (Hb 0 s5)) d22_76 (hw _ m_70) (Or.inl (hw _ m_71)) (hw _ m_1) (hlay hw) rfl rfl rfl (leb rfl) (by subst es5; rfl) ?_
    refine WP.aloadN d22_79 rfl ?_
    refine WP.dup d22_80 rfl ?_
    refine WP.getfield (i := 0) (j := 20) d22_81 (hw _ m_84) rfl rfl rfl ?_
    refine WP.iconst (1 : Int32) d22_84 rfl ?_
    refine WP.iadd d22_85 ?_
    obtain ⟨s6, es6, h⟩ := lt_e h
    refine WP.putI (i := 0) (j := 20) (H' := (Hb 0 s6)) d22_86 (hw _ m_84) (Or.inl (hw _ m_85)) (hw _ m_1) (hlay hw) rfl rfl rfl (leb rfl) (by subst es6; rfl) ?_
    exact WP.weak (L' := [.val (.ref 0), .unset, .unset, .val (.int v3)]) ⟨rfl, rfl, trivial⟩ (ok22_89 l Z a0 hw n0 v3 s6 _ h)
  ·
    refine WP.icmpY (pc' := 89) d22_36 (XT.ii_ge_t hc1) (by decide) rfl ?_
    exact WP.weak (L' := [.val (.ref 0), .unset, .unset, .val (.int v3)]) ⟨rfl, rfl, trivial⟩ (ok22_89 l Z a0 hw n0 v3 s _ h)
def f_addElement (p1 : Int32) (p2 : Int32) (p3 : Int32) (s : St) : Option (St) :=
  if 0 < (gI s 10) then
    if (gI s 3) < ((gI s 8) + p3) then
      (f_closeRow s).bind fun c3 =>
      (f_openRow p1 c3).bind fun c4 =>
      f_addElement_29 p1 p2 p3 c4
    else
      f_addElement_29 p1 p2 p3 s
  else
    f_addElement_29 p1 p2 p3 s
set_option maxRecDepth 65536 in
set_option maxHeartbeats 4000000 in
theorem ok22 (l : Launch) (Z : State) (a0 : Array Value) (hw : HW a0 Z) (p1 : Int32) (p2 : Int32) (p3 : Int32) (s : St) (r : St) (h : f_addElement p1 p2 p3 s = some r) : CS l Z CN lay y22 prog_1_method_29_code 4 (none) R22 0 [.ref 0, .int p1, .int p2, .int p3] (Hb 0 s) (P22 r) := by
  refine CS.of_wp pn_cls (leb rfl) fun n0 => ?_
  show W22 l Z n0 (P22 r) 0 0 0 [.val (.ref 0), .val (.int p1), .val (.int p2), .val (.int p3)] [] (Hb 0 s)
  unfold f_addElement at h
  refine WP.aloadN d22_0 rfl ?_
  refine WP.getfield (i := 0) (j := 20) d22_1 (hw _ m_84) rfl rfl rfl ?_
  rcases ite_e h with ⟨hc1, h⟩ | ⟨hc1, h⟩
  ·
    refine WP.ifN d22_4 (XT.i0_le_f hc1) ?_
    refine WP.aloadN d22_7 rfl ?_
    refine WP.getfield (i := 0) (j := 18) d22_8 (hw _ m_80) rfl rfl rfl ?_
    refine WP.iloadN d22_11 rfl ?_
    refine WP.iadd d22_12 ?_
    refine WP.aloadN d22_13 rfl ?_
    refine WP.getfield (i := 0) (j := 6) d22_14 (hw _ m_46) rfl rfl rfl ?_
    rcases ite_e h with ⟨hc2, h⟩ | ⟨hc2, h⟩
    ·
      refine WP.icmpN d22_17 (XT.ii_le_f hc2) ?_
      refine WP.aloadN d22_20 rfl ?_
      obtain ⟨c3, hc3, h⟩ := Option.bind_eq_some_iff.mp h
      refine WP.callP (i := 0) (y := y10) (as := []) (S := []) d22_21 (hw _ m_88) (hw _ m_90) (hw _ m_1) (hw _ m_89) (hw _ m_91) (hw _ m_2) hy10 rfl (ok10 l Z a0 hw s _ hc3) rfl (lenOf pd10 rfl) (leb rfl) (leb rfl) (leb rfl) (leb rfl) ?_
      rintro _ _ ⟨rfl, rfl⟩
      show W22 l Z n0 (P22 r) 0 0 24 [.val (.ref 0), .val (.int p1), .val (.int p2), .val (.int p3)] [] (Hb 0 c3)
      refine WP.aloadN d22_24 rfl ?_
      refine WP.iloadN d22_25 rfl ?_
      obtain ⟨c4, hc4, h⟩ := Option.bind_eq_some_iff.mp h
      refine WP.callP (i := 0) (y := y9) (as := [.int p1]) (S := []) d22_26 (hw _ m_74) (hw _ m_76) (hw _ m_1) (hw _ m_75) (hw _ m_77) (hw _ m_2) hy9 rfl (ok9 l Z a0 hw p1 c3 _ hc4) rfl (lenOf pd9 rfl) (leb rfl) (leb rfl) (leb rfl) (leb rfl) ?_
      rintro _ _ ⟨rfl, rfl⟩
      show W22 l Z n0 (P22 r) 0 0 29 [.val (.ref 0), .val (.int p1), .val (.int p2), .val (.int p3)] [] (Hb 0 c4)
      exact WP.weak (L' := [.val (.ref 0), .val (.int p1), .val (.int p2), .val (.int p3)]) ⟨rfl, rfl, rfl, rfl, trivial⟩ (ok22_29 l Z a0 hw n0 p1 p2 p3 c4 _ h)
    ·
      refine WP.icmpY (pc' := 29) d22_17 (XT.ii_le_t hc2) (by decide) rfl ?_
      exact WP.weak (L' := [.val (.ref 0), .val (.int p1), .val (.int p2), .val (.int p3)]) ⟨rfl, rfl, rfl, rfl, trivial⟩ (ok22_29 l Z a0 hw n0 p1 p2 p3 s _ h)
  ·
    refine WP.ifY (pc' := 29) d22_4 (XT.i0_le_t hc1) (by decide) rfl ?_
    exact WP.weak (L' := [.val (.ref 0), .val (.int p1), .val (.int p2), .val (.int p3)]) ⟨rfl, rfl, rfl, rfl, trivial⟩ (ok22_29 l Z a0 hw n0 p1 p2 p3 s _ h)
theorem d8_0 : dc prog_1_method_26_code 0 (.aload_n 0) 1 := by decide +kernel
theorem d8_1 : dc prog_1_method_26_code 1 (.iconst 0) 1 := by decide +kernel
theorem d8_2 : dc prog_1_method_26_code 2 (.putfield 88) 3 := by decide +kernel
theorem d8_5 : dc prog_1_method_26_code 5 (.aload_n 0) 1 := by decide +kernel
theorem d8_6 : dc prog_1_method_26_code 6 (.iconst 0) 1 := by decide +kernel
theorem d8_7 : dc prog_1_method_26_code 7 (.putfield 75) 3 := by decide +kernel
theorem d8_10 : dc prog_1_method_26_code 10 (.aload_n 0) 1 := by decide +kernel
theorem d8_11 : dc prog_1_method_26_code 11 (.iconst 0) 1 := by decide +kernel
theorem d8_12 : dc prog_1_method_26_code 12 (.invokevirtual 91) 3 := by decide +kernel
theorem d8_15 : dc prog_1_method_26_code 15 (.aload_n 0) 1 := by decide +kernel
theorem d8_16 : dc prog_1_method_26_code 16 (.iconst 0) 1 := by decide +kernel
theorem d8_17 : dc prog_1_method_26_code 17 (.putfield 95) 3 := by decide +kernel
theorem d8_20 : dc prog_1_method_26_code 20 (.iconst 0) 1 := by decide +kernel
theorem d8_21 : dc prog_1_method_26_code 21 (.istore_n 1) 1 := by decide +kernel
theorem d8_22 : dc prog_1_method_26_code 22 (.iconst 0) 1 := by decide +kernel
theorem d8_23 : dc prog_1_method_26_code 23 (.istore_n 2) 1 := by decide +kernel
theorem d8_24 : dc prog_1_method_26_code 24 (.iload_n 2) 1 := by decide +kernel
theorem d8_25 : dc prog_1_method_26_code 25 (.sipush 256) 3 := by decide +kernel
theorem d8_28 : dc prog_1_method_26_code 28 (.if_icmp .gt 133) 3 := by decide +kernel
theorem d8_31 : dc prog_1_method_26_code 31 (.iload_n 1) 1 := by decide +kernel
theorem d8_32 : dc prog_1_method_26_code 32 (.aload_n 0) 1 := by decide +kernel
theorem d8_33 : dc prog_1_method_26_code 33 (.getfield 54) 3 := by decide +kernel
theorem d8_36 : dc prog_1_method_26_code 36 (.if_icmp .ge 125) 3 := by decide +kernel
theorem d8_39 : dc prog_1_method_26_code 39 (.aload_n 0) 1 := by decide +kernel
theorem d8_40 : dc prog_1_method_26_code 40 (.iload_n 1) 1 := by decide +kernel
theorem d8_41 : dc prog_1_method_26_code 41 (.invokevirtual 98) 3 := by decide +kernel
theorem d8_44 : dc prog_1_method_26_code 44 (.istore_n 3) 1 := by decide +kernel
theorem d8_45 : dc prog_1_method_26_code 45 (.iload_n 3) 1 := by decide +kernel
theorem d8_46 : dc prog_1_method_26_code 46 (.ifCond .lt 25) 3 := by decide +kernel
theorem d8_49 : dc prog_1_method_26_code 49 (.aload_n 0) 1 := by decide +kernel
theorem d8_50 : dc prog_1_method_26_code 50 (.getfield 16) 3 := by decide +kernel
theorem d8_53 : dc prog_1_method_26_code 53 (.iload_n 3) 1 := by decide +kernel
theorem d8_54 : dc prog_1_method_26_code 54 (.iaload) 1 := by decide +kernel
theorem d8_55 : dc prog_1_method_26_code 55 (.istore 4) 2 := by decide +kernel
theorem d8_57 : dc prog_1_method_26_code 57 (.aload_n 0) 1 := by decide +kernel
theorem d8_58 : dc prog_1_method_26_code 58 (.iload_n 1) 1 := by decide +kernel
theorem d8_59 : dc prog_1_method_26_code 59 (.iload 4) 2 := by decide +kernel
theorem d8_61 : dc prog_1_method_26_code 61 (.iconst 3) 1 := by decide +kernel
theorem d8_62 : dc prog_1_method_26_code 62 (.invokevirtual 101) 3 := by decide +kernel
theorem d8_65 : dc prog_1_method_26_code 65 (.iload 4) 2 := by decide +kernel
theorem d8_67 : dc prog_1_method_26_code 67 (.istore_n 1) 1 := by decide +kernel
theorem d8_68 : dc prog_1_method_26_code 68 (.goto 87) 3 := by decide +kernel
theorem d8_71 : dc prog_1_method_26_code 71 (.aload_n 0) 1 := by decide +kernel
theorem d8_72 : dc prog_1_method_26_code 72 (.getfield 7) 3 := by decide +kernel
theorem d8_75 : dc prog_1_method_26_code 75 (.iload_n 1) 1 := by decide +kernel
theorem d8_76 : dc prog_1_method_26_code 76 (.iaload) 1 := by decide +kernel
theorem d8_77 : dc prog_1_method_26_code 77 (.bipush 10) 2 := by decide +kernel
theorem d8_79 : dc prog_1_method_26_code 79 (.if_icmp .ne 25) 3 := by decide +kernel
theorem d8_82 : dc prog_1_method_26_code 82 (.aload_n 0) 1 := by decide +kernel
theorem d8_83 : dc prog_1_method_26_code 83 (.invokevirtual 105) 3 := by decide +kernel
theorem d8_86 : dc prog_1_method_26_code 86 (.aload_n 0) 1 := by decide +kernel
theorem d8_87 : dc prog_1_method_26_code 87 (.iload_n 1) 1 := by decide +kernel
theorem d8_88 : dc prog_1_method_26_code 88 (.iconst 1) 1 := by decide +kernel
theorem d8_89 : dc prog_1_method_26_code 89 (.iadd) 1 := by decide +kernel
theorem d8_90 : dc prog_1_method_26_code 90 (.invokevirtual 91) 3 := by decide +kernel
theorem d8_93 : dc prog_1_method_26_code 93 (.aload_n 0) 1 := by decide +kernel
theorem d8_94 : dc prog_1_method_26_code 94 (.iconst 0) 1 := by decide +kernel
theorem d8_95 : dc prog_1_method_26_code 95 (.putfield 95) 3 := by decide +kernel
theorem d8_98 : dc prog_1_method_26_code 98 (.iinc 1 1) 3 := by decide +kernel
theorem d8_101 : dc prog_1_method_26_code 101 (.goto 54) 3 := by decide +kernel
theorem d8_104 : dc prog_1_method_26_code 104 (.aload_n 0) 1 := by decide +kernel
theorem d8_105 : dc prog_1_method_26_code 105 (.getfield 7) 3 := by decide +kernel
theorem d8_108 : dc prog_1_method_26_code 108 (.iload_n 1) 1 := by decide +kernel
theorem d8_109 : dc prog_1_method_26_code 109 (.iaload) 1 := by decide +kernel
theorem d8_110 : dc prog_1_method_26_code 110 (.bipush 9) 2 := by decide +kernel
theorem d8_112 : dc prog_1_method_26_code 112 (.if_icmp .ne 31) 3 := by decide +kernel
theorem d8_115 : dc prog_1_method_26_code 115 (.aload_n 0) 1 := by decide +kernel
theorem d8_116 : dc prog_1_method_26_code 116 (.iload_n 1) 1 := by decide +kernel
theorem d8_117 : dc prog_1_method_26_code 117 (.iload_n 1) 1 := by decide +kernel
theorem d8_118 : dc prog_1_method_26_code 118 (.iconst 1) 1 := by decide +kernel
theorem d8_119 : dc prog_1_method_26_code 119 (.iadd) 1 := by decide +kernel
theorem d8_120 : dc prog_1_method_26_code 120 (.aload_n 0) 1 := by decide +kernel
theorem d8_121 : dc prog_1_method_26_code 121 (.getfield 44) 3 := by decide +kernel
theorem d8_124 : dc prog_1_method_26_code 124 (.aload_n 0) 1 := by decide +kernel
theorem d8_125 : dc prog_1_method_26_code 125 (.getfield 95) 3 := by decide +kernel
theorem d8_128 : dc prog_1_method_26_code 128 (.aload_n 0) 1 := by decide +kernel
theorem d8_129 : dc prog_1_method_26_code 129 (.getfield 44) 3 := by decide +kernel
theorem d8_132 : dc prog_1_method_26_code 132 (.irem) 1 := by decide +kernel
theorem d8_133 : dc prog_1_method_26_code 133 (.isub) 1 := by decide +kernel
theorem d8_134 : dc prog_1_method_26_code 134 (.invokevirtual 101) 3 := by decide +kernel
theorem d8_137 : dc prog_1_method_26_code 137 (.iinc 1 1) 3 := by decide +kernel
theorem d8_140 : dc prog_1_method_26_code 140 (.goto 15) 3 := by decide +kernel
theorem d8_143 : dc prog_1_method_26_code 143 (.aload_n 0) 1 := by decide +kernel
theorem d8_144 : dc prog_1_method_26_code 144 (.iload_n 1) 1 := by decide +kernel
theorem d8_145 : dc prog_1_method_26_code 145 (.iload_n 1) 1 := by decide +kernel
theorem d8_146 : dc prog_1_method_26_code 146 (.iconst 1) 1 := by decide +kernel
theorem d8_147 : dc prog_1_method_26_code 147 (.iadd) 1 := by decide +kernel
theorem d8_148 : dc prog_1_method_26_code 148 (.iconst 1) 1 := by decide +kernel
theorem d8_149 : dc prog_1_method_26_code 149 (.invokevirtual 101) 3 := by decide +kernel
theorem d8_152 : dc prog_1_method_26_code 152 (.iinc 1 1) 3 := by decide +kernel
theorem d8_155 : dc prog_1_method_26_code 155 (.iinc 2 1) 3 := by decide +kernel
theorem d8_158 : dc prog_1_method_26_code 158 (.goto (-134)) 3 := by decide +kernel
theorem d8_161 : dc prog_1_method_26_code 161 (.aload_n 0) 1 := by decide +kernel
theorem d8_162 : dc prog_1_method_26_code 162 (.invokevirtual 105) 3 := by decide +kernel
theorem d8_165 : dc prog_1_method_26_code 165 (.return_) 1 := by decide +kernel
abbrev y8 : MethodName := ⟨"DisplayMap", "layout", "()V"⟩
theorem hy8 : y8.cls ≠ "java/lang/invoke/MethodHandle" ∧ y8.cls ≠ "java/lang/invoke/VarHandle" := by decide
theorem pd8 : parseMethodDescriptor y8.desc = some ⟨[], none⟩ := by decide +kernel
abbrev R8 : Room := { frames := 2, cells := 0, slots := 0, locals := 28 }
abbrev P8 (r : St) : Option Value → List OwnC → Prop := fun v H' => v = none ∧ H' = (Hb 0 r)
abbrev W8 (l : Launch) (Z : State) (n0 : Nat) (Q : Option Value → List OwnC → Prop) (k n pc : Nat) (L : List Slot) (S : List Value) (H : List OwnC) : Prop := WP l Z CN lay "DisplayMap" "layout" prog_1_method_26_code 5 (none) R8 n0 0 Q k n pc L S H
def f_layout_155 (k24 : Int32 → Int32 → St → Option (St)) (n : Nat) (v1 : Int32) (v2 : Int32) (s : St) : Option (St) :=
  lt (v2 + (1 : Int32)) fun x1 =>
  k24 v1 x1 s
set_option maxRecDepth 65536 in
set_option maxHeartbeats 4000000 in
theorem ok8_155 (l : Launch) (Z : State) (a0 : Array Value) (hw : HW a0 Z) (n0 : Nat) (k24 : Int32 → Int32 → St → Option (St)) (hk24 : ∀ (v1 : Int32) (v2 : Int32) (s : St) (r : St), k24 v1 v2 s = some r → W8 l Z n0 (P8 r) 0 0 24 [.val (.ref 0), .val (.int v1), .val (.int v2), .unset, .unset] [] (Hb 0 s)) (n : Nat) (v1 : Int32) (v2 : Int32) (s : St) (r : St) (h : f_layout_155 k24 n v1 v2 s = some r) : W8 l Z n0 (P8 r) 0 0 155 [.val (.ref 0), .val (.int v1), .val (.int v2), .unset, .unset] [] (Hb 0 s) := by
  unfold f_layout_155 at h
  obtain ⟨x1, ex1, h⟩ := lt_e h
  refine WP.iinc (L' := [.val (.ref 0), .val (.int v1), .val (.int x1), .unset, .unset]) (1 : Int32) d8_155 rfl rfl (by subst ex1; rfl) ?_
  refine WP.goto (pc' := 24) d8_158 (by decide) rfl ?_
  exact WP.weak (L' := [.val (.ref 0), .val (.int v1), .val (.int x1), .unset, .unset]) ⟨rfl, rfl, rfl, trivial⟩ (hk24 v1 x1 s _ h)
def f_layout_161 (n : Nat) (s : St) : Option (St) :=
  (f_closeRow s).bind fun c1 =>
  some c1
set_option maxRecDepth 65536 in
set_option maxHeartbeats 4000000 in
theorem ok8_161 (l : Launch) (Z : State) (a0 : Array Value) (hw : HW a0 Z) (n0 : Nat) (n : Nat) (s : St) (r : St) (h : f_layout_161 n s = some r) : W8 l Z n0 (P8 r) 0 0 161 [.val (.ref 0), .unset, .unset, .unset, .unset] [] (Hb 0 s) := by
  unfold f_layout_161 at h
  refine WP.aloadN d8_161 rfl ?_
  obtain ⟨c1, hc1, h⟩ := Option.bind_eq_some_iff.mp h
  refine WP.callP (i := 0) (y := y10) (as := []) (S := []) d8_162 (hw _ m_88) (hw _ m_90) (hw _ m_1) (hw _ m_89) (hw _ m_91) (hw _ m_2) hy10 rfl (ok10 l Z a0 hw s _ hc1) rfl (lenOf pd10 rfl) (leb rfl) (leb rfl) (leb rfl) (leb rfl) ?_
  rintro _ _ ⟨rfl, rfl⟩
  show W8 l Z n0 (P8 r) 0 0 165 [.val (.ref 0), .unset, .unset, .unset, .unset] [] (Hb 0 c1)
  cases h
  exact WP.vreturn d8_165 rfl (leb rfl) (leb rfl) ⟨rfl, rfl⟩
def g_layout_24 (k24 : Int32 → Int32 → St → Option (St)) (n : Nat) (v1 : Int32) (v2 : Int32) (s : St) : Option (St) :=
  if (256 : Int32) < v2 then
    f_layout_161 n s
  else
    if v1 < (gI s 0) then
      (f_foldStartingAt n v1 s).bind fun c3 =>
      if c3 < 0 then
        (rd (gA s 0) v1).bind fun x5 =>
        if x5 = (10 : Int32) then
          (f_closeRow s).bind fun c7 =>
          (f_openRow (v1 + (1 : Int32)) c7).bind fun c8 =>
          lt (sI c8 11 (0 : Int32)) fun s9 =>
          lt (v1 + (1 : Int32)) fun x10 =>
          f_layout_155 k24 n x10 v2 s9
        else
          (rd (gA s 0) v1).bind fun x11 =>
          if x11 = (9 : Int32) then
            if gI s 2 = 0 then none else
            (f_addElement v1 (v1 + (1 : Int32)) ((gI s 2) - ((gI s 11) % (gI s 2))) s).bind fun c14 =>
            lt (v1 + (1 : Int32)) fun x15 =>
            f_layout_155 k24 n x15 v2 c14
          else
            (f_addElement v1 (v1 + (1 : Int32)) (1 : Int32) s).bind fun c16 =>
            lt (v1 + (1 : Int32)) fun x17 =>
            f_layout_155 k24 n x17 v2 c16
      else
        (rd (gA s 2) c3).bind fun x18 =>
        (f_addElement v1 x18 (3 : Int32) s).bind fun c19 =>
        f_layout_155 k24 n x18 v2 c19
    else
      f_layout_161 n s
set_option maxRecDepth 65536 in
set_option maxHeartbeats 4000000 in
theorem okg8_24 (l : Launch) (Z : State) (a0 : Array Value) (hw : HW a0 Z) (n0 : Nat) (k24 : Int32 → Int32 → St → Option (St)) (hk24 : ∀ (v1 : Int32) (v2 : Int32) (s : St) (r : St), k24 v1 v2 s = some r → W8 l Z n0 (P8 r) 0 0 24 [.val (.ref 0), .val (.int v1), .val (.int v2), .unset, .unset] [] (Hb 0 s)) (n : Nat) (v1 : Int32) (v2 : Int32) (s : St) (r : St) (h : g_layout_24 k24 n v1 v2 s = some r) : W8 l Z n0 (P8 r) 0 0 24 [.val (.ref 0), .val (.int v1), .val (.int v2), .unset, .unset] [] (Hb 0 s) := by
  unfold g_layout_24 at h
  refine WP.iloadN d8_24 rfl ?_
  refine WP.sipush (256 : Int32) d8_25 rfl ?_
  rcases ite_e h with ⟨hc1, h⟩ | ⟨hc1, h⟩
  ·
    refine WP.icmpY (pc' := 161) d8_28 (XT.ii_gt_t hc1) (by decide) rfl ?_
    exact WP.weak (L' := [.val (.ref 0), .unset, .unset, .unset, .unset]) ⟨rfl, trivial⟩ (ok8_161 l Z a0 hw n0 n s _ h)
  ·
    refine WP.icmpN d8_28 (XT.ii_gt_f hc1) ?_
    refine WP.iloadN d8_31 rfl ?_
    refine WP.aloadN d8_32 rfl ?_
    refine WP.getfield (i := 0) (j := 1) d8_33 (hw _ m_48) rfl rfl rfl ?_
    rcases ite_e h with ⟨hc2, h⟩ | ⟨hc2, h⟩
    ·
      refine WP.icmpN d8_36 (XT.ii_ge_f hc2) ?_
      refine WP.aloadN d8_39 rfl ?_
      refine WP.iloadN d8_40 rfl ?_
      obtain ⟨c3, hc3, h⟩ := Option.bind_eq_some_iff.mp h
      refine WP.callP (i := 0) (y := y21) (as := [.int v1]) (S := []) d8_41 (hw _ m_136) (hw _ m_138) (hw _ m_1) (hw _ m_137) (hw _ m_139) (hw _ m_2) hy21 rfl (ok21 l Z a0 hw n v1 s _ hc3) rfl (lenOf pd21 rfl) (leb rfl) (leb rfl) (leb rfl) (leb rfl) ?_
      rintro _ _ ⟨rfl, rfl⟩
      show W8 l Z n0 (P8 r) 0 0 44 [.val (.ref 0), .val (.int v1), .val (.int v2), .unset, .unset] [.int c3] (Hb 0 s)
      refine WP.istoreN (L' := [.val (.ref 0), .val (.int v1), .val (.int v2), .val (.int c3), .unset]) d8_44 (leb rfl) rfl ?_
      refine WP.iloadN d8_45 rfl ?_
      rcases ite_e h with ⟨hc4, h⟩ | ⟨hc4, h⟩
      ·
        refine WP.ifY (pc' := 71) d8_46 (XT.i0_lt_t hc4) (by decide) rfl ?_
        refine WP.aloadN d8_71 rfl ?_
        refine WP.getfield (i := 0) (j := 0) d8_72 (hw _ m_18) rfl rfl rfl ?_
        refine WP.iloadN d8_75 rfl ?_
        obtain ⟨x5, hx5, h⟩ := Option.bind_eq_some_iff.mp h
        refine WP.iaload (i := 1) d8_76 rfl hx5 ?_
        refine WP.bipush (10 : Int32) d8_77 rfl ?_
        rcases ite_e h with ⟨hc6, h⟩ | ⟨hc6, h⟩
        ·
          refine WP.icmpN d8_79 (XT.ii_ne_f hc6) ?_
          refine WP.aloadN d8_82 rfl ?_
          obtain ⟨c7, hc7, h⟩ := Option.bind_eq_some_iff.mp h
          refine WP.callP (i := 0) (y := y10) (as := []) (S := []) d8_83 (hw _ m_88) (hw _ m_90) (hw _ m_1) (hw _ m_89) (hw _ m_91) (hw _ m_2) hy10 rfl (ok10 l Z a0 hw s _ hc7) rfl (lenOf pd10 rfl) (leb rfl) (leb rfl) (leb rfl) (leb rfl) ?_
          rintro _ _ ⟨rfl, rfl⟩
          show W8 l Z n0 (P8 r) 0 0 86 [.val (.ref 0), .val (.int v1), .val (.int v2), .val (.int c3), .unset] [] (Hb 0 c7)
          refine WP.aloadN d8_86 rfl ?_
          refine WP.iloadN d8_87 rfl ?_
          refine WP.iconst (1 : Int32) d8_88 rfl ?_
          refine WP.iadd d8_89 ?_
          obtain ⟨c8, hc8, h⟩ := Option.bind_eq_some_iff.mp h
          refine WP.callP (i := 0) (y := y9) (as := [.int (v1 + (1 : Int32))]) (S := []) d8_90 (hw _ m_74) (hw _ m_76) (hw _ m_1) (hw _ m_75) (hw _ m_77) (hw _ m_2) hy9 rfl (ok9 l Z a0 hw (v1 + (1 : Int32)) c7 _ hc8) rfl (lenOf pd9 rfl) (leb rfl) (leb rfl) (leb rfl) (leb rfl) ?_
          rintro _ _ ⟨rfl, rfl⟩
          show W8 l Z n0 (P8 r) 0 0 93 [.val (.ref 0), .val (.int v1), .val (.int v2), .val (.int c3), .unset] [] (Hb 0 c8)
          refine WP.aloadN d8_93 rfl ?_
          refine WP.iconst (0 : Int32) d8_94 rfl ?_
          obtain ⟨s9, es9, h⟩ := lt_e h
          refine WP.putI (i := 0) (j := 21) (H' := (Hb 0 s9)) d8_95 (hw _ m_86) (Or.inl (hw _ m_87)) (hw _ m_1) (hlay hw) rfl rfl rfl (leb rfl) (by subst es9; rfl) ?_
          obtain ⟨x10, ex10, h⟩ := lt_e h
          refine WP.iinc (L' := [.val (.ref 0), .val (.int x10), .val (.int v2), .val (.int c3), .unset]) (1 : Int32) d8_98 rfl rfl (by subst ex10; rfl) ?_
          refine WP.goto (pc' := 155) d8_101 (by decide) rfl ?_
          exact WP.weak (L' := [.val (.ref 0), .val (.int x10), .val (.int v2), .unset, .unset]) ⟨rfl, rfl, rfl, trivial⟩ (ok8_155 l Z a0 hw n0 _ hk24 n x10 v2 s9 _ h)
        ·
          refine WP.icmpY (pc' := 104) d8_79 (XT.ii_ne_t hc6) (by decide) rfl ?_
          refine WP.aloadN d8_104 rfl ?_
          refine WP.getfield (i := 0) (j := 0) d8_105 (hw _ m_18) rfl rfl rfl ?_
          refine WP.iloadN d8_108 rfl ?_
          obtain ⟨x11, hx11, h⟩ := Option.bind_eq_some_iff.mp h
          refine WP.iaload (i := 1) d8_109 rfl hx11 ?_
          refine WP.bipush (9 : Int32) d8_110 rfl ?_
          rcases ite_e h with ⟨hc12, h⟩ | ⟨hc12, h⟩
          ·
            refine WP.icmpN d8_112 (XT.ii_ne_f hc12) ?_
            refine WP.aloadN d8_115 rfl ?_
            refine WP.iloadN d8_116 rfl ?_
            refine WP.iloadN d8_117 rfl ?_
            refine WP.iconst (1 : Int32) d8_118 rfl ?_
            refine WP.iadd d8_119 ?_
            refine WP.aloadN d8_120 rfl ?_
            refine WP.getfield (i := 0) (j := 5) d8_121 (hw _ m_41) rfl rfl rfl ?_
            refine WP.aloadN d8_124 rfl ?_
            refine WP.getfield (i := 0) (j := 21) d8_125 (hw _ m_86) rfl rfl rfl ?_
            refine WP.aloadN d8_128 rfl ?_
            refine WP.getfield (i := 0) (j := 5) d8_129 (hw _ m_41) rfl rfl rfl ?_
            obtain ⟨hz13, h⟩ := nz_e h
            refine WP.irem d8_132 hz13 ?_
            refine WP.isub d8_133 ?_
            obtain ⟨c14, hc14, h⟩ := Option.bind_eq_some_iff.mp h
            refine WP.callP (i := 0) (y := y22) (as := [.int v1, .int (v1 + (1 : Int32)), .int ((gI s 2) - ((gI s 11) % (gI s 2)))]) (S := []) d8_134 (hw _ m_140) (hw _ m_142) (hw _ m_1) (hw _ m_141) (hw _ m_143) (hw _ m_2) hy22 rfl (ok22 l Z a0 hw v1 (v1 + (1 : Int32)) ((gI s 2) - ((gI s 11) % (gI s 2))) s _ hc14) rfl (lenOf pd22 rfl) (leb rfl) (leb rfl) (leb rfl) (leb rfl) ?_
            rintro _ _ ⟨rfl, rfl⟩
            show W8 l Z n0 (P8 r) 0 0 137 [.val (.ref 0), .val (.int v1), .val (.int v2), .val (.int c3), .unset] [] (Hb 0 c14)
            obtain ⟨x15, ex15, h⟩ := lt_e h
            refine WP.iinc (L' := [.val (.ref 0), .val (.int x15), .val (.int v2), .val (.int c3), .unset]) (1 : Int32) d8_137 rfl rfl (by subst ex15; rfl) ?_
            refine WP.goto (pc' := 155) d8_140 (by decide) rfl ?_
            exact WP.weak (L' := [.val (.ref 0), .val (.int x15), .val (.int v2), .unset, .unset]) ⟨rfl, rfl, rfl, trivial⟩ (ok8_155 l Z a0 hw n0 _ hk24 n x15 v2 c14 _ h)
          ·
            refine WP.icmpY (pc' := 143) d8_112 (XT.ii_ne_t hc12) (by decide) rfl ?_
            refine WP.aloadN d8_143 rfl ?_
            refine WP.iloadN d8_144 rfl ?_
            refine WP.iloadN d8_145 rfl ?_
            refine WP.iconst (1 : Int32) d8_146 rfl ?_
            refine WP.iadd d8_147 ?_
            refine WP.iconst (1 : Int32) d8_148 rfl ?_
            obtain ⟨c16, hc16, h⟩ := Option.bind_eq_some_iff.mp h
            refine WP.callP (i := 0) (y := y22) (as := [.int v1, .int (v1 + (1 : Int32)), .int (1 : Int32)]) (S := []) d8_149 (hw _ m_140) (hw _ m_142) (hw _ m_1) (hw _ m_141) (hw _ m_143) (hw _ m_2) hy22 rfl (ok22 l Z a0 hw v1 (v1 + (1 : Int32)) (1 : Int32) s _ hc16) rfl (lenOf pd22 rfl) (leb rfl) (leb rfl) (leb rfl) (leb rfl) ?_
            rintro _ _ ⟨rfl, rfl⟩
            show W8 l Z n0 (P8 r) 0 0 152 [.val (.ref 0), .val (.int v1), .val (.int v2), .val (.int c3), .unset] [] (Hb 0 c16)
            obtain ⟨x17, ex17, h⟩ := lt_e h
            refine WP.iinc (L' := [.val (.ref 0), .val (.int x17), .val (.int v2), .val (.int c3), .unset]) (1 : Int32) d8_152 rfl rfl (by subst ex17; rfl) ?_
            exact WP.weak (L' := [.val (.ref 0), .val (.int x17), .val (.int v2), .unset, .unset]) ⟨rfl, rfl, rfl, trivial⟩ (ok8_155 l Z a0 hw n0 _ hk24 n x17 v2 c16 _ h)
      ·
        refine WP.ifN d8_46 (XT.i0_lt_f hc4) ?_
        refine WP.aloadN d8_49 rfl ?_
        refine WP.getfield (i := 0) (j := 3) d8_50 (hw _ m_22) rfl rfl rfl ?_
        refine WP.iloadN d8_53 rfl ?_
        obtain ⟨x18, hx18, h⟩ := Option.bind_eq_some_iff.mp h
        refine WP.iaload (i := 3) d8_54 rfl hx18 ?_
        refine WP.istore (L' := [.val (.ref 0), .val (.int v1), .val (.int v2), .val (.int c3), .val (.int x18)]) d8_55 (leb rfl) rfl ?_
        refine WP.aloadN d8_57 rfl ?_
        refine WP.iloadN d8_58 rfl ?_
        refine WP.iload d8_59 rfl ?_
        refine WP.iconst (3 : Int32) d8_61 rfl ?_
        obtain ⟨c19, hc19, h⟩ := Option.bind_eq_some_iff.mp h
        refine WP.callP (i := 0) (y := y22) (as := [.int v1, .int x18, .int (3 : Int32)]) (S := []) d8_62 (hw _ m_140) (hw _ m_142) (hw _ m_1) (hw _ m_141) (hw _ m_143) (hw _ m_2) hy22 rfl (ok22 l Z a0 hw v1 x18 (3 : Int32) s _ hc19) rfl (lenOf pd22 rfl) (leb rfl) (leb rfl) (leb rfl) (leb rfl) ?_
        rintro _ _ ⟨rfl, rfl⟩
        show W8 l Z n0 (P8 r) 0 0 65 [.val (.ref 0), .val (.int v1), .val (.int v2), .val (.int c3), .val (.int x18)] [] (Hb 0 c19)
        refine WP.iload d8_65 rfl ?_
        refine WP.istoreN (L' := [.val (.ref 0), .val (.int x18), .val (.int v2), .val (.int c3), .val (.int x18)]) d8_67 (leb rfl) rfl ?_
        refine WP.goto (pc' := 155) d8_68 (by decide) rfl ?_
        exact WP.weak (L' := [.val (.ref 0), .val (.int x18), .val (.int v2), .unset, .unset]) ⟨rfl, rfl, rfl, trivial⟩ (ok8_155 l Z a0 hw n0 _ hk24 n x18 v2 c19 _ h)
    ·
      refine WP.icmpY (pc' := 161) d8_36 (XT.ii_ge_t hc2) (by decide) rfl ?_
      exact WP.weak (L' := [.val (.ref 0), .unset, .unset, .unset, .unset]) ⟨rfl, trivial⟩ (ok8_161 l Z a0 hw n0 n s _ h)
def f_layout_24 : Nat → Int32 → Int32 → St → Option (St)
  | 0 => fun _ _ _ => none
  | n + 1 => g_layout_24 (f_layout_24 n) n
theorem ok8_24 (l : Launch) (Z : State) (a0 : Array Value) (hw : HW a0 Z) (n0 : Nat) : ∀ (n : Nat) (v1 : Int32) (v2 : Int32) (s : St) (r : St), f_layout_24 n v1 v2 s = some r → W8 l Z n0 (P8 r) 0 0 24 [.val (.ref 0), .val (.int v1), .val (.int v2), .unset, .unset] [] (Hb 0 s)
  | 0, v1, v2, s, r, h => nomatch (show none = some r from h)
  | n + 1, v1, v2, s, r, h => okg8_24 l Z a0 hw n0 _ (ok8_24 l Z a0 hw n0 n) n v1 v2 s r h
def f_layout (n : Nat) (s : St) : Option (St) :=
  lt (sI s 5 (0 : Int32)) fun s1 =>
  lt (sI s1 6 (0 : Int32)) fun s2 =>
  (f_openRow (0 : Int32) s2).bind fun c3 =>
  lt (sI c3 11 (0 : Int32)) fun s4 =>
  f_layout_24 n (0 : Int32) (0 : Int32) s4
set_option maxRecDepth 65536 in
set_option maxHeartbeats 4000000 in
theorem ok8 (l : Launch) (Z : State) (a0 : Array Value) (hw : HW a0 Z) (n : Nat) (s : St) (r : St) (h : f_layout n s = some r) : CS l Z CN lay y8 prog_1_method_26_code 5 (none) R8 0 [.ref 0] (Hb 0 s) (P8 r) := by
  refine CS.of_wp pn_cls (leb rfl) fun n0 => ?_
  show W8 l Z n0 (P8 r) 0 0 0 [.val (.ref 0), .unset, .unset, .unset, .unset] [] (Hb 0 s)
  unfold f_layout at h
  refine WP.aloadN d8_0 rfl ?_
  refine WP.iconst (0 : Int32) d8_1 rfl ?_
  obtain ⟨s1, es1, h⟩ := lt_e h
  refine WP.putI (i := 0) (j := 11) (H' := (Hb 0 s1)) d8_2 (hw _ m_70) (Or.inl (hw _ m_71)) (hw _ m_1) (hlay hw) rfl rfl rfl (leb rfl) (by subst es1; rfl) ?_
  refine WP.aloadN d8_5 rfl ?_
  refine WP.iconst (0 : Int32) d8_6 rfl ?_
  obtain ⟨s2, es2, h⟩ := lt_e h
  refine WP.putI (i := 0) (j := 16) (H' := (Hb 0 s2)) d8_7 (hw _ m_72) (Or.inl (hw _ m_73)) (hw _ m_1) (hlay hw) rfl rfl rfl (leb rfl) (by subst es2; rfl) ?_
  refine WP.aloadN d8_10 rfl ?_
  refine WP.iconst (0 : Int32) d8_11 rfl ?_
  obtain ⟨c3, hc3, h⟩ := Option.bind_eq_some_iff.mp h
  refine WP.callP (i := 0) (y := y9) (as := [.int (0 : Int32)]) (S := []) d8_12 (hw _ m_74) (hw _ m_76) (hw _ m_1) (hw _ m_75) (hw _ m_77) (hw _ m_2) hy9 rfl (ok9 l Z a0 hw (0 : Int32) s2 _ hc3) rfl (lenOf pd9 rfl) (leb rfl) (leb rfl) (leb rfl) (leb rfl) ?_
  rintro _ _ ⟨rfl, rfl⟩
  show W8 l Z n0 (P8 r) 0 0 15 [.val (.ref 0), .unset, .unset, .unset, .unset] [] (Hb 0 c3)
  refine WP.aloadN d8_15 rfl ?_
  refine WP.iconst (0 : Int32) d8_16 rfl ?_
  obtain ⟨s4, es4, h⟩ := lt_e h
  refine WP.putI (i := 0) (j := 21) (H' := (Hb 0 s4)) d8_17 (hw _ m_86) (Or.inl (hw _ m_87)) (hw _ m_1) (hlay hw) rfl rfl rfl (leb rfl) (by subst es4; rfl) ?_
  refine WP.iconst (0 : Int32) d8_20 rfl ?_
  refine WP.istoreN (L' := [.val (.ref 0), .val (.int (0 : Int32)), .unset, .unset, .unset]) d8_21 (leb rfl) rfl ?_
  refine WP.iconst (0 : Int32) d8_22 rfl ?_
  refine WP.istoreN (L' := [.val (.ref 0), .val (.int (0 : Int32)), .val (.int (0 : Int32)), .unset, .unset]) d8_23 (leb rfl) rfl ?_
  exact WP.weak (L' := [.val (.ref 0), .val (.int (0 : Int32)), .val (.int (0 : Int32)), .unset, .unset]) ⟨rfl, rfl, rfl, trivial⟩ (ok8_24 l Z a0 hw n0 n (0 : Int32) (0 : Int32) s4 _ h)
theorem d7_0 : dc prog_1_method_25_code 0 (.aload_n 0) 1 := by decide +kernel
theorem d7_1 : dc prog_1_method_25_code 1 (.getfield 60) 3 := by decide +kernel
theorem d7_4 : dc prog_1_method_25_code 4 (.ifCond .eq 12) 3 := by decide +kernel
theorem d7_7 : dc prog_1_method_25_code 7 (.aload_n 0) 1 := by decide +kernel
theorem d7_8 : dc prog_1_method_25_code 8 (.invokevirtual 85) 3 := by decide +kernel
theorem d7_11 : dc prog_1_method_25_code 11 (.aload_n 0) 1 := by decide +kernel
theorem d7_12 : dc prog_1_method_25_code 12 (.iconst 0) 1 := by decide +kernel
theorem d7_13 : dc prog_1_method_25_code 13 (.putfield 60) 3 := by decide +kernel
theorem d7_16 : dc prog_1_method_25_code 16 (.return_) 1 := by decide +kernel
abbrev y7 : MethodName := ⟨"DisplayMap", "ensureLayout", "()V"⟩
theorem hy7 : y7.cls ≠ "java/lang/invoke/MethodHandle" ∧ y7.cls ≠ "java/lang/invoke/VarHandle" := by decide
theorem pd7 : parseMethodDescriptor y7.desc = some ⟨[], none⟩ := by decide +kernel
abbrev R7 : Room := { frames := 3, cells := 0, slots := 0, locals := 44 }
abbrev P7 (r : St) : Option Value → List OwnC → Prop := fun v H' => v = none ∧ H' = (Hb 0 r)
abbrev W7 (l : Launch) (Z : State) (n0 : Nat) (Q : Option Value → List OwnC → Prop) (k n pc : Nat) (L : List Slot) (S : List Value) (H : List OwnC) : Prop := WP l Z CN lay "DisplayMap" "ensureLayout" prog_1_method_25_code 1 (none) R7 n0 0 Q k n pc L S H
def f_ensureLayout_16 (n : Nat) (s : St) : Option (St) :=
  some s
set_option maxRecDepth 65536 in
set_option maxHeartbeats 4000000 in
theorem ok7_16 (l : Launch) (Z : State) (a0 : Array Value) (hw : HW a0 Z) (n0 : Nat) (n : Nat) (s : St) (r : St) (h : f_ensureLayout_16 n s = some r) : W7 l Z n0 (P7 r) 0 0 16 [.unset] [] (Hb 0 s) := by
  unfold f_ensureLayout_16 at h
  cases h
  exact WP.vreturn d7_16 rfl (leb rfl) (leb rfl) ⟨rfl, rfl⟩
def f_ensureLayout (n : Nat) (s : St) : Option (St) :=
  if (gI s 4) = 0 then
    f_ensureLayout_16 n s
  else
    (f_layout n s).bind fun c2 =>
    lt (sI c2 4 (0 : Int32)) fun s3 =>
    f_ensureLayout_16 n s3
set_option maxRecDepth 65536 in
set_option maxHeartbeats 4000000 in
theorem ok7 (l : Launch) (Z : State) (a0 : Array Value) (hw : HW a0 Z) (n : Nat) (s : St) (r : St) (h : f_ensureLayout n s = some r) : CS l Z CN lay y7 prog_1_method_25_code 1 (none) R7 0 [.ref 0] (Hb 0 s) (P7 r) := by
  refine CS.of_wp pn_cls (leb rfl) fun n0 => ?_
  show W7 l Z n0 (P7 r) 0 0 0 [.val (.ref 0)] [] (Hb 0 s)
  unfold f_ensureLayout at h
  refine WP.aloadN d7_0 rfl ?_
  refine WP.getfield (i := 0) (j := 7) d7_1 (hw _ m_52) rfl rfl rfl ?_
  rcases ite_e h with ⟨hc1, h⟩ | ⟨hc1, h⟩
  ·
    refine WP.ifY (pc' := 16) d7_4 (XT.i0_eq_t hc1) (by decide) rfl ?_
    exact WP.weak (L' := [.unset]) trivial (ok7_16 l Z a0 hw n0 n s _ h)
  ·
    refine WP.ifN d7_4 (XT.i0_eq_f hc1) ?_
    refine WP.aloadN d7_7 rfl ?_
    obtain ⟨c2, hc2, h⟩ := Option.bind_eq_some_iff.mp h
    refine WP.callP (i := 0) (y := y8) (as := []) (S := []) d7_8 (hw _ m_66) (hw _ m_68) (hw _ m_1) (hw _ m_67) (hw _ m_69) (hw _ m_2) hy8 rfl (ok8 l Z a0 hw n s _ hc2) rfl (lenOf pd8 rfl) (leb rfl) (leb rfl) (leb rfl) (leb rfl) ?_
    rintro _ _ ⟨rfl, rfl⟩
    show W7 l Z n0 (P7 r) 0 0 11 [.val (.ref 0)] [] (Hb 0 c2)
    refine WP.aloadN d7_11 rfl ?_
    refine WP.iconst (0 : Int32) d7_12 rfl ?_
    obtain ⟨s3, es3, h⟩ := lt_e h
    refine WP.putZ (i := 0) (j := 7) (H' := (Hb 0 s3)) d7_13 (hw _ m_52) (Or.inl (hw _ m_53)) (hw _ m_1) (hlay hw) rfl rfl rfl (leb rfl) (by subst es3; rfl) ?_
    exact WP.weak (L' := [.unset]) trivial (ok7_16 l Z a0 hw n0 n s3 _ h)
theorem d6_0 : dc prog_1_method_13_code 0 (.aload_n 0) 1 := by decide +kernel
theorem d6_1 : dc prog_1_method_13_code 1 (.invokevirtual 72) 3 := by decide +kernel
theorem d6_4 : dc prog_1_method_13_code 4 (.aload_n 0) 1 := by decide +kernel
theorem d6_5 : dc prog_1_method_13_code 5 (.getfield 75) 3 := by decide +kernel
theorem d6_8 : dc prog_1_method_13_code 8 (.ireturn) 1 := by decide +kernel
abbrev y6 : MethodName := ⟨"DisplayMap", "rowCount", "()I"⟩
theorem hy6 : y6.cls ≠ "java/lang/invoke/MethodHandle" ∧ y6.cls ≠ "java/lang/invoke/VarHandle" := by decide
theorem pd6 : parseMethodDescriptor y6.desc = some ⟨[], some .int⟩ := by decide +kernel
abbrev R6 : Room := { frames := 4, cells := 0, slots := 0, locals := 56 }
abbrev P6 (r : Int32 × St) : Option Value → List OwnC → Prop := fun v H' => v = some (.int r.1) ∧ H' = (Hb 0 r.2)
abbrev W6 (l : Launch) (Z : State) (n0 : Nat) (Q : Option Value → List OwnC → Prop) (k n pc : Nat) (L : List Slot) (S : List Value) (H : List OwnC) : Prop := WP l Z CN lay "DisplayMap" "rowCount" prog_1_method_13_code 1 (some FieldType.int) R6 n0 0 Q k n pc L S H
def f_rowCount (n : Nat) (s : St) : Option (Int32 × St) :=
  (f_ensureLayout n s).bind fun c1 =>
  some (gI c1 6, c1)
set_option maxRecDepth 65536 in
set_option maxHeartbeats 4000000 in
theorem ok6 (l : Launch) (Z : State) (a0 : Array Value) (hw : HW a0 Z) (n : Nat) (s : St) (r : Int32 × St) (h : f_rowCount n s = some r) : CS l Z CN lay y6 prog_1_method_13_code 1 (some FieldType.int) R6 0 [.ref 0] (Hb 0 s) (P6 r) := by
  refine CS.of_wp pn_cls (leb rfl) fun n0 => ?_
  show W6 l Z n0 (P6 r) 0 0 0 [.val (.ref 0)] [] (Hb 0 s)
  unfold f_rowCount at h
  refine WP.aloadN d6_0 rfl ?_
  obtain ⟨c1, hc1, h⟩ := Option.bind_eq_some_iff.mp h
  refine WP.callP (i := 0) (y := y7) (as := []) (S := []) d6_1 (hw _ m_62) (hw _ m_64) (hw _ m_1) (hw _ m_63) (hw _ m_65) (hw _ m_2) hy7 rfl (ok7 l Z a0 hw n s _ hc1) rfl (lenOf pd7 rfl) (leb rfl) (leb rfl) (leb rfl) (leb rfl) ?_
  rintro _ _ ⟨rfl, rfl⟩
  show W6 l Z n0 (P6 r) 0 0 4 [.val (.ref 0)] [] (Hb 0 c1)
  refine WP.aloadN d6_4 rfl ?_
  refine WP.getfield (i := 0) (j := 16) d6_5 (hw _ m_72) rfl rfl rfl ?_
  cases h
  exact WP.ireturn d6_8 rfl (leb rfl) (leb rfl) ⟨rfl, rfl⟩
theorem d11_0 : dc prog_1_method_14_code 0 (.aload_n 0) 1 := by decide +kernel
theorem d11_1 : dc prog_1_method_14_code 1 (.invokevirtual 72) 3 := by decide +kernel
theorem d11_4 : dc prog_1_method_14_code 4 (.iload_n 1) 1 := by decide +kernel
theorem d11_5 : dc prog_1_method_14_code 5 (.ifCond .lt 11) 3 := by decide +kernel
theorem d11_8 : dc prog_1_method_14_code 8 (.iload_n 1) 1 := by decide +kernel
theorem d11_9 : dc prog_1_method_14_code 9 (.aload_n 0) 1 := by decide +kernel
theorem d11_10 : dc prog_1_method_14_code 10 (.getfield 75) 3 := by decide +kernel
theorem d11_13 : dc prog_1_method_14_code 13 (.if_icmp .lt 5) 3 := by decide +kernel
theorem d11_16 : dc prog_1_method_14_code 16 (.iconst (-1)) 1 := by decide +kernel
theorem d11_17 : dc prog_1_method_14_code 17 (.ireturn) 1 := by decide +kernel
theorem d11_18 : dc prog_1_method_14_code 18 (.aload_n 0) 1 := by decide +kernel
theorem d11_19 : dc prog_1_method_14_code 19 (.getfield 28) 3 := by decide +kernel
theorem d11_22 : dc prog_1_method_14_code 22 (.iload_n 1) 1 := by decide +kernel
theorem d11_23 : dc prog_1_method_14_code 23 (.iaload) 1 := by decide +kernel
theorem d11_24 : dc prog_1_method_14_code 24 (.ireturn) 1 := by decide +kernel
abbrev y11 : MethodName := ⟨"DisplayMap", "rowStart", "(I)I"⟩
theorem hy11 : y11.cls ≠ "java/lang/invoke/MethodHandle" ∧ y11.cls ≠ "java/lang/invoke/VarHandle" := by decide
theorem pd11 : parseMethodDescriptor y11.desc = some ⟨[.int], some .int⟩ := by decide +kernel
abbrev R11 : Room := { frames := 4, cells := 0, slots := 0, locals := 56 }
abbrev P11 (r : Int32 × St) : Option Value → List OwnC → Prop := fun v H' => v = some (.int r.1) ∧ H' = (Hb 0 r.2)
abbrev W11 (l : Launch) (Z : State) (n0 : Nat) (Q : Option Value → List OwnC → Prop) (k n pc : Nat) (L : List Slot) (S : List Value) (H : List OwnC) : Prop := WP l Z CN lay "DisplayMap" "rowStart" prog_1_method_14_code 2 (some FieldType.int) R11 n0 0 Q k n pc L S H
def f_rowStart_16 (n : Nat) (s : St) : Option (Int32 × St) :=
  some ((-1 : Int32), s)
set_option maxRecDepth 65536 in
set_option maxHeartbeats 4000000 in
theorem ok11_16 (l : Launch) (Z : State) (a0 : Array Value) (hw : HW a0 Z) (n0 : Nat) (n : Nat) (s : St) (r : Int32 × St) (h : f_rowStart_16 n s = some r) : W11 l Z n0 (P11 r) 0 0 16 [.unset, .unset] [] (Hb 0 s) := by
  unfold f_rowStart_16 at h
  refine WP.iconst (-1 : Int32) d11_16 rfl ?_
  cases h
  exact WP.ireturn d11_17 rfl (leb rfl) (leb rfl) ⟨rfl, rfl⟩
def f_rowStart (n : Nat) (p1 : Int32) (s : St) : Option (Int32 × St) :=
  (f_ensureLayout n s).bind fun c1 =>
  if p1 < 0 then
    f_rowStart_16 n c1
  else
    if p1 < (gI c1 6) then
      (rd (gA c1 6) p1).bind fun x4 =>
      some (x4, c1)
    else
      f_rowStart_16 n c1
set_option maxRecDepth 65536 in
set_option maxHeartbeats 4000000 in
theorem ok11 (l : Launch) (Z : State) (a0 : Array Value) (hw : HW a0 Z) (n : Nat) (p1 : Int32) (s : St) (r : Int32 × St) (h : f_rowStart n p1 s = some r) : CS l Z CN lay y11 prog_1_method_14_code 2 (some FieldType.int) R11 0 [.ref 0, .int p1] (Hb 0 s) (P11 r) := by
  refine CS.of_wp pn_cls (leb rfl) fun n0 => ?_
  show W11 l Z n0 (P11 r) 0 0 0 [.val (.ref 0), .val (.int p1)] [] (Hb 0 s)
  unfold f_rowStart at h
  refine WP.aloadN d11_0 rfl ?_
  obtain ⟨c1, hc1, h⟩ := Option.bind_eq_some_iff.mp h
  refine WP.callP (i := 0) (y := y7) (as := []) (S := []) d11_1 (hw _ m_62) (hw _ m_64) (hw _ m_1) (hw _ m_63) (hw _ m_65) (hw _ m_2) hy7 rfl (ok7 l Z a0 hw n s _ hc1) rfl (lenOf pd7 rfl) (leb rfl) (leb rfl) (leb rfl) (leb rfl) ?_
  rintro _ _ ⟨rfl, rfl⟩
  show W11 l Z n0 (P11 r) 0 0 4 [.val (.ref 0), .val (.int p1)] [] (Hb 0 c1)
  refine WP.iloadN d11_4 rfl ?_
  rcases ite_e h with ⟨hc2, h⟩ | ⟨hc2, h⟩
  ·
    refine WP.ifY (pc' := 16) d11_5 (XT.i0_lt_t hc2) (by decide) rfl ?_
    exact WP.weak (L' := [.unset, .unset]) trivial (ok11_16 l Z a0 hw n0 n c1 _ h)
  ·
    refine WP.ifN d11_5 (XT.i0_lt_f hc2) ?_
    refine WP.iloadN d11_8 rfl ?_
    refine WP.aloadN d11_9 rfl ?_
    refine WP.getfield (i := 0) (j := 16) d11_10 (hw _ m_72) rfl rfl rfl ?_
    rcases ite_e h with ⟨hc3, h⟩ | ⟨hc3, h⟩
    ·
      refine WP.icmpY (pc' := 18) d11_13 (XT.ii_lt_t hc3) (by decide) rfl ?_
      refine WP.aloadN d11_18 rfl ?_
      refine WP.getfield (i := 0) (j := 12) d11_19 (hw _ m_30) rfl rfl rfl ?_
      refine WP.iloadN d11_22 rfl ?_
      obtain ⟨x4, hx4, h⟩ := Option.bind_eq_some_iff.mp h
      refine WP.iaload (i := 7) d11_23 rfl hx4 ?_
      cases h
      exact WP.ireturn d11_24 rfl (leb rfl) (leb rfl) ⟨rfl, rfl⟩
    ·
      refine WP.icmpN d11_13 (XT.ii_lt_f hc3) ?_
      exact WP.weak (L' := [.unset, .unset]) trivial (ok11_16 l Z a0 hw n0 n c1 _ h)
theorem d12_0 : dc prog_1_method_8_code 0 (.aload_n 0) 1 := by decide +kernel
theorem d12_1 : dc prog_1_method_8_code 1 (.getfield 54) 3 := by decide +kernel
theorem d12_4 : dc prog_1_method_8_code 4 (.ireturn) 1 := by decide +kernel
abbrev y12 : MethodName := ⟨"DisplayMap", "length", "()I"⟩
theorem hy12 : y12.cls ≠ "java/lang/invoke/MethodHandle" ∧ y12.cls ≠ "java/lang/invoke/VarHandle" := by decide
theorem pd12 : parseMethodDescriptor y12.desc = some ⟨[], some .int⟩ := by decide +kernel
abbrev R12 : Room := { frames := 0, cells := 0, slots := 0, locals := 0 }
abbrev P12 (s : St) (r : Int32) : Option Value → List OwnC → Prop := fun v H' => v = some (.int r) ∧ H' = (Hb 0 s)
abbrev W12 (l : Launch) (Z : State) (n0 : Nat) (Q : Option Value → List OwnC → Prop) (k n pc : Nat) (L : List Slot) (S : List Value) (H : List OwnC) : Prop := WP l Z CN lay "DisplayMap" "length" prog_1_method_8_code 1 (some FieldType.int) R12 n0 0 Q k n pc L S H
def f_length (s : St) : Option (Int32) :=
  some (gI s 0)
set_option maxRecDepth 65536 in
set_option maxHeartbeats 4000000 in
theorem ok12 (l : Launch) (Z : State) (a0 : Array Value) (hw : HW a0 Z) (s : St) (r : Int32) (h : f_length s = some r) : CS l Z CN lay y12 prog_1_method_8_code 1 (some FieldType.int) R12 0 [.ref 0] (Hb 0 s) (P12 s r) := by
  refine CS.of_wp pn_cls (leb rfl) fun n0 => ?_
  show W12 l Z n0 (P12 s r) 0 0 0 [.val (.ref 0)] [] (Hb 0 s)
  unfold f_length at h
  refine WP.aloadN d12_0 rfl ?_
  refine WP.getfield (i := 0) (j := 1) d12_1 (hw _ m_48) rfl rfl rfl ?_
  cases h
  exact WP.ireturn d12_4 rfl (leb rfl) (leb rfl) ⟨rfl, rfl⟩
theorem d13_0 : dc prog_1_method_10_code 0 (.aload_n 0) 1 := by decide +kernel
theorem d13_1 : dc prog_1_method_10_code 1 (.getfield 57) 3 := by decide +kernel
theorem d13_4 : dc prog_1_method_10_code 4 (.ireturn) 1 := by decide +kernel
abbrev y13 : MethodName := ⟨"DisplayMap", "foldCount", "()I"⟩
theorem hy13 : y13.cls ≠ "java/lang/invoke/MethodHandle" ∧ y13.cls ≠ "java/lang/invoke/VarHandle" := by decide
theorem pd13 : parseMethodDescriptor y13.desc = some ⟨[], some .int⟩ := by decide +kernel
abbrev R13 : Room := { frames := 0, cells := 0, slots := 0, locals := 0 }
abbrev P13 (s : St) (r : Int32) : Option Value → List OwnC → Prop := fun v H' => v = some (.int r) ∧ H' = (Hb 0 s)
abbrev W13 (l : Launch) (Z : State) (n0 : Nat) (Q : Option Value → List OwnC → Prop) (k n pc : Nat) (L : List Slot) (S : List Value) (H : List OwnC) : Prop := WP l Z CN lay "DisplayMap" "foldCount" prog_1_method_10_code 1 (some FieldType.int) R13 n0 0 Q k n pc L S H
def f_foldCount (s : St) : Option (Int32) :=
  some (gI s 1)
set_option maxRecDepth 65536 in
set_option maxHeartbeats 4000000 in
theorem ok13 (l : Launch) (Z : State) (a0 : Array Value) (hw : HW a0 Z) (s : St) (r : Int32) (h : f_foldCount s = some r) : CS l Z CN lay y13 prog_1_method_10_code 1 (some FieldType.int) R13 0 [.ref 0] (Hb 0 s) (P13 s r) := by
  refine CS.of_wp pn_cls (leb rfl) fun n0 => ?_
  show W13 l Z n0 (P13 s r) 0 0 0 [.val (.ref 0)] [] (Hb 0 s)
  unfold f_foldCount at h
  refine WP.aloadN d13_0 rfl ?_
  refine WP.getfield (i := 0) (j := 4) d13_1 (hw _ m_50) rfl rfl rfl ?_
  cases h
  exact WP.ireturn d13_4 rfl (leb rfl) (leb rfl) ⟨rfl, rfl⟩
theorem d27_0 : dc prog_1_method_11_code 0 (.iload_n 1) 1 := by decide +kernel
theorem d27_1 : dc prog_1_method_11_code 1 (.ifCond .lt 11) 3 := by decide +kernel
theorem d27_4 : dc prog_1_method_11_code 4 (.iload_n 1) 1 := by decide +kernel
theorem d27_5 : dc prog_1_method_11_code 5 (.aload_n 0) 1 := by decide +kernel
theorem d27_6 : dc prog_1_method_11_code 6 (.getfield 57) 3 := by decide +kernel
theorem d27_9 : dc prog_1_method_11_code 9 (.if_icmp .lt 5) 3 := by decide +kernel
theorem d27_12 : dc prog_1_method_11_code 12 (.iconst (-1)) 1 := by decide +kernel
theorem d27_13 : dc prog_1_method_11_code 13 (.ireturn) 1 := by decide +kernel
theorem d27_14 : dc prog_1_method_11_code 14 (.aload_n 0) 1 := by decide +kernel
theorem d27_15 : dc prog_1_method_11_code 15 (.getfield 13) 3 := by decide +kernel
theorem d27_18 : dc prog_1_method_11_code 18 (.iload_n 1) 1 := by decide +kernel
theorem d27_19 : dc prog_1_method_11_code 19 (.iaload) 1 := by decide +kernel
theorem d27_20 : dc prog_1_method_11_code 20 (.ireturn) 1 := by decide +kernel
abbrev y27 : MethodName := ⟨"DisplayMap", "foldStart", "(I)I"⟩
theorem hy27 : y27.cls ≠ "java/lang/invoke/MethodHandle" ∧ y27.cls ≠ "java/lang/invoke/VarHandle" := by decide
theorem pd27 : parseMethodDescriptor y27.desc = some ⟨[.int], some .int⟩ := by decide +kernel
abbrev R27 : Room := { frames := 0, cells := 0, slots := 0, locals := 0 }
abbrev P27 (s : St) (r : Int32) : Option Value → List OwnC → Prop := fun v H' => v = some (.int r) ∧ H' = (Hb 0 s)
abbrev W27 (l : Launch) (Z : State) (n0 : Nat) (Q : Option Value → List OwnC → Prop) (k n pc : Nat) (L : List Slot) (S : List Value) (H : List OwnC) : Prop := WP l Z CN lay "DisplayMap" "foldStart" prog_1_method_11_code 2 (some FieldType.int) R27 n0 0 Q k n pc L S H
def f_foldStart_12 (s : St) : Option (Int32) :=
  some (-1 : Int32)
set_option maxRecDepth 65536 in
set_option maxHeartbeats 4000000 in
theorem ok27_12 (l : Launch) (Z : State) (a0 : Array Value) (hw : HW a0 Z) (n0 : Nat) (s : St) (r : Int32) (h : f_foldStart_12 s = some r) : W27 l Z n0 (P27 s r) 0 0 12 [.unset, .unset] [] (Hb 0 s) := by
  unfold f_foldStart_12 at h
  refine WP.iconst (-1 : Int32) d27_12 rfl ?_
  cases h
  exact WP.ireturn d27_13 rfl (leb rfl) (leb rfl) ⟨rfl, rfl⟩
def f_foldStart (p1 : Int32) (s : St) : Option (Int32) :=
  if p1 < 0 then
    f_foldStart_12 s
  else
    if p1 < (gI s 1) then
      (rd (gA s 1) p1).bind fun x3 =>
      some x3
    else
      f_foldStart_12 s
set_option maxRecDepth 65536 in
set_option maxHeartbeats 4000000 in
theorem ok27 (l : Launch) (Z : State) (a0 : Array Value) (hw : HW a0 Z) (p1 : Int32) (s : St) (r : Int32) (h : f_foldStart p1 s = some r) : CS l Z CN lay y27 prog_1_method_11_code 2 (some FieldType.int) R27 0 [.ref 0, .int p1] (Hb 0 s) (P27 s r) := by
  refine CS.of_wp pn_cls (leb rfl) fun n0 => ?_
  show W27 l Z n0 (P27 s r) 0 0 0 [.val (.ref 0), .val (.int p1)] [] (Hb 0 s)
  unfold f_foldStart at h
  refine WP.iloadN d27_0 rfl ?_
  rcases ite_e h with ⟨hc1, h⟩ | ⟨hc1, h⟩
  ·
    refine WP.ifY (pc' := 12) d27_1 (XT.i0_lt_t hc1) (by decide) rfl ?_
    exact WP.weak (L' := [.unset, .unset]) trivial (ok27_12 l Z a0 hw n0 s _ h)
  ·
    refine WP.ifN d27_1 (XT.i0_lt_f hc1) ?_
    refine WP.iloadN d27_4 rfl ?_
    refine WP.aloadN d27_5 rfl ?_
    refine WP.getfield (i := 0) (j := 4) d27_6 (hw _ m_50) rfl rfl rfl ?_
    rcases ite_e h with ⟨hc2, h⟩ | ⟨hc2, h⟩
    ·
      refine WP.icmpY (pc' := 14) d27_9 (XT.ii_lt_t hc2) (by decide) rfl ?_
      refine WP.aloadN d27_14 rfl ?_
      refine WP.getfield (i := 0) (j := 2) d27_15 (hw _ m_20) rfl rfl rfl ?_
      refine WP.iloadN d27_18 rfl ?_
      obtain ⟨x3, hx3, h⟩ := Option.bind_eq_some_iff.mp h
      refine WP.iaload (i := 2) d27_19 rfl hx3 ?_
      cases h
      exact WP.ireturn d27_20 rfl (leb rfl) (leb rfl) ⟨rfl, rfl⟩
    ·
      refine WP.icmpN d27_9 (XT.ii_lt_f hc2) ?_
      exact WP.weak (L' := [.unset, .unset]) trivial (ok27_12 l Z a0 hw n0 s _ h)
theorem d28_0 : dc prog_1_method_12_code 0 (.iload_n 1) 1 := by decide +kernel
theorem d28_1 : dc prog_1_method_12_code 1 (.ifCond .lt 11) 3 := by decide +kernel
theorem d28_4 : dc prog_1_method_12_code 4 (.iload_n 1) 1 := by decide +kernel
theorem d28_5 : dc prog_1_method_12_code 5 (.aload_n 0) 1 := by decide +kernel
theorem d28_6 : dc prog_1_method_12_code 6 (.getfield 57) 3 := by decide +kernel
theorem d28_9 : dc prog_1_method_12_code 9 (.if_icmp .lt 5) 3 := by decide +kernel
theorem d28_12 : dc prog_1_method_12_code 12 (.iconst (-1)) 1 := by decide +kernel
theorem d28_13 : dc prog_1_method_12_code 13 (.ireturn) 1 := by decide +kernel
theorem d28_14 : dc prog_1_method_12_code 14 (.aload_n 0) 1 := by decide +kernel
theorem d28_15 : dc prog_1_method_12_code 15 (.getfield 16) 3 := by decide +kernel
theorem d28_18 : dc prog_1_method_12_code 18 (.iload_n 1) 1 := by decide +kernel
theorem d28_19 : dc prog_1_method_12_code 19 (.iaload) 1 := by decide +kernel
theorem d28_20 : dc prog_1_method_12_code 20 (.ireturn) 1 := by decide +kernel
abbrev y28 : MethodName := ⟨"DisplayMap", "foldEnd", "(I)I"⟩
theorem hy28 : y28.cls ≠ "java/lang/invoke/MethodHandle" ∧ y28.cls ≠ "java/lang/invoke/VarHandle" := by decide
theorem pd28 : parseMethodDescriptor y28.desc = some ⟨[.int], some .int⟩ := by decide +kernel
abbrev R28 : Room := { frames := 0, cells := 0, slots := 0, locals := 0 }
abbrev P28 (s : St) (r : Int32) : Option Value → List OwnC → Prop := fun v H' => v = some (.int r) ∧ H' = (Hb 0 s)
abbrev W28 (l : Launch) (Z : State) (n0 : Nat) (Q : Option Value → List OwnC → Prop) (k n pc : Nat) (L : List Slot) (S : List Value) (H : List OwnC) : Prop := WP l Z CN lay "DisplayMap" "foldEnd" prog_1_method_12_code 2 (some FieldType.int) R28 n0 0 Q k n pc L S H
def f_foldEnd_12 (s : St) : Option (Int32) :=
  some (-1 : Int32)
set_option maxRecDepth 65536 in
set_option maxHeartbeats 4000000 in
theorem ok28_12 (l : Launch) (Z : State) (a0 : Array Value) (hw : HW a0 Z) (n0 : Nat) (s : St) (r : Int32) (h : f_foldEnd_12 s = some r) : W28 l Z n0 (P28 s r) 0 0 12 [.unset, .unset] [] (Hb 0 s) := by
  unfold f_foldEnd_12 at h
  refine WP.iconst (-1 : Int32) d28_12 rfl ?_
  cases h
  exact WP.ireturn d28_13 rfl (leb rfl) (leb rfl) ⟨rfl, rfl⟩
def f_foldEnd (p1 : Int32) (s : St) : Option (Int32) :=
  if p1 < 0 then
    f_foldEnd_12 s
  else
    if p1 < (gI s 1) then
      (rd (gA s 2) p1).bind fun x3 =>
      some x3
    else
      f_foldEnd_12 s
set_option maxRecDepth 65536 in
set_option maxHeartbeats 4000000 in
theorem ok28 (l : Launch) (Z : State) (a0 : Array Value) (hw : HW a0 Z) (p1 : Int32) (s : St) (r : Int32) (h : f_foldEnd p1 s = some r) : CS l Z CN lay y28 prog_1_method_12_code 2 (some FieldType.int) R28 0 [.ref 0, .int p1] (Hb 0 s) (P28 s r) := by
  refine CS.of_wp pn_cls (leb rfl) fun n0 => ?_
  show W28 l Z n0 (P28 s r) 0 0 0 [.val (.ref 0), .val (.int p1)] [] (Hb 0 s)
  unfold f_foldEnd at h
  refine WP.iloadN d28_0 rfl ?_
  rcases ite_e h with ⟨hc1, h⟩ | ⟨hc1, h⟩
  ·
    refine WP.ifY (pc' := 12) d28_1 (XT.i0_lt_t hc1) (by decide) rfl ?_
    exact WP.weak (L' := [.unset, .unset]) trivial (ok28_12 l Z a0 hw n0 s _ h)
  ·
    refine WP.ifN d28_1 (XT.i0_lt_f hc1) ?_
    refine WP.iloadN d28_4 rfl ?_
    refine WP.aloadN d28_5 rfl ?_
    refine WP.getfield (i := 0) (j := 4) d28_6 (hw _ m_50) rfl rfl rfl ?_
    rcases ite_e h with ⟨hc2, h⟩ | ⟨hc2, h⟩
    ·
      refine WP.icmpY (pc' := 14) d28_9 (XT.ii_lt_t hc2) (by decide) rfl ?_
      refine WP.aloadN d28_14 rfl ?_
      refine WP.getfield (i := 0) (j := 3) d28_15 (hw _ m_22) rfl rfl rfl ?_
      refine WP.iloadN d28_18 rfl ?_
      obtain ⟨x3, hx3, h⟩ := Option.bind_eq_some_iff.mp h
      refine WP.iaload (i := 3) d28_19 rfl hx3 ?_
      cases h
      exact WP.ireturn d28_20 rfl (leb rfl) (leb rfl) ⟨rfl, rfl⟩
    ·
      refine WP.icmpN d28_9 (XT.ii_lt_f hc2) ?_
      exact WP.weak (L' := [.unset, .unset]) trivial (ok28_12 l Z a0 hw n0 s _ h)
theorem d15_0 : dc prog_1_method_22_code 0 (.iconst 0) 1 := by decide +kernel
theorem d15_1 : dc prog_1_method_22_code 1 (.istore_n 3) 1 := by decide +kernel
theorem d15_2 : dc prog_1_method_22_code 2 (.iload_n 3) 1 := by decide +kernel
theorem d15_3 : dc prog_1_method_22_code 3 (.aload_n 0) 1 := by decide +kernel
theorem d15_4 : dc prog_1_method_22_code 4 (.getfield 57) 3 := by decide +kernel
theorem d15_7 : dc prog_1_method_22_code 7 (.if_icmp .ge 49) 3 := by decide +kernel
theorem d15_10 : dc prog_1_method_22_code 10 (.aload_n 0) 1 := by decide +kernel
theorem d15_11 : dc prog_1_method_22_code 11 (.getfield 13) 3 := by decide +kernel
theorem d15_14 : dc prog_1_method_22_code 14 (.iload_n 3) 1 := by decide +kernel
theorem d15_15 : dc prog_1_method_22_code 15 (.iaload) 1 := by decide +kernel
theorem d15_16 : dc prog_1_method_22_code 16 (.iload_n 1) 1 := by decide +kernel
theorem d15_17 : dc prog_1_method_22_code 17 (.if_icmp .ge 33) 3 := by decide +kernel
theorem d15_20 : dc prog_1_method_22_code 20 (.iload_n 1) 1 := by decide +kernel
theorem d15_21 : dc prog_1_method_22_code 21 (.aload_n 0) 1 := by decide +kernel
theorem d15_22 : dc prog_1_method_22_code 22 (.getfield 16) 3 := by decide +kernel
theorem d15_25 : dc prog_1_method_22_code 25 (.iload_n 3) 1 := by decide +kernel
theorem d15_26 : dc prog_1_method_22_code 26 (.iaload) 1 := by decide +kernel
theorem d15_27 : dc prog_1_method_22_code 27 (.if_icmp .ge 23) 3 := by decide +kernel
theorem d15_30 : dc prog_1_method_22_code 30 (.iload_n 2) 1 := by decide +kernel
theorem d15_31 : dc prog_1_method_22_code 31 (.ifCond .ne 12) 3 := by decide +kernel
theorem d15_34 : dc prog_1_method_22_code 34 (.aload_n 0) 1 := by decide +kernel
theorem d15_35 : dc prog_1_method_22_code 35 (.getfield 13) 3 := by decide +kernel
theorem d15_38 : dc prog_1_method_22_code 38 (.iload_n 3) 1 := by decide +kernel
theorem d15_39 : dc prog_1_method_22_code 39 (.iaload) 1 := by decide +kernel
theorem d15_40 : dc prog_1_method_22_code 40 (.goto 9) 3 := by decide +kernel
theorem d15_43 : dc prog_1_method_22_code 43 (.aload_n 0) 1 := by decide +kernel
theorem d15_44 : dc prog_1_method_22_code 44 (.getfield 16) 3 := by decide +kernel
theorem d15_47 : dc prog_1_method_22_code 47 (.iload_n 3) 1 := by decide +kernel
theorem d15_48 : dc prog_1_method_22_code 48 (.iaload) 1 := by decide +kernel
theorem d15_49 : dc prog_1_method_22_code 49 (.ireturn) 1 := by decide +kernel
theorem d15_50 : dc prog_1_method_22_code 50 (.iinc 3 1) 3 := by decide +kernel
theorem d15_53 : dc prog_1_method_22_code 53 (.goto (-51)) 3 := by decide +kernel
theorem d15_56 : dc prog_1_method_22_code 56 (.iload_n 1) 1 := by decide +kernel
theorem d15_57 : dc prog_1_method_22_code 57 (.ireturn) 1 := by decide +kernel
abbrev y15 : MethodName := ⟨"DisplayMap", "snapOutOfFold", "(II)I"⟩
theorem hy15 : y15.cls ≠ "java/lang/invoke/MethodHandle" ∧ y15.cls ≠ "java/lang/invoke/VarHandle" := by decide
theorem pd15 : parseMethodDescriptor y15.desc = some ⟨[.int, .int], some .int⟩ := by decide +kernel
abbrev R15 : Room := { frames := 0, cells := 0, slots := 0, locals := 0 }
abbrev P15 (s : St) (r : Int32) : Option Value → List OwnC → Prop := fun v H' => v = some (.int r) ∧ H' = (Hb 0 s)
abbrev W15 (l : Launch) (Z : State) (n0 : Nat) (Q : Option Value → List OwnC → Prop) (k n pc : Nat) (L : List Slot) (S : List Value) (H : List OwnC) : Prop := WP l Z CN lay "DisplayMap" "snapOutOfFold" prog_1_method_22_code 4 (some FieldType.int) R15 n0 0 Q k n pc L S H
def f_snapOutOfFold_49 (n : Nat) (t0 : Int32) (s : St) : Option (Int32) :=
  some t0
set_option maxRecDepth 65536 in
set_option maxHeartbeats 4000000 in
theorem ok15_49 (l : Launch) (Z : State) (a0 : Array Value) (hw : HW a0 Z) (n0 : Nat) (n : Nat) (t0 : Int32) (s : St) (r : Int32) (h : f_snapOutOfFold_49 n t0 s = some r) : W15 l Z n0 (P15 s r) 0 0 49 [.unset, .unset, .unset, .unset] [.int t0] (Hb 0 s) := by
  unfold f_snapOutOfFold_49 at h
  cases h
  exact WP.ireturn d15_49 rfl (leb rfl) (leb rfl) ⟨rfl, rfl⟩
def f_snapOutOfFold_50 (k2 : Int32 → Int32 → Int32 → St → Option (Int32)) (n : Nat) (v1 : Int32) (v2 : Int32) (v3 : Int32) (s : St) : Option (Int32) :=
  lt (v3 + (1 : Int32)) fun x1 =>
  k2 v1 v2 x1 s
set_option maxRecDepth 65536 in
set_option maxHeartbeats 4000000 in
theorem ok15_50 (l : Launch) (Z : State) (a0 : Array Value) (hw : HW a0 Z) (n0 : Nat) (k2 : Int32 → Int32 → Int32 → St → Option (Int32)) (hk2 : ∀ (v1 : Int32) (v2 : Int32) (v3 : Int32) (s : St) (r : Int32), k2 v1 v2 v3 s = some r → W15 l Z n0 (P15 s r) 0 0 2 [.val (.ref 0), .val (.int v1), .val (.int v2), .val (.int v3)] [] (Hb 0 s)) (n : Nat) (v1 : Int32) (v2 : Int32) (v3 : Int32) (s : St) (r : Int32) (h : f_snapOutOfFold_50 k2 n v1 v2 v3 s = some r) : W15 l Z n0 (P15 s r) 0 0 50 [.val (.ref 0), .val (.int v1), .val (.int v2), .val (.int v3)] [] (Hb 0 s) := by
  unfold f_snapOutOfFold_50 at h
  obtain ⟨x1, ex1, h⟩ := lt_e h
  refine WP.iinc (L' := [.val (.ref 0), .val (.int v1), .val (.int v2), .val (.int x1)]) (1 : Int32) d15_50 rfl rfl (by subst ex1; rfl) ?_
  refine WP.goto (pc' := 2) d15_53 (by decide) rfl ?_
  exact WP.weak (L' := [.val (.ref 0), .val (.int v1), .val (.int v2), .val (.int x1)]) ⟨rfl, rfl, rfl, rfl, trivial⟩ (hk2 v1 v2 x1 s _ h)
def g_snapOutOfFold_2 (k2 : Int32 → Int32 → Int32 → St → Option (Int32)) (n : Nat) (v1 : Int32) (v2 : Int32) (v3 : Int32) (s : St) : Option (Int32) :=
  if v3 < (gI s 1) then
    (rd (gA s 1) v3).bind fun x2 =>
    if x2 < v1 then
      (rd (gA s 2) v3).bind fun x4 =>
      if v1 < x4 then
        if v2 = 0 then
          (rd (gA s 1) v3).bind fun x7 =>
          f_snapOutOfFold_49 n x7 s
        else
          (rd (gA s 2) v3).bind fun x8 =>
          f_snapOutOfFold_49 n x8 s
      else
        f_snapOutOfFold_50 k2 n v1 v2 v3 s
    else
      f_snapOutOfFold_50 k2 n v1 v2 v3 s
  else
    some v1
set_option maxRecDepth 65536 in
set_option maxHeartbeats 4000000 in
theorem okg15_2 (l : Launch) (Z : State) (a0 : Array Value) (hw : HW a0 Z) (n0 : Nat) (k2 : Int32 → Int32 → Int32 → St → Option (Int32)) (hk2 : ∀ (v1 : Int32) (v2 : Int32) (v3 : Int32) (s : St) (r : Int32), k2 v1 v2 v3 s = some r → W15 l Z n0 (P15 s r) 0 0 2 [.val (.ref 0), .val (.int v1), .val (.int v2), .val (.int v3)] [] (Hb 0 s)) (n : Nat) (v1 : Int32) (v2 : Int32) (v3 : Int32) (s : St) (r : Int32) (h : g_snapOutOfFold_2 k2 n v1 v2 v3 s = some r) : W15 l Z n0 (P15 s r) 0 0 2 [.val (.ref 0), .val (.int v1), .val (.int v2), .val (.int v3)] [] (Hb 0 s) := by
  unfold g_snapOutOfFold_2 at h
  refine WP.iloadN d15_2 rfl ?_
  refine WP.aloadN d15_3 rfl ?_
  refine WP.getfield (i := 0) (j := 4) d15_4 (hw _ m_50) rfl rfl rfl ?_
  rcases ite_e h with ⟨hc1, h⟩ | ⟨hc1, h⟩
  ·
    refine WP.icmpN d15_7 (XT.ii_ge_f hc1) ?_
    refine WP.aloadN d15_10 rfl ?_
    refine WP.getfield (i := 0) (j := 2) d15_11 (hw _ m_20) rfl rfl rfl ?_
    refine WP.iloadN d15_14 rfl ?_
    obtain ⟨x2, hx2, h⟩ := Option.bind_eq_some_iff.mp h
    refine WP.iaload (i := 2) d15_15 rfl hx2 ?_
    refine WP.iloadN d15_16 rfl ?_
    rcases ite_e h with ⟨hc3, h⟩ | ⟨hc3, h⟩
    ·
      refine WP.icmpN d15_17 (XT.ii_ge_f hc3) ?_
      refine WP.iloadN d15_20 rfl ?_
      refine WP.aloadN d15_21 rfl ?_
      refine WP.getfield (i := 0) (j := 3) d15_22 (hw _ m_22) rfl rfl rfl ?_
      refine WP.iloadN d15_25 rfl ?_
      obtain ⟨x4, hx4, h⟩ := Option.bind_eq_some_iff.mp h
      refine WP.iaload (i := 3) d15_26 rfl hx4 ?_
      rcases ite_e h with ⟨hc5, h⟩ | ⟨hc5, h⟩
      ·
        refine WP.icmpN d15_27 (XT.ii_ge_f hc5) ?_
        refine WP.iloadN d15_30 rfl ?_
        rcases ite_e h with ⟨hc6, h⟩ | ⟨hc6, h⟩
        ·
          refine WP.ifN d15_31 (XT.i0_ne_f hc6) ?_
          refine WP.aloadN d15_34 rfl ?_
          refine WP.getfield (i := 0) (j := 2) d15_35 (hw _ m_20) rfl rfl rfl ?_
          refine WP.iloadN d15_38 rfl ?_
          obtain ⟨x7, hx7, h⟩ := Option.bind_eq_some_iff.mp h
          refine WP.iaload (i := 2) d15_39 rfl hx7 ?_
          refine WP.goto (pc' := 49) d15_40 (by decide) rfl ?_
          exact WP.weak (L' := [.unset, .unset, .unset, .unset]) trivial (ok15_49 l Z a0 hw n0 n x7 s _ h)
        ·
          refine WP.ifY (pc' := 43) d15_31 (XT.i0_ne_t hc6) (by decide) rfl ?_
          refine WP.aloadN d15_43 rfl ?_
          refine WP.getfield (i := 0) (j := 3) d15_44 (hw _ m_22) rfl rfl rfl ?_
          refine WP.iloadN d15_47 rfl ?_
          obtain ⟨x8, hx8, h⟩ := Option.bind_eq_some_iff.mp h
          refine WP.iaload (i := 3) d15_48 rfl hx8 ?_
          exact WP.weak (L' := [.unset, .unset, .unset, .unset]) trivial (ok15_49 l Z a0 hw n0 n x8 s _ h)
      ·
        refine WP.icmpY (pc' := 50) d15_27 (XT.ii_ge_t hc5) (by decide) rfl ?_
        exact WP.weak (L' := [.val (.ref 0), .val (.int v1), .val (.int v2), .val (.int v3)]) ⟨rfl, rfl, rfl, rfl, trivial⟩ (ok15_50 l Z a0 hw n0 _ hk2 n v1 v2 v3 s _ h)
    ·
      refine WP.icmpY (pc' := 50) d15_17 (XT.ii_ge_t hc3) (by decide) rfl ?_
      exact WP.weak (L' := [.val (.ref 0), .val (.int v1), .val (.int v2), .val (.int v3)]) ⟨rfl, rfl, rfl, rfl, trivial⟩ (ok15_50 l Z a0 hw n0 _ hk2 n v1 v2 v3 s _ h)
  ·
    refine WP.icmpY (pc' := 56) d15_7 (XT.ii_ge_t hc1) (by decide) rfl ?_
    refine WP.iloadN d15_56 rfl ?_
    cases h
    exact WP.ireturn d15_57 rfl (leb rfl) (leb rfl) ⟨rfl, rfl⟩
def f_snapOutOfFold_2 : Nat → Int32 → Int32 → Int32 → St → Option (Int32)
  | 0 => fun _ _ _ _ => none
  | n + 1 => g_snapOutOfFold_2 (f_snapOutOfFold_2 n) n
theorem ok15_2 (l : Launch) (Z : State) (a0 : Array Value) (hw : HW a0 Z) (n0 : Nat) : ∀ (n : Nat) (v1 : Int32) (v2 : Int32) (v3 : Int32) (s : St) (r : Int32), f_snapOutOfFold_2 n v1 v2 v3 s = some r → W15 l Z n0 (P15 s r) 0 0 2 [.val (.ref 0), .val (.int v1), .val (.int v2), .val (.int v3)] [] (Hb 0 s)
  | 0, v1, v2, v3, s, r, h => nomatch (show none = some r from h)
  | n + 1, v1, v2, v3, s, r, h => okg15_2 l Z a0 hw n0 _ (ok15_2 l Z a0 hw n0 n) n v1 v2 v3 s r h
def f_snapOutOfFold (n : Nat) (p1 : Int32) (p2 : Int32) (s : St) : Option (Int32) :=
  f_snapOutOfFold_2 n p1 p2 (0 : Int32) s
set_option maxRecDepth 65536 in
set_option maxHeartbeats 4000000 in
theorem ok15 (l : Launch) (Z : State) (a0 : Array Value) (hw : HW a0 Z) (n : Nat) (p1 : Int32) (p2 : Int32) (s : St) (r : Int32) (h : f_snapOutOfFold n p1 p2 s = some r) : CS l Z CN lay y15 prog_1_method_22_code 4 (some FieldType.int) R15 0 [.ref 0, .int p1, .int p2] (Hb 0 s) (P15 s r) := by
  refine CS.of_wp pn_cls (leb rfl) fun n0 => ?_
  show W15 l Z n0 (P15 s r) 0 0 0 [.val (.ref 0), .val (.int p1), .val (.int p2), .unset] [] (Hb 0 s)
  unfold f_snapOutOfFold at h
  refine WP.iconst (0 : Int32) d15_0 rfl ?_
  refine WP.istoreN (L' := [.val (.ref 0), .val (.int p1), .val (.int p2), .val (.int (0 : Int32))]) d15_1 (leb rfl) rfl ?_
  exact WP.weak (L' := [.val (.ref 0), .val (.int p1), .val (.int p2), .val (.int (0 : Int32))]) ⟨rfl, rfl, rfl, rfl, trivial⟩ (ok15_2 l Z a0 hw n0 n p1 p2 (0 : Int32) s _ h)
theorem d14_0 : dc prog_1_method_16_code 0 (.iload_n 2) 1 := by decide +kernel
theorem d14_1 : dc prog_1_method_16_code 1 (.ifCond .eq 10) 3 := by decide +kernel
theorem d14_4 : dc prog_1_method_16_code 4 (.iload_n 2) 1 := by decide +kernel
theorem d14_5 : dc prog_1_method_16_code 5 (.iconst 1) 1 := by decide +kernel
theorem d14_6 : dc prog_1_method_16_code 6 (.if_icmp .eq 5) 3 := by decide +kernel
theorem d14_9 : dc prog_1_method_16_code 9 (.iconst (-1)) 1 := by decide +kernel
theorem d14_10 : dc prog_1_method_16_code 10 (.ireturn) 1 := by decide +kernel
theorem d14_11 : dc prog_1_method_16_code 11 (.iload_n 1) 1 := by decide +kernel
theorem d14_12 : dc prog_1_method_16_code 12 (.ifCond .lt 11) 3 := by decide +kernel
theorem d14_15 : dc prog_1_method_16_code 15 (.iload_n 1) 1 := by decide +kernel
theorem d14_16 : dc prog_1_method_16_code 16 (.aload_n 0) 1 := by decide +kernel
theorem d14_17 : dc prog_1_method_16_code 17 (.getfield 54) 3 := by decide +kernel
theorem d14_20 : dc prog_1_method_16_code 20 (.if_icmp .le 5) 3 := by decide +kernel
theorem d14_23 : dc prog_1_method_16_code 23 (.iconst (-1)) 1 := by decide +kernel
theorem d14_24 : dc prog_1_method_16_code 24 (.ireturn) 1 := by decide +kernel
theorem d14_25 : dc prog_1_method_16_code 25 (.aload_n 0) 1 := by decide +kernel
theorem d14_26 : dc prog_1_method_16_code 26 (.iload_n 1) 1 := by decide +kernel
theorem d14_27 : dc prog_1_method_16_code 27 (.iload_n 2) 1 := by decide +kernel
theorem d14_28 : dc prog_1_method_16_code 28 (.invokevirtual 78) 3 := by decide +kernel
theorem d14_31 : dc prog_1_method_16_code 31 (.istore_n 3) 1 := by decide +kernel
theorem d14_32 : dc prog_1_method_16_code 32 (.aload_n 0) 1 := by decide +kernel
theorem d14_33 : dc prog_1_method_16_code 33 (.invokevirtual 72) 3 := by decide +kernel
theorem d14_36 : dc prog_1_method_16_code 36 (.iconst 0) 1 := by decide +kernel
theorem d14_37 : dc prog_1_method_16_code 37 (.istore 4) 2 := by decide +kernel
theorem d14_39 : dc prog_1_method_16_code 39 (.iconst 0) 1 := by decide +kernel
theorem d14_40 : dc prog_1_method_16_code 40 (.istore 5) 2 := by decide +kernel
theorem d14_42 : dc prog_1_method_16_code 42 (.iload 5) 2 := by decide +kernel
theorem d14_44 : dc prog_1_method_16_code 44 (.aload_n 0) 1 := by decide +kernel
theorem d14_45 : dc prog_1_method_16_code 45 (.getfield 75) 3 := by decide +kernel
theorem d14_48 : dc prog_1_method_16_code 48 (.if_icmp .ge 24) 3 := by decide +kernel
theorem d14_51 : dc prog_1_method_16_code 51 (.aload_n 0) 1 := by decide +kernel
theorem d14_52 : dc prog_1_method_16_code 52 (.getfield 28) 3 := by decide +kernel
theorem d14_55 : dc prog_1_method_16_code 55 (.iload 5) 2 := by decide +kernel
theorem d14_57 : dc prog_1_method_16_code 57 (.iaload) 1 := by decide +kernel
theorem d14_58 : dc prog_1_method_16_code 58 (.iload_n 3) 1 := by decide +kernel
theorem d14_59 : dc prog_1_method_16_code 59 (.if_icmp .gt 7) 3 := by decide +kernel
theorem d14_62 : dc prog_1_method_16_code 62 (.iload 5) 2 := by decide +kernel
theorem d14_64 : dc prog_1_method_16_code 64 (.istore 4) 2 := by decide +kernel
theorem d14_66 : dc prog_1_method_16_code 66 (.iinc 5 1) 3 := by decide +kernel
theorem d14_69 : dc prog_1_method_16_code 69 (.goto (-27)) 3 := by decide +kernel
theorem d14_72 : dc prog_1_method_16_code 72 (.iconst 0) 1 := by decide +kernel
theorem d14_73 : dc prog_1_method_16_code 73 (.istore 5) 2 := by decide +kernel
theorem d14_75 : dc prog_1_method_16_code 75 (.aload_n 0) 1 := by decide +kernel
theorem d14_76 : dc prog_1_method_16_code 76 (.getfield 34) 3 := by decide +kernel
theorem d14_79 : dc prog_1_method_16_code 79 (.iload 4) 2 := by decide +kernel
theorem d14_81 : dc prog_1_method_16_code 81 (.iaload) 1 := by decide +kernel
theorem d14_82 : dc prog_1_method_16_code 82 (.istore 6) 2 := by decide +kernel
theorem d14_84 : dc prog_1_method_16_code 84 (.iload 6) 2 := by decide +kernel
theorem d14_86 : dc prog_1_method_16_code 86 (.aload_n 0) 1 := by decide +kernel
theorem d14_87 : dc prog_1_method_16_code 87 (.getfield 37) 3 := by decide +kernel
theorem d14_90 : dc prog_1_method_16_code 90 (.iload 4) 2 := by decide +kernel
theorem d14_92 : dc prog_1_method_16_code 92 (.iaload) 1 := by decide +kernel
theorem d14_93 : dc prog_1_method_16_code 93 (.iadd) 1 := by decide +kernel
theorem d14_94 : dc prog_1_method_16_code 94 (.istore 7) 2 := by decide +kernel
theorem d14_96 : dc prog_1_method_16_code 96 (.iload 6) 2 := by decide +kernel
theorem d14_98 : dc prog_1_method_16_code 98 (.istore 8) 2 := by decide +kernel
theorem d14_100 : dc prog_1_method_16_code 100 (.iload 8) 2 := by decide +kernel
theorem d14_102 : dc prog_1_method_16_code 102 (.iload 7) 2 := by decide +kernel
theorem d14_104 : dc prog_1_method_16_code 104 (.if_icmp .ge 45) 3 := by decide +kernel
theorem d14_107 : dc prog_1_method_16_code 107 (.iload 8) 2 := by decide +kernel
theorem d14_109 : dc prog_1_method_16_code 109 (.sipush 256) 3 := by decide +kernel
theorem d14_112 : dc prog_1_method_16_code 112 (.if_icmp .ge 37) 3 := by decide +kernel
theorem d14_115 : dc prog_1_method_16_code 115 (.iload 8) 2 := by decide +kernel
theorem d14_117 : dc prog_1_method_16_code 117 (.ifCond .lt 26) 3 := by decide +kernel
theorem d14_120 : dc prog_1_method_16_code 120 (.aload_n 0) 1 := by decide +kernel
theorem d14_121 : dc prog_1_method_16_code 121 (.getfield 19) 3 := by decide +kernel
theorem d14_124 : dc prog_1_method_16_code 124 (.iload 8) 2 := by decide +kernel
theorem d14_126 : dc prog_1_method_16_code 126 (.iaload) 1 := by decide +kernel
theorem d14_127 : dc prog_1_method_16_code 127 (.iload_n 3) 1 := by decide +kernel
theorem d14_128 : dc prog_1_method_16_code 128 (.if_icmp .ge 15) 3 := by decide +kernel
theorem d14_131 : dc prog_1_method_16_code 131 (.iload 5) 2 := by decide +kernel
theorem d14_133 : dc prog_1_method_16_code 133 (.aload_n 0) 1 := by decide +kernel
theorem d14_134 : dc prog_1_method_16_code 134 (.getfield 25) 3 := by decide +kernel
theorem d14_137 : dc prog_1_method_16_code 137 (.iload 8) 2 := by decide +kernel
theorem d14_139 : dc prog_1_method_16_code 139 (.iaload) 1 := by decide +kernel
theorem d14_140 : dc prog_1_method_16_code 140 (.iadd) 1 := by decide +kernel
theorem d14_141 : dc prog_1_method_16_code 141 (.istore 5) 2 := by decide +kernel
theorem d14_143 : dc prog_1_method_16_code 143 (.iinc 8 1) 3 := by decide +kernel
theorem d14_146 : dc prog_1_method_16_code 146 (.goto (-46)) 3 := by decide +kernel
theorem d14_149 : dc prog_1_method_16_code 149 (.iload 4) 2 := by decide +kernel
theorem d14_151 : dc prog_1_method_16_code 151 (.sipush 256) 3 := by decide +kernel
theorem d14_154 : dc prog_1_method_16_code 154 (.imul) 1 := by decide +kernel
theorem d14_155 : dc prog_1_method_16_code 155 (.iload 5) 2 := by decide +kernel
theorem d14_157 : dc prog_1_method_16_code 157 (.iadd) 1 := by decide +kernel
theorem d14_158 : dc prog_1_method_16_code 158 (.ireturn) 1 := by decide +kernel
abbrev y14 : MethodName := ⟨"DisplayMap", "toDisplay", "(II)I"⟩
theorem hy14 : y14.cls ≠ "java/lang/invoke/MethodHandle" ∧ y14.cls ≠ "java/lang/invoke/VarHandle" := by decide
theorem pd14 : parseMethodDescriptor y14.desc = some ⟨[.int, .int], some .int⟩ := by decide +kernel
abbrev R14 : Room := { frames := 4, cells := 0, slots := 0, locals := 56 }
abbrev P14 (r : Int32 × St) : Option Value → List OwnC → Prop := fun v H' => v = some (.int r.1) ∧ H' = (Hb 0 r.2)
abbrev W14 (l : Launch) (Z : State) (n0 : Nat) (Q : Option Value → List OwnC → Prop) (k n pc : Nat) (L : List Slot) (S : List Value) (H : List OwnC) : Prop := WP l Z CN lay "DisplayMap" "toDisplay" prog_1_method_16_code 9 (some FieldType.int) R14 n0 0 Q k n pc L S H
def f_toDisplay_23 (n : Nat) (s : St) : Option (Int32 × St) :=
  some ((-1 : Int32), s)
set_option maxRecDepth 65536 in
set_option maxHeartbeats 4000000 in
theorem ok14_23 (l : Launch) (Z : State) (a0 : Array Value) (hw : HW a0 Z) (n0 : Nat) (n : Nat) (s : St) (r : Int32 × St) (h : f_toDisplay_23 n s = some r) : W14 l Z n0 (P14 r) 0 0 23 [.unset, .unset, .unset, .unset, .unset, .unset, .unset, .unset, .unset] [] (Hb 0 s) := by
  unfold f_toDisplay_23 at h
  refine WP.iconst (-1 : Int32) d14_23 rfl ?_
  cases h
  exact WP.ireturn d14_24 rfl (leb rfl) (leb rfl) ⟨rfl, rfl⟩
def f_toDisplay_66 (k42 : Int32 → Int32 → Int32 → St → Option (Int32 × St)) (n : Nat) (v3 : Int32) (v4 : Int32) (v5 : Int32) (s : St) : Option (Int32 × St) :=
  lt (v5 + (1 : Int32)) fun x1 =>
  k42 v3 v4 x1 s
set_option maxRecDepth 65536 in
set_option maxHeartbeats 4000000 in
theorem ok14_66 (l : Launch) (Z : State) (a0 : Array Value) (hw : HW a0 Z) (n0 : Nat) (k42 : Int32 → Int32 → Int32 → St → Option (Int32 × St)) (hk42 : ∀ (v3 : Int32) (v4 : Int32) (v5 : Int32) (s : St) (r : Int32 × St), k42 v3 v4 v5 s = some r → W14 l Z n0 (P14 r) 0 0 42 [.val (.ref 0), .unset, .unset, .val (.int v3), .val (.int v4), .val (.int v5), .unset, .unset, .unset] [] (Hb 0 s)) (n : Nat) (v3 : Int32) (v4 : Int32) (v5 : Int32) (s : St) (r : Int32 × St) (h : f_toDisplay_66 k42 n v3 v4 v5 s = some r) : W14 l Z n0 (P14 r) 0 0 66 [.val (.ref 0), .unset, .unset, .val (.int v3), .val (.int v4), .val (.int v5), .unset, .unset, .unset] [] (Hb 0 s) := by
  unfold f_toDisplay_66 at h
  obtain ⟨x1, ex1, h⟩ := lt_e h
  refine WP.iinc (L' := [.val (.ref 0), .unset, .unset, .val (.int v3), .val (.int v4), .val (.int x1), .unset, .unset, .unset]) (1 : Int32) d14_66 rfl rfl (by subst ex1; rfl) ?_
  refine WP.goto (pc' := 42) d14_69 (by decide) rfl ?_
  exact WP.weak (L' := [.val (.ref 0), .unset, .unset, .val (.int v3), .val (.int v4), .val (.int x1), .unset, .unset, .unset]) ⟨rfl, rfl, rfl, rfl, trivial⟩ (hk42 v3 v4 x1 s _ h)
def f_toDisplay_143 (k100 : Int32 → Int32 → Int32 → Int32 → Int32 → St → Option (Int32 × St)) (n : Nat) (v3 : Int32) (v4 : Int32) (v5 : Int32) (v7 : Int32) (v8 : Int32) (s : St) : Option (Int32 × St) :=
  lt (v8 + (1 : Int32)) fun x1 =>
  k100 v3 v4 v5 v7 x1 s
set_option maxRecDepth 65536 in
set_option maxHeartbeats 4000000 in
theorem ok14_143 (l : Launch) (Z : State) (a0 : Array Value) (hw : HW a0 Z) (n0 : Nat) (k100 : Int32 → Int32 → Int32 → Int32 → Int32 → St → Option (Int32 × St)) (hk100 : ∀ (v3 : Int32) (v4 : Int32) (v5 : Int32) (v7 : Int32) (v8 : Int32) (s : St) (r : Int32 × St), k100 v3 v4 v5 v7 v8 s = some r → W14 l Z n0 (P14 r) 0 0 100 [.val (.ref 0), .unset, .unset, .val (.int v3), .val (.int v4), .val (.int v5), .unset, .val (.int v7), .val (.int v8)] [] (Hb 0 s)) (n : Nat) (v3 : Int32) (v4 : Int32) (v5 : Int32) (v7 : Int32) (v8 : Int32) (s : St) (r : Int32 × St) (h : f_toDisplay_143 k100 n v3 v4 v5 v7 v8 s = some r) : W14 l Z n0 (P14 r) 0 0 143 [.val (.ref 0), .unset, .unset, .val (.int v3), .val (.int v4), .val (.int v5), .unset, .val (.int v7), .val (.int v8)] [] (Hb 0 s) := by
  unfold f_toDisplay_143 at h
  obtain ⟨x1, ex1, h⟩ := lt_e h
  refine WP.iinc (L' := [.val (.ref 0), .unset, .unset, .val (.int v3), .val (.int v4), .val (.int v5), .unset, .val (.int v7), .val (.int x1)]) (1 : Int32) d14_143 rfl rfl (by subst ex1; rfl) ?_
  refine WP.goto (pc' := 100) d14_146 (by decide) rfl ?_
  exact WP.weak (L' := [.val (.ref 0), .unset, .unset, .val (.int v3), .val (.int v4), .val (.int v5), .unset, .val (.int v7), .val (.int x1)]) ⟨rfl, rfl, rfl, rfl, rfl, rfl, trivial⟩ (hk100 v3 v4 v5 v7 x1 s _ h)
def f_toDisplay_149 (n : Nat) (v4 : Int32) (v5 : Int32) (s : St) : Option (Int32 × St) :=
  some ((v4 * (256 : Int32)) + v5, s)
set_option maxRecDepth 65536 in
set_option maxHeartbeats 4000000 in
theorem ok14_149 (l : Launch) (Z : State) (a0 : Array Value) (hw : HW a0 Z) (n0 : Nat) (n : Nat) (v4 : Int32) (v5 : Int32) (s : St) (r : Int32 × St) (h : f_toDisplay_149 n v4 v5 s = some r) : W14 l Z n0 (P14 r) 0 0 149 [.unset, .unset, .unset, .unset, .val (.int v4), .val (.int v5), .unset, .unset, .unset] [] (Hb 0 s) := by
  unfold f_toDisplay_149 at h
  refine WP.iload d14_149 rfl ?_
  refine WP.sipush (256 : Int32) d14_151 rfl ?_
  refine WP.imul d14_154 ?_
  refine WP.iload d14_155 rfl ?_
  refine WP.iadd d14_157 ?_
  cases h
  exact WP.ireturn d14_158 rfl (leb rfl) (leb rfl) ⟨rfl, rfl⟩
def g_toDisplay_100 (k100 : Int32 → Int32 → Int32 → Int32 → Int32 → St → Option (Int32 × St)) (n : Nat) (v3 : Int32) (v4 : Int32) (v5 : Int32) (v7 : Int32) (v8 : Int32) (s : St) : Option (Int32 × St) :=
  if v8 < v7 then
    if v8 < (256 : Int32) then
      if v8 < 0 then
        f_toDisplay_143 k100 n v3 v4 v5 v7 v8 s
      else
        (rd (gA s 3) v8).bind fun x4 =>
        if x4 < v3 then
          (rd (gA s 5) v8).bind fun x6 =>
          lt (v5 + x6) fun x7 =>
          f_toDisplay_143 k100 n v3 v4 x7 v7 v8 s
        else
          f_toDisplay_143 k100 n v3 v4 v5 v7 v8 s
    else
      f_toDisplay_149 n v4 v5 s
  else
    f_toDisplay_149 n v4 v5 s
set_option maxRecDepth 65536 in
set_option maxHeartbeats 4000000 in
theorem okg14_100 (l : Launch) (Z : State) (a0 : Array Value) (hw : HW a0 Z) (n0 : Nat) (k100 : Int32 → Int32 → Int32 → Int32 → Int32 → St → Option (Int32 × St)) (hk100 : ∀ (v3 : Int32) (v4 : Int32) (v5 : Int32) (v7 : Int32) (v8 : Int32) (s : St) (r : Int32 × St), k100 v3 v4 v5 v7 v8 s = some r → W14 l Z n0 (P14 r) 0 0 100 [.val (.ref 0), .unset, .unset, .val (.int v3), .val (.int v4), .val (.int v5), .unset, .val (.int v7), .val (.int v8)] [] (Hb 0 s)) (n : Nat) (v3 : Int32) (v4 : Int32) (v5 : Int32) (v7 : Int32) (v8 : Int32) (s : St) (r : Int32 × St) (h : g_toDisplay_100 k100 n v3 v4 v5 v7 v8 s = some r) : W14 l Z n0 (P14 r) 0 0 100 [.val (.ref 0), .unset, .unset, .val (.int v3), .val (.int v4), .val (.int v5), .unset, .val (.int v7), .val (.int v8)] [] (Hb 0 s) := by
  unfold g_toDisplay_100 at h
  refine WP.iload d14_100 rfl ?_
  refine WP.iload d14_102 rfl ?_
  rcases ite_e h with ⟨hc1, h⟩ | ⟨hc1, h⟩
  ·
    refine WP.icmpN d14_104 (XT.ii_ge_f hc1) ?_
    refine WP.iload d14_107 rfl ?_
    refine WP.sipush (256 : Int32) d14_109 rfl ?_
    rcases ite_e h with ⟨hc2, h⟩ | ⟨hc2, h⟩
    ·
      refine WP.icmpN d14_112 (XT.ii_ge_f hc2) ?_
      refine WP.iload d14_115 rfl ?_
      rcases ite_e h with ⟨hc3, h⟩ | ⟨hc3, h⟩
      ·
        refine WP.ifY (pc' := 143) d14_117 (XT.i0_lt_t hc3) (by decide) rfl ?_
        exact WP.weak (L' := [.val (.ref 0), .unset, .unset, .val (.int v3), .val (.int v4), .val (.int v5), .unset, .val (.int v7), .val (.int v8)]) ⟨rfl, rfl, rfl, rfl, rfl, rfl, trivial⟩ (ok14_143 l Z a0 hw n0 _ hk100 n v3 v4 v5 v7 v8 s _ h)
      ·
        refine WP.ifN d14_117 (XT.i0_lt_f hc3) ?_
        refine WP.aloadN d14_120 rfl ?_
        refine WP.getfield (i := 0) (j := 8) d14_121 (hw _ m_24) rfl rfl rfl ?_
        refine WP.iload d14_124 rfl ?_
        obtain ⟨x4, hx4, h⟩ := Option.bind_eq_some_iff.mp h
        refine WP.iaload (i := 4) d14_126 rfl hx4 ?_
        refine WP.iloadN d14_127 rfl ?_
        rcases ite_e h with ⟨hc5, h⟩ | ⟨hc5, h⟩
        ·
          refine WP.icmpN d14_128 (XT.ii_ge_f hc5) ?_
          refine WP.iload d14_131 rfl ?_
          refine WP.aloadN d14_133 rfl ?_
          refine WP.getfield (i := 0) (j := 10) d14_134 (hw _ m_28) rfl rfl rfl ?_
          refine WP.iload d14_137 rfl ?_
          obtain ⟨x6, hx6, h⟩ := Option.bind_eq_some_iff.mp h
          refine WP.iaload (i := 6) d14_139 rfl hx6 ?_
          refine WP.iadd d14_140 ?_
          obtain ⟨x7, ex7, h⟩ := lt_e h
          refine WP.istore (L' := [.val (.ref 0), .unset, .unset, .val (.int v3), .val (.int v4), .val (.int x7), .unset, .val (.int v7), .val (.int v8)]) d14_141 (leb rfl) (by subst ex7; rfl) ?_
          exact WP.weak (L' := [.val (.ref 0), .unset, .unset, .val (.int v3), .val (.int v4), .val (.int x7), .unset, .val (.int v7), .val (.int v8)]) ⟨rfl, rfl, rfl, rfl, rfl, rfl, trivial⟩ (ok14_143 l Z a0 hw n0 _ hk100 n v3 v4 x7 v7 v8 s _ h)
        ·
          refine WP.icmpY (pc' := 143) d14_128 (XT.ii_ge_t hc5) (by decide) rfl ?_
          exact WP.weak (L' := [.val (.ref 0), .unset, .unset, .val (.int v3), .val (.int v4), .val (.int v5), .unset, .val (.int v7), .val (.int v8)]) ⟨rfl, rfl, rfl, rfl, rfl, rfl, trivial⟩ (ok14_143 l Z a0 hw n0 _ hk100 n v3 v4 v5 v7 v8 s _ h)
    ·
      refine WP.icmpY (pc' := 149) d14_112 (XT.ii_ge_t hc2) (by decide) rfl ?_
      exact WP.weak (L' := [.unset, .unset, .unset, .unset, .val (.int v4), .val (.int v5), .unset, .unset, .unset]) ⟨rfl, rfl, trivial⟩ (ok14_149 l Z a0 hw n0 n v4 v5 s _ h)
  ·
    refine WP.icmpY (pc' := 149) d14_104 (XT.ii_ge_t hc1) (by decide) rfl ?_
    exact WP.weak (L' := [.unset, .unset, .unset, .unset, .val (.int v4), .val (.int v5), .unset, .unset, .unset]) ⟨rfl, rfl, trivial⟩ (ok14_149 l Z a0 hw n0 n v4 v5 s _ h)
def f_toDisplay_100 : Nat → Int32 → Int32 → Int32 → Int32 → Int32 → St → Option (Int32 × St)
  | 0 => fun _ _ _ _ _ _ => none
  | n + 1 => g_toDisplay_100 (f_toDisplay_100 n) n
theorem ok14_100 (l : Launch) (Z : State) (a0 : Array Value) (hw : HW a0 Z) (n0 : Nat) : ∀ (n : Nat) (v3 : Int32) (v4 : Int32) (v5 : Int32) (v7 : Int32) (v8 : Int32) (s : St) (r : Int32 × St), f_toDisplay_100 n v3 v4 v5 v7 v8 s = some r → W14 l Z n0 (P14 r) 0 0 100 [.val (.ref 0), .unset, .unset, .val (.int v3), .val (.int v4), .val (.int v5), .unset, .val (.int v7), .val (.int v8)] [] (Hb 0 s)
  | 0, v3, v4, v5, v7, v8, s, r, h => nomatch (show none = some r from h)
  | n + 1, v3, v4, v5, v7, v8, s, r, h => okg14_100 l Z a0 hw n0 _ (ok14_100 l Z a0 hw n0 n) n v3 v4 v5 v7 v8 s r h
def g_toDisplay_42 (k42 : Int32 → Int32 → Int32 → St → Option (Int32 × St)) (n : Nat) (v3 : Int32) (v4 : Int32) (v5 : Int32) (s : St) : Option (Int32 × St) :=
  if v5 < (gI s 6) then
    (rd (gA s 6) v5).bind fun x2 =>
    if v3 < x2 then
      f_toDisplay_66 k42 n v3 v4 v5 s
    else
      f_toDisplay_66 k42 n v3 v5 v5 s
  else
    (rd (gA s 8) v4).bind fun x4 =>
    (rd (gA s 9) v4).bind fun x5 =>
    lt (x4 + x5) fun x6 =>
    f_toDisplay_100 n v3 v4 (0 : Int32) x6 x4 s
set_option maxRecDepth 65536 in
set_option maxHeartbeats 4000000 in
theorem okg14_42 (l : Launch) (Z : State) (a0 : Array Value) (hw : HW a0 Z) (n0 : Nat) (k42 : Int32 → Int32 → Int32 → St → Option (Int32 × St)) (hk42 : ∀ (v3 : Int32) (v4 : Int32) (v5 : Int32) (s : St) (r : Int32 × St), k42 v3 v4 v5 s = some r → W14 l Z n0 (P14 r) 0 0 42 [.val (.ref 0), .unset, .unset, .val (.int v3), .val (.int v4), .val (.int v5), .unset, .unset, .unset] [] (Hb 0 s)) (n : Nat) (v3 : Int32) (v4 : Int32) (v5 : Int32) (s : St) (r : Int32 × St) (h : g_toDisplay_42 k42 n v3 v4 v5 s = some r) : W14 l Z n0 (P14 r) 0 0 42 [.val (.ref 0), .unset, .unset, .val (.int v3), .val (.int v4), .val (.int v5), .unset, .unset, .unset] [] (Hb 0 s) := by
  unfold g_toDisplay_42 at h
  refine WP.iload d14_42 rfl ?_
  refine WP.aloadN d14_44 rfl ?_
  refine WP.getfield (i := 0) (j := 16) d14_45 (hw _ m_72) rfl rfl rfl ?_
  rcases ite_e h with ⟨hc1, h⟩ | ⟨hc1, h⟩
  ·
    refine WP.icmpN d14_48 (XT.ii_ge_f hc1) ?_
    refine WP.aloadN d14_51 rfl ?_
    refine WP.getfield (i := 0) (j := 12) d14_52 (hw _ m_30) rfl rfl rfl ?_
    refine WP.iload d14_55 rfl ?_
    obtain ⟨x2, hx2, h⟩ := Option.bind_eq_some_iff.mp h
    refine WP.iaload (i := 7) d14_57 rfl hx2 ?_
    refine WP.iloadN d14_58 rfl ?_
    rcases ite_e h with ⟨hc3, h⟩ | ⟨hc3, h⟩
    ·
      refine WP.icmpY (pc' := 66) d14_59 (XT.ii_gt_t hc3) (by decide) rfl ?_
      exact WP.weak (L' := [.val (.ref 0), .unset, .unset, .val (.int v3), .val (.int v4), .val (.int v5), .unset, .unset, .unset]) ⟨rfl, rfl, rfl, rfl, trivial⟩ (ok14_66 l Z a0 hw n0 _ hk42 n v3 v4 v5 s _ h)
    ·
      refine WP.icmpN d14_59 (XT.ii_gt_f hc3) ?_
      refine WP.iload d14_62 rfl ?_
      refine WP.istore (L' := [.val (.ref 0), .unset, .unset, .val (.int v3), .val (.int v5), .val (.int v5), .unset, .unset, .unset]) d14_64 (leb rfl) rfl ?_
      exact WP.weak (L' := [.val (.ref 0), .unset, .unset, .val (.int v3), .val (.int v5), .val (.int v5), .unset, .unset, .unset]) ⟨rfl, rfl, rfl, rfl, trivial⟩ (ok14_66 l Z a0 hw n0 _ hk42 n v3 v5 v5 s _ h)
  ·
    refine WP.icmpY (pc' := 72) d14_48 (XT.ii_ge_t hc1) (by decide) rfl ?_
    refine WP.iconst (0 : Int32) d14_72 rfl ?_
    refine WP.istore (L' := [.val (.ref 0), .unset, .unset, .val (.int v3), .val (.int v4), .val (.int (0 : Int32)), .unset, .unset, .unset]) d14_73 (leb rfl) rfl ?_
    refine WP.aloadN d14_75 rfl ?_
    refine WP.getfield (i := 0) (j := 14) d14_76 (hw _ m_34) rfl rfl rfl ?_
    refine WP.iload d14_79 rfl ?_
    obtain ⟨x4, hx4, h⟩ := Option.bind_eq_some_iff.mp h
    refine WP.iaload (i := 9) d14_81 rfl hx4 ?_
    refine WP.istore (L' := [.val (.ref 0), .unset, .unset, .val (.int v3), .val (.int v4), .val (.int (0 : Int32)), .val (.int x4), .unset, .unset]) d14_82 (leb rfl) rfl ?_
    refine WP.iload d14_84 rfl ?_
    refine WP.aloadN d14_86 rfl ?_
    refine WP.getfield (i := 0) (j := 15) d14_87 (hw _ m_36) rfl rfl rfl ?_
    refine WP.iload d14_90 rfl ?_
    obtain ⟨x5, hx5, h⟩ := Option.bind_eq_some_iff.mp h
    refine WP.iaload (i := 10) d14_92 rfl hx5 ?_
    refine WP.iadd d14_93 ?_
    obtain ⟨x6, ex6, h⟩ := lt_e h
    refine WP.istore (L' := [.val (.ref 0), .unset, .unset, .val (.int v3), .val (.int v4), .val (.int (0 : Int32)), .val (.int x4), .val (.int x6), .unset]) d14_94 (leb rfl) (by subst ex6; rfl) ?_
    refine WP.iload d14_96 rfl ?_
    refine WP.istore (L' := [.val (.ref 0), .unset, .unset, .val (.int v3), .val (.int v4), .val (.int (0 : Int32)), .val (.int x4), .val (.int x6), .val (.int x4)]) d14_98 (leb rfl) rfl ?_
    exact WP.weak (L' := [.val (.ref 0), .unset, .unset, .val (.int v3), .val (.int v4), .val (.int (0 : Int32)), .unset, .val (.int x6), .val (.int x4)]) ⟨rfl, rfl, rfl, rfl, rfl, rfl, trivial⟩ (ok14_100 l Z a0 hw n0 n v3 v4 (0 : Int32) x6 x4 s _ h)
def f_toDisplay_42 : Nat → Int32 → Int32 → Int32 → St → Option (Int32 × St)
  | 0 => fun _ _ _ _ => none
  | n + 1 => g_toDisplay_42 (f_toDisplay_42 n) n
theorem ok14_42 (l : Launch) (Z : State) (a0 : Array Value) (hw : HW a0 Z) (n0 : Nat) : ∀ (n : Nat) (v3 : Int32) (v4 : Int32) (v5 : Int32) (s : St) (r : Int32 × St), f_toDisplay_42 n v3 v4 v5 s = some r → W14 l Z n0 (P14 r) 0 0 42 [.val (.ref 0), .unset, .unset, .val (.int v3), .val (.int v4), .val (.int v5), .unset, .unset, .unset] [] (Hb 0 s)
  | 0, v3, v4, v5, s, r, h => nomatch (show none = some r from h)
  | n + 1, v3, v4, v5, s, r, h => okg14_42 l Z a0 hw n0 _ (ok14_42 l Z a0 hw n0 n) n v3 v4 v5 s r h
def f_toDisplay_11 (n : Nat) (v1 : Int32) (v2 : Int32) (s : St) : Option (Int32 × St) :=
  if v1 < 0 then
    f_toDisplay_23 n s
  else
    if (gI s 0) < v1 then
      f_toDisplay_23 n s
    else
      (f_snapOutOfFold n v1 v2 s).bind fun c3 =>
      (f_ensureLayout n s).bind fun c4 =>
      f_toDisplay_42 n c3 (0 : Int32) (0 : Int32) c4
set_option maxRecDepth 65536 in
set_option maxHeartbeats 4000000 in
theorem ok14_11 (l : Launch) (Z : State) (a0 : Array Value) (hw : HW a0 Z) (n0 : Nat) (n : Nat) (v1 : Int32) (v2 : Int32) (s : St) (r : Int32 × St) (h : f_toDisplay_11 n v1 v2 s = some r) : W14 l Z n0 (P14 r) 0 0 11 [.val (.ref 0), .val (.int v1), .val (.int v2), .unset, .unset, .unset, .unset, .unset, .unset] [] (Hb 0 s) := by
  unfold f_toDisplay_11 at h
  refine WP.iloadN d14_11 rfl ?_
  rcases ite_e h with ⟨hc1, h⟩ | ⟨hc1, h⟩
  ·
    refine WP.ifY (pc' := 23) d14_12 (XT.i0_lt_t hc1) (by decide) rfl ?_
    exact WP.weak (L' := [.unset, .unset, .unset, .unset, .unset, .unset, .unset, .unset, .unset]) trivial (ok14_23 l Z a0 hw n0 n s _ h)
  ·
    refine WP.ifN d14_12 (XT.i0_lt_f hc1) ?_
    refine WP.iloadN d14_15 rfl ?_
    refine WP.aloadN d14_16 rfl ?_
    refine WP.getfield (i := 0) (j := 1) d14_17 (hw _ m_48) rfl rfl rfl ?_
    rcases ite_e h with ⟨hc2, h⟩ | ⟨hc2, h⟩
    ·
      refine WP.icmpN d14_20 (XT.ii_le_f hc2) ?_
      exact WP.weak (L' := [.unset, .unset, .unset, .unset, .unset, .unset, .unset, .unset, .unset]) trivial (ok14_23 l Z a0 hw n0 n s _ h)
    ·
      refine WP.icmpY (pc' := 25) d14_20 (XT.ii_le_t hc2) (by decide) rfl ?_
      refine WP.aloadN d14_25 rfl ?_
      refine WP.iloadN d14_26 rfl ?_
      refine WP.iloadN d14_27 rfl ?_
      obtain ⟨c3, hc3, h⟩ := Option.bind_eq_some_iff.mp h
      refine WP.callP (i := 0) (y := y15) (as := [.int v1, .int v2]) (S := []) d14_28 (hw _ m_112) (hw _ m_114) (hw _ m_1) (hw _ m_113) (hw _ m_115) (hw _ m_2) hy15 rfl (ok15 l Z a0 hw n v1 v2 s _ hc3) rfl (lenOf pd15 rfl) (leb rfl) (leb rfl) (leb rfl) (leb rfl) ?_
      rintro _ _ ⟨rfl, rfl⟩
      show W14 l Z n0 (P14 r) 0 0 31 [.val (.ref 0), .val (.int v1), .val (.int v2), .unset, .unset, .unset, .unset, .unset, .unset] [.int c3] (Hb 0 s)
      refine WP.istoreN (L' := [.val (.ref 0), .val (.int v1), .val (.int v2), .val (.int c3), .unset, .unset, .unset, .unset, .unset]) d14_31 (leb rfl) rfl ?_
      refine WP.aloadN d14_32 rfl ?_
      obtain ⟨c4, hc4, h⟩ := Option.bind_eq_some_iff.mp h
      refine WP.callP (i := 0) (y := y7) (as := []) (S := []) d14_33 (hw _ m_62) (hw _ m_64) (hw _ m_1) (hw _ m_63) (hw _ m_65) (hw _ m_2) hy7 rfl (ok7 l Z a0 hw n s _ hc4) rfl (lenOf pd7 rfl) (leb rfl) (leb rfl) (leb rfl) (leb rfl) ?_
      rintro _ _ ⟨rfl, rfl⟩
      show W14 l Z n0 (P14 r) 0 0 36 [.val (.ref 0), .val (.int v1), .val (.int v2), .val (.int c3), .unset, .unset, .unset, .unset, .unset] [] (Hb 0 c4)
      refine WP.iconst (0 : Int32) d14_36 rfl ?_
      refine WP.istore (L' := [.val (.ref 0), .val (.int v1), .val (.int v2), .val (.int c3), .val (.int (0 : Int32)), .unset, .unset, .unset, .unset]) d14_37 (leb rfl) rfl ?_
      refine WP.iconst (0 : Int32) d14_39 rfl ?_
      refine WP.istore (L' := [.val (.ref 0), .val (.int v1), .val (.int v2), .val (.int c3), .val (.int (0 : Int32)), .val (.int (0 : Int32)), .unset, .unset, .unset]) d14_40 (leb rfl) rfl ?_
      exact WP.weak (L' := [.val (.ref 0), .unset, .unset, .val (.int c3), .val (.int (0 : Int32)), .val (.int (0 : Int32)), .unset, .unset, .unset]) ⟨rfl, rfl, rfl, rfl, trivial⟩ (ok14_42 l Z a0 hw n0 n c3 (0 : Int32) (0 : Int32) c4 _ h)
def f_toDisplay (n : Nat) (p1 : Int32) (p2 : Int32) (s : St) : Option (Int32 × St) :=
  if p2 = 0 then
    f_toDisplay_11 n p1 p2 s
  else
    if p2 = (1 : Int32) then
      f_toDisplay_11 n p1 p2 s
    else
      some ((-1 : Int32), s)
set_option maxRecDepth 65536 in
set_option maxHeartbeats 4000000 in
theorem ok14 (l : Launch) (Z : State) (a0 : Array Value) (hw : HW a0 Z) (n : Nat) (p1 : Int32) (p2 : Int32) (s : St) (r : Int32 × St) (h : f_toDisplay n p1 p2 s = some r) : CS l Z CN lay y14 prog_1_method_16_code 9 (some FieldType.int) R14 0 [.ref 0, .int p1, .int p2] (Hb 0 s) (P14 r) := by
  refine CS.of_wp pn_cls (leb rfl) fun n0 => ?_
  show W14 l Z n0 (P14 r) 0 0 0 [.val (.ref 0), .val (.int p1), .val (.int p2), .unset, .unset, .unset, .unset, .unset, .unset] [] (Hb 0 s)
  unfold f_toDisplay at h
  refine WP.iloadN d14_0 rfl ?_
  rcases ite_e h with ⟨hc1, h⟩ | ⟨hc1, h⟩
  ·
    refine WP.ifY (pc' := 11) d14_1 (XT.i0_eq_t hc1) (by decide) rfl ?_
    exact WP.weak (L' := [.val (.ref 0), .val (.int p1), .val (.int p2), .unset, .unset, .unset, .unset, .unset, .unset]) ⟨rfl, rfl, rfl, trivial⟩ (ok14_11 l Z a0 hw n0 n p1 p2 s _ h)
  ·
    refine WP.ifN d14_1 (XT.i0_eq_f hc1) ?_
    refine WP.iloadN d14_4 rfl ?_
    refine WP.iconst (1 : Int32) d14_5 rfl ?_
    rcases ite_e h with ⟨hc2, h⟩ | ⟨hc2, h⟩
    ·
      refine WP.icmpY (pc' := 11) d14_6 (XT.ii_eq_t hc2) (by decide) rfl ?_
      exact WP.weak (L' := [.val (.ref 0), .val (.int p1), .val (.int p2), .unset, .unset, .unset, .unset, .unset, .unset]) ⟨rfl, rfl, rfl, trivial⟩ (ok14_11 l Z a0 hw n0 n p1 p2 s _ h)
    ·
      refine WP.icmpN d14_6 (XT.ii_eq_f hc2) ?_
      refine WP.iconst (-1 : Int32) d14_9 rfl ?_
      cases h
      exact WP.ireturn d14_10 rfl (leb rfl) (leb rfl) ⟨rfl, rfl⟩
theorem d17_0 : dc prog_1_method_24_code 0 (.aload_n 0) 1 := by decide +kernel
theorem d17_1 : dc prog_1_method_24_code 1 (.getfield 37) 3 := by decide +kernel
theorem d17_4 : dc prog_1_method_24_code 4 (.iload_n 1) 1 := by decide +kernel
theorem d17_5 : dc prog_1_method_24_code 5 (.iaload) 1 := by decide +kernel
theorem d17_6 : dc prog_1_method_24_code 6 (.istore_n 2) 1 := by decide +kernel
theorem d17_7 : dc prog_1_method_24_code 7 (.aload_n 0) 1 := by decide +kernel
theorem d17_8 : dc prog_1_method_24_code 8 (.getfield 34) 3 := by decide +kernel
theorem d17_11 : dc prog_1_method_24_code 11 (.iload_n 1) 1 := by decide +kernel
theorem d17_12 : dc prog_1_method_24_code 12 (.iaload) 1 := by decide +kernel
theorem d17_13 : dc prog_1_method_24_code 13 (.iload_n 2) 1 := by decide +kernel
theorem d17_14 : dc prog_1_method_24_code 14 (.iadd) 1 := by decide +kernel
theorem d17_15 : dc prog_1_method_24_code 15 (.iconst 1) 1 := by decide +kernel
theorem d17_16 : dc prog_1_method_24_code 16 (.isub) 1 := by decide +kernel
theorem d17_17 : dc prog_1_method_24_code 17 (.istore_n 3) 1 := by decide +kernel
theorem d17_18 : dc prog_1_method_24_code 18 (.iload_n 2) 1 := by decide +kernel
theorem d17_19 : dc prog_1_method_24_code 19 (.ifCond .le 14) 3 := by decide +kernel
theorem d17_22 : dc prog_1_method_24_code 22 (.iload_n 3) 1 := by decide +kernel
theorem d17_23 : dc prog_1_method_24_code 23 (.ifCond .lt 10) 3 := by decide +kernel
theorem d17_26 : dc prog_1_method_24_code 26 (.iload_n 3) 1 := by decide +kernel
theorem d17_27 : dc prog_1_method_24_code 27 (.sipush 256) 3 := by decide +kernel
theorem d17_30 : dc prog_1_method_24_code 30 (.if_icmp .lt 10) 3 := by decide +kernel
theorem d17_33 : dc prog_1_method_24_code 33 (.aload_n 0) 1 := by decide +kernel
theorem d17_34 : dc prog_1_method_24_code 34 (.getfield 28) 3 := by decide +kernel
theorem d17_37 : dc prog_1_method_24_code 37 (.iload_n 1) 1 := by decide +kernel
theorem d17_38 : dc prog_1_method_24_code 38 (.iaload) 1 := by decide +kernel
theorem d17_39 : dc prog_1_method_24_code 39 (.ireturn) 1 := by decide +kernel
theorem d17_40 : dc prog_1_method_24_code 40 (.aload_n 0) 1 := by decide +kernel
theorem d17_41 : dc prog_1_method_24_code 41 (.getfield 22) 3 := by decide +kernel
theorem d17_44 : dc prog_1_method_24_code 44 (.iload_n 3) 1 := by decide +kernel
theorem d17_45 : dc prog_1_method_24_code 45 (.iaload) 1 := by decide +kernel
theorem d17_46 : dc prog_1_method_24_code 46 (.ireturn) 1 := by decide +kernel
abbrev y17 : MethodName := ⟨"DisplayMap", "rowEnd", "(I)I"⟩
theorem hy17 : y17.cls ≠ "java/lang/invoke/MethodHandle" ∧ y17.cls ≠ "java/lang/invoke/VarHandle" := by decide
theorem pd17 : parseMethodDescriptor y17.desc = some ⟨[.int], some .int⟩ := by decide +kernel
abbrev R17 : Room := { frames := 0, cells := 0, slots := 0, locals := 0 }
abbrev P17 (s : St) (r : Int32) : Option Value → List OwnC → Prop := fun v H' => v = some (.int r) ∧ H' = (Hb 0 s)
abbrev W17 (l : Launch) (Z : State) (n0 : Nat) (Q : Option Value → List OwnC → Prop) (k n pc : Nat) (L : List Slot) (S : List Value) (H : List OwnC) : Prop := WP l Z CN lay "DisplayMap" "rowEnd" prog_1_method_24_code 4 (some FieldType.int) R17 n0 0 Q k n pc L S H
def f_rowEnd_33 (v1 : Int32) (s : St) : Option (Int32) :=
  (rd (gA s 6) v1).bind fun x1 =>
  some x1
set_option maxRecDepth 65536 in
set_option maxHeartbeats 4000000 in
theorem ok17_33 (l : Launch) (Z : State) (a0 : Array Value) (hw : HW a0 Z) (n0 : Nat) (v1 : Int32) (s : St) (r : Int32) (h : f_rowEnd_33 v1 s = some r) : W17 l Z n0 (P17 s r) 0 0 33 [.val (.ref 0), .val (.int v1), .unset, .unset] [] (Hb 0 s) := by
  unfold f_rowEnd_33 at h
  refine WP.aloadN d17_33 rfl ?_
  refine WP.getfield (i := 0) (j := 12) d17_34 (hw _ m_30) rfl rfl rfl ?_
  refine WP.iloadN d17_37 rfl ?_
  obtain ⟨x1, hx1, h⟩ := Option.bind_eq_some_iff.mp h
  refine WP.iaload (i := 7) d17_38 rfl hx1 ?_
  cases h
  exact WP.ireturn d17_39 rfl (leb rfl) (leb rfl) ⟨rfl, rfl⟩
def f_rowEnd (p1 : Int32) (s : St) : Option (Int32) :=
  (rd (gA s 9) p1).bind fun x1 =>
  (rd (gA s 8) p1).bind fun x2 =>
  lt ((x2 + x1) - (1 : Int32)) fun x3 =>
  if 0 < x1 then
    if x3 < 0 then
      f_rowEnd_33 p1 s
    else
      if x3 < (256 : Int32) then
        (rd (gA s 4) x3).bind fun x7 =>
        some x7
      else
        f_rowEnd_33 p1 s
  else
    f_rowEnd_33 p1 s
set_option maxRecDepth 65536 in
set_option maxHeartbeats 4000000 in
theorem ok17 (l : Launch) (Z : State) (a0 : Array Value) (hw : HW a0 Z) (p1 : Int32) (s : St) (r : Int32) (h : f_rowEnd p1 s = some r) : CS l Z CN lay y17 prog_1_method_24_code 4 (some FieldType.int) R17 0 [.ref 0, .int p1] (Hb 0 s) (P17 s r) := by
  refine CS.of_wp pn_cls (leb rfl) fun n0 => ?_
  show W17 l Z n0 (P17 s r) 0 0 0 [.val (.ref 0), .val (.int p1), .unset, .unset] [] (Hb 0 s)
  unfold f_rowEnd at h
  refine WP.aloadN d17_0 rfl ?_
  refine WP.getfield (i := 0) (j := 15) d17_1 (hw _ m_36) rfl rfl rfl ?_
  refine WP.iloadN d17_4 rfl ?_
  obtain ⟨x1, hx1, h⟩ := Option.bind_eq_some_iff.mp h
  refine WP.iaload (i := 10) d17_5 rfl hx1 ?_
  refine WP.istoreN (L' := [.val (.ref 0), .val (.int p1), .val (.int x1), .unset]) d17_6 (leb rfl) rfl ?_
  refine WP.aloadN d17_7 rfl ?_
  refine WP.getfield (i := 0) (j := 14) d17_8 (hw _ m_34) rfl rfl rfl ?_
  refine WP.iloadN d17_11 rfl ?_
  obtain ⟨x2, hx2, h⟩ := Option.bind_eq_some_iff.mp h
  refine WP.iaload (i := 9) d17_12 rfl hx2 ?_
  refine WP.iloadN d17_13 rfl ?_
  refine WP.iadd d17_14 ?_
  refine WP.iconst (1 : Int32) d17_15 rfl ?_
  refine WP.isub d17_16 ?_
  obtain ⟨x3, ex3, h⟩ := lt_e h
  refine WP.istoreN (L' := [.val (.ref 0), .val (.int p1), .val (.int x1), .val (.int x3)]) d17_17 (leb rfl) (by subst ex3; rfl) ?_
  refine WP.iloadN d17_18 rfl ?_
  rcases ite_e h with ⟨hc4, h⟩ | ⟨hc4, h⟩
  ·
    refine WP.ifN d17_19 (XT.i0_le_f hc4) ?_
    refine WP.iloadN d17_22 rfl ?_
    rcases ite_e h with ⟨hc5, h⟩ | ⟨hc5, h⟩
    ·
      refine WP.ifY (pc' := 33) d17_23 (XT.i0_lt_t hc5) (by decide) rfl ?_
      exact WP.weak (L' := [.val (.ref 0), .val (.int p1), .unset, .unset]) ⟨rfl, rfl, trivial⟩ (ok17_33 l Z a0 hw n0 p1 s _ h)
    ·
      refine WP.ifN d17_23 (XT.i0_lt_f hc5) ?_
      refine WP.iloadN d17_26 rfl ?_
      refine WP.sipush (256 : Int32) d17_27 rfl ?_
      rcases ite_e h with ⟨hc6, h⟩ | ⟨hc6, h⟩
      ·
        refine WP.icmpY (pc' := 40) d17_30 (XT.ii_lt_t hc6) (by decide) rfl ?_
        refine WP.aloadN d17_40 rfl ?_
        refine WP.getfield (i := 0) (j := 9) d17_41 (hw _ m_26) rfl rfl rfl ?_
        refine WP.iloadN d17_44 rfl ?_
        obtain ⟨x7, hx7, h⟩ := Option.bind_eq_some_iff.mp h
        refine WP.iaload (i := 5) d17_45 rfl hx7 ?_
        cases h
        exact WP.ireturn d17_46 rfl (leb rfl) (leb rfl) ⟨rfl, rfl⟩
      ·
        refine WP.icmpN d17_30 (XT.ii_lt_f hc6) ?_
        exact WP.weak (L' := [.val (.ref 0), .val (.int p1), .unset, .unset]) ⟨rfl, rfl, trivial⟩ (ok17_33 l Z a0 hw n0 p1 s _ h)
  ·
    refine WP.ifY (pc' := 33) d17_19 (XT.i0_le_t hc4) (by decide) rfl ?_
    exact WP.weak (L' := [.val (.ref 0), .val (.int p1), .unset, .unset]) ⟨rfl, rfl, trivial⟩ (ok17_33 l Z a0 hw n0 p1 s _ h)
theorem d16_0 : dc prog_1_method_17_code 0 (.iload_n 3) 1 := by decide +kernel
theorem d16_1 : dc prog_1_method_17_code 1 (.ifCond .eq 10) 3 := by decide +kernel
theorem d16_4 : dc prog_1_method_17_code 4 (.iload_n 3) 1 := by decide +kernel
theorem d16_5 : dc prog_1_method_17_code 5 (.iconst 1) 1 := by decide +kernel
theorem d16_6 : dc prog_1_method_17_code 6 (.if_icmp .eq 5) 3 := by decide +kernel
theorem d16_9 : dc prog_1_method_17_code 9 (.iconst (-1)) 1 := by decide +kernel
theorem d16_10 : dc prog_1_method_17_code 10 (.ireturn) 1 := by decide +kernel
theorem d16_11 : dc prog_1_method_17_code 11 (.aload_n 0) 1 := by decide +kernel
theorem d16_12 : dc prog_1_method_17_code 12 (.invokevirtual 72) 3 := by decide +kernel
theorem d16_15 : dc prog_1_method_17_code 15 (.iload_n 1) 1 := by decide +kernel
theorem d16_16 : dc prog_1_method_17_code 16 (.ifCond .lt 11) 3 := by decide +kernel
theorem d16_19 : dc prog_1_method_17_code 19 (.iload_n 1) 1 := by decide +kernel
theorem d16_20 : dc prog_1_method_17_code 20 (.aload_n 0) 1 := by decide +kernel
theorem d16_21 : dc prog_1_method_17_code 21 (.getfield 75) 3 := by decide +kernel
theorem d16_24 : dc prog_1_method_17_code 24 (.if_icmp .lt 5) 3 := by decide +kernel
theorem d16_27 : dc prog_1_method_17_code 27 (.iconst (-1)) 1 := by decide +kernel
theorem d16_28 : dc prog_1_method_17_code 28 (.ireturn) 1 := by decide +kernel
theorem d16_29 : dc prog_1_method_17_code 29 (.iload_n 2) 1 := by decide +kernel
theorem d16_30 : dc prog_1_method_17_code 30 (.ifCond .ge 5) 3 := by decide +kernel
theorem d16_33 : dc prog_1_method_17_code 33 (.iconst (-1)) 1 := by decide +kernel
theorem d16_34 : dc prog_1_method_17_code 34 (.ireturn) 1 := by decide +kernel
theorem d16_35 : dc prog_1_method_17_code 35 (.iconst 0) 1 := by decide +kernel
theorem d16_36 : dc prog_1_method_17_code 36 (.istore 4) 2 := by decide +kernel
theorem d16_38 : dc prog_1_method_17_code 38 (.aload_n 0) 1 := by decide +kernel
theorem d16_39 : dc prog_1_method_17_code 39 (.getfield 34) 3 := by decide +kernel
theorem d16_42 : dc prog_1_method_17_code 42 (.iload_n 1) 1 := by decide +kernel
theorem d16_43 : dc prog_1_method_17_code 43 (.iaload) 1 := by decide +kernel
theorem d16_44 : dc prog_1_method_17_code 44 (.istore 5) 2 := by decide +kernel
theorem d16_46 : dc prog_1_method_17_code 46 (.iload 5) 2 := by decide +kernel
theorem d16_48 : dc prog_1_method_17_code 48 (.aload_n 0) 1 := by decide +kernel
theorem d16_49 : dc prog_1_method_17_code 49 (.getfield 37) 3 := by decide +kernel
theorem d16_52 : dc prog_1_method_17_code 52 (.iload_n 1) 1 := by decide +kernel
theorem d16_53 : dc prog_1_method_17_code 53 (.iaload) 1 := by decide +kernel
theorem d16_54 : dc prog_1_method_17_code 54 (.iadd) 1 := by decide +kernel
theorem d16_55 : dc prog_1_method_17_code 55 (.istore 6) 2 := by decide +kernel
theorem d16_57 : dc prog_1_method_17_code 57 (.iload 5) 2 := by decide +kernel
theorem d16_59 : dc prog_1_method_17_code 59 (.istore 7) 2 := by decide +kernel
theorem d16_61 : dc prog_1_method_17_code 61 (.iload 7) 2 := by decide +kernel
theorem d16_63 : dc prog_1_method_17_code 63 (.iload 6) 2 := by decide +kernel
theorem d16_65 : dc prog_1_method_17_code 65 (.if_icmp .ge 76) 3 := by decide +kernel
theorem d16_68 : dc prog_1_method_17_code 68 (.iload 7) 2 := by decide +kernel
theorem d16_70 : dc prog_1_method_17_code 70 (.sipush 256) 3 := by decide +kernel
theorem d16_73 : dc prog_1_method_17_code 73 (.if_icmp .ge 68) 3 := by decide +kernel
theorem d16_76 : dc prog_1_method_17_code 76 (.iload 7) 2 := by decide +kernel
theorem d16_78 : dc prog_1_method_17_code 78 (.ifCond .ge 6) 3 := by decide +kernel
theorem d16_81 : dc prog_1_method_17_code 81 (.goto 54) 3 := by decide +kernel
theorem d16_84 : dc prog_1_method_17_code 84 (.aload_n 0) 1 := by decide +kernel
theorem d16_85 : dc prog_1_method_17_code 85 (.getfield 25) 3 := by decide +kernel
theorem d16_88 : dc prog_1_method_17_code 88 (.iload 7) 2 := by decide +kernel
theorem d16_90 : dc prog_1_method_17_code 90 (.iaload) 1 := by decide +kernel
theorem d16_91 : dc prog_1_method_17_code 91 (.istore 8) 2 := by decide +kernel
theorem d16_93 : dc prog_1_method_17_code 93 (.iload_n 2) 1 := by decide +kernel
theorem d16_94 : dc prog_1_method_17_code 94 (.iload 4) 2 := by decide +kernel
theorem d16_96 : dc prog_1_method_17_code 96 (.iload 8) 2 := by decide +kernel
theorem d16_98 : dc prog_1_method_17_code 98 (.iadd) 1 := by decide +kernel
theorem d16_99 : dc prog_1_method_17_code 99 (.if_icmp .ge 29) 3 := by decide +kernel
theorem d16_102 : dc prog_1_method_17_code 102 (.iload_n 2) 1 := by decide +kernel
theorem d16_103 : dc prog_1_method_17_code 103 (.iload 4) 2 := by decide +kernel
theorem d16_105 : dc prog_1_method_17_code 105 (.if_icmp .eq 7) 3 := by decide +kernel
theorem d16_108 : dc prog_1_method_17_code 108 (.iload_n 3) 1 := by decide +kernel
theorem d16_109 : dc prog_1_method_17_code 109 (.ifCond .ne 11) 3 := by decide +kernel
theorem d16_112 : dc prog_1_method_17_code 112 (.aload_n 0) 1 := by decide +kernel
theorem d16_113 : dc prog_1_method_17_code 113 (.getfield 19) 3 := by decide +kernel
theorem d16_116 : dc prog_1_method_17_code 116 (.iload 7) 2 := by decide +kernel
theorem d16_118 : dc prog_1_method_17_code 118 (.iaload) 1 := by decide +kernel
theorem d16_119 : dc prog_1_method_17_code 119 (.ireturn) 1 := by decide +kernel
theorem d16_120 : dc prog_1_method_17_code 120 (.aload_n 0) 1 := by decide +kernel
theorem d16_121 : dc prog_1_method_17_code 121 (.getfield 22) 3 := by decide +kernel
theorem d16_124 : dc prog_1_method_17_code 124 (.iload 7) 2 := by decide +kernel
theorem d16_126 : dc prog_1_method_17_code 126 (.iaload) 1 := by decide +kernel
theorem d16_127 : dc prog_1_method_17_code 127 (.ireturn) 1 := by decide +kernel
theorem d16_128 : dc prog_1_method_17_code 128 (.iload 4) 2 := by decide +kernel
theorem d16_130 : dc prog_1_method_17_code 130 (.iload 8) 2 := by decide +kernel
theorem d16_132 : dc prog_1_method_17_code 132 (.iadd) 1 := by decide +kernel
theorem d16_133 : dc prog_1_method_17_code 133 (.istore 4) 2 := by decide +kernel
theorem d16_135 : dc prog_1_method_17_code 135 (.iinc 7 1) 3 := by decide +kernel
theorem d16_138 : dc prog_1_method_17_code 138 (.goto (-77)) 3 := by decide +kernel
theorem d16_141 : dc prog_1_method_17_code 141 (.aload_n 0) 1 := by decide +kernel
theorem d16_142 : dc prog_1_method_17_code 142 (.iload_n 1) 1 := by decide +kernel
theorem d16_143 : dc prog_1_method_17_code 143 (.invokevirtual 82) 3 := by decide +kernel
theorem d16_146 : dc prog_1_method_17_code 146 (.ireturn) 1 := by decide +kernel
abbrev y16 : MethodName := ⟨"DisplayMap", "fromDisplay", "(III)I"⟩
theorem hy16 : y16.cls ≠ "java/lang/invoke/MethodHandle" ∧ y16.cls ≠ "java/lang/invoke/VarHandle" := by decide
theorem pd16 : parseMethodDescriptor y16.desc = some ⟨[.int, .int, .int], some .int⟩ := by decide +kernel
abbrev R16 : Room := { frames := 4, cells := 0, slots := 0, locals := 56 }
abbrev P16 (r : Int32 × St) : Option Value → List OwnC → Prop := fun v H' => v = some (.int r.1) ∧ H' = (Hb 0 r.2)
abbrev W16 (l : Launch) (Z : State) (n0 : Nat) (Q : Option Value → List OwnC → Prop) (k n pc : Nat) (L : List Slot) (S : List Value) (H : List OwnC) : Prop := WP l Z CN lay "DisplayMap" "fromDisplay" prog_1_method_17_code 9 (some FieldType.int) R16 n0 0 Q k n pc L S H
def f_fromDisplay_27 (n : Nat) (s : St) : Option (Int32 × St) :=
  some ((-1 : Int32), s)
set_option maxRecDepth 65536 in
set_option maxHeartbeats 4000000 in
theorem ok16_27 (l : Launch) (Z : State) (a0 : Array Value) (hw : HW a0 Z) (n0 : Nat) (n : Nat) (s : St) (r : Int32 × St) (h : f_fromDisplay_27 n s = some r) : W16 l Z n0 (P16 r) 0 0 27 [.unset, .unset, .unset, .unset, .unset, .unset, .unset, .unset, .unset] [] (Hb 0 s) := by
  unfold f_fromDisplay_27 at h
  refine WP.iconst (-1 : Int32) d16_27 rfl ?_
  cases h
  exact WP.ireturn d16_28 rfl (leb rfl) (leb rfl) ⟨rfl, rfl⟩
def f_fromDisplay_112 (n : Nat) (v7 : Int32) (s : St) : Option (Int32 × St) :=
  (rd (gA s 3) v7).bind fun x1 =>
  some (x1, s)
set_option maxRecDepth 65536 in
set_option maxHeartbeats 4000000 in
theorem ok16_112 (l : Launch) (Z : State) (a0 : Array Value) (hw : HW a0 Z) (n0 : Nat) (n : Nat) (v7 : Int32) (s : St) (r : Int32 × St) (h : f_fromDisplay_112 n v7 s = some r) : W16 l Z n0 (P16 r) 0 0 112 [.val (.ref 0), .unset, .unset, .unset, .unset, .unset, .unset, .val (.int v7), .unset] [] (Hb 0 s) := by
  unfold f_fromDisplay_112 at h
  refine WP.aloadN d16_112 rfl ?_
  refine WP.getfield (i := 0) (j := 8) d16_113 (hw _ m_24) rfl rfl rfl ?_
  refine WP.iload d16_116 rfl ?_
  obtain ⟨x1, hx1, h⟩ := Option.bind_eq_some_iff.mp h
  refine WP.iaload (i := 4) d16_118 rfl hx1 ?_
  cases h
  exact WP.ireturn d16_119 rfl (leb rfl) (leb rfl) ⟨rfl, rfl⟩
def f_fromDisplay_135 (k61 : Int32 → Int32 → Int32 → Int32 → Int32 → Int32 → St → Option (Int32 × St)) (n : Nat) (v1 : Int32) (v2 : Int32) (v3 : Int32) (v4 : Int32) (v6 : Int32) (v7 : Int32) (s : St) : Option (Int32 × St) :=
  lt (v7 + (1 : Int32)) fun x1 =>
  k61 v1 v2 v3 v4 v6 x1 s
set_option maxRecDepth 65536 in
set_option maxHeartbeats 4000000 in
theorem ok16_135 (l : Launch) (Z : State) (a0 : Array Value) (hw : HW a0 Z) (n0 : Nat) (k61 : Int32 → Int32 → Int32 → Int32 → Int32 → Int32 → St → Option (Int32 × St)) (hk61 : ∀ (v1 : Int32) (v2 : Int32) (v3 : Int32) (v4 : Int32) (v6 : Int32) (v7 : Int32) (s : St) (r : Int32 × St), k61 v1 v2 v3 v4 v6 v7 s = some r → W16 l Z n0 (P16 r) 0 0 61 [.val (.ref 0), .val (.int v1), .val (.int v2), .val (.int v3), .val (.int v4), .unset, .val (.int v6), .val (.int v7), .unset] [] (Hb 0 s)) (n : Nat) (v1 : Int32) (v2 : Int32) (v3 : Int32) (v4 : Int32) (v6 : Int32) (v7 : Int32) (s : St) (r : Int32 × St) (h : f_fromDisplay_135 k61 n v1 v2 v3 v4 v6 v7 s = some r) : W16 l Z n0 (P16 r) 0 0 135 [.val (.ref 0), .val (.int v1), .val (.int v2), .val (.int v3), .val (.int v4), .unset, .val (.int v6), .val (.int v7), .unset] [] (Hb 0 s) := by
  unfold f_fromDisplay_135 at h
  obtain ⟨x1, ex1, h⟩ := lt_e h
  refine WP.iinc (L' := [.val (.ref 0), .val (.int v1), .val (.int v2), .val (.int v3), .val (.int v4), .unset, .val (.int v6), .val (.int x1), .unset]) (1 : Int32) d16_135 rfl rfl (by subst ex1; rfl) ?_
  refine WP.goto (pc' := 61) d16_138 (by decide) rfl ?_
  exact WP.weak (L' := [.val (.ref 0), .val (.int v1), .val (.int v2), .val (.int v3), .val (.int v4), .unset, .val (.int v6), .val (.int x1), .unset]) ⟨rfl, rfl, rfl, rfl, rfl, rfl, rfl, trivial⟩ (hk61 v1 v2 v3 v4 v6 x1 s _ h)
def f_fromDisplay_141 (n : Nat) (v1 : Int32) (s : St) : Option (Int32 × St) :=
  (f_rowEnd v1 s).bind fun c1 =>
  some (c1, s)
set_option maxRecDepth 65536 in
set_option maxHeartbeats 4000000 in
theorem ok16_141 (l : Launch) (Z : State) (a0 : Array Value) (hw : HW a0 Z) (n0 : Nat) (n : Nat) (v1 : Int32) (s : St) (r : Int32 × St) (h : f_fromDisplay_141 n v1 s = some r) : W16 l Z n0 (P16 r) 0 0 141 [.val (.ref 0), .val (.int v1), .unset, .unset, .unset, .unset, .unset, .unset, .unset] [] (Hb 0 s) := by
  unfold f_fromDisplay_141 at h
  refine WP.aloadN d16_141 rfl ?_
  refine WP.iloadN d16_142 rfl ?_
  obtain ⟨c1, hc1, h⟩ := Option.bind_eq_some_iff.mp h
  refine WP.callP (i := 0) (y := y17) (as := [.int v1]) (S := []) d16_143 (hw _ m_121) (hw _ m_123) (hw _ m_1) (hw _ m_122) (hw _ m_124) (hw _ m_2) hy17 rfl (ok17 l Z a0 hw v1 s _ hc1) rfl (lenOf pd17 rfl) (leb rfl) (leb rfl) (leb rfl) (leb rfl) ?_
  rintro _ _ ⟨rfl, rfl⟩
  show W16 l Z n0 (P16 r) 0 0 146 [.val (.ref 0), .val (.int v1), .unset, .unset, .unset, .unset, .unset, .unset, .unset] [.int c1] (Hb 0 s)
  cases h
  exact WP.ireturn d16_146 rfl (leb rfl) (leb rfl) ⟨rfl, rfl⟩
def g_fromDisplay_61 (k61 : Int32 → Int32 → Int32 → Int32 → Int32 → Int32 → St → Option (Int32 × St)) (n : Nat) (v1 : Int32) (v2 : Int32) (v3 : Int32) (v4 : Int32) (v6 : Int32) (v7 : Int32) (s : St) : Option (Int32 × St) :=
  if v7 < v6 then
    if v7 < (256 : Int32) then
      if v7 < 0 then
        f_fromDisplay_135 k61 n v1 v2 v3 v4 v6 v7 s
      else
        (rd (gA s 5) v7).bind fun x4 =>
        if v2 < (v4 + x4) then
          if v2 = v4 then
            f_fromDisplay_112 n v7 s
          else
            if v3 = 0 then
              f_fromDisplay_112 n v7 s
            else
              (rd (gA s 4) v7).bind fun x8 =>
              some (x8, s)
        else
          lt (v4 + x4) fun x9 =>
          f_fromDisplay_135 k61 n v1 v2 v3 x9 v6 v7 s
    else
      f_fromDisplay_141 n v1 s
  else
    f_fromDisplay_141 n v1 s
set_option maxRecDepth 65536 in
set_option maxHeartbeats 4000000 in
theorem okg16_61 (l : Launch) (Z : State) (a0 : Array Value) (hw : HW a0 Z) (n0 : Nat) (k61 : Int32 → Int32 → Int32 → Int32 → Int32 → Int32 → St → Option (Int32 × St)) (hk61 : ∀ (v1 : Int32) (v2 : Int32) (v3 : Int32) (v4 : Int32) (v6 : Int32) (v7 : Int32) (s : St) (r : Int32 × St), k61 v1 v2 v3 v4 v6 v7 s = some r → W16 l Z n0 (P16 r) 0 0 61 [.val (.ref 0), .val (.int v1), .val (.int v2), .val (.int v3), .val (.int v4), .unset, .val (.int v6), .val (.int v7), .unset] [] (Hb 0 s)) (n : Nat) (v1 : Int32) (v2 : Int32) (v3 : Int32) (v4 : Int32) (v6 : Int32) (v7 : Int32) (s : St) (r : Int32 × St) (h : g_fromDisplay_61 k61 n v1 v2 v3 v4 v6 v7 s = some r) : W16 l Z n0 (P16 r) 0 0 61 [.val (.ref 0), .val (.int v1), .val (.int v2), .val (.int v3), .val (.int v4), .unset, .val (.int v6), .val (.int v7), .unset] [] (Hb 0 s) := by
  unfold g_fromDisplay_61 at h
  refine WP.iload d16_61 rfl ?_
  refine WP.iload d16_63 rfl ?_
  rcases ite_e h with ⟨hc1, h⟩ | ⟨hc1, h⟩
  ·
    refine WP.icmpN d16_65 (XT.ii_ge_f hc1) ?_
    refine WP.iload d16_68 rfl ?_
    refine WP.sipush (256 : Int32) d16_70 rfl ?_
    rcases ite_e h with ⟨hc2, h⟩ | ⟨hc2, h⟩
    ·
      refine WP.icmpN d16_73 (XT.ii_ge_f hc2) ?_
      refine WP.iload d16_76 rfl ?_
      rcases ite_e h with ⟨hc3, h⟩ | ⟨hc3, h⟩
      ·
        refine WP.ifN d16_78 (XT.i0_ge_f hc3) ?_
        refine WP.goto (pc' := 135) d16_81 (by decide) rfl ?_
        exact WP.weak (L' := [.val (.ref 0), .val (.int v1), .val (.int v2), .val (.int v3), .val (.int v4), .unset, .val (.int v6), .val (.int v7), .unset]) ⟨rfl, rfl, rfl, rfl, rfl, rfl, rfl, trivial⟩ (ok16_135 l Z a0 hw n0 _ hk61 n v1 v2 v3 v4 v6 v7 s _ h)
      ·
        refine WP.ifY (pc' := 84) d16_78 (XT.i0_ge_t hc3) (by decide) rfl ?_
        refine WP.aloadN d16_84 rfl ?_
        refine WP.getfield (i := 0) (j := 10) d16_85 (hw _ m_28) rfl rfl rfl ?_
        refine WP.iload d16_88 rfl ?_
        obtain ⟨x4, hx4, h⟩ := Option.bind_eq_some_iff.mp h
        refine WP.iaload (i := 6) d16_90 rfl hx4 ?_
        refine WP.istore (L' := [.val (.ref 0), .val (.int v1), .val (.int v2), .val (.int v3), .val (.int v4), .unset, .val (.int v6), .val (.int v7), .val (.int x4)]) d16_91 (leb rfl) rfl ?_
        refine WP.iloadN d16_93 rfl ?_
        refine WP.iload d16_94 rfl ?_
        refine WP.iload d16_96 rfl ?_
        refine WP.iadd d16_98 ?_
        rcases ite_e h with ⟨hc5, h⟩ | ⟨hc5, h⟩
        ·
          refine WP.icmpN d16_99 (XT.ii_ge_f hc5) ?_
          refine WP.iloadN d16_102 rfl ?_
          refine WP.iload d16_103 rfl ?_
          rcases ite_e h with ⟨hc6, h⟩ | ⟨hc6, h⟩
          ·
            refine WP.icmpY (pc' := 112) d16_105 (XT.ii_eq_t hc6) (by decide) rfl ?_
            exact WP.weak (L' := [.val (.ref 0), .unset, .unset, .unset, .unset, .unset, .unset, .val (.int v7), .unset]) ⟨rfl, rfl, trivial⟩ (ok16_112 l Z a0 hw n0 n v7 s _ h)
          ·
            refine WP.icmpN d16_105 (XT.ii_eq_f hc6) ?_
            refine WP.iloadN d16_108 rfl ?_
            rcases ite_e h with ⟨hc7, h⟩ | ⟨hc7, h⟩
            ·
              refine WP.ifN d16_109 (XT.i0_ne_f hc7) ?_
              exact WP.weak (L' := [.val (.ref 0), .unset, .unset, .unset, .unset, .unset, .unset, .val (.int v7), .unset]) ⟨rfl, rfl, trivial⟩ (ok16_112 l Z a0 hw n0 n v7 s _ h)
            ·
              refine WP.ifY (pc' := 120) d16_109 (XT.i0_ne_t hc7) (by decide) rfl ?_
              refine WP.aloadN d16_120 rfl ?_
              refine WP.getfield (i := 0) (j := 9) d16_121 (hw _ m_26) rfl rfl rfl ?_
              refine WP.iload d16_124 rfl ?_
              obtain ⟨x8, hx8, h⟩ := Option.bind_eq_some_iff.mp h
              refine WP.iaload (i := 5) d16_126 rfl hx8 ?_
              cases h
              exact WP.ireturn d16_127 rfl (leb rfl) (leb rfl) ⟨rfl, rfl⟩
        ·
          refine WP.icmpY (pc' := 128) d16_99 (XT.ii_ge_t hc5) (by decide) rfl ?_
          refine WP.iload d16_128 rfl ?_
          refine WP.iload d16_130 rfl ?_
          refine WP.iadd d16_132 ?_
          obtain ⟨x9, ex9, h⟩ := lt_e h
          refine WP.istore (L' := [.val (.ref 0), .val (.int v1), .val (.int v2), .val (.int v3), .val (.int x9), .unset, .val (.int v6), .val (.int v7), .val (.int x4)]) d16_133 (leb rfl) (by subst ex9; rfl) ?_
          exact WP.weak (L' := [.val (.ref 0), .val (.int v1), .val (.int v2), .val (.int v3), .val (.int x9), .unset, .val (.int v6), .val (.int v7), .unset]) ⟨rfl, rfl, rfl, rfl, rfl, rfl, rfl, trivial⟩ (ok16_135 l Z a0 hw n0 _ hk61 n v1 v2 v3 x9 v6 v7 s _ h)
    ·
      refine WP.icmpY (pc' := 141) d16_73 (XT.ii_ge_t hc2) (by decide) rfl ?_
      exact WP.weak (L' := [.val (.ref 0), .val (.int v1), .unset, .unset, .unset, .unset, .unset, .unset, .unset]) ⟨rfl, rfl, trivial⟩ (ok16_141 l Z a0 hw n0 n v1 s _ h)
  ·
    refine WP.icmpY (pc' := 141) d16_65 (XT.ii_ge_t hc1) (by decide) rfl ?_
    exact WP.weak (L' := [.val (.ref 0), .val (.int v1), .unset, .unset, .unset, .unset, .unset, .unset, .unset]) ⟨rfl, rfl, trivial⟩ (ok16_141 l Z a0 hw n0 n v1 s _ h)
def f_fromDisplay_61 : Nat → Int32 → Int32 → Int32 → Int32 → Int32 → Int32 → St → Option (Int32 × St)
  | 0 => fun _ _ _ _ _ _ _ => none
  | n + 1 => g_fromDisplay_61 (f_fromDisplay_61 n) n
theorem ok16_61 (l : Launch) (Z : State) (a0 : Array Value) (hw : HW a0 Z) (n0 : Nat) : ∀ (n : Nat) (v1 : Int32) (v2 : Int32) (v3 : Int32) (v4 : Int32) (v6 : Int32) (v7 : Int32) (s : St) (r : Int32 × St), f_fromDisplay_61 n v1 v2 v3 v4 v6 v7 s = some r → W16 l Z n0 (P16 r) 0 0 61 [.val (.ref 0), .val (.int v1), .val (.int v2), .val (.int v3), .val (.int v4), .unset, .val (.int v6), .val (.int v7), .unset] [] (Hb 0 s)
  | 0, v1, v2, v3, v4, v6, v7, s, r, h => nomatch (show none = some r from h)
  | n + 1, v1, v2, v3, v4, v6, v7, s, r, h => okg16_61 l Z a0 hw n0 _ (ok16_61 l Z a0 hw n0 n) n v1 v2 v3 v4 v6 v7 s r h
def f_fromDisplay_11 (n : Nat) (v1 : Int32) (v2 : Int32) (v3 : Int32) (s : St) : Option (Int32 × St) :=
  (f_ensureLayout n s).bind fun c1 =>
  if v1 < 0 then
    f_fromDisplay_27 n c1
  else
    if v1 < (gI c1 6) then
      if v2 < 0 then
        some ((-1 : Int32), c1)
      else
        (rd (gA c1 8) v1).bind fun x5 =>
        (rd (gA c1 9) v1).bind fun x6 =>
        lt (x5 + x6) fun x7 =>
        f_fromDisplay_61 n v1 v2 v3 (0 : Int32) x7 x5 c1
    else
      f_fromDisplay_27 n c1
set_option maxRecDepth 65536 in
set_option maxHeartbeats 4000000 in
theorem ok16_11 (l : Launch) (Z : State) (a0 : Array Value) (hw : HW a0 Z) (n0 : Nat) (n : Nat) (v1 : Int32) (v2 : Int32) (v3 : Int32) (s : St) (r : Int32 × St) (h : f_fromDisplay_11 n v1 v2 v3 s = some r) : W16 l Z n0 (P16 r) 0 0 11 [.val (.ref 0), .val (.int v1), .val (.int v2), .val (.int v3), .unset, .unset, .unset, .unset, .unset] [] (Hb 0 s) := by
  unfold f_fromDisplay_11 at h
  refine WP.aloadN d16_11 rfl ?_
  obtain ⟨c1, hc1, h⟩ := Option.bind_eq_some_iff.mp h
  refine WP.callP (i := 0) (y := y7) (as := []) (S := []) d16_12 (hw _ m_62) (hw _ m_64) (hw _ m_1) (hw _ m_63) (hw _ m_65) (hw _ m_2) hy7 rfl (ok7 l Z a0 hw n s _ hc1) rfl (lenOf pd7 rfl) (leb rfl) (leb rfl) (leb rfl) (leb rfl) ?_
  rintro _ _ ⟨rfl, rfl⟩
  show W16 l Z n0 (P16 r) 0 0 15 [.val (.ref 0), .val (.int v1), .val (.int v2), .val (.int v3), .unset, .unset, .unset, .unset, .unset] [] (Hb 0 c1)
  refine WP.iloadN d16_15 rfl ?_
  rcases ite_e h with ⟨hc2, h⟩ | ⟨hc2, h⟩
  ·
    refine WP.ifY (pc' := 27) d16_16 (XT.i0_lt_t hc2) (by decide) rfl ?_
    exact WP.weak (L' := [.unset, .unset, .unset, .unset, .unset, .unset, .unset, .unset, .unset]) trivial (ok16_27 l Z a0 hw n0 n c1 _ h)
  ·
    refine WP.ifN d16_16 (XT.i0_lt_f hc2) ?_
    refine WP.iloadN d16_19 rfl ?_
    refine WP.aloadN d16_20 rfl ?_
    refine WP.getfield (i := 0) (j := 16) d16_21 (hw _ m_72) rfl rfl rfl ?_
    rcases ite_e h with ⟨hc3, h⟩ | ⟨hc3, h⟩
    ·
      refine WP.icmpY (pc' := 29) d16_24 (XT.ii_lt_t hc3) (by decide) rfl ?_
      refine WP.iloadN d16_29 rfl ?_
      rcases ite_e h with ⟨hc4, h⟩ | ⟨hc4, h⟩
      ·
        refine WP.ifN d16_30 (XT.i0_ge_f hc4) ?_
        refine WP.iconst (-1 : Int32) d16_33 rfl ?_
        cases h
        exact WP.ireturn d16_34 rfl (leb rfl) (leb rfl) ⟨rfl, rfl⟩
      ·
        refine WP.ifY (pc' := 35) d16_30 (XT.i0_ge_t hc4) (by decide) rfl ?_
        refine WP.iconst (0 : Int32) d16_35 rfl ?_
        refine WP.istore (L' := [.val (.ref 0), .val (.int v1), .val (.int v2), .val (.int v3), .val (.int (0 : Int32)), .unset, .unset, .unset, .unset]) d16_36 (leb rfl) rfl ?_
        refine WP.aloadN d16_38 rfl ?_
        refine WP.getfield (i := 0) (j := 14) d16_39 (hw _ m_34) rfl rfl rfl ?_
        refine WP.iloadN d16_42 rfl ?_
        obtain ⟨x5, hx5, h⟩ := Option.bind_eq_some_iff.mp h
        refine WP.iaload (i := 9) d16_43 rfl hx5 ?_
        refine WP.istore (L' := [.val (.ref 0), .val (.int v1), .val (.int v2), .val (.int v3), .val (.int (0 : Int32)), .val (.int x5), .unset, .unset, .unset]) d16_44 (leb rfl) rfl ?_
        refine WP.iload d16_46 rfl ?_
        refine WP.aloadN d16_48 rfl ?_
        refine WP.getfield (i := 0) (j := 15) d16_49 (hw _ m_36) rfl rfl rfl ?_
        refine WP.iloadN d16_52 rfl ?_
        obtain ⟨x6, hx6, h⟩ := Option.bind_eq_some_iff.mp h
        refine WP.iaload (i := 10) d16_53 rfl hx6 ?_
        refine WP.iadd d16_54 ?_
        obtain ⟨x7, ex7, h⟩ := lt_e h
        refine WP.istore (L' := [.val (.ref 0), .val (.int v1), .val (.int v2), .val (.int v3), .val (.int (0 : Int32)), .val (.int x5), .val (.int x7), .unset, .unset]) d16_55 (leb rfl) (by subst ex7; rfl) ?_
        refine WP.iload d16_57 rfl ?_
        refine WP.istore (L' := [.val (.ref 0), .val (.int v1), .val (.int v2), .val (.int v3), .val (.int (0 : Int32)), .val (.int x5), .val (.int x7), .val (.int x5), .unset]) d16_59 (leb rfl) rfl ?_
        exact WP.weak (L' := [.val (.ref 0), .val (.int v1), .val (.int v2), .val (.int v3), .val (.int (0 : Int32)), .unset, .val (.int x7), .val (.int x5), .unset]) ⟨rfl, rfl, rfl, rfl, rfl, rfl, rfl, trivial⟩ (ok16_61 l Z a0 hw n0 n v1 v2 v3 (0 : Int32) x7 x5 c1 _ h)
    ·
      refine WP.icmpN d16_24 (XT.ii_lt_f hc3) ?_
      exact WP.weak (L' := [.unset, .unset, .unset, .unset, .unset, .unset, .unset, .unset, .unset]) trivial (ok16_27 l Z a0 hw n0 n c1 _ h)
def f_fromDisplay (n : Nat) (p1 : Int32) (p2 : Int32) (p3 : Int32) (s : St) : Option (Int32 × St) :=
  if p3 = 0 then
    f_fromDisplay_11 n p1 p2 p3 s
  else
    if p3 = (1 : Int32) then
      f_fromDisplay_11 n p1 p2 p3 s
    else
      some ((-1 : Int32), s)
set_option maxRecDepth 65536 in
set_option maxHeartbeats 4000000 in
theorem ok16 (l : Launch) (Z : State) (a0 : Array Value) (hw : HW a0 Z) (n : Nat) (p1 : Int32) (p2 : Int32) (p3 : Int32) (s : St) (r : Int32 × St) (h : f_fromDisplay n p1 p2 p3 s = some r) : CS l Z CN lay y16 prog_1_method_17_code 9 (some FieldType.int) R16 0 [.ref 0, .int p1, .int p2, .int p3] (Hb 0 s) (P16 r) := by
  refine CS.of_wp pn_cls (leb rfl) fun n0 => ?_
  show W16 l Z n0 (P16 r) 0 0 0 [.val (.ref 0), .val (.int p1), .val (.int p2), .val (.int p3), .unset, .unset, .unset, .unset, .unset] [] (Hb 0 s)
  unfold f_fromDisplay at h
  refine WP.iloadN d16_0 rfl ?_
  rcases ite_e h with ⟨hc1, h⟩ | ⟨hc1, h⟩
  ·
    refine WP.ifY (pc' := 11) d16_1 (XT.i0_eq_t hc1) (by decide) rfl ?_
    exact WP.weak (L' := [.val (.ref 0), .val (.int p1), .val (.int p2), .val (.int p3), .unset, .unset, .unset, .unset, .unset]) ⟨rfl, rfl, rfl, rfl, trivial⟩ (ok16_11 l Z a0 hw n0 n p1 p2 p3 s _ h)
  ·
    refine WP.ifN d16_1 (XT.i0_eq_f hc1) ?_
    refine WP.iloadN d16_4 rfl ?_
    refine WP.iconst (1 : Int32) d16_5 rfl ?_
    rcases ite_e h with ⟨hc2, h⟩ | ⟨hc2, h⟩
    ·
      refine WP.icmpY (pc' := 11) d16_6 (XT.ii_eq_t hc2) (by decide) rfl ?_
      exact WP.weak (L' := [.val (.ref 0), .val (.int p1), .val (.int p2), .val (.int p3), .unset, .unset, .unset, .unset, .unset]) ⟨rfl, rfl, rfl, rfl, trivial⟩ (ok16_11 l Z a0 hw n0 n p1 p2 p3 s _ h)
    ·
      refine WP.icmpN d16_6 (XT.ii_eq_f hc2) ?_
      refine WP.iconst (-1 : Int32) d16_9 rfl ?_
      cases h
      exact WP.ireturn d16_10 rfl (leb rfl) (leb rfl) ⟨rfl, rfl⟩
theorem d5_0 : dc method_6_code 0 (.aload_n 0) 1 := by decide +kernel
theorem d5_1 : dc method_6_code 1 (.invokevirtual 55) 3 := by decide +kernel
theorem d5_4 : dc method_6_code 4 (.istore_n 1) 1 := by decide +kernel
theorem d5_5 : dc method_6_code 5 (.aload_n 0) 1 := by decide +kernel
theorem d5_6 : dc method_6_code 6 (.iconst 0) 1 := by decide +kernel
theorem d5_7 : dc method_6_code 7 (.invokevirtual 58) 3 := by decide +kernel
theorem d5_10 : dc method_6_code 10 (.ifCond .eq 5) 3 := by decide +kernel
theorem d5_13 : dc method_6_code 13 (.iconst 0) 1 := by decide +kernel
theorem d5_14 : dc method_6_code 14 (.ireturn) 1 := by decide +kernel
theorem d5_15 : dc method_6_code 15 (.iconst 0) 1 := by decide +kernel
theorem d5_16 : dc method_6_code 16 (.istore_n 2) 1 := by decide +kernel
theorem d5_17 : dc method_6_code 17 (.iload_n 2) 1 := by decide +kernel
theorem d5_18 : dc method_6_code 18 (.sipush 300) 3 := by decide +kernel
theorem d5_21 : dc method_6_code 21 (.if_icmp .ge 33) 3 := by decide +kernel
theorem d5_24 : dc method_6_code 24 (.iload_n 2) 1 := by decide +kernel
theorem d5_25 : dc method_6_code 25 (.iload_n 1) 1 := by decide +kernel
theorem d5_26 : dc method_6_code 26 (.iconst 1) 1 := by decide +kernel
theorem d5_27 : dc method_6_code 27 (.isub) 1 := by decide +kernel
theorem d5_28 : dc method_6_code 28 (.if_icmp .ge 26) 3 := by decide +kernel
theorem d5_31 : dc method_6_code 31 (.aload_n 0) 1 := by decide +kernel
theorem d5_32 : dc method_6_code 32 (.iload_n 2) 1 := by decide +kernel
theorem d5_33 : dc method_6_code 33 (.invokevirtual 58) 3 := by decide +kernel
theorem d5_36 : dc method_6_code 36 (.aload_n 0) 1 := by decide +kernel
theorem d5_37 : dc method_6_code 37 (.iload_n 2) 1 := by decide +kernel
theorem d5_38 : dc method_6_code 38 (.iconst 1) 1 := by decide +kernel
theorem d5_39 : dc method_6_code 39 (.iadd) 1 := by decide +kernel
theorem d5_40 : dc method_6_code 40 (.invokevirtual 58) 3 := by decide +kernel
theorem d5_43 : dc method_6_code 43 (.if_icmp .lt 5) 3 := by decide +kernel
theorem d5_46 : dc method_6_code 46 (.iconst 0) 1 := by decide +kernel
theorem d5_47 : dc method_6_code 47 (.ireturn) 1 := by decide +kernel
theorem d5_48 : dc method_6_code 48 (.iinc 2 1) 3 := by decide +kernel
theorem d5_51 : dc method_6_code 51 (.goto (-34)) 3 := by decide +kernel
theorem d5_54 : dc method_6_code 54 (.aload_n 0) 1 := by decide +kernel
theorem d5_55 : dc method_6_code 55 (.invokevirtual 27) 3 := by decide +kernel
theorem d5_58 : dc method_6_code 58 (.istore_n 2) 1 := by decide +kernel
theorem d5_59 : dc method_6_code 59 (.aload_n 0) 1 := by decide +kernel
theorem d5_60 : dc method_6_code 60 (.invokevirtual 61) 3 := by decide +kernel
theorem d5_63 : dc method_6_code 63 (.istore_n 3) 1 := by decide +kernel
theorem d5_64 : dc method_6_code 64 (.iconst 0) 1 := by decide +kernel
theorem d5_65 : dc method_6_code 65 (.istore 4) 2 := by decide +kernel
theorem d5_67 : dc method_6_code 67 (.iload 4) 2 := by decide +kernel
theorem d5_69 : dc method_6_code 69 (.sipush 256) 3 := by decide +kernel
theorem d5_72 : dc method_6_code 72 (.if_icmp .gt 169) 3 := by decide +kernel
theorem d5_75 : dc method_6_code 75 (.iload 4) 2 := by decide +kernel
theorem d5_77 : dc method_6_code 77 (.iload_n 2) 1 := by decide +kernel
theorem d5_78 : dc method_6_code 78 (.if_icmp .gt 163) 3 := by decide +kernel
theorem d5_81 : dc method_6_code 81 (.iload 4) 2 := by decide +kernel
theorem d5_83 : dc method_6_code 83 (.istore 5) 2 := by decide +kernel
theorem d5_85 : dc method_6_code 85 (.iload 4) 2 := by decide +kernel
theorem d5_87 : dc method_6_code 87 (.istore 6) 2 := by decide +kernel
theorem d5_89 : dc method_6_code 89 (.iconst 0) 1 := by decide +kernel
theorem d5_90 : dc method_6_code 90 (.istore 7) 2 := by decide +kernel
theorem d5_92 : dc method_6_code 92 (.iload 7) 2 := by decide +kernel
theorem d5_94 : dc method_6_code 94 (.bipush 16) 2 := by decide +kernel
theorem d5_96 : dc method_6_code 96 (.if_icmp .ge 53) 3 := by decide +kernel
theorem d5_99 : dc method_6_code 99 (.iload 7) 2 := by decide +kernel
theorem d5_101 : dc method_6_code 101 (.iload_n 3) 1 := by decide +kernel
theorem d5_102 : dc method_6_code 102 (.if_icmp .ge 47) 3 := by decide +kernel
theorem d5_105 : dc method_6_code 105 (.aload_n 0) 1 := by decide +kernel
theorem d5_106 : dc method_6_code 106 (.iload 7) 2 := by decide +kernel
theorem d5_108 : dc method_6_code 108 (.invokevirtual 64) 3 := by decide +kernel
theorem d5_111 : dc method_6_code 111 (.istore 8) 2 := by decide +kernel
theorem d5_113 : dc method_6_code 113 (.aload_n 0) 1 := by decide +kernel
theorem d5_114 : dc method_6_code 114 (.iload 7) 2 := by decide +kernel
theorem d5_116 : dc method_6_code 116 (.invokevirtual 67) 3 := by decide +kernel
theorem d5_119 : dc method_6_code 119 (.istore 9) 2 := by decide +kernel
theorem d5_121 : dc method_6_code 121 (.iload 8) 2 := by decide +kernel
theorem d5_123 : dc method_6_code 123 (.iload 4) 2 := by decide +kernel
theorem d5_125 : dc method_6_code 125 (.if_icmp .ge 18) 3 := by decide +kernel
theorem d5_128 : dc method_6_code 128 (.iload 4) 2 := by decide +kernel
theorem d5_130 : dc method_6_code 130 (.iload 9) 2 := by decide +kernel
theorem d5_132 : dc method_6_code 132 (.if_icmp .ge 11) 3 := by decide +kernel
theorem d5_135 : dc method_6_code 135 (.iload 8) 2 := by decide +kernel
theorem d5_137 : dc method_6_code 137 (.istore 5) 2 := by decide +kernel
theorem d5_139 : dc method_6_code 139 (.iload 9) 2 := by decide +kernel
theorem d5_141 : dc method_6_code 141 (.istore 6) 2 := by decide +kernel
theorem d5_143 : dc method_6_code 143 (.iinc 7 1) 3 := by decide +kernel
theorem d5_146 : dc method_6_code 146 (.goto (-54)) 3 := by decide +kernel
theorem d5_149 : dc method_6_code 149 (.iconst 0) 1 := by decide +kernel
theorem d5_150 : dc method_6_code 150 (.istore 7) 2 := by decide +kernel
theorem d5_152 : dc method_6_code 152 (.iload 7) 2 := by decide +kernel
theorem d5_154 : dc method_6_code 154 (.iconst 1) 1 := by decide +kernel
theorem d5_155 : dc method_6_code 155 (.if_icmp .gt 80) 3 := by decide +kernel
theorem d5_158 : dc method_6_code 158 (.aload_n 0) 1 := by decide +kernel
theorem d5_159 : dc method_6_code 159 (.iload 4) 2 := by decide +kernel
theorem d5_161 : dc method_6_code 161 (.iload 7) 2 := by decide +kernel
theorem d5_163 : dc method_6_code 163 (.invokevirtual 70) 3 := by decide +kernel
theorem d5_166 : dc method_6_code 166 (.istore 8) 2 := by decide +kernel
theorem d5_168 : dc method_6_code 168 (.iload 8) 2 := by decide +kernel
theorem d5_170 : dc method_6_code 170 (.ifCond .ge 5) 3 := by decide +kernel
theorem d5_173 : dc method_6_code 173 (.iconst 0) 1 := by decide +kernel
theorem d5_174 : dc method_6_code 174 (.ireturn) 1 := by decide +kernel
theorem d5_175 : dc method_6_code 175 (.iload 7) 2 := by decide +kernel
theorem d5_177 : dc method_6_code 177 (.ifCond .ne 8) 3 := by decide +kernel
theorem d5_180 : dc method_6_code 180 (.iload 5) 2 := by decide +kernel
theorem d5_182 : dc method_6_code 182 (.goto 5) 3 := by decide +kernel
theorem d5_185 : dc method_6_code 185 (.iload 6) 2 := by decide +kernel
theorem d5_187 : dc method_6_code 187 (.istore 9) 2 := by decide +kernel
theorem d5_189 : dc method_6_code 189 (.iconst 0) 1 := by decide +kernel
theorem d5_190 : dc method_6_code 190 (.istore 10) 2 := by decide +kernel
theorem d5_192 : dc method_6_code 192 (.iload 10) 2 := by decide +kernel
theorem d5_194 : dc method_6_code 194 (.iconst 1) 1 := by decide +kernel
theorem d5_195 : dc method_6_code 195 (.if_icmp .gt 34) 3 := by decide +kernel
theorem d5_198 : dc method_6_code 198 (.aload_n 0) 1 := by decide +kernel
theorem d5_199 : dc method_6_code 199 (.iload 8) 2 := by decide +kernel
theorem d5_201 : dc method_6_code 201 (.sipush 256) 3 := by decide +kernel
theorem d5_204 : dc method_6_code 204 (.idiv) 1 := by decide +kernel
theorem d5_205 : dc method_6_code 205 (.iload 8) 2 := by decide +kernel
theorem d5_207 : dc method_6_code 207 (.sipush 256) 3 := by decide +kernel
theorem d5_210 : dc method_6_code 210 (.irem) 1 := by decide +kernel
theorem d5_211 : dc method_6_code 211 (.iload 10) 2 := by decide +kernel
theorem d5_213 : dc method_6_code 213 (.invokevirtual 74) 3 := by decide +kernel
theorem d5_216 : dc method_6_code 216 (.iload 9) 2 := by decide +kernel
theorem d5_218 : dc method_6_code 218 (.if_icmp .eq 5) 3 := by decide +kernel
theorem d5_221 : dc method_6_code 221 (.iconst 0) 1 := by decide +kernel
theorem d5_222 : dc method_6_code 222 (.ireturn) 1 := by decide +kernel
theorem d5_223 : dc method_6_code 223 (.iinc 10 1) 3 := by decide +kernel
theorem d5_226 : dc method_6_code 226 (.goto (-34)) 3 := by decide +kernel
theorem d5_229 : dc method_6_code 229 (.iinc 7 1) 3 := by decide +kernel
theorem d5_232 : dc method_6_code 232 (.goto (-80)) 3 := by decide +kernel
theorem d5_235 : dc method_6_code 235 (.iinc 4 1) 3 := by decide +kernel
theorem d5_238 : dc method_6_code 238 (.goto (-171)) 3 := by decide +kernel
theorem d5_241 : dc method_6_code 241 (.iconst 1) 1 := by decide +kernel
theorem d5_242 : dc method_6_code 242 (.ireturn) 1 := by decide +kernel
abbrev y5 : MethodName := ⟨"DisplayMapOwnLaw", "holds", "(LDisplayMap;)Z"⟩
theorem hy5 : y5.cls ≠ "java/lang/invoke/MethodHandle" ∧ y5.cls ≠ "java/lang/invoke/VarHandle" := by decide
theorem pd5 : parseMethodDescriptor y5.desc = some ⟨[.object "DisplayMap"], some .boolean⟩ := by decide +kernel
abbrev R5 : Room := { frames := 5, cells := 0, slots := 0, locals := 76 }
abbrev P5 (r : Int32 × St) : Option Value → List OwnC → Prop := fun v H' => v = some (.int r.1) ∧ H' = (Hb 0 r.2)
abbrev W5 (l : Launch) (Z : State) (n0 : Nat) (Q : Option Value → List OwnC → Prop) (k n pc : Nat) (L : List Slot) (S : List Value) (H : List OwnC) : Prop := WP l Z CN lay "DisplayMapOwnLaw" "holds" method_6_code 11 (some FieldType.boolean) R5 n0 0 Q k n pc L S H
def f_L_holds_143 (k67 : Int32 → Int32 → Int32 → St → Option (Int32 × St)) (k92 : Int32 → Int32 → Int32 → Int32 → Int32 → Int32 → St → Option (Int32 × St)) (n : Nat) (v2 : Int32) (v3 : Int32) (v4 : Int32) (v5 : Int32) (v6 : Int32) (v7 : Int32) (s : St) : Option (Int32 × St) :=
  lt (v7 + (1 : Int32)) fun x1 =>
  k92 v2 v3 v4 v5 v6 x1 s
set_option maxRecDepth 65536 in
set_option maxHeartbeats 4000000 in
theorem ok5_143 (l : Launch) (Z : State) (a0 : Array Value) (hw : HW a0 Z) (n0 : Nat) (k67 : Int32 → Int32 → Int32 → St → Option (Int32 × St)) (hk67 : ∀ (v2 : Int32) (v3 : Int32) (v4 : Int32) (s : St) (r : Int32 × St), k67 v2 v3 v4 s = some r → W5 l Z n0 (P5 r) 0 0 67 [.val (.ref 0), .unset, .val (.int v2), .val (.int v3), .val (.int v4), .unset, .unset, .unset, .unset, .unset, .unset] [] (Hb 0 s)) (k92 : Int32 → Int32 → Int32 → Int32 → Int32 → Int32 → St → Option (Int32 × St)) (hk92 : ∀ (v2 : Int32) (v3 : Int32) (v4 : Int32) (v5 : Int32) (v6 : Int32) (v7 : Int32) (s : St) (r : Int32 × St), k92 v2 v3 v4 v5 v6 v7 s = some r → W5 l Z n0 (P5 r) 0 0 92 [.val (.ref 0), .unset, .val (.int v2), .val (.int v3), .val (.int v4), .val (.int v5), .val (.int v6), .val (.int v7), .unset, .unset, .unset] [] (Hb 0 s)) (n : Nat) (v2 : Int32) (v3 : Int32) (v4 : Int32) (v5 : Int32) (v6 : Int32) (v7 : Int32) (s : St) (r : Int32 × St) (h : f_L_holds_143 k67 k92 n v2 v3 v4 v5 v6 v7 s = some r) : W5 l Z n0 (P5 r) 0 0 143 [.val (.ref 0), .unset, .val (.int v2), .val (.int v3), .val (.int v4), .val (.int v5), .val (.int v6), .val (.int v7), .unset, .unset, .unset] [] (Hb 0 s) := by
  unfold f_L_holds_143 at h
  obtain ⟨x1, ex1, h⟩ := lt_e h
  refine WP.iinc (L' := [.val (.ref 0), .unset, .val (.int v2), .val (.int v3), .val (.int v4), .val (.int v5), .val (.int v6), .val (.int x1), .unset, .unset, .unset]) (1 : Int32) d5_143 rfl rfl (by subst ex1; rfl) ?_
  refine WP.goto (pc' := 92) d5_146 (by decide) rfl ?_
  exact WP.weak (L' := [.val (.ref 0), .unset, .val (.int v2), .val (.int v3), .val (.int v4), .val (.int v5), .val (.int v6), .val (.int x1), .unset, .unset, .unset]) ⟨rfl, rfl, rfl, rfl, rfl, rfl, rfl, trivial⟩ (hk92 v2 v3 v4 v5 v6 x1 s _ h)
def g_L_holds_192 (k67 : Int32 → Int32 → Int32 → St → Option (Int32 × St)) (k152 : Int32 → Int32 → Int32 → Int32 → Int32 → Int32 → St → Option (Int32 × St)) (k192 : Int32 → Int32 → Int32 → Int32 → Int32 → Int32 → Int32 → Int32 → Int32 → St → Option (Int32 × St)) (n : Nat) (v2 : Int32) (v3 : Int32) (v4 : Int32) (v5 : Int32) (v6 : Int32) (v7 : Int32) (v8 : Int32) (v9 : Int32) (v10 : Int32) (s : St) : Option (Int32 × St) :=
  if (1 : Int32) < v10 then
    lt (v7 + (1 : Int32)) fun x2 =>
    k152 v2 v3 v4 v5 v6 x2 s
  else
    (f_fromDisplay n (v8 / (256 : Int32)) (v8 % (256 : Int32)) v10 s).bind fun c3 =>
    if c3.1 = v9 then
      lt (v10 + (1 : Int32)) fun x5 =>
      k192 v2 v3 v4 v5 v6 v7 v8 v9 x5 c3.2
    else
      some ((0 : Int32), c3.2)
set_option maxRecDepth 65536 in
set_option maxHeartbeats 4000000 in
theorem okg5_192 (l : Launch) (Z : State) (a0 : Array Value) (hw : HW a0 Z) (n0 : Nat) (k67 : Int32 → Int32 → Int32 → St → Option (Int32 × St)) (hk67 : ∀ (v2 : Int32) (v3 : Int32) (v4 : Int32) (s : St) (r : Int32 × St), k67 v2 v3 v4 s = some r → W5 l Z n0 (P5 r) 0 0 67 [.val (.ref 0), .unset, .val (.int v2), .val (.int v3), .val (.int v4), .unset, .unset, .unset, .unset, .unset, .unset] [] (Hb 0 s)) (k152 : Int32 → Int32 → Int32 → Int32 → Int32 → Int32 → St → Option (Int32 × St)) (hk152 : ∀ (v2 : Int32) (v3 : Int32) (v4 : Int32) (v5 : Int32) (v6 : Int32) (v7 : Int32) (s : St) (r : Int32 × St), k152 v2 v3 v4 v5 v6 v7 s = some r → W5 l Z n0 (P5 r) 0 0 152 [.val (.ref 0), .unset, .val (.int v2), .val (.int v3), .val (.int v4), .val (.int v5), .val (.int v6), .val (.int v7), .unset, .unset, .unset] [] (Hb 0 s)) (k192 : Int32 → Int32 → Int32 → Int32 → Int32 → Int32 → Int32 → Int32 → Int32 → St → Option (Int32 × St)) (hk192 : ∀ (v2 : Int32) (v3 : Int32) (v4 : Int32) (v5 : Int32) (v6 : Int32) (v7 : Int32) (v8 : Int32) (v9 : Int32) (v10 : Int32) (s : St) (r : Int32 × St), k192 v2 v3 v4 v5 v6 v7 v8 v9 v10 s = some r → W5 l Z n0 (P5 r) 0 0 192 [.val (.ref 0), .unset, .val (.int v2), .val (.int v3), .val (.int v4), .val (.int v5), .val (.int v6), .val (.int v7), .val (.int v8), .val (.int v9), .val (.int v10)] [] (Hb 0 s)) (n : Nat) (v2 : Int32) (v3 : Int32) (v4 : Int32) (v5 : Int32) (v6 : Int32) (v7 : Int32) (v8 : Int32) (v9 : Int32) (v10 : Int32) (s : St) (r : Int32 × St) (h : g_L_holds_192 k67 k152 k192 n v2 v3 v4 v5 v6 v7 v8 v9 v10 s = some r) : W5 l Z n0 (P5 r) 0 0 192 [.val (.ref 0), .unset, .val (.int v2), .val (.int v3), .val (.int v4), .val (.int v5), .val (.int v6), .val (.int v7), .val (.int v8), .val (.int v9), .val (.int v10)] [] (Hb 0 s) := by
  unfold g_L_holds_192 at h
  refine WP.iload d5_192 rfl ?_
  refine WP.iconst (1 : Int32) d5_194 rfl ?_
  rcases ite_e h with ⟨hc1, h⟩ | ⟨hc1, h⟩
  ·
    refine WP.icmpY (pc' := 229) d5_195 (XT.ii_gt_t hc1) (by decide) rfl ?_
    obtain ⟨x2, ex2, h⟩ := lt_e h
    refine WP.iinc (L' := [.val (.ref 0), .unset, .val (.int v2), .val (.int v3), .val (.int v4), .val (.int v5), .val (.int v6), .val (.int x2), .val (.int v8), .val (.int v9), .val (.int v10)]) (1 : Int32) d5_229 rfl rfl (by subst ex2; rfl) ?_
    refine WP.goto (pc' := 152) d5_232 (by decide) rfl ?_
    exact WP.weak (L' := [.val (.ref 0), .unset, .val (.int v2), .val (.int v3), .val (.int v4), .val (.int v5), .val (.int v6), .val (.int x2), .unset, .unset, .unset]) ⟨rfl, rfl, rfl, rfl, rfl, rfl, rfl, trivial⟩ (hk152 v2 v3 v4 v5 v6 x2 s _ h)
  ·
    refine WP.icmpN d5_195 (XT.ii_gt_f hc1) ?_
    refine WP.aloadN d5_198 rfl ?_
    refine WP.iload d5_199 rfl ?_
    refine WP.sipush (256 : Int32) d5_201 rfl ?_
    refine WP.idiv d5_204 (by decide) ?_
    refine WP.iload d5_205 rfl ?_
    refine WP.sipush (256 : Int32) d5_207 rfl ?_
    refine WP.irem d5_210 (by decide) ?_
    refine WP.iload d5_211 rfl ?_
    obtain ⟨c3, hc3, h⟩ := Option.bind_eq_some_iff.mp h
    refine WP.callV (i := 0) (y := y16) (as := [.int (v8 / (256 : Int32)), .int (v8 % (256 : Int32)), .int v10]) (S := []) d5_213 (hw _ m_116) (hw _ m_117) (hw _ m_119) (hw _ m_118) (hw _ m_120) (hw _ m_2) hy16 rfl (ok16 l Z a0 hw n (v8 / (256 : Int32)) (v8 % (256 : Int32)) v10 s _ hc3) rfl (lenOf pd16 rfl) (leb rfl) (leb rfl) (leb rfl) (leb rfl) ?_
    rintro _ _ ⟨rfl, rfl⟩
    show W5 l Z n0 (P5 r) 0 0 216 [.val (.ref 0), .unset, .val (.int v2), .val (.int v3), .val (.int v4), .val (.int v5), .val (.int v6), .val (.int v7), .val (.int v8), .val (.int v9), .val (.int v10)] [.int c3.1] (Hb 0 c3.2)
    refine WP.iload d5_216 rfl ?_
    rcases ite_e h with ⟨hc4, h⟩ | ⟨hc4, h⟩
    ·
      refine WP.icmpY (pc' := 223) d5_218 (XT.ii_eq_t hc4) (by decide) rfl ?_
      obtain ⟨x5, ex5, h⟩ := lt_e h
      refine WP.iinc (L' := [.val (.ref 0), .unset, .val (.int v2), .val (.int v3), .val (.int v4), .val (.int v5), .val (.int v6), .val (.int v7), .val (.int v8), .val (.int v9), .val (.int x5)]) (1 : Int32) d5_223 rfl rfl (by subst ex5; rfl) ?_
      refine WP.goto (pc' := 192) d5_226 (by decide) rfl ?_
      exact WP.weak (L' := [.val (.ref 0), .unset, .val (.int v2), .val (.int v3), .val (.int v4), .val (.int v5), .val (.int v6), .val (.int v7), .val (.int v8), .val (.int v9), .val (.int x5)]) ⟨rfl, rfl, rfl, rfl, rfl, rfl, rfl, rfl, rfl, rfl, trivial⟩ (hk192 v2 v3 v4 v5 v6 v7 v8 v9 x5 c3.2 _ h)
    ·
      refine WP.icmpN d5_218 (XT.ii_eq_f hc4) ?_
      refine WP.iconst (0 : Int32) d5_221 rfl ?_
      cases h
      exact WP.zreturn d5_222 rfl (leb rfl) (leb rfl) ⟨rfl, rfl⟩
def f_L_holds_192 (k67 : Int32 → Int32 → Int32 → St → Option (Int32 × St)) (k152 : Int32 → Int32 → Int32 → Int32 → Int32 → Int32 → St → Option (Int32 × St)) : Nat → Int32 → Int32 → Int32 → Int32 → Int32 → Int32 → Int32 → Int32 → Int32 → St → Option (Int32 × St)
  | 0 => fun _ _ _ _ _ _ _ _ _ _ => none
  | n + 1 => g_L_holds_192 k67 k152 (f_L_holds_192 k67 k152 n) n
theorem ok5_192 (l : Launch) (Z : State) (a0 : Array Value) (hw : HW a0 Z) (n0 : Nat) (k67 : Int32 → Int32 → Int32 → St → Option (Int32 × St)) (hk67 : ∀ (v2 : Int32) (v3 : Int32) (v4 : Int32) (s : St) (r : Int32 × St), k67 v2 v3 v4 s = some r → W5 l Z n0 (P5 r) 0 0 67 [.val (.ref 0), .unset, .val (.int v2), .val (.int v3), .val (.int v4), .unset, .unset, .unset, .unset, .unset, .unset] [] (Hb 0 s)) (k152 : Int32 → Int32 → Int32 → Int32 → Int32 → Int32 → St → Option (Int32 × St)) (hk152 : ∀ (v2 : Int32) (v3 : Int32) (v4 : Int32) (v5 : Int32) (v6 : Int32) (v7 : Int32) (s : St) (r : Int32 × St), k152 v2 v3 v4 v5 v6 v7 s = some r → W5 l Z n0 (P5 r) 0 0 152 [.val (.ref 0), .unset, .val (.int v2), .val (.int v3), .val (.int v4), .val (.int v5), .val (.int v6), .val (.int v7), .unset, .unset, .unset] [] (Hb 0 s)) : ∀ (n : Nat) (v2 : Int32) (v3 : Int32) (v4 : Int32) (v5 : Int32) (v6 : Int32) (v7 : Int32) (v8 : Int32) (v9 : Int32) (v10 : Int32) (s : St) (r : Int32 × St), f_L_holds_192 k67 k152 n v2 v3 v4 v5 v6 v7 v8 v9 v10 s = some r → W5 l Z n0 (P5 r) 0 0 192 [.val (.ref 0), .unset, .val (.int v2), .val (.int v3), .val (.int v4), .val (.int v5), .val (.int v6), .val (.int v7), .val (.int v8), .val (.int v9), .val (.int v10)] [] (Hb 0 s)
  | 0, v2, v3, v4, v5, v6, v7, v8, v9, v10, s, r, h => nomatch (show none = some r from h)
  | n + 1, v2, v3, v4, v5, v6, v7, v8, v9, v10, s, r, h => okg5_192 l Z a0 hw n0 _ hk67 _ hk152 _ (ok5_192 l Z a0 hw n0 k67 hk67 k152 hk152 n) n v2 v3 v4 v5 v6 v7 v8 v9 v10 s r h
def f_L_holds_187 (k67 : Int32 → Int32 → Int32 → St → Option (Int32 × St)) (k152 : Int32 → Int32 → Int32 → Int32 → Int32 → Int32 → St → Option (Int32 × St)) (n : Nat) (v2 : Int32) (v3 : Int32) (v4 : Int32) (v5 : Int32) (v6 : Int32) (v7 : Int32) (v8 : Int32) (t0 : Int32) (s : St) : Option (Int32 × St) :=
  f_L_holds_192 k67 k152 n v2 v3 v4 v5 v6 v7 v8 t0 (0 : Int32) s
set_option maxRecDepth 65536 in
set_option maxHeartbeats 4000000 in
theorem ok5_187 (l : Launch) (Z : State) (a0 : Array Value) (hw : HW a0 Z) (n0 : Nat) (k67 : Int32 → Int32 → Int32 → St → Option (Int32 × St)) (hk67 : ∀ (v2 : Int32) (v3 : Int32) (v4 : Int32) (s : St) (r : Int32 × St), k67 v2 v3 v4 s = some r → W5 l Z n0 (P5 r) 0 0 67 [.val (.ref 0), .unset, .val (.int v2), .val (.int v3), .val (.int v4), .unset, .unset, .unset, .unset, .unset, .unset] [] (Hb 0 s)) (k152 : Int32 → Int32 → Int32 → Int32 → Int32 → Int32 → St → Option (Int32 × St)) (hk152 : ∀ (v2 : Int32) (v3 : Int32) (v4 : Int32) (v5 : Int32) (v6 : Int32) (v7 : Int32) (s : St) (r : Int32 × St), k152 v2 v3 v4 v5 v6 v7 s = some r → W5 l Z n0 (P5 r) 0 0 152 [.val (.ref 0), .unset, .val (.int v2), .val (.int v3), .val (.int v4), .val (.int v5), .val (.int v6), .val (.int v7), .unset, .unset, .unset] [] (Hb 0 s)) (n : Nat) (v2 : Int32) (v3 : Int32) (v4 : Int32) (v5 : Int32) (v6 : Int32) (v7 : Int32) (v8 : Int32) (t0 : Int32) (s : St) (r : Int32 × St) (h : f_L_holds_187 k67 k152 n v2 v3 v4 v5 v6 v7 v8 t0 s = some r) : W5 l Z n0 (P5 r) 0 0 187 [.val (.ref 0), .unset, .val (.int v2), .val (.int v3), .val (.int v4), .val (.int v5), .val (.int v6), .val (.int v7), .val (.int v8), .unset, .unset] [.int t0] (Hb 0 s) := by
  unfold f_L_holds_187 at h
  refine WP.istore (L' := [.val (.ref 0), .unset, .val (.int v2), .val (.int v3), .val (.int v4), .val (.int v5), .val (.int v6), .val (.int v7), .val (.int v8), .val (.int t0), .unset]) d5_187 (leb rfl) rfl ?_
  refine WP.iconst (0 : Int32) d5_189 rfl ?_
  refine WP.istore (L' := [.val (.ref 0), .unset, .val (.int v2), .val (.int v3), .val (.int v4), .val (.int v5), .val (.int v6), .val (.int v7), .val (.int v8), .val (.int t0), .val (.int (0 : Int32))]) d5_190 (leb rfl) rfl ?_
  exact WP.weak (L' := [.val (.ref 0), .unset, .val (.int v2), .val (.int v3), .val (.int v4), .val (.int v5), .val (.int v6), .val (.int v7), .val (.int v8), .val (.int t0), .val (.int (0 : Int32))]) ⟨rfl, rfl, rfl, rfl, rfl, rfl, rfl, rfl, rfl, rfl, trivial⟩ (ok5_192 l Z a0 hw n0 _ hk67 _ hk152 n v2 v3 v4 v5 v6 v7 v8 t0 (0 : Int32) s _ h)
def g_L_holds_152 (k67 : Int32 → Int32 → Int32 → St → Option (Int32 × St)) (k152 : Int32 → Int32 → Int32 → Int32 → Int32 → Int32 → St → Option (Int32 × St)) (n : Nat) (v2 : Int32) (v3 : Int32) (v4 : Int32) (v5 : Int32) (v6 : Int32) (v7 : Int32) (s : St) : Option (Int32 × St) :=
  if (1 : Int32) < v7 then
    lt (v4 + (1 : Int32)) fun x2 =>
    k67 v2 v3 x2 s
  else
    (f_toDisplay n v4 v7 s).bind fun c3 =>
    if c3.1 < 0 then
      some ((0 : Int32), c3.2)
    else
      if v7 = 0 then
        f_L_holds_187 k67 k152 n v2 v3 v4 v5 v6 v7 c3.1 v5 c3.2
      else
        f_L_holds_187 k67 k152 n v2 v3 v4 v5 v6 v7 c3.1 v6 c3.2
set_option maxRecDepth 65536 in
set_option maxHeartbeats 4000000 in
theorem okg5_152 (l : Launch) (Z : State) (a0 : Array Value) (hw : HW a0 Z) (n0 : Nat) (k67 : Int32 → Int32 → Int32 → St → Option (Int32 × St)) (hk67 : ∀ (v2 : Int32) (v3 : Int32) (v4 : Int32) (s : St) (r : Int32 × St), k67 v2 v3 v4 s = some r → W5 l Z n0 (P5 r) 0 0 67 [.val (.ref 0), .unset, .val (.int v2), .val (.int v3), .val (.int v4), .unset, .unset, .unset, .unset, .unset, .unset] [] (Hb 0 s)) (k152 : Int32 → Int32 → Int32 → Int32 → Int32 → Int32 → St → Option (Int32 × St)) (hk152 : ∀ (v2 : Int32) (v3 : Int32) (v4 : Int32) (v5 : Int32) (v6 : Int32) (v7 : Int32) (s : St) (r : Int32 × St), k152 v2 v3 v4 v5 v6 v7 s = some r → W5 l Z n0 (P5 r) 0 0 152 [.val (.ref 0), .unset, .val (.int v2), .val (.int v3), .val (.int v4), .val (.int v5), .val (.int v6), .val (.int v7), .unset, .unset, .unset] [] (Hb 0 s)) (n : Nat) (v2 : Int32) (v3 : Int32) (v4 : Int32) (v5 : Int32) (v6 : Int32) (v7 : Int32) (s : St) (r : Int32 × St) (h : g_L_holds_152 k67 k152 n v2 v3 v4 v5 v6 v7 s = some r) : W5 l Z n0 (P5 r) 0 0 152 [.val (.ref 0), .unset, .val (.int v2), .val (.int v3), .val (.int v4), .val (.int v5), .val (.int v6), .val (.int v7), .unset, .unset, .unset] [] (Hb 0 s) := by
  unfold g_L_holds_152 at h
  refine WP.iload d5_152 rfl ?_
  refine WP.iconst (1 : Int32) d5_154 rfl ?_
  rcases ite_e h with ⟨hc1, h⟩ | ⟨hc1, h⟩
  ·
    refine WP.icmpY (pc' := 235) d5_155 (XT.ii_gt_t hc1) (by decide) rfl ?_
    obtain ⟨x2, ex2, h⟩ := lt_e h
    refine WP.iinc (L' := [.val (.ref 0), .unset, .val (.int v2), .val (.int v3), .val (.int x2), .val (.int v5), .val (.int v6), .val (.int v7), .unset, .unset, .unset]) (1 : Int32) d5_235 rfl rfl (by subst ex2; rfl) ?_
    refine WP.goto (pc' := 67) d5_238 (by decide) rfl ?_
    exact WP.weak (L' := [.val (.ref 0), .unset, .val (.int v2), .val (.int v3), .val (.int x2), .unset, .unset, .unset, .unset, .unset, .unset]) ⟨rfl, rfl, rfl, rfl, trivial⟩ (hk67 v2 v3 x2 s _ h)
  ·
    refine WP.icmpN d5_155 (XT.ii_gt_f hc1) ?_
    refine WP.aloadN d5_158 rfl ?_
    refine WP.iload d5_159 rfl ?_
    refine WP.iload d5_161 rfl ?_
    obtain ⟨c3, hc3, h⟩ := Option.bind_eq_some_iff.mp h
    refine WP.callV (i := 0) (y := y14) (as := [.int v4, .int v7]) (S := []) d5_163 (hw _ m_107) (hw _ m_108) (hw _ m_110) (hw _ m_109) (hw _ m_111) (hw _ m_2) hy14 rfl (ok14 l Z a0 hw n v4 v7 s _ hc3) rfl (lenOf pd14 rfl) (leb rfl) (leb rfl) (leb rfl) (leb rfl) ?_
    rintro _ _ ⟨rfl, rfl⟩
    show W5 l Z n0 (P5 r) 0 0 166 [.val (.ref 0), .unset, .val (.int v2), .val (.int v3), .val (.int v4), .val (.int v5), .val (.int v6), .val (.int v7), .unset, .unset, .unset] [.int c3.1] (Hb 0 c3.2)
    refine WP.istore (L' := [.val (.ref 0), .unset, .val (.int v2), .val (.int v3), .val (.int v4), .val (.int v5), .val (.int v6), .val (.int v7), .val (.int c3.1), .unset, .unset]) d5_166 (leb rfl) rfl ?_
    refine WP.iload d5_168 rfl ?_
    rcases ite_e h with ⟨hc4, h⟩ | ⟨hc4, h⟩
    ·
      refine WP.ifN d5_170 (XT.i0_ge_f hc4) ?_
      refine WP.iconst (0 : Int32) d5_173 rfl ?_
      cases h
      exact WP.zreturn d5_174 rfl (leb rfl) (leb rfl) ⟨rfl, rfl⟩
    ·
      refine WP.ifY (pc' := 175) d5_170 (XT.i0_ge_t hc4) (by decide) rfl ?_
      refine WP.iload d5_175 rfl ?_
      rcases ite_e h with ⟨hc5, h⟩ | ⟨hc5, h⟩
      ·
        refine WP.ifN d5_177 (XT.i0_ne_f hc5) ?_
        refine WP.iload d5_180 rfl ?_
        refine WP.goto (pc' := 187) d5_182 (by decide) rfl ?_
        exact WP.weak (L' := [.val (.ref 0), .unset, .val (.int v2), .val (.int v3), .val (.int v4), .val (.int v5), .val (.int v6), .val (.int v7), .val (.int c3.1), .unset, .unset]) ⟨rfl, rfl, rfl, rfl, rfl, rfl, rfl, rfl, trivial⟩ (ok5_187 l Z a0 hw n0 _ hk67 _ hk152 n v2 v3 v4 v5 v6 v7 c3.1 v5 c3.2 _ h)
      ·
        refine WP.ifY (pc' := 185) d5_177 (XT.i0_ne_t hc5) (by decide) rfl ?_
        refine WP.iload d5_185 rfl ?_
        exact WP.weak (L' := [.val (.ref 0), .unset, .val (.int v2), .val (.int v3), .val (.int v4), .val (.int v5), .val (.int v6), .val (.int v7), .val (.int c3.1), .unset, .unset]) ⟨rfl, rfl, rfl, rfl, rfl, rfl, rfl, rfl, trivial⟩ (ok5_187 l Z a0 hw n0 _ hk67 _ hk152 n v2 v3 v4 v5 v6 v7 c3.1 v6 c3.2 _ h)
def f_L_holds_152 (k67 : Int32 → Int32 → Int32 → St → Option (Int32 × St)) : Nat → Int32 → Int32 → Int32 → Int32 → Int32 → Int32 → St → Option (Int32 × St)
  | 0 => fun _ _ _ _ _ _ _ => none
  | n + 1 => g_L_holds_152 k67 (f_L_holds_152 k67 n) n
theorem ok5_152 (l : Launch) (Z : State) (a0 : Array Value) (hw : HW a0 Z) (n0 : Nat) (k67 : Int32 → Int32 → Int32 → St → Option (Int32 × St)) (hk67 : ∀ (v2 : Int32) (v3 : Int32) (v4 : Int32) (s : St) (r : Int32 × St), k67 v2 v3 v4 s = some r → W5 l Z n0 (P5 r) 0 0 67 [.val (.ref 0), .unset, .val (.int v2), .val (.int v3), .val (.int v4), .unset, .unset, .unset, .unset, .unset, .unset] [] (Hb 0 s)) : ∀ (n : Nat) (v2 : Int32) (v3 : Int32) (v4 : Int32) (v5 : Int32) (v6 : Int32) (v7 : Int32) (s : St) (r : Int32 × St), f_L_holds_152 k67 n v2 v3 v4 v5 v6 v7 s = some r → W5 l Z n0 (P5 r) 0 0 152 [.val (.ref 0), .unset, .val (.int v2), .val (.int v3), .val (.int v4), .val (.int v5), .val (.int v6), .val (.int v7), .unset, .unset, .unset] [] (Hb 0 s)
  | 0, v2, v3, v4, v5, v6, v7, s, r, h => nomatch (show none = some r from h)
  | n + 1, v2, v3, v4, v5, v6, v7, s, r, h => okg5_152 l Z a0 hw n0 _ hk67 _ (ok5_152 l Z a0 hw n0 k67 hk67 n) n v2 v3 v4 v5 v6 v7 s r h
def f_L_holds_149 (k67 : Int32 → Int32 → Int32 → St → Option (Int32 × St)) (n : Nat) (v2 : Int32) (v3 : Int32) (v4 : Int32) (v5 : Int32) (v6 : Int32) (s : St) : Option (Int32 × St) :=
  f_L_holds_152 k67 n v2 v3 v4 v5 v6 (0 : Int32) s
set_option maxRecDepth 65536 in
set_option maxHeartbeats 4000000 in
theorem ok5_149 (l : Launch) (Z : State) (a0 : Array Value) (hw : HW a0 Z) (n0 : Nat) (k67 : Int32 → Int32 → Int32 → St → Option (Int32 × St)) (hk67 : ∀ (v2 : Int32) (v3 : Int32) (v4 : Int32) (s : St) (r : Int32 × St), k67 v2 v3 v4 s = some r → W5 l Z n0 (P5 r) 0 0 67 [.val (.ref 0), .unset, .val (.int v2), .val (.int v3), .val (.int v4), .unset, .unset, .unset, .unset, .unset, .unset] [] (Hb 0 s)) (n : Nat) (v2 : Int32) (v3 : Int32) (v4 : Int32) (v5 : Int32) (v6 : Int32) (s : St) (r : Int32 × St) (h : f_L_holds_149 k67 n v2 v3 v4 v5 v6 s = some r) : W5 l Z n0 (P5 r) 0 0 149 [.val (.ref 0), .unset, .val (.int v2), .val (.int v3), .val (.int v4), .val (.int v5), .val (.int v6), .unset, .unset, .unset, .unset] [] (Hb 0 s) := by
  unfold f_L_holds_149 at h
  refine WP.iconst (0 : Int32) d5_149 rfl ?_
  refine WP.istore (L' := [.val (.ref 0), .unset, .val (.int v2), .val (.int v3), .val (.int v4), .val (.int v5), .val (.int v6), .val (.int (0 : Int32)), .unset, .unset, .unset]) d5_150 (leb rfl) rfl ?_
  exact WP.weak (L' := [.val (.ref 0), .unset, .val (.int v2), .val (.int v3), .val (.int v4), .val (.int v5), .val (.int v6), .val (.int (0 : Int32)), .unset, .unset, .unset]) ⟨rfl, rfl, rfl, rfl, rfl, rfl, rfl, trivial⟩ (ok5_152 l Z a0 hw n0 _ hk67 n v2 v3 v4 v5 v6 (0 : Int32) s _ h)
def g_L_holds_92 (k67 : Int32 → Int32 → Int32 → St → Option (Int32 × St)) (k92 : Int32 → Int32 → Int32 → Int32 → Int32 → Int32 → St → Option (Int32 × St)) (n : Nat) (v2 : Int32) (v3 : Int32) (v4 : Int32) (v5 : Int32) (v6 : Int32) (v7 : Int32) (s : St) : Option (Int32 × St) :=
  if v7 < (16 : Int32) then
    if v7 < v3 then
      (f_foldStart v7 s).bind fun c3 =>
      (f_foldEnd v7 s).bind fun c4 =>
      if c3 < v4 then
        if v4 < c4 then
          f_L_holds_143 k67 k92 n v2 v3 v4 c3 c4 v7 s
        else
          f_L_holds_143 k67 k92 n v2 v3 v4 v5 v6 v7 s
      else
        f_L_holds_143 k67 k92 n v2 v3 v4 v5 v6 v7 s
    else
      f_L_holds_149 k67 n v2 v3 v4 v5 v6 s
  else
    f_L_holds_149 k67 n v2 v3 v4 v5 v6 s
set_option maxRecDepth 65536 in
set_option maxHeartbeats 4000000 in
theorem okg5_92 (l : Launch) (Z : State) (a0 : Array Value) (hw : HW a0 Z) (n0 : Nat) (k67 : Int32 → Int32 → Int32 → St → Option (Int32 × St)) (hk67 : ∀ (v2 : Int32) (v3 : Int32) (v4 : Int32) (s : St) (r : Int32 × St), k67 v2 v3 v4 s = some r → W5 l Z n0 (P5 r) 0 0 67 [.val (.ref 0), .unset, .val (.int v2), .val (.int v3), .val (.int v4), .unset, .unset, .unset, .unset, .unset, .unset] [] (Hb 0 s)) (k92 : Int32 → Int32 → Int32 → Int32 → Int32 → Int32 → St → Option (Int32 × St)) (hk92 : ∀ (v2 : Int32) (v3 : Int32) (v4 : Int32) (v5 : Int32) (v6 : Int32) (v7 : Int32) (s : St) (r : Int32 × St), k92 v2 v3 v4 v5 v6 v7 s = some r → W5 l Z n0 (P5 r) 0 0 92 [.val (.ref 0), .unset, .val (.int v2), .val (.int v3), .val (.int v4), .val (.int v5), .val (.int v6), .val (.int v7), .unset, .unset, .unset] [] (Hb 0 s)) (n : Nat) (v2 : Int32) (v3 : Int32) (v4 : Int32) (v5 : Int32) (v6 : Int32) (v7 : Int32) (s : St) (r : Int32 × St) (h : g_L_holds_92 k67 k92 n v2 v3 v4 v5 v6 v7 s = some r) : W5 l Z n0 (P5 r) 0 0 92 [.val (.ref 0), .unset, .val (.int v2), .val (.int v3), .val (.int v4), .val (.int v5), .val (.int v6), .val (.int v7), .unset, .unset, .unset] [] (Hb 0 s) := by
  unfold g_L_holds_92 at h
  refine WP.iload d5_92 rfl ?_
  refine WP.bipush (16 : Int32) d5_94 rfl ?_
  rcases ite_e h with ⟨hc1, h⟩ | ⟨hc1, h⟩
  ·
    refine WP.icmpN d5_96 (XT.ii_ge_f hc1) ?_
    refine WP.iload d5_99 rfl ?_
    refine WP.iloadN d5_101 rfl ?_
    rcases ite_e h with ⟨hc2, h⟩ | ⟨hc2, h⟩
    ·
      refine WP.icmpN d5_102 (XT.ii_ge_f hc2) ?_
      refine WP.aloadN d5_105 rfl ?_
      refine WP.iload d5_106 rfl ?_
      obtain ⟨c3, hc3, h⟩ := Option.bind_eq_some_iff.mp h
      refine WP.callV (i := 0) (y := y27) (as := [.int v7]) (S := []) d5_108 (hw _ m_163) (hw _ m_164) (hw _ m_166) (hw _ m_165) (hw _ m_167) (hw _ m_2) hy27 rfl (ok27 l Z a0 hw v7 s _ hc3) rfl (lenOf pd27 rfl) (leb rfl) (leb rfl) (leb rfl) (leb rfl) ?_
      rintro _ _ ⟨rfl, rfl⟩
      show W5 l Z n0 (P5 r) 0 0 111 [.val (.ref 0), .unset, .val (.int v2), .val (.int v3), .val (.int v4), .val (.int v5), .val (.int v6), .val (.int v7), .unset, .unset, .unset] [.int c3] (Hb 0 s)
      refine WP.istore (L' := [.val (.ref 0), .unset, .val (.int v2), .val (.int v3), .val (.int v4), .val (.int v5), .val (.int v6), .val (.int v7), .val (.int c3), .unset, .unset]) d5_111 (leb rfl) rfl ?_
      refine WP.aloadN d5_113 rfl ?_
      refine WP.iload d5_114 rfl ?_
      obtain ⟨c4, hc4, h⟩ := Option.bind_eq_some_iff.mp h
      refine WP.callV (i := 0) (y := y28) (as := [.int v7]) (S := []) d5_116 (hw _ m_168) (hw _ m_169) (hw _ m_171) (hw _ m_170) (hw _ m_172) (hw _ m_2) hy28 rfl (ok28 l Z a0 hw v7 s _ hc4) rfl (lenOf pd28 rfl) (leb rfl) (leb rfl) (leb rfl) (leb rfl) ?_
      rintro _ _ ⟨rfl, rfl⟩
      show W5 l Z n0 (P5 r) 0 0 119 [.val (.ref 0), .unset, .val (.int v2), .val (.int v3), .val (.int v4), .val (.int v5), .val (.int v6), .val (.int v7), .val (.int c3), .unset, .unset] [.int c4] (Hb 0 s)
      refine WP.istore (L' := [.val (.ref 0), .unset, .val (.int v2), .val (.int v3), .val (.int v4), .val (.int v5), .val (.int v6), .val (.int v7), .val (.int c3), .val (.int c4), .unset]) d5_119 (leb rfl) rfl ?_
      refine WP.iload d5_121 rfl ?_
      refine WP.iload d5_123 rfl ?_
      rcases ite_e h with ⟨hc5, h⟩ | ⟨hc5, h⟩
      ·
        refine WP.icmpN d5_125 (XT.ii_ge_f hc5) ?_
        refine WP.iload d5_128 rfl ?_
        refine WP.iload d5_130 rfl ?_
        rcases ite_e h with ⟨hc6, h⟩ | ⟨hc6, h⟩
        ·
          refine WP.icmpN d5_132 (XT.ii_ge_f hc6) ?_
          refine WP.iload d5_135 rfl ?_
          refine WP.istore (L' := [.val (.ref 0), .unset, .val (.int v2), .val (.int v3), .val (.int v4), .val (.int c3), .val (.int v6), .val (.int v7), .val (.int c3), .val (.int c4), .unset]) d5_137 (leb rfl) rfl ?_
          refine WP.iload d5_139 rfl ?_
          refine WP.istore (L' := [.val (.ref 0), .unset, .val (.int v2), .val (.int v3), .val (.int v4), .val (.int c3), .val (.int c4), .val (.int v7), .val (.int c3), .val (.int c4), .unset]) d5_141 (leb rfl) rfl ?_
          exact WP.weak (L' := [.val (.ref 0), .unset, .val (.int v2), .val (.int v3), .val (.int v4), .val (.int c3), .val (.int c4), .val (.int v7), .unset, .unset, .unset]) ⟨rfl, rfl, rfl, rfl, rfl, rfl, rfl, trivial⟩ (ok5_143 l Z a0 hw n0 _ hk67 _ hk92 n v2 v3 v4 c3 c4 v7 s _ h)
        ·
          refine WP.icmpY (pc' := 143) d5_132 (XT.ii_ge_t hc6) (by decide) rfl ?_
          exact WP.weak (L' := [.val (.ref 0), .unset, .val (.int v2), .val (.int v3), .val (.int v4), .val (.int v5), .val (.int v6), .val (.int v7), .unset, .unset, .unset]) ⟨rfl, rfl, rfl, rfl, rfl, rfl, rfl, trivial⟩ (ok5_143 l Z a0 hw n0 _ hk67 _ hk92 n v2 v3 v4 v5 v6 v7 s _ h)
      ·
        refine WP.icmpY (pc' := 143) d5_125 (XT.ii_ge_t hc5) (by decide) rfl ?_
        exact WP.weak (L' := [.val (.ref 0), .unset, .val (.int v2), .val (.int v3), .val (.int v4), .val (.int v5), .val (.int v6), .val (.int v7), .unset, .unset, .unset]) ⟨rfl, rfl, rfl, rfl, rfl, rfl, rfl, trivial⟩ (ok5_143 l Z a0 hw n0 _ hk67 _ hk92 n v2 v3 v4 v5 v6 v7 s _ h)
    ·
      refine WP.icmpY (pc' := 149) d5_102 (XT.ii_ge_t hc2) (by decide) rfl ?_
      exact WP.weak (L' := [.val (.ref 0), .unset, .val (.int v2), .val (.int v3), .val (.int v4), .val (.int v5), .val (.int v6), .unset, .unset, .unset, .unset]) ⟨rfl, rfl, rfl, rfl, rfl, rfl, trivial⟩ (ok5_149 l Z a0 hw n0 _ hk67 n v2 v3 v4 v5 v6 s _ h)
  ·
    refine WP.icmpY (pc' := 149) d5_96 (XT.ii_ge_t hc1) (by decide) rfl ?_
    exact WP.weak (L' := [.val (.ref 0), .unset, .val (.int v2), .val (.int v3), .val (.int v4), .val (.int v5), .val (.int v6), .unset, .unset, .unset, .unset]) ⟨rfl, rfl, rfl, rfl, rfl, rfl, trivial⟩ (ok5_149 l Z a0 hw n0 _ hk67 n v2 v3 v4 v5 v6 s _ h)
def f_L_holds_92 (k67 : Int32 → Int32 → Int32 → St → Option (Int32 × St)) : Nat → Int32 → Int32 → Int32 → Int32 → Int32 → Int32 → St → Option (Int32 × St)
  | 0 => fun _ _ _ _ _ _ _ => none
  | n + 1 => g_L_holds_92 k67 (f_L_holds_92 k67 n) n
theorem ok5_92 (l : Launch) (Z : State) (a0 : Array Value) (hw : HW a0 Z) (n0 : Nat) (k67 : Int32 → Int32 → Int32 → St → Option (Int32 × St)) (hk67 : ∀ (v2 : Int32) (v3 : Int32) (v4 : Int32) (s : St) (r : Int32 × St), k67 v2 v3 v4 s = some r → W5 l Z n0 (P5 r) 0 0 67 [.val (.ref 0), .unset, .val (.int v2), .val (.int v3), .val (.int v4), .unset, .unset, .unset, .unset, .unset, .unset] [] (Hb 0 s)) : ∀ (n : Nat) (v2 : Int32) (v3 : Int32) (v4 : Int32) (v5 : Int32) (v6 : Int32) (v7 : Int32) (s : St) (r : Int32 × St), f_L_holds_92 k67 n v2 v3 v4 v5 v6 v7 s = some r → W5 l Z n0 (P5 r) 0 0 92 [.val (.ref 0), .unset, .val (.int v2), .val (.int v3), .val (.int v4), .val (.int v5), .val (.int v6), .val (.int v7), .unset, .unset, .unset] [] (Hb 0 s)
  | 0, v2, v3, v4, v5, v6, v7, s, r, h => nomatch (show none = some r from h)
  | n + 1, v2, v3, v4, v5, v6, v7, s, r, h => okg5_92 l Z a0 hw n0 _ hk67 _ (ok5_92 l Z a0 hw n0 k67 hk67 n) n v2 v3 v4 v5 v6 v7 s r h
def f_L_holds_241 (n : Nat) (s : St) : Option (Int32 × St) :=
  some ((1 : Int32), s)
set_option maxRecDepth 65536 in
set_option maxHeartbeats 4000000 in
theorem ok5_241 (l : Launch) (Z : State) (a0 : Array Value) (hw : HW a0 Z) (n0 : Nat) (n : Nat) (s : St) (r : Int32 × St) (h : f_L_holds_241 n s = some r) : W5 l Z n0 (P5 r) 0 0 241 [.unset, .unset, .unset, .unset, .unset, .unset, .unset, .unset, .unset, .unset, .unset] [] (Hb 0 s) := by
  unfold f_L_holds_241 at h
  refine WP.iconst (1 : Int32) d5_241 rfl ?_
  cases h
  exact WP.zreturn d5_242 rfl (leb rfl) (leb rfl) ⟨rfl, rfl⟩
def g_L_holds_67 (k67 : Int32 → Int32 → Int32 → St → Option (Int32 × St)) (n : Nat) (v2 : Int32) (v3 : Int32) (v4 : Int32) (s : St) : Option (Int32 × St) :=
  if (256 : Int32) < v4 then
    f_L_holds_241 n s
  else
    if v2 < v4 then
      f_L_holds_241 n s
    else
      f_L_holds_92 k67 n v2 v3 v4 v4 v4 (0 : Int32) s
set_option maxRecDepth 65536 in
set_option maxHeartbeats 4000000 in
theorem okg5_67 (l : Launch) (Z : State) (a0 : Array Value) (hw : HW a0 Z) (n0 : Nat) (k67 : Int32 → Int32 → Int32 → St → Option (Int32 × St)) (hk67 : ∀ (v2 : Int32) (v3 : Int32) (v4 : Int32) (s : St) (r : Int32 × St), k67 v2 v3 v4 s = some r → W5 l Z n0 (P5 r) 0 0 67 [.val (.ref 0), .unset, .val (.int v2), .val (.int v3), .val (.int v4), .unset, .unset, .unset, .unset, .unset, .unset] [] (Hb 0 s)) (n : Nat) (v2 : Int32) (v3 : Int32) (v4 : Int32) (s : St) (r : Int32 × St) (h : g_L_holds_67 k67 n v2 v3 v4 s = some r) : W5 l Z n0 (P5 r) 0 0 67 [.val (.ref 0), .unset, .val (.int v2), .val (.int v3), .val (.int v4), .unset, .unset, .unset, .unset, .unset, .unset] [] (Hb 0 s) := by
  unfold g_L_holds_67 at h
  refine WP.iload d5_67 rfl ?_
  refine WP.sipush (256 : Int32) d5_69 rfl ?_
  rcases ite_e h with ⟨hc1, h⟩ | ⟨hc1, h⟩
  ·
    refine WP.icmpY (pc' := 241) d5_72 (XT.ii_gt_t hc1) (by decide) rfl ?_
    exact WP.weak (L' := [.unset, .unset, .unset, .unset, .unset, .unset, .unset, .unset, .unset, .unset, .unset]) trivial (ok5_241 l Z a0 hw n0 n s _ h)
  ·
    refine WP.icmpN d5_72 (XT.ii_gt_f hc1) ?_
    refine WP.iload d5_75 rfl ?_
    refine WP.iloadN d5_77 rfl ?_
    rcases ite_e h with ⟨hc2, h⟩ | ⟨hc2, h⟩
    ·
      refine WP.icmpY (pc' := 241) d5_78 (XT.ii_gt_t hc2) (by decide) rfl ?_
      exact WP.weak (L' := [.unset, .unset, .unset, .unset, .unset, .unset, .unset, .unset, .unset, .unset, .unset]) trivial (ok5_241 l Z a0 hw n0 n s _ h)
    ·
      refine WP.icmpN d5_78 (XT.ii_gt_f hc2) ?_
      refine WP.iload d5_81 rfl ?_
      refine WP.istore (L' := [.val (.ref 0), .unset, .val (.int v2), .val (.int v3), .val (.int v4), .val (.int v4), .unset, .unset, .unset, .unset, .unset]) d5_83 (leb rfl) rfl ?_
      refine WP.iload d5_85 rfl ?_
      refine WP.istore (L' := [.val (.ref 0), .unset, .val (.int v2), .val (.int v3), .val (.int v4), .val (.int v4), .val (.int v4), .unset, .unset, .unset, .unset]) d5_87 (leb rfl) rfl ?_
      refine WP.iconst (0 : Int32) d5_89 rfl ?_
      refine WP.istore (L' := [.val (.ref 0), .unset, .val (.int v2), .val (.int v3), .val (.int v4), .val (.int v4), .val (.int v4), .val (.int (0 : Int32)), .unset, .unset, .unset]) d5_90 (leb rfl) rfl ?_
      exact WP.weak (L' := [.val (.ref 0), .unset, .val (.int v2), .val (.int v3), .val (.int v4), .val (.int v4), .val (.int v4), .val (.int (0 : Int32)), .unset, .unset, .unset]) ⟨rfl, rfl, rfl, rfl, rfl, rfl, rfl, trivial⟩ (ok5_92 l Z a0 hw n0 _ hk67 n v2 v3 v4 v4 v4 (0 : Int32) s _ h)
def f_L_holds_67 : Nat → Int32 → Int32 → Int32 → St → Option (Int32 × St)
  | 0 => fun _ _ _ _ => none
  | n + 1 => g_L_holds_67 (f_L_holds_67 n) n
theorem ok5_67 (l : Launch) (Z : State) (a0 : Array Value) (hw : HW a0 Z) (n0 : Nat) : ∀ (n : Nat) (v2 : Int32) (v3 : Int32) (v4 : Int32) (s : St) (r : Int32 × St), f_L_holds_67 n v2 v3 v4 s = some r → W5 l Z n0 (P5 r) 0 0 67 [.val (.ref 0), .unset, .val (.int v2), .val (.int v3), .val (.int v4), .unset, .unset, .unset, .unset, .unset, .unset] [] (Hb 0 s)
  | 0, v2, v3, v4, s, r, h => nomatch (show none = some r from h)
  | n + 1, v2, v3, v4, s, r, h => okg5_67 l Z a0 hw n0 _ (ok5_67 l Z a0 hw n0 n) n v2 v3 v4 s r h
def f_L_holds_54 (n : Nat) (s : St) : Option (Int32 × St) :=
  (f_length s).bind fun c1 =>
  (f_foldCount s).bind fun c2 =>
  f_L_holds_67 n c1 c2 (0 : Int32) s
set_option maxRecDepth 65536 in
set_option maxHeartbeats 4000000 in
theorem ok5_54 (l : Launch) (Z : State) (a0 : Array Value) (hw : HW a0 Z) (n0 : Nat) (n : Nat) (s : St) (r : Int32 × St) (h : f_L_holds_54 n s = some r) : W5 l Z n0 (P5 r) 0 0 54 [.val (.ref 0), .unset, .unset, .unset, .unset, .unset, .unset, .unset, .unset, .unset, .unset] [] (Hb 0 s) := by
  unfold f_L_holds_54 at h
  refine WP.aloadN d5_54 rfl ?_
  obtain ⟨c1, hc1, h⟩ := Option.bind_eq_some_iff.mp h
  refine WP.callV (i := 0) (y := y12) (as := []) (S := []) d5_55 (hw _ m_97) (hw _ m_98) (hw _ m_100) (hw _ m_99) (hw _ m_101) (hw _ m_2) hy12 rfl (ok12 l Z a0 hw s _ hc1) rfl (lenOf pd12 rfl) (leb rfl) (leb rfl) (leb rfl) (leb rfl) ?_
  rintro _ _ ⟨rfl, rfl⟩
  show W5 l Z n0 (P5 r) 0 0 58 [.val (.ref 0), .unset, .unset, .unset, .unset, .unset, .unset, .unset, .unset, .unset, .unset] [.int c1] (Hb 0 s)
  refine WP.istoreN (L' := [.val (.ref 0), .unset, .val (.int c1), .unset, .unset, .unset, .unset, .unset, .unset, .unset, .unset]) d5_58 (leb rfl) rfl ?_
  refine WP.aloadN d5_59 rfl ?_
  obtain ⟨c2, hc2, h⟩ := Option.bind_eq_some_iff.mp h
  refine WP.callV (i := 0) (y := y13) (as := []) (S := []) d5_60 (hw _ m_102) (hw _ m_103) (hw _ m_105) (hw _ m_104) (hw _ m_106) (hw _ m_2) hy13 rfl (ok13 l Z a0 hw s _ hc2) rfl (lenOf pd13 rfl) (leb rfl) (leb rfl) (leb rfl) (leb rfl) ?_
  rintro _ _ ⟨rfl, rfl⟩
  show W5 l Z n0 (P5 r) 0 0 63 [.val (.ref 0), .unset, .val (.int c1), .unset, .unset, .unset, .unset, .unset, .unset, .unset, .unset] [.int c2] (Hb 0 s)
  refine WP.istoreN (L' := [.val (.ref 0), .unset, .val (.int c1), .val (.int c2), .unset, .unset, .unset, .unset, .unset, .unset, .unset]) d5_63 (leb rfl) rfl ?_
  refine WP.iconst (0 : Int32) d5_64 rfl ?_
  refine WP.istore (L' := [.val (.ref 0), .unset, .val (.int c1), .val (.int c2), .val (.int (0 : Int32)), .unset, .unset, .unset, .unset, .unset, .unset]) d5_65 (leb rfl) rfl ?_
  exact WP.weak (L' := [.val (.ref 0), .unset, .val (.int c1), .val (.int c2), .val (.int (0 : Int32)), .unset, .unset, .unset, .unset, .unset, .unset]) ⟨rfl, rfl, rfl, rfl, trivial⟩ (ok5_67 l Z a0 hw n0 n c1 c2 (0 : Int32) s _ h)
def g_L_holds_17 (k17 : Int32 → Int32 → St → Option (Int32 × St)) (n : Nat) (v1 : Int32) (v2 : Int32) (s : St) : Option (Int32 × St) :=
  if v2 < (300 : Int32) then
    if v2 < (v1 - (1 : Int32)) then
      (f_rowStart n v2 s).bind fun c3 =>
      (f_rowStart n (v2 + (1 : Int32)) c3.2).bind fun c4 =>
      if c3.1 < c4.1 then
        lt (v2 + (1 : Int32)) fun x6 =>
        k17 v1 x6 c4.2
      else
        some ((0 : Int32), c4.2)
    else
      f_L_holds_54 n s
  else
    f_L_holds_54 n s
set_option maxRecDepth 65536 in
set_option maxHeartbeats 4000000 in
theorem okg5_17 (l : Launch) (Z : State) (a0 : Array Value) (hw : HW a0 Z) (n0 : Nat) (k17 : Int32 → Int32 → St → Option (Int32 × St)) (hk17 : ∀ (v1 : Int32) (v2 : Int32) (s : St) (r : Int32 × St), k17 v1 v2 s = some r → W5 l Z n0 (P5 r) 0 0 17 [.val (.ref 0), .val (.int v1), .val (.int v2), .unset, .unset, .unset, .unset, .unset, .unset, .unset, .unset] [] (Hb 0 s)) (n : Nat) (v1 : Int32) (v2 : Int32) (s : St) (r : Int32 × St) (h : g_L_holds_17 k17 n v1 v2 s = some r) : W5 l Z n0 (P5 r) 0 0 17 [.val (.ref 0), .val (.int v1), .val (.int v2), .unset, .unset, .unset, .unset, .unset, .unset, .unset, .unset] [] (Hb 0 s) := by
  unfold g_L_holds_17 at h
  refine WP.iloadN d5_17 rfl ?_
  refine WP.sipush (300 : Int32) d5_18 rfl ?_
  rcases ite_e h with ⟨hc1, h⟩ | ⟨hc1, h⟩
  ·
    refine WP.icmpN d5_21 (XT.ii_ge_f hc1) ?_
    refine WP.iloadN d5_24 rfl ?_
    refine WP.iloadN d5_25 rfl ?_
    refine WP.iconst (1 : Int32) d5_26 rfl ?_
    refine WP.isub d5_27 ?_
    rcases ite_e h with ⟨hc2, h⟩ | ⟨hc2, h⟩
    ·
      refine WP.icmpN d5_28 (XT.ii_ge_f hc2) ?_
      refine WP.aloadN d5_31 rfl ?_
      refine WP.iloadN d5_32 rfl ?_
      obtain ⟨c3, hc3, h⟩ := Option.bind_eq_some_iff.mp h
      refine WP.callV (i := 0) (y := y11) (as := [.int v2]) (S := []) d5_33 (hw _ m_92) (hw _ m_93) (hw _ m_95) (hw _ m_94) (hw _ m_96) (hw _ m_2) hy11 rfl (ok11 l Z a0 hw n v2 s _ hc3) rfl (lenOf pd11 rfl) (leb rfl) (leb rfl) (leb rfl) (leb rfl) ?_
      rintro _ _ ⟨rfl, rfl⟩
      show W5 l Z n0 (P5 r) 0 0 36 [.val (.ref 0), .val (.int v1), .val (.int v2), .unset, .unset, .unset, .unset, .unset, .unset, .unset, .unset] [.int c3.1] (Hb 0 c3.2)
      refine WP.aloadN d5_36 rfl ?_
      refine WP.iloadN d5_37 rfl ?_
      refine WP.iconst (1 : Int32) d5_38 rfl ?_
      refine WP.iadd d5_39 ?_
      obtain ⟨c4, hc4, h⟩ := Option.bind_eq_some_iff.mp h
      refine WP.callV (i := 0) (y := y11) (as := [.int (v2 + (1 : Int32))]) (S := [.int c3.1]) d5_40 (hw _ m_92) (hw _ m_93) (hw _ m_95) (hw _ m_94) (hw _ m_96) (hw _ m_2) hy11 rfl (ok11 l Z a0 hw n (v2 + (1 : Int32)) c3.2 _ hc4) rfl (lenOf pd11 rfl) (leb rfl) (leb rfl) (leb rfl) (leb rfl) ?_
      rintro _ _ ⟨rfl, rfl⟩
      show W5 l Z n0 (P5 r) 0 0 43 [.val (.ref 0), .val (.int v1), .val (.int v2), .unset, .unset, .unset, .unset, .unset, .unset, .unset, .unset] [.int c4.1, .int c3.1] (Hb 0 c4.2)
      rcases ite_e h with ⟨hc5, h⟩ | ⟨hc5, h⟩
      ·
        refine WP.icmpY (pc' := 48) d5_43 (XT.ii_lt_t hc5) (by decide) rfl ?_
        obtain ⟨x6, ex6, h⟩ := lt_e h
        refine WP.iinc (L' := [.val (.ref 0), .val (.int v1), .val (.int x6), .unset, .unset, .unset, .unset, .unset, .unset, .unset, .unset]) (1 : Int32) d5_48 rfl rfl (by subst ex6; rfl) ?_
        refine WP.goto (pc' := 17) d5_51 (by decide) rfl ?_
        exact WP.weak (L' := [.val (.ref 0), .val (.int v1), .val (.int x6), .unset, .unset, .unset, .unset, .unset, .unset, .unset, .unset]) ⟨rfl, rfl, rfl, trivial⟩ (hk17 v1 x6 c4.2 _ h)
      ·
        refine WP.icmpN d5_43 (XT.ii_lt_f hc5) ?_
        refine WP.iconst (0 : Int32) d5_46 rfl ?_
        cases h
        exact WP.zreturn d5_47 rfl (leb rfl) (leb rfl) ⟨rfl, rfl⟩
    ·
      refine WP.icmpY (pc' := 54) d5_28 (XT.ii_ge_t hc2) (by decide) rfl ?_
      exact WP.weak (L' := [.val (.ref 0), .unset, .unset, .unset, .unset, .unset, .unset, .unset, .unset, .unset, .unset]) ⟨rfl, trivial⟩ (ok5_54 l Z a0 hw n0 n s _ h)
  ·
    refine WP.icmpY (pc' := 54) d5_21 (XT.ii_ge_t hc1) (by decide) rfl ?_
    exact WP.weak (L' := [.val (.ref 0), .unset, .unset, .unset, .unset, .unset, .unset, .unset, .unset, .unset, .unset]) ⟨rfl, trivial⟩ (ok5_54 l Z a0 hw n0 n s _ h)
def f_L_holds_17 : Nat → Int32 → Int32 → St → Option (Int32 × St)
  | 0 => fun _ _ _ => none
  | n + 1 => g_L_holds_17 (f_L_holds_17 n) n
theorem ok5_17 (l : Launch) (Z : State) (a0 : Array Value) (hw : HW a0 Z) (n0 : Nat) : ∀ (n : Nat) (v1 : Int32) (v2 : Int32) (s : St) (r : Int32 × St), f_L_holds_17 n v1 v2 s = some r → W5 l Z n0 (P5 r) 0 0 17 [.val (.ref 0), .val (.int v1), .val (.int v2), .unset, .unset, .unset, .unset, .unset, .unset, .unset, .unset] [] (Hb 0 s)
  | 0, v1, v2, s, r, h => nomatch (show none = some r from h)
  | n + 1, v1, v2, s, r, h => okg5_17 l Z a0 hw n0 _ (ok5_17 l Z a0 hw n0 n) n v1 v2 s r h
def f_L_holds (n : Nat) (s : St) : Option (Int32 × St) :=
  (f_rowCount n s).bind fun c1 =>
  (f_rowStart n (0 : Int32) c1.2).bind fun c2 =>
  if c2.1 = 0 then
    f_L_holds_17 n c1.1 (0 : Int32) c2.2
  else
    some ((0 : Int32), c2.2)
set_option maxRecDepth 65536 in
set_option maxHeartbeats 4000000 in
theorem ok5 (l : Launch) (Z : State) (a0 : Array Value) (hw : HW a0 Z) (n : Nat) (s : St) (r : Int32 × St) (h : f_L_holds n s = some r) : CS l Z CN lay y5 method_6_code 11 (some FieldType.boolean) R5 0 [.ref 0] (Hb 0 s) (P5 r) := by
  refine CS.of_wp pn_law (leb rfl) fun n0 => ?_
  show W5 l Z n0 (P5 r) 0 0 0 [.val (.ref 0), .unset, .unset, .unset, .unset, .unset, .unset, .unset, .unset, .unset, .unset] [] (Hb 0 s)
  unfold f_L_holds at h
  refine WP.aloadN d5_0 rfl ?_
  obtain ⟨c1, hc1, h⟩ := Option.bind_eq_some_iff.mp h
  refine WP.callV (i := 0) (y := y6) (as := []) (S := []) d5_1 (hw _ m_57) (hw _ m_58) (hw _ m_60) (hw _ m_59) (hw _ m_61) (hw _ m_2) hy6 rfl (ok6 l Z a0 hw n s _ hc1) rfl (lenOf pd6 rfl) (leb rfl) (leb rfl) (leb rfl) (leb rfl) ?_
  rintro _ _ ⟨rfl, rfl⟩
  show W5 l Z n0 (P5 r) 0 0 4 [.val (.ref 0), .unset, .unset, .unset, .unset, .unset, .unset, .unset, .unset, .unset, .unset] [.int c1.1] (Hb 0 c1.2)
  refine WP.istoreN (L' := [.val (.ref 0), .val (.int c1.1), .unset, .unset, .unset, .unset, .unset, .unset, .unset, .unset, .unset]) d5_4 (leb rfl) rfl ?_
  refine WP.aloadN d5_5 rfl ?_
  refine WP.iconst (0 : Int32) d5_6 rfl ?_
  obtain ⟨c2, hc2, h⟩ := Option.bind_eq_some_iff.mp h
  refine WP.callV (i := 0) (y := y11) (as := [.int (0 : Int32)]) (S := []) d5_7 (hw _ m_92) (hw _ m_93) (hw _ m_95) (hw _ m_94) (hw _ m_96) (hw _ m_2) hy11 rfl (ok11 l Z a0 hw n (0 : Int32) c1.2 _ hc2) rfl (lenOf pd11 rfl) (leb rfl) (leb rfl) (leb rfl) (leb rfl) ?_
  rintro _ _ ⟨rfl, rfl⟩
  show W5 l Z n0 (P5 r) 0 0 10 [.val (.ref 0), .val (.int c1.1), .unset, .unset, .unset, .unset, .unset, .unset, .unset, .unset, .unset] [.int c2.1] (Hb 0 c2.2)
  rcases ite_e h with ⟨hc3, h⟩ | ⟨hc3, h⟩
  ·
    refine WP.ifY (pc' := 15) d5_10 (XT.i0_eq_t hc3) (by decide) rfl ?_
    refine WP.iconst (0 : Int32) d5_15 rfl ?_
    refine WP.istoreN (L' := [.val (.ref 0), .val (.int c1.1), .val (.int (0 : Int32)), .unset, .unset, .unset, .unset, .unset, .unset, .unset, .unset]) d5_16 (leb rfl) rfl ?_
    exact WP.weak (L' := [.val (.ref 0), .val (.int c1.1), .val (.int (0 : Int32)), .unset, .unset, .unset, .unset, .unset, .unset, .unset, .unset]) ⟨rfl, rfl, rfl, trivial⟩ (ok5_17 l Z a0 hw n0 n c1.1 (0 : Int32) c2.2 _ h)
  ·
    refine WP.ifN d5_10 (XT.i0_eq_f hc3) ?_
    refine WP.iconst (0 : Int32) d5_13 rfl ?_
    cases h
    exact WP.zreturn d5_14 rfl (leb rfl) (leb rfl) ⟨rfl, rfl⟩
theorem d18_0 : dc method_4_code 0 (.iload_n 0) 1 := by decide +kernel
theorem d18_1 : dc method_4_code 1 (.bipush 8) 2 := by decide +kernel
theorem d18_3 : dc method_4_code 3 (.irem) 1 := by decide +kernel
theorem d18_4 : dc method_4_code 4 (.istore_n 1) 1 := by decide +kernel
theorem d18_5 : dc method_4_code 5 (.iload_n 1) 1 := by decide +kernel
theorem d18_6 : dc method_4_code 6 (.ifCond .ne 6) 3 := by decide +kernel
theorem d18_9 : dc method_4_code 9 (.bipush 10) 2 := by decide +kernel
theorem d18_11 : dc method_4_code 11 (.ireturn) 1 := by decide +kernel
theorem d18_12 : dc method_4_code 12 (.iload_n 1) 1 := by decide +kernel
theorem d18_13 : dc method_4_code 13 (.iconst 1) 1 := by decide +kernel
theorem d18_14 : dc method_4_code 14 (.if_icmp .ne 6) 3 := by decide +kernel
theorem d18_17 : dc method_4_code 17 (.bipush 9) 2 := by decide +kernel
theorem d18_19 : dc method_4_code 19 (.ireturn) 1 := by decide +kernel
theorem d18_20 : dc method_4_code 20 (.bipush 32) 2 := by decide +kernel
theorem d18_22 : dc method_4_code 22 (.iload_n 0) 1 := by decide +kernel
theorem d18_23 : dc method_4_code 23 (.bipush 8) 2 := by decide +kernel
theorem d18_25 : dc method_4_code 25 (.idiv) 1 := by decide +kernel
theorem d18_26 : dc method_4_code 26 (.bipush 95) 2 := by decide +kernel
theorem d18_28 : dc method_4_code 28 (.irem) 1 := by decide +kernel
theorem d18_29 : dc method_4_code 29 (.iadd) 1 := by decide +kernel
theorem d18_30 : dc method_4_code 30 (.ireturn) 1 := by decide +kernel
abbrev y18 : MethodName := ⟨"DisplayMapOwnLaw", "charOf", "(I)I"⟩
theorem hy18 : y18.cls ≠ "java/lang/invoke/MethodHandle" ∧ y18.cls ≠ "java/lang/invoke/VarHandle" := by decide
theorem pd18 : parseMethodDescriptor y18.desc = some ⟨[.int], some .int⟩ := by decide +kernel
abbrev R18 : Room := { frames := 0, cells := 0, slots := 0, locals := 0 }
abbrev P18 (r : Int32) : Option Value → List OwnC → Prop := fun v H' => v = some (.int r) ∧ H' = ([] : List OwnC)
abbrev W18 (l : Launch) (Z : State) (n0 : Nat) (Q : Option Value → List OwnC → Prop) (k n pc : Nat) (L : List Slot) (S : List Value) (H : List OwnC) : Prop := WP l Z CN lay "DisplayMapOwnLaw" "charOf" method_4_code 2 (some FieldType.int) R18 n0 0 Q k n pc L S H
def f_L_charOf (p0 : Int32) : Option (Int32) :=
  lt (p0 % (8 : Int32)) fun x1 =>
  if x1 = 0 then
    some (10 : Int32)
  else
    if x1 = (1 : Int32) then
      some (9 : Int32)
    else
      some ((32 : Int32) + ((p0 / (8 : Int32)) % (95 : Int32)))
set_option maxRecDepth 65536 in
set_option maxHeartbeats 4000000 in
theorem ok18 (l : Launch) (Z : State) (a0 : Array Value) (hw : HW a0 Z) (p0 : Int32) (r : Int32) (h : f_L_charOf p0 = some r) : CS l Z CN lay y18 method_4_code 2 (some FieldType.int) R18 0 [.int p0] ([] : List OwnC) (P18 r) := by
  refine CS.of_wp pn_law (leb rfl) fun n0 => ?_
  show W18 l Z n0 (P18 r) 0 0 0 [.val (.int p0), .unset] [] ([] : List OwnC)
  unfold f_L_charOf at h
  refine WP.iloadN d18_0 rfl ?_
  refine WP.bipush (8 : Int32) d18_1 rfl ?_
  refine WP.irem d18_3 (by decide) ?_
  obtain ⟨x1, ex1, h⟩ := lt_e h
  refine WP.istoreN (L' := [.val (.int p0), .val (.int x1)]) d18_4 (leb rfl) (by subst ex1; rfl) ?_
  refine WP.iloadN d18_5 rfl ?_
  rcases ite_e h with ⟨hc2, h⟩ | ⟨hc2, h⟩
  ·
    refine WP.ifN d18_6 (XT.i0_ne_f hc2) ?_
    refine WP.bipush (10 : Int32) d18_9 rfl ?_
    cases h
    exact WP.ireturn d18_11 rfl (leb rfl) (leb rfl) ⟨rfl, rfl⟩
  ·
    refine WP.ifY (pc' := 12) d18_6 (XT.i0_ne_t hc2) (by decide) rfl ?_
    refine WP.iloadN d18_12 rfl ?_
    refine WP.iconst (1 : Int32) d18_13 rfl ?_
    rcases ite_e h with ⟨hc3, h⟩ | ⟨hc3, h⟩
    ·
      refine WP.icmpN d18_14 (XT.ii_ne_f hc3) ?_
      refine WP.bipush (9 : Int32) d18_17 rfl ?_
      cases h
      exact WP.ireturn d18_19 rfl (leb rfl) (leb rfl) ⟨rfl, rfl⟩
    ·
      refine WP.icmpY (pc' := 20) d18_14 (XT.ii_ne_t hc3) (by decide) rfl ?_
      refine WP.bipush (32 : Int32) d18_20 rfl ?_
      refine WP.iloadN d18_22 rfl ?_
      refine WP.bipush (8 : Int32) d18_23 rfl ?_
      refine WP.idiv d18_25 (by decide) ?_
      refine WP.bipush (95 : Int32) d18_26 rfl ?_
      refine WP.irem d18_28 (by decide) ?_
      refine WP.iadd d18_29 ?_
      cases h
      exact WP.ireturn d18_30 rfl (leb rfl) (leb rfl) ⟨rfl, rfl⟩
theorem d20_0 : dc prog_1_method_20_code 0 (.iload_n 0) 1 := by decide +kernel
theorem d20_1 : dc prog_1_method_20_code 1 (.bipush 9) 2 := by decide +kernel
theorem d20_3 : dc prog_1_method_20_code 3 (.if_icmp .eq 21) 3 := by decide +kernel
theorem d20_6 : dc prog_1_method_20_code 6 (.iload_n 0) 1 := by decide +kernel
theorem d20_7 : dc prog_1_method_20_code 7 (.bipush 10) 2 := by decide +kernel
theorem d20_9 : dc prog_1_method_20_code 9 (.if_icmp .eq 15) 3 := by decide +kernel
theorem d20_12 : dc prog_1_method_20_code 12 (.iload_n 0) 1 := by decide +kernel
theorem d20_13 : dc prog_1_method_20_code 13 (.bipush 32) 2 := by decide +kernel
theorem d20_15 : dc prog_1_method_20_code 15 (.if_icmp .lt 13) 3 := by decide +kernel
theorem d20_18 : dc prog_1_method_20_code 18 (.iload_n 0) 1 := by decide +kernel
theorem d20_19 : dc prog_1_method_20_code 19 (.bipush 126) 2 := by decide +kernel
theorem d20_21 : dc prog_1_method_20_code 21 (.if_icmp .gt 7) 3 := by decide +kernel
theorem d20_24 : dc prog_1_method_20_code 24 (.iconst 1) 1 := by decide +kernel
theorem d20_25 : dc prog_1_method_20_code 25 (.goto 4) 3 := by decide +kernel
theorem d20_28 : dc prog_1_method_20_code 28 (.iconst 0) 1 := by decide +kernel
theorem d20_29 : dc prog_1_method_20_code 29 (.ireturn) 1 := by decide +kernel
abbrev y20 : MethodName := ⟨"DisplayMap", "validChar", "(I)Z"⟩
theorem hy20 : y20.cls ≠ "java/lang/invoke/MethodHandle" ∧ y20.cls ≠ "java/lang/invoke/VarHandle" := by decide
theorem pd20 : parseMethodDescriptor y20.desc = some ⟨[.int], some .boolean⟩ := by decide +kernel
abbrev R20 : Room := { frames := 0, cells := 0, slots := 0, locals := 0 }
abbrev P20 (r : Int32) : Option Value → List OwnC → Prop := fun v H' => v = some (.int r) ∧ H' = ([] : List OwnC)
abbrev W20 (l : Launch) (Z : State) (n0 : Nat) (Q : Option Value → List OwnC → Prop) (k n pc : Nat) (L : List Slot) (S : List Value) (H : List OwnC) : Prop := WP l Z CN lay "DisplayMap" "validChar" prog_1_method_20_code 1 (some FieldType.boolean) R20 n0 0 Q k n pc L S H
def f_validChar_29 (t0 : Int32) : Option (Int32) :=
  some (t0 &&& 1)
set_option maxRecDepth 65536 in
set_option maxHeartbeats 4000000 in
theorem ok20_29 (l : Launch) (Z : State) (a0 : Array Value) (hw : HW a0 Z) (n0 : Nat) (t0 : Int32) (r : Int32) (h : f_validChar_29 t0 = some r) : W20 l Z n0 (P20 r) 0 0 29 [.unset] [.int t0] ([] : List OwnC) := by
  unfold f_validChar_29 at h
  cases h
  exact WP.zreturn d20_29 rfl (leb rfl) (leb rfl) ⟨rfl, rfl⟩
def f_validChar_24 : Option (Int32) :=
  f_validChar_29 (1 : Int32)
set_option maxRecDepth 65536 in
set_option maxHeartbeats 4000000 in
theorem ok20_24 (l : Launch) (Z : State) (a0 : Array Value) (hw : HW a0 Z) (n0 : Nat) (r : Int32) (h : f_validChar_24 = some r) : W20 l Z n0 (P20 r) 0 0 24 [.unset] [] ([] : List OwnC) := by
  unfold f_validChar_24 at h
  refine WP.iconst (1 : Int32) d20_24 rfl ?_
  refine WP.goto (pc' := 29) d20_25 (by decide) rfl ?_
  exact WP.weak (L' := [.unset]) trivial (ok20_29 l Z a0 hw n0 (1 : Int32) _ h)
def f_validChar_28 : Option (Int32) :=
  f_validChar_29 (0 : Int32)
set_option maxRecDepth 65536 in
set_option maxHeartbeats 4000000 in
theorem ok20_28 (l : Launch) (Z : State) (a0 : Array Value) (hw : HW a0 Z) (n0 : Nat) (r : Int32) (h : f_validChar_28 = some r) : W20 l Z n0 (P20 r) 0 0 28 [.unset] [] ([] : List OwnC) := by
  unfold f_validChar_28 at h
  refine WP.iconst (0 : Int32) d20_28 rfl ?_
  exact WP.weak (L' := [.unset]) trivial (ok20_29 l Z a0 hw n0 (0 : Int32) _ h)
def f_validChar (p0 : Int32) : Option (Int32) :=
  if p0 = (9 : Int32) then
    f_validChar_24 
  else
    if p0 = (10 : Int32) then
      f_validChar_24 
    else
      if p0 < (32 : Int32) then
        f_validChar_28 
      else
        if (126 : Int32) < p0 then
          f_validChar_28 
        else
          f_validChar_24 
set_option maxRecDepth 65536 in
set_option maxHeartbeats 4000000 in
theorem ok20 (l : Launch) (Z : State) (a0 : Array Value) (hw : HW a0 Z) (p0 : Int32) (r : Int32) (h : f_validChar p0 = some r) : CS l Z CN lay y20 prog_1_method_20_code 1 (some FieldType.boolean) R20 0 [.int p0] ([] : List OwnC) (P20 r) := by
  refine CS.of_wp pn_cls (leb rfl) fun n0 => ?_
  show W20 l Z n0 (P20 r) 0 0 0 [.val (.int p0)] [] ([] : List OwnC)
  unfold f_validChar at h
  refine WP.iloadN d20_0 rfl ?_
  refine WP.bipush (9 : Int32) d20_1 rfl ?_
  rcases ite_e h with ⟨hc1, h⟩ | ⟨hc1, h⟩
  ·
    refine WP.icmpY (pc' := 24) d20_3 (XT.ii_eq_t hc1) (by decide) rfl ?_
    exact WP.weak (L' := [.unset]) trivial (ok20_24 l Z a0 hw n0  _ h)
  ·
    refine WP.icmpN d20_3 (XT.ii_eq_f hc1) ?_
    refine WP.iloadN d20_6 rfl ?_
    refine WP.bipush (10 : Int32) d20_7 rfl ?_
    rcases ite_e h with ⟨hc2, h⟩ | ⟨hc2, h⟩
    ·
      refine WP.icmpY (pc' := 24) d20_9 (XT.ii_eq_t hc2) (by decide) rfl ?_
      exact WP.weak (L' := [.unset]) trivial (ok20_24 l Z a0 hw n0  _ h)
    ·
      refine WP.icmpN d20_9 (XT.ii_eq_f hc2) ?_
      refine WP.iloadN d20_12 rfl ?_
      refine WP.bipush (32 : Int32) d20_13 rfl ?_
      rcases ite_e h with ⟨hc3, h⟩ | ⟨hc3, h⟩
      ·
        refine WP.icmpY (pc' := 28) d20_15 (XT.ii_lt_t hc3) (by decide) rfl ?_
        exact WP.weak (L' := [.unset]) trivial (ok20_28 l Z a0 hw n0  _ h)
      ·
        refine WP.icmpN d20_15 (XT.ii_lt_f hc3) ?_
        refine WP.iloadN d20_18 rfl ?_
        refine WP.bipush (126 : Int32) d20_19 rfl ?_
        rcases ite_e h with ⟨hc4, h⟩ | ⟨hc4, h⟩
        ·
          refine WP.icmpY (pc' := 28) d20_21 (XT.ii_gt_t hc4) (by decide) rfl ?_
          exact WP.weak (L' := [.unset]) trivial (ok20_28 l Z a0 hw n0  _ h)
        ·
          refine WP.icmpN d20_21 (XT.ii_gt_f hc4) ?_
          exact WP.weak (L' := [.unset]) trivial (ok20_24 l Z a0 hw n0  _ h)
theorem d19_0 : dc prog_1_method_2_code 0 (.iload_n 1) 1 := by decide +kernel
theorem d19_1 : dc prog_1_method_2_code 1 (.ifCond .lt 11) 3 := by decide +kernel
theorem d19_4 : dc prog_1_method_2_code 4 (.iload_n 1) 1 := by decide +kernel
theorem d19_5 : dc prog_1_method_2_code 5 (.aload_n 0) 1 := by decide +kernel
theorem d19_6 : dc prog_1_method_2_code 6 (.getfield 54) 3 := by decide +kernel
theorem d19_9 : dc prog_1_method_2_code 9 (.if_icmp .le 5) 3 := by decide +kernel
theorem d19_12 : dc prog_1_method_2_code 12 (.iconst 0) 1 := by decide +kernel
theorem d19_13 : dc prog_1_method_2_code 13 (.ireturn) 1 := by decide +kernel
theorem d19_14 : dc prog_1_method_2_code 14 (.iload_n 2) 1 := by decide +kernel
theorem d19_15 : dc prog_1_method_2_code 15 (.invokestatic 64) 3 := by decide +kernel
theorem d19_18 : dc prog_1_method_2_code 18 (.ifCond .ne 5) 3 := by decide +kernel
theorem d19_21 : dc prog_1_method_2_code 21 (.iconst 0) 1 := by decide +kernel
theorem d19_22 : dc prog_1_method_2_code 22 (.ireturn) 1 := by decide +kernel
theorem d19_23 : dc prog_1_method_2_code 23 (.aload_n 0) 1 := by decide +kernel
theorem d19_24 : dc prog_1_method_2_code 24 (.getfield 54) 3 := by decide +kernel
theorem d19_27 : dc prog_1_method_2_code 27 (.sipush 256) 3 := by decide +kernel
theorem d19_30 : dc prog_1_method_2_code 30 (.if_icmp .lt 5) 3 := by decide +kernel
theorem d19_33 : dc prog_1_method_2_code 33 (.iconst 0) 1 := by decide +kernel
theorem d19_34 : dc prog_1_method_2_code 34 (.ireturn) 1 := by decide +kernel
theorem d19_35 : dc prog_1_method_2_code 35 (.aload_n 0) 1 := by decide +kernel
theorem d19_36 : dc prog_1_method_2_code 36 (.getfield 54) 3 := by decide +kernel
theorem d19_39 : dc prog_1_method_2_code 39 (.istore_n 3) 1 := by decide +kernel
theorem d19_40 : dc prog_1_method_2_code 40 (.iload_n 3) 1 := by decide +kernel
theorem d19_41 : dc prog_1_method_2_code 41 (.iload_n 1) 1 := by decide +kernel
theorem d19_42 : dc prog_1_method_2_code 42 (.if_icmp .le 23) 3 := by decide +kernel
theorem d19_45 : dc prog_1_method_2_code 45 (.aload_n 0) 1 := by decide +kernel
theorem d19_46 : dc prog_1_method_2_code 46 (.getfield 7) 3 := by decide +kernel
theorem d19_49 : dc prog_1_method_2_code 49 (.iload_n 3) 1 := by decide +kernel
theorem d19_50 : dc prog_1_method_2_code 50 (.aload_n 0) 1 := by decide +kernel
theorem d19_51 : dc prog_1_method_2_code 51 (.getfield 7) 3 := by decide +kernel
theorem d19_54 : dc prog_1_method_2_code 54 (.iload_n 3) 1 := by decide +kernel
theorem d19_55 : dc prog_1_method_2_code 55 (.iconst 1) 1 := by decide +kernel
theorem d19_56 : dc prog_1_method_2_code 56 (.isub) 1 := by decide +kernel
theorem d19_57 : dc prog_1_method_2_code 57 (.iaload) 1 := by decide +kernel
theorem d19_58 : dc prog_1_method_2_code 58 (.iastore) 1 := by decide +kernel
theorem d19_59 : dc prog_1_method_2_code 59 (.iinc 3 (-1)) 3 := by decide +kernel
theorem d19_62 : dc prog_1_method_2_code 62 (.goto (-22)) 3 := by decide +kernel
theorem d19_65 : dc prog_1_method_2_code 65 (.aload_n 0) 1 := by decide +kernel
theorem d19_66 : dc prog_1_method_2_code 66 (.getfield 7) 3 := by decide +kernel
theorem d19_69 : dc prog_1_method_2_code 69 (.iload_n 1) 1 := by decide +kernel
theorem d19_70 : dc prog_1_method_2_code 70 (.iload_n 2) 1 := by decide +kernel
theorem d19_71 : dc prog_1_method_2_code 71 (.iastore) 1 := by decide +kernel
theorem d19_72 : dc prog_1_method_2_code 72 (.aload_n 0) 1 := by decide +kernel
theorem d19_73 : dc prog_1_method_2_code 73 (.dup) 1 := by decide +kernel
theorem d19_74 : dc prog_1_method_2_code 74 (.getfield 54) 3 := by decide +kernel
theorem d19_77 : dc prog_1_method_2_code 77 (.iconst 1) 1 := by decide +kernel
theorem d19_78 : dc prog_1_method_2_code 78 (.iadd) 1 := by decide +kernel
theorem d19_79 : dc prog_1_method_2_code 79 (.putfield 54) 3 := by decide +kernel
theorem d19_82 : dc prog_1_method_2_code 82 (.iconst 0) 1 := by decide +kernel
theorem d19_83 : dc prog_1_method_2_code 83 (.istore_n 3) 1 := by decide +kernel
theorem d19_84 : dc prog_1_method_2_code 84 (.iload_n 3) 1 := by decide +kernel
theorem d19_85 : dc prog_1_method_2_code 85 (.aload_n 0) 1 := by decide +kernel
theorem d19_86 : dc prog_1_method_2_code 86 (.getfield 57) 3 := by decide +kernel
theorem d19_89 : dc prog_1_method_2_code 89 (.if_icmp .ge 62) 3 := by decide +kernel
theorem d19_92 : dc prog_1_method_2_code 92 (.iload_n 1) 1 := by decide +kernel
theorem d19_93 : dc prog_1_method_2_code 93 (.aload_n 0) 1 := by decide +kernel
theorem d19_94 : dc prog_1_method_2_code 94 (.getfield 13) 3 := by decide +kernel
theorem d19_97 : dc prog_1_method_2_code 97 (.iload_n 3) 1 := by decide +kernel
theorem d19_98 : dc prog_1_method_2_code 98 (.iaload) 1 := by decide +kernel
theorem d19_99 : dc prog_1_method_2_code 99 (.if_icmp .gt 26) 3 := by decide +kernel
theorem d19_102 : dc prog_1_method_2_code 102 (.aload_n 0) 1 := by decide +kernel
theorem d19_103 : dc prog_1_method_2_code 103 (.getfield 13) 3 := by decide +kernel
theorem d19_106 : dc prog_1_method_2_code 106 (.iload_n 3) 1 := by decide +kernel
theorem d19_107 : dc prog_1_method_2_code 107 (.dup2) 1 := by decide +kernel
theorem d19_108 : dc prog_1_method_2_code 108 (.iaload) 1 := by decide +kernel
theorem d19_109 : dc prog_1_method_2_code 109 (.iconst 1) 1 := by decide +kernel
theorem d19_110 : dc prog_1_method_2_code 110 (.iadd) 1 := by decide +kernel
theorem d19_111 : dc prog_1_method_2_code 111 (.iastore) 1 := by decide +kernel
theorem d19_112 : dc prog_1_method_2_code 112 (.aload_n 0) 1 := by decide +kernel
theorem d19_113 : dc prog_1_method_2_code 113 (.getfield 16) 3 := by decide +kernel
theorem d19_116 : dc prog_1_method_2_code 116 (.iload_n 3) 1 := by decide +kernel
theorem d19_117 : dc prog_1_method_2_code 117 (.dup2) 1 := by decide +kernel
theorem d19_118 : dc prog_1_method_2_code 118 (.iaload) 1 := by decide +kernel
theorem d19_119 : dc prog_1_method_2_code 119 (.iconst 1) 1 := by decide +kernel
theorem d19_120 : dc prog_1_method_2_code 120 (.iadd) 1 := by decide +kernel
theorem d19_121 : dc prog_1_method_2_code 121 (.iastore) 1 := by decide +kernel
theorem d19_122 : dc prog_1_method_2_code 122 (.goto 23) 3 := by decide +kernel
theorem d19_125 : dc prog_1_method_2_code 125 (.iload_n 1) 1 := by decide +kernel
theorem d19_126 : dc prog_1_method_2_code 126 (.aload_n 0) 1 := by decide +kernel
theorem d19_127 : dc prog_1_method_2_code 127 (.getfield 16) 3 := by decide +kernel
theorem d19_130 : dc prog_1_method_2_code 130 (.iload_n 3) 1 := by decide +kernel
theorem d19_131 : dc prog_1_method_2_code 131 (.iaload) 1 := by decide +kernel
theorem d19_132 : dc prog_1_method_2_code 132 (.if_icmp .ge 13) 3 := by decide +kernel
theorem d19_135 : dc prog_1_method_2_code 135 (.aload_n 0) 1 := by decide +kernel
theorem d19_136 : dc prog_1_method_2_code 136 (.getfield 16) 3 := by decide +kernel
theorem d19_139 : dc prog_1_method_2_code 139 (.iload_n 3) 1 := by decide +kernel
theorem d19_140 : dc prog_1_method_2_code 140 (.dup2) 1 := by decide +kernel
theorem d19_141 : dc prog_1_method_2_code 141 (.iaload) 1 := by decide +kernel
theorem d19_142 : dc prog_1_method_2_code 142 (.iconst 1) 1 := by decide +kernel
theorem d19_143 : dc prog_1_method_2_code 143 (.iadd) 1 := by decide +kernel
theorem d19_144 : dc prog_1_method_2_code 144 (.iastore) 1 := by decide +kernel
theorem d19_145 : dc prog_1_method_2_code 145 (.iinc 3 1) 3 := by decide +kernel
theorem d19_148 : dc prog_1_method_2_code 148 (.goto (-64)) 3 := by decide +kernel
theorem d19_151 : dc prog_1_method_2_code 151 (.aload_n 0) 1 := by decide +kernel
theorem d19_152 : dc prog_1_method_2_code 152 (.iconst 1) 1 := by decide +kernel
theorem d19_153 : dc prog_1_method_2_code 153 (.putfield 60) 3 := by decide +kernel
theorem d19_156 : dc prog_1_method_2_code 156 (.iconst 1) 1 := by decide +kernel
theorem d19_157 : dc prog_1_method_2_code 157 (.ireturn) 1 := by decide +kernel
abbrev y19 : MethodName := ⟨"DisplayMap", "insert", "(II)Z"⟩
theorem hy19 : y19.cls ≠ "java/lang/invoke/MethodHandle" ∧ y19.cls ≠ "java/lang/invoke/VarHandle" := by decide
theorem pd19 : parseMethodDescriptor y19.desc = some ⟨[.int, .int], some .boolean⟩ := by decide +kernel
abbrev R19 : Room := { frames := 1, cells := 0, slots := 0, locals := 12 }
abbrev P19 (r : Int32 × St) : Option Value → List OwnC → Prop := fun v H' => v = some (.int r.1) ∧ H' = (Hb 0 r.2)
abbrev W19 (l : Launch) (Z : State) (n0 : Nat) (Q : Option Value → List OwnC → Prop) (k n pc : Nat) (L : List Slot) (S : List Value) (H : List OwnC) : Prop := WP l Z CN lay "DisplayMap" "insert" prog_1_method_2_code 4 (some FieldType.boolean) R19 n0 0 Q k n pc L S H
def f_insert_12 (n : Nat) (s : St) : Option (Int32 × St) :=
  some ((0 : Int32), s)
set_option maxRecDepth 65536 in
set_option maxHeartbeats 4000000 in
theorem ok19_12 (l : Launch) (Z : State) (a0 : Array Value) (hw : HW a0 Z) (n0 : Nat) (n : Nat) (s : St) (r : Int32 × St) (h : f_insert_12 n s = some r) : W19 l Z n0 (P19 r) 0 0 12 [.unset, .unset, .unset, .unset] [] (Hb 0 s) := by
  unfold f_insert_12 at h
  refine WP.iconst (0 : Int32) d19_12 rfl ?_
  cases h
  exact WP.zreturn d19_13 rfl (leb rfl) (leb rfl) ⟨rfl, rfl⟩
def f_insert_145 (k84 : Int32 → Int32 → St → Option (Int32 × St)) (n : Nat) (v1 : Int32) (v3 : Int32) (s : St) : Option (Int32 × St) :=
  lt (v3 + (1 : Int32)) fun x1 =>
  k84 v1 x1 s
set_option maxRecDepth 65536 in
set_option maxHeartbeats 4000000 in
theorem ok19_145 (l : Launch) (Z : State) (a0 : Array Value) (hw : HW a0 Z) (n0 : Nat) (k84 : Int32 → Int32 → St → Option (Int32 × St)) (hk84 : ∀ (v1 : Int32) (v3 : Int32) (s : St) (r : Int32 × St), k84 v1 v3 s = some r → W19 l Z n0 (P19 r) 0 0 84 [.val (.ref 0), .val (.int v1), .unset, .val (.int v3)] [] (Hb 0 s)) (n : Nat) (v1 : Int32) (v3 : Int32) (s : St) (r : Int32 × St) (h : f_insert_145 k84 n v1 v3 s = some r) : W19 l Z n0 (P19 r) 0 0 145 [.val (.ref 0), .val (.int v1), .unset, .val (.int v3)] [] (Hb 0 s) := by
  unfold f_insert_145 at h
  obtain ⟨x1, ex1, h⟩ := lt_e h
  refine WP.iinc (L' := [.val (.ref 0), .val (.int v1), .unset, .val (.int x1)]) (1 : Int32) d19_145 rfl rfl (by subst ex1; rfl) ?_
  refine WP.goto (pc' := 84) d19_148 (by decide) rfl ?_
  exact WP.weak (L' := [.val (.ref 0), .val (.int v1), .unset, .val (.int x1)]) ⟨rfl, rfl, rfl, trivial⟩ (hk84 v1 x1 s _ h)
def g_insert_84 (k84 : Int32 → Int32 → St → Option (Int32 × St)) (n : Nat) (v1 : Int32) (v3 : Int32) (s : St) : Option (Int32 × St) :=
  if v3 < (gI s 1) then
    (rd (gA s 1) v3).bind fun x2 =>
    if x2 < v1 then
      (rd (gA s 2) v3).bind fun x4 =>
      if v1 < x4 then
        (rd (gA s 2) v3).bind fun x6 =>
        (wrA s 2 v3 (x6 + (1 : Int32))).bind fun s7 =>
        f_insert_145 k84 n v1 v3 s7
      else
        f_insert_145 k84 n v1 v3 s
    else
      (rd (gA s 1) v3).bind fun x8 =>
      (wrA s 1 v3 (x8 + (1 : Int32))).bind fun s9 =>
      (rd (gA s9 2) v3).bind fun x10 =>
      (wrA s9 2 v3 (x10 + (1 : Int32))).bind fun s11 =>
      f_insert_145 k84 n v1 v3 s11
  else
    lt (sI s 4 (1 : Int32)) fun s12 =>
    some ((1 : Int32), s12)
set_option maxRecDepth 65536 in
set_option maxHeartbeats 4000000 in
theorem okg19_84 (l : Launch) (Z : State) (a0 : Array Value) (hw : HW a0 Z) (n0 : Nat) (k84 : Int32 → Int32 → St → Option (Int32 × St)) (hk84 : ∀ (v1 : Int32) (v3 : Int32) (s : St) (r : Int32 × St), k84 v1 v3 s = some r → W19 l Z n0 (P19 r) 0 0 84 [.val (.ref 0), .val (.int v1), .unset, .val (.int v3)] [] (Hb 0 s)) (n : Nat) (v1 : Int32) (v3 : Int32) (s : St) (r : Int32 × St) (h : g_insert_84 k84 n v1 v3 s = some r) : W19 l Z n0 (P19 r) 0 0 84 [.val (.ref 0), .val (.int v1), .unset, .val (.int v3)] [] (Hb 0 s) := by
  unfold g_insert_84 at h
  refine WP.iloadN d19_84 rfl ?_
  refine WP.aloadN d19_85 rfl ?_
  refine WP.getfield (i := 0) (j := 4) d19_86 (hw _ m_50) rfl rfl rfl ?_
  rcases ite_e h with ⟨hc1, h⟩ | ⟨hc1, h⟩
  ·
    refine WP.icmpN d19_89 (XT.ii_ge_f hc1) ?_
    refine WP.iloadN d19_92 rfl ?_
    refine WP.aloadN d19_93 rfl ?_
    refine WP.getfield (i := 0) (j := 2) d19_94 (hw _ m_20) rfl rfl rfl ?_
    refine WP.iloadN d19_97 rfl ?_
    obtain ⟨x2, hx2, h⟩ := Option.bind_eq_some_iff.mp h
    refine WP.iaload (i := 2) d19_98 rfl hx2 ?_
    rcases ite_e h with ⟨hc3, h⟩ | ⟨hc3, h⟩
    ·
      refine WP.icmpY (pc' := 125) d19_99 (XT.ii_gt_t hc3) (by decide) rfl ?_
      refine WP.iloadN d19_125 rfl ?_
      refine WP.aloadN d19_126 rfl ?_
      refine WP.getfield (i := 0) (j := 3) d19_127 (hw _ m_22) rfl rfl rfl ?_
      refine WP.iloadN d19_130 rfl ?_
      obtain ⟨x4, hx4, h⟩ := Option.bind_eq_some_iff.mp h
      refine WP.iaload (i := 3) d19_131 rfl hx4 ?_
      rcases ite_e h with ⟨hc5, h⟩ | ⟨hc5, h⟩
      ·
        refine WP.icmpN d19_132 (XT.ii_ge_f hc5) ?_
        refine WP.aloadN d19_135 rfl ?_
        refine WP.getfield (i := 0) (j := 3) d19_136 (hw _ m_22) rfl rfl rfl ?_
        refine WP.iloadN d19_139 rfl ?_
        refine WP.dup2 d19_140 rfl rfl ?_
        obtain ⟨x6, hx6, h⟩ := Option.bind_eq_some_iff.mp h
        refine WP.iaload (i := 3) d19_141 rfl hx6 ?_
        refine WP.iconst (1 : Int32) d19_142 rfl ?_
        refine WP.iadd d19_143 ?_
        obtain ⟨s7, hs7, h⟩ := Option.bind_eq_some_iff.mp h
        obtain ⟨ys7, gs7, es7⟩ := wrA_e hs7
        refine WP.iastore (i := 3) (xs := gA s 2) (H' := (Hb 0 s7)) d19_144 rfl (leb rfl) gs7 (by subst es7; rfl) ?_
        exact WP.weak (L' := [.val (.ref 0), .val (.int v1), .unset, .val (.int v3)]) ⟨rfl, rfl, rfl, trivial⟩ (ok19_145 l Z a0 hw n0 _ hk84 n v1 v3 s7 _ h)
      ·
        refine WP.icmpY (pc' := 145) d19_132 (XT.ii_ge_t hc5) (by decide) rfl ?_
        exact WP.weak (L' := [.val (.ref 0), .val (.int v1), .unset, .val (.int v3)]) ⟨rfl, rfl, rfl, trivial⟩ (ok19_145 l Z a0 hw n0 _ hk84 n v1 v3 s _ h)
    ·
      refine WP.icmpN d19_99 (XT.ii_gt_f hc3) ?_
      refine WP.aloadN d19_102 rfl ?_
      refine WP.getfield (i := 0) (j := 2) d19_103 (hw _ m_20) rfl rfl rfl ?_
      refine WP.iloadN d19_106 rfl ?_
      refine WP.dup2 d19_107 rfl rfl ?_
      obtain ⟨x8, hx8, h⟩ := Option.bind_eq_some_iff.mp h
      refine WP.iaload (i := 2) d19_108 rfl hx8 ?_
      refine WP.iconst (1 : Int32) d19_109 rfl ?_
      refine WP.iadd d19_110 ?_
      obtain ⟨s9, hs9, h⟩ := Option.bind_eq_some_iff.mp h
      obtain ⟨ys9, gs9, es9⟩ := wrA_e hs9
      refine WP.iastore (i := 2) (xs := gA s 1) (H' := (Hb 0 s9)) d19_111 rfl (leb rfl) gs9 (by subst es9; rfl) ?_
      refine WP.aloadN d19_112 rfl ?_
      refine WP.getfield (i := 0) (j := 3) d19_113 (hw _ m_22) rfl rfl rfl ?_
      refine WP.iloadN d19_116 rfl ?_
      refine WP.dup2 d19_117 rfl rfl ?_
      obtain ⟨x10, hx10, h⟩ := Option.bind_eq_some_iff.mp h
      refine WP.iaload (i := 3) d19_118 rfl hx10 ?_
      refine WP.iconst (1 : Int32) d19_119 rfl ?_
      refine WP.iadd d19_120 ?_
      obtain ⟨s11, hs11, h⟩ := Option.bind_eq_some_iff.mp h
      obtain ⟨ys11, gs11, es11⟩ := wrA_e hs11
      refine WP.iastore (i := 3) (xs := gA s9 2) (H' := (Hb 0 s11)) d19_121 rfl (leb rfl) gs11 (by subst es11; rfl) ?_
      refine WP.goto (pc' := 145) d19_122 (by decide) rfl ?_
      exact WP.weak (L' := [.val (.ref 0), .val (.int v1), .unset, .val (.int v3)]) ⟨rfl, rfl, rfl, trivial⟩ (ok19_145 l Z a0 hw n0 _ hk84 n v1 v3 s11 _ h)
  ·
    refine WP.icmpY (pc' := 151) d19_89 (XT.ii_ge_t hc1) (by decide) rfl ?_
    refine WP.aloadN d19_151 rfl ?_
    refine WP.iconst (1 : Int32) d19_152 rfl ?_
    obtain ⟨s12, es12, h⟩ := lt_e h
    refine WP.putZ (i := 0) (j := 7) (H' := (Hb 0 s12)) d19_153 (hw _ m_52) (Or.inl (hw _ m_53)) (hw _ m_1) (hlay hw) rfl rfl rfl (leb rfl) (by subst es12; rfl) ?_
    refine WP.iconst (1 : Int32) d19_156 rfl ?_
    cases h
    exact WP.zreturn d19_157 rfl (leb rfl) (leb rfl) ⟨rfl, rfl⟩
def f_insert_84 : Nat → Int32 → Int32 → St → Option (Int32 × St)
  | 0 => fun _ _ _ => none
  | n + 1 => g_insert_84 (f_insert_84 n) n
theorem ok19_84 (l : Launch) (Z : State) (a0 : Array Value) (hw : HW a0 Z) (n0 : Nat) : ∀ (n : Nat) (v1 : Int32) (v3 : Int32) (s : St) (r : Int32 × St), f_insert_84 n v1 v3 s = some r → W19 l Z n0 (P19 r) 0 0 84 [.val (.ref 0), .val (.int v1), .unset, .val (.int v3)] [] (Hb 0 s)
  | 0, v1, v3, s, r, h => nomatch (show none = some r from h)
  | n + 1, v1, v3, s, r, h => okg19_84 l Z a0 hw n0 _ (ok19_84 l Z a0 hw n0 n) n v1 v3 s r h
def g_insert_40 (k40 : Int32 → Int32 → Int32 → St → Option (Int32 × St)) (n : Nat) (v1 : Int32) (v2 : Int32) (v3 : Int32) (s : St) : Option (Int32 × St) :=
  if v1 < v3 then
    (rd (gA s 0) (v3 - (1 : Int32))).bind fun x2 =>
    (wrA s 0 v3 x2).bind fun s3 =>
    lt (v3 + (-1 : Int32)) fun x4 =>
    k40 v1 v2 x4 s3
  else
    (wrA s 0 v1 v2).bind fun s5 =>
    lt (sI s5 0 ((gI s5 0) + (1 : Int32))) fun s6 =>
    f_insert_84 n v1 (0 : Int32) s6
set_option maxRecDepth 65536 in
set_option maxHeartbeats 4000000 in
theorem okg19_40 (l : Launch) (Z : State) (a0 : Array Value) (hw : HW a0 Z) (n0 : Nat) (k40 : Int32 → Int32 → Int32 → St → Option (Int32 × St)) (hk40 : ∀ (v1 : Int32) (v2 : Int32) (v3 : Int32) (s : St) (r : Int32 × St), k40 v1 v2 v3 s = some r → W19 l Z n0 (P19 r) 0 0 40 [.val (.ref 0), .val (.int v1), .val (.int v2), .val (.int v3)] [] (Hb 0 s)) (n : Nat) (v1 : Int32) (v2 : Int32) (v3 : Int32) (s : St) (r : Int32 × St) (h : g_insert_40 k40 n v1 v2 v3 s = some r) : W19 l Z n0 (P19 r) 0 0 40 [.val (.ref 0), .val (.int v1), .val (.int v2), .val (.int v3)] [] (Hb 0 s) := by
  unfold g_insert_40 at h
  refine WP.iloadN d19_40 rfl ?_
  refine WP.iloadN d19_41 rfl ?_
  rcases ite_e h with ⟨hc1, h⟩ | ⟨hc1, h⟩
  ·
    refine WP.icmpN d19_42 (XT.ii_le_f hc1) ?_
    refine WP.aloadN d19_45 rfl ?_
    refine WP.getfield (i := 0) (j := 0) d19_46 (hw _ m_18) rfl rfl rfl ?_
    refine WP.iloadN d19_49 rfl ?_
    refine WP.aloadN d19_50 rfl ?_
    refine WP.getfield (i := 0) (j := 0) d19_51 (hw _ m_18) rfl rfl rfl ?_
    refine WP.iloadN d19_54 rfl ?_
    refine WP.iconst (1 : Int32) d19_55 rfl ?_
    refine WP.isub d19_56 ?_
    obtain ⟨x2, hx2, h⟩ := Option.bind_eq_some_iff.mp h
    refine WP.iaload (i := 1) d19_57 rfl hx2 ?_
    obtain ⟨s3, hs3, h⟩ := Option.bind_eq_some_iff.mp h
    obtain ⟨ys3, gs3, es3⟩ := wrA_e hs3
    refine WP.iastore (i := 1) (xs := gA s 0) (H' := (Hb 0 s3)) d19_58 rfl (leb rfl) gs3 (by subst es3; rfl) ?_
    obtain ⟨x4, ex4, h⟩ := lt_e h
    refine WP.iinc (L' := [.val (.ref 0), .val (.int v1), .val (.int v2), .val (.int x4)]) (-1 : Int32) d19_59 rfl rfl (by subst ex4; rfl) ?_
    refine WP.goto (pc' := 40) d19_62 (by decide) rfl ?_
    exact WP.weak (L' := [.val (.ref 0), .val (.int v1), .val (.int v2), .val (.int x4)]) ⟨rfl, rfl, rfl, rfl, trivial⟩ (hk40 v1 v2 x4 s3 _ h)
  ·
    refine WP.icmpY (pc' := 65) d19_42 (XT.ii_le_t hc1) (by decide) rfl ?_
    refine WP.aloadN d19_65 rfl ?_
    refine WP.getfield (i := 0) (j := 0) d19_66 (hw _ m_18) rfl rfl rfl ?_
    refine WP.iloadN d19_69 rfl ?_
    refine WP.iloadN d19_70 rfl ?_
    obtain ⟨s5, hs5, h⟩ := Option.bind_eq_some_iff.mp h
    obtain ⟨ys5, gs5, es5⟩ := wrA_e hs5
    refine WP.iastore (i := 1) (xs := gA s 0) (H' := (Hb 0 s5)) d19_71 rfl (leb rfl) gs5 (by subst es5; rfl) ?_
    refine WP.aloadN d19_72 rfl ?_
    refine WP.dup d19_73 rfl ?_
    refine WP.getfield (i := 0) (j := 1) d19_74 (hw _ m_48) rfl rfl rfl ?_
    refine WP.iconst (1 : Int32) d19_77 rfl ?_
    refine WP.iadd d19_78 ?_
    obtain ⟨s6, es6, h⟩ := lt_e h
    refine WP.putI (i := 0) (j := 1) (H' := (Hb 0 s6)) d19_79 (hw _ m_48) (Or.inl (hw _ m_49)) (hw _ m_1) (hlay hw) rfl rfl rfl (leb rfl) (by subst es6; rfl) ?_
    refine WP.iconst (0 : Int32) d19_82 rfl ?_
    refine WP.istoreN (L' := [.val (.ref 0), .val (.int v1), .val (.int v2), .val (.int (0 : Int32))]) d19_83 (leb rfl) rfl ?_
    exact WP.weak (L' := [.val (.ref 0), .val (.int v1), .unset, .val (.int (0 : Int32))]) ⟨rfl, rfl, rfl, trivial⟩ (ok19_84 l Z a0 hw n0 n v1 (0 : Int32) s6 _ h)
def f_insert_40 : Nat → Int32 → Int32 → Int32 → St → Option (Int32 × St)
  | 0 => fun _ _ _ _ => none
  | n + 1 => g_insert_40 (f_insert_40 n) n
theorem ok19_40 (l : Launch) (Z : State) (a0 : Array Value) (hw : HW a0 Z) (n0 : Nat) : ∀ (n : Nat) (v1 : Int32) (v2 : Int32) (v3 : Int32) (s : St) (r : Int32 × St), f_insert_40 n v1 v2 v3 s = some r → W19 l Z n0 (P19 r) 0 0 40 [.val (.ref 0), .val (.int v1), .val (.int v2), .val (.int v3)] [] (Hb 0 s)
  | 0, v1, v2, v3, s, r, h => nomatch (show none = some r from h)
  | n + 1, v1, v2, v3, s, r, h => okg19_40 l Z a0 hw n0 _ (ok19_40 l Z a0 hw n0 n) n v1 v2 v3 s r h
def f_insert (n : Nat) (p1 : Int32) (p2 : Int32) (s : St) : Option (Int32 × St) :=
  if p1 < 0 then
    f_insert_12 n s
  else
    if (gI s 0) < p1 then
      f_insert_12 n s
    else
      (f_validChar p2).bind fun c3 =>
      if c3 = 0 then
        some ((0 : Int32), s)
      else
        if (gI s 0) < (256 : Int32) then
          lt (gI s 0) fun x6 =>
          f_insert_40 n p1 p2 x6 s
        else
          some ((0 : Int32), s)
set_option maxRecDepth 65536 in
set_option maxHeartbeats 4000000 in
theorem ok19 (l : Launch) (Z : State) (a0 : Array Value) (hw : HW a0 Z) (n : Nat) (p1 : Int32) (p2 : Int32) (s : St) (r : Int32 × St) (h : f_insert n p1 p2 s = some r) : CS l Z CN lay y19 prog_1_method_2_code 4 (some FieldType.boolean) R19 0 [.ref 0, .int p1, .int p2] (Hb 0 s) (P19 r) := by
  refine CS.of_wp pn_cls (leb rfl) fun n0 => ?_
  show W19 l Z n0 (P19 r) 0 0 0 [.val (.ref 0), .val (.int p1), .val (.int p2), .unset] [] (Hb 0 s)
  unfold f_insert at h
  refine WP.iloadN d19_0 rfl ?_
  rcases ite_e h with ⟨hc1, h⟩ | ⟨hc1, h⟩
  ·
    refine WP.ifY (pc' := 12) d19_1 (XT.i0_lt_t hc1) (by decide) rfl ?_
    exact WP.weak (L' := [.unset, .unset, .unset, .unset]) trivial (ok19_12 l Z a0 hw n0 n s _ h)
  ·
    refine WP.ifN d19_1 (XT.i0_lt_f hc1) ?_
    refine WP.iloadN d19_4 rfl ?_
    refine WP.aloadN d19_5 rfl ?_
    refine WP.getfield (i := 0) (j := 1) d19_6 (hw _ m_48) rfl rfl rfl ?_
    rcases ite_e h with ⟨hc2, h⟩ | ⟨hc2, h⟩
    ·
      refine WP.icmpN d19_9 (XT.ii_le_f hc2) ?_
      exact WP.weak (L' := [.unset, .unset, .unset, .unset]) trivial (ok19_12 l Z a0 hw n0 n s _ h)
    ·
      refine WP.icmpY (pc' := 14) d19_9 (XT.ii_le_t hc2) (by decide) rfl ?_
      refine WP.iloadN d19_14 rfl ?_
      obtain ⟨c3, hc3, h⟩ := Option.bind_eq_some_iff.mp h
      refine WP.callS (y := y20) (as := [.int p2]) (S := []) d19_15 (hw _ m_133) (hw _ m_134) (hw _ m_2) (hw _ m_135) hy20 (CS.frame (ro := 0) (H := (Hb 0 s)) (as := [.int p2]) fr0_f (ok20 l Z a0 hw p2 _ hc3) rfl (by decide) (fr0_l s) (fr0_c s) (by decide) rfl) rfl (lenOf pd20 rfl) (leb rfl) (leb rfl) (leb rfl) (leb rfl) ?_
      rintro _ _ ⟨_, _, ⟨rfl, rfl⟩, rfl, rfl⟩
      rw [fr0_p s]
      show W19 l Z n0 (P19 r) 0 0 18 [.val (.ref 0), .val (.int p1), .val (.int p2), .unset] [.int c3] (Hb 0 s)
      rcases ite_e h with ⟨hc4, h⟩ | ⟨hc4, h⟩
      ·
        refine WP.ifN d19_18 (XT.i0_ne_f hc4) ?_
        refine WP.iconst (0 : Int32) d19_21 rfl ?_
        cases h
        exact WP.zreturn d19_22 rfl (leb rfl) (leb rfl) ⟨rfl, rfl⟩
      ·
        refine WP.ifY (pc' := 23) d19_18 (XT.i0_ne_t hc4) (by decide) rfl ?_
        refine WP.aloadN d19_23 rfl ?_
        refine WP.getfield (i := 0) (j := 1) d19_24 (hw _ m_48) rfl rfl rfl ?_
        refine WP.sipush (256 : Int32) d19_27 rfl ?_
        rcases ite_e h with ⟨hc5, h⟩ | ⟨hc5, h⟩
        ·
          refine WP.icmpY (pc' := 35) d19_30 (XT.ii_lt_t hc5) (by decide) rfl ?_
          refine WP.aloadN d19_35 rfl ?_
          refine WP.getfield (i := 0) (j := 1) d19_36 (hw _ m_48) rfl rfl rfl ?_
          obtain ⟨x6, ex6, h⟩ := lt_e h
          refine WP.istoreN (L' := [.val (.ref 0), .val (.int p1), .val (.int p2), .val (.int x6)]) d19_39 (leb rfl) (by subst ex6; rfl) ?_
          exact WP.weak (L' := [.val (.ref 0), .val (.int p1), .val (.int p2), .val (.int x6)]) ⟨rfl, rfl, rfl, rfl, trivial⟩ (ok19_40 l Z a0 hw n0 n p1 p2 x6 s _ h)
        ·
          refine WP.icmpN d19_30 (XT.ii_lt_f hc5) ?_
          refine WP.iconst (0 : Int32) d19_33 rfl ?_
          cases h
          exact WP.zreturn d19_34 rfl (leb rfl) (leb rfl) ⟨rfl, rfl⟩
theorem d29_0 : dc prog_1_method_3_code 0 (.iload_n 1) 1 := by decide +kernel
theorem d29_1 : dc prog_1_method_3_code 1 (.ifCond .lt 11) 3 := by decide +kernel
theorem d29_4 : dc prog_1_method_3_code 4 (.iload_n 1) 1 := by decide +kernel
theorem d29_5 : dc prog_1_method_3_code 5 (.aload_n 0) 1 := by decide +kernel
theorem d29_6 : dc prog_1_method_3_code 6 (.getfield 54) 3 := by decide +kernel
theorem d29_9 : dc prog_1_method_3_code 9 (.if_icmp .lt 5) 3 := by decide +kernel
theorem d29_12 : dc prog_1_method_3_code 12 (.iconst 0) 1 := by decide +kernel
theorem d29_13 : dc prog_1_method_3_code 13 (.ireturn) 1 := by decide +kernel
theorem d29_14 : dc prog_1_method_3_code 14 (.iload_n 1) 1 := by decide +kernel
theorem d29_15 : dc prog_1_method_3_code 15 (.istore_n 2) 1 := by decide +kernel
theorem d29_16 : dc prog_1_method_3_code 16 (.iload_n 2) 1 := by decide +kernel
theorem d29_17 : dc prog_1_method_3_code 17 (.aload_n 0) 1 := by decide +kernel
theorem d29_18 : dc prog_1_method_3_code 18 (.getfield 54) 3 := by decide +kernel
theorem d29_21 : dc prog_1_method_3_code 21 (.iconst 1) 1 := by decide +kernel
theorem d29_22 : dc prog_1_method_3_code 22 (.isub) 1 := by decide +kernel
theorem d29_23 : dc prog_1_method_3_code 23 (.if_icmp .ge 23) 3 := by decide +kernel
theorem d29_26 : dc prog_1_method_3_code 26 (.aload_n 0) 1 := by decide +kernel
theorem d29_27 : dc prog_1_method_3_code 27 (.getfield 7) 3 := by decide +kernel
theorem d29_30 : dc prog_1_method_3_code 30 (.iload_n 2) 1 := by decide +kernel
theorem d29_31 : dc prog_1_method_3_code 31 (.aload_n 0) 1 := by decide +kernel
theorem d29_32 : dc prog_1_method_3_code 32 (.getfield 7) 3 := by decide +kernel
theorem d29_35 : dc prog_1_method_3_code 35 (.iload_n 2) 1 := by decide +kernel
theorem d29_36 : dc prog_1_method_3_code 36 (.iconst 1) 1 := by decide +kernel
theorem d29_37 : dc prog_1_method_3_code 37 (.iadd) 1 := by decide +kernel
theorem d29_38 : dc prog_1_method_3_code 38 (.iaload) 1 := by decide +kernel
theorem d29_39 : dc prog_1_method_3_code 39 (.iastore) 1 := by decide +kernel
theorem d29_40 : dc prog_1_method_3_code 40 (.iinc 2 1) 3 := by decide +kernel
theorem d29_43 : dc prog_1_method_3_code 43 (.goto (-27)) 3 := by decide +kernel
theorem d29_46 : dc prog_1_method_3_code 46 (.aload_n 0) 1 := by decide +kernel
theorem d29_47 : dc prog_1_method_3_code 47 (.dup) 1 := by decide +kernel
theorem d29_48 : dc prog_1_method_3_code 48 (.getfield 54) 3 := by decide +kernel
theorem d29_51 : dc prog_1_method_3_code 51 (.iconst 1) 1 := by decide +kernel
theorem d29_52 : dc prog_1_method_3_code 52 (.isub) 1 := by decide +kernel
theorem d29_53 : dc prog_1_method_3_code 53 (.putfield 54) 3 := by decide +kernel
theorem d29_56 : dc prog_1_method_3_code 56 (.iconst 0) 1 := by decide +kernel
theorem d29_57 : dc prog_1_method_3_code 57 (.istore_n 2) 1 := by decide +kernel
theorem d29_58 : dc prog_1_method_3_code 58 (.iconst 0) 1 := by decide +kernel
theorem d29_59 : dc prog_1_method_3_code 59 (.istore_n 3) 1 := by decide +kernel
theorem d29_60 : dc prog_1_method_3_code 60 (.iload_n 3) 1 := by decide +kernel
theorem d29_61 : dc prog_1_method_3_code 61 (.aload_n 0) 1 := by decide +kernel
theorem d29_62 : dc prog_1_method_3_code 62 (.getfield 57) 3 := by decide +kernel
theorem d29_65 : dc prog_1_method_3_code 65 (.if_icmp .ge 75) 3 := by decide +kernel
theorem d29_68 : dc prog_1_method_3_code 68 (.aload_n 0) 1 := by decide +kernel
theorem d29_69 : dc prog_1_method_3_code 69 (.getfield 13) 3 := by decide +kernel
theorem d29_72 : dc prog_1_method_3_code 72 (.iload_n 3) 1 := by decide +kernel
theorem d29_73 : dc prog_1_method_3_code 73 (.iaload) 1 := by decide +kernel
theorem d29_74 : dc prog_1_method_3_code 74 (.istore 4) 2 := by decide +kernel
theorem d29_76 : dc prog_1_method_3_code 76 (.aload_n 0) 1 := by decide +kernel
theorem d29_77 : dc prog_1_method_3_code 77 (.getfield 16) 3 := by decide +kernel
theorem d29_80 : dc prog_1_method_3_code 80 (.iload_n 3) 1 := by decide +kernel
theorem d29_81 : dc prog_1_method_3_code 81 (.iaload) 1 := by decide +kernel
theorem d29_82 : dc prog_1_method_3_code 82 (.istore 5) 2 := by decide +kernel
theorem d29_84 : dc prog_1_method_3_code 84 (.iload_n 1) 1 := by decide +kernel
theorem d29_85 : dc prog_1_method_3_code 85 (.iload 4) 2 := by decide +kernel
theorem d29_87 : dc prog_1_method_3_code 87 (.if_icmp .ge 12) 3 := by decide +kernel
theorem d29_90 : dc prog_1_method_3_code 90 (.iinc 4 (-1)) 3 := by decide +kernel
theorem d29_93 : dc prog_1_method_3_code 93 (.iinc 5 (-1)) 3 := by decide +kernel
theorem d29_96 : dc prog_1_method_3_code 96 (.goto 12) 3 := by decide +kernel
theorem d29_99 : dc prog_1_method_3_code 99 (.iload_n 1) 1 := by decide +kernel
theorem d29_100 : dc prog_1_method_3_code 100 (.iload 5) 2 := by decide +kernel
theorem d29_102 : dc prog_1_method_3_code 102 (.if_icmp .ge 6) 3 := by decide +kernel
theorem d29_105 : dc prog_1_method_3_code 105 (.iinc 5 (-1)) 3 := by decide +kernel
theorem d29_108 : dc prog_1_method_3_code 108 (.iload 4) 2 := by decide +kernel
theorem d29_110 : dc prog_1_method_3_code 110 (.iload 5) 2 := by decide +kernel
theorem d29_112 : dc prog_1_method_3_code 112 (.if_icmp .ge 22) 3 := by decide +kernel
theorem d29_115 : dc prog_1_method_3_code 115 (.aload_n 0) 1 := by decide +kernel
theorem d29_116 : dc prog_1_method_3_code 116 (.getfield 13) 3 := by decide +kernel
theorem d29_119 : dc prog_1_method_3_code 119 (.iload_n 2) 1 := by decide +kernel
theorem d29_120 : dc prog_1_method_3_code 120 (.iload 4) 2 := by decide +kernel
theorem d29_122 : dc prog_1_method_3_code 122 (.iastore) 1 := by decide +kernel
theorem d29_123 : dc prog_1_method_3_code 123 (.aload_n 0) 1 := by decide +kernel
theorem d29_124 : dc prog_1_method_3_code 124 (.getfield 16) 3 := by decide +kernel
theorem d29_127 : dc prog_1_method_3_code 127 (.iload_n 2) 1 := by decide +kernel
theorem d29_128 : dc prog_1_method_3_code 128 (.iload 5) 2 := by decide +kernel
theorem d29_130 : dc prog_1_method_3_code 130 (.iastore) 1 := by decide +kernel
theorem d29_131 : dc prog_1_method_3_code 131 (.iinc 2 1) 3 := by decide +kernel
theorem d29_134 : dc prog_1_method_3_code 134 (.iinc 3 1) 3 := by decide +kernel
theorem d29_137 : dc prog_1_method_3_code 137 (.goto (-77)) 3 := by decide +kernel
theorem d29_140 : dc prog_1_method_3_code 140 (.aload_n 0) 1 := by decide +kernel
theorem d29_141 : dc prog_1_method_3_code 141 (.iload_n 2) 1 := by decide +kernel
theorem d29_142 : dc prog_1_method_3_code 142 (.putfield 57) 3 := by decide +kernel
theorem d29_145 : dc prog_1_method_3_code 145 (.aload_n 0) 1 := by decide +kernel
theorem d29_146 : dc prog_1_method_3_code 146 (.iconst 1) 1 := by decide +kernel
theorem d29_147 : dc prog_1_method_3_code 147 (.putfield 60) 3 := by decide +kernel
theorem d29_150 : dc prog_1_method_3_code 150 (.iconst 1) 1 := by decide +kernel
theorem d29_151 : dc prog_1_method_3_code 151 (.ireturn) 1 := by decide +kernel
abbrev y29 : MethodName := ⟨"DisplayMap", "delete", "(I)Z"⟩
theorem hy29 : y29.cls ≠ "java/lang/invoke/MethodHandle" ∧ y29.cls ≠ "java/lang/invoke/VarHandle" := by decide
theorem pd29 : parseMethodDescriptor y29.desc = some ⟨[.int], some .boolean⟩ := by decide +kernel
abbrev R29 : Room := { frames := 0, cells := 0, slots := 0, locals := 0 }
abbrev P29 (r : Int32 × St) : Option Value → List OwnC → Prop := fun v H' => v = some (.int r.1) ∧ H' = (Hb 0 r.2)
abbrev W29 (l : Launch) (Z : State) (n0 : Nat) (Q : Option Value → List OwnC → Prop) (k n pc : Nat) (L : List Slot) (S : List Value) (H : List OwnC) : Prop := WP l Z CN lay "DisplayMap" "delete" prog_1_method_3_code 6 (some FieldType.boolean) R29 n0 0 Q k n pc L S H
def f_delete_12 (n : Nat) (s : St) : Option (Int32 × St) :=
  some ((0 : Int32), s)
set_option maxRecDepth 65536 in
set_option maxHeartbeats 4000000 in
theorem ok29_12 (l : Launch) (Z : State) (a0 : Array Value) (hw : HW a0 Z) (n0 : Nat) (n : Nat) (s : St) (r : Int32 × St) (h : f_delete_12 n s = some r) : W29 l Z n0 (P29 r) 0 0 12 [.unset, .unset, .unset, .unset, .unset, .unset] [] (Hb 0 s) := by
  unfold f_delete_12 at h
  refine WP.iconst (0 : Int32) d29_12 rfl ?_
  cases h
  exact WP.zreturn d29_13 rfl (leb rfl) (leb rfl) ⟨rfl, rfl⟩
def f_delete_134 (k60 : Int32 → Int32 → Int32 → St → Option (Int32 × St)) (n : Nat) (v1 : Int32) (v2 : Int32) (v3 : Int32) (s : St) : Option (Int32 × St) :=
  lt (v3 + (1 : Int32)) fun x1 =>
  k60 v1 v2 x1 s
set_option maxRecDepth 65536 in
set_option maxHeartbeats 4000000 in
theorem ok29_134 (l : Launch) (Z : State) (a0 : Array Value) (hw : HW a0 Z) (n0 : Nat) (k60 : Int32 → Int32 → Int32 → St → Option (Int32 × St)) (hk60 : ∀ (v1 : Int32) (v2 : Int32) (v3 : Int32) (s : St) (r : Int32 × St), k60 v1 v2 v3 s = some r → W29 l Z n0 (P29 r) 0 0 60 [.val (.ref 0), .val (.int v1), .val (.int v2), .val (.int v3), .unset, .unset] [] (Hb 0 s)) (n : Nat) (v1 : Int32) (v2 : Int32) (v3 : Int32) (s : St) (r : Int32 × St) (h : f_delete_134 k60 n v1 v2 v3 s = some r) : W29 l Z n0 (P29 r) 0 0 134 [.val (.ref 0), .val (.int v1), .val (.int v2), .val (.int v3), .unset, .unset] [] (Hb 0 s) := by
  unfold f_delete_134 at h
  obtain ⟨x1, ex1, h⟩ := lt_e h
  refine WP.iinc (L' := [.val (.ref 0), .val (.int v1), .val (.int v2), .val (.int x1), .unset, .unset]) (1 : Int32) d29_134 rfl rfl (by subst ex1; rfl) ?_
  refine WP.goto (pc' := 60) d29_137 (by decide) rfl ?_
  exact WP.weak (L' := [.val (.ref 0), .val (.int v1), .val (.int v2), .val (.int x1), .unset, .unset]) ⟨rfl, rfl, rfl, rfl, trivial⟩ (hk60 v1 v2 x1 s _ h)
def f_delete_108 (k60 : Int32 → Int32 → Int32 → St → Option (Int32 × St)) (n : Nat) (v1 : Int32) (v2 : Int32) (v3 : Int32) (v4 : Int32) (v5 : Int32) (s : St) : Option (Int32 × St) :=
  if v4 < v5 then
    (wrA s 1 v2 v4).bind fun s2 =>
    (wrA s2 2 v2 v5).bind fun s3 =>
    lt (v2 + (1 : Int32)) fun x4 =>
    f_delete_134 k60 n v1 x4 v3 s3
  else
    f_delete_134 k60 n v1 v2 v3 s
set_option maxRecDepth 65536 in
set_option maxHeartbeats 4000000 in
theorem ok29_108 (l : Launch) (Z : State) (a0 : Array Value) (hw : HW a0 Z) (n0 : Nat) (k60 : Int32 → Int32 → Int32 → St → Option (Int32 × St)) (hk60 : ∀ (v1 : Int32) (v2 : Int32) (v3 : Int32) (s : St) (r : Int32 × St), k60 v1 v2 v3 s = some r → W29 l Z n0 (P29 r) 0 0 60 [.val (.ref 0), .val (.int v1), .val (.int v2), .val (.int v3), .unset, .unset] [] (Hb 0 s)) (n : Nat) (v1 : Int32) (v2 : Int32) (v3 : Int32) (v4 : Int32) (v5 : Int32) (s : St) (r : Int32 × St) (h : f_delete_108 k60 n v1 v2 v3 v4 v5 s = some r) : W29 l Z n0 (P29 r) 0 0 108 [.val (.ref 0), .val (.int v1), .val (.int v2), .val (.int v3), .val (.int v4), .val (.int v5)] [] (Hb 0 s) := by
  unfold f_delete_108 at h
  refine WP.iload d29_108 rfl ?_
  refine WP.iload d29_110 rfl ?_
  rcases ite_e h with ⟨hc1, h⟩ | ⟨hc1, h⟩
  ·
    refine WP.icmpN d29_112 (XT.ii_ge_f hc1) ?_
    refine WP.aloadN d29_115 rfl ?_
    refine WP.getfield (i := 0) (j := 2) d29_116 (hw _ m_20) rfl rfl rfl ?_
    refine WP.iloadN d29_119 rfl ?_
    refine WP.iload d29_120 rfl ?_
    obtain ⟨s2, hs2, h⟩ := Option.bind_eq_some_iff.mp h
    obtain ⟨ys2, gs2, es2⟩ := wrA_e hs2
    refine WP.iastore (i := 2) (xs := gA s 1) (H' := (Hb 0 s2)) d29_122 rfl (leb rfl) gs2 (by subst es2; rfl) ?_
    refine WP.aloadN d29_123 rfl ?_
    refine WP.getfield (i := 0) (j := 3) d29_124 (hw _ m_22) rfl rfl rfl ?_
    refine WP.iloadN d29_127 rfl ?_
    refine WP.iload d29_128 rfl ?_
    obtain ⟨s3, hs3, h⟩ := Option.bind_eq_some_iff.mp h
    obtain ⟨ys3, gs3, es3⟩ := wrA_e hs3
    refine WP.iastore (i := 3) (xs := gA s2 2) (H' := (Hb 0 s3)) d29_130 rfl (leb rfl) gs3 (by subst es3; rfl) ?_
    obtain ⟨x4, ex4, h⟩ := lt_e h
    refine WP.iinc (L' := [.val (.ref 0), .val (.int v1), .val (.int x4), .val (.int v3), .val (.int v4), .val (.int v5)]) (1 : Int32) d29_131 rfl rfl (by subst ex4; rfl) ?_
    exact WP.weak (L' := [.val (.ref 0), .val (.int v1), .val (.int x4), .val (.int v3), .unset, .unset]) ⟨rfl, rfl, rfl, rfl, trivial⟩ (ok29_134 l Z a0 hw n0 _ hk60 n v1 x4 v3 s3 _ h)
  ·
    refine WP.icmpY (pc' := 134) d29_112 (XT.ii_ge_t hc1) (by decide) rfl ?_
    exact WP.weak (L' := [.val (.ref 0), .val (.int v1), .val (.int v2), .val (.int v3), .unset, .unset]) ⟨rfl, rfl, rfl, rfl, trivial⟩ (ok29_134 l Z a0 hw n0 _ hk60 n v1 v2 v3 s _ h)
def g_delete_60 (k60 : Int32 → Int32 → Int32 → St → Option (Int32 × St)) (n : Nat) (v1 : Int32) (v2 : Int32) (v3 : Int32) (s : St) : Option (Int32 × St) :=
  if v3 < (gI s 1) then
    (rd (gA s 1) v3).bind fun x2 =>
    (rd (gA s 2) v3).bind fun x3 =>
    if v1 < x2 then
      lt (x2 + (-1 : Int32)) fun x5 =>
      lt (x3 + (-1 : Int32)) fun x6 =>
      f_delete_108 k60 n v1 v2 v3 x5 x6 s
    else
      if v1 < x3 then
        lt (x3 + (-1 : Int32)) fun x8 =>
        f_delete_108 k60 n v1 v2 v3 x2 x8 s
      else
        f_delete_108 k60 n v1 v2 v3 x2 x3 s
  else
    lt (sI s 1 v2) fun s9 =>
    lt (sI s9 4 (1 : Int32)) fun s10 =>
    some ((1 : Int32), s10)
set_option maxRecDepth 65536 in
set_option maxHeartbeats 4000000 in
theorem okg29_60 (l : Launch) (Z : State) (a0 : Array Value) (hw : HW a0 Z) (n0 : Nat) (k60 : Int32 → Int32 → Int32 → St → Option (Int32 × St)) (hk60 : ∀ (v1 : Int32) (v2 : Int32) (v3 : Int32) (s : St) (r : Int32 × St), k60 v1 v2 v3 s = some r → W29 l Z n0 (P29 r) 0 0 60 [.val (.ref 0), .val (.int v1), .val (.int v2), .val (.int v3), .unset, .unset] [] (Hb 0 s)) (n : Nat) (v1 : Int32) (v2 : Int32) (v3 : Int32) (s : St) (r : Int32 × St) (h : g_delete_60 k60 n v1 v2 v3 s = some r) : W29 l Z n0 (P29 r) 0 0 60 [.val (.ref 0), .val (.int v1), .val (.int v2), .val (.int v3), .unset, .unset] [] (Hb 0 s) := by
  unfold g_delete_60 at h
  refine WP.iloadN d29_60 rfl ?_
  refine WP.aloadN d29_61 rfl ?_
  refine WP.getfield (i := 0) (j := 4) d29_62 (hw _ m_50) rfl rfl rfl ?_
  rcases ite_e h with ⟨hc1, h⟩ | ⟨hc1, h⟩
  ·
    refine WP.icmpN d29_65 (XT.ii_ge_f hc1) ?_
    refine WP.aloadN d29_68 rfl ?_
    refine WP.getfield (i := 0) (j := 2) d29_69 (hw _ m_20) rfl rfl rfl ?_
    refine WP.iloadN d29_72 rfl ?_
    obtain ⟨x2, hx2, h⟩ := Option.bind_eq_some_iff.mp h
    refine WP.iaload (i := 2) d29_73 rfl hx2 ?_
    refine WP.istore (L' := [.val (.ref 0), .val (.int v1), .val (.int v2), .val (.int v3), .val (.int x2), .unset]) d29_74 (leb rfl) rfl ?_
    refine WP.aloadN d29_76 rfl ?_
    refine WP.getfield (i := 0) (j := 3) d29_77 (hw _ m_22) rfl rfl rfl ?_
    refine WP.iloadN d29_80 rfl ?_
    obtain ⟨x3, hx3, h⟩ := Option.bind_eq_some_iff.mp h
    refine WP.iaload (i := 3) d29_81 rfl hx3 ?_
    refine WP.istore (L' := [.val (.ref 0), .val (.int v1), .val (.int v2), .val (.int v3), .val (.int x2), .val (.int x3)]) d29_82 (leb rfl) rfl ?_
    refine WP.iloadN d29_84 rfl ?_
    refine WP.iload d29_85 rfl ?_
    rcases ite_e h with ⟨hc4, h⟩ | ⟨hc4, h⟩
    ·
      refine WP.icmpN d29_87 (XT.ii_ge_f hc4) ?_
      obtain ⟨x5, ex5, h⟩ := lt_e h
      refine WP.iinc (L' := [.val (.ref 0), .val (.int v1), .val (.int v2), .val (.int v3), .val (.int x5), .val (.int x3)]) (-1 : Int32) d29_90 rfl rfl (by subst ex5; rfl) ?_
      obtain ⟨x6, ex6, h⟩ := lt_e h
      refine WP.iinc (L' := [.val (.ref 0), .val (.int v1), .val (.int v2), .val (.int v3), .val (.int x5), .val (.int x6)]) (-1 : Int32) d29_93 rfl rfl (by subst ex6; rfl) ?_
      refine WP.goto (pc' := 108) d29_96 (by decide) rfl ?_
      exact WP.weak (L' := [.val (.ref 0), .val (.int v1), .val (.int v2), .val (.int v3), .val (.int x5), .val (.int x6)]) ⟨rfl, rfl, rfl, rfl, rfl, rfl, trivial⟩ (ok29_108 l Z a0 hw n0 _ hk60 n v1 v2 v3 x5 x6 s _ h)
    ·
      refine WP.icmpY (pc' := 99) d29_87 (XT.ii_ge_t hc4) (by decide) rfl ?_
      refine WP.iloadN d29_99 rfl ?_
      refine WP.iload d29_100 rfl ?_
      rcases ite_e h with ⟨hc7, h⟩ | ⟨hc7, h⟩
      ·
        refine WP.icmpN d29_102 (XT.ii_ge_f hc7) ?_
        obtain ⟨x8, ex8, h⟩ := lt_e h
        refine WP.iinc (L' := [.val (.ref 0), .val (.int v1), .val (.int v2), .val (.int v3), .val (.int x2), .val (.int x8)]) (-1 : Int32) d29_105 rfl rfl (by subst ex8; rfl) ?_
        exact WP.weak (L' := [.val (.ref 0), .val (.int v1), .val (.int v2), .val (.int v3), .val (.int x2), .val (.int x8)]) ⟨rfl, rfl, rfl, rfl, rfl, rfl, trivial⟩ (ok29_108 l Z a0 hw n0 _ hk60 n v1 v2 v3 x2 x8 s _ h)
      ·
        refine WP.icmpY (pc' := 108) d29_102 (XT.ii_ge_t hc7) (by decide) rfl ?_
        exact WP.weak (L' := [.val (.ref 0), .val (.int v1), .val (.int v2), .val (.int v3), .val (.int x2), .val (.int x3)]) ⟨rfl, rfl, rfl, rfl, rfl, rfl, trivial⟩ (ok29_108 l Z a0 hw n0 _ hk60 n v1 v2 v3 x2 x3 s _ h)
  ·
    refine WP.icmpY (pc' := 140) d29_65 (XT.ii_ge_t hc1) (by decide) rfl ?_
    refine WP.aloadN d29_140 rfl ?_
    refine WP.iloadN d29_141 rfl ?_
    obtain ⟨s9, es9, h⟩ := lt_e h
    refine WP.putI (i := 0) (j := 4) (H' := (Hb 0 s9)) d29_142 (hw _ m_50) (Or.inl (hw _ m_51)) (hw _ m_1) (hlay hw) rfl rfl rfl (leb rfl) (by subst es9; rfl) ?_
    refine WP.aloadN d29_145 rfl ?_
    refine WP.iconst (1 : Int32) d29_146 rfl ?_
    obtain ⟨s10, es10, h⟩ := lt_e h
    refine WP.putZ (i := 0) (j := 7) (H' := (Hb 0 s10)) d29_147 (hw _ m_52) (Or.inl (hw _ m_53)) (hw _ m_1) (hlay hw) rfl rfl rfl (leb rfl) (by subst es10; rfl) ?_
    refine WP.iconst (1 : Int32) d29_150 rfl ?_
    cases h
    exact WP.zreturn d29_151 rfl (leb rfl) (leb rfl) ⟨rfl, rfl⟩
def f_delete_60 : Nat → Int32 → Int32 → Int32 → St → Option (Int32 × St)
  | 0 => fun _ _ _ _ => none
  | n + 1 => g_delete_60 (f_delete_60 n) n
theorem ok29_60 (l : Launch) (Z : State) (a0 : Array Value) (hw : HW a0 Z) (n0 : Nat) : ∀ (n : Nat) (v1 : Int32) (v2 : Int32) (v3 : Int32) (s : St) (r : Int32 × St), f_delete_60 n v1 v2 v3 s = some r → W29 l Z n0 (P29 r) 0 0 60 [.val (.ref 0), .val (.int v1), .val (.int v2), .val (.int v3), .unset, .unset] [] (Hb 0 s)
  | 0, v1, v2, v3, s, r, h => nomatch (show none = some r from h)
  | n + 1, v1, v2, v3, s, r, h => okg29_60 l Z a0 hw n0 _ (ok29_60 l Z a0 hw n0 n) n v1 v2 v3 s r h
def g_delete_16 (k16 : Int32 → Int32 → St → Option (Int32 × St)) (n : Nat) (v1 : Int32) (v2 : Int32) (s : St) : Option (Int32 × St) :=
  if v2 < ((gI s 0) - (1 : Int32)) then
    (rd (gA s 0) (v2 + (1 : Int32))).bind fun x2 =>
    (wrA s 0 v2 x2).bind fun s3 =>
    lt (v2 + (1 : Int32)) fun x4 =>
    k16 v1 x4 s3
  else
    lt (sI s 0 ((gI s 0) - (1 : Int32))) fun s5 =>
    f_delete_60 n v1 (0 : Int32) (0 : Int32) s5
set_option maxRecDepth 65536 in
set_option maxHeartbeats 4000000 in
theorem okg29_16 (l : Launch) (Z : State) (a0 : Array Value) (hw : HW a0 Z) (n0 : Nat) (k16 : Int32 → Int32 → St → Option (Int32 × St)) (hk16 : ∀ (v1 : Int32) (v2 : Int32) (s : St) (r : Int32 × St), k16 v1 v2 s = some r → W29 l Z n0 (P29 r) 0 0 16 [.val (.ref 0), .val (.int v1), .val (.int v2), .unset, .unset, .unset] [] (Hb 0 s)) (n : Nat) (v1 : Int32) (v2 : Int32) (s : St) (r : Int32 × St) (h : g_delete_16 k16 n v1 v2 s = some r) : W29 l Z n0 (P29 r) 0 0 16 [.val (.ref 0), .val (.int v1), .val (.int v2), .unset, .unset, .unset] [] (Hb 0 s) := by
  unfold g_delete_16 at h
  refine WP.iloadN d29_16 rfl ?_
  refine WP.aloadN d29_17 rfl ?_
  refine WP.getfield (i := 0) (j := 1) d29_18 (hw _ m_48) rfl rfl rfl ?_
  refine WP.iconst (1 : Int32) d29_21 rfl ?_
  refine WP.isub d29_22 ?_
  rcases ite_e h with ⟨hc1, h⟩ | ⟨hc1, h⟩
  ·
    refine WP.icmpN d29_23 (XT.ii_ge_f hc1) ?_
    refine WP.aloadN d29_26 rfl ?_
    refine WP.getfield (i := 0) (j := 0) d29_27 (hw _ m_18) rfl rfl rfl ?_
    refine WP.iloadN d29_30 rfl ?_
    refine WP.aloadN d29_31 rfl ?_
    refine WP.getfield (i := 0) (j := 0) d29_32 (hw _ m_18) rfl rfl rfl ?_
    refine WP.iloadN d29_35 rfl ?_
    refine WP.iconst (1 : Int32) d29_36 rfl ?_
    refine WP.iadd d29_37 ?_
    obtain ⟨x2, hx2, h⟩ := Option.bind_eq_some_iff.mp h
    refine WP.iaload (i := 1) d29_38 rfl hx2 ?_
    obtain ⟨s3, hs3, h⟩ := Option.bind_eq_some_iff.mp h
    obtain ⟨ys3, gs3, es3⟩ := wrA_e hs3
    refine WP.iastore (i := 1) (xs := gA s 0) (H' := (Hb 0 s3)) d29_39 rfl (leb rfl) gs3 (by subst es3; rfl) ?_
    obtain ⟨x4, ex4, h⟩ := lt_e h
    refine WP.iinc (L' := [.val (.ref 0), .val (.int v1), .val (.int x4), .unset, .unset, .unset]) (1 : Int32) d29_40 rfl rfl (by subst ex4; rfl) ?_
    refine WP.goto (pc' := 16) d29_43 (by decide) rfl ?_
    exact WP.weak (L' := [.val (.ref 0), .val (.int v1), .val (.int x4), .unset, .unset, .unset]) ⟨rfl, rfl, rfl, trivial⟩ (hk16 v1 x4 s3 _ h)
  ·
    refine WP.icmpY (pc' := 46) d29_23 (XT.ii_ge_t hc1) (by decide) rfl ?_
    refine WP.aloadN d29_46 rfl ?_
    refine WP.dup d29_47 rfl ?_
    refine WP.getfield (i := 0) (j := 1) d29_48 (hw _ m_48) rfl rfl rfl ?_
    refine WP.iconst (1 : Int32) d29_51 rfl ?_
    refine WP.isub d29_52 ?_
    obtain ⟨s5, es5, h⟩ := lt_e h
    refine WP.putI (i := 0) (j := 1) (H' := (Hb 0 s5)) d29_53 (hw _ m_48) (Or.inl (hw _ m_49)) (hw _ m_1) (hlay hw) rfl rfl rfl (leb rfl) (by subst es5; rfl) ?_
    refine WP.iconst (0 : Int32) d29_56 rfl ?_
    refine WP.istoreN (L' := [.val (.ref 0), .val (.int v1), .val (.int (0 : Int32)), .unset, .unset, .unset]) d29_57 (leb rfl) rfl ?_
    refine WP.iconst (0 : Int32) d29_58 rfl ?_
    refine WP.istoreN (L' := [.val (.ref 0), .val (.int v1), .val (.int (0 : Int32)), .val (.int (0 : Int32)), .unset, .unset]) d29_59 (leb rfl) rfl ?_
    exact WP.weak (L' := [.val (.ref 0), .val (.int v1), .val (.int (0 : Int32)), .val (.int (0 : Int32)), .unset, .unset]) ⟨rfl, rfl, rfl, rfl, trivial⟩ (ok29_60 l Z a0 hw n0 n v1 (0 : Int32) (0 : Int32) s5 _ h)
def f_delete_16 : Nat → Int32 → Int32 → St → Option (Int32 × St)
  | 0 => fun _ _ _ => none
  | n + 1 => g_delete_16 (f_delete_16 n) n
theorem ok29_16 (l : Launch) (Z : State) (a0 : Array Value) (hw : HW a0 Z) (n0 : Nat) : ∀ (n : Nat) (v1 : Int32) (v2 : Int32) (s : St) (r : Int32 × St), f_delete_16 n v1 v2 s = some r → W29 l Z n0 (P29 r) 0 0 16 [.val (.ref 0), .val (.int v1), .val (.int v2), .unset, .unset, .unset] [] (Hb 0 s)
  | 0, v1, v2, s, r, h => nomatch (show none = some r from h)
  | n + 1, v1, v2, s, r, h => okg29_16 l Z a0 hw n0 _ (ok29_16 l Z a0 hw n0 n) n v1 v2 s r h
def f_delete (n : Nat) (p1 : Int32) (s : St) : Option (Int32 × St) :=
  if p1 < 0 then
    f_delete_12 n s
  else
    if p1 < (gI s 0) then
      f_delete_16 n p1 p1 s
    else
      f_delete_12 n s
set_option maxRecDepth 65536 in
set_option maxHeartbeats 4000000 in
theorem ok29 (l : Launch) (Z : State) (a0 : Array Value) (hw : HW a0 Z) (n : Nat) (p1 : Int32) (s : St) (r : Int32 × St) (h : f_delete n p1 s = some r) : CS l Z CN lay y29 prog_1_method_3_code 6 (some FieldType.boolean) R29 0 [.ref 0, .int p1] (Hb 0 s) (P29 r) := by
  refine CS.of_wp pn_cls (leb rfl) fun n0 => ?_
  show W29 l Z n0 (P29 r) 0 0 0 [.val (.ref 0), .val (.int p1), .unset, .unset, .unset, .unset] [] (Hb 0 s)
  unfold f_delete at h
  refine WP.iloadN d29_0 rfl ?_
  rcases ite_e h with ⟨hc1, h⟩ | ⟨hc1, h⟩
  ·
    refine WP.ifY (pc' := 12) d29_1 (XT.i0_lt_t hc1) (by decide) rfl ?_
    exact WP.weak (L' := [.unset, .unset, .unset, .unset, .unset, .unset]) trivial (ok29_12 l Z a0 hw n0 n s _ h)
  ·
    refine WP.ifN d29_1 (XT.i0_lt_f hc1) ?_
    refine WP.iloadN d29_4 rfl ?_
    refine WP.aloadN d29_5 rfl ?_
    refine WP.getfield (i := 0) (j := 1) d29_6 (hw _ m_48) rfl rfl rfl ?_
    rcases ite_e h with ⟨hc2, h⟩ | ⟨hc2, h⟩
    ·
      refine WP.icmpY (pc' := 14) d29_9 (XT.ii_lt_t hc2) (by decide) rfl ?_
      refine WP.iloadN d29_14 rfl ?_
      refine WP.istoreN (L' := [.val (.ref 0), .val (.int p1), .val (.int p1), .unset, .unset, .unset]) d29_15 (leb rfl) rfl ?_
      exact WP.weak (L' := [.val (.ref 0), .val (.int p1), .val (.int p1), .unset, .unset, .unset]) ⟨rfl, rfl, rfl, trivial⟩ (ok29_16 l Z a0 hw n0 n p1 p1 s _ h)
    ·
      refine WP.icmpN d29_9 (XT.ii_lt_f hc2) ?_
      exact WP.weak (L' := [.unset, .unset, .unset, .unset, .unset, .unset]) trivial (ok29_12 l Z a0 hw n0 n s _ h)
theorem d26_0 : dc prog_1_method_21_code 0 (.iconst 0) 1 := by decide +kernel
theorem d26_1 : dc prog_1_method_21_code 1 (.istore_n 3) 1 := by decide +kernel
theorem d26_2 : dc prog_1_method_21_code 2 (.iload_n 3) 1 := by decide +kernel
theorem d26_3 : dc prog_1_method_21_code 3 (.aload_n 0) 1 := by decide +kernel
theorem d26_4 : dc prog_1_method_21_code 4 (.getfield 57) 3 := by decide +kernel
theorem d26_7 : dc prog_1_method_21_code 7 (.if_icmp .ge 31) 3 := by decide +kernel
theorem d26_10 : dc prog_1_method_21_code 10 (.iload_n 1) 1 := by decide +kernel
theorem d26_11 : dc prog_1_method_21_code 11 (.aload_n 0) 1 := by decide +kernel
theorem d26_12 : dc prog_1_method_21_code 12 (.getfield 16) 3 := by decide +kernel
theorem d26_15 : dc prog_1_method_21_code 15 (.iload_n 3) 1 := by decide +kernel
theorem d26_16 : dc prog_1_method_21_code 16 (.iaload) 1 := by decide +kernel
theorem d26_17 : dc prog_1_method_21_code 17 (.if_icmp .ge 15) 3 := by decide +kernel
theorem d26_20 : dc prog_1_method_21_code 20 (.aload_n 0) 1 := by decide +kernel
theorem d26_21 : dc prog_1_method_21_code 21 (.getfield 13) 3 := by decide +kernel
theorem d26_24 : dc prog_1_method_21_code 24 (.iload_n 3) 1 := by decide +kernel
theorem d26_25 : dc prog_1_method_21_code 25 (.iaload) 1 := by decide +kernel
theorem d26_26 : dc prog_1_method_21_code 26 (.iload_n 2) 1 := by decide +kernel
theorem d26_27 : dc prog_1_method_21_code 27 (.if_icmp .ge 5) 3 := by decide +kernel
theorem d26_30 : dc prog_1_method_21_code 30 (.iconst 1) 1 := by decide +kernel
theorem d26_31 : dc prog_1_method_21_code 31 (.ireturn) 1 := by decide +kernel
theorem d26_32 : dc prog_1_method_21_code 32 (.iinc 3 1) 3 := by decide +kernel
theorem d26_35 : dc prog_1_method_21_code 35 (.goto (-33)) 3 := by decide +kernel
theorem d26_38 : dc prog_1_method_21_code 38 (.iconst 0) 1 := by decide +kernel
theorem d26_39 : dc prog_1_method_21_code 39 (.ireturn) 1 := by decide +kernel
abbrev y26 : MethodName := ⟨"DisplayMap", "overlapsAny", "(II)Z"⟩
theorem hy26 : y26.cls ≠ "java/lang/invoke/MethodHandle" ∧ y26.cls ≠ "java/lang/invoke/VarHandle" := by decide
theorem pd26 : parseMethodDescriptor y26.desc = some ⟨[.int, .int], some .boolean⟩ := by decide +kernel
abbrev R26 : Room := { frames := 0, cells := 0, slots := 0, locals := 0 }
abbrev P26 (s : St) (r : Int32) : Option Value → List OwnC → Prop := fun v H' => v = some (.int r) ∧ H' = (Hb 0 s)
abbrev W26 (l : Launch) (Z : State) (n0 : Nat) (Q : Option Value → List OwnC → Prop) (k n pc : Nat) (L : List Slot) (S : List Value) (H : List OwnC) : Prop := WP l Z CN lay "DisplayMap" "overlapsAny" prog_1_method_21_code 4 (some FieldType.boolean) R26 n0 0 Q k n pc L S H
def f_overlapsAny_32 (k2 : Int32 → Int32 → Int32 → St → Option (Int32)) (n : Nat) (v1 : Int32) (v2 : Int32) (v3 : Int32) (s : St) : Option (Int32) :=
  lt (v3 + (1 : Int32)) fun x1 =>
  k2 v1 v2 x1 s
set_option maxRecDepth 65536 in
set_option maxHeartbeats 4000000 in
theorem ok26_32 (l : Launch) (Z : State) (a0 : Array Value) (hw : HW a0 Z) (n0 : Nat) (k2 : Int32 → Int32 → Int32 → St → Option (Int32)) (hk2 : ∀ (v1 : Int32) (v2 : Int32) (v3 : Int32) (s : St) (r : Int32), k2 v1 v2 v3 s = some r → W26 l Z n0 (P26 s r) 0 0 2 [.val (.ref 0), .val (.int v1), .val (.int v2), .val (.int v3)] [] (Hb 0 s)) (n : Nat) (v1 : Int32) (v2 : Int32) (v3 : Int32) (s : St) (r : Int32) (h : f_overlapsAny_32 k2 n v1 v2 v3 s = some r) : W26 l Z n0 (P26 s r) 0 0 32 [.val (.ref 0), .val (.int v1), .val (.int v2), .val (.int v3)] [] (Hb 0 s) := by
  unfold f_overlapsAny_32 at h
  obtain ⟨x1, ex1, h⟩ := lt_e h
  refine WP.iinc (L' := [.val (.ref 0), .val (.int v1), .val (.int v2), .val (.int x1)]) (1 : Int32) d26_32 rfl rfl (by subst ex1; rfl) ?_
  refine WP.goto (pc' := 2) d26_35 (by decide) rfl ?_
  exact WP.weak (L' := [.val (.ref 0), .val (.int v1), .val (.int v2), .val (.int x1)]) ⟨rfl, rfl, rfl, rfl, trivial⟩ (hk2 v1 v2 x1 s _ h)
def g_overlapsAny_2 (k2 : Int32 → Int32 → Int32 → St → Option (Int32)) (n : Nat) (v1 : Int32) (v2 : Int32) (v3 : Int32) (s : St) : Option (Int32) :=
  if v3 < (gI s 1) then
    (rd (gA s 2) v3).bind fun x2 =>
    if v1 < x2 then
      (rd (gA s 1) v3).bind fun x4 =>
      if x4 < v2 then
        some (1 : Int32)
      else
        f_overlapsAny_32 k2 n v1 v2 v3 s
    else
      f_overlapsAny_32 k2 n v1 v2 v3 s
  else
    some (0 : Int32)
set_option maxRecDepth 65536 in
set_option maxHeartbeats 4000000 in
theorem okg26_2 (l : Launch) (Z : State) (a0 : Array Value) (hw : HW a0 Z) (n0 : Nat) (k2 : Int32 → Int32 → Int32 → St → Option (Int32)) (hk2 : ∀ (v1 : Int32) (v2 : Int32) (v3 : Int32) (s : St) (r : Int32), k2 v1 v2 v3 s = some r → W26 l Z n0 (P26 s r) 0 0 2 [.val (.ref 0), .val (.int v1), .val (.int v2), .val (.int v3)] [] (Hb 0 s)) (n : Nat) (v1 : Int32) (v2 : Int32) (v3 : Int32) (s : St) (r : Int32) (h : g_overlapsAny_2 k2 n v1 v2 v3 s = some r) : W26 l Z n0 (P26 s r) 0 0 2 [.val (.ref 0), .val (.int v1), .val (.int v2), .val (.int v3)] [] (Hb 0 s) := by
  unfold g_overlapsAny_2 at h
  refine WP.iloadN d26_2 rfl ?_
  refine WP.aloadN d26_3 rfl ?_
  refine WP.getfield (i := 0) (j := 4) d26_4 (hw _ m_50) rfl rfl rfl ?_
  rcases ite_e h with ⟨hc1, h⟩ | ⟨hc1, h⟩
  ·
    refine WP.icmpN d26_7 (XT.ii_ge_f hc1) ?_
    refine WP.iloadN d26_10 rfl ?_
    refine WP.aloadN d26_11 rfl ?_
    refine WP.getfield (i := 0) (j := 3) d26_12 (hw _ m_22) rfl rfl rfl ?_
    refine WP.iloadN d26_15 rfl ?_
    obtain ⟨x2, hx2, h⟩ := Option.bind_eq_some_iff.mp h
    refine WP.iaload (i := 3) d26_16 rfl hx2 ?_
    rcases ite_e h with ⟨hc3, h⟩ | ⟨hc3, h⟩
    ·
      refine WP.icmpN d26_17 (XT.ii_ge_f hc3) ?_
      refine WP.aloadN d26_20 rfl ?_
      refine WP.getfield (i := 0) (j := 2) d26_21 (hw _ m_20) rfl rfl rfl ?_
      refine WP.iloadN d26_24 rfl ?_
      obtain ⟨x4, hx4, h⟩ := Option.bind_eq_some_iff.mp h
      refine WP.iaload (i := 2) d26_25 rfl hx4 ?_
      refine WP.iloadN d26_26 rfl ?_
      rcases ite_e h with ⟨hc5, h⟩ | ⟨hc5, h⟩
      ·
        refine WP.icmpN d26_27 (XT.ii_ge_f hc5) ?_
        refine WP.iconst (1 : Int32) d26_30 rfl ?_
        cases h
        exact WP.zreturn d26_31 rfl (leb rfl) (leb rfl) ⟨rfl, rfl⟩
      ·
        refine WP.icmpY (pc' := 32) d26_27 (XT.ii_ge_t hc5) (by decide) rfl ?_
        exact WP.weak (L' := [.val (.ref 0), .val (.int v1), .val (.int v2), .val (.int v3)]) ⟨rfl, rfl, rfl, rfl, trivial⟩ (ok26_32 l Z a0 hw n0 _ hk2 n v1 v2 v3 s _ h)
    ·
      refine WP.icmpY (pc' := 32) d26_17 (XT.ii_ge_t hc3) (by decide) rfl ?_
      exact WP.weak (L' := [.val (.ref 0), .val (.int v1), .val (.int v2), .val (.int v3)]) ⟨rfl, rfl, rfl, rfl, trivial⟩ (ok26_32 l Z a0 hw n0 _ hk2 n v1 v2 v3 s _ h)
  ·
    refine WP.icmpY (pc' := 38) d26_7 (XT.ii_ge_t hc1) (by decide) rfl ?_
    refine WP.iconst (0 : Int32) d26_38 rfl ?_
    cases h
    exact WP.zreturn d26_39 rfl (leb rfl) (leb rfl) ⟨rfl, rfl⟩
def f_overlapsAny_2 : Nat → Int32 → Int32 → Int32 → St → Option (Int32)
  | 0 => fun _ _ _ _ => none
  | n + 1 => g_overlapsAny_2 (f_overlapsAny_2 n) n
theorem ok26_2 (l : Launch) (Z : State) (a0 : Array Value) (hw : HW a0 Z) (n0 : Nat) : ∀ (n : Nat) (v1 : Int32) (v2 : Int32) (v3 : Int32) (s : St) (r : Int32), f_overlapsAny_2 n v1 v2 v3 s = some r → W26 l Z n0 (P26 s r) 0 0 2 [.val (.ref 0), .val (.int v1), .val (.int v2), .val (.int v3)] [] (Hb 0 s)
  | 0, v1, v2, v3, s, r, h => nomatch (show none = some r from h)
  | n + 1, v1, v2, v3, s, r, h => okg26_2 l Z a0 hw n0 _ (ok26_2 l Z a0 hw n0 n) n v1 v2 v3 s r h
def f_overlapsAny (n : Nat) (p1 : Int32) (p2 : Int32) (s : St) : Option (Int32) :=
  f_overlapsAny_2 n p1 p2 (0 : Int32) s
set_option maxRecDepth 65536 in
set_option maxHeartbeats 4000000 in
theorem ok26 (l : Launch) (Z : State) (a0 : Array Value) (hw : HW a0 Z) (n : Nat) (p1 : Int32) (p2 : Int32) (s : St) (r : Int32) (h : f_overlapsAny n p1 p2 s = some r) : CS l Z CN lay y26 prog_1_method_21_code 4 (some FieldType.boolean) R26 0 [.ref 0, .int p1, .int p2] (Hb 0 s) (P26 s r) := by
  refine CS.of_wp pn_cls (leb rfl) fun n0 => ?_
  show W26 l Z n0 (P26 s r) 0 0 0 [.val (.ref 0), .val (.int p1), .val (.int p2), .unset] [] (Hb 0 s)
  unfold f_overlapsAny at h
  refine WP.iconst (0 : Int32) d26_0 rfl ?_
  refine WP.istoreN (L' := [.val (.ref 0), .val (.int p1), .val (.int p2), .val (.int (0 : Int32))]) d26_1 (leb rfl) rfl ?_
  exact WP.weak (L' := [.val (.ref 0), .val (.int p1), .val (.int p2), .val (.int (0 : Int32))]) ⟨rfl, rfl, rfl, rfl, trivial⟩ (ok26_2 l Z a0 hw n0 n p1 p2 (0 : Int32) s _ h)
theorem d23_0 : dc prog_1_method_4_code 0 (.iload_n 1) 1 := by decide +kernel
theorem d23_1 : dc prog_1_method_4_code 1 (.ifCond .lt 16) 3 := by decide +kernel
theorem d23_4 : dc prog_1_method_4_code 4 (.iload_n 1) 1 := by decide +kernel
theorem d23_5 : dc prog_1_method_4_code 5 (.iload_n 2) 1 := by decide +kernel
theorem d23_6 : dc prog_1_method_4_code 6 (.if_icmp .ge 11) 3 := by decide +kernel
theorem d23_9 : dc prog_1_method_4_code 9 (.iload_n 2) 1 := by decide +kernel
theorem d23_10 : dc prog_1_method_4_code 10 (.aload_n 0) 1 := by decide +kernel
theorem d23_11 : dc prog_1_method_4_code 11 (.getfield 54) 3 := by decide +kernel
theorem d23_14 : dc prog_1_method_4_code 14 (.if_icmp .le 5) 3 := by decide +kernel
theorem d23_17 : dc prog_1_method_4_code 17 (.iconst 0) 1 := by decide +kernel
theorem d23_18 : dc prog_1_method_4_code 18 (.ireturn) 1 := by decide +kernel
theorem d23_19 : dc prog_1_method_4_code 19 (.aload_n 0) 1 := by decide +kernel
theorem d23_20 : dc prog_1_method_4_code 20 (.iload_n 1) 1 := by decide +kernel
theorem d23_21 : dc prog_1_method_4_code 21 (.iload_n 2) 1 := by decide +kernel
theorem d23_22 : dc prog_1_method_4_code 22 (.invokevirtual 68) 3 := by decide +kernel
theorem d23_25 : dc prog_1_method_4_code 25 (.ifCond .eq 5) 3 := by decide +kernel
theorem d23_28 : dc prog_1_method_4_code 28 (.iconst 0) 1 := by decide +kernel
theorem d23_29 : dc prog_1_method_4_code 29 (.ireturn) 1 := by decide +kernel
theorem d23_30 : dc prog_1_method_4_code 30 (.aload_n 0) 1 := by decide +kernel
theorem d23_31 : dc prog_1_method_4_code 31 (.getfield 57) 3 := by decide +kernel
theorem d23_34 : dc prog_1_method_4_code 34 (.bipush 8) 2 := by decide +kernel
theorem d23_36 : dc prog_1_method_4_code 36 (.if_icmp .lt 5) 3 := by decide +kernel
theorem d23_39 : dc prog_1_method_4_code 39 (.iconst 0) 1 := by decide +kernel
theorem d23_40 : dc prog_1_method_4_code 40 (.ireturn) 1 := by decide +kernel
theorem d23_41 : dc prog_1_method_4_code 41 (.iconst 0) 1 := by decide +kernel
theorem d23_42 : dc prog_1_method_4_code 42 (.istore_n 3) 1 := by decide +kernel
theorem d23_43 : dc prog_1_method_4_code 43 (.iconst 0) 1 := by decide +kernel
theorem d23_44 : dc prog_1_method_4_code 44 (.istore 4) 2 := by decide +kernel
theorem d23_46 : dc prog_1_method_4_code 46 (.iload 4) 2 := by decide +kernel
theorem d23_48 : dc prog_1_method_4_code 48 (.aload_n 0) 1 := by decide +kernel
theorem d23_49 : dc prog_1_method_4_code 49 (.getfield 57) 3 := by decide +kernel
theorem d23_52 : dc prog_1_method_4_code 52 (.if_icmp .ge 25) 3 := by decide +kernel
theorem d23_55 : dc prog_1_method_4_code 55 (.aload_n 0) 1 := by decide +kernel
theorem d23_56 : dc prog_1_method_4_code 56 (.getfield 13) 3 := by decide +kernel
theorem d23_59 : dc prog_1_method_4_code 59 (.iload 4) 2 := by decide +kernel
theorem d23_61 : dc prog_1_method_4_code 61 (.iaload) 1 := by decide +kernel
theorem d23_62 : dc prog_1_method_4_code 62 (.iload_n 1) 1 := by decide +kernel
theorem d23_63 : dc prog_1_method_4_code 63 (.if_icmp .ge 8) 3 := by decide +kernel
theorem d23_66 : dc prog_1_method_4_code 66 (.iload 4) 2 := by decide +kernel
theorem d23_68 : dc prog_1_method_4_code 68 (.iconst 1) 1 := by decide +kernel
theorem d23_69 : dc prog_1_method_4_code 69 (.iadd) 1 := by decide +kernel
theorem d23_70 : dc prog_1_method_4_code 70 (.istore_n 3) 1 := by decide +kernel
theorem d23_71 : dc prog_1_method_4_code 71 (.iinc 4 1) 3 := by decide +kernel
theorem d23_74 : dc prog_1_method_4_code 74 (.goto (-28)) 3 := by decide +kernel
theorem d23_77 : dc prog_1_method_4_code 77 (.aload_n 0) 1 := by decide +kernel
theorem d23_78 : dc prog_1_method_4_code 78 (.getfield 57) 3 := by decide +kernel
theorem d23_81 : dc prog_1_method_4_code 81 (.istore 4) 2 := by decide +kernel
theorem d23_83 : dc prog_1_method_4_code 83 (.iload 4) 2 := by decide +kernel
theorem d23_85 : dc prog_1_method_4_code 85 (.iload_n 3) 1 := by decide +kernel
theorem d23_86 : dc prog_1_method_4_code 86 (.if_icmp .le 41) 3 := by decide +kernel
theorem d23_89 : dc prog_1_method_4_code 89 (.aload_n 0) 1 := by decide +kernel
theorem d23_90 : dc prog_1_method_4_code 90 (.getfield 13) 3 := by decide +kernel
theorem d23_93 : dc prog_1_method_4_code 93 (.iload 4) 2 := by decide +kernel
theorem d23_95 : dc prog_1_method_4_code 95 (.aload_n 0) 1 := by decide +kernel
theorem d23_96 : dc prog_1_method_4_code 96 (.getfield 13) 3 := by decide +kernel
theorem d23_99 : dc prog_1_method_4_code 99 (.iload 4) 2 := by decide +kernel
theorem d23_101 : dc prog_1_method_4_code 101 (.iconst 1) 1 := by decide +kernel
theorem d23_102 : dc prog_1_method_4_code 102 (.isub) 1 := by decide +kernel
theorem d23_103 : dc prog_1_method_4_code 103 (.iaload) 1 := by decide +kernel
theorem d23_104 : dc prog_1_method_4_code 104 (.iastore) 1 := by decide +kernel
theorem d23_105 : dc prog_1_method_4_code 105 (.aload_n 0) 1 := by decide +kernel
theorem d23_106 : dc prog_1_method_4_code 106 (.getfield 16) 3 := by decide +kernel
theorem d23_109 : dc prog_1_method_4_code 109 (.iload 4) 2 := by decide +kernel
theorem d23_111 : dc prog_1_method_4_code 111 (.aload_n 0) 1 := by decide +kernel
theorem d23_112 : dc prog_1_method_4_code 112 (.getfield 16) 3 := by decide +kernel
theorem d23_115 : dc prog_1_method_4_code 115 (.iload 4) 2 := by decide +kernel
theorem d23_117 : dc prog_1_method_4_code 117 (.iconst 1) 1 := by decide +kernel
theorem d23_118 : dc prog_1_method_4_code 118 (.isub) 1 := by decide +kernel
theorem d23_119 : dc prog_1_method_4_code 119 (.iaload) 1 := by decide +kernel
theorem d23_120 : dc prog_1_method_4_code 120 (.iastore) 1 := by decide +kernel
theorem d23_121 : dc prog_1_method_4_code 121 (.iinc 4 (-1)) 3 := by decide +kernel
theorem d23_124 : dc prog_1_method_4_code 124 (.goto (-41)) 3 := by decide +kernel
theorem d23_127 : dc prog_1_method_4_code 127 (.aload_n 0) 1 := by decide +kernel
theorem d23_128 : dc prog_1_method_4_code 128 (.getfield 13) 3 := by decide +kernel
theorem d23_131 : dc prog_1_method_4_code 131 (.iload_n 3) 1 := by decide +kernel
theorem d23_132 : dc prog_1_method_4_code 132 (.iload_n 1) 1 := by decide +kernel
theorem d23_133 : dc prog_1_method_4_code 133 (.iastore) 1 := by decide +kernel
theorem d23_134 : dc prog_1_method_4_code 134 (.aload_n 0) 1 := by decide +kernel
theorem d23_135 : dc prog_1_method_4_code 135 (.getfield 16) 3 := by decide +kernel
theorem d23_138 : dc prog_1_method_4_code 138 (.iload_n 3) 1 := by decide +kernel
theorem d23_139 : dc prog_1_method_4_code 139 (.iload_n 2) 1 := by decide +kernel
theorem d23_140 : dc prog_1_method_4_code 140 (.iastore) 1 := by decide +kernel
theorem d23_141 : dc prog_1_method_4_code 141 (.aload_n 0) 1 := by decide +kernel
theorem d23_142 : dc prog_1_method_4_code 142 (.dup) 1 := by decide +kernel
theorem d23_143 : dc prog_1_method_4_code 143 (.getfield 57) 3 := by decide +kernel
theorem d23_146 : dc prog_1_method_4_code 146 (.iconst 1) 1 := by decide +kernel
theorem d23_147 : dc prog_1_method_4_code 147 (.iadd) 1 := by decide +kernel
theorem d23_148 : dc prog_1_method_4_code 148 (.putfield 57) 3 := by decide +kernel
theorem d23_151 : dc prog_1_method_4_code 151 (.aload_n 0) 1 := by decide +kernel
theorem d23_152 : dc prog_1_method_4_code 152 (.iconst 1) 1 := by decide +kernel
theorem d23_153 : dc prog_1_method_4_code 153 (.putfield 60) 3 := by decide +kernel
theorem d23_156 : dc prog_1_method_4_code 156 (.iconst 1) 1 := by decide +kernel
theorem d23_157 : dc prog_1_method_4_code 157 (.ireturn) 1 := by decide +kernel
abbrev y23 : MethodName := ⟨"DisplayMap", "fold", "(II)Z"⟩
theorem hy23 : y23.cls ≠ "java/lang/invoke/MethodHandle" ∧ y23.cls ≠ "java/lang/invoke/VarHandle" := by decide
theorem pd23 : parseMethodDescriptor y23.desc = some ⟨[.int, .int], some .boolean⟩ := by decide +kernel
abbrev R23 : Room := { frames := 1, cells := 0, slots := 0, locals := 15 }
abbrev P23 (r : Int32 × St) : Option Value → List OwnC → Prop := fun v H' => v = some (.int r.1) ∧ H' = (Hb 0 r.2)
abbrev W23 (l : Launch) (Z : State) (n0 : Nat) (Q : Option Value → List OwnC → Prop) (k n pc : Nat) (L : List Slot) (S : List Value) (H : List OwnC) : Prop := WP l Z CN lay "DisplayMap" "fold" prog_1_method_4_code 5 (some FieldType.boolean) R23 n0 0 Q k n pc L S H
def f_fold_17 (n : Nat) (s : St) : Option (Int32 × St) :=
  some ((0 : Int32), s)
set_option maxRecDepth 65536 in
set_option maxHeartbeats 4000000 in
theorem ok23_17 (l : Launch) (Z : State) (a0 : Array Value) (hw : HW a0 Z) (n0 : Nat) (n : Nat) (s : St) (r : Int32 × St) (h : f_fold_17 n s = some r) : W23 l Z n0 (P23 r) 0 0 17 [.unset, .unset, .unset, .unset, .unset] [] (Hb 0 s) := by
  unfold f_fold_17 at h
  refine WP.iconst (0 : Int32) d23_17 rfl ?_
  cases h
  exact WP.zreturn d23_18 rfl (leb rfl) (leb rfl) ⟨rfl, rfl⟩
def f_fold_71 (k46 : Int32 → Int32 → Int32 → Int32 → St → Option (Int32 × St)) (n : Nat) (v1 : Int32) (v2 : Int32) (v3 : Int32) (v4 : Int32) (s : St) : Option (Int32 × St) :=
  lt (v4 + (1 : Int32)) fun x1 =>
  k46 v1 v2 v3 x1 s
set_option maxRecDepth 65536 in
set_option maxHeartbeats 4000000 in
theorem ok23_71 (l : Launch) (Z : State) (a0 : Array Value) (hw : HW a0 Z) (n0 : Nat) (k46 : Int32 → Int32 → Int32 → Int32 → St → Option (Int32 × St)) (hk46 : ∀ (v1 : Int32) (v2 : Int32) (v3 : Int32) (v4 : Int32) (s : St) (r : Int32 × St), k46 v1 v2 v3 v4 s = some r → W23 l Z n0 (P23 r) 0 0 46 [.val (.ref 0), .val (.int v1), .val (.int v2), .val (.int v3), .val (.int v4)] [] (Hb 0 s)) (n : Nat) (v1 : Int32) (v2 : Int32) (v3 : Int32) (v4 : Int32) (s : St) (r : Int32 × St) (h : f_fold_71 k46 n v1 v2 v3 v4 s = some r) : W23 l Z n0 (P23 r) 0 0 71 [.val (.ref 0), .val (.int v1), .val (.int v2), .val (.int v3), .val (.int v4)] [] (Hb 0 s) := by
  unfold f_fold_71 at h
  obtain ⟨x1, ex1, h⟩ := lt_e h
  refine WP.iinc (L' := [.val (.ref 0), .val (.int v1), .val (.int v2), .val (.int v3), .val (.int x1)]) (1 : Int32) d23_71 rfl rfl (by subst ex1; rfl) ?_
  refine WP.goto (pc' := 46) d23_74 (by decide) rfl ?_
  exact WP.weak (L' := [.val (.ref 0), .val (.int v1), .val (.int v2), .val (.int v3), .val (.int x1)]) ⟨rfl, rfl, rfl, rfl, rfl, trivial⟩ (hk46 v1 v2 v3 x1 s _ h)
def g_fold_83 (k83 : Int32 → Int32 → Int32 → Int32 → St → Option (Int32 × St)) (n : Nat) (v1 : Int32) (v2 : Int32) (v3 : Int32) (v4 : Int32) (s : St) : Option (Int32 × St) :=
  if v3 < v4 then
    (rd (gA s 1) (v4 - (1 : Int32))).bind fun x2 =>
    (wrA s 1 v4 x2).bind fun s3 =>
    (rd (gA s3 2) (v4 - (1 : Int32))).bind fun x4 =>
    (wrA s3 2 v4 x4).bind fun s5 =>
    lt (v4 + (-1 : Int32)) fun x6 =>
    k83 v1 v2 v3 x6 s5
  else
    (wrA s 1 v3 v1).bind fun s7 =>
    (wrA s7 2 v3 v2).bind fun s8 =>
    lt (sI s8 1 ((gI s8 1) + (1 : Int32))) fun s9 =>
    lt (sI s9 4 (1 : Int32)) fun s10 =>
    some ((1 : Int32), s10)
set_option maxRecDepth 65536 in
set_option maxHeartbeats 4000000 in
theorem okg23_83 (l : Launch) (Z : State) (a0 : Array Value) (hw : HW a0 Z) (n0 : Nat) (k83 : Int32 → Int32 → Int32 → Int32 → St → Option (Int32 × St)) (hk83 : ∀ (v1 : Int32) (v2 : Int32) (v3 : Int32) (v4 : Int32) (s : St) (r : Int32 × St), k83 v1 v2 v3 v4 s = some r → W23 l Z n0 (P23 r) 0 0 83 [.val (.ref 0), .val (.int v1), .val (.int v2), .val (.int v3), .val (.int v4)] [] (Hb 0 s)) (n : Nat) (v1 : Int32) (v2 : Int32) (v3 : Int32) (v4 : Int32) (s : St) (r : Int32 × St) (h : g_fold_83 k83 n v1 v2 v3 v4 s = some r) : W23 l Z n0 (P23 r) 0 0 83 [.val (.ref 0), .val (.int v1), .val (.int v2), .val (.int v3), .val (.int v4)] [] (Hb 0 s) := by
  unfold g_fold_83 at h
  refine WP.iload d23_83 rfl ?_
  refine WP.iloadN d23_85 rfl ?_
  rcases ite_e h with ⟨hc1, h⟩ | ⟨hc1, h⟩
  ·
    refine WP.icmpN d23_86 (XT.ii_le_f hc1) ?_
    refine WP.aloadN d23_89 rfl ?_
    refine WP.getfield (i := 0) (j := 2) d23_90 (hw _ m_20) rfl rfl rfl ?_
    refine WP.iload d23_93 rfl ?_
    refine WP.aloadN d23_95 rfl ?_
    refine WP.getfield (i := 0) (j := 2) d23_96 (hw _ m_20) rfl rfl rfl ?_
    refine WP.iload d23_99 rfl ?_
    refine WP.iconst (1 : Int32) d23_101 rfl ?_
    refine WP.isub d23_102 ?_
    obtain ⟨x2, hx2, h⟩ := Option.bind_eq_some_iff.mp h
    refine WP.iaload (i := 2) d23_103 rfl hx2 ?_
    obtain ⟨s3, hs3, h⟩ := Option.bind_eq_some_iff.mp h
    obtain ⟨ys3, gs3, es3⟩ := wrA_e hs3
    refine WP.iastore (i := 2) (xs := gA s 1) (H' := (Hb 0 s3)) d23_104 rfl (leb rfl) gs3 (by subst es3; rfl) ?_
    refine WP.aloadN d23_105 rfl ?_
    refine WP.getfield (i := 0) (j := 3) d23_106 (hw _ m_22) rfl rfl rfl ?_
    refine WP.iload d23_109 rfl ?_
    refine WP.aloadN d23_111 rfl ?_
    refine WP.getfield (i := 0) (j := 3) d23_112 (hw _ m_22) rfl rfl rfl ?_
    refine WP.iload d23_115 rfl ?_
    refine WP.iconst (1 : Int32) d23_117 rfl ?_
    refine WP.isub d23_118 ?_
    obtain ⟨x4, hx4, h⟩ := Option.bind_eq_some_iff.mp h
    refine WP.iaload (i := 3) d23_119 rfl hx4 ?_
    obtain ⟨s5, hs5, h⟩ := Option.bind_eq_some_iff.mp h
    obtain ⟨ys5, gs5, es5⟩ := wrA_e hs5
    refine WP.iastore (i := 3) (xs := gA s3 2) (H' := (Hb 0 s5)) d23_120 rfl (leb rfl) gs5 (by subst es5; rfl) ?_
    obtain ⟨x6, ex6, h⟩ := lt_e h
    refine WP.iinc (L' := [.val (.ref 0), .val (.int v1), .val (.int v2), .val (.int v3), .val (.int x6)]) (-1 : Int32) d23_121 rfl rfl (by subst ex6; rfl) ?_
    refine WP.goto (pc' := 83) d23_124 (by decide) rfl ?_
    exact WP.weak (L' := [.val (.ref 0), .val (.int v1), .val (.int v2), .val (.int v3), .val (.int x6)]) ⟨rfl, rfl, rfl, rfl, rfl, trivial⟩ (hk83 v1 v2 v3 x6 s5 _ h)
  ·
    refine WP.icmpY (pc' := 127) d23_86 (XT.ii_le_t hc1) (by decide) rfl ?_
    refine WP.aloadN d23_127 rfl ?_
    refine WP.getfield (i := 0) (j := 2) d23_128 (hw _ m_20) rfl rfl rfl ?_
    refine WP.iloadN d23_131 rfl ?_
    refine WP.iloadN d23_132 rfl ?_
    obtain ⟨s7, hs7, h⟩ := Option.bind_eq_some_iff.mp h
    obtain ⟨ys7, gs7, es7⟩ := wrA_e hs7
    refine WP.iastore (i := 2) (xs := gA s 1) (H' := (Hb 0 s7)) d23_133 rfl (leb rfl) gs7 (by subst es7; rfl) ?_
    refine WP.aloadN d23_134 rfl ?_
    refine WP.getfield (i := 0) (j := 3) d23_135 (hw _ m_22) rfl rfl rfl ?_
    refine WP.iloadN d23_138 rfl ?_
    refine WP.iloadN d23_139 rfl ?_
    obtain ⟨s8, hs8, h⟩ := Option.bind_eq_some_iff.mp h
    obtain ⟨ys8, gs8, es8⟩ := wrA_e hs8
    refine WP.iastore (i := 3) (xs := gA s7 2) (H' := (Hb 0 s8)) d23_140 rfl (leb rfl) gs8 (by subst es8; rfl) ?_
    refine WP.aloadN d23_141 rfl ?_
    refine WP.dup d23_142 rfl ?_
    refine WP.getfield (i := 0) (j := 4) d23_143 (hw _ m_50) rfl rfl rfl ?_
    refine WP.iconst (1 : Int32) d23_146 rfl ?_
    refine WP.iadd d23_147 ?_
    obtain ⟨s9, es9, h⟩ := lt_e h
    refine WP.putI (i := 0) (j := 4) (H' := (Hb 0 s9)) d23_148 (hw _ m_50) (Or.inl (hw _ m_51)) (hw _ m_1) (hlay hw) rfl rfl rfl (leb rfl) (by subst es9; rfl) ?_
    refine WP.aloadN d23_151 rfl ?_
    refine WP.iconst (1 : Int32) d23_152 rfl ?_
    obtain ⟨s10, es10, h⟩ := lt_e h
    refine WP.putZ (i := 0) (j := 7) (H' := (Hb 0 s10)) d23_153 (hw _ m_52) (Or.inl (hw _ m_53)) (hw _ m_1) (hlay hw) rfl rfl rfl (leb rfl) (by subst es10; rfl) ?_
    refine WP.iconst (1 : Int32) d23_156 rfl ?_
    cases h
    exact WP.zreturn d23_157 rfl (leb rfl) (leb rfl) ⟨rfl, rfl⟩
def f_fold_83 : Nat → Int32 → Int32 → Int32 → Int32 → St → Option (Int32 × St)
  | 0 => fun _ _ _ _ _ => none
  | n + 1 => g_fold_83 (f_fold_83 n) n
theorem ok23_83 (l : Launch) (Z : State) (a0 : Array Value) (hw : HW a0 Z) (n0 : Nat) : ∀ (n : Nat) (v1 : Int32) (v2 : Int32) (v3 : Int32) (v4 : Int32) (s : St) (r : Int32 × St), f_fold_83 n v1 v2 v3 v4 s = some r → W23 l Z n0 (P23 r) 0 0 83 [.val (.ref 0), .val (.int v1), .val (.int v2), .val (.int v3), .val (.int v4)] [] (Hb 0 s)
  | 0, v1, v2, v3, v4, s, r, h => nomatch (show none = some r from h)
  | n + 1, v1, v2, v3, v4, s, r, h => okg23_83 l Z a0 hw n0 _ (ok23_83 l Z a0 hw n0 n) n v1 v2 v3 v4 s r h
def g_fold_46 (k46 : Int32 → Int32 → Int32 → Int32 → St → Option (Int32 × St)) (n : Nat) (v1 : Int32) (v2 : Int32) (v3 : Int32) (v4 : Int32) (s : St) : Option (Int32 × St) :=
  if v4 < (gI s 1) then
    (rd (gA s 1) v4).bind fun x2 =>
    if x2 < v1 then
      lt (v4 + (1 : Int32)) fun x4 =>
      f_fold_71 k46 n v1 v2 x4 v4 s
    else
      f_fold_71 k46 n v1 v2 v3 v4 s
  else
    lt (gI s 1) fun x5 =>
    f_fold_83 n v1 v2 v3 x5 s
set_option maxRecDepth 65536 in
set_option maxHeartbeats 4000000 in
theorem okg23_46 (l : Launch) (Z : State) (a0 : Array Value) (hw : HW a0 Z) (n0 : Nat) (k46 : Int32 → Int32 → Int32 → Int32 → St → Option (Int32 × St)) (hk46 : ∀ (v1 : Int32) (v2 : Int32) (v3 : Int32) (v4 : Int32) (s : St) (r : Int32 × St), k46 v1 v2 v3 v4 s = some r → W23 l Z n0 (P23 r) 0 0 46 [.val (.ref 0), .val (.int v1), .val (.int v2), .val (.int v3), .val (.int v4)] [] (Hb 0 s)) (n : Nat) (v1 : Int32) (v2 : Int32) (v3 : Int32) (v4 : Int32) (s : St) (r : Int32 × St) (h : g_fold_46 k46 n v1 v2 v3 v4 s = some r) : W23 l Z n0 (P23 r) 0 0 46 [.val (.ref 0), .val (.int v1), .val (.int v2), .val (.int v3), .val (.int v4)] [] (Hb 0 s) := by
  unfold g_fold_46 at h
  refine WP.iload d23_46 rfl ?_
  refine WP.aloadN d23_48 rfl ?_
  refine WP.getfield (i := 0) (j := 4) d23_49 (hw _ m_50) rfl rfl rfl ?_
  rcases ite_e h with ⟨hc1, h⟩ | ⟨hc1, h⟩
  ·
    refine WP.icmpN d23_52 (XT.ii_ge_f hc1) ?_
    refine WP.aloadN d23_55 rfl ?_
    refine WP.getfield (i := 0) (j := 2) d23_56 (hw _ m_20) rfl rfl rfl ?_
    refine WP.iload d23_59 rfl ?_
    obtain ⟨x2, hx2, h⟩ := Option.bind_eq_some_iff.mp h
    refine WP.iaload (i := 2) d23_61 rfl hx2 ?_
    refine WP.iloadN d23_62 rfl ?_
    rcases ite_e h with ⟨hc3, h⟩ | ⟨hc3, h⟩
    ·
      refine WP.icmpN d23_63 (XT.ii_ge_f hc3) ?_
      refine WP.iload d23_66 rfl ?_
      refine WP.iconst (1 : Int32) d23_68 rfl ?_
      refine WP.iadd d23_69 ?_
      obtain ⟨x4, ex4, h⟩ := lt_e h
      refine WP.istoreN (L' := [.val (.ref 0), .val (.int v1), .val (.int v2), .val (.int x4), .val (.int v4)]) d23_70 (leb rfl) (by subst ex4; rfl) ?_
      exact WP.weak (L' := [.val (.ref 0), .val (.int v1), .val (.int v2), .val (.int x4), .val (.int v4)]) ⟨rfl, rfl, rfl, rfl, rfl, trivial⟩ (ok23_71 l Z a0 hw n0 _ hk46 n v1 v2 x4 v4 s _ h)
    ·
      refine WP.icmpY (pc' := 71) d23_63 (XT.ii_ge_t hc3) (by decide) rfl ?_
      exact WP.weak (L' := [.val (.ref 0), .val (.int v1), .val (.int v2), .val (.int v3), .val (.int v4)]) ⟨rfl, rfl, rfl, rfl, rfl, trivial⟩ (ok23_71 l Z a0 hw n0 _ hk46 n v1 v2 v3 v4 s _ h)
  ·
    refine WP.icmpY (pc' := 77) d23_52 (XT.ii_ge_t hc1) (by decide) rfl ?_
    refine WP.aloadN d23_77 rfl ?_
    refine WP.getfield (i := 0) (j := 4) d23_78 (hw _ m_50) rfl rfl rfl ?_
    obtain ⟨x5, ex5, h⟩ := lt_e h
    refine WP.istore (L' := [.val (.ref 0), .val (.int v1), .val (.int v2), .val (.int v3), .val (.int x5)]) d23_81 (leb rfl) (by subst ex5; rfl) ?_
    exact WP.weak (L' := [.val (.ref 0), .val (.int v1), .val (.int v2), .val (.int v3), .val (.int x5)]) ⟨rfl, rfl, rfl, rfl, rfl, trivial⟩ (ok23_83 l Z a0 hw n0 n v1 v2 v3 x5 s _ h)
def f_fold_46 : Nat → Int32 → Int32 → Int32 → Int32 → St → Option (Int32 × St)
  | 0 => fun _ _ _ _ _ => none
  | n + 1 => g_fold_46 (f_fold_46 n) n
theorem ok23_46 (l : Launch) (Z : State) (a0 : Array Value) (hw : HW a0 Z) (n0 : Nat) : ∀ (n : Nat) (v1 : Int32) (v2 : Int32) (v3 : Int32) (v4 : Int32) (s : St) (r : Int32 × St), f_fold_46 n v1 v2 v3 v4 s = some r → W23 l Z n0 (P23 r) 0 0 46 [.val (.ref 0), .val (.int v1), .val (.int v2), .val (.int v3), .val (.int v4)] [] (Hb 0 s)
  | 0, v1, v2, v3, v4, s, r, h => nomatch (show none = some r from h)
  | n + 1, v1, v2, v3, v4, s, r, h => okg23_46 l Z a0 hw n0 _ (ok23_46 l Z a0 hw n0 n) n v1 v2 v3 v4 s r h
def f_fold (n : Nat) (p1 : Int32) (p2 : Int32) (s : St) : Option (Int32 × St) :=
  if p1 < 0 then
    f_fold_17 n s
  else
    if p1 < p2 then
      if (gI s 0) < p2 then
        f_fold_17 n s
      else
        (f_overlapsAny n p1 p2 s).bind fun c4 =>
        if c4 = 0 then
          if (gI s 1) < (8 : Int32) then
            f_fold_46 n p1 p2 (0 : Int32) (0 : Int32) s
          else
            some ((0 : Int32), s)
        else
          some ((0 : Int32), s)
    else
      f_fold_17 n s
set_option maxRecDepth 65536 in
set_option maxHeartbeats 4000000 in
theorem ok23 (l : Launch) (Z : State) (a0 : Array Value) (hw : HW a0 Z) (n : Nat) (p1 : Int32) (p2 : Int32) (s : St) (r : Int32 × St) (h : f_fold n p1 p2 s = some r) : CS l Z CN lay y23 prog_1_method_4_code 5 (some FieldType.boolean) R23 0 [.ref 0, .int p1, .int p2] (Hb 0 s) (P23 r) := by
  refine CS.of_wp pn_cls (leb rfl) fun n0 => ?_
  show W23 l Z n0 (P23 r) 0 0 0 [.val (.ref 0), .val (.int p1), .val (.int p2), .unset, .unset] [] (Hb 0 s)
  unfold f_fold at h
  refine WP.iloadN d23_0 rfl ?_
  rcases ite_e h with ⟨hc1, h⟩ | ⟨hc1, h⟩
  ·
    refine WP.ifY (pc' := 17) d23_1 (XT.i0_lt_t hc1) (by decide) rfl ?_
    exact WP.weak (L' := [.unset, .unset, .unset, .unset, .unset]) trivial (ok23_17 l Z a0 hw n0 n s _ h)
  ·
    refine WP.ifN d23_1 (XT.i0_lt_f hc1) ?_
    refine WP.iloadN d23_4 rfl ?_
    refine WP.iloadN d23_5 rfl ?_
    rcases ite_e h with ⟨hc2, h⟩ | ⟨hc2, h⟩
    ·
      refine WP.icmpN d23_6 (XT.ii_ge_f hc2) ?_
      refine WP.iloadN d23_9 rfl ?_
      refine WP.aloadN d23_10 rfl ?_
      refine WP.getfield (i := 0) (j := 1) d23_11 (hw _ m_48) rfl rfl rfl ?_
      rcases ite_e h with ⟨hc3, h⟩ | ⟨hc3, h⟩
      ·
        refine WP.icmpN d23_14 (XT.ii_le_f hc3) ?_
        exact WP.weak (L' := [.unset, .unset, .unset, .unset, .unset]) trivial (ok23_17 l Z a0 hw n0 n s _ h)
      ·
        refine WP.icmpY (pc' := 19) d23_14 (XT.ii_le_t hc3) (by decide) rfl ?_
        refine WP.aloadN d23_19 rfl ?_
        refine WP.iloadN d23_20 rfl ?_
        refine WP.iloadN d23_21 rfl ?_
        obtain ⟨c4, hc4, h⟩ := Option.bind_eq_some_iff.mp h
        refine WP.callP (i := 0) (y := y26) (as := [.int p1, .int p2]) (S := []) d23_22 (hw _ m_159) (hw _ m_161) (hw _ m_1) (hw _ m_160) (hw _ m_162) (hw _ m_2) hy26 rfl (ok26 l Z a0 hw n p1 p2 s _ hc4) rfl (lenOf pd26 rfl) (leb rfl) (leb rfl) (leb rfl) (leb rfl) ?_
        rintro _ _ ⟨rfl, rfl⟩
        show W23 l Z n0 (P23 r) 0 0 25 [.val (.ref 0), .val (.int p1), .val (.int p2), .unset, .unset] [.int c4] (Hb 0 s)
        rcases ite_e h with ⟨hc5, h⟩ | ⟨hc5, h⟩
        ·
          refine WP.ifY (pc' := 30) d23_25 (XT.i0_eq_t hc5) (by decide) rfl ?_
          refine WP.aloadN d23_30 rfl ?_
          refine WP.getfield (i := 0) (j := 4) d23_31 (hw _ m_50) rfl rfl rfl ?_
          refine WP.bipush (8 : Int32) d23_34 rfl ?_
          rcases ite_e h with ⟨hc6, h⟩ | ⟨hc6, h⟩
          ·
            refine WP.icmpY (pc' := 41) d23_36 (XT.ii_lt_t hc6) (by decide) rfl ?_
            refine WP.iconst (0 : Int32) d23_41 rfl ?_
            refine WP.istoreN (L' := [.val (.ref 0), .val (.int p1), .val (.int p2), .val (.int (0 : Int32)), .unset]) d23_42 (leb rfl) rfl ?_
            refine WP.iconst (0 : Int32) d23_43 rfl ?_
            refine WP.istore (L' := [.val (.ref 0), .val (.int p1), .val (.int p2), .val (.int (0 : Int32)), .val (.int (0 : Int32))]) d23_44 (leb rfl) rfl ?_
            exact WP.weak (L' := [.val (.ref 0), .val (.int p1), .val (.int p2), .val (.int (0 : Int32)), .val (.int (0 : Int32))]) ⟨rfl, rfl, rfl, rfl, rfl, trivial⟩ (ok23_46 l Z a0 hw n0 n p1 p2 (0 : Int32) (0 : Int32) s _ h)
          ·
            refine WP.icmpN d23_36 (XT.ii_lt_f hc6) ?_
            refine WP.iconst (0 : Int32) d23_39 rfl ?_
            cases h
            exact WP.zreturn d23_40 rfl (leb rfl) (leb rfl) ⟨rfl, rfl⟩
        ·
          refine WP.ifN d23_25 (XT.i0_eq_f hc5) ?_
          refine WP.iconst (0 : Int32) d23_28 rfl ?_
          cases h
          exact WP.zreturn d23_29 rfl (leb rfl) (leb rfl) ⟨rfl, rfl⟩
    ·
      refine WP.icmpY (pc' := 17) d23_6 (XT.ii_ge_t hc2) (by decide) rfl ?_
      exact WP.weak (L' := [.unset, .unset, .unset, .unset, .unset]) trivial (ok23_17 l Z a0 hw n0 n s _ h)
theorem d24_0 : dc prog_1_method_5_code 0 (.iload_n 1) 1 := by decide +kernel
theorem d24_1 : dc prog_1_method_5_code 1 (.ifCond .lt 11) 3 := by decide +kernel
theorem d24_4 : dc prog_1_method_5_code 4 (.iload_n 1) 1 := by decide +kernel
theorem d24_5 : dc prog_1_method_5_code 5 (.aload_n 0) 1 := by decide +kernel
theorem d24_6 : dc prog_1_method_5_code 6 (.getfield 54) 3 := by decide +kernel
theorem d24_9 : dc prog_1_method_5_code 9 (.if_icmp .lt 5) 3 := by decide +kernel
theorem d24_12 : dc prog_1_method_5_code 12 (.iconst 0) 1 := by decide +kernel
theorem d24_13 : dc prog_1_method_5_code 13 (.ireturn) 1 := by decide +kernel
theorem d24_14 : dc prog_1_method_5_code 14 (.iconst (-1)) 1 := by decide +kernel
theorem d24_15 : dc prog_1_method_5_code 15 (.istore_n 2) 1 := by decide +kernel
theorem d24_16 : dc prog_1_method_5_code 16 (.iconst 0) 1 := by decide +kernel
theorem d24_17 : dc prog_1_method_5_code 17 (.istore_n 3) 1 := by decide +kernel
theorem d24_18 : dc prog_1_method_5_code 18 (.iload_n 3) 1 := by decide +kernel
theorem d24_19 : dc prog_1_method_5_code 19 (.aload_n 0) 1 := by decide +kernel
theorem d24_20 : dc prog_1_method_5_code 20 (.getfield 57) 3 := by decide +kernel
theorem d24_23 : dc prog_1_method_5_code 23 (.if_icmp .ge 31) 3 := by decide +kernel
theorem d24_26 : dc prog_1_method_5_code 26 (.aload_n 0) 1 := by decide +kernel
theorem d24_27 : dc prog_1_method_5_code 27 (.getfield 13) 3 := by decide +kernel
theorem d24_30 : dc prog_1_method_5_code 30 (.iload_n 3) 1 := by decide +kernel
theorem d24_31 : dc prog_1_method_5_code 31 (.iaload) 1 := by decide +kernel
theorem d24_32 : dc prog_1_method_5_code 32 (.iload_n 1) 1 := by decide +kernel
theorem d24_33 : dc prog_1_method_5_code 33 (.if_icmp .gt 15) 3 := by decide +kernel
theorem d24_36 : dc prog_1_method_5_code 36 (.iload_n 1) 1 := by decide +kernel
theorem d24_37 : dc prog_1_method_5_code 37 (.aload_n 0) 1 := by decide +kernel
theorem d24_38 : dc prog_1_method_5_code 38 (.getfield 16) 3 := by decide +kernel
theorem d24_41 : dc prog_1_method_5_code 41 (.iload_n 3) 1 := by decide +kernel
theorem d24_42 : dc prog_1_method_5_code 42 (.iaload) 1 := by decide +kernel
theorem d24_43 : dc prog_1_method_5_code 43 (.if_icmp .ge 5) 3 := by decide +kernel
theorem d24_46 : dc prog_1_method_5_code 46 (.iload_n 3) 1 := by decide +kernel
theorem d24_47 : dc prog_1_method_5_code 47 (.istore_n 2) 1 := by decide +kernel
theorem d24_48 : dc prog_1_method_5_code 48 (.iinc 3 1) 3 := by decide +kernel
theorem d24_51 : dc prog_1_method_5_code 51 (.goto (-33)) 3 := by decide +kernel
theorem d24_54 : dc prog_1_method_5_code 54 (.iload_n 2) 1 := by decide +kernel
theorem d24_55 : dc prog_1_method_5_code 55 (.ifCond .ge 5) 3 := by decide +kernel
theorem d24_58 : dc prog_1_method_5_code 58 (.iconst 0) 1 := by decide +kernel
theorem d24_59 : dc prog_1_method_5_code 59 (.ireturn) 1 := by decide +kernel
theorem d24_60 : dc prog_1_method_5_code 60 (.iload_n 2) 1 := by decide +kernel
theorem d24_61 : dc prog_1_method_5_code 61 (.istore_n 3) 1 := by decide +kernel
theorem d24_62 : dc prog_1_method_5_code 62 (.iload_n 3) 1 := by decide +kernel
theorem d24_63 : dc prog_1_method_5_code 63 (.aload_n 0) 1 := by decide +kernel
theorem d24_64 : dc prog_1_method_5_code 64 (.getfield 57) 3 := by decide +kernel
theorem d24_67 : dc prog_1_method_5_code 67 (.iconst 1) 1 := by decide +kernel
theorem d24_68 : dc prog_1_method_5_code 68 (.isub) 1 := by decide +kernel
theorem d24_69 : dc prog_1_method_5_code 69 (.if_icmp .ge 37) 3 := by decide +kernel
theorem d24_72 : dc prog_1_method_5_code 72 (.aload_n 0) 1 := by decide +kernel
theorem d24_73 : dc prog_1_method_5_code 73 (.getfield 13) 3 := by decide +kernel
theorem d24_76 : dc prog_1_method_5_code 76 (.iload_n 3) 1 := by decide +kernel
theorem d24_77 : dc prog_1_method_5_code 77 (.aload_n 0) 1 := by decide +kernel
theorem d24_78 : dc prog_1_method_5_code 78 (.getfield 13) 3 := by decide +kernel
theorem d24_81 : dc prog_1_method_5_code 81 (.iload_n 3) 1 := by decide +kernel
theorem d24_82 : dc prog_1_method_5_code 82 (.iconst 1) 1 := by decide +kernel
theorem d24_83 : dc prog_1_method_5_code 83 (.iadd) 1 := by decide +kernel
theorem d24_84 : dc prog_1_method_5_code 84 (.iaload) 1 := by decide +kernel
theorem d24_85 : dc prog_1_method_5_code 85 (.iastore) 1 := by decide +kernel
theorem d24_86 : dc prog_1_method_5_code 86 (.aload_n 0) 1 := by decide +kernel
theorem d24_87 : dc prog_1_method_5_code 87 (.getfield 16) 3 := by decide +kernel
theorem d24_90 : dc prog_1_method_5_code 90 (.iload_n 3) 1 := by decide +kernel
theorem d24_91 : dc prog_1_method_5_code 91 (.aload_n 0) 1 := by decide +kernel
theorem d24_92 : dc prog_1_method_5_code 92 (.getfield 16) 3 := by decide +kernel
theorem d24_95 : dc prog_1_method_5_code 95 (.iload_n 3) 1 := by decide +kernel
theorem d24_96 : dc prog_1_method_5_code 96 (.iconst 1) 1 := by decide +kernel
theorem d24_97 : dc prog_1_method_5_code 97 (.iadd) 1 := by decide +kernel
theorem d24_98 : dc prog_1_method_5_code 98 (.iaload) 1 := by decide +kernel
theorem d24_99 : dc prog_1_method_5_code 99 (.iastore) 1 := by decide +kernel
theorem d24_100 : dc prog_1_method_5_code 100 (.iinc 3 1) 3 := by decide +kernel
theorem d24_103 : dc prog_1_method_5_code 103 (.goto (-41)) 3 := by decide +kernel
theorem d24_106 : dc prog_1_method_5_code 106 (.aload_n 0) 1 := by decide +kernel
theorem d24_107 : dc prog_1_method_5_code 107 (.dup) 1 := by decide +kernel
theorem d24_108 : dc prog_1_method_5_code 108 (.getfield 57) 3 := by decide +kernel
theorem d24_111 : dc prog_1_method_5_code 111 (.iconst 1) 1 := by decide +kernel
theorem d24_112 : dc prog_1_method_5_code 112 (.isub) 1 := by decide +kernel
theorem d24_113 : dc prog_1_method_5_code 113 (.putfield 57) 3 := by decide +kernel
theorem d24_116 : dc prog_1_method_5_code 116 (.aload_n 0) 1 := by decide +kernel
theorem d24_117 : dc prog_1_method_5_code 117 (.iconst 1) 1 := by decide +kernel
theorem d24_118 : dc prog_1_method_5_code 118 (.putfield 60) 3 := by decide +kernel
theorem d24_121 : dc prog_1_method_5_code 121 (.iconst 1) 1 := by decide +kernel
theorem d24_122 : dc prog_1_method_5_code 122 (.ireturn) 1 := by decide +kernel
abbrev y24 : MethodName := ⟨"DisplayMap", "unfoldAt", "(I)Z"⟩
theorem hy24 : y24.cls ≠ "java/lang/invoke/MethodHandle" ∧ y24.cls ≠ "java/lang/invoke/VarHandle" := by decide
theorem pd24 : parseMethodDescriptor y24.desc = some ⟨[.int], some .boolean⟩ := by decide +kernel
abbrev R24 : Room := { frames := 0, cells := 0, slots := 0, locals := 0 }
abbrev P24 (r : Int32 × St) : Option Value → List OwnC → Prop := fun v H' => v = some (.int r.1) ∧ H' = (Hb 0 r.2)
abbrev W24 (l : Launch) (Z : State) (n0 : Nat) (Q : Option Value → List OwnC → Prop) (k n pc : Nat) (L : List Slot) (S : List Value) (H : List OwnC) : Prop := WP l Z CN lay "DisplayMap" "unfoldAt" prog_1_method_5_code 4 (some FieldType.boolean) R24 n0 0 Q k n pc L S H
def f_unfoldAt_12 (n : Nat) (s : St) : Option (Int32 × St) :=
  some ((0 : Int32), s)
set_option maxRecDepth 65536 in
set_option maxHeartbeats 4000000 in
theorem ok24_12 (l : Launch) (Z : State) (a0 : Array Value) (hw : HW a0 Z) (n0 : Nat) (n : Nat) (s : St) (r : Int32 × St) (h : f_unfoldAt_12 n s = some r) : W24 l Z n0 (P24 r) 0 0 12 [.unset, .unset, .unset, .unset] [] (Hb 0 s) := by
  unfold f_unfoldAt_12 at h
  refine WP.iconst (0 : Int32) d24_12 rfl ?_
  cases h
  exact WP.zreturn d24_13 rfl (leb rfl) (leb rfl) ⟨rfl, rfl⟩
def f_unfoldAt_48 (k18 : Int32 → Int32 → Int32 → St → Option (Int32 × St)) (n : Nat) (v1 : Int32) (v2 : Int32) (v3 : Int32) (s : St) : Option (Int32 × St) :=
  lt (v3 + (1 : Int32)) fun x1 =>
  k18 v1 v2 x1 s
set_option maxRecDepth 65536 in
set_option maxHeartbeats 4000000 in
theorem ok24_48 (l : Launch) (Z : State) (a0 : Array Value) (hw : HW a0 Z) (n0 : Nat) (k18 : Int32 → Int32 → Int32 → St → Option (Int32 × St)) (hk18 : ∀ (v1 : Int32) (v2 : Int32) (v3 : Int32) (s : St) (r : Int32 × St), k18 v1 v2 v3 s = some r → W24 l Z n0 (P24 r) 0 0 18 [.val (.ref 0), .val (.int v1), .val (.int v2), .val (.int v3)] [] (Hb 0 s)) (n : Nat) (v1 : Int32) (v2 : Int32) (v3 : Int32) (s : St) (r : Int32 × St) (h : f_unfoldAt_48 k18 n v1 v2 v3 s = some r) : W24 l Z n0 (P24 r) 0 0 48 [.val (.ref 0), .val (.int v1), .val (.int v2), .val (.int v3)] [] (Hb 0 s) := by
  unfold f_unfoldAt_48 at h
  obtain ⟨x1, ex1, h⟩ := lt_e h
  refine WP.iinc (L' := [.val (.ref 0), .val (.int v1), .val (.int v2), .val (.int x1)]) (1 : Int32) d24_48 rfl rfl (by subst ex1; rfl) ?_
  refine WP.goto (pc' := 18) d24_51 (by decide) rfl ?_
  exact WP.weak (L' := [.val (.ref 0), .val (.int v1), .val (.int v2), .val (.int x1)]) ⟨rfl, rfl, rfl, rfl, trivial⟩ (hk18 v1 v2 x1 s _ h)
def g_unfoldAt_62 (k62 : Int32 → St → Option (Int32 × St)) (n : Nat) (v3 : Int32) (s : St) : Option (Int32 × St) :=
  if v3 < ((gI s 1) - (1 : Int32)) then
    (rd (gA s 1) (v3 + (1 : Int32))).bind fun x2 =>
    (wrA s 1 v3 x2).bind fun s3 =>
    (rd (gA s3 2) (v3 + (1 : Int32))).bind fun x4 =>
    (wrA s3 2 v3 x4).bind fun s5 =>
    lt (v3 + (1 : Int32)) fun x6 =>
    k62 x6 s5
  else
    lt (sI s 1 ((gI s 1) - (1 : Int32))) fun s7 =>
    lt (sI s7 4 (1 : Int32)) fun s8 =>
    some ((1 : Int32), s8)
set_option maxRecDepth 65536 in
set_option maxHeartbeats 4000000 in
theorem okg24_62 (l : Launch) (Z : State) (a0 : Array Value) (hw : HW a0 Z) (n0 : Nat) (k62 : Int32 → St → Option (Int32 × St)) (hk62 : ∀ (v3 : Int32) (s : St) (r : Int32 × St), k62 v3 s = some r → W24 l Z n0 (P24 r) 0 0 62 [.val (.ref 0), .unset, .unset, .val (.int v3)] [] (Hb 0 s)) (n : Nat) (v3 : Int32) (s : St) (r : Int32 × St) (h : g_unfoldAt_62 k62 n v3 s = some r) : W24 l Z n0 (P24 r) 0 0 62 [.val (.ref 0), .unset, .unset, .val (.int v3)] [] (Hb 0 s) := by
  unfold g_unfoldAt_62 at h
  refine WP.iloadN d24_62 rfl ?_
  refine WP.aloadN d24_63 rfl ?_
  refine WP.getfield (i := 0) (j := 4) d24_64 (hw _ m_50) rfl rfl rfl ?_
  refine WP.iconst (1 : Int32) d24_67 rfl ?_
  refine WP.isub d24_68 ?_
  rcases ite_e h with ⟨hc1, h⟩ | ⟨hc1, h⟩
  ·
    refine WP.icmpN d24_69 (XT.ii_ge_f hc1) ?_
    refine WP.aloadN d24_72 rfl ?_
    refine WP.getfield (i := 0) (j := 2) d24_73 (hw _ m_20) rfl rfl rfl ?_
    refine WP.iloadN d24_76 rfl ?_
    refine WP.aloadN d24_77 rfl ?_
    refine WP.getfield (i := 0) (j := 2) d24_78 (hw _ m_20) rfl rfl rfl ?_
    refine WP.iloadN d24_81 rfl ?_
    refine WP.iconst (1 : Int32) d24_82 rfl ?_
    refine WP.iadd d24_83 ?_
    obtain ⟨x2, hx2, h⟩ := Option.bind_eq_some_iff.mp h
    refine WP.iaload (i := 2) d24_84 rfl hx2 ?_
    obtain ⟨s3, hs3, h⟩ := Option.bind_eq_some_iff.mp h
    obtain ⟨ys3, gs3, es3⟩ := wrA_e hs3
    refine WP.iastore (i := 2) (xs := gA s 1) (H' := (Hb 0 s3)) d24_85 rfl (leb rfl) gs3 (by subst es3; rfl) ?_
    refine WP.aloadN d24_86 rfl ?_
    refine WP.getfield (i := 0) (j := 3) d24_87 (hw _ m_22) rfl rfl rfl ?_
    refine WP.iloadN d24_90 rfl ?_
    refine WP.aloadN d24_91 rfl ?_
    refine WP.getfield (i := 0) (j := 3) d24_92 (hw _ m_22) rfl rfl rfl ?_
    refine WP.iloadN d24_95 rfl ?_
    refine WP.iconst (1 : Int32) d24_96 rfl ?_
    refine WP.iadd d24_97 ?_
    obtain ⟨x4, hx4, h⟩ := Option.bind_eq_some_iff.mp h
    refine WP.iaload (i := 3) d24_98 rfl hx4 ?_
    obtain ⟨s5, hs5, h⟩ := Option.bind_eq_some_iff.mp h
    obtain ⟨ys5, gs5, es5⟩ := wrA_e hs5
    refine WP.iastore (i := 3) (xs := gA s3 2) (H' := (Hb 0 s5)) d24_99 rfl (leb rfl) gs5 (by subst es5; rfl) ?_
    obtain ⟨x6, ex6, h⟩ := lt_e h
    refine WP.iinc (L' := [.val (.ref 0), .unset, .unset, .val (.int x6)]) (1 : Int32) d24_100 rfl rfl (by subst ex6; rfl) ?_
    refine WP.goto (pc' := 62) d24_103 (by decide) rfl ?_
    exact WP.weak (L' := [.val (.ref 0), .unset, .unset, .val (.int x6)]) ⟨rfl, rfl, trivial⟩ (hk62 x6 s5 _ h)
  ·
    refine WP.icmpY (pc' := 106) d24_69 (XT.ii_ge_t hc1) (by decide) rfl ?_
    refine WP.aloadN d24_106 rfl ?_
    refine WP.dup d24_107 rfl ?_
    refine WP.getfield (i := 0) (j := 4) d24_108 (hw _ m_50) rfl rfl rfl ?_
    refine WP.iconst (1 : Int32) d24_111 rfl ?_
    refine WP.isub d24_112 ?_
    obtain ⟨s7, es7, h⟩ := lt_e h
    refine WP.putI (i := 0) (j := 4) (H' := (Hb 0 s7)) d24_113 (hw _ m_50) (Or.inl (hw _ m_51)) (hw _ m_1) (hlay hw) rfl rfl rfl (leb rfl) (by subst es7; rfl) ?_
    refine WP.aloadN d24_116 rfl ?_
    refine WP.iconst (1 : Int32) d24_117 rfl ?_
    obtain ⟨s8, es8, h⟩ := lt_e h
    refine WP.putZ (i := 0) (j := 7) (H' := (Hb 0 s8)) d24_118 (hw _ m_52) (Or.inl (hw _ m_53)) (hw _ m_1) (hlay hw) rfl rfl rfl (leb rfl) (by subst es8; rfl) ?_
    refine WP.iconst (1 : Int32) d24_121 rfl ?_
    cases h
    exact WP.zreturn d24_122 rfl (leb rfl) (leb rfl) ⟨rfl, rfl⟩
def f_unfoldAt_62 : Nat → Int32 → St → Option (Int32 × St)
  | 0 => fun _ _ => none
  | n + 1 => g_unfoldAt_62 (f_unfoldAt_62 n) n
theorem ok24_62 (l : Launch) (Z : State) (a0 : Array Value) (hw : HW a0 Z) (n0 : Nat) : ∀ (n : Nat) (v3 : Int32) (s : St) (r : Int32 × St), f_unfoldAt_62 n v3 s = some r → W24 l Z n0 (P24 r) 0 0 62 [.val (.ref 0), .unset, .unset, .val (.int v3)] [] (Hb 0 s)
  | 0, v3, s, r, h => nomatch (show none = some r from h)
  | n + 1, v3, s, r, h => okg24_62 l Z a0 hw n0 _ (ok24_62 l Z a0 hw n0 n) n v3 s r h
def g_unfoldAt_18 (k18 : Int32 → Int32 → Int32 → St → Option (Int32 × St)) (n : Nat) (v1 : Int32) (v2 : Int32) (v3 : Int32) (s : St) : Option (Int32 × St) :=
  if v3 < (gI s 1) then
    (rd (gA s 1) v3).bind fun x2 =>
    if v1 < x2 then
      f_unfoldAt_48 k18 n v1 v2 v3 s
    else
      (rd (gA s 2) v3).bind fun x4 =>
      if v1 < x4 then
        f_unfoldAt_48 k18 n v1 v3 v3 s
      else
        f_unfoldAt_48 k18 n v1 v2 v3 s
  else
    if v2 < 0 then
      some ((0 : Int32), s)
    else
      f_unfoldAt_62 n v2 s
set_option maxRecDepth 65536 in
set_option maxHeartbeats 4000000 in
theorem okg24_18 (l : Launch) (Z : State) (a0 : Array Value) (hw : HW a0 Z) (n0 : Nat) (k18 : Int32 → Int32 → Int32 → St → Option (Int32 × St)) (hk18 : ∀ (v1 : Int32) (v2 : Int32) (v3 : Int32) (s : St) (r : Int32 × St), k18 v1 v2 v3 s = some r → W24 l Z n0 (P24 r) 0 0 18 [.val (.ref 0), .val (.int v1), .val (.int v2), .val (.int v3)] [] (Hb 0 s)) (n : Nat) (v1 : Int32) (v2 : Int32) (v3 : Int32) (s : St) (r : Int32 × St) (h : g_unfoldAt_18 k18 n v1 v2 v3 s = some r) : W24 l Z n0 (P24 r) 0 0 18 [.val (.ref 0), .val (.int v1), .val (.int v2), .val (.int v3)] [] (Hb 0 s) := by
  unfold g_unfoldAt_18 at h
  refine WP.iloadN d24_18 rfl ?_
  refine WP.aloadN d24_19 rfl ?_
  refine WP.getfield (i := 0) (j := 4) d24_20 (hw _ m_50) rfl rfl rfl ?_
  rcases ite_e h with ⟨hc1, h⟩ | ⟨hc1, h⟩
  ·
    refine WP.icmpN d24_23 (XT.ii_ge_f hc1) ?_
    refine WP.aloadN d24_26 rfl ?_
    refine WP.getfield (i := 0) (j := 2) d24_27 (hw _ m_20) rfl rfl rfl ?_
    refine WP.iloadN d24_30 rfl ?_
    obtain ⟨x2, hx2, h⟩ := Option.bind_eq_some_iff.mp h
    refine WP.iaload (i := 2) d24_31 rfl hx2 ?_
    refine WP.iloadN d24_32 rfl ?_
    rcases ite_e h with ⟨hc3, h⟩ | ⟨hc3, h⟩
    ·
      refine WP.icmpY (pc' := 48) d24_33 (XT.ii_gt_t hc3) (by decide) rfl ?_
      exact WP.weak (L' := [.val (.ref 0), .val (.int v1), .val (.int v2), .val (.int v3)]) ⟨rfl, rfl, rfl, rfl, trivial⟩ (ok24_48 l Z a0 hw n0 _ hk18 n v1 v2 v3 s _ h)
    ·
      refine WP.icmpN d24_33 (XT.ii_gt_f hc3) ?_
      refine WP.iloadN d24_36 rfl ?_
      refine WP.aloadN d24_37 rfl ?_
      refine WP.getfield (i := 0) (j := 3) d24_38 (hw _ m_22) rfl rfl rfl ?_
      refine WP.iloadN d24_41 rfl ?_
      obtain ⟨x4, hx4, h⟩ := Option.bind_eq_some_iff.mp h
      refine WP.iaload (i := 3) d24_42 rfl hx4 ?_
      rcases ite_e h with ⟨hc5, h⟩ | ⟨hc5, h⟩
      ·
        refine WP.icmpN d24_43 (XT.ii_ge_f hc5) ?_
        refine WP.iloadN d24_46 rfl ?_
        refine WP.istoreN (L' := [.val (.ref 0), .val (.int v1), .val (.int v3), .val (.int v3)]) d24_47 (leb rfl) rfl ?_
        exact WP.weak (L' := [.val (.ref 0), .val (.int v1), .val (.int v3), .val (.int v3)]) ⟨rfl, rfl, rfl, rfl, trivial⟩ (ok24_48 l Z a0 hw n0 _ hk18 n v1 v3 v3 s _ h)
      ·
        refine WP.icmpY (pc' := 48) d24_43 (XT.ii_ge_t hc5) (by decide) rfl ?_
        exact WP.weak (L' := [.val (.ref 0), .val (.int v1), .val (.int v2), .val (.int v3)]) ⟨rfl, rfl, rfl, rfl, trivial⟩ (ok24_48 l Z a0 hw n0 _ hk18 n v1 v2 v3 s _ h)
  ·
    refine WP.icmpY (pc' := 54) d24_23 (XT.ii_ge_t hc1) (by decide) rfl ?_
    refine WP.iloadN d24_54 rfl ?_
    rcases ite_e h with ⟨hc6, h⟩ | ⟨hc6, h⟩
    ·
      refine WP.ifN d24_55 (XT.i0_ge_f hc6) ?_
      refine WP.iconst (0 : Int32) d24_58 rfl ?_
      cases h
      exact WP.zreturn d24_59 rfl (leb rfl) (leb rfl) ⟨rfl, rfl⟩
    ·
      refine WP.ifY (pc' := 60) d24_55 (XT.i0_ge_t hc6) (by decide) rfl ?_
      refine WP.iloadN d24_60 rfl ?_
      refine WP.istoreN (L' := [.val (.ref 0), .val (.int v1), .val (.int v2), .val (.int v2)]) d24_61 (leb rfl) rfl ?_
      exact WP.weak (L' := [.val (.ref 0), .unset, .unset, .val (.int v2)]) ⟨rfl, rfl, trivial⟩ (ok24_62 l Z a0 hw n0 n v2 s _ h)
def f_unfoldAt_18 : Nat → Int32 → Int32 → Int32 → St → Option (Int32 × St)
  | 0 => fun _ _ _ _ => none
  | n + 1 => g_unfoldAt_18 (f_unfoldAt_18 n) n
theorem ok24_18 (l : Launch) (Z : State) (a0 : Array Value) (hw : HW a0 Z) (n0 : Nat) : ∀ (n : Nat) (v1 : Int32) (v2 : Int32) (v3 : Int32) (s : St) (r : Int32 × St), f_unfoldAt_18 n v1 v2 v3 s = some r → W24 l Z n0 (P24 r) 0 0 18 [.val (.ref 0), .val (.int v1), .val (.int v2), .val (.int v3)] [] (Hb 0 s)
  | 0, v1, v2, v3, s, r, h => nomatch (show none = some r from h)
  | n + 1, v1, v2, v3, s, r, h => okg24_18 l Z a0 hw n0 _ (ok24_18 l Z a0 hw n0 n) n v1 v2 v3 s r h
def f_unfoldAt (n : Nat) (p1 : Int32) (s : St) : Option (Int32 × St) :=
  if p1 < 0 then
    f_unfoldAt_12 n s
  else
    if p1 < (gI s 0) then
      f_unfoldAt_18 n p1 (-1 : Int32) (0 : Int32) s
    else
      f_unfoldAt_12 n s
set_option maxRecDepth 65536 in
set_option maxHeartbeats 4000000 in
theorem ok24 (l : Launch) (Z : State) (a0 : Array Value) (hw : HW a0 Z) (n : Nat) (p1 : Int32) (s : St) (r : Int32 × St) (h : f_unfoldAt n p1 s = some r) : CS l Z CN lay y24 prog_1_method_5_code 4 (some FieldType.boolean) R24 0 [.ref 0, .int p1] (Hb 0 s) (P24 r) := by
  refine CS.of_wp pn_cls (leb rfl) fun n0 => ?_
  show W24 l Z n0 (P24 r) 0 0 0 [.val (.ref 0), .val (.int p1), .unset, .unset] [] (Hb 0 s)
  unfold f_unfoldAt at h
  refine WP.iloadN d24_0 rfl ?_
  rcases ite_e h with ⟨hc1, h⟩ | ⟨hc1, h⟩
  ·
    refine WP.ifY (pc' := 12) d24_1 (XT.i0_lt_t hc1) (by decide) rfl ?_
    exact WP.weak (L' := [.unset, .unset, .unset, .unset]) trivial (ok24_12 l Z a0 hw n0 n s _ h)
  ·
    refine WP.ifN d24_1 (XT.i0_lt_f hc1) ?_
    refine WP.iloadN d24_4 rfl ?_
    refine WP.aloadN d24_5 rfl ?_
    refine WP.getfield (i := 0) (j := 1) d24_6 (hw _ m_48) rfl rfl rfl ?_
    rcases ite_e h with ⟨hc2, h⟩ | ⟨hc2, h⟩
    ·
      refine WP.icmpY (pc' := 14) d24_9 (XT.ii_lt_t hc2) (by decide) rfl ?_
      refine WP.iconst (-1 : Int32) d24_14 rfl ?_
      refine WP.istoreN (L' := [.val (.ref 0), .val (.int p1), .val (.int (-1 : Int32)), .unset]) d24_15 (leb rfl) rfl ?_
      refine WP.iconst (0 : Int32) d24_16 rfl ?_
      refine WP.istoreN (L' := [.val (.ref 0), .val (.int p1), .val (.int (-1 : Int32)), .val (.int (0 : Int32))]) d24_17 (leb rfl) rfl ?_
      exact WP.weak (L' := [.val (.ref 0), .val (.int p1), .val (.int (-1 : Int32)), .val (.int (0 : Int32))]) ⟨rfl, rfl, rfl, rfl, trivial⟩ (ok24_18 l Z a0 hw n0 n p1 (-1 : Int32) (0 : Int32) s _ h)
    ·
      refine WP.icmpN d24_9 (XT.ii_lt_f hc2) ?_
      exact WP.weak (L' := [.unset, .unset, .unset, .unset]) trivial (ok24_12 l Z a0 hw n0 n s _ h)
theorem d25_0 : dc prog_1_method_6_code 0 (.aload_n 0) 1 := by decide +kernel
theorem d25_1 : dc prog_1_method_6_code 1 (.iload_n 1) 1 := by decide +kernel
theorem d25_2 : dc prog_1_method_6_code 2 (.invokestatic 48) 3 := by decide +kernel
theorem d25_5 : dc prog_1_method_6_code 5 (.putfield 51) 3 := by decide +kernel
theorem d25_8 : dc prog_1_method_6_code 8 (.aload_n 0) 1 := by decide +kernel
theorem d25_9 : dc prog_1_method_6_code 9 (.iconst 1) 1 := by decide +kernel
theorem d25_10 : dc prog_1_method_6_code 10 (.putfield 60) 3 := by decide +kernel
theorem d25_13 : dc prog_1_method_6_code 13 (.return_) 1 := by decide +kernel
abbrev y25 : MethodName := ⟨"DisplayMap", "setWrapWidth", "(I)V"⟩
theorem hy25 : y25.cls ≠ "java/lang/invoke/MethodHandle" ∧ y25.cls ≠ "java/lang/invoke/VarHandle" := by decide
theorem pd25 : parseMethodDescriptor y25.desc = some ⟨[.int], none⟩ := by decide +kernel
abbrev R25 : Room := { frames := 1, cells := 0, slots := 0, locals := 13 }
abbrev P25 (r : St) : Option Value → List OwnC → Prop := fun v H' => v = none ∧ H' = (Hb 0 r)
abbrev W25 (l : Launch) (Z : State) (n0 : Nat) (Q : Option Value → List OwnC → Prop) (k n pc : Nat) (L : List Slot) (S : List Value) (H : List OwnC) : Prop := WP l Z CN lay "DisplayMap" "setWrapWidth" prog_1_method_6_code 2 (none) R25 n0 0 Q k n pc L S H
def f_setWrapWidth (p1 : Int32) (s : St) : Option (St) :=
  (f_clampWrap p1).bind fun c1 =>
  lt (sI s 3 c1) fun s2 =>
  lt (sI s2 4 (1 : Int32)) fun s3 =>
  some s3
set_option maxRecDepth 65536 in
set_option maxHeartbeats 4000000 in
theorem ok25 (l : Launch) (Z : State) (a0 : Array Value) (hw : HW a0 Z) (p1 : Int32) (s : St) (r : St) (h : f_setWrapWidth p1 s = some r) : CS l Z CN lay y25 prog_1_method_6_code 2 (none) R25 0 [.ref 0, .int p1] (Hb 0 s) (P25 r) := by
  refine CS.of_wp pn_cls (leb rfl) fun n0 => ?_
  show W25 l Z n0 (P25 r) 0 0 0 [.val (.ref 0), .val (.int p1)] [] (Hb 0 s)
  unfold f_setWrapWidth at h
  refine WP.aloadN d25_0 rfl ?_
  refine WP.iloadN d25_1 rfl ?_
  obtain ⟨c1, hc1, h⟩ := Option.bind_eq_some_iff.mp h
  refine WP.callS (y := y4) (as := [.int p1]) (S := [.ref 0]) d25_2 (hw _ m_43) (hw _ m_44) (hw _ m_2) (hw _ m_45) hy4 (CS.frame (ro := 0) (H := (Hb 0 s)) (as := [.int p1]) fr0_f (ok4 l Z a0 hw p1 _ hc1) rfl (by decide) (fr0_l s) (fr0_c s) (by decide) rfl) rfl (lenOf pd4 rfl) (leb rfl) (leb rfl) (leb rfl) (leb rfl) ?_
  rintro _ _ ⟨_, _, ⟨rfl, rfl⟩, rfl, rfl⟩
  rw [fr0_p s]
  show W25 l Z n0 (P25 r) 0 0 5 [.val (.ref 0), .val (.int p1)] [.int c1, .ref 0] (Hb 0 s)
  obtain ⟨s2, es2, h⟩ := lt_e h
  refine WP.putI (i := 0) (j := 6) (H' := (Hb 0 s2)) d25_5 (hw _ m_46) (Or.inl (hw _ m_47)) (hw _ m_1) (hlay hw) rfl rfl rfl (leb rfl) (by subst es2; rfl) ?_
  refine WP.aloadN d25_8 rfl ?_
  refine WP.iconst (1 : Int32) d25_9 rfl ?_
  obtain ⟨s3, es3, h⟩ := lt_e h
  refine WP.putZ (i := 0) (j := 7) (H' := (Hb 0 s3)) d25_10 (hw _ m_52) (Or.inl (hw _ m_53)) (hw _ m_1) (hlay hw) rfl rfl rfl (leb rfl) (by subst es3; rfl) ?_
  cases h
  exact WP.vreturn d25_13 rfl (leb rfl) (leb rfl) ⟨rfl, rfl⟩
theorem d30_0 : dc prog_1_method_7_code 0 (.aload_n 0) 1 := by decide +kernel
theorem d30_1 : dc prog_1_method_7_code 1 (.iload_n 1) 1 := by decide +kernel
theorem d30_2 : dc prog_1_method_7_code 2 (.invokestatic 40) 3 := by decide +kernel
theorem d30_5 : dc prog_1_method_7_code 5 (.putfield 44) 3 := by decide +kernel
theorem d30_8 : dc prog_1_method_7_code 8 (.aload_n 0) 1 := by decide +kernel
theorem d30_9 : dc prog_1_method_7_code 9 (.iconst 1) 1 := by decide +kernel
theorem d30_10 : dc prog_1_method_7_code 10 (.putfield 60) 3 := by decide +kernel
theorem d30_13 : dc prog_1_method_7_code 13 (.return_) 1 := by decide +kernel
abbrev y30 : MethodName := ⟨"DisplayMap", "setTabSize", "(I)V"⟩
theorem hy30 : y30.cls ≠ "java/lang/invoke/MethodHandle" ∧ y30.cls ≠ "java/lang/invoke/VarHandle" := by decide
theorem pd30 : parseMethodDescriptor y30.desc = some ⟨[.int], none⟩ := by decide +kernel
abbrev R30 : Room := { frames := 1, cells := 0, slots := 0, locals := 13 }
abbrev P30 (r : St) : Option Value → List OwnC → Prop := fun v H' => v = none ∧ H' = (Hb 0 r)
abbrev W30 (l : Launch) (Z : State) (n0 : Nat) (Q : Option Value → List OwnC → Prop) (k n pc : Nat) (L : List Slot) (S : List Value) (H : List OwnC) : Prop := WP l Z CN lay "DisplayMap" "setTabSize" prog_1_method_7_code 2 (none) R30 n0 0 Q k n pc L S H
def f_setTabSize (p1 : Int32) (s : St) : Option (St) :=
  (f_clampTab p1).bind fun c1 =>
  lt (sI s 2 c1) fun s2 =>
  lt (sI s2 4 (1 : Int32)) fun s3 =>
  some s3
set_option maxRecDepth 65536 in
set_option maxHeartbeats 4000000 in
theorem ok30 (l : Launch) (Z : State) (a0 : Array Value) (hw : HW a0 Z) (p1 : Int32) (s : St) (r : St) (h : f_setTabSize p1 s = some r) : CS l Z CN lay y30 prog_1_method_7_code 2 (none) R30 0 [.ref 0, .int p1] (Hb 0 s) (P30 r) := by
  refine CS.of_wp pn_cls (leb rfl) fun n0 => ?_
  show W30 l Z n0 (P30 r) 0 0 0 [.val (.ref 0), .val (.int p1)] [] (Hb 0 s)
  unfold f_setTabSize at h
  refine WP.aloadN d30_0 rfl ?_
  refine WP.iloadN d30_1 rfl ?_
  obtain ⟨c1, hc1, h⟩ := Option.bind_eq_some_iff.mp h
  refine WP.callS (y := y3) (as := [.int p1]) (S := [.ref 0]) d30_2 (hw _ m_38) (hw _ m_39) (hw _ m_2) (hw _ m_40) hy3 (CS.frame (ro := 0) (H := (Hb 0 s)) (as := [.int p1]) fr0_f (ok3 l Z a0 hw p1 _ hc1) rfl (by decide) (fr0_l s) (fr0_c s) (by decide) rfl) rfl (lenOf pd3 rfl) (leb rfl) (leb rfl) (leb rfl) (leb rfl) ?_
  rintro _ _ ⟨_, _, ⟨rfl, rfl⟩, rfl, rfl⟩
  rw [fr0_p s]
  show W30 l Z n0 (P30 r) 0 0 5 [.val (.ref 0), .val (.int p1)] [.int c1, .ref 0] (Hb 0 s)
  obtain ⟨s2, es2, h⟩ := lt_e h
  refine WP.putI (i := 0) (j := 5) (H' := (Hb 0 s2)) d30_5 (hw _ m_41) (Or.inl (hw _ m_42)) (hw _ m_1) (hlay hw) rfl rfl rfl (leb rfl) (by subst es2; rfl) ?_
  refine WP.aloadN d30_8 rfl ?_
  refine WP.iconst (1 : Int32) d30_9 rfl ?_
  obtain ⟨s3, es3, h⟩ := lt_e h
  refine WP.putZ (i := 0) (j := 7) (H' := (Hb 0 s3)) d30_10 (hw _ m_52) (Or.inl (hw _ m_53)) (hw _ m_1) (hlay hw) rfl rfl rfl (leb rfl) (by subst es3; rfl) ?_
  cases h
  exact WP.vreturn d30_13 rfl (leb rfl) (leb rfl) ⟨rfl, rfl⟩
def fr1_f : List Nat := [0]
theorem fr1_c (x0 : List Int32) (x1 : St) : fr1_f.map (fun i => ([cI x0] ++ Hb 1 x1)[i]?) = ([cI x0]).map (fun c => some (rnC (ro1 fr1_f ([cI x0] ++ Hb 1 x1).length) c)) := rfl
theorem fr1_l (x0 : List Int32) (x1 : St) : ∀ x ∈ fr1_f, x < ([cI x0] ++ Hb 1 x1).length := by show ∀ x ∈ fr1_f, x < 12; decide
theorem fr1_p (x0 : List Int32) (x1 : St) : patch (ro1 fr1_f ([cI x0] ++ Hb 1 x1).length) fr1_f ([cI x0]) ([cI x0] ++ Hb 1 x1) = ([cI x0] ++ Hb 1 x1) := by
  have h := patch_seg (ro1 fr1_f ([cI x0] ++ Hb 1 x1).length) ([cI x0]) ([cI x0]) ([] : List OwnC) (Hb 1 x1) rfl
  rw [show List.range' ([] : List OwnC).length ([cI x0]).length = fr1_f from rfl, show ([cI x0]).map (rnC (ro1 fr1_f ([cI x0] ++ Hb 1 x1).length)) = ([cI x0]) from rfl] at h
  simpa only [List.append_assoc, List.append_nil, List.nil_append] using h
def fr2_f : List Nat := []
theorem fr2_c (x0 : List Int32) (x1 : St) : fr2_f.map (fun i => ([cI x0] ++ Hb 1 x1)[i]?) = ([] : List OwnC).map (fun c => some (rnC (ro1 fr2_f ([cI x0] ++ Hb 1 x1).length) c)) := rfl
theorem fr2_l (x0 : List Int32) (x1 : St) : ∀ x ∈ fr2_f, x < ([cI x0] ++ Hb 1 x1).length := by show ∀ x ∈ fr2_f, x < 12; decide
theorem fr2_p (x0 : List Int32) (x1 : St) : patch (ro1 fr2_f ([cI x0] ++ Hb 1 x1).length) fr2_f ([] : List OwnC) ([cI x0] ++ Hb 1 x1) = ([cI x0] ++ Hb 1 x1) := rfl
def fr3_f : List Nat := [1, 2, 3, 4, 5, 6, 7, 8, 9, 10, 11]
theorem fr3_c (x0 : List Int32) (x1 : St) : fr3_f.map (fun i => ([cI x0] ++ Hb 1 x1)[i]?) = (Hb 0 x1).map (fun c => some (rnC (ro1 fr3_f ([cI x0] ++ Hb 1 x1).length) c)) := rfl
theorem fr3_l (x0 : List Int32) (x1 : St) : ∀ x ∈ fr3_f, x < ([cI x0] ++ Hb 1 x1).length := by show ∀ x ∈ fr3_f, x < 12; decide
theorem fr3_p (x0 : List Int32) (x1 : St) (y1 : St) : patch (ro1 fr3_f ([cI x0] ++ Hb 1 x1).length) fr3_f (Hb 0 y1) ([cI x0] ++ Hb 1 x1) = ([cI x0] ++ Hb 1 y1) := by
  have h := patch_seg (ro1 fr3_f ([cI x0] ++ Hb 1 x1).length) (Hb 0 y1) (Hb 1 x1) ([cI x0]) ([] : List OwnC) rfl
  rw [show List.range' ([cI x0]).length (Hb 0 y1).length = fr3_f from rfl, show (Hb 0 y1).map (rnC (ro1 fr3_f ([cI x0] ++ Hb 1 x1).length)) = (Hb 1 y1) from rfl] at h
  simpa only [List.append_assoc, List.append_nil, List.nil_append] using h
def fr4_f : List Nat := [0]
theorem fr4_c (x0 : List Int32) : fr4_f.map (fun i => ([cI x0] ++ [cO vs0])[i]?) = ([cI x0]).map (fun c => some (rnC (ro1 fr4_f ([cI x0] ++ [cO vs0]).length) c)) := rfl
theorem fr4_l (x0 : List Int32) : ∀ x ∈ fr4_f, x < ([cI x0] ++ [cO vs0]).length := by show ∀ x ∈ fr4_f, x < 2; decide
theorem fr4_p (x0 : List Int32) : patch (ro1 fr4_f ([cI x0] ++ [cO vs0]).length) fr4_f ([cI x0]) ([cI x0] ++ [cO vs0]) = ([cI x0] ++ [cO vs0]) := rfl
def fr5_f : List Nat := []
theorem fr5_c (x0 : List Int32) : fr5_f.map (fun i => ([cI x0] ++ [cO vs0])[i]?) = ([] : List OwnC).map (fun c => some (rnC (ro1 fr5_f ([cI x0] ++ [cO vs0]).length) c)) := rfl
theorem fr5_l (x0 : List Int32) : ∀ x ∈ fr5_f, x < ([cI x0] ++ [cO vs0]).length := by show ∀ x ∈ fr5_f, x < 2; decide
theorem fr5_p (x0 : List Int32) : patch (ro1 fr5_f ([cI x0] ++ [cO vs0]).length) fr5_f ([] : List OwnC) ([cI x0] ++ [cO vs0]) = ([cI x0] ++ [cO vs0]) := rfl
def fr6_f : List Nat := [1]
theorem fr6_c (x0 : List Int32) : fr6_f.map (fun i => ([cI x0] ++ [cO vs0])[i]?) = ([cO vs0]).map (fun c => some (rnC (ro1 fr6_f ([cI x0] ++ [cO vs0]).length) c)) := rfl
theorem fr6_l (x0 : List Int32) : ∀ x ∈ fr6_f, x < ([cI x0] ++ [cO vs0]).length := by show ∀ x ∈ fr6_f, x < 2; decide
theorem fr6_p (x0 : List Int32) (y1 : St) : patch (ro1 fr6_f ([cI x0] ++ [cO vs0]).length) fr6_f (Hb 0 y1) ([cI x0] ++ [cO vs0]) = ([cI x0] ++ Hb 1 y1) := rfl
abbrev PLAW (r : Int32) : Option Value → List OwnC → Prop := fun v _ => v = some (.int r)
abbrev WLAW (l : Launch) (Z : State) (n0 : Nat) (Q : Option Value → List OwnC → Prop) (k n pc : Nat) (L : List Slot) (S : List Value) (H : List OwnC) : Prop := WP l Z CN lay "DisplayMapOwnLaw" "law" code maxLocals ret room_1 n0 1 Q k n pc L S H
def f_law_234 (k41 : Int32 → List Int32 → St → Option (Int32)) (n : Nat) (v2 : Int32) (a : List Int32) (s0 : St) : Option (Int32) :=
  (f_L_holds n s0).bind fun c1 =>
  if c1.1 = 0 then
    some (0 : Int32)
  else
    lt (v2 + (3 : Int32)) fun x3 =>
    k41 x3 a c1.2
set_option maxRecDepth 65536 in
set_option maxHeartbeats 4000000 in
theorem okLAW_234 (l : Launch) (Z : State) (a0 : Array Value) (hw : HW a0 Z) (n0 : Nat) (k41 : Int32 → List Int32 → St → Option (Int32)) (hk41 : ∀ (v2 : Int32) (a : List Int32) (s0 : St) (r : Int32), k41 v2 a s0 = some r → WLAW l Z n0 (PLAW r) 11 2102 41 [.val (.ref 0), .val (.ref 1), .val (.int v2), .unset, .unset, .unset, .unset, .unset] [] ([cI a] ++ Hb 1 s0)) (n : Nat) (v2 : Int32) (a : List Int32) (s0 : St) (r : Int32) (h : f_law_234 k41 n v2 a s0 = some r) : WLAW l Z n0 (PLAW r) 11 2102 234 [.val (.ref 0), .val (.ref 1), .val (.int v2), .unset, .unset, .unset, .unset, .unset] [] ([cI a] ++ Hb 1 s0) := by
  unfold f_law_234 at h
  refine WP.aloadN at_234 rfl ?_
  obtain ⟨c1, hc1, h⟩ := Option.bind_eq_some_iff.mp h
  refine WP.callS (y := y5) (as := [.ref 1]) (S := []) at_235 (hw _ m_54) (hw _ m_55) (hw _ m_5) (hw _ m_56) hy5 (CS.frame (ro := 1) (H := ([cI a] ++ Hb 1 s0)) (as := [.ref 1]) fr3_f (ok5 l Z a0 hw n s0 _ hc1) rfl (by decide) (fr3_l a s0) (fr3_c a s0) (by decide) rfl) rfl (lenOf pd5 rfl) (leb rfl) (leb rfl) (leb rfl) (leb rfl) ?_
  rintro _ _ ⟨_, _, ⟨rfl, rfl⟩, rfl, rfl⟩
  rw [fr3_p a s0 c1.2]
  show WLAW l Z n0 (PLAW r) 11 2102 238 [.val (.ref 0), .val (.ref 1), .val (.int v2), .unset, .unset, .unset, .unset, .unset] [.int c1.1] ([cI a] ++ Hb 1 c1.2)
  rcases ite_e h with ⟨hc2, h⟩ | ⟨hc2, h⟩
  ·
    refine WP.ifN at_238 (XT.i0_ne_f hc2) ?_
    refine WP.iconst (0 : Int32) at_241 rfl ?_
    cases h
    exact WP.zreturn at_242 rfl (leb rfl) (leb rfl) rfl
  ·
    refine WP.ifY (pc' := 243) at_238 (XT.i0_ne_t hc2) (by decide) rfl ?_
    obtain ⟨x3, ex3, h⟩ := lt_e h
    refine WP.iinc (L' := [.val (.ref 0), .val (.ref 1), .val (.int x3), .unset, .unset, .unset, .unset, .unset]) (3 : Int32) at_243 rfl rfl (by subst ex3; rfl) ?_
    refine WP.goto (pc' := 41) at_246 (by decide) rfl ?_
    exact WP.weak (L' := [.val (.ref 0), .val (.ref 1), .val (.int x3), .unset, .unset, .unset, .unset, .unset]) ⟨rfl, rfl, rfl, trivial⟩ (hk41 x3 a c1.2 _ h)
def f_law_156 (k41 : Int32 → List Int32 → St → Option (Int32)) (n : Nat) (v2 : Int32) (v4 : Int32) (v5 : Int32) (v6 : Int32) (a : List Int32) (s0 : St) : Option (Int32) :=
  if v6 + (1 : Int32) = 0 then none else
  lt (v4 % (v6 + (1 : Int32))) fun x2 =>
  (f_fold n x2 ((x2 + (1 : Int32)) + (v5 % (12 : Int32))) s0).bind fun c3 =>
  f_law_234 k41 n v2 a c3.2
set_option maxRecDepth 65536 in
set_option maxHeartbeats 4000000 in
theorem okLAW_156 (l : Launch) (Z : State) (a0 : Array Value) (hw : HW a0 Z) (n0 : Nat) (k41 : Int32 → List Int32 → St → Option (Int32)) (hk41 : ∀ (v2 : Int32) (a : List Int32) (s0 : St) (r : Int32), k41 v2 a s0 = some r → WLAW l Z n0 (PLAW r) 11 2102 41 [.val (.ref 0), .val (.ref 1), .val (.int v2), .unset, .unset, .unset, .unset, .unset] [] ([cI a] ++ Hb 1 s0)) (n : Nat) (v2 : Int32) (v4 : Int32) (v5 : Int32) (v6 : Int32) (a : List Int32) (s0 : St) (r : Int32) (h : f_law_156 k41 n v2 v4 v5 v6 a s0 = some r) : WLAW l Z n0 (PLAW r) 11 2102 156 [.val (.ref 0), .val (.ref 1), .val (.int v2), .unset, .val (.int v4), .val (.int v5), .val (.int v6), .unset] [] ([cI a] ++ Hb 1 s0) := by
  unfold f_law_156 at h
  refine WP.iload at_156 rfl ?_
  refine WP.iload at_158 rfl ?_
  refine WP.iconst (1 : Int32) at_160 rfl ?_
  refine WP.iadd at_161 ?_
  obtain ⟨hz1, h⟩ := nz_e h
  refine WP.irem at_162 hz1 ?_
  obtain ⟨x2, ex2, h⟩ := lt_e h
  refine WP.istore (L' := [.val (.ref 0), .val (.ref 1), .val (.int v2), .unset, .val (.int v4), .val (.int v5), .val (.int v6), .val (.int x2)]) at_163 (leb rfl) (by subst ex2; rfl) ?_
  refine WP.aloadN at_165 rfl ?_
  refine WP.iload at_166 rfl ?_
  refine WP.iload at_168 rfl ?_
  refine WP.iconst (1 : Int32) at_170 rfl ?_
  refine WP.iadd at_171 ?_
  refine WP.iload at_172 rfl ?_
  refine WP.bipush (12 : Int32) at_174 rfl ?_
  refine WP.irem at_176 (by decide) ?_
  refine WP.iadd at_177 ?_
  obtain ⟨c3, hc3, h⟩ := Option.bind_eq_some_iff.mp h
  refine WP.callV (i := 1) (y := y23) (as := [.int x2, .int ((x2 + (1 : Int32)) + (v5 % (12 : Int32)))]) (S := []) at_178 (hw _ m_144) (hw _ m_145) (hw _ m_147) (hw _ m_146) (hw _ m_148) (hw _ m_2) hy23 rfl (CS.frame (ro := 1) (H := ([cI a] ++ Hb 1 s0)) (as := [.ref 1, .int x2, .int ((x2 + (1 : Int32)) + (v5 % (12 : Int32)))]) fr3_f (ok23 l Z a0 hw n x2 ((x2 + (1 : Int32)) + (v5 % (12 : Int32))) s0 _ hc3) rfl (by decide) (fr3_l a s0) (fr3_c a s0) (by decide) rfl) rfl (lenOf pd23 rfl) (leb rfl) (leb rfl) (leb rfl) (leb rfl) ?_
  rintro _ _ ⟨_, _, ⟨rfl, rfl⟩, rfl, rfl⟩
  rw [fr3_p a s0 c3.2]
  show WLAW l Z n0 (PLAW r) 11 2102 181 [.val (.ref 0), .val (.ref 1), .val (.int v2), .unset, .val (.int v4), .val (.int v5), .val (.int v6), .val (.int x2)] [.int c3.1] ([cI a] ++ Hb 1 c3.2)
  refine WP.pop at_181 rfl ?_
  refine WP.goto (pc' := 234) at_182 (by decide) rfl ?_
  exact WP.weak (L' := [.val (.ref 0), .val (.ref 1), .val (.int v2), .unset, .unset, .unset, .unset, .unset]) ⟨rfl, rfl, rfl, trivial⟩ (okLAW_234 l Z a0 hw n0 _ hk41 n v2 a c3.2 _ h)
def g_law_41 (k41 : Int32 → List Int32 → St → Option (Int32)) (n : Nat) (v2 : Int32) (a : List Int32) (s0 : St) : Option (Int32) :=
  if v2 < a.length.toInt32 then
    (f_L_cell v2 a).bind fun c2 =>
    (f_L_nat c2).bind fun c3 =>
    lt (c3 % (10 : Int32)) fun x4 =>
    (f_L_cell (v2 + (1 : Int32)) a).bind fun c5 =>
    (f_L_nat c5).bind fun c6 =>
    (f_L_cell (v2 + (2 : Int32)) a).bind fun c7 =>
    (f_L_nat c7).bind fun c8 =>
    (f_length s0).bind fun c9 =>
    if c9 < 0 then
      some (0 : Int32)
    else
      if x4 < (5 : Int32) then
        if c9 + (1 : Int32) = 0 then none else
        (f_L_charOf c8).bind fun c13 =>
        (f_insert n (c6 % (c9 + (1 : Int32))) c13 s0).bind fun c14 =>
        f_law_234 k41 n v2 a c14.2
      else
        if x4 = (5 : Int32) then
          if 0 < c9 then
            if c9 = 0 then none else
            (f_delete n (c6 % c9) s0).bind fun c18 =>
            f_law_234 k41 n v2 a c18.2
          else
            f_law_234 k41 n v2 a s0
        else
          if x4 = (6 : Int32) then
            f_law_156 k41 n v2 c6 c8 c9 a s0
          else
            if x4 = (7 : Int32) then
              f_law_156 k41 n v2 c6 c8 c9 a s0
            else
              if x4 = (8 : Int32) then
                if c9 + (1 : Int32) = 0 then none else
                (f_unfoldAt n (c6 % (c9 + (1 : Int32))) s0).bind fun c23 =>
                f_law_234 k41 n v2 a c23.2
              else
                if (c8 % (2 : Int32)) = 0 then
                  (f_setWrapWidth (c6 % (40 : Int32)) s0).bind fun c25 =>
                  f_law_234 k41 n v2 a c25
                else
                  (f_setTabSize (c6 % (10 : Int32)) s0).bind fun c26 =>
                  f_law_234 k41 n v2 a c26
  else
    some (1 : Int32)
set_option maxRecDepth 65536 in
set_option maxHeartbeats 4000000 in
theorem okgLAW_41 (l : Launch) (Z : State) (a0 : Array Value) (hw : HW a0 Z) (n0 : Nat) (k41 : Int32 → List Int32 → St → Option (Int32)) (hk41 : ∀ (v2 : Int32) (a : List Int32) (s0 : St) (r : Int32), k41 v2 a s0 = some r → WLAW l Z n0 (PLAW r) 11 2102 41 [.val (.ref 0), .val (.ref 1), .val (.int v2), .unset, .unset, .unset, .unset, .unset] [] ([cI a] ++ Hb 1 s0)) (n : Nat) (v2 : Int32) (a : List Int32) (s0 : St) (r : Int32) (h : g_law_41 k41 n v2 a s0 = some r) : WLAW l Z n0 (PLAW r) 11 2102 41 [.val (.ref 0), .val (.ref 1), .val (.int v2), .unset, .unset, .unset, .unset, .unset] [] ([cI a] ++ Hb 1 s0) := by
  unfold g_law_41 at h
  refine WP.iloadN at_41 rfl ?_
  refine WP.aloadN at_42 rfl ?_
  refine WP.arraylength (i := 0) (xs := a) at_43 rfl ?_
  rcases ite_e h with ⟨hc1, h⟩ | ⟨hc1, h⟩
  ·
    refine WP.icmpN at_44 (XT.ii_ge_f hc1) ?_
    refine WP.aloadN at_47 rfl ?_
    refine WP.iloadN at_48 rfl ?_
    obtain ⟨c2, hc2, h⟩ := Option.bind_eq_some_iff.mp h
    refine WP.callS (y := y0) (as := [.ref 0, .int v2]) (S := []) at_49 (hw _ m_3) (hw _ m_4) (hw _ m_5) (hw _ m_6) hy0 (CS.frame (ro := 1) (H := ([cI a] ++ Hb 1 s0)) (as := [.ref 0, .int v2]) fr1_f (ok0 l Z a0 hw v2 a _ hc2) rfl (by decide) (fr1_l a s0) (fr1_c a s0) (by decide) rfl) rfl (lenOf pd0 rfl) (leb rfl) (leb rfl) (leb rfl) (leb rfl) ?_
    rintro _ _ ⟨_, _, ⟨rfl, rfl⟩, rfl, rfl⟩
    rw [fr1_p a s0]
    show WLAW l Z n0 (PLAW r) 11 2102 52 [.val (.ref 0), .val (.ref 1), .val (.int v2), .unset, .unset, .unset, .unset, .unset] [.int c2] ([cI a] ++ Hb 1 s0)
    obtain ⟨c3, hc3, h⟩ := Option.bind_eq_some_iff.mp h
    refine WP.callS (y := y1) (as := [.int c2]) (S := []) at_52 (hw _ m_7) (hw _ m_8) (hw _ m_5) (hw _ m_9) hy1 (CS.frame (ro := 1) (H := ([cI a] ++ Hb 1 s0)) (as := [.int c2]) fr2_f (ok1 l Z a0 hw c2 _ hc3) rfl (by decide) (fr2_l a s0) (fr2_c a s0) (by decide) rfl) rfl (lenOf pd1 rfl) (leb rfl) (leb rfl) (leb rfl) (leb rfl) ?_
    rintro _ _ ⟨_, _, ⟨rfl, rfl⟩, rfl, rfl⟩
    rw [fr2_p a s0]
    show WLAW l Z n0 (PLAW r) 11 2102 55 [.val (.ref 0), .val (.ref 1), .val (.int v2), .unset, .unset, .unset, .unset, .unset] [.int c3] ([cI a] ++ Hb 1 s0)
    refine WP.bipush (10 : Int32) at_55 rfl ?_
    refine WP.irem at_57 (by decide) ?_
    obtain ⟨x4, ex4, h⟩ := lt_e h
    refine WP.istoreN (L' := [.val (.ref 0), .val (.ref 1), .val (.int v2), .val (.int x4), .unset, .unset, .unset, .unset]) at_58 (leb rfl) (by subst ex4; rfl) ?_
    refine WP.aloadN at_59 rfl ?_
    refine WP.iloadN at_60 rfl ?_
    refine WP.iconst (1 : Int32) at_61 rfl ?_
    refine WP.iadd at_62 ?_
    obtain ⟨c5, hc5, h⟩ := Option.bind_eq_some_iff.mp h
    refine WP.callS (y := y0) (as := [.ref 0, .int (v2 + (1 : Int32))]) (S := []) at_63 (hw _ m_3) (hw _ m_4) (hw _ m_5) (hw _ m_6) hy0 (CS.frame (ro := 1) (H := ([cI a] ++ Hb 1 s0)) (as := [.ref 0, .int (v2 + (1 : Int32))]) fr1_f (ok0 l Z a0 hw (v2 + (1 : Int32)) a _ hc5) rfl (by decide) (fr1_l a s0) (fr1_c a s0) (by decide) rfl) rfl (lenOf pd0 rfl) (leb rfl) (leb rfl) (leb rfl) (leb rfl) ?_
    rintro _ _ ⟨_, _, ⟨rfl, rfl⟩, rfl, rfl⟩
    rw [fr1_p a s0]
    show WLAW l Z n0 (PLAW r) 11 2102 66 [.val (.ref 0), .val (.ref 1), .val (.int v2), .val (.int x4), .unset, .unset, .unset, .unset] [.int c5] ([cI a] ++ Hb 1 s0)
    obtain ⟨c6, hc6, h⟩ := Option.bind_eq_some_iff.mp h
    refine WP.callS (y := y1) (as := [.int c5]) (S := []) at_66 (hw _ m_7) (hw _ m_8) (hw _ m_5) (hw _ m_9) hy1 (CS.frame (ro := 1) (H := ([cI a] ++ Hb 1 s0)) (as := [.int c5]) fr2_f (ok1 l Z a0 hw c5 _ hc6) rfl (by decide) (fr2_l a s0) (fr2_c a s0) (by decide) rfl) rfl (lenOf pd1 rfl) (leb rfl) (leb rfl) (leb rfl) (leb rfl) ?_
    rintro _ _ ⟨_, _, ⟨rfl, rfl⟩, rfl, rfl⟩
    rw [fr2_p a s0]
    show WLAW l Z n0 (PLAW r) 11 2102 69 [.val (.ref 0), .val (.ref 1), .val (.int v2), .val (.int x4), .unset, .unset, .unset, .unset] [.int c6] ([cI a] ++ Hb 1 s0)
    refine WP.istore (L' := [.val (.ref 0), .val (.ref 1), .val (.int v2), .val (.int x4), .val (.int c6), .unset, .unset, .unset]) at_69 (leb rfl) rfl ?_
    refine WP.aloadN at_71 rfl ?_
    refine WP.iloadN at_72 rfl ?_
    refine WP.iconst (2 : Int32) at_73 rfl ?_
    refine WP.iadd at_74 ?_
    obtain ⟨c7, hc7, h⟩ := Option.bind_eq_some_iff.mp h
    refine WP.callS (y := y0) (as := [.ref 0, .int (v2 + (2 : Int32))]) (S := []) at_75 (hw _ m_3) (hw _ m_4) (hw _ m_5) (hw _ m_6) hy0 (CS.frame (ro := 1) (H := ([cI a] ++ Hb 1 s0)) (as := [.ref 0, .int (v2 + (2 : Int32))]) fr1_f (ok0 l Z a0 hw (v2 + (2 : Int32)) a _ hc7) rfl (by decide) (fr1_l a s0) (fr1_c a s0) (by decide) rfl) rfl (lenOf pd0 rfl) (leb rfl) (leb rfl) (leb rfl) (leb rfl) ?_
    rintro _ _ ⟨_, _, ⟨rfl, rfl⟩, rfl, rfl⟩
    rw [fr1_p a s0]
    show WLAW l Z n0 (PLAW r) 11 2102 78 [.val (.ref 0), .val (.ref 1), .val (.int v2), .val (.int x4), .val (.int c6), .unset, .unset, .unset] [.int c7] ([cI a] ++ Hb 1 s0)
    obtain ⟨c8, hc8, h⟩ := Option.bind_eq_some_iff.mp h
    refine WP.callS (y := y1) (as := [.int c7]) (S := []) at_78 (hw _ m_7) (hw _ m_8) (hw _ m_5) (hw _ m_9) hy1 (CS.frame (ro := 1) (H := ([cI a] ++ Hb 1 s0)) (as := [.int c7]) fr2_f (ok1 l Z a0 hw c7 _ hc8) rfl (by decide) (fr2_l a s0) (fr2_c a s0) (by decide) rfl) rfl (lenOf pd1 rfl) (leb rfl) (leb rfl) (leb rfl) (leb rfl) ?_
    rintro _ _ ⟨_, _, ⟨rfl, rfl⟩, rfl, rfl⟩
    rw [fr2_p a s0]
    show WLAW l Z n0 (PLAW r) 11 2102 81 [.val (.ref 0), .val (.ref 1), .val (.int v2), .val (.int x4), .val (.int c6), .unset, .unset, .unset] [.int c8] ([cI a] ++ Hb 1 s0)
    refine WP.istore (L' := [.val (.ref 0), .val (.ref 1), .val (.int v2), .val (.int x4), .val (.int c6), .val (.int c8), .unset, .unset]) at_81 (leb rfl) rfl ?_
    refine WP.aloadN at_83 rfl ?_
    obtain ⟨c9, hc9, h⟩ := Option.bind_eq_some_iff.mp h
    refine WP.callV (i := 1) (y := y12) (as := []) (S := []) at_84 (hw _ m_97) (hw _ m_98) (hw _ m_100) (hw _ m_99) (hw _ m_101) (hw _ m_2) hy12 rfl (CS.frame (ro := 1) (H := ([cI a] ++ Hb 1 s0)) (as := [.ref 1]) fr3_f (ok12 l Z a0 hw s0 _ hc9) rfl (by decide) (fr3_l a s0) (fr3_c a s0) (by decide) rfl) rfl (lenOf pd12 rfl) (leb rfl) (leb rfl) (leb rfl) (leb rfl) ?_
    rintro _ _ ⟨_, _, ⟨rfl, rfl⟩, rfl, rfl⟩
    rw [fr3_p a s0 s0]
    show WLAW l Z n0 (PLAW r) 11 2102 87 [.val (.ref 0), .val (.ref 1), .val (.int v2), .val (.int x4), .val (.int c6), .val (.int c8), .unset, .unset] [.int c9] ([cI a] ++ Hb 1 s0)
    refine WP.istore (L' := [.val (.ref 0), .val (.ref 1), .val (.int v2), .val (.int x4), .val (.int c6), .val (.int c8), .val (.int c9), .unset]) at_87 (leb rfl) rfl ?_
    refine WP.iload at_89 rfl ?_
    rcases ite_e h with ⟨hc10, h⟩ | ⟨hc10, h⟩
    ·
      refine WP.ifN at_91 (XT.i0_ge_f hc10) ?_
      refine WP.iconst (0 : Int32) at_94 rfl ?_
      cases h
      exact WP.zreturn at_95 rfl (leb rfl) (leb rfl) rfl
    ·
      refine WP.ifY (pc' := 96) at_91 (XT.i0_ge_t hc10) (by decide) rfl ?_
      refine WP.iloadN at_96 rfl ?_
      refine WP.iconst (5 : Int32) at_97 rfl ?_
      rcases ite_e h with ⟨hc11, h⟩ | ⟨hc11, h⟩
      ·
        refine WP.icmpN at_98 (XT.ii_ge_f hc11) ?_
        refine WP.aloadN at_101 rfl ?_
        refine WP.iload at_102 rfl ?_
        refine WP.iload at_104 rfl ?_
        refine WP.iconst (1 : Int32) at_106 rfl ?_
        refine WP.iadd at_107 ?_
        obtain ⟨hz12, h⟩ := nz_e h
        refine WP.irem at_108 hz12 ?_
        refine WP.iload at_109 rfl ?_
        obtain ⟨c13, hc13, h⟩ := Option.bind_eq_some_iff.mp h
        refine WP.callS (y := y18) (as := [.int c8]) (S := [.int (c6 % (c9 + (1 : Int32))), .ref 1]) at_111 (hw _ m_125) (hw _ m_126) (hw _ m_5) (hw _ m_127) hy18 (CS.frame (ro := 1) (H := ([cI a] ++ Hb 1 s0)) (as := [.int c8]) fr2_f (ok18 l Z a0 hw c8 _ hc13) rfl (by decide) (fr2_l a s0) (fr2_c a s0) (by decide) rfl) rfl (lenOf pd18 rfl) (leb rfl) (leb rfl) (leb rfl) (leb rfl) ?_
        rintro _ _ ⟨_, _, ⟨rfl, rfl⟩, rfl, rfl⟩
        rw [fr2_p a s0]
        show WLAW l Z n0 (PLAW r) 11 2102 114 [.val (.ref 0), .val (.ref 1), .val (.int v2), .val (.int x4), .val (.int c6), .val (.int c8), .val (.int c9), .unset] [.int c13, .int (c6 % (c9 + (1 : Int32))), .ref 1] ([cI a] ++ Hb 1 s0)
        obtain ⟨c14, hc14, h⟩ := Option.bind_eq_some_iff.mp h
        refine WP.callV (i := 1) (y := y19) (as := [.int (c6 % (c9 + (1 : Int32))), .int c13]) (S := []) at_114 (hw _ m_128) (hw _ m_129) (hw _ m_131) (hw _ m_130) (hw _ m_132) (hw _ m_2) hy19 rfl (CS.frame (ro := 1) (H := ([cI a] ++ Hb 1 s0)) (as := [.ref 1, .int (c6 % (c9 + (1 : Int32))), .int c13]) fr3_f (ok19 l Z a0 hw n (c6 % (c9 + (1 : Int32))) c13 s0 _ hc14) rfl (by decide) (fr3_l a s0) (fr3_c a s0) (by decide) rfl) rfl (lenOf pd19 rfl) (leb rfl) (leb rfl) (leb rfl) (leb rfl) ?_
        rintro _ _ ⟨_, _, ⟨rfl, rfl⟩, rfl, rfl⟩
        rw [fr3_p a s0 c14.2]
        show WLAW l Z n0 (PLAW r) 11 2102 117 [.val (.ref 0), .val (.ref 1), .val (.int v2), .val (.int x4), .val (.int c6), .val (.int c8), .val (.int c9), .unset] [.int c14.1] ([cI a] ++ Hb 1 c14.2)
        refine WP.pop at_117 rfl ?_
        refine WP.goto (pc' := 234) at_118 (by decide) rfl ?_
        exact WP.weak (L' := [.val (.ref 0), .val (.ref 1), .val (.int v2), .unset, .unset, .unset, .unset, .unset]) ⟨rfl, rfl, rfl, trivial⟩ (okLAW_234 l Z a0 hw n0 _ hk41 n v2 a c14.2 _ h)
      ·
        refine WP.icmpY (pc' := 121) at_98 (XT.ii_ge_t hc11) (by decide) rfl ?_
        refine WP.iloadN at_121 rfl ?_
        refine WP.iconst (5 : Int32) at_122 rfl ?_
        rcases ite_e h with ⟨hc15, h⟩ | ⟨hc15, h⟩
        ·
          refine WP.icmpN at_123 (XT.ii_ne_f hc15) ?_
          refine WP.iload at_126 rfl ?_
          rcases ite_e h with ⟨hc16, h⟩ | ⟨hc16, h⟩
          ·
            refine WP.ifN at_128 (XT.i0_le_f hc16) ?_
            refine WP.aloadN at_131 rfl ?_
            refine WP.iload at_132 rfl ?_
            refine WP.iload at_134 rfl ?_
            obtain ⟨hz17, h⟩ := nz_e h
            refine WP.irem at_136 hz17 ?_
            obtain ⟨c18, hc18, h⟩ := Option.bind_eq_some_iff.mp h
            refine WP.callV (i := 1) (y := y29) (as := [.int (c6 % c9)]) (S := []) at_137 (hw _ m_173) (hw _ m_174) (hw _ m_176) (hw _ m_175) (hw _ m_177) (hw _ m_2) hy29 rfl (CS.frame (ro := 1) (H := ([cI a] ++ Hb 1 s0)) (as := [.ref 1, .int (c6 % c9)]) fr3_f (ok29 l Z a0 hw n (c6 % c9) s0 _ hc18) rfl (by decide) (fr3_l a s0) (fr3_c a s0) (by decide) rfl) rfl (lenOf pd29 rfl) (leb rfl) (leb rfl) (leb rfl) (leb rfl) ?_
            rintro _ _ ⟨_, _, ⟨rfl, rfl⟩, rfl, rfl⟩
            rw [fr3_p a s0 c18.2]
            show WLAW l Z n0 (PLAW r) 11 2102 140 [.val (.ref 0), .val (.ref 1), .val (.int v2), .val (.int x4), .val (.int c6), .val (.int c8), .val (.int c9), .unset] [.int c18.1] ([cI a] ++ Hb 1 c18.2)
            refine WP.pop at_140 rfl ?_
            refine WP.goto (pc' := 234) at_141 (by decide) rfl ?_
            exact WP.weak (L' := [.val (.ref 0), .val (.ref 1), .val (.int v2), .unset, .unset, .unset, .unset, .unset]) ⟨rfl, rfl, rfl, trivial⟩ (okLAW_234 l Z a0 hw n0 _ hk41 n v2 a c18.2 _ h)
          ·
            refine WP.ifY (pc' := 234) at_128 (XT.i0_le_t hc16) (by decide) rfl ?_
            exact WP.weak (L' := [.val (.ref 0), .val (.ref 1), .val (.int v2), .unset, .unset, .unset, .unset, .unset]) ⟨rfl, rfl, rfl, trivial⟩ (okLAW_234 l Z a0 hw n0 _ hk41 n v2 a s0 _ h)
        ·
          refine WP.icmpY (pc' := 144) at_123 (XT.ii_ne_t hc15) (by decide) rfl ?_
          refine WP.iloadN at_144 rfl ?_
          refine WP.bipush (6 : Int32) at_145 rfl ?_
          rcases ite_e h with ⟨hc19, h⟩ | ⟨hc19, h⟩
          ·
            refine WP.icmpY (pc' := 156) at_147 (XT.ii_eq_t hc19) (by decide) rfl ?_
            exact WP.weak (L' := [.val (.ref 0), .val (.ref 1), .val (.int v2), .unset, .val (.int c6), .val (.int c8), .val (.int c9), .unset]) ⟨rfl, rfl, rfl, rfl, rfl, rfl, trivial⟩ (okLAW_156 l Z a0 hw n0 _ hk41 n v2 c6 c8 c9 a s0 _ h)
          ·
            refine WP.icmpN at_147 (XT.ii_eq_f hc19) ?_
            refine WP.iloadN at_150 rfl ?_
            refine WP.bipush (7 : Int32) at_151 rfl ?_
            rcases ite_e h with ⟨hc20, h⟩ | ⟨hc20, h⟩
            ·
              refine WP.icmpN at_153 (XT.ii_ne_f hc20) ?_
              exact WP.weak (L' := [.val (.ref 0), .val (.ref 1), .val (.int v2), .unset, .val (.int c6), .val (.int c8), .val (.int c9), .unset]) ⟨rfl, rfl, rfl, rfl, rfl, rfl, trivial⟩ (okLAW_156 l Z a0 hw n0 _ hk41 n v2 c6 c8 c9 a s0 _ h)
            ·
              refine WP.icmpY (pc' := 185) at_153 (XT.ii_ne_t hc20) (by decide) rfl ?_
              refine WP.iloadN at_185 rfl ?_
              refine WP.bipush (8 : Int32) at_186 rfl ?_
              rcases ite_e h with ⟨hc21, h⟩ | ⟨hc21, h⟩
              ·
                refine WP.icmpN at_188 (XT.ii_ne_f hc21) ?_
                refine WP.aloadN at_191 rfl ?_
                refine WP.iload at_192 rfl ?_
                refine WP.iload at_194 rfl ?_
                refine WP.iconst (1 : Int32) at_196 rfl ?_
                refine WP.iadd at_197 ?_
                obtain ⟨hz22, h⟩ := nz_e h
                refine WP.irem at_198 hz22 ?_
                obtain ⟨c23, hc23, h⟩ := Option.bind_eq_some_iff.mp h
                refine WP.callV (i := 1) (y := y24) (as := [.int (c6 % (c9 + (1 : Int32)))]) (S := []) at_199 (hw _ m_149) (hw _ m_150) (hw _ m_152) (hw _ m_151) (hw _ m_153) (hw _ m_2) hy24 rfl (CS.frame (ro := 1) (H := ([cI a] ++ Hb 1 s0)) (as := [.ref 1, .int (c6 % (c9 + (1 : Int32)))]) fr3_f (ok24 l Z a0 hw n (c6 % (c9 + (1 : Int32))) s0 _ hc23) rfl (by decide) (fr3_l a s0) (fr3_c a s0) (by decide) rfl) rfl (lenOf pd24 rfl) (leb rfl) (leb rfl) (leb rfl) (leb rfl) ?_
                rintro _ _ ⟨_, _, ⟨rfl, rfl⟩, rfl, rfl⟩
                rw [fr3_p a s0 c23.2]
                show WLAW l Z n0 (PLAW r) 11 2102 202 [.val (.ref 0), .val (.ref 1), .val (.int v2), .val (.int x4), .val (.int c6), .val (.int c8), .val (.int c9), .unset] [.int c23.1] ([cI a] ++ Hb 1 c23.2)
                refine WP.pop at_202 rfl ?_
                refine WP.goto (pc' := 234) at_203 (by decide) rfl ?_
                exact WP.weak (L' := [.val (.ref 0), .val (.ref 1), .val (.int v2), .unset, .unset, .unset, .unset, .unset]) ⟨rfl, rfl, rfl, trivial⟩ (okLAW_234 l Z a0 hw n0 _ hk41 n v2 a c23.2 _ h)
              ·
                refine WP.icmpY (pc' := 206) at_188 (XT.ii_ne_t hc21) (by decide) rfl ?_
                refine WP.iload at_206 rfl ?_
                refine WP.iconst (2 : Int32) at_208 rfl ?_
                refine WP.irem at_209 (by decide) ?_
                rcases ite_e h with ⟨hc24, h⟩ | ⟨hc24, h⟩
                ·
                  refine WP.ifN at_210 (XT.i0_ne_f hc24) ?_
                  refine WP.aloadN at_213 rfl ?_
                  refine WP.iload at_214 rfl ?_
                  refine WP.bipush (40 : Int32) at_216 rfl ?_
                  refine WP.irem at_218 (by decide) ?_
                  obtain ⟨c25, hc25, h⟩ := Option.bind_eq_some_iff.mp h
                  refine WP.callV (i := 1) (y := y25) (as := [.int (c6 % (40 : Int32))]) (S := []) at_219 (hw _ m_154) (hw _ m_155) (hw _ m_157) (hw _ m_156) (hw _ m_158) (hw _ m_2) hy25 rfl (CS.frame (ro := 1) (H := ([cI a] ++ Hb 1 s0)) (as := [.ref 1, .int (c6 % (40 : Int32))]) fr3_f (ok25 l Z a0 hw (c6 % (40 : Int32)) s0 _ hc25) rfl (by decide) (fr3_l a s0) (fr3_c a s0) (by decide) rfl) rfl (lenOf pd25 rfl) (leb rfl) (leb rfl) (leb rfl) (leb rfl) ?_
                  rintro _ _ ⟨_, _, ⟨rfl, rfl⟩, rfl, rfl⟩
                  rw [fr3_p a s0 c25]
                  show WLAW l Z n0 (PLAW r) 11 2102 222 [.val (.ref 0), .val (.ref 1), .val (.int v2), .val (.int x4), .val (.int c6), .val (.int c8), .val (.int c9), .unset] [] ([cI a] ++ Hb 1 c25)
                  refine WP.goto (pc' := 234) at_222 (by decide) rfl ?_
                  exact WP.weak (L' := [.val (.ref 0), .val (.ref 1), .val (.int v2), .unset, .unset, .unset, .unset, .unset]) ⟨rfl, rfl, rfl, trivial⟩ (okLAW_234 l Z a0 hw n0 _ hk41 n v2 a c25 _ h)
                ·
                  refine WP.ifY (pc' := 225) at_210 (XT.i0_ne_t hc24) (by decide) rfl ?_
                  refine WP.aloadN at_225 rfl ?_
                  refine WP.iload at_226 rfl ?_
                  refine WP.bipush (10 : Int32) at_228 rfl ?_
                  refine WP.irem at_230 (by decide) ?_
                  obtain ⟨c26, hc26, h⟩ := Option.bind_eq_some_iff.mp h
                  refine WP.callV (i := 1) (y := y30) (as := [.int (c6 % (10 : Int32))]) (S := []) at_231 (hw _ m_178) (hw _ m_179) (hw _ m_181) (hw _ m_180) (hw _ m_182) (hw _ m_2) hy30 rfl (CS.frame (ro := 1) (H := ([cI a] ++ Hb 1 s0)) (as := [.ref 1, .int (c6 % (10 : Int32))]) fr3_f (ok30 l Z a0 hw (c6 % (10 : Int32)) s0 _ hc26) rfl (by decide) (fr3_l a s0) (fr3_c a s0) (by decide) rfl) rfl (lenOf pd30 rfl) (leb rfl) (leb rfl) (leb rfl) (leb rfl) ?_
                  rintro _ _ ⟨_, _, ⟨rfl, rfl⟩, rfl, rfl⟩
                  rw [fr3_p a s0 c26]
                  show WLAW l Z n0 (PLAW r) 11 2102 234 [.val (.ref 0), .val (.ref 1), .val (.int v2), .val (.int x4), .val (.int c6), .val (.int c8), .val (.int c9), .unset] [] ([cI a] ++ Hb 1 c26)
                  exact WP.weak (L' := [.val (.ref 0), .val (.ref 1), .val (.int v2), .unset, .unset, .unset, .unset, .unset]) ⟨rfl, rfl, rfl, trivial⟩ (okLAW_234 l Z a0 hw n0 _ hk41 n v2 a c26 _ h)
  ·
    refine WP.icmpY (pc' := 249) at_44 (XT.ii_ge_t hc1) (by decide) rfl ?_
    refine WP.iconst (1 : Int32) at_249 rfl ?_
    cases h
    exact WP.zreturn at_250 rfl (leb rfl) (leb rfl) rfl
def f_law_41 : Nat → Int32 → List Int32 → St → Option (Int32)
  | 0 => fun _ _ _ => none
  | n + 1 => g_law_41 (f_law_41 n) n
theorem okLAW_41 (l : Launch) (Z : State) (a0 : Array Value) (hw : HW a0 Z) (n0 : Nat) : ∀ (n : Nat) (v2 : Int32) (a : List Int32) (s0 : St) (r : Int32), f_law_41 n v2 a s0 = some r → WLAW l Z n0 (PLAW r) 11 2102 41 [.val (.ref 0), .val (.ref 1), .val (.int v2), .unset, .unset, .unset, .unset, .unset] [] ([cI a] ++ Hb 1 s0)
  | 0, v2, a, s0, r, h => nomatch (show none = some r from h)
  | n + 1, v2, a, s0, r, h => okgLAW_41 l Z a0 hw n0 _ (okLAW_41 l Z a0 hw n0 n) n v2 a s0 r h
def f_law (n : Nat) (a : List Int32) : Option (Int32) :=
  (f_L_cell (0 : Int32) a).bind fun c1 =>
  (f_L_nat c1).bind fun c2 =>
  (f_L_cell (1 : Int32) a).bind fun c3 =>
  (f_L_nat c3).bind fun c4 =>
  (f_init (c2 % (10 : Int32)) (c4 % (40 : Int32))).bind fun c5 =>
  (f_L_holds n c5).bind fun c6 =>
  if c6.1 = 0 then
    some (0 : Int32)
  else
    f_law_41 n (2 : Int32) a c6.2
set_option maxRecDepth 65536 in
set_option maxHeartbeats 4000000 in
theorem okLAW (l : Launch) (Z : State) (a0 : Array Value) (hw : HW a0 Z) (n : Nat) (a : List Int32) (r : Int32) (h : f_law n a = some r) : CS l Z CN lay x code maxLocals ret room_1 1 [.ref 0] ([cI a]) (PLAW r) := by
  refine CS.of_wp pn_law (leb rfl) fun n0 => ?_
  show WLAW l Z n0 (PLAW r) 0 0 0 [.val (.ref 0), .unset, .unset, .unset, .unset, .unset, .unset, .unset] [] ([cI a])
  unfold f_law at h
  refine WP.new (vs := vs0) at_0 (hw _ m_0) (hw _ m_1) (hw _ m_2) (leb rfl) (leb rfl) (vs0_ok hw) ?_
  show WLAW l Z n0 (PLAW r) 1 22 3 [.val (.ref 0), .unset, .unset, .unset, .unset, .unset, .unset, .unset] [.ref 1] ([cI a] ++ [cO vs0])
  refine WP.dup at_3 rfl ?_
  refine WP.aloadN at_4 rfl ?_
  refine WP.iconst (0 : Int32) at_5 rfl ?_
  obtain ⟨c1, hc1, h⟩ := Option.bind_eq_some_iff.mp h
  refine WP.callS (y := y0) (as := [.ref 0, .int (0 : Int32)]) (S := [.ref 1, .ref 1]) at_6 (hw _ m_3) (hw _ m_4) (hw _ m_5) (hw _ m_6) hy0 (CS.frame (ro := 1) (H := ([cI a] ++ [cO vs0])) (as := [.ref 0, .int (0 : Int32)]) fr4_f (ok0 l Z a0 hw (0 : Int32) a _ hc1) rfl (by decide) (fr4_l a) (fr4_c a) (by decide) rfl) rfl (lenOf pd0 rfl) (leb rfl) (leb rfl) (leb rfl) (leb rfl) ?_
  rintro _ _ ⟨_, _, ⟨rfl, rfl⟩, rfl, rfl⟩
  rw [fr4_p a]
  show WLAW l Z n0 (PLAW r) 1 22 9 [.val (.ref 0), .unset, .unset, .unset, .unset, .unset, .unset, .unset] [.int c1, .ref 1, .ref 1] ([cI a] ++ [cO vs0])
  obtain ⟨c2, hc2, h⟩ := Option.bind_eq_some_iff.mp h
  refine WP.callS (y := y1) (as := [.int c1]) (S := [.ref 1, .ref 1]) at_9 (hw _ m_7) (hw _ m_8) (hw _ m_5) (hw _ m_9) hy1 (CS.frame (ro := 1) (H := ([cI a] ++ [cO vs0])) (as := [.int c1]) fr5_f (ok1 l Z a0 hw c1 _ hc2) rfl (by decide) (fr5_l a) (fr5_c a) (by decide) rfl) rfl (lenOf pd1 rfl) (leb rfl) (leb rfl) (leb rfl) (leb rfl) ?_
  rintro _ _ ⟨_, _, ⟨rfl, rfl⟩, rfl, rfl⟩
  rw [fr5_p a]
  show WLAW l Z n0 (PLAW r) 1 22 12 [.val (.ref 0), .unset, .unset, .unset, .unset, .unset, .unset, .unset] [.int c2, .ref 1, .ref 1] ([cI a] ++ [cO vs0])
  refine WP.bipush (10 : Int32) at_12 rfl ?_
  refine WP.irem at_14 (by decide) ?_
  refine WP.aloadN at_15 rfl ?_
  refine WP.iconst (1 : Int32) at_16 rfl ?_
  obtain ⟨c3, hc3, h⟩ := Option.bind_eq_some_iff.mp h
  refine WP.callS (y := y0) (as := [.ref 0, .int (1 : Int32)]) (S := [.int (c2 % (10 : Int32)), .ref 1, .ref 1]) at_17 (hw _ m_3) (hw _ m_4) (hw _ m_5) (hw _ m_6) hy0 (CS.frame (ro := 1) (H := ([cI a] ++ [cO vs0])) (as := [.ref 0, .int (1 : Int32)]) fr4_f (ok0 l Z a0 hw (1 : Int32) a _ hc3) rfl (by decide) (fr4_l a) (fr4_c a) (by decide) rfl) rfl (lenOf pd0 rfl) (leb rfl) (leb rfl) (leb rfl) (leb rfl) ?_
  rintro _ _ ⟨_, _, ⟨rfl, rfl⟩, rfl, rfl⟩
  rw [fr4_p a]
  show WLAW l Z n0 (PLAW r) 1 22 20 [.val (.ref 0), .unset, .unset, .unset, .unset, .unset, .unset, .unset] [.int c3, .int (c2 % (10 : Int32)), .ref 1, .ref 1] ([cI a] ++ [cO vs0])
  obtain ⟨c4, hc4, h⟩ := Option.bind_eq_some_iff.mp h
  refine WP.callS (y := y1) (as := [.int c3]) (S := [.int (c2 % (10 : Int32)), .ref 1, .ref 1]) at_20 (hw _ m_7) (hw _ m_8) (hw _ m_5) (hw _ m_9) hy1 (CS.frame (ro := 1) (H := ([cI a] ++ [cO vs0])) (as := [.int c3]) fr5_f (ok1 l Z a0 hw c3 _ hc4) rfl (by decide) (fr5_l a) (fr5_c a) (by decide) rfl) rfl (lenOf pd1 rfl) (leb rfl) (leb rfl) (leb rfl) (leb rfl) ?_
  rintro _ _ ⟨_, _, ⟨rfl, rfl⟩, rfl, rfl⟩
  rw [fr5_p a]
  show WLAW l Z n0 (PLAW r) 1 22 23 [.val (.ref 0), .unset, .unset, .unset, .unset, .unset, .unset, .unset] [.int c4, .int (c2 % (10 : Int32)), .ref 1, .ref 1] ([cI a] ++ [cO vs0])
  refine WP.bipush (40 : Int32) at_23 rfl ?_
  refine WP.irem at_25 (by decide) ?_
  obtain ⟨c5, hc5, h⟩ := Option.bind_eq_some_iff.mp h
  refine WP.callI (i := 1) (y := y2) (as := [.int (c2 % (10 : Int32)), .int (c4 % (40 : Int32))]) (S := [.ref 1]) at_26 rfl (hw _ m_11) (hw _ m_12) (hw _ m_13) (hw _ m_2) hy2 (CS.frame (ro := 1) (H := ([cI a] ++ [cO vs0])) (as := [.ref 1, .int (c2 % (10 : Int32)), .int (c4 % (40 : Int32))]) fr6_f (ok2 l Z a0 hw (c2 % (10 : Int32)) (c4 % (40 : Int32)) _ hc5) rfl (by decide) (fr6_l a) (fr6_c a) (by decide) rfl) rfl (lenOf pd2 rfl) (leb rfl) (leb rfl) (leb rfl) (leb rfl) ?_
  rintro _ _ ⟨_, _, ⟨rfl, rfl⟩, rfl, rfl⟩
  rw [fr6_p a c5]
  show WLAW l Z n0 (PLAW r) 11 2102 29 [.val (.ref 0), .unset, .unset, .unset, .unset, .unset, .unset, .unset] [.ref 1] ([cI a] ++ Hb 1 c5)
  refine WP.astoreN (L' := [.val (.ref 0), .val (.ref 1), .unset, .unset, .unset, .unset, .unset, .unset]) at_29 (leb rfl) rfl ?_
  refine WP.aloadN at_30 rfl ?_
  obtain ⟨c6, hc6, h⟩ := Option.bind_eq_some_iff.mp h
  refine WP.callS (y := y5) (as := [.ref 1]) (S := []) at_31 (hw _ m_54) (hw _ m_55) (hw _ m_5) (hw _ m_56) hy5 (CS.frame (ro := 1) (H := ([cI a] ++ Hb 1 c5)) (as := [.ref 1]) fr3_f (ok5 l Z a0 hw n c5 _ hc6) rfl (by decide) (fr3_l a c5) (fr3_c a c5) (by decide) rfl) rfl (lenOf pd5 rfl) (leb rfl) (leb rfl) (leb rfl) (leb rfl) ?_
  rintro _ _ ⟨_, _, ⟨rfl, rfl⟩, rfl, rfl⟩
  rw [fr3_p a c5 c6.2]
  show WLAW l Z n0 (PLAW r) 11 2102 34 [.val (.ref 0), .val (.ref 1), .unset, .unset, .unset, .unset, .unset, .unset] [.int c6.1] ([cI a] ++ Hb 1 c6.2)
  rcases ite_e h with ⟨hc7, h⟩ | ⟨hc7, h⟩
  ·
    refine WP.ifN at_34 (XT.i0_ne_f hc7) ?_
    refine WP.iconst (0 : Int32) at_37 rfl ?_
    cases h
    exact WP.zreturn at_38 rfl (leb rfl) (leb rfl) rfl
  ·
    refine WP.ifY (pc' := 39) at_34 (XT.i0_ne_t hc7) (by decide) rfl ?_
    refine WP.iconst (2 : Int32) at_39 rfl ?_
    refine WP.istoreN (L' := [.val (.ref 0), .val (.ref 1), .val (.int (2 : Int32)), .unset, .unset, .unset, .unset, .unset]) at_40 (leb rfl) rfl ?_
    exact WP.weak (L' := [.val (.ref 0), .val (.ref 1), .val (.int (2 : Int32)), .unset, .unset, .unset, .unset, .unset]) ⟨rfl, rfl, rfl, trivial⟩ (okLAW_41 l Z a0 hw n0 n (2 : Int32) a c6.2 _ h)
/-! a call that comes to an end, and what it leaves -/
def own_Ok {α : Type} (f : Nat → Option α) (P : α → Prop) : Prop := ∃ r, Ev f r ∧ P r
theorem own_Ok.step {α : Type} {f g : Nat → Option α} {P : α → Prop} (e : ∀ n, f (n + 1) = g n) (h : own_Ok g P) : own_Ok f P := by
  obtain ⟨r, h1, h2⟩ := h
  exact ⟨r, Ev.step e h1, h2⟩
theorem own_Ok.congr {α : Type} {f g : Nat → Option α} {P : α → Prop} (e : ∀ n, f n = g n) (h : own_Ok g P) : own_Ok f P := by
  obtain ⟨r, h1, h2⟩ := h
  exact ⟨r, Ev.congr e h1, h2⟩
theorem own_Ok.ret {α : Type} {r : α} {P : α → Prop} (h : P r) : own_Ok (fun _ => some r) P := ⟨r, Ev.const rfl, h⟩
theorem own_Ok.mono {α : Type} {f : Nat → Option α} {P Q : α → Prop} (h : own_Ok f P) (k : ∀ r, P r → Q r) : own_Ok f Q := by
  obtain ⟨r, h1, h2⟩ := h
  exact ⟨r, h1, k r h2⟩
theorem own_Ok.bind {α β : Type} {f : Nat → Option β} {g : Nat → β → Option α} {Q : β → Prop} {P : α → Prop} (h : own_Ok f Q) (k : ∀ c, Q c → own_Ok (fun n => g n c) P) : own_Ok (fun n => (f n).bind (g n)) P := by
  obtain ⟨c, h1, h2⟩ := h
  obtain ⟨r, k1, k2⟩ := k c h2
  exact ⟨r, Ev.bind h1 k1, k2⟩
theorem own_Ok.ite {α : Type} {c : Prop} [Decidable c] {f g : Nat → Option α} {P : α → Prop} (h : c → own_Ok f P) (k : ¬ c → own_Ok g P) : own_Ok (fun n => if c then f n else g n) P := by
  by_cases q : c
  · exact own_Ok.congr (fun n => if_pos q) (h q)
  · exact own_Ok.congr (fun n => if_neg q) (k q)
theorem own_Ok.some_bind {α β : Type} {x : β} {g : Nat → β → Option α} {P : α → Prop} (h : own_Ok (fun n => g n x) P) : own_Ok (fun n => (some x).bind (g n)) P := own_Ok.congr (fun _ => rfl) h

/-! steps of a walk over an open state -/
theorem own_bex {α β : Type} {o : Option α} {g : α → Option β} {b : β} (h : o.bind g = some b) : ∃ c, o = some c ∧ g c = some b := by
  cases o with
  | none => cases h
  | some c => exact ⟨c, rfl, h⟩
theorem own_sa {β : Type} {t : St} {f : Nat} {i : Int32} {k : Nat} {x : Int32} {G : St → Option β} {r : Option β} (hi : i.toInt = k) (h : k < (gA t f).length) (e : G (sA t f ((gA t f).set k x)) = r) : (wrA t f i x).bind G = r := by
  rw [wrA_of x hi h]; exact e
theorem own_sb {β : Type} {t : St} {f : Nat} {i : Int32} {k : Nat} {x : Int64} {G : St → Option β} {r : Option β} (hi : i.toInt = k) (h : k < (gB t f).length) (e : G (sB t f ((gB t f).set k x)) = r) : (wrB t f i x).bind G = r := by
  rw [wrB_of x hi h]; exact e
theorem own_rr {α β : Type} {xs : List α} {i : Int32} {k : Nat} {x : α} {G : α → Option β} {r : Option β} (hi : i.toInt = k) (h : xs[k]? = some x) (e : G x = r) : (rd xs i).bind G = r := by
  rw [rd_of hi h]; exact e
theorem own_bs {α β : Type} {o : Option α} {x : α} {G : α → Option β} {r : Option β} (h : o = some x) (e : G x = r) : o.bind G = r := by
  rw [h]; exact e

/-! the map in numbers: the text, the folds -/
theorem own_ltN {i m : Nat} (hi : i ≤ 3000) (hm : m ≤ 3000) : Int32.ofNat i < Int32.ofNat m ↔ i < m := ofN_lt (by omega) (by omega)
theorem own_Ok.let {α β : Type} {x : β} {F : Nat → β → Option α} {P : α → Prop} (h : own_Ok (fun n => F n x) P) : own_Ok (fun n => lt x (F n)) P := h
theorem own_Ok.rdv {α : Type} {xs : List Int32} {k : Nat} {x : Int32} {G : Nat → Int32 → Option α} {P : α → Prop} (hk : k < 3000) (hx : xs[k]? = some x) (h : own_Ok (fun n => G n x) P) : own_Ok (fun n => (Jvm.Own.rd xs (Int32.ofNat k)).bind (G n)) P := own_Ok.congr (fun n => by rw [rd_at (by omega) hx]; rfl) h
theorem own_Ok.wrv {α : Type} {s : St} {j k : Nat} {x : Int32} {G : Nat → St → Option α} {P : α → Prop} (hk : k < 3000) (hl : k < (gA s j).length) (h : own_Ok (fun n => G n (sA s j ((gA s j).set k x))) P) : own_Ok (fun n => (wrA s j (Int32.ofNat k) x).bind (G n)) P := own_Ok.congr (fun n => by rw [wrA_of (k := k) x (ofN_int (by omega)) hl]; rfl) h
theorem own_evO {α β : Type} {f : Nat → Option β} {c : β} (e : ∀ n, f n = some c) {G : Nat → β → Option α} {P : α → Prop} (h : own_Ok (fun n => G n c) P) : own_Ok (fun n => (f n).bind (G n)) P :=
  own_Ok.congr (fun n => by rw [e n]; rfl) h
theorem own_isb (x y : Nat) (hx : x < 1000000) (hy : y ≤ x) : Int32.ofNat x - Int32.ofNat y = Int32.ofNat (x - y) := by
  have e1 := ofN_int (k := x) (by omega)
  have e2 := ofN_int (k := y) (by omega)
  rw [x32_eq, x32_sub (by omega) (by omega), e1, e2, ofN_int (by omega)]; omega
theorem own_dec (x : Nat) (hx : x < 1000000) (h1 : 1 ≤ x) : Int32.ofNat x + -1 = Int32.ofNat (x - 1) := by
  obtain ⟨y, rfl⟩ : ∃ y, x = y + 1 := ⟨x - 1, by omega⟩
  have : (-1 : Int32) = -(1 : Int32) := by decide
  rw [← ofN_succ, this, ← Int32.sub_eq_add_neg, Int32.add_sub_cancel, Nat.add_sub_cancel]
def own_ln (j : Nat) : Nat := if j = 0 then 256 else if j < 3 then 8 else if j < 6 then 256 else 260
def own_L (s : St) : Prop := ∀ j, j < 10 → (gA s j).length = own_ln j
theorem own_L.wr {s : St} (h : own_L s) (j k : Nat) (x : Int32) : own_L (sA s j ((gA s j).set k x)) := fun i hi => by
  rw [gA_sA]
  by_cases c : i = j
  · subst c; rw [if_pos rfl, List.length_set]; exact h i hi
  · rw [if_neg c]; exact h i hi
/-- s to t: only the named arrays and ints are touched -/
def own_Fr (as is : List Nat) (s t : St) : Prop := own_L t ∧ (∀ j, j ∉ as → gA t j = gA s j) ∧ (∀ j, j ∉ is → gI t j = gI s j)
theorem own_Fr.refl {as is : List Nat} {s : St} (h : own_L s) : own_Fr as is s s := ⟨h, fun _ _ => rfl, fun _ _ => rfl⟩
theorem own_Fr.trans {as is : List Nat} {s t u : St} (h : own_Fr as is s t) (k : own_Fr as is t u) : own_Fr as is s u := ⟨k.1, fun j hj => (k.2.1 j hj).trans (h.2.1 j hj), fun j hj => (k.2.2 j hj).trans (h.2.2 j hj)⟩
theorem own_Fr.mono {as is as' is' : List Nat} {s t : St} (h : own_Fr as is s t) (ha : ∀ j ∈ as, j ∈ as') (hi : ∀ j ∈ is, j ∈ is') : own_Fr as' is' s t := ⟨h.1, fun j hj => h.2.1 j fun q => hj (ha j q), fun j hj => h.2.2 j fun q => hj (hi j q)⟩
theorem own_Fr.wr {as is : List Nat} {s t : St} (h : own_Fr as is s t) (j k : Nat) (x : Int32) (hj : j ∈ as) : own_Fr as is s (sA t j ((gA t j).set k x)) := ⟨h.1.wr j k x, fun i hi => by
  rw [gA_sA, if_neg (fun e : i = j => hi (by rw [e]; exact hj))]; exact h.2.1 i hi, h.2.2⟩
theorem own_Fr.sI {as is : List Nat} {s t : St} (h : own_Fr as is s t) (j : Nat) (x : Int32) (hj : j ∈ is) : own_Fr as is s (sI t j x) := ⟨h.1, h.2.1, fun i hi => by
  rw [gI_sI, if_neg (fun e : i = j => hi (by rw [e]; exact hj))]; exact h.2.2 i hi⟩
def own_Tx (s : St) (len : Nat) (tx : Nat → Int32) : Prop := gI s 0 = Int32.ofNat len ∧ len ≤ 256 ∧ ∀ i, i < len → (gA s 0)[i]? = some (tx i)
def own_Fo (s : St) (fc : Nat) (S E : Nat → Nat) : Prop := gI s 1 = Int32.ofNat fc ∧ fc ≤ 8 ∧ ∀ j, j < fc → (gA s 1)[j]? = some (Int32.ofNat (S j)) ∧ (gA s 2)[j]? = some (Int32.ofNat (E j))
def own_So (len fc : Nat) (S E : Nat → Nat) : Prop := (∀ j, j < fc → S j < E j ∧ E j ≤ len) ∧ ∀ i j, i < j → j < fc → E i ≤ S j
/-! insert -/
def own_it (p : Nat) (ch : Int32) (tx : Nat → Int32) (i : Nat) : Int32 := if i < p then tx i else if i = p then ch else tx (i - 1)
def own_iS (p : Nat) (S : Nat → Nat) (j : Nat) : Nat := if p ≤ S j then S j + 1 else S j
def own_iE (p : Nat) (E : Nat → Nat) (j : Nat) : Nat := if p < E j then E j + 1 else E j
theorem own_So.ins {len fc p : Nat} {S E : Nat → Nat} (h : own_So len fc S E) (hp : p ≤ len) : own_So (len + 1) fc (own_iS p S) (own_iE p E) := by
  refine ⟨fun j hj => ?_, fun i j hij hj => ?_⟩
  · have := h.1 j hj
    unfold own_iS own_iE
    split <;> split <;> omega
  · have h1 := h.2 i j hij hj
    have h2 := h.1 i (by omega)
    have h3 := h.1 j hj
    unfold own_iS own_iE
    split <;> split <;> omega
theorem own_i84 {s : St} {fc p : Nat} {S E : Nat → Nat} (hL : own_L s) (hf : own_Fo s fc S E) (hp : p ≤ 256) (hb : ∀ j, j < fc → S j < E j ∧ E j ≤ 256) : own_Ok (fun N => f_insert_84 N (Int32.ofNat p) 0 s) (fun r => r.1 = 1 ∧ own_Fr [1, 2] [4] s r.2 ∧ gI r.2 4 = 1 ∧ own_Fo r.2 fc (own_iS p S) (own_iE p E)) := by
  obtain ⟨f1, f2, f3⟩ := hf
  have key : ∀ (m f : Nat) (t : St), f + m = fc → own_Fr [1, 2] [4] s t → (∀ j, j < fc → (gA t 1)[j]? = some (Int32.ofNat (if j < f then own_iS p S j else S j)) ∧ (gA t 2)[j]? = some (Int32.ofNat (if j < f then own_iE p E j else E j))) → own_Ok (fun N => f_insert_84 N (Int32.ofNat p) (Int32.ofNat f) t) (fun r => r.1 = 1 ∧ own_Fr [1, 2] [4] s r.2 ∧ gI r.2 4 = 1 ∧ own_Fo r.2 fc (own_iS p S) (own_iE p E)) := by
    intro m
    induction m with
    | zero =>
      intro f t hf hF hA
      obtain rfl : f = fc := by omega
      refine own_Ok.step (g := fun N => g_insert_84 (f_insert_84 N) N (Int32.ofNat p) (Int32.ofNat f) t) (fun n => rfl) ?_
      unfold g_insert_84
      rw [show gI t 1 = Int32.ofNat f from (hF.2.2 1 (by decide)).trans f1]
      refine own_Ok.ite (fun q => by have := (own_ltN (by omega) (by omega)).mp q; omega) fun _ => ?_
      refine own_Ok.let (own_Ok.ret ⟨rfl, hF.sI 4 1 (by decide), rfl, (hF.2.2 1 (by decide)).trans f1, f2, fun j hj => ?_⟩)
      have := hA j hj
      rw [if_pos hj, if_pos hj] at this
      exact this
    | succ m ih =>
      intro f t hf hF hA
      refine own_Ok.step (g := fun N => g_insert_84 (f_insert_84 N) N (Int32.ofNat p) (Int32.ofNat f) t) (fun n => rfl) ?_
      obtain ⟨a1, a2⟩ := hA f (by omega)
      rw [if_neg (Nat.lt_irrefl f)] at a1 a2
      obtain ⟨b1, b2⟩ := hb f (by omega)
      have l1 : (gA t 1).length = 8 := hF.1 1 (by decide)
      have l2 : (gA t 2).length = 8 := hF.1 2 (by decide)
      unfold g_insert_84 f_insert_145
      rw [show gI t 1 = Int32.ofNat fc from (hF.2.2 1 (by decide)).trans f1]
      refine own_Ok.ite (fun _ => ?_) fun q => absurd ((own_ltN (by omega) (by omega)).mpr (by omega)) q
      refine own_Ok.rdv (by omega) a1 ?_
      refine own_Ok.ite (fun q => ?_) fun q => ?_
      · have q := (own_ltN (by omega) (by omega)).mp q
        refine own_Ok.rdv (by omega) a2 ?_
        refine own_Ok.ite (fun r => ?_) fun r => ?_
        · have r := (own_ltN (by omega) (by omega)).mp r
          refine own_Ok.rdv (by omega) a2 ?_
          refine own_Ok.wrv (by omega) (by omega) ?_
          refine own_Ok.let ?_
          rw [ofN_succ, ofN_succ]
          refine ih (f + 1) _ (by omega) (hF.wr 2 f _ (by decide)) fun j hj => ?_
          show (gA t 1)[j]? = _ ∧ ((gA t 2).set f _)[j]? = _
          by_cases z : j = f
          · subst z
            rw [get_set_self _ (by omega), if_pos (by omega), if_pos (by omega), a1]
            unfold own_iS own_iE
            rw [if_neg (by omega), if_pos r]
            exact ⟨rfl, rfl⟩
          · rw [get_set_ne _ (Ne.symm z)]
            have := hA j hj
            by_cases y : j < f
            · rw [if_pos y, if_pos y] at this
              rw [if_pos (by omega), if_pos (by omega)]; exact this
            · rw [if_neg y, if_neg y] at this
              rw [if_neg (by omega), if_neg (by omega)]; exact this
        · have r : ¬ p < E f := fun e => r ((own_ltN (by omega) (by omega)).mpr e)
          refine own_Ok.let ?_
          rw [ofN_succ]
          refine ih (f + 1) t (by omega) hF fun j hj => ?_
          by_cases z : j = f
          · subst z
            rw [if_pos (by omega), if_pos (by omega), a1, a2]
            unfold own_iS own_iE
            rw [if_neg (by omega), if_neg r]
            exact ⟨rfl, rfl⟩
          · have := hA j hj
            by_cases y : j < f
            · rw [if_pos y, if_pos y] at this
              rw [if_pos (by omega), if_pos (by omega)]; exact this
            · rw [if_neg y, if_neg y] at this
              rw [if_neg (by omega), if_neg (by omega)]; exact this
      · have q : ¬ S f < p := fun e => q ((own_ltN (by omega) (by omega)).mpr e)
        refine own_Ok.rdv (by omega) a1 ?_
        refine own_Ok.wrv (by omega) (by omega) ?_
        have F1 := hF.wr 1 f (Int32.ofNat (S f) + 1) (by decide)
        refine own_Ok.rdv (by omega) (show (gA t 2)[f]? = _ from a2) ?_
        refine own_Ok.wrv (by omega) (show f < (gA t 2).length by omega) ?_
        refine own_Ok.let ?_
        rw [ofN_succ, ofN_succ]
        refine ih (f + 1) _ (by omega) ((hF.wr 1 f _ (by decide)).wr 2 f _ (by decide)) fun j hj => ?_
        show ((gA t 1).set f _)[j]? = _ ∧ ((gA t 2).set f _)[j]? = _
        by_cases z : j = f
        · subst z
          rw [get_set_self _ (by omega), get_set_self _ (by omega), if_pos (by omega), if_pos (by omega), ofN_succ]
          unfold own_iS own_iE
          rw [if_pos (by omega), if_pos (by omega)]
          exact ⟨rfl, rfl⟩
        · rw [get_set_ne _ (Ne.symm z), get_set_ne _ (Ne.symm z)]
          have := hA j hj
          by_cases y : j < f
          · rw [if_pos y, if_pos y] at this
            rw [if_pos (by omega), if_pos (by omega)]; exact this
          · rw [if_neg y, if_neg y] at this
            rw [if_neg (by omega), if_neg (by omega)]; exact this
  exact key fc 0 s (by omega) (own_Fr.refl hL) fun j hj => by
    rw [if_neg (Nat.not_lt_zero _), if_neg (Nat.not_lt_zero _)]; exact f3 j hj
theorem own_insV {s : St} {len fc p : Nat} {tx : Nat → Int32} {S E : Nat → Nat} (hL : own_L s) (ht : own_Tx s len tx) (hf : own_Fo s fc S E) (hs : own_So len fc S E) (hp : p ≤ len) (hl : len < 256) (ch : Int32) (hc : f_validChar ch = some 1) : own_Ok (fun N => f_insert N (Int32.ofNat p) ch s) (fun r => r.1 = 1 ∧ own_Fr [0, 1, 2] [0, 4] s r.2 ∧ gI r.2 4 = 1 ∧ own_Tx r.2 (len + 1) (own_it p ch tx) ∧ own_Fo r.2 fc (own_iS p S) (own_iE p E)) := by
  obtain ⟨t1, t2, t3⟩ := ht
  have key : ∀ (m v : Nat) (t : St), p + m = v → v ≤ len → own_Fr [0, 1, 2] [0, 4] s t → (∀ j, j ≠ 0 → gA t j = gA s j) → (∀ j, gI t j = gI s j) → (∀ i, i ≤ len → (i < v → (gA t 0)[i]? = some (tx i)) ∧ (v < i → (gA t 0)[i]? = some (tx (i - 1)))) → own_Ok (fun N => f_insert_40 N (Int32.ofNat p) ch (Int32.ofNat v) t) (fun r => r.1 = 1 ∧ own_Fr [0, 1, 2] [0, 4] s r.2 ∧ gI r.2 4 = 1 ∧ own_Tx r.2 (len + 1) (own_it p ch tx) ∧ own_Fo r.2 fc (own_iS p S) (own_iE p E)) := by
    intro m
    induction m with
    | zero =>
      intro v t hv hvl hF hA hI hT
      obtain rfl : p = v := by omega
      refine own_Ok.step (g := fun N => g_insert_40 (f_insert_40 N) N (Int32.ofNat p) ch (Int32.ofNat p) t) (fun n => rfl) ?_
      have l0 : (gA t 0).length = 256 := hF.1 0 (by decide)
      unfold g_insert_40
      refine own_Ok.ite (fun q => by have := (own_ltN (by omega) (by omega)).mp q; omega) fun _ => ?_
      refine own_Ok.wrv (by omega) (by omega) ?_
      refine own_Ok.let ?_
      have F1 : own_Fr [0, 1, 2] [0, 4] s (sI (sA t 0 ((gA t 0).set p ch)) 0 (gI t 0 + 1)) := (hF.wr 0 p ch (by decide)).sI 0 _ (by decide)
      have f1 : own_Fo (sI (sA t 0 ((gA t 0).set p ch)) 0 (gI t 0 + 1)) fc S E := by
        refine ⟨(hI 1).trans hf.1, hf.2.1, fun j hj => ?_⟩
        show (gA t 1)[j]? = _ ∧ (gA t 2)[j]? = _
        rw [hA 1 (by decide), hA 2 (by decide)]; exact hf.2.2 j hj
      refine (own_i84 F1.1 f1 (by omega) fun j hj => ⟨(hs.1 j hj).1, by have := (hs.1 j hj).2; omega⟩).mono fun r hr => ?_
      obtain ⟨r1, r2, r4, r3⟩ := hr
      refine ⟨r1, F1.trans (r2.mono (by decide) (by decide)), r4, ⟨?_, by omega, fun i hi => ?_⟩, r3⟩
      · rw [r2.2.2 0 (by decide)]
        show gI t 0 + 1 = _
        rw [hI 0, t1, ofN_succ]
      · rw [r2.2.1 0 (by decide)]
        show ((gA t 0).set p ch)[i]? = _
        unfold own_it
        by_cases z : i = p
        · subst z
          rw [get_set_self _ (by omega), if_neg (Nat.lt_irrefl _), if_pos rfl]
        · rw [get_set_ne _ (Ne.symm z)]
          by_cases y : i < p
          · rw [if_pos y]; exact (hT i (by omega)).1 y
          · rw [if_neg y, if_neg z]; exact (hT i (by omega)).2 (by omega)
    | succ m ih =>
      intro v t hv hvl hF hA hI hT
      refine own_Ok.step (g := fun N => g_insert_40 (f_insert_40 N) N (Int32.ofNat p) ch (Int32.ofNat v) t) (fun n => rfl) ?_
      have l0 : (gA t 0).length = 256 := hF.1 0 (by decide)
      unfold g_insert_40
      refine own_Ok.ite (fun _ => ?_) fun q => absurd ((own_ltN (by omega) (by omega)).mpr (by omega)) q
      rw [show Int32.ofNat v - 1 = Int32.ofNat (v - 1) from own_isb v 1 (by omega) (by omega)]
      refine own_Ok.rdv (by omega) ((hT (v - 1) (by omega)).1 (by omega)) ?_
      refine own_Ok.wrv (by omega) (by omega) ?_
      refine own_Ok.let ?_
      rw [own_dec v (by omega) (by omega)]
      refine ih (v - 1) _ (by omega) (by omega) (hF.wr 0 v _ (by decide)) (fun j hj => ?_) hI fun i hi => ?_
      · rw [gA_sA, if_neg hj]; exact hA j hj
      · show (i < v - 1 → ((gA t 0).set v _)[i]? = _) ∧ (v - 1 < i → ((gA t 0).set v _)[i]? = _)
        refine ⟨fun q => ?_, fun q => ?_⟩
        · rw [get_set_ne _ (by omega)]; exact (hT i hi).1 (by omega)
        · by_cases z : i = v
          · subst z; rw [get_set_self _ (by omega)]
          · rw [get_set_ne _ (Ne.symm z)]; exact (hT i hi).2 (by omega)
  unfold f_insert
  refine own_Ok.ite (fun q => absurd q (ofN_nn (by omega))) fun _ => ?_
  rw [t1]
  refine own_Ok.ite (fun q => by have := (own_ltN (by omega) (by omega)).mp q; omega) fun _ => ?_
  rw [hc]
  refine own_Ok.some_bind ?_
  refine own_Ok.ite (fun q => absurd q (by decide)) fun _ => ?_
  refine own_Ok.ite (fun _ => ?_) fun q => absurd ((ofN_ltL (m := 256) (by omega) (by decide)).mpr hl) q
  refine own_Ok.let ?_
  exact key (len - p) len s (by omega) (Nat.le_refl _) (own_Fr.refl hL) (fun _ _ => rfl) (fun _ => rfl) fun i hi => ⟨fun q => t3 i q, fun q => absurd q (by omega)⟩

/-! delete -/
def own_dt (p : Nat) (tx : Nat → Int32) (i : Nat) : Int32 := if i < p then tx i else tx (i + 1)
def own_dd (p x : Nat) : Nat := if p < x then x - 1 else x
def own_kp (v j : Nat) : Nat := if j < v then j else j + 1
theorem own_So.del {len fc p v : Nat} {S E : Nat → Nat} (h : own_So len fc S E) (hp : p < len) (hv : v ≤ fc) (hn : ∀ j, j < fc → ¬ j = v → own_dd p (S j) < own_dd p (E j)) : own_So (len - 1) (if v < fc then fc - 1 else fc) (fun j => own_dd p (S (own_kp v j))) (fun j => own_dd p (E (own_kp v j))) := by
  have kb : ∀ j, j < (if v < fc then fc - 1 else fc) → own_kp v j < fc ∧ ¬ own_kp v j = v := fun j hj => by
    unfold own_kp
    by_cases z : v < fc
    · rw [if_pos z] at hj
      split <;> omega
    · rw [if_neg z] at hj
      split <;> omega
  refine ⟨fun j hj => ?_, fun i j hij hj => ?_⟩
  · obtain ⟨k1, k2⟩ := kb j hj
    have h1 := h.1 _ k1
    refine ⟨hn _ k1 k2, ?_⟩
    show own_dd p (E (own_kp v j)) ≤ len - 1
    unfold own_dd
    split <;> omega
  · obtain ⟨k1, k2⟩ := kb j hj
    have kl : own_kp v i < own_kp v j := by
      unfold own_kp
      split <;> split <;> omega
    have h1 := h.2 _ _ kl k1
    show own_dd p (E (own_kp v i)) ≤ own_dd p (S (own_kp v j))
    unfold own_dd
    split <;> split <;> omega
theorem own_d60 {s : St} {fc p v : Nat} {S E : Nat → Nat} (hL : own_L s) (hf : own_Fo s fc S E) (hp : p ≤ 256) (hb : ∀ j, j < fc → S j < E j ∧ E j ≤ 256) (hv : v ≤ fc) (hv1 : v < fc → ¬ own_dd p (S v) < own_dd p (E v)) (hn : ∀ j, j < fc → ¬ j = v → own_dd p (S j) < own_dd p (E j)) : own_Ok (fun N => f_delete_60 N (Int32.ofNat p) 0 0 s) (fun r => r.1 = 1 ∧ own_Fr [1, 2] [1, 4] s r.2 ∧ gI r.2 4 = 1 ∧ own_Fo r.2 (if v < fc then fc - 1 else fc) (fun j => own_dd p (S (own_kp v j))) (fun j => own_dd p (E (own_kp v j)))) := by
  obtain ⟨f1, f2, f3⟩ := hf
  have key : ∀ (m f w : Nat) (t : St), f + m = fc → w = (if f ≤ v then f else f - 1) → own_Fr [1, 2] [1, 4] s t → gI t 1 = gI s 1 → (∀ j, j < fc → (j < w → (gA t 1)[j]? = some (Int32.ofNat (own_dd p (S (own_kp v j)))) ∧ (gA t 2)[j]? = some (Int32.ofNat (own_dd p (E (own_kp v j))))) ∧ (f ≤ j → (gA t 1)[j]? = some (Int32.ofNat (S j)) ∧ (gA t 2)[j]? = some (Int32.ofNat (E j)))) → own_Ok (fun N => f_delete_60 N (Int32.ofNat p) (Int32.ofNat w) (Int32.ofNat f) t) (fun r => r.1 = 1 ∧ own_Fr [1, 2] [1, 4] s r.2 ∧ gI r.2 4 = 1 ∧ own_Fo r.2 (if v < fc then fc - 1 else fc) (fun j => own_dd p (S (own_kp v j))) (fun j => own_dd p (E (own_kp v j)))) := by
    intro m
    induction m with
    | zero =>
      intro f w t hf hw hF h1 hA
      obtain rfl : f = fc := by omega
      refine own_Ok.step (g := fun N => g_delete_60 (f_delete_60 N) N (Int32.ofNat p) (Int32.ofNat w) (Int32.ofNat f) t) (fun n => rfl) ?_
      unfold g_delete_60
      rw [h1, f1]
      refine own_Ok.ite (fun q => by have := (own_ltN (by omega) (by omega)).mp q; omega) fun _ => ?_
      refine own_Ok.let (own_Ok.let (own_Ok.ret ⟨rfl, (hF.sI 1 _ (by decide)).sI 4 1 (by decide), rfl, ?_, ?_, fun j hj => ?_⟩))
      · show Int32.ofNat w = _
        rw [hw]
        congr 1
        split <;> split <;> omega
      · split <;> omega
      · have wj : j < w ∧ j < f := by
          rw [hw]
          split at hj <;> split <;> omega
        exact (hA j wj.2).1 wj.1
    | succ m ih =>
      intro f w t hf hw hF h1 hA
      refine own_Ok.step (g := fun N => g_delete_60 (f_delete_60 N) N (Int32.ofNat p) (Int32.ofNat w) (Int32.ofNat f) t) (fun n => rfl) ?_
      obtain ⟨a1, a2⟩ := (hA f (by omega)).2 (Nat.le_refl _)
      obtain ⟨b1, b2⟩ := hb f (by omega)
      have l1 : (gA t 1).length = 8 := hF.1 1 (by decide)
      have l2 : (gA t 2).length = 8 := hF.1 2 (by decide)
      have wf : w ≤ f := by rw [hw]; split <;> omega
      -- the write, or not
      have go : own_Ok (fun N => f_delete_108 (f_delete_60 N) N (Int32.ofNat p) (Int32.ofNat w) (Int32.ofNat f) (Int32.ofNat (own_dd p (S f))) (Int32.ofNat (own_dd p (E f))) t) (fun r => r.1 = 1 ∧ own_Fr [1, 2] [1, 4] s r.2 ∧ gI r.2 4 = 1 ∧ own_Fo r.2 (if v < fc then fc - 1 else fc) (fun j => own_dd p (S (own_kp v j))) (fun j => own_dd p (E (own_kp v j)))) := by
        have d1 : own_dd p (S f) ≤ 256 := by unfold own_dd; split <;> omega
        have d2 : own_dd p (E f) ≤ 256 := by unfold own_dd; split <;> omega
        unfold f_delete_108 f_delete_134
        refine own_Ok.ite (fun q => ?_) fun q => ?_
        · have q := (own_ltN (by omega) (by omega)).mp q
          have fv : ¬ f = v := fun e => by subst e; exact hv1 (by omega) q
          have ek : own_kp v w = f := by
            unfold own_kp
            rw [hw]
            split <;> split <;> omega
          refine own_Ok.wrv (by omega) (by omega) ?_
          refine own_Ok.wrv (by omega) (show w < (gA t 2).length by omega) ?_
          refine own_Ok.let (own_Ok.let ?_)
          rw [ofN_succ, ofN_succ]
          refine ih (f + 1) (w + 1) _ (by omega) (by rw [hw]; split <;> split <;> omega) ((hF.wr 1 w _ (by decide)).wr 2 w _ (by decide)) h1 fun j hj => ?_
          show (j < w + 1 → ((gA t 1).set w _)[j]? = _ ∧ ((gA t 2).set w _)[j]? = _) ∧ (f + 1 ≤ j → ((gA t 1).set w _)[j]? = _ ∧ ((gA t 2).set w _)[j]? = _)
          refine ⟨fun z => ?_, fun z => ?_⟩
          · by_cases y : j = w
            · subst y
              rw [get_set_self _ (by omega), get_set_self _ (by omega), ek]
              exact ⟨rfl, rfl⟩
            · rw [get_set_ne _ (Ne.symm y), get_set_ne _ (Ne.symm y)]
              exact (hA j hj).1 (by omega)
          · rw [get_set_ne _ (by omega), get_set_ne _ (by omega)]
            exact (hA j hj).2 (by omega)
        · have q : ¬ own_dd p (S f) < own_dd p (E f) := fun e => q ((own_ltN (by omega) (by omega)).mpr e)
          have fv : f = v := by
            by_cases e : f = v
            · exact e
            · exact absurd (hn f (by omega) e) q
          refine own_Ok.let ?_
          rw [ofN_succ]
          refine ih (f + 1) w t (by omega) (by rw [hw, fv, if_pos (Nat.le_refl _), if_neg (by omega)]; omega) hF h1 fun j hj => ?_
          exact ⟨(hA j hj).1, fun z => (hA j hj).2 (by omega)⟩
      unfold g_delete_60
      rw [h1, f1]
      refine own_Ok.ite (fun _ => ?_) fun q => absurd ((own_ltN (by omega) (by omega)).mpr (by omega)) q
      refine own_Ok.rdv (by omega) a1 ?_
      refine own_Ok.rdv (by omega) a2 ?_
      refine own_Ok.ite (fun q => ?_) fun q => ?_
      · have q := (own_ltN (by omega) (by omega)).mp q
        refine own_Ok.let (own_Ok.let ?_)
        rw [own_dec _ (by omega) (by omega), own_dec _ (by omega) (by omega)]
        rw [show own_dd p (S f) = S f - 1 from if_pos q, show own_dd p (E f) = E f - 1 from if_pos (by omega)] at go
        exact go
      · have q : ¬ p < S f := fun e => q ((own_ltN (by omega) (by omega)).mpr e)
        rw [show own_dd p (S f) = S f from if_neg q] at go
        refine own_Ok.ite (fun r => ?_) fun r => ?_
        · have r := (own_ltN (by omega) (by omega)).mp r
          refine own_Ok.let ?_
          rw [own_dec _ (by omega) (by omega)]
          rw [show own_dd p (E f) = E f - 1 from if_pos r] at go
          exact go
        · have r : ¬ p < E f := fun e => r ((own_ltN (by omega) (by omega)).mpr e)
          rw [show own_dd p (E f) = E f from if_neg r] at go
          exact go
  exact key fc 0 0 s (by omega) (by rw [if_pos (Nat.zero_le _)]) (own_Fr.refl hL) rfl fun j hj => ⟨fun q => absurd q (Nat.not_lt_zero _), fun _ => f3 j hj⟩
theorem own_delV {s : St} {len fc p v : Nat} {tx : Nat → Int32} {S E : Nat → Nat} (hL : own_L s) (ht : own_Tx s len tx) (hf : own_Fo s fc S E) (hs : own_So len fc S E) (hp : p < len) (hv : v ≤ fc) (hv1 : v < fc → ¬ own_dd p (S v) < own_dd p (E v)) (hn : ∀ j, j < fc → ¬ j = v → own_dd p (S j) < own_dd p (E j)) : own_Ok (fun N => f_delete N (Int32.ofNat p) s) (fun r => r.1 = 1 ∧ own_Fr [0, 1, 2] [0, 1, 4] s r.2 ∧ gI r.2 4 = 1 ∧ own_Tx r.2 (len - 1) (own_dt p tx) ∧ own_Fo r.2 (if v < fc then fc - 1 else fc) (fun j => own_dd p (S (own_kp v j))) (fun j => own_dd p (E (own_kp v j)))) := by
  obtain ⟨t1, t2, t3⟩ := ht
  have key : ∀ (m w : Nat) (t : St), w + m = len - 1 → p ≤ w → own_Fr [0, 1, 2] [0, 1, 4] s t → (∀ j, j ≠ 0 → gA t j = gA s j) → (∀ j, gI t j = gI s j) → (∀ i, i < len → (i < w → (gA t 0)[i]? = some (own_dt p tx i)) ∧ (w ≤ i → (gA t 0)[i]? = some (tx i))) → own_Ok (fun N => f_delete_16 N (Int32.ofNat p) (Int32.ofNat w) t) (fun r => r.1 = 1 ∧ own_Fr [0, 1, 2] [0, 1, 4] s r.2 ∧ gI r.2 4 = 1 ∧ own_Tx r.2 (len - 1) (own_dt p tx) ∧ own_Fo r.2 (if v < fc then fc - 1 else fc) (fun j => own_dd p (S (own_kp v j))) (fun j => own_dd p (E (own_kp v j)))) := by
    intro m
    induction m with
    | zero =>
      intro w t hw hpw hF hA hI hT
      refine own_Ok.step (g := fun N => g_delete_16 (f_delete_16 N) N (Int32.ofNat p) (Int32.ofNat w) t) (fun n => rfl) ?_
      unfold g_delete_16
      have e0 : gI t 0 - 1 = Int32.ofNat (len - 1) := by rw [hI 0, t1]; exact own_isb len 1 (by omega) (by omega)
      rw [e0]
      refine own_Ok.ite (fun q => by have := (own_ltN (by omega) (by omega)).mp q; omega) fun _ => ?_
      refine own_Ok.let ?_
      have F1 : own_Fr [0, 1, 2] [0, 1, 4] s (sI t 0 (Int32.ofNat (len - 1))) := hF.sI 0 _ (by decide)
      have f1 : own_Fo (sI t 0 (Int32.ofNat (len - 1))) fc S E := by
        refine ⟨(hI 1).trans hf.1, hf.2.1, fun j hj => ?_⟩
        show (gA t 1)[j]? = _ ∧ (gA t 2)[j]? = _
        rw [hA 1 (by decide), hA 2 (by decide)]; exact hf.2.2 j hj
      refine (own_d60 F1.1 f1 (by omega) (fun j hj => ⟨(hs.1 j hj).1, by have := (hs.1 j hj).2; omega⟩) hv hv1 hn).mono fun r hr => ?_
      obtain ⟨r1, r2, r4, r3⟩ := hr
      refine ⟨r1, F1.trans (r2.mono (by decide) (by decide)), r4, ⟨?_, by omega, fun i hi => ?_⟩, r3⟩
      · rw [r2.2.2 0 (by decide)]; rfl
      · rw [r2.2.1 0 (by decide)]
        exact (hT i (by omega)).1 (by omega)
    | succ m ih =>
      intro w t hw hpw hF hA hI hT
      refine own_Ok.step (g := fun N => g_delete_16 (f_delete_16 N) N (Int32.ofNat p) (Int32.ofNat w) t) (fun n => rfl) ?_
      have l0 : (gA t 0).length = 256 := hF.1 0 (by decide)
      unfold g_delete_16
      have e0 : gI t 0 - 1 = Int32.ofNat (len - 1) := by rw [hI 0, t1]; exact own_isb len 1 (by omega) (by omega)
      rw [e0]
      refine own_Ok.ite (fun _ => ?_) fun q => absurd ((own_ltN (by omega) (by omega)).mpr (by omega)) q
      rw [ofN_succ]
      refine own_Ok.rdv (by omega) ((hT (w + 1) (by omega)).2 (by omega)) ?_
      refine own_Ok.wrv (by omega) (by omega) ?_
      refine own_Ok.let ?_
      refine ih (w + 1) _ (by omega) (by omega) (hF.wr 0 w _ (by decide)) (fun j hj => ?_) hI fun i hi => ?_
      · rw [gA_sA, if_neg hj]; exact hA j hj
      · show (i < w + 1 → ((gA t 0).set w _)[i]? = _) ∧ (w + 1 ≤ i → ((gA t 0).set w _)[i]? = _)
        refine ⟨fun q => ?_, fun q => ?_⟩
        · by_cases z : i = w
          · subst z
            rw [get_set_self _ (by omega)]
            unfold own_dt
            rw [if_neg (by omega)]
          · rw [get_set_ne _ (Ne.symm z)]; exact (hT i hi).1 (by omega)
        · rw [get_set_ne _ (by omega)]; exact (hT i hi).2 (by omega)
  unfold f_delete
  refine own_Ok.ite (fun q => absurd q (ofN_nn (by omega))) fun _ => ?_
  rw [t1]
  refine own_Ok.ite (fun _ => ?_) fun q => absurd ((own_ltN (by omega) (by omega)).mpr hp) q
  exact key (len - 1 - p) p s (by omega) (Nat.le_refl _) (own_Fr.refl hL) (fun _ _ => rfl) (fun _ => rfl) fun i hi => ⟨fun q => by
    rw [t3 i hi]
    unfold own_dt
    rw [if_pos q], fun _ => t3 i hi⟩
/-- at most one fold goes -/
theorem own_dvn {len fc p : Nat} {S E : Nat → Nat} (h : own_So len fc S E) : ∃ v, v ≤ fc ∧ (v < fc → ¬ own_dd p (S v) < own_dd p (E v)) ∧ ∀ j, j < fc → ¬ j = v → own_dd p (S j) < own_dd p (E j) := by
  by_cases c : ∃ v, v < fc ∧ ¬ own_dd p (S v) < own_dd p (E v)
  · obtain ⟨v, hv, hn⟩ := c
    refine ⟨v, by omega, fun _ => hn, fun j hj hjv => ?_⟩
    have a := h.1 v hv
    have b := h.1 j hj
    have o : (v < j → E v ≤ S j) ∧ (j < v → E j ≤ S v) := ⟨fun q => h.2 v j q hj, fun q => h.2 j v q hv⟩
    unfold own_dd at hn ⊢
    by_cases z1 : p < S v <;> by_cases z2 : p < E v <;> by_cases z3 : p < S j <;> by_cases z4 : p < E j
    all_goals (simp only [z1, z2, z3, z4, if_true, if_false] at hn ⊢; omega)
  · exact ⟨fc, Nat.le_refl _, fun q => absurd q (by omega), fun j hj _ => by
      by_cases q : own_dd p (S j) < own_dd p (E j)
      · exact q
      · exact absurd ⟨j, hj, q⟩ c⟩

/-! fold -/
theorem own_ovV {s : St} {fc a b : Nat} {S E : Nat → Nat} (hf : own_Fo s fc S E) (ha : a ≤ 300) (hb' : b ≤ 300) (hb : ∀ j, j < fc → S j < E j ∧ E j ≤ 256) : own_Ok (fun N => f_overlapsAny N (Int32.ofNat a) (Int32.ofNat b) s) (fun r => (r = 1 ∧ ∃ j, j < fc ∧ a < E j ∧ S j < b) ∨ (r = 0 ∧ ∀ j, j < fc → ¬ (a < E j ∧ S j < b))) := by
  obtain ⟨f1, f2, f3⟩ := hf
  have key : ∀ (m f : Nat), f + m = fc → (∀ j, j < f → ¬ (a < E j ∧ S j < b)) → own_Ok (fun N => f_overlapsAny_2 N (Int32.ofNat a) (Int32.ofNat b) (Int32.ofNat f) s) (fun r => (r = 1 ∧ ∃ j, j < fc ∧ a < E j ∧ S j < b) ∨ (r = 0 ∧ ∀ j, j < fc → ¬ (a < E j ∧ S j < b))) := by
    intro m
    induction m with
    | zero =>
      intro f hf h
      obtain rfl : f = fc := by omega
      refine own_Ok.step (g := fun N => g_overlapsAny_2 (f_overlapsAny_2 N) N (Int32.ofNat a) (Int32.ofNat b) (Int32.ofNat f) s) (fun n => rfl) ?_
      unfold g_overlapsAny_2
      rw [f1]
      exact own_Ok.ite (fun q => by have := (own_ltN (by omega) (by omega)).mp q; omega) fun _ => own_Ok.ret (Or.inr ⟨rfl, h⟩)
    | succ m ih =>
      intro f hf h
      refine own_Ok.step (g := fun N => g_overlapsAny_2 (f_overlapsAny_2 N) N (Int32.ofNat a) (Int32.ofNat b) (Int32.ofNat f) s) (fun n => rfl) ?_
      obtain ⟨a1, a2⟩ := f3 f (by omega)
      obtain ⟨b1, b2⟩ := hb f (by omega)
      unfold g_overlapsAny_2 f_overlapsAny_32
      rw [f1]
      have nx : ¬ (a < E f ∧ S f < b) → own_Ok (fun N => f_overlapsAny_2 N (Int32.ofNat a) (Int32.ofNat b) (Int32.ofNat (f + 1)) s) (fun r => (r = 1 ∧ ∃ j, j < fc ∧ a < E j ∧ S j < b) ∨ (r = 0 ∧ ∀ j, j < fc → ¬ (a < E j ∧ S j < b))) := fun q => ih (f + 1) (by omega) fun j hj => by
        by_cases z : j = f
        · rw [z]; exact q
        · exact h j (by omega)
      refine own_Ok.ite (fun _ => ?_) fun q => absurd ((own_ltN (by omega) (by omega)).mpr (by omega)) q
      refine own_Ok.rdv (by omega) a2 ?_
      refine own_Ok.ite (fun q => ?_) fun q => ?_
      · have q := (own_ltN (by omega) (by omega)).mp q
        refine own_Ok.rdv (by omega) a1 ?_
        refine own_Ok.ite (fun r => ?_) fun r => ?_
        · have r := (own_ltN (by omega) (by omega)).mp r
          exact own_Ok.ret (Or.inl ⟨rfl, f, by omega, q, r⟩)
        · refine own_Ok.let ?_
          rw [ofN_succ]
          exact nx fun e => r ((own_ltN (by omega) (by omega)).mpr e.2)
      · refine own_Ok.let ?_
        rw [ofN_succ]
        exact nx fun e => q ((own_ltN (by omega) (by omega)).mpr e.1)
  unfold f_overlapsAny
  exact key fc 0 (by omega) fun j hj => absurd hj (Nat.not_lt_zero _)
def own_fx (c a : Nat) (S : Nat → Nat) (j : Nat) : Nat := if j < c then S j else if j = c then a else S (j - 1)
theorem own_cut {len fc : Nat} {S E : Nat → Nat} (h : own_So len fc S E) (a : Nat) : ∃ c, c ≤ fc ∧ (∀ j, j < c → S j < a) ∧ ∀ j, c ≤ j → j < fc → a ≤ S j := by
  have key : ∀ f, f ≤ fc → ∃ c, c ≤ f ∧ (∀ j, j < c → S j < a) ∧ ∀ j, c ≤ j → j < f → a ≤ S j := by
    intro f
    induction f with
    | zero => intro _; exact ⟨0, Nat.le_refl _, fun j hj => absurd hj (Nat.not_lt_zero _), fun j _ hj => absurd hj (Nat.not_lt_zero _)⟩
    | succ f ih =>
      intro hf
      obtain ⟨c, c1, c2, c3⟩ := ih (by omega)
      by_cases z : S f < a
      · refine ⟨f + 1, Nat.le_refl _, fun j hj => ?_, fun j q1 q2 => by omega⟩
        by_cases y : j = f
        · rw [y]; exact z
        · have := h.2 j f (by omega) (by omega)
          have := h.1 j (by omega)
          omega
      · refine ⟨c, by omega, c2, fun j q1 q2 => ?_⟩
        by_cases y : j = f
        · rw [y]; omega
        · exact c3 j q1 (by omega)
  exact key fc (Nat.le_refl _)
theorem own_So.fold {len fc a b c : Nat} {S E : Nat → Nat} (h : own_So len fc S E) (hab : a < b) (hbl : b ≤ len) (hno : ∀ j, j < fc → ¬ (a < E j ∧ S j < b)) (hc : c ≤ fc) (c2 : ∀ j, j < c → S j < a) (c3 : ∀ j, c ≤ j → j < fc → a ≤ S j) : own_So len (fc + 1) (own_fx c a S) (own_fx c b E) := by
  refine ⟨fun j hj => ?_, fun i j hij hj => ?_⟩
  · unfold own_fx
    by_cases z : j < c
    · rw [if_pos z, if_pos z]; exact h.1 j (by omega)
    · rw [if_neg z, if_neg z]
      by_cases y : j = c
      · rw [if_pos y, if_pos y]; exact ⟨hab, hbl⟩
      · rw [if_neg y, if_neg y]; exact h.1 (j - 1) (by omega)
  · unfold own_fx
    by_cases z : j < c
    · rw [if_pos (show i < c by omega), if_pos z]; exact h.2 i j hij (by omega)
    · rw [if_neg z]
      by_cases y : j = c
      · rw [if_pos y, if_pos (show i < c by omega)]
        have q1 := hno i (by omega)
        have q2 := c2 i (by omega)
        have q3 := h.1 i (by omega)
        by_cases w : E i ≤ a
        · exact w
        · exact absurd ⟨by omega, by omega⟩ q1
      · rw [if_neg y]
        by_cases x : i < c
        · rw [if_pos x]; exact h.2 i (j - 1) (by omega) (by omega)
        · rw [if_neg x]
          by_cases w : i = c
          · rw [if_pos w]
            have q1 := hno (j - 1) (by omega)
            have q2 := c3 (j - 1) (by omega) (by omega)
            have q3 := h.1 (j - 1) (by omega)
            by_cases u : b ≤ S (j - 1)
            · exact u
            · exact absurd ⟨by omega, by omega⟩ q1
          · rw [if_neg w]; exact h.2 (i - 1) (j - 1) (by omega) (by omega)
theorem own_foldV {s : St} {len fc a b c : Nat} {tx : Nat → Int32} {S E : Nat → Nat} (hL : own_L s) (ht : own_Tx s len tx) (hf : own_Fo s fc S E) (hs : own_So len fc S E) (hab : a < b) (hbl : b ≤ len) (hno : ∀ j, j < fc → ¬ (a < E j ∧ S j < b)) (hfc : fc < 8) (hc : c ≤ fc) (c2 : ∀ j, j < c → S j < a) (c3 : ∀ j, c ≤ j → j < fc → a ≤ S j) : own_Ok (fun N => f_fold N (Int32.ofNat a) (Int32.ofNat b) s) (fun r => r.1 = 1 ∧ own_Fr [1, 2] [1, 4] s r.2 ∧ gI r.2 4 = 1 ∧ own_Fo r.2 (fc + 1) (own_fx c a S) (own_fx c b E)) := by
  have f1 := hf.1
  have f3 := hf.2.2
  have t2 := ht.2.1
  have bd : ∀ j, j < fc → S j < E j ∧ E j ≤ 256 := fun j hj => ⟨(hs.1 j hj).1, by have := (hs.1 j hj).2; omega⟩
  have k83 : ∀ (m v : Nat) (t : St), c + m = v → v ≤ fc → own_Fr [1, 2] [1, 4] s t → (∀ j, gI t j = gI s j) → (∀ j, j ≤ fc → (j < v → (gA t 1)[j]? = some (Int32.ofNat (S j)) ∧ (gA t 2)[j]? = some (Int32.ofNat (E j))) ∧ (v < j → (gA t 1)[j]? = some (Int32.ofNat (S (j - 1))) ∧ (gA t 2)[j]? = some (Int32.ofNat (E (j - 1))))) → own_Ok (fun N => f_fold_83 N (Int32.ofNat a) (Int32.ofNat b) (Int32.ofNat c) (Int32.ofNat v) t) (fun r => r.1 = 1 ∧ own_Fr [1, 2] [1, 4] s r.2 ∧ gI r.2 4 = 1 ∧ own_Fo r.2 (fc + 1) (own_fx c a S) (own_fx c b E)) := by
    intro m
    induction m with
    | zero =>
      intro v t hv hvl hF hI hA
      obtain rfl : c = v := by omega
      refine own_Ok.step (g := fun N => g_fold_83 (f_fold_83 N) N (Int32.ofNat a) (Int32.ofNat b) (Int32.ofNat c) (Int32.ofNat c) t) (fun n => rfl) ?_
      have l1 : (gA t 1).length = 8 := hF.1 1 (by decide)
      have l2 : (gA t 2).length = 8 := hF.1 2 (by decide)
      unfold g_fold_83
      refine own_Ok.ite (fun q => by have := (own_ltN (by omega) (by omega)).mp q; omega) fun _ => ?_
      refine own_Ok.wrv (by omega) (by omega) ?_
      refine own_Ok.wrv (by omega) (show c < (gA t 2).length by omega) ?_
      refine own_Ok.let (own_Ok.let (own_Ok.ret ⟨rfl, (((hF.wr 1 c _ (by decide)).wr 2 c _ (by decide)).sI 1 _ (by decide)).sI 4 1 (by decide), rfl, ?_, by omega, fun j hj => ?_⟩))
      · show gI t 1 + 1 = _
        rw [hI 1, f1, ofN_succ]
      · show ((gA t 1).set c _)[j]? = _ ∧ ((gA t 2).set c _)[j]? = _
        unfold own_fx
        by_cases z : j = c
        · subst z
          rw [get_set_self _ (by omega), get_set_self _ (by omega), if_neg (Nat.lt_irrefl _), if_neg (Nat.lt_irrefl _), if_pos rfl, if_pos rfl]
          exact ⟨rfl, rfl⟩
        · rw [get_set_ne _ (Ne.symm z), get_set_ne _ (Ne.symm z)]
          by_cases y : j < c
          · rw [if_pos y, if_pos y]; exact (hA j (by omega)).1 y
          · rw [if_neg y, if_neg y, if_neg z, if_neg z]; exact (hA j (by omega)).2 (by omega)
    | succ m ih =>
      intro v t hv hvl hF hI hA
      refine own_Ok.step (g := fun N => g_fold_83 (f_fold_83 N) N (Int32.ofNat a) (Int32.ofNat b) (Int32.ofNat c) (Int32.ofNat v) t) (fun n => rfl) ?_
      have l1 : (gA t 1).length = 8 := hF.1 1 (by decide)
      have l2 : (gA t 2).length = 8 := hF.1 2 (by decide)
      obtain ⟨a1, a2⟩ := (hA (v - 1) (by omega)).1 (by omega)
      unfold g_fold_83
      refine own_Ok.ite (fun _ => ?_) fun q => absurd ((own_ltN (by omega) (by omega)).mpr (by omega)) q
      rw [show Int32.ofNat v - 1 = Int32.ofNat (v - 1) from own_isb v 1 (by omega) (by omega)]
      refine own_Ok.rdv (by omega) a1 ?_
      refine own_Ok.wrv (by omega) (by omega) ?_
      refine own_Ok.rdv (by omega) (show (gA t 2)[v - 1]? = _ from a2) ?_
      refine own_Ok.wrv (by omega) (show v < (gA t 2).length by omega) ?_
      refine own_Ok.let ?_
      rw [own_dec v (by omega) (by omega)]
      refine ih (v - 1) _ (by omega) (by omega) ((hF.wr 1 v _ (by decide)).wr 2 v _ (by decide)) hI fun j hj => ?_
      show (j < v - 1 → ((gA t 1).set v _)[j]? = _ ∧ ((gA t 2).set v _)[j]? = _) ∧ (v - 1 < j → ((gA t 1).set v _)[j]? = _ ∧ ((gA t 2).set v _)[j]? = _)
      refine ⟨fun q => ?_, fun q => ?_⟩
      · rw [get_set_ne _ (by omega), get_set_ne _ (by omega)]; exact (hA j hj).1 (by omega)
      · by_cases z : j = v
        · subst z; rw [get_set_self _ (by omega), get_set_self _ (by omega)]; exact ⟨rfl, rfl⟩
        · rw [get_set_ne _ (Ne.symm z), get_set_ne _ (Ne.symm z)]; exact (hA j hj).2 (by omega)
  have k46 : ∀ (m f : Nat), f + m = fc → own_Ok (fun N => f_fold_46 N (Int32.ofNat a) (Int32.ofNat b) (Int32.ofNat (min f c)) (Int32.ofNat f) s) (fun r => r.1 = 1 ∧ own_Fr [1, 2] [1, 4] s r.2 ∧ gI r.2 4 = 1 ∧ own_Fo r.2 (fc + 1) (own_fx c a S) (own_fx c b E)) := by
    intro m
    induction m with
    | zero =>
      intro f hf'
      obtain rfl : f = fc := by omega
      refine own_Ok.step (g := fun N => g_fold_46 (f_fold_46 N) N (Int32.ofNat a) (Int32.ofNat b) (Int32.ofNat (min f c)) (Int32.ofNat f) s) (fun n => rfl) ?_
      unfold g_fold_46
      rw [f1]
      refine own_Ok.ite (fun q => by have := (own_ltN (by omega) (by omega)).mp q; omega) fun _ => ?_
      refine own_Ok.let ?_
      rw [show min f c = c by omega]
      exact k83 (f - c) f s (by omega) (Nat.le_refl _) (own_Fr.refl hL) (fun _ => rfl) fun j hj => ⟨fun q => f3 j q, fun q => absurd q (by omega)⟩
    | succ m ih =>
      intro f hf'
      refine own_Ok.step (g := fun N => g_fold_46 (f_fold_46 N) N (Int32.ofNat a) (Int32.ofNat b) (Int32.ofNat (min f c)) (Int32.ofNat f) s) (fun n => rfl) ?_
      obtain ⟨a1, a2⟩ := f3 f (by omega)
      have bf := bd f (by omega)
      unfold g_fold_46 f_fold_71
      rw [f1]
      refine own_Ok.ite (fun _ => ?_) fun q => absurd ((own_ltN (by omega) (by omega)).mpr (by omega)) q
      refine own_Ok.rdv (by omega) a1 ?_
      refine own_Ok.ite (fun q => ?_) fun q => ?_
      · have q := (own_ltN (by omega) (by omega)).mp q
        have fc' : f < c := by
          by_cases z : f < c
          · exact z
          · have := c3 f (by omega) (by omega); omega
        refine own_Ok.let (own_Ok.let ?_)
        rw [ofN_succ]
        have := ih (f + 1) (by omega)
        rw [show min (f + 1) c = f + 1 by omega] at this
        exact this
      · have q : ¬ S f < a := fun e => q ((own_ltN (by omega) (by omega)).mpr e)
        have fc' : ¬ f < c := fun z => q (c2 f z)
        refine own_Ok.let ?_
        rw [ofN_succ, show min f c = min (f + 1) c by omega]
        exact ih (f + 1) (by omega)
  unfold f_fold
  refine own_Ok.ite (fun q => absurd q (ofN_nn (by omega))) fun _ => ?_
  refine own_Ok.ite (fun _ => ?_) fun q => absurd ((own_ltN (by omega) (by omega)).mpr hab) q
  rw [ht.1]
  refine own_Ok.ite (fun q => by have := (own_ltN (by omega) (by omega)).mp q; omega) fun _ => ?_
  refine own_Ok.bind (own_ovV hf (by omega) (by omega) bd) fun r hr => ?_
  rcases hr with ⟨-, j, hj, h1, h2⟩ | ⟨rfl, -⟩
  · exact absurd ⟨h1, h2⟩ (hno j hj)
  refine own_Ok.ite (fun _ => ?_) fun q => absurd rfl q
  rw [f1]
  refine own_Ok.ite (fun _ => ?_) fun q => absurd ((ofN_ltL (m := 8) (by omega) (by decide)).mpr hfc) q
  have := k46 fc 0 (by omega)
  rw [Nat.zero_min] at this
  exact this
/-- a fold that is refused -/
theorem own_fold0 {s : St} {len fc a b : Nat} {tx : Nat → Int32} {S E : Nat → Nat} (ht : own_Tx s len tx) (hf : own_Fo s fc S E) (hs : own_So len fc S E) (ha : a ≤ 300) (hb : b ≤ 300) (no : ¬ (a < b ∧ b ≤ len ∧ (∀ j, j < fc → ¬ (a < E j ∧ S j < b)) ∧ fc < 8)) : own_Ok (fun N => f_fold N (Int32.ofNat a) (Int32.ofNat b) s) (· = (0, s)) := by
  have f1 := hf.1
  have t2 := ht.2.1
  have f2 := hf.2.1
  have bd : ∀ j, j < fc → S j < E j ∧ E j ≤ 256 := fun j hj => ⟨(hs.1 j hj).1, by have := (hs.1 j hj).2; omega⟩
  unfold f_fold f_fold_17
  refine own_Ok.ite (fun q => absurd q (ofN_nn (by omega))) fun _ => ?_
  refine own_Ok.ite (fun q1 => ?_) fun _ => own_Ok.ret rfl
  have q1 := (own_ltN (by omega) (by omega)).mp q1
  rw [ht.1]
  refine own_Ok.ite (fun _ => own_Ok.ret rfl) fun q2 => ?_
  have q2 : ¬ len < b := fun e => q2 ((own_ltN (by omega) (by omega)).mpr e)
  refine own_Ok.bind (own_ovV hf ha hb bd) fun r hr => ?_
  rcases hr with ⟨rfl, -⟩ | ⟨rfl, h⟩
  · exact own_Ok.ite (fun q => absurd q (by decide)) fun _ => own_Ok.ret rfl
  refine own_Ok.ite (fun _ => ?_) fun q => absurd rfl q
  rw [f1]
  refine own_Ok.ite (fun q => ?_) fun _ => own_Ok.ret rfl
  have q := (ofN_ltL (m := 8) (by omega) (by decide)).mp q
  exact absurd ⟨q1, by omega, h, q⟩ no
/-! unfold -/
theorem own_So.unf {len fc v : Nat} {S E : Nat → Nat} (h : own_So len fc S E) (hv : v < fc) : own_So len (fc - 1) (fun j => S (own_kp v j)) (fun j => E (own_kp v j)) := by
  have kb : ∀ j, j < fc - 1 → own_kp v j < fc := fun j hj => by unfold own_kp; split <;> omega
  refine ⟨fun j hj => h.1 _ (kb j hj), fun i j hij hj => h.2 _ _ ?_ (kb j hj)⟩
  unfold own_kp
  split <;> split <;> omega
theorem own_unfV {s : St} {len fc p : Nat} {tx : Nat → Int32} {S E : Nat → Nat} (hL : own_L s) (ht : own_Tx s len tx) (hf : own_Fo s fc S E) (hs : own_So len fc S E) (hp : p < len) : own_Ok (fun N => f_unfoldAt N (Int32.ofNat p) s) (fun r => (r = (0, s) ∧ ∀ j, j < fc → ¬ (S j ≤ p ∧ p < E j)) ∨ ∃ v, v < fc ∧ S v ≤ p ∧ p < E v ∧ r.1 = 1 ∧ own_Fr [1, 2] [1, 4] s r.2 ∧ gI r.2 4 = 1 ∧ own_Fo r.2 (fc - 1) (fun j => S (own_kp v j)) (fun j => E (own_kp v j))) := by
  have f1 := hf.1
  have f2 := hf.2.1
  have f3 := hf.2.2
  have t2 := ht.2.1
  have bd : ∀ j, j < fc → S j < E j ∧ E j ≤ 256 := fun j hj => ⟨(hs.1 j hj).1, by have := (hs.1 j hj).2; omega⟩
  have k62 : ∀ v, v < fc → S v ≤ p → p < E v → ∀ (m w : Nat) (t : St), w + m = fc - 1 → v ≤ w → own_Fr [1, 2] [1, 4] s t → (∀ j, gI t j = gI s j) → (∀ j, j < fc → (j < w → (gA t 1)[j]? = some (Int32.ofNat (S (own_kp v j))) ∧ (gA t 2)[j]? = some (Int32.ofNat (E (own_kp v j)))) ∧ (w ≤ j → (gA t 1)[j]? = some (Int32.ofNat (S j)) ∧ (gA t 2)[j]? = some (Int32.ofNat (E j)))) → own_Ok (fun N => f_unfoldAt_62 N (Int32.ofNat w) t) (fun r => (r = (0, s) ∧ ∀ j, j < fc → ¬ (S j ≤ p ∧ p < E j)) ∨ ∃ v, v < fc ∧ S v ≤ p ∧ p < E v ∧ r.1 = 1 ∧ own_Fr [1, 2] [1, 4] s r.2 ∧ gI r.2 4 = 1 ∧ own_Fo r.2 (fc - 1) (fun j => S (own_kp v j)) (fun j => E (own_kp v j))) := by
    intro v hv hv1 hv2 m
    induction m with
    | zero =>
      intro w t hw hvw hF hI hA
      refine own_Ok.step (g := fun N => g_unfoldAt_62 (f_unfoldAt_62 N) N (Int32.ofNat w) t) (fun n => rfl) ?_
      unfold g_unfoldAt_62
      have e0 : gI t 1 - 1 = Int32.ofNat (fc - 1) := by rw [hI 1, f1]; exact own_isb fc 1 (by omega) (by omega)
      rw [e0]
      refine own_Ok.ite (fun q => by have := (own_ltN (by omega) (by omega)).mp q; omega) fun _ => ?_
      refine own_Ok.let (own_Ok.let (own_Ok.ret (Or.inr ⟨v, hv, hv1, hv2, rfl, (hF.sI 1 _ (by decide)).sI 4 1 (by decide), rfl, rfl, by omega, fun j hj => ?_⟩)))
      exact (hA j (by omega)).1 (by omega)
    | succ m ih =>
      intro w t hw hvw hF hI hA
      refine own_Ok.step (g := fun N => g_unfoldAt_62 (f_unfoldAt_62 N) N (Int32.ofNat w) t) (fun n => rfl) ?_
      have l1 : (gA t 1).length = 8 := hF.1 1 (by decide)
      have l2 : (gA t 2).length = 8 := hF.1 2 (by decide)
      obtain ⟨a1, a2⟩ := (hA (w + 1) (by omega)).2 (by omega)
      unfold g_unfoldAt_62
      have e0 : gI t 1 - 1 = Int32.ofNat (fc - 1) := by rw [hI 1, f1]; exact own_isb fc 1 (by omega) (by omega)
      rw [e0]
      refine own_Ok.ite (fun _ => ?_) fun q => absurd ((own_ltN (by omega) (by omega)).mpr (by omega)) q
      rw [ofN_succ]
      refine own_Ok.rdv (by omega) a1 ?_
      refine own_Ok.wrv (by omega) (by omega) ?_
      refine own_Ok.rdv (by omega) (show (gA t 2)[w + 1]? = _ from a2) ?_
      refine own_Ok.wrv (by omega) (show w < (gA t 2).length by omega) ?_
      refine own_Ok.let ?_
      refine ih (w + 1) _ (by omega) (by omega) ((hF.wr 1 w _ (by decide)).wr 2 w _ (by decide)) hI fun j hj => ?_
      show (j < w + 1 → ((gA t 1).set w _)[j]? = _ ∧ ((gA t 2).set w _)[j]? = _) ∧ (w + 1 ≤ j → ((gA t 1).set w _)[j]? = _ ∧ ((gA t 2).set w _)[j]? = _)
      refine ⟨fun q => ?_, fun q => ?_⟩
      · by_cases z : j = w
        · subst z
          rw [get_set_self _ (by omega), get_set_self _ (by omega), show own_kp v j = j + 1 from if_neg (by omega)]
          exact ⟨rfl, rfl⟩
        · rw [get_set_ne _ (Ne.symm z), get_set_ne _ (Ne.symm z)]; exact (hA j hj).1 (by omega)
      · rw [get_set_ne _ (by omega), get_set_ne _ (by omega)]; exact (hA j hj).2 (by omega)
  have k18 : ∀ (m f : Nat) (x : Int32), f + m = fc → ((x = -1 ∧ ∀ j, j < f → ¬ (S j ≤ p ∧ p < E j)) ∨ ∃ v, v < fc ∧ x = Int32.ofNat v ∧ S v ≤ p ∧ p < E v) → own_Ok (fun N => f_unfoldAt_18 N (Int32.ofNat p) x (Int32.ofNat f) s) (fun r => (r = (0, s) ∧ ∀ j, j < fc → ¬ (S j ≤ p ∧ p < E j)) ∨ ∃ v, v < fc ∧ S v ≤ p ∧ p < E v ∧ r.1 = 1 ∧ own_Fr [1, 2] [1, 4] s r.2 ∧ gI r.2 4 = 1 ∧ own_Fo r.2 (fc - 1) (fun j => S (own_kp v j)) (fun j => E (own_kp v j))) := by
    intro m
    induction m with
    | zero =>
      intro f x hf' hx
      obtain rfl : f = fc := by omega
      refine own_Ok.step (g := fun N => g_unfoldAt_18 (f_unfoldAt_18 N) N (Int32.ofNat p) x (Int32.ofNat f) s) (fun n => rfl) ?_
      unfold g_unfoldAt_18
      rw [f1]
      refine own_Ok.ite (fun q => by have := (own_ltN (by omega) (by omega)).mp q; omega) fun _ => ?_
      rcases hx with ⟨rfl, hx⟩ | ⟨v, hv, rfl, v1, v2⟩
      · exact own_Ok.ite (fun _ => own_Ok.ret (Or.inl ⟨rfl, hx⟩)) fun q => absurd (by decide) q
      · refine own_Ok.ite (fun q => absurd q (ofN_nn (by omega))) fun _ => ?_
        exact k62 v hv v1 v2 (f - 1 - v) v s (by omega) (Nat.le_refl _) (own_Fr.refl hL) (fun _ => rfl) fun j hj => ⟨fun q => by
          rw [show own_kp v j = j from if_pos q]; exact f3 j hj, fun _ => f3 j hj⟩
    | succ m ih =>
      intro f x hf' hx
      refine own_Ok.step (g := fun N => g_unfoldAt_18 (f_unfoldAt_18 N) N (Int32.ofNat p) x (Int32.ofNat f) s) (fun n => rfl) ?_
      obtain ⟨a1, a2⟩ := f3 f (by omega)
      obtain ⟨b1, b2⟩ := bd f (by omega)
      unfold g_unfoldAt_18 f_unfoldAt_48
      rw [f1]
      have nx : ¬ (S f ≤ p ∧ p < E f) → own_Ok (fun N => f_unfoldAt_18 N (Int32.ofNat p) x (Int32.ofNat (f + 1)) s) _ := fun q => ih (f + 1) x (by omega) (by
        rcases hx with ⟨e, hx⟩ | hx
        · refine Or.inl ⟨e, fun j hj => ?_⟩
          by_cases z : j = f
          · rw [z]; exact q
          · exact hx j (by omega)
        · exact Or.inr hx)
      refine own_Ok.ite (fun _ => ?_) fun q => absurd ((own_ltN (by omega) (by omega)).mpr (by omega)) q
      refine own_Ok.rdv (by omega) a1 ?_
      refine own_Ok.ite (fun q => ?_) fun q => ?_
      · have q := (own_ltN (by omega) (by omega)).mp q
        refine own_Ok.let ?_
        rw [ofN_succ]
        exact nx fun e => by omega
      · have q : ¬ p < S f := fun e => q ((own_ltN (by omega) (by omega)).mpr e)
        refine own_Ok.rdv (by omega) a2 ?_
        refine own_Ok.ite (fun r => ?_) fun r => ?_
        · have r := (own_ltN (by omega) (by omega)).mp r
          refine own_Ok.let ?_
          rw [ofN_succ]
          exact ih (f + 1) _ (by omega) (Or.inr ⟨f, by omega, rfl, by omega, r⟩)
        · refine own_Ok.let ?_
          rw [ofN_succ]
          exact nx fun e => r ((own_ltN (by omega) (by omega)).mpr e.2)
  unfold f_unfoldAt
  refine own_Ok.ite (fun q => absurd q (ofN_nn (by omega))) fun _ => ?_
  rw [ht.1]
  refine own_Ok.ite (fun _ => ?_) fun q => absurd ((own_ltN (by omega) (by omega)).mpr hp) q
  exact k18 fc 0 (-1) (by omega) (Or.inl ⟨rfl, fun j hj => absurd hj (Nat.not_lt_zero _)⟩)

/-! one layout: rows within the width, the first at 0 -/
def own_Y (s0 : St) (wrap ne nr cs cw cn lc : Nat) (s : St) : Prop := own_L s ∧ (∀ j, j < 3 → gA s j = gA s0 j) ∧ (∀ j, j < 5 → gI s j = gI s0 j) ∧ gI s 5 = Int32.ofNat ne ∧ gI s 6 = Int32.ofNat nr ∧ gI s 7 = Int32.ofNat cs ∧ gI s 8 = Int32.ofNat cw ∧ (∃ fi, fi ≤ 256 ∧ gI s 9 = Int32.ofNat fi) ∧ gI s 10 = Int32.ofNat cn ∧ gI s 11 = Int32.ofNat lc ∧ (∀ j, j < nr → ∃ st w, (gA s 6)[j]? = some (Int32.ofNat st) ∧ (gA s 7)[j]? = some (Int32.ofNat w) ∧ w ≤ wrap ∧ st ≤ 256 ∧ (j = 0 ↔ st = 0)) ∧ ∀ j, j < 256 → ∃ k, k ≤ 256 ∧ (gA s 3)[j]? = some (Int32.ofNat k)
theorem own_Ycl {s0 s : St} {wrap ne nr cs cw cn lc : Nat} (h : own_Y s0 wrap ne nr cs cw cn lc s) (hn : nr < 260) (hw : cw ≤ wrap) (hc : cs ≤ 256) (h0 : nr = 0 ↔ cs = 0) : ∃ s', f_closeRow s = some s' ∧ own_Y s0 wrap ne (nr + 1) cs cw cn lc s' := by
  obtain ⟨hL, hA, hI, h5, h6, h7, h8, h9, h10, h11, hR, hE⟩ := h
  have l6 : (gA s 6).length = 260 := hL 6 (by decide)
  have l7 : (gA s 7).length = 260 := hL 7 (by decide)
  have l8 : (gA s 8).length = 260 := hL 8 (by decide)
  have l9 : (gA s 9).length = 260 := hL 9 (by decide)
  have n6 : (gI s 6).toInt = (nr : Int) := by rw [h6]; exact ofN_int (by omega)
  refine ⟨sI (sA (sA (sA (sA s 6 ((gA s 6).set nr (gI s 7))) 7 ((gA s 7).set nr (gI s 8))) 8 ((gA s 8).set nr (gI s 9))) 9 ((gA s 9).set nr (gI s 10))) 6 (gI s 6 + 1), ?_, ?_⟩
  · unfold f_closeRow f_closeRow_72
    rw [if_pos (by rw [h6]; exact (ofN_ltL (m := 260) (by omega) (by decide)).mpr (by omega))]
    refine own_sa (k := nr) n6 (by omega) ?_
    refine own_sa (k := nr) n6 (show nr < (gA s 7).length by omega) ?_
    refine own_sa (k := nr) n6 (show nr < (gA s 8).length by omega) ?_
    refine own_sa (k := nr) n6 (show nr < (gA s 9).length by omega) ?_
    rfl
  · refine ⟨(((hL.wr 6 _ _).wr 7 _ _).wr 8 _ _).wr 9 _ _, fun j hj => ?_, fun j hj => ?_, h5, ?_, h7, h8, h9, h10, h11, fun j hj => ?_, hE⟩
    · rw [← hA j hj]
      show gA (sA (sA (sA (sA s 6 _) 7 _) 8 _) 9 _) j = _
      rw [gA_sA, if_neg (by omega), gA_sA, if_neg (by omega), gA_sA, if_neg (by omega), gA_sA, if_neg (by omega)]
    · rw [gI_sI, if_neg (by omega)]; exact hI j hj
    · show gI s 6 + 1 = _
      rw [h6, ofN_succ]
    · show ∃ st w, ((gA s 6).set nr _)[j]? = _ ∧ ((gA s 7).set nr _)[j]? = _ ∧ _
      by_cases z : j = nr
      · subst z
        rw [get_set_self _ (by omega), get_set_self _ (by omega), h7, h8]
        exact ⟨cs, cw, rfl, rfl, hw, hc, h0⟩
      · rw [get_set_ne _ (Ne.symm z), get_set_ne _ (Ne.symm z)]
        exact hR j (by omega)
theorem own_Yop {s0 s : St} {wrap ne nr cs cw cn lc : Nat} (h : own_Y s0 wrap ne nr cs cw cn lc s) (hne : ne ≤ 256) (p : Nat) : ∃ s', f_openRow (Int32.ofNat p) s = some s' ∧ own_Y s0 wrap ne nr p 0 0 lc s' := by
  obtain ⟨hL, hA, hI, h5, h6, h7, h8, h9, h10, h11, hR, hE⟩ := h
  refine ⟨sI (sI (sI (sI s 7 (Int32.ofNat p)) 8 0) 9 (gI s 5)) 10 0, rfl, hL, hA, fun j hj => ?_, h5, h6, rfl, rfl, ⟨ne, hne, h5⟩, rfl, h11, hR, hE⟩
  rw [gI_sI, if_neg (by omega), gI_sI, if_neg (by omega), gI_sI, if_neg (by omega), gI_sI, if_neg (by omega)]; exact hI j hj
theorem own_Y29 {s0 s : St} {wrap ne nr cs cw cn lc : Nat} (h : own_Y s0 wrap ne nr cs cw cn lc s) (hne : ne < 256) (p q w : Nat) (hp : p ≤ 256) : ∃ s', f_addElement_29 (Int32.ofNat p) (Int32.ofNat q) (Int32.ofNat w) s = some s' ∧ own_Y s0 wrap (ne + 1) nr cs (cw + w) (cn + 1) (lc + w) s' := by
  obtain ⟨hL, hA, hI, h5, h6, h7, h8, h9, h10, h11, hR, hE⟩ := h
  have l3 : (gA s 3).length = 256 := hL 3 (by decide)
  have l4 : (gA s 4).length = 256 := hL 4 (by decide)
  have l5 : (gA s 5).length = 256 := hL 5 (by decide)
  have n5 : (gI s 5).toInt = (ne : Int) := by rw [h5]; exact ofN_int (by omega)
  refine ⟨sI (sI (sI (sI (sA (sA (sA s 3 ((gA s 3).set ne (Int32.ofNat p))) 4 ((gA s 4).set ne (Int32.ofNat q))) 5 ((gA s 5).set ne (Int32.ofNat w))) 5 (gI s 5 + 1)) 10 (gI s 10 + 1)) 8 (gI s 8 + Int32.ofNat w)) 11 (gI s 11 + Int32.ofNat w), ?_, ?_⟩
  · unfold f_addElement_29 f_addElement_89
    rw [if_pos (by rw [h5]; exact (ofN_ltL (m := 256) (by omega) (by decide)).mpr (by omega))]
    refine own_sa (k := ne) n5 (by omega) ?_
    refine own_sa (k := ne) n5 (show ne < (gA s 4).length by omega) ?_
    refine own_sa (k := ne) n5 (show ne < (gA s 5).length by omega) ?_
    rfl
  · refine ⟨((hL.wr 3 _ _).wr 4 _ _).wr 5 _ _, fun j hj => ?_, fun j hj => ?_, ?_, h6, h7, ?_, h9, ?_, ?_, hR, fun j hj => ?_⟩
    · rw [← hA j hj]
      show gA (sA (sA (sA s 3 _) 4 _) 5 _) j = _
      rw [gA_sA, if_neg (by omega), gA_sA, if_neg (by omega), gA_sA, if_neg (by omega)]
    · rw [gI_sI, if_neg (by omega), gI_sI, if_neg (by omega), gI_sI, if_neg (by omega), gI_sI, if_neg (by omega)]; exact hI j hj
    · show gI s 5 + 1 = _
      rw [h5, ofN_succ]
    · show gI s 8 + Int32.ofNat w = _
      rw [h8, ← Int32.ofNat_add]
    · show gI s 10 + 1 = _
      rw [h10, ofN_succ]
    · show gI s 11 + Int32.ofNat w = _
      rw [h11, ← Int32.ofNat_add]
    · show ∃ k, k ≤ 256 ∧ ((gA s 3).set ne _)[j]? = _
      by_cases z : j = ne
      · subst z
        rw [get_set_self _ (by omega)]
        exact ⟨p, hp, rfl⟩
      · rw [get_set_ne _ (Ne.symm z)]; exact hE j hj
/-- an element, in its row or in a new one -/
theorem own_Yadd {s0 s : St} {wrap ne nr cs cw cn lc : Nat} (h : own_Y s0 wrap ne nr cs cw cn lc s) (h3 : gI s0 3 = Int32.ofNat wrap) (hwr : 8 ≤ wrap ∧ wrap ≤ 32) (hne : ne < 256) (hn : nr < 260) (hw : cw ≤ wrap) (hc : cs ≤ 256) (h0 : nr = 0 ↔ cs = 0) (hcn : cn ≤ 256) (hz : cn = 0 → cw = 0) (p q w : Nat) (hp : p ≤ 256) (hpc : 0 < cn → 1 ≤ p) (hw8 : w ≤ 8) : ∃ s' nr' cs' cw' cn', f_addElement (Int32.ofNat p) (Int32.ofNat q) (Int32.ofNat w) s = some s' ∧ own_Y s0 wrap (ne + 1) nr' cs' cw' cn' (lc + w) s' ∧ nr ≤ nr' ∧ nr' ≤ nr + 1 ∧ cw' ≤ wrap ∧ cs' ≤ 256 ∧ (nr' = 0 ↔ cs' = 0) ∧ 0 < cn' ∧ cn' ≤ cn + 1 := by
  have h10 := h.2.2.2.2.2.2.2.2.1
  have h8 := h.2.2.2.2.2.2.1
  have e3 := h.2.2.1 3 (by decide)
  by_cases c : 0 < cn ∧ wrap < cw + w
  · obtain ⟨s1, e1, h1⟩ := own_Ycl h hn hw hc h0
    obtain ⟨s2, e2, h2⟩ := own_Yop h1 (by omega) p
    obtain ⟨s4, e4, h4⟩ := own_Y29 h2 hne p q w hp
    refine ⟨s4, nr + 1, p, 0 + w, 0 + 1, ?_, h4, by omega, by omega, by omega, hp, by have := hpc c.1; omega, by omega, by omega⟩
    unfold f_addElement
    rw [h10, e3, h3, h8, ← Int32.ofNat_add, if_pos ((ofN_gtL (m := 0) (by omega) (by decide)).mpr c.1), if_pos ((own_ltN (by omega) (by omega)).mpr c.2), e1, Option.bind_some, e2, Option.bind_some]; exact e4
  · obtain ⟨s4, e4, h4⟩ := own_Y29 h hne p q w hp
    have fit : cw + w ≤ wrap := by
      by_cases z : 0 < cn
      · omega
      · have := hz (by omega); omega
    refine ⟨s4, nr, cs, cw + w, cn + 1, ?_, h4, by omega, by omega, fit, hc, h0, by omega, by omega⟩
    unfold f_addElement
    rw [h10, e3, h3, h8, ← Int32.ofNat_add]
    by_cases z : 0 < cn
    · rw [if_pos ((ofN_gtL (m := 0) (by omega) (by decide)).mpr z), if_neg (fun q => by have := (own_ltN (by omega) (by omega)).mp q; omega)]; exact e4
    · rw [if_neg (fun q => z ((ofN_gtL (m := 0) (by omega) (by decide)).mp q))]; exact e4

/-- newlines ahead of v -/
def own_nl (tx : Nat → Int32) : Nat → Nat
  | 0 => 0
  | v + 1 => own_nl tx v + (if tx v = 10 then 1 else 0)
theorem own_fsV {s : St} {fc : Nat} {S E : Nat → Nat} (hf : own_Fo s fc S E) (hb : ∀ j, j < fc → S j < E j ∧ E j ≤ 256) (v : Nat) (hv : v ≤ 256) : own_Ok (fun N => f_foldStartingAt N (Int32.ofNat v) s) (fun r => r = -1 ∨ ∃ f, f < fc ∧ S f = v ∧ r = Int32.ofNat f) := by
  obtain ⟨f1, f2, f3⟩ := hf
  have key : ∀ (m f : Nat), f + m = fc → own_Ok (fun N => f_foldStartingAt_2 N (Int32.ofNat v) (Int32.ofNat f) s) (fun r => r = -1 ∨ ∃ f, f < fc ∧ S f = v ∧ r = Int32.ofNat f) := by
    intro m
    induction m with
    | zero =>
      intro f hf
      obtain rfl : f = fc := by omega
      refine own_Ok.step (g := fun N => g_foldStartingAt_2 (f_foldStartingAt_2 N) N (Int32.ofNat v) (Int32.ofNat f) s) (fun n => rfl) ?_
      unfold g_foldStartingAt_2
      rw [f1]
      exact own_Ok.ite (fun q => by have := (own_ltN (by omega) (by omega)).mp q; omega) fun _ => own_Ok.ret (Or.inl rfl)
    | succ m ih =>
      intro f hf
      refine own_Ok.step (g := fun N => g_foldStartingAt_2 (f_foldStartingAt_2 N) N (Int32.ofNat v) (Int32.ofNat f) s) (fun n => rfl) ?_
      have b := hb f (by omega)
      unfold g_foldStartingAt_2
      rw [f1]
      refine own_Ok.ite (fun _ => ?_) fun q => absurd ((own_ltN (by omega) (by omega)).mpr (by omega)) q
      refine own_Ok.rdv (by omega) (f3 f (by omega)).1 ?_
      refine own_Ok.ite (fun q => ?_) fun _ => ?_
      · have q := (ofN_eq (by omega) (by omega)).mp q
        exact own_Ok.ret (Or.inr ⟨f, by omega, q, rfl⟩)
      · refine own_Ok.let ?_
        rw [ofN_succ]
        exact ih (f + 1) (by omega)
  unfold f_foldStartingAt
  exact key fc 0 (by omega)
def own_Yf (s0 : St) (wrap len fc : Nat) (tx : Nat → Int32) (s : St) : Prop := ∃ ne nr cs cw cn lc, own_Y s0 wrap ne nr cs cw cn lc s ∧ 1 ≤ nr ∧ nr ≤ 258 ∧ (fc = 0 → own_nl tx len + 1 ≤ nr)
theorem own_Yla {s0 : St} {wrap tab len fc : Nat} {tx : Nat → Int32} {S E : Nat → Nat} (hT : own_Tx s0 len tx) (hF : own_Fo s0 fc S E) (hS : own_So len fc S E) (h2 : gI s0 2 = Int32.ofNat tab) (ht : 1 ≤ tab ∧ tab ≤ 8) (h3 : gI s0 3 = Int32.ofNat wrap) (hwr : 8 ≤ wrap ∧ wrap ≤ 32) : ∀ (m c v ne nr cs cw cn lc : Nat) (s : St), v + m = len → c ≤ v → ne ≤ c → nr ≤ c → cn ≤ c → lc ≤ 8 * c → cw ≤ wrap → cs ≤ 256 → (nr = 0 ↔ cs = 0) → (cn = 0 → cw = 0) → (fc = 0 → own_nl tx v ≤ nr) → own_Y s0 wrap ne nr cs cw cn lc s → own_Ok (fun N => f_layout_24 N (Int32.ofNat v) (Int32.ofNat c) s) (own_Yf s0 wrap len fc tx) := by
  obtain ⟨t1, t2, t3⟩ := hT
  have bd : ∀ j, j < fc → S j < E j ∧ E j ≤ 256 := fun j hj => ⟨(hS.1 j hj).1, by have := (hS.1 j hj).2; omega⟩
  intro m
  induction m using Nat.strongRecOn with
  | _ m ih =>
    intro c v ne nr cs cw cn lc s hv hcv hne hnr hcn hlc hcw hcs h0 hz hnl h
    refine own_Ok.step (g := fun N => g_layout_24 (f_layout_24 N) N (Int32.ofNat v) (Int32.ofNat c) s) (fun n => rfl) ?_
    have hA := h.2.1
    have hI := h.2.2.1
    have h11 := h.2.2.2.2.2.2.2.2.2.1
    have fo : own_Fo s fc S E := ⟨(hI 1 (by decide)).trans hF.1, hF.2.1, fun j hj => by rw [hA 1 (by decide), hA 2 (by decide)]; exact hF.2.2 j hj⟩
    unfold g_layout_24 f_layout_155 f_layout_161
    refine own_Ok.ite (fun q => by have := (ofN_gtL (m := 256) (by omega) (by decide)).mp q; omega) fun _ => ?_
    rw [hI 0 (by decide), t1]
    refine own_Ok.ite (fun q => ?_) fun q => ?_
    rotate_left
    · have q : ¬ v < len := fun e => q ((own_ltN (by omega) (by omega)).mpr e)
      obtain ⟨s', e, h'⟩ := own_Ycl h (by omega) hcw hcs h0
      rw [e]
      refine own_Ok.some_bind (own_Ok.ret ⟨_, _, _, _, _, _, h', by omega, by omega, fun f0 => ?_⟩)
      have := hnl f0
      rw [show v = len by omega] at this
      omega
    have q := (own_ltN (by omega) (by omega)).mp q
    refine own_Ok.bind (own_fsV fo bd v (by omega)) fun r hr => ?_
    rw [ofN_succ]
    rcases hr with rfl | ⟨f, hf, hSf, rfl⟩
    · refine own_Ok.ite (fun _ => ?_) fun q => absurd (by decide) q
      have rv : (gA s 0)[v]? = some (tx v) := by rw [hA 0 (by decide)]; exact t3 v q
      have nlS : own_nl tx (v + 1) = own_nl tx v + (if tx v = 10 then 1 else 0) := rfl
      refine own_Ok.rdv (by omega) rv ?_
      refine own_Ok.ite (fun e10 => ?_) fun e10 => ?_
      · obtain ⟨s1, e1, h1⟩ := own_Ycl h (by omega) hcw hcs h0
        obtain ⟨s2, e2, h2'⟩ := own_Yop h1 (by omega) (v + 1)
        rw [e1]
        refine own_Ok.some_bind ?_
        rw [e2]
        refine own_Ok.some_bind (own_Ok.let (own_Ok.let (own_Ok.let ?_)))
        rw [ofN_succ]
        refine ih (m - 1) (by omega) (c + 1) (v + 1) ne (nr + 1) (v + 1) 0 0 0 _ (by omega) (by omega) (by omega) (by omega) (by omega) (by omega) (by omega) (by omega) (by omega) (fun _ => rfl) (fun f0 => ?_) ?_
        · rw [nlS, if_pos e10]
          have := hnl f0; omega
        · obtain ⟨g1, g2, g3, g4, g5, g6, g7, g8, g9, g10, g11, g12⟩ := h2'
          refine ⟨g1, g2, fun j hj => ?_, g4, g5, g6, g7, g8, g9, rfl, g11, g12⟩
          rw [gI_sI, if_neg (by omega)]; exact g3 j hj
      · have nl' : fc = 0 → ∀ nr', nr ≤ nr' → own_nl tx (v + 1) ≤ nr' := fun f0 nr' hn' => by
          rw [nlS, if_neg e10]
          have := hnl f0; omega
        have add : ∀ w, w ≤ 8 → own_Ok (fun N => (f_addElement (Int32.ofNat v) (Int32.ofNat (v + 1)) (Int32.ofNat w) s).bind fun c16 => f_layout_24 N (Int32.ofNat (v + 1)) (Int32.ofNat (c + 1)) c16) (own_Yf s0 wrap len fc tx) := fun w hw => by
          obtain ⟨s', nr', cs', cw', cn', e, h', k1, k2, k3, k4, k5, k6, k7⟩ := own_Yadd h h3 hwr (by omega) (by omega) hcw hcs h0 (by omega) hz v (v + 1) w (by omega) (by omega) hw
          rw [e]
          refine own_Ok.some_bind ?_
          exact ih (m - 1) (by omega) (c + 1) (v + 1) (ne + 1) nr' cs' cw' cn' (lc + w) s' (by omega) (by omega) (by omega) (by omega) (by omega) (by omega) k3 k4 k5 (fun e => by omega) (fun f0 => nl' f0 nr' k1) h'
        refine own_Ok.rdv (by omega) rv ?_
        refine own_Ok.ite (fun _ => ?_) fun _ => ?_
        · have e2 : gI s 2 = Int32.ofNat tab := (hI 2 (by decide)).trans h2
          rw [e2]
          refine own_Ok.ite (fun q => by have := (ofN_eqL (m := 0) (by omega) (by decide)).mp q; omega) fun _ => ?_
          have mt : lc % tab < tab := Nat.mod_lt _ (by omega)
          have em : gI s 11 % Int32.ofNat tab = Int32.ofNat (lc % tab) := by
            rw [h11, x32_eq, Int32.toInt_mod, ofN_int (by omega), ofN_int (by omega), ofN_int (by omega), Int.tmod_eq_emod_of_nonneg (by omega)]; rfl
          rw [em, own_isb tab (lc % tab) (by omega) (by omega), ofN_succ]
          exact add (tab - lc % tab) (by omega)
        · rw [ofN_succ]
          exact add 1 (by omega)
    · refine own_Ok.ite (fun q => absurd q (ofN_nn (by have := hF.2.1; omega))) fun _ => ?_
      have f8 := hF.2.1
      have bf := hS.1 f hf
      refine own_Ok.rdv (by omega) (fo.2.2 f hf).2 ?_
      obtain ⟨s', nr', cs', cw', cn', e, h', k1, k2, k3, k4, k5, k6, k7⟩ := own_Yadd h h3 hwr (by omega) (by omega) hcw hcs h0 (by omega) hz v (E f) 3 (by omega) (by omega) (by omega)
      have e : f_addElement (Int32.ofNat v) (Int32.ofNat (E f)) 3 s = some s' := e
      rw [e]
      refine own_Ok.some_bind (own_Ok.let ?_)
      rw [ofN_succ]
      exact ih (len - E f) (by omega) (c + 1) (E f) (ne + 1) nr' cs' cw' cn' (lc + 3) s' (by omega) (by omega) (by omega) (by omega) (by omega) (by omega) k3 k4 k5 (fun e => by omega) (fun f0 => by omega) h'

/-! the layout as a plain thing: elements one behind the other, rows that cut them -/
def own_ws (eW : Nat → Nat) (a : Nat) : Nat → Nat
  | 0 => 0
  | k + 1 => own_ws eW a k + eW (a + k)
theorem own_wsc {eW eV : Nat → Nat} {a : Nat} : ∀ {k : Nat}, (∀ j, j < a + k → eW j = eV j) → own_ws eW a k = own_ws eV a k
  | 0, _ => rfl
  | k + 1, h => by
    show own_ws eW a k + eW (a + k) = own_ws eV a k + eV (a + k)
    rw [own_wsc (k := k) fun j hj => h j (by omega), h (a + k) (by omega)]
theorem own_wsm (eW : Nat → Nat) (a i : Nat) : ∀ k, own_ws eW a i ≤ own_ws eW a (i + k)
  | 0 => Nat.le_refl _
  | k + 1 => Nat.le_trans (own_wsm eW a i k) (Nat.le_add_right _ _)
theorem own_last (P : Nat → Prop) (h0 : P 0) : ∀ n, ∃ r, r ≤ n ∧ P r ∧ ∀ x, r < x → x ≤ n → ¬ P x
  | 0 => ⟨0, Nat.le_refl _, h0, fun x h1 h2 => by omega⟩
  | n + 1 => by
    by_cases h : P (n + 1)
    · exact ⟨n + 1, Nat.le_refl _, h, fun x h1 h2 => by omega⟩
    · obtain ⟨r, r1, r2, r3⟩ := own_last P h0 n
      refine ⟨r, by omega, r2, fun x h1 h2 => ?_⟩
      by_cases e : x = n + 1
      · rw [e]; exact h
      · exact r3 x h1 (by omega)
def own_X (eE rS rF rN : Nat → Nat) (r : Nat) : Nat := if rN r = 0 then rS r else eE (rF r + rN r - 1)
def own_Z (wrap v ne nr fc : Nat) (S E eS eE eW rS rF rN : Nat → Nat) : Prop :=
  rS 0 = 0 ∧ rF nr + rN nr = ne ∧ own_X eE rS rF rN nr = v ∧
  (∀ r, r ≤ nr → rF r + rN r ≤ ne ∧ rS r ≤ v ∧ own_ws eW (rF r) (rN r) ≤ wrap ∧ (0 < rN r → eS (rF r) = rS r) ∧ ∀ i, i + 1 < rN r → eE (rF r + i) = eS (rF r + i + 1)) ∧
  (∀ r, r < nr → rS r < rS (r + 1) ∧ rS (r + 1) ≤ own_X eE rS rF rN r + 1) ∧
  (∀ j, j < ne → eS j < eE j ∧ 1 ≤ eW j ∧ eE j ≤ v ∧ (eE j = eS j + 1 ∨ ∃ f, f < fc ∧ S f = eS j ∧ E f = eE j)) ∧
  ∀ i j, i < j → j < ne → eE i ≤ eS j
theorem own_up (f : Nat → Nat) (i x : Nat) : Jvm.Own.upd f i x i = x := by unfold Jvm.Own.upd; simp
theorem own_un (f : Nat → Nat) {i j : Nat} (x : Nat) (h : j ≠ i) : Jvm.Own.upd f i x j = f j := by unfold Jvm.Own.upd; simp [h]
theorem own_Z.row {wrap v ne nr fc : Nat} {S E eS eE eW rS rF rN : Nat → Nat} (h : own_Z wrap v ne nr fc S E eS eE eW rS rF rN) (p : Nat) (hp : (p = v ∧ 0 < rN nr) ∨ p = v + 1) : own_Z wrap p ne (nr + 1) fc S E eS eE eW (Jvm.Own.upd rS (nr + 1) p) (Jvm.Own.upd rF (nr + 1) ne) (Jvm.Own.upd rN (nr + 1) 0) := by
  obtain ⟨h1, h2, h3, h4, h5, h6, h7⟩ := h
  have xe : ∀ r, r ≤ nr → own_X eE (Jvm.Own.upd rS (nr + 1) p) (Jvm.Own.upd rF (nr + 1) ne) (Jvm.Own.upd rN (nr + 1) 0) r = own_X eE rS rF rN r := fun r hr => by
    unfold own_X
    rw [own_un _ _ (by omega), own_un _ _ (by omega), own_un _ _ (by omega)]
  refine ⟨by rw [own_un _ _ (by omega)]; exact h1, by rw [own_up, own_up]; omega, by unfold own_X; rw [own_up, own_up, if_pos rfl], fun r hr => ?_, fun r hr => ?_, fun j hj => ?_, h7⟩
  · by_cases e : r = nr + 1
    · subst e
      rw [own_up, own_up, own_up]
      exact ⟨by omega, Nat.le_refl _, Nat.zero_le _, fun q => absurd q (by omega), fun i q => absurd q (by omega)⟩
    · rw [own_un _ _ e, own_un _ _ e, own_un _ _ e]
      obtain ⟨a1, a2, a3, a4, a5⟩ := h4 r (by omega)
      exact ⟨a1, by omega, a3, a4, a5⟩
  · rw [xe r (by omega)]
    by_cases e : r = nr
    · subst e
      rw [own_up, own_un _ _ (by omega)]
      obtain ⟨a1, a2, a3, a4, a5⟩ := h4 r (by omega)
      refine ⟨?_, by omega⟩
      rcases hp with ⟨rfl, q⟩ | rfl
      · have b4 := a4 q
        rw [← h3]
        unfold own_X
        rw [if_neg (by omega)]
        by_cases z : rN r = 1
        · rw [z, show rF r + 1 - 1 = rF r by omega]; have := (h6 (rF r) (by omega)).1; omega
        · have c1 := (h6 (rF r) (by omega)).1
          have c2 := (h6 (rF r + rN r - 1) (by omega)).1
          have c3 := h7 (rF r) (rF r + rN r - 1) (by omega) (by omega)
          omega
      · omega
    · rw [own_un _ _ (by omega), own_un _ _ (by omega)]
      exact h5 r (by omega)
  · obtain ⟨a1, a2, a3, a4⟩ := h6 j hj
    exact ⟨a1, a2, by omega, a4⟩
theorem own_Z.add {wrap v ne nr fc : Nat} {S E eS eE eW rS rF rN : Nat → Nat} (h : own_Z wrap v ne nr fc S E eS eE eW rS rF rN) (v' w : Nat) (hv : v < v') (hw : 1 ≤ w) (fit : own_ws eW (rF nr) (rN nr) + w ≤ wrap) (hf : v' = v + 1 ∨ ∃ f, f < fc ∧ S f = v ∧ E f = v') : own_Z wrap v' (ne + 1) nr fc S E (Jvm.Own.upd eS ne v) (Jvm.Own.upd eE ne v') (Jvm.Own.upd eW ne w) rS rF (Jvm.Own.upd rN nr (rN nr + 1)) := by
  obtain ⟨h1, h2, h3, h4, h5, h6, h7⟩ := h
  have lo : ∀ j, j < ne → eE j ≤ v := fun j hj => (h6 j hj).2.2.1
  refine ⟨h1, by rw [own_up]; omega, by unfold own_X; rw [own_up, if_neg (by omega), show rF nr + (rN nr + 1) - 1 = ne by omega, own_up], fun r hr => ?_, fun r hr => ?_, fun j hj => ?_, fun i j hij hj => ?_⟩
  · obtain ⟨a1, a2, a3, a4, a5⟩ := h4 r hr
    by_cases e : r = nr
    · subst e
      rw [own_up]
      refine ⟨by omega, by omega, ?_, fun _ => ?_, fun i hi => ?_⟩
      · show own_ws _ (rF r) (rN r) + Jvm.Own.upd eW ne w (rF r + rN r) ≤ wrap
        rw [own_wsc (eV := eW) fun j hj => own_un _ _ (by omega), h2, own_up]; exact fit
      · by_cases z : 0 < rN r
        · rw [own_un _ _ (by omega)]; exact a4 z
        · rw [show rF r = ne by omega, own_up, ← h3]
          unfold own_X
          rw [if_pos (by omega)]
      · by_cases z : i + 1 < rN r
        · rw [own_un _ _ (by omega), own_un _ _ (by omega)]; exact a5 i z
        · rw [own_un _ _ (by omega), show rF r + i + 1 = ne by omega, own_up, ← h3]
          unfold own_X
          rw [if_neg (by omega), show rF r + rN r - 1 = rF r + i by omega]
    · rw [own_un _ _ e]
      refine ⟨by omega, by omega, by rw [own_wsc (eV := eW) fun j hj => own_un _ _ (by omega)]; exact a3, fun z => by rw [own_un _ _ (by omega)]; exact a4 z, fun i hi => ?_⟩
      rw [own_un _ _ (by omega), own_un _ _ (by omega)]; exact a5 i hi
  · obtain ⟨a1, -⟩ := h4 r (by omega)
    have := h5 r hr
    refine ⟨this.1, ?_⟩
    have := this.2
    unfold own_X at this ⊢
    rw [own_un _ _ (by omega)]
    by_cases z : rN r = 0
    · rw [if_pos z] at this ⊢; exact this
    · rw [if_neg z] at this ⊢; rw [own_un _ _ (by omega)]; exact this
  · by_cases e : j = ne
    · subst e
      rw [own_up, own_up, own_up]
      refine ⟨hv, hw, Nat.le_refl _, ?_⟩
      rcases hf with e | ⟨f, f1, f2, f3⟩
      · exact .inl e
      · exact .inr ⟨f, f1, f2, f3⟩
    · rw [own_un _ _ e, own_un _ _ e, own_un _ _ e]
      obtain ⟨b1, b2, b3, b4⟩ := h6 j (by omega)
      exact ⟨b1, b2, by omega, b4⟩
  · rw [own_un _ _ (by omega)]
    by_cases e : j = ne
    · subst e
      rw [own_up]; exact lo i hij
    · rw [own_un _ _ e]; exact h7 i j hij (by omega)
/-- where a position lies -/
theorem own_Z.loc {wrap len ne nr fc : Nat} {S E eS eE eW rS rF rN : Nat → Nat} (h : own_Z wrap len ne nr fc S E eS eE eW rS rF rN) (q : Nat) (hq : q ≤ len) (hn : ∀ f, f < fc → ¬ (S f < q ∧ q < E f)) (r : Nat) (hr : r ≤ nr) (g1 : rS r ≤ q) (g2 : ∀ x, r < x → x ≤ nr → ¬ rS x ≤ q) : ∃ k, k ≤ rN r ∧ (∀ i, i < k → eS (rF r + i) < q) ∧ (∀ i, k ≤ i → i < rN r → q ≤ eS (rF r + i)) ∧ (k < rN r → eS (rF r + k) = q) ∧ (k = rN r → own_X eE rS rF rN r = q) := by
  obtain ⟨h1, h2, h3, h4, h5, h6, h7⟩ := h
  obtain ⟨a1, a2, a3, a4, a5⟩ := h4 r hr
  have qX : q ≤ own_X eE rS rF rN r := by
    by_cases e : r = nr
    · rw [e, h3]; exact hq
    · have := h5 r (by omega)
      have := g2 (r + 1) (by omega) (by omega)
      omega
  by_cases eq : own_X eE rS rF rN r = q
  · refine ⟨rN r, Nat.le_refl _, fun i hi => ?_, fun i h1 h2 => absurd h1 (by omega), fun q => absurd q (by omega), fun _ => eq⟩
    rw [← eq]
    unfold own_X
    rw [if_neg (by omega)]
    have c1 := (h6 (rF r + i) (by omega)).1
    by_cases z : i = rN r - 1
    · rw [z] at c1 ⊢
      rw [show rF r + rN r - 1 = rF r + (rN r - 1) by omega]; exact c1
    · have c2 := (h6 (rF r + rN r - 1) (by omega)).1
      have c3 := h7 (rF r + i) (rF r + rN r - 1) (by omega) (by omega)
      omega
  · have np : 0 < rN r := by
      by_cases z : rN r = 0
      · unfold own_X at qX eq
        rw [if_pos z] at qX eq
        omega
      · omega
    obtain ⟨k, k1, k2, k3⟩ := own_last (fun i => eS (rF r + i) ≤ q) (by show eS (rF r + 0) ≤ q; rw [Nat.add_zero, a4 np]; exact g1) (rN r - 1)
    have up : q < eE (rF r + k) := by
      by_cases z : k + 1 < rN r
      · rw [a5 k z]
        have := k3 (k + 1) (by omega) (by omega)
        have : ¬ eS (rF r + k + 1) ≤ q := this
        omega
      · have : own_X eE rS rF rN r = eE (rF r + k) := by
          unfold own_X
          rw [if_neg (by omega), show rF r + rN r - 1 = rF r + k by omega]
        omega
    have c := h6 (rF r + k) (by omega)
    have k2 : eS (rF r + k) ≤ q := k2
    have eqs : eS (rF r + k) = q := by
      rcases c.2.2.2 with e | ⟨f, f1, f2, f3⟩
      · omega
      · have := hn f f1; omega
    refine ⟨k, by omega, fun i hi => ?_, fun i x1 x2 => ?_, fun _ => eqs, fun z => by omega⟩
    · have c1 := (h6 (rF r + i) (by omega)).1
      have c3 := h7 (rF r + i) (rF r + k) (by omega) (by omega)
      omega
    · have c1 := c.1
      clear c
      by_cases z : i = k
      · rw [z]; omega
      · have c3 := h7 (rF r + k) (rF r + i) (by omega) (by omega)
        omega

/-! the layout's run -/
def own_C (s0 : St) (ne nr lc : Nat) (eS eE eW rS rF rN : Nat → Nat) (s : St) : Prop := own_L s ∧ (∀ j, j < 3 → gA s j = gA s0 j) ∧ (∀ j, j < 5 → gI s j = gI s0 j) ∧ gI s 5 = Int32.ofNat ne ∧ gI s 6 = Int32.ofNat nr ∧ gI s 11 = Int32.ofNat lc ∧ (∀ j, j < ne → (gA s 3)[j]? = some (Int32.ofNat (eS j)) ∧ (gA s 4)[j]? = some (Int32.ofNat (eE j)) ∧ (gA s 5)[j]? = some (Int32.ofNat (eW j))) ∧ ∀ r, r < nr → (gA s 6)[r]? = some (Int32.ofNat (rS r)) ∧ (gA s 8)[r]? = some (Int32.ofNat (rF r)) ∧ (gA s 9)[r]? = some (Int32.ofNat (rN r))
def own_T (s0 : St) (ne nr lc : Nat) (eS eE eW rS rF rN : Nat → Nat) (s : St) : Prop := own_C s0 ne nr lc eS eE eW rS rF rN s ∧ gI s 7 = Int32.ofNat (rS nr) ∧ gI s 8 = Int32.ofNat (own_ws eW (rF nr) (rN nr)) ∧ gI s 9 = Int32.ofNat (rF nr) ∧ gI s 10 = Int32.ofNat (rN nr)
theorem own_Tcl {s0 s : St} {ne nr lc : Nat} {eS eE eW rS rF rN : Nat → Nat} (h : own_T s0 ne nr lc eS eE eW rS rF rN s) (hn : nr < 260) : ∃ s', f_closeRow s = some s' ∧ own_C s0 ne (nr + 1) lc eS eE eW rS rF rN s' := by
  obtain ⟨⟨hL, hA, hI, h5, h6, h11, hE, hR⟩, h7, h8, h9, h10⟩ := h
  have l6 : (gA s 6).length = 260 := hL 6 (by decide)
  have l7 : (gA s 7).length = 260 := hL 7 (by decide)
  have l8 : (gA s 8).length = 260 := hL 8 (by decide)
  have l9 : (gA s 9).length = 260 := hL 9 (by decide)
  have n6 : (gI s 6).toInt = (nr : Int) := by rw [h6]; exact ofN_int (by omega)
  refine ⟨sI (sA (sA (sA (sA s 6 ((gA s 6).set nr (gI s 7))) 7 ((gA s 7).set nr (gI s 8))) 8 ((gA s 8).set nr (gI s 9))) 9 ((gA s 9).set nr (gI s 10))) 6 (gI s 6 + 1), ?_, ?_⟩
  · unfold f_closeRow f_closeRow_72
    rw [if_pos (by rw [h6]; exact (ofN_ltL (m := 260) (by omega) (by decide)).mpr (by omega))]
    refine own_sa (k := nr) n6 (by omega) ?_
    refine own_sa (k := nr) n6 (show nr < (gA s 7).length by omega) ?_
    refine own_sa (k := nr) n6 (show nr < (gA s 8).length by omega) ?_
    refine own_sa (k := nr) n6 (show nr < (gA s 9).length by omega) ?_
    rfl
  · refine ⟨(((hL.wr 6 _ _).wr 7 _ _).wr 8 _ _).wr 9 _ _, fun j hj => ?_, fun j hj => ?_, h5, ?_, h11, hE, fun j hj => ?_⟩
    · rw [← hA j hj]
      show gA (sA (sA (sA (sA s 6 _) 7 _) 8 _) 9 _) j = _
      rw [gA_sA, if_neg (by omega), gA_sA, if_neg (by omega), gA_sA, if_neg (by omega), gA_sA, if_neg (by omega)]
    · rw [gI_sI, if_neg (by omega)]; exact hI j hj
    · show gI s 6 + 1 = _
      rw [h6, ofN_succ]
    · show ((gA s 6).set nr _)[j]? = _ ∧ ((gA s 8).set nr _)[j]? = _ ∧ ((gA s 9).set nr _)[j]? = _
      by_cases z : j = nr
      · subst z
        rw [get_set_self _ (by omega), get_set_self _ (by omega), get_set_self _ (by omega), h7, h9, h10]
        exact ⟨rfl, rfl, rfl⟩
      · rw [get_set_ne _ (Ne.symm z), get_set_ne _ (Ne.symm z), get_set_ne _ (Ne.symm z)]
        exact hR j (by omega)
theorem own_Top {s0 s : St} {ne nr lc : Nat} {eS eE eW rS rF rN : Nat → Nat} (h : own_C s0 ne (nr + 1) lc eS eE eW rS rF rN s) (p : Nat) : ∃ s', f_openRow (Int32.ofNat p) s = some s' ∧ own_T s0 ne (nr + 1) lc eS eE eW (Jvm.Own.upd rS (nr + 1) p) (Jvm.Own.upd rF (nr + 1) ne) (Jvm.Own.upd rN (nr + 1) 0) s' := by
  obtain ⟨hL, hA, hI, h5, h6, h11, hE, hR⟩ := h
  refine ⟨sI (sI (sI (sI s 7 (Int32.ofNat p)) 8 0) 9 (gI s 5)) 10 0, rfl, ⟨hL, hA, fun j hj => ?_, h5, h6, h11, hE, fun r hr => ?_⟩, ?_, ?_, ?_, ?_⟩
  · rw [gI_sI, if_neg (by omega), gI_sI, if_neg (by omega), gI_sI, if_neg (by omega), gI_sI, if_neg (by omega)]; exact hI j hj
  · rw [own_un _ _ (by omega), own_un _ _ (by omega), own_un _ _ (by omega)]; exact hR r hr
  · rw [own_up]; rfl
  · rw [own_up, own_up]; rfl
  · rw [own_up]; exact h5
  · rw [own_up]; rfl
theorem own_T29 {s0 s : St} {ne nr lc : Nat} {eS eE eW rS rF rN : Nat → Nat} (h : own_T s0 ne nr lc eS eE eW rS rF rN s) (hf : rF nr + rN nr = ne) (hne : ne < 256) (p q w : Nat) : ∃ s', f_addElement_29 (Int32.ofNat p) (Int32.ofNat q) (Int32.ofNat w) s = some s' ∧ own_T s0 (ne + 1) nr (lc + w) (Jvm.Own.upd eS ne p) (Jvm.Own.upd eE ne q) (Jvm.Own.upd eW ne w) rS rF (Jvm.Own.upd rN nr (rN nr + 1)) s' := by
  obtain ⟨⟨hL, hA, hI, h5, h6, h11, hE, hR⟩, h7, h8, h9, h10⟩ := h
  have l3 : (gA s 3).length = 256 := hL 3 (by decide)
  have l4 : (gA s 4).length = 256 := hL 4 (by decide)
  have l5 : (gA s 5).length = 256 := hL 5 (by decide)
  have n5 : (gI s 5).toInt = (ne : Int) := by rw [h5]; exact ofN_int (by omega)
  refine ⟨sI (sI (sI (sI (sA (sA (sA s 3 ((gA s 3).set ne (Int32.ofNat p))) 4 ((gA s 4).set ne (Int32.ofNat q))) 5 ((gA s 5).set ne (Int32.ofNat w))) 5 (gI s 5 + 1)) 10 (gI s 10 + 1)) 8 (gI s 8 + Int32.ofNat w)) 11 (gI s 11 + Int32.ofNat w), ?_, ⟨((hL.wr 3 _ _).wr 4 _ _).wr 5 _ _, fun j hj => ?_, fun j hj => ?_, ?_, h6, ?_, fun j hj => ?_, fun r hr => ?_⟩, h7, ?_, h9, ?_⟩
  · unfold f_addElement_29 f_addElement_89
    rw [if_pos (by rw [h5]; exact (ofN_ltL (m := 256) (by omega) (by decide)).mpr (by omega))]
    refine own_sa (k := ne) n5 (by omega) ?_
    refine own_sa (k := ne) n5 (show ne < (gA s 4).length by omega) ?_
    refine own_sa (k := ne) n5 (show ne < (gA s 5).length by omega) ?_
    rfl
  · rw [← hA j hj]
    show gA (sA (sA (sA s 3 _) 4 _) 5 _) j = _
    rw [gA_sA, if_neg (by omega), gA_sA, if_neg (by omega), gA_sA, if_neg (by omega)]
  · rw [gI_sI, if_neg (by omega), gI_sI, if_neg (by omega), gI_sI, if_neg (by omega), gI_sI, if_neg (by omega)]; exact hI j hj
  · show gI s 5 + 1 = _
    rw [h5, ofN_succ]
  · show gI s 11 + Int32.ofNat w = _
    rw [h11, ← Int32.ofNat_add]
  · show ((gA s 3).set ne _)[j]? = _ ∧ ((gA s 4).set ne _)[j]? = _ ∧ ((gA s 5).set ne _)[j]? = _
    by_cases z : j = ne
    · subst z
      rw [get_set_self _ (by omega), get_set_self _ (by omega), get_set_self _ (by omega), own_up, own_up, own_up]
      exact ⟨rfl, rfl, rfl⟩
    · rw [get_set_ne _ (Ne.symm z), get_set_ne _ (Ne.symm z), get_set_ne _ (Ne.symm z), own_un _ _ z, own_un _ _ z, own_un _ _ z]
      exact hE j (by omega)
  · rw [own_un _ _ (by omega)]; exact hR r hr
  · show gI s 8 + Int32.ofNat w = _
    rw [h8, ← Int32.ofNat_add, own_up]
    congr 1
    show _ = own_ws _ (rF nr) (rN nr) + Jvm.Own.upd eW ne w (rF nr + rN nr)
    rw [own_wsc (eV := eW) fun j hj => own_un _ _ (by omega), hf, own_up]
  · show gI s 10 + 1 = _
    rw [h10, ofN_succ, own_up]
def own_G (s0 : St) (wrap v ne nr lc fc : Nat) (S E : Nat → Nat) (s : St) : Prop := ∃ eS eE eW rS rF rN, own_T s0 ne nr lc eS eE eW rS rF rN s ∧ own_Z wrap v ne nr fc S E eS eE eW rS rF rN
theorem own_Gad {s0 s : St} {wrap v ne nr lc fc : Nat} {S E : Nat → Nat} (h : own_G s0 wrap v ne nr lc fc S E s) (h3 : gI s0 3 = Int32.ofNat wrap) (hwr : 8 ≤ wrap ∧ wrap ≤ 32) (hne : ne < 256) (hn : nr < 260) (v' w : Nat) (hv : v < v') (hw : 1 ≤ w ∧ w ≤ 8) (hf : v' = v + 1 ∨ ∃ f, f < fc ∧ S f = v ∧ E f = v') : ∃ s' nr', f_addElement (Int32.ofNat v) (Int32.ofNat v') (Int32.ofNat w) s = some s' ∧ own_G s0 wrap v' (ne + 1) nr' (lc + w) fc S E s' ∧ nr' ≤ nr + 1 := by
  obtain ⟨eS, eE, eW, rS, rF, rN, hT, hZ⟩ := h
  have h8 := hT.2.2.1
  have h10 := hT.2.2.2.2
  have e3 := hT.1.2.2.1 3 (by decide)
  have z2 := hZ.2.1
  have z4 := (hZ.2.2.2.1 nr (Nat.le_refl _)).2.2.1
  by_cases c : 0 < rN nr ∧ wrap < own_ws eW (rF nr) (rN nr) + w
  · obtain ⟨s1, e1, t1⟩ := own_Tcl hT hn
    obtain ⟨s2, e2, t2⟩ := own_Top t1 v
    have Z2 := hZ.row v (.inl ⟨rfl, c.1⟩)
    obtain ⟨s4, e4, t4⟩ := own_T29 t2 Z2.2.1 hne v v' w
    refine ⟨s4, nr + 1, ?_, ⟨_, _, _, _, _, _, t4, Z2.add v' w hv hw.1 ?_ hf⟩, Nat.le_refl _⟩
    · unfold f_addElement
      rw [h10, e3, h3, h8, ← Int32.ofNat_add, if_pos ((ofN_gtL (m := 0) (by omega) (by decide)).mpr c.1), if_pos ((own_ltN (by omega) (by omega)).mpr c.2), e1, Option.bind_some, e2, Option.bind_some]; exact e4
    · rw [own_up, own_up]
      show 0 + w ≤ wrap
      omega
  · obtain ⟨s4, e4, t4⟩ := own_T29 hT z2 hne v v' w
    have fit : own_ws eW (rF nr) (rN nr) + w ≤ wrap := by
      by_cases z : 0 < rN nr
      · omega
      · rw [show rN nr = 0 by omega]; show 0 + w ≤ wrap; omega
    refine ⟨s4, nr, ?_, ⟨_, _, _, _, _, _, t4, hZ.add v' w hv hw.1 fit hf⟩, by omega⟩
    unfold f_addElement
    rw [h10, e3, h3, h8, ← Int32.ofNat_add]
    by_cases z : 0 < rN nr
    · rw [if_pos ((ofN_gtL (m := 0) (by omega) (by decide)).mpr z), if_neg (fun q => by have := (own_ltN (by omega) (by omega)).mp q; omega)]; exact e4
    · rw [if_neg (fun q => z ((ofN_gtL (m := 0) (by omega) (by decide)).mp q))]; exact e4
def own_Gf (s0 : St) (wrap len fc : Nat) (S E : Nat → Nat) (s : St) : Prop := ∃ ne nr lc eS eE eW rS rF rN, own_C s0 ne (nr + 1) lc eS eE eW rS rF rN s ∧ own_Z wrap len ne nr fc S E eS eE eW rS rF rN ∧ ne ≤ 256 ∧ nr ≤ 256
theorem own_Gla {s0 : St} {wrap tab len fc : Nat} {tx : Nat → Int32} {S E : Nat → Nat} (hT : own_Tx s0 len tx) (hF : own_Fo s0 fc S E) (hS : own_So len fc S E) (h2 : gI s0 2 = Int32.ofNat tab) (ht : 1 ≤ tab ∧ tab ≤ 8) (h3 : gI s0 3 = Int32.ofNat wrap) (hwr : 8 ≤ wrap ∧ wrap ≤ 32) : ∀ (m c v ne nr lc : Nat) (s : St), v + m = len → c ≤ v → ne ≤ c → nr ≤ c → lc ≤ 8 * c → own_G s0 wrap v ne nr lc fc S E s → own_Ok (fun N => f_layout_24 N (Int32.ofNat v) (Int32.ofNat c) s) (own_Gf s0 wrap len fc S E) := by
  obtain ⟨t1, t2, t3⟩ := hT
  have bd : ∀ j, j < fc → S j < E j ∧ E j ≤ 256 := fun j hj => ⟨(hS.1 j hj).1, by have := (hS.1 j hj).2; omega⟩
  intro m
  induction m using Nat.strongRecOn with
  | _ m ih =>
    intro c v ne nr lc s hv hcv hne hnr hlc h
    refine own_Ok.step (g := fun N => g_layout_24 (f_layout_24 N) N (Int32.ofNat v) (Int32.ofNat c) s) (fun n => rfl) ?_
    obtain ⟨eS, eE, eW, rS, rF, rN, hT, hZ⟩ := h
    have hA := hT.1.2.1
    have hI := hT.1.2.2.1
    have h11 := hT.1.2.2.2.2.2.1
    have fo : own_Fo s fc S E := ⟨(hI 1 (by decide)).trans hF.1, hF.2.1, fun j hj => by rw [hA 1 (by decide), hA 2 (by decide)]; exact hF.2.2 j hj⟩
    unfold g_layout_24 f_layout_155 f_layout_161
    refine own_Ok.ite (fun q => by have := (ofN_gtL (m := 256) (by omega) (by decide)).mp q; omega) fun _ => ?_
    rw [hI 0 (by decide), t1]
    refine own_Ok.ite (fun q => ?_) fun q => ?_
    rotate_left
    · have q : ¬ v < len := fun e => q ((own_ltN (by omega) (by omega)).mpr e)
      obtain ⟨s', e, h'⟩ := own_Tcl hT (by omega)
      rw [e]
      obtain rfl : v = len := by omega
      exact own_Ok.some_bind (own_Ok.ret ⟨_, _, _, _, _, _, _, _, _, h', hZ, by omega, by omega⟩)
    have q := (own_ltN (by omega) (by omega)).mp q
    refine own_Ok.bind (own_fsV fo bd v (by omega)) fun r hr => ?_
    rw [ofN_succ]
    rcases hr with rfl | ⟨f, hf, hSf, rfl⟩
    · refine own_Ok.ite (fun _ => ?_) fun q => absurd (by decide) q
      have rv : (gA s 0)[v]? = some (tx v) := by rw [hA 0 (by decide)]; exact t3 v q
      refine own_Ok.rdv (by omega) rv ?_
      refine own_Ok.ite (fun e10 => ?_) fun e10 => ?_
      · obtain ⟨s1, e1, h1⟩ := own_Tcl hT (by omega)
        obtain ⟨s2, e2, h2'⟩ := own_Top h1 (v + 1)
        rw [e1]
        refine own_Ok.some_bind ?_
        rw [e2]
        refine own_Ok.some_bind (own_Ok.let (own_Ok.let (own_Ok.let ?_)))
        rw [ofN_succ]
        refine ih (m - 1) (by omega) (c + 1) (v + 1) ne (nr + 1) 0 _ (by omega) (by omega) (by omega) (by omega) (by omega) ⟨_, _, _, _, _, _, ?_, hZ.row (v + 1) (.inr rfl)⟩
        obtain ⟨⟨g1, g2, g3, g4, g5, g6, g7, g8⟩, g9, g10, g11, g12⟩ := h2'
        refine ⟨⟨g1, g2, fun j hj => ?_, g4, g5, rfl, g7, g8⟩, g9, g10, g11, g12⟩
        rw [gI_sI, if_neg (by omega)]; exact g3 j hj
      · have add : ∀ w, 1 ≤ w ∧ w ≤ 8 → own_Ok (fun N => (f_addElement (Int32.ofNat v) (Int32.ofNat (v + 1)) (Int32.ofNat w) s).bind fun c16 => f_layout_24 N (Int32.ofNat (v + 1)) (Int32.ofNat (c + 1)) c16) (own_Gf s0 wrap len fc S E) := fun w hw => by
          obtain ⟨s', nr', e, h', k1⟩ := own_Gad ⟨_, _, _, _, _, _, hT, hZ⟩ h3 hwr (by omega) (by omega) (v + 1) w (by omega) hw (.inl rfl)
          rw [e]
          refine own_Ok.some_bind ?_
          exact ih (m - 1) (by omega) (c + 1) (v + 1) (ne + 1) nr' (lc + w) s' (by omega) (by omega) (by omega) (by omega) (by omega) h'
        refine own_Ok.rdv (by omega) rv ?_
        refine own_Ok.ite (fun _ => ?_) fun _ => ?_
        · have e2 : gI s 2 = Int32.ofNat tab := (hI 2 (by decide)).trans h2
          rw [e2]
          refine own_Ok.ite (fun q => by have := (ofN_eqL (m := 0) (by omega) (by decide)).mp q; omega) fun _ => ?_
          have mt : lc % tab < tab := Nat.mod_lt _ (by omega)
          have em : gI s 11 % Int32.ofNat tab = Int32.ofNat (lc % tab) := by
            rw [h11, x32_eq, Int32.toInt_mod, ofN_int (by omega), ofN_int (by omega), ofN_int (by omega), Int.tmod_eq_emod_of_nonneg (by omega)]; rfl
          rw [em, own_isb tab (lc % tab) (by omega) (by omega), ofN_succ]
          exact add (tab - lc % tab) (by omega)
        · rw [ofN_succ]
          exact add 1 (by omega)
    · refine own_Ok.ite (fun q => absurd q (ofN_nn (by have := hF.2.1; omega))) fun _ => ?_
      have f8 := hF.2.1
      have bf := hS.1 f hf
      refine own_Ok.rdv (by omega) (fo.2.2 f hf).2 ?_
      obtain ⟨s', nr', e, h', k1⟩ := own_Gad ⟨_, _, _, _, _, _, hT, hZ⟩ h3 hwr (by omega) (by omega) (E f) 3 (by omega) (by omega) (.inr ⟨f, hf, hSf, rfl⟩)
      have e : f_addElement (Int32.ofNat v) (Int32.ofNat (E f)) 3 s = some s' := e
      rw [e]
      refine own_Ok.some_bind (own_Ok.let ?_)
      rw [ofN_succ]
      exact ih (len - E f) (by omega) (c + 1) (E f) (ne + 1) nr' (lc + 3) s' (by omega) (by omega) (by omega) (by omega) (by omega) h'
/-- the map, laid out or to be laid out -/
def own_K (wrap len fc : Nat) (S E : Nat → Nat) (s : St) : Prop := ∃ ne nr eS eE eW rS rF rN, gI s 6 = Int32.ofNat (nr + 1) ∧ (∀ j, j < ne → (gA s 3)[j]? = some (Int32.ofNat (eS j)) ∧ (gA s 4)[j]? = some (Int32.ofNat (eE j)) ∧ (gA s 5)[j]? = some (Int32.ofNat (eW j))) ∧ (∀ r, r < nr + 1 → (gA s 6)[r]? = some (Int32.ofNat (rS r)) ∧ (gA s 8)[r]? = some (Int32.ofNat (rF r)) ∧ (gA s 9)[r]? = some (Int32.ofNat (rN r))) ∧ own_Z wrap len ne nr fc S E eS eE eW rS rF rN ∧ ne ≤ 256 ∧ nr ≤ 256
def own_V (wrap tab len fc : Nat) (tx : Nat → Int32) (S E : Nat → Nat) (s : St) : Prop := own_L s ∧ own_Tx s len tx ∧ own_Fo s fc S E ∧ own_So len fc S E ∧ gI s 2 = Int32.ofNat tab ∧ (1 ≤ tab ∧ tab ≤ 8) ∧ gI s 3 = Int32.ofNat wrap ∧ (8 ≤ wrap ∧ wrap ≤ 32) ∧ (gI s 4 = 0 → own_K wrap len fc S E s)
theorem own_Ven {wrap tab len fc : Nat} {tx : Nat → Int32} {S E : Nat → Nat} {s : St} (h : own_V wrap tab len fc tx S E s) : own_Ok (fun N => f_ensureLayout N s) (fun u => own_V wrap tab len fc tx S E u ∧ gI u 4 = 0) := by
  obtain ⟨hL, hT, hF, hS, h2, ht, h3, hw, hR⟩ := h
  unfold f_ensureLayout f_ensureLayout_16
  refine own_Ok.ite (fun q => own_Ok.ret ⟨⟨hL, hT, hF, hS, h2, ht, h3, hw, hR⟩, q⟩) fun _ => ?_
  refine own_Ok.bind (Q := own_Gf s wrap len fc S E) ?_ fun u hu => ?_
  · unfold f_layout f_openRow
    refine own_Ok.let (own_Ok.let (own_Ok.some_bind (own_Ok.let ?_)))
    refine own_Gla hT hF hS h2 ht h3 hw len 0 0 0 0 0 _ (by omega) (by omega) (by omega) (by omega) (by omega) ⟨fun _ => 0, fun _ => 0, fun _ => 0, fun _ => 0, fun _ => 0, fun _ => 0, ⟨⟨hL, fun j hj => rfl, fun j hj => ?_, rfl, rfl, rfl, fun j q => absurd q (Nat.not_lt_zero _), fun j q => absurd q (Nat.not_lt_zero _)⟩, rfl, rfl, rfl, rfl⟩, rfl, rfl, rfl, fun r hr => ⟨Nat.le_refl _, Nat.le_refl _, Nat.zero_le _, fun q => absurd q (Nat.lt_irrefl _), fun i q => absurd q (Nat.not_lt_zero _)⟩, fun r q => absurd q (Nat.not_lt_zero _), fun r q => absurd q (Nat.not_lt_zero _), fun i j _ q => absurd q (Nat.not_lt_zero _)⟩
    rw [gI_sI, if_neg (by omega), gI_sI, if_neg (by omega), gI_sI, if_neg (by omega), gI_sI, if_neg (by omega), gI_sI, if_neg (by omega), gI_sI, if_neg (by omega), gI_sI, if_neg (by omega)]
  · refine own_Ok.let (own_Ok.ret ⟨?_, rfl⟩)
    obtain ⟨ne, nr, lc, eS, eE, eW, rS, rF, rN, ⟨g1, g2, g3, g4, g5, g6, g7, g8⟩, hZ, n1, n2⟩ := hu
    refine ⟨g1, ⟨(g3 0 (by decide)).trans hT.1, hT.2.1, ?_⟩, ⟨(g3 1 (by decide)).trans hF.1, hF.2.1, fun j hj => ?_⟩, hS, (g3 2 (by decide)).trans h2, ht, (g3 3 (by decide)).trans h3, hw, fun _ => ⟨ne, nr, eS, eE, eW, rS, rF, rN, g5, g7, g8, hZ, n1, n2⟩⟩
    · show ∀ i, i < len → (gA u 0)[i]? = _
      rw [g2 0 (by decide)]; exact hT.2.2
    · show (gA u 1)[j]? = _ ∧ (gA u 2)[j]? = _
      rw [g2 1 (by decide), g2 2 (by decide)]; exact hF.2.2 j hj
theorem own_Vid {wrap tab len fc : Nat} {tx : Nat → Int32} {S E : Nat → Nat} {s : St} (h : own_V wrap tab len fc tx S E s) (h4 : gI s 4 = 0) (N : Nat) : f_ensureLayout N s = some s := by
  unfold f_ensureLayout f_ensureLayout_16
  rw [if_pos h4]

/-! points and positions -/
theorem own_divN (k m : Nat) (hk : k < 2147483648) (hm : 2 ≤ m) (hm2 : m < 2147483648) : Int32.ofNat k / Int32.ofNat m = Int32.ofNat (k / m) := by
  have le : k / m ≤ k := Nat.div_le_self _ _
  have ne : ¬ Int32.ofNat m = -1 := fun q => by
    have q := congrArg Int32.toInt q
    rw [ofN_int hm2, show (-1 : Int32).toInt = -1 from rfl] at q
    omega
  rw [x32_eq, Int32.toInt_div_of_ne_right _ _ ne, ofN_int hk, ofN_int hm2, ofN_int (by omega), Int.tdiv_eq_ediv_of_nonneg (by omega)]; rfl
theorem own_modN (k m : Nat) (hk : k < 2147483648) (hm : 0 < m) (hm2 : m < 2147483648) : Int32.ofNat k % Int32.ofNat m = Int32.ofNat (k % m) := by
  have : k % m < m := Nat.mod_lt _ hm
  rw [x32_eq, Int32.toInt_mod, ofN_int hk, ofN_int hm2, ofN_int (by omega), Int.tmod_eq_emod_of_nonneg (by omega)]; rfl
/-- a position's point, and the point's position -/
theorem own_pt {wrap tab len fc : Nat} {tx : Nat → Int32} {S E : Nat → Nat} {s : St} (h : own_V wrap tab len fc tx S E s) (h4 : gI s 4 = 0) (q : Nat) (hq : q ≤ len) (hn : ∀ f, f < fc → ¬ (S f < q ∧ q < E f)) : ∃ r c, r ≤ 256 ∧ c ≤ 32 ∧ own_Ok (fun N => f_toDisplay_42 N (Int32.ofNat q) 0 0 s) (· = (Int32.ofNat (r * 256 + c), s)) ∧ ∀ b, b = 0 ∨ b = 1 → own_Ok (fun N => f_fromDisplay N (Int32.ofNat r) (Int32.ofNat c) b s) (· = (Int32.ofNat q, s)) := by
  obtain ⟨ne, nr, eS, eE, eW, rS, rF, rN, e6, hE, hR, hZ, n1, n2⟩ := h.2.2.2.2.2.2.2.2 h4
  have hl := h.2.1.2.1
  have hw := h.2.2.2.2.2.2.2.1
  obtain ⟨r, r1, r2, r3⟩ := own_last (fun x => rS x ≤ q) (by show rS 0 ≤ q; rw [hZ.1]; omega) nr
  obtain ⟨k, k1, k2, k3, k4, k5⟩ := hZ.loc q hq hn r r1 r2 r3
  obtain ⟨a1, a2, a3, -, -⟩ := hZ.2.2.2.1 r r1
  obtain ⟨x6, x8, x9⟩ := hR r (by omega)
  have mono : ∀ i j, i ≤ j → own_ws eW (rF r) i ≤ own_ws eW (rF r) j := fun i j hij => by
    obtain ⟨d, rfl⟩ : ∃ d, j = i + d := ⟨j - i, by omega⟩
    exact own_wsm eW (rF r) i d
  have wk := mono k (rN r) k1
  have el : ∀ i, i < rN r → (gA s 3)[rF r + i]? = some (Int32.ofNat (eS (rF r + i))) ∧ (gA s 4)[rF r + i]? = some (Int32.ofNat (eE (rF r + i))) ∧ (gA s 5)[rF r + i]? = some (Int32.ofNat (eW (rF r + i))) := fun i hi => hE _ (by omega)
  have eb : ∀ i, i < rN r → eS (rF r + i) ≤ 256 ∧ 1 ≤ eW (rF r + i) := fun i hi => by
    obtain ⟨b1, b2, b3, -⟩ := hZ.2.2.2.2.2.1 (rF r + i) (by omega)
    exact ⟨by omega, b2⟩
  have wS : ∀ i, own_ws eW (rF r) (i + 1) = own_ws eW (rF r) i + eW (rF r + i) := fun i => rfl
  refine ⟨r, own_ws eW (rF r) k, by omega, by omega, ?_, fun b hb => ?_⟩
  · have k100 : ∀ (m i : Nat), i + m = rN r → own_Ok (fun N => f_toDisplay_100 N (Int32.ofNat q) (Int32.ofNat r) (Int32.ofNat (own_ws eW (rF r) (if i ≤ k then i else k))) (Int32.ofNat (rF r + rN r)) (Int32.ofNat (rF r + i)) s) (· = (Int32.ofNat (r * 256 + own_ws eW (rF r) k), s)) := by
      intro m
      induction m with
      | zero =>
        intro i hi
        refine own_Ok.step (g := fun N => g_toDisplay_100 (f_toDisplay_100 N) N (Int32.ofNat q) (Int32.ofNat r) (Int32.ofNat (own_ws eW (rF r) (if i ≤ k then i else k))) (Int32.ofNat (rF r + rN r)) (Int32.ofNat (rF r + i)) s) (fun n => rfl) ?_
        unfold g_toDisplay_100 f_toDisplay_149
        refine own_Ok.ite (fun z => by have := (own_ltN (by omega) (by omega)).mp z; omega) fun _ => own_Ok.ret ?_
        have : (if i ≤ k then i else k) = k := by by_cases z : i ≤ k; rw [if_pos z]; omega; rw [if_neg z]
        rw [this, show (256 : Int32) = Int32.ofNat 256 from rfl, ← Int32.ofNat_mul, ← Int32.ofNat_add]
      | succ m ih =>
        intro i hi
        refine own_Ok.step (g := fun N => g_toDisplay_100 (f_toDisplay_100 N) N (Int32.ofNat q) (Int32.ofNat r) (Int32.ofNat (own_ws eW (rF r) (if i ≤ k then i else k))) (Int32.ofNat (rF r + rN r)) (Int32.ofNat (rF r + i)) s) (fun n => rfl) ?_
        obtain ⟨y3, y4, y5⟩ := el i (by omega)
        have b := eb i (by omega)
        have nx := ih (i + 1) (by omega)
        unfold g_toDisplay_100 f_toDisplay_143
        refine own_Ok.ite (fun _ => ?_) fun z => absurd ((own_ltN (by omega) (by omega)).mpr (by omega)) z
        refine own_Ok.ite (fun _ => ?_) fun z => absurd ((ofN_ltL (m := 256) (by omega) (by decide)).mpr (by omega)) z
        refine own_Ok.ite (fun z => absurd z (ofN_nn (by omega))) fun _ => ?_
        refine own_Ok.rdv (by omega) y3 ?_
        rw [ofN_succ]
        by_cases c : i < k
        · have := k2 i c
          refine own_Ok.ite (fun _ => ?_) fun z => absurd ((own_ltN (by omega) (by omega)).mpr this) z
          refine own_Ok.rdv (by omega) y5 ?_
          rw [if_pos (show i + 1 ≤ k by omega), wS, Int32.ofNat_add] at nx
          rw [if_pos (show i ≤ k by omega)]
          exact own_Ok.let (own_Ok.let nx)
        · have := k3 i (by omega) (by omega)
          refine own_Ok.ite (fun z => by have := (own_ltN (by omega) (by omega)).mp z; omega) fun _ => ?_
          rw [if_neg (show ¬ i + 1 ≤ k by omega)] at nx
          have : (if i ≤ k then i else k) = k := by by_cases z : i ≤ k; rw [if_pos z]; omega; rw [if_neg z]
          rw [this]
          exact own_Ok.let nx
    have k42 : ∀ (m f g : Nat), f + m = nr + 1 → (r < f → g = r) → own_Ok (fun N => f_toDisplay_42 N (Int32.ofNat q) (Int32.ofNat g) (Int32.ofNat f) s) (· = (Int32.ofNat (r * 256 + own_ws eW (rF r) k), s)) := by
      intro m
      induction m with
      | zero =>
        intro f g hf hg
        obtain rfl : g = r := hg (by omega)
        refine own_Ok.step (g := fun N => g_toDisplay_42 (f_toDisplay_42 N) N (Int32.ofNat q) (Int32.ofNat g) (Int32.ofNat f) s) (fun n => rfl) ?_
        unfold g_toDisplay_42
        rw [e6]
        refine own_Ok.ite (fun z => by have := (own_ltN (by omega) (by omega)).mp z; omega) fun _ => ?_
        refine own_Ok.rdv (by omega) x8 ?_
        refine own_Ok.rdv (by omega) x9 ?_
        refine own_Ok.let ?_
        rw [← Int32.ofNat_add]
        have := k100 (rN g) 0 (by omega)
        rw [if_pos (Nat.zero_le _)] at this
        exact this
      | succ m ih =>
        intro f g hf hg
        refine own_Ok.step (g := fun N => g_toDisplay_42 (f_toDisplay_42 N) N (Int32.ofNat q) (Int32.ofNat g) (Int32.ofNat f) s) (fun n => rfl) ?_
        obtain ⟨y6, -, -⟩ := hR f (by omega)
        have bS := (hZ.2.2.2.1 f (by omega)).2.1
        unfold g_toDisplay_42 f_toDisplay_66
        rw [e6, ofN_succ]
        refine own_Ok.ite (fun _ => ?_) fun z => absurd ((own_ltN (by omega) (by omega)).mpr (by omega)) z
        refine own_Ok.rdv (by omega) y6 ?_
        refine own_Ok.ite (fun z => own_Ok.let (ih (f + 1) g (by omega) fun z' => ?_)) fun z => own_Ok.let (ih (f + 1) f (by omega) fun z' => ?_)
        · have z := (own_ltN (by omega) (by omega)).mp z
          by_cases e : f = r
          · subst e
            exact absurd r2 (by show ¬ rS f ≤ q; omega)
          · exact hg (by omega)
        · have z := mt (own_ltN (i := q) (m := rS f) (by omega) (by omega)).mpr z
          by_cases e : f = r
          · exact e
          · exact absurd (show rS f ≤ q by omega) (r3 f (by omega) (by omega))
    exact k42 (nr + 1) 0 0 (by omega) fun z => by omega
  · have k61 : ∀ (m i : Nat), i + m = k → own_Ok (fun N => f_fromDisplay_61 N (Int32.ofNat r) (Int32.ofNat (own_ws eW (rF r) k)) b (Int32.ofNat (own_ws eW (rF r) i)) (Int32.ofNat (rF r + rN r)) (Int32.ofNat (rF r + i)) s) (· = (Int32.ofNat q, s)) := by
      intro m
      induction m with
      | zero =>
        intro i hi
        obtain rfl : i = k := by omega
        refine own_Ok.step (g := fun N => g_fromDisplay_61 (f_fromDisplay_61 N) N (Int32.ofNat r) (Int32.ofNat (own_ws eW (rF r) i)) b (Int32.ofNat (own_ws eW (rF r) i)) (Int32.ofNat (rF r + rN r)) (Int32.ofNat (rF r + i)) s) (fun n => rfl) ?_
        unfold g_fromDisplay_61 f_fromDisplay_112 f_fromDisplay_141
        by_cases c : i < rN r
        · obtain ⟨y3, y4, y5⟩ := el i c
          have b' := eb i c
          have mw := mono (i + 1) (rN r) (by omega)
          rw [wS] at mw
          refine own_Ok.ite (fun _ => ?_) fun z => absurd ((own_ltN (by omega) (by omega)).mpr (by omega)) z
          refine own_Ok.ite (fun _ => ?_) fun z => absurd ((ofN_ltL (m := 256) (by omega) (by decide)).mpr (by omega)) z
          refine own_Ok.ite (fun z => absurd z (ofN_nn (by omega))) fun _ => ?_
          refine own_Ok.rdv (by omega) y5 ?_
          rw [← Int32.ofNat_add]
          refine own_Ok.ite (fun _ => ?_) fun z => absurd ((own_ltN (by omega) (by omega)).mpr (by omega)) z
          refine own_Ok.ite (fun _ => ?_) fun z => absurd rfl z
          refine own_Ok.rdv (by omega) y3 (own_Ok.ret ?_)
          rw [k4 c]
        · refine own_Ok.ite (fun z => by have := (own_ltN (by omega) (by omega)).mp z; omega) fun _ => ?_
          have kx := k5 (by omega)
          have er : f_rowEnd (Int32.ofNat r) s = some (Int32.ofNat q) := by
            unfold f_rowEnd f_rowEnd_33
            rw [rd_at (by omega) x9, Option.bind_some, rd_at (by omega) x8, Option.bind_some, rd_at (by omega) x6, ← Int32.ofNat_add]
            unfold own_X at kx
            by_cases z : rN r = 0
            · rw [if_pos z] at kx
              show (if 0 < Int32.ofNat (rN r) then _ else _) = _
              rw [if_neg (fun y => by have := (ofN_gtL (m := 0) (by omega) (by decide)).mp y; omega), kx]; rfl
            · rw [if_neg z] at kx
              obtain ⟨-, y4, -⟩ := hE (rF r + rN r - 1) (by omega)
              show (if 0 < Int32.ofNat (rN r) then (if Int32.ofNat (rF r + rN r) - 1 < 0 then _ else _) else _) = _
              rw [show Int32.ofNat (rF r + rN r) - 1 = Int32.ofNat (rF r + rN r - 1) from own_isb (rF r + rN r) 1 (by omega) (by omega)]
              rw [if_pos ((ofN_gtL (m := 0) (by omega) (by decide)).mpr (by omega)), if_neg (ofN_nn (by omega)), if_pos ((ofN_ltL (m := 256) (by omega) (by decide)).mpr (by omega)), rd_at (by omega) y4, kx]; rfl
          rw [er]
          exact own_Ok.some_bind (own_Ok.ret rfl)
      | succ m ih =>
        intro i hi
        refine own_Ok.step (g := fun N => g_fromDisplay_61 (f_fromDisplay_61 N) N (Int32.ofNat r) (Int32.ofNat (own_ws eW (rF r) k)) b (Int32.ofNat (own_ws eW (rF r) i)) (Int32.ofNat (rF r + rN r)) (Int32.ofNat (rF r + i)) s) (fun n => rfl) ?_
        obtain ⟨y3, y4, y5⟩ := el i (by omega)
        have mw := mono (i + 1) k (by omega)
        have nx := ih (i + 1) (by omega)
        rw [wS] at mw nx
        unfold g_fromDisplay_61 f_fromDisplay_135
        refine own_Ok.ite (fun _ => ?_) fun z => absurd ((own_ltN (by omega) (by omega)).mpr (by omega)) z
        refine own_Ok.ite (fun _ => ?_) fun z => absurd ((ofN_ltL (m := 256) (by omega) (by decide)).mpr (by omega)) z
        refine own_Ok.ite (fun z => absurd z (ofN_nn (by omega))) fun _ => ?_
        refine own_Ok.rdv (by omega) y5 ?_
        rw [← Int32.ofNat_add]
        refine own_Ok.ite (fun z => by have := (own_ltN (by omega) (by omega)).mp z; omega) fun _ => ?_
        rw [ofN_succ]
        exact own_Ok.let (own_Ok.let nx)
    have go : own_Ok (fun N => f_fromDisplay_11 N (Int32.ofNat r) (Int32.ofNat (own_ws eW (rF r) k)) b s) (· = (Int32.ofNat q, s)) := by
      unfold f_fromDisplay_11
      refine own_evO (own_Vid h h4) ?_
      rw [e6]
      refine own_Ok.ite (fun z => absurd z (ofN_nn (by omega))) fun _ => ?_
      refine own_Ok.ite (fun _ => ?_) fun z => absurd ((own_ltN (by omega) (by omega)).mpr (by omega)) z
      refine own_Ok.ite (fun z => absurd z (ofN_nn (by omega))) fun _ => ?_
      refine own_Ok.rdv (by omega) x8 ?_
      refine own_Ok.rdv (by omega) x9 ?_
      refine own_Ok.let ?_
      rw [← Int32.ofNat_add]
      exact k61 k 0 (by omega)
    unfold f_fromDisplay
    refine own_Ok.ite (fun _ => go) fun z => ?_
    exact own_Ok.ite (fun _ => go) fun z' => absurd (hb.resolve_left z) z'

/-! the law's check -/
def own_Sn (fc p : Nat) (S E : Nat → Nat) (f lo hi : Nat) : Prop := (∃ j, j < f ∧ S j < p ∧ p < E j ∧ lo = S j ∧ hi = E j) ∨ ((∀ j, j < f → ¬ (S j < p ∧ p < E j)) ∧ lo = p ∧ hi = p)
theorem own_snap {wrap tab len fc : Nat} {tx : Nat → Int32} {S E : Nat → Nat} {s : St} (h : own_V wrap tab len fc tx S E s) {p lo hi : Nat} (hp : p ≤ len) (hs : own_Sn fc p S E fc lo hi) (b : Int32) : own_Ok (fun N => f_snapOutOfFold N (Int32.ofNat p) b s) (· = Int32.ofNat (if b = 0 then lo else hi)) := by
  have hF := h.2.2.1
  have hS := h.2.2.2.1
  have hl := h.2.1.2.1
  have f8 := hF.2.1
  have key : ∀ (m f : Nat), f + m = fc → (∀ j, j < f → ¬ (S j < p ∧ p < E j)) → own_Ok (fun N => f_snapOutOfFold_2 N (Int32.ofNat p) b (Int32.ofNat f) s) (· = Int32.ofNat (if b = 0 then lo else hi)) := by
    intro m
    induction m with
    | zero =>
      intro f hf no
      obtain rfl : f = fc := by omega
      refine own_Ok.step (g := fun N => g_snapOutOfFold_2 (f_snapOutOfFold_2 N) N (Int32.ofNat p) b (Int32.ofNat f) s) (fun n => rfl) ?_
      unfold g_snapOutOfFold_2
      rw [hF.1]
      refine own_Ok.ite (fun q => by have := (own_ltN (by omega) (by omega)).mp q; omega) fun _ => own_Ok.ret ?_
      rcases hs with ⟨j, j1, j2, j3, -⟩ | ⟨-, rfl, rfl⟩
      · exact absurd ⟨j2, j3⟩ (no j j1)
      · rw [ite_self]
    | succ m ih =>
      intro f hf no
      refine own_Ok.step (g := fun N => g_snapOutOfFold_2 (f_snapOutOfFold_2 N) N (Int32.ofNat p) b (Int32.ofNat f) s) (fun n => rfl) ?_
      have bf := hS.1 f (by omega)
      obtain ⟨y1, y2⟩ := hF.2.2 f (by omega)
      unfold g_snapOutOfFold_2 f_snapOutOfFold_50 f_snapOutOfFold_49
      rw [hF.1, ofN_succ]
      refine own_Ok.ite (fun _ => ?_) fun q => absurd ((own_ltN (by omega) (by omega)).mpr (by omega)) q
      refine own_Ok.rdv (by omega) y1 ?_
      have nx : ¬ (S f < p ∧ p < E f) → own_Ok (fun N => f_snapOutOfFold_2 N (Int32.ofNat p) b (Int32.ofNat (f + 1)) s) (· = Int32.ofNat (if b = 0 then lo else hi)) := fun z => ih (f + 1) (by omega) fun j hj => by
        by_cases e : j = f
        · rw [e]; exact z
        · exact no j (by omega)
      refine own_Ok.ite (fun q => ?_) fun q => own_Ok.let (nx fun z => q ((own_ltN (by omega) (by omega)).mpr z.1))
      refine own_Ok.rdv (by omega) y2 ?_
      refine own_Ok.ite (fun q' => ?_) fun q' => own_Ok.let (nx fun z => q' ((own_ltN (by omega) (by omega)).mpr z.2))
      have q := (own_ltN (by omega) (by omega)).mp q
      have q' := (own_ltN (by omega) (by omega)).mp q'
      have lh : lo = S f ∧ hi = E f := by
        rcases hs with ⟨j, j1, j2, j3, rfl, rfl⟩ | ⟨no', -, -⟩
        · have : j = f := by
            by_cases a : j < f
            · exact absurd ⟨j2, j3⟩ (no j a)
            · by_cases b : f < j
              · have := hS.2 f j b j1; omega
              · omega
          rw [this]; exact ⟨rfl, rfl⟩
        · exact absurd ⟨q, q'⟩ (no' f (by omega))
      refine own_Ok.ite (fun z => own_Ok.rdv (by omega) y1 (own_Ok.ret ?_)) fun z => own_Ok.rdv (by omega) y2 (own_Ok.ret ?_)
      · rw [if_pos z, lh.1]
      · rw [if_neg z, lh.2]
  unfold f_snapOutOfFold
  exact key fc 0 (by omega) fun j q => absurd q (Nat.not_lt_zero _)
theorem own_td {wrap tab len fc : Nat} {tx : Nat → Int32} {S E : Nat → Nat} {s : St} (h : own_V wrap tab len fc tx S E s) (h4 : gI s 4 = 0) {p lo hi : Nat} (hp : p ≤ len) (hs : own_Sn fc p S E fc lo hi) (b : Int32) (hb : b = 0 ∨ b = 1) : ∃ r c, r ≤ 256 ∧ c ≤ 32 ∧ own_Ok (fun N => f_toDisplay N (Int32.ofNat p) b s) (· = (Int32.ofNat (r * 256 + c), s)) ∧ ∀ b', b' = 0 ∨ b' = 1 → own_Ok (fun N => f_fromDisplay N (Int32.ofNat r) (Int32.ofNat c) b' s) (· = (Int32.ofNat (if b = 0 then lo else hi), s)) := by
  have hS := h.2.2.2.1
  have hl := h.2.1.2.1
  have q1 : (if b = 0 then lo else hi) ≤ len := by
    rcases hs with ⟨j, j1, j2, j3, rfl, rfl⟩ | ⟨-, rfl, rfl⟩
    · have := hS.1 j j1
      by_cases z : b = 0
      · rw [if_pos z]; omega
      · rw [if_neg z]; omega
    · rw [ite_self]; exact hp
  have q2 : ∀ f, f < fc → ¬ (S f < (if b = 0 then lo else hi) ∧ (if b = 0 then lo else hi) < E f) := fun f hf => by
    rcases hs with ⟨j, j1, j2, j3, rfl, rfl⟩ | ⟨no, rfl, rfl⟩
    · have bj := hS.1 j j1
      have bf := hS.1 f hf
      have : f < j ∨ f = j ∨ j < f := by omega
      have c : (f < j → E f ≤ S j) ∧ (j < f → E j ≤ S f) := ⟨fun e => hS.2 f j e j1, fun e => hS.2 j f e hf⟩
      by_cases z : b = 0
      · rw [if_pos z]
        rcases this with e | rfl | e
        · have := c.1 e; omega
        · omega
        · have := c.2 e; omega
      · rw [if_neg z]
        rcases this with e | rfl | e
        · have := c.1 e; omega
        · omega
        · have := c.2 e; omega
    · rw [ite_self]; exact no f hf
  obtain ⟨r, c, r1, r2, r3, r4⟩ := own_pt h h4 _ q1 q2
  refine ⟨r, c, r1, r2, ?_, r4⟩
  have go : own_Ok (fun N => f_toDisplay_11 N (Int32.ofNat p) b s) (· = (Int32.ofNat (r * 256 + c), s)) := by
    unfold f_toDisplay_11
    refine own_Ok.ite (fun z => absurd z (ofN_nn (by omega))) fun _ => ?_
    rw [h.2.1.1]
    refine own_Ok.ite (fun z => by have := (own_ltN (by omega) (by omega)).mp z; omega) fun _ => ?_
    refine own_Ok.bind (own_snap h hp hs b) fun x hx => ?_
    subst hx
    exact own_evO (own_Vid h h4) r3
  unfold f_toDisplay
  refine own_Ok.ite (fun _ => go) fun z => ?_
  exact own_Ok.ite (fun _ => go) fun z' => absurd (hb.resolve_left z) z'
theorem own_sh {α : Type} {f : Nat → Option α} {P : α → Prop} (h : own_Ok f P) (d : Nat) : own_Ok (fun n => f (n + d)) P := by
  obtain ⟨r, ⟨N, h1⟩, h2⟩ := h
  exact ⟨r, ⟨N, fun n hn => h1 (n + d) (by omega)⟩, h2⟩
theorem own_h192 {s : St} {r c q : Nat} (hr : r ≤ 256) (hc : c ≤ 32) (fd : ∀ b', b' = 0 ∨ b' = 1 → own_Ok (fun N => f_fromDisplay N (Int32.ofNat r) (Int32.ofNat c) b' s) (· = (Int32.ofNat q, s))) (K67 : Nat → Int32 → Int32 → Int32 → St → Option (Int32 × St)) (K152 : Nat → Int32 → Int32 → Int32 → Int32 → Int32 → Int32 → St → Option (Int32 × St)) (v2 v3 v4 v5 v6 v7 : Int32) (nx : own_Ok (fun n => K152 n v2 v3 v4 v5 v6 (v7 + 1) s) (· = (1, s))) : ∀ (m v10 d : Nat), v10 + m = 2 → own_Ok (fun n => f_L_holds_192 (K67 (n + d)) (K152 (n + d)) n v2 v3 v4 v5 v6 v7 (Int32.ofNat (r * 256 + c)) (Int32.ofNat q) (Int32.ofNat v10) s) (· = (1, s)) := by
  intro m
  induction m with
  | zero =>
    intro v10 d hv
    obtain rfl : v10 = 2 := by omega
    refine own_Ok.step (g := fun n => g_L_holds_192 (K67 (n + (d + 1))) (K152 (n + (d + 1))) (f_L_holds_192 (K67 (n + (d + 1))) (K152 (n + (d + 1))) n) n v2 v3 v4 v5 v6 v7 (Int32.ofNat (r * 256 + c)) (Int32.ofNat q) (Int32.ofNat 2) s) (fun n => by rw [show n + (d + 1) = n + 1 + d by omega]; rfl) ?_
    unfold g_L_holds_192
    refine own_Ok.ite (fun _ => ?_) fun z => absurd (by decide) z
    exact own_Ok.let (own_sh nx (d + 1))
  | succ m ih =>
    intro v10 d hv
    refine own_Ok.step (g := fun n => g_L_holds_192 (K67 (n + (d + 1))) (K152 (n + (d + 1))) (f_L_holds_192 (K67 (n + (d + 1))) (K152 (n + (d + 1))) n) n v2 v3 v4 v5 v6 v7 (Int32.ofNat (r * 256 + c)) (Int32.ofNat q) (Int32.ofNat v10) s) (fun n => by rw [show n + (d + 1) = n + 1 + d by omega]; rfl) ?_
    unfold g_L_holds_192
    refine own_Ok.ite (fun z => by have := (ofN_gtL (m := 1) (by omega) (by decide)).mp z; omega) fun _ => ?_
    have e1 : Int32.ofNat (r * 256 + c) / 256 = Int32.ofNat r := by
      rw [show (256 : Int32) = Int32.ofNat 256 from rfl, own_divN _ _ (by omega) (by omega) (by omega)]
      congr 1; omega
    have e2 : Int32.ofNat (r * 256 + c) % 256 = Int32.ofNat c := by
      rw [show (256 : Int32) = Int32.ofNat 256 from rfl, own_modN _ _ (by omega) (by omega) (by omega)]
      congr 1; omega
    rw [e1, e2]
    refine own_Ok.bind (fd (Int32.ofNat v10) ?_) fun x hx => ?_
    · rcases (by omega : v10 = 0 ∨ v10 = 1) with rfl | rfl
      · exact .inl rfl
      · exact .inr rfl
    subst hx
    refine own_Ok.ite (fun _ => ?_) fun z => absurd rfl z
    rw [ofN_succ]
    exact own_Ok.let (ih (v10 + 1) (d + 1) (by omega))
theorem own_h152 {wrap tab len fc : Nat} {tx : Nat → Int32} {S E : Nat → Nat} {s : St} (h : own_V wrap tab len fc tx S E s) (h4 : gI s 4 = 0) {p lo hi : Nat} (hp : p ≤ len) (hs : own_Sn fc p S E fc lo hi) (K67 : Nat → Int32 → Int32 → Int32 → St → Option (Int32 × St)) (nx : own_Ok (fun n => K67 n (Int32.ofNat len) (Int32.ofNat fc) (Int32.ofNat (p + 1)) s) (· = (1, s))) : ∀ (m v7 d : Nat), v7 + m = 2 → own_Ok (fun n => f_L_holds_152 (K67 (n + d)) n (Int32.ofNat len) (Int32.ofNat fc) (Int32.ofNat p) (Int32.ofNat lo) (Int32.ofNat hi) (Int32.ofNat v7) s) (· = (1, s)) := by
  intro m
  induction m with
  | zero =>
    intro v7 d hv
    obtain rfl : v7 = 2 := by omega
    refine own_Ok.step (g := fun n => g_L_holds_152 (K67 (n + (d + 1))) (f_L_holds_152 (K67 (n + (d + 1))) n) n (Int32.ofNat len) (Int32.ofNat fc) (Int32.ofNat p) (Int32.ofNat lo) (Int32.ofNat hi) (Int32.ofNat 2) s) (fun n => by rw [show n + (d + 1) = n + 1 + d by omega]; rfl) ?_
    unfold g_L_holds_152
    refine own_Ok.ite (fun _ => ?_) fun z => absurd (by decide) z
    rw [ofN_succ]
    exact own_Ok.let (own_sh nx (d + 1))
  | succ m ih =>
    intro v7 d hv
    refine own_Ok.step (g := fun n => g_L_holds_152 (K67 (n + (d + 1))) (f_L_holds_152 (K67 (n + (d + 1))) n) n (Int32.ofNat len) (Int32.ofNat fc) (Int32.ofNat p) (Int32.ofNat lo) (Int32.ofNat hi) (Int32.ofNat v7) s) (fun n => by rw [show n + (d + 1) = n + 1 + d by omega]; rfl) ?_
    unfold g_L_holds_152 f_L_holds_187
    refine own_Ok.ite (fun z => by have := (ofN_gtL (m := 1) (by omega) (by decide)).mp z; omega) fun _ => ?_
    have hb : Int32.ofNat v7 = 0 ∨ Int32.ofNat v7 = 1 := by
      rcases (by omega : v7 = 0 ∨ v7 = 1) with rfl | rfl
      · exact .inl rfl
      · exact .inr rfl
    obtain ⟨r, c, r1, r2, r3, r4⟩ := own_td h h4 hp hs (Int32.ofNat v7) hb
    have go := own_h192 r1 r2 r4 (fun n => K67 (n + (d + 1))) (fun n => f_L_holds_152 (K67 (n + (d + 1))) n) (Int32.ofNat len) (Int32.ofNat fc) (Int32.ofNat p) (Int32.ofNat lo) (Int32.ofNat hi) (Int32.ofNat v7) (by rw [ofN_succ]; exact ih (v7 + 1) (d + 1) (by omega)) 2 0 0 (by omega)
    refine own_Ok.bind r3 fun x hx => ?_
    subst hx
    refine own_Ok.ite (fun z => absurd z (ofN_nn (by omega))) fun _ => ?_
    refine own_Ok.ite (fun z => ?_) fun z => ?_
    · rw [if_pos z] at go; exact go
    · rw [if_neg z] at go; exact go
theorem own_fsE {s : St} {fc : Nat} {S E : Nat → Nat} (hF : own_Fo s fc S E) (j : Nat) (hj : j < fc) : f_foldStart (Int32.ofNat j) s = some (Int32.ofNat (S j)) ∧ f_foldEnd (Int32.ofNat j) s = some (Int32.ofNat (E j)) := by
  obtain ⟨f1, f2, f3⟩ := hF
  unfold f_foldStart f_foldEnd
  rw [f1, if_neg (ofN_nn (by omega)), if_pos ((own_ltN (by omega) (by omega)).mpr hj), if_neg (ofN_nn (by omega)), if_pos ((own_ltN (by omega) (by omega)).mpr hj), rd_at (by omega) (f3 j hj).1, rd_at (by omega) (f3 j hj).2]
  exact ⟨rfl, rfl⟩
theorem own_h92 {wrap tab len fc : Nat} {tx : Nat → Int32} {S E : Nat → Nat} {s : St} (h : own_V wrap tab len fc tx S E s) (h4 : gI s 4 = 0) {p : Nat} (hp : p ≤ len) (K67 : Nat → Int32 → Int32 → Int32 → St → Option (Int32 × St)) (nx : own_Ok (fun n => K67 n (Int32.ofNat len) (Int32.ofNat fc) (Int32.ofNat (p + 1)) s) (· = (1, s))) : ∀ (m f lo hi d : Nat), f + m = fc → own_Sn fc p S E f lo hi → own_Ok (fun n => f_L_holds_92 (K67 (n + d)) n (Int32.ofNat len) (Int32.ofNat fc) (Int32.ofNat p) (Int32.ofNat lo) (Int32.ofNat hi) (Int32.ofNat f) s) (· = (1, s)) := by
  have hF := h.2.2.1
  have hS := h.2.2.2.1
  have hl := h.2.1.2.1
  have f8 := hF.2.1
  intro m
  induction m with
  | zero =>
    intro f lo hi d hf hs
    obtain rfl : f = fc := by omega
    refine own_Ok.step (g := fun n => g_L_holds_92 (K67 (n + (d + 1))) (f_L_holds_92 (K67 (n + (d + 1))) n) n (Int32.ofNat len) (Int32.ofNat f) (Int32.ofNat p) (Int32.ofNat lo) (Int32.ofNat hi) (Int32.ofNat f) s) (fun n => by rw [show n + (d + 1) = n + 1 + d by omega]; rfl) ?_
    unfold g_L_holds_92 f_L_holds_149
    have go := own_h152 h h4 hp hs K67 nx 2 0 (d + 1) (by omega)
    refine own_Ok.ite (fun _ => ?_) fun _ => go
    exact own_Ok.ite (fun z => by have := (own_ltN (by omega) (by omega)).mp z; omega) fun _ => go
  | succ m ih =>
    intro f lo hi d hf hs
    refine own_Ok.step (g := fun n => g_L_holds_92 (K67 (n + (d + 1))) (f_L_holds_92 (K67 (n + (d + 1))) n) n (Int32.ofNat len) (Int32.ofNat fc) (Int32.ofNat p) (Int32.ofNat lo) (Int32.ofNat hi) (Int32.ofNat f) s) (fun n => by rw [show n + (d + 1) = n + 1 + d by omega]; rfl) ?_
    have bf := hS.1 f (by omega)
    unfold g_L_holds_92 f_L_holds_143
    refine own_Ok.ite (fun _ => ?_) fun z => absurd ((ofN_ltL (m := 16) (by omega) (by decide)).mpr (by omega)) z
    refine own_Ok.ite (fun _ => ?_) fun z => absurd ((own_ltN (by omega) (by omega)).mpr (by omega)) z
    obtain ⟨y1, y2⟩ := own_fsE hF f (by omega)
    rw [y1, y2]
    refine own_Ok.some_bind (own_Ok.some_bind ?_)
    rw [ofN_succ]
    have skip : ¬ (S f < p ∧ p < E f) → own_Sn fc p S E (f + 1) lo hi := fun z => by
      rcases hs with ⟨j, j1, j2⟩ | ⟨no, e⟩
      · exact .inl ⟨j, by omega, j2⟩
      · refine .inr ⟨fun j hj => ?_, e⟩
        by_cases e : j = f
        · rw [e]; exact z
        · exact no j (by omega)
    refine own_Ok.ite (fun z => ?_) fun z => own_Ok.let (ih (f + 1) lo hi (d + 1) (by omega) (skip fun e => z ((own_ltN (by omega) (by omega)).mpr e.1)))
    refine own_Ok.ite (fun z' => ?_) fun z' => own_Ok.let (ih (f + 1) lo hi (d + 1) (by omega) (skip fun e => z' ((own_ltN (by omega) (by omega)).mpr e.2)))
    exact own_Ok.let (ih (f + 1) (S f) (E f) (d + 1) (by omega) (.inl ⟨f, by omega, (own_ltN (by omega) (by omega)).mp z, (own_ltN (by omega) (by omega)).mp z', rfl, rfl⟩))
theorem own_h67 {wrap tab len fc : Nat} {tx : Nat → Int32} {S E : Nat → Nat} {s : St} (h : own_V wrap tab len fc tx S E s) (h4 : gI s 4 = 0) : ∀ (m p : Nat), p + m = len + 1 → own_Ok (fun n => f_L_holds_67 n (Int32.ofNat len) (Int32.ofNat fc) (Int32.ofNat p) s) (· = (1, s)) := by
  have hl := h.2.1.2.1
  intro m
  induction m with
  | zero =>
    intro p hp
    refine own_Ok.step (g := fun n => g_L_holds_67 (f_L_holds_67 n) n (Int32.ofNat len) (Int32.ofNat fc) (Int32.ofNat p) s) (fun n => rfl) ?_
    unfold g_L_holds_67 f_L_holds_241
    refine own_Ok.ite (fun _ => own_Ok.ret rfl) fun _ => ?_
    exact own_Ok.ite (fun _ => own_Ok.ret rfl) fun z => absurd ((own_ltN (by omega) (by omega)).mpr (by omega)) z
  | succ m ih =>
    intro p hp
    refine own_Ok.step (g := fun n => g_L_holds_67 (f_L_holds_67 n) n (Int32.ofNat len) (Int32.ofNat fc) (Int32.ofNat p) s) (fun n => rfl) ?_
    unfold g_L_holds_67 f_L_holds_241
    refine own_Ok.ite (fun _ => own_Ok.ret rfl) fun _ => ?_
    refine own_Ok.ite (fun _ => own_Ok.ret rfl) fun _ => ?_
    exact own_h92 h h4 (by omega) f_L_holds_67 (ih (p + 1) (by omega)) fc 0 p p 0 (by omega) (.inr ⟨fun j q => absurd q (Nat.not_lt_zero _), rfl, rfl⟩)
theorem own_holds {wrap tab len fc : Nat} {tx : Nat → Int32} {S E : Nat → Nat} {s : St} (h : own_V wrap tab len fc tx S E s) : own_Ok (fun n => f_L_holds n s) (fun r => r.1 = 1 ∧ own_V wrap tab len fc tx S E r.2) := by
  unfold f_L_holds f_rowCount
  refine own_Ok.bind (Q := fun r => (own_V wrap tab len fc tx S E r.2 ∧ gI r.2 4 = 0) ∧ r.1 = gI r.2 6) (own_Ok.bind (own_Ven h) fun u hu => own_Ok.ret ⟨hu, rfl⟩) fun r hr => ?_
  obtain ⟨r1, u⟩ := r
  obtain ⟨⟨hV, h4⟩, e1⟩ := hr
  dsimp only at hV h4 e1 ⊢
  subst e1
  have hl := hV.2.1.2.1
  have hF := hV.2.2.1
  obtain ⟨ne, nr, eS, eE, eW, rS, rF, rN, e6, hE, hR, hZ, n1, n2⟩ := hV.2.2.2.2.2.2.2.2 h4
  have rs : ∀ j, j < nr + 1 → ∀ N, f_rowStart N (Int32.ofNat j) u = some (Int32.ofNat (rS j), u) := fun j hj N => by
    unfold f_rowStart
    rw [own_Vid hV h4, Option.bind_some, if_neg (ofN_nn (by omega)), e6, if_pos ((own_ltN (by omega) (by omega)).mpr hj), rd_at (by omega) (hR j hj).1]; rfl
  refine own_evO (rs 0 (by omega)) ?_
  rw [hZ.1]
  refine own_Ok.ite (fun _ => ?_) fun z => absurd rfl z
  have fin : own_Ok (fun n => f_L_holds_54 n u) (fun r => r.1 = 1 ∧ own_V wrap tab len fc tx S E r.2) := by
    unfold f_L_holds_54 f_length f_foldCount
    refine own_Ok.some_bind (own_Ok.some_bind ?_)
    rw [hV.2.1.1, hF.1]
    exact (own_h67 hV h4 (len + 1) 0 (by omega)).mono fun r hr => by rw [hr]; exact ⟨rfl, hV⟩
  have key : ∀ (m r : Nat), r + m = nr → own_Ok (fun n => f_L_holds_17 n (Int32.ofNat (nr + 1)) (Int32.ofNat r) u) (fun r => r.1 = 1 ∧ own_V wrap tab len fc tx S E r.2) := by
    intro m
    induction m with
    | zero =>
      intro r hr
      refine own_Ok.step (g := fun n => g_L_holds_17 (f_L_holds_17 n) n (Int32.ofNat (nr + 1)) (Int32.ofNat r) u) (fun n => rfl) ?_
      unfold g_L_holds_17
      refine own_Ok.ite (fun _ => ?_) fun _ => fin
      rw [show Int32.ofNat (nr + 1) - 1 = Int32.ofNat (nr + 1 - 1) from own_isb (nr + 1) 1 (by omega) (by omega)]
      exact own_Ok.ite (fun z => by have := (own_ltN (by omega) (by omega)).mp z; omega) fun _ => fin
    | succ m ih =>
      intro r hr
      refine own_Ok.step (g := fun n => g_L_holds_17 (f_L_holds_17 n) n (Int32.ofNat (nr + 1)) (Int32.ofNat r) u) (fun n => rfl) ?_
      unfold g_L_holds_17
      refine own_Ok.ite (fun _ => ?_) fun _ => fin
      refine own_Ok.ite (fun z => ?_) fun _ => fin
      refine own_evO (rs r (by omega)) ?_
      rw [ofN_succ]
      refine own_evO (rs (r + 1) (by omega)) ?_
      have b1 := (hZ.2.2.2.1 r (by omega)).2.1
      have b2 := (hZ.2.2.2.1 (r + 1) (by omega)).2.1
      refine own_Ok.ite (fun _ => own_Ok.let (ih (r + 1) (by omega))) fun z => absurd ((own_ltN (by omega) (by omega)).mpr (hZ.2.2.2.2.1 r (by omega)).1) z
  rw [e6]
  exact key nr 0 (by omega)
/-! the law's turns -/
theorem own_V.op {wrap tab len fc : Nat} {tx : Nat → Int32} {S E : Nat → Nat} {s u : St} (h : own_V wrap tab len fc tx S E s) (f : own_Fr [0, 1, 2] [0, 1, 4] s u) (u4 : gI u 4 = 1) {len' fc' : Nat} {tx' : Nat → Int32} {S' E' : Nat → Nat} (hT : own_Tx u len' tx') (hF : own_Fo u fc' S' E') (hS : own_So len' fc' S' E') : own_V wrap tab len' fc' tx' S' E' u := by
  obtain ⟨-, -, -, -, h2, ht, h3, hw, -⟩ := h
  exact ⟨f.1, hT, hF, hS, (f.2.2 2 (by decide)).trans h2, ht, (f.2.2 3 (by decide)).trans h3, hw, fun q => by rw [u4] at q; exact absurd q (by decide)⟩
def own_Vx (s : St) : Prop := ∃ wrap tab len fc tx S E, own_V wrap tab len fc tx S E s
theorem own_insX {wrap tab len fc : Nat} {tx : Nat → Int32} {S E : Nat → Nat} {s : St} (h : own_V wrap tab len fc tx S E s) (i : Nat) (hi : i ≤ len) (ch : Int32) (hc : f_validChar ch = some 1) : own_Ok (fun N => f_insert N (Int32.ofNat i) ch s) (fun r => own_Vx r.2) := by
  have hl := h.2.1.2.1
  by_cases z : len < 256
  · refine (own_insV h.1 h.2.1 h.2.2.1 h.2.2.2.1 hi z ch hc).mono fun r hr => ?_
    obtain ⟨k1, k2, k4, k3, k5⟩ := hr
    exact ⟨_, _, _, _, _, _, _, h.op (k2.mono (by decide) (by decide)) k4 k3 k5 (h.2.2.2.1.ins hi)⟩
  · unfold f_insert
    rw [h.2.1.1]
    refine own_Ok.ite (fun q => absurd q (ofN_nn (by omega))) fun _ => ?_
    refine own_Ok.ite (fun q => by have := (own_ltN (by omega) (by omega)).mp q; omega) fun _ => ?_
    rw [hc]
    refine own_Ok.some_bind ?_
    refine own_Ok.ite (fun q => absurd q (by decide)) fun _ => ?_
    refine own_Ok.ite (fun q => absurd ((ofN_ltL (m := 256) (by omega) (by decide)).mp q) z) fun _ => ?_
    exact own_Ok.ret ⟨_, _, _, _, _, _, _, h⟩
theorem own_delX {wrap tab len fc : Nat} {tx : Nat → Int32} {S E : Nat → Nat} {s : St} (h : own_V wrap tab len fc tx S E s) (i : Nat) (hi : i < len) : own_Ok (fun N => f_delete N (Int32.ofNat i) s) (fun r => own_Vx r.2) := by
  obtain ⟨v, a1, a2, a3⟩ := own_dvn (p := i) h.2.2.2.1
  refine (own_delV h.1 h.2.1 h.2.2.1 h.2.2.2.1 hi a1 a2 a3).mono fun r hr => ?_
  obtain ⟨k1, k2, k4, k3, k5⟩ := hr
  exact ⟨_, _, _, _, _, _, _, h.op k2 k4 k3 k5 (h.2.2.2.1.del hi a1 a3)⟩
theorem own_foldX {wrap tab len fc : Nat} {tx : Nat → Int32} {S E : Nat → Nat} {s : St} (h : own_V wrap tab len fc tx S E s) (i j : Nat) (hi : i ≤ 300) (hj : j ≤ 300) : own_Ok (fun N => f_fold N (Int32.ofNat i) (Int32.ofNat j) s) (fun r => own_Vx r.2) := by
  by_cases c : i < j ∧ j ≤ len ∧ (∀ q, q < fc → ¬ (i < E q ∧ S q < j)) ∧ fc < 8
  · obtain ⟨c1, c2, c3, c4⟩ := c
    obtain ⟨w, w1, w2, w3⟩ := own_cut h.2.2.2.1 i
    refine (own_foldV h.1 h.2.1 h.2.2.1 h.2.2.2.1 c1 c2 c3 c4 w1 w2 w3).mono fun r hr => ?_
    obtain ⟨k1, k2, k4, k5⟩ := hr
    exact ⟨_, _, _, _, _, _, _, h.op (k2.mono (by decide) (by decide)) k4 ⟨(k2.2.2 0 (by decide)).trans h.2.1.1, h.2.1.2.1, by rw [k2.2.1 0 (by decide)]; exact h.2.1.2.2⟩ k5 (h.2.2.2.1.fold c1 c2 c3 w1 w2 w3)⟩
  · refine (own_fold0 h.2.1 h.2.2.1 h.2.2.2.1 hi hj c).mono fun r hr => ?_
    rw [hr]
    exact ⟨_, _, _, _, _, _, _, h⟩
theorem own_unfX {wrap tab len fc : Nat} {tx : Nat → Int32} {S E : Nat → Nat} {s : St} (h : own_V wrap tab len fc tx S E s) (i : Nat) (hi : i ≤ len) : own_Ok (fun N => f_unfoldAt N (Int32.ofNat i) s) (fun r => own_Vx r.2) := by
  have hl := h.2.1.2.1
  by_cases z : i < len
  · refine (own_unfV h.1 h.2.1 h.2.2.1 h.2.2.2.1 z).mono fun r hr => ?_
    rcases hr with ⟨rfl, no⟩ | ⟨v, v1, v2, v3, k1, k2, k4, k5⟩
    · exact ⟨_, _, _, _, _, _, _, h⟩
    · exact ⟨_, _, _, _, _, _, _, h.op (k2.mono (by decide) (by decide)) k4 ⟨(k2.2.2 0 (by decide)).trans h.2.1.1, h.2.1.2.1, by rw [k2.2.1 0 (by decide)]; exact h.2.1.2.2⟩ k5 (h.2.2.2.1.unf v1)⟩
  · unfold f_unfoldAt f_unfoldAt_12
    rw [h.2.1.1]
    refine own_Ok.ite (fun q => absurd q (ofN_nn (by omega))) fun _ => ?_
    refine own_Ok.ite (fun q => by have := (own_ltN (by omega) (by omega)).mp q; omega) fun _ => ?_
    exact own_Ok.ret ⟨_, _, _, _, _, _, _, h⟩
theorem own_clT (p : Int32) : ∃ tab, (1 ≤ tab ∧ tab ≤ 8) ∧ f_clampTab p = some (Int32.ofNat tab) := by
  unfold f_clampTab
  by_cases c1 : p < 1
  · exact ⟨1, by decide, by rw [if_pos c1]; rfl⟩
  · by_cases c2 : 8 < p
    · exact ⟨8, by decide, by rw [if_neg c1, if_pos c2]; rfl⟩
    · have o1 : (1 : Int32).toInt = 1 := rfl
      have o8 : (8 : Int32).toInt = 8 := rfl
      have d1 := c1
      have d2 := c2
      rw [x32_lt] at d1 d2
      refine ⟨p.toInt.toNat, by omega, ?_⟩
      rw [if_neg c1, if_neg c2]
      congr 1
      exact ofN_of (by omega)
theorem own_clW (p : Int32) : ∃ w, (8 ≤ w ∧ w ≤ 32) ∧ f_clampWrap p = some (Int32.ofNat w) := by
  unfold f_clampWrap
  by_cases c1 : p < 8
  · exact ⟨8, by decide, by rw [if_pos c1]; rfl⟩
  · by_cases c2 : 32 < p
    · exact ⟨32, by decide, by rw [if_neg c1, if_pos c2]; rfl⟩
    · have o1 : (8 : Int32).toInt = 8 := rfl
      have o8 : (32 : Int32).toInt = 32 := rfl
      have d1 := c1
      have d2 := c2
      rw [x32_lt] at d1 d2
      refine ⟨p.toInt.toNat, by omega, ?_⟩
      rw [if_neg c1, if_neg c2]
      congr 1
      exact ofN_of (by omega)
theorem own_cell {a : List Int32} (hl : a.length ≤ 260) (p : Nat) (hp : p ≤ 400) : ∃ na, na ≤ 2147483647 ∧ ((f_L_cell (Int32.ofNat p) a).bind fun c => f_L_nat c) = some (Int32.ofNat na) := by
  have el : a.length.toInt32 = Int32.ofNat a.length := rfl
  have nn : ∀ x, ∃ na, na ≤ 2147483647 ∧ f_L_nat x = some (Int32.ofNat na) := fun x => by
    obtain ⟨na, ha, ea⟩ := and_natL x 2147483647 (by decide)
    exact ⟨na, ha, by unfold f_L_nat; rw [show x &&& 2147483647 = Int32.ofNat na from ea]⟩
  unfold f_L_cell f_L_cell_13
  rw [el]
  by_cases c : p < a.length
  · rw [if_pos ((own_ltN (by omega) (by omega)).mpr c), rd_at (by omega) (List.getElem?_eq_getElem c)]
    exact nn _
  · rw [if_neg (fun q => c ((own_ltN (by omega) (by omega)).mp q))]
    exact nn _
theorem own_ch (nb : Nat) (hb : nb ≤ 2147483647) : ∃ ch, f_L_charOf (Int32.ofNat nb) = some ch ∧ f_validChar ch = some 1 := by
  unfold f_L_charOf
  show ∃ ch, (if Int32.ofNat nb % 8 = 0 then _ else if Int32.ofNat nb % 8 = 1 then _ else _) = some ch ∧ _
  by_cases c1 : Int32.ofNat nb % 8 = 0
  · rw [if_pos c1]; exact ⟨_, rfl, rfl⟩
  by_cases c2 : Int32.ofNat nb % 8 = 1
  · rw [if_neg c1, if_pos c2]; exact ⟨_, rfl, rfl⟩
  rw [if_neg c1, if_neg c2]
  refine ⟨_, rfl, ?_⟩
  have m := Nat.mod_lt (nb / 8) (show 0 < 95 by decide)
  rw [show (8 : Int32) = Int32.ofNat 8 from rfl, own_divN _ _ (by omega) (by omega) (by omega), show (95 : Int32) = Int32.ofNat 95 from rfl, own_modN _ _ (by omega) (by omega) (by omega), show (32 : Int32) = Int32.ofNat 32 from rfl, ← Int32.ofNat_add]
  generalize nb / 8 % 95 = k at m
  unfold f_validChar
  rw [if_neg (fun q => by have := (ofN_eqL (m := 9) (by omega) (by decide)).mp q; omega), if_neg (fun q => by have := (ofN_eqL (m := 10) (by omega) (by decide)).mp q; omega), if_neg (fun q => by have := (ofN_ltL (m := 32) (by omega) (by decide)).mp q; omega), if_neg (fun q => by have := (ofN_gtL (m := 126) (by omega) (by decide)).mp q; omega)]
  rfl
theorem own_turn {a : List Int32} (hl : a.length ≤ 260) (p : Nat) (hp : p ≤ 300) {s : St} (hD : own_Vx s) (next : p < a.length → ∀ s, own_Vx s → own_Ok (fun n => f_law_41 n (Int32.ofNat p + 3) a s) (· = 1)) : own_Ok (fun n => g_law_41 (f_law_41 n) n (Int32.ofNat p) a s) (· = 1) := by
  have el : a.length.toInt32 = Int32.ofNat a.length := rfl
  obtain ⟨wrap, tab, len, fc, tx, S, E, h⟩ := hD
  have hl6 := h.2.1.2.1
  unfold g_law_41
  rw [el]
  refine own_Ok.ite (fun q => ?_) fun _ => own_Ok.ret rfl
  have nx := next ((own_ltN (by omega) (by omega)).mp q)
  have go : ∀ s, own_Vx s → own_Ok (fun n => f_law_234 (f_law_41 n) n (Int32.ofNat p) a s) (· = 1) := fun s hs => by
    obtain ⟨wrap, tab, len, fc, tx, S, E, h⟩ := hs
    unfold f_law_234
    refine own_Ok.bind (own_holds h) fun r hr => ?_
    refine own_Ok.ite (fun z => by rw [hr.1] at z; exact absurd z (by decide)) fun _ => ?_
    exact own_Ok.let (nx _ ⟨_, _, _, _, _, _, _, hr.2⟩)
  have cell : ∀ (k : Nat) (pos : Int32) (G : Nat → Int32 → Option Int32), k ≤ 2 → pos = Int32.ofNat (p + k) → (∀ na, na ≤ 2147483647 → own_Ok (fun n => G n (Int32.ofNat na)) (· = 1)) → own_Ok (fun n => (f_L_cell pos a).bind fun c2 => (f_L_nat c2).bind fun c3 => G n c3) (· = 1) := fun k pos G hk e hG => by
    obtain ⟨na, h1, h2⟩ := own_cell hl (p + k) (by omega)
    subst e
    refine own_Ok.congr (fun n => ?_) (hG na h1)
    cases e : f_L_cell (Int32.ofNat (p + k)) a with
    | none => rw [e] at h2; exact absurd h2 (by simp)
    | some c => rw [e, Option.bind_some] at h2; rw [Option.bind_some, h2, Option.bind_some]
  refine cell 0 _ _ (by decide) rfl fun no hno => ?_
  refine own_Ok.let ?_
  refine cell 1 _ _ (by decide) (Int32.ofNat_add p 1).symm fun na hna => ?_
  refine cell 2 _ _ (by decide) (Int32.ofNat_add p 2).symm fun nb hnb => ?_
  unfold f_length f_law_156
  refine own_Ok.some_bind ?_
  rw [h.2.1.1]
  refine own_Ok.ite (fun z => absurd z (ofN_nn (by omega))) fun _ => ?_
  have z1 : ¬ Int32.ofNat (len + 1) = 0 := fun q => by have := (ofN_eqL (m := 0) (by omega) (by decide)).mp q; omega
  have m1 : na % (len + 1) < len + 1 := Nat.mod_lt _ (by omega)
  have mb : nb % 12 < 12 := Nat.mod_lt _ (by omega)
  have fo : own_Ok (fun n => if Int32.ofNat len + 1 = 0 then none else lt (Int32.ofNat na % (Int32.ofNat len + 1)) fun x2 => (f_fold n x2 ((x2 + 1) + (Int32.ofNat nb % 12)) s).bind fun c3 => f_law_234 (f_law_41 n) n (Int32.ofNat p) a c3.2) (· = 1) := by
    rw [ofN_succ]
    refine own_Ok.ite (fun q => absurd q z1) fun _ => own_Ok.let ?_
    rw [own_modN na (len + 1) (by omega) (by omega) (by omega), show (12 : Int32) = Int32.ofNat 12 from rfl, own_modN nb 12 (by omega) (by omega) (by omega), ofN_succ, ← Int32.ofNat_add]
    exact own_Ok.bind (own_foldX h _ _ (by omega) (by omega)) fun r hr => go _ hr
  refine own_Ok.ite (fun _ => ?_) fun _ => ?_
  · rw [ofN_succ]
    refine own_Ok.ite (fun q => absurd q z1) fun _ => ?_
    obtain ⟨ch, e1, e2⟩ := own_ch nb hnb
    rw [e1, own_modN na (len + 1) (by omega) (by omega) (by omega)]
    refine own_Ok.some_bind ?_
    exact own_Ok.bind (own_insX h _ (by omega) ch e2) fun r hr => go _ hr
  refine own_Ok.ite (fun _ => ?_) fun _ => ?_
  · refine own_Ok.ite (fun q => ?_) fun q => go _ ⟨_, _, _, _, _, _, _, h⟩
    have q := (ofN_gtL (m := 0) (by omega) (by decide)).mp q
    refine own_Ok.ite (fun z => by have := (ofN_eqL (m := 0) (by omega) (by decide)).mp z; omega) fun _ => ?_
    have ml : na % len < len := Nat.mod_lt _ q
    rw [own_modN na len (by omega) (by omega) (by omega)]
    exact own_Ok.bind (own_delX h _ ml) fun r hr => go _ hr
  refine own_Ok.ite (fun _ => fo) fun _ => ?_
  refine own_Ok.ite (fun _ => fo) fun _ => ?_
  refine own_Ok.ite (fun _ => ?_) fun _ => ?_
  · rw [ofN_succ]
    refine own_Ok.ite (fun q => absurd q z1) fun _ => ?_
    rw [own_modN na (len + 1) (by omega) (by omega) (by omega)]
    exact own_Ok.bind (own_unfX h _ (by omega)) fun r hr => go _ hr
  obtain ⟨hL, hT, hF, hS, h2, ht, h3, hw, -⟩ := h
  refine own_Ok.ite (fun _ => ?_) fun _ => ?_
  · generalize Int32.ofNat na % 40 = y
    obtain ⟨w, w1, ec⟩ := own_clW y
    unfold f_setWrapWidth
    rw [ec]
    refine own_Ok.some_bind (own_Ok.congr (fun n => rfl) (go (sI (sI s 3 (Int32.ofNat w)) 4 1) ?_))
    exact ⟨w, tab, len, fc, tx, S, E, hL, hT, hF, hS, h2, ht, rfl, w1, fun q => absurd (show (1 : Int32) = 0 from q) (by decide)⟩
  · generalize Int32.ofNat na % 10 = y
    obtain ⟨w, w1, ec⟩ := own_clT y
    unfold f_setTabSize
    rw [ec]
    refine own_Ok.some_bind (own_Ok.congr (fun n => rfl) (go (sI (sI s 2 (Int32.ofNat w)) 4 1) ?_))
    exact ⟨wrap, w, len, fc, tx, S, E, hL, hT, hF, hS, rfl, w1, h3, hw, fun q => absurd (show (1 : Int32) = 0 from q) (by decide)⟩
theorem own_loop {a : List Int32} (hl : a.length ≤ 260) : ∀ (k p : Nat) (s : St), p ≤ 300 → 300 ≤ p + k → own_Vx s → own_Ok (fun n => f_law_41 n (Int32.ofNat p) a s) (· = 1) := by
  intro k
  induction k with
  | zero =>
    intro p s hp hk hD
    refine own_Ok.step (g := fun n => g_law_41 (f_law_41 n) n (Int32.ofNat p) a s) (fun n => rfl) ?_
    exact own_turn hl p hp hD fun q => absurd q (by omega)
  | succ k ih =>
    intro p s hp hk hD
    refine own_Ok.step (g := fun n => g_law_41 (f_law_41 n) n (Int32.ofNat p) a s) (fun n => rfl) ?_
    refine own_turn hl p hp hD fun q s h => ?_
    rw [show Int32.ofNat p + 3 = Int32.ofNat (p + 3) from (Int32.ofNat_add p 3).symm]
    exact ih (p + 3) s (by omega) (by omega) h
theorem owed (a : List Int32) (hl : a.length ≤ 260) : ∃ fu, f_law fu a = some 1 := by
  suffices h : own_Ok (fun n => f_law n a) (· = 1) by
    obtain ⟨r, h1, rfl⟩ := h
    exact h1.get
  unfold f_law
  obtain ⟨n0, m0, e0⟩ := own_cell hl 0 (by decide)
  obtain ⟨n1, m1, e1⟩ := own_cell hl 1 (by decide)
  have cut : ∀ (pos : Int32) (x : Int32) (G : Nat → Int32 → Option Int32), ((f_L_cell pos a).bind fun c => f_L_nat c) = some x → own_Ok (fun n => G n x) (· = 1) → own_Ok (fun n => (f_L_cell pos a).bind fun c2 => (f_L_nat c2).bind fun c3 => G n c3) (· = 1) := fun pos x G e hG => by
    refine own_Ok.congr (fun n => ?_) hG
    cases e' : f_L_cell pos a with
    | none => rw [e'] at e; exact absurd e (by simp)
    | some c => rw [e', Option.bind_some] at e; rw [Option.bind_some, e, Option.bind_some]
  refine cut 0 _ _ e0 ?_
  refine cut 1 _ _ e1 ?_
  generalize Int32.ofNat n0 % 10 = y0
  generalize Int32.ofNat n1 % 40 = y1
  obtain ⟨t, t1, et⟩ := own_clT y0
  obtain ⟨w, w1, ew⟩ := own_clW y1
  have e : f_init y0 y1 = some (sI (sI (sI (sI (sI st0 2 (Int32.ofNat t)) 3 (Int32.ofNat w)) 0 0) 1 0) 4 1) := by
    unfold f_init
    rw [et, ew]; rfl
  rw [e]
  refine own_Ok.some_bind ?_
  have hV : own_V w t 0 0 (fun _ => 0) (fun _ => 0) (fun _ => 0) (sI (sI (sI (sI (sI st0 2 (Int32.ofNat t)) 3 (Int32.ofNat w)) 0 0) 1 0) 4 1) := by
    refine ⟨?_, ⟨rfl, by decide, fun i q => absurd q (by omega)⟩, ⟨rfl, by decide, fun i q => absurd q (by omega)⟩, ⟨fun i q => absurd q (by omega), fun i j _ q => absurd q (by omega)⟩, rfl, t1, rfl, w1, fun q => absurd (show (1 : Int32) = 0 from q) (by decide)⟩
    intro j hj
    rcases (by omega : j = 0 ∨ j = 1 ∨ j = 2 ∨ j = 3 ∨ j = 4 ∨ j = 5 ∨ j = 6 ∨ j = 7 ∨ j = 8 ∨ j = 9) with rfl | rfl | rfl | rfl | rfl | rfl | rfl | rfl | rfl | rfl <;> (show List.length (List.replicate _ _) = _; rw [List.length_replicate]; rfl)
  refine own_Ok.bind (own_holds hV) fun r hr => ?_
  refine own_Ok.ite (fun z => by rw [hr.1] at z; exact absurd z (by decide)) fun _ => ?_
  exact own_loop hl 300 2 _ (by decide) (by decide) ⟨_, _, _, _, _, _, _, hr.2⟩

set_option maxRecDepth 65536 in
set_option maxHeartbeats 40000000 in
theorem comes_1 {Post : Tables → Env → Array Value → State → Outcome → State → Prop} (hpost : ∀ tb e args s v u, (limb_1_1.after args s (.returned v) u = true ∧ limb_1_2.after args s (.returned v) u = true ∧ True) → FrameEnd s (.returned v) u (Jvm.fieldLocs frame_1_writes args s ++ Jvm.arrayLocs frame_1_arrays args s ++ Jvm.staticLocs frame_1_statics s) 32 4288 → Post tb e args s (.returned v) u) :
    ArmFor flags0 classFile x code maxLocals ret World_1 tables_1 room_1 Calls_1 rest_1 Pre_1 Post := by
  intro l hfl _ _ p e ha hc hk s m args below hf hA hF happ hP
  obtain ⟨hcalls, hrest, hpre⟩ := hP
  obtain ⟨-, -, -, hnamed, -, -, -, hat⟩ := (Spec.applies_iff hf).mp happ
  obtain ⟨hg, hn⟩ := and_e (Cond.before_iff.mp (show (Jvm.Cond.and given_1 narrow_1).before args s = true from hpre))
  obtain ⟨g0, q0⟩ := and_e hg
  obtain ⟨w0, rfl⟩ : ∃ w0 : Value, args = #[w0] := by
    have hs : args.size = 1 := by simpa [Cond.value, given_1] using g0
    obtain ⟨L⟩ := args
    match L, hs with
    | [w0], _ => exact ⟨w0, rfl⟩
  have hw := fun d (hd : d ∈ tables_1) => atoms_spec (ws := Jvm.Cond.code x code maxLocals ret :: tables_1) hat d (List.mem_cons_of_mem _ hd)
  have hfit : Fit s := fun {y c} hc i hi => by
    obtain ⟨ha, rfl⟩ := Array.getElem?_eq_some_iff.mp hc
    have q := List.all_eq_true.mp ((Array.all_eq_true_iff_forall_mem.mp hF) _ (Array.getElem_mem ha)) i (List.mem_range.mpr hi)
    simpa [Array.getElem?_eq_getElem hi] using q
  obtain ⟨v0, e0, r0⟩ := isR_v q0
  obtain rfl : w0 = v0 := Option.some.inj e0
  obtain ⟨n1, n2⟩ := and_e hn
  obtain ⟨ra, rfl⟩ : ∃ ra, w0 = .ref ra := by
    rcases ref_cases r0 with rfl | ⟨ra, rfl⟩
    · exfalso
      simp only [Cond.value, e0] at n1
      split at n1 <;> cases n1
    · exact ⟨ra, rfl⟩
  obtain ⟨cl, Ar⟩ := Arr.start e0 n1
  obtain ⟨xs, hxs⟩ := script_ints hfit Ar
  have hlen : xs.length ≤ 260 := by
    have e1 : cl.slots.size = xs.length := by rw [← Array.length_toList, hxs, List.length_map]
    exact script_len e0 Ar e1 n2
  obtain ⟨fu, hfu⟩ := owed xs hlen
  obtain ⟨n, o, h1, h2, h3, _, L, rfl, ⟨w, H', rfl, hv, -, -, N⟩, hq⟩ := okLAW l s _ hw fu xs 1 hfu tables_1 s.heap.size (ad1 ra s.heap.size) s.heap (HR.start1 CN lay Ar hxs) p e ha hc hk s m _ below hf ((Spec.applies_iff_loose hf).mp happ).1 ⟨rfl, State.Warmed39.refl s, rfl⟩ trivial
  obtain rfl : w = some (.int 1) := hv
  refine ⟨n, _, h1, h2, h3, hpost _ _ _ _ _ _ ⟨Cond.after_iff.mpr rfl, Cond.after_iff.mpr (eq_i res_at (Term.int_eval (1)) rfl), trivial⟩ ⟨hq.1, hq.2.1, (hq.2.2.sift fun y hy => Or.inr (N y hy)).mono (by decide) (by decide)⟩⟩
theorem main_1_1 : Claimed_1_1 := comes_1 fun _ _ _ _ _ _ h hF => ⟨h.1, hF⟩
theorem main_1_2 : Claimed_1_2 := comes_1 fun _ _ _ _ _ _ h hF => ⟨h.2.1, hF⟩

end Jvm.Pilot.@@N@@
namespace Jvm.Pilot.@@N@@
open Jvm Jvm.ClassFile Sem Op Lib Jvm.Free Jvm.Stand Jvm.Pilot.@@N@@.Jvm.D
/-! MADE BY PROGRAM (witnessworld.py) out of the Statement's table words and the real class files: 9 classes; the members and pool entries that the words name. The judged class is class 1, her method 4. -/
namespace start1
open Jvm.ClassFile
def u (s : String) : CpInfo := .utf8 (stringToUtf16 s)
/-- a pool by its gaps: so many unusable entries, then the entry; so many at the end -/
def gap : Nat → List CpInfo → List CpInfo
  | 0, r => r
  | n + 1, r => .unusable :: gap n r
def poolList (es : List (Nat × CpInfo)) (last : Nat) : List CpInfo := es.foldr (fun e r => gap e.1 (e.2 :: r)) (gap last [])
def pool (es : List (Nat × CpInfo)) (last : Nat) : Array CpInfo := ⟨poolList es last⟩
def fileOf (pool : Array CpInfo) (this : Nat) (attrs : Array Attribute := #[]) (ms : Array MethodInfo := #[]) (fl : Nat := 33) (sup : Nat := 0) (ifs : Array Nat := #[]) (fds : Array FieldInfo := #[]) : ClassFile where
  minorVersion := 0
  majorVersion := 65
  constantPool := pool
  accessFlags := fl
  thisClass := this
  superClass := sup
  interfaces := ifs
  fields := fds
  methods := ms
  attributes := attrs
def plain (name : String) (sup : Option ClassId) : Class where
  name := name
  kind := .ordinary
  loader := none
  accessFlags := 33
  super := sup
  interfaces := #[]
  cf := none
  fields := #[]
  methods := #[]
  instanceTypes := #[]
  staticTypes := #[]
  resolved := #[]
  callSites := []
  init := .initialized
  statics := none
  mirror := none

def pool0 : Array CpInfo := pool [(5, u "<init>"), (0, u "()V"), (1, .class_ 10), (1, u "java/lang/Object")] 113

def k0c0 : Code := { maxStack := 0, maxLocals := 1, code := object_method_1_code, exceptionTable := #[], attributes := #[] }
def k0m0 : Method := { name := "<init>", desc := "()V", sig := { parameters := [], returnType := none }, accessFlags := 1, code := some k0c0 }
/-- java/lang/Object -/
def k0 : Class := { plain "java/lang/Object" none with
  accessFlags := 33
  interfaces := #[]
  cf := some (fileOf pool0 8 #[] #[{ accessFlags := 1, nameIndex := 5, descriptorIndex := 6, attributes := #[] }] 33 0 #[] #[])
  fields := #[]
  methods := #[k0m0]
  instanceTypes := #[]
  staticTypes := #[]
  resolved := Array.replicate 124 none
  statics := none }

def pool1 : Array CpInfo := pool [(2, .class_ 4), (1, u "java/lang/Object"), (0, u "<init>"), (0, u "()V"), (0, .integer 2147483647), (0, .class_ 9), (0, u "DisplayMap"), (0, .methodref 11 12), (0, .class_ 13), (0, .nameAndType 14 15), (0, u "DisplayMapOwnLaw"), (0, u "cell"), (0, u "([II)I"), (0, .methodref 11 17), (0, .nameAndType 18 19), (0, u "nat"), (0, u "(I)I"), (0, .methodref 8 21), (0, .nameAndType 5 22), (0, u "(II)V"), (0, .methodref 11 24), (0, .nameAndType 25 26), (0, u "holds"), (0, u "(LDisplayMap;)Z"), (0, .methodref 8 28), (0, .nameAndType 29 30), (0, u "length"), (0, u "()I"), (0, .methodref 11 32), (0, .nameAndType 33 19), (0, u "charOf"), (0, .methodref 8 35), (0, .nameAndType 36 37), (0, u "insert"), (0, u "(II)Z"), (0, .methodref 8 39), (0, .nameAndType 40 41), (0, u "delete"), (0, u "(I)Z"), (0, .methodref 8 43), (0, .nameAndType 44 37), (0, u "fold"), (0, .methodref 8 46), (0, .nameAndType 47 41), (0, u "unfoldAt"), (0, .methodref 8 49), (0, .nameAndType 50 51), (0, u "setWrapWidth"), (0, u "(I)V"), (0, .methodref 8 53), (0, .nameAndType 54 51), (0, u "setTabSize"), (0, .methodref 8 56), (0, .nameAndType 57 30), (0, u "rowCount"), (0, .methodref 8 59), (0, .nameAndType 60 19), (0, u "rowStart"), (0, .methodref 8 62), (0, .nameAndType 63 30), (0, u "foldCount"), (0, .methodref 8 65), (0, .nameAndType 66 19), (0, u "foldStart"), (0, .methodref 8 68), (0, .nameAndType 69 19), (0, u "foldEnd"), (0, .methodref 8 71), (0, .nameAndType 72 73), (0, u "toDisplay"), (0, u "(II)I"), (0, .methodref 8 75), (0, .nameAndType 76 77), (0, u "fromDisplay"), (0, u "(III)I"), (3, u "law"), (0, u "([I)Z")] 4

def k1m0 : Method := { name := "<init>", desc := "()V", sig := { parameters := [], returnType := none }, accessFlags := 1, code := none }
def k1c1 : Code := { maxStack := 2, maxLocals := 2, code := method_2_code, exceptionTable := #[], attributes := #[] }
def k1m1 : Method := { name := "cell", desc := "([II)I", sig := { parameters := [(.array .int), .int], returnType := some .int }, accessFlags := 10, code := some k1c1 }
def k1c2 : Code := { maxStack := 2, maxLocals := 1, code := method_3_code, exceptionTable := #[], attributes := #[] }
def k1m2 : Method := { name := "nat", desc := "(I)I", sig := { parameters := [.int], returnType := some .int }, accessFlags := 10, code := some k1c2 }
def k1c3 : Code := { maxStack := 3, maxLocals := 2, code := method_4_code, exceptionTable := #[], attributes := #[] }
def k1m3 : Method := { name := "charOf", desc := "(I)I", sig := { parameters := [.int], returnType := some .int }, accessFlags := 10, code := some k1c3 }
def k1c4 : Code := { maxStack := 5, maxLocals := 8, code := code, exceptionTable := #[], attributes := #[] }
def k1m4 : Method := { name := "law", desc := "([I)Z", sig := { parameters := [(.array .int)], returnType := some .boolean }, accessFlags := 9, code := some k1c4 }
def k1c5 : Code := { maxStack := 4, maxLocals := 11, code := method_6_code, exceptionTable := #[], attributes := #[] }
def k1m5 : Method := { name := "holds", desc := "(LDisplayMap;)Z", sig := { parameters := [(.object "DisplayMap")], returnType := some .boolean }, accessFlags := 10, code := some k1c5 }
/-- DisplayMapOwnLaw -/
def k1 : Class := { plain "DisplayMapOwnLaw" (some 0) with
  accessFlags := 49
  interfaces := #[]
  cf := some (fileOf pool1 11 #[] #[{ accessFlags := 1, nameIndex := 5, descriptorIndex := 6, attributes := #[] }, { accessFlags := 10, nameIndex := 14, descriptorIndex := 15, attributes := #[] }, { accessFlags := 10, nameIndex := 18, descriptorIndex := 19, attributes := #[] }, { accessFlags := 10, nameIndex := 33, descriptorIndex := 19, attributes := #[] }, { accessFlags := 9, nameIndex := 81, descriptorIndex := 82, attributes := #[] }, { accessFlags := 10, nameIndex := 25, descriptorIndex := 26, attributes := #[] }] 49 2 #[] #[])
  fields := #[]
  methods := #[k1m0, k1m1, k1m2, k1m3, k1m4, k1m5]
  instanceTypes := #[]
  staticTypes := #[]
  resolved := Array.replicate 87 none
  statics := none }

def pool2 : Array CpInfo := pool [(1, .methodref 2 3), (0, .class_ 4), (0, .nameAndType 5 6), (0, u "java/lang/Object"), (0, u "<init>"), (0, u "()V"), (0, .fieldref 8 9), (0, .class_ 10), (0, .nameAndType 11 12), (0, u "DisplayMap"), (0, u "text"), (0, u "[I"), (0, .fieldref 8 14), (0, .nameAndType 15 12), (0, u "foldS"), (0, .fieldref 8 17), (0, .nameAndType 18 12), (0, u "foldE"), (0, .fieldref 8 20), (0, .nameAndType 21 12), (0, u "elStart"), (0, .fieldref 8 23), (0, .nameAndType 24 12), (0, u "elEnd"), (0, .fieldref 8 26), (0, .nameAndType 27 12), (0, u "elWidth"), (0, .fieldref 8 29), (0, .nameAndType 30 12), (0, u "rowS"), (0, .fieldref 8 32), (0, .nameAndType 33 12), (0, u "rowW"), (0, .fieldref 8 35), (0, .nameAndType 36 12), (0, u "rowFirst"), (0, .fieldref 8 38), (0, .nameAndType 39 12), (0, u "rowNum"), (0, .methodref 8 41), (0, .nameAndType 42 43), (0, u "clampTab"), (0, u "(I)I"), (0, .fieldref 8 45), (0, .nameAndType 46 47), (0, u "tabSize"), (0, u "I"), (0, .methodref 8 49), (0, .nameAndType 50 43), (0, u "clampWrap"), (0, .fieldref 8 52), (0, .nameAndType 53 47), (0, u "wrapWidth"), (0, .fieldref 8 55), (0, .nameAndType 56 47), (0, u "len"), (0, .fieldref 8 58), (0, .nameAndType 59 47), (0, u "foldN"), (0, .fieldref 8 61), (0, .nameAndType 62 63), (0, u "dirty"), (0, u "Z"), (0, .methodref 8 65), (0, .nameAndType 66 67), (0, u "validChar"), (0, u "(I)Z"), (0, .methodref 8 69), (0, .nameAndType 70 71), (0, u "overlapsAny"), (0, u "(II)Z"), (0, .methodref 8 73), (0, .nameAndType 74 6), (0, u "ensureLayout"), (0, .fieldref 8 76), (0, .nameAndType 77 47), (0, u "rowN"), (0, .methodref 8 79), (0, .nameAndType 80 81), (0, u "snapOutOfFold"), (0, u "(II)I"), (0, .methodref 8 83), (0, .nameAndType 84 43), (0, u "rowEnd"), (0, .methodref 8 86), (0, .nameAndType 87 6), (0, u "layout"), (0, .fieldref 8 89), (0, .nameAndType 90 47), (0, u "elCount"), (0, .methodref 8 92), (0, .nameAndType 93 94), (0, u "openRow"), (0, u "(I)V"), (0, .fieldref 8 96), (0, .nameAndType 97 47), (0, u "curCol"), (0, .methodref 8 99), (0, .nameAndType 100 43), (0, u "foldStartingAt"), (0, .methodref 8 102), (0, .nameAndType 103 104), (0, u "addElement"), (0, u "(III)V"), (0, .methodref 8 106), (0, .nameAndType 107 6), (0, u "closeRow"), (0, .fieldref 8 109), (0, .nameAndType 110 47), (0, u "curStart"), (0, .fieldref 8 112), (0, .nameAndType 113 47), (0, u "curWidth"), (0, .fieldref 8 115), (0, .nameAndType 116 47), (0, u "curFirst"), (0, .fieldref 8 118), (0, .nameAndType 119 47), (0, u "curNum"), (0, u "BIAS_LEFT"), (2, u "BIAS_RIGHT"), (1, u "FOLD_WIDTH"), (1, u "MAX_LENGTH"), (1, u "MAX_FOLDS"), (1, u "NONE"), (1, u "POINT_SHIFT"), (0, u "MAX_ROWS"), (1, u "(II)V"), (2, u "insert"), (1, u "delete"), (0, u "fold"), (0, u "unfoldAt"), (0, u "setWrapWidth"), (0, u "setTabSize"), (0, u "length"), (0, u "()I"), (1, u "foldCount"), (0, u "foldStart"), (0, u "foldEnd"), (0, u "rowCount"), (0, u "rowStart"), (1, u "toDisplay"), (0, u "fromDisplay"), (0, u "(III)I")] 2

def k2c0 : Code := { maxStack := 2, maxLocals := 3, code := prog_1_method_1_code, exceptionTable := #[], attributes := #[] }
def k2m0 : Method := { name := "<init>", desc := "(II)V", sig := { parameters := [.int, .int], returnType := none }, accessFlags := 1, code := some k2c0 }
def k2c1 : Code := { maxStack := 5, maxLocals := 4, code := prog_1_method_2_code, exceptionTable := #[], attributes := #[] }
def k2m1 : Method := { name := "insert", desc := "(II)Z", sig := { parameters := [.int, .int], returnType := some .boolean }, accessFlags := 1, code := some k2c1 }
def k2c2 : Code := { maxStack := 5, maxLocals := 6, code := prog_1_method_3_code, exceptionTable := #[], attributes := #[] }
def k2m2 : Method := { name := "delete", desc := "(I)Z", sig := { parameters := [.int], returnType := some .boolean }, accessFlags := 1, code := some k2c2 }
def k2c3 : Code := { maxStack := 5, maxLocals := 5, code := prog_1_method_4_code, exceptionTable := #[], attributes := #[] }
def k2m3 : Method := { name := "fold", desc := "(II)Z", sig := { parameters := [.int, .int], returnType := some .boolean }, accessFlags := 1, code := some k2c3 }
def k2c4 : Code := { maxStack := 5, maxLocals := 4, code := prog_1_method_5_code, exceptionTable := #[], attributes := #[] }
def k2m4 : Method := { name := "unfoldAt", desc := "(I)Z", sig := { parameters := [.int], returnType := some .boolean }, accessFlags := 1, code := some k2c4 }
def k2c5 : Code := { maxStack := 2, maxLocals := 2, code := prog_1_method_6_code, exceptionTable := #[], attributes := #[] }
def k2m5 : Method := { name := "setWrapWidth", desc := "(I)V", sig := { parameters := [.int], returnType := none }, accessFlags := 1, code := some k2c5 }
def k2c6 : Code := { maxStack := 2, maxLocals := 2, code := prog_1_method_7_code, exceptionTable := #[], attributes := #[] }
def k2m6 : Method := { name := "setTabSize", desc := "(I)V", sig := { parameters := [.int], returnType := none }, accessFlags := 1, code := some k2c6 }
def k2c7 : Code := { maxStack := 1, maxLocals := 1, code := prog_1_method_8_code, exceptionTable := #[], attributes := #[] }
def k2m7 : Method := { name := "length", desc := "()I", sig := { parameters := [], returnType := some .int }, accessFlags := 1, code := some k2c7 }
def k2c8 : Code := { maxStack := 1, maxLocals := 1, code := prog_1_method_10_code, exceptionTable := #[], attributes := #[] }
def k2m8 : Method := { name := "foldCount", desc := "()I", sig := { parameters := [], returnType := some .int }, accessFlags := 1, code := some k2c8 }
def k2c9 : Code := { maxStack := 2, maxLocals := 2, code := prog_1_method_11_code, exceptionTable := #[], attributes := #[] }
def k2m9 : Method := { name := "foldStart", desc := "(I)I", sig := { parameters := [.int], returnType := some .int }, accessFlags := 1, code := some k2c9 }
def k2c10 : Code := { maxStack := 2, maxLocals := 2, code := prog_1_method_12_code, exceptionTable := #[], attributes := #[] }
def k2m10 : Method := { name := "foldEnd", desc := "(I)I", sig := { parameters := [.int], returnType := some .int }, accessFlags := 1, code := some k2c10 }
def k2c11 : Code := { maxStack := 1, maxLocals := 1, code := prog_1_method_13_code, exceptionTable := #[], attributes := #[] }
def k2m11 : Method := { name := "rowCount", desc := "()I", sig := { parameters := [], returnType := some .int }, accessFlags := 1, code := some k2c11 }
def k2c12 : Code := { maxStack := 2, maxLocals := 2, code := prog_1_method_14_code, exceptionTable := #[], attributes := #[] }
def k2m12 : Method := { name := "rowStart", desc := "(I)I", sig := { parameters := [.int], returnType := some .int }, accessFlags := 1, code := some k2c12 }
def k2c13 : Code := { maxStack := 3, maxLocals := 9, code := prog_1_method_16_code, exceptionTable := #[], attributes := #[] }
def k2m13 : Method := { name := "toDisplay", desc := "(II)I", sig := { parameters := [.int, .int], returnType := some .int }, accessFlags := 1, code := some k2c13 }
def k2c14 : Code := { maxStack := 3, maxLocals := 9, code := prog_1_method_17_code, exceptionTable := #[], attributes := #[] }
def k2m14 : Method := { name := "fromDisplay", desc := "(III)I", sig := { parameters := [.int, .int, .int], returnType := some .int }, accessFlags := 1, code := some k2c14 }
def k2c15 : Code := { maxStack := 2, maxLocals := 1, code := prog_1_method_18_code, exceptionTable := #[], attributes := #[] }
def k2m15 : Method := { name := "clampTab", desc := "(I)I", sig := { parameters := [.int], returnType := some .int }, accessFlags := 10, code := some k2c15 }
def k2c16 : Code := { maxStack := 2, maxLocals := 1, code := prog_1_method_19_code, exceptionTable := #[], attributes := #[] }
def k2m16 : Method := { name := "clampWrap", desc := "(I)I", sig := { parameters := [.int], returnType := some .int }, accessFlags := 10, code := some k2c16 }
def k2c17 : Code := { maxStack := 2, maxLocals := 1, code := prog_1_method_20_code, exceptionTable := #[], attributes := #[] }
def k2m17 : Method := { name := "validChar", desc := "(I)Z", sig := { parameters := [.int], returnType := some .boolean }, accessFlags := 10, code := some k2c17 }
def k2c18 : Code := { maxStack := 3, maxLocals := 4, code := prog_1_method_21_code, exceptionTable := #[], attributes := #[] }
def k2m18 : Method := { name := "overlapsAny", desc := "(II)Z", sig := { parameters := [.int, .int], returnType := some .boolean }, accessFlags := 2, code := some k2c18 }
def k2c19 : Code := { maxStack := 3, maxLocals := 4, code := prog_1_method_22_code, exceptionTable := #[], attributes := #[] }
def k2m19 : Method := { name := "snapOutOfFold", desc := "(II)I", sig := { parameters := [.int, .int], returnType := some .int }, accessFlags := 2, code := some k2c19 }
def k2c20 : Code := { maxStack := 2, maxLocals := 3, code := prog_1_method_23_code, exceptionTable := #[], attributes := #[] }
def k2m20 : Method := { name := "foldStartingAt", desc := "(I)I", sig := { parameters := [.int], returnType := some .int }, accessFlags := 2, code := some k2c20 }
def k2c21 : Code := { maxStack := 2, maxLocals := 4, code := prog_1_method_24_code, exceptionTable := #[], attributes := #[] }
def k2m21 : Method := { name := "rowEnd", desc := "(I)I", sig := { parameters := [.int], returnType := some .int }, accessFlags := 2, code := some k2c21 }
def k2c22 : Code := { maxStack := 2, maxLocals := 1, code := prog_1_method_25_code, exceptionTable := #[], attributes := #[] }
def k2m22 : Method := { name := "ensureLayout", desc := "()V", sig := { parameters := [], returnType := none }, accessFlags := 2, code := some k2c22 }
def k2c23 : Code := { maxStack := 6, maxLocals := 5, code := prog_1_method_26_code, exceptionTable := #[], attributes := #[] }
def k2m23 : Method := { name := "layout", desc := "()V", sig := { parameters := [], returnType := none }, accessFlags := 2, code := some k2c23 }
def k2c24 : Code := { maxStack := 2, maxLocals := 2, code := prog_1_method_27_code, exceptionTable := #[], attributes := #[] }
def k2m24 : Method := { name := "openRow", desc := "(I)V", sig := { parameters := [.int], returnType := none }, accessFlags := 2, code := some k2c24 }
def k2c25 : Code := { maxStack := 3, maxLocals := 1, code := prog_1_method_28_code, exceptionTable := #[], attributes := #[] }
def k2m25 : Method := { name := "closeRow", desc := "()V", sig := { parameters := [], returnType := none }, accessFlags := 2, code := some k2c25 }
def k2c26 : Code := { maxStack := 3, maxLocals := 4, code := prog_1_method_29_code, exceptionTable := #[], attributes := #[] }
def k2m26 : Method := { name := "addElement", desc := "(III)V", sig := { parameters := [.int, .int, .int], returnType := none }, accessFlags := 2, code := some k2c26 }
/-- DisplayMap -/
def k2 : Class := { plain "DisplayMap" (some 0) with
  accessFlags := 49
  interfaces := #[]
  cf := some (fileOf pool2 8 #[] #[{ accessFlags := 1, nameIndex := 5, descriptorIndex := 136, attributes := #[] }, { accessFlags := 1, nameIndex := 139, descriptorIndex := 71, attributes := #[] }, { accessFlags := 1, nameIndex := 141, descriptorIndex := 67, attributes := #[] }, { accessFlags := 1, nameIndex := 142, descriptorIndex := 71, attributes := #[] }, { accessFlags := 1, nameIndex := 143, descriptorIndex := 67, attributes := #[] }, { accessFlags := 1, nameIndex := 144, descriptorIndex := 94, attributes := #[] }, { accessFlags := 1, nameIndex := 145, descriptorIndex := 94, attributes := #[] }, { accessFlags := 1, nameIndex := 146, descriptorIndex := 147, attributes := #[] }, { accessFlags := 1, nameIndex := 149, descriptorIndex := 147, attributes := #[] }, { accessFlags := 1, nameIndex := 150, descriptorIndex := 43, attributes := #[] }, { accessFlags := 1, nameIndex := 151, descriptorIndex := 43, attributes := #[] }, { accessFlags := 1, nameIndex := 152, descriptorIndex := 147, attributes := #[] }, { accessFlags := 1, nameIndex := 153, descriptorIndex := 43, attributes := #[] }, { accessFlags := 1, nameIndex := 155, descriptorIndex := 81, attributes := #[] }, { accessFlags := 1, nameIndex := 156, descriptorIndex := 157, attributes := #[] }, { accessFlags := 10, nameIndex := 42, descriptorIndex := 43, attributes := #[] }, { accessFlags := 10, nameIndex := 50, descriptorIndex := 43, attributes := #[] }, { accessFlags := 10, nameIndex := 66, descriptorIndex := 67, attributes := #[] }, { accessFlags := 2, nameIndex := 70, descriptorIndex := 71, attributes := #[] }, { accessFlags := 2, nameIndex := 80, descriptorIndex := 81, attributes := #[] }, { accessFlags := 2, nameIndex := 100, descriptorIndex := 43, attributes := #[] }, { accessFlags := 2, nameIndex := 84, descriptorIndex := 43, attributes := #[] }, { accessFlags := 2, nameIndex := 74, descriptorIndex := 6, attributes := #[] }, { accessFlags := 2, nameIndex := 87, descriptorIndex := 6, attributes := #[] }, { accessFlags := 2, nameIndex := 93, descriptorIndex := 94, attributes := #[] }, { accessFlags := 2, nameIndex := 107, descriptorIndex := 6, attributes := #[] }, { accessFlags := 2, nameIndex := 103, descriptorIndex := 104, attributes := #[] }] 49 2 #[] #[{ accessFlags := 25, nameIndex := 120, descriptorIndex := 47, attributes := #[] }, { accessFlags := 25, nameIndex := 123, descriptorIndex := 47, attributes := #[] }, { accessFlags := 25, nameIndex := 125, descriptorIndex := 47, attributes := #[] }, { accessFlags := 25, nameIndex := 127, descriptorIndex := 47, attributes := #[] }, { accessFlags := 25, nameIndex := 129, descriptorIndex := 47, attributes := #[] }, { accessFlags := 25, nameIndex := 131, descriptorIndex := 47, attributes := #[] }, { accessFlags := 25, nameIndex := 133, descriptorIndex := 47, attributes := #[] }, { accessFlags := 26, nameIndex := 134, descriptorIndex := 47, attributes := #[] }, { accessFlags := 18, nameIndex := 11, descriptorIndex := 12, attributes := #[] }, { accessFlags := 2, nameIndex := 56, descriptorIndex := 47, attributes := #[] }, { accessFlags := 18, nameIndex := 15, descriptorIndex := 12, attributes := #[] }, { accessFlags := 18, nameIndex := 18, descriptorIndex := 12, attributes := #[] }, { accessFlags := 2, nameIndex := 59, descriptorIndex := 47, attributes := #[] }, { accessFlags := 2, nameIndex := 46, descriptorIndex := 47, attributes := #[] }, { accessFlags := 2, nameIndex := 53, descriptorIndex := 47, attributes := #[] }, { accessFlags := 2, nameIndex := 62, descriptorIndex := 63, attributes := #[] }, { accessFlags := 18, nameIndex := 21, descriptorIndex := 12, attributes := #[] }, { accessFlags := 18, nameIndex := 24, descriptorIndex := 12, attributes := #[] }, { accessFlags := 18, nameIndex := 27, descriptorIndex := 12, attributes := #[] }, { accessFlags := 2, nameIndex := 90, descriptorIndex := 47, attributes := #[] }, { accessFlags := 18, nameIndex := 30, descriptorIndex := 12, attributes := #[] }, { accessFlags := 18, nameIndex := 33, descriptorIndex := 12, attributes := #[] }, { accessFlags := 18, nameIndex := 36, descriptorIndex := 12, attributes := #[] }, { accessFlags := 18, nameIndex := 39, descriptorIndex := 12, attributes := #[] }, { accessFlags := 2, nameIndex := 77, descriptorIndex := 47, attributes := #[] }, { accessFlags := 2, nameIndex := 110, descriptorIndex := 47, attributes := #[] }, { accessFlags := 2, nameIndex := 113, descriptorIndex := 47, attributes := #[] }, { accessFlags := 2, nameIndex := 116, descriptorIndex := 47, attributes := #[] }, { accessFlags := 2, nameIndex := 119, descriptorIndex := 47, attributes := #[] }, { accessFlags := 2, nameIndex := 97, descriptorIndex := 47, attributes := #[] }])
  fields := #[{ name := "BIAS_LEFT", type := .int, accessFlags := 25, slot := 0, constantValue := 0 }, { name := "BIAS_RIGHT", type := .int, accessFlags := 25, slot := 1, constantValue := 0 }, { name := "FOLD_WIDTH", type := .int, accessFlags := 25, slot := 2, constantValue := 0 }, { name := "MAX_LENGTH", type := .int, accessFlags := 25, slot := 3, constantValue := 0 }, { name := "MAX_FOLDS", type := .int, accessFlags := 25, slot := 4, constantValue := 0 }, { name := "NONE", type := .int, accessFlags := 25, slot := 5, constantValue := 0 }, { name := "POINT_SHIFT", type := .int, accessFlags := 25, slot := 6, constantValue := 0 }, { name := "MAX_ROWS", type := .int, accessFlags := 26, slot := 7, constantValue := 0 }, { name := "text", type := (.array .int), accessFlags := 18, slot := 0, constantValue := 0 }, { name := "len", type := .int, accessFlags := 2, slot := 1, constantValue := 0 }, { name := "foldS", type := (.array .int), accessFlags := 18, slot := 2, constantValue := 0 }, { name := "foldE", type := (.array .int), accessFlags := 18, slot := 3, constantValue := 0 }, { name := "foldN", type := .int, accessFlags := 2, slot := 4, constantValue := 0 }, { name := "tabSize", type := .int, accessFlags := 2, slot := 5, constantValue := 0 }, { name := "wrapWidth", type := .int, accessFlags := 2, slot := 6, constantValue := 0 }, { name := "dirty", type := .boolean, accessFlags := 2, slot := 7, constantValue := 0 }, { name := "elStart", type := (.array .int), accessFlags := 18, slot := 8, constantValue := 0 }, { name := "elEnd", type := (.array .int), accessFlags := 18, slot := 9, constantValue := 0 }, { name := "elWidth", type := (.array .int), accessFlags := 18, slot := 10, constantValue := 0 }, { name := "elCount", type := .int, accessFlags := 2, slot := 11, constantValue := 0 }, { name := "rowS", type := (.array .int), accessFlags := 18, slot := 12, constantValue := 0 }, { name := "rowW", type := (.array .int), accessFlags := 18, slot := 13, constantValue := 0 }, { name := "rowFirst", type := (.array .int), accessFlags := 18, slot := 14, constantValue := 0 }, { name := "rowNum", type := (.array .int), accessFlags := 18, slot := 15, constantValue := 0 }, { name := "rowN", type := .int, accessFlags := 2, slot := 16, constantValue := 0 }, { name := "curStart", type := .int, accessFlags := 2, slot := 17, constantValue := 0 }, { name := "curWidth", type := .int, accessFlags := 2, slot := 18, constantValue := 0 }, { name := "curFirst", type := .int, accessFlags := 2, slot := 19, constantValue := 0 }, { name := "curNum", type := .int, accessFlags := 2, slot := 20, constantValue := 0 }, { name := "curCol", type := .int, accessFlags := 2, slot := 21, constantValue := 0 }]
  methods := #[k2m0, k2m1, k2m2, k2m3, k2m4, k2m5, k2m6, k2m7, k2m8, k2m9, k2m10, k2m11, k2m12, k2m13, k2m14, k2m15, k2m16, k2m17, k2m18, k2m19, k2m20, k2m21, k2m22, k2m23, k2m24, k2m25, k2m26]
  instanceTypes := #[(.array .int), .int, (.array .int), (.array .int), .int, .int, .int, .boolean, (.array .int), (.array .int), (.array .int), .int, (.array .int), (.array .int), (.array .int), (.array .int), .int, .int, .int, .int, .int, .int]
  staticTypes := #[.int, .int, .int, .int, .int, .int, .int, .int]
  resolved := Array.replicate 160 none
  statics := none }

def pool3 : Array CpInfo := pool [(1, u "java/lang/Cloneable"), (0, .class_ 1), (0, u "java/lang/Object"), (0, .class_ 3)] 3

/-- java/lang/Cloneable -/
def k3 : Class := { plain "java/lang/Cloneable" (some 0) with
  accessFlags := 1537
  interfaces := #[]
  cf := some (fileOf pool3 2 #[] #[] 1537 4 #[] #[])
  fields := #[]
  methods := #[]
  instanceTypes := #[]
  staticTypes := #[]
  resolved := Array.replicate 8 none
  statics := none }

def pool4 : Array CpInfo := pool [(1, u "java/io/Serializable"), (0, .class_ 1), (0, u "java/lang/Object"), (0, .class_ 3)] 3

/-- java/io/Serializable -/
def k4 : Class := { plain "java/io/Serializable" (some 0) with
  accessFlags := 1537
  interfaces := #[]
  cf := some (fileOf pool4 2 #[] #[] 1537 4 #[] #[])
  fields := #[]
  methods := #[]
  instanceTypes := #[]
  staticTypes := #[]
  resolved := Array.replicate 8 none
  statics := none }

/-- the primitive byte -/
def k5 : Class := { plain "byte" none with kind := .primitive 'B', accessFlags := 0x411 }
/-- [B -/
def k6 : Class := { plain "[B" (some 0) with kind := .array 5 .byte, interfaces := #[3, 4], accessFlags := 1041 }

/-- the primitive int -/
def k7 : Class := { plain "int" none with kind := .primitive 'I', accessFlags := 0x411 }
/-- [I -/
def k8 : Class := { plain "[I" (some 0) with kind := .array 7 .int, interfaces := #[3, 4], accessFlags := 1041 }

def heap : Heap := #[{ cls := 8, slots := #[.int 1, .int 2, .int 3], vm := .none }]
def classes : Array Class := #[k0, k1, k2, k3, k4, k5, k6, k7, k8]
def interned : List (Array UInt16 × Addr) := []
def slotsUsed : Nat := 3
def theMethod : MethodId := ⟨1, 4⟩
def args0 : Array Value := #[.ref 0]
def aboutOver (below : List Frame) : State where
  vm := { classes := classes, interned := interned.toArray }
  heap := heap
  slotsUsed := slotsUsed
  threads := #[{ frames := .invoking theMethod args0 :: below }]
def below0 : List Frame := [.native { method := ⟨0, 0⟩, args := #[] }]
def about1 : State := aboutOver below0
def p0 : Program := .bare "" "" ""
def e0 : Env := launch0.env 0 0 0
theorem w_frames : about1.frames = Frame.invoking theMethod args0 :: below0 := rfl
set_option maxRecDepth 65536 in
theorem w_args : argsFit about1.vm theMethod args0 = true := by decide +kernel
set_option maxRecDepth 65536 in
theorem w_heap : heapFits about1 = true := by decide +kernel
set_option maxRecDepth 65536 in
theorem w_runnable : about1.curStatus? = some .runnable := by decide +kernel
set_option maxRecDepth 65536 in
theorem w_alone : about1.alone = true := by decide +kernel
set_option maxRecDepth 65536 in
theorem w_named : about1.methodNamed? x = some theMethod := by decide +kernel
set_option maxRecDepth 65536 in
theorem w_hears : about1.hears theMethod below0 = true := by decide +kernel
set_option maxRecDepth 65536 in
theorem w_ripe : about1.ripe theMethod args0 below0 = true := by decide +kernel
theorem w_running : about1.status = .running := rfl
set_option maxRecDepth 65536 in
theorem w_room : about1.hasRoom e0.platform room_1 = true :=
  launch0.hasRoom_least _ room_1 (by decide +kernel) (by decide +kernel) (by decide +kernel) (by decide +kernel) (by decide +kernel) (by decide +kernel)
theorem allAtoms_all (ts : List Jvm.Cond) (a : Array Jvm.Value) (st : Jvm.State) : (allAtoms ts).before a st = ts.all (fun c => c.before a st) := by
  induction ts with
  | nil => rfl
  | cons c t ih =>
    show (Jvm.Cond.and c (allAtoms t)).before a st = _
    rw [Jvm.Cond.before_and, ih, List.all_cons]
def words1 : List Jvm.Cond := Jvm.Cond.code x code maxLocals ret :: tables_1
/-- a 'code' word, met by the world's own term for the bytes: nothing is compared byte by byte -/
theorem code_word {y : MethodName} {bytes : ByteArray} {mx : Nat} {rt : Option FieldType} {a : Array Value} {s : State} {m : MethodId} {meth : Method} {c : Code} (h1 : s.methodNamed? y = some m) (h2 : s.vm.method? m = some meth) (h3 : meth.code = some c) (h4 : c.code = bytes)
    (h5 : (c.maxLocals == mx && c.exceptionTable.isEmpty && decide (c.maxStack ≤ mostOperands) && decide (meth.sig.returnType = rt) && !meth.locks && decide (parseMethodDescriptor y.desc = some meth.sig)) = true) : (Jvm.Cond.code y bytes mx rt).before a s = true := by
  simp only [Bool.and_eq_true, beq_iff_eq, Bool.not_eq_true', decide_eq_true_eq] at h5
  obtain ⟨⟨⟨⟨⟨g1, g2⟩, g3⟩, g4⟩, g5⟩, g6⟩ := h5
  simp [Cond.before, Cond.holds, Cond.value, h1, h2, h3, h4, g1, g2, g3, g4, g5, g6]
def isCode : Jvm.Cond → Bool
  | .code _ _ _ _ => true
  | _ => false
theorem all_split {L : List Jvm.Cond} {P : Jvm.Cond → Bool} (h1 : L.all (fun c => isCode c || P c) = true) (h2 : ∀ c ∈ L.filter isCode, P c = true) : L.all P = true := by
  refine List.all_eq_true.mpr fun c hc => ?_
  have h := List.all_eq_true.mp h1 c hc
  rcases Bool.eq_false_or_eq_true (isCode c) with hi | hi
  · exact h2 c (List.mem_filter.mpr ⟨hc, hi⟩)
  · simpa [hi] using h
set_option maxRecDepth 65536 in
theorem w_c0 : (Jvm.Cond.code x code maxLocals ret).before args0 about1 = true := code_word (m := ⟨1, 4⟩) (meth := k1m4) (c := k1c4) (by decide +kernel) rfl rfl rfl (by decide +kernel)
set_option maxRecDepth 65536 in
theorem w_c1 : (Jvm.Cond.code ({ cls := "DisplayMapOwnLaw", name := "cell", desc := "([II)I" } : Jvm.MethodName) method_2_code (2 : Nat) (Option.some Jvm.ClassFile.FieldType.int)).before args0 about1 = true := code_word (m := ⟨1, 1⟩) (meth := k1m1) (c := k1c1) (by decide +kernel) rfl rfl rfl (by decide +kernel)
set_option maxRecDepth 65536 in
theorem w_c2 : (Jvm.Cond.code ({ cls := "DisplayMapOwnLaw", name := "nat", desc := "(I)I" } : Jvm.MethodName) method_3_code (1 : Nat) (Option.some Jvm.ClassFile.FieldType.int)).before args0 about1 = true := code_word (m := ⟨1, 2⟩) (meth := k1m2) (c := k1c2) (by decide +kernel) rfl rfl rfl (by decide +kernel)
set_option maxRecDepth 65536 in
theorem w_c3 : (Jvm.Cond.code ({ cls := "DisplayMap", name := "<init>", desc := "(II)V" } : Jvm.MethodName) prog_1_method_1_code (3 : Nat) (Option.none : Option Jvm.ClassFile.FieldType)).before args0 about1 = true := code_word (m := ⟨2, 0⟩) (meth := k2m0) (c := k2c0) (by decide +kernel) rfl rfl rfl (by decide +kernel)
set_option maxRecDepth 65536 in
theorem w_c4 : (Jvm.Cond.code ({ cls := "java/lang/Object", name := "<init>", desc := "()V" } : Jvm.MethodName) object_method_1_code (1 : Nat) (Option.none : Option Jvm.ClassFile.FieldType)).before args0 about1 = true := code_word (m := ⟨0, 0⟩) (meth := k0m0) (c := k0c0) (by decide +kernel) rfl rfl rfl (by decide +kernel)
set_option maxRecDepth 65536 in
theorem w_c5 : (Jvm.Cond.code ({ cls := "DisplayMap", name := "clampTab", desc := "(I)I" } : Jvm.MethodName) prog_1_method_18_code (1 : Nat) (Option.some Jvm.ClassFile.FieldType.int)).before args0 about1 = true := code_word (m := ⟨2, 15⟩) (meth := k2m15) (c := k2c15) (by decide +kernel) rfl rfl rfl (by decide +kernel)
set_option maxRecDepth 65536 in
theorem w_c6 : (Jvm.Cond.code ({ cls := "DisplayMap", name := "clampWrap", desc := "(I)I" } : Jvm.MethodName) prog_1_method_19_code (1 : Nat) (Option.some Jvm.ClassFile.FieldType.int)).before args0 about1 = true := code_word (m := ⟨2, 16⟩) (meth := k2m16) (c := k2c16) (by decide +kernel) rfl rfl rfl (by decide +kernel)
set_option maxRecDepth 65536 in
theorem w_c7 : (Jvm.Cond.code ({ cls := "DisplayMapOwnLaw", name := "holds", desc := "(LDisplayMap;)Z" } : Jvm.MethodName) method_6_code (11 : Nat) (Option.some Jvm.ClassFile.FieldType.boolean)).before args0 about1 = true := code_word (m := ⟨1, 5⟩) (meth := k1m5) (c := k1c5) (by decide +kernel) rfl rfl rfl (by decide +kernel)
set_option maxRecDepth 65536 in
theorem w_c8 : (Jvm.Cond.code ({ cls := "DisplayMap", name := "rowCount", desc := "()I" } : Jvm.MethodName) prog_1_method_13_code (1 : Nat) (Option.some Jvm.ClassFile.FieldType.int)).before args0 about1 = true := code_word (m := ⟨2, 11⟩) (meth := k2m11) (c := k2c11) (by decide +kernel) rfl rfl rfl (by decide +kernel)
set_option maxRecDepth 65536 in
theorem w_c9 : (Jvm.Cond.code ({ cls := "DisplayMap", name := "ensureLayout", desc := "()V" } : Jvm.MethodName) prog_1_method_25_code (1 : Nat) (Option.none : Option Jvm.ClassFile.FieldType)).before args0 about1 = true := code_word (m := ⟨2, 22⟩) (meth := k2m22) (c := k2c22) (by decide +kernel) rfl rfl rfl (by decide +kernel)
set_option maxRecDepth 65536 in
theorem w_c10 : (Jvm.Cond.code ({ cls := "DisplayMap", name := "layout", desc := "()V" } : Jvm.MethodName) prog_1_method_26_code (5 : Nat) (Option.none : Option Jvm.ClassFile.FieldType)).before args0 about1 = true := code_word (m := ⟨2, 23⟩) (meth := k2m23) (c := k2c23) (by decide +kernel) rfl rfl rfl (by decide +kernel)
set_option maxRecDepth 65536 in
theorem w_c11 : (Jvm.Cond.code ({ cls := "DisplayMap", name := "openRow", desc := "(I)V" } : Jvm.MethodName) prog_1_method_27_code (2 : Nat) (Option.none : Option Jvm.ClassFile.FieldType)).before args0 about1 = true := code_word (m := ⟨2, 24⟩) (meth := k2m24) (c := k2c24) (by decide +kernel) rfl rfl rfl (by decide +kernel)
set_option maxRecDepth 65536 in
theorem w_c12 : (Jvm.Cond.code ({ cls := "DisplayMap", name := "closeRow", desc := "()V" } : Jvm.MethodName) prog_1_method_28_code (1 : Nat) (Option.none : Option Jvm.ClassFile.FieldType)).before args0 about1 = true := code_word (m := ⟨2, 25⟩) (meth := k2m25) (c := k2c25) (by decide +kernel) rfl rfl rfl (by decide +kernel)
set_option maxRecDepth 65536 in
theorem w_c13 : (Jvm.Cond.code ({ cls := "DisplayMap", name := "rowStart", desc := "(I)I" } : Jvm.MethodName) prog_1_method_14_code (2 : Nat) (Option.some Jvm.ClassFile.FieldType.int)).before args0 about1 = true := code_word (m := ⟨2, 12⟩) (meth := k2m12) (c := k2c12) (by decide +kernel) rfl rfl rfl (by decide +kernel)
set_option maxRecDepth 65536 in
theorem w_c14 : (Jvm.Cond.code ({ cls := "DisplayMap", name := "length", desc := "()I" } : Jvm.MethodName) prog_1_method_8_code (1 : Nat) (Option.some Jvm.ClassFile.FieldType.int)).before args0 about1 = true := code_word (m := ⟨2, 7⟩) (meth := k2m7) (c := k2c7) (by decide +kernel) rfl rfl rfl (by decide +kernel)
set_option maxRecDepth 65536 in
theorem w_c15 : (Jvm.Cond.code ({ cls := "DisplayMap", name := "foldCount", desc := "()I" } : Jvm.MethodName) prog_1_method_10_code (1 : Nat) (Option.some Jvm.ClassFile.FieldType.int)).before args0 about1 = true := code_word (m := ⟨2, 8⟩) (meth := k2m8) (c := k2c8) (by decide +kernel) rfl rfl rfl (by decide +kernel)
set_option maxRecDepth 65536 in
theorem w_c16 : (Jvm.Cond.code ({ cls := "DisplayMap", name := "toDisplay", desc := "(II)I" } : Jvm.MethodName) prog_1_method_16_code (9 : Nat) (Option.some Jvm.ClassFile.FieldType.int)).before args0 about1 = true := code_word (m := ⟨2, 13⟩) (meth := k2m13) (c := k2c13) (by decide +kernel) rfl rfl rfl (by decide +kernel)
set_option maxRecDepth 65536 in
theorem w_c17 : (Jvm.Cond.code ({ cls := "DisplayMap", name := "snapOutOfFold", desc := "(II)I" } : Jvm.MethodName) prog_1_method_22_code (4 : Nat) (Option.some Jvm.ClassFile.FieldType.int)).before args0 about1 = true := code_word (m := ⟨2, 19⟩) (meth := k2m19) (c := k2c19) (by decide +kernel) rfl rfl rfl (by decide +kernel)
set_option maxRecDepth 65536 in
theorem w_c18 : (Jvm.Cond.code ({ cls := "DisplayMap", name := "fromDisplay", desc := "(III)I" } : Jvm.MethodName) prog_1_method_17_code (9 : Nat) (Option.some Jvm.ClassFile.FieldType.int)).before args0 about1 = true := code_word (m := ⟨2, 14⟩) (meth := k2m14) (c := k2c14) (by decide +kernel) rfl rfl rfl (by decide +kernel)
set_option maxRecDepth 65536 in
theorem w_c19 : (Jvm.Cond.code ({ cls := "DisplayMap", name := "rowEnd", desc := "(I)I" } : Jvm.MethodName) prog_1_method_24_code (4 : Nat) (Option.some Jvm.ClassFile.FieldType.int)).before args0 about1 = true := code_word (m := ⟨2, 21⟩) (meth := k2m21) (c := k2c21) (by decide +kernel) rfl rfl rfl (by decide +kernel)
set_option maxRecDepth 65536 in
theorem w_c20 : (Jvm.Cond.code ({ cls := "DisplayMapOwnLaw", name := "charOf", desc := "(I)I" } : Jvm.MethodName) method_4_code (2 : Nat) (Option.some Jvm.ClassFile.FieldType.int)).before args0 about1 = true := code_word (m := ⟨1, 3⟩) (meth := k1m3) (c := k1c3) (by decide +kernel) rfl rfl rfl (by decide +kernel)
set_option maxRecDepth 65536 in
theorem w_c21 : (Jvm.Cond.code ({ cls := "DisplayMap", name := "insert", desc := "(II)Z" } : Jvm.MethodName) prog_1_method_2_code (4 : Nat) (Option.some Jvm.ClassFile.FieldType.boolean)).before args0 about1 = true := code_word (m := ⟨2, 1⟩) (meth := k2m1) (c := k2c1) (by decide +kernel) rfl rfl rfl (by decide +kernel)
set_option maxRecDepth 65536 in
theorem w_c22 : (Jvm.Cond.code ({ cls := "DisplayMap", name := "validChar", desc := "(I)Z" } : Jvm.MethodName) prog_1_method_20_code (1 : Nat) (Option.some Jvm.ClassFile.FieldType.boolean)).before args0 about1 = true := code_word (m := ⟨2, 17⟩) (meth := k2m17) (c := k2c17) (by decide +kernel) rfl rfl rfl (by decide +kernel)
set_option maxRecDepth 65536 in
theorem w_c23 : (Jvm.Cond.code ({ cls := "DisplayMap", name := "foldStartingAt", desc := "(I)I" } : Jvm.MethodName) prog_1_method_23_code (3 : Nat) (Option.some Jvm.ClassFile.FieldType.int)).before args0 about1 = true := code_word (m := ⟨2, 20⟩) (meth := k2m20) (c := k2c20) (by decide +kernel) rfl rfl rfl (by decide +kernel)
set_option maxRecDepth 65536 in
theorem w_c24 : (Jvm.Cond.code ({ cls := "DisplayMap", name := "addElement", desc := "(III)V" } : Jvm.MethodName) prog_1_method_29_code (4 : Nat) (Option.none : Option Jvm.ClassFile.FieldType)).before args0 about1 = true := code_word (m := ⟨2, 26⟩) (meth := k2m26) (c := k2c26) (by decide +kernel) rfl rfl rfl (by decide +kernel)
set_option maxRecDepth 65536 in
theorem w_c25 : (Jvm.Cond.code ({ cls := "DisplayMap", name := "fold", desc := "(II)Z" } : Jvm.MethodName) prog_1_method_4_code (5 : Nat) (Option.some Jvm.ClassFile.FieldType.boolean)).before args0 about1 = true := code_word (m := ⟨2, 3⟩) (meth := k2m3) (c := k2c3) (by decide +kernel) rfl rfl rfl (by decide +kernel)
set_option maxRecDepth 65536 in
theorem w_c26 : (Jvm.Cond.code ({ cls := "DisplayMap", name := "unfoldAt", desc := "(I)Z" } : Jvm.MethodName) prog_1_method_5_code (4 : Nat) (Option.some Jvm.ClassFile.FieldType.boolean)).before args0 about1 = true := code_word (m := ⟨2, 4⟩) (meth := k2m4) (c := k2c4) (by decide +kernel) rfl rfl rfl (by decide +kernel)
set_option maxRecDepth 65536 in
theorem w_c27 : (Jvm.Cond.code ({ cls := "DisplayMap", name := "setWrapWidth", desc := "(I)V" } : Jvm.MethodName) prog_1_method_6_code (2 : Nat) (Option.none : Option Jvm.ClassFile.FieldType)).before args0 about1 = true := code_word (m := ⟨2, 5⟩) (meth := k2m5) (c := k2c5) (by decide +kernel) rfl rfl rfl (by decide +kernel)
set_option maxRecDepth 65536 in
theorem w_c28 : (Jvm.Cond.code ({ cls := "DisplayMap", name := "overlapsAny", desc := "(II)Z" } : Jvm.MethodName) prog_1_method_21_code (4 : Nat) (Option.some Jvm.ClassFile.FieldType.boolean)).before args0 about1 = true := code_word (m := ⟨2, 18⟩) (meth := k2m18) (c := k2c18) (by decide +kernel) rfl rfl rfl (by decide +kernel)
set_option maxRecDepth 65536 in
theorem w_c29 : (Jvm.Cond.code ({ cls := "DisplayMap", name := "foldStart", desc := "(I)I" } : Jvm.MethodName) prog_1_method_11_code (2 : Nat) (Option.some Jvm.ClassFile.FieldType.int)).before args0 about1 = true := code_word (m := ⟨2, 9⟩) (meth := k2m9) (c := k2c9) (by decide +kernel) rfl rfl rfl (by decide +kernel)
set_option maxRecDepth 65536 in
theorem w_c30 : (Jvm.Cond.code ({ cls := "DisplayMap", name := "foldEnd", desc := "(I)I" } : Jvm.MethodName) prog_1_method_12_code (2 : Nat) (Option.some Jvm.ClassFile.FieldType.int)).before args0 about1 = true := code_word (m := ⟨2, 10⟩) (meth := k2m10) (c := k2c10) (by decide +kernel) rfl rfl rfl (by decide +kernel)
set_option maxRecDepth 65536 in
theorem w_c31 : (Jvm.Cond.code ({ cls := "DisplayMap", name := "delete", desc := "(I)Z" } : Jvm.MethodName) prog_1_method_3_code (6 : Nat) (Option.some Jvm.ClassFile.FieldType.boolean)).before args0 about1 = true := code_word (m := ⟨2, 2⟩) (meth := k2m2) (c := k2c2) (by decide +kernel) rfl rfl rfl (by decide +kernel)
set_option maxRecDepth 65536 in
theorem w_c32 : (Jvm.Cond.code ({ cls := "DisplayMap", name := "setTabSize", desc := "(I)V" } : Jvm.MethodName) prog_1_method_7_code (2 : Nat) (Option.none : Option Jvm.ClassFile.FieldType)).before args0 about1 = true := code_word (m := ⟨2, 6⟩) (meth := k2m6) (c := k2c6) (by decide +kernel) rfl rfl rfl (by decide +kernel)
def codes1 : List Jvm.Cond := [Jvm.Cond.code x code maxLocals ret, Jvm.Cond.code ({ cls := "DisplayMapOwnLaw", name := "cell", desc := "([II)I" } : Jvm.MethodName) method_2_code (2 : Nat) (Option.some Jvm.ClassFile.FieldType.int), Jvm.Cond.code ({ cls := "DisplayMapOwnLaw", name := "nat", desc := "(I)I" } : Jvm.MethodName) method_3_code (1 : Nat) (Option.some Jvm.ClassFile.FieldType.int), Jvm.Cond.code ({ cls := "DisplayMap", name := "<init>", desc := "(II)V" } : Jvm.MethodName) prog_1_method_1_code (3 : Nat) (Option.none : Option Jvm.ClassFile.FieldType), Jvm.Cond.code ({ cls := "java/lang/Object", name := "<init>", desc := "()V" } : Jvm.MethodName) object_method_1_code (1 : Nat) (Option.none : Option Jvm.ClassFile.FieldType), Jvm.Cond.code ({ cls := "DisplayMap", name := "clampTab", desc := "(I)I" } : Jvm.MethodName) prog_1_method_18_code (1 : Nat) (Option.some Jvm.ClassFile.FieldType.int), Jvm.Cond.code ({ cls := "DisplayMap", name := "clampWrap", desc := "(I)I" } : Jvm.MethodName) prog_1_method_19_code (1 : Nat) (Option.some Jvm.ClassFile.FieldType.int), Jvm.Cond.code ({ cls := "DisplayMapOwnLaw", name := "holds", desc := "(LDisplayMap;)Z" } : Jvm.MethodName) method_6_code (11 : Nat) (Option.some Jvm.ClassFile.FieldType.boolean), Jvm.Cond.code ({ cls := "DisplayMap", name := "rowCount", desc := "()I" } : Jvm.MethodName) prog_1_method_13_code (1 : Nat) (Option.some Jvm.ClassFile.FieldType.int), Jvm.Cond.code ({ cls := "DisplayMap", name := "ensureLayout", desc := "()V" } : Jvm.MethodName) prog_1_method_25_code (1 : Nat) (Option.none : Option Jvm.ClassFile.FieldType), Jvm.Cond.code ({ cls := "DisplayMap", name := "layout", desc := "()V" } : Jvm.MethodName) prog_1_method_26_code (5 : Nat) (Option.none : Option Jvm.ClassFile.FieldType), Jvm.Cond.code ({ cls := "DisplayMap", name := "openRow", desc := "(I)V" } : Jvm.MethodName) prog_1_method_27_code (2 : Nat) (Option.none : Option Jvm.ClassFile.FieldType), Jvm.Cond.code ({ cls := "DisplayMap", name := "closeRow", desc := "()V" } : Jvm.MethodName) prog_1_method_28_code (1 : Nat) (Option.none : Option Jvm.ClassFile.FieldType), Jvm.Cond.code ({ cls := "DisplayMap", name := "rowStart", desc := "(I)I" } : Jvm.MethodName) prog_1_method_14_code (2 : Nat) (Option.some Jvm.ClassFile.FieldType.int), Jvm.Cond.code ({ cls := "DisplayMap", name := "length", desc := "()I" } : Jvm.MethodName) prog_1_method_8_code (1 : Nat) (Option.some Jvm.ClassFile.FieldType.int), Jvm.Cond.code ({ cls := "DisplayMap", name := "foldCount", desc := "()I" } : Jvm.MethodName) prog_1_method_10_code (1 : Nat) (Option.some Jvm.ClassFile.FieldType.int), Jvm.Cond.code ({ cls := "DisplayMap", name := "toDisplay", desc := "(II)I" } : Jvm.MethodName) prog_1_method_16_code (9 : Nat) (Option.some Jvm.ClassFile.FieldType.int), Jvm.Cond.code ({ cls := "DisplayMap", name := "snapOutOfFold", desc := "(II)I" } : Jvm.MethodName) prog_1_method_22_code (4 : Nat) (Option.some Jvm.ClassFile.FieldType.int), Jvm.Cond.code ({ cls := "DisplayMap", name := "fromDisplay", desc := "(III)I" } : Jvm.MethodName) prog_1_method_17_code (9 : Nat) (Option.some Jvm.ClassFile.FieldType.int), Jvm.Cond.code ({ cls := "DisplayMap", name := "rowEnd", desc := "(I)I" } : Jvm.MethodName) prog_1_method_24_code (4 : Nat) (Option.some Jvm.ClassFile.FieldType.int), Jvm.Cond.code ({ cls := "DisplayMapOwnLaw", name := "charOf", desc := "(I)I" } : Jvm.MethodName) method_4_code (2 : Nat) (Option.some Jvm.ClassFile.FieldType.int), Jvm.Cond.code ({ cls := "DisplayMap", name := "insert", desc := "(II)Z" } : Jvm.MethodName) prog_1_method_2_code (4 : Nat) (Option.some Jvm.ClassFile.FieldType.boolean), Jvm.Cond.code ({ cls := "DisplayMap", name := "validChar", desc := "(I)Z" } : Jvm.MethodName) prog_1_method_20_code (1 : Nat) (Option.some Jvm.ClassFile.FieldType.boolean), Jvm.Cond.code ({ cls := "DisplayMap", name := "foldStartingAt", desc := "(I)I" } : Jvm.MethodName) prog_1_method_23_code (3 : Nat) (Option.some Jvm.ClassFile.FieldType.int), Jvm.Cond.code ({ cls := "DisplayMap", name := "addElement", desc := "(III)V" } : Jvm.MethodName) prog_1_method_29_code (4 : Nat) (Option.none : Option Jvm.ClassFile.FieldType), Jvm.Cond.code ({ cls := "DisplayMap", name := "fold", desc := "(II)Z" } : Jvm.MethodName) prog_1_method_4_code (5 : Nat) (Option.some Jvm.ClassFile.FieldType.boolean), Jvm.Cond.code ({ cls := "DisplayMap", name := "unfoldAt", desc := "(I)Z" } : Jvm.MethodName) prog_1_method_5_code (4 : Nat) (Option.some Jvm.ClassFile.FieldType.boolean), Jvm.Cond.code ({ cls := "DisplayMap", name := "setWrapWidth", desc := "(I)V" } : Jvm.MethodName) prog_1_method_6_code (2 : Nat) (Option.none : Option Jvm.ClassFile.FieldType), Jvm.Cond.code ({ cls := "DisplayMap", name := "overlapsAny", desc := "(II)Z" } : Jvm.MethodName) prog_1_method_21_code (4 : Nat) (Option.some Jvm.ClassFile.FieldType.boolean), Jvm.Cond.code ({ cls := "DisplayMap", name := "foldStart", desc := "(I)I" } : Jvm.MethodName) prog_1_method_11_code (2 : Nat) (Option.some Jvm.ClassFile.FieldType.int), Jvm.Cond.code ({ cls := "DisplayMap", name := "foldEnd", desc := "(I)I" } : Jvm.MethodName) prog_1_method_12_code (2 : Nat) (Option.some Jvm.ClassFile.FieldType.int), Jvm.Cond.code ({ cls := "DisplayMap", name := "delete", desc := "(I)Z" } : Jvm.MethodName) prog_1_method_3_code (6 : Nat) (Option.some Jvm.ClassFile.FieldType.boolean), Jvm.Cond.code ({ cls := "DisplayMap", name := "setTabSize", desc := "(I)V" } : Jvm.MethodName) prog_1_method_7_code (2 : Nat) (Option.none : Option Jvm.ClassFile.FieldType)]
set_option maxRecDepth 65536 in
theorem codes_eq : words1.filter isCode = codes1 := rfl
theorem w_codes : ∀ c ∈ words1.filter isCode, c.before args0 about1 = true := by
  rw [codes_eq]
  intro c hc
  simp only [codes1, List.mem_cons, List.not_mem_nil, or_false] at hc
  rcases hc with rfl | rfl | rfl | rfl | rfl | rfl | rfl | rfl | rfl | rfl | rfl | rfl | rfl | rfl | rfl | rfl | rfl | rfl | rfl | rfl | rfl | rfl | rfl | rfl | rfl | rfl | rfl | rfl | rfl | rfl | rfl | rfl | rfl
  · exact w_c0
  · exact w_c1
  · exact w_c2
  · exact w_c3
  · exact w_c4
  · exact w_c5
  · exact w_c6
  · exact w_c7
  · exact w_c8
  · exact w_c9
  · exact w_c10
  · exact w_c11
  · exact w_c12
  · exact w_c13
  · exact w_c14
  · exact w_c15
  · exact w_c16
  · exact w_c17
  · exact w_c18
  · exact w_c19
  · exact w_c20
  · exact w_c21
  · exact w_c22
  · exact w_c23
  · exact w_c24
  · exact w_c25
  · exact w_c26
  · exact w_c27
  · exact w_c28
  · exact w_c29
  · exact w_c30
  · exact w_c31
  · exact w_c32
set_option maxRecDepth 65536 in
theorem w_t1 : (words1.take 24).all (fun c => isCode c || c.before args0 about1) = true := by decide +kernel
set_option maxRecDepth 65536 in
theorem w_t2 : ((words1.drop 24).take 24).all (fun c => isCode c || c.before args0 about1) = true := by decide +kernel
set_option maxRecDepth 65536 in
theorem w_t3 : (((words1.drop 24).drop 24).take 24).all (fun c => isCode c || c.before args0 about1) = true := by decide +kernel
set_option maxRecDepth 65536 in
theorem w_t4 : ((((words1.drop 24).drop 24).drop 24).take 24).all (fun c => isCode c || c.before args0 about1) = true := by decide +kernel
set_option maxRecDepth 65536 in
theorem w_t5 : (((((words1.drop 24).drop 24).drop 24).drop 24).take 24).all (fun c => isCode c || c.before args0 about1) = true := by decide +kernel
set_option maxRecDepth 65536 in
theorem w_t6 : ((((((words1.drop 24).drop 24).drop 24).drop 24).drop 24).take 24).all (fun c => isCode c || c.before args0 about1) = true := by decide +kernel
set_option maxRecDepth 65536 in
theorem w_t7 : (((((((words1.drop 24).drop 24).drop 24).drop 24).drop 24).drop 24).take 24).all (fun c => isCode c || c.before args0 about1) = true := by decide +kernel
set_option maxRecDepth 65536 in
theorem w_t8 : (((((((words1.drop 24).drop 24).drop 24).drop 24).drop 24).drop 24).drop 24).all (fun c => isCode c || c.before args0 about1) = true := by decide +kernel
theorem w_tables : (allAtoms (Jvm.Cond.code x code maxLocals ret :: tables_1)).before args0 about1 = true := by
  rw [allAtoms_all]
  show words1.all (fun c => c.before args0 about1) = true
  refine all_split ?_ w_codes
  rw [← List.take_append_drop 24 words1, List.all_append, w_t1, ← List.take_append_drop 24 (words1.drop 24), List.all_append, w_t2, ← List.take_append_drop 24 ((words1.drop 24).drop 24), List.all_append, w_t3, ← List.take_append_drop 24 (((words1.drop 24).drop 24).drop 24), List.all_append, w_t4, ← List.take_append_drop 24 ((((words1.drop 24).drop 24).drop 24).drop 24), List.all_append, w_t5, ← List.take_append_drop 24 (((((words1.drop 24).drop 24).drop 24).drop 24).drop 24), List.all_append, w_t6, ← List.take_append_drop 24 ((((((words1.drop 24).drop 24).drop 24).drop 24).drop 24).drop 24), List.all_append, w_t7, w_t8]
  rfl
set_option maxRecDepth 65536 in
theorem w_rest : rest_1_c.before args0 about1 = true := by decide +kernel
set_option maxRecDepth 65536 in
theorem w_case : (Jvm.Cond.and given_1 narrow_1).before args0 about1 = true := by decide +kernel
theorem w_applies : (headSpec (Jvm.Cond.code x code maxLocals ret :: tables_1) room_1).applies x e0.platform about1 = true :=
  (Spec.applies_iff w_frames).mpr ⟨w_running, w_runnable, w_alone, w_named, w_hears, w_ripe, w_room, w_tables⟩
theorem atStart : AtStart classFile x code maxLocals ret World_1 tables_1 room_1 Calls_1 rest_1 Pre_1 launch0 p0 e0 about1 theMethod args0 below0 :=
  ⟨lists_1, trivial, launch0.admits_env _ _ _, launch0.least_env, fairChoices_fair.cas, fairChoices_fair.clock, w_frames, w_args, w_heap, w_applies, trivial, w_rest, w_case⟩
end start1
theorem witness_1 : WitnessClaimed_1 := ⟨start1.p0, start1.e0, start1.about1, start1.theMethod, start1.args0, start1.below0, start1.atStart⟩
end Jvm.Pilot.@@N@@
