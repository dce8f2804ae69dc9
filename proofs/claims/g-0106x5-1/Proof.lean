import JvmDerived
import JvmDerived.Pilot.@@N@@Statement
import JvmDerived.Pilot.@@N@@Code
set_option linter.unusedVariables false
set_option linter.unusedSimpArgs false
namespace Jvm.Own
open Jvm Jvm.ClassFile Sem Op Lib Jvm.Free Jvm.Stand Jvm.LawKit Jvm.RoadKit Bundle
/-! ## values, cells, heaps of the small view -/
theorem leb {a b : Nat} (h : Nat.ble a b = true) : a ≤ b := Nat.le_of_ble_eq_true h
abbrev dc (b : ByteArray) (pc : Nat) (i : Instr) (n : Nat) : Prop := decode b pc = .ok (i, n)
abbrev OwnC : Type := Sum (List Value) (Sum (List Int32) (Sum (List Int64) (List Int32)))
abbrev cO (vs : List Value) : OwnC := .inl vs
abbrev cI (xs : List Int32) : OwnC := .inr (.inl xs)
abbrev cJ (xs : List Int64) : OwnC := .inr (.inr (.inl xs))
abbrev cZ (xs : List Int32) : OwnC := .inr (.inr (.inr xs))
def rf (ad : Nat → Addr) : Value → Value
  | .ref i => .ref (ad i)
  | .int x => .int x
  | .long x => .long x
  | .float x => .float x
  | .double x => .double x
  | .null => .null
  | .retAddr x => .retAddr x
theorem rf_cat (ad : Nat → Addr) (v : Value) : (rf ad v).category = v.category := by cases v <;> rfl
theorem rf_isRef (ad : Nat → Addr) (v : Value) : (rf ad v).isRef = v.isRef := by cases v <;> rfl
theorem rf_cats (ad : Nat → Addr) (S : List Value) : ((S.map (rf ad)).map fun v => v.category) = S.map fun v => v.category := by
  simp [List.map_map, Function.comp_def, rf_cat]
def CelOk (Z : State) (C : String) (lay : List (String × String)) (ad : Nat → Addr) (h : Heap) (a : Addr) : OwnC → Prop
  | .inl vs => Exa Z h a C ∧ ∀ (i : Nat) (f : String × String) (v : Value), lay[i]? = some f → vs[i]? = some v → Fld Z h a C f.1 f.2 (rf ad v)
  | .inr (.inl xs) => ∃ cl : Cell, Arr Z h a cl .int ∧ cl.slots.toList = xs.map Value.int
  | .inr (.inr (.inl xs)) => ∃ cl : Cell, Arr Z h a cl .long ∧ cl.slots.toList = xs.map Value.long
  | .inr (.inr (.inr xs)) => ∃ cl : Cell, Arr Z h a cl .boolean ∧ cl.slots.toList = xs.map Value.int
def HR (Z : State) (C : String) (lay : List (String × String)) (n0 ro : Nat) (ad : Nat → Addr) (H : List OwnC) (h : Heap) : Prop :=
  (∀ i c, H[i]? = some c → CelOk Z C lay ad h (ad i) c) ∧ (∀ i j, i < H.length → j < H.length → ad i = ad j → i = j) ∧ (∀ t, ad (H.length + t) = h.size + t) ∧ (∀ i, i < H.length → ro ≤ i → n0 ≤ ad i) ∧ n0 ≤ h.size
def Kp (ad : Nat → Addr) (N : Nat) (h h' : Heap) : Prop := h.size ≤ h'.size ∧ ∀ (a : Addr) (c : Cell), h[a]? = some c → (∀ i, i < N → ad i ≠ a) → h'[a]? = some c
theorem CelOk.keep {Z : State} {C : String} {lay : List (String × String)} {ad : Nat → Addr} {h h' : Heap} {a : Addr} {c : OwnC} (q : ∀ cz : Cell, h[a]? = some cz → h'[a]? = some cz) (F : CelOk Z C lay ad h a c) : CelOk Z C lay ad h' a c := by
  rcases c with vs | xs | xs | xs
  · obtain ⟨⟨cell, k, h1, r⟩, F2⟩ := F
    refine ⟨⟨cell, k, q _ h1, r⟩, fun i f v hf hv => ?_⟩
    obtain ⟨cell, cf, k, i, f, h1, r⟩ := F2 i f v hf hv
    exact ⟨cell, cf, k, i, f, q _ h1, r⟩
  all_goals
    obtain ⟨cl, ⟨h1, r⟩, h2⟩ := F
    exact ⟨cl, ⟨q _ h1, r⟩, h2⟩
theorem CelOk.lt {Z : State} {C : String} {lay : List (String × String)} {ad : Nat → Addr} {h : Heap} {a : Addr} {c : OwnC} (F : CelOk Z C lay ad h a c) : a < h.size := by
  rcases c with vs | xs | xs | xs
  · exact F.1.lt
  all_goals
    obtain ⟨cl, A, h2⟩ := F
    exact A.lt
theorem Kp.refl (ad : Nat → Addr) (N : Nat) (h : Heap) : Kp ad N h h := ⟨Nat.le_refl _, fun _ _ q _ => q⟩
theorem get_lt {α : Type} {L : List α} {i : Nat} {c : α} (h : L[i]? = some c) : i < L.length := (List.getElem?_eq_some_iff.mp h).1
section HRs
variable {Z : State} {C : String} {lay : List (String × String)} {n0 ro : Nat} {ad : Nat → Addr} {H H' : List OwnC} {h h' h'' : Heap}
/-- the addresses at or above H.length lie at or above the heap's size -/
theorem HR.new (R : HR Z C lay n0 ro ad H h) {i : Nat} (hi : H.length ≤ i) : h.size ≤ ad i := by
  obtain ⟨t, rfl⟩ := Nat.exists_eq_add_of_le hi
  rw [R.2.2.1 t]; exact Nat.le_add_right _ _
theorem Kp.trans (R : HR Z C lay n0 ro ad H h) (K : Kp ad H.length h h') {N : Nat} (K' : Kp ad N h' h'') : Kp ad H.length h h'' := by
  refine ⟨Nat.le_trans K.1 K'.1, fun a c hc hn => K'.2 a c (K.2 a c hc hn) fun i hi q => ?_⟩
  by_cases hl : i < H.length
  · exact hn i hl q
  · have h1 := R.new (Nat.le_of_not_lt hl)
    rw [q] at h1
    exact absurd (Array.getElem?_eq_some_iff.mp hc).1 (Nat.not_lt.mpr h1)
/-- one cell of the small heap is written anew, at its own address -/
theorem HR.put (R : HR Z C lay n0 ro ad H h) {i : Nat} {c : OwnC} (hi : i < H.length) (hs : h'.size = h.size) (ho : ∀ a cz, a ≠ ad i → h[a]? = some cz → h'[a]? = some cz) (hc : CelOk Z C lay ad h' (ad i) c) :
    HR Z C lay n0 ro ad (H.set i c) h' ∧ Kp ad H.length h h' := by
  refine ⟨⟨fun j c' hj => ?_, fun i' j' hi' hj' => ?_, fun t => ?_, fun i' hi' => ?_, by rw [hs]; exact R.2.2.2.2⟩, by rw [hs]; exact Nat.le_refl _, fun a cz hz hn => ho a cz (fun q => hn i hi q.symm) hz⟩
  · rw [List.getElem?_set] at hj
    by_cases e : i = j
    · subst e
      simp [hi] at hj
      subst hj; exact hc
    · rw [if_neg e] at hj
      exact (R.1 j c' hj).keep fun cz q => ho _ cz (fun q' => e (R.2.1 _ _ hi (get_lt hj) q'.symm)) q
  · simp only [List.length_set] at hi' hj'; exact R.2.1 _ _ hi' hj'
  · rw [List.length_set, hs]; exact R.2.2.1 t
  · simp only [List.length_set] at hi'; exact R.2.2.2.1 _ hi'
/-- a new cell behind all others -/
theorem HR.push (R : HR Z C lay n0 ro ad H h) {c : OwnC} (hs : h'.size = h.size + 1) (hE : Ext h h') (hc : CelOk Z C lay ad h' h.size c) :
    HR Z C lay n0 ro ad (H ++ [c]) h' ∧ Kp ad H.length h h' ∧ ad H.length = h.size := by
  have e0 : ad H.length = h.size := R.2.2.1 0
  refine ⟨⟨fun j c' hj => ?_, fun i j hi hj q => ?_, fun t => ?_, fun i hi hr => ?_, by rw [hs]; exact Nat.le_succ_of_le R.2.2.2.2⟩, ⟨hE.1, fun a cz hz _ => hE.2 _ _ hz⟩, e0⟩
  · by_cases hl : j < H.length
    · rw [List.getElem?_append_left hl] at hj
      exact (R.1 j c' hj).keep fun cz q => hE.2 _ _ q
    · have hl' := get_lt hj
      simp only [List.length_append, List.length_singleton] at hl'
      obtain rfl : j = H.length := by omega
      simp at hj
      subst hj; rw [e0]; exact hc
  · simp only [List.length_append, List.length_singleton] at hi hj
    by_cases h1 : i < H.length
    · by_cases h2 : j < H.length
      · exact R.2.1 _ _ h1 h2 q
      · have a1 := (R.1 i _ (List.getElem?_eq_getElem h1)).lt
        have a2 := R.new (Nat.le_of_not_lt h2)
        rw [q] at a1
        exact absurd a1 (Nat.not_lt.mpr a2)
    · by_cases h2 : j < H.length
      · have a1 := (R.1 j _ (List.getElem?_eq_getElem h2)).lt
        have a2 := R.new (Nat.le_of_not_lt h1)
        rw [q] at a2
        exact absurd a1 (Nat.not_lt.mpr a2)
      · omega
  · rw [hs]
    have := R.2.2.1 (1 + t)
    simp only [List.length_append, List.length_singleton]
    rw [Nat.add_assoc, this]; exact (Nat.add_assoc _ _ _).symm
  · simp only [List.length_append, List.length_singleton] at hi
    by_cases h1 : i < H.length
    · exact R.2.2.2.1 _ h1 hr
    · exact Nat.le_trans R.2.2.2.2 (R.new (Nat.le_of_not_lt h1))
end HRs
/-! ## local variables: 'unset' in the small view says nothing -/
def WFs (f : Nat → Option Slot) : Prop := (∀ i, f i = some .second → ∃ j v, i = j + 1 ∧ f j = some (.val v) ∧ v.category = 2) ∧ ∀ i v, f i = some (.val v) → v.category = 2 → f (i + 1) = some .second
def LR (ad : Nat → Addr) (L : List Slot) (Ls : Array Slot) : Prop :=
  L.length = Ls.size ∧ (∀ (i : Nat) (v : Value), L[i]? = some (.val v) → Ls[i]? = some (.val (rf ad v))) ∧ (∀ i : Nat, L[i]? = some .second → Ls[i]? = some .second) ∧ WFs fun i => Ls[i]?
def kill2 : Slot → Slot
  | .val (.long _) => .unset
  | .val (.double _) => .unset
  | s => s
def killS : Slot → Slot
  | .second => .unset
  | s => s
def hd1 (f : Slot → Slot) : List Slot → List Slot
  | [] => []
  | y :: t => f y :: t
def st1 : List Slot → Nat → Value → List Slot
  | [], _, _ => []
  | _ :: t, 0, v => .val v :: hd1 killS t
  | y :: t, n + 1, v => match n with
    | 0 => kill2 y :: st1 t 0 v
    | k + 1 => y :: st1 t (k + 1) v
def st2 : List Slot → Nat → Value → List Slot
  | [], _, _ => []
  | _ :: t, 0, v => .val v :: (match t with | [] => [] | _ :: t' => .second :: hd1 killS t')
  | y :: t, n + 1, v => match n with
    | 0 => kill2 y :: st2 t 0 v
    | k + 1 => y :: st2 t (k + 1) v
theorem st1_len (v : Value) : ∀ (L : List Slot) (i : Nat), (st1 L i v).length = L.length
  | [], _ => rfl
  | y :: [], 0 => rfl
  | y :: z :: t, 0 => rfl
  | y :: t, 1 => congrArg Nat.succ (st1_len v t 0)
  | y :: t, k + 2 => congrArg Nat.succ (st1_len v t (k + 1))
theorem st2_len (v : Value) : ∀ (L : List Slot) (i : Nat), (st2 L i v).length = L.length
  | [], _ => rfl
  | y :: [], 0 => rfl
  | y :: z :: [], 0 => rfl
  | y :: z :: w :: t, 0 => rfl
  | y :: t, 1 => congrArg Nat.succ (st2_len v t 0)
  | y :: t, k + 2 => congrArg Nat.succ (st2_len v t (k + 1))
theorem kill2_e {y s : Slot} (h : kill2 y = s) (hs : s ≠ .unset) : y = s ∧ ∀ w, s = .val w → w.category = 1 := by
  subst h
  rcases y with _ | _ | w
  · exact absurd rfl hs
  · exact ⟨rfl, fun w h => by cases h⟩
  · cases w <;> first | exact absurd rfl hs | exact ⟨rfl, fun w h => by cases h; rfl⟩
theorem killS_e {y s : Slot} (h : killS y = s) (hs : s ≠ .unset) : y = s ∧ s ≠ .second := by
  subst h
  rcases y with _ | _ | w
  · exact absurd rfl hs
  · exact absurd rfl hs
  · exact ⟨rfl, fun h => by cases h⟩
theorem hd1_e {t : List Slot} {j : Nat} {s : Slot} (h : (hd1 killS t)[j]? = some s) (hs : s ≠ .unset) : t[j]? = some s ∧ (j = 0 → s ≠ .second) := by
  cases t with
  | nil => simp [hd1] at h
  | cons y t =>
    cases j with
    | zero =>
      have h' : killS y = s := by simpa [hd1] using h
      obtain ⟨e1, e2⟩ := killS_e h' hs
      exact ⟨by simp [e1], fun _ => e2⟩
    | succ j => exact ⟨by simpa [hd1] using h, fun q => by cases q⟩
theorem st1_at (v : Value) : ∀ (L : List Slot) (i : Nat), i < L.length → (st1 L i v)[i]? = some (.val v)
  | [], _, h => absurd h (by simp)
  | y :: t, 0, _ => rfl
  | y :: t, 1, h => by simpa [st1] using st1_at v t 0 (by simp at h; omega)
  | y :: t, k + 2, h => by simpa [st1] using st1_at v t (k + 1) (by simp at h; omega)
theorem st1_else (v : Value) : ∀ (L : List Slot) (i j : Nat) (s : Slot), j ≠ i → (st1 L i v)[j]? = some s → s ≠ .unset → L[j]? = some s ∧ (j + 1 = i → ∀ w, s = .val w → w.category = 1) ∧ (j = i + 1 → s ≠ .second)
  | [], _, j, s, _, h, _ => by simp [st1] at h
  | y :: t, 0, 0, s, hj, _, _ => absurd rfl hj
  | y :: t, 0, j + 1, s, hj, h, hs => by
    obtain ⟨e1, e2⟩ := hd1_e (t := t) (j := j) (by simpa [st1] using h) hs
    exact ⟨by simpa using e1, fun q => by omega, fun q => e2 (by omega)⟩
  | y :: t, 1, 0, s, hj, h, hs => by
    obtain ⟨e1, e2⟩ := kill2_e (y := y) (by simpa [st1] using h) hs
    exact ⟨by simp [e1], fun _ => e2, fun q => by omega⟩
  | y :: t, 1, j + 1, s, hj, h, hs => by
    obtain ⟨e1, e2, e3⟩ := st1_else v t 0 j s (by omega) (by simpa [st1] using h) hs
    exact ⟨by simpa using e1, fun q => by omega, fun q => e3 (by omega)⟩
  | y :: t, k + 2, 0, s, hj, h, hs => ⟨by simpa [st1] using h, fun q => by omega, fun q => by omega⟩
  | y :: t, k + 2, j + 1, s, hj, h, hs => by
    obtain ⟨e1, e2, e3⟩ := st1_else v t (k + 1) j s (by omega) (by simpa [st1] using h) hs
    exact ⟨by simpa using e1, fun q => e2 (by omega), fun q => e3 (by omega)⟩
theorem st2_at (v : Value) : ∀ (L : List Slot) (i : Nat), i + 1 < L.length → (st2 L i v)[i]? = some (.val v) ∧ (st2 L i v)[i + 1]? = some .second
  | [], _, h => absurd h (by simp)
  | y :: [], 0, h => absurd h (by simp)
  | y :: z :: t, 0, _ => ⟨rfl, rfl⟩
  | y :: t, 1, h => by simpa [st2] using st2_at v t 0 (by simp at h; omega)
  | y :: t, k + 2, h => by simpa [st2] using st2_at v t (k + 1) (by simp at h; omega)
theorem st2_else (v : Value) : ∀ (L : List Slot) (i j : Nat) (s : Slot), j ≠ i → j ≠ i + 1 → (st2 L i v)[j]? = some s → s ≠ .unset → L[j]? = some s ∧ (j + 1 = i → ∀ w, s = .val w → w.category = 1) ∧ (j = i + 2 → s ≠ .second)
  | [], _, j, s, _, _, h, _ => by simp [st2] at h
  | y :: t, 0, 0, s, hj, _, _, _ => absurd rfl hj
  | y :: t, 0, 1, s, _, hj, _, _ => absurd rfl hj
  | y :: [], 0, j + 2, s, _, _, h, _ => by simp [st2] at h
  | y :: z :: t, 0, j + 2, s, hj, _, h, hs => by
    obtain ⟨e1, e2⟩ := hd1_e (t := t) (j := j) (by simpa [st2] using h) hs
    exact ⟨by simpa using e1, fun q => by omega, fun q => e2 (by omega)⟩
  | y :: t, 1, 0, s, hj, _, h, hs => by
    obtain ⟨e1, e2⟩ := kill2_e (y := y) (by simpa [st2] using h) hs
    exact ⟨by simp [e1], fun _ => e2, fun q => by omega⟩
  | y :: t, 1, j + 1, s, hj, hj', h, hs => by
    obtain ⟨e1, e2, e3⟩ := st2_else v t 0 j s (by omega) (by omega) (by simpa [st2] using h) hs
    exact ⟨by simpa using e1, fun q => by omega, fun q => e3 (by omega)⟩
  | y :: t, k + 2, 0, s, hj, _, h, hs => ⟨by simpa [st2] using h, fun q => by omega, fun q => by omega⟩
  | y :: t, k + 2, j + 1, s, hj, hj', h, hs => by
    obtain ⟨e1, e2, e3⟩ := st2_else v t (k + 1) j s (by omega) (by omega) (by simpa [st2] using h) hs
    exact ⟨by simpa using e1, fun q => e2 (by omega), fun q => e3 (by omega)⟩
theorem setAt_ok {l : Array Slot} {i : Nat} (h : i < l.size) (x : Slot) : setAt l i x = some (l.setIfInBounds i x) := if_pos h
/-- which neighbours a store at i wipes -/
def Bad (Ls : Array Slot) (i j : Nat) : Prop := (j + 1 = i ∧ Ls[i]? = some .second) ∨ (j = i + 1 ∧ ∃ o, Ls[i]? = some (.val o) ∧ o.category = 2)
def Pre1 (Ls Ls1 : Array Slot) (i : Nat) : Prop := Ls1.size = Ls.size ∧ ∀ j, j ≠ i → (¬ Bad Ls i j ∧ Ls1[j]? = Ls[j]?) ∨ (Bad Ls i j ∧ Ls1[j]? = some .unset)
theorem storeLocals_pre {Ls : Array Slot} (wf : WFs fun i => Ls[i]?) {i : Nat} (hi : i < Ls.size) (w : Value) : ∃ Ls1, Pre1 Ls Ls1 i ∧ storeLocals Ls i w = storeSelf Ls1 i w := by
  have hg : Ls[i]? = some Ls[i] := Array.getElem?_eq_getElem hi
  rcases hs : Ls[i] with _ | _ | old
  · rw [hs] at hg
    refine ⟨Ls, ⟨rfl, fun j hj => Or.inl ⟨?_, rfl⟩⟩, ?_⟩
    · rintro (⟨-, q⟩ | ⟨-, o, q, -⟩) <;> (rw [hg] at q; cases q)
    · show (Ls[i]?).bind _ = _; rw [hg]; rfl
  · rw [hs] at hg
    obtain ⟨j0, v, rfl, hv, hc⟩ := wf.1 i hg
    have h0 : j0 < Ls.size := by omega
    refine ⟨Ls.setIfInBounds j0 .unset, ⟨by simp, fun j hj => ?_⟩, ?_⟩
    · by_cases e : j = j0
      · subst e; right; exact ⟨Or.inl ⟨rfl, hg⟩, by simp [h0]⟩
      · left
        refine ⟨?_, by rw [Array.getElem?_setIfInBounds_ne (Ne.symm e)]⟩
        rintro (⟨q', q⟩ | ⟨-, o, q, -⟩)
        · exact e (by omega)
        · rw [hg] at q; cases q
    · show (Ls[j0 + 1]?).bind _ = _; rw [hg]
      show (setAt Ls (j0 + 1 - 1) .unset).bind _ = _
      rw [Nat.add_sub_cancel, setAt_ok h0]; rfl
  · rw [hs] at hg
    by_cases hc : old.category = 2
    · have h1 := wf.2 i old hg hc
      have h1' : i + 1 < Ls.size := (Array.getElem?_eq_some_iff.mp h1).1
      refine ⟨Ls.setIfInBounds (i + 1) .unset, ⟨by simp, fun j hj => ?_⟩, ?_⟩
      · by_cases e : j = i + 1
        · subst e; right; exact ⟨Or.inr ⟨rfl, old, hg, hc⟩, by simp [h1']⟩
        · left
          refine ⟨?_, by rw [Array.getElem?_setIfInBounds_ne (Ne.symm e)]⟩
          rintro (⟨-, q⟩ | ⟨q, -⟩)
          · rw [hg] at q; cases q
          · exact e q
      · show (Ls[i]?).bind _ = _; rw [hg]
        show (if old.category = 2 then _ else _) = _
        rw [if_pos hc]
        show (setAt Ls (i + 1) .unset).bind _ = _
        rw [setAt_ok h1']; rfl
    · refine ⟨Ls, ⟨rfl, fun j hj => Or.inl ⟨?_, rfl⟩⟩, ?_⟩
      · rintro (⟨-, q⟩ | ⟨-, o, q, q'⟩) <;> (rw [hg] at q; cases q)
        exact hc q'
      · show (Ls[i]?).bind _ = _; rw [hg]
        show (if old.category = 2 then _ else _) = _
        rw [if_neg hc]
section St
variable {Ls : Array Slot} {i j : Nat}
/-- a value of one word is not wiped -/
theorem not_bad_val (wf : WFs fun i => Ls[i]?) {w : Value} (hj : Ls[j]? = some (.val w)) (hw : j + 1 = i → w.category = 1) : ¬ Bad Ls i j := by
  rintro (⟨rfl, q⟩ | ⟨rfl, o, q, q'⟩)
  · obtain ⟨j0, v, e, h1, h2⟩ := wf.1 _ q
    obtain rfl : j0 = j := by omega
    cases h1.symm.trans hj
    rw [hw rfl] at h2; cases h2
  · have := wf.2 _ _ q q'
    cases this.symm.trans hj
theorem not_bad_second (wf : WFs fun i => Ls[i]?) (hj : Ls[j]? = some .second) (hne : j ≠ i + 1) : ¬ Bad Ls i j := by
  rintro (⟨rfl, q⟩ | ⟨q, -⟩)
  · obtain ⟨j0, v, e, h1, h2⟩ := wf.1 _ q
    obtain rfl : j0 = j := by omega
    cases h1.symm.trans hj
  · exact hne q
end St
theorem LR.store1 {ad : Nat → Addr} {L : List Slot} {Ls : Array Slot} (hL : LR ad L Ls) {i : Nat} (hi : i < L.length) {v : Value} (hv : v.category = 1) : ∃ Ls', storeLocals Ls i (rf ad v) = some Ls' ∧ LR ad (st1 L i v) Ls' ∧ Ls'.size = Ls.size := by
  obtain ⟨l1, l2, l3, wf⟩ := hL
  have hi' : i < Ls.size := l1 ▸ hi
  have hv' : (rf ad v).category = 1 := by rw [rf_cat]; exact hv
  obtain ⟨Ls1, ⟨p1, p2⟩, e⟩ := storeLocals_pre wf hi' (rf ad v)
  have hi1 : i < Ls1.size := by rw [p1]; exact hi'
  have e2 : storeSelf Ls1 i (rf ad v) = some (Ls1.setIfInBounds i (.val (rf ad v))) := by
    show (setAt Ls1 i _).bind _ = _
    rw [setAt_ok hi1]
    show (if (rf ad v).category = 2 then _ else _) = _
    rw [if_neg (by rw [hv']; decide)]
  have at_i : (Ls1.setIfInBounds i (.val (rf ad v)))[i]? = some (.val (rf ad v)) := by simp [hi1]
  have at_j : ∀ j, j ≠ i → (Ls1.setIfInBounds i (.val (rf ad v)))[j]? = Ls1[j]? := fun j hj => Array.getElem?_setIfInBounds_ne (Ne.symm hj)
  have good : ∀ j, j ≠ i → ¬ Bad Ls i j → (Ls1.setIfInBounds i (.val (rf ad v)))[j]? = Ls[j]? := fun j hj hb => by
    rw [at_j j hj]
    rcases p2 j hj with ⟨-, q⟩ | ⟨q, -⟩
    · exact q
    · exact absurd q hb
  have back : ∀ j s, j ≠ i → s ≠ .unset → (Ls1.setIfInBounds i (.val (rf ad v)))[j]? = some s → ¬ Bad Ls i j ∧ Ls[j]? = some s := fun j s hj hs h => by
    rw [at_j j hj] at h
    rcases p2 j hj with ⟨q, q'⟩ | ⟨-, q⟩
    · exact ⟨q, by rw [← q']; exact h⟩
    · rw [q] at h; cases h; exact absurd rfl hs
  refine ⟨_, e.trans e2, ⟨by rw [st1_len, l1]; simp [p1], fun j w hj => ?_, fun j hj => ?_, fun j hj => ?_, fun j w hj hc => ?_⟩, by simp [p1]⟩
  · by_cases q : j = i
    · subst q
      rw [st1_at v L j hi] at hj
      cases hj; exact at_i
    · obtain ⟨a1, a2, -⟩ := st1_else v L i j _ q hj (by simp)
      have b1 := l2 j w a1
      rw [good j q (not_bad_val wf b1 fun z => by rw [rf_cat]; exact a2 z w rfl)]; exact b1
  · by_cases q : j = i
    · subst q
      rw [st1_at v L j hi] at hj
      cases hj
    · obtain ⟨a1, -, a3⟩ := st1_else v L i j _ q hj (by simp)
      have b1 := l3 j a1
      rw [good j q (not_bad_second wf b1 fun z => a3 z rfl)]; exact b1
  · dsimp only at hj ⊢
    have q : j ≠ i := fun q => by subst q; rw [at_i] at hj; cases hj
    obtain ⟨b1, b2⟩ := back j _ q (by simp) hj
    obtain ⟨j0, v', rfl, h1, h2⟩ := wf.1 j b2
    refine ⟨j0, v', rfl, ?_, h2⟩
    have q0 : j0 ≠ i := fun z => b1 (Or.inr ⟨by omega, v', z ▸ h1, h2⟩)
    rw [good j0 q0 ?_]; exact h1
    rintro (⟨z, -⟩ | ⟨z, o, z1, z2⟩)
    · exact q z
    · have := wf.2 _ _ z1 z2
      rw [← z] at this
      cases this.symm.trans h1
  · dsimp only at hj ⊢
    have q : j ≠ i := fun q => by subst q; rw [at_i] at hj; cases hj; rw [hv'] at hc; cases hc
    obtain ⟨b1, b2⟩ := back j _ q (by simp) hj
    have h1 := wf.2 j w b2 hc
    dsimp only at h1
    have q0 : j + 1 ≠ i := fun z => b1 (Or.inl ⟨z, z ▸ h1⟩)
    rw [good (j + 1) q0 ?_]; exact h1
    rintro (⟨z, z1⟩ | ⟨z, -⟩)
    · obtain ⟨j1, v1, e1, e2, -⟩ := wf.1 _ z1
      obtain rfl : j1 = j + 1 := by omega
      cases h1.symm.trans e2
    · omega
theorem LR.store2 {ad : Nat → Addr} {L : List Slot} {Ls : Array Slot} (hL : LR ad L Ls) {i : Nat} (hi : i + 1 < L.length) {v : Value} (hv : v.category = 2) : ∃ Ls', storeLocals Ls i (rf ad v) = some Ls' ∧ LR ad (st2 L i v) Ls' ∧ Ls'.size = Ls.size := by
  obtain ⟨l1, l2, l3, wf⟩ := hL
  have hi' : i + 1 < Ls.size := l1 ▸ hi
  have hv' : (rf ad v).category = 2 := by rw [rf_cat]; exact hv
  obtain ⟨Ls1, ⟨p1, p2⟩, e⟩ := storeLocals_pre wf (by omega : i < Ls.size) (rf ad v)
  have hi1 : i < Ls1.size := by rw [p1]; omega
  have hi2 : i + 1 < Ls1.size := by rw [p1]; omega
  -- what the second half leaves: two slots, and the one behind wiped where a long began at i + 1
  have key : ∃ Ls', storeSelf Ls1 i (rf ad v) = some Ls' ∧ Ls'.size = Ls1.size ∧ Ls'[i]? = some (.val (rf ad v)) ∧ Ls'[i + 1]? = some .second ∧ ∀ j, j ≠ i → j ≠ i + 1 → (Ls'[j]? = Ls1[j]? ∧ ¬ (j = i + 2 ∧ ∃ o, Ls1[i + 1]? = some (.val o) ∧ o.category = 2)) ∨ (Ls'[j]? = some .unset ∧ j = i + 2 ∧ ∃ o, Ls1[i + 1]? = some (.val o) ∧ o.category = 2) := by
    have n1 : (Ls1.setIfInBounds i (.val (rf ad v)))[i + 1]? = Ls1[i + 1]? := Array.getElem?_setIfInBounds_ne (by omega)
    have g1 : Ls1[i + 1]? = some Ls1[i + 1] := Array.getElem?_eq_getElem hi2
    have open1 : storeSelf Ls1 i (rf ad v) = ((Ls1.setIfInBounds i (.val (rf ad v)))[i + 1]?).bind fun x => match x with
      | .val old => if old.category = 2 then (setAt (Ls1.setIfInBounds i (.val (rf ad v))) (i + 2) .unset).bind fun z => setAt z (i + 1) .second else setAt (Ls1.setIfInBounds i (.val (rf ad v))) (i + 1) .second
      | _ => setAt (Ls1.setIfInBounds i (.val (rf ad v))) (i + 1) .second := by
      show (setAt Ls1 i _).bind _ = _
      rw [setAt_ok hi1]
      show (if (rf ad v).category = 2 then _ else _) = _
      rw [if_pos hv']; rfl
    have plain : (∀ o, Ls1[i + 1]? = some (.val o) → o.category ≠ 2) → storeSelf Ls1 i (rf ad v) = setAt (Ls1.setIfInBounds i (.val (rf ad v))) (i + 1) .second := fun hno => by
      rw [open1, n1, g1]
      rcases hs : Ls1[i + 1] with _ | _ | old
      · rfl
      · rfl
      · show (if old.category = 2 then _ else _) = _
        rw [if_neg (hno old (by rw [g1, hs]))]
    have szz : i + 1 < (Ls1.setIfInBounds i (.val (rf ad v))).size := by simpa using hi2
    by_cases hb : ∃ o, Ls1[i + 1]? = some (.val o) ∧ o.category = 2
    · obtain ⟨o, ho, ho2⟩ := hb
      have b1 : Ls[i + 1]? = some (.val o) := by
        rcases p2 (i + 1) (by omega) with ⟨-, q⟩ | ⟨-, q⟩
        · rw [← q]; exact ho
        · rw [q] at ho; cases ho
      have h3 : i + 2 < Ls1.size := by rw [p1]; exact (Array.getElem?_eq_some_iff.mp (wf.2 _ _ b1 ho2)).1
      refine ⟨((Ls1.setIfInBounds i (.val (rf ad v))).setIfInBounds (i + 2) .unset).setIfInBounds (i + 1) .second, ?_, by simp, ?_, ?_, fun j hj hj' => ?_⟩
      · rw [open1, n1, ho]
        show (if o.category = 2 then _ else _) = _
        rw [if_pos ho2, setAt_ok (by simpa using h3)]
        show setAt _ (i + 1) .second = _
        rw [setAt_ok (by simpa using hi2)]
      · rw [Array.getElem?_setIfInBounds_ne (by omega), Array.getElem?_setIfInBounds_ne (by omega)]; simp [hi1]
      · simp [hi2]
      · rw [Array.getElem?_setIfInBounds_ne (by omega)]
        by_cases z : j = i + 2
        · subst z; right; exact ⟨by simp [h3], rfl, o, ho, ho2⟩
        · left; exact ⟨by rw [Array.getElem?_setIfInBounds_ne (by omega), Array.getElem?_setIfInBounds_ne (by omega)], fun q => z q.1⟩
    · refine ⟨(Ls1.setIfInBounds i (.val (rf ad v))).setIfInBounds (i + 1) .second, ?_, by simp, ?_, ?_, fun j hj hj' => Or.inl ⟨?_, fun q => hb q.2⟩⟩
      · rw [plain fun o ho q => hb ⟨o, ho, q⟩, setAt_ok szz]
      · rw [Array.getElem?_setIfInBounds_ne (by omega)]; simp [hi1]
      · simp [hi2]
      · rw [Array.getElem?_setIfInBounds_ne (by omega), Array.getElem?_setIfInBounds_ne (by omega)]
  obtain ⟨Ls', e2, sz, at_i, at_i1, at_j⟩ := key
  -- i + 1 seen from Ls
  have up : ∀ o, Ls1[i + 1]? = some (.val o) → Ls[i + 1]? = some (.val o) := fun o ho => by
    rcases p2 (i + 1) (by omega) with ⟨-, q⟩ | ⟨-, q⟩
    · rw [← q]; exact ho
    · rw [q] at ho; cases ho
  have good : ∀ j, j ≠ i → j ≠ i + 1 → ¬ Bad Ls i j → ¬ (j = i + 2 ∧ ∃ o, Ls[i + 1]? = some (.val o) ∧ o.category = 2) → Ls'[j]? = Ls[j]? := fun j hj hj' hb hb' => by
    rcases at_j j hj hj' with ⟨q, -⟩ | ⟨-, q1, o, q2, q3⟩
    · rw [q]
      rcases p2 j hj with ⟨-, q⟩ | ⟨q, -⟩
      · exact q
      · exact absurd q hb
    · exact absurd ⟨q1, o, up o q2, q3⟩ hb'
  have back : ∀ j s, j ≠ i → j ≠ i + 1 → s ≠ .unset → Ls'[j]? = some s → ¬ Bad Ls i j ∧ Ls[j]? = some s ∧ ¬ (j = i + 2 ∧ ∃ o, Ls1[i + 1]? = some (.val o) ∧ o.category = 2) := fun j s hj hj' hs h => by
    rcases at_j j hj hj' with ⟨q, q0⟩ | ⟨q, -⟩
    · rw [q] at h
      rcases p2 j hj with ⟨q1, q'⟩ | ⟨-, q'⟩
      · exact ⟨q1, by rw [← q']; exact h, q0⟩
      · rw [q'] at h; cases h; exact absurd rfl hs
    · rw [q] at h; cases h; exact absurd rfl hs
  have s2 := st2_at v L i hi
  refine ⟨_, e.trans e2, ⟨by rw [st2_len, l1, sz, p1], fun j w hj => ?_, fun j hj => ?_, fun j hj => ?_, fun j w hj hc => ?_⟩, by rw [sz, p1]⟩
  · by_cases q : j = i
    · subst q
      rw [s2.1] at hj
      cases hj; exact at_i
    · by_cases q1 : j = i + 1
      · subst q1; rw [s2.2] at hj; cases hj
      · obtain ⟨a1, a2, -⟩ := st2_else v L i j _ q q1 hj (by simp)
        have b1 := l2 j w a1
        rw [good j q q1 (not_bad_val wf b1 fun z => by rw [rf_cat]; exact a2 z w rfl) ?_]; exact b1
        rintro ⟨rfl, o, z1, z2⟩
        have := wf.2 _ _ z1 z2
        cases this.symm.trans b1
  · by_cases q : j = i
    · subst q
      rw [s2.1] at hj
      cases hj
    · by_cases q1 : j = i + 1
      · subst q1; exact at_i1
      · obtain ⟨a1, -, a3⟩ := st2_else v L i j _ q q1 hj (by simp)
        have b1 := l3 j a1
        rw [good j q q1 (not_bad_second wf b1 q1) fun z => a3 z.1 rfl]; exact b1
  · dsimp only at hj ⊢
    by_cases q1 : j = i + 1
    · subst q1; exact ⟨i, _, rfl, at_i, hv'⟩
    have q : j ≠ i := fun q => by subst q; rw [at_i] at hj; cases hj
    obtain ⟨b1, b2, b3⟩ := back j _ q q1 (by simp) hj
    obtain ⟨j0, v', rfl, h1, h2⟩ := wf.1 j b2
    dsimp only at h1
    have q0 : j0 ≠ i := fun z => b1 (Or.inr ⟨by omega, v', z ▸ h1, h2⟩)
    -- j0 = i + 1: then j = i + 2 was wiped
    have q0' : j0 ≠ i + 1 := fun z => by
      subst z
      rcases p2 (i + 1) (by omega) with ⟨-, w1⟩ | ⟨w1, -⟩
      · exact b3 ⟨rfl, v', by rw [w1]; exact h1, h2⟩
      · rcases w1 with ⟨w1, -⟩ | ⟨-, o, w1, w2⟩
        · omega
        · have := wf.2 _ _ w1 w2
          cases this.symm.trans h1
    refine ⟨j0, v', rfl, ?_, h2⟩
    rw [good j0 q0 q0' ?_ ?_]; exact h1
    · rintro (⟨z, -⟩ | ⟨z, -⟩)
      · exact q z
      · exact q0' z
    · rintro ⟨rfl, o, z1, z2⟩
      have := wf.2 _ _ z1 z2
      cases this.symm.trans h1
  · dsimp only at hj ⊢
    by_cases q1 : j = i
    · subst q1; exact at_i1
    have q : j ≠ i + 1 := fun q => by subst q; rw [at_i1] at hj; cases hj
    obtain ⟨b1, b2, -⟩ := back j _ q1 q (by simp) hj
    have h1 := wf.2 j w b2 hc
    dsimp only at h1
    have q0 : j + 1 ≠ i := fun z => b1 (Or.inl ⟨z, z ▸ h1⟩)
    rw [good (j + 1) q0 (by omega) ?_ ?_]; exact h1
    · rintro (⟨z, z1⟩ | ⟨z, -⟩)
      · obtain ⟨j1, v1, e1, e2, -⟩ := wf.1 _ z1
        obtain rfl : j1 = j + 1 := by omega
        cases h1.symm.trans e2
      · omega
    · rintro ⟨z, -⟩; omega
/-! what is known less of -/
def leL : List Slot → List Slot → Prop
  | [], [] => True
  | .unset :: a, _ :: b => leL a b
  | x :: a, y :: b => x = y ∧ leL a b
  | _, _ => False
theorem leL_len : ∀ {A B : List Slot}, leL A B → A.length = B.length
  | [], [], _ => rfl
  | .unset :: a, _ :: b, h => congrArg Nat.succ (leL_len (A := a) (B := b) h)
  | .second :: a, _ :: b, h => congrArg Nat.succ (leL_len (A := a) (B := b) h.2)
  | .val _ :: a, _ :: b, h => congrArg Nat.succ (leL_len (A := a) (B := b) h.2)
theorem leL_get : ∀ {A B : List Slot}, leL A B → ∀ {i : Nat} {s : Slot}, A[i]? = some s → s ≠ .unset → B[i]? = some s
  | [], [], _, i, s, h, _ => by simp at h
  | .unset :: a, _ :: b, _, 0, s, h, hs => by simp at h; exact absurd h.symm hs
  | .unset :: a, _ :: b, hl, i + 1, s, h, hs => by simpa using leL_get (A := a) (B := b) hl (by simpa using h) hs
  | .second :: a, _ :: b, hl, 0, s, h, hs => by simp at h; subst h; simp [← hl.1]
  | .second :: a, _ :: b, hl, i + 1, s, h, hs => by simpa using leL_get (A := a) (B := b) hl.2 (by simpa using h) hs
  | .val _ :: a, _ :: b, hl, 0, s, h, hs => by simp at h; subst h; simp [← hl.1]
  | .val _ :: a, _ :: b, hl, i + 1, s, h, hs => by simpa using leL_get (A := a) (B := b) hl.2 (by simpa using h) hs
theorem LR.weak {ad : Nat → Addr} {A B : List Slot} {Ls : Array Slot} (h : leL A B) (hL : LR ad B Ls) : LR ad A Ls :=
  ⟨(leL_len h).trans hL.1, fun i v q => hL.2.1 i v (leL_get h q (by simp)), fun i q => hL.2.2.1 i (leL_get h q (by simp)), hL.2.2.2⟩
theorem wf_cons {x : Slot} {M : List Slot} (hx : x = .unset ∨ ∃ v, x = .val v ∧ v.category = 1) (h : WFs fun i => M[i]?) : WFs fun i => (x :: M)[i]? := by
  refine ⟨fun i hi => ?_, fun i v hi hc => ?_⟩
  · cases i with
    | zero => rcases hx with rfl | ⟨v, rfl, -⟩ <;> (simp at hi)
    | succ i =>
      obtain ⟨j, v, rfl, h1, h2⟩ := h.1 i (by simpa using hi)
      exact ⟨j + 1, v, rfl, by simpa using h1, h2⟩
  · cases i with
    | zero =>
      rcases hx with rfl | ⟨w, rfl, hw⟩
      · simp at hi
      · simp at hi; subst hi; rw [hw] at hc; cases hc
    | succ i => simpa using h.2 i v (by simpa using hi) hc
theorem wf_cons2 {w : Value} {M : List Slot} (hw : w.category = 2) (h : WFs fun i => M[i]?) : WFs fun i => (.val w :: .second :: M)[i]? := by
  refine ⟨fun i hi => ?_, fun i v hi hc => ?_⟩
  · match i, hi with
    | 0, hi => simp at hi
    | 1, _ => exact ⟨0, w, rfl, rfl, hw⟩
    | i + 2, hi =>
      obtain ⟨j, v, rfl, h1, h2⟩ := h.1 i (by simpa using hi)
      exact ⟨j + 2, v, rfl, by simpa using h1, h2⟩
  · match i, hi with
    | 0, _ => rfl
    | 1, hi => simp at hi
    | i + 2, hi => simpa using h.2 i v (by simpa using hi) hc
/-- the local variables at the entry -/
def laid : List Value → List Slot
  | [] => []
  | v :: vs => if v.category = 2 then .val v :: .second :: laid vs else .val v :: laid vs
def entL (as : List Value) (n : Nat) : List Slot := laid as ++ List.replicate (n - (laid as).length) Slot.unset
theorem laid_rel (ad : Nat → Addr) (k : Nat) : ∀ as : List Value, (laid as ++ List.replicate k Slot.unset).length = (laid (as.map (rf ad)) ++ List.replicate k Slot.unset).length ∧ (∀ (i : Nat) (v : Value), (laid as ++ List.replicate k Slot.unset)[i]? = some (.val v) → (laid (as.map (rf ad)) ++ List.replicate k Slot.unset)[i]? = some (.val (rf ad v))) ∧
    (∀ i : Nat, (laid as ++ List.replicate k Slot.unset)[i]? = some .second → (laid (as.map (rf ad)) ++ List.replicate k Slot.unset)[i]? = some .second) ∧ WFs fun i => (laid (as.map (rf ad)) ++ List.replicate k Slot.unset)[i]?
  | [] => by
    refine ⟨rfl, fun i v h => ?_, fun i h => h, fun i h => ?_, fun i v h => ?_⟩
    · simp [laid, List.getElem?_replicate] at h
    · simp [laid, List.getElem?_replicate] at h
    · simp [laid, List.getElem?_replicate] at h
  | v :: vs => by
    obtain ⟨a1, a2, a3, a4⟩ := laid_rel ad k vs
    have hc : (rf ad v).category = v.category := rf_cat ad v
    by_cases h : v.category = 2
    · have e1 : laid (v :: vs) = .val v :: .second :: laid vs := if_pos h
      have e2 : laid ((v :: vs).map (rf ad)) = .val (rf ad v) :: .second :: laid (vs.map (rf ad)) := if_pos (hc.trans h)
      rw [e1, e2]
      refine ⟨by simpa using a1, fun i w hi => ?_, fun i hi => ?_, wf_cons2 (hc.trans h) a4⟩
      · match i, hi with
        | 0, hi => simp at hi; subst hi; rfl
        | 1, hi => simp at hi
        | i + 2, hi => simpa using a2 i w (by simpa using hi)
      · match i, hi with
        | 0, hi => simp at hi
        | 1, hi => rfl
        | i + 2, hi => simpa using a3 i (by simpa using hi)
    · have e1 : laid (v :: vs) = .val v :: laid vs := if_neg h
      have e2 : laid ((v :: vs).map (rf ad)) = .val (rf ad v) :: laid (vs.map (rf ad)) := if_neg (by rw [hc]; exact h)
      have h1 : (rf ad v).category = 1 := by
        rw [hc]; cases v <;> first | rfl | exact absurd rfl h
      rw [e1, e2]
      refine ⟨by simpa using a1, fun i w hi => ?_, fun i hi => ?_, wf_cons (Or.inr ⟨_, rfl, h1⟩) a4⟩
      · match i, hi with
        | 0, hi => simp at hi; subst hi; rfl
        | i + 1, hi => simpa using a2 i w (by simpa using hi)
      · match i, hi with
        | 0, hi => simp at hi
        | i + 1, hi => simpa using a3 i (by simpa using hi)
theorem laid_foldl : ∀ (as : List Value) (acc : Array Slot), (as.foldl (fun acc v => if v.category = 2 then (acc.push (.val v)).push .second else acc.push (.val v)) acc).toList = acc.toList ++ laid as
  | [], acc => by simp [laid]
  | v :: vs, acc => by
    show (List.foldl _ (if v.category = 2 then (acc.push (.val v)).push .second else acc.push (.val v)) vs : Array Slot).toList = _
    rw [laid_foldl vs]
    by_cases h : v.category = 2
    · rw [if_pos h, show laid (v :: vs) = .val v :: .second :: laid vs from if_pos h]; simp
    · rw [if_neg h, show laid (v :: vs) = .val v :: laid vs from if_neg h]; simp
theorem laid_map_len (ad : Nat → Addr) (as : List Value) : (laid (as.map (rf ad))).length = (laid as).length := by
  have := (laid_rel ad 0 as).1
  simpa using this.symm
theorem entry_LR (ad : Nat → Addr) (as : List Value) (n : Nat) (hn : (laid as).length ≤ n) : LR ad (entL as n) (argsToLocals (as.map (rf ad)).toArray n) ∧ (argsToLocals (as.map (rf ad)).toArray n).size = n := by
  have e : (argsToLocals (as.map (rf ad)).toArray n).toList = laid (as.map (rf ad)) ++ List.replicate (n - (laid as).length) Slot.unset := by
    have e1 := laid_foldl (as.map (rf ad)) #[]
    have e2 : ((as.map (rf ad)).toArray.foldl (fun acc v => if v.category = 2 then (acc.push (.val v)).push .second else acc.push (.val v)) #[] : Array Slot).toList = laid (as.map (rf ad)) := by
      rw [List.foldl_toArray']
      · rw [e1]; rfl
      · rfl
    have e3 : ((as.map (rf ad)).toArray.foldl (fun acc v => if v.category = 2 then (acc.push (.val v)).push .second else acc.push (.val v)) #[] : Array Slot).size = (laid as).length := by
      rw [← Array.length_toList, e2, laid_map_len]
    show (_ ++ Array.replicate (n - _) Slot.unset).toList = _
    rw [Array.toList_append, e2, Array.toList_replicate, e3]
  obtain ⟨a1, a2, a3, a4⟩ := laid_rel ad (n - (laid as).length) as
  have g : ∀ i : Nat, (argsToLocals (as.map (rf ad)).toArray n)[i]? = (laid (as.map (rf ad)) ++ List.replicate (n - (laid as).length) Slot.unset)[i]? := fun i => by rw [← e, Array.getElem?_toList]
  have sz : (argsToLocals (as.map (rf ad)).toArray n).size = (laid (as.map (rf ad)) ++ List.replicate (n - (laid as).length) Slot.unset).length := by rw [← e, Array.length_toList]
  refine ⟨⟨by rw [sz]; exact a1, fun i v h => by rw [g]; exact a2 i v h, fun i h => by rw [g]; exact a3 i h, ?_⟩, by rw [sz, ← a1]; simp; omega⟩
  have : (fun i => (argsToLocals (as.map (rf ad)).toArray n)[i]?) = fun i => (laid (as.map (rf ad)) ++ List.replicate (n - (laid as).length) Slot.unset)[i]? := funext g
  rw [this]; exact a4
/-! ## reading and writing a list as Java does an array -/
def rd {α : Type} (xs : List α) (i : Int32) : Option α := if i < 0 then none else xs[i.toNatClampNeg]?
def wr {α : Type} (xs : List α) (i : Int32) (x : α) : Option (List α) := if i < 0 then none else if i.toNatClampNeg < xs.length then some (xs.set i.toNatClampNeg x) else none
theorem rd_slots {α : Type} {f : α → Value} {sl : Array Value} {xs : List α} (h : sl.toList = xs.map f) {j : Int32} {x : α} (hx : rd xs j = some x) : ¬ (j < 0 ∨ sl.size ≤ j.toNatClampNeg) ∧ sl[j.toNatClampNeg]? = some (f x) := by
  unfold rd at hx
  by_cases hj : j < 0
  · rw [if_pos hj] at hx; cases hx
  · rw [if_neg hj] at hx
    have h1 : sl[j.toNatClampNeg]? = some (f x) := by rw [← Array.getElem?_toList, h, List.getElem?_map, hx]; rfl
    exact ⟨fun q => q.elim hj fun q => absurd (Array.getElem?_eq_some_iff.mp h1).1 (Nat.not_lt.mpr q), h1⟩
theorem wr_slots {α : Type} {f : α → Value} {cl : Cell} {xs xs' : List α} (h : cl.slots.toList = xs.map f) {j : Int32} {x : α} (hx : wr xs j x = some xs') : ¬ (j < 0 ∨ cl.slots.size ≤ j.toNatClampNeg) ∧ (cl.setSlot j.toNatClampNeg (f x)).slots.toList = xs'.map f := by
  unfold wr at hx
  by_cases hj : j < 0
  · rw [if_pos hj] at hx; cases hx
  · rw [if_neg hj] at hx
    by_cases hl : j.toNatClampNeg < xs.length
    · rw [if_pos hl] at hx; cases hx
      have sz : cl.slots.size = xs.length := by rw [← Array.length_toList, h, List.length_map]
      refine ⟨fun q => q.elim hj fun q => by omega, ?_⟩
      show (cl.slots.setIfInBounds _ _).toList = _
      rw [Array.toList_setIfInBounds, h, List.map_set]
    · rw [if_neg hl] at hx; cases hx
/-! ## the walk's promise, said of the small view -/
def Am (Z : State) (own mn : String) (bytes : ByteArray) (maxL : Nat) (ret : Option FieldType) (p : Program) (s : State) (m : MethodId) (meth : Method) (c : Code) : Prop :=
  p.tables.exec = Jvm.exec ∧ Z.Warmed39 s.vm ∧ c.code = bytes ∧ c.maxLocals = maxL ∧ meth.sig.returnType = ret ∧ meth.locks = false ∧ s.vm.findClass own = some m.cls ∧ meth.name = mn
def WP (l : Launch) (Z : State) (C : String) (lay : List (String × String)) (own mn : String) (bytes : ByteArray) (maxL : Nat) (ret : Option FieldType) (R : Room) (n0 ro : Nat) (Q : Option Value → List OwnC → Prop) (k n pc : Nat) (L : List Slot) (S : List Value) (H : List OwnC) : Prop :=
  ∀ (p : Program) (e : Env) (s : State) (m : MethodId) (args : Array Value) (below : List Frame) (meth : Method) (c : Code) (T : State) (locs : List Loc) (ad : Nat → Addr) (Ls : Array Slot),
    Stand p l e R s m args below meth c T locs k n → Am Z own mn bytes maxL ret p s m meth c → HR Z C lay n0 ro ad H T.heap → Fr n0 locs → LR ad L Ls → Ls.size = maxL →
    ∃ (s₂ : State) (v : Option Value) (H' : List OwnC) (locs' : List Loc),
      Steps p.tables e below (T.setTop (mkF m pc Ls (S.map (rf ad)))) s₂ ∧ s₂.status = .running ∧ Ended s₂ below (.returned (v.map (rf ad))) ∧ Q v H' ∧ HR Z C lay n0 ro ad H' s₂.heap ∧ Kp ad H.length T.heap s₂.heap ∧ Fr n0 locs' ∧ FrameEnd s (.returned (v.map (rf ad))) s₂ locs' R.cells R.slots
section Rules
variable {l : Launch} {Z : State} {a0 : Array Value} {C : String} {lay : List (String × String)} {own mn : String} {bytes : ByteArray} {maxL : Nat} {ret : Option FieldType} {R : Room} {n0 ro : Nat} {Q : Option Value → List OwnC → Prop} {k n pc pc' : Nat} {L L' : List Slot} {S S' : List Value} {H H' : List OwnC}
theorem WP.weak (h : leL L' L) (nx : WP l Z C lay own mn bytes maxL ret R n0 ro Q k n pc L' S H) : WP l Z C lay own mn bytes maxL ret R n0 ro Q k n pc L S H :=
  fun p e s m args below meth c T locs ad Ls X A hr N hL hz => nx p e s m args below meth c T locs ad Ls X A hr N (LR.weak h hL) hz
theorem WP.of (hs : ∀ (p : Program) (e : Env) (s : State) (m : MethodId) (args : Array Value) (below : List Frame) (meth : Method) (c : Code) (T : State) (locs : List Loc) (ad : Nat → Addr) (Ls : Array Slot), Stand p l e R s m args below meth c T locs k n → Am Z own mn bytes maxL ret p s m meth c → LR ad L Ls → Ls.size = maxL →
      ∃ Ls', LR ad L' Ls' ∧ Ls'.size = maxL ∧ ∀ t, Steps p.tables e below (T.setTop (mkF m pc' Ls' (S'.map (rf ad)))) t → Steps p.tables e below (T.setTop (mkF m pc Ls (S.map (rf ad)))) t)
    (nx : WP l Z C lay own mn bytes maxL ret R n0 ro Q k n pc' L' S' H) : WP l Z C lay own mn bytes maxL ret R n0 ro Q k n pc L S H := by
  intro p e s m args below meth c T locs ad Ls X A hr N hL hz
  obtain ⟨Ls', hL', hz', st⟩ := hs p e s m args below meth c T locs ad Ls X A hL hz
  obtain ⟨s₂, v, H', locs', h1, h2⟩ := nx p e s m args below meth c T locs ad Ls' X A hr N hL' hz'
  exact ⟨s₂, v, H', locs', st _ h1, h2⟩
theorem WP.iload {j : Nat} {x : Int32} (hd : decode bytes pc = .ok (.iload j, 2)) (hl : L[j]? = some (.val (.int x))) (nx : WP l Z C lay own mn bytes maxL ret R n0 ro Q k n (pc + 2) L (.int x :: S) H) : WP l Z C lay own mn bytes maxL ret R n0 ro Q k n pc L (S) H :=
  WP.of (fun p e s m args below meth c T locs ad Ls X A hL hz => ⟨Ls, hL, hz, fun t ht => XS.iload X.here A.1 rfl (hb A.2.2.1 hd) (hL.2.1 _ _ hl) ht⟩) nx
theorem WP.iloadN {j : Fin 4} {x : Int32} (hd : decode bytes pc = .ok (.iload_n j, 1)) (hl : L[j.val]? = some (.val (.int x))) (nx : WP l Z C lay own mn bytes maxL ret R n0 ro Q k n (pc + 1) L (.int x :: S) H) : WP l Z C lay own mn bytes maxL ret R n0 ro Q k n pc L (S) H :=
  WP.of (fun p e s m args below meth c T locs ad Ls X A hL hz => ⟨Ls, hL, hz, fun t ht => XS.iloadN X.here A.1 rfl (hb A.2.2.1 hd) (hL.2.1 _ _ hl) ht⟩) nx
theorem WP.lload {j : Nat} {x : Int64} (hd : decode bytes pc = .ok (.lload j, 2)) (hl : L[j]? = some (.val (.long x))) (nx : WP l Z C lay own mn bytes maxL ret R n0 ro Q k n (pc + 2) L (.long x :: S) H) : WP l Z C lay own mn bytes maxL ret R n0 ro Q k n pc L (S) H :=
  WP.of (fun p e s m args below meth c T locs ad Ls X A hL hz => ⟨Ls, hL, hz, fun t ht => XT.lload X.here A.1 rfl (hb A.2.2.1 hd) (hL.2.1 _ _ hl) ht⟩) nx
theorem WP.lloadN {j : Fin 4} {x : Int64} (hd : decode bytes pc = .ok (.lload_n j, 1)) (hl : L[j.val]? = some (.val (.long x))) (nx : WP l Z C lay own mn bytes maxL ret R n0 ro Q k n (pc + 1) L (.long x :: S) H) : WP l Z C lay own mn bytes maxL ret R n0 ro Q k n pc L (S) H :=
  WP.of (fun p e s m args below meth c T locs ad Ls X A hL hz => ⟨Ls, hL, hz, fun t ht => XT.lloadN X.here A.1 rfl (hb A.2.2.1 hd) (hL.2.1 _ _ hl) ht⟩) nx
theorem WP.aload {j : Nat} {i : Nat} (hd : decode bytes pc = .ok (.aload j, 2)) (hl : L[j]? = some (.val (.ref i))) (nx : WP l Z C lay own mn bytes maxL ret R n0 ro Q k n (pc + 2) L (.ref i :: S) H) : WP l Z C lay own mn bytes maxL ret R n0 ro Q k n pc L (S) H :=
  WP.of (fun p e s m args below meth c T locs ad Ls X A hL hz => ⟨Ls, hL, hz, fun t ht => XS.aload X.here A.1 rfl (hb A.2.2.1 hd) (hL.2.1 _ _ hl) rfl ht⟩) nx
theorem WP.aloadN {j : Fin 4} {i : Nat} (hd : decode bytes pc = .ok (.aload_n j, 1)) (hl : L[j.val]? = some (.val (.ref i))) (nx : WP l Z C lay own mn bytes maxL ret R n0 ro Q k n (pc + 1) L (.ref i :: S) H) : WP l Z C lay own mn bytes maxL ret R n0 ro Q k n pc L (S) H :=
  WP.of (fun p e s m args below meth c T locs ad Ls X A hL hz => ⟨Ls, hL, hz, fun t ht => XS.aloadN X.here A.1 rfl (hb A.2.2.1 hd) (hL.2.1 _ _ hl) rfl ht⟩) nx
theorem WP.iconst {i : Int} (v : Int32) (hd : decode bytes pc = .ok (.iconst i, 1)) (hv : Int32.ofInt i = v) (nx : WP l Z C lay own mn bytes maxL ret R n0 ro Q k n (pc + 1) L (.int v :: S) H) : WP l Z C lay own mn bytes maxL ret R n0 ro Q k n pc L (S) H :=
  WP.of (fun p e s m args below meth c T locs ad Ls X A hL hz => ⟨Ls, hL, hz, fun t ht => XS.iconst X.here A.1 rfl (hb A.2.2.1 hd) (by rw [hv]; exact ht)⟩) nx
theorem WP.bipush {i : Int} (v : Int32) (hd : decode bytes pc = .ok (.bipush i, 2)) (hv : (Int8.ofInt i).toInt32 = v) (nx : WP l Z C lay own mn bytes maxL ret R n0 ro Q k n (pc + 2) L (.int v :: S) H) : WP l Z C lay own mn bytes maxL ret R n0 ro Q k n pc L (S) H :=
  WP.of (fun p e s m args below meth c T locs ad Ls X A hL hz => ⟨Ls, hL, hz, fun t ht => XS.bipush X.here A.1 rfl (hb A.2.2.1 hd) (by rw [hv]; exact ht)⟩) nx
theorem WP.sipush {i : Int} (v : Int32) (hd : decode bytes pc = .ok (.sipush i, 3)) (hv : (Int16.ofInt i).toInt32 = v) (nx : WP l Z C lay own mn bytes maxL ret R n0 ro Q k n (pc + 3) L (.int v :: S) H) : WP l Z C lay own mn bytes maxL ret R n0 ro Q k n pc L (S) H :=
  WP.of (fun p e s m args below meth c T locs ad Ls X A hL hz => ⟨Ls, hL, hz, fun t ht => XS.sipush X.here A.1 rfl (hb A.2.2.1 hd) (by rw [hv]; exact ht)⟩) nx
theorem WP.lconst {j : Fin 2} (v : Int64) (hd : decode bytes pc = .ok (.lconst j, 1)) (hv : Int64.ofNat j = v) (nx : WP l Z C lay own mn bytes maxL ret R n0 ro Q k n (pc + 1) L (.long v :: S) H) : WP l Z C lay own mn bytes maxL ret R n0 ro Q k n pc L (S) H :=
  WP.of (fun p e s m args below meth c T locs ad Ls X A hL hz => ⟨Ls, hL, hz, fun t ht => XT.lconst X.here A.1 rfl (hb A.2.2.1 hd) (by rw [hv]; exact ht)⟩) nx
theorem WP.ldc {idx : Nat} {v : Int32} (hd : decode bytes pc = .ok (.ldc idx, 2)) (hw : (Cond.constant own idx v).before a0 Z = true) (nx : WP l Z C lay own mn bytes maxL ret R n0 ro Q k n (pc + 2) L (.int v :: S) H) : WP l Z C lay own mn bytes maxL ret R n0 ro Q k n pc L (S) H :=
  WP.of (fun p e s m args below meth c T locs ad Ls X A hL hz => ⟨Ls, hL, hz, fun t ht => X.ldcInt A.1 A.2.2.2.2.2.2.1 (mvT A.2.1 hw) (g := mkF m pc Ls (S.map (rf ad))) rfl (hb A.2.2.1 hd) t ht⟩) nx
theorem WP.ldcw {idx : Nat} {v : Int32} (hd : decode bytes pc = .ok (.ldc_w idx, 3)) (hw : (Cond.constant own idx v).before a0 Z = true) (nx : WP l Z C lay own mn bytes maxL ret R n0 ro Q k n (pc + 3) L (.int v :: S) H) : WP l Z C lay own mn bytes maxL ret R n0 ro Q k n pc L (S) H :=
  WP.of (fun p e s m args below meth c T locs ad Ls X A hL hz => ⟨Ls, hL, hz, fun t ht => X.ldcwInt A.1 A.2.2.2.2.2.2.1 (mvT A.2.1 hw) (g := mkF m pc Ls (S.map (rf ad))) rfl (hb A.2.2.1 hd) t ht⟩) nx
theorem WP.ldc2 {idx : Nat} {v : Int64} (hd : decode bytes pc = .ok (.ldc2_w idx, 3)) (hw : (Cond.constantLong own idx v).before a0 Z = true) (nx : WP l Z C lay own mn bytes maxL ret R n0 ro Q k n (pc + 3) L (.long v :: S) H) : WP l Z C lay own mn bytes maxL ret R n0 ro Q k n pc L (S) H :=
  WP.of (fun p e s m args below meth c T locs ad Ls X A hL hz => ⟨Ls, hL, hz, fun t ht => X.ldc2Long A.1 A.2.2.2.2.2.2.1 (mvT A.2.1 hw) (g := mkF m pc Ls (S.map (rf ad))) rfl (hb A.2.2.1 hd) t ht⟩) nx
theorem WP.iadd {x y : Int32} (hd : decode bytes pc = .ok (.iadd, 1)) (nx : WP l Z C lay own mn bytes maxL ret R n0 ro Q k n (pc + 1) L (.int (x + y) :: S) H) : WP l Z C lay own mn bytes maxL ret R n0 ro Q k n pc L (.int y :: .int x :: S) H :=
  WP.of (fun p e s m args below meth c T locs ad Ls X A hL hz => ⟨Ls, hL, hz, fun t ht => XS.iadd X.here A.1 rfl (hb A.2.2.1 hd) rfl ht⟩) nx
theorem WP.ladd {x y : Int64} (hd : decode bytes pc = .ok (.ladd, 1)) (nx : WP l Z C lay own mn bytes maxL ret R n0 ro Q k n (pc + 1) L (.long (x + y) :: S) H) : WP l Z C lay own mn bytes maxL ret R n0 ro Q k n pc L (.long y :: .long x :: S) H :=
  WP.of (fun p e s m args below meth c T locs ad Ls X A hL hz => ⟨Ls, hL, hz, fun t ht => XT.ladd X.here A.1 rfl (hb A.2.2.1 hd) rfl ht⟩) nx
theorem WP.isub {x y : Int32} (hd : decode bytes pc = .ok (.isub, 1)) (nx : WP l Z C lay own mn bytes maxL ret R n0 ro Q k n (pc + 1) L (.int (x - y) :: S) H) : WP l Z C lay own mn bytes maxL ret R n0 ro Q k n pc L (.int y :: .int x :: S) H :=
  WP.of (fun p e s m args below meth c T locs ad Ls X A hL hz => ⟨Ls, hL, hz, fun t ht => XS.isub X.here A.1 rfl (hb A.2.2.1 hd) rfl ht⟩) nx
theorem WP.lsub {x y : Int64} (hd : decode bytes pc = .ok (.lsub, 1)) (nx : WP l Z C lay own mn bytes maxL ret R n0 ro Q k n (pc + 1) L (.long (x - y) :: S) H) : WP l Z C lay own mn bytes maxL ret R n0 ro Q k n pc L (.long y :: .long x :: S) H :=
  WP.of (fun p e s m args below meth c T locs ad Ls X A hL hz => ⟨Ls, hL, hz, fun t ht => XT.lsub X.here A.1 rfl (hb A.2.2.1 hd) rfl ht⟩) nx
theorem WP.imul {x y : Int32} (hd : decode bytes pc = .ok (.imul, 1)) (nx : WP l Z C lay own mn bytes maxL ret R n0 ro Q k n (pc + 1) L (.int (x * y) :: S) H) : WP l Z C lay own mn bytes maxL ret R n0 ro Q k n pc L (.int y :: .int x :: S) H :=
  WP.of (fun p e s m args below meth c T locs ad Ls X A hL hz => ⟨Ls, hL, hz, fun t ht => XS.imul X.here A.1 rfl (hb A.2.2.1 hd) rfl ht⟩) nx
theorem WP.lmul {x y : Int64} (hd : decode bytes pc = .ok (.lmul, 1)) (nx : WP l Z C lay own mn bytes maxL ret R n0 ro Q k n (pc + 1) L (.long (x * y) :: S) H) : WP l Z C lay own mn bytes maxL ret R n0 ro Q k n pc L (.long y :: .long x :: S) H :=
  WP.of (fun p e s m args below meth c T locs ad Ls X A hL hz => ⟨Ls, hL, hz, fun t ht => XT.lmul X.here A.1 rfl (hb A.2.2.1 hd) rfl ht⟩) nx
theorem WP.iand {x y : Int32} (hd : decode bytes pc = .ok (.iand, 1)) (nx : WP l Z C lay own mn bytes maxL ret R n0 ro Q k n (pc + 1) L (.int (x &&& y) :: S) H) : WP l Z C lay own mn bytes maxL ret R n0 ro Q k n pc L (.int y :: .int x :: S) H :=
  WP.of (fun p e s m args below meth c T locs ad Ls X A hL hz => ⟨Ls, hL, hz, fun t ht => XS.iand X.here A.1 rfl (hb A.2.2.1 hd) rfl ht⟩) nx
theorem WP.land {x y : Int64} (hd : decode bytes pc = .ok (.land, 1)) (nx : WP l Z C lay own mn bytes maxL ret R n0 ro Q k n (pc + 1) L (.long (x &&& y) :: S) H) : WP l Z C lay own mn bytes maxL ret R n0 ro Q k n pc L (.long y :: .long x :: S) H :=
  WP.of (fun p e s m args below meth c T locs ad Ls X A hL hz => ⟨Ls, hL, hz, fun t ht => XT.land X.here A.1 rfl (hb A.2.2.1 hd) rfl ht⟩) nx
theorem WP.ior {x y : Int32} (hd : decode bytes pc = .ok (.ior, 1)) (nx : WP l Z C lay own mn bytes maxL ret R n0 ro Q k n (pc + 1) L (.int (x ||| y) :: S) H) : WP l Z C lay own mn bytes maxL ret R n0 ro Q k n pc L (.int y :: .int x :: S) H :=
  WP.of (fun p e s m args below meth c T locs ad Ls X A hL hz => ⟨Ls, hL, hz, fun t ht => XT.ior X.here A.1 rfl (hb A.2.2.1 hd) rfl ht⟩) nx
theorem WP.lor {x y : Int64} (hd : decode bytes pc = .ok (.lor, 1)) (nx : WP l Z C lay own mn bytes maxL ret R n0 ro Q k n (pc + 1) L (.long (x ||| y) :: S) H) : WP l Z C lay own mn bytes maxL ret R n0 ro Q k n pc L (.long y :: .long x :: S) H :=
  WP.of (fun p e s m args below meth c T locs ad Ls X A hL hz => ⟨Ls, hL, hz, fun t ht => XT.lor X.here A.1 rfl (hb A.2.2.1 hd) rfl ht⟩) nx
theorem WP.ixor {x y : Int32} (hd : decode bytes pc = .ok (.ixor, 1)) (nx : WP l Z C lay own mn bytes maxL ret R n0 ro Q k n (pc + 1) L (.int (x ^^^ y) :: S) H) : WP l Z C lay own mn bytes maxL ret R n0 ro Q k n pc L (.int y :: .int x :: S) H :=
  WP.of (fun p e s m args below meth c T locs ad Ls X A hL hz => ⟨Ls, hL, hz, fun t ht => XT.ixor X.here A.1 rfl (hb A.2.2.1 hd) rfl ht⟩) nx
theorem WP.lxor {x y : Int64} (hd : decode bytes pc = .ok (.lxor, 1)) (nx : WP l Z C lay own mn bytes maxL ret R n0 ro Q k n (pc + 1) L (.long (x ^^^ y) :: S) H) : WP l Z C lay own mn bytes maxL ret R n0 ro Q k n pc L (.long y :: .long x :: S) H :=
  WP.of (fun p e s m args below meth c T locs ad Ls X A hL hz => ⟨Ls, hL, hz, fun t ht => XT.lxor X.here A.1 rfl (hb A.2.2.1 hd) rfl ht⟩) nx
theorem WP.idiv {x y : Int32} (hd : decode bytes pc = .ok (.idiv, 1)) (hy : ¬ y = 0) (nx : WP l Z C lay own mn bytes maxL ret R n0 ro Q k n (pc + 1) L (.int (x / y) :: S) H) : WP l Z C lay own mn bytes maxL ret R n0 ro Q k n pc L (.int y :: .int x :: S) H :=
  WP.of (fun p e s m args below meth c T locs ad Ls X A hL hz => ⟨Ls, hL, hz, fun t ht => XS.idiv X.here A.1 rfl (hb A.2.2.1 hd) rfl hy ht⟩) nx
theorem WP.irem {x y : Int32} (hd : decode bytes pc = .ok (.irem, 1)) (hy : ¬ y = 0) (nx : WP l Z C lay own mn bytes maxL ret R n0 ro Q k n (pc + 1) L (.int (x % y) :: S) H) : WP l Z C lay own mn bytes maxL ret R n0 ro Q k n pc L (.int y :: .int x :: S) H :=
  WP.of (fun p e s m args below meth c T locs ad Ls X A hL hz => ⟨Ls, hL, hz, fun t ht => iremM X A.1 rfl (hb A.2.2.1 hd) rfl hy ht⟩) nx
theorem WP.ldiv {x y : Int64} (hd : decode bytes pc = .ok (.ldiv, 1)) (hy : ¬ y = 0) (nx : WP l Z C lay own mn bytes maxL ret R n0 ro Q k n (pc + 1) L (.long (x / y) :: S) H) : WP l Z C lay own mn bytes maxL ret R n0 ro Q k n pc L (.long y :: .long x :: S) H :=
  WP.of (fun p e s m args below meth c T locs ad Ls X A hL hz => ⟨Ls, hL, hz, fun t ht => XT.ldiv X.here A.1 rfl (hb A.2.2.1 hd) rfl hy ht⟩) nx
theorem lrem_mod (x y : Int64) : x - (x / y) * y = x % y := by
  apply Int64.toInt_inj.mp
  have h1 := Int64.le_toInt (x % y)
  have h2 := Int64.toInt_lt (x % y)
  rw [Int64.toInt_sub, Int64.toInt_mul, Int64.toInt_div, Int.bmod_mul_bmod, Int.sub_bmod_bmod, Int.mul_comm (x.toInt.tdiv y.toInt), ← Int.tmod_def, ← Int64.toInt_mod]
  exact Int.bmod_eq_of_le_mul_two (by omega) (by omega)
theorem WP.lrem {x y : Int64} (hd : decode bytes pc = .ok (.lrem, 1)) (hy : ¬ y = 0) (nx : WP l Z C lay own mn bytes maxL ret R n0 ro Q k n (pc + 1) L (.long (x % y) :: S) H) : WP l Z C lay own mn bytes maxL ret R n0 ro Q k n pc L (.long y :: .long x :: S) H :=
  WP.of (fun p e s m args below meth c T locs ad Ls X A hL hz => ⟨Ls, hL, hz, fun t ht => XT.lrem X.here A.1 rfl (hb A.2.2.1 hd) rfl hy (by rw [lrem_mod]; exact ht)⟩) nx
theorem WP.ishl {x y : Int32} (hd : decode bytes pc = .ok (.ishl, 1)) (nx : WP l Z C lay own mn bytes maxL ret R n0 ro Q k n (pc + 1) L (.int (x <<< (y &&& 31)) :: S) H) : WP l Z C lay own mn bytes maxL ret R n0 ro Q k n pc L (.int y :: .int x :: S) H :=
  WP.of (fun p e s m args below meth c T locs ad Ls X A hL hz => ⟨Ls, hL, hz, fun t ht => XT.ishl X.here A.1 rfl (hb A.2.2.1 hd) rfl ht⟩) nx
theorem WP.ishr {x y : Int32} (hd : decode bytes pc = .ok (.ishr, 1)) (nx : WP l Z C lay own mn bytes maxL ret R n0 ro Q k n (pc + 1) L (.int (x >>> (y &&& 31)) :: S) H) : WP l Z C lay own mn bytes maxL ret R n0 ro Q k n pc L (.int y :: .int x :: S) H :=
  WP.of (fun p e s m args below meth c T locs ad Ls X A hL hz => ⟨Ls, hL, hz, fun t ht => XT.ishr X.here A.1 rfl (hb A.2.2.1 hd) rfl ht⟩) nx
theorem WP.iushr {x y : Int32} (hd : decode bytes pc = .ok (.iushr, 1)) (nx : WP l Z C lay own mn bytes maxL ret R n0 ro Q k n (pc + 1) L (.int (XT.ushr x y) :: S) H) : WP l Z C lay own mn bytes maxL ret R n0 ro Q k n pc L (.int y :: .int x :: S) H :=
  WP.of (fun p e s m args below meth c T locs ad Ls X A hL hz => ⟨Ls, hL, hz, fun t ht => XT.iushr X.here A.1 rfl (hb A.2.2.1 hd) rfl ht⟩) nx
theorem WP.lshl {x : Int64} {y : Int32} (hd : decode bytes pc = .ok (.lshl, 1)) (nx : WP l Z C lay own mn bytes maxL ret R n0 ro Q k n (pc + 1) L (.long (x <<< (y.toInt64 &&& 63)) :: S) H) : WP l Z C lay own mn bytes maxL ret R n0 ro Q k n pc L (.int y :: .long x :: S) H :=
  WP.of (fun p e s m args below meth c T locs ad Ls X A hL hz => ⟨Ls, hL, hz, fun t ht => XT.lshl X.here A.1 rfl (hb A.2.2.1 hd) rfl ht⟩) nx
theorem WP.lshr {x : Int64} {y : Int32} (hd : decode bytes pc = .ok (.lshr, 1)) (nx : WP l Z C lay own mn bytes maxL ret R n0 ro Q k n (pc + 1) L (.long (x >>> (y.toInt64 &&& 63)) :: S) H) : WP l Z C lay own mn bytes maxL ret R n0 ro Q k n pc L (.int y :: .long x :: S) H :=
  WP.of (fun p e s m args below meth c T locs ad Ls X A hL hz => ⟨Ls, hL, hz, fun t ht => XT.lshr X.here A.1 rfl (hb A.2.2.1 hd) rfl ht⟩) nx
theorem WP.lushr {x : Int64} {y : Int32} (hd : decode bytes pc = .ok (.lushr, 1)) (nx : WP l Z C lay own mn bytes maxL ret R n0 ro Q k n (pc + 1) L (.long (XT.ushrL x y) :: S) H) : WP l Z C lay own mn bytes maxL ret R n0 ro Q k n pc L (.int y :: .long x :: S) H :=
  WP.of (fun p e s m args below meth c T locs ad Ls X A hL hz => ⟨Ls, hL, hz, fun t ht => XT.lushr X.here A.1 rfl (hb A.2.2.1 hd) rfl ht⟩) nx
theorem WP.ineg {x : Int32} (hd : decode bytes pc = .ok (.ineg, 1)) (nx : WP l Z C lay own mn bytes maxL ret R n0 ro Q k n (pc + 1) L (.int (-x) :: S) H) : WP l Z C lay own mn bytes maxL ret R n0 ro Q k n pc L (.int x :: S) H :=
  WP.of (fun p e s m args below meth c T locs ad Ls X A hL hz => ⟨Ls, hL, hz, fun t ht => XS.ineg X.here A.1 rfl (hb A.2.2.1 hd) rfl ht⟩) nx
theorem WP.lneg {x : Int64} (hd : decode bytes pc = .ok (.lneg, 1)) (nx : WP l Z C lay own mn bytes maxL ret R n0 ro Q k n (pc + 1) L (.long (-x) :: S) H) : WP l Z C lay own mn bytes maxL ret R n0 ro Q k n pc L (.long x :: S) H :=
  WP.of (fun p e s m args below meth c T locs ad Ls X A hL hz => ⟨Ls, hL, hz, fun t ht => XT.lneg X.here A.1 rfl (hb A.2.2.1 hd) rfl ht⟩) nx
theorem WP.i2l {x : Int32} (hd : decode bytes pc = .ok (.i2l, 1)) (nx : WP l Z C lay own mn bytes maxL ret R n0 ro Q k n (pc + 1) L (.long x.toInt64 :: S) H) : WP l Z C lay own mn bytes maxL ret R n0 ro Q k n pc L (.int x :: S) H :=
  WP.of (fun p e s m args below meth c T locs ad Ls X A hL hz => ⟨Ls, hL, hz, fun t ht => XT.i2l X.here A.1 rfl (hb A.2.2.1 hd) rfl ht⟩) nx
theorem WP.l2i {x : Int64} (hd : decode bytes pc = .ok (.l2i, 1)) (nx : WP l Z C lay own mn bytes maxL ret R n0 ro Q k n (pc + 1) L (.int x.toInt32 :: S) H) : WP l Z C lay own mn bytes maxL ret R n0 ro Q k n pc L (.long x :: S) H :=
  WP.of (fun p e s m args below meth c T locs ad Ls X A hL hz => ⟨Ls, hL, hz, fun t ht => XT.l2i X.here A.1 rfl (hb A.2.2.1 hd) rfl ht⟩) nx
theorem WP.lcmp {x y : Int64} (hd : decode bytes pc = .ok (.lcmp, 1)) (nx : WP l Z C lay own mn bytes maxL ret R n0 ro Q k n (pc + 1) L (.int (XT.cmpL x y) :: S) H) : WP l Z C lay own mn bytes maxL ret R n0 ro Q k n pc L (.long y :: .long x :: S) H :=
  WP.of (fun p e s m args below meth c T locs ad Ls X A hL hz => ⟨Ls, hL, hz, fun t ht => XT.lcmp X.here A.1 rfl (hb A.2.2.1 hd) rfl ht⟩) nx
theorem WP.dup {v : Value} (hd : decode bytes pc = .ok (.dup, 1)) (hc : v.category = 1) (nx : WP l Z C lay own mn bytes maxL ret R n0 ro Q k n (pc + 1) L (v :: v :: S) H) : WP l Z C lay own mn bytes maxL ret R n0 ro Q k n pc L (v :: S) H :=
  WP.of (fun p e s m args below meth c T locs ad Ls X A hL hz => ⟨Ls, hL, hz, fun t ht => XS.dup X.here A.1 rfl (hb A.2.2.1 hd) rfl (by rw [rf_cat]; exact hc) ht⟩) nx
theorem WP.dup2 {v w : Value} (hd : decode bytes pc = .ok (.dup2, 1)) (hc : v.category = 1) (hc' : w.category = 1) (nx : WP l Z C lay own mn bytes maxL ret R n0 ro Q k n (pc + 1) L (v :: w :: v :: w :: S) H) : WP l Z C lay own mn bytes maxL ret R n0 ro Q k n pc L (v :: w :: S) H :=
  WP.of (fun p e s m args below meth c T locs ad Ls X A hL hz => ⟨Ls, hL, hz, fun t ht => XT.dup2 X.here A.1 rfl (hb A.2.2.1 hd) rfl (by rw [rf_cat]; exact hc) (by rw [rf_cat]; exact hc') ht⟩) nx
theorem WP.dup2L {x : Int64} (hd : decode bytes pc = .ok (.dup2, 1)) (nx : WP l Z C lay own mn bytes maxL ret R n0 ro Q k n (pc + 1) L (.long x :: .long x :: S) H) : WP l Z C lay own mn bytes maxL ret R n0 ro Q k n pc L (.long x :: S) H :=
  WP.of (fun p e s m args below meth c T locs ad Ls X A hL hz => ⟨Ls, hL, hz, fun t ht => XT.dup2L X.here A.1 rfl (hb A.2.2.1 hd) rfl ht⟩) nx
theorem WP.pop {v : Value} (hd : decode bytes pc = .ok (.pop, 1)) (hc : v.category = 1) (nx : WP l Z C lay own mn bytes maxL ret R n0 ro Q k n (pc + 1) L (S) H) : WP l Z C lay own mn bytes maxL ret R n0 ro Q k n pc L (v :: S) H :=
  WP.of (fun p e s m args below meth c T locs ad Ls X A hL hz => ⟨Ls, hL, hz, fun t ht => XT.pop X.here A.1 rfl (hb A.2.2.1 hd) rfl (by rw [rf_cat]; exact hc) ht⟩) nx
theorem WP.istore {j : Nat} {x : Int32} (hd : decode bytes pc = .ok (.istore j, 2)) (hi : j < L.length) (hL' : st1 L j (.int x) = L') (nx : WP l Z C lay own mn bytes maxL ret R n0 ro Q k n (pc + 2) L' S H) : WP l Z C lay own mn bytes maxL ret R n0 ro Q k n pc L (.int x :: S) H :=
  WP.of (fun p e s m args below meth c T locs ad Ls X A hL hz => by
    obtain ⟨Ls', e1, e2, e3⟩ := hL.store1 hi (v := .int x) rfl
    exact ⟨Ls', hL' ▸ e2, e3.trans hz, fun t ht => XS.istore X.here A.1 rfl (hb A.2.2.1 hd) rfl e1 ht⟩) nx
theorem WP.istoreN {j : Fin 4} {x : Int32} (hd : decode bytes pc = .ok (.istore_n j, 1)) (hi : j.val < L.length) (hL' : st1 L j.val (.int x) = L') (nx : WP l Z C lay own mn bytes maxL ret R n0 ro Q k n (pc + 1) L' S H) : WP l Z C lay own mn bytes maxL ret R n0 ro Q k n pc L (.int x :: S) H :=
  WP.of (fun p e s m args below meth c T locs ad Ls X A hL hz => by
    obtain ⟨Ls', e1, e2, e3⟩ := hL.store1 hi (v := .int x) rfl
    exact ⟨Ls', hL' ▸ e2, e3.trans hz, fun t ht => XS.istoreN X.here A.1 rfl (hb A.2.2.1 hd) rfl e1 ht⟩) nx
theorem WP.astore {j : Nat} {i : Nat} (hd : decode bytes pc = .ok (.astore j, 2)) (hi : j < L.length) (hL' : st1 L j (.ref i) = L') (nx : WP l Z C lay own mn bytes maxL ret R n0 ro Q k n (pc + 2) L' S H) : WP l Z C lay own mn bytes maxL ret R n0 ro Q k n pc L (.ref i :: S) H :=
  WP.of (fun p e s m args below meth c T locs ad Ls X A hL hz => by
    obtain ⟨Ls', e1, e2, e3⟩ := hL.store1 hi (v := .ref i) rfl
    exact ⟨Ls', hL' ▸ e2, e3.trans hz, fun t ht => XS.astore X.here A.1 rfl (hb A.2.2.1 hd) rfl rfl e1 ht⟩) nx
theorem WP.astoreN {j : Fin 4} {i : Nat} (hd : decode bytes pc = .ok (.astore_n j, 1)) (hi : j.val < L.length) (hL' : st1 L j.val (.ref i) = L') (nx : WP l Z C lay own mn bytes maxL ret R n0 ro Q k n (pc + 1) L' S H) : WP l Z C lay own mn bytes maxL ret R n0 ro Q k n pc L (.ref i :: S) H :=
  WP.of (fun p e s m args below meth c T locs ad Ls X A hL hz => by
    obtain ⟨Ls', e1, e2, e3⟩ := hL.store1 hi (v := .ref i) rfl
    exact ⟨Ls', hL' ▸ e2, e3.trans hz, fun t ht => XS.astoreN X.here A.1 rfl (hb A.2.2.1 hd) rfl rfl e1 ht⟩) nx
theorem WP.lstore {j : Nat} {x : Int64} (hd : decode bytes pc = .ok (.lstore j, 2)) (hi : j + 1 < L.length) (hL' : st2 L j (.long x) = L') (nx : WP l Z C lay own mn bytes maxL ret R n0 ro Q k n (pc + 2) L' S H) : WP l Z C lay own mn bytes maxL ret R n0 ro Q k n pc L (.long x :: S) H :=
  WP.of (fun p e s m args below meth c T locs ad Ls X A hL hz => by
    obtain ⟨Ls', e1, e2, e3⟩ := hL.store2 hi (v := .long x) rfl
    exact ⟨Ls', hL' ▸ e2, e3.trans hz, fun t ht => XT.lstore X.here A.1 rfl (hb A.2.2.1 hd) rfl e1 ht⟩) nx
theorem WP.lstoreN {j : Fin 4} {x : Int64} (hd : decode bytes pc = .ok (.lstore_n j, 1)) (hi : j.val + 1 < L.length) (hL' : st2 L j.val (.long x) = L') (nx : WP l Z C lay own mn bytes maxL ret R n0 ro Q k n (pc + 1) L' S H) : WP l Z C lay own mn bytes maxL ret R n0 ro Q k n pc L (.long x :: S) H :=
  WP.of (fun p e s m args below meth c T locs ad Ls X A hL hz => by
    obtain ⟨Ls', e1, e2, e3⟩ := hL.store2 hi (v := .long x) rfl
    exact ⟨Ls', hL' ▸ e2, e3.trans hz, fun t ht => XT.lstoreN X.here A.1 rfl (hb A.2.2.1 hd) rfl e1 ht⟩) nx
theorem WP.iinc {j : Nat} {cst : Int} {x : Int32} (v : Int32) (hd : decode bytes pc = .ok (.iinc j cst, 3)) (hv : Int32.ofInt cst = v) (hl : L[j]? = some (.val (.int x))) (hL' : st1 L j (.int (x + v)) = L') (nx : WP l Z C lay own mn bytes maxL ret R n0 ro Q k n (pc + 3) L' S H) : WP l Z C lay own mn bytes maxL ret R n0 ro Q k n pc L S H :=
  WP.of (fun p e s m args below meth c T locs ad Ls X A hL hz => by
    subst hv
    obtain ⟨Ls', e1, e2, e3⟩ := hL.store1 (get_lt hl) (v := .int (x + Int32.ofInt cst)) rfl
    exact ⟨Ls', hL' ▸ e2, e3.trans hz, fun t ht => XS.iinc X.here A.1 rfl (hb A.2.2.1 hd) (hL.2.1 _ _ hl) e1 ht⟩) nx
theorem iincW {tb : Tables} [Ours tb] {e : Env} {below : List Frame} {T target : State} {m : MethodId} {c : Code} {g : JFrame} (h : At T m c below) (hx : tb.exec = Jvm.exec) (hg : g.method = m) {k : Nat} {cst : Int} {x : Int32} {l' : Array Slot} (hd : decode c.code g.pc = .ok (.iinc k cst, 6)) (hl : g.locals[k]? = some (.val (.int x))) (hl' : storeLocals g.locals k (.int (x + Int32.ofInt cst)) = some l')
    (hr : Steps tb e below (T.setTop { g with pc := g.pc + 6, locals := l' }) target) : Steps tb e below (T.setTop g) target := by
  subst hg
  jvm_step h [h.top, hx, hd, hl, hl']
  exact hr
theorem WP.iincW {j : Nat} {cst : Int} {x : Int32} (v : Int32) (hd : decode bytes pc = .ok (.iinc j cst, 6)) (hv : Int32.ofInt cst = v) (hl : L[j]? = some (.val (.int x))) (hL' : st1 L j (.int (x + v)) = L') (nx : WP l Z C lay own mn bytes maxL ret R n0 ro Q k n (pc + 6) L' S H) : WP l Z C lay own mn bytes maxL ret R n0 ro Q k n pc L S H :=
  WP.of (fun p e s m args below meth c T locs ad Ls X A hL hz => by
    subst hv
    obtain ⟨Ls', e1, e2, e3⟩ := hL.store1 (get_lt hl) (v := .int (x + Int32.ofInt cst)) rfl
    exact ⟨Ls', hL' ▸ e2, e3.trans hz, fun t ht => Own.iincW X.here A.1 rfl (hb A.2.2.1 hd) (hL.2.1 _ _ hl) e1 ht⟩) nx
theorem WP.goto {o : Int} (hd : decode bytes pc = .ok (.goto o, 3)) (ho : 0 ≤ (pc : Int) + o) (hp : ((pc : Int) + o).toNat = pc') (nx : WP l Z C lay own mn bytes maxL ret R n0 ro Q k n pc' L S H) : WP l Z C lay own mn bytes maxL ret R n0 ro Q k n pc L S H :=
  WP.of (fun p e s m args below meth c T locs ad Ls X A hL hz => ⟨Ls, hL, hz, fun t ht => XS.goto X.here A.1 rfl rfl (hb A.2.2.1 hd) ho hp ht⟩) nx
theorem WP.ifY {cd : ClassFile.Cond} {x : Int32} {o : Int} (hd : decode bytes pc = .ok (.ifCond cd o, 3)) (hc : ifCond.holds cd x = true) (ho : 0 ≤ (pc : Int) + o) (hp : ((pc : Int) + o).toNat = pc') (nx : WP l Z C lay own mn bytes maxL ret R n0 ro Q k n pc' L S H) : WP l Z C lay own mn bytes maxL ret R n0 ro Q k n pc L (.int x :: S) H :=
  WP.of (fun p e s m args below meth c T locs ad Ls X A hL hz => ⟨Ls, hL, hz, fun t ht => XS.ifYes X.here A.1 rfl rfl (hb A.2.2.1 hd) rfl hc ho hp ht⟩) nx
theorem WP.ifN {cd : ClassFile.Cond} {x : Int32} {o : Int} (hd : decode bytes pc = .ok (.ifCond cd o, 3)) (hc : ifCond.holds cd x = false) (nx : WP l Z C lay own mn bytes maxL ret R n0 ro Q k n (pc + 3) L S H) : WP l Z C lay own mn bytes maxL ret R n0 ro Q k n pc L (.int x :: S) H :=
  WP.of (fun p e s m args below meth c T locs ad Ls X A hL hz => ⟨Ls, hL, hz, fun t ht => XS.ifNo X.here A.1 rfl (hb A.2.2.1 hd) rfl hc ht⟩) nx
theorem WP.icmpY {cd : ClassFile.Cond} {x y : Int32} {o : Int} (hd : decode bytes pc = .ok (.if_icmp cd o, 3)) (hc : if_icmp.holds cd x y = true) (ho : 0 ≤ (pc : Int) + o) (hp : ((pc : Int) + o).toNat = pc') (nx : WP l Z C lay own mn bytes maxL ret R n0 ro Q k n pc' L S H) : WP l Z C lay own mn bytes maxL ret R n0 ro Q k n pc L (.int y :: .int x :: S) H :=
  WP.of (fun p e s m args below meth c T locs ad Ls X A hL hz => ⟨Ls, hL, hz, fun t ht => XS.icmpYes X.here A.1 rfl rfl (hb A.2.2.1 hd) rfl hc ho hp ht⟩) nx
theorem WP.icmpN {cd : ClassFile.Cond} {x y : Int32} {o : Int} (hd : decode bytes pc = .ok (.if_icmp cd o, 3)) (hc : if_icmp.holds cd x y = false) (nx : WP l Z C lay own mn bytes maxL ret R n0 ro Q k n (pc + 3) L S H) : WP l Z C lay own mn bytes maxL ret R n0 ro Q k n pc L (.int y :: .int x :: S) H :=
  WP.of (fun p e s m args below meth c T locs ad Ls X A hL hz => ⟨Ls, hL, hz, fun t ht => XS.icmpNo X.here A.1 rfl (hb A.2.2.1 hd) rfl hc ht⟩) nx
theorem WP.nonnull {i : Nat} {o : Int} (hd : decode bytes pc = .ok (.ifnonnull o, 3)) (ho : 0 ≤ (pc : Int) + o) (hp : ((pc : Int) + o).toNat = pc') (nx : WP l Z C lay own mn bytes maxL ret R n0 ro Q k n pc' L S H) : WP l Z C lay own mn bytes maxL ret R n0 ro Q k n pc L (.ref i :: S) H :=
  WP.of (fun p e s m args below meth c T locs ad Ls X A hL hz => ⟨Ls, hL, hz, fun t ht => XT.ifnonnullYes X.here A.1 rfl rfl (hb A.2.2.1 hd) rfl ho hp ht⟩) nx
theorem WP.tswIn {dflt low high o : Int} {offs : Array Int} {len : Nat} {i : Int32} (hd : decode bytes pc = .ok (.tableswitch dflt low high offs, len)) (hin : ¬ (i.toInt < low ∨ i.toInt > high)) (hoff : offs[(i.toInt - low).toNat]? = some o) (ho : 0 ≤ (pc : Int) + o) (hp : ((pc : Int) + o).toNat = pc') (nx : WP l Z C lay own mn bytes maxL ret R n0 ro Q k n pc' L S H) : WP l Z C lay own mn bytes maxL ret R n0 ro Q k n pc L (.int i :: S) H :=
  WP.of (fun p e s m args below meth c T locs ad Ls X A hL hz => ⟨Ls, hL, hz, fun t ht => XS.tswIn X.here A.1 rfl rfl (hb A.2.2.1 hd) rfl hin hoff ho hp ht⟩) nx
theorem WP.tswOut {dflt low high : Int} {offs : Array Int} {len : Nat} {i : Int32} (hd : decode bytes pc = .ok (.tableswitch dflt low high offs, len)) (hout : i.toInt < low ∨ i.toInt > high) (ho : 0 ≤ (pc : Int) + dflt) (hp : ((pc : Int) + dflt).toNat = pc') (nx : WP l Z C lay own mn bytes maxL ret R n0 ro Q k n pc' L S H) : WP l Z C lay own mn bytes maxL ret R n0 ro Q k n pc L (.int i :: S) H :=
  WP.of (fun p e s m args below meth c T locs ad Ls X A hL hz => ⟨Ls, hL, hz, fun t ht => XS.tswOut X.here A.1 rfl rfl (hb A.2.2.1 hd) rfl hout ho hp ht⟩) nx
theorem tsw_miss {i : Int32} {low high : Int} (h : ∀ z : Int, low ≤ z → z ≤ high → ¬ i = Int32.ofInt z) : i.toInt < low ∨ i.toInt > high := by
  by_cases a : i.toInt < low
  · exact Or.inl a
  · by_cases b : i.toInt > high
    · exact Or.inr b
    · exact absurd (by rw [Int32.ofInt_toInt]) (h i.toInt (by omega) (by omega))
theorem WP.moved (hs : ∀ (p : Program) (e : Env) (s : State) (m : MethodId) (args : Array Value) (below : List Frame) (meth : Method) (c : Code) (T : State) (locs : List Loc) (ad : Nat → Addr) (Ls : Array Slot), Stand p l e R s m args below meth c T locs k n → Am Z own mn bytes maxL ret p s m meth c → HR Z C lay n0 ro ad H T.heap → Fr n0 locs → LR ad L Ls → Ls.size = maxL →
      ∃ T' locs', Stand p l e R s m args below meth c T' locs' k' n' ∧ HR Z C lay n0 ro ad H' T'.heap ∧ Kp ad H.length T.heap T'.heap ∧ Fr n0 locs' ∧ ∀ t, Steps p.tables e below (T'.setTop (mkF m pc' Ls (S'.map (rf ad)))) t → Steps p.tables e below (T.setTop (mkF m pc Ls (S.map (rf ad)))) t)
    (nx : WP l Z C lay own mn bytes maxL ret R n0 ro Q k' n' pc' L S' H') : WP l Z C lay own mn bytes maxL ret R n0 ro Q k n pc L S H := by
  intro p e s m args below meth c T locs ad Ls X A hr N hL hz
  obtain ⟨T', locs', X', hr', K, N', st⟩ := hs p e s m args below meth c T locs ad Ls X A hr N hL hz
  obtain ⟨s₂, v, H2, locs2, h1, h2, h3, h4, h5, h6, h7⟩ := nx p e s m args below meth c T' locs' ad Ls X' A hr' N' hL hz
  exact ⟨s₂, v, H2, locs2, st _ h1, h2, h3, h4, h5, Kp.trans hr K h6, h7⟩
theorem WP.getfield {idx i j : Nat} {f d : String} {vs : List Value} {v : Value} (hd : decode bytes pc = .ok (.getfield idx, 3)) (hw : (Cond.fieldLink own idx C f d).before a0 Z = true) (hj : lay[j]? = some (f, d)) (hH : H[i]? = some (.inl vs)) (hv : vs[j]? = some v) (nx : WP l Z C lay own mn bytes maxL ret R n0 ro Q k n (pc + 3) L (v :: S) H) : WP l Z C lay own mn bytes maxL ret R n0 ro Q k n pc L (.ref i :: S) H :=
  WP.moved (fun p e s m args below meth c T locs ad Ls X A hr N hL hz => by
    have F := (hr.1 i _ hH).2 j _ v hj hv
    obtain ⟨T', X', e', st⟩ := getF X A.1 A.2.1 A.2.2.2.2.2.2.1 (host := "") (Or.inl hw) Via.refl rfl F (g := mkF m pc Ls (.ref (ad i) :: S.map (rf ad))) rfl rfl (hb A.2.2.1 hd)
    exact ⟨T', locs, X', by rw [e']; exact hr, by rw [e']; exact Kp.refl _ _ _, N, fun t ht => st t ht⟩) nx
theorem WP.iaload {i : Nat} {xs : List Int32} {j x : Int32} (hd : decode bytes pc = .ok (.iaload, 1)) (hH : H[i]? = some (cI xs)) (hx : rd xs j = some x) (nx : WP l Z C lay own mn bytes maxL ret R n0 ro Q k n (pc + 1) L (.int x :: S) H) : WP l Z C lay own mn bytes maxL ret R n0 ro Q k n pc L (.int j :: .ref i :: S) H :=
  WP.moved (fun p e s m args below meth c T locs ad Ls X A hr N hL hz => by
    obtain ⟨cl, Ar, hsl⟩ := hr.1 i _ hH
    obtain ⟨q1, q2⟩ := rd_slots hsl hx
    exact ⟨T, locs, X, hr, Kp.refl _ _ _, N, fun t ht => X.iaload A.1 (j := j) Ar.1 (State.isArrayOf_alike A.2.1.alike Ar.2.1) Ar.2.2 q1 q2 (g := mkF m pc Ls (.int j :: .ref (ad i) :: S.map (rf ad))) rfl rfl (hb A.2.2.1 hd) _ ht⟩) nx
theorem WP.laload {i : Nat} {xs : List Int64} {j : Int32} {x : Int64} (hd : decode bytes pc = .ok (.laload, 1)) (hH : H[i]? = some (cJ xs)) (hx : rd xs j = some x) (nx : WP l Z C lay own mn bytes maxL ret R n0 ro Q k n (pc + 1) L (.long x :: S) H) : WP l Z C lay own mn bytes maxL ret R n0 ro Q k n pc L (.int j :: .ref i :: S) H :=
  WP.moved (fun p e s m args below meth c T locs ad Ls X A hr N hL hz => by
    obtain ⟨cl, Ar, hsl⟩ := hr.1 i _ hH
    obtain ⟨q1, q2⟩ := rd_slots hsl hx
    exact ⟨T, locs, X, hr, Kp.refl _ _ _, N, fun t ht => X.laload A.1 (j := j) Ar.1 (State.isArrayOf_alike A.2.1.alike Ar.2.1) Ar.2.2 q1 q2 (g := mkF m pc Ls (.int j :: .ref (ad i) :: S.map (rf ad))) rfl rfl (hb A.2.2.1 hd) _ ht⟩) nx
theorem baloadZ {p : Program} {e : Env} {s : State} {m : MethodId} {args : Array Value} {below : List Frame} {meth : Method} {c : Code} {T : State} {locs : List Loc} {cells slots : Nat} (X : Stand p l e R s m args below meth c T locs cells slots) (hexec : p.tables.exec = Jvm.exec) {a : Addr} {cell : Cell} {j : Int32} {v : Value} (hcell : T.heap[a]? = some cell) (harr : s.isArrayOf cell .boolean) (hknown : cell.vm ≠ .unknown)
    (hin : ¬ (j < 0 ∨ cell.slots.size ≤ j.toNatClampNeg)) (hv : cell.slots[j.toNatClampNeg]? = some v) {g : JFrame} (hg : g.method = m) {rest : List Value} (hstack : g.stack = .int j :: .ref a :: rest) (hdg : decode c.code g.pc = .ok (.baload, 1)) (target : State)
    (hrest : Steps p.tables e below (T.setTop { g with pc := g.pc + 1, stack := v :: rest }) target) : Steps p.tables e below (T.setTop g) target := by
  have hT := State.isArrayOf_alike X.warmed.alike harr
  subst hg
  jvm_step X.here [hexec, hdg, baload.wp_booleans (e := e) (s := T) (f := g) X.here.top hstack hcell hT hin hknown hv]
  exact hrest
theorem WP.baload {i : Nat} {xs : List Int32} {j x : Int32} (hd : decode bytes pc = .ok (.baload, 1)) (hH : H[i]? = some (cZ xs)) (hx : rd xs j = some x) (nx : WP l Z C lay own mn bytes maxL ret R n0 ro Q k n (pc + 1) L (.int x :: S) H) : WP l Z C lay own mn bytes maxL ret R n0 ro Q k n pc L (.int j :: .ref i :: S) H :=
  WP.moved (fun p e s m args below meth c T locs ad Ls X A hr N hL hz => by
    obtain ⟨cl, Ar, hsl⟩ := hr.1 i _ hH
    obtain ⟨q1, q2⟩ := rd_slots hsl hx
    exact ⟨T, locs, X, hr, Kp.refl _ _ _, N, fun t ht => baloadZ X A.1 (j := j) Ar.1 (State.isArrayOf_alike A.2.1.alike Ar.2.1) Ar.2.2 q1 q2 (g := mkF m pc Ls (.int j :: .ref (ad i) :: S.map (rf ad))) rfl rfl (hb A.2.2.1 hd) _ ht⟩) nx
theorem WP.arraylength {i : Nat} {xs : List Int32} (hd : decode bytes pc = .ok (.arraylength, 1)) (hH : H[i]? = some (cI xs)) (nx : WP l Z C lay own mn bytes maxL ret R n0 ro Q k n (pc + 1) L (.int xs.length.toInt32 :: S) H) : WP l Z C lay own mn bytes maxL ret R n0 ro Q k n pc L (.ref i :: S) H :=
  WP.moved (fun p e s m args below meth c T locs ad Ls X A hr N hL hz => by
    obtain ⟨cl, Ar, hsl⟩ := hr.1 i _ hH
    have e1 : cl.slots.size = xs.length := by rw [← Array.length_toList, hsl, List.length_map]
    refine ⟨T, locs, X, hr, Kp.refl _ _ _, N, fun t ht => X.arraylength A.1 Ar.1 (State.isArrayOf_alike A.2.1.alike Ar.2.1) (g := mkF m pc Ls (.ref (ad i) :: S.map (rf ad))) rfl rfl (hb A.2.2.1 hd) _ ?_⟩
    rw [e1]; exact ht) nx
theorem WP.iastore {i : Nat} {xs xs' : List Int32} {j : Int32} {x : Int32} (hd : decode bytes pc = .ok (.iastore, 1)) (hH : H[i]? = some (cI xs)) (hi : ro ≤ i) (hx : wr xs j x = some xs') (hH' : H.set i (cI xs') = H') (nx : WP l Z C lay own mn bytes maxL ret R n0 ro Q k n (pc + 1) L S H') : WP l Z C lay own mn bytes maxL ret R n0 ro Q k n pc L (.int x :: .int j :: .ref i :: S) H :=
  WP.moved (fun p e s m args below meth c T locs ad Ls X A hr N hL hz => by
    obtain ⟨cl, Ar, hsl⟩ := hr.1 i _ hH
    obtain ⟨q1, q2⟩ := wr_slots hsl hx
    obtain ⟨T', h', X', e', w, st⟩ := stI X A.1 A.2.1 rfl Ar (j := j) (x := x) q1 (g := mkF m pc Ls (.int x :: .int j :: .ref (ad i) :: S.map (rf ad))) rfl rfl (hb A.2.2.1 hd)
    subst e'
    have hi' := get_lt hH
    have P := hr.put (h' := T'.heap) (c := cI xs') hi' w.size (fun a cz hne q => by
      obtain ⟨c', g1, -, -, -, g5, -⟩ := wr_at w q
      rw [g5 hne] at g1; exact g1) ⟨_, Ar.same w, q2⟩
    exact ⟨T', _, X', hH' ▸ P.1, P.2, Fr.snoc X' N (hr.2.2.2.1 i hi' hi), fun t ht => st t ht⟩) nx
theorem WP.lastore {i : Nat} {xs xs' : List Int64} {j : Int32} {x : Int64} (hd : decode bytes pc = .ok (.lastore, 1)) (hH : H[i]? = some (cJ xs)) (hi : ro ≤ i) (hx : wr xs j x = some xs') (hH' : H.set i (cJ xs') = H') (nx : WP l Z C lay own mn bytes maxL ret R n0 ro Q k n (pc + 1) L S H') : WP l Z C lay own mn bytes maxL ret R n0 ro Q k n pc L (.long x :: .int j :: .ref i :: S) H :=
  WP.moved (fun p e s m args below meth c T locs ad Ls X A hr N hL hz => by
    obtain ⟨cl, Ar, hsl⟩ := hr.1 i _ hH
    obtain ⟨q1, q2⟩ := wr_slots hsl hx
    obtain ⟨T', h', X', e', w, st⟩ := stJ X A.1 A.2.1 rfl Ar (j := j) (x := x) q1 (g := mkF m pc Ls (.long x :: .int j :: .ref (ad i) :: S.map (rf ad))) rfl rfl (hb A.2.2.1 hd)
    subst e'
    have hi' := get_lt hH
    have P := hr.put (h' := T'.heap) (c := cJ xs') hi' w.size (fun a cz hne q => by
      obtain ⟨c', g1, -, -, -, g5, -⟩ := wr_at w q
      rw [g5 hne] at g1; exact g1) ⟨_, Ar.same w, q2⟩
    exact ⟨T', _, X', hH' ▸ P.1, P.2, Fr.snoc X' N (hr.2.2.2.1 i hi' hi), fun t ht => st t ht⟩) nx
theorem WP.bastore {i : Nat} {xs xs' : List Int32} {j : Int32} {x : Int32} (hd : decode bytes pc = .ok (.bastore, 1)) (hH : H[i]? = some (cZ xs)) (hi : ro ≤ i) (hx : wr xs j (x &&& 1) = some xs') (hH' : H.set i (cZ xs') = H') (nx : WP l Z C lay own mn bytes maxL ret R n0 ro Q k n (pc + 1) L S H') : WP l Z C lay own mn bytes maxL ret R n0 ro Q k n pc L (.int x :: .int j :: .ref i :: S) H :=
  WP.moved (fun p e s m args below meth c T locs ad Ls X A hr N hL hz => by
    obtain ⟨cl, Ar, hsl⟩ := hr.1 i _ hH
    obtain ⟨q1, q2⟩ := wr_slots hsl hx
    obtain ⟨T', h', X', e', w, st⟩ := stZ X A.1 A.2.1 rfl Ar (j := j) (x := x) q1 (g := mkF m pc Ls (.int x :: .int j :: .ref (ad i) :: S.map (rf ad))) rfl rfl (hb A.2.2.1 hd)
    subst e'
    have hi' := get_lt hH
    have P := hr.put (h' := T'.heap) (c := cZ xs') hi' w.size (fun a cz hne q => by
      obtain ⟨c', g1, -, -, -, g5, -⟩ := wr_at w q
      rw [g5 hne] at g1; exact g1) ⟨_, Ar.same w, q2⟩
    exact ⟨T', _, X', hH' ▸ P.1, P.2, Fr.snoc X' N (hr.2.2.2.1 i hi' hi), fun t ht => st t ht⟩) nx
/-- a field of the one class is written -/
theorem WP.put {idx i j kk : Nat} {f d : String} {vs : List Value} {v v' old : Value} {ty : FieldType} (hd : decode bytes pc = .ok (.putfield idx, 3)) (hw : (Cond.fieldLink own idx C f d).before a0 Z = true) (hl : (Cond.lays C C f d).before a0 Z = true ∨ ((Cond.laysFinal C C f d).before a0 Z = true ∧ own = C ∧ mn = "<init>")) (wi : (Cond.instantiable C kk).before a0 Z = true)
    (hlay : ∀ (a b : Nat) (f g : String × String), lay[a]? = some f → lay[b]? = some g → a ≠ b → RoadKit.slotOf Z C f.1 f.2 ≠ RoadKit.slotOf Z C g.1 g.2) (hty : parseFieldDescriptor d = some ty) (hn : ∀ ad, narrow ty (rf ad v) = rf ad v') (hf : ∀ ad, fits ty (rf ad v') = true)
    (hj : lay[j]? = some (f, d)) (hH : H[i]? = some (.inl vs)) (hv : vs[j]? = some old) (hi : ro ≤ i) (hH' : H.set i (.inl (vs.set j v')) = H') (nx : WP l Z C lay own mn bytes maxL ret R n0 ro Q k n (pc + 3) L S H') : WP l Z C lay own mn bytes maxL ret R n0 ro Q k n pc L (v :: .ref i :: S) H :=
  WP.moved (fun p e s m args below meth c T locs ad Ls X A hr N hL hz => by
    obtain ⟨E, F⟩ := hr.1 i _ hH
    obtain ⟨T', h', X', e', w, st⟩ := putFN X A.1 A.2.1 A.2.2.2.2.2.2.1 hw Via.refl rfl (F j _ old hj hv) E (hl.imp id fun q => ⟨q.1, q.2.1, A.2.2.2.2.2.2.2.trans q.2.2⟩) wi hty (hn ad) (hf ad) (g := mkF m pc Ls (rf ad v :: .ref (ad i) :: S.map (rf ad))) rfl rfl (hb A.2.2.1 hd)
    subst e'
    have hi' := get_lt hH
    have P := hr.put (h' := T'.heap) (c := .inl (vs.set j v')) hi' w.size (fun a cz hne q => by
      obtain ⟨c', g1, -, -, -, g5, -⟩ := wr_at w q
      rw [g5 hne] at g1; exact g1) ⟨E.wr w, fun a g u hg hu => by
        rw [List.getElem?_set] at hu
        by_cases e : j = a
        · subst e
          cases hj.symm.trans hg
          rw [if_pos rfl, if_pos (get_lt hv)] at hu
          cases hu
          exact (F j _ old hj hv).same w
        · rw [if_neg e] at hu
          exact (F a g u hg hu).other w (Or.inr (hlay a j g (f, d) hg hj (Ne.symm e)))⟩
    exact ⟨T', _, X', hH' ▸ P.1, P.2, Fr.snoc X' N (hr.2.2.2.1 i hi' hi), fun t ht => st t ht⟩) nx
/-- newarray -/
theorem WP.newarray {aty : ArrayType} {c0 : OwnC} {cnt : Int32} (hd : decode bytes pc = .ok (.newarray aty, 2)) (hw : (Cond.arrayClass (newarray.typeOf aty)).before a0 Z = true) (hn : ¬ cnt < 0) (hb8 : cnt.toNatClampNeg * 8 ≤ 536870912) (hc : k + 1 ≤ R.cells) (hl : n + cnt.toNatClampNeg ≤ R.slots)
    (h0 : (aty = .int ∧ c0 = cI (List.replicate cnt.toNatClampNeg 0)) ∨ (aty = .long ∧ c0 = cJ (List.replicate cnt.toNatClampNeg 0)) ∨ (aty = .boolean ∧ c0 = cZ (List.replicate cnt.toNatClampNeg 0)))
    (nx : WP l Z C lay own mn bytes maxL ret R n0 ro Q (k + 1) (n + cnt.toNatClampNeg) (pc + 2) L (.ref H.length :: S) (H ++ [c0])) : WP l Z C lay own mn bytes maxL ret R n0 ro Q k n pc L (.int cnt :: S) H :=
  WP.moved (fun p e s m args below meth c T locs ad Ls X A hr N hL hz => by
    have hcb : componentBytes (newarray.typeOf aty) ≤ 8 := by cases aty <;> decide
    obtain ⟨cA, kA, comp, h1, h2, h3, X', st⟩ := X.newarrayPrim A.1 (mvA A.2.1 hw) (g := mkF m pc Ls (.int cnt :: S.map (rf ad))) rfl (hb A.2.2.1 hd) rfl hn (Nat.le_trans (Nat.mul_le_mul (Nat.le_refl _) hcb) hb8) hc hl
    rw [A.2.1.alike.findClass] at h1
    obtain ⟨kZ, z1, -⟩ := Vm.findClass_spec h1
    obtain ⟨k', z2, z3⟩ := A.2.1.alike.2.2 _ _ z1
    cases h2.symm.trans z2
    have hE : Ext T.heap (T.heap.push { cls := cA, slots := Array.replicate cnt.toNatClampNeg (defaultValue (newarray.typeOf aty)), vm := .none }) := ⟨by simp, fun a c h => by
      rw [Array.getElem?_push_lt (Array.getElem?_eq_some_iff.mp h).1]; exact (Array.getElem?_eq_getElem _).symm.trans h⟩
    have Ar : Arr Z (T.heap.push { cls := cA, slots := Array.replicate cnt.toNatClampNeg (defaultValue (newarray.typeOf aty)), vm := .none }) T.heap.size { cls := cA, slots := Array.replicate cnt.toNatClampNeg (defaultValue (newarray.typeOf aty)), vm := .none } (newarray.typeOf aty) :=
      ⟨by simp, ⟨by simp, kZ, z1, comp, by rw [← h3, z3]⟩, by simp⟩
    have hc0 : CelOk Z C lay ad (T.heap.push { cls := cA, slots := Array.replicate cnt.toNatClampNeg (defaultValue (newarray.typeOf aty)), vm := .none }) T.heap.size c0 := by
      rcases h0 with ⟨rfl, rfl⟩ | ⟨rfl, rfl⟩ | ⟨rfl, rfl⟩
      all_goals exact ⟨_, Ar, by simp [defaultValue, newarray.typeOf]⟩
    have P := hr.push (h' := T.heap.push _) (by simp) hE hc0
    refine ⟨_, locs, X', P.1, P.2.1, N, fun t ht => st t ?_⟩
    have e0 : (List.map (rf ad) (.ref H.length :: S)) = .ref T.heap.size :: S.map (rf ad) := by show (Value.ref (ad H.length) :: _) = _; rw [P.2.2]
    rw [e0] at ht; exact ht) nx
theorem rf_default (ad : Nat → Addr) (ty : FieldType) : rf ad (defaultValue ty) = defaultValue ty := by cases ty <;> rfl
/-- new -/
theorem WP.new {idx kk : Nat} {vs : List Value} (hd : decode bytes pc = .ok (.new idx, 3)) (hw : (Cond.classLink own idx C).before a0 Z = true) (wi : (Cond.instantiable C kk).before a0 Z = true) (wz : (Cond.initialized C).before a0 Z = true) (hc : k + 1 ≤ R.cells) (hl : n + kk ≤ R.slots)
    (h0 : ∀ (i : Nat) (f : String × String) (v : Value), lay[i]? = some f → vs[i]? = some v → Laid Z a0 C C f.1 f.2 ∧ ∃ ty, parseFieldDescriptor f.2 = some ty ∧ v = defaultValue ty)
    (nx : WP l Z C lay own mn bytes maxL ret R n0 ro Q (k + 1) (n + kk) (pc + 3) L (.ref H.length :: S) (H ++ [.inl vs])) : WP l Z C lay own mn bytes maxL ret R n0 ro Q k n pc L S H :=
  WP.moved (fun p e s m args below meth c T locs ad Ls X A hr N hL hz => by
    obtain ⟨vm', cC, kC, h1, h2, h3, h4, X', st⟩ := X.newCold A.1 A.2.2.2.2.2.2.1 (mv A.2.1 hw) (mv A.2.1 wi) (mv A.2.1 wz) (g := mkF m pc Ls (S.map (rf ad))) rfl (hb A.2.2.1 hd) hc hl
    rw [A.2.1.alike.findClass] at h1
    obtain ⟨kZ, z1, -⟩ := Vm.findClass_spec h1
    obtain ⟨k', z2, z3⟩ := A.2.1.alike.2.2 _ _ z1
    cases h2.symm.trans z2
    have ei : kC.instanceTypes = kZ.instanceTypes := by rw [z3]
    have hN : (T.heap.push { cls := cC, slots := kC.instanceTypes.map defaultValue, vm := .none })[T.heap.size]? = some { cls := cC, slots := kC.instanceTypes.map defaultValue, vm := .none } := by simp
    have hE : Ext T.heap (T.heap.push { cls := cC, slots := kC.instanceTypes.map defaultValue, vm := .none }) := ⟨by simp, fun a c h => by
      rw [Array.getElem?_push_lt (Array.getElem?_eq_some_iff.mp h).1]; exact (Array.getElem?_eq_getElem _).symm.trans h⟩
    have hc0 : CelOk Z C lay ad (T.heap.push { cls := cC, slots := kC.instanceTypes.map defaultValue, vm := .none }) T.heap.size (.inl vs) := by
      refine ⟨⟨_, kZ, hN, h1, z1, rfl, fun _ => by simp [ei]⟩, fun i f v hf hv => ?_⟩
      obtain ⟨La, ty, ht, rfl⟩ := h0 i f v hf hv
      obtain ⟨c1, k1, cf, kf, i1, f1, a1, a2, a3, a4, a5, a6, -⟩ := La.spec
      cases h1.symm.trans a1
      cases z1.symm.trans a2
      rw [rf_default]
      exact ⟨_, cf, kf, i1, f1, hN, a3, a4, by simp, rfl, a5, by simp [ei, a6, (State.fieldFound?_type a3 ht).2]⟩
    have P := hr.push (h' := T.heap.push _) (by simp) hE hc0
    refine ⟨_, locs, X', P.1, P.2.1, N, fun t ht => st t ?_⟩
    have e0 : (List.map (rf ad) (.ref H.length :: S)) = .ref T.heap.size :: S.map (rf ad) := by show (Value.ref (ad H.length) :: _) = _; rw [P.2.2]
    rw [e0] at ht; exact ht) nx
/-- Object.<init> -/
theorem WP.initO {idx i : Nat} (hd : decode bytes pc = .ok (.invokespecial idx, 3)) (w1 : (Cond.methodLink own idx Lib.objectInit).before a0 Z = true) (w2 : (Cond.instanceMethod Lib.objectInit).before a0 Z = true) (w3 : (Cond.code Lib.objectInit ⟨#[0xb1]⟩ 1 none).before a0 Z = true) (hf : 1 ≤ R.frames) (hl : (S.map fun v => v.category).sum + 12 ≤ R.locals)
    (nx : WP l Z C lay own mn bytes maxL ret R n0 ro Q k n (pc + 3) L S H) : WP l Z C lay own mn bytes maxL ret R n0 ro Q k n pc L (.ref i :: S) H :=
  WP.moved (fun p e s m args below meth c T locs ad Ls X A hr N hL hz => by
    obtain ⟨T', X', e', st⟩ := RoadKit.initO X A.1 A.2.1 A.2.2.2.2.2.2.1 w1 w2 w3 rfl (g := mkF m pc Ls (.ref (ad i) :: S.map (rf ad))) rfl (hz.trans A.2.2.2.1.symm) rfl (hb A.2.2.1 hd) hf (W := (S.map fun v => v.category).sum) (by show 2 * 0 + _ ≤ _; rw [rf_cats]; omega) hl
    exact ⟨T', locs, X', by rw [e']; exact hr, by rw [e']; exact Kp.refl _ _ _, N, fun t ht => st t ht⟩) nx
theorem WP.leave {v : Option Value} (hk : k ≤ R.cells) (hn : n ≤ R.slots) (hv : ret = none → v = none) (hq : Q v H)
    (hs : ∀ (p : Program) (e : Env) (s : State) (m : MethodId) (args : Array Value) (below : List Frame) (meth : Method) (c : Code) (T : State) (locs : List Loc) (ad : Nat → Addr) (Ls : Array Slot) (fs : List Frame), Stand p l e R s m args below meth c T locs k n → Am Z own mn bytes maxL ret p s m meth c →
      (∀ (f : JFrame) (acts : List Action), f.method = m → f.locked = none → f.entered = [] → (doReturn e (T.setTop f) acts (v.map (rf ad))).1 = T.setFrames fs) → Steps p.tables e below (T.setTop (mkF m pc Ls (S.map (rf ad)))) (T.setFrames fs)) : WP l Z C lay own mn bytes maxL ret R n0 ro Q k n pc L S H := by
  intro p e s m args below meth c T locs ad Ls X A hr N hL hz
  obtain ⟨fs, hr', hrun, hended, hW, hsame⟩ := X.leave (v := v.map (rf ad)) (fun q => by rw [hv (A.2.2.2.2.1.symm.trans q)]; rfl) A.2.2.2.2.2.1
  exact ⟨_, v, H, locs, hs p e s m args below meth c T locs ad Ls fs X A hr', hrun, hended, hq, hr, Kp.refl _ _ _, N, ⟨_, rfl⟩, hW, hsame.mono hk hn⟩
theorem retI' {p : Program} {e : Env} {s : State} {m : MethodId} {args : Array Value} {below : List Frame} {meth : Method} {c : Code} {T : State} {locs : List Loc} {cells slots : Nat} (X : Stand p l e R s m args below meth c T locs cells slots) (hx : p.tables.exec = Jvm.exec) {pc : Nat} {Ls : Array Slot} {z : Int32} {rest : List Value} (hret : meth.sig.returnType = some .int) (hd : decode c.code pc = .ok (.ireturn, 1)) {fs : List Frame}
    (hl : ∀ (f : JFrame) (acts : List Action), f.method = m → f.locked = none → f.entered = [] → (doReturn e (T.setTop f) acts (some (.int z))).1 = T.setFrames fs) : Steps p.tables e below (T.setTop (mkF m pc Ls (.int z :: rest))) (T.setFrames fs) := by
  have hm' : T.vm.method? m = some meth := X.method'
  have hn : narrow .int (.int z) = .int z := rfl
  show Steps p.tables e below (T.setTop { method := m, pc := pc, locals := Ls, stack := _ :: rest, locked := none }) _
  jvm_step X.here [X.here.top, hx, hd, hm', hret, hn]
  first | (intro acts; rw [hl _ acts rfl rfl rfl]) | rw [hl _ _ rfl rfl rfl]
  exact Steps.refl _
theorem WP.ireturn {x : Int32} (hd : decode bytes pc = .ok (.ireturn, 1)) (hret : ret = some .int) (hk : k ≤ R.cells) (hn : n ≤ R.slots) (hq : Q (some (.int x)) H) : WP l Z C lay own mn bytes maxL ret R n0 ro Q k n pc L (.int x :: S) H :=
  WP.leave (v := some (.int x)) hk hn (fun q => by rw [hret] at q; cases q) hq fun p e s m args below meth c T locs ad Ls fs X A hr' => retI' X A.1 (A.2.2.2.2.1.trans hret) (hb A.2.2.1 hd) hr'
theorem WP.zreturn {x : Int32} (hd : decode bytes pc = .ok (.ireturn, 1)) (hret : ret = some .boolean) (hk : k ≤ R.cells) (hn : n ≤ R.slots) (hq : Q (some (.int (x &&& 1))) H) : WP l Z C lay own mn bytes maxL ret R n0 ro Q k n pc L (.int x :: S) H :=
  WP.leave (v := some (.int (x &&& 1))) hk hn (fun q => by rw [hret] at q; cases q) hq fun p e s m args below meth c T locs ad Ls fs X A hr' => retN X A.1 (t := .boolean) (A.2.2.2.2.1.trans hret) (Or.inl rfl) (hb A.2.2.1 hd) hr'
theorem WP.lreturn {x : Int64} (hd : decode bytes pc = .ok (.lreturn, 1)) (hret : ret = some .long) (hk : k ≤ R.cells) (hn : n ≤ R.slots) (hq : Q (some (.long x)) H) : WP l Z C lay own mn bytes maxL ret R n0 ro Q k n pc L [.long x] H :=
  WP.leave (v := some (.long x)) hk hn (fun q => by rw [hret] at q; cases q) hq fun p e s m args below meth c T locs ad Ls fs X A hr' => X.lreturnOut A.1 (A.2.2.2.2.1.trans hret) (hb A.2.2.1 hd) hr'
theorem WP.vreturn (hd : decode bytes pc = .ok (.return_, 1)) (hret : ret = none) (hk : k ≤ R.cells) (hn : n ≤ R.slots) (hq : Q none H) : WP l Z C lay own mn bytes maxL ret R n0 ro Q k n pc L [] H :=
  WP.leave (v := none) hk hn (fun _ => rfl) hq fun p e s m args below meth c T locs ad Ls fs X A hr' => X.returnOut A.1 (A.2.2.2.2.1.trans hret) (hb A.2.2.1 hd) hr'
end Rules
/-! ## a callee's promise, said of the small view -/
def QQ (Z : State) (C : String) (lay : List (String × String)) (n0 ro : Nat) (ad : Nat → Addr) (N : Nat) (h : Heap) (Q : Option Value → List OwnC → Prop) (v : Option Value) (h' : Heap) (L : List Loc) : Prop :=
  ∃ w H', v = w.map (rf ad) ∧ Q w H' ∧ HR Z C lay n0 ro ad H' h' ∧ Kp ad N h h' ∧ Fr n0 L
def CS (l : Launch) (Z : State) (C : String) (lay : List (String × String)) (y : MethodName) (bytes : ByteArray) (maxL : Nat) (ret : Option FieldType) (R : Room) (ro : Nat) (as : List Value) (H : List OwnC) (Q : Option Value → List OwnC → Prop) : Prop :=
  ∀ (ws : List Cond) (n0 : Nat) (ad : Nat → Addr) (h : Heap), HR Z C lay n0 ro ad H h →
    MetFree l y (head1 (Cond.code y bytes maxL ret :: ws) R) (fun a U => a = (as.map (rf ad)).toArray ∧ Z.Warmed39 U.vm ∧ U.heap = h) (fun _ _ _ _ _ => True)
      (fun _ U o U' => ∃ v L, o = .returned v ∧ QQ Z C lay n0 ro ad H.length h Q v U'.heap L ∧ FrameEnd U o U' L R.cells R.slots)
section Calls
variable {l : Launch} {Z : State} {a0 : Array Value} {C : String} {lay : List (String × String)} {own mn : String} {bytes cb : ByteArray} {maxL cm : Nat} {ret cr : Option FieldType} {R Rc : Room} {n0 ro : Nat} {Q Qc : Option Value → List OwnC → Prop} {k n pc pc' : Nat} {L L' : List Slot} {S S0 as : List Value} {H H' : List OwnC} {y : MethodName}
theorem CS.of_wp (hx : plainName y.cls = true) (hn : (laid as).length ≤ maxL) (w : ∀ n0, WP l Z C lay y.cls y.name bytes maxL ret R n0 ro Q 0 0 0 (entL as maxL) [] H) : CS l Z C lay y bytes maxL ret R ro as H Q := by
  intro ws n0 ad h hr
  refine MetFree.of_bodySF (plainFor_of_name hx) hisR ?_
  intro p e s m args below meth c s₁ Bd hml0 hP hK
  obtain ⟨rfl, hZ, hh⟩ := hP
  have e0 : s₁.heap = h := by rw [← hh, Bd.state]; rfl
  obtain ⟨E1, E2⟩ := entry_LR ad as maxL hn
  obtain ⟨s₂, v, H', locs', h1, h2, h3, h4, h5, h6, h7, h8⟩ := w n0 p e s m _ below meth c s₁ [] ad _ (Stand.of_body Bd) ⟨Bd.exec, hZ, Bd.bytes, hml0, Bd.returns, Bd.notSynchronized, findClass_of_methodNamed Bd.named, (name_of_methodNamed Bd.named Bd.method).1⟩ (by rw [e0]; exact hr) (Fr.nil n0) E1 E2
  rw [e0] at h6
  exact ⟨s₂, _, h1, h2, h3, _, locs', rfl, ⟨v, H', rfl, h4, h5, h6, h7⟩, h8⟩
theorem CS.mono (cs : CS l Z C lay y bytes maxL ret R ro as H Q) (h : ∀ v H', Q v H' → Qc v H') : CS l Z C lay y bytes maxL ret R ro as H Qc := by
  intro ws n0 ad hh hr p e ha hc hk s m args below hf happ hP hK
  obtain ⟨N, o, h1, h2, h3, v, L, h4, ⟨w, H', g1, g2, g3⟩, h5⟩ := cs ws n0 ad hh hr p e ha hc hk s m args below hf happ hP hK
  exact ⟨N, o, h1, h2, h3, v, L, h4, ⟨w, H', g1, h _ _ g2, g3⟩, h5⟩
/-- what every call leaves: the walk goes on behind it -/
theorem go_on {p : Program} {e : Env} {s : State} {m : MethodId} {args : Array Value} {below : List Frame} {meth : Method} {c : Code} {T : State} {locs : List Loc} {ad : Nat → Addr} {Ls : Array Slot} {B : Pt} {v : Option Value} {Lc : List Loc} {s₀ : State}
    (nx : ∀ v H', Qc v H' → WP l Z C lay own mn bytes maxL ret R n0 ro Q (k + Rc.cells) (n + Rc.slots) (pc + 3) L (v.toList ++ S) H') (X : Stand p l e R s m args below meth c B.U B.locs B.cells B.slots) (A : Am Z own mn bytes maxL ret p s m meth c) (hr : HR Z C lay n0 ro ad H T.heap) (N : Fr n0 locs) (hL : LR ad L Ls) (hz : Ls.size = maxL)
    (hQ : QQ Z C lay n0 ro ad H.length T.heap Qc v B.U.heap Lc) (e1 : B.locs = locs ++ Lc) (e2 : B.cells = k + Rc.cells) (e3 : B.slots = n + Rc.slots) (st : Steps p.tables e below s₀ (B.U.setTop (mkF m (pc + 3) Ls (v.toList ++ S.map (rf ad))))) :
    ∃ (s₂ : State) (v : Option Value) (H' : List OwnC) (locs' : List Loc), Steps p.tables e below s₀ s₂ ∧ s₂.status = .running ∧ Ended s₂ below (.returned (v.map (rf ad))) ∧ Q v H' ∧ HR Z C lay n0 ro ad H' s₂.heap ∧ Kp ad H.length T.heap s₂.heap ∧ Fr n0 locs' ∧ FrameEnd s (.returned (v.map (rf ad))) s₂ locs' R.cells R.slots := by
  obtain ⟨w, H1, rfl, g2, g3, g4, g5⟩ := hQ
  rw [e1, e2, e3] at X
  obtain ⟨s₂, v, H2, locs2, h1, h2, h3, h4, h5, h6, h7⟩ := nx w H1 g2 p e s m args below meth c B.U _ ad Ls X A g3 (N.app g5) hL hz
  refine ⟨s₂, v, H2, locs2, st.trans ?_, h2, h3, h4, h5, Kp.trans hr g4 h6, h7⟩
  have e0 : (w.toList ++ S).map (rf ad) = (w.map (rf ad)).toList ++ S.map (rf ad) := by cases w <;> rfl
  rw [← e0]; exact h1
theorem stack_of (ad : Nat → Addr) (h : S0 = as.reverse ++ S) : S0.map (rf ad) = (as.map (rf ad)).reverse ++ S.map (rf ad) := by rw [h, List.map_append, List.map_reverse]
theorem stack_of1 {i : Nat} (ad : Nat → Addr) (h : S0 = as.reverse ++ .ref i :: S) : S0.map (rf ad) = (as.map (rf ad)).reverse ++ .ref (ad i) :: S.map (rf ad) := by rw [h, List.map_append, List.map_reverse]; rfl
theorem WP.callS {idx : Nat} (hd : decode bytes pc = .ok (.invokestatic idx, 3)) (w1 : (Cond.methodLink own idx y).before a0 Z = true) (w2 : (Cond.static y).before a0 Z = true) (w3 : (Cond.initialized y.cls).before a0 Z = true) (w4 : (Cond.code y cb cm cr).before a0 Z = true) (hy : y.cls ≠ "java/lang/invoke/MethodHandle" ∧ y.cls ≠ "java/lang/invoke/VarHandle")
    (cs : CS l Z C lay y cb cm cr Rc ro as H Qc) (hS : S0 = as.reverse ++ S) (hlen : ∀ sig, parseMethodDescriptor y.desc = some sig → as.length = sig.parameters.length) (hf : Rc.frames + 1 ≤ R.frames) (hl : (S.map fun v => v.category).sum + (cm + 11) + Rc.locals ≤ R.locals) (hc : k + Rc.cells ≤ R.cells) (hs : n + Rc.slots ≤ R.slots)
    (nx : ∀ v H', Qc v H' → WP l Z C lay own mn bytes maxL ret R n0 ro Q (k + Rc.cells) (n + Rc.slots) (pc + 3) L (v.toList ++ S) H') : WP l Z C lay own mn bytes maxL ret R n0 ro Q k n pc L S0 H := by
  intro p e s m args below meth c T locs ad Ls X A hr N hL hz
  obtain ⟨v, vm₁, B, hW₁, X', ⟨Lc, hQ, e1, e2, e3⟩, st⟩ := Jvm.LawKit.callS X A.1 (y := y) A.2.2.2.2.2.2.1 (mvT A.2.1 w1) (mvT A.2.1 w2) (mvT A.2.1 w3) (mvT A.2.1 w4) hy
    (backOf (W := (S.map fun v => v.category).sum) (cs [] n0 ad T.heap hr) A.2.1 w4 w3 hf hl) (g := mkF m pc Ls (S0.map (rf ad))) rfl (hz.trans A.2.2.2.1.symm) (argsL := as.map (rf ad)) (rest := S.map (rf ad)) (fun sig q => by rw [List.length_map]; exact hlen sig q) (stack_of ad hS) (by show 2 * 0 + _ ≤ _; rw [rf_cats]; omega) (hb A.2.2.1 hd) (fun _ _ => ⟨rfl, rfl, hc, hs⟩)
  exact go_on (T := T) nx X' A hr N hL hz hQ e1 e2 e3 (st _ (Steps.refl _))
theorem WP.callV {idx i : Nat} {vs : List Value} (hd : decode bytes pc = .ok (.invokevirtual idx, 3)) (w1 : (Cond.methodLink own idx y).before a0 Z = true) (w2 : (Cond.declares y).before a0 Z = true) (w3 : (Cond.selects C y y).before a0 Z = true) (w4 : (Cond.instanceMethod y).before a0 Z = true) (w5 : (Cond.code y cb cm cr).before a0 Z = true) (w6 : (Cond.initialized y.cls).before a0 Z = true) (hy : y.cls ≠ "java/lang/invoke/MethodHandle" ∧ y.cls ≠ "java/lang/invoke/VarHandle")
    (hH : H[i]? = some (.inl vs)) (cs : CS l Z C lay y cb cm cr Rc ro (.ref i :: as) H Qc) (hS : S0 = as.reverse ++ .ref i :: S) (hlen : ∀ sig, parseMethodDescriptor y.desc = some sig → as.length = sig.parameters.length) (hf : Rc.frames + 1 ≤ R.frames) (hl : (S.map fun v => v.category).sum + (cm + 11) + Rc.locals ≤ R.locals) (hc : k + Rc.cells ≤ R.cells) (hs : n + Rc.slots ≤ R.slots)
    (nx : ∀ v H', Qc v H' → WP l Z C lay own mn bytes maxL ret R n0 ro Q (k + Rc.cells) (n + Rc.slots) (pc + 3) L (v.toList ++ S) H') : WP l Z C lay own mn bytes maxL ret R n0 ro Q k n pc L S0 H := by
  intro p e s m args below meth c T locs ad Ls X A hr N hL hz
  obtain ⟨cq, kq, qa, qb, qc⟩ := isOf A.2.1 rfl (hr.1 i _ hH).1
  obtain ⟨v, vm₁, B, hW₁, X', ⟨Lc, hQ, e1, e2, e3⟩, st⟩ := X.virtualBack A.1 (y := y) (z := y) A.2.2.2.2.2.2.1 (mvT A.2.1 w1) (mvT A.2.1 w2) (notFace_of_selects (args := #[]) (mvT A.2.1 w3)) (mvT A.2.1 w3) (mvT A.2.1 w4) hy
    (backOf (W := (S.map fun v => v.category).sum) (cs [] n0 ad T.heap hr) A.2.1 w5 w6 hf hl) qa qc (g := mkF m pc Ls (S0.map (rf ad))) rfl (hz.trans A.2.2.2.1.symm) (Steps.refl _) (argsL := as.map (rf ad)) (rest := S.map (rf ad)) (fun sig q => by rw [List.length_map]; exact hlen sig q) (stack_of1 ad hS) (by show 2 * 0 + _ ≤ _; rw [rf_cats]; omega) (hb A.2.2.1 hd) (fun _ _ => ⟨rfl, rfl, hc, hs⟩)
  exact go_on (T := T) nx X' A hr N hL hz hQ e1 e2 e3 st
theorem WP.callP {idx i kk : Nat} {vs : List Value} (hd : decode bytes pc = .ok (.invokevirtual idx, 3)) (w1 : (Cond.methodLink own idx y).before a0 Z = true) (w2 : (Cond.privateMethod y).before a0 Z = true) (wi : (Cond.instantiable y.cls kk).before a0 Z = true) (w4 : (Cond.instanceMethod y).before a0 Z = true) (w5 : (Cond.code y cb cm cr).before a0 Z = true) (w6 : (Cond.initialized y.cls).before a0 Z = true) (hy : y.cls ≠ "java/lang/invoke/MethodHandle" ∧ y.cls ≠ "java/lang/invoke/VarHandle")
    (hH : H[i]? = some (.inl vs)) (cs : CS l Z C lay y cb cm cr Rc ro (.ref i :: as) H Qc) (hS : S0 = as.reverse ++ .ref i :: S) (hlen : ∀ sig, parseMethodDescriptor y.desc = some sig → as.length = sig.parameters.length) (hf : Rc.frames + 1 ≤ R.frames) (hl : (S.map fun v => v.category).sum + (cm + 11) + Rc.locals ≤ R.locals) (hc : k + Rc.cells ≤ R.cells) (hs : n + Rc.slots ≤ R.slots)
    (nx : ∀ v H', Qc v H' → WP l Z C lay own mn bytes maxL ret R n0 ro Q (k + Rc.cells) (n + Rc.slots) (pc + 3) L (v.toList ++ S) H') : WP l Z C lay own mn bytes maxL ret R n0 ro Q k n pc L S0 H := by
  intro p e s m args below meth c T locs ad Ls X A hr N hL hz
  obtain ⟨cq, q, q'⟩ := (hr.1 i _ hH).1.cell
  have hpr : s.PrivateAt y := Cond.privateMethod_at (mvP A.2.1 w2 (args := #[]))
  have hin : (Cond.instanceMethod y).before args s = true := mvT A.2.1 w4
  have hsel : (Cond.selects y.cls y y).before args s = true := by
    have wi' : (Cond.instantiable y.cls kk).before args s = true := mvT A.2.1 wi
    obtain ⟨c1, k1, g1, g2, g3, g4, -⟩ := Cond.instantiable_spec wi'
    have g5 : k1.isInterface = false := by
      cases hq : k1.isInterface
      · rfl
      · rw [hq] at g4; cases g4
    exact selects_self_of_private g1 g2 g5 hpr hin hy
  obtain ⟨v, vm₁, B, hW₁, X', ⟨Lc, hQ, e1, e2, e3⟩, st⟩ := X.privateBack A.1 (y := y) A.2.2.2.2.2.2.1 (mvT A.2.1 w1) hin hsel hpr (mvT A.2.1 w5) hy
    (backOf (W := (S.map fun v => v.category).sum) (cs [] n0 ad T.heap hr) A.2.1 w5 w6 hf hl) (g := mkF m pc Ls (S0.map (rf ad))) rfl (hz.trans A.2.2.2.1.symm) (Steps.refl _) q q' (argsL := as.map (rf ad)) (rest := S.map (rf ad)) (fun sig q => by rw [List.length_map]; exact hlen sig q) (stack_of1 ad hS) (by show 2 * 0 + _ ≤ _; rw [rf_cats]; omega) (hb A.2.2.1 hd) (fun _ _ => ⟨rfl, rfl, hc, hs⟩)
  exact go_on (T := T) nx X' A hr N hL hz hQ e1 e2 e3 st
theorem WP.callI {idx i : Nat} (hd : decode bytes pc = .ok (.invokespecial idx, 3)) (hn1 : y.name = "<init>") (w1 : (Cond.methodLink own idx y).before a0 Z = true) (w4 : (Cond.instanceMethod y).before a0 Z = true) (w5 : (Cond.code y cb cm none).before a0 Z = true) (w6 : (Cond.initialized y.cls).before a0 Z = true) (hy : y.cls ≠ "java/lang/invoke/MethodHandle" ∧ y.cls ≠ "java/lang/invoke/VarHandle")
    (cs : CS l Z C lay y cb cm none Rc ro (.ref i :: as) H Qc) (hS : S0 = as.reverse ++ .ref i :: S) (hlen : ∀ sig, parseMethodDescriptor y.desc = some sig → as.length = sig.parameters.length) (hf : Rc.frames + 1 ≤ R.frames) (hl : (S.map fun v => v.category).sum + (cm + 11) + Rc.locals ≤ R.locals) (hc : k + Rc.cells ≤ R.cells) (hs : n + Rc.slots ≤ R.slots)
    (nx : ∀ v H', Qc v H' → WP l Z C lay own mn bytes maxL ret R n0 ro Q (k + Rc.cells) (n + Rc.slots) (pc + 3) L (v.toList ++ S) H') : WP l Z C lay own mn bytes maxL ret R n0 ro Q k n pc L S0 H := by
  intro p e s m args below meth c T locs ad Ls X A hr N hL hz
  obtain ⟨v, vm₁, B, hW₁, X', ⟨Lc, hQ, e1, e2, e3⟩, st⟩ := X.specialBack A.1 (y := y) hn1 A.2.2.2.2.2.2.1 (mvT A.2.1 w1) (mvT A.2.1 w4) (mvT A.2.1 w5) hy
    (backOf (W := (S.map fun v => v.category).sum) (cs [] n0 ad T.heap hr) A.2.1 w5 w6 hf hl) (g := mkF m pc Ls (S0.map (rf ad))) rfl (hz.trans A.2.2.2.1.symm) (Steps.refl _) (a := ad i) (argsL := as.map (rf ad)) (rest := S.map (rf ad)) (fun sig q => by rw [List.length_map]; exact hlen sig q) (stack_of1 ad hS) (by show 2 * 0 + _ ≤ _; rw [rf_cats]; omega) (hb A.2.2.1 hd) (fun _ _ => ⟨rfl, rfl, hc, hs⟩)
  exact go_on (T := T) nx X' A hr N hL hz hQ e1 e2 e3 st
end Calls
/-! ## a callee that sees a part of the heap -/
def rn (ρ : Nat → Nat) : Value → Value
  | .ref i => .ref (ρ i)
  | .int x => .int x
  | .long x => .long x
  | .float x => .float x
  | .double x => .double x
  | .null => .null
  | .retAddr x => .retAddr x
theorem rf_rn (ad : Nat → Addr) (ρ : Nat → Nat) (v : Value) : rf ad (rn ρ v) = rf (fun j => ad (ρ j)) v := by cases v <;> rfl
def rnC (ρ : Nat → Nat) : OwnC → OwnC
  | .inl vs => .inl (vs.map (rn ρ))
  | .inr x => .inr x
theorem CelOk_rn {Z : State} {C : String} {lay : List (String × String)} {ad : Nat → Addr} {ρ : Nat → Nat} {h : Heap} {a : Addr} {c : OwnC} : CelOk Z C lay ad h a (rnC ρ c) ↔ CelOk Z C lay (fun j => ad (ρ j)) h a c := by
  rcases c with vs | xs | xs | xs
  · constructor
    · rintro ⟨E, F⟩
      refine ⟨E, fun i f v hf hv => ?_⟩
      have := F i f (rn ρ v) hf (by rw [List.getElem?_map, hv]; rfl)
      rwa [rf_rn] at this
    · rintro ⟨E, F⟩
      refine ⟨E, fun i f v hf hv => ?_⟩
      rw [List.getElem?_map] at hv
      obtain ⟨w, hw, rfl⟩ := Option.map_eq_some_iff.mp hv
      rw [rf_rn]; exact F i f w hf hw
  all_goals exact Iff.rfl
def patch (ρ : Nat → Nat) : List Nat → List OwnC → List OwnC → List OwnC
  | [], D, H => H ++ D.map (rnC ρ)
  | i :: is, c :: D, H => patch ρ is D (H.set i (rnC ρ c))
  | _ :: _, [], H => H
theorem patch_seg (ρ : Nat → Nat) : ∀ (D B A C : List OwnC), B.length = D.length → patch ρ (List.range' A.length D.length) D (A ++ (B ++ C)) = A ++ (D.map (rnC ρ) ++ C)
  | [], B, A, C, h => by
    obtain rfl : B = [] := List.eq_nil_of_length_eq_zero h
    simp [patch]
  | d :: D, [], A, C, h => by simp at h
  | d :: D, b :: B, A, C, h => by
    have h' : B.length = D.length := by simpa using h
    have ih := patch_seg ρ D B (A ++ [rnC ρ d]) C h'
    rw [List.length_append] at ih
    show patch ρ (List.range' (A.length + 1) D.length) D ((A ++ (b :: B ++ C)).set A.length (rnC ρ d)) = _
    rw [List.set_append_right _ _ (Nat.le_refl _), Nat.sub_self]
    simpa using ih
theorem patch_len (ρ : Nat → Nat) : ∀ (foot : List Nat) (D H : List OwnC), foot.length ≤ D.length → (patch ρ foot D H).length = H.length + (D.length - foot.length)
  | [], D, H, _ => by simp [patch]
  | i :: is, [], H, h => by simp at h
  | i :: is, c :: D, H, h => by
    show (patch ρ is D (H.set i (rnC ρ c))).length = _
    rw [patch_len ρ is D _ (by simpa using h)]; simp
theorem patch_out (ρ : Nat → Nat) : ∀ (foot : List Nat) (D H : List OwnC) (i : Nat), i < H.length → i ∉ foot → (patch ρ foot D H)[i]? = H[i]?
  | [], D, H, i, hi, _ => by simp [patch, List.getElem?_append_left hi]
  | j :: is, [], H, i, _, _ => rfl
  | j :: is, c :: D, H, i, hi, hn => by
    show (patch ρ is D (H.set j (rnC ρ c)))[i]? = _
    rw [patch_out ρ is D _ i (by simpa using hi) (fun q => hn (List.mem_cons_of_mem _ q)), List.getElem?_set_ne (fun q => hn (by rw [q]; exact List.mem_cons_self ..))]
theorem patch_new (ρ : Nat → Nat) : ∀ (foot : List Nat) (D H : List OwnC) (t : Nat), foot.length ≤ D.length → (patch ρ foot D H)[H.length + t]? = (D[foot.length + t]?).map (rnC ρ)
  | [], D, H, t, _ => by simp [patch, List.getElem?_append_right (Nat.le_add_right _ _)]
  | i :: is, [], H, _, h => by simp at h
  | i :: is, c :: D, H, t, h => by
    show (patch ρ is D (H.set i (rnC ρ c)))[H.length + t]? = _
    have := patch_new ρ is D (H.set i (rnC ρ c)) t (by simpa using h)
    rw [List.length_set] at this
    rw [this]; simp [Nat.add_right_comm _ 1 t]
theorem patch_in (ρ : Nat → Nat) : ∀ (foot : List Nat) (D H : List OwnC) (j i : Nat), foot.Nodup → (∀ x ∈ foot, x < H.length) → foot[j]? = some i → foot.length ≤ D.length → (patch ρ foot D H)[i]? = (D[j]?).map (rnC ρ)
  | [], D, H, j, i, _, _, h, _ => by simp at h
  | x :: is, [], H, j, i, _, _, _, h => by simp at h
  | x :: is, c :: D, H, 0, i, nd, hl, h, _ => by
    obtain rfl : x = i := by simpa using h
    show (patch ρ is D (H.set x (rnC ρ c)))[x]? = _
    rw [patch_out ρ is D _ x (by simpa using hl x (List.mem_cons_self ..)) (List.nodup_cons.mp nd).1]
    simp [hl x (List.mem_cons_self ..)]
  | x :: is, c :: D, H, j + 1, i, nd, hl, h, hd => by
    show (patch ρ is D (H.set x (rnC ρ c)))[i]? = _
    rw [patch_in ρ is D _ j i (List.nodup_cons.mp nd).2 (fun y hy => by simpa using hl y (List.mem_cons_of_mem _ hy)) (by simpa using h) (by simpa using hd)]
    simp
def ro1 (foot : List Nat) (N : Nat) (j : Nat) : Nat := if j < foot.length then foot.getD j 0 else N + (j - foot.length)
theorem ro1_in {foot : List Nat} {N j i : Nat} (h : foot[j]? = some i) : ro1 foot N j = i := by
  have hj := get_lt h
  unfold ro1
  rw [if_pos hj, List.getD_eq_getElem?_getD, h]; rfl
theorem ro1_new (foot : List Nat) (N t : Nat) : ro1 foot N (foot.length + t) = N + t := by
  unfold ro1
  rw [if_neg (by omega)]; omega
theorem CS.frame {l : Launch} {Z : State} {C : String} {lay : List (String × String)} {y : MethodName} {bytes : ByteArray} {maxL : Nat} {ret : Option FieldType} {R : Room} {ro roc : Nat} {as asc : List Value} {H Hc : List OwnC} {Qc : Option Value → List OwnC → Prop} (foot : List Nat)
    (cs : CS l Z C lay y bytes maxL ret R roc asc Hc Qc) (hlen : Hc.length = foot.length) (hnd : foot.Nodup) (hlt : ∀ x ∈ foot, x < H.length) (hcell : foot.map (fun i => H[i]?) = Hc.map (fun c => some (rnC (ro1 foot H.length) c))) (hro : ∀ x ∈ foot.drop roc, ro ≤ x) (has : asc.map (rn (ro1 foot H.length)) = as) :
    CS l Z C lay y bytes maxL ret R ro as H (fun v H' => ∃ vc D, Qc vc D ∧ v = vc.map (rn (ro1 foot H.length)) ∧ H' = patch (ro1 foot H.length) foot D H) := by
  intro ws n0 ad h hr
  obtain ⟨r1, r2, r3, r4, r5⟩ := hr
  have cellAt : ∀ (j i : Nat), foot[j]? = some i → ∃ c, Hc[j]? = some c ∧ H[i]? = some (rnC (ro1 foot H.length) c) := fun j i hj => by
    have h1 : (foot.map (fun i => H[i]?))[j]? = some H[i]? := by rw [List.getElem?_map, hj]; rfl
    rw [hcell, List.getElem?_map] at h1
    obtain ⟨c, e1, e2⟩ := Option.map_eq_some_iff.mp h1
    exact ⟨c, e1, e2.symm⟩
  have idx : ∀ j : Nat, j < foot.length → ∃ i, foot[j]? = some i ∧ i < H.length := fun j hj => ⟨_, List.getElem?_eq_getElem hj, hlt _ (List.getElem_mem hj)⟩
  have hrc : HR Z C lay n0 roc (fun j => ad (ro1 foot H.length j)) Hc h := by
    refine ⟨fun j c hj => ?_, fun i j hi hj q => ?_, fun t => ?_, fun j hj hr => ?_, r5⟩
    · obtain ⟨i, e1, e2⟩ := idx j (hlen ▸ get_lt hj)
      obtain ⟨c', g1, g2⟩ := cellAt j i e1
      cases g1.symm.trans hj
      show CelOk Z C lay (fun j => ad (ro1 foot H.length j)) h (ad (ro1 foot H.length j)) c
      rw [ro1_in e1]
      exact CelOk_rn.mp (r1 i _ g2)
    · rw [hlen] at hi hj
      obtain ⟨i', e1, e2⟩ := idx i hi
      obtain ⟨j', g1, g2⟩ := idx j hj
      dsimp only at q
      rw [ro1_in e1, ro1_in g1] at q
      have q' := r2 _ _ e2 g2 q
      subst q'
      exact (List.getElem?_inj hi hnd).mp (e1.trans g1.symm)
    · dsimp only
      rw [hlen, ro1_new]; exact r3 t
    · rw [hlen] at hj
      obtain ⟨i', e1, e2⟩ := idx j hj
      dsimp only
      rw [ro1_in e1]; refine r4 _ e2 (hro i' (List.mem_of_getElem? (i := j - roc) ?_)); rw [List.getElem?_drop, Nat.add_sub_cancel' hr]; exact e1
  intro p e ha hc hk s m args below hf happ hP hK
  have eas : (asc.map (rf fun j => ad (ro1 foot H.length j))) = as.map (rf ad) := by
    rw [← has, List.map_map]; congr 1; funext v; exact (rf_rn ad _ v).symm
  obtain ⟨N, o, h1, h2, h3, v, L, h4, ⟨w, D, rfl, g2, g3, g4, g5⟩, h5⟩ := cs ws n0 _ h hrc p e ha hc hk s m args below hf happ (by rw [eas]; exact hP) hK
  refine ⟨N, o, h1, h2, h3, _, L, h4, ⟨w.map (rn (ro1 foot H.length)), patch (ro1 foot H.length) foot D H, ?_, ⟨w, D, g2, rfl, rfl⟩, ?_, ?_, g5⟩, h5⟩
  · cases w with
    | none => rfl
    | some w => exact congrArg some (rf_rn ad _ w).symm
  · generalize hU : (stepsAlone p.tables e N s).heap = h' at g3 g4
    obtain ⟨d1, d2, d3, d4, d5⟩ := g3
    have hD : foot.length ≤ D.length := by
      by_cases q : foot.length ≤ D.length
      · exact q
      · exfalso
        obtain ⟨i, e1, e2⟩ := idx D.length (by omega)
        have z := d3 0
        simp only [Nat.add_zero] at z
        rw [ro1_in e1] at z
        obtain ⟨c', -, g2'⟩ := cellAt _ i e1
        have a1 := (r1 i _ g2').lt
        rw [z] at a1
        exact absurd a1 (Nat.not_lt.mpr g4.1)
    have hPl := patch_len (ro1 foot H.length) foot D H hD
    have old : ∀ i, i < H.length → ad i < h.size := fun i hi => (r1 i _ (List.getElem?_eq_getElem hi)).lt
    have new : ∀ i, H.length ≤ i → h.size ≤ ad i := fun i hi => by
      obtain ⟨t, rfl⟩ := Nat.exists_eq_add_of_le hi
      rw [r3 t]; exact Nat.le_add_right _ _
    refine ⟨fun i c hi => ?_, fun i j hi hj q => ?_, fun t => ?_, fun i hi hr => ?_, Nat.le_trans r5 g4.1⟩
    · by_cases hl : i < H.length
      · by_cases hm : i ∈ foot
        · obtain ⟨j, hj⟩ := List.getElem?_of_mem hm
          rw [patch_in _ foot D H j i hnd hlt hj hD] at hi
          obtain ⟨c', e1, rfl⟩ := Option.map_eq_some_iff.mp hi
          have := d1 j c' e1
          dsimp only at this
          rw [ro1_in hj] at this
          exact CelOk_rn.mpr this
        · rw [patch_out _ foot D H i hl hm] at hi
          refine (r1 i c hi).keep fun cz q => g4.2 _ cz q fun j hj q' => ?_
          rw [hlen] at hj
          obtain ⟨i', e1, e2⟩ := idx j hj
          dsimp only at q'
          rw [ro1_in e1] at q'
          have := r2 _ _ e2 hl q'
          subst this
          exact hm (List.mem_of_getElem? e1)
      · obtain ⟨t, rfl⟩ := Nat.exists_eq_add_of_le (Nat.le_of_not_lt hl)
        rw [patch_new _ foot D H t hD] at hi
        obtain ⟨c', e1, rfl⟩ := Option.map_eq_some_iff.mp hi
        have := d1 _ c' e1
        dsimp only at this
        rw [ro1_new] at this
        exact CelOk_rn.mpr this
    · by_cases a1 : i < H.length
      · by_cases a2 : j < H.length
        · exact r2 _ _ a1 a2 q
        · have b1 := old i a1
          rw [q] at b1
          exact absurd b1 (Nat.not_lt.mpr (new j (Nat.le_of_not_lt a2)))
      · by_cases a2 : j < H.length
        · have b1 := new i (Nat.le_of_not_lt a1)
          rw [q] at b1
          exact absurd (old j a2) (Nat.not_lt.mpr b1)
        · obtain ⟨t, rfl⟩ := Nat.exists_eq_add_of_le (Nat.le_of_not_lt a1)
          obtain ⟨t', rfl⟩ := Nat.exists_eq_add_of_le (Nat.le_of_not_lt a2)
          rw [r3, r3] at q; exact congrArg (H.length + ·) (Nat.add_left_cancel q)
    · have z := d3 t
      dsimp only at z
      have e1 : D.length + t = foot.length + (D.length - foot.length + t) := by omega
      rw [e1, ro1_new] at z
      rw [hPl, Nat.add_assoc]; exact z
    · by_cases a1 : i < H.length
      · exact r4 i a1 hr
      · exact Nat.le_trans r5 (new i (Nat.le_of_not_lt a1))
  · refine ⟨g4.1, fun a cz hz hn => g4.2 a cz hz fun j hj q => ?_⟩
    rw [hlen] at hj
    obtain ⟨i', e1, e2⟩ := idx j hj
    dsimp only at q
    rw [ro1_in e1] at q
    exact hn i' e2 q
/-! ## an object's state: ints (and booleans), longs, int[] (and boolean[]), long[], each by a number -/
abbrev St : Type := (Nat → Int32) × (Nat → Int64) × (Nat → List Int32) × (Nat → List Int64)
def upd {α : Type} (f : Nat → α) (i : Nat) (v : α) : Nat → α := fun j => if j = i then v else f j
def gI (s : St) (i : Nat) : Int32 := s.1 i
def gJ (s : St) (i : Nat) : Int64 := s.2.1 i
def gA (s : St) (i : Nat) : List Int32 := s.2.2.1 i
def gB (s : St) (i : Nat) : List Int64 := s.2.2.2 i
def sI (s : St) (i : Nat) (v : Int32) : St := (upd s.1 i v, s.2.1, s.2.2.1, s.2.2.2)
def sJ (s : St) (i : Nat) (v : Int64) : St := (s.1, upd s.2.1 i v, s.2.2.1, s.2.2.2)
def sA (s : St) (i : Nat) (v : List Int32) : St := (s.1, s.2.1, upd s.2.2.1 i v, s.2.2.2)
def sB (s : St) (i : Nat) (v : List Int64) : St := (s.1, s.2.1, s.2.2.1, upd s.2.2.2 i v)
theorem gI_sI (s : St) (i j : Nat) (v : Int32) : gI (sI s i v) j = if j = i then v else gI s j := rfl
theorem gI_sJ (s : St) (i j : Nat) (v : Int64) : gI (sJ s i v) j = gI s j := rfl
theorem gI_sA (s : St) (i j : Nat) (v : List Int32) : gI (sA s i v) j = gI s j := rfl
theorem gI_sB (s : St) (i j : Nat) (v : List Int64) : gI (sB s i v) j = gI s j := rfl
theorem gJ_sI (s : St) (i j : Nat) (v : Int32) : gJ (sI s i v) j = gJ s j := rfl
theorem gJ_sJ (s : St) (i j : Nat) (v : Int64) : gJ (sJ s i v) j = if j = i then v else gJ s j := rfl
theorem gJ_sA (s : St) (i j : Nat) (v : List Int32) : gJ (sA s i v) j = gJ s j := rfl
theorem gJ_sB (s : St) (i j : Nat) (v : List Int64) : gJ (sB s i v) j = gJ s j := rfl
theorem gA_sI (s : St) (i j : Nat) (v : Int32) : gA (sI s i v) j = gA s j := rfl
theorem gA_sJ (s : St) (i j : Nat) (v : Int64) : gA (sJ s i v) j = gA s j := rfl
theorem gA_sA (s : St) (i j : Nat) (v : List Int32) : gA (sA s i v) j = if j = i then v else gA s j := rfl
theorem gA_sB (s : St) (i j : Nat) (v : List Int64) : gA (sB s i v) j = gA s j := rfl
theorem gB_sI (s : St) (i j : Nat) (v : Int32) : gB (sI s i v) j = gB s j := rfl
theorem gB_sJ (s : St) (i j : Nat) (v : Int64) : gB (sJ s i v) j = gB s j := rfl
theorem gB_sA (s : St) (i j : Nat) (v : List Int32) : gB (sA s i v) j = gB s j := rfl
theorem gB_sB (s : St) (i j : Nat) (v : List Int64) : gB (sB s i v) j = if j = i then v else gB s j := rfl
def wrA (s : St) (i : Nat) (j x : Int32) : Option St := (wr (gA s i) j x).map (sA s i)
def wrB (s : St) (i : Nat) (j : Int32) (x : Int64) : Option St := (wr (gB s i) j x).map (sB s i)
theorem wrA_e {s s' : St} {i : Nat} {j x : Int32} (h : wrA s i j x = some s') : ∃ ys, wr (gA s i) j x = some ys ∧ s' = sA s i ys := by
  obtain ⟨ys, h1, h2⟩ := Option.map_eq_some_iff.mp h
  exact ⟨ys, h1, h2.symm⟩
theorem wrB_e {s s' : St} {i : Nat} {j : Int32} {x : Int64} (h : wrB s i j x = some s') : ∃ ys, wr (gB s i) j x = some ys ∧ s' = sB s i ys := by
  obtain ⟨ys, h1, h2⟩ := Option.map_eq_some_iff.mp h
  exact ⟨ys, h1, h2.symm⟩
def lt {α β : Type} (x : α) (f : α → β) : β := f x
theorem lt_e {α β : Type} {x : α} {f : α → β} {r : β} (h : lt x f = r) : ∃ y, y = x ∧ f y = r := ⟨x, rfl, h⟩
theorem ite_e {α : Type} {c : Prop} [Decidable c] {a b r : α} (h : (if c then a else b) = r) : (c ∧ a = r) ∨ (¬ c ∧ b = r) := by
  by_cases hc : c
  · rw [if_pos hc] at h; exact Or.inl ⟨hc, h⟩
  · rw [if_neg hc] at h; exact Or.inr ⟨hc, h⟩
theorem nz_e {α : Type} {c : Prop} [Decidable c] {b : Option α} {r : α} (h : (if c then none else b) = some r) : ¬ c ∧ b = some r := by
  by_cases hc : c
  · rw [if_pos hc] at h; cases h
  · rw [if_neg hc] at h; exact ⟨hc, h⟩
/-! the class's fields -/
def LaidAll (Z : State) (a0 : Array Value) (C : String) : List (String × String) → List Value → Prop
  | f :: fs, v :: vs => (Laid Z a0 C C f.1 f.2 ∧ ∃ ty, parseFieldDescriptor f.2 = some ty ∧ v = defaultValue ty) ∧ LaidAll Z a0 C fs vs
  | [], [] => True
  | _, _ => False
theorem LaidAll.new {Z : State} {a0 : Array Value} {C : String} : ∀ {lay : List (String × String)} {vs : List Value}, LaidAll Z a0 C lay vs → ∀ (i : Nat) (f : String × String) (v : Value), lay[i]? = some f → vs[i]? = some v → Laid Z a0 C C f.1 f.2 ∧ ∃ ty, parseFieldDescriptor f.2 = some ty ∧ v = defaultValue ty
  | [], [], _, i, f, v, h, _ => by simp at h
  | g :: fs, w :: vs, h, 0, f, v, h1, h2 => by
    obtain rfl : g = f := by simpa using h1
    obtain rfl : w = v := by simpa using h2
    exact h.1
  | g :: fs, w :: vs, h, i + 1, f, v, h1, h2 => LaidAll.new h.2 i f v (by simpa using h1) (by simpa using h2)
theorem LaidAll.len {Z : State} {a0 : Array Value} {C : String} : ∀ {lay : List (String × String)} {vs : List Value}, LaidAll Z a0 C lay vs → lay.length = vs.length
  | [], [], _ => rfl
  | g :: fs, w :: vs, h => congrArg Nat.succ (LaidAll.len h.2)
theorem LaidAll.ne {Z : State} {a0 : Array Value} {C : String} {lay : List (String × String)} {vs : List Value} (h : LaidAll Z a0 C lay vs) (nd : (lay.map Prod.fst).Nodup) : ∀ (a b : Nat) (f g : String × String), lay[a]? = some f → lay[b]? = some g → a ≠ b → RoadKit.slotOf Z C f.1 f.2 ≠ RoadKit.slotOf Z C g.1 g.2 := by
  intro a b f g ha hb' hne
  have la := get_lt ha
  have lb := get_lt hb'
  obtain ⟨L1, t1, e1, -⟩ := h.new a f _ ha (List.getElem?_eq_getElem (h.len ▸ la))
  obtain ⟨L2, t2, e2, -⟩ := h.new b g _ hb' (List.getElem?_eq_getElem (h.len ▸ lb))
  refine slot_ne L1 L2 (fun q => hne ?_) e1 e2
  have h1 : (lay.map Prod.fst)[a]? = some f.1 := by rw [List.getElem?_map, ha]; rfl
  have h2 : (lay.map Prod.fst)[b]? = some g.1 := by rw [List.getElem?_map, hb']; rfl
  exact (List.getElem?_inj (by simpa using la) nd).mp (h1.trans (by rw [q]; exact h2.symm))
section Puts
variable {l : Launch} {Z : State} {a0 : Array Value} {C : String} {lay : List (String × String)} {own mn : String} {bytes : ByteArray} {maxL : Nat} {ret : Option FieldType} {R : Room} {n0 ro : Nat} {Q : Option Value → List OwnC → Prop} {k n pc pc' : Nat} {L L' : List Slot} {S S' : List Value} {H H' : List OwnC}
theorem WP.putI {idx i j kk : Nat} {f : String} {vs : List Value} {x : Int32} {old : Value} (hd : decode bytes pc = .ok (.putfield idx, 3)) (hw : (Cond.fieldLink own idx C f "I").before a0 Z = true) (hl : (Cond.lays C C f "I").before a0 Z = true ∨ ((Cond.laysFinal C C f "I").before a0 Z = true ∧ own = C ∧ mn = "<init>")) (wi : (Cond.instantiable C kk).before a0 Z = true)
    (hlay : ∀ (a b : Nat) (f g : String × String), lay[a]? = some f → lay[b]? = some g → a ≠ b → RoadKit.slotOf Z C f.1 f.2 ≠ RoadKit.slotOf Z C g.1 g.2) (hj : lay[j]? = some (f, "I")) (hH : H[i]? = some (.inl vs)) (hv : vs[j]? = some old) (hi : ro ≤ i) (hH' : H.set i (.inl (vs.set j (.int x))) = H') (nx : WP l Z C lay own mn bytes maxL ret R n0 ro Q k n (pc + 3) L S H') : WP l Z C lay own mn bytes maxL ret R n0 ro Q k n pc L (.int x :: .ref i :: S) H :=
  WP.put hd hw hl wi hlay (ty := .int) (by decide) (fun _ => rfl) (fun _ => rfl) hj hH hv hi hH' nx
theorem WP.putJ {idx i j kk : Nat} {f : String} {vs : List Value} {x : Int64} {old : Value} (hd : decode bytes pc = .ok (.putfield idx, 3)) (hw : (Cond.fieldLink own idx C f "J").before a0 Z = true) (hl : (Cond.lays C C f "J").before a0 Z = true ∨ ((Cond.laysFinal C C f "J").before a0 Z = true ∧ own = C ∧ mn = "<init>")) (wi : (Cond.instantiable C kk).before a0 Z = true)
    (hlay : ∀ (a b : Nat) (f g : String × String), lay[a]? = some f → lay[b]? = some g → a ≠ b → RoadKit.slotOf Z C f.1 f.2 ≠ RoadKit.slotOf Z C g.1 g.2) (hj : lay[j]? = some (f, "J")) (hH : H[i]? = some (.inl vs)) (hv : vs[j]? = some old) (hi : ro ≤ i) (hH' : H.set i (.inl (vs.set j (.long x))) = H') (nx : WP l Z C lay own mn bytes maxL ret R n0 ro Q k n (pc + 3) L S H') : WP l Z C lay own mn bytes maxL ret R n0 ro Q k n pc L (.long x :: .ref i :: S) H :=
  WP.put hd hw hl wi hlay (ty := .long) (by decide) (fun _ => rfl) (fun _ => rfl) hj hH hv hi hH' nx
theorem WP.putZ {idx i j kk : Nat} {f : String} {vs : List Value} {x : Int32} {old : Value} (hd : decode bytes pc = .ok (.putfield idx, 3)) (hw : (Cond.fieldLink own idx C f "Z").before a0 Z = true) (hl : (Cond.lays C C f "Z").before a0 Z = true ∨ ((Cond.laysFinal C C f "Z").before a0 Z = true ∧ own = C ∧ mn = "<init>")) (wi : (Cond.instantiable C kk).before a0 Z = true)
    (hlay : ∀ (a b : Nat) (f g : String × String), lay[a]? = some f → lay[b]? = some g → a ≠ b → RoadKit.slotOf Z C f.1 f.2 ≠ RoadKit.slotOf Z C g.1 g.2) (hj : lay[j]? = some (f, "Z")) (hH : H[i]? = some (.inl vs)) (hv : vs[j]? = some old) (hi : ro ≤ i) (hH' : H.set i (.inl (vs.set j (.int (x &&& 1)))) = H') (nx : WP l Z C lay own mn bytes maxL ret R n0 ro Q k n (pc + 3) L S H') : WP l Z C lay own mn bytes maxL ret R n0 ro Q k n pc L (.int x :: .ref i :: S) H :=
  WP.put (v' := .int (x &&& 1)) hd hw hl wi hlay (ty := .boolean) (by decide) (fun _ => rfl) (fun _ => fits_nar_bool x) hj hH hv hi hH' nx
theorem WP.putR {idx i j kk i2 : Nat} {f d : String} {vs : List Value} {old : Value} {ty : FieldType} (hd : decode bytes pc = .ok (.putfield idx, 3)) (hw : (Cond.fieldLink own idx C f d).before a0 Z = true) (hl : (Cond.lays C C f d).before a0 Z = true ∨ ((Cond.laysFinal C C f d).before a0 Z = true ∧ own = C ∧ mn = "<init>")) (wi : (Cond.instantiable C kk).before a0 Z = true)
    (hlay : ∀ (a b : Nat) (f g : String × String), lay[a]? = some f → lay[b]? = some g → a ≠ b → RoadKit.slotOf Z C f.1 f.2 ≠ RoadKit.slotOf Z C g.1 g.2) (hty : parseFieldDescriptor d = some ty) (hn : ∀ a, narrow ty (.ref a) = .ref a) (hf : ∀ a, fits ty (.ref a) = true) (hj : lay[j]? = some (f, d)) (hH : H[i]? = some (.inl vs)) (hv : vs[j]? = some old) (hi : ro ≤ i) (hH' : H.set i (.inl (vs.set j (.ref i2))) = H') (nx : WP l Z C lay own mn bytes maxL ret R n0 ro Q k n (pc + 3) L S H') : WP l Z C lay own mn bytes maxL ret R n0 ro Q k n pc L (.ref i2 :: .ref i :: S) H :=
  WP.put (v' := .ref i2) hd hw hl wi hlay hty (fun ad => hn (ad i2)) (fun ad => hf (ad i2)) hj hH hv hi hH' nx
end Puts
/-! ## the start of a law -/
theorem HR.start0 (s : State) (C : String) (lay : List (String × String)) : HR s C lay s.heap.size 0 (fun t => s.heap.size + t) [] s.heap :=
  ⟨fun i c h => by simp at h, fun i j h => by simp at h, fun t => by simp, fun i h => by simp at h, Nat.le_refl _⟩
theorem script_ints {s : State} {a : Addr} {c : Cell} (hf : Fit s) (A : Arr s s.heap a c .int) : ∃ xs : List Int32, c.slots.toList = xs.map Value.int := by
  have h : ∀ v ∈ c.slots.toList, ∃ x : Int32, v = Value.int x := fun v hv => by
    obtain ⟨i, hi, e⟩ := List.mem_iff_getElem.mp hv
    have hi' : i < c.slots.size := by simpa using hi
    have q := hf A.1 hi'
    obtain ⟨hs, k, hk, comp, hkind⟩ := A.2.1
    have e2 : s.slotType? c.cls c.vm i = some .int := by
      cases hq : c.vm <;> first | exact absurd hq (hs _) | simp [State.slotType?, hk, hkind]
    have e3 : c.slots[i] = v := by rw [← e]; simp
    have q2 : fits .int v = true := by rw [← e3]; simpa [State.fitsSlot, e2] using q
    exact fit_I q2 (by simp)
  generalize c.slots.toList = L at h
  induction L with
  | nil => exact ⟨[], rfl⟩
  | cons v L ih =>
    obtain ⟨x, rfl⟩ := h v (List.mem_cons_self ..)
    obtain ⟨xs, rfl⟩ := ih fun w hw => h w (List.mem_cons_of_mem _ hw)
    exact ⟨x :: xs, rfl⟩
def ad1 (a N : Nat) : Nat → Addr
  | 0 => a
  | t + 1 => N + t
theorem HR.start1 {s : State} (C : String) (lay : List (String × String)) {a : Addr} {c : Cell} {xs : List Int32} (A : Arr s s.heap a c .int) (hx : c.slots.toList = xs.map Value.int) : HR s C lay s.heap.size 1 (ad1 a s.heap.size) [cI xs] s.heap := by
  refine ⟨fun i cc h => ?_, fun i j hi hj _ => ?_, fun t => ?_, fun i hi hr => ?_, Nat.le_refl _⟩
  · have hi := get_lt h
    simp at hi; subst hi
    simp at h; subst h
    exact ⟨c, A, hx⟩
  · simp at hi hj; omega
  · show ad1 a s.heap.size (1 + t) = _; rw [Nat.add_comm 1 t]; rfl
  · simp at hi; omega
theorem script_len {s : State} {a : Addr} {c : Cell} {n : Nat} {args : Array Value} {t : Term} (ev : t.eval args s none [] s = some (.ref a)) (A : Arr s s.heap a c .int) (e1 : c.slots.size = n) (h : (Cond.le (Term.length t) (Term.int (260 : Int32))).value args s none s [] = some true) : n ≤ 260 := by
  have hat := A.fin (Vm.Alike.refl _)
  have hl : (Term.length t).eval args s none [] s = if n < 2 ^ 31 then some (.int n.toInt32) else none := by
    simp only [Term.eval, ev, hat, Option.bind_eq_bind, Option.bind_some, e1]; rfl
  by_cases hn : n < 2 ^ 31
  · rw [if_pos hn] at hl
    have h1 := gotT (Cond.le_ints hl (Term.int_eval (260 : Int32))) h
    have h2 : n.toInt32.toInt = n := by
      show (Int32.ofNat n).toInt = n
      exact Int32.toInt_ofNat_of_lt hn
    have h3 := Int32.le_iff_toInt_le.mp h1
    rw [h2] at h3
    have : (260 : Int32).toInt = 260 := by decide
    omega
  · rw [if_neg hn] at hl
    simp [Cond.value, hl] at h
/-! ## plain laws -/
/-- with fuel enough it answers r -/
def Ev {α : Type} (f : Nat → Option α) (r : α) : Prop := ∃ N, ∀ n, N ≤ n → f n = some r
theorem Ev.const {α : Type} {x : Option α} {r : α} (h : x = some r) : Ev (fun _ => x) r := ⟨0, fun _ _ => h⟩
theorem Ev.get {α : Type} {f : Nat → Option α} {r : α} (h : Ev f r) : ∃ n, f n = some r := by obtain ⟨N, h⟩ := h; exact ⟨N, h N (Nat.le_refl _)⟩
theorem Ev.step {α : Type} {f g : Nat → Option α} {r : α} (e : ∀ n, f (n + 1) = g n) (h : Ev g r) : Ev f r := by
  obtain ⟨N, h⟩ := h
  refine ⟨N + 1, fun n hn => ?_⟩
  cases n with
  | zero => omega
  | succ n => rw [e n]; exact h n (by omega)
theorem Ev.congr {α : Type} {f g : Nat → Option α} {r : α} (e : ∀ n, f n = g n) (h : Ev g r) : Ev f r := by
  obtain ⟨N, h⟩ := h
  exact ⟨N, fun n hn => (e n).trans (h n hn)⟩
theorem Ev.bind {α β : Type} {f : Nat → Option β} {g : Nat → β → Option α} {c : β} {r : α} (h1 : Ev f c) (h2 : Ev (fun n => g n c) r) : Ev (fun n => (f n).bind (g n)) r := by
  obtain ⟨N, h1⟩ := h1
  obtain ⟨M, h2⟩ := h2
  refine ⟨N + M, fun n hn => ?_⟩
  show (f n).bind (g n) = some r
  rw [h1 n (by omega)]; exact h2 n (by omega)
theorem Ev.uniq {α : Type} {f : Nat → Option α} {r r' : α} (h : Ev f r) (h' : Ev f r') : r = r' := by
  obtain ⟨N, h⟩ := h
  obtain ⟨M, h'⟩ := h'
  exact Option.some.inj ((h (N + M) (by omega)).symm.trans (h' (N + M) (by omega)))
/-! Int32 as Int -/
theorem x32_lt {x y : Int32} : x < y ↔ x.toInt < y.toInt := Int32.lt_iff_toInt_lt
theorem x32_eq {x y : Int32} : x = y ↔ x.toInt = y.toInt := Int32.toInt_inj.symm
theorem x32_add {x y : Int32} (h1 : -2147483648 ≤ x.toInt + y.toInt) (h2 : x.toInt + y.toInt < 2147483648) : (x + y).toInt = x.toInt + y.toInt := by
  rw [Int32.toInt_add]; exact Int.bmod_eq_of_le (by omega) (by omega)
theorem x32_sub {x y : Int32} (h1 : -2147483648 ≤ x.toInt - y.toInt) (h2 : x.toInt - y.toInt < 2147483648) : (x - y).toInt = x.toInt - y.toInt := by
  rw [Int32.toInt_sub]; exact Int.bmod_eq_of_le (by omega) (by omega)
theorem x32_mul {x y : Int32} (h1 : -2147483648 ≤ x.toInt * y.toInt) (h2 : x.toInt * y.toInt < 2147483648) : (x * y).toInt = x.toInt * y.toInt := by
  rw [Int32.toInt_mul]; exact Int.bmod_eq_of_le (by omega) (by omega)
theorem clamp_nat (x : Int32) : x.toNatClampNeg = x.toInt.toNat := rfl
/-! reading and writing -/
theorem rd_of {α : Type} {xs : List α} {i : Int32} {k : Nat} {x : α} (hi : i.toInt = k) (h : xs[k]? = some x) : rd xs i = some x := by
  have h0 : ¬ i < 0 := by rw [x32_lt, hi]; show ¬ (k : Int) < 0; omega
  unfold rd
  rw [if_neg h0, clamp_nat, hi]; exact h
theorem wr_of {α : Type} {xs : List α} {i : Int32} {k : Nat} (x : α) (hi : i.toInt = k) (h : k < xs.length) : wr xs i x = some (xs.set k x) := by
  have h0 : ¬ i < 0 := by rw [x32_lt, hi]; show ¬ (k : Int) < 0; omega
  unfold wr
  rw [if_neg h0, clamp_nat, hi]; exact if_pos h
theorem wrA_of {s : St} {f : Nat} {i : Int32} {k : Nat} (x : Int32) (hi : i.toInt = k) (h : k < (gA s f).length) : wrA s f i x = some (sA s f ((gA s f).set k x)) := by
  unfold wrA; rw [wr_of x hi h]; rfl
theorem wrB_of {s : St} {f : Nat} {i : Int32} {k : Nat} (x : Int64) (hi : i.toInt = k) (h : k < (gB s f).length) : wrB s f i x = some (sB s f ((gB s f).set k x)) := by
  unfold wrB; rw [wr_of x hi h]; rfl
theorem nn_of {i : Int32} (h : ¬ i < 0) : ∃ k : Nat, i.toInt = k := ⟨i.toInt.toNat, by
  rw [x32_lt] at h
  have : (0 : Int32).toInt = 0 := by decide
  omega⟩
theorem Ev.all {α : Type} {f : Nat → Option α} {r : α} (h : ∀ n, f n = some r) : Ev f r := ⟨0, fun n _ => h n⟩
theorem ofN_int {k : Nat} (h : k < 2147483648) : (Int32.ofNat k).toInt = k := Int32.toInt_ofNat_of_lt (by omega)
theorem ofN_lt {i m : Nat} (hi : i < 2147483648) (hm : m < 2147483648) : Int32.ofNat i < Int32.ofNat m ↔ i < m := by
  rw [x32_lt, ofN_int hi, ofN_int hm]; omega
theorem ofN_succ (k : Nat) : Int32.ofNat k + 1 = Int32.ofNat (k + 1) := (Int32.ofNat_add k 1).symm
theorem ofN_eq {i m : Nat} (hi : i < 2147483648) (hm : m < 2147483648) : Int32.ofNat i = Int32.ofNat m ↔ i = m := by
  rw [x32_eq, ofN_int hi, ofN_int hm]; omega
theorem ofN_of {x : Int32} {k : Nat} (h : x.toInt = k) : x = Int32.ofNat k := by
  have h2 := Int32.toInt_lt x
  rw [x32_eq, ofN_int (by omega)]; exact h
/-- a loop that counts up to N -/
theorem loop_up {α σ : Type} {F : Nat → Int32 → σ → Option α} {E : Nat → σ → Option α} {N : Nat} (Inv : Nat → σ → Prop)
    (hstep : ∀ (i : Nat) (s : σ), i < N → Inv i s → ∃ s', Inv (i + 1) s' ∧ ∀ n, F (n + 1) (Int32.ofNat i) s = F n (Int32.ofNat (i + 1)) s')
    (hend : ∀ s, Inv N s → ∀ n, F (n + 1) (Int32.ofNat N) s = E n s) : ∀ (k i : Nat) (s : σ), i + k = N → Inv i s → ∃ s', Inv N s' ∧ ∀ r, Ev (fun n => E n s') r → Ev (fun n => F n (Int32.ofNat i) s) r := by
  intro k
  induction k with
  | zero =>
    intro i s hi h
    obtain rfl : i = N := by omega
    exact ⟨s, h, fun r hr => Ev.step (hend s h) hr⟩
  | succ k ih =>
    intro i s hi h
    obtain ⟨s', h1, h2⟩ := hstep i s (by omega) h
    obtain ⟨s2, h3, h4⟩ := ih (i + 1) s' (by omega) h1
    exact ⟨s2, h3, fun r hr => Ev.step h2 (h4 r hr)⟩
theorem set_len {α : Type} (xs : List α) (k : Nat) (x : α) : (xs.set k x).length = xs.length := List.length_set
theorem ofN_ltL {i m : Nat} (hi : i < 2147483648) (hm : m < 2147483648) : Int32.ofNat i < (OfNat.ofNat m : Int32) ↔ i < m := ofN_lt hi hm
theorem ofN_gtL {i m : Nat} (hi : i < 2147483648) (hm : m < 2147483648) : (OfNat.ofNat m : Int32) < Int32.ofNat i ↔ m < i := ofN_lt hm hi
theorem ofN_eqL {i m : Nat} (hi : i < 2147483648) (hm : m < 2147483648) : Int32.ofNat i = (OfNat.ofNat m : Int32) ↔ i = m := ofN_eq hi hm
theorem ofN_nn {i : Nat} (hi : i < 2147483648) : ¬ Int32.ofNat i < 0 := fun h => Nat.not_lt_zero _ ((ofN_ltL hi (by decide)).mp h)
theorem lit_int {m : Nat} (hm : m < 2147483648) : (OfNat.ofNat m : Int32).toInt = m := ofN_int hm
theorem upd_upd {α : Type} (f : Nat → α) (i : Nat) (x y : α) : upd (upd f i x) i y = upd f i y := by
  funext j; unfold upd; by_cases h : j = i <;> simp [h]
theorem upd_self {α : Type} (f : Nat → α) (i : Nat) : upd f i (f i) = f := by
  funext j; unfold upd; by_cases h : j = i <;> simp [h]
theorem sA_sA (s : St) (i : Nat) (x y : List Int32) : sA (sA s i x) i y = sA s i y := by unfold sA; dsimp only; rw [upd_upd]
theorem sB_sB (s : St) (i : Nat) (x y : List Int64) : sB (sB s i x) i y = sB s i y := by unfold sB; dsimp only; rw [upd_upd]
theorem sI_sI (s : St) (i : Nat) (x y : Int32) : sI (sI s i x) i y = sI s i y := by unfold sI; dsimp only; rw [upd_upd]
theorem sA_self {s : St} {i : Nat} {x : List Int32} (h : gA s i = x) : sA s i x = s := by
  subst h; unfold sA gA; rw [upd_self]
theorem sB_self {s : St} {i : Nat} {x : List Int64} (h : gB s i = x) : sB s i x = s := by
  subst h; unfold sB gB; rw [upd_self]
theorem sI_self {s : St} {i : Nat} {x : Int32} (h : gI s i = x) : sI s i x = s := by
  subst h; unfold sI gI; rw [upd_self]
theorem fill_set {α : Type} (a b : α) (n i : Nat) (h : i < n) : (List.replicate i a ++ List.replicate (n - i) b).set i a = List.replicate (i + 1) a ++ List.replicate (n - (i + 1)) b := by
  rw [List.set_append_right _ _ (by simp), List.length_replicate, Nat.sub_self]
  obtain ⟨m, hm⟩ : ∃ m, n - i = m + 1 := ⟨n - i - 1, by omega⟩
  have hm2 : n - (i + 1) = m := by omega
  rw [hm, hm2, List.replicate_succ, List.set_cons_zero, List.replicate_succ', List.append_assoc]; rfl
theorem and_nat (x : Int32) (m : Nat) (hm : m < 2147483648) : ∃ k, k ≤ m ∧ (x &&& Int32.ofNat m) = Int32.ofNat k := by
  refine ⟨(x.toBitVec &&& BitVec.ofNat 32 m).toNat, ?_, ?_⟩
  · rw [BitVec.toNat_and, BitVec.toNat_ofNat, Nat.mod_eq_of_lt (by omega)]
    exact Nat.and_le_right
  · apply Int32.toBitVec_inj.mp
    show x.toBitVec &&& BitVec.ofNat 32 m = BitVec.ofNat 32 _
    rw [BitVec.ofNat_toNat, BitVec.setWidth_eq]
theorem and_natL (x : Int32) (m : Nat) (hm : m < 2147483648) : ∃ k, k ≤ m ∧ (x &&& (OfNat.ofNat m : Int32)) = Int32.ofNat k := and_nat x m hm
theorem nat_lt {i : Int32} {m : Nat} (h : ¬ i < 0) (h2 : i < (OfNat.ofNat m : Int32)) (hm : m < 2147483648) : ∃ k : Nat, k < m ∧ i = Int32.ofNat k := by
  obtain ⟨k, hk⟩ := nn_of h
  rw [x32_lt, lit_int hm, hk] at h2
  exact ⟨k, by omega, ofN_of hk⟩
theorem nat_le {i : Int32} {m : Nat} (h : ¬ i < 0) (h2 : ¬ (OfNat.ofNat m : Int32) < i) (hm : m < 2147483648) : ∃ k : Nat, k ≤ m ∧ i = Int32.ofNat k := by
  obtain ⟨k, hk⟩ := nn_of h
  rw [x32_lt, lit_int hm, hk] at h2
  exact ⟨k, by omega, ofN_of hk⟩
theorem rd_at {α : Type} {xs : List α} {k : Nat} {x : α} (hk : k < 2147483648) (h : xs[k]? = some x) : rd xs (Int32.ofNat k) = some x := rd_of (ofN_int hk) h
theorem wr_at' {α : Type} {xs : List α} {k : Nat} (x : α) (hk : k < 2147483648) (h : k < xs.length) : wr xs (Int32.ofNat k) x = some (xs.set k x) := wr_of x (ofN_int hk) h
theorem rep_get {α : Type} {n k : Nat} (a : α) (h : k < n) : (List.replicate n a)[k]? = some a := by rw [List.getElem?_replicate, if_pos h]
theorem get_set_self {α : Type} {xs : List α} {k : Nat} (x : α) (h : k < xs.length) : (xs.set k x)[k]? = some x := by rw [List.getElem?_set_self h]
theorem get_set_ne {α : Type} {xs : List α} {k j : Nat} (x : α) (h : k ≠ j) : (xs.set k x)[j]? = xs[j]? := List.getElem?_set_ne h
theorem upd_comm {α : Type} (f : Nat → α) {i j : Nat} (h : i ≠ j) (x y : α) : upd (upd f i x) j y = upd (upd f j y) i x := by
  funext m; unfold upd
  by_cases h1 : m = j
  · subst h1; rw [if_pos rfl, if_neg (Ne.symm h), if_pos rfl]
  · rw [if_neg h1]; by_cases h2 : m = i
    · rw [if_pos h2, if_pos h2]
    · rw [if_neg h2, if_neg h2, if_neg h1]
theorem sA_comm {s : St} {i j : Nat} (h : i ≠ j) {x y : List Int32} : sA (sA s i x) j y = sA (sA s j y) i x := by unfold sA; dsimp only; rw [upd_comm _ h]
theorem sB_comm {s : St} {i j : Nat} (h : i ≠ j) {x y : List Int64} : sB (sB s i x) j y = sB (sB s j y) i x := by unfold sB; dsimp only; rw [upd_comm _ h]
theorem sI_comm {s : St} {i j : Nat} (h : i ≠ j) {x y : Int32} : sI (sI s i x) j y = sI (sI s j y) i x := by unfold sI; dsimp only; rw [upd_comm _ h]
theorem sJ_self {s : St} {i : Nat} {x : Int64} (h : gJ s i = x) : sJ s i x = s := by
  subst h; unfold sJ gJ; rw [upd_self]
theorem wrA_nop {s : St} {f N k : Nat} {v : Int32} (h : gA s f = List.replicate N v) (hk : k < N) (hN : N ≤ 2147483647) : wrA s f (Int32.ofNat k) v = some s := by
  rw [wrA_of (k := k) v (ofN_int (by omega)) (by rw [h, List.length_replicate]; exact hk), sA_self (by rw [h, List.set_replicate_self])]
theorem wrB_nop {s : St} {f N k : Nat} {v : Int64} (h : gB s f = List.replicate N v) (hk : k < N) (hN : N ≤ 2147483647) : wrB s f (Int32.ofNat k) v = some s := by
  rw [wrB_of (k := k) v (ofN_int (by omega)) (by rw [h, List.length_replicate]; exact hk), sB_self (by rw [h, List.set_replicate_self])]
/-- a loop that fills -/
theorem wrA_fill {s : St} {f N k : Nat} {u v : Int32} (hk : k < N) (hN : N ≤ 2147483647) : wrA (sA s f (List.replicate k v ++ List.replicate (N - k) u)) f (Int32.ofNat k) v = some (sA s f (List.replicate (k + 1) v ++ List.replicate (N - (k + 1)) u)) := by
  rw [wrA_of (k := k) v (ofN_int (by omega)) (by rw [gA_sA, if_pos rfl]; simp; omega), gA_sA, if_pos rfl, fill_set _ _ _ _ hk, sA_sA]
theorem fill_start {s : St} {f N : Nat} {u v : Int32} (h : gA s f = List.replicate N u) : s = sA s f (List.replicate 0 v ++ List.replicate (N - 0) u) := (sA_self (by rw [h]; rfl)).symm
theorem fill_end {s : St} {f N : Nat} {u v : Int32} : sA s f (List.replicate N v ++ List.replicate (N - N) u) = sA s f (List.replicate N v) := by rw [Nat.sub_self]; simp
theorem x32_neg {x : Int32} (h : -2147483648 < x.toInt) : (-x).toInt = -x.toInt := by
  have := Int32.toInt_lt x
  rw [Int32.toInt_neg]; exact Int.bmod_eq_of_le (by omega) (by omega)
theorem x64_neg {x : Int64} (h : -9223372036854775808 < x.toInt) : (-x).toInt = -x.toInt := by
  have := Int64.toInt_lt x
  rw [Int64.toInt_neg]; exact Int.bmod_eq_of_le (by omega) (by omega)
theorem x64_lt {x y : Int64} : x < y ↔ x.toInt < y.toInt := Int64.lt_iff_toInt_lt
theorem x64_eq {x y : Int64} : x = y ↔ x.toInt = y.toInt := Int64.toInt_inj.symm
theorem x64_add {x y : Int64} (h1 : -9223372036854775808 ≤ x.toInt + y.toInt) (h2 : x.toInt + y.toInt < 9223372036854775808) : (x + y).toInt = x.toInt + y.toInt := by
  rw [Int64.toInt_add]; exact Int.bmod_eq_of_le (by omega) (by omega)
theorem x64_sub {x y : Int64} (h1 : -9223372036854775808 ≤ x.toInt - y.toInt) (h2 : x.toInt - y.toInt < 9223372036854775808) : (x - y).toInt = x.toInt - y.toInt := by
  rw [Int64.toInt_sub]; exact Int.bmod_eq_of_le (by omega) (by omega)
theorem x64_mul {x y : Int64} (h1 : -9223372036854775808 ≤ x.toInt * y.toInt) (h2 : x.toInt * y.toInt < 9223372036854775808) : (x * y).toInt = x.toInt * y.toInt := by
  rw [Int64.toInt_mul]; exact Int.bmod_eq_of_le (by omega) (by omega)
end Jvm.Own
namespace Jvm.Pilot.@@N@@
open Jvm Jvm.ClassFile Sem Op Lib Jvm.Free Jvm.Stand Jvm.LawKit Jvm.RoadKit Bundle Jvm.Pilot.@@N@@.Jvm.D Jvm.Own
abbrev HW (a0 : Array Value) (Z : State) : Prop := ∀ d ∈ tables_1, d.before a0 Z = true
abbrev CN : String := "DisplayMap"
def lay : List (String × String) := [("text", "[I"), ("len", "I"), ("foldS", "[I"), ("foldE", "[I"), ("foldN", "I"), ("tabSize", "I"), ("wrapWidth", "I"), ("dirty", "Z"), ("elStart", "[I"), ("elEnd", "[I"), ("elWidth", "[I"), ("elCount", "I"), ("rowS", "[I"), ("rowW", "[I"), ("rowFirst", "[I"), ("rowNum", "[I"), ("rowN", "I"), ("curStart", "I"), ("curWidth", "I"), ("curFirst", "I"), ("curNum", "I"), ("curCol", "I")]
abbrev vs0 : List Value := [.null, .int 0, .null, .null, .int 0, .int 0, .int 0, .int 0, .null, .null, .null, .int 0, .null, .null, .null, .null, .int 0, .int 0, .int 0, .int 0, .int 0, .int 0]
abbrev Hb (b : Nat) (s : St) : List OwnC := [cO [.ref (b + 1), .int (gI s 0), .ref (b + 2), .ref (b + 3), .int (gI s 1), .int (gI s 2), .int (gI s 3), .int (gI s 4), .ref (b + 4), .ref (b + 5), .ref (b + 6), .int (gI s 5), .ref (b + 7), .ref (b + 8), .ref (b + 9), .ref (b + 10), .int (gI s 6), .int (gI s 7), .int (gI s 8), .int (gI s 9), .int (gI s 10), .int (gI s 11)], cI (gA s 0), cI (gA s 1), cI (gA s 2), cI (gA s 3), cI (gA s 4), cI (gA s 5), cI (gA s 6), cI (gA s 7), cI (gA s 8), cI (gA s 9)]
def st0 : St := (fun _ => 0, fun _ => 0, fun i => ([List.replicate 256 0, List.replicate 8 0, List.replicate 8 0, List.replicate 256 0, List.replicate 256 0, List.replicate 256 0, List.replicate 260 0, List.replicate 260 0, List.replicate 260 0, List.replicate 260 0] : List (List Int32)).getD i [], fun i => ([] : List (List Int64)).getD i [])
theorem m_0 : (Jvm.Cond.classLink "DisplayMapL3" (7 : Nat) "DisplayMap") ∈ tables_1 := List.mem_of_getElem? (i := 0) rfl
theorem m_1 : (Jvm.Cond.instantiable "DisplayMap" (22 : Nat)) ∈ tables_1 := List.mem_of_getElem? (i := 1) rfl
theorem m_2 : (Jvm.Cond.initialized "DisplayMap") ∈ tables_1 := List.mem_of_getElem? (i := 2) rfl
theorem m_3 : (Jvm.Cond.methodLink "DisplayMapL3" (9 : Nat) ({ cls := "DisplayMap", name := "<init>", desc := "(II)V" } : Jvm.MethodName)) ∈ tables_1 := List.mem_of_getElem? (i := 3) rfl
theorem m_4 : (Jvm.Cond.instanceMethod ({ cls := "DisplayMap", name := "<init>", desc := "(II)V" } : Jvm.MethodName)) ∈ tables_1 := List.mem_of_getElem? (i := 4) rfl
theorem m_5 : (Jvm.Cond.code ({ cls := "DisplayMap", name := "<init>", desc := "(II)V" } : Jvm.MethodName) prog_1_method_1_code (3 : Nat) (Option.none : Option Jvm.ClassFile.FieldType)) ∈ tables_1 := List.mem_of_getElem? (i := 5) rfl
theorem m_6 : (Jvm.Cond.methodLink "DisplayMap" (1 : Nat) ({ cls := "java/lang/Object", name := "<init>", desc := "()V" } : Jvm.MethodName)) ∈ tables_1 := List.mem_of_getElem? (i := 6) rfl
theorem m_7 : (Jvm.Cond.instanceMethod ({ cls := "java/lang/Object", name := "<init>", desc := "()V" } : Jvm.MethodName)) ∈ tables_1 := List.mem_of_getElem? (i := 7) rfl
theorem m_8 : (Jvm.Cond.code ({ cls := "java/lang/Object", name := "<init>", desc := "()V" } : Jvm.MethodName) object_method_1_code (1 : Nat) (Option.none : Option Jvm.ClassFile.FieldType)) ∈ tables_1 := List.mem_of_getElem? (i := 8) rfl
theorem m_9 : (Jvm.Cond.arrayClass Jvm.ClassFile.FieldType.int) ∈ tables_1 := List.mem_of_getElem? (i := 9) rfl
theorem m_10 : (Jvm.Cond.fieldLink "DisplayMap" (7 : Nat) "DisplayMap" "text" "[I") ∈ tables_1 := List.mem_of_getElem? (i := 10) rfl
theorem m_11 : (Jvm.Cond.laysFinal "DisplayMap" "DisplayMap" "text" "[I") ∈ tables_1 := List.mem_of_getElem? (i := 11) rfl
theorem m_12 : (Jvm.Cond.fieldLink "DisplayMap" (13 : Nat) "DisplayMap" "foldS" "[I") ∈ tables_1 := List.mem_of_getElem? (i := 12) rfl
theorem m_13 : (Jvm.Cond.laysFinal "DisplayMap" "DisplayMap" "foldS" "[I") ∈ tables_1 := List.mem_of_getElem? (i := 13) rfl
theorem m_14 : (Jvm.Cond.fieldLink "DisplayMap" (16 : Nat) "DisplayMap" "foldE" "[I") ∈ tables_1 := List.mem_of_getElem? (i := 14) rfl
theorem m_15 : (Jvm.Cond.laysFinal "DisplayMap" "DisplayMap" "foldE" "[I") ∈ tables_1 := List.mem_of_getElem? (i := 15) rfl
theorem m_16 : (Jvm.Cond.fieldLink "DisplayMap" (19 : Nat) "DisplayMap" "elStart" "[I") ∈ tables_1 := List.mem_of_getElem? (i := 16) rfl
theorem m_17 : (Jvm.Cond.laysFinal "DisplayMap" "DisplayMap" "elStart" "[I") ∈ tables_1 := List.mem_of_getElem? (i := 17) rfl
theorem m_18 : (Jvm.Cond.fieldLink "DisplayMap" (22 : Nat) "DisplayMap" "elEnd" "[I") ∈ tables_1 := List.mem_of_getElem? (i := 18) rfl
theorem m_19 : (Jvm.Cond.laysFinal "DisplayMap" "DisplayMap" "elEnd" "[I") ∈ tables_1 := List.mem_of_getElem? (i := 19) rfl
theorem m_20 : (Jvm.Cond.fieldLink "DisplayMap" (25 : Nat) "DisplayMap" "elWidth" "[I") ∈ tables_1 := List.mem_of_getElem? (i := 20) rfl
theorem m_21 : (Jvm.Cond.laysFinal "DisplayMap" "DisplayMap" "elWidth" "[I") ∈ tables_1 := List.mem_of_getElem? (i := 21) rfl
theorem m_22 : (Jvm.Cond.fieldLink "DisplayMap" (28 : Nat) "DisplayMap" "rowS" "[I") ∈ tables_1 := List.mem_of_getElem? (i := 22) rfl
theorem m_23 : (Jvm.Cond.laysFinal "DisplayMap" "DisplayMap" "rowS" "[I") ∈ tables_1 := List.mem_of_getElem? (i := 23) rfl
theorem m_24 : (Jvm.Cond.fieldLink "DisplayMap" (31 : Nat) "DisplayMap" "rowW" "[I") ∈ tables_1 := List.mem_of_getElem? (i := 24) rfl
theorem m_25 : (Jvm.Cond.laysFinal "DisplayMap" "DisplayMap" "rowW" "[I") ∈ tables_1 := List.mem_of_getElem? (i := 25) rfl
theorem m_26 : (Jvm.Cond.fieldLink "DisplayMap" (34 : Nat) "DisplayMap" "rowFirst" "[I") ∈ tables_1 := List.mem_of_getElem? (i := 26) rfl
theorem m_27 : (Jvm.Cond.laysFinal "DisplayMap" "DisplayMap" "rowFirst" "[I") ∈ tables_1 := List.mem_of_getElem? (i := 27) rfl
theorem m_28 : (Jvm.Cond.fieldLink "DisplayMap" (37 : Nat) "DisplayMap" "rowNum" "[I") ∈ tables_1 := List.mem_of_getElem? (i := 28) rfl
theorem m_29 : (Jvm.Cond.laysFinal "DisplayMap" "DisplayMap" "rowNum" "[I") ∈ tables_1 := List.mem_of_getElem? (i := 29) rfl
theorem m_30 : (Jvm.Cond.methodLink "DisplayMap" (40 : Nat) ({ cls := "DisplayMap", name := "clampTab", desc := "(I)I" } : Jvm.MethodName)) ∈ tables_1 := List.mem_of_getElem? (i := 30) rfl
theorem m_31 : (Jvm.Cond.static ({ cls := "DisplayMap", name := "clampTab", desc := "(I)I" } : Jvm.MethodName)) ∈ tables_1 := List.mem_of_getElem? (i := 31) rfl
theorem m_32 : (Jvm.Cond.code ({ cls := "DisplayMap", name := "clampTab", desc := "(I)I" } : Jvm.MethodName) prog_1_method_18_code (1 : Nat) (Option.some Jvm.ClassFile.FieldType.int)) ∈ tables_1 := List.mem_of_getElem? (i := 32) rfl
theorem m_33 : (Jvm.Cond.fieldLink "DisplayMap" (44 : Nat) "DisplayMap" "tabSize" "I") ∈ tables_1 := List.mem_of_getElem? (i := 33) rfl
theorem m_34 : (Jvm.Cond.lays "DisplayMap" "DisplayMap" "tabSize" "I") ∈ tables_1 := List.mem_of_getElem? (i := 34) rfl
theorem m_35 : (Jvm.Cond.methodLink "DisplayMap" (48 : Nat) ({ cls := "DisplayMap", name := "clampWrap", desc := "(I)I" } : Jvm.MethodName)) ∈ tables_1 := List.mem_of_getElem? (i := 35) rfl
theorem m_36 : (Jvm.Cond.static ({ cls := "DisplayMap", name := "clampWrap", desc := "(I)I" } : Jvm.MethodName)) ∈ tables_1 := List.mem_of_getElem? (i := 36) rfl
theorem m_37 : (Jvm.Cond.code ({ cls := "DisplayMap", name := "clampWrap", desc := "(I)I" } : Jvm.MethodName) prog_1_method_19_code (1 : Nat) (Option.some Jvm.ClassFile.FieldType.int)) ∈ tables_1 := List.mem_of_getElem? (i := 37) rfl
theorem m_38 : (Jvm.Cond.fieldLink "DisplayMap" (51 : Nat) "DisplayMap" "wrapWidth" "I") ∈ tables_1 := List.mem_of_getElem? (i := 38) rfl
theorem m_39 : (Jvm.Cond.lays "DisplayMap" "DisplayMap" "wrapWidth" "I") ∈ tables_1 := List.mem_of_getElem? (i := 39) rfl
theorem m_40 : (Jvm.Cond.fieldLink "DisplayMap" (54 : Nat) "DisplayMap" "len" "I") ∈ tables_1 := List.mem_of_getElem? (i := 40) rfl
theorem m_41 : (Jvm.Cond.lays "DisplayMap" "DisplayMap" "len" "I") ∈ tables_1 := List.mem_of_getElem? (i := 41) rfl
theorem m_42 : (Jvm.Cond.fieldLink "DisplayMap" (57 : Nat) "DisplayMap" "foldN" "I") ∈ tables_1 := List.mem_of_getElem? (i := 42) rfl
theorem m_43 : (Jvm.Cond.lays "DisplayMap" "DisplayMap" "foldN" "I") ∈ tables_1 := List.mem_of_getElem? (i := 43) rfl
theorem m_44 : (Jvm.Cond.fieldLink "DisplayMap" (60 : Nat) "DisplayMap" "dirty" "Z") ∈ tables_1 := List.mem_of_getElem? (i := 44) rfl
theorem m_45 : (Jvm.Cond.lays "DisplayMap" "DisplayMap" "dirty" "Z") ∈ tables_1 := List.mem_of_getElem? (i := 45) rfl
theorem m_46 : (Jvm.Cond.methodLink "DisplayMapL3" (12 : Nat) ({ cls := "DisplayMap", name := "insert", desc := "(II)Z" } : Jvm.MethodName)) ∈ tables_1 := List.mem_of_getElem? (i := 46) rfl
theorem m_47 : (Jvm.Cond.declares ({ cls := "DisplayMap", name := "insert", desc := "(II)Z" } : Jvm.MethodName)) ∈ tables_1 := List.mem_of_getElem? (i := 47) rfl
theorem m_48 : (Jvm.Cond.instanceMethod ({ cls := "DisplayMap", name := "insert", desc := "(II)Z" } : Jvm.MethodName)) ∈ tables_1 := List.mem_of_getElem? (i := 48) rfl
theorem m_49 : (Jvm.Cond.selects "DisplayMap" ({ cls := "DisplayMap", name := "insert", desc := "(II)Z" } : Jvm.MethodName) ({ cls := "DisplayMap", name := "insert", desc := "(II)Z" } : Jvm.MethodName)) ∈ tables_1 := List.mem_of_getElem? (i := 49) rfl
theorem m_50 : (Jvm.Cond.code ({ cls := "DisplayMap", name := "insert", desc := "(II)Z" } : Jvm.MethodName) prog_1_method_2_code (4 : Nat) (Option.some Jvm.ClassFile.FieldType.boolean)) ∈ tables_1 := List.mem_of_getElem? (i := 50) rfl
theorem m_51 : (Jvm.Cond.methodLink "DisplayMap" (64 : Nat) ({ cls := "DisplayMap", name := "validChar", desc := "(I)Z" } : Jvm.MethodName)) ∈ tables_1 := List.mem_of_getElem? (i := 51) rfl
theorem m_52 : (Jvm.Cond.static ({ cls := "DisplayMap", name := "validChar", desc := "(I)Z" } : Jvm.MethodName)) ∈ tables_1 := List.mem_of_getElem? (i := 52) rfl
theorem m_53 : (Jvm.Cond.code ({ cls := "DisplayMap", name := "validChar", desc := "(I)Z" } : Jvm.MethodName) prog_1_method_20_code (1 : Nat) (Option.some Jvm.ClassFile.FieldType.boolean)) ∈ tables_1 := List.mem_of_getElem? (i := 53) rfl
theorem m_54 : (Jvm.Cond.methodLink "DisplayMapL3" (16 : Nat) ({ cls := "DisplayMap", name := "length", desc := "()I" } : Jvm.MethodName)) ∈ tables_1 := List.mem_of_getElem? (i := 54) rfl
theorem m_55 : (Jvm.Cond.declares ({ cls := "DisplayMap", name := "length", desc := "()I" } : Jvm.MethodName)) ∈ tables_1 := List.mem_of_getElem? (i := 55) rfl
theorem m_56 : (Jvm.Cond.instanceMethod ({ cls := "DisplayMap", name := "length", desc := "()I" } : Jvm.MethodName)) ∈ tables_1 := List.mem_of_getElem? (i := 56) rfl
theorem m_57 : (Jvm.Cond.selects "DisplayMap" ({ cls := "DisplayMap", name := "length", desc := "()I" } : Jvm.MethodName) ({ cls := "DisplayMap", name := "length", desc := "()I" } : Jvm.MethodName)) ∈ tables_1 := List.mem_of_getElem? (i := 57) rfl
theorem m_58 : (Jvm.Cond.code ({ cls := "DisplayMap", name := "length", desc := "()I" } : Jvm.MethodName) prog_1_method_8_code (1 : Nat) (Option.some Jvm.ClassFile.FieldType.int)) ∈ tables_1 := List.mem_of_getElem? (i := 58) rfl
theorem m_59 : (Jvm.Cond.methodLink "DisplayMapL3" (20 : Nat) ({ cls := "DisplayMap", name := "rowCount", desc := "()I" } : Jvm.MethodName)) ∈ tables_1 := List.mem_of_getElem? (i := 59) rfl
theorem m_60 : (Jvm.Cond.declares ({ cls := "DisplayMap", name := "rowCount", desc := "()I" } : Jvm.MethodName)) ∈ tables_1 := List.mem_of_getElem? (i := 60) rfl
theorem m_61 : (Jvm.Cond.instanceMethod ({ cls := "DisplayMap", name := "rowCount", desc := "()I" } : Jvm.MethodName)) ∈ tables_1 := List.mem_of_getElem? (i := 61) rfl
theorem m_62 : (Jvm.Cond.selects "DisplayMap" ({ cls := "DisplayMap", name := "rowCount", desc := "()I" } : Jvm.MethodName) ({ cls := "DisplayMap", name := "rowCount", desc := "()I" } : Jvm.MethodName)) ∈ tables_1 := List.mem_of_getElem? (i := 62) rfl
theorem m_63 : (Jvm.Cond.code ({ cls := "DisplayMap", name := "rowCount", desc := "()I" } : Jvm.MethodName) prog_1_method_13_code (1 : Nat) (Option.some Jvm.ClassFile.FieldType.int)) ∈ tables_1 := List.mem_of_getElem? (i := 63) rfl
theorem m_64 : (Jvm.Cond.methodLink "DisplayMap" (72 : Nat) ({ cls := "DisplayMap", name := "ensureLayout", desc := "()V" } : Jvm.MethodName)) ∈ tables_1 := List.mem_of_getElem? (i := 64) rfl
theorem m_65 : (Jvm.Cond.instanceMethod ({ cls := "DisplayMap", name := "ensureLayout", desc := "()V" } : Jvm.MethodName)) ∈ tables_1 := List.mem_of_getElem? (i := 65) rfl
theorem m_66 : (Jvm.Cond.privateMethod ({ cls := "DisplayMap", name := "ensureLayout", desc := "()V" } : Jvm.MethodName)) ∈ tables_1 := List.mem_of_getElem? (i := 66) rfl
theorem m_67 : (Jvm.Cond.code ({ cls := "DisplayMap", name := "ensureLayout", desc := "()V" } : Jvm.MethodName) prog_1_method_25_code (1 : Nat) (Option.none : Option Jvm.ClassFile.FieldType)) ∈ tables_1 := List.mem_of_getElem? (i := 67) rfl
theorem m_68 : (Jvm.Cond.methodLink "DisplayMap" (85 : Nat) ({ cls := "DisplayMap", name := "layout", desc := "()V" } : Jvm.MethodName)) ∈ tables_1 := List.mem_of_getElem? (i := 68) rfl
theorem m_69 : (Jvm.Cond.instanceMethod ({ cls := "DisplayMap", name := "layout", desc := "()V" } : Jvm.MethodName)) ∈ tables_1 := List.mem_of_getElem? (i := 69) rfl
theorem m_70 : (Jvm.Cond.privateMethod ({ cls := "DisplayMap", name := "layout", desc := "()V" } : Jvm.MethodName)) ∈ tables_1 := List.mem_of_getElem? (i := 70) rfl
theorem m_71 : (Jvm.Cond.code ({ cls := "DisplayMap", name := "layout", desc := "()V" } : Jvm.MethodName) prog_1_method_26_code (5 : Nat) (Option.none : Option Jvm.ClassFile.FieldType)) ∈ tables_1 := List.mem_of_getElem? (i := 71) rfl
theorem m_72 : (Jvm.Cond.fieldLink "DisplayMap" (88 : Nat) "DisplayMap" "elCount" "I") ∈ tables_1 := List.mem_of_getElem? (i := 72) rfl
theorem m_73 : (Jvm.Cond.lays "DisplayMap" "DisplayMap" "elCount" "I") ∈ tables_1 := List.mem_of_getElem? (i := 73) rfl
theorem m_74 : (Jvm.Cond.fieldLink "DisplayMap" (75 : Nat) "DisplayMap" "rowN" "I") ∈ tables_1 := List.mem_of_getElem? (i := 74) rfl
theorem m_75 : (Jvm.Cond.lays "DisplayMap" "DisplayMap" "rowN" "I") ∈ tables_1 := List.mem_of_getElem? (i := 75) rfl
theorem m_76 : (Jvm.Cond.methodLink "DisplayMap" (91 : Nat) ({ cls := "DisplayMap", name := "openRow", desc := "(I)V" } : Jvm.MethodName)) ∈ tables_1 := List.mem_of_getElem? (i := 76) rfl
theorem m_77 : (Jvm.Cond.instanceMethod ({ cls := "DisplayMap", name := "openRow", desc := "(I)V" } : Jvm.MethodName)) ∈ tables_1 := List.mem_of_getElem? (i := 77) rfl
theorem m_78 : (Jvm.Cond.privateMethod ({ cls := "DisplayMap", name := "openRow", desc := "(I)V" } : Jvm.MethodName)) ∈ tables_1 := List.mem_of_getElem? (i := 78) rfl
theorem m_79 : (Jvm.Cond.code ({ cls := "DisplayMap", name := "openRow", desc := "(I)V" } : Jvm.MethodName) prog_1_method_27_code (2 : Nat) (Option.none : Option Jvm.ClassFile.FieldType)) ∈ tables_1 := List.mem_of_getElem? (i := 79) rfl
theorem m_80 : (Jvm.Cond.fieldLink "DisplayMap" (108 : Nat) "DisplayMap" "curStart" "I") ∈ tables_1 := List.mem_of_getElem? (i := 80) rfl
theorem m_81 : (Jvm.Cond.lays "DisplayMap" "DisplayMap" "curStart" "I") ∈ tables_1 := List.mem_of_getElem? (i := 81) rfl
theorem m_82 : (Jvm.Cond.fieldLink "DisplayMap" (111 : Nat) "DisplayMap" "curWidth" "I") ∈ tables_1 := List.mem_of_getElem? (i := 82) rfl
theorem m_83 : (Jvm.Cond.lays "DisplayMap" "DisplayMap" "curWidth" "I") ∈ tables_1 := List.mem_of_getElem? (i := 83) rfl
theorem m_84 : (Jvm.Cond.fieldLink "DisplayMap" (114 : Nat) "DisplayMap" "curFirst" "I") ∈ tables_1 := List.mem_of_getElem? (i := 84) rfl
theorem m_85 : (Jvm.Cond.lays "DisplayMap" "DisplayMap" "curFirst" "I") ∈ tables_1 := List.mem_of_getElem? (i := 85) rfl
theorem m_86 : (Jvm.Cond.fieldLink "DisplayMap" (117 : Nat) "DisplayMap" "curNum" "I") ∈ tables_1 := List.mem_of_getElem? (i := 86) rfl
theorem m_87 : (Jvm.Cond.lays "DisplayMap" "DisplayMap" "curNum" "I") ∈ tables_1 := List.mem_of_getElem? (i := 87) rfl
theorem m_88 : (Jvm.Cond.fieldLink "DisplayMap" (95 : Nat) "DisplayMap" "curCol" "I") ∈ tables_1 := List.mem_of_getElem? (i := 88) rfl
theorem m_89 : (Jvm.Cond.lays "DisplayMap" "DisplayMap" "curCol" "I") ∈ tables_1 := List.mem_of_getElem? (i := 89) rfl
theorem m_90 : (Jvm.Cond.methodLink "DisplayMap" (98 : Nat) ({ cls := "DisplayMap", name := "foldStartingAt", desc := "(I)I" } : Jvm.MethodName)) ∈ tables_1 := List.mem_of_getElem? (i := 90) rfl
theorem m_91 : (Jvm.Cond.instanceMethod ({ cls := "DisplayMap", name := "foldStartingAt", desc := "(I)I" } : Jvm.MethodName)) ∈ tables_1 := List.mem_of_getElem? (i := 91) rfl
theorem m_92 : (Jvm.Cond.privateMethod ({ cls := "DisplayMap", name := "foldStartingAt", desc := "(I)I" } : Jvm.MethodName)) ∈ tables_1 := List.mem_of_getElem? (i := 92) rfl
theorem m_93 : (Jvm.Cond.code ({ cls := "DisplayMap", name := "foldStartingAt", desc := "(I)I" } : Jvm.MethodName) prog_1_method_23_code (3 : Nat) (Option.some Jvm.ClassFile.FieldType.int)) ∈ tables_1 := List.mem_of_getElem? (i := 93) rfl
theorem m_94 : (Jvm.Cond.methodLink "DisplayMap" (101 : Nat) ({ cls := "DisplayMap", name := "addElement", desc := "(III)V" } : Jvm.MethodName)) ∈ tables_1 := List.mem_of_getElem? (i := 94) rfl
theorem m_95 : (Jvm.Cond.instanceMethod ({ cls := "DisplayMap", name := "addElement", desc := "(III)V" } : Jvm.MethodName)) ∈ tables_1 := List.mem_of_getElem? (i := 95) rfl
theorem m_96 : (Jvm.Cond.privateMethod ({ cls := "DisplayMap", name := "addElement", desc := "(III)V" } : Jvm.MethodName)) ∈ tables_1 := List.mem_of_getElem? (i := 96) rfl
theorem m_97 : (Jvm.Cond.code ({ cls := "DisplayMap", name := "addElement", desc := "(III)V" } : Jvm.MethodName) prog_1_method_29_code (4 : Nat) (Option.none : Option Jvm.ClassFile.FieldType)) ∈ tables_1 := List.mem_of_getElem? (i := 97) rfl
theorem m_98 : (Jvm.Cond.methodLink "DisplayMap" (105 : Nat) ({ cls := "DisplayMap", name := "closeRow", desc := "()V" } : Jvm.MethodName)) ∈ tables_1 := List.mem_of_getElem? (i := 98) rfl
theorem m_99 : (Jvm.Cond.instanceMethod ({ cls := "DisplayMap", name := "closeRow", desc := "()V" } : Jvm.MethodName)) ∈ tables_1 := List.mem_of_getElem? (i := 99) rfl
theorem m_100 : (Jvm.Cond.privateMethod ({ cls := "DisplayMap", name := "closeRow", desc := "()V" } : Jvm.MethodName)) ∈ tables_1 := List.mem_of_getElem? (i := 100) rfl
theorem m_101 : (Jvm.Cond.code ({ cls := "DisplayMap", name := "closeRow", desc := "()V" } : Jvm.MethodName) prog_1_method_28_code (1 : Nat) (Option.none : Option Jvm.ClassFile.FieldType)) ∈ tables_1 := List.mem_of_getElem? (i := 101) rfl
theorem m_102 : (Jvm.Cond.methodLink "DisplayMapL3" (23 : Nat) ({ cls := "DisplayMap", name := "rowStart", desc := "(I)I" } : Jvm.MethodName)) ∈ tables_1 := List.mem_of_getElem? (i := 102) rfl
theorem m_103 : (Jvm.Cond.declares ({ cls := "DisplayMap", name := "rowStart", desc := "(I)I" } : Jvm.MethodName)) ∈ tables_1 := List.mem_of_getElem? (i := 103) rfl
theorem m_104 : (Jvm.Cond.instanceMethod ({ cls := "DisplayMap", name := "rowStart", desc := "(I)I" } : Jvm.MethodName)) ∈ tables_1 := List.mem_of_getElem? (i := 104) rfl
theorem m_105 : (Jvm.Cond.selects "DisplayMap" ({ cls := "DisplayMap", name := "rowStart", desc := "(I)I" } : Jvm.MethodName) ({ cls := "DisplayMap", name := "rowStart", desc := "(I)I" } : Jvm.MethodName)) ∈ tables_1 := List.mem_of_getElem? (i := 105) rfl
theorem m_106 : (Jvm.Cond.code ({ cls := "DisplayMap", name := "rowStart", desc := "(I)I" } : Jvm.MethodName) prog_1_method_14_code (2 : Nat) (Option.some Jvm.ClassFile.FieldType.int)) ∈ tables_1 := List.mem_of_getElem? (i := 106) rfl
theorem m_107 : (Jvm.Cond.methodLink "DisplayMapL3" (27 : Nat) ({ cls := "DisplayMap", name := "rowWidth", desc := "(I)I" } : Jvm.MethodName)) ∈ tables_1 := List.mem_of_getElem? (i := 107) rfl
theorem m_108 : (Jvm.Cond.declares ({ cls := "DisplayMap", name := "rowWidth", desc := "(I)I" } : Jvm.MethodName)) ∈ tables_1 := List.mem_of_getElem? (i := 108) rfl
theorem m_109 : (Jvm.Cond.instanceMethod ({ cls := "DisplayMap", name := "rowWidth", desc := "(I)I" } : Jvm.MethodName)) ∈ tables_1 := List.mem_of_getElem? (i := 109) rfl
theorem m_110 : (Jvm.Cond.selects "DisplayMap" ({ cls := "DisplayMap", name := "rowWidth", desc := "(I)I" } : Jvm.MethodName) ({ cls := "DisplayMap", name := "rowWidth", desc := "(I)I" } : Jvm.MethodName)) ∈ tables_1 := List.mem_of_getElem? (i := 110) rfl
theorem m_111 : (Jvm.Cond.code ({ cls := "DisplayMap", name := "rowWidth", desc := "(I)I" } : Jvm.MethodName) prog_1_method_15_code (2 : Nat) (Option.some Jvm.ClassFile.FieldType.int)) ∈ tables_1 := List.mem_of_getElem? (i := 111) rfl
theorem m_112 : (Jvm.Cond.methodLink "DisplayMapL3" (30 : Nat) ({ cls := "DisplayMap", name := "toDisplay", desc := "(II)I" } : Jvm.MethodName)) ∈ tables_1 := List.mem_of_getElem? (i := 112) rfl
theorem m_113 : (Jvm.Cond.declares ({ cls := "DisplayMap", name := "toDisplay", desc := "(II)I" } : Jvm.MethodName)) ∈ tables_1 := List.mem_of_getElem? (i := 113) rfl
theorem m_114 : (Jvm.Cond.instanceMethod ({ cls := "DisplayMap", name := "toDisplay", desc := "(II)I" } : Jvm.MethodName)) ∈ tables_1 := List.mem_of_getElem? (i := 114) rfl
theorem m_115 : (Jvm.Cond.selects "DisplayMap" ({ cls := "DisplayMap", name := "toDisplay", desc := "(II)I" } : Jvm.MethodName) ({ cls := "DisplayMap", name := "toDisplay", desc := "(II)I" } : Jvm.MethodName)) ∈ tables_1 := List.mem_of_getElem? (i := 115) rfl
theorem m_116 : (Jvm.Cond.code ({ cls := "DisplayMap", name := "toDisplay", desc := "(II)I" } : Jvm.MethodName) prog_1_method_16_code (9 : Nat) (Option.some Jvm.ClassFile.FieldType.int)) ∈ tables_1 := List.mem_of_getElem? (i := 116) rfl
theorem m_117 : (Jvm.Cond.methodLink "DisplayMap" (78 : Nat) ({ cls := "DisplayMap", name := "snapOutOfFold", desc := "(II)I" } : Jvm.MethodName)) ∈ tables_1 := List.mem_of_getElem? (i := 117) rfl
theorem m_118 : (Jvm.Cond.instanceMethod ({ cls := "DisplayMap", name := "snapOutOfFold", desc := "(II)I" } : Jvm.MethodName)) ∈ tables_1 := List.mem_of_getElem? (i := 118) rfl
theorem m_119 : (Jvm.Cond.privateMethod ({ cls := "DisplayMap", name := "snapOutOfFold", desc := "(II)I" } : Jvm.MethodName)) ∈ tables_1 := List.mem_of_getElem? (i := 119) rfl
theorem m_120 : (Jvm.Cond.code ({ cls := "DisplayMap", name := "snapOutOfFold", desc := "(II)I" } : Jvm.MethodName) prog_1_method_22_code (4 : Nat) (Option.some Jvm.ClassFile.FieldType.int)) ∈ tables_1 := List.mem_of_getElem? (i := 120) rfl
theorem m_121 : (Jvm.Cond.methodLink "DisplayMapL3" (34 : Nat) ({ cls := "DisplayMap", name := "fromDisplay", desc := "(III)I" } : Jvm.MethodName)) ∈ tables_1 := List.mem_of_getElem? (i := 121) rfl
theorem m_122 : (Jvm.Cond.declares ({ cls := "DisplayMap", name := "fromDisplay", desc := "(III)I" } : Jvm.MethodName)) ∈ tables_1 := List.mem_of_getElem? (i := 122) rfl
theorem m_123 : (Jvm.Cond.instanceMethod ({ cls := "DisplayMap", name := "fromDisplay", desc := "(III)I" } : Jvm.MethodName)) ∈ tables_1 := List.mem_of_getElem? (i := 123) rfl
theorem m_124 : (Jvm.Cond.selects "DisplayMap" ({ cls := "DisplayMap", name := "fromDisplay", desc := "(III)I" } : Jvm.MethodName) ({ cls := "DisplayMap", name := "fromDisplay", desc := "(III)I" } : Jvm.MethodName)) ∈ tables_1 := List.mem_of_getElem? (i := 124) rfl
theorem m_125 : (Jvm.Cond.code ({ cls := "DisplayMap", name := "fromDisplay", desc := "(III)I" } : Jvm.MethodName) prog_1_method_17_code (9 : Nat) (Option.some Jvm.ClassFile.FieldType.int)) ∈ tables_1 := List.mem_of_getElem? (i := 125) rfl
theorem laid0 {Z : State} {a0 : Array Value} (hw : HW a0 Z) : LaidAll Z a0 CN lay vs0 :=
  ⟨⟨Or.inr (hw _ m_11), .array .int, by decide, rfl⟩, ⟨Or.inl (hw _ m_41), .int, by decide, rfl⟩, ⟨Or.inr (hw _ m_13), .array .int, by decide, rfl⟩, ⟨Or.inr (hw _ m_15), .array .int, by decide, rfl⟩, ⟨Or.inl (hw _ m_43), .int, by decide, rfl⟩, ⟨Or.inl (hw _ m_34), .int, by decide, rfl⟩, ⟨Or.inl (hw _ m_39), .int, by decide, rfl⟩, ⟨Or.inl (hw _ m_45), .boolean, by decide, rfl⟩, ⟨Or.inr (hw _ m_17), .array .int, by decide, rfl⟩, ⟨Or.inr (hw _ m_19), .array .int, by decide, rfl⟩, ⟨Or.inr (hw _ m_21), .array .int, by decide, rfl⟩, ⟨Or.inl (hw _ m_73), .int, by decide, rfl⟩, ⟨Or.inr (hw _ m_23), .array .int, by decide, rfl⟩, ⟨Or.inr (hw _ m_25), .array .int, by decide, rfl⟩, ⟨Or.inr (hw _ m_27), .array .int, by decide, rfl⟩, ⟨Or.inr (hw _ m_29), .array .int, by decide, rfl⟩, ⟨Or.inl (hw _ m_75), .int, by decide, rfl⟩, ⟨Or.inl (hw _ m_81), .int, by decide, rfl⟩, ⟨Or.inl (hw _ m_83), .int, by decide, rfl⟩, ⟨Or.inl (hw _ m_85), .int, by decide, rfl⟩, ⟨Or.inl (hw _ m_87), .int, by decide, rfl⟩, ⟨Or.inl (hw _ m_89), .int, by decide, rfl⟩, trivial⟩
theorem hlay {Z : State} {a0 : Array Value} (hw : HW a0 Z) : ∀ (a b : Nat) (f g : String × String), lay[a]? = some f → lay[b]? = some g → a ≠ b → RoadKit.slotOf Z CN f.1 f.2 ≠ RoadKit.slotOf Z CN g.1 g.2 := (laid0 hw).ne (by decide)
theorem vs0_ok {Z : State} {a0 : Array Value} (hw : HW a0 Z) : ∀ (i : Nat) (f : String × String) (v : Value), lay[i]? = some f → vs0[i]? = some v → Laid Z a0 CN CN f.1 f.2 ∧ ∃ ty, parseFieldDescriptor f.2 = some ty ∧ v = defaultValue ty := (laid0 hw).new
theorem pn_cls : plainName CN = true := by first | (simp [plainName, overriddenIn]; done) | decide +kernel
theorem pn_law : plainName "DisplayMapL3" = true := by first | (simp [plainName, overriddenIn]; done) | decide +kernel
theorem d1_0 : dc prog_1_method_18_code 0 (.iload_n 0) 1 := by decide +kernel
theorem d1_1 : dc prog_1_method_18_code 1 (.iconst 1) 1 := by decide +kernel
theorem d1_2 : dc prog_1_method_18_code 2 (.if_icmp .ge 5) 3 := by decide +kernel
theorem d1_5 : dc prog_1_method_18_code 5 (.iconst 1) 1 := by decide +kernel
theorem d1_6 : dc prog_1_method_18_code 6 (.ireturn) 1 := by decide +kernel
theorem d1_7 : dc prog_1_method_18_code 7 (.iload_n 0) 1 := by decide +kernel
theorem d1_8 : dc prog_1_method_18_code 8 (.bipush 8) 2 := by decide +kernel
theorem d1_10 : dc prog_1_method_18_code 10 (.if_icmp .le 6) 3 := by decide +kernel
theorem d1_13 : dc prog_1_method_18_code 13 (.bipush 8) 2 := by decide +kernel
theorem d1_15 : dc prog_1_method_18_code 15 (.ireturn) 1 := by decide +kernel
theorem d1_16 : dc prog_1_method_18_code 16 (.iload_n 0) 1 := by decide +kernel
theorem d1_17 : dc prog_1_method_18_code 17 (.ireturn) 1 := by decide +kernel
abbrev y1 : MethodName := ⟨"DisplayMap", "clampTab", "(I)I"⟩
theorem hy1 : y1.cls ≠ "java/lang/invoke/MethodHandle" ∧ y1.cls ≠ "java/lang/invoke/VarHandle" := by decide
theorem pd1 : parseMethodDescriptor y1.desc = some ⟨[.int], some .int⟩ := by decide +kernel
abbrev R1 : Room := { frames := 0, cells := 0, slots := 0, locals := 0 }
abbrev P1 (r : Int32) : Option Value → List OwnC → Prop := fun v H' => v = some (.int r) ∧ H' = ([] : List OwnC)
abbrev W1 (l : Launch) (Z : State) (n0 : Nat) (Q : Option Value → List OwnC → Prop) (k n pc : Nat) (L : List Slot) (S : List Value) (H : List OwnC) : Prop := WP l Z CN lay "DisplayMap" "clampTab" prog_1_method_18_code 1 (some FieldType.int) R1 n0 0 Q k n pc L S H
def f_clampTab (p0 : Int32) : Option (Int32) :=
  if p0 < (1 : Int32) then
    some (1 : Int32)
  else
    if (8 : Int32) < p0 then
      some (8 : Int32)
    else
      some p0
set_option maxRecDepth 65536 in
set_option maxHeartbeats 4000000 in
theorem ok1 (l : Launch) (Z : State) (a0 : Array Value) (hw : HW a0 Z) (p0 : Int32) (r : Int32) (h : f_clampTab p0 = some r) : CS l Z CN lay y1 prog_1_method_18_code 1 (some FieldType.int) R1 0 [.int p0] ([] : List OwnC) (P1 r) := by
  refine CS.of_wp pn_cls (leb rfl) fun n0 => ?_
  show W1 l Z n0 (P1 r) 0 0 0 [.val (.int p0)] [] ([] : List OwnC)
  unfold f_clampTab at h
  refine WP.iloadN d1_0 rfl ?_
  refine WP.iconst (1 : Int32) d1_1 rfl ?_
  rcases ite_e h with ⟨hc1, h⟩ | ⟨hc1, h⟩
  ·
    refine WP.icmpN d1_2 (XT.ii_ge_f hc1) ?_
    refine WP.iconst (1 : Int32) d1_5 rfl ?_
    cases h
    exact WP.ireturn d1_6 rfl (leb rfl) (leb rfl) ⟨rfl, rfl⟩
  ·
    refine WP.icmpY (pc' := 7) d1_2 (XT.ii_ge_t hc1) (by decide) rfl ?_
    refine WP.iloadN d1_7 rfl ?_
    refine WP.bipush (8 : Int32) d1_8 rfl ?_
    rcases ite_e h with ⟨hc2, h⟩ | ⟨hc2, h⟩
    ·
      refine WP.icmpN d1_10 (XT.ii_le_f hc2) ?_
      refine WP.bipush (8 : Int32) d1_13 rfl ?_
      cases h
      exact WP.ireturn d1_15 rfl (leb rfl) (leb rfl) ⟨rfl, rfl⟩
    ·
      refine WP.icmpY (pc' := 16) d1_10 (XT.ii_le_t hc2) (by decide) rfl ?_
      refine WP.iloadN d1_16 rfl ?_
      cases h
      exact WP.ireturn d1_17 rfl (leb rfl) (leb rfl) ⟨rfl, rfl⟩
theorem d2_0 : dc prog_1_method_19_code 0 (.iload_n 0) 1 := by decide +kernel
theorem d2_1 : dc prog_1_method_19_code 1 (.bipush 8) 2 := by decide +kernel
theorem d2_3 : dc prog_1_method_19_code 3 (.if_icmp .ge 6) 3 := by decide +kernel
theorem d2_6 : dc prog_1_method_19_code 6 (.bipush 8) 2 := by decide +kernel
theorem d2_8 : dc prog_1_method_19_code 8 (.ireturn) 1 := by decide +kernel
theorem d2_9 : dc prog_1_method_19_code 9 (.iload_n 0) 1 := by decide +kernel
theorem d2_10 : dc prog_1_method_19_code 10 (.bipush 32) 2 := by decide +kernel
theorem d2_12 : dc prog_1_method_19_code 12 (.if_icmp .le 6) 3 := by decide +kernel
theorem d2_15 : dc prog_1_method_19_code 15 (.bipush 32) 2 := by decide +kernel
theorem d2_17 : dc prog_1_method_19_code 17 (.ireturn) 1 := by decide +kernel
theorem d2_18 : dc prog_1_method_19_code 18 (.iload_n 0) 1 := by decide +kernel
theorem d2_19 : dc prog_1_method_19_code 19 (.ireturn) 1 := by decide +kernel
abbrev y2 : MethodName := ⟨"DisplayMap", "clampWrap", "(I)I"⟩
theorem hy2 : y2.cls ≠ "java/lang/invoke/MethodHandle" ∧ y2.cls ≠ "java/lang/invoke/VarHandle" := by decide
theorem pd2 : parseMethodDescriptor y2.desc = some ⟨[.int], some .int⟩ := by decide +kernel
abbrev R2 : Room := { frames := 0, cells := 0, slots := 0, locals := 0 }
abbrev P2 (r : Int32) : Option Value → List OwnC → Prop := fun v H' => v = some (.int r) ∧ H' = ([] : List OwnC)
abbrev W2 (l : Launch) (Z : State) (n0 : Nat) (Q : Option Value → List OwnC → Prop) (k n pc : Nat) (L : List Slot) (S : List Value) (H : List OwnC) : Prop := WP l Z CN lay "DisplayMap" "clampWrap" prog_1_method_19_code 1 (some FieldType.int) R2 n0 0 Q k n pc L S H
def f_clampWrap (p0 : Int32) : Option (Int32) :=
  if p0 < (8 : Int32) then
    some (8 : Int32)
  else
    if (32 : Int32) < p0 then
      some (32 : Int32)
    else
      some p0
set_option maxRecDepth 65536 in
set_option maxHeartbeats 4000000 in
theorem ok2 (l : Launch) (Z : State) (a0 : Array Value) (hw : HW a0 Z) (p0 : Int32) (r : Int32) (h : f_clampWrap p0 = some r) : CS l Z CN lay y2 prog_1_method_19_code 1 (some FieldType.int) R2 0 [.int p0] ([] : List OwnC) (P2 r) := by
  refine CS.of_wp pn_cls (leb rfl) fun n0 => ?_
  show W2 l Z n0 (P2 r) 0 0 0 [.val (.int p0)] [] ([] : List OwnC)
  unfold f_clampWrap at h
  refine WP.iloadN d2_0 rfl ?_
  refine WP.bipush (8 : Int32) d2_1 rfl ?_
  rcases ite_e h with ⟨hc1, h⟩ | ⟨hc1, h⟩
  ·
    refine WP.icmpN d2_3 (XT.ii_ge_f hc1) ?_
    refine WP.bipush (8 : Int32) d2_6 rfl ?_
    cases h
    exact WP.ireturn d2_8 rfl (leb rfl) (leb rfl) ⟨rfl, rfl⟩
  ·
    refine WP.icmpY (pc' := 9) d2_3 (XT.ii_ge_t hc1) (by decide) rfl ?_
    refine WP.iloadN d2_9 rfl ?_
    refine WP.bipush (32 : Int32) d2_10 rfl ?_
    rcases ite_e h with ⟨hc2, h⟩ | ⟨hc2, h⟩
    ·
      refine WP.icmpN d2_12 (XT.ii_le_f hc2) ?_
      refine WP.bipush (32 : Int32) d2_15 rfl ?_
      cases h
      exact WP.ireturn d2_17 rfl (leb rfl) (leb rfl) ⟨rfl, rfl⟩
    ·
      refine WP.icmpY (pc' := 18) d2_12 (XT.ii_le_t hc2) (by decide) rfl ?_
      refine WP.iloadN d2_18 rfl ?_
      cases h
      exact WP.ireturn d2_19 rfl (leb rfl) (leb rfl) ⟨rfl, rfl⟩
def fr0_f : List Nat := []
theorem fr0_c (x0 : St) : fr0_f.map (fun i => (Hb 0 x0)[i]?) = ([] : List OwnC).map (fun c => some (rnC (ro1 fr0_f (Hb 0 x0).length) c)) := rfl
theorem fr0_l (x0 : St) : ∀ x ∈ fr0_f, x < (Hb 0 x0).length := by show ∀ x ∈ fr0_f, x < 11; decide
theorem fr0_p (x0 : St) : patch (ro1 fr0_f (Hb 0 x0).length) fr0_f ([] : List OwnC) (Hb 0 x0) = (Hb 0 x0) := rfl
theorem d0_0 : dc prog_1_method_1_code 0 (.aload_n 0) 1 := by decide +kernel
theorem d0_1 : dc prog_1_method_1_code 1 (.invokespecial 1) 3 := by decide +kernel
theorem d0_4 : dc prog_1_method_1_code 4 (.aload_n 0) 1 := by decide +kernel
theorem d0_5 : dc prog_1_method_1_code 5 (.sipush 256) 3 := by decide +kernel
theorem d0_8 : dc prog_1_method_1_code 8 (.newarray .int) 2 := by decide +kernel
theorem d0_10 : dc prog_1_method_1_code 10 (.putfield 7) 3 := by decide +kernel
theorem d0_13 : dc prog_1_method_1_code 13 (.aload_n 0) 1 := by decide +kernel
theorem d0_14 : dc prog_1_method_1_code 14 (.bipush 8) 2 := by decide +kernel
theorem d0_16 : dc prog_1_method_1_code 16 (.newarray .int) 2 := by decide +kernel
theorem d0_18 : dc prog_1_method_1_code 18 (.putfield 13) 3 := by decide +kernel
theorem d0_21 : dc prog_1_method_1_code 21 (.aload_n 0) 1 := by decide +kernel
theorem d0_22 : dc prog_1_method_1_code 22 (.bipush 8) 2 := by decide +kernel
theorem d0_24 : dc prog_1_method_1_code 24 (.newarray .int) 2 := by decide +kernel
theorem d0_26 : dc prog_1_method_1_code 26 (.putfield 16) 3 := by decide +kernel
theorem d0_29 : dc prog_1_method_1_code 29 (.aload_n 0) 1 := by decide +kernel
theorem d0_30 : dc prog_1_method_1_code 30 (.sipush 256) 3 := by decide +kernel
theorem d0_33 : dc prog_1_method_1_code 33 (.newarray .int) 2 := by decide +kernel
theorem d0_35 : dc prog_1_method_1_code 35 (.putfield 19) 3 := by decide +kernel
theorem d0_38 : dc prog_1_method_1_code 38 (.aload_n 0) 1 := by decide +kernel
theorem d0_39 : dc prog_1_method_1_code 39 (.sipush 256) 3 := by decide +kernel
theorem d0_42 : dc prog_1_method_1_code 42 (.newarray .int) 2 := by decide +kernel
theorem d0_44 : dc prog_1_method_1_code 44 (.putfield 22) 3 := by decide +kernel
theorem d0_47 : dc prog_1_method_1_code 47 (.aload_n 0) 1 := by decide +kernel
theorem d0_48 : dc prog_1_method_1_code 48 (.sipush 256) 3 := by decide +kernel
theorem d0_51 : dc prog_1_method_1_code 51 (.newarray .int) 2 := by decide +kernel
theorem d0_53 : dc prog_1_method_1_code 53 (.putfield 25) 3 := by decide +kernel
theorem d0_56 : dc prog_1_method_1_code 56 (.aload_n 0) 1 := by decide +kernel
theorem d0_57 : dc prog_1_method_1_code 57 (.sipush 260) 3 := by decide +kernel
theorem d0_60 : dc prog_1_method_1_code 60 (.newarray .int) 2 := by decide +kernel
theorem d0_62 : dc prog_1_method_1_code 62 (.putfield 28) 3 := by decide +kernel
theorem d0_65 : dc prog_1_method_1_code 65 (.aload_n 0) 1 := by decide +kernel
theorem d0_66 : dc prog_1_method_1_code 66 (.sipush 260) 3 := by decide +kernel
theorem d0_69 : dc prog_1_method_1_code 69 (.newarray .int) 2 := by decide +kernel
theorem d0_71 : dc prog_1_method_1_code 71 (.putfield 31) 3 := by decide +kernel
theorem d0_74 : dc prog_1_method_1_code 74 (.aload_n 0) 1 := by decide +kernel
theorem d0_75 : dc prog_1_method_1_code 75 (.sipush 260) 3 := by decide +kernel
theorem d0_78 : dc prog_1_method_1_code 78 (.newarray .int) 2 := by decide +kernel
theorem d0_80 : dc prog_1_method_1_code 80 (.putfield 34) 3 := by decide +kernel
theorem d0_83 : dc prog_1_method_1_code 83 (.aload_n 0) 1 := by decide +kernel
theorem d0_84 : dc prog_1_method_1_code 84 (.sipush 260) 3 := by decide +kernel
theorem d0_87 : dc prog_1_method_1_code 87 (.newarray .int) 2 := by decide +kernel
theorem d0_89 : dc prog_1_method_1_code 89 (.putfield 37) 3 := by decide +kernel
theorem d0_92 : dc prog_1_method_1_code 92 (.aload_n 0) 1 := by decide +kernel
theorem d0_93 : dc prog_1_method_1_code 93 (.iload_n 1) 1 := by decide +kernel
theorem d0_94 : dc prog_1_method_1_code 94 (.invokestatic 40) 3 := by decide +kernel
theorem d0_97 : dc prog_1_method_1_code 97 (.putfield 44) 3 := by decide +kernel
theorem d0_100 : dc prog_1_method_1_code 100 (.aload_n 0) 1 := by decide +kernel
theorem d0_101 : dc prog_1_method_1_code 101 (.iload_n 2) 1 := by decide +kernel
theorem d0_102 : dc prog_1_method_1_code 102 (.invokestatic 48) 3 := by decide +kernel
theorem d0_105 : dc prog_1_method_1_code 105 (.putfield 51) 3 := by decide +kernel
theorem d0_108 : dc prog_1_method_1_code 108 (.aload_n 0) 1 := by decide +kernel
theorem d0_109 : dc prog_1_method_1_code 109 (.iconst 0) 1 := by decide +kernel
theorem d0_110 : dc prog_1_method_1_code 110 (.putfield 54) 3 := by decide +kernel
theorem d0_113 : dc prog_1_method_1_code 113 (.aload_n 0) 1 := by decide +kernel
theorem d0_114 : dc prog_1_method_1_code 114 (.iconst 0) 1 := by decide +kernel
theorem d0_115 : dc prog_1_method_1_code 115 (.putfield 57) 3 := by decide +kernel
theorem d0_118 : dc prog_1_method_1_code 118 (.aload_n 0) 1 := by decide +kernel
theorem d0_119 : dc prog_1_method_1_code 119 (.iconst 1) 1 := by decide +kernel
theorem d0_120 : dc prog_1_method_1_code 120 (.putfield 60) 3 := by decide +kernel
theorem d0_123 : dc prog_1_method_1_code 123 (.return_) 1 := by decide +kernel
abbrev y0 : MethodName := ⟨"DisplayMap", "<init>", "(II)V"⟩
theorem hy0 : y0.cls ≠ "java/lang/invoke/MethodHandle" ∧ y0.cls ≠ "java/lang/invoke/VarHandle" := by decide
theorem pd0 : parseMethodDescriptor y0.desc = some ⟨[.int, .int], none⟩ := by decide +kernel
abbrev R0 : Room := { frames := 1, cells := 10, slots := 2080, locals := 13 }
abbrev P0 (r : St) : Option Value → List OwnC → Prop := fun v H' => v = none ∧ H' = (Hb 0 r)
abbrev W0 (l : Launch) (Z : State) (n0 : Nat) (Q : Option Value → List OwnC → Prop) (k n pc : Nat) (L : List Slot) (S : List Value) (H : List OwnC) : Prop := WP l Z CN lay "DisplayMap" "<init>" prog_1_method_1_code 3 (none) R0 n0 0 Q k n pc L S H
def f_init (p1 : Int32) (p2 : Int32) : Option (St) :=
  lt (st0) fun s1 =>
  (f_clampTab p1).bind fun c2 =>
  lt (sI s1 2 c2) fun s3 =>
  (f_clampWrap p2).bind fun c4 =>
  lt (sI s3 3 c4) fun s5 =>
  lt (sI s5 0 (0 : Int32)) fun s6 =>
  lt (sI s6 1 (0 : Int32)) fun s7 =>
  lt (sI s7 4 (1 : Int32)) fun s8 =>
  some s8
set_option maxRecDepth 65536 in
set_option maxHeartbeats 4000000 in
theorem ok0 (l : Launch) (Z : State) (a0 : Array Value) (hw : HW a0 Z) (p1 : Int32) (p2 : Int32) (r : St) (h : f_init p1 p2 = some r) : CS l Z CN lay y0 prog_1_method_1_code 3 (none) R0 0 [.ref 0, .int p1, .int p2] [cO vs0] (P0 r) := by
  refine CS.of_wp pn_cls (leb rfl) fun n0 => ?_
  show W0 l Z n0 (P0 r) 0 0 0 [.val (.ref 0), .val (.int p1), .val (.int p2)] [] [cO vs0]
  unfold f_init at h
  refine WP.aloadN d0_0 rfl ?_
  refine WP.initO d0_1 (hw _ m_6) (hw _ m_7) (hw _ m_8) (leb rfl) (leb rfl) ?_
  refine WP.aloadN d0_4 rfl ?_
  refine WP.sipush (256 : Int32) d0_5 rfl ?_
  refine WP.newarray d0_8 (hw _ m_9) (by decide) (leb rfl) (leb rfl) (leb rfl) (Or.inl ⟨rfl, rfl⟩) ?_
  show W0 l Z n0 (P0 r) 1 256 10 [.val (.ref 0), .val (.int p1), .val (.int p2)] [.ref 1, .ref 0] ([cO [.null, .int (0 : Int32), .null, .null, .int (0 : Int32), .int (0 : Int32), .int (0 : Int32), .int (0 : Int32), .null, .null, .null, .int (0 : Int32), .null, .null, .null, .null, .int (0 : Int32), .int (0 : Int32), .int (0 : Int32), .int (0 : Int32), .int (0 : Int32), .int (0 : Int32)], cI (List.replicate 256 0)] : List OwnC)
  refine WP.putR (ty := .array .int) (i := 0) (j := 0) (H' := ([cO [.ref 1, .int (0 : Int32), .null, .null, .int (0 : Int32), .int (0 : Int32), .int (0 : Int32), .int (0 : Int32), .null, .null, .null, .int (0 : Int32), .null, .null, .null, .null, .int (0 : Int32), .int (0 : Int32), .int (0 : Int32), .int (0 : Int32), .int (0 : Int32), .int (0 : Int32)], cI (List.replicate 256 0)] : List OwnC)) d0_10 (hw _ m_10) (Or.inr ⟨(hw _ m_11), rfl, rfl⟩) (hw _ m_1) (hlay hw) (by decide) (fun _ => rfl) (fun _ => rfl) rfl rfl rfl (leb rfl) rfl ?_
  refine WP.aloadN d0_13 rfl ?_
  refine WP.bipush (8 : Int32) d0_14 rfl ?_
  refine WP.newarray d0_16 (hw _ m_9) (by decide) (leb rfl) (leb rfl) (leb rfl) (Or.inl ⟨rfl, rfl⟩) ?_
  show W0 l Z n0 (P0 r) 2 264 18 [.val (.ref 0), .val (.int p1), .val (.int p2)] [.ref 2, .ref 0] ([cO [.ref 1, .int (0 : Int32), .null, .null, .int (0 : Int32), .int (0 : Int32), .int (0 : Int32), .int (0 : Int32), .null, .null, .null, .int (0 : Int32), .null, .null, .null, .null, .int (0 : Int32), .int (0 : Int32), .int (0 : Int32), .int (0 : Int32), .int (0 : Int32), .int (0 : Int32)], cI (List.replicate 256 0), cI (List.replicate 8 0)] : List OwnC)
  refine WP.putR (ty := .array .int) (i := 0) (j := 2) (H' := ([cO [.ref 1, .int (0 : Int32), .ref 2, .null, .int (0 : Int32), .int (0 : Int32), .int (0 : Int32), .int (0 : Int32), .null, .null, .null, .int (0 : Int32), .null, .null, .null, .null, .int (0 : Int32), .int (0 : Int32), .int (0 : Int32), .int (0 : Int32), .int (0 : Int32), .int (0 : Int32)], cI (List.replicate 256 0), cI (List.replicate 8 0)] : List OwnC)) d0_18 (hw _ m_12) (Or.inr ⟨(hw _ m_13), rfl, rfl⟩) (hw _ m_1) (hlay hw) (by decide) (fun _ => rfl) (fun _ => rfl) rfl rfl rfl (leb rfl) rfl ?_
  refine WP.aloadN d0_21 rfl ?_
  refine WP.bipush (8 : Int32) d0_22 rfl ?_
  refine WP.newarray d0_24 (hw _ m_9) (by decide) (leb rfl) (leb rfl) (leb rfl) (Or.inl ⟨rfl, rfl⟩) ?_
  show W0 l Z n0 (P0 r) 3 272 26 [.val (.ref 0), .val (.int p1), .val (.int p2)] [.ref 3, .ref 0] ([cO [.ref 1, .int (0 : Int32), .ref 2, .null, .int (0 : Int32), .int (0 : Int32), .int (0 : Int32), .int (0 : Int32), .null, .null, .null, .int (0 : Int32), .null, .null, .null, .null, .int (0 : Int32), .int (0 : Int32), .int (0 : Int32), .int (0 : Int32), .int (0 : Int32), .int (0 : Int32)], cI (List.replicate 256 0), cI (List.replicate 8 0), cI (List.replicate 8 0)] : List OwnC)
  refine WP.putR (ty := .array .int) (i := 0) (j := 3) (H' := ([cO [.ref 1, .int (0 : Int32), .ref 2, .ref 3, .int (0 : Int32), .int (0 : Int32), .int (0 : Int32), .int (0 : Int32), .null, .null, .null, .int (0 : Int32), .null, .null, .null, .null, .int (0 : Int32), .int (0 : Int32), .int (0 : Int32), .int (0 : Int32), .int (0 : Int32), .int (0 : Int32)], cI (List.replicate 256 0), cI (List.replicate 8 0), cI (List.replicate 8 0)] : List OwnC)) d0_26 (hw _ m_14) (Or.inr ⟨(hw _ m_15), rfl, rfl⟩) (hw _ m_1) (hlay hw) (by decide) (fun _ => rfl) (fun _ => rfl) rfl rfl rfl (leb rfl) rfl ?_
  refine WP.aloadN d0_29 rfl ?_
  refine WP.sipush (256 : Int32) d0_30 rfl ?_
  refine WP.newarray d0_33 (hw _ m_9) (by decide) (leb rfl) (leb rfl) (leb rfl) (Or.inl ⟨rfl, rfl⟩) ?_
  show W0 l Z n0 (P0 r) 4 528 35 [.val (.ref 0), .val (.int p1), .val (.int p2)] [.ref 4, .ref 0] ([cO [.ref 1, .int (0 : Int32), .ref 2, .ref 3, .int (0 : Int32), .int (0 : Int32), .int (0 : Int32), .int (0 : Int32), .null, .null, .null, .int (0 : Int32), .null, .null, .null, .null, .int (0 : Int32), .int (0 : Int32), .int (0 : Int32), .int (0 : Int32), .int (0 : Int32), .int (0 : Int32)], cI (List.replicate 256 0), cI (List.replicate 8 0), cI (List.replicate 8 0), cI (List.replicate 256 0)] : List OwnC)
  refine WP.putR (ty := .array .int) (i := 0) (j := 8) (H' := ([cO [.ref 1, .int (0 : Int32), .ref 2, .ref 3, .int (0 : Int32), .int (0 : Int32), .int (0 : Int32), .int (0 : Int32), .ref 4, .null, .null, .int (0 : Int32), .null, .null, .null, .null, .int (0 : Int32), .int (0 : Int32), .int (0 : Int32), .int (0 : Int32), .int (0 : Int32), .int (0 : Int32)], cI (List.replicate 256 0), cI (List.replicate 8 0), cI (List.replicate 8 0), cI (List.replicate 256 0)] : List OwnC)) d0_35 (hw _ m_16) (Or.inr ⟨(hw _ m_17), rfl, rfl⟩) (hw _ m_1) (hlay hw) (by decide) (fun _ => rfl) (fun _ => rfl) rfl rfl rfl (leb rfl) rfl ?_
  refine WP.aloadN d0_38 rfl ?_
  refine WP.sipush (256 : Int32) d0_39 rfl ?_
  refine WP.newarray d0_42 (hw _ m_9) (by decide) (leb rfl) (leb rfl) (leb rfl) (Or.inl ⟨rfl, rfl⟩) ?_
  show W0 l Z n0 (P0 r) 5 784 44 [.val (.ref 0), .val (.int p1), .val (.int p2)] [.ref 5, .ref 0] ([cO [.ref 1, .int (0 : Int32), .ref 2, .ref 3, .int (0 : Int32), .int (0 : Int32), .int (0 : Int32), .int (0 : Int32), .ref 4, .null, .null, .int (0 : Int32), .null, .null, .null, .null, .int (0 : Int32), .int (0 : Int32), .int (0 : Int32), .int (0 : Int32), .int (0 : Int32), .int (0 : Int32)], cI (List.replicate 256 0), cI (List.replicate 8 0), cI (List.replicate 8 0), cI (List.replicate 256 0), cI (List.replicate 256 0)] : List OwnC)
  refine WP.putR (ty := .array .int) (i := 0) (j := 9) (H' := ([cO [.ref 1, .int (0 : Int32), .ref 2, .ref 3, .int (0 : Int32), .int (0 : Int32), .int (0 : Int32), .int (0 : Int32), .ref 4, .ref 5, .null, .int (0 : Int32), .null, .null, .null, .null, .int (0 : Int32), .int (0 : Int32), .int (0 : Int32), .int (0 : Int32), .int (0 : Int32), .int (0 : Int32)], cI (List.replicate 256 0), cI (List.replicate 8 0), cI (List.replicate 8 0), cI (List.replicate 256 0), cI (List.replicate 256 0)] : List OwnC)) d0_44 (hw _ m_18) (Or.inr ⟨(hw _ m_19), rfl, rfl⟩) (hw _ m_1) (hlay hw) (by decide) (fun _ => rfl) (fun _ => rfl) rfl rfl rfl (leb rfl) rfl ?_
  refine WP.aloadN d0_47 rfl ?_
  refine WP.sipush (256 : Int32) d0_48 rfl ?_
  refine WP.newarray d0_51 (hw _ m_9) (by decide) (leb rfl) (leb rfl) (leb rfl) (Or.inl ⟨rfl, rfl⟩) ?_
  show W0 l Z n0 (P0 r) 6 1040 53 [.val (.ref 0), .val (.int p1), .val (.int p2)] [.ref 6, .ref 0] ([cO [.ref 1, .int (0 : Int32), .ref 2, .ref 3, .int (0 : Int32), .int (0 : Int32), .int (0 : Int32), .int (0 : Int32), .ref 4, .ref 5, .null, .int (0 : Int32), .null, .null, .null, .null, .int (0 : Int32), .int (0 : Int32), .int (0 : Int32), .int (0 : Int32), .int (0 : Int32), .int (0 : Int32)], cI (List.replicate 256 0), cI (List.replicate 8 0), cI (List.replicate 8 0), cI (List.replicate 256 0), cI (List.replicate 256 0), cI (List.replicate 256 0)] : List OwnC)
  refine WP.putR (ty := .array .int) (i := 0) (j := 10) (H' := ([cO [.ref 1, .int (0 : Int32), .ref 2, .ref 3, .int (0 : Int32), .int (0 : Int32), .int (0 : Int32), .int (0 : Int32), .ref 4, .ref 5, .ref 6, .int (0 : Int32), .null, .null, .null, .null, .int (0 : Int32), .int (0 : Int32), .int (0 : Int32), .int (0 : Int32), .int (0 : Int32), .int (0 : Int32)], cI (List.replicate 256 0), cI (List.replicate 8 0), cI (List.replicate 8 0), cI (List.replicate 256 0), cI (List.replicate 256 0), cI (List.replicate 256 0)] : List OwnC)) d0_53 (hw _ m_20) (Or.inr ⟨(hw _ m_21), rfl, rfl⟩) (hw _ m_1) (hlay hw) (by decide) (fun _ => rfl) (fun _ => rfl) rfl rfl rfl (leb rfl) rfl ?_
  refine WP.aloadN d0_56 rfl ?_
  refine WP.sipush (260 : Int32) d0_57 rfl ?_
  refine WP.newarray d0_60 (hw _ m_9) (by decide) (leb rfl) (leb rfl) (leb rfl) (Or.inl ⟨rfl, rfl⟩) ?_
  show W0 l Z n0 (P0 r) 7 1300 62 [.val (.ref 0), .val (.int p1), .val (.int p2)] [.ref 7, .ref 0] ([cO [.ref 1, .int (0 : Int32), .ref 2, .ref 3, .int (0 : Int32), .int (0 : Int32), .int (0 : Int32), .int (0 : Int32), .ref 4, .ref 5, .ref 6, .int (0 : Int32), .null, .null, .null, .null, .int (0 : Int32), .int (0 : Int32), .int (0 : Int32), .int (0 : Int32), .int (0 : Int32), .int (0 : Int32)], cI (List.replicate 256 0), cI (List.replicate 8 0), cI (List.replicate 8 0), cI (List.replicate 256 0), cI (List.replicate 256 0), cI (List.replicate 256 0), cI (List.replicate 260 0)] : List OwnC)
  refine WP.putR (ty := .array .int) (i := 0) (j := 12) (H' := ([cO [.ref 1, .int (0 : Int32), .ref 2, .ref 3, .int (0 : Int32), .int (0 : Int32), .int (0 : Int32), .int (0 : Int32), .ref 4, .ref 5, .ref 6, .int (0 : Int32), .ref 7, .null, .null, .null, .int (0 : Int32), .int (0 : Int32), .int (0 : Int32), .int (0 : Int32), .int (0 : Int32), .int (0 : Int32)], cI (List.replicate 256 0), cI (List.replicate 8 0), cI (List.replicate 8 0), cI (List.replicate 256 0), cI (List.replicate 256 0), cI (List.replicate 256 0), cI (List.replicate 260 0)] : List OwnC)) d0_62 (hw _ m_22) (Or.inr ⟨(hw _ m_23), rfl, rfl⟩) (hw _ m_1) (hlay hw) (by decide) (fun _ => rfl) (fun _ => rfl) rfl rfl rfl (leb rfl) rfl ?_
  refine WP.aloadN d0_65 rfl ?_
  refine WP.sipush (260 : Int32) d0_66 rfl ?_
  refine WP.newarray d0_69 (hw _ m_9) (by decide) (leb rfl) (leb rfl) (leb rfl) (Or.inl ⟨rfl, rfl⟩) ?_
  show W0 l Z n0 (P0 r) 8 1560 71 [.val (.ref 0), .val (.int p1), .val (.int p2)] [.ref 8, .ref 0] ([cO [.ref 1, .int (0 : Int32), .ref 2, .ref 3, .int (0 : Int32), .int (0 : Int32), .int (0 : Int32), .int (0 : Int32), .ref 4, .ref 5, .ref 6, .int (0 : Int32), .ref 7, .null, .null, .null, .int (0 : Int32), .int (0 : Int32), .int (0 : Int32), .int (0 : Int32), .int (0 : Int32), .int (0 : Int32)], cI (List.replicate 256 0), cI (List.replicate 8 0), cI (List.replicate 8 0), cI (List.replicate 256 0), cI (List.replicate 256 0), cI (List.replicate 256 0), cI (List.replicate 260 0), cI (List.replicate 260 0)] : List OwnC)
  refine WP.putR (ty := .array .int) (i := 0) (j := 13) (H' := ([cO [.ref 1, .int (0 : Int32), .ref 2, .ref 3, .int (0 : Int32), .int (0 : Int32), .int (0 : Int32), .int (0 : Int32), .ref 4, .ref 5, .ref 6, .int (0 : Int32), .ref 7, .ref 8, .null, .null, .int (0 : Int32), .int (0 : Int32), .int (0 : Int32), .int (0 : Int32), .int (0 : Int32), .int (0 : Int32)], cI (List.replicate 256 0), cI (List.replicate 8 0), cI (List.replicate 8 0), cI (List.replicate 256 0), cI (List.replicate 256 0), cI (List.replicate 256 0), cI (List.replicate 260 0), cI (List.replicate 260 0)] : List OwnC)) d0_71 (hw _ m_24) (Or.inr ⟨(hw _ m_25), rfl, rfl⟩) (hw _ m_1) (hlay hw) (by decide) (fun _ => rfl) (fun _ => rfl) rfl rfl rfl (leb rfl) rfl ?_
  refine WP.aloadN d0_74 rfl ?_
  refine WP.sipush (260 : Int32) d0_75 rfl ?_
  refine WP.newarray d0_78 (hw _ m_9) (by decide) (leb rfl) (leb rfl) (leb rfl) (Or.inl ⟨rfl, rfl⟩) ?_
  show W0 l Z n0 (P0 r) 9 1820 80 [.val (.ref 0), .val (.int p1), .val (.int p2)] [.ref 9, .ref 0] ([cO [.ref 1, .int (0 : Int32), .ref 2, .ref 3, .int (0 : Int32), .int (0 : Int32), .int (0 : Int32), .int (0 : Int32), .ref 4, .ref 5, .ref 6, .int (0 : Int32), .ref 7, .ref 8, .null, .null, .int (0 : Int32), .int (0 : Int32), .int (0 : Int32), .int (0 : Int32), .int (0 : Int32), .int (0 : Int32)], cI (List.replicate 256 0), cI (List.replicate 8 0), cI (List.replicate 8 0), cI (List.replicate 256 0), cI (List.replicate 256 0), cI (List.replicate 256 0), cI (List.replicate 260 0), cI (List.replicate 260 0), cI (List.replicate 260 0)] : List OwnC)
  refine WP.putR (ty := .array .int) (i := 0) (j := 14) (H' := ([cO [.ref 1, .int (0 : Int32), .ref 2, .ref 3, .int (0 : Int32), .int (0 : Int32), .int (0 : Int32), .int (0 : Int32), .ref 4, .ref 5, .ref 6, .int (0 : Int32), .ref 7, .ref 8, .ref 9, .null, .int (0 : Int32), .int (0 : Int32), .int (0 : Int32), .int (0 : Int32), .int (0 : Int32), .int (0 : Int32)], cI (List.replicate 256 0), cI (List.replicate 8 0), cI (List.replicate 8 0), cI (List.replicate 256 0), cI (List.replicate 256 0), cI (List.replicate 256 0), cI (List.replicate 260 0), cI (List.replicate 260 0), cI (List.replicate 260 0)] : List OwnC)) d0_80 (hw _ m_26) (Or.inr ⟨(hw _ m_27), rfl, rfl⟩) (hw _ m_1) (hlay hw) (by decide) (fun _ => rfl) (fun _ => rfl) rfl rfl rfl (leb rfl) rfl ?_
  refine WP.aloadN d0_83 rfl ?_
  refine WP.sipush (260 : Int32) d0_84 rfl ?_
  refine WP.newarray d0_87 (hw _ m_9) (by decide) (leb rfl) (leb rfl) (leb rfl) (Or.inl ⟨rfl, rfl⟩) ?_
  show W0 l Z n0 (P0 r) 10 2080 89 [.val (.ref 0), .val (.int p1), .val (.int p2)] [.ref 10, .ref 0] ([cO [.ref 1, .int (0 : Int32), .ref 2, .ref 3, .int (0 : Int32), .int (0 : Int32), .int (0 : Int32), .int (0 : Int32), .ref 4, .ref 5, .ref 6, .int (0 : Int32), .ref 7, .ref 8, .ref 9, .null, .int (0 : Int32), .int (0 : Int32), .int (0 : Int32), .int (0 : Int32), .int (0 : Int32), .int (0 : Int32)], cI (List.replicate 256 0), cI (List.replicate 8 0), cI (List.replicate 8 0), cI (List.replicate 256 0), cI (List.replicate 256 0), cI (List.replicate 256 0), cI (List.replicate 260 0), cI (List.replicate 260 0), cI (List.replicate 260 0), cI (List.replicate 260 0)] : List OwnC)
  obtain ⟨s1, es1, h⟩ := lt_e h
  refine WP.putR (ty := .array .int) (i := 0) (j := 15) (H' := (Hb 0 s1)) d0_89 (hw _ m_28) (Or.inr ⟨(hw _ m_29), rfl, rfl⟩) (hw _ m_1) (hlay hw) (by decide) (fun _ => rfl) (fun _ => rfl) rfl rfl rfl (leb rfl) (by subst es1; rfl) ?_
  refine WP.aloadN d0_92 rfl ?_
  refine WP.iloadN d0_93 rfl ?_
  obtain ⟨c2, hc2, h⟩ := Option.bind_eq_some_iff.mp h
  refine WP.callS (y := y1) (as := [.int p1]) (S := [.ref 0]) d0_94 (hw _ m_30) (hw _ m_31) (hw _ m_2) (hw _ m_32) hy1 (CS.frame (ro := 0) (H := (Hb 0 s1)) (as := [.int p1]) fr0_f (ok1 l Z a0 hw p1 _ hc2) rfl (by decide) (fr0_l s1) (fr0_c s1) (by decide) rfl) rfl (lenOf pd1 rfl) (leb rfl) (leb rfl) (leb rfl) (leb rfl) ?_
  rintro _ _ ⟨_, _, ⟨rfl, rfl⟩, rfl, rfl⟩
  rw [fr0_p s1]
  show W0 l Z n0 (P0 r) 10 2080 97 [.val (.ref 0), .val (.int p1), .val (.int p2)] [.int c2, .ref 0] (Hb 0 s1)
  obtain ⟨s3, es3, h⟩ := lt_e h
  refine WP.putI (i := 0) (j := 5) (H' := (Hb 0 s3)) d0_97 (hw _ m_33) (Or.inl (hw _ m_34)) (hw _ m_1) (hlay hw) rfl rfl rfl (leb rfl) (by subst es3; rfl) ?_
  refine WP.aloadN d0_100 rfl ?_
  refine WP.iloadN d0_101 rfl ?_
  obtain ⟨c4, hc4, h⟩ := Option.bind_eq_some_iff.mp h
  refine WP.callS (y := y2) (as := [.int p2]) (S := [.ref 0]) d0_102 (hw _ m_35) (hw _ m_36) (hw _ m_2) (hw _ m_37) hy2 (CS.frame (ro := 0) (H := (Hb 0 s3)) (as := [.int p2]) fr0_f (ok2 l Z a0 hw p2 _ hc4) rfl (by decide) (fr0_l s3) (fr0_c s3) (by decide) rfl) rfl (lenOf pd2 rfl) (leb rfl) (leb rfl) (leb rfl) (leb rfl) ?_
  rintro _ _ ⟨_, _, ⟨rfl, rfl⟩, rfl, rfl⟩
  rw [fr0_p s3]
  show W0 l Z n0 (P0 r) 10 2080 105 [.val (.ref 0), .val (.int p1), .val (.int p2)] [.int c4, .ref 0] (Hb 0 s3)
  obtain ⟨s5, es5, h⟩ := lt_e h
  refine WP.putI (i := 0) (j := 6) (H' := (Hb 0 s5)) d0_105 (hw _ m_38) (Or.inl (hw _ m_39)) (hw _ m_1) (hlay hw) rfl rfl rfl (leb rfl) (by subst es5; rfl) ?_
  refine WP.aloadN d0_108 rfl ?_
  refine WP.iconst (0 : Int32) d0_109 rfl ?_
  obtain ⟨s6, es6, h⟩ := lt_e h
  refine WP.putI (i := 0) (j := 1) (H' := (Hb 0 s6)) d0_110 (hw _ m_40) (Or.inl (hw _ m_41)) (hw _ m_1) (hlay hw) rfl rfl rfl (leb rfl) (by subst es6; rfl) ?_
  refine WP.aloadN d0_113 rfl ?_
  refine WP.iconst (0 : Int32) d0_114 rfl ?_
  obtain ⟨s7, es7, h⟩ := lt_e h
  refine WP.putI (i := 0) (j := 4) (H' := (Hb 0 s7)) d0_115 (hw _ m_42) (Or.inl (hw _ m_43)) (hw _ m_1) (hlay hw) rfl rfl rfl (leb rfl) (by subst es7; rfl) ?_
  refine WP.aloadN d0_118 rfl ?_
  refine WP.iconst (1 : Int32) d0_119 rfl ?_
  obtain ⟨s8, es8, h⟩ := lt_e h
  refine WP.putZ (i := 0) (j := 7) (H' := (Hb 0 s8)) d0_120 (hw _ m_44) (Or.inl (hw _ m_45)) (hw _ m_1) (hlay hw) rfl rfl rfl (leb rfl) (by subst es8; rfl) ?_
  cases h
  exact WP.vreturn d0_123 rfl (leb rfl) (leb rfl) ⟨rfl, rfl⟩
theorem d4_0 : dc prog_1_method_20_code 0 (.iload_n 0) 1 := by decide +kernel
theorem d4_1 : dc prog_1_method_20_code 1 (.bipush 9) 2 := by decide +kernel
theorem d4_3 : dc prog_1_method_20_code 3 (.if_icmp .eq 21) 3 := by decide +kernel
theorem d4_6 : dc prog_1_method_20_code 6 (.iload_n 0) 1 := by decide +kernel
theorem d4_7 : dc prog_1_method_20_code 7 (.bipush 10) 2 := by decide +kernel
theorem d4_9 : dc prog_1_method_20_code 9 (.if_icmp .eq 15) 3 := by decide +kernel
theorem d4_12 : dc prog_1_method_20_code 12 (.iload_n 0) 1 := by decide +kernel
theorem d4_13 : dc prog_1_method_20_code 13 (.bipush 32) 2 := by decide +kernel
theorem d4_15 : dc prog_1_method_20_code 15 (.if_icmp .lt 13) 3 := by decide +kernel
theorem d4_18 : dc prog_1_method_20_code 18 (.iload_n 0) 1 := by decide +kernel
theorem d4_19 : dc prog_1_method_20_code 19 (.bipush 126) 2 := by decide +kernel
theorem d4_21 : dc prog_1_method_20_code 21 (.if_icmp .gt 7) 3 := by decide +kernel
theorem d4_24 : dc prog_1_method_20_code 24 (.iconst 1) 1 := by decide +kernel
theorem d4_25 : dc prog_1_method_20_code 25 (.goto 4) 3 := by decide +kernel
theorem d4_28 : dc prog_1_method_20_code 28 (.iconst 0) 1 := by decide +kernel
theorem d4_29 : dc prog_1_method_20_code 29 (.ireturn) 1 := by decide +kernel
abbrev y4 : MethodName := ⟨"DisplayMap", "validChar", "(I)Z"⟩
theorem hy4 : y4.cls ≠ "java/lang/invoke/MethodHandle" ∧ y4.cls ≠ "java/lang/invoke/VarHandle" := by decide
theorem pd4 : parseMethodDescriptor y4.desc = some ⟨[.int], some .boolean⟩ := by decide +kernel
abbrev R4 : Room := { frames := 0, cells := 0, slots := 0, locals := 0 }
abbrev P4 (r : Int32) : Option Value → List OwnC → Prop := fun v H' => v = some (.int r) ∧ H' = ([] : List OwnC)
abbrev W4 (l : Launch) (Z : State) (n0 : Nat) (Q : Option Value → List OwnC → Prop) (k n pc : Nat) (L : List Slot) (S : List Value) (H : List OwnC) : Prop := WP l Z CN lay "DisplayMap" "validChar" prog_1_method_20_code 1 (some FieldType.boolean) R4 n0 0 Q k n pc L S H
def f_validChar_29 (t0 : Int32) : Option (Int32) :=
  some (t0 &&& 1)
set_option maxRecDepth 65536 in
set_option maxHeartbeats 4000000 in
theorem ok4_29 (l : Launch) (Z : State) (a0 : Array Value) (hw : HW a0 Z) (n0 : Nat) (t0 : Int32) (r : Int32) (h : f_validChar_29 t0 = some r) : W4 l Z n0 (P4 r) 0 0 29 [.unset] [.int t0] ([] : List OwnC) := by
  unfold f_validChar_29 at h
  cases h
  exact WP.zreturn d4_29 rfl (leb rfl) (leb rfl) ⟨rfl, rfl⟩
def f_validChar_24 : Option (Int32) :=
  f_validChar_29 (1 : Int32)
set_option maxRecDepth 65536 in
set_option maxHeartbeats 4000000 in
theorem ok4_24 (l : Launch) (Z : State) (a0 : Array Value) (hw : HW a0 Z) (n0 : Nat) (r : Int32) (h : f_validChar_24 = some r) : W4 l Z n0 (P4 r) 0 0 24 [.unset] [] ([] : List OwnC) := by
  unfold f_validChar_24 at h
  refine WP.iconst (1 : Int32) d4_24 rfl ?_
  refine WP.goto (pc' := 29) d4_25 (by decide) rfl ?_
  exact WP.weak (L' := [.unset]) trivial (ok4_29 l Z a0 hw n0 (1 : Int32) _ h)
def f_validChar_28 : Option (Int32) :=
  f_validChar_29 (0 : Int32)
set_option maxRecDepth 65536 in
set_option maxHeartbeats 4000000 in
theorem ok4_28 (l : Launch) (Z : State) (a0 : Array Value) (hw : HW a0 Z) (n0 : Nat) (r : Int32) (h : f_validChar_28 = some r) : W4 l Z n0 (P4 r) 0 0 28 [.unset] [] ([] : List OwnC) := by
  unfold f_validChar_28 at h
  refine WP.iconst (0 : Int32) d4_28 rfl ?_
  exact WP.weak (L' := [.unset]) trivial (ok4_29 l Z a0 hw n0 (0 : Int32) _ h)
def f_validChar (p0 : Int32) : Option (Int32) :=
  if p0 = (9 : Int32) then
    f_validChar_24 
  else
    if p0 = (10 : Int32) then
      f_validChar_24 
    else
      if p0 < (32 : Int32) then
        f_validChar_28 
      else
        if (126 : Int32) < p0 then
          f_validChar_28 
        else
          f_validChar_24 
set_option maxRecDepth 65536 in
set_option maxHeartbeats 4000000 in
theorem ok4 (l : Launch) (Z : State) (a0 : Array Value) (hw : HW a0 Z) (p0 : Int32) (r : Int32) (h : f_validChar p0 = some r) : CS l Z CN lay y4 prog_1_method_20_code 1 (some FieldType.boolean) R4 0 [.int p0] ([] : List OwnC) (P4 r) := by
  refine CS.of_wp pn_cls (leb rfl) fun n0 => ?_
  show W4 l Z n0 (P4 r) 0 0 0 [.val (.int p0)] [] ([] : List OwnC)
  unfold f_validChar at h
  refine WP.iloadN d4_0 rfl ?_
  refine WP.bipush (9 : Int32) d4_1 rfl ?_
  rcases ite_e h with ⟨hc1, h⟩ | ⟨hc1, h⟩
  ·
    refine WP.icmpY (pc' := 24) d4_3 (XT.ii_eq_t hc1) (by decide) rfl ?_
    exact WP.weak (L' := [.unset]) trivial (ok4_24 l Z a0 hw n0  _ h)
  ·
    refine WP.icmpN d4_3 (XT.ii_eq_f hc1) ?_
    refine WP.iloadN d4_6 rfl ?_
    refine WP.bipush (10 : Int32) d4_7 rfl ?_
    rcases ite_e h with ⟨hc2, h⟩ | ⟨hc2, h⟩
    ·
      refine WP.icmpY (pc' := 24) d4_9 (XT.ii_eq_t hc2) (by decide) rfl ?_
      exact WP.weak (L' := [.unset]) trivial (ok4_24 l Z a0 hw n0  _ h)
    ·
      refine WP.icmpN d4_9 (XT.ii_eq_f hc2) ?_
      refine WP.iloadN d4_12 rfl ?_
      refine WP.bipush (32 : Int32) d4_13 rfl ?_
      rcases ite_e h with ⟨hc3, h⟩ | ⟨hc3, h⟩
      ·
        refine WP.icmpY (pc' := 28) d4_15 (XT.ii_lt_t hc3) (by decide) rfl ?_
        exact WP.weak (L' := [.unset]) trivial (ok4_28 l Z a0 hw n0  _ h)
      ·
        refine WP.icmpN d4_15 (XT.ii_lt_f hc3) ?_
        refine WP.iloadN d4_18 rfl ?_
        refine WP.bipush (126 : Int32) d4_19 rfl ?_
        rcases ite_e h with ⟨hc4, h⟩ | ⟨hc4, h⟩
        ·
          refine WP.icmpY (pc' := 28) d4_21 (XT.ii_gt_t hc4) (by decide) rfl ?_
          exact WP.weak (L' := [.unset]) trivial (ok4_28 l Z a0 hw n0  _ h)
        ·
          refine WP.icmpN d4_21 (XT.ii_gt_f hc4) ?_
          exact WP.weak (L' := [.unset]) trivial (ok4_24 l Z a0 hw n0  _ h)
theorem d3_0 : dc prog_1_method_2_code 0 (.iload_n 1) 1 := by decide +kernel
theorem d3_1 : dc prog_1_method_2_code 1 (.ifCond .lt 11) 3 := by decide +kernel
theorem d3_4 : dc prog_1_method_2_code 4 (.iload_n 1) 1 := by decide +kernel
theorem d3_5 : dc prog_1_method_2_code 5 (.aload_n 0) 1 := by decide +kernel
theorem d3_6 : dc prog_1_method_2_code 6 (.getfield 54) 3 := by decide +kernel
theorem d3_9 : dc prog_1_method_2_code 9 (.if_icmp .le 5) 3 := by decide +kernel
theorem d3_12 : dc prog_1_method_2_code 12 (.iconst 0) 1 := by decide +kernel
theorem d3_13 : dc prog_1_method_2_code 13 (.ireturn) 1 := by decide +kernel
theorem d3_14 : dc prog_1_method_2_code 14 (.iload_n 2) 1 := by decide +kernel
theorem d3_15 : dc prog_1_method_2_code 15 (.invokestatic 64) 3 := by decide +kernel
theorem d3_18 : dc prog_1_method_2_code 18 (.ifCond .ne 5) 3 := by decide +kernel
theorem d3_21 : dc prog_1_method_2_code 21 (.iconst 0) 1 := by decide +kernel
theorem d3_22 : dc prog_1_method_2_code 22 (.ireturn) 1 := by decide +kernel
theorem d3_23 : dc prog_1_method_2_code 23 (.aload_n 0) 1 := by decide +kernel
theorem d3_24 : dc prog_1_method_2_code 24 (.getfield 54) 3 := by decide +kernel
theorem d3_27 : dc prog_1_method_2_code 27 (.sipush 256) 3 := by decide +kernel
theorem d3_30 : dc prog_1_method_2_code 30 (.if_icmp .lt 5) 3 := by decide +kernel
theorem d3_33 : dc prog_1_method_2_code 33 (.iconst 0) 1 := by decide +kernel
theorem d3_34 : dc prog_1_method_2_code 34 (.ireturn) 1 := by decide +kernel
theorem d3_35 : dc prog_1_method_2_code 35 (.aload_n 0) 1 := by decide +kernel
theorem d3_36 : dc prog_1_method_2_code 36 (.getfield 54) 3 := by decide +kernel
theorem d3_39 : dc prog_1_method_2_code 39 (.istore_n 3) 1 := by decide +kernel
theorem d3_40 : dc prog_1_method_2_code 40 (.iload_n 3) 1 := by decide +kernel
theorem d3_41 : dc prog_1_method_2_code 41 (.iload_n 1) 1 := by decide +kernel
theorem d3_42 : dc prog_1_method_2_code 42 (.if_icmp .le 23) 3 := by decide +kernel
theorem d3_45 : dc prog_1_method_2_code 45 (.aload_n 0) 1 := by decide +kernel
theorem d3_46 : dc prog_1_method_2_code 46 (.getfield 7) 3 := by decide +kernel
theorem d3_49 : dc prog_1_method_2_code 49 (.iload_n 3) 1 := by decide +kernel
theorem d3_50 : dc prog_1_method_2_code 50 (.aload_n 0) 1 := by decide +kernel
theorem d3_51 : dc prog_1_method_2_code 51 (.getfield 7) 3 := by decide +kernel
theorem d3_54 : dc prog_1_method_2_code 54 (.iload_n 3) 1 := by decide +kernel
theorem d3_55 : dc prog_1_method_2_code 55 (.iconst 1) 1 := by decide +kernel
theorem d3_56 : dc prog_1_method_2_code 56 (.isub) 1 := by decide +kernel
theorem d3_57 : dc prog_1_method_2_code 57 (.iaload) 1 := by decide +kernel
theorem d3_58 : dc prog_1_method_2_code 58 (.iastore) 1 := by decide +kernel
theorem d3_59 : dc prog_1_method_2_code 59 (.iinc 3 (-1)) 3 := by decide +kernel
theorem d3_62 : dc prog_1_method_2_code 62 (.goto (-22)) 3 := by decide +kernel
theorem d3_65 : dc prog_1_method_2_code 65 (.aload_n 0) 1 := by decide +kernel
theorem d3_66 : dc prog_1_method_2_code 66 (.getfield 7) 3 := by decide +kernel
theorem d3_69 : dc prog_1_method_2_code 69 (.iload_n 1) 1 := by decide +kernel
theorem d3_70 : dc prog_1_method_2_code 70 (.iload_n 2) 1 := by decide +kernel
theorem d3_71 : dc prog_1_method_2_code 71 (.iastore) 1 := by decide +kernel
theorem d3_72 : dc prog_1_method_2_code 72 (.aload_n 0) 1 := by decide +kernel
theorem d3_73 : dc prog_1_method_2_code 73 (.dup) 1 := by decide +kernel
theorem d3_74 : dc prog_1_method_2_code 74 (.getfield 54) 3 := by decide +kernel
theorem d3_77 : dc prog_1_method_2_code 77 (.iconst 1) 1 := by decide +kernel
theorem d3_78 : dc prog_1_method_2_code 78 (.iadd) 1 := by decide +kernel
theorem d3_79 : dc prog_1_method_2_code 79 (.putfield 54) 3 := by decide +kernel
theorem d3_82 : dc prog_1_method_2_code 82 (.iconst 0) 1 := by decide +kernel
theorem d3_83 : dc prog_1_method_2_code 83 (.istore_n 3) 1 := by decide +kernel
theorem d3_84 : dc prog_1_method_2_code 84 (.iload_n 3) 1 := by decide +kernel
theorem d3_85 : dc prog_1_method_2_code 85 (.aload_n 0) 1 := by decide +kernel
theorem d3_86 : dc prog_1_method_2_code 86 (.getfield 57) 3 := by decide +kernel
theorem d3_89 : dc prog_1_method_2_code 89 (.if_icmp .ge 62) 3 := by decide +kernel
theorem d3_92 : dc prog_1_method_2_code 92 (.iload_n 1) 1 := by decide +kernel
theorem d3_93 : dc prog_1_method_2_code 93 (.aload_n 0) 1 := by decide +kernel
theorem d3_94 : dc prog_1_method_2_code 94 (.getfield 13) 3 := by decide +kernel
theorem d3_97 : dc prog_1_method_2_code 97 (.iload_n 3) 1 := by decide +kernel
theorem d3_98 : dc prog_1_method_2_code 98 (.iaload) 1 := by decide +kernel
theorem d3_99 : dc prog_1_method_2_code 99 (.if_icmp .gt 26) 3 := by decide +kernel
theorem d3_102 : dc prog_1_method_2_code 102 (.aload_n 0) 1 := by decide +kernel
theorem d3_103 : dc prog_1_method_2_code 103 (.getfield 13) 3 := by decide +kernel
theorem d3_106 : dc prog_1_method_2_code 106 (.iload_n 3) 1 := by decide +kernel
theorem d3_107 : dc prog_1_method_2_code 107 (.dup2) 1 := by decide +kernel
theorem d3_108 : dc prog_1_method_2_code 108 (.iaload) 1 := by decide +kernel
theorem d3_109 : dc prog_1_method_2_code 109 (.iconst 1) 1 := by decide +kernel
theorem d3_110 : dc prog_1_method_2_code 110 (.iadd) 1 := by decide +kernel
theorem d3_111 : dc prog_1_method_2_code 111 (.iastore) 1 := by decide +kernel
theorem d3_112 : dc prog_1_method_2_code 112 (.aload_n 0) 1 := by decide +kernel
theorem d3_113 : dc prog_1_method_2_code 113 (.getfield 16) 3 := by decide +kernel
theorem d3_116 : dc prog_1_method_2_code 116 (.iload_n 3) 1 := by decide +kernel
theorem d3_117 : dc prog_1_method_2_code 117 (.dup2) 1 := by decide +kernel
theorem d3_118 : dc prog_1_method_2_code 118 (.iaload) 1 := by decide +kernel
theorem d3_119 : dc prog_1_method_2_code 119 (.iconst 1) 1 := by decide +kernel
theorem d3_120 : dc prog_1_method_2_code 120 (.iadd) 1 := by decide +kernel
theorem d3_121 : dc prog_1_method_2_code 121 (.iastore) 1 := by decide +kernel
theorem d3_122 : dc prog_1_method_2_code 122 (.goto 23) 3 := by decide +kernel
theorem d3_125 : dc prog_1_method_2_code 125 (.iload_n 1) 1 := by decide +kernel
theorem d3_126 : dc prog_1_method_2_code 126 (.aload_n 0) 1 := by decide +kernel
theorem d3_127 : dc prog_1_method_2_code 127 (.getfield 16) 3 := by decide +kernel
theorem d3_130 : dc prog_1_method_2_code 130 (.iload_n 3) 1 := by decide +kernel
theorem d3_131 : dc prog_1_method_2_code 131 (.iaload) 1 := by decide +kernel
theorem d3_132 : dc prog_1_method_2_code 132 (.if_icmp .ge 13) 3 := by decide +kernel
theorem d3_135 : dc prog_1_method_2_code 135 (.aload_n 0) 1 := by decide +kernel
theorem d3_136 : dc prog_1_method_2_code 136 (.getfield 16) 3 := by decide +kernel
theorem d3_139 : dc prog_1_method_2_code 139 (.iload_n 3) 1 := by decide +kernel
theorem d3_140 : dc prog_1_method_2_code 140 (.dup2) 1 := by decide +kernel
theorem d3_141 : dc prog_1_method_2_code 141 (.iaload) 1 := by decide +kernel
theorem d3_142 : dc prog_1_method_2_code 142 (.iconst 1) 1 := by decide +kernel
theorem d3_143 : dc prog_1_method_2_code 143 (.iadd) 1 := by decide +kernel
theorem d3_144 : dc prog_1_method_2_code 144 (.iastore) 1 := by decide +kernel
theorem d3_145 : dc prog_1_method_2_code 145 (.iinc 3 1) 3 := by decide +kernel
theorem d3_148 : dc prog_1_method_2_code 148 (.goto (-64)) 3 := by decide +kernel
theorem d3_151 : dc prog_1_method_2_code 151 (.aload_n 0) 1 := by decide +kernel
theorem d3_152 : dc prog_1_method_2_code 152 (.iconst 1) 1 := by decide +kernel
theorem d3_153 : dc prog_1_method_2_code 153 (.putfield 60) 3 := by decide +kernel
theorem d3_156 : dc prog_1_method_2_code 156 (.iconst 1) 1 := by decide +kernel
theorem d3_157 : dc prog_1_method_2_code 157 (.ireturn) 1 := by decide +kernel
abbrev y3 : MethodName := ⟨"DisplayMap", "insert", "(II)Z"⟩
theorem hy3 : y3.cls ≠ "java/lang/invoke/MethodHandle" ∧ y3.cls ≠ "java/lang/invoke/VarHandle" := by decide
theorem pd3 : parseMethodDescriptor y3.desc = some ⟨[.int, .int], some .boolean⟩ := by decide +kernel
abbrev R3 : Room := { frames := 1, cells := 0, slots := 0, locals := 12 }
abbrev P3 (r : Int32 × St) : Option Value → List OwnC → Prop := fun v H' => v = some (.int r.1) ∧ H' = (Hb 0 r.2)
abbrev W3 (l : Launch) (Z : State) (n0 : Nat) (Q : Option Value → List OwnC → Prop) (k n pc : Nat) (L : List Slot) (S : List Value) (H : List OwnC) : Prop := WP l Z CN lay "DisplayMap" "insert" prog_1_method_2_code 4 (some FieldType.boolean) R3 n0 0 Q k n pc L S H
def f_insert_12 (n : Nat) (s : St) : Option (Int32 × St) :=
  some ((0 : Int32), s)
set_option maxRecDepth 65536 in
set_option maxHeartbeats 4000000 in
theorem ok3_12 (l : Launch) (Z : State) (a0 : Array Value) (hw : HW a0 Z) (n0 : Nat) (n : Nat) (s : St) (r : Int32 × St) (h : f_insert_12 n s = some r) : W3 l Z n0 (P3 r) 0 0 12 [.unset, .unset, .unset, .unset] [] (Hb 0 s) := by
  unfold f_insert_12 at h
  refine WP.iconst (0 : Int32) d3_12 rfl ?_
  cases h
  exact WP.zreturn d3_13 rfl (leb rfl) (leb rfl) ⟨rfl, rfl⟩
def f_insert_145 (k84 : Int32 → Int32 → St → Option (Int32 × St)) (n : Nat) (v1 : Int32) (v3 : Int32) (s : St) : Option (Int32 × St) :=
  lt (v3 + (1 : Int32)) fun x1 =>
  k84 v1 x1 s
set_option maxRecDepth 65536 in
set_option maxHeartbeats 4000000 in
theorem ok3_145 (l : Launch) (Z : State) (a0 : Array Value) (hw : HW a0 Z) (n0 : Nat) (k84 : Int32 → Int32 → St → Option (Int32 × St)) (hk84 : ∀ (v1 : Int32) (v3 : Int32) (s : St) (r : Int32 × St), k84 v1 v3 s = some r → W3 l Z n0 (P3 r) 0 0 84 [.val (.ref 0), .val (.int v1), .unset, .val (.int v3)] [] (Hb 0 s)) (n : Nat) (v1 : Int32) (v3 : Int32) (s : St) (r : Int32 × St) (h : f_insert_145 k84 n v1 v3 s = some r) : W3 l Z n0 (P3 r) 0 0 145 [.val (.ref 0), .val (.int v1), .unset, .val (.int v3)] [] (Hb 0 s) := by
  unfold f_insert_145 at h
  obtain ⟨x1, ex1, h⟩ := lt_e h
  refine WP.iinc (L' := [.val (.ref 0), .val (.int v1), .unset, .val (.int x1)]) (1 : Int32) d3_145 rfl rfl (by subst ex1; rfl) ?_
  refine WP.goto (pc' := 84) d3_148 (by decide) rfl ?_
  exact WP.weak (L' := [.val (.ref 0), .val (.int v1), .unset, .val (.int x1)]) ⟨rfl, rfl, rfl, trivial⟩ (hk84 v1 x1 s _ h)
def g_insert_84 (k84 : Int32 → Int32 → St → Option (Int32 × St)) (n : Nat) (v1 : Int32) (v3 : Int32) (s : St) : Option (Int32 × St) :=
  if v3 < (gI s 1) then
    (rd (gA s 1) v3).bind fun x2 =>
    if x2 < v1 then
      (rd (gA s 2) v3).bind fun x4 =>
      if v1 < x4 then
        (rd (gA s 2) v3).bind fun x6 =>
        (wrA s 2 v3 (x6 + (1 : Int32))).bind fun s7 =>
        f_insert_145 k84 n v1 v3 s7
      else
        f_insert_145 k84 n v1 v3 s
    else
      (rd (gA s 1) v3).bind fun x8 =>
      (wrA s 1 v3 (x8 + (1 : Int32))).bind fun s9 =>
      (rd (gA s9 2) v3).bind fun x10 =>
      (wrA s9 2 v3 (x10 + (1 : Int32))).bind fun s11 =>
      f_insert_145 k84 n v1 v3 s11
  else
    lt (sI s 4 (1 : Int32)) fun s12 =>
    some ((1 : Int32), s12)
set_option maxRecDepth 65536 in
set_option maxHeartbeats 4000000 in
theorem okg3_84 (l : Launch) (Z : State) (a0 : Array Value) (hw : HW a0 Z) (n0 : Nat) (k84 : Int32 → Int32 → St → Option (Int32 × St)) (hk84 : ∀ (v1 : Int32) (v3 : Int32) (s : St) (r : Int32 × St), k84 v1 v3 s = some r → W3 l Z n0 (P3 r) 0 0 84 [.val (.ref 0), .val (.int v1), .unset, .val (.int v3)] [] (Hb 0 s)) (n : Nat) (v1 : Int32) (v3 : Int32) (s : St) (r : Int32 × St) (h : g_insert_84 k84 n v1 v3 s = some r) : W3 l Z n0 (P3 r) 0 0 84 [.val (.ref 0), .val (.int v1), .unset, .val (.int v3)] [] (Hb 0 s) := by
  unfold g_insert_84 at h
  refine WP.iloadN d3_84 rfl ?_
  refine WP.aloadN d3_85 rfl ?_
  refine WP.getfield (i := 0) (j := 4) d3_86 (hw _ m_42) rfl rfl rfl ?_
  rcases ite_e h with ⟨hc1, h⟩ | ⟨hc1, h⟩
  ·
    refine WP.icmpN d3_89 (XT.ii_ge_f hc1) ?_
    refine WP.iloadN d3_92 rfl ?_
    refine WP.aloadN d3_93 rfl ?_
    refine WP.getfield (i := 0) (j := 2) d3_94 (hw _ m_12) rfl rfl rfl ?_
    refine WP.iloadN d3_97 rfl ?_
    obtain ⟨x2, hx2, h⟩ := Option.bind_eq_some_iff.mp h
    refine WP.iaload (i := 2) d3_98 rfl hx2 ?_
    rcases ite_e h with ⟨hc3, h⟩ | ⟨hc3, h⟩
    ·
      refine WP.icmpY (pc' := 125) d3_99 (XT.ii_gt_t hc3) (by decide) rfl ?_
      refine WP.iloadN d3_125 rfl ?_
      refine WP.aloadN d3_126 rfl ?_
      refine WP.getfield (i := 0) (j := 3) d3_127 (hw _ m_14) rfl rfl rfl ?_
      refine WP.iloadN d3_130 rfl ?_
      obtain ⟨x4, hx4, h⟩ := Option.bind_eq_some_iff.mp h
      refine WP.iaload (i := 3) d3_131 rfl hx4 ?_
      rcases ite_e h with ⟨hc5, h⟩ | ⟨hc5, h⟩
      ·
        refine WP.icmpN d3_132 (XT.ii_ge_f hc5) ?_
        refine WP.aloadN d3_135 rfl ?_
        refine WP.getfield (i := 0) (j := 3) d3_136 (hw _ m_14) rfl rfl rfl ?_
        refine WP.iloadN d3_139 rfl ?_
        refine WP.dup2 d3_140 rfl rfl ?_
        obtain ⟨x6, hx6, h⟩ := Option.bind_eq_some_iff.mp h
        refine WP.iaload (i := 3) d3_141 rfl hx6 ?_
        refine WP.iconst (1 : Int32) d3_142 rfl ?_
        refine WP.iadd d3_143 ?_
        obtain ⟨s7, hs7, h⟩ := Option.bind_eq_some_iff.mp h
        obtain ⟨ys7, gs7, es7⟩ := wrA_e hs7
        refine WP.iastore (i := 3) (xs := gA s 2) (H' := (Hb 0 s7)) d3_144 rfl (leb rfl) gs7 (by subst es7; rfl) ?_
        exact WP.weak (L' := [.val (.ref 0), .val (.int v1), .unset, .val (.int v3)]) ⟨rfl, rfl, rfl, trivial⟩ (ok3_145 l Z a0 hw n0 _ hk84 n v1 v3 s7 _ h)
      ·
        refine WP.icmpY (pc' := 145) d3_132 (XT.ii_ge_t hc5) (by decide) rfl ?_
        exact WP.weak (L' := [.val (.ref 0), .val (.int v1), .unset, .val (.int v3)]) ⟨rfl, rfl, rfl, trivial⟩ (ok3_145 l Z a0 hw n0 _ hk84 n v1 v3 s _ h)
    ·
      refine WP.icmpN d3_99 (XT.ii_gt_f hc3) ?_
      refine WP.aloadN d3_102 rfl ?_
      refine WP.getfield (i := 0) (j := 2) d3_103 (hw _ m_12) rfl rfl rfl ?_
      refine WP.iloadN d3_106 rfl ?_
      refine WP.dup2 d3_107 rfl rfl ?_
      obtain ⟨x8, hx8, h⟩ := Option.bind_eq_some_iff.mp h
      refine WP.iaload (i := 2) d3_108 rfl hx8 ?_
      refine WP.iconst (1 : Int32) d3_109 rfl ?_
      refine WP.iadd d3_110 ?_
      obtain ⟨s9, hs9, h⟩ := Option.bind_eq_some_iff.mp h
      obtain ⟨ys9, gs9, es9⟩ := wrA_e hs9
      refine WP.iastore (i := 2) (xs := gA s 1) (H' := (Hb 0 s9)) d3_111 rfl (leb rfl) gs9 (by subst es9; rfl) ?_
      refine WP.aloadN d3_112 rfl ?_
      refine WP.getfield (i := 0) (j := 3) d3_113 (hw _ m_14) rfl rfl rfl ?_
      refine WP.iloadN d3_116 rfl ?_
      refine WP.dup2 d3_117 rfl rfl ?_
      obtain ⟨x10, hx10, h⟩ := Option.bind_eq_some_iff.mp h
      refine WP.iaload (i := 3) d3_118 rfl hx10 ?_
      refine WP.iconst (1 : Int32) d3_119 rfl ?_
      refine WP.iadd d3_120 ?_
      obtain ⟨s11, hs11, h⟩ := Option.bind_eq_some_iff.mp h
      obtain ⟨ys11, gs11, es11⟩ := wrA_e hs11
      refine WP.iastore (i := 3) (xs := gA s9 2) (H' := (Hb 0 s11)) d3_121 rfl (leb rfl) gs11 (by subst es11; rfl) ?_
      refine WP.goto (pc' := 145) d3_122 (by decide) rfl ?_
      exact WP.weak (L' := [.val (.ref 0), .val (.int v1), .unset, .val (.int v3)]) ⟨rfl, rfl, rfl, trivial⟩ (ok3_145 l Z a0 hw n0 _ hk84 n v1 v3 s11 _ h)
  ·
    refine WP.icmpY (pc' := 151) d3_89 (XT.ii_ge_t hc1) (by decide) rfl ?_
    refine WP.aloadN d3_151 rfl ?_
    refine WP.iconst (1 : Int32) d3_152 rfl ?_
    obtain ⟨s12, es12, h⟩ := lt_e h
    refine WP.putZ (i := 0) (j := 7) (H' := (Hb 0 s12)) d3_153 (hw _ m_44) (Or.inl (hw _ m_45)) (hw _ m_1) (hlay hw) rfl rfl rfl (leb rfl) (by subst es12; rfl) ?_
    refine WP.iconst (1 : Int32) d3_156 rfl ?_
    cases h
    exact WP.zreturn d3_157 rfl (leb rfl) (leb rfl) ⟨rfl, rfl⟩
def f_insert_84 : Nat → Int32 → Int32 → St → Option (Int32 × St)
  | 0 => fun _ _ _ => none
  | n + 1 => g_insert_84 (f_insert_84 n) n
theorem ok3_84 (l : Launch) (Z : State) (a0 : Array Value) (hw : HW a0 Z) (n0 : Nat) : ∀ (n : Nat) (v1 : Int32) (v3 : Int32) (s : St) (r : Int32 × St), f_insert_84 n v1 v3 s = some r → W3 l Z n0 (P3 r) 0 0 84 [.val (.ref 0), .val (.int v1), .unset, .val (.int v3)] [] (Hb 0 s)
  | 0, v1, v3, s, r, h => nomatch (show none = some r from h)
  | n + 1, v1, v3, s, r, h => okg3_84 l Z a0 hw n0 _ (ok3_84 l Z a0 hw n0 n) n v1 v3 s r h
def g_insert_40 (k40 : Int32 → Int32 → Int32 → St → Option (Int32 × St)) (n : Nat) (v1 : Int32) (v2 : Int32) (v3 : Int32) (s : St) : Option (Int32 × St) :=
  if v1 < v3 then
    (rd (gA s 0) (v3 - (1 : Int32))).bind fun x2 =>
    (wrA s 0 v3 x2).bind fun s3 =>
    lt (v3 + (-1 : Int32)) fun x4 =>
    k40 v1 v2 x4 s3
  else
    (wrA s 0 v1 v2).bind fun s5 =>
    lt (sI s5 0 ((gI s5 0) + (1 : Int32))) fun s6 =>
    f_insert_84 n v1 (0 : Int32) s6
set_option maxRecDepth 65536 in
set_option maxHeartbeats 4000000 in
theorem okg3_40 (l : Launch) (Z : State) (a0 : Array Value) (hw : HW a0 Z) (n0 : Nat) (k40 : Int32 → Int32 → Int32 → St → Option (Int32 × St)) (hk40 : ∀ (v1 : Int32) (v2 : Int32) (v3 : Int32) (s : St) (r : Int32 × St), k40 v1 v2 v3 s = some r → W3 l Z n0 (P3 r) 0 0 40 [.val (.ref 0), .val (.int v1), .val (.int v2), .val (.int v3)] [] (Hb 0 s)) (n : Nat) (v1 : Int32) (v2 : Int32) (v3 : Int32) (s : St) (r : Int32 × St) (h : g_insert_40 k40 n v1 v2 v3 s = some r) : W3 l Z n0 (P3 r) 0 0 40 [.val (.ref 0), .val (.int v1), .val (.int v2), .val (.int v3)] [] (Hb 0 s) := by
  unfold g_insert_40 at h
  refine WP.iloadN d3_40 rfl ?_
  refine WP.iloadN d3_41 rfl ?_
  rcases ite_e h with ⟨hc1, h⟩ | ⟨hc1, h⟩
  ·
    refine WP.icmpN d3_42 (XT.ii_le_f hc1) ?_
    refine WP.aloadN d3_45 rfl ?_
    refine WP.getfield (i := 0) (j := 0) d3_46 (hw _ m_10) rfl rfl rfl ?_
    refine WP.iloadN d3_49 rfl ?_
    refine WP.aloadN d3_50 rfl ?_
    refine WP.getfield (i := 0) (j := 0) d3_51 (hw _ m_10) rfl rfl rfl ?_
    refine WP.iloadN d3_54 rfl ?_
    refine WP.iconst (1 : Int32) d3_55 rfl ?_
    refine WP.isub d3_56 ?_
    obtain ⟨x2, hx2, h⟩ := Option.bind_eq_some_iff.mp h
    refine WP.iaload (i := 1) d3_57 rfl hx2 ?_
    obtain ⟨s3, hs3, h⟩ := Option.bind_eq_some_iff.mp h
    obtain ⟨ys3, gs3, es3⟩ := wrA_e hs3
    refine WP.iastore (i := 1) (xs := gA s 0) (H' := (Hb 0 s3)) d3_58 rfl (leb rfl) gs3 (by subst es3; rfl) ?_
    obtain ⟨x4, ex4, h⟩ := lt_e h
    refine WP.iinc (L' := [.val (.ref 0), .val (.int v1), .val (.int v2), .val (.int x4)]) (-1 : Int32) d3_59 rfl rfl (by subst ex4; rfl) ?_
    refine WP.goto (pc' := 40) d3_62 (by decide) rfl ?_
    exact WP.weak (L' := [.val (.ref 0), .val (.int v1), .val (.int v2), .val (.int x4)]) ⟨rfl, rfl, rfl, rfl, trivial⟩ (hk40 v1 v2 x4 s3 _ h)
  ·
    refine WP.icmpY (pc' := 65) d3_42 (XT.ii_le_t hc1) (by decide) rfl ?_
    refine WP.aloadN d3_65 rfl ?_
    refine WP.getfield (i := 0) (j := 0) d3_66 (hw _ m_10) rfl rfl rfl ?_
    refine WP.iloadN d3_69 rfl ?_
    refine WP.iloadN d3_70 rfl ?_
    obtain ⟨s5, hs5, h⟩ := Option.bind_eq_some_iff.mp h
    obtain ⟨ys5, gs5, es5⟩ := wrA_e hs5
    refine WP.iastore (i := 1) (xs := gA s 0) (H' := (Hb 0 s5)) d3_71 rfl (leb rfl) gs5 (by subst es5; rfl) ?_
    refine WP.aloadN d3_72 rfl ?_
    refine WP.dup d3_73 rfl ?_
    refine WP.getfield (i := 0) (j := 1) d3_74 (hw _ m_40) rfl rfl rfl ?_
    refine WP.iconst (1 : Int32) d3_77 rfl ?_
    refine WP.iadd d3_78 ?_
    obtain ⟨s6, es6, h⟩ := lt_e h
    refine WP.putI (i := 0) (j := 1) (H' := (Hb 0 s6)) d3_79 (hw _ m_40) (Or.inl (hw _ m_41)) (hw _ m_1) (hlay hw) rfl rfl rfl (leb rfl) (by subst es6; rfl) ?_
    refine WP.iconst (0 : Int32) d3_82 rfl ?_
    refine WP.istoreN (L' := [.val (.ref 0), .val (.int v1), .val (.int v2), .val (.int (0 : Int32))]) d3_83 (leb rfl) rfl ?_
    exact WP.weak (L' := [.val (.ref 0), .val (.int v1), .unset, .val (.int (0 : Int32))]) ⟨rfl, rfl, rfl, trivial⟩ (ok3_84 l Z a0 hw n0 n v1 (0 : Int32) s6 _ h)
def f_insert_40 : Nat → Int32 → Int32 → Int32 → St → Option (Int32 × St)
  | 0 => fun _ _ _ _ => none
  | n + 1 => g_insert_40 (f_insert_40 n) n
theorem ok3_40 (l : Launch) (Z : State) (a0 : Array Value) (hw : HW a0 Z) (n0 : Nat) : ∀ (n : Nat) (v1 : Int32) (v2 : Int32) (v3 : Int32) (s : St) (r : Int32 × St), f_insert_40 n v1 v2 v3 s = some r → W3 l Z n0 (P3 r) 0 0 40 [.val (.ref 0), .val (.int v1), .val (.int v2), .val (.int v3)] [] (Hb 0 s)
  | 0, v1, v2, v3, s, r, h => nomatch (show none = some r from h)
  | n + 1, v1, v2, v3, s, r, h => okg3_40 l Z a0 hw n0 _ (ok3_40 l Z a0 hw n0 n) n v1 v2 v3 s r h
def f_insert (n : Nat) (p1 : Int32) (p2 : Int32) (s : St) : Option (Int32 × St) :=
  if p1 < 0 then
    f_insert_12 n s
  else
    if (gI s 0) < p1 then
      f_insert_12 n s
    else
      (f_validChar p2).bind fun c3 =>
      if c3 = 0 then
        some ((0 : Int32), s)
      else
        if (gI s 0) < (256 : Int32) then
          lt (gI s 0) fun x6 =>
          f_insert_40 n p1 p2 x6 s
        else
          some ((0 : Int32), s)
set_option maxRecDepth 65536 in
set_option maxHeartbeats 4000000 in
theorem ok3 (l : Launch) (Z : State) (a0 : Array Value) (hw : HW a0 Z) (n : Nat) (p1 : Int32) (p2 : Int32) (s : St) (r : Int32 × St) (h : f_insert n p1 p2 s = some r) : CS l Z CN lay y3 prog_1_method_2_code 4 (some FieldType.boolean) R3 0 [.ref 0, .int p1, .int p2] (Hb 0 s) (P3 r) := by
  refine CS.of_wp pn_cls (leb rfl) fun n0 => ?_
  show W3 l Z n0 (P3 r) 0 0 0 [.val (.ref 0), .val (.int p1), .val (.int p2), .unset] [] (Hb 0 s)
  unfold f_insert at h
  refine WP.iloadN d3_0 rfl ?_
  rcases ite_e h with ⟨hc1, h⟩ | ⟨hc1, h⟩
  ·
    refine WP.ifY (pc' := 12) d3_1 (XT.i0_lt_t hc1) (by decide) rfl ?_
    exact WP.weak (L' := [.unset, .unset, .unset, .unset]) trivial (ok3_12 l Z a0 hw n0 n s _ h)
  ·
    refine WP.ifN d3_1 (XT.i0_lt_f hc1) ?_
    refine WP.iloadN d3_4 rfl ?_
    refine WP.aloadN d3_5 rfl ?_
    refine WP.getfield (i := 0) (j := 1) d3_6 (hw _ m_40) rfl rfl rfl ?_
    rcases ite_e h with ⟨hc2, h⟩ | ⟨hc2, h⟩
    ·
      refine WP.icmpN d3_9 (XT.ii_le_f hc2) ?_
      exact WP.weak (L' := [.unset, .unset, .unset, .unset]) trivial (ok3_12 l Z a0 hw n0 n s _ h)
    ·
      refine WP.icmpY (pc' := 14) d3_9 (XT.ii_le_t hc2) (by decide) rfl ?_
      refine WP.iloadN d3_14 rfl ?_
      obtain ⟨c3, hc3, h⟩ := Option.bind_eq_some_iff.mp h
      refine WP.callS (y := y4) (as := [.int p2]) (S := []) d3_15 (hw _ m_51) (hw _ m_52) (hw _ m_2) (hw _ m_53) hy4 (CS.frame (ro := 0) (H := (Hb 0 s)) (as := [.int p2]) fr0_f (ok4 l Z a0 hw p2 _ hc3) rfl (by decide) (fr0_l s) (fr0_c s) (by decide) rfl) rfl (lenOf pd4 rfl) (leb rfl) (leb rfl) (leb rfl) (leb rfl) ?_
      rintro _ _ ⟨_, _, ⟨rfl, rfl⟩, rfl, rfl⟩
      rw [fr0_p s]
      show W3 l Z n0 (P3 r) 0 0 18 [.val (.ref 0), .val (.int p1), .val (.int p2), .unset] [.int c3] (Hb 0 s)
      rcases ite_e h with ⟨hc4, h⟩ | ⟨hc4, h⟩
      ·
        refine WP.ifN d3_18 (XT.i0_ne_f hc4) ?_
        refine WP.iconst (0 : Int32) d3_21 rfl ?_
        cases h
        exact WP.zreturn d3_22 rfl (leb rfl) (leb rfl) ⟨rfl, rfl⟩
      ·
        refine WP.ifY (pc' := 23) d3_18 (XT.i0_ne_t hc4) (by decide) rfl ?_
        refine WP.aloadN d3_23 rfl ?_
        refine WP.getfield (i := 0) (j := 1) d3_24 (hw _ m_40) rfl rfl rfl ?_
        refine WP.sipush (256 : Int32) d3_27 rfl ?_
        rcases ite_e h with ⟨hc5, h⟩ | ⟨hc5, h⟩
        ·
          refine WP.icmpY (pc' := 35) d3_30 (XT.ii_lt_t hc5) (by decide) rfl ?_
          refine WP.aloadN d3_35 rfl ?_
          refine WP.getfield (i := 0) (j := 1) d3_36 (hw _ m_40) rfl rfl rfl ?_
          obtain ⟨x6, ex6, h⟩ := lt_e h
          refine WP.istoreN (L' := [.val (.ref 0), .val (.int p1), .val (.int p2), .val (.int x6)]) d3_39 (leb rfl) (by subst ex6; rfl) ?_
          exact WP.weak (L' := [.val (.ref 0), .val (.int p1), .val (.int p2), .val (.int x6)]) ⟨rfl, rfl, rfl, rfl, trivial⟩ (ok3_40 l Z a0 hw n0 n p1 p2 x6 s _ h)
        ·
          refine WP.icmpN d3_30 (XT.ii_lt_f hc5) ?_
          refine WP.iconst (0 : Int32) d3_33 rfl ?_
          cases h
          exact WP.zreturn d3_34 rfl (leb rfl) (leb rfl) ⟨rfl, rfl⟩
theorem d5_0 : dc prog_1_method_8_code 0 (.aload_n 0) 1 := by decide +kernel
theorem d5_1 : dc prog_1_method_8_code 1 (.getfield 54) 3 := by decide +kernel
theorem d5_4 : dc prog_1_method_8_code 4 (.ireturn) 1 := by decide +kernel
abbrev y5 : MethodName := ⟨"DisplayMap", "length", "()I"⟩
theorem hy5 : y5.cls ≠ "java/lang/invoke/MethodHandle" ∧ y5.cls ≠ "java/lang/invoke/VarHandle" := by decide
theorem pd5 : parseMethodDescriptor y5.desc = some ⟨[], some .int⟩ := by decide +kernel
abbrev R5 : Room := { frames := 0, cells := 0, slots := 0, locals := 0 }
abbrev P5 (s : St) (r : Int32) : Option Value → List OwnC → Prop := fun v H' => v = some (.int r) ∧ H' = (Hb 0 s)
abbrev W5 (l : Launch) (Z : State) (n0 : Nat) (Q : Option Value → List OwnC → Prop) (k n pc : Nat) (L : List Slot) (S : List Value) (H : List OwnC) : Prop := WP l Z CN lay "DisplayMap" "length" prog_1_method_8_code 1 (some FieldType.int) R5 n0 0 Q k n pc L S H
def f_length (s : St) : Option (Int32) :=
  some (gI s 0)
set_option maxRecDepth 65536 in
set_option maxHeartbeats 4000000 in
theorem ok5 (l : Launch) (Z : State) (a0 : Array Value) (hw : HW a0 Z) (s : St) (r : Int32) (h : f_length s = some r) : CS l Z CN lay y5 prog_1_method_8_code 1 (some FieldType.int) R5 0 [.ref 0] (Hb 0 s) (P5 s r) := by
  refine CS.of_wp pn_cls (leb rfl) fun n0 => ?_
  show W5 l Z n0 (P5 s r) 0 0 0 [.val (.ref 0)] [] (Hb 0 s)
  unfold f_length at h
  refine WP.aloadN d5_0 rfl ?_
  refine WP.getfield (i := 0) (j := 1) d5_1 (hw _ m_40) rfl rfl rfl ?_
  cases h
  exact WP.ireturn d5_4 rfl (leb rfl) (leb rfl) ⟨rfl, rfl⟩
theorem d9_0 : dc prog_1_method_27_code 0 (.aload_n 0) 1 := by decide +kernel
theorem d9_1 : dc prog_1_method_27_code 1 (.iload_n 1) 1 := by decide +kernel
theorem d9_2 : dc prog_1_method_27_code 2 (.putfield 108) 3 := by decide +kernel
theorem d9_5 : dc prog_1_method_27_code 5 (.aload_n 0) 1 := by decide +kernel
theorem d9_6 : dc prog_1_method_27_code 6 (.iconst 0) 1 := by decide +kernel
theorem d9_7 : dc prog_1_method_27_code 7 (.putfield 111) 3 := by decide +kernel
theorem d9_10 : dc prog_1_method_27_code 10 (.aload_n 0) 1 := by decide +kernel
theorem d9_11 : dc prog_1_method_27_code 11 (.aload_n 0) 1 := by decide +kernel
theorem d9_12 : dc prog_1_method_27_code 12 (.getfield 88) 3 := by decide +kernel
theorem d9_15 : dc prog_1_method_27_code 15 (.putfield 114) 3 := by decide +kernel
theorem d9_18 : dc prog_1_method_27_code 18 (.aload_n 0) 1 := by decide +kernel
theorem d9_19 : dc prog_1_method_27_code 19 (.iconst 0) 1 := by decide +kernel
theorem d9_20 : dc prog_1_method_27_code 20 (.putfield 117) 3 := by decide +kernel
theorem d9_23 : dc prog_1_method_27_code 23 (.return_) 1 := by decide +kernel
abbrev y9 : MethodName := ⟨"DisplayMap", "openRow", "(I)V"⟩
theorem hy9 : y9.cls ≠ "java/lang/invoke/MethodHandle" ∧ y9.cls ≠ "java/lang/invoke/VarHandle" := by decide
theorem pd9 : parseMethodDescriptor y9.desc = some ⟨[.int], none⟩ := by decide +kernel
abbrev R9 : Room := { frames := 0, cells := 0, slots := 0, locals := 0 }
abbrev P9 (r : St) : Option Value → List OwnC → Prop := fun v H' => v = none ∧ H' = (Hb 0 r)
abbrev W9 (l : Launch) (Z : State) (n0 : Nat) (Q : Option Value → List OwnC → Prop) (k n pc : Nat) (L : List Slot) (S : List Value) (H : List OwnC) : Prop := WP l Z CN lay "DisplayMap" "openRow" prog_1_method_27_code 2 (none) R9 n0 0 Q k n pc L S H
def f_openRow (p1 : Int32) (s : St) : Option (St) :=
  lt (sI s 7 p1) fun s1 =>
  lt (sI s1 8 (0 : Int32)) fun s2 =>
  lt (sI s2 9 (gI s2 5)) fun s3 =>
  lt (sI s3 10 (0 : Int32)) fun s4 =>
  some s4
set_option maxRecDepth 65536 in
set_option maxHeartbeats 4000000 in
theorem ok9 (l : Launch) (Z : State) (a0 : Array Value) (hw : HW a0 Z) (p1 : Int32) (s : St) (r : St) (h : f_openRow p1 s = some r) : CS l Z CN lay y9 prog_1_method_27_code 2 (none) R9 0 [.ref 0, .int p1] (Hb 0 s) (P9 r) := by
  refine CS.of_wp pn_cls (leb rfl) fun n0 => ?_
  show W9 l Z n0 (P9 r) 0 0 0 [.val (.ref 0), .val (.int p1)] [] (Hb 0 s)
  unfold f_openRow at h
  refine WP.aloadN d9_0 rfl ?_
  refine WP.iloadN d9_1 rfl ?_
  obtain ⟨s1, es1, h⟩ := lt_e h
  refine WP.putI (i := 0) (j := 17) (H' := (Hb 0 s1)) d9_2 (hw _ m_80) (Or.inl (hw _ m_81)) (hw _ m_1) (hlay hw) rfl rfl rfl (leb rfl) (by subst es1; rfl) ?_
  refine WP.aloadN d9_5 rfl ?_
  refine WP.iconst (0 : Int32) d9_6 rfl ?_
  obtain ⟨s2, es2, h⟩ := lt_e h
  refine WP.putI (i := 0) (j := 18) (H' := (Hb 0 s2)) d9_7 (hw _ m_82) (Or.inl (hw _ m_83)) (hw _ m_1) (hlay hw) rfl rfl rfl (leb rfl) (by subst es2; rfl) ?_
  refine WP.aloadN d9_10 rfl ?_
  refine WP.aloadN d9_11 rfl ?_
  refine WP.getfield (i := 0) (j := 11) d9_12 (hw _ m_72) rfl rfl rfl ?_
  obtain ⟨s3, es3, h⟩ := lt_e h
  refine WP.putI (i := 0) (j := 19) (H' := (Hb 0 s3)) d9_15 (hw _ m_84) (Or.inl (hw _ m_85)) (hw _ m_1) (hlay hw) rfl rfl rfl (leb rfl) (by subst es3; rfl) ?_
  refine WP.aloadN d9_18 rfl ?_
  refine WP.iconst (0 : Int32) d9_19 rfl ?_
  obtain ⟨s4, es4, h⟩ := lt_e h
  refine WP.putI (i := 0) (j := 20) (H' := (Hb 0 s4)) d9_20 (hw _ m_86) (Or.inl (hw _ m_87)) (hw _ m_1) (hlay hw) rfl rfl rfl (leb rfl) (by subst es4; rfl) ?_
  cases h
  exact WP.vreturn d9_23 rfl (leb rfl) (leb rfl) ⟨rfl, rfl⟩
theorem d10_0 : dc prog_1_method_23_code 0 (.iconst 0) 1 := by decide +kernel
theorem d10_1 : dc prog_1_method_23_code 1 (.istore_n 2) 1 := by decide +kernel
theorem d10_2 : dc prog_1_method_23_code 2 (.iload_n 2) 1 := by decide +kernel
theorem d10_3 : dc prog_1_method_23_code 3 (.aload_n 0) 1 := by decide +kernel
theorem d10_4 : dc prog_1_method_23_code 4 (.getfield 57) 3 := by decide +kernel
theorem d10_7 : dc prog_1_method_23_code 7 (.if_icmp .ge 21) 3 := by decide +kernel
theorem d10_10 : dc prog_1_method_23_code 10 (.aload_n 0) 1 := by decide +kernel
theorem d10_11 : dc prog_1_method_23_code 11 (.getfield 13) 3 := by decide +kernel
theorem d10_14 : dc prog_1_method_23_code 14 (.iload_n 2) 1 := by decide +kernel
theorem d10_15 : dc prog_1_method_23_code 15 (.iaload) 1 := by decide +kernel
theorem d10_16 : dc prog_1_method_23_code 16 (.iload_n 1) 1 := by decide +kernel
theorem d10_17 : dc prog_1_method_23_code 17 (.if_icmp .ne 5) 3 := by decide +kernel
theorem d10_20 : dc prog_1_method_23_code 20 (.iload_n 2) 1 := by decide +kernel
theorem d10_21 : dc prog_1_method_23_code 21 (.ireturn) 1 := by decide +kernel
theorem d10_22 : dc prog_1_method_23_code 22 (.iinc 2 1) 3 := by decide +kernel
theorem d10_25 : dc prog_1_method_23_code 25 (.goto (-23)) 3 := by decide +kernel
theorem d10_28 : dc prog_1_method_23_code 28 (.iconst (-1)) 1 := by decide +kernel
theorem d10_29 : dc prog_1_method_23_code 29 (.ireturn) 1 := by decide +kernel
abbrev y10 : MethodName := ⟨"DisplayMap", "foldStartingAt", "(I)I"⟩
theorem hy10 : y10.cls ≠ "java/lang/invoke/MethodHandle" ∧ y10.cls ≠ "java/lang/invoke/VarHandle" := by decide
theorem pd10 : parseMethodDescriptor y10.desc = some ⟨[.int], some .int⟩ := by decide +kernel
abbrev R10 : Room := { frames := 0, cells := 0, slots := 0, locals := 0 }
abbrev P10 (s : St) (r : Int32) : Option Value → List OwnC → Prop := fun v H' => v = some (.int r) ∧ H' = (Hb 0 s)
abbrev W10 (l : Launch) (Z : State) (n0 : Nat) (Q : Option Value → List OwnC → Prop) (k n pc : Nat) (L : List Slot) (S : List Value) (H : List OwnC) : Prop := WP l Z CN lay "DisplayMap" "foldStartingAt" prog_1_method_23_code 3 (some FieldType.int) R10 n0 0 Q k n pc L S H
def g_foldStartingAt_2 (k2 : Int32 → Int32 → St → Option (Int32)) (n : Nat) (v1 : Int32) (v2 : Int32) (s : St) : Option (Int32) :=
  if v2 < (gI s 1) then
    (rd (gA s 1) v2).bind fun x2 =>
    if x2 = v1 then
      some v2
    else
      lt (v2 + (1 : Int32)) fun x4 =>
      k2 v1 x4 s
  else
    some (-1 : Int32)
set_option maxRecDepth 65536 in
set_option maxHeartbeats 4000000 in
theorem okg10_2 (l : Launch) (Z : State) (a0 : Array Value) (hw : HW a0 Z) (n0 : Nat) (k2 : Int32 → Int32 → St → Option (Int32)) (hk2 : ∀ (v1 : Int32) (v2 : Int32) (s : St) (r : Int32), k2 v1 v2 s = some r → W10 l Z n0 (P10 s r) 0 0 2 [.val (.ref 0), .val (.int v1), .val (.int v2)] [] (Hb 0 s)) (n : Nat) (v1 : Int32) (v2 : Int32) (s : St) (r : Int32) (h : g_foldStartingAt_2 k2 n v1 v2 s = some r) : W10 l Z n0 (P10 s r) 0 0 2 [.val (.ref 0), .val (.int v1), .val (.int v2)] [] (Hb 0 s) := by
  unfold g_foldStartingAt_2 at h
  refine WP.iloadN d10_2 rfl ?_
  refine WP.aloadN d10_3 rfl ?_
  refine WP.getfield (i := 0) (j := 4) d10_4 (hw _ m_42) rfl rfl rfl ?_
  rcases ite_e h with ⟨hc1, h⟩ | ⟨hc1, h⟩
  ·
    refine WP.icmpN d10_7 (XT.ii_ge_f hc1) ?_
    refine WP.aloadN d10_10 rfl ?_
    refine WP.getfield (i := 0) (j := 2) d10_11 (hw _ m_12) rfl rfl rfl ?_
    refine WP.iloadN d10_14 rfl ?_
    obtain ⟨x2, hx2, h⟩ := Option.bind_eq_some_iff.mp h
    refine WP.iaload (i := 2) d10_15 rfl hx2 ?_
    refine WP.iloadN d10_16 rfl ?_
    rcases ite_e h with ⟨hc3, h⟩ | ⟨hc3, h⟩
    ·
      refine WP.icmpN d10_17 (XT.ii_ne_f hc3) ?_
      refine WP.iloadN d10_20 rfl ?_
      cases h
      exact WP.ireturn d10_21 rfl (leb rfl) (leb rfl) ⟨rfl, rfl⟩
    ·
      refine WP.icmpY (pc' := 22) d10_17 (XT.ii_ne_t hc3) (by decide) rfl ?_
      obtain ⟨x4, ex4, h⟩ := lt_e h
      refine WP.iinc (L' := [.val (.ref 0), .val (.int v1), .val (.int x4)]) (1 : Int32) d10_22 rfl rfl (by subst ex4; rfl) ?_
      refine WP.goto (pc' := 2) d10_25 (by decide) rfl ?_
      exact WP.weak (L' := [.val (.ref 0), .val (.int v1), .val (.int x4)]) ⟨rfl, rfl, rfl, trivial⟩ (hk2 v1 x4 s _ h)
  ·
    refine WP.icmpY (pc' := 28) d10_7 (XT.ii_ge_t hc1) (by decide) rfl ?_
    refine WP.iconst (-1 : Int32) d10_28 rfl ?_
    cases h
    exact WP.ireturn d10_29 rfl (leb rfl) (leb rfl) ⟨rfl, rfl⟩
def f_foldStartingAt_2 : Nat → Int32 → Int32 → St → Option (Int32)
  | 0 => fun _ _ _ => none
  | n + 1 => g_foldStartingAt_2 (f_foldStartingAt_2 n) n
theorem ok10_2 (l : Launch) (Z : State) (a0 : Array Value) (hw : HW a0 Z) (n0 : Nat) : ∀ (n : Nat) (v1 : Int32) (v2 : Int32) (s : St) (r : Int32), f_foldStartingAt_2 n v1 v2 s = some r → W10 l Z n0 (P10 s r) 0 0 2 [.val (.ref 0), .val (.int v1), .val (.int v2)] [] (Hb 0 s)
  | 0, v1, v2, s, r, h => nomatch (show none = some r from h)
  | n + 1, v1, v2, s, r, h => okg10_2 l Z a0 hw n0 _ (ok10_2 l Z a0 hw n0 n) n v1 v2 s r h
def f_foldStartingAt (n : Nat) (p1 : Int32) (s : St) : Option (Int32) :=
  f_foldStartingAt_2 n p1 (0 : Int32) s
set_option maxRecDepth 65536 in
set_option maxHeartbeats 4000000 in
theorem ok10 (l : Launch) (Z : State) (a0 : Array Value) (hw : HW a0 Z) (n : Nat) (p1 : Int32) (s : St) (r : Int32) (h : f_foldStartingAt n p1 s = some r) : CS l Z CN lay y10 prog_1_method_23_code 3 (some FieldType.int) R10 0 [.ref 0, .int p1] (Hb 0 s) (P10 s r) := by
  refine CS.of_wp pn_cls (leb rfl) fun n0 => ?_
  show W10 l Z n0 (P10 s r) 0 0 0 [.val (.ref 0), .val (.int p1), .unset] [] (Hb 0 s)
  unfold f_foldStartingAt at h
  refine WP.iconst (0 : Int32) d10_0 rfl ?_
  refine WP.istoreN (L' := [.val (.ref 0), .val (.int p1), .val (.int (0 : Int32))]) d10_1 (leb rfl) rfl ?_
  exact WP.weak (L' := [.val (.ref 0), .val (.int p1), .val (.int (0 : Int32))]) ⟨rfl, rfl, rfl, trivial⟩ (ok10_2 l Z a0 hw n0 n p1 (0 : Int32) s _ h)
theorem d12_0 : dc prog_1_method_28_code 0 (.aload_n 0) 1 := by decide +kernel
theorem d12_1 : dc prog_1_method_28_code 1 (.getfield 75) 3 := by decide +kernel
theorem d12_4 : dc prog_1_method_28_code 4 (.sipush 260) 3 := by decide +kernel
theorem d12_7 : dc prog_1_method_28_code 7 (.if_icmp .ge 65) 3 := by decide +kernel
theorem d12_10 : dc prog_1_method_28_code 10 (.aload_n 0) 1 := by decide +kernel
theorem d12_11 : dc prog_1_method_28_code 11 (.getfield 28) 3 := by decide +kernel
theorem d12_14 : dc prog_1_method_28_code 14 (.aload_n 0) 1 := by decide +kernel
theorem d12_15 : dc prog_1_method_28_code 15 (.getfield 75) 3 := by decide +kernel
theorem d12_18 : dc prog_1_method_28_code 18 (.aload_n 0) 1 := by decide +kernel
theorem d12_19 : dc prog_1_method_28_code 19 (.getfield 108) 3 := by decide +kernel
theorem d12_22 : dc prog_1_method_28_code 22 (.iastore) 1 := by decide +kernel
theorem d12_23 : dc prog_1_method_28_code 23 (.aload_n 0) 1 := by decide +kernel
theorem d12_24 : dc prog_1_method_28_code 24 (.getfield 31) 3 := by decide +kernel
theorem d12_27 : dc prog_1_method_28_code 27 (.aload_n 0) 1 := by decide +kernel
theorem d12_28 : dc prog_1_method_28_code 28 (.getfield 75) 3 := by decide +kernel
theorem d12_31 : dc prog_1_method_28_code 31 (.aload_n 0) 1 := by decide +kernel
theorem d12_32 : dc prog_1_method_28_code 32 (.getfield 111) 3 := by decide +kernel
theorem d12_35 : dc prog_1_method_28_code 35 (.iastore) 1 := by decide +kernel
theorem d12_36 : dc prog_1_method_28_code 36 (.aload_n 0) 1 := by decide +kernel
theorem d12_37 : dc prog_1_method_28_code 37 (.getfield 34) 3 := by decide +kernel
theorem d12_40 : dc prog_1_method_28_code 40 (.aload_n 0) 1 := by decide +kernel
theorem d12_41 : dc prog_1_method_28_code 41 (.getfield 75) 3 := by decide +kernel
theorem d12_44 : dc prog_1_method_28_code 44 (.aload_n 0) 1 := by decide +kernel
theorem d12_45 : dc prog_1_method_28_code 45 (.getfield 114) 3 := by decide +kernel
theorem d12_48 : dc prog_1_method_28_code 48 (.iastore) 1 := by decide +kernel
theorem d12_49 : dc prog_1_method_28_code 49 (.aload_n 0) 1 := by decide +kernel
theorem d12_50 : dc prog_1_method_28_code 50 (.getfield 37) 3 := by decide +kernel
theorem d12_53 : dc prog_1_method_28_code 53 (.aload_n 0) 1 := by decide +kernel
theorem d12_54 : dc prog_1_method_28_code 54 (.getfield 75) 3 := by decide +kernel
theorem d12_57 : dc prog_1_method_28_code 57 (.aload_n 0) 1 := by decide +kernel
theorem d12_58 : dc prog_1_method_28_code 58 (.getfield 117) 3 := by decide +kernel
theorem d12_61 : dc prog_1_method_28_code 61 (.iastore) 1 := by decide +kernel
theorem d12_62 : dc prog_1_method_28_code 62 (.aload_n 0) 1 := by decide +kernel
theorem d12_63 : dc prog_1_method_28_code 63 (.dup) 1 := by decide +kernel
theorem d12_64 : dc prog_1_method_28_code 64 (.getfield 75) 3 := by decide +kernel
theorem d12_67 : dc prog_1_method_28_code 67 (.iconst 1) 1 := by decide +kernel
theorem d12_68 : dc prog_1_method_28_code 68 (.iadd) 1 := by decide +kernel
theorem d12_69 : dc prog_1_method_28_code 69 (.putfield 75) 3 := by decide +kernel
theorem d12_72 : dc prog_1_method_28_code 72 (.return_) 1 := by decide +kernel
abbrev y12 : MethodName := ⟨"DisplayMap", "closeRow", "()V"⟩
theorem hy12 : y12.cls ≠ "java/lang/invoke/MethodHandle" ∧ y12.cls ≠ "java/lang/invoke/VarHandle" := by decide
theorem pd12 : parseMethodDescriptor y12.desc = some ⟨[], none⟩ := by decide +kernel
abbrev R12 : Room := { frames := 0, cells := 0, slots := 0, locals := 0 }
abbrev P12 (r : St) : Option Value → List OwnC → Prop := fun v H' => v = none ∧ H' = (Hb 0 r)
abbrev W12 (l : Launch) (Z : State) (n0 : Nat) (Q : Option Value → List OwnC → Prop) (k n pc : Nat) (L : List Slot) (S : List Value) (H : List OwnC) : Prop := WP l Z CN lay "DisplayMap" "closeRow" prog_1_method_28_code 1 (none) R12 n0 0 Q k n pc L S H
def f_closeRow_72 (s : St) : Option (St) :=
  some s
set_option maxRecDepth 65536 in
set_option maxHeartbeats 4000000 in
theorem ok12_72 (l : Launch) (Z : State) (a0 : Array Value) (hw : HW a0 Z) (n0 : Nat) (s : St) (r : St) (h : f_closeRow_72 s = some r) : W12 l Z n0 (P12 r) 0 0 72 [.unset] [] (Hb 0 s) := by
  unfold f_closeRow_72 at h
  cases h
  exact WP.vreturn d12_72 rfl (leb rfl) (leb rfl) ⟨rfl, rfl⟩
def f_closeRow (s : St) : Option (St) :=
  if (gI s 6) < (260 : Int32) then
    (wrA s 6 (gI s 6) (gI s 7)).bind fun s2 =>
    (wrA s2 7 (gI s2 6) (gI s2 8)).bind fun s3 =>
    (wrA s3 8 (gI s3 6) (gI s3 9)).bind fun s4 =>
    (wrA s4 9 (gI s4 6) (gI s4 10)).bind fun s5 =>
    lt (sI s5 6 ((gI s5 6) + (1 : Int32))) fun s6 =>
    f_closeRow_72 s6
  else
    f_closeRow_72 s
set_option maxRecDepth 65536 in
set_option maxHeartbeats 4000000 in
theorem ok12 (l : Launch) (Z : State) (a0 : Array Value) (hw : HW a0 Z) (s : St) (r : St) (h : f_closeRow s = some r) : CS l Z CN lay y12 prog_1_method_28_code 1 (none) R12 0 [.ref 0] (Hb 0 s) (P12 r) := by
  refine CS.of_wp pn_cls (leb rfl) fun n0 => ?_
  show W12 l Z n0 (P12 r) 0 0 0 [.val (.ref 0)] [] (Hb 0 s)
  unfold f_closeRow at h
  refine WP.aloadN d12_0 rfl ?_
  refine WP.getfield (i := 0) (j := 16) d12_1 (hw _ m_74) rfl rfl rfl ?_
  refine WP.sipush (260 : Int32) d12_4 rfl ?_
  rcases ite_e h with ⟨hc1, h⟩ | ⟨hc1, h⟩
  ·
    refine WP.icmpN d12_7 (XT.ii_ge_f hc1) ?_
    refine WP.aloadN d12_10 rfl ?_
    refine WP.getfield (i := 0) (j := 12) d12_11 (hw _ m_22) rfl rfl rfl ?_
    refine WP.aloadN d12_14 rfl ?_
    refine WP.getfield (i := 0) (j := 16) d12_15 (hw _ m_74) rfl rfl rfl ?_
    refine WP.aloadN d12_18 rfl ?_
    refine WP.getfield (i := 0) (j := 17) d12_19 (hw _ m_80) rfl rfl rfl ?_
    obtain ⟨s2, hs2, h⟩ := Option.bind_eq_some_iff.mp h
    obtain ⟨ys2, gs2, es2⟩ := wrA_e hs2
    refine WP.iastore (i := 7) (xs := gA s 6) (H' := (Hb 0 s2)) d12_22 rfl (leb rfl) gs2 (by subst es2; rfl) ?_
    refine WP.aloadN d12_23 rfl ?_
    refine WP.getfield (i := 0) (j := 13) d12_24 (hw _ m_24) rfl rfl rfl ?_
    refine WP.aloadN d12_27 rfl ?_
    refine WP.getfield (i := 0) (j := 16) d12_28 (hw _ m_74) rfl rfl rfl ?_
    refine WP.aloadN d12_31 rfl ?_
    refine WP.getfield (i := 0) (j := 18) d12_32 (hw _ m_82) rfl rfl rfl ?_
    obtain ⟨s3, hs3, h⟩ := Option.bind_eq_some_iff.mp h
    obtain ⟨ys3, gs3, es3⟩ := wrA_e hs3
    refine WP.iastore (i := 8) (xs := gA s2 7) (H' := (Hb 0 s3)) d12_35 rfl (leb rfl) gs3 (by subst es3; rfl) ?_
    refine WP.aloadN d12_36 rfl ?_
    refine WP.getfield (i := 0) (j := 14) d12_37 (hw _ m_26) rfl rfl rfl ?_
    refine WP.aloadN d12_40 rfl ?_
    refine WP.getfield (i := 0) (j := 16) d12_41 (hw _ m_74) rfl rfl rfl ?_
    refine WP.aloadN d12_44 rfl ?_
    refine WP.getfield (i := 0) (j := 19) d12_45 (hw _ m_84) rfl rfl rfl ?_
    obtain ⟨s4, hs4, h⟩ := Option.bind_eq_some_iff.mp h
    obtain ⟨ys4, gs4, es4⟩ := wrA_e hs4
    refine WP.iastore (i := 9) (xs := gA s3 8) (H' := (Hb 0 s4)) d12_48 rfl (leb rfl) gs4 (by subst es4; rfl) ?_
    refine WP.aloadN d12_49 rfl ?_
    refine WP.getfield (i := 0) (j := 15) d12_50 (hw _ m_28) rfl rfl rfl ?_
    refine WP.aloadN d12_53 rfl ?_
    refine WP.getfield (i := 0) (j := 16) d12_54 (hw _ m_74) rfl rfl rfl ?_
    refine WP.aloadN d12_57 rfl ?_
    refine WP.getfield (i := 0) (j := 20) d12_58 (hw _ m_86) rfl rfl rfl ?_
    obtain ⟨s5, hs5, h⟩ := Option.bind_eq_some_iff.mp h
    obtain ⟨ys5, gs5, es5⟩ := wrA_e hs5
    refine WP.iastore (i := 10) (xs := gA s4 9) (H' := (Hb 0 s5)) d12_61 rfl (leb rfl) gs5 (by subst es5; rfl) ?_
    refine WP.aloadN d12_62 rfl ?_
    refine WP.dup d12_63 rfl ?_
    refine WP.getfield (i := 0) (j := 16) d12_64 (hw _ m_74) rfl rfl rfl ?_
    refine WP.iconst (1 : Int32) d12_67 rfl ?_
    refine WP.iadd d12_68 ?_
    obtain ⟨s6, es6, h⟩ := lt_e h
    refine WP.putI (i := 0) (j := 16) (H' := (Hb 0 s6)) d12_69 (hw _ m_74) (Or.inl (hw _ m_75)) (hw _ m_1) (hlay hw) rfl rfl rfl (leb rfl) (by subst es6; rfl) ?_
    exact WP.weak (L' := [.unset]) trivial (ok12_72 l Z a0 hw n0 s6 _ h)
  ·
    refine WP.icmpY (pc' := 72) d12_7 (XT.ii_ge_t hc1) (by decide) rfl ?_
    exact WP.weak (L' := [.unset]) trivial (ok12_72 l Z a0 hw n0 s _ h)
theorem d11_0 : dc prog_1_method_29_code 0 (.aload_n 0) 1 := by decide +kernel
theorem d11_1 : dc prog_1_method_29_code 1 (.getfield 117) 3 := by decide +kernel
theorem d11_4 : dc prog_1_method_29_code 4 (.ifCond .le 25) 3 := by decide +kernel
theorem d11_7 : dc prog_1_method_29_code 7 (.aload_n 0) 1 := by decide +kernel
theorem d11_8 : dc prog_1_method_29_code 8 (.getfield 111) 3 := by decide +kernel
theorem d11_11 : dc prog_1_method_29_code 11 (.iload_n 3) 1 := by decide +kernel
theorem d11_12 : dc prog_1_method_29_code 12 (.iadd) 1 := by decide +kernel
theorem d11_13 : dc prog_1_method_29_code 13 (.aload_n 0) 1 := by decide +kernel
theorem d11_14 : dc prog_1_method_29_code 14 (.getfield 51) 3 := by decide +kernel
theorem d11_17 : dc prog_1_method_29_code 17 (.if_icmp .le 12) 3 := by decide +kernel
theorem d11_20 : dc prog_1_method_29_code 20 (.aload_n 0) 1 := by decide +kernel
theorem d11_21 : dc prog_1_method_29_code 21 (.invokevirtual 105) 3 := by decide +kernel
theorem d11_24 : dc prog_1_method_29_code 24 (.aload_n 0) 1 := by decide +kernel
theorem d11_25 : dc prog_1_method_29_code 25 (.iload_n 1) 1 := by decide +kernel
theorem d11_26 : dc prog_1_method_29_code 26 (.invokevirtual 91) 3 := by decide +kernel
theorem d11_29 : dc prog_1_method_29_code 29 (.aload_n 0) 1 := by decide +kernel
theorem d11_30 : dc prog_1_method_29_code 30 (.getfield 88) 3 := by decide +kernel
theorem d11_33 : dc prog_1_method_29_code 33 (.sipush 256) 3 := by decide +kernel
theorem d11_36 : dc prog_1_method_29_code 36 (.if_icmp .ge 53) 3 := by decide +kernel
theorem d11_39 : dc prog_1_method_29_code 39 (.aload_n 0) 1 := by decide +kernel
theorem d11_40 : dc prog_1_method_29_code 40 (.getfield 19) 3 := by decide +kernel
theorem d11_43 : dc prog_1_method_29_code 43 (.aload_n 0) 1 := by decide +kernel
theorem d11_44 : dc prog_1_method_29_code 44 (.getfield 88) 3 := by decide +kernel
theorem d11_47 : dc prog_1_method_29_code 47 (.iload_n 1) 1 := by decide +kernel
theorem d11_48 : dc prog_1_method_29_code 48 (.iastore) 1 := by decide +kernel
theorem d11_49 : dc prog_1_method_29_code 49 (.aload_n 0) 1 := by decide +kernel
theorem d11_50 : dc prog_1_method_29_code 50 (.getfield 22) 3 := by decide +kernel
theorem d11_53 : dc prog_1_method_29_code 53 (.aload_n 0) 1 := by decide +kernel
theorem d11_54 : dc prog_1_method_29_code 54 (.getfield 88) 3 := by decide +kernel
theorem d11_57 : dc prog_1_method_29_code 57 (.iload_n 2) 1 := by decide +kernel
theorem d11_58 : dc prog_1_method_29_code 58 (.iastore) 1 := by decide +kernel
theorem d11_59 : dc prog_1_method_29_code 59 (.aload_n 0) 1 := by decide +kernel
theorem d11_60 : dc prog_1_method_29_code 60 (.getfield 25) 3 := by decide +kernel
theorem d11_63 : dc prog_1_method_29_code 63 (.aload_n 0) 1 := by decide +kernel
theorem d11_64 : dc prog_1_method_29_code 64 (.getfield 88) 3 := by decide +kernel
theorem d11_67 : dc prog_1_method_29_code 67 (.iload_n 3) 1 := by decide +kernel
theorem d11_68 : dc prog_1_method_29_code 68 (.iastore) 1 := by decide +kernel
theorem d11_69 : dc prog_1_method_29_code 69 (.aload_n 0) 1 := by decide +kernel
theorem d11_70 : dc prog_1_method_29_code 70 (.dup) 1 := by decide +kernel
theorem d11_71 : dc prog_1_method_29_code 71 (.getfield 88) 3 := by decide +kernel
theorem d11_74 : dc prog_1_method_29_code 74 (.iconst 1) 1 := by decide +kernel
theorem d11_75 : dc prog_1_method_29_code 75 (.iadd) 1 := by decide +kernel
theorem d11_76 : dc prog_1_method_29_code 76 (.putfield 88) 3 := by decide +kernel
theorem d11_79 : dc prog_1_method_29_code 79 (.aload_n 0) 1 := by decide +kernel
theorem d11_80 : dc prog_1_method_29_code 80 (.dup) 1 := by decide +kernel
theorem d11_81 : dc prog_1_method_29_code 81 (.getfield 117) 3 := by decide +kernel
theorem d11_84 : dc prog_1_method_29_code 84 (.iconst 1) 1 := by decide +kernel
theorem d11_85 : dc prog_1_method_29_code 85 (.iadd) 1 := by decide +kernel
theorem d11_86 : dc prog_1_method_29_code 86 (.putfield 117) 3 := by decide +kernel
theorem d11_89 : dc prog_1_method_29_code 89 (.aload_n 0) 1 := by decide +kernel
theorem d11_90 : dc prog_1_method_29_code 90 (.dup) 1 := by decide +kernel
theorem d11_91 : dc prog_1_method_29_code 91 (.getfield 111) 3 := by decide +kernel
theorem d11_94 : dc prog_1_method_29_code 94 (.iload_n 3) 1 := by decide +kernel
theorem d11_95 : dc prog_1_method_29_code 95 (.iadd) 1 := by decide +kernel
theorem d11_96 : dc prog_1_method_29_code 96 (.putfield 111) 3 := by decide +kernel
theorem d11_99 : dc prog_1_method_29_code 99 (.aload_n 0) 1 := by decide +kernel
theorem d11_100 : dc prog_1_method_29_code 100 (.dup) 1 := by decide +kernel
theorem d11_101 : dc prog_1_method_29_code 101 (.getfield 95) 3 := by decide +kernel
theorem d11_104 : dc prog_1_method_29_code 104 (.iload_n 3) 1 := by decide +kernel
theorem d11_105 : dc prog_1_method_29_code 105 (.iadd) 1 := by decide +kernel
theorem d11_106 : dc prog_1_method_29_code 106 (.putfield 95) 3 := by decide +kernel
theorem d11_109 : dc prog_1_method_29_code 109 (.return_) 1 := by decide +kernel
abbrev y11 : MethodName := ⟨"DisplayMap", "addElement", "(III)V"⟩
theorem hy11 : y11.cls ≠ "java/lang/invoke/MethodHandle" ∧ y11.cls ≠ "java/lang/invoke/VarHandle" := by decide
theorem pd11 : parseMethodDescriptor y11.desc = some ⟨[.int, .int, .int], none⟩ := by decide +kernel
abbrev R11 : Room := { frames := 1, cells := 0, slots := 0, locals := 13 }
abbrev P11 (r : St) : Option Value → List OwnC → Prop := fun v H' => v = none ∧ H' = (Hb 0 r)
abbrev W11 (l : Launch) (Z : State) (n0 : Nat) (Q : Option Value → List OwnC → Prop) (k n pc : Nat) (L : List Slot) (S : List Value) (H : List OwnC) : Prop := WP l Z CN lay "DisplayMap" "addElement" prog_1_method_29_code 4 (none) R11 n0 0 Q k n pc L S H
def f_addElement_89 (v3 : Int32) (s : St) : Option (St) :=
  lt (sI s 8 ((gI s 8) + v3)) fun s1 =>
  lt (sI s1 11 ((gI s1 11) + v3)) fun s2 =>
  some s2
set_option maxRecDepth 65536 in
set_option maxHeartbeats 4000000 in
theorem ok11_89 (l : Launch) (Z : State) (a0 : Array Value) (hw : HW a0 Z) (n0 : Nat) (v3 : Int32) (s : St) (r : St) (h : f_addElement_89 v3 s = some r) : W11 l Z n0 (P11 r) 0 0 89 [.val (.ref 0), .unset, .unset, .val (.int v3)] [] (Hb 0 s) := by
  unfold f_addElement_89 at h
  refine WP.aloadN d11_89 rfl ?_
  refine WP.dup d11_90 rfl ?_
  refine WP.getfield (i := 0) (j := 18) d11_91 (hw _ m_82) rfl rfl rfl ?_
  refine WP.iloadN d11_94 rfl ?_
  refine WP.iadd d11_95 ?_
  obtain ⟨s1, es1, h⟩ := lt_e h
  refine WP.putI (i := 0) (j := 18) (H' := (Hb 0 s1)) d11_96 (hw _ m_82) (Or.inl (hw _ m_83)) (hw _ m_1) (hlay hw) rfl rfl rfl (leb rfl) (by subst es1; rfl) ?_
  refine WP.aloadN d11_99 rfl ?_
  refine WP.dup d11_100 rfl ?_
  refine WP.getfield (i := 0) (j := 21) d11_101 (hw _ m_88) rfl rfl rfl ?_
  refine WP.iloadN d11_104 rfl ?_
  refine WP.iadd d11_105 ?_
  obtain ⟨s2, es2, h⟩ := lt_e h
  refine WP.putI (i := 0) (j := 21) (H' := (Hb 0 s2)) d11_106 (hw _ m_88) (Or.inl (hw _ m_89)) (hw _ m_1) (hlay hw) rfl rfl rfl (leb rfl) (by subst es2; rfl) ?_
  cases h
  exact WP.vreturn d11_109 rfl (leb rfl) (leb rfl) ⟨rfl, rfl⟩
def f_addElement_29 (v1 : Int32) (v2 : Int32) (v3 : Int32) (s : St) : Option (St) :=
  if (gI s 5) < (256 : Int32) then
    (wrA s 3 (gI s 5) v1).bind fun s2 =>
    (wrA s2 4 (gI s2 5) v2).bind fun s3 =>
    (wrA s3 5 (gI s3 5) v3).bind fun s4 =>
    lt (sI s4 5 ((gI s4 5) + (1 : Int32))) fun s5 =>
    lt (sI s5 10 ((gI s5 10) + (1 : Int32))) fun s6 =>
    f_addElement_89 v3 s6
  else
    f_addElement_89 v3 s
set_option maxRecDepth 65536 in
set_option maxHeartbeats 4000000 in
theorem ok11_29 (l : Launch) (Z : State) (a0 : Array Value) (hw : HW a0 Z) (n0 : Nat) (v1 : Int32) (v2 : Int32) (v3 : Int32) (s : St) (r : St) (h : f_addElement_29 v1 v2 v3 s = some r) : W11 l Z n0 (P11 r) 0 0 29 [.val (.ref 0), .val (.int v1), .val (.int v2), .val (.int v3)] [] (Hb 0 s) := by
  unfold f_addElement_29 at h
  refine WP.aloadN d11_29 rfl ?_
  refine WP.getfield (i := 0) (j := 11) d11_30 (hw _ m_72) rfl rfl rfl ?_
  refine WP.sipush (256 : Int32) d11_33 rfl ?_
  rcases ite_e h with ⟨hc1, h⟩ | ⟨hc1, h⟩
  ·
    refine WP.icmpN d11_36 (XT.ii_ge_f hc1) ?_
    refine WP.aloadN d11_39 rfl ?_
    refine WP.getfield (i := 0) (j := 8) d11_40 (hw _ m_16) rfl rfl rfl ?_
    refine WP.aloadN d11_43 rfl ?_
    refine WP.getfield (i := 0) (j := 11) d11_44 (hw _ m_72) rfl rfl rfl ?_
    refine WP.iloadN d11_47 rfl ?_
    obtain ⟨s2, hs2, h⟩ := Option.bind_eq_some_iff.mp h
    obtain ⟨ys2, gs2, es2⟩ := wrA_e hs2
    refine WP.iastore (i := 4) (xs := gA s 3) (H' := (Hb 0 s2)) d11_48 rfl (leb rfl) gs2 (by subst es2; rfl) ?_
    refine WP.aloadN d11_49 rfl ?_
    refine WP.getfield (i := 0) (j := 9) d11_50 (hw _ m_18) rfl rfl rfl ?_
    refine WP.aloadN d11_53 rfl ?_
    refine WP.getfield (i := 0) (j := 11) d11_54 (hw _ m_72) rfl rfl rfl ?_
    refine WP.iloadN d11_57 rfl ?_
    obtain ⟨s3, hs3, h⟩ := Option.bind_eq_some_iff.mp h
    obtain ⟨ys3, gs3, es3⟩ := wrA_e hs3
    refine WP.iastore (i := 5) (xs := gA s2 4) (H' := (Hb 0 s3)) d11_58 rfl (leb rfl) gs3 (by subst es3; rfl) ?_
    refine WP.aloadN d11_59 rfl ?_
    refine WP.getfield (i := 0) (j := 10) d11_60 (hw _ m_20) rfl rfl rfl ?_
    refine WP.aloadN d11_63 rfl ?_
    refine WP.getfield (i := 0) (j := 11) d11_64 (hw _ m_72) rfl rfl rfl ?_
    refine WP.iloadN d11_67 rfl ?_
    obtain ⟨s4, hs4, h⟩ := Option.bind_eq_some_iff.mp h
    obtain ⟨ys4, gs4, es4⟩ := wrA_e hs4
    refine WP.iastore (i := 6) (xs := gA s3 5) (H' := (Hb 0 s4)) d11_68 rfl (leb rfl) gs4 (by subst es4; rfl) ?_
    refine WP.aloadN d11_69 rfl ?_
    refine WP.dup d11_70 rfl ?_
    refine WP.getfield (i := 0) (j := 11) d11_71 (hw _ m_72) rfl rfl rfl ?_
    refine WP.iconst (1 : Int32) d11_74 rfl ?_
    refine WP.iadd d11_75 ?_
    obtain ⟨s5, es5, h⟩ := lt_e h
    refine WP.putI (i := 0) (j := 11) (H' := (Hb 0 s5)) d11_76 (hw _ m_72) (Or.inl (hw _ m_73)) (hw _ m_1) (hlay hw) rfl rfl rfl (leb rfl) (by subst es5; rfl) ?_
    refine WP.aloadN d11_79 rfl ?_
    refine WP.dup d11_80 rfl ?_
    refine WP.getfield (i := 0) (j := 20) d11_81 (hw _ m_86) rfl rfl rfl ?_
    refine WP.iconst (1 : Int32) d11_84 rfl ?_
    refine WP.iadd d11_85 ?_
    obtain ⟨s6, es6, h⟩ := lt_e h
    refine WP.putI (i := 0) (j := 20) (H' := (Hb 0 s6)) d11_86 (hw _ m_86) (Or.inl (hw _ m_87)) (hw _ m_1) (hlay hw) rfl rfl rfl (leb rfl) (by subst es6; rfl) ?_
    exact WP.weak (L' := [.val (.ref 0), .unset, .unset, .val (.int v3)]) ⟨rfl, rfl, trivial⟩ (ok11_89 l Z a0 hw n0 v3 s6 _ h)
  ·
    refine WP.icmpY (pc' := 89) d11_36 (XT.ii_ge_t hc1) (by decide) rfl ?_
    exact WP.weak (L' := [.val (.ref 0), .unset, .unset, .val (.int v3)]) ⟨rfl, rfl, trivial⟩ (ok11_89 l Z a0 hw n0 v3 s _ h)
def f_addElement (p1 : Int32) (p2 : Int32) (p3 : Int32) (s : St) : Option (St) :=
  if 0 < (gI s 10) then
    if (gI s 3) < ((gI s 8) + p3) then
      (f_closeRow s).bind fun c3 =>
      (f_openRow p1 c3).bind fun c4 =>
      f_addElement_29 p1 p2 p3 c4
    else
      f_addElement_29 p1 p2 p3 s
  else
    f_addElement_29 p1 p2 p3 s
set_option maxRecDepth 65536 in
set_option maxHeartbeats 4000000 in
theorem ok11 (l : Launch) (Z : State) (a0 : Array Value) (hw : HW a0 Z) (p1 : Int32) (p2 : Int32) (p3 : Int32) (s : St) (r : St) (h : f_addElement p1 p2 p3 s = some r) : CS l Z CN lay y11 prog_1_method_29_code 4 (none) R11 0 [.ref 0, .int p1, .int p2, .int p3] (Hb 0 s) (P11 r) := by
  refine CS.of_wp pn_cls (leb rfl) fun n0 => ?_
  show W11 l Z n0 (P11 r) 0 0 0 [.val (.ref 0), .val (.int p1), .val (.int p2), .val (.int p3)] [] (Hb 0 s)
  unfold f_addElement at h
  refine WP.aloadN d11_0 rfl ?_
  refine WP.getfield (i := 0) (j := 20) d11_1 (hw _ m_86) rfl rfl rfl ?_
  rcases ite_e h with ⟨hc1, h⟩ | ⟨hc1, h⟩
  ·
    refine WP.ifN d11_4 (XT.i0_le_f hc1) ?_
    refine WP.aloadN d11_7 rfl ?_
    refine WP.getfield (i := 0) (j := 18) d11_8 (hw _ m_82) rfl rfl rfl ?_
    refine WP.iloadN d11_11 rfl ?_
    refine WP.iadd d11_12 ?_
    refine WP.aloadN d11_13 rfl ?_
    refine WP.getfield (i := 0) (j := 6) d11_14 (hw _ m_38) rfl rfl rfl ?_
    rcases ite_e h with ⟨hc2, h⟩ | ⟨hc2, h⟩
    ·
      refine WP.icmpN d11_17 (XT.ii_le_f hc2) ?_
      refine WP.aloadN d11_20 rfl ?_
      obtain ⟨c3, hc3, h⟩ := Option.bind_eq_some_iff.mp h
      refine WP.callP (i := 0) (y := y12) (as := []) (S := []) d11_21 (hw _ m_98) (hw _ m_100) (hw _ m_1) (hw _ m_99) (hw _ m_101) (hw _ m_2) hy12 rfl (ok12 l Z a0 hw s _ hc3) rfl (lenOf pd12 rfl) (leb rfl) (leb rfl) (leb rfl) (leb rfl) ?_
      rintro _ _ ⟨rfl, rfl⟩
      show W11 l Z n0 (P11 r) 0 0 24 [.val (.ref 0), .val (.int p1), .val (.int p2), .val (.int p3)] [] (Hb 0 c3)
      refine WP.aloadN d11_24 rfl ?_
      refine WP.iloadN d11_25 rfl ?_
      obtain ⟨c4, hc4, h⟩ := Option.bind_eq_some_iff.mp h
      refine WP.callP (i := 0) (y := y9) (as := [.int p1]) (S := []) d11_26 (hw _ m_76) (hw _ m_78) (hw _ m_1) (hw _ m_77) (hw _ m_79) (hw _ m_2) hy9 rfl (ok9 l Z a0 hw p1 c3 _ hc4) rfl (lenOf pd9 rfl) (leb rfl) (leb rfl) (leb rfl) (leb rfl) ?_
      rintro _ _ ⟨rfl, rfl⟩
      show W11 l Z n0 (P11 r) 0 0 29 [.val (.ref 0), .val (.int p1), .val (.int p2), .val (.int p3)] [] (Hb 0 c4)
      exact WP.weak (L' := [.val (.ref 0), .val (.int p1), .val (.int p2), .val (.int p3)]) ⟨rfl, rfl, rfl, rfl, trivial⟩ (ok11_29 l Z a0 hw n0 p1 p2 p3 c4 _ h)
    ·
      refine WP.icmpY (pc' := 29) d11_17 (XT.ii_le_t hc2) (by decide) rfl ?_
      exact WP.weak (L' := [.val (.ref 0), .val (.int p1), .val (.int p2), .val (.int p3)]) ⟨rfl, rfl, rfl, rfl, trivial⟩ (ok11_29 l Z a0 hw n0 p1 p2 p3 s _ h)
  ·
    refine WP.ifY (pc' := 29) d11_4 (XT.i0_le_t hc1) (by decide) rfl ?_
    exact WP.weak (L' := [.val (.ref 0), .val (.int p1), .val (.int p2), .val (.int p3)]) ⟨rfl, rfl, rfl, rfl, trivial⟩ (ok11_29 l Z a0 hw n0 p1 p2 p3 s _ h)
theorem d8_0 : dc prog_1_method_26_code 0 (.aload_n 0) 1 := by decide +kernel
theorem d8_1 : dc prog_1_method_26_code 1 (.iconst 0) 1 := by decide +kernel
theorem d8_2 : dc prog_1_method_26_code 2 (.putfield 88) 3 := by decide +kernel
theorem d8_5 : dc prog_1_method_26_code 5 (.aload_n 0) 1 := by decide +kernel
theorem d8_6 : dc prog_1_method_26_code 6 (.iconst 0) 1 := by decide +kernel
theorem d8_7 : dc prog_1_method_26_code 7 (.putfield 75) 3 := by decide +kernel
theorem d8_10 : dc prog_1_method_26_code 10 (.aload_n 0) 1 := by decide +kernel
theorem d8_11 : dc prog_1_method_26_code 11 (.iconst 0) 1 := by decide +kernel
theorem d8_12 : dc prog_1_method_26_code 12 (.invokevirtual 91) 3 := by decide +kernel
theorem d8_15 : dc prog_1_method_26_code 15 (.aload_n 0) 1 := by decide +kernel
theorem d8_16 : dc prog_1_method_26_code 16 (.iconst 0) 1 := by decide +kernel
theorem d8_17 : dc prog_1_method_26_code 17 (.putfield 95) 3 := by decide +kernel
theorem d8_20 : dc prog_1_method_26_code 20 (.iconst 0) 1 := by decide +kernel
theorem d8_21 : dc prog_1_method_26_code 21 (.istore_n 1) 1 := by decide +kernel
theorem d8_22 : dc prog_1_method_26_code 22 (.iconst 0) 1 := by decide +kernel
theorem d8_23 : dc prog_1_method_26_code 23 (.istore_n 2) 1 := by decide +kernel
theorem d8_24 : dc prog_1_method_26_code 24 (.iload_n 2) 1 := by decide +kernel
theorem d8_25 : dc prog_1_method_26_code 25 (.sipush 256) 3 := by decide +kernel
theorem d8_28 : dc prog_1_method_26_code 28 (.if_icmp .gt 133) 3 := by decide +kernel
theorem d8_31 : dc prog_1_method_26_code 31 (.iload_n 1) 1 := by decide +kernel
theorem d8_32 : dc prog_1_method_26_code 32 (.aload_n 0) 1 := by decide +kernel
theorem d8_33 : dc prog_1_method_26_code 33 (.getfield 54) 3 := by decide +kernel
theorem d8_36 : dc prog_1_method_26_code 36 (.if_icmp .ge 125) 3 := by decide +kernel
theorem d8_39 : dc prog_1_method_26_code 39 (.aload_n 0) 1 := by decide +kernel
theorem d8_40 : dc prog_1_method_26_code 40 (.iload_n 1) 1 := by decide +kernel
theorem d8_41 : dc prog_1_method_26_code 41 (.invokevirtual 98) 3 := by decide +kernel
theorem d8_44 : dc prog_1_method_26_code 44 (.istore_n 3) 1 := by decide +kernel
theorem d8_45 : dc prog_1_method_26_code 45 (.iload_n 3) 1 := by decide +kernel
theorem d8_46 : dc prog_1_method_26_code 46 (.ifCond .lt 25) 3 := by decide +kernel
theorem d8_49 : dc prog_1_method_26_code 49 (.aload_n 0) 1 := by decide +kernel
theorem d8_50 : dc prog_1_method_26_code 50 (.getfield 16) 3 := by decide +kernel
theorem d8_53 : dc prog_1_method_26_code 53 (.iload_n 3) 1 := by decide +kernel
theorem d8_54 : dc prog_1_method_26_code 54 (.iaload) 1 := by decide +kernel
theorem d8_55 : dc prog_1_method_26_code 55 (.istore 4) 2 := by decide +kernel
theorem d8_57 : dc prog_1_method_26_code 57 (.aload_n 0) 1 := by decide +kernel
theorem d8_58 : dc prog_1_method_26_code 58 (.iload_n 1) 1 := by decide +kernel
theorem d8_59 : dc prog_1_method_26_code 59 (.iload 4) 2 := by decide +kernel
theorem d8_61 : dc prog_1_method_26_code 61 (.iconst 3) 1 := by decide +kernel
theorem d8_62 : dc prog_1_method_26_code 62 (.invokevirtual 101) 3 := by decide +kernel
theorem d8_65 : dc prog_1_method_26_code 65 (.iload 4) 2 := by decide +kernel
theorem d8_67 : dc prog_1_method_26_code 67 (.istore_n 1) 1 := by decide +kernel
theorem d8_68 : dc prog_1_method_26_code 68 (.goto 87) 3 := by decide +kernel
theorem d8_71 : dc prog_1_method_26_code 71 (.aload_n 0) 1 := by decide +kernel
theorem d8_72 : dc prog_1_method_26_code 72 (.getfield 7) 3 := by decide +kernel
theorem d8_75 : dc prog_1_method_26_code 75 (.iload_n 1) 1 := by decide +kernel
theorem d8_76 : dc prog_1_method_26_code 76 (.iaload) 1 := by decide +kernel
theorem d8_77 : dc prog_1_method_26_code 77 (.bipush 10) 2 := by decide +kernel
theorem d8_79 : dc prog_1_method_26_code 79 (.if_icmp .ne 25) 3 := by decide +kernel
theorem d8_82 : dc prog_1_method_26_code 82 (.aload_n 0) 1 := by decide +kernel
theorem d8_83 : dc prog_1_method_26_code 83 (.invokevirtual 105) 3 := by decide +kernel
theorem d8_86 : dc prog_1_method_26_code 86 (.aload_n 0) 1 := by decide +kernel
theorem d8_87 : dc prog_1_method_26_code 87 (.iload_n 1) 1 := by decide +kernel
theorem d8_88 : dc prog_1_method_26_code 88 (.iconst 1) 1 := by decide +kernel
theorem d8_89 : dc prog_1_method_26_code 89 (.iadd) 1 := by decide +kernel
theorem d8_90 : dc prog_1_method_26_code 90 (.invokevirtual 91) 3 := by decide +kernel
theorem d8_93 : dc prog_1_method_26_code 93 (.aload_n 0) 1 := by decide +kernel
theorem d8_94 : dc prog_1_method_26_code 94 (.iconst 0) 1 := by decide +kernel
theorem d8_95 : dc prog_1_method_26_code 95 (.putfield 95) 3 := by decide +kernel
theorem d8_98 : dc prog_1_method_26_code 98 (.iinc 1 1) 3 := by decide +kernel
theorem d8_101 : dc prog_1_method_26_code 101 (.goto 54) 3 := by decide +kernel
theorem d8_104 : dc prog_1_method_26_code 104 (.aload_n 0) 1 := by decide +kernel
theorem d8_105 : dc prog_1_method_26_code 105 (.getfield 7) 3 := by decide +kernel
theorem d8_108 : dc prog_1_method_26_code 108 (.iload_n 1) 1 := by decide +kernel
theorem d8_109 : dc prog_1_method_26_code 109 (.iaload) 1 := by decide +kernel
theorem d8_110 : dc prog_1_method_26_code 110 (.bipush 9) 2 := by decide +kernel
theorem d8_112 : dc prog_1_method_26_code 112 (.if_icmp .ne 31) 3 := by decide +kernel
theorem d8_115 : dc prog_1_method_26_code 115 (.aload_n 0) 1 := by decide +kernel
theorem d8_116 : dc prog_1_method_26_code 116 (.iload_n 1) 1 := by decide +kernel
theorem d8_117 : dc prog_1_method_26_code 117 (.iload_n 1) 1 := by decide +kernel
theorem d8_118 : dc prog_1_method_26_code 118 (.iconst 1) 1 := by decide +kernel
theorem d8_119 : dc prog_1_method_26_code 119 (.iadd) 1 := by decide +kernel
theorem d8_120 : dc prog_1_method_26_code 120 (.aload_n 0) 1 := by decide +kernel
theorem d8_121 : dc prog_1_method_26_code 121 (.getfield 44) 3 := by decide +kernel
theorem d8_124 : dc prog_1_method_26_code 124 (.aload_n 0) 1 := by decide +kernel
theorem d8_125 : dc prog_1_method_26_code 125 (.getfield 95) 3 := by decide +kernel
theorem d8_128 : dc prog_1_method_26_code 128 (.aload_n 0) 1 := by decide +kernel
theorem d8_129 : dc prog_1_method_26_code 129 (.getfield 44) 3 := by decide +kernel
theorem d8_132 : dc prog_1_method_26_code 132 (.irem) 1 := by decide +kernel
theorem d8_133 : dc prog_1_method_26_code 133 (.isub) 1 := by decide +kernel
theorem d8_134 : dc prog_1_method_26_code 134 (.invokevirtual 101) 3 := by decide +kernel
theorem d8_137 : dc prog_1_method_26_code 137 (.iinc 1 1) 3 := by decide +kernel
theorem d8_140 : dc prog_1_method_26_code 140 (.goto 15) 3 := by decide +kernel
theorem d8_143 : dc prog_1_method_26_code 143 (.aload_n 0) 1 := by decide +kernel
theorem d8_144 : dc prog_1_method_26_code 144 (.iload_n 1) 1 := by decide +kernel
theorem d8_145 : dc prog_1_method_26_code 145 (.iload_n 1) 1 := by decide +kernel
theorem d8_146 : dc prog_1_method_26_code 146 (.iconst 1) 1 := by decide +kernel
theorem d8_147 : dc prog_1_method_26_code 147 (.iadd) 1 := by decide +kernel
theorem d8_148 : dc prog_1_method_26_code 148 (.iconst 1) 1 := by decide +kernel
theorem d8_149 : dc prog_1_method_26_code 149 (.invokevirtual 101) 3 := by decide +kernel
theorem d8_152 : dc prog_1_method_26_code 152 (.iinc 1 1) 3 := by decide +kernel
theorem d8_155 : dc prog_1_method_26_code 155 (.iinc 2 1) 3 := by decide +kernel
theorem d8_158 : dc prog_1_method_26_code 158 (.goto (-134)) 3 := by decide +kernel
theorem d8_161 : dc prog_1_method_26_code 161 (.aload_n 0) 1 := by decide +kernel
theorem d8_162 : dc prog_1_method_26_code 162 (.invokevirtual 105) 3 := by decide +kernel
theorem d8_165 : dc prog_1_method_26_code 165 (.return_) 1 := by decide +kernel
abbrev y8 : MethodName := ⟨"DisplayMap", "layout", "()V"⟩
theorem hy8 : y8.cls ≠ "java/lang/invoke/MethodHandle" ∧ y8.cls ≠ "java/lang/invoke/VarHandle" := by decide
theorem pd8 : parseMethodDescriptor y8.desc = some ⟨[], none⟩ := by decide +kernel
abbrev R8 : Room := { frames := 2, cells := 0, slots := 0, locals := 28 }
abbrev P8 (r : St) : Option Value → List OwnC → Prop := fun v H' => v = none ∧ H' = (Hb 0 r)
abbrev W8 (l : Launch) (Z : State) (n0 : Nat) (Q : Option Value → List OwnC → Prop) (k n pc : Nat) (L : List Slot) (S : List Value) (H : List OwnC) : Prop := WP l Z CN lay "DisplayMap" "layout" prog_1_method_26_code 5 (none) R8 n0 0 Q k n pc L S H
def f_layout_155 (k24 : Int32 → Int32 → St → Option (St)) (n : Nat) (v1 : Int32) (v2 : Int32) (s : St) : Option (St) :=
  lt (v2 + (1 : Int32)) fun x1 =>
  k24 v1 x1 s
set_option maxRecDepth 65536 in
set_option maxHeartbeats 4000000 in
theorem ok8_155 (l : Launch) (Z : State) (a0 : Array Value) (hw : HW a0 Z) (n0 : Nat) (k24 : Int32 → Int32 → St → Option (St)) (hk24 : ∀ (v1 : Int32) (v2 : Int32) (s : St) (r : St), k24 v1 v2 s = some r → W8 l Z n0 (P8 r) 0 0 24 [.val (.ref 0), .val (.int v1), .val (.int v2), .unset, .unset] [] (Hb 0 s)) (n : Nat) (v1 : Int32) (v2 : Int32) (s : St) (r : St) (h : f_layout_155 k24 n v1 v2 s = some r) : W8 l Z n0 (P8 r) 0 0 155 [.val (.ref 0), .val (.int v1), .val (.int v2), .unset, .unset] [] (Hb 0 s) := by
  unfold f_layout_155 at h
  obtain ⟨x1, ex1, h⟩ := lt_e h
  refine WP.iinc (L' := [.val (.ref 0), .val (.int v1), .val (.int x1), .unset, .unset]) (1 : Int32) d8_155 rfl rfl (by subst ex1; rfl) ?_
  refine WP.goto (pc' := 24) d8_158 (by decide) rfl ?_
  exact WP.weak (L' := [.val (.ref 0), .val (.int v1), .val (.int x1), .unset, .unset]) ⟨rfl, rfl, rfl, trivial⟩ (hk24 v1 x1 s _ h)
def f_layout_161 (n : Nat) (s : St) : Option (St) :=
  (f_closeRow s).bind fun c1 =>
  some c1
set_option maxRecDepth 65536 in
set_option maxHeartbeats 4000000 in
theorem ok8_161 (l : Launch) (Z : State) (a0 : Array Value) (hw : HW a0 Z) (n0 : Nat) (n : Nat) (s : St) (r : St) (h : f_layout_161 n s = some r) : W8 l Z n0 (P8 r) 0 0 161 [.val (.ref 0), .unset, .unset, .unset, .unset] [] (Hb 0 s) := by
  unfold f_layout_161 at h
  refine WP.aloadN d8_161 rfl ?_
  obtain ⟨c1, hc1, h⟩ := Option.bind_eq_some_iff.mp h
  refine WP.callP (i := 0) (y := y12) (as := []) (S := []) d8_162 (hw _ m_98) (hw _ m_100) (hw _ m_1) (hw _ m_99) (hw _ m_101) (hw _ m_2) hy12 rfl (ok12 l Z a0 hw s _ hc1) rfl (lenOf pd12 rfl) (leb rfl) (leb rfl) (leb rfl) (leb rfl) ?_
  rintro _ _ ⟨rfl, rfl⟩
  show W8 l Z n0 (P8 r) 0 0 165 [.val (.ref 0), .unset, .unset, .unset, .unset] [] (Hb 0 c1)
  cases h
  exact WP.vreturn d8_165 rfl (leb rfl) (leb rfl) ⟨rfl, rfl⟩
def g_layout_24 (k24 : Int32 → Int32 → St → Option (St)) (n : Nat) (v1 : Int32) (v2 : Int32) (s : St) : Option (St) :=
  if (256 : Int32) < v2 then
    f_layout_161 n s
  else
    if v1 < (gI s 0) then
      (f_foldStartingAt n v1 s).bind fun c3 =>
      if c3 < 0 then
        (rd (gA s 0) v1).bind fun x5 =>
        if x5 = (10 : Int32) then
          (f_closeRow s).bind fun c7 =>
          (f_openRow (v1 + (1 : Int32)) c7).bind fun c8 =>
          lt (sI c8 11 (0 : Int32)) fun s9 =>
          lt (v1 + (1 : Int32)) fun x10 =>
          f_layout_155 k24 n x10 v2 s9
        else
          (rd (gA s 0) v1).bind fun x11 =>
          if x11 = (9 : Int32) then
            if gI s 2 = 0 then none else
            (f_addElement v1 (v1 + (1 : Int32)) ((gI s 2) - ((gI s 11) % (gI s 2))) s).bind fun c14 =>
            lt (v1 + (1 : Int32)) fun x15 =>
            f_layout_155 k24 n x15 v2 c14
          else
            (f_addElement v1 (v1 + (1 : Int32)) (1 : Int32) s).bind fun c16 =>
            lt (v1 + (1 : Int32)) fun x17 =>
            f_layout_155 k24 n x17 v2 c16
      else
        (rd (gA s 2) c3).bind fun x18 =>
        (f_addElement v1 x18 (3 : Int32) s).bind fun c19 =>
        f_layout_155 k24 n x18 v2 c19
    else
      f_layout_161 n s
set_option maxRecDepth 65536 in
set_option maxHeartbeats 4000000 in
theorem okg8_24 (l : Launch) (Z : State) (a0 : Array Value) (hw : HW a0 Z) (n0 : Nat) (k24 : Int32 → Int32 → St → Option (St)) (hk24 : ∀ (v1 : Int32) (v2 : Int32) (s : St) (r : St), k24 v1 v2 s = some r → W8 l Z n0 (P8 r) 0 0 24 [.val (.ref 0), .val (.int v1), .val (.int v2), .unset, .unset] [] (Hb 0 s)) (n : Nat) (v1 : Int32) (v2 : Int32) (s : St) (r : St) (h : g_layout_24 k24 n v1 v2 s = some r) : W8 l Z n0 (P8 r) 0 0 24 [.val (.ref 0), .val (.int v1), .val (.int v2), .unset, .unset] [] (Hb 0 s) := by
  unfold g_layout_24 at h
  refine WP.iloadN d8_24 rfl ?_
  refine WP.sipush (256 : Int32) d8_25 rfl ?_
  rcases ite_e h with ⟨hc1, h⟩ | ⟨hc1, h⟩
  ·
    refine WP.icmpY (pc' := 161) d8_28 (XT.ii_gt_t hc1) (by decide) rfl ?_
    exact WP.weak (L' := [.val (.ref 0), .unset, .unset, .unset, .unset]) ⟨rfl, trivial⟩ (ok8_161 l Z a0 hw n0 n s _ h)
  ·
    refine WP.icmpN d8_28 (XT.ii_gt_f hc1) ?_
    refine WP.iloadN d8_31 rfl ?_
    refine WP.aloadN d8_32 rfl ?_
    refine WP.getfield (i := 0) (j := 1) d8_33 (hw _ m_40) rfl rfl rfl ?_
    rcases ite_e h with ⟨hc2, h⟩ | ⟨hc2, h⟩
    ·
      refine WP.icmpN d8_36 (XT.ii_ge_f hc2) ?_
      refine WP.aloadN d8_39 rfl ?_
      refine WP.iloadN d8_40 rfl ?_
      obtain ⟨c3, hc3, h⟩ := Option.bind_eq_some_iff.mp h
      refine WP.callP (i := 0) (y := y10) (as := [.int v1]) (S := []) d8_41 (hw _ m_90) (hw _ m_92) (hw _ m_1) (hw _ m_91) (hw _ m_93) (hw _ m_2) hy10 rfl (ok10 l Z a0 hw n v1 s _ hc3) rfl (lenOf pd10 rfl) (leb rfl) (leb rfl) (leb rfl) (leb rfl) ?_
      rintro _ _ ⟨rfl, rfl⟩
      show W8 l Z n0 (P8 r) 0 0 44 [.val (.ref 0), .val (.int v1), .val (.int v2), .unset, .unset] [.int c3] (Hb 0 s)
      refine WP.istoreN (L' := [.val (.ref 0), .val (.int v1), .val (.int v2), .val (.int c3), .unset]) d8_44 (leb rfl) rfl ?_
      refine WP.iloadN d8_45 rfl ?_
      rcases ite_e h with ⟨hc4, h⟩ | ⟨hc4, h⟩
      ·
        refine WP.ifY (pc' := 71) d8_46 (XT.i0_lt_t hc4) (by decide) rfl ?_
        refine WP.aloadN d8_71 rfl ?_
        refine WP.getfield (i := 0) (j := 0) d8_72 (hw _ m_10) rfl rfl rfl ?_
        refine WP.iloadN d8_75 rfl ?_
        obtain ⟨x5, hx5, h⟩ := Option.bind_eq_some_iff.mp h
        refine WP.iaload (i := 1) d8_76 rfl hx5 ?_
        refine WP.bipush (10 : Int32) d8_77 rfl ?_
        rcases ite_e h with ⟨hc6, h⟩ | ⟨hc6, h⟩
        ·
          refine WP.icmpN d8_79 (XT.ii_ne_f hc6) ?_
          refine WP.aloadN d8_82 rfl ?_
          obtain ⟨c7, hc7, h⟩ := Option.bind_eq_some_iff.mp h
          refine WP.callP (i := 0) (y := y12) (as := []) (S := []) d8_83 (hw _ m_98) (hw _ m_100) (hw _ m_1) (hw _ m_99) (hw _ m_101) (hw _ m_2) hy12 rfl (ok12 l Z a0 hw s _ hc7) rfl (lenOf pd12 rfl) (leb rfl) (leb rfl) (leb rfl) (leb rfl) ?_
          rintro _ _ ⟨rfl, rfl⟩
          show W8 l Z n0 (P8 r) 0 0 86 [.val (.ref 0), .val (.int v1), .val (.int v2), .val (.int c3), .unset] [] (Hb 0 c7)
          refine WP.aloadN d8_86 rfl ?_
          refine WP.iloadN d8_87 rfl ?_
          refine WP.iconst (1 : Int32) d8_88 rfl ?_
          refine WP.iadd d8_89 ?_
          obtain ⟨c8, hc8, h⟩ := Option.bind_eq_some_iff.mp h
          refine WP.callP (i := 0) (y := y9) (as := [.int (v1 + (1 : Int32))]) (S := []) d8_90 (hw _ m_76) (hw _ m_78) (hw _ m_1) (hw _ m_77) (hw _ m_79) (hw _ m_2) hy9 rfl (ok9 l Z a0 hw (v1 + (1 : Int32)) c7 _ hc8) rfl (lenOf pd9 rfl) (leb rfl) (leb rfl) (leb rfl) (leb rfl) ?_
          rintro _ _ ⟨rfl, rfl⟩
          show W8 l Z n0 (P8 r) 0 0 93 [.val (.ref 0), .val (.int v1), .val (.int v2), .val (.int c3), .unset] [] (Hb 0 c8)
          refine WP.aloadN d8_93 rfl ?_
          refine WP.iconst (0 : Int32) d8_94 rfl ?_
          obtain ⟨s9, es9, h⟩ := lt_e h
          refine WP.putI (i := 0) (j := 21) (H' := (Hb 0 s9)) d8_95 (hw _ m_88) (Or.inl (hw _ m_89)) (hw _ m_1) (hlay hw) rfl rfl rfl (leb rfl) (by subst es9; rfl) ?_
          obtain ⟨x10, ex10, h⟩ := lt_e h
          refine WP.iinc (L' := [.val (.ref 0), .val (.int x10), .val (.int v2), .val (.int c3), .unset]) (1 : Int32) d8_98 rfl rfl (by subst ex10; rfl) ?_
          refine WP.goto (pc' := 155) d8_101 (by decide) rfl ?_
          exact WP.weak (L' := [.val (.ref 0), .val (.int x10), .val (.int v2), .unset, .unset]) ⟨rfl, rfl, rfl, trivial⟩ (ok8_155 l Z a0 hw n0 _ hk24 n x10 v2 s9 _ h)
        ·
          refine WP.icmpY (pc' := 104) d8_79 (XT.ii_ne_t hc6) (by decide) rfl ?_
          refine WP.aloadN d8_104 rfl ?_
          refine WP.getfield (i := 0) (j := 0) d8_105 (hw _ m_10) rfl rfl rfl ?_
          refine WP.iloadN d8_108 rfl ?_
          obtain ⟨x11, hx11, h⟩ := Option.bind_eq_some_iff.mp h
          refine WP.iaload (i := 1) d8_109 rfl hx11 ?_
          refine WP.bipush (9 : Int32) d8_110 rfl ?_
          rcases ite_e h with ⟨hc12, h⟩ | ⟨hc12, h⟩
          ·
            refine WP.icmpN d8_112 (XT.ii_ne_f hc12) ?_
            refine WP.aloadN d8_115 rfl ?_
            refine WP.iloadN d8_116 rfl ?_
            refine WP.iloadN d8_117 rfl ?_
            refine WP.iconst (1 : Int32) d8_118 rfl ?_
            refine WP.iadd d8_119 ?_
            refine WP.aloadN d8_120 rfl ?_
            refine WP.getfield (i := 0) (j := 5) d8_121 (hw _ m_33) rfl rfl rfl ?_
            refine WP.aloadN d8_124 rfl ?_
            refine WP.getfield (i := 0) (j := 21) d8_125 (hw _ m_88) rfl rfl rfl ?_
            refine WP.aloadN d8_128 rfl ?_
            refine WP.getfield (i := 0) (j := 5) d8_129 (hw _ m_33) rfl rfl rfl ?_
            obtain ⟨hz13, h⟩ := nz_e h
            refine WP.irem d8_132 hz13 ?_
            refine WP.isub d8_133 ?_
            obtain ⟨c14, hc14, h⟩ := Option.bind_eq_some_iff.mp h
            refine WP.callP (i := 0) (y := y11) (as := [.int v1, .int (v1 + (1 : Int32)), .int ((gI s 2) - ((gI s 11) % (gI s 2)))]) (S := []) d8_134 (hw _ m_94) (hw _ m_96) (hw _ m_1) (hw _ m_95) (hw _ m_97) (hw _ m_2) hy11 rfl (ok11 l Z a0 hw v1 (v1 + (1 : Int32)) ((gI s 2) - ((gI s 11) % (gI s 2))) s _ hc14) rfl (lenOf pd11 rfl) (leb rfl) (leb rfl) (leb rfl) (leb rfl) ?_
            rintro _ _ ⟨rfl, rfl⟩
            show W8 l Z n0 (P8 r) 0 0 137 [.val (.ref 0), .val (.int v1), .val (.int v2), .val (.int c3), .unset] [] (Hb 0 c14)
            obtain ⟨x15, ex15, h⟩ := lt_e h
            refine WP.iinc (L' := [.val (.ref 0), .val (.int x15), .val (.int v2), .val (.int c3), .unset]) (1 : Int32) d8_137 rfl rfl (by subst ex15; rfl) ?_
            refine WP.goto (pc' := 155) d8_140 (by decide) rfl ?_
            exact WP.weak (L' := [.val (.ref 0), .val (.int x15), .val (.int v2), .unset, .unset]) ⟨rfl, rfl, rfl, trivial⟩ (ok8_155 l Z a0 hw n0 _ hk24 n x15 v2 c14 _ h)
          ·
            refine WP.icmpY (pc' := 143) d8_112 (XT.ii_ne_t hc12) (by decide) rfl ?_
            refine WP.aloadN d8_143 rfl ?_
            refine WP.iloadN d8_144 rfl ?_
            refine WP.iloadN d8_145 rfl ?_
            refine WP.iconst (1 : Int32) d8_146 rfl ?_
            refine WP.iadd d8_147 ?_
            refine WP.iconst (1 : Int32) d8_148 rfl ?_
            obtain ⟨c16, hc16, h⟩ := Option.bind_eq_some_iff.mp h
            refine WP.callP (i := 0) (y := y11) (as := [.int v1, .int (v1 + (1 : Int32)), .int (1 : Int32)]) (S := []) d8_149 (hw _ m_94) (hw _ m_96) (hw _ m_1) (hw _ m_95) (hw _ m_97) (hw _ m_2) hy11 rfl (ok11 l Z a0 hw v1 (v1 + (1 : Int32)) (1 : Int32) s _ hc16) rfl (lenOf pd11 rfl) (leb rfl) (leb rfl) (leb rfl) (leb rfl) ?_
            rintro _ _ ⟨rfl, rfl⟩
            show W8 l Z n0 (P8 r) 0 0 152 [.val (.ref 0), .val (.int v1), .val (.int v2), .val (.int c3), .unset] [] (Hb 0 c16)
            obtain ⟨x17, ex17, h⟩ := lt_e h
            refine WP.iinc (L' := [.val (.ref 0), .val (.int x17), .val (.int v2), .val (.int c3), .unset]) (1 : Int32) d8_152 rfl rfl (by subst ex17; rfl) ?_
            exact WP.weak (L' := [.val (.ref 0), .val (.int x17), .val (.int v2), .unset, .unset]) ⟨rfl, rfl, rfl, trivial⟩ (ok8_155 l Z a0 hw n0 _ hk24 n x17 v2 c16 _ h)
      ·
        refine WP.ifN d8_46 (XT.i0_lt_f hc4) ?_
        refine WP.aloadN d8_49 rfl ?_
        refine WP.getfield (i := 0) (j := 3) d8_50 (hw _ m_14) rfl rfl rfl ?_
        refine WP.iloadN d8_53 rfl ?_
        obtain ⟨x18, hx18, h⟩ := Option.bind_eq_some_iff.mp h
        refine WP.iaload (i := 3) d8_54 rfl hx18 ?_
        refine WP.istore (L' := [.val (.ref 0), .val (.int v1), .val (.int v2), .val (.int c3), .val (.int x18)]) d8_55 (leb rfl) rfl ?_
        refine WP.aloadN d8_57 rfl ?_
        refine WP.iloadN d8_58 rfl ?_
        refine WP.iload d8_59 rfl ?_
        refine WP.iconst (3 : Int32) d8_61 rfl ?_
        obtain ⟨c19, hc19, h⟩ := Option.bind_eq_some_iff.mp h
        refine WP.callP (i := 0) (y := y11) (as := [.int v1, .int x18, .int (3 : Int32)]) (S := []) d8_62 (hw _ m_94) (hw _ m_96) (hw _ m_1) (hw _ m_95) (hw _ m_97) (hw _ m_2) hy11 rfl (ok11 l Z a0 hw v1 x18 (3 : Int32) s _ hc19) rfl (lenOf pd11 rfl) (leb rfl) (leb rfl) (leb rfl) (leb rfl) ?_
        rintro _ _ ⟨rfl, rfl⟩
        show W8 l Z n0 (P8 r) 0 0 65 [.val (.ref 0), .val (.int v1), .val (.int v2), .val (.int c3), .val (.int x18)] [] (Hb 0 c19)
        refine WP.iload d8_65 rfl ?_
        refine WP.istoreN (L' := [.val (.ref 0), .val (.int x18), .val (.int v2), .val (.int c3), .val (.int x18)]) d8_67 (leb rfl) rfl ?_
        refine WP.goto (pc' := 155) d8_68 (by decide) rfl ?_
        exact WP.weak (L' := [.val (.ref 0), .val (.int x18), .val (.int v2), .unset, .unset]) ⟨rfl, rfl, rfl, trivial⟩ (ok8_155 l Z a0 hw n0 _ hk24 n x18 v2 c19 _ h)
    ·
      refine WP.icmpY (pc' := 161) d8_36 (XT.ii_ge_t hc2) (by decide) rfl ?_
      exact WP.weak (L' := [.val (.ref 0), .unset, .unset, .unset, .unset]) ⟨rfl, trivial⟩ (ok8_161 l Z a0 hw n0 n s _ h)
def f_layout_24 : Nat → Int32 → Int32 → St → Option (St)
  | 0 => fun _ _ _ => none
  | n + 1 => g_layout_24 (f_layout_24 n) n
theorem ok8_24 (l : Launch) (Z : State) (a0 : Array Value) (hw : HW a0 Z) (n0 : Nat) : ∀ (n : Nat) (v1 : Int32) (v2 : Int32) (s : St) (r : St), f_layout_24 n v1 v2 s = some r → W8 l Z n0 (P8 r) 0 0 24 [.val (.ref 0), .val (.int v1), .val (.int v2), .unset, .unset] [] (Hb 0 s)
  | 0, v1, v2, s, r, h => nomatch (show none = some r from h)
  | n + 1, v1, v2, s, r, h => okg8_24 l Z a0 hw n0 _ (ok8_24 l Z a0 hw n0 n) n v1 v2 s r h
def f_layout (n : Nat) (s : St) : Option (St) :=
  lt (sI s 5 (0 : Int32)) fun s1 =>
  lt (sI s1 6 (0 : Int32)) fun s2 =>
  (f_openRow (0 : Int32) s2).bind fun c3 =>
  lt (sI c3 11 (0 : Int32)) fun s4 =>
  f_layout_24 n (0 : Int32) (0 : Int32) s4
set_option maxRecDepth 65536 in
set_option maxHeartbeats 4000000 in
theorem ok8 (l : Launch) (Z : State) (a0 : Array Value) (hw : HW a0 Z) (n : Nat) (s : St) (r : St) (h : f_layout n s = some r) : CS l Z CN lay y8 prog_1_method_26_code 5 (none) R8 0 [.ref 0] (Hb 0 s) (P8 r) := by
  refine CS.of_wp pn_cls (leb rfl) fun n0 => ?_
  show W8 l Z n0 (P8 r) 0 0 0 [.val (.ref 0), .unset, .unset, .unset, .unset] [] (Hb 0 s)
  unfold f_layout at h
  refine WP.aloadN d8_0 rfl ?_
  refine WP.iconst (0 : Int32) d8_1 rfl ?_
  obtain ⟨s1, es1, h⟩ := lt_e h
  refine WP.putI (i := 0) (j := 11) (H' := (Hb 0 s1)) d8_2 (hw _ m_72) (Or.inl (hw _ m_73)) (hw _ m_1) (hlay hw) rfl rfl rfl (leb rfl) (by subst es1; rfl) ?_
  refine WP.aloadN d8_5 rfl ?_
  refine WP.iconst (0 : Int32) d8_6 rfl ?_
  obtain ⟨s2, es2, h⟩ := lt_e h
  refine WP.putI (i := 0) (j := 16) (H' := (Hb 0 s2)) d8_7 (hw _ m_74) (Or.inl (hw _ m_75)) (hw _ m_1) (hlay hw) rfl rfl rfl (leb rfl) (by subst es2; rfl) ?_
  refine WP.aloadN d8_10 rfl ?_
  refine WP.iconst (0 : Int32) d8_11 rfl ?_
  obtain ⟨c3, hc3, h⟩ := Option.bind_eq_some_iff.mp h
  refine WP.callP (i := 0) (y := y9) (as := [.int (0 : Int32)]) (S := []) d8_12 (hw _ m_76) (hw _ m_78) (hw _ m_1) (hw _ m_77) (hw _ m_79) (hw _ m_2) hy9 rfl (ok9 l Z a0 hw (0 : Int32) s2 _ hc3) rfl (lenOf pd9 rfl) (leb rfl) (leb rfl) (leb rfl) (leb rfl) ?_
  rintro _ _ ⟨rfl, rfl⟩
  show W8 l Z n0 (P8 r) 0 0 15 [.val (.ref 0), .unset, .unset, .unset, .unset] [] (Hb 0 c3)
  refine WP.aloadN d8_15 rfl ?_
  refine WP.iconst (0 : Int32) d8_16 rfl ?_
  obtain ⟨s4, es4, h⟩ := lt_e h
  refine WP.putI (i := 0) (j := 21) (H' := (Hb 0 s4)) d8_17 (hw _ m_88) (Or.inl (hw _ m_89)) (hw _ m_1) (hlay hw) rfl rfl rfl (leb rfl) (by subst es4; rfl) ?_
  refine WP.iconst (0 : Int32) d8_20 rfl ?_
  refine WP.istoreN (L' := [.val (.ref 0), .val (.int (0 : Int32)), .unset, .unset, .unset]) d8_21 (leb rfl) rfl ?_
  refine WP.iconst (0 : Int32) d8_22 rfl ?_
  refine WP.istoreN (L' := [.val (.ref 0), .val (.int (0 : Int32)), .val (.int (0 : Int32)), .unset, .unset]) d8_23 (leb rfl) rfl ?_
  exact WP.weak (L' := [.val (.ref 0), .val (.int (0 : Int32)), .val (.int (0 : Int32)), .unset, .unset]) ⟨rfl, rfl, rfl, trivial⟩ (ok8_24 l Z a0 hw n0 n (0 : Int32) (0 : Int32) s4 _ h)
theorem d7_0 : dc prog_1_method_25_code 0 (.aload_n 0) 1 := by decide +kernel
theorem d7_1 : dc prog_1_method_25_code 1 (.getfield 60) 3 := by decide +kernel
theorem d7_4 : dc prog_1_method_25_code 4 (.ifCond .eq 12) 3 := by decide +kernel
theorem d7_7 : dc prog_1_method_25_code 7 (.aload_n 0) 1 := by decide +kernel
theorem d7_8 : dc prog_1_method_25_code 8 (.invokevirtual 85) 3 := by decide +kernel
theorem d7_11 : dc prog_1_method_25_code 11 (.aload_n 0) 1 := by decide +kernel
theorem d7_12 : dc prog_1_method_25_code 12 (.iconst 0) 1 := by decide +kernel
theorem d7_13 : dc prog_1_method_25_code 13 (.putfield 60) 3 := by decide +kernel
theorem d7_16 : dc prog_1_method_25_code 16 (.return_) 1 := by decide +kernel
abbrev y7 : MethodName := ⟨"DisplayMap", "ensureLayout", "()V"⟩
theorem hy7 : y7.cls ≠ "java/lang/invoke/MethodHandle" ∧ y7.cls ≠ "java/lang/invoke/VarHandle" := by decide
theorem pd7 : parseMethodDescriptor y7.desc = some ⟨[], none⟩ := by decide +kernel
abbrev R7 : Room := { frames := 3, cells := 0, slots := 0, locals := 44 }
abbrev P7 (r : St) : Option Value → List OwnC → Prop := fun v H' => v = none ∧ H' = (Hb 0 r)
abbrev W7 (l : Launch) (Z : State) (n0 : Nat) (Q : Option Value → List OwnC → Prop) (k n pc : Nat) (L : List Slot) (S : List Value) (H : List OwnC) : Prop := WP l Z CN lay "DisplayMap" "ensureLayout" prog_1_method_25_code 1 (none) R7 n0 0 Q k n pc L S H
def f_ensureLayout_16 (n : Nat) (s : St) : Option (St) :=
  some s
set_option maxRecDepth 65536 in
set_option maxHeartbeats 4000000 in
theorem ok7_16 (l : Launch) (Z : State) (a0 : Array Value) (hw : HW a0 Z) (n0 : Nat) (n : Nat) (s : St) (r : St) (h : f_ensureLayout_16 n s = some r) : W7 l Z n0 (P7 r) 0 0 16 [.unset] [] (Hb 0 s) := by
  unfold f_ensureLayout_16 at h
  cases h
  exact WP.vreturn d7_16 rfl (leb rfl) (leb rfl) ⟨rfl, rfl⟩
def f_ensureLayout (n : Nat) (s : St) : Option (St) :=
  if (gI s 4) = 0 then
    f_ensureLayout_16 n s
  else
    (f_layout n s).bind fun c2 =>
    lt (sI c2 4 (0 : Int32)) fun s3 =>
    f_ensureLayout_16 n s3
set_option maxRecDepth 65536 in
set_option maxHeartbeats 4000000 in
theorem ok7 (l : Launch) (Z : State) (a0 : Array Value) (hw : HW a0 Z) (n : Nat) (s : St) (r : St) (h : f_ensureLayout n s = some r) : CS l Z CN lay y7 prog_1_method_25_code 1 (none) R7 0 [.ref 0] (Hb 0 s) (P7 r) := by
  refine CS.of_wp pn_cls (leb rfl) fun n0 => ?_
  show W7 l Z n0 (P7 r) 0 0 0 [.val (.ref 0)] [] (Hb 0 s)
  unfold f_ensureLayout at h
  refine WP.aloadN d7_0 rfl ?_
  refine WP.getfield (i := 0) (j := 7) d7_1 (hw _ m_44) rfl rfl rfl ?_
  rcases ite_e h with ⟨hc1, h⟩ | ⟨hc1, h⟩
  ·
    refine WP.ifY (pc' := 16) d7_4 (XT.i0_eq_t hc1) (by decide) rfl ?_
    exact WP.weak (L' := [.unset]) trivial (ok7_16 l Z a0 hw n0 n s _ h)
  ·
    refine WP.ifN d7_4 (XT.i0_eq_f hc1) ?_
    refine WP.aloadN d7_7 rfl ?_
    obtain ⟨c2, hc2, h⟩ := Option.bind_eq_some_iff.mp h
    refine WP.callP (i := 0) (y := y8) (as := []) (S := []) d7_8 (hw _ m_68) (hw _ m_70) (hw _ m_1) (hw _ m_69) (hw _ m_71) (hw _ m_2) hy8 rfl (ok8 l Z a0 hw n s _ hc2) rfl (lenOf pd8 rfl) (leb rfl) (leb rfl) (leb rfl) (leb rfl) ?_
    rintro _ _ ⟨rfl, rfl⟩
    show W7 l Z n0 (P7 r) 0 0 11 [.val (.ref 0)] [] (Hb 0 c2)
    refine WP.aloadN d7_11 rfl ?_
    refine WP.iconst (0 : Int32) d7_12 rfl ?_
    obtain ⟨s3, es3, h⟩ := lt_e h
    refine WP.putZ (i := 0) (j := 7) (H' := (Hb 0 s3)) d7_13 (hw _ m_44) (Or.inl (hw _ m_45)) (hw _ m_1) (hlay hw) rfl rfl rfl (leb rfl) (by subst es3; rfl) ?_
    exact WP.weak (L' := [.unset]) trivial (ok7_16 l Z a0 hw n0 n s3 _ h)
theorem d6_0 : dc prog_1_method_13_code 0 (.aload_n 0) 1 := by decide +kernel
theorem d6_1 : dc prog_1_method_13_code 1 (.invokevirtual 72) 3 := by decide +kernel
theorem d6_4 : dc prog_1_method_13_code 4 (.aload_n 0) 1 := by decide +kernel
theorem d6_5 : dc prog_1_method_13_code 5 (.getfield 75) 3 := by decide +kernel
theorem d6_8 : dc prog_1_method_13_code 8 (.ireturn) 1 := by decide +kernel
abbrev y6 : MethodName := ⟨"DisplayMap", "rowCount", "()I"⟩
theorem hy6 : y6.cls ≠ "java/lang/invoke/MethodHandle" ∧ y6.cls ≠ "java/lang/invoke/VarHandle" := by decide
theorem pd6 : parseMethodDescriptor y6.desc = some ⟨[], some .int⟩ := by decide +kernel
abbrev R6 : Room := { frames := 4, cells := 0, slots := 0, locals := 56 }
abbrev P6 (r : Int32 × St) : Option Value → List OwnC → Prop := fun v H' => v = some (.int r.1) ∧ H' = (Hb 0 r.2)
abbrev W6 (l : Launch) (Z : State) (n0 : Nat) (Q : Option Value → List OwnC → Prop) (k n pc : Nat) (L : List Slot) (S : List Value) (H : List OwnC) : Prop := WP l Z CN lay "DisplayMap" "rowCount" prog_1_method_13_code 1 (some FieldType.int) R6 n0 0 Q k n pc L S H
def f_rowCount (n : Nat) (s : St) : Option (Int32 × St) :=
  (f_ensureLayout n s).bind fun c1 =>
  some (gI c1 6, c1)
set_option maxRecDepth 65536 in
set_option maxHeartbeats 4000000 in
theorem ok6 (l : Launch) (Z : State) (a0 : Array Value) (hw : HW a0 Z) (n : Nat) (s : St) (r : Int32 × St) (h : f_rowCount n s = some r) : CS l Z CN lay y6 prog_1_method_13_code 1 (some FieldType.int) R6 0 [.ref 0] (Hb 0 s) (P6 r) := by
  refine CS.of_wp pn_cls (leb rfl) fun n0 => ?_
  show W6 l Z n0 (P6 r) 0 0 0 [.val (.ref 0)] [] (Hb 0 s)
  unfold f_rowCount at h
  refine WP.aloadN d6_0 rfl ?_
  obtain ⟨c1, hc1, h⟩ := Option.bind_eq_some_iff.mp h
  refine WP.callP (i := 0) (y := y7) (as := []) (S := []) d6_1 (hw _ m_64) (hw _ m_66) (hw _ m_1) (hw _ m_65) (hw _ m_67) (hw _ m_2) hy7 rfl (ok7 l Z a0 hw n s _ hc1) rfl (lenOf pd7 rfl) (leb rfl) (leb rfl) (leb rfl) (leb rfl) ?_
  rintro _ _ ⟨rfl, rfl⟩
  show W6 l Z n0 (P6 r) 0 0 4 [.val (.ref 0)] [] (Hb 0 c1)
  refine WP.aloadN d6_4 rfl ?_
  refine WP.getfield (i := 0) (j := 16) d6_5 (hw _ m_74) rfl rfl rfl ?_
  cases h
  exact WP.ireturn d6_8 rfl (leb rfl) (leb rfl) ⟨rfl, rfl⟩
theorem d13_0 : dc prog_1_method_14_code 0 (.aload_n 0) 1 := by decide +kernel
theorem d13_1 : dc prog_1_method_14_code 1 (.invokevirtual 72) 3 := by decide +kernel
theorem d13_4 : dc prog_1_method_14_code 4 (.iload_n 1) 1 := by decide +kernel
theorem d13_5 : dc prog_1_method_14_code 5 (.ifCond .lt 11) 3 := by decide +kernel
theorem d13_8 : dc prog_1_method_14_code 8 (.iload_n 1) 1 := by decide +kernel
theorem d13_9 : dc prog_1_method_14_code 9 (.aload_n 0) 1 := by decide +kernel
theorem d13_10 : dc prog_1_method_14_code 10 (.getfield 75) 3 := by decide +kernel
theorem d13_13 : dc prog_1_method_14_code 13 (.if_icmp .lt 5) 3 := by decide +kernel
theorem d13_16 : dc prog_1_method_14_code 16 (.iconst (-1)) 1 := by decide +kernel
theorem d13_17 : dc prog_1_method_14_code 17 (.ireturn) 1 := by decide +kernel
theorem d13_18 : dc prog_1_method_14_code 18 (.aload_n 0) 1 := by decide +kernel
theorem d13_19 : dc prog_1_method_14_code 19 (.getfield 28) 3 := by decide +kernel
theorem d13_22 : dc prog_1_method_14_code 22 (.iload_n 1) 1 := by decide +kernel
theorem d13_23 : dc prog_1_method_14_code 23 (.iaload) 1 := by decide +kernel
theorem d13_24 : dc prog_1_method_14_code 24 (.ireturn) 1 := by decide +kernel
abbrev y13 : MethodName := ⟨"DisplayMap", "rowStart", "(I)I"⟩
theorem hy13 : y13.cls ≠ "java/lang/invoke/MethodHandle" ∧ y13.cls ≠ "java/lang/invoke/VarHandle" := by decide
theorem pd13 : parseMethodDescriptor y13.desc = some ⟨[.int], some .int⟩ := by decide +kernel
abbrev R13 : Room := { frames := 4, cells := 0, slots := 0, locals := 56 }
abbrev P13 (r : Int32 × St) : Option Value → List OwnC → Prop := fun v H' => v = some (.int r.1) ∧ H' = (Hb 0 r.2)
abbrev W13 (l : Launch) (Z : State) (n0 : Nat) (Q : Option Value → List OwnC → Prop) (k n pc : Nat) (L : List Slot) (S : List Value) (H : List OwnC) : Prop := WP l Z CN lay "DisplayMap" "rowStart" prog_1_method_14_code 2 (some FieldType.int) R13 n0 0 Q k n pc L S H
def f_rowStart_16 (n : Nat) (s : St) : Option (Int32 × St) :=
  some ((-1 : Int32), s)
set_option maxRecDepth 65536 in
set_option maxHeartbeats 4000000 in
theorem ok13_16 (l : Launch) (Z : State) (a0 : Array Value) (hw : HW a0 Z) (n0 : Nat) (n : Nat) (s : St) (r : Int32 × St) (h : f_rowStart_16 n s = some r) : W13 l Z n0 (P13 r) 0 0 16 [.unset, .unset] [] (Hb 0 s) := by
  unfold f_rowStart_16 at h
  refine WP.iconst (-1 : Int32) d13_16 rfl ?_
  cases h
  exact WP.ireturn d13_17 rfl (leb rfl) (leb rfl) ⟨rfl, rfl⟩
def f_rowStart (n : Nat) (p1 : Int32) (s : St) : Option (Int32 × St) :=
  (f_ensureLayout n s).bind fun c1 =>
  if p1 < 0 then
    f_rowStart_16 n c1
  else
    if p1 < (gI c1 6) then
      (rd (gA c1 6) p1).bind fun x4 =>
      some (x4, c1)
    else
      f_rowStart_16 n c1
set_option maxRecDepth 65536 in
set_option maxHeartbeats 4000000 in
theorem ok13 (l : Launch) (Z : State) (a0 : Array Value) (hw : HW a0 Z) (n : Nat) (p1 : Int32) (s : St) (r : Int32 × St) (h : f_rowStart n p1 s = some r) : CS l Z CN lay y13 prog_1_method_14_code 2 (some FieldType.int) R13 0 [.ref 0, .int p1] (Hb 0 s) (P13 r) := by
  refine CS.of_wp pn_cls (leb rfl) fun n0 => ?_
  show W13 l Z n0 (P13 r) 0 0 0 [.val (.ref 0), .val (.int p1)] [] (Hb 0 s)
  unfold f_rowStart at h
  refine WP.aloadN d13_0 rfl ?_
  obtain ⟨c1, hc1, h⟩ := Option.bind_eq_some_iff.mp h
  refine WP.callP (i := 0) (y := y7) (as := []) (S := []) d13_1 (hw _ m_64) (hw _ m_66) (hw _ m_1) (hw _ m_65) (hw _ m_67) (hw _ m_2) hy7 rfl (ok7 l Z a0 hw n s _ hc1) rfl (lenOf pd7 rfl) (leb rfl) (leb rfl) (leb rfl) (leb rfl) ?_
  rintro _ _ ⟨rfl, rfl⟩
  show W13 l Z n0 (P13 r) 0 0 4 [.val (.ref 0), .val (.int p1)] [] (Hb 0 c1)
  refine WP.iloadN d13_4 rfl ?_
  rcases ite_e h with ⟨hc2, h⟩ | ⟨hc2, h⟩
  ·
    refine WP.ifY (pc' := 16) d13_5 (XT.i0_lt_t hc2) (by decide) rfl ?_
    exact WP.weak (L' := [.unset, .unset]) trivial (ok13_16 l Z a0 hw n0 n c1 _ h)
  ·
    refine WP.ifN d13_5 (XT.i0_lt_f hc2) ?_
    refine WP.iloadN d13_8 rfl ?_
    refine WP.aloadN d13_9 rfl ?_
    refine WP.getfield (i := 0) (j := 16) d13_10 (hw _ m_74) rfl rfl rfl ?_
    rcases ite_e h with ⟨hc3, h⟩ | ⟨hc3, h⟩
    ·
      refine WP.icmpY (pc' := 18) d13_13 (XT.ii_lt_t hc3) (by decide) rfl ?_
      refine WP.aloadN d13_18 rfl ?_
      refine WP.getfield (i := 0) (j := 12) d13_19 (hw _ m_22) rfl rfl rfl ?_
      refine WP.iloadN d13_22 rfl ?_
      obtain ⟨x4, hx4, h⟩ := Option.bind_eq_some_iff.mp h
      refine WP.iaload (i := 7) d13_23 rfl hx4 ?_
      cases h
      exact WP.ireturn d13_24 rfl (leb rfl) (leb rfl) ⟨rfl, rfl⟩
    ·
      refine WP.icmpN d13_13 (XT.ii_lt_f hc3) ?_
      exact WP.weak (L' := [.unset, .unset]) trivial (ok13_16 l Z a0 hw n0 n c1 _ h)
theorem d14_0 : dc prog_1_method_15_code 0 (.aload_n 0) 1 := by decide +kernel
theorem d14_1 : dc prog_1_method_15_code 1 (.invokevirtual 72) 3 := by decide +kernel
theorem d14_4 : dc prog_1_method_15_code 4 (.iload_n 1) 1 := by decide +kernel
theorem d14_5 : dc prog_1_method_15_code 5 (.ifCond .lt 11) 3 := by decide +kernel
theorem d14_8 : dc prog_1_method_15_code 8 (.iload_n 1) 1 := by decide +kernel
theorem d14_9 : dc prog_1_method_15_code 9 (.aload_n 0) 1 := by decide +kernel
theorem d14_10 : dc prog_1_method_15_code 10 (.getfield 75) 3 := by decide +kernel
theorem d14_13 : dc prog_1_method_15_code 13 (.if_icmp .lt 5) 3 := by decide +kernel
theorem d14_16 : dc prog_1_method_15_code 16 (.iconst (-1)) 1 := by decide +kernel
theorem d14_17 : dc prog_1_method_15_code 17 (.ireturn) 1 := by decide +kernel
theorem d14_18 : dc prog_1_method_15_code 18 (.aload_n 0) 1 := by decide +kernel
theorem d14_19 : dc prog_1_method_15_code 19 (.getfield 31) 3 := by decide +kernel
theorem d14_22 : dc prog_1_method_15_code 22 (.iload_n 1) 1 := by decide +kernel
theorem d14_23 : dc prog_1_method_15_code 23 (.iaload) 1 := by decide +kernel
theorem d14_24 : dc prog_1_method_15_code 24 (.ireturn) 1 := by decide +kernel
abbrev y14 : MethodName := ⟨"DisplayMap", "rowWidth", "(I)I"⟩
theorem hy14 : y14.cls ≠ "java/lang/invoke/MethodHandle" ∧ y14.cls ≠ "java/lang/invoke/VarHandle" := by decide
theorem pd14 : parseMethodDescriptor y14.desc = some ⟨[.int], some .int⟩ := by decide +kernel
abbrev R14 : Room := { frames := 4, cells := 0, slots := 0, locals := 56 }
abbrev P14 (r : Int32 × St) : Option Value → List OwnC → Prop := fun v H' => v = some (.int r.1) ∧ H' = (Hb 0 r.2)
abbrev W14 (l : Launch) (Z : State) (n0 : Nat) (Q : Option Value → List OwnC → Prop) (k n pc : Nat) (L : List Slot) (S : List Value) (H : List OwnC) : Prop := WP l Z CN lay "DisplayMap" "rowWidth" prog_1_method_15_code 2 (some FieldType.int) R14 n0 0 Q k n pc L S H
def f_rowWidth_16 (n : Nat) (s : St) : Option (Int32 × St) :=
  some ((-1 : Int32), s)
set_option maxRecDepth 65536 in
set_option maxHeartbeats 4000000 in
theorem ok14_16 (l : Launch) (Z : State) (a0 : Array Value) (hw : HW a0 Z) (n0 : Nat) (n : Nat) (s : St) (r : Int32 × St) (h : f_rowWidth_16 n s = some r) : W14 l Z n0 (P14 r) 0 0 16 [.unset, .unset] [] (Hb 0 s) := by
  unfold f_rowWidth_16 at h
  refine WP.iconst (-1 : Int32) d14_16 rfl ?_
  cases h
  exact WP.ireturn d14_17 rfl (leb rfl) (leb rfl) ⟨rfl, rfl⟩
def f_rowWidth (n : Nat) (p1 : Int32) (s : St) : Option (Int32 × St) :=
  (f_ensureLayout n s).bind fun c1 =>
  if p1 < 0 then
    f_rowWidth_16 n c1
  else
    if p1 < (gI c1 6) then
      (rd (gA c1 7) p1).bind fun x4 =>
      some (x4, c1)
    else
      f_rowWidth_16 n c1
set_option maxRecDepth 65536 in
set_option maxHeartbeats 4000000 in
theorem ok14 (l : Launch) (Z : State) (a0 : Array Value) (hw : HW a0 Z) (n : Nat) (p1 : Int32) (s : St) (r : Int32 × St) (h : f_rowWidth n p1 s = some r) : CS l Z CN lay y14 prog_1_method_15_code 2 (some FieldType.int) R14 0 [.ref 0, .int p1] (Hb 0 s) (P14 r) := by
  refine CS.of_wp pn_cls (leb rfl) fun n0 => ?_
  show W14 l Z n0 (P14 r) 0 0 0 [.val (.ref 0), .val (.int p1)] [] (Hb 0 s)
  unfold f_rowWidth at h
  refine WP.aloadN d14_0 rfl ?_
  obtain ⟨c1, hc1, h⟩ := Option.bind_eq_some_iff.mp h
  refine WP.callP (i := 0) (y := y7) (as := []) (S := []) d14_1 (hw _ m_64) (hw _ m_66) (hw _ m_1) (hw _ m_65) (hw _ m_67) (hw _ m_2) hy7 rfl (ok7 l Z a0 hw n s _ hc1) rfl (lenOf pd7 rfl) (leb rfl) (leb rfl) (leb rfl) (leb rfl) ?_
  rintro _ _ ⟨rfl, rfl⟩
  show W14 l Z n0 (P14 r) 0 0 4 [.val (.ref 0), .val (.int p1)] [] (Hb 0 c1)
  refine WP.iloadN d14_4 rfl ?_
  rcases ite_e h with ⟨hc2, h⟩ | ⟨hc2, h⟩
  ·
    refine WP.ifY (pc' := 16) d14_5 (XT.i0_lt_t hc2) (by decide) rfl ?_
    exact WP.weak (L' := [.unset, .unset]) trivial (ok14_16 l Z a0 hw n0 n c1 _ h)
  ·
    refine WP.ifN d14_5 (XT.i0_lt_f hc2) ?_
    refine WP.iloadN d14_8 rfl ?_
    refine WP.aloadN d14_9 rfl ?_
    refine WP.getfield (i := 0) (j := 16) d14_10 (hw _ m_74) rfl rfl rfl ?_
    rcases ite_e h with ⟨hc3, h⟩ | ⟨hc3, h⟩
    ·
      refine WP.icmpY (pc' := 18) d14_13 (XT.ii_lt_t hc3) (by decide) rfl ?_
      refine WP.aloadN d14_18 rfl ?_
      refine WP.getfield (i := 0) (j := 13) d14_19 (hw _ m_24) rfl rfl rfl ?_
      refine WP.iloadN d14_22 rfl ?_
      obtain ⟨x4, hx4, h⟩ := Option.bind_eq_some_iff.mp h
      refine WP.iaload (i := 8) d14_23 rfl hx4 ?_
      cases h
      exact WP.ireturn d14_24 rfl (leb rfl) (leb rfl) ⟨rfl, rfl⟩
    ·
      refine WP.icmpN d14_13 (XT.ii_lt_f hc3) ?_
      exact WP.weak (L' := [.unset, .unset]) trivial (ok14_16 l Z a0 hw n0 n c1 _ h)
theorem d16_0 : dc prog_1_method_22_code 0 (.iconst 0) 1 := by decide +kernel
theorem d16_1 : dc prog_1_method_22_code 1 (.istore_n 3) 1 := by decide +kernel
theorem d16_2 : dc prog_1_method_22_code 2 (.iload_n 3) 1 := by decide +kernel
theorem d16_3 : dc prog_1_method_22_code 3 (.aload_n 0) 1 := by decide +kernel
theorem d16_4 : dc prog_1_method_22_code 4 (.getfield 57) 3 := by decide +kernel
theorem d16_7 : dc prog_1_method_22_code 7 (.if_icmp .ge 49) 3 := by decide +kernel
theorem d16_10 : dc prog_1_method_22_code 10 (.aload_n 0) 1 := by decide +kernel
theorem d16_11 : dc prog_1_method_22_code 11 (.getfield 13) 3 := by decide +kernel
theorem d16_14 : dc prog_1_method_22_code 14 (.iload_n 3) 1 := by decide +kernel
theorem d16_15 : dc prog_1_method_22_code 15 (.iaload) 1 := by decide +kernel
theorem d16_16 : dc prog_1_method_22_code 16 (.iload_n 1) 1 := by decide +kernel
theorem d16_17 : dc prog_1_method_22_code 17 (.if_icmp .ge 33) 3 := by decide +kernel
theorem d16_20 : dc prog_1_method_22_code 20 (.iload_n 1) 1 := by decide +kernel
theorem d16_21 : dc prog_1_method_22_code 21 (.aload_n 0) 1 := by decide +kernel
theorem d16_22 : dc prog_1_method_22_code 22 (.getfield 16) 3 := by decide +kernel
theorem d16_25 : dc prog_1_method_22_code 25 (.iload_n 3) 1 := by decide +kernel
theorem d16_26 : dc prog_1_method_22_code 26 (.iaload) 1 := by decide +kernel
theorem d16_27 : dc prog_1_method_22_code 27 (.if_icmp .ge 23) 3 := by decide +kernel
theorem d16_30 : dc prog_1_method_22_code 30 (.iload_n 2) 1 := by decide +kernel
theorem d16_31 : dc prog_1_method_22_code 31 (.ifCond .ne 12) 3 := by decide +kernel
theorem d16_34 : dc prog_1_method_22_code 34 (.aload_n 0) 1 := by decide +kernel
theorem d16_35 : dc prog_1_method_22_code 35 (.getfield 13) 3 := by decide +kernel
theorem d16_38 : dc prog_1_method_22_code 38 (.iload_n 3) 1 := by decide +kernel
theorem d16_39 : dc prog_1_method_22_code 39 (.iaload) 1 := by decide +kernel
theorem d16_40 : dc prog_1_method_22_code 40 (.goto 9) 3 := by decide +kernel
theorem d16_43 : dc prog_1_method_22_code 43 (.aload_n 0) 1 := by decide +kernel
theorem d16_44 : dc prog_1_method_22_code 44 (.getfield 16) 3 := by decide +kernel
theorem d16_47 : dc prog_1_method_22_code 47 (.iload_n 3) 1 := by decide +kernel
theorem d16_48 : dc prog_1_method_22_code 48 (.iaload) 1 := by decide +kernel
theorem d16_49 : dc prog_1_method_22_code 49 (.ireturn) 1 := by decide +kernel
theorem d16_50 : dc prog_1_method_22_code 50 (.iinc 3 1) 3 := by decide +kernel
theorem d16_53 : dc prog_1_method_22_code 53 (.goto (-51)) 3 := by decide +kernel
theorem d16_56 : dc prog_1_method_22_code 56 (.iload_n 1) 1 := by decide +kernel
theorem d16_57 : dc prog_1_method_22_code 57 (.ireturn) 1 := by decide +kernel
abbrev y16 : MethodName := ⟨"DisplayMap", "snapOutOfFold", "(II)I"⟩
theorem hy16 : y16.cls ≠ "java/lang/invoke/MethodHandle" ∧ y16.cls ≠ "java/lang/invoke/VarHandle" := by decide
theorem pd16 : parseMethodDescriptor y16.desc = some ⟨[.int, .int], some .int⟩ := by decide +kernel
abbrev R16 : Room := { frames := 0, cells := 0, slots := 0, locals := 0 }
abbrev P16 (s : St) (r : Int32) : Option Value → List OwnC → Prop := fun v H' => v = some (.int r) ∧ H' = (Hb 0 s)
abbrev W16 (l : Launch) (Z : State) (n0 : Nat) (Q : Option Value → List OwnC → Prop) (k n pc : Nat) (L : List Slot) (S : List Value) (H : List OwnC) : Prop := WP l Z CN lay "DisplayMap" "snapOutOfFold" prog_1_method_22_code 4 (some FieldType.int) R16 n0 0 Q k n pc L S H
def f_snapOutOfFold_49 (n : Nat) (t0 : Int32) (s : St) : Option (Int32) :=
  some t0
set_option maxRecDepth 65536 in
set_option maxHeartbeats 4000000 in
theorem ok16_49 (l : Launch) (Z : State) (a0 : Array Value) (hw : HW a0 Z) (n0 : Nat) (n : Nat) (t0 : Int32) (s : St) (r : Int32) (h : f_snapOutOfFold_49 n t0 s = some r) : W16 l Z n0 (P16 s r) 0 0 49 [.unset, .unset, .unset, .unset] [.int t0] (Hb 0 s) := by
  unfold f_snapOutOfFold_49 at h
  cases h
  exact WP.ireturn d16_49 rfl (leb rfl) (leb rfl) ⟨rfl, rfl⟩
def f_snapOutOfFold_50 (k2 : Int32 → Int32 → Int32 → St → Option (Int32)) (n : Nat) (v1 : Int32) (v2 : Int32) (v3 : Int32) (s : St) : Option (Int32) :=
  lt (v3 + (1 : Int32)) fun x1 =>
  k2 v1 v2 x1 s
set_option maxRecDepth 65536 in
set_option maxHeartbeats 4000000 in
theorem ok16_50 (l : Launch) (Z : State) (a0 : Array Value) (hw : HW a0 Z) (n0 : Nat) (k2 : Int32 → Int32 → Int32 → St → Option (Int32)) (hk2 : ∀ (v1 : Int32) (v2 : Int32) (v3 : Int32) (s : St) (r : Int32), k2 v1 v2 v3 s = some r → W16 l Z n0 (P16 s r) 0 0 2 [.val (.ref 0), .val (.int v1), .val (.int v2), .val (.int v3)] [] (Hb 0 s)) (n : Nat) (v1 : Int32) (v2 : Int32) (v3 : Int32) (s : St) (r : Int32) (h : f_snapOutOfFold_50 k2 n v1 v2 v3 s = some r) : W16 l Z n0 (P16 s r) 0 0 50 [.val (.ref 0), .val (.int v1), .val (.int v2), .val (.int v3)] [] (Hb 0 s) := by
  unfold f_snapOutOfFold_50 at h
  obtain ⟨x1, ex1, h⟩ := lt_e h
  refine WP.iinc (L' := [.val (.ref 0), .val (.int v1), .val (.int v2), .val (.int x1)]) (1 : Int32) d16_50 rfl rfl (by subst ex1; rfl) ?_
  refine WP.goto (pc' := 2) d16_53 (by decide) rfl ?_
  exact WP.weak (L' := [.val (.ref 0), .val (.int v1), .val (.int v2), .val (.int x1)]) ⟨rfl, rfl, rfl, rfl, trivial⟩ (hk2 v1 v2 x1 s _ h)
def g_snapOutOfFold_2 (k2 : Int32 → Int32 → Int32 → St → Option (Int32)) (n : Nat) (v1 : Int32) (v2 : Int32) (v3 : Int32) (s : St) : Option (Int32) :=
  if v3 < (gI s 1) then
    (rd (gA s 1) v3).bind fun x2 =>
    if x2 < v1 then
      (rd (gA s 2) v3).bind fun x4 =>
      if v1 < x4 then
        if v2 = 0 then
          (rd (gA s 1) v3).bind fun x7 =>
          f_snapOutOfFold_49 n x7 s
        else
          (rd (gA s 2) v3).bind fun x8 =>
          f_snapOutOfFold_49 n x8 s
      else
        f_snapOutOfFold_50 k2 n v1 v2 v3 s
    else
      f_snapOutOfFold_50 k2 n v1 v2 v3 s
  else
    some v1
set_option maxRecDepth 65536 in
set_option maxHeartbeats 4000000 in
theorem okg16_2 (l : Launch) (Z : State) (a0 : Array Value) (hw : HW a0 Z) (n0 : Nat) (k2 : Int32 → Int32 → Int32 → St → Option (Int32)) (hk2 : ∀ (v1 : Int32) (v2 : Int32) (v3 : Int32) (s : St) (r : Int32), k2 v1 v2 v3 s = some r → W16 l Z n0 (P16 s r) 0 0 2 [.val (.ref 0), .val (.int v1), .val (.int v2), .val (.int v3)] [] (Hb 0 s)) (n : Nat) (v1 : Int32) (v2 : Int32) (v3 : Int32) (s : St) (r : Int32) (h : g_snapOutOfFold_2 k2 n v1 v2 v3 s = some r) : W16 l Z n0 (P16 s r) 0 0 2 [.val (.ref 0), .val (.int v1), .val (.int v2), .val (.int v3)] [] (Hb 0 s) := by
  unfold g_snapOutOfFold_2 at h
  refine WP.iloadN d16_2 rfl ?_
  refine WP.aloadN d16_3 rfl ?_
  refine WP.getfield (i := 0) (j := 4) d16_4 (hw _ m_42) rfl rfl rfl ?_
  rcases ite_e h with ⟨hc1, h⟩ | ⟨hc1, h⟩
  ·
    refine WP.icmpN d16_7 (XT.ii_ge_f hc1) ?_
    refine WP.aloadN d16_10 rfl ?_
    refine WP.getfield (i := 0) (j := 2) d16_11 (hw _ m_12) rfl rfl rfl ?_
    refine WP.iloadN d16_14 rfl ?_
    obtain ⟨x2, hx2, h⟩ := Option.bind_eq_some_iff.mp h
    refine WP.iaload (i := 2) d16_15 rfl hx2 ?_
    refine WP.iloadN d16_16 rfl ?_
    rcases ite_e h with ⟨hc3, h⟩ | ⟨hc3, h⟩
    ·
      refine WP.icmpN d16_17 (XT.ii_ge_f hc3) ?_
      refine WP.iloadN d16_20 rfl ?_
      refine WP.aloadN d16_21 rfl ?_
      refine WP.getfield (i := 0) (j := 3) d16_22 (hw _ m_14) rfl rfl rfl ?_
      refine WP.iloadN d16_25 rfl ?_
      obtain ⟨x4, hx4, h⟩ := Option.bind_eq_some_iff.mp h
      refine WP.iaload (i := 3) d16_26 rfl hx4 ?_
      rcases ite_e h with ⟨hc5, h⟩ | ⟨hc5, h⟩
      ·
        refine WP.icmpN d16_27 (XT.ii_ge_f hc5) ?_
        refine WP.iloadN d16_30 rfl ?_
        rcases ite_e h with ⟨hc6, h⟩ | ⟨hc6, h⟩
        ·
          refine WP.ifN d16_31 (XT.i0_ne_f hc6) ?_
          refine WP.aloadN d16_34 rfl ?_
          refine WP.getfield (i := 0) (j := 2) d16_35 (hw _ m_12) rfl rfl rfl ?_
          refine WP.iloadN d16_38 rfl ?_
          obtain ⟨x7, hx7, h⟩ := Option.bind_eq_some_iff.mp h
          refine WP.iaload (i := 2) d16_39 rfl hx7 ?_
          refine WP.goto (pc' := 49) d16_40 (by decide) rfl ?_
          exact WP.weak (L' := [.unset, .unset, .unset, .unset]) trivial (ok16_49 l Z a0 hw n0 n x7 s _ h)
        ·
          refine WP.ifY (pc' := 43) d16_31 (XT.i0_ne_t hc6) (by decide) rfl ?_
          refine WP.aloadN d16_43 rfl ?_
          refine WP.getfield (i := 0) (j := 3) d16_44 (hw _ m_14) rfl rfl rfl ?_
          refine WP.iloadN d16_47 rfl ?_
          obtain ⟨x8, hx8, h⟩ := Option.bind_eq_some_iff.mp h
          refine WP.iaload (i := 3) d16_48 rfl hx8 ?_
          exact WP.weak (L' := [.unset, .unset, .unset, .unset]) trivial (ok16_49 l Z a0 hw n0 n x8 s _ h)
      ·
        refine WP.icmpY (pc' := 50) d16_27 (XT.ii_ge_t hc5) (by decide) rfl ?_
        exact WP.weak (L' := [.val (.ref 0), .val (.int v1), .val (.int v2), .val (.int v3)]) ⟨rfl, rfl, rfl, rfl, trivial⟩ (ok16_50 l Z a0 hw n0 _ hk2 n v1 v2 v3 s _ h)
    ·
      refine WP.icmpY (pc' := 50) d16_17 (XT.ii_ge_t hc3) (by decide) rfl ?_
      exact WP.weak (L' := [.val (.ref 0), .val (.int v1), .val (.int v2), .val (.int v3)]) ⟨rfl, rfl, rfl, rfl, trivial⟩ (ok16_50 l Z a0 hw n0 _ hk2 n v1 v2 v3 s _ h)
  ·
    refine WP.icmpY (pc' := 56) d16_7 (XT.ii_ge_t hc1) (by decide) rfl ?_
    refine WP.iloadN d16_56 rfl ?_
    cases h
    exact WP.ireturn d16_57 rfl (leb rfl) (leb rfl) ⟨rfl, rfl⟩
def f_snapOutOfFold_2 : Nat → Int32 → Int32 → Int32 → St → Option (Int32)
  | 0 => fun _ _ _ _ => none
  | n + 1 => g_snapOutOfFold_2 (f_snapOutOfFold_2 n) n
theorem ok16_2 (l : Launch) (Z : State) (a0 : Array Value) (hw : HW a0 Z) (n0 : Nat) : ∀ (n : Nat) (v1 : Int32) (v2 : Int32) (v3 : Int32) (s : St) (r : Int32), f_snapOutOfFold_2 n v1 v2 v3 s = some r → W16 l Z n0 (P16 s r) 0 0 2 [.val (.ref 0), .val (.int v1), .val (.int v2), .val (.int v3)] [] (Hb 0 s)
  | 0, v1, v2, v3, s, r, h => nomatch (show none = some r from h)
  | n + 1, v1, v2, v3, s, r, h => okg16_2 l Z a0 hw n0 _ (ok16_2 l Z a0 hw n0 n) n v1 v2 v3 s r h
def f_snapOutOfFold (n : Nat) (p1 : Int32) (p2 : Int32) (s : St) : Option (Int32) :=
  f_snapOutOfFold_2 n p1 p2 (0 : Int32) s
set_option maxRecDepth 65536 in
set_option maxHeartbeats 4000000 in
theorem ok16 (l : Launch) (Z : State) (a0 : Array Value) (hw : HW a0 Z) (n : Nat) (p1 : Int32) (p2 : Int32) (s : St) (r : Int32) (h : f_snapOutOfFold n p1 p2 s = some r) : CS l Z CN lay y16 prog_1_method_22_code 4 (some FieldType.int) R16 0 [.ref 0, .int p1, .int p2] (Hb 0 s) (P16 s r) := by
  refine CS.of_wp pn_cls (leb rfl) fun n0 => ?_
  show W16 l Z n0 (P16 s r) 0 0 0 [.val (.ref 0), .val (.int p1), .val (.int p2), .unset] [] (Hb 0 s)
  unfold f_snapOutOfFold at h
  refine WP.iconst (0 : Int32) d16_0 rfl ?_
  refine WP.istoreN (L' := [.val (.ref 0), .val (.int p1), .val (.int p2), .val (.int (0 : Int32))]) d16_1 (leb rfl) rfl ?_
  exact WP.weak (L' := [.val (.ref 0), .val (.int p1), .val (.int p2), .val (.int (0 : Int32))]) ⟨rfl, rfl, rfl, rfl, trivial⟩ (ok16_2 l Z a0 hw n0 n p1 p2 (0 : Int32) s _ h)
theorem d15_0 : dc prog_1_method_16_code 0 (.iload_n 2) 1 := by decide +kernel
theorem d15_1 : dc prog_1_method_16_code 1 (.ifCond .eq 10) 3 := by decide +kernel
theorem d15_4 : dc prog_1_method_16_code 4 (.iload_n 2) 1 := by decide +kernel
theorem d15_5 : dc prog_1_method_16_code 5 (.iconst 1) 1 := by decide +kernel
theorem d15_6 : dc prog_1_method_16_code 6 (.if_icmp .eq 5) 3 := by decide +kernel
theorem d15_9 : dc prog_1_method_16_code 9 (.iconst (-1)) 1 := by decide +kernel
theorem d15_10 : dc prog_1_method_16_code 10 (.ireturn) 1 := by decide +kernel
theorem d15_11 : dc prog_1_method_16_code 11 (.iload_n 1) 1 := by decide +kernel
theorem d15_12 : dc prog_1_method_16_code 12 (.ifCond .lt 11) 3 := by decide +kernel
theorem d15_15 : dc prog_1_method_16_code 15 (.iload_n 1) 1 := by decide +kernel
theorem d15_16 : dc prog_1_method_16_code 16 (.aload_n 0) 1 := by decide +kernel
theorem d15_17 : dc prog_1_method_16_code 17 (.getfield 54) 3 := by decide +kernel
theorem d15_20 : dc prog_1_method_16_code 20 (.if_icmp .le 5) 3 := by decide +kernel
theorem d15_23 : dc prog_1_method_16_code 23 (.iconst (-1)) 1 := by decide +kernel
theorem d15_24 : dc prog_1_method_16_code 24 (.ireturn) 1 := by decide +kernel
theorem d15_25 : dc prog_1_method_16_code 25 (.aload_n 0) 1 := by decide +kernel
theorem d15_26 : dc prog_1_method_16_code 26 (.iload_n 1) 1 := by decide +kernel
theorem d15_27 : dc prog_1_method_16_code 27 (.iload_n 2) 1 := by decide +kernel
theorem d15_28 : dc prog_1_method_16_code 28 (.invokevirtual 78) 3 := by decide +kernel
theorem d15_31 : dc prog_1_method_16_code 31 (.istore_n 3) 1 := by decide +kernel
theorem d15_32 : dc prog_1_method_16_code 32 (.aload_n 0) 1 := by decide +kernel
theorem d15_33 : dc prog_1_method_16_code 33 (.invokevirtual 72) 3 := by decide +kernel
theorem d15_36 : dc prog_1_method_16_code 36 (.iconst 0) 1 := by decide +kernel
theorem d15_37 : dc prog_1_method_16_code 37 (.istore 4) 2 := by decide +kernel
theorem d15_39 : dc prog_1_method_16_code 39 (.iconst 0) 1 := by decide +kernel
theorem d15_40 : dc prog_1_method_16_code 40 (.istore 5) 2 := by decide +kernel
theorem d15_42 : dc prog_1_method_16_code 42 (.iload 5) 2 := by decide +kernel
theorem d15_44 : dc prog_1_method_16_code 44 (.aload_n 0) 1 := by decide +kernel
theorem d15_45 : dc prog_1_method_16_code 45 (.getfield 75) 3 := by decide +kernel
theorem d15_48 : dc prog_1_method_16_code 48 (.if_icmp .ge 24) 3 := by decide +kernel
theorem d15_51 : dc prog_1_method_16_code 51 (.aload_n 0) 1 := by decide +kernel
theorem d15_52 : dc prog_1_method_16_code 52 (.getfield 28) 3 := by decide +kernel
theorem d15_55 : dc prog_1_method_16_code 55 (.iload 5) 2 := by decide +kernel
theorem d15_57 : dc prog_1_method_16_code 57 (.iaload) 1 := by decide +kernel
theorem d15_58 : dc prog_1_method_16_code 58 (.iload_n 3) 1 := by decide +kernel
theorem d15_59 : dc prog_1_method_16_code 59 (.if_icmp .gt 7) 3 := by decide +kernel
theorem d15_62 : dc prog_1_method_16_code 62 (.iload 5) 2 := by decide +kernel
theorem d15_64 : dc prog_1_method_16_code 64 (.istore 4) 2 := by decide +kernel
theorem d15_66 : dc prog_1_method_16_code 66 (.iinc 5 1) 3 := by decide +kernel
theorem d15_69 : dc prog_1_method_16_code 69 (.goto (-27)) 3 := by decide +kernel
theorem d15_72 : dc prog_1_method_16_code 72 (.iconst 0) 1 := by decide +kernel
theorem d15_73 : dc prog_1_method_16_code 73 (.istore 5) 2 := by decide +kernel
theorem d15_75 : dc prog_1_method_16_code 75 (.aload_n 0) 1 := by decide +kernel
theorem d15_76 : dc prog_1_method_16_code 76 (.getfield 34) 3 := by decide +kernel
theorem d15_79 : dc prog_1_method_16_code 79 (.iload 4) 2 := by decide +kernel
theorem d15_81 : dc prog_1_method_16_code 81 (.iaload) 1 := by decide +kernel
theorem d15_82 : dc prog_1_method_16_code 82 (.istore 6) 2 := by decide +kernel
theorem d15_84 : dc prog_1_method_16_code 84 (.iload 6) 2 := by decide +kernel
theorem d15_86 : dc prog_1_method_16_code 86 (.aload_n 0) 1 := by decide +kernel
theorem d15_87 : dc prog_1_method_16_code 87 (.getfield 37) 3 := by decide +kernel
theorem d15_90 : dc prog_1_method_16_code 90 (.iload 4) 2 := by decide +kernel
theorem d15_92 : dc prog_1_method_16_code 92 (.iaload) 1 := by decide +kernel
theorem d15_93 : dc prog_1_method_16_code 93 (.iadd) 1 := by decide +kernel
theorem d15_94 : dc prog_1_method_16_code 94 (.istore 7) 2 := by decide +kernel
theorem d15_96 : dc prog_1_method_16_code 96 (.iload 6) 2 := by decide +kernel
theorem d15_98 : dc prog_1_method_16_code 98 (.istore 8) 2 := by decide +kernel
theorem d15_100 : dc prog_1_method_16_code 100 (.iload 8) 2 := by decide +kernel
theorem d15_102 : dc prog_1_method_16_code 102 (.iload 7) 2 := by decide +kernel
theorem d15_104 : dc prog_1_method_16_code 104 (.if_icmp .ge 45) 3 := by decide +kernel
theorem d15_107 : dc prog_1_method_16_code 107 (.iload 8) 2 := by decide +kernel
theorem d15_109 : dc prog_1_method_16_code 109 (.sipush 256) 3 := by decide +kernel
theorem d15_112 : dc prog_1_method_16_code 112 (.if_icmp .ge 37) 3 := by decide +kernel
theorem d15_115 : dc prog_1_method_16_code 115 (.iload 8) 2 := by decide +kernel
theorem d15_117 : dc prog_1_method_16_code 117 (.ifCond .lt 26) 3 := by decide +kernel
theorem d15_120 : dc prog_1_method_16_code 120 (.aload_n 0) 1 := by decide +kernel
theorem d15_121 : dc prog_1_method_16_code 121 (.getfield 19) 3 := by decide +kernel
theorem d15_124 : dc prog_1_method_16_code 124 (.iload 8) 2 := by decide +kernel
theorem d15_126 : dc prog_1_method_16_code 126 (.iaload) 1 := by decide +kernel
theorem d15_127 : dc prog_1_method_16_code 127 (.iload_n 3) 1 := by decide +kernel
theorem d15_128 : dc prog_1_method_16_code 128 (.if_icmp .ge 15) 3 := by decide +kernel
theorem d15_131 : dc prog_1_method_16_code 131 (.iload 5) 2 := by decide +kernel
theorem d15_133 : dc prog_1_method_16_code 133 (.aload_n 0) 1 := by decide +kernel
theorem d15_134 : dc prog_1_method_16_code 134 (.getfield 25) 3 := by decide +kernel
theorem d15_137 : dc prog_1_method_16_code 137 (.iload 8) 2 := by decide +kernel
theorem d15_139 : dc prog_1_method_16_code 139 (.iaload) 1 := by decide +kernel
theorem d15_140 : dc prog_1_method_16_code 140 (.iadd) 1 := by decide +kernel
theorem d15_141 : dc prog_1_method_16_code 141 (.istore 5) 2 := by decide +kernel
theorem d15_143 : dc prog_1_method_16_code 143 (.iinc 8 1) 3 := by decide +kernel
theorem d15_146 : dc prog_1_method_16_code 146 (.goto (-46)) 3 := by decide +kernel
theorem d15_149 : dc prog_1_method_16_code 149 (.iload 4) 2 := by decide +kernel
theorem d15_151 : dc prog_1_method_16_code 151 (.sipush 256) 3 := by decide +kernel
theorem d15_154 : dc prog_1_method_16_code 154 (.imul) 1 := by decide +kernel
theorem d15_155 : dc prog_1_method_16_code 155 (.iload 5) 2 := by decide +kernel
theorem d15_157 : dc prog_1_method_16_code 157 (.iadd) 1 := by decide +kernel
theorem d15_158 : dc prog_1_method_16_code 158 (.ireturn) 1 := by decide +kernel
abbrev y15 : MethodName := ⟨"DisplayMap", "toDisplay", "(II)I"⟩
theorem hy15 : y15.cls ≠ "java/lang/invoke/MethodHandle" ∧ y15.cls ≠ "java/lang/invoke/VarHandle" := by decide
theorem pd15 : parseMethodDescriptor y15.desc = some ⟨[.int, .int], some .int⟩ := by decide +kernel
abbrev R15 : Room := { frames := 4, cells := 0, slots := 0, locals := 56 }
abbrev P15 (r : Int32 × St) : Option Value → List OwnC → Prop := fun v H' => v = some (.int r.1) ∧ H' = (Hb 0 r.2)
abbrev W15 (l : Launch) (Z : State) (n0 : Nat) (Q : Option Value → List OwnC → Prop) (k n pc : Nat) (L : List Slot) (S : List Value) (H : List OwnC) : Prop := WP l Z CN lay "DisplayMap" "toDisplay" prog_1_method_16_code 9 (some FieldType.int) R15 n0 0 Q k n pc L S H
def f_toDisplay_23 (n : Nat) (s : St) : Option (Int32 × St) :=
  some ((-1 : Int32), s)
set_option maxRecDepth 65536 in
set_option maxHeartbeats 4000000 in
theorem ok15_23 (l : Launch) (Z : State) (a0 : Array Value) (hw : HW a0 Z) (n0 : Nat) (n : Nat) (s : St) (r : Int32 × St) (h : f_toDisplay_23 n s = some r) : W15 l Z n0 (P15 r) 0 0 23 [.unset, .unset, .unset, .unset, .unset, .unset, .unset, .unset, .unset] [] (Hb 0 s) := by
  unfold f_toDisplay_23 at h
  refine WP.iconst (-1 : Int32) d15_23 rfl ?_
  cases h
  exact WP.ireturn d15_24 rfl (leb rfl) (leb rfl) ⟨rfl, rfl⟩
def f_toDisplay_66 (k42 : Int32 → Int32 → Int32 → St → Option (Int32 × St)) (n : Nat) (v3 : Int32) (v4 : Int32) (v5 : Int32) (s : St) : Option (Int32 × St) :=
  lt (v5 + (1 : Int32)) fun x1 =>
  k42 v3 v4 x1 s
set_option maxRecDepth 65536 in
set_option maxHeartbeats 4000000 in
theorem ok15_66 (l : Launch) (Z : State) (a0 : Array Value) (hw : HW a0 Z) (n0 : Nat) (k42 : Int32 → Int32 → Int32 → St → Option (Int32 × St)) (hk42 : ∀ (v3 : Int32) (v4 : Int32) (v5 : Int32) (s : St) (r : Int32 × St), k42 v3 v4 v5 s = some r → W15 l Z n0 (P15 r) 0 0 42 [.val (.ref 0), .unset, .unset, .val (.int v3), .val (.int v4), .val (.int v5), .unset, .unset, .unset] [] (Hb 0 s)) (n : Nat) (v3 : Int32) (v4 : Int32) (v5 : Int32) (s : St) (r : Int32 × St) (h : f_toDisplay_66 k42 n v3 v4 v5 s = some r) : W15 l Z n0 (P15 r) 0 0 66 [.val (.ref 0), .unset, .unset, .val (.int v3), .val (.int v4), .val (.int v5), .unset, .unset, .unset] [] (Hb 0 s) := by
  unfold f_toDisplay_66 at h
  obtain ⟨x1, ex1, h⟩ := lt_e h
  refine WP.iinc (L' := [.val (.ref 0), .unset, .unset, .val (.int v3), .val (.int v4), .val (.int x1), .unset, .unset, .unset]) (1 : Int32) d15_66 rfl rfl (by subst ex1; rfl) ?_
  refine WP.goto (pc' := 42) d15_69 (by decide) rfl ?_
  exact WP.weak (L' := [.val (.ref 0), .unset, .unset, .val (.int v3), .val (.int v4), .val (.int x1), .unset, .unset, .unset]) ⟨rfl, rfl, rfl, rfl, trivial⟩ (hk42 v3 v4 x1 s _ h)
def f_toDisplay_143 (k100 : Int32 → Int32 → Int32 → Int32 → Int32 → St → Option (Int32 × St)) (n : Nat) (v3 : Int32) (v4 : Int32) (v5 : Int32) (v7 : Int32) (v8 : Int32) (s : St) : Option (Int32 × St) :=
  lt (v8 + (1 : Int32)) fun x1 =>
  k100 v3 v4 v5 v7 x1 s
set_option maxRecDepth 65536 in
set_option maxHeartbeats 4000000 in
theorem ok15_143 (l : Launch) (Z : State) (a0 : Array Value) (hw : HW a0 Z) (n0 : Nat) (k100 : Int32 → Int32 → Int32 → Int32 → Int32 → St → Option (Int32 × St)) (hk100 : ∀ (v3 : Int32) (v4 : Int32) (v5 : Int32) (v7 : Int32) (v8 : Int32) (s : St) (r : Int32 × St), k100 v3 v4 v5 v7 v8 s = some r → W15 l Z n0 (P15 r) 0 0 100 [.val (.ref 0), .unset, .unset, .val (.int v3), .val (.int v4), .val (.int v5), .unset, .val (.int v7), .val (.int v8)] [] (Hb 0 s)) (n : Nat) (v3 : Int32) (v4 : Int32) (v5 : Int32) (v7 : Int32) (v8 : Int32) (s : St) (r : Int32 × St) (h : f_toDisplay_143 k100 n v3 v4 v5 v7 v8 s = some r) : W15 l Z n0 (P15 r) 0 0 143 [.val (.ref 0), .unset, .unset, .val (.int v3), .val (.int v4), .val (.int v5), .unset, .val (.int v7), .val (.int v8)] [] (Hb 0 s) := by
  unfold f_toDisplay_143 at h
  obtain ⟨x1, ex1, h⟩ := lt_e h
  refine WP.iinc (L' := [.val (.ref 0), .unset, .unset, .val (.int v3), .val (.int v4), .val (.int v5), .unset, .val (.int v7), .val (.int x1)]) (1 : Int32) d15_143 rfl rfl (by subst ex1; rfl) ?_
  refine WP.goto (pc' := 100) d15_146 (by decide) rfl ?_
  exact WP.weak (L' := [.val (.ref 0), .unset, .unset, .val (.int v3), .val (.int v4), .val (.int v5), .unset, .val (.int v7), .val (.int x1)]) ⟨rfl, rfl, rfl, rfl, rfl, rfl, trivial⟩ (hk100 v3 v4 v5 v7 x1 s _ h)
def f_toDisplay_149 (n : Nat) (v4 : Int32) (v5 : Int32) (s : St) : Option (Int32 × St) :=
  some ((v4 * (256 : Int32)) + v5, s)
set_option maxRecDepth 65536 in
set_option maxHeartbeats 4000000 in
theorem ok15_149 (l : Launch) (Z : State) (a0 : Array Value) (hw : HW a0 Z) (n0 : Nat) (n : Nat) (v4 : Int32) (v5 : Int32) (s : St) (r : Int32 × St) (h : f_toDisplay_149 n v4 v5 s = some r) : W15 l Z n0 (P15 r) 0 0 149 [.unset, .unset, .unset, .unset, .val (.int v4), .val (.int v5), .unset, .unset, .unset] [] (Hb 0 s) := by
  unfold f_toDisplay_149 at h
  refine WP.iload d15_149 rfl ?_
  refine WP.sipush (256 : Int32) d15_151 rfl ?_
  refine WP.imul d15_154 ?_
  refine WP.iload d15_155 rfl ?_
  refine WP.iadd d15_157 ?_
  cases h
  exact WP.ireturn d15_158 rfl (leb rfl) (leb rfl) ⟨rfl, rfl⟩
def g_toDisplay_100 (k100 : Int32 → Int32 → Int32 → Int32 → Int32 → St → Option (Int32 × St)) (n : Nat) (v3 : Int32) (v4 : Int32) (v5 : Int32) (v7 : Int32) (v8 : Int32) (s : St) : Option (Int32 × St) :=
  if v8 < v7 then
    if v8 < (256 : Int32) then
      if v8 < 0 then
        f_toDisplay_143 k100 n v3 v4 v5 v7 v8 s
      else
        (rd (gA s 3) v8).bind fun x4 =>
        if x4 < v3 then
          (rd (gA s 5) v8).bind fun x6 =>
          lt (v5 + x6) fun x7 =>
          f_toDisplay_143 k100 n v3 v4 x7 v7 v8 s
        else
          f_toDisplay_143 k100 n v3 v4 v5 v7 v8 s
    else
      f_toDisplay_149 n v4 v5 s
  else
    f_toDisplay_149 n v4 v5 s
set_option maxRecDepth 65536 in
set_option maxHeartbeats 4000000 in
theorem okg15_100 (l : Launch) (Z : State) (a0 : Array Value) (hw : HW a0 Z) (n0 : Nat) (k100 : Int32 → Int32 → Int32 → Int32 → Int32 → St → Option (Int32 × St)) (hk100 : ∀ (v3 : Int32) (v4 : Int32) (v5 : Int32) (v7 : Int32) (v8 : Int32) (s : St) (r : Int32 × St), k100 v3 v4 v5 v7 v8 s = some r → W15 l Z n0 (P15 r) 0 0 100 [.val (.ref 0), .unset, .unset, .val (.int v3), .val (.int v4), .val (.int v5), .unset, .val (.int v7), .val (.int v8)] [] (Hb 0 s)) (n : Nat) (v3 : Int32) (v4 : Int32) (v5 : Int32) (v7 : Int32) (v8 : Int32) (s : St) (r : Int32 × St) (h : g_toDisplay_100 k100 n v3 v4 v5 v7 v8 s = some r) : W15 l Z n0 (P15 r) 0 0 100 [.val (.ref 0), .unset, .unset, .val (.int v3), .val (.int v4), .val (.int v5), .unset, .val (.int v7), .val (.int v8)] [] (Hb 0 s) := by
  unfold g_toDisplay_100 at h
  refine WP.iload d15_100 rfl ?_
  refine WP.iload d15_102 rfl ?_
  rcases ite_e h with ⟨hc1, h⟩ | ⟨hc1, h⟩
  ·
    refine WP.icmpN d15_104 (XT.ii_ge_f hc1) ?_
    refine WP.iload d15_107 rfl ?_
    refine WP.sipush (256 : Int32) d15_109 rfl ?_
    rcases ite_e h with ⟨hc2, h⟩ | ⟨hc2, h⟩
    ·
      refine WP.icmpN d15_112 (XT.ii_ge_f hc2) ?_
      refine WP.iload d15_115 rfl ?_
      rcases ite_e h with ⟨hc3, h⟩ | ⟨hc3, h⟩
      ·
        refine WP.ifY (pc' := 143) d15_117 (XT.i0_lt_t hc3) (by decide) rfl ?_
        exact WP.weak (L' := [.val (.ref 0), .unset, .unset, .val (.int v3), .val (.int v4), .val (.int v5), .unset, .val (.int v7), .val (.int v8)]) ⟨rfl, rfl, rfl, rfl, rfl, rfl, trivial⟩ (ok15_143 l Z a0 hw n0 _ hk100 n v3 v4 v5 v7 v8 s _ h)
      ·
        refine WP.ifN d15_117 (XT.i0_lt_f hc3) ?_
        refine WP.aloadN d15_120 rfl ?_
        refine WP.getfield (i := 0) (j := 8) d15_121 (hw _ m_16) rfl rfl rfl ?_
        refine WP.iload d15_124 rfl ?_
        obtain ⟨x4, hx4, h⟩ := Option.bind_eq_some_iff.mp h
        refine WP.iaload (i := 4) d15_126 rfl hx4 ?_
        refine WP.iloadN d15_127 rfl ?_
        rcases ite_e h with ⟨hc5, h⟩ | ⟨hc5, h⟩
        ·
          refine WP.icmpN d15_128 (XT.ii_ge_f hc5) ?_
          refine WP.iload d15_131 rfl ?_
          refine WP.aloadN d15_133 rfl ?_
          refine WP.getfield (i := 0) (j := 10) d15_134 (hw _ m_20) rfl rfl rfl ?_
          refine WP.iload d15_137 rfl ?_
          obtain ⟨x6, hx6, h⟩ := Option.bind_eq_some_iff.mp h
          refine WP.iaload (i := 6) d15_139 rfl hx6 ?_
          refine WP.iadd d15_140 ?_
          obtain ⟨x7, ex7, h⟩ := lt_e h
          refine WP.istore (L' := [.val (.ref 0), .unset, .unset, .val (.int v3), .val (.int v4), .val (.int x7), .unset, .val (.int v7), .val (.int v8)]) d15_141 (leb rfl) (by subst ex7; rfl) ?_
          exact WP.weak (L' := [.val (.ref 0), .unset, .unset, .val (.int v3), .val (.int v4), .val (.int x7), .unset, .val (.int v7), .val (.int v8)]) ⟨rfl, rfl, rfl, rfl, rfl, rfl, trivial⟩ (ok15_143 l Z a0 hw n0 _ hk100 n v3 v4 x7 v7 v8 s _ h)
        ·
          refine WP.icmpY (pc' := 143) d15_128 (XT.ii_ge_t hc5) (by decide) rfl ?_
          exact WP.weak (L' := [.val (.ref 0), .unset, .unset, .val (.int v3), .val (.int v4), .val (.int v5), .unset, .val (.int v7), .val (.int v8)]) ⟨rfl, rfl, rfl, rfl, rfl, rfl, trivial⟩ (ok15_143 l Z a0 hw n0 _ hk100 n v3 v4 v5 v7 v8 s _ h)
    ·
      refine WP.icmpY (pc' := 149) d15_112 (XT.ii_ge_t hc2) (by decide) rfl ?_
      exact WP.weak (L' := [.unset, .unset, .unset, .unset, .val (.int v4), .val (.int v5), .unset, .unset, .unset]) ⟨rfl, rfl, trivial⟩ (ok15_149 l Z a0 hw n0 n v4 v5 s _ h)
  ·
    refine WP.icmpY (pc' := 149) d15_104 (XT.ii_ge_t hc1) (by decide) rfl ?_
    exact WP.weak (L' := [.unset, .unset, .unset, .unset, .val (.int v4), .val (.int v5), .unset, .unset, .unset]) ⟨rfl, rfl, trivial⟩ (ok15_149 l Z a0 hw n0 n v4 v5 s _ h)
def f_toDisplay_100 : Nat → Int32 → Int32 → Int32 → Int32 → Int32 → St → Option (Int32 × St)
  | 0 => fun _ _ _ _ _ _ => none
  | n + 1 => g_toDisplay_100 (f_toDisplay_100 n) n
theorem ok15_100 (l : Launch) (Z : State) (a0 : Array Value) (hw : HW a0 Z) (n0 : Nat) : ∀ (n : Nat) (v3 : Int32) (v4 : Int32) (v5 : Int32) (v7 : Int32) (v8 : Int32) (s : St) (r : Int32 × St), f_toDisplay_100 n v3 v4 v5 v7 v8 s = some r → W15 l Z n0 (P15 r) 0 0 100 [.val (.ref 0), .unset, .unset, .val (.int v3), .val (.int v4), .val (.int v5), .unset, .val (.int v7), .val (.int v8)] [] (Hb 0 s)
  | 0, v3, v4, v5, v7, v8, s, r, h => nomatch (show none = some r from h)
  | n + 1, v3, v4, v5, v7, v8, s, r, h => okg15_100 l Z a0 hw n0 _ (ok15_100 l Z a0 hw n0 n) n v3 v4 v5 v7 v8 s r h
def g_toDisplay_42 (k42 : Int32 → Int32 → Int32 → St → Option (Int32 × St)) (n : Nat) (v3 : Int32) (v4 : Int32) (v5 : Int32) (s : St) : Option (Int32 × St) :=
  if v5 < (gI s 6) then
    (rd (gA s 6) v5).bind fun x2 =>
    if v3 < x2 then
      f_toDisplay_66 k42 n v3 v4 v5 s
    else
      f_toDisplay_66 k42 n v3 v5 v5 s
  else
    (rd (gA s 8) v4).bind fun x4 =>
    (rd (gA s 9) v4).bind fun x5 =>
    lt (x4 + x5) fun x6 =>
    f_toDisplay_100 n v3 v4 (0 : Int32) x6 x4 s
set_option maxRecDepth 65536 in
set_option maxHeartbeats 4000000 in
theorem okg15_42 (l : Launch) (Z : State) (a0 : Array Value) (hw : HW a0 Z) (n0 : Nat) (k42 : Int32 → Int32 → Int32 → St → Option (Int32 × St)) (hk42 : ∀ (v3 : Int32) (v4 : Int32) (v5 : Int32) (s : St) (r : Int32 × St), k42 v3 v4 v5 s = some r → W15 l Z n0 (P15 r) 0 0 42 [.val (.ref 0), .unset, .unset, .val (.int v3), .val (.int v4), .val (.int v5), .unset, .unset, .unset] [] (Hb 0 s)) (n : Nat) (v3 : Int32) (v4 : Int32) (v5 : Int32) (s : St) (r : Int32 × St) (h : g_toDisplay_42 k42 n v3 v4 v5 s = some r) : W15 l Z n0 (P15 r) 0 0 42 [.val (.ref 0), .unset, .unset, .val (.int v3), .val (.int v4), .val (.int v5), .unset, .unset, .unset] [] (Hb 0 s) := by
  unfold g_toDisplay_42 at h
  refine WP.iload d15_42 rfl ?_
  refine WP.aloadN d15_44 rfl ?_
  refine WP.getfield (i := 0) (j := 16) d15_45 (hw _ m_74) rfl rfl rfl ?_
  rcases ite_e h with ⟨hc1, h⟩ | ⟨hc1, h⟩
  ·
    refine WP.icmpN d15_48 (XT.ii_ge_f hc1) ?_
    refine WP.aloadN d15_51 rfl ?_
    refine WP.getfield (i := 0) (j := 12) d15_52 (hw _ m_22) rfl rfl rfl ?_
    refine WP.iload d15_55 rfl ?_
    obtain ⟨x2, hx2, h⟩ := Option.bind_eq_some_iff.mp h
    refine WP.iaload (i := 7) d15_57 rfl hx2 ?_
    refine WP.iloadN d15_58 rfl ?_
    rcases ite_e h with ⟨hc3, h⟩ | ⟨hc3, h⟩
    ·
      refine WP.icmpY (pc' := 66) d15_59 (XT.ii_gt_t hc3) (by decide) rfl ?_
      exact WP.weak (L' := [.val (.ref 0), .unset, .unset, .val (.int v3), .val (.int v4), .val (.int v5), .unset, .unset, .unset]) ⟨rfl, rfl, rfl, rfl, trivial⟩ (ok15_66 l Z a0 hw n0 _ hk42 n v3 v4 v5 s _ h)
    ·
      refine WP.icmpN d15_59 (XT.ii_gt_f hc3) ?_
      refine WP.iload d15_62 rfl ?_
      refine WP.istore (L' := [.val (.ref 0), .unset, .unset, .val (.int v3), .val (.int v5), .val (.int v5), .unset, .unset, .unset]) d15_64 (leb rfl) rfl ?_
      exact WP.weak (L' := [.val (.ref 0), .unset, .unset, .val (.int v3), .val (.int v5), .val (.int v5), .unset, .unset, .unset]) ⟨rfl, rfl, rfl, rfl, trivial⟩ (ok15_66 l Z a0 hw n0 _ hk42 n v3 v5 v5 s _ h)
  ·
    refine WP.icmpY (pc' := 72) d15_48 (XT.ii_ge_t hc1) (by decide) rfl ?_
    refine WP.iconst (0 : Int32) d15_72 rfl ?_
    refine WP.istore (L' := [.val (.ref 0), .unset, .unset, .val (.int v3), .val (.int v4), .val (.int (0 : Int32)), .unset, .unset, .unset]) d15_73 (leb rfl) rfl ?_
    refine WP.aloadN d15_75 rfl ?_
    refine WP.getfield (i := 0) (j := 14) d15_76 (hw _ m_26) rfl rfl rfl ?_
    refine WP.iload d15_79 rfl ?_
    obtain ⟨x4, hx4, h⟩ := Option.bind_eq_some_iff.mp h
    refine WP.iaload (i := 9) d15_81 rfl hx4 ?_
    refine WP.istore (L' := [.val (.ref 0), .unset, .unset, .val (.int v3), .val (.int v4), .val (.int (0 : Int32)), .val (.int x4), .unset, .unset]) d15_82 (leb rfl) rfl ?_
    refine WP.iload d15_84 rfl ?_
    refine WP.aloadN d15_86 rfl ?_
    refine WP.getfield (i := 0) (j := 15) d15_87 (hw _ m_28) rfl rfl rfl ?_
    refine WP.iload d15_90 rfl ?_
    obtain ⟨x5, hx5, h⟩ := Option.bind_eq_some_iff.mp h
    refine WP.iaload (i := 10) d15_92 rfl hx5 ?_
    refine WP.iadd d15_93 ?_
    obtain ⟨x6, ex6, h⟩ := lt_e h
    refine WP.istore (L' := [.val (.ref 0), .unset, .unset, .val (.int v3), .val (.int v4), .val (.int (0 : Int32)), .val (.int x4), .val (.int x6), .unset]) d15_94 (leb rfl) (by subst ex6; rfl) ?_
    refine WP.iload d15_96 rfl ?_
    refine WP.istore (L' := [.val (.ref 0), .unset, .unset, .val (.int v3), .val (.int v4), .val (.int (0 : Int32)), .val (.int x4), .val (.int x6), .val (.int x4)]) d15_98 (leb rfl) rfl ?_
    exact WP.weak (L' := [.val (.ref 0), .unset, .unset, .val (.int v3), .val (.int v4), .val (.int (0 : Int32)), .unset, .val (.int x6), .val (.int x4)]) ⟨rfl, rfl, rfl, rfl, rfl, rfl, trivial⟩ (ok15_100 l Z a0 hw n0 n v3 v4 (0 : Int32) x6 x4 s _ h)
def f_toDisplay_42 : Nat → Int32 → Int32 → Int32 → St → Option (Int32 × St)
  | 0 => fun _ _ _ _ => none
  | n + 1 => g_toDisplay_42 (f_toDisplay_42 n) n
theorem ok15_42 (l : Launch) (Z : State) (a0 : Array Value) (hw : HW a0 Z) (n0 : Nat) : ∀ (n : Nat) (v3 : Int32) (v4 : Int32) (v5 : Int32) (s : St) (r : Int32 × St), f_toDisplay_42 n v3 v4 v5 s = some r → W15 l Z n0 (P15 r) 0 0 42 [.val (.ref 0), .unset, .unset, .val (.int v3), .val (.int v4), .val (.int v5), .unset, .unset, .unset] [] (Hb 0 s)
  | 0, v3, v4, v5, s, r, h => nomatch (show none = some r from h)
  | n + 1, v3, v4, v5, s, r, h => okg15_42 l Z a0 hw n0 _ (ok15_42 l Z a0 hw n0 n) n v3 v4 v5 s r h
def f_toDisplay_11 (n : Nat) (v1 : Int32) (v2 : Int32) (s : St) : Option (Int32 × St) :=
  if v1 < 0 then
    f_toDisplay_23 n s
  else
    if (gI s 0) < v1 then
      f_toDisplay_23 n s
    else
      (f_snapOutOfFold n v1 v2 s).bind fun c3 =>
      (f_ensureLayout n s).bind fun c4 =>
      f_toDisplay_42 n c3 (0 : Int32) (0 : Int32) c4
set_option maxRecDepth 65536 in
set_option maxHeartbeats 4000000 in
theorem ok15_11 (l : Launch) (Z : State) (a0 : Array Value) (hw : HW a0 Z) (n0 : Nat) (n : Nat) (v1 : Int32) (v2 : Int32) (s : St) (r : Int32 × St) (h : f_toDisplay_11 n v1 v2 s = some r) : W15 l Z n0 (P15 r) 0 0 11 [.val (.ref 0), .val (.int v1), .val (.int v2), .unset, .unset, .unset, .unset, .unset, .unset] [] (Hb 0 s) := by
  unfold f_toDisplay_11 at h
  refine WP.iloadN d15_11 rfl ?_
  rcases ite_e h with ⟨hc1, h⟩ | ⟨hc1, h⟩
  ·
    refine WP.ifY (pc' := 23) d15_12 (XT.i0_lt_t hc1) (by decide) rfl ?_
    exact WP.weak (L' := [.unset, .unset, .unset, .unset, .unset, .unset, .unset, .unset, .unset]) trivial (ok15_23 l Z a0 hw n0 n s _ h)
  ·
    refine WP.ifN d15_12 (XT.i0_lt_f hc1) ?_
    refine WP.iloadN d15_15 rfl ?_
    refine WP.aloadN d15_16 rfl ?_
    refine WP.getfield (i := 0) (j := 1) d15_17 (hw _ m_40) rfl rfl rfl ?_
    rcases ite_e h with ⟨hc2, h⟩ | ⟨hc2, h⟩
    ·
      refine WP.icmpN d15_20 (XT.ii_le_f hc2) ?_
      exact WP.weak (L' := [.unset, .unset, .unset, .unset, .unset, .unset, .unset, .unset, .unset]) trivial (ok15_23 l Z a0 hw n0 n s _ h)
    ·
      refine WP.icmpY (pc' := 25) d15_20 (XT.ii_le_t hc2) (by decide) rfl ?_
      refine WP.aloadN d15_25 rfl ?_
      refine WP.iloadN d15_26 rfl ?_
      refine WP.iloadN d15_27 rfl ?_
      obtain ⟨c3, hc3, h⟩ := Option.bind_eq_some_iff.mp h
      refine WP.callP (i := 0) (y := y16) (as := [.int v1, .int v2]) (S := []) d15_28 (hw _ m_117) (hw _ m_119) (hw _ m_1) (hw _ m_118) (hw _ m_120) (hw _ m_2) hy16 rfl (ok16 l Z a0 hw n v1 v2 s _ hc3) rfl (lenOf pd16 rfl) (leb rfl) (leb rfl) (leb rfl) (leb rfl) ?_
      rintro _ _ ⟨rfl, rfl⟩
      show W15 l Z n0 (P15 r) 0 0 31 [.val (.ref 0), .val (.int v1), .val (.int v2), .unset, .unset, .unset, .unset, .unset, .unset] [.int c3] (Hb 0 s)
      refine WP.istoreN (L' := [.val (.ref 0), .val (.int v1), .val (.int v2), .val (.int c3), .unset, .unset, .unset, .unset, .unset]) d15_31 (leb rfl) rfl ?_
      refine WP.aloadN d15_32 rfl ?_
      obtain ⟨c4, hc4, h⟩ := Option.bind_eq_some_iff.mp h
      refine WP.callP (i := 0) (y := y7) (as := []) (S := []) d15_33 (hw _ m_64) (hw _ m_66) (hw _ m_1) (hw _ m_65) (hw _ m_67) (hw _ m_2) hy7 rfl (ok7 l Z a0 hw n s _ hc4) rfl (lenOf pd7 rfl) (leb rfl) (leb rfl) (leb rfl) (leb rfl) ?_
      rintro _ _ ⟨rfl, rfl⟩
      show W15 l Z n0 (P15 r) 0 0 36 [.val (.ref 0), .val (.int v1), .val (.int v2), .val (.int c3), .unset, .unset, .unset, .unset, .unset] [] (Hb 0 c4)
      refine WP.iconst (0 : Int32) d15_36 rfl ?_
      refine WP.istore (L' := [.val (.ref 0), .val (.int v1), .val (.int v2), .val (.int c3), .val (.int (0 : Int32)), .unset, .unset, .unset, .unset]) d15_37 (leb rfl) rfl ?_
      refine WP.iconst (0 : Int32) d15_39 rfl ?_
      refine WP.istore (L' := [.val (.ref 0), .val (.int v1), .val (.int v2), .val (.int c3), .val (.int (0 : Int32)), .val (.int (0 : Int32)), .unset, .unset, .unset]) d15_40 (leb rfl) rfl ?_
      exact WP.weak (L' := [.val (.ref 0), .unset, .unset, .val (.int c3), .val (.int (0 : Int32)), .val (.int (0 : Int32)), .unset, .unset, .unset]) ⟨rfl, rfl, rfl, rfl, trivial⟩ (ok15_42 l Z a0 hw n0 n c3 (0 : Int32) (0 : Int32) c4 _ h)
def f_toDisplay (n : Nat) (p1 : Int32) (p2 : Int32) (s : St) : Option (Int32 × St) :=
  if p2 = 0 then
    f_toDisplay_11 n p1 p2 s
  else
    if p2 = (1 : Int32) then
      f_toDisplay_11 n p1 p2 s
    else
      some ((-1 : Int32), s)
set_option maxRecDepth 65536 in
set_option maxHeartbeats 4000000 in
theorem ok15 (l : Launch) (Z : State) (a0 : Array Value) (hw : HW a0 Z) (n : Nat) (p1 : Int32) (p2 : Int32) (s : St) (r : Int32 × St) (h : f_toDisplay n p1 p2 s = some r) : CS l Z CN lay y15 prog_1_method_16_code 9 (some FieldType.int) R15 0 [.ref 0, .int p1, .int p2] (Hb 0 s) (P15 r) := by
  refine CS.of_wp pn_cls (leb rfl) fun n0 => ?_
  show W15 l Z n0 (P15 r) 0 0 0 [.val (.ref 0), .val (.int p1), .val (.int p2), .unset, .unset, .unset, .unset, .unset, .unset] [] (Hb 0 s)
  unfold f_toDisplay at h
  refine WP.iloadN d15_0 rfl ?_
  rcases ite_e h with ⟨hc1, h⟩ | ⟨hc1, h⟩
  ·
    refine WP.ifY (pc' := 11) d15_1 (XT.i0_eq_t hc1) (by decide) rfl ?_
    exact WP.weak (L' := [.val (.ref 0), .val (.int p1), .val (.int p2), .unset, .unset, .unset, .unset, .unset, .unset]) ⟨rfl, rfl, rfl, trivial⟩ (ok15_11 l Z a0 hw n0 n p1 p2 s _ h)
  ·
    refine WP.ifN d15_1 (XT.i0_eq_f hc1) ?_
    refine WP.iloadN d15_4 rfl ?_
    refine WP.iconst (1 : Int32) d15_5 rfl ?_
    rcases ite_e h with ⟨hc2, h⟩ | ⟨hc2, h⟩
    ·
      refine WP.icmpY (pc' := 11) d15_6 (XT.ii_eq_t hc2) (by decide) rfl ?_
      exact WP.weak (L' := [.val (.ref 0), .val (.int p1), .val (.int p2), .unset, .unset, .unset, .unset, .unset, .unset]) ⟨rfl, rfl, rfl, trivial⟩ (ok15_11 l Z a0 hw n0 n p1 p2 s _ h)
    ·
      refine WP.icmpN d15_6 (XT.ii_eq_f hc2) ?_
      refine WP.iconst (-1 : Int32) d15_9 rfl ?_
      cases h
      exact WP.ireturn d15_10 rfl (leb rfl) (leb rfl) ⟨rfl, rfl⟩
theorem d17_0 : dc prog_1_method_17_code 0 (.iload_n 3) 1 := by decide +kernel
theorem d17_1 : dc prog_1_method_17_code 1 (.ifCond .eq 10) 3 := by decide +kernel
theorem d17_4 : dc prog_1_method_17_code 4 (.iload_n 3) 1 := by decide +kernel
theorem d17_5 : dc prog_1_method_17_code 5 (.iconst 1) 1 := by decide +kernel
theorem d17_6 : dc prog_1_method_17_code 6 (.if_icmp .eq 5) 3 := by decide +kernel
theorem d17_9 : dc prog_1_method_17_code 9 (.iconst (-1)) 1 := by decide +kernel
theorem d17_10 : dc prog_1_method_17_code 10 (.ireturn) 1 := by decide +kernel
theorem d17_11 : dc prog_1_method_17_code 11 (.aload_n 0) 1 := by decide +kernel
theorem d17_12 : dc prog_1_method_17_code 12 (.invokevirtual 72) 3 := by decide +kernel
theorem d17_15 : dc prog_1_method_17_code 15 (.iload_n 1) 1 := by decide +kernel
theorem d17_16 : dc prog_1_method_17_code 16 (.ifCond .lt 11) 3 := by decide +kernel
theorem d17_19 : dc prog_1_method_17_code 19 (.iload_n 1) 1 := by decide +kernel
theorem d17_20 : dc prog_1_method_17_code 20 (.aload_n 0) 1 := by decide +kernel
theorem d17_21 : dc prog_1_method_17_code 21 (.getfield 75) 3 := by decide +kernel
theorem d17_24 : dc prog_1_method_17_code 24 (.if_icmp .lt 5) 3 := by decide +kernel
theorem d17_27 : dc prog_1_method_17_code 27 (.iconst (-1)) 1 := by decide +kernel
theorem d17_28 : dc prog_1_method_17_code 28 (.ireturn) 1 := by decide +kernel
theorem d17_29 : dc prog_1_method_17_code 29 (.iload_n 2) 1 := by decide +kernel
theorem d17_30 : dc prog_1_method_17_code 30 (.ifCond .ge 5) 3 := by decide +kernel
theorem d17_33 : dc prog_1_method_17_code 33 (.iconst (-1)) 1 := by decide +kernel
theorem d17_34 : dc prog_1_method_17_code 34 (.ireturn) 1 := by decide +kernel
theorem d17_35 : dc prog_1_method_17_code 35 (.iconst 0) 1 := by decide +kernel
theorem d17_36 : dc prog_1_method_17_code 36 (.istore 4) 2 := by decide +kernel
theorem d17_38 : dc prog_1_method_17_code 38 (.aload_n 0) 1 := by decide +kernel
theorem d17_39 : dc prog_1_method_17_code 39 (.getfield 34) 3 := by decide +kernel
theorem d17_42 : dc prog_1_method_17_code 42 (.iload_n 1) 1 := by decide +kernel
theorem d17_43 : dc prog_1_method_17_code 43 (.iaload) 1 := by decide +kernel
theorem d17_44 : dc prog_1_method_17_code 44 (.istore 5) 2 := by decide +kernel
theorem d17_46 : dc prog_1_method_17_code 46 (.iload 5) 2 := by decide +kernel
theorem d17_48 : dc prog_1_method_17_code 48 (.aload_n 0) 1 := by decide +kernel
theorem d17_49 : dc prog_1_method_17_code 49 (.getfield 37) 3 := by decide +kernel
theorem d17_52 : dc prog_1_method_17_code 52 (.iload_n 1) 1 := by decide +kernel
theorem d17_53 : dc prog_1_method_17_code 53 (.iaload) 1 := by decide +kernel
theorem d17_54 : dc prog_1_method_17_code 54 (.iadd) 1 := by decide +kernel
theorem d17_55 : dc prog_1_method_17_code 55 (.istore 6) 2 := by decide +kernel
theorem d17_57 : dc prog_1_method_17_code 57 (.iload 5) 2 := by decide +kernel
theorem d17_59 : dc prog_1_method_17_code 59 (.istore 7) 2 := by decide +kernel
theorem d17_61 : dc prog_1_method_17_code 61 (.iload 7) 2 := by decide +kernel
theorem d17_63 : dc prog_1_method_17_code 63 (.iload 6) 2 := by decide +kernel
theorem d17_65 : dc prog_1_method_17_code 65 (.if_icmp .ge 76) 3 := by decide +kernel
theorem d17_68 : dc prog_1_method_17_code 68 (.iload 7) 2 := by decide +kernel
theorem d17_70 : dc prog_1_method_17_code 70 (.sipush 256) 3 := by decide +kernel
theorem d17_73 : dc prog_1_method_17_code 73 (.if_icmp .ge 68) 3 := by decide +kernel
theorem d17_76 : dc prog_1_method_17_code 76 (.iload 7) 2 := by decide +kernel
theorem d17_78 : dc prog_1_method_17_code 78 (.ifCond .ge 6) 3 := by decide +kernel
theorem d17_81 : dc prog_1_method_17_code 81 (.goto 54) 3 := by decide +kernel
theorem d17_84 : dc prog_1_method_17_code 84 (.aload_n 0) 1 := by decide +kernel
theorem d17_85 : dc prog_1_method_17_code 85 (.getfield 25) 3 := by decide +kernel
theorem d17_88 : dc prog_1_method_17_code 88 (.iload 7) 2 := by decide +kernel
theorem d17_90 : dc prog_1_method_17_code 90 (.iaload) 1 := by decide +kernel
theorem d17_91 : dc prog_1_method_17_code 91 (.istore 8) 2 := by decide +kernel
theorem d17_93 : dc prog_1_method_17_code 93 (.iload_n 2) 1 := by decide +kernel
theorem d17_94 : dc prog_1_method_17_code 94 (.iload 4) 2 := by decide +kernel
theorem d17_96 : dc prog_1_method_17_code 96 (.iload 8) 2 := by decide +kernel
theorem d17_98 : dc prog_1_method_17_code 98 (.iadd) 1 := by decide +kernel
theorem d17_99 : dc prog_1_method_17_code 99 (.if_icmp .ge 29) 3 := by decide +kernel
theorem d17_102 : dc prog_1_method_17_code 102 (.iload_n 2) 1 := by decide +kernel
theorem d17_103 : dc prog_1_method_17_code 103 (.iload 4) 2 := by decide +kernel
theorem d17_105 : dc prog_1_method_17_code 105 (.if_icmp .eq 7) 3 := by decide +kernel
theorem d17_108 : dc prog_1_method_17_code 108 (.iload_n 3) 1 := by decide +kernel
theorem d17_109 : dc prog_1_method_17_code 109 (.ifCond .ne 11) 3 := by decide +kernel
theorem d17_112 : dc prog_1_method_17_code 112 (.aload_n 0) 1 := by decide +kernel
theorem d17_113 : dc prog_1_method_17_code 113 (.getfield 19) 3 := by decide +kernel
theorem d17_116 : dc prog_1_method_17_code 116 (.iload 7) 2 := by decide +kernel
theorem d17_118 : dc prog_1_method_17_code 118 (.iaload) 1 := by decide +kernel
theorem d17_119 : dc prog_1_method_17_code 119 (.ireturn) 1 := by decide +kernel
theorem d17_120 : dc prog_1_method_17_code 120 (.aload_n 0) 1 := by decide +kernel
theorem d17_121 : dc prog_1_method_17_code 121 (.getfield 22) 3 := by decide +kernel
theorem d17_124 : dc prog_1_method_17_code 124 (.iload 7) 2 := by decide +kernel
theorem d17_126 : dc prog_1_method_17_code 126 (.iaload) 1 := by decide +kernel
theorem d17_127 : dc prog_1_method_17_code 127 (.ireturn) 1 := by decide +kernel
theorem d17_128 : dc prog_1_method_17_code 128 (.iload 4) 2 := by decide +kernel
theorem d17_130 : dc prog_1_method_17_code 130 (.iload 8) 2 := by decide +kernel
theorem d17_132 : dc prog_1_method_17_code 132 (.iadd) 1 := by decide +kernel
theorem d17_133 : dc prog_1_method_17_code 133 (.istore 4) 2 := by decide +kernel
theorem d17_135 : dc prog_1_method_17_code 135 (.iinc 7 1) 3 := by decide +kernel
theorem d17_138 : dc prog_1_method_17_code 138 (.goto (-77)) 3 := by decide +kernel
theorem d17_141 : dc prog_1_method_17_code 141 (.aload_n 0) 1 := by decide +kernel
theorem d17_142 : dc prog_1_method_17_code 142 (.iload_n 1) 1 := by decide +kernel
theorem d17_143 : dc prog_1_method_17_code 143 (.invokevirtual 82) 3 := by decide +kernel
abbrev y17 : MethodName := ⟨"DisplayMap", "fromDisplay", "(III)I"⟩
theorem hy17 : y17.cls ≠ "java/lang/invoke/MethodHandle" ∧ y17.cls ≠ "java/lang/invoke/VarHandle" := by decide
theorem pd17 : parseMethodDescriptor y17.desc = some ⟨[.int, .int, .int], some .int⟩ := by decide +kernel
abbrev R17 : Room := { frames := 4, cells := 0, slots := 0, locals := 56 }
abbrev P17 (r : Int32 × St) : Option Value → List OwnC → Prop := fun v H' => v = some (.int r.1) ∧ H' = (Hb 0 r.2)
abbrev W17 (l : Launch) (Z : State) (n0 : Nat) (Q : Option Value → List OwnC → Prop) (k n pc : Nat) (L : List Slot) (S : List Value) (H : List OwnC) : Prop := WP l Z CN lay "DisplayMap" "fromDisplay" prog_1_method_17_code 9 (some FieldType.int) R17 n0 0 Q k n pc L S H
def f_fromDisplay_27 (n : Nat) (s : St) : Option (Int32 × St) :=
  some ((-1 : Int32), s)
set_option maxRecDepth 65536 in
set_option maxHeartbeats 4000000 in
theorem ok17_27 (l : Launch) (Z : State) (a0 : Array Value) (hw : HW a0 Z) (n0 : Nat) (n : Nat) (s : St) (r : Int32 × St) (h : f_fromDisplay_27 n s = some r) : W17 l Z n0 (P17 r) 0 0 27 [.unset, .unset, .unset, .unset, .unset, .unset, .unset, .unset, .unset] [] (Hb 0 s) := by
  unfold f_fromDisplay_27 at h
  refine WP.iconst (-1 : Int32) d17_27 rfl ?_
  cases h
  exact WP.ireturn d17_28 rfl (leb rfl) (leb rfl) ⟨rfl, rfl⟩
def f_fromDisplay_112 (n : Nat) (v7 : Int32) (s : St) : Option (Int32 × St) :=
  (rd (gA s 3) v7).bind fun x1 =>
  some (x1, s)
set_option maxRecDepth 65536 in
set_option maxHeartbeats 4000000 in
theorem ok17_112 (l : Launch) (Z : State) (a0 : Array Value) (hw : HW a0 Z) (n0 : Nat) (n : Nat) (v7 : Int32) (s : St) (r : Int32 × St) (h : f_fromDisplay_112 n v7 s = some r) : W17 l Z n0 (P17 r) 0 0 112 [.val (.ref 0), .unset, .unset, .unset, .unset, .unset, .unset, .val (.int v7), .unset] [] (Hb 0 s) := by
  unfold f_fromDisplay_112 at h
  refine WP.aloadN d17_112 rfl ?_
  refine WP.getfield (i := 0) (j := 8) d17_113 (hw _ m_16) rfl rfl rfl ?_
  refine WP.iload d17_116 rfl ?_
  obtain ⟨x1, hx1, h⟩ := Option.bind_eq_some_iff.mp h
  refine WP.iaload (i := 4) d17_118 rfl hx1 ?_
  cases h
  exact WP.ireturn d17_119 rfl (leb rfl) (leb rfl) ⟨rfl, rfl⟩
def f_fromDisplay_135 (k61 : Int32 → Int32 → Int32 → Int32 → Int32 → Int32 → St → Option (Int32 × St)) (n : Nat) (v1 : Int32) (v2 : Int32) (v3 : Int32) (v4 : Int32) (v6 : Int32) (v7 : Int32) (s : St) : Option (Int32 × St) :=
  lt (v7 + (1 : Int32)) fun x1 =>
  k61 v1 v2 v3 v4 v6 x1 s
set_option maxRecDepth 65536 in
set_option maxHeartbeats 4000000 in
theorem ok17_135 (l : Launch) (Z : State) (a0 : Array Value) (hw : HW a0 Z) (n0 : Nat) (k61 : Int32 → Int32 → Int32 → Int32 → Int32 → Int32 → St → Option (Int32 × St)) (hk61 : ∀ (v1 : Int32) (v2 : Int32) (v3 : Int32) (v4 : Int32) (v6 : Int32) (v7 : Int32) (s : St) (r : Int32 × St), k61 v1 v2 v3 v4 v6 v7 s = some r → W17 l Z n0 (P17 r) 0 0 61 [.val (.ref 0), .val (.int v1), .val (.int v2), .val (.int v3), .val (.int v4), .unset, .val (.int v6), .val (.int v7), .unset] [] (Hb 0 s)) (n : Nat) (v1 : Int32) (v2 : Int32) (v3 : Int32) (v4 : Int32) (v6 : Int32) (v7 : Int32) (s : St) (r : Int32 × St) (h : f_fromDisplay_135 k61 n v1 v2 v3 v4 v6 v7 s = some r) : W17 l Z n0 (P17 r) 0 0 135 [.val (.ref 0), .val (.int v1), .val (.int v2), .val (.int v3), .val (.int v4), .unset, .val (.int v6), .val (.int v7), .unset] [] (Hb 0 s) := by
  unfold f_fromDisplay_135 at h
  obtain ⟨x1, ex1, h⟩ := lt_e h
  refine WP.iinc (L' := [.val (.ref 0), .val (.int v1), .val (.int v2), .val (.int v3), .val (.int v4), .unset, .val (.int v6), .val (.int x1), .unset]) (1 : Int32) d17_135 rfl rfl (by subst ex1; rfl) ?_
  refine WP.goto (pc' := 61) d17_138 (by decide) rfl ?_
  exact WP.weak (L' := [.val (.ref 0), .val (.int v1), .val (.int v2), .val (.int v3), .val (.int v4), .unset, .val (.int v6), .val (.int x1), .unset]) ⟨rfl, rfl, rfl, rfl, rfl, rfl, rfl, trivial⟩ (hk61 v1 v2 v3 v4 v6 x1 s _ h)
def f_fromDisplay_141 (n : Nat) (v1 : Int32) (s : St) : Option (Int32 × St) :=
  none
set_option maxRecDepth 65536 in
set_option maxHeartbeats 4000000 in
theorem ok17_141 (l : Launch) (Z : State) (a0 : Array Value) (hw : HW a0 Z) (n0 : Nat) (n : Nat) (v1 : Int32) (s : St) (r : Int32 × St) (h : f_fromDisplay_141 n v1 s = some r) : W17 l Z n0 (P17 r) 0 0 141 [.val (.ref 0), .val (.int v1), .unset, .unset, .unset, .unset, .unset, .unset, .unset] [] (Hb 0 s) := by
  unfold f_fromDisplay_141 at h
  refine WP.aloadN d17_141 rfl ?_
  refine WP.iloadN d17_142 rfl ?_
  cases h
def g_fromDisplay_61 (k61 : Int32 → Int32 → Int32 → Int32 → Int32 → Int32 → St → Option (Int32 × St)) (n : Nat) (v1 : Int32) (v2 : Int32) (v3 : Int32) (v4 : Int32) (v6 : Int32) (v7 : Int32) (s : St) : Option (Int32 × St) :=
  if v7 < v6 then
    if v7 < (256 : Int32) then
      if v7 < 0 then
        f_fromDisplay_135 k61 n v1 v2 v3 v4 v6 v7 s
      else
        (rd (gA s 5) v7).bind fun x4 =>
        if v2 < (v4 + x4) then
          if v2 = v4 then
            f_fromDisplay_112 n v7 s
          else
            if v3 = 0 then
              f_fromDisplay_112 n v7 s
            else
              (rd (gA s 4) v7).bind fun x8 =>
              some (x8, s)
        else
          lt (v4 + x4) fun x9 =>
          f_fromDisplay_135 k61 n v1 v2 v3 x9 v6 v7 s
    else
      f_fromDisplay_141 n v1 s
  else
    f_fromDisplay_141 n v1 s
set_option maxRecDepth 65536 in
set_option maxHeartbeats 4000000 in
theorem okg17_61 (l : Launch) (Z : State) (a0 : Array Value) (hw : HW a0 Z) (n0 : Nat) (k61 : Int32 → Int32 → Int32 → Int32 → Int32 → Int32 → St → Option (Int32 × St)) (hk61 : ∀ (v1 : Int32) (v2 : Int32) (v3 : Int32) (v4 : Int32) (v6 : Int32) (v7 : Int32) (s : St) (r : Int32 × St), k61 v1 v2 v3 v4 v6 v7 s = some r → W17 l Z n0 (P17 r) 0 0 61 [.val (.ref 0), .val (.int v1), .val (.int v2), .val (.int v3), .val (.int v4), .unset, .val (.int v6), .val (.int v7), .unset] [] (Hb 0 s)) (n : Nat) (v1 : Int32) (v2 : Int32) (v3 : Int32) (v4 : Int32) (v6 : Int32) (v7 : Int32) (s : St) (r : Int32 × St) (h : g_fromDisplay_61 k61 n v1 v2 v3 v4 v6 v7 s = some r) : W17 l Z n0 (P17 r) 0 0 61 [.val (.ref 0), .val (.int v1), .val (.int v2), .val (.int v3), .val (.int v4), .unset, .val (.int v6), .val (.int v7), .unset] [] (Hb 0 s) := by
  unfold g_fromDisplay_61 at h
  refine WP.iload d17_61 rfl ?_
  refine WP.iload d17_63 rfl ?_
  rcases ite_e h with ⟨hc1, h⟩ | ⟨hc1, h⟩
  ·
    refine WP.icmpN d17_65 (XT.ii_ge_f hc1) ?_
    refine WP.iload d17_68 rfl ?_
    refine WP.sipush (256 : Int32) d17_70 rfl ?_
    rcases ite_e h with ⟨hc2, h⟩ | ⟨hc2, h⟩
    ·
      refine WP.icmpN d17_73 (XT.ii_ge_f hc2) ?_
      refine WP.iload d17_76 rfl ?_
      rcases ite_e h with ⟨hc3, h⟩ | ⟨hc3, h⟩
      ·
        refine WP.ifN d17_78 (XT.i0_ge_f hc3) ?_
        refine WP.goto (pc' := 135) d17_81 (by decide) rfl ?_
        exact WP.weak (L' := [.val (.ref 0), .val (.int v1), .val (.int v2), .val (.int v3), .val (.int v4), .unset, .val (.int v6), .val (.int v7), .unset]) ⟨rfl, rfl, rfl, rfl, rfl, rfl, rfl, trivial⟩ (ok17_135 l Z a0 hw n0 _ hk61 n v1 v2 v3 v4 v6 v7 s _ h)
      ·
        refine WP.ifY (pc' := 84) d17_78 (XT.i0_ge_t hc3) (by decide) rfl ?_
        refine WP.aloadN d17_84 rfl ?_
        refine WP.getfield (i := 0) (j := 10) d17_85 (hw _ m_20) rfl rfl rfl ?_
        refine WP.iload d17_88 rfl ?_
        obtain ⟨x4, hx4, h⟩ := Option.bind_eq_some_iff.mp h
        refine WP.iaload (i := 6) d17_90 rfl hx4 ?_
        refine WP.istore (L' := [.val (.ref 0), .val (.int v1), .val (.int v2), .val (.int v3), .val (.int v4), .unset, .val (.int v6), .val (.int v7), .val (.int x4)]) d17_91 (leb rfl) rfl ?_
        refine WP.iloadN d17_93 rfl ?_
        refine WP.iload d17_94 rfl ?_
        refine WP.iload d17_96 rfl ?_
        refine WP.iadd d17_98 ?_
        rcases ite_e h with ⟨hc5, h⟩ | ⟨hc5, h⟩
        ·
          refine WP.icmpN d17_99 (XT.ii_ge_f hc5) ?_
          refine WP.iloadN d17_102 rfl ?_
          refine WP.iload d17_103 rfl ?_
          rcases ite_e h with ⟨hc6, h⟩ | ⟨hc6, h⟩
          ·
            refine WP.icmpY (pc' := 112) d17_105 (XT.ii_eq_t hc6) (by decide) rfl ?_
            exact WP.weak (L' := [.val (.ref 0), .unset, .unset, .unset, .unset, .unset, .unset, .val (.int v7), .unset]) ⟨rfl, rfl, trivial⟩ (ok17_112 l Z a0 hw n0 n v7 s _ h)
          ·
            refine WP.icmpN d17_105 (XT.ii_eq_f hc6) ?_
            refine WP.iloadN d17_108 rfl ?_
            rcases ite_e h with ⟨hc7, h⟩ | ⟨hc7, h⟩
            ·
              refine WP.ifN d17_109 (XT.i0_ne_f hc7) ?_
              exact WP.weak (L' := [.val (.ref 0), .unset, .unset, .unset, .unset, .unset, .unset, .val (.int v7), .unset]) ⟨rfl, rfl, trivial⟩ (ok17_112 l Z a0 hw n0 n v7 s _ h)
            ·
              refine WP.ifY (pc' := 120) d17_109 (XT.i0_ne_t hc7) (by decide) rfl ?_
              refine WP.aloadN d17_120 rfl ?_
              refine WP.getfield (i := 0) (j := 9) d17_121 (hw _ m_18) rfl rfl rfl ?_
              refine WP.iload d17_124 rfl ?_
              obtain ⟨x8, hx8, h⟩ := Option.bind_eq_some_iff.mp h
              refine WP.iaload (i := 5) d17_126 rfl hx8 ?_
              cases h
              exact WP.ireturn d17_127 rfl (leb rfl) (leb rfl) ⟨rfl, rfl⟩
        ·
          refine WP.icmpY (pc' := 128) d17_99 (XT.ii_ge_t hc5) (by decide) rfl ?_
          refine WP.iload d17_128 rfl ?_
          refine WP.iload d17_130 rfl ?_
          refine WP.iadd d17_132 ?_
          obtain ⟨x9, ex9, h⟩ := lt_e h
          refine WP.istore (L' := [.val (.ref 0), .val (.int v1), .val (.int v2), .val (.int v3), .val (.int x9), .unset, .val (.int v6), .val (.int v7), .val (.int x4)]) d17_133 (leb rfl) (by subst ex9; rfl) ?_
          exact WP.weak (L' := [.val (.ref 0), .val (.int v1), .val (.int v2), .val (.int v3), .val (.int x9), .unset, .val (.int v6), .val (.int v7), .unset]) ⟨rfl, rfl, rfl, rfl, rfl, rfl, rfl, trivial⟩ (ok17_135 l Z a0 hw n0 _ hk61 n v1 v2 v3 x9 v6 v7 s _ h)
    ·
      refine WP.icmpY (pc' := 141) d17_73 (XT.ii_ge_t hc2) (by decide) rfl ?_
      exact WP.weak (L' := [.val (.ref 0), .val (.int v1), .unset, .unset, .unset, .unset, .unset, .unset, .unset]) ⟨rfl, rfl, trivial⟩ (ok17_141 l Z a0 hw n0 n v1 s _ h)
  ·
    refine WP.icmpY (pc' := 141) d17_65 (XT.ii_ge_t hc1) (by decide) rfl ?_
    exact WP.weak (L' := [.val (.ref 0), .val (.int v1), .unset, .unset, .unset, .unset, .unset, .unset, .unset]) ⟨rfl, rfl, trivial⟩ (ok17_141 l Z a0 hw n0 n v1 s _ h)
def f_fromDisplay_61 : Nat → Int32 → Int32 → Int32 → Int32 → Int32 → Int32 → St → Option (Int32 × St)
  | 0 => fun _ _ _ _ _ _ _ => none
  | n + 1 => g_fromDisplay_61 (f_fromDisplay_61 n) n
theorem ok17_61 (l : Launch) (Z : State) (a0 : Array Value) (hw : HW a0 Z) (n0 : Nat) : ∀ (n : Nat) (v1 : Int32) (v2 : Int32) (v3 : Int32) (v4 : Int32) (v6 : Int32) (v7 : Int32) (s : St) (r : Int32 × St), f_fromDisplay_61 n v1 v2 v3 v4 v6 v7 s = some r → W17 l Z n0 (P17 r) 0 0 61 [.val (.ref 0), .val (.int v1), .val (.int v2), .val (.int v3), .val (.int v4), .unset, .val (.int v6), .val (.int v7), .unset] [] (Hb 0 s)
  | 0, v1, v2, v3, v4, v6, v7, s, r, h => nomatch (show none = some r from h)
  | n + 1, v1, v2, v3, v4, v6, v7, s, r, h => okg17_61 l Z a0 hw n0 _ (ok17_61 l Z a0 hw n0 n) n v1 v2 v3 v4 v6 v7 s r h
def f_fromDisplay_11 (n : Nat) (v1 : Int32) (v2 : Int32) (v3 : Int32) (s : St) : Option (Int32 × St) :=
  (f_ensureLayout n s).bind fun c1 =>
  if v1 < 0 then
    f_fromDisplay_27 n c1
  else
    if v1 < (gI c1 6) then
      if v2 < 0 then
        some ((-1 : Int32), c1)
      else
        (rd (gA c1 8) v1).bind fun x5 =>
        (rd (gA c1 9) v1).bind fun x6 =>
        lt (x5 + x6) fun x7 =>
        f_fromDisplay_61 n v1 v2 v3 (0 : Int32) x7 x5 c1
    else
      f_fromDisplay_27 n c1
set_option maxRecDepth 65536 in
set_option maxHeartbeats 4000000 in
theorem ok17_11 (l : Launch) (Z : State) (a0 : Array Value) (hw : HW a0 Z) (n0 : Nat) (n : Nat) (v1 : Int32) (v2 : Int32) (v3 : Int32) (s : St) (r : Int32 × St) (h : f_fromDisplay_11 n v1 v2 v3 s = some r) : W17 l Z n0 (P17 r) 0 0 11 [.val (.ref 0), .val (.int v1), .val (.int v2), .val (.int v3), .unset, .unset, .unset, .unset, .unset] [] (Hb 0 s) := by
  unfold f_fromDisplay_11 at h
  refine WP.aloadN d17_11 rfl ?_
  obtain ⟨c1, hc1, h⟩ := Option.bind_eq_some_iff.mp h
  refine WP.callP (i := 0) (y := y7) (as := []) (S := []) d17_12 (hw _ m_64) (hw _ m_66) (hw _ m_1) (hw _ m_65) (hw _ m_67) (hw _ m_2) hy7 rfl (ok7 l Z a0 hw n s _ hc1) rfl (lenOf pd7 rfl) (leb rfl) (leb rfl) (leb rfl) (leb rfl) ?_
  rintro _ _ ⟨rfl, rfl⟩
  show W17 l Z n0 (P17 r) 0 0 15 [.val (.ref 0), .val (.int v1), .val (.int v2), .val (.int v3), .unset, .unset, .unset, .unset, .unset] [] (Hb 0 c1)
  refine WP.iloadN d17_15 rfl ?_
  rcases ite_e h with ⟨hc2, h⟩ | ⟨hc2, h⟩
  ·
    refine WP.ifY (pc' := 27) d17_16 (XT.i0_lt_t hc2) (by decide) rfl ?_
    exact WP.weak (L' := [.unset, .unset, .unset, .unset, .unset, .unset, .unset, .unset, .unset]) trivial (ok17_27 l Z a0 hw n0 n c1 _ h)
  ·
    refine WP.ifN d17_16 (XT.i0_lt_f hc2) ?_
    refine WP.iloadN d17_19 rfl ?_
    refine WP.aloadN d17_20 rfl ?_
    refine WP.getfield (i := 0) (j := 16) d17_21 (hw _ m_74) rfl rfl rfl ?_
    rcases ite_e h with ⟨hc3, h⟩ | ⟨hc3, h⟩
    ·
      refine WP.icmpY (pc' := 29) d17_24 (XT.ii_lt_t hc3) (by decide) rfl ?_
      refine WP.iloadN d17_29 rfl ?_
      rcases ite_e h with ⟨hc4, h⟩ | ⟨hc4, h⟩
      ·
        refine WP.ifN d17_30 (XT.i0_ge_f hc4) ?_
        refine WP.iconst (-1 : Int32) d17_33 rfl ?_
        cases h
        exact WP.ireturn d17_34 rfl (leb rfl) (leb rfl) ⟨rfl, rfl⟩
      ·
        refine WP.ifY (pc' := 35) d17_30 (XT.i0_ge_t hc4) (by decide) rfl ?_
        refine WP.iconst (0 : Int32) d17_35 rfl ?_
        refine WP.istore (L' := [.val (.ref 0), .val (.int v1), .val (.int v2), .val (.int v3), .val (.int (0 : Int32)), .unset, .unset, .unset, .unset]) d17_36 (leb rfl) rfl ?_
        refine WP.aloadN d17_38 rfl ?_
        refine WP.getfield (i := 0) (j := 14) d17_39 (hw _ m_26) rfl rfl rfl ?_
        refine WP.iloadN d17_42 rfl ?_
        obtain ⟨x5, hx5, h⟩ := Option.bind_eq_some_iff.mp h
        refine WP.iaload (i := 9) d17_43 rfl hx5 ?_
        refine WP.istore (L' := [.val (.ref 0), .val (.int v1), .val (.int v2), .val (.int v3), .val (.int (0 : Int32)), .val (.int x5), .unset, .unset, .unset]) d17_44 (leb rfl) rfl ?_
        refine WP.iload d17_46 rfl ?_
        refine WP.aloadN d17_48 rfl ?_
        refine WP.getfield (i := 0) (j := 15) d17_49 (hw _ m_28) rfl rfl rfl ?_
        refine WP.iloadN d17_52 rfl ?_
        obtain ⟨x6, hx6, h⟩ := Option.bind_eq_some_iff.mp h
        refine WP.iaload (i := 10) d17_53 rfl hx6 ?_
        refine WP.iadd d17_54 ?_
        obtain ⟨x7, ex7, h⟩ := lt_e h
        refine WP.istore (L' := [.val (.ref 0), .val (.int v1), .val (.int v2), .val (.int v3), .val (.int (0 : Int32)), .val (.int x5), .val (.int x7), .unset, .unset]) d17_55 (leb rfl) (by subst ex7; rfl) ?_
        refine WP.iload d17_57 rfl ?_
        refine WP.istore (L' := [.val (.ref 0), .val (.int v1), .val (.int v2), .val (.int v3), .val (.int (0 : Int32)), .val (.int x5), .val (.int x7), .val (.int x5), .unset]) d17_59 (leb rfl) rfl ?_
        exact WP.weak (L' := [.val (.ref 0), .val (.int v1), .val (.int v2), .val (.int v3), .val (.int (0 : Int32)), .unset, .val (.int x7), .val (.int x5), .unset]) ⟨rfl, rfl, rfl, rfl, rfl, rfl, rfl, trivial⟩ (ok17_61 l Z a0 hw n0 n v1 v2 v3 (0 : Int32) x7 x5 c1 _ h)
    ·
      refine WP.icmpN d17_24 (XT.ii_lt_f hc3) ?_
      exact WP.weak (L' := [.unset, .unset, .unset, .unset, .unset, .unset, .unset, .unset, .unset]) trivial (ok17_27 l Z a0 hw n0 n c1 _ h)
def f_fromDisplay (n : Nat) (p1 : Int32) (p2 : Int32) (p3 : Int32) (s : St) : Option (Int32 × St) :=
  if p3 = 0 then
    f_fromDisplay_11 n p1 p2 p3 s
  else
    if p3 = (1 : Int32) then
      f_fromDisplay_11 n p1 p2 p3 s
    else
      some ((-1 : Int32), s)
set_option maxRecDepth 65536 in
set_option maxHeartbeats 4000000 in
theorem ok17 (l : Launch) (Z : State) (a0 : Array Value) (hw : HW a0 Z) (n : Nat) (p1 : Int32) (p2 : Int32) (p3 : Int32) (s : St) (r : Int32 × St) (h : f_fromDisplay n p1 p2 p3 s = some r) : CS l Z CN lay y17 prog_1_method_17_code 9 (some FieldType.int) R17 0 [.ref 0, .int p1, .int p2, .int p3] (Hb 0 s) (P17 r) := by
  refine CS.of_wp pn_cls (leb rfl) fun n0 => ?_
  show W17 l Z n0 (P17 r) 0 0 0 [.val (.ref 0), .val (.int p1), .val (.int p2), .val (.int p3), .unset, .unset, .unset, .unset, .unset] [] (Hb 0 s)
  unfold f_fromDisplay at h
  refine WP.iloadN d17_0 rfl ?_
  rcases ite_e h with ⟨hc1, h⟩ | ⟨hc1, h⟩
  ·
    refine WP.ifY (pc' := 11) d17_1 (XT.i0_eq_t hc1) (by decide) rfl ?_
    exact WP.weak (L' := [.val (.ref 0), .val (.int p1), .val (.int p2), .val (.int p3), .unset, .unset, .unset, .unset, .unset]) ⟨rfl, rfl, rfl, rfl, trivial⟩ (ok17_11 l Z a0 hw n0 n p1 p2 p3 s _ h)
  ·
    refine WP.ifN d17_1 (XT.i0_eq_f hc1) ?_
    refine WP.iloadN d17_4 rfl ?_
    refine WP.iconst (1 : Int32) d17_5 rfl ?_
    rcases ite_e h with ⟨hc2, h⟩ | ⟨hc2, h⟩
    ·
      refine WP.icmpY (pc' := 11) d17_6 (XT.ii_eq_t hc2) (by decide) rfl ?_
      exact WP.weak (L' := [.val (.ref 0), .val (.int p1), .val (.int p2), .val (.int p3), .unset, .unset, .unset, .unset, .unset]) ⟨rfl, rfl, rfl, rfl, trivial⟩ (ok17_11 l Z a0 hw n0 n p1 p2 p3 s _ h)
    ·
      refine WP.icmpN d17_6 (XT.ii_eq_f hc2) ?_
      refine WP.iconst (-1 : Int32) d17_9 rfl ?_
      cases h
      exact WP.ireturn d17_10 rfl (leb rfl) (leb rfl) ⟨rfl, rfl⟩
abbrev PLAW (r : Int32) : Option Value → List OwnC → Prop := fun v _ => v = some (.int r)
abbrev WLAW (l : Launch) (Z : State) (n0 : Nat) (Q : Option Value → List OwnC → Prop) (k n pc : Nat) (L : List Slot) (S : List Value) (H : List OwnC) : Prop := WP l Z CN lay "DisplayMapL3" "law" code maxLocals ret room_1 n0 0 Q k n pc L S H
def f_law_50 (k26 : Int32 → Int32 → Int32 → Int32 → Int32 → St → Option (Int32)) (n : Nat) (v0 : Int32) (v1 : Int32) (v5 : Int32) (v6 : Int32) (v7 : Int32) (s0 : St) : Option (Int32) :=
  lt (v7 + (1 : Int32)) fun x1 =>
  k26 v0 v1 v5 v6 x1 s0
set_option maxRecDepth 65536 in
set_option maxHeartbeats 4000000 in
theorem okLAW_50 (l : Launch) (Z : State) (a0 : Array Value) (hw : HW a0 Z) (n0 : Nat) (k26 : Int32 → Int32 → Int32 → Int32 → Int32 → St → Option (Int32)) (hk26 : ∀ (v0 : Int32) (v1 : Int32) (v5 : Int32) (v6 : Int32) (v7 : Int32) (s0 : St) (r : Int32), k26 v0 v1 v5 v6 v7 s0 = some r → WLAW l Z n0 (PLAW r) 11 2102 26 (.val (.int v0) :: .val (.int v1) :: .unset :: .unset :: .val (.ref 0) :: .val (.int v5) :: .val (.int v6) :: .val (.int v7) :: .unset :: .unset :: .unset :: .unset :: .unset :: .unset :: .unset :: .unset :: .unset :: .unset :: .unset :: .unset :: .unset :: .unset :: .unset :: .unset :: .unset :: []) [] (Hb 0 s0)) (n : Nat) (v0 : Int32) (v1 : Int32) (v5 : Int32) (v6 : Int32) (v7 : Int32) (s0 : St) (r : Int32) (h : f_law_50 k26 n v0 v1 v5 v6 v7 s0 = some r) : WLAW l Z n0 (PLAW r) 11 2102 50 (.val (.int v0) :: .val (.int v1) :: .unset :: .unset :: .val (.ref 0) :: .val (.int v5) :: .val (.int v6) :: .val (.int v7) :: .unset :: .unset :: .unset :: .unset :: .unset :: .unset :: .unset :: .unset :: .unset :: .unset :: .unset :: .unset :: .unset :: .unset :: .unset :: .unset :: .unset :: []) [] (Hb 0 s0) := by
  unfold f_law_50 at h
  obtain ⟨x1, ex1, h⟩ := lt_e h
  refine WP.iinc (L' := (.val (.int v0) :: .val (.int v1) :: .unset :: .unset :: .val (.ref 0) :: .val (.int v5) :: .val (.int v6) :: .val (.int x1) :: .unset :: .unset :: .unset :: .unset :: .unset :: .unset :: .unset :: .unset :: .unset :: .unset :: .unset :: .unset :: .unset :: .unset :: .unset :: .unset :: .unset :: [])) (1 : Int32) at_50 rfl rfl (by subst ex1; rfl) ?_
  refine WP.goto (pc' := 26) at_53 (by decide) rfl ?_
  exact WP.weak (L' := (.val (.int v0) :: .val (.int v1) :: .unset :: .unset :: .val (.ref 0) :: .val (.int v5) :: .val (.int v6) :: .val (.int x1) :: .unset :: .unset :: .unset :: .unset :: .unset :: .unset :: .unset :: .unset :: .unset :: .unset :: .unset :: .unset :: .unset :: .unset :: .unset :: .unset :: .unset :: [])) ⟨rfl, rfl, rfl, rfl, rfl, rfl, trivial⟩ (hk26 v0 v1 v5 v6 x1 s0 _ h)
def f_law_98 (k69 : Int32 → Int32 → Int32 → Int32 → Int32 → St → Option (Int32)) (n : Nat) (v0 : Int32) (v1 : Int32) (v5 : Int32) (v6 : Int32) (v7 : Int32) (s0 : St) : Option (Int32) :=
  lt (v7 + (1 : Int32)) fun x1 =>
  k69 v0 v1 v5 v6 x1 s0
set_option maxRecDepth 65536 in
set_option maxHeartbeats 4000000 in
theorem okLAW_98 (l : Launch) (Z : State) (a0 : Array Value) (hw : HW a0 Z) (n0 : Nat) (k69 : Int32 → Int32 → Int32 → Int32 → Int32 → St → Option (Int32)) (hk69 : ∀ (v0 : Int32) (v1 : Int32) (v5 : Int32) (v6 : Int32) (v7 : Int32) (s0 : St) (r : Int32), k69 v0 v1 v5 v6 v7 s0 = some r → WLAW l Z n0 (PLAW r) 11 2102 69 (.val (.int v0) :: .val (.int v1) :: .unset :: .unset :: .val (.ref 0) :: .val (.int v5) :: .val (.int v6) :: .val (.int v7) :: .unset :: .unset :: .unset :: .unset :: .unset :: .unset :: .unset :: .unset :: .unset :: .unset :: .unset :: .unset :: .unset :: .unset :: .unset :: .unset :: .unset :: []) [] (Hb 0 s0)) (n : Nat) (v0 : Int32) (v1 : Int32) (v5 : Int32) (v6 : Int32) (v7 : Int32) (s0 : St) (r : Int32) (h : f_law_98 k69 n v0 v1 v5 v6 v7 s0 = some r) : WLAW l Z n0 (PLAW r) 11 2102 98 (.val (.int v0) :: .val (.int v1) :: .unset :: .unset :: .val (.ref 0) :: .val (.int v5) :: .val (.int v6) :: .val (.int v7) :: .unset :: .unset :: .unset :: .unset :: .unset :: .unset :: .unset :: .unset :: .unset :: .unset :: .unset :: .unset :: .unset :: .unset :: .unset :: .unset :: .unset :: []) [] (Hb 0 s0) := by
  unfold f_law_98 at h
  obtain ⟨x1, ex1, h⟩ := lt_e h
  refine WP.iinc (L' := (.val (.int v0) :: .val (.int v1) :: .unset :: .unset :: .val (.ref 0) :: .val (.int v5) :: .val (.int v6) :: .val (.int x1) :: .unset :: .unset :: .unset :: .unset :: .unset :: .unset :: .unset :: .unset :: .unset :: .unset :: .unset :: .unset :: .unset :: .unset :: .unset :: .unset :: .unset :: [])) (1 : Int32) at_98 rfl rfl (by subst ex1; rfl) ?_
  refine WP.goto (pc' := 69) at_101 (by decide) rfl ?_
  exact WP.weak (L' := (.val (.int v0) :: .val (.int v1) :: .unset :: .unset :: .val (.ref 0) :: .val (.int v5) :: .val (.int v6) :: .val (.int x1) :: .unset :: .unset :: .unset :: .unset :: .unset :: .unset :: .unset :: .unset :: .unset :: .unset :: .unset :: .unset :: .unset :: .unset :: .unset :: .unset :: .unset :: [])) ⟨rfl, rfl, rfl, rfl, rfl, rfl, trivial⟩ (hk69 v0 v1 v5 v6 x1 s0 _ h)
def f_law_561 (n : Nat) (t0 : Int32) (s0 : St) : Option (Int32) :=
  some (t0 &&& 1)
set_option maxRecDepth 65536 in
set_option maxHeartbeats 4000000 in
theorem okLAW_561 (l : Launch) (Z : State) (a0 : Array Value) (hw : HW a0 Z) (n0 : Nat) (n : Nat) (t0 : Int32) (s0 : St) (r : Int32) (h : f_law_561 n t0 s0 = some r) : WLAW l Z n0 (PLAW r) 11 2102 561 (.unset :: .unset :: .unset :: .unset :: .unset :: .unset :: .unset :: .unset :: .unset :: .unset :: .unset :: .unset :: .unset :: .unset :: .unset :: .unset :: .unset :: .unset :: .unset :: .unset :: .unset :: .unset :: .unset :: .unset :: .unset :: []) [.int t0] (Hb 0 s0) := by
  unfold f_law_561 at h
  cases h
  exact WP.zreturn at_561 rfl (leb rfl) (leb rfl) rfl
def f_law_560 (n : Nat) (s0 : St) : Option (Int32) :=
  f_law_561 n (0 : Int32) s0
set_option maxRecDepth 65536 in
set_option maxHeartbeats 4000000 in
theorem okLAW_560 (l : Launch) (Z : State) (a0 : Array Value) (hw : HW a0 Z) (n0 : Nat) (n : Nat) (s0 : St) (r : Int32) (h : f_law_560 n s0 = some r) : WLAW l Z n0 (PLAW r) 11 2102 560 (.unset :: .unset :: .unset :: .unset :: .unset :: .unset :: .unset :: .unset :: .unset :: .unset :: .unset :: .unset :: .unset :: .unset :: .unset :: .unset :: .unset :: .unset :: .unset :: .unset :: .unset :: .unset :: .unset :: .unset :: .unset :: []) [] (Hb 0 s0) := by
  unfold f_law_560 at h
  refine WP.iconst (0 : Int32) at_560 rfl ?_
  exact WP.weak (L' := (.unset :: .unset :: .unset :: .unset :: .unset :: .unset :: .unset :: .unset :: .unset :: .unset :: .unset :: .unset :: .unset :: .unset :: .unset :: .unset :: .unset :: .unset :: .unset :: .unset :: .unset :: .unset :: .unset :: .unset :: .unset :: [])) trivial (okLAW_561 l Z a0 hw n0 n (0 : Int32) s0 _ h)
def f_law_378 (n : Nat) (v5 : Int32) (v9 : Int32) (v10 : Int32) (v11 : Int32) (v12 : Int32) (v13 : Int32) (v14 : Int32) (v15 : Int32) (v16 : Int32) (v17 : Int32) (v22 : Int32) (v23 : Int32) (t0 : Int32) (s0 : St) : Option (Int32) :=
  (f_length s0).bind fun c1 =>
  if c1 = v23 then
    (f_rowCount n s0).bind fun c3 =>
    if c3.1 = v10 then
      (f_rowStart n (0 : Int32) c3.2).bind fun c5 =>
      if c5.1 = 0 then
        (f_rowWidth n (0 : Int32) c5.2).bind fun c7 =>
        if c7.1 = v11 then
          (f_rowStart n (1 : Int32) c7.2).bind fun c9 =>
          if c9.1 = v12 then
            (f_rowWidth n (1 : Int32) c9.2).bind fun c11 =>
            if c11.1 = v13 then
              (f_rowStart n (2 : Int32) c11.2).bind fun c13 =>
              if c13.1 = v14 then
                (f_rowWidth n (2 : Int32) c13.2).bind fun c15 =>
                if c15.1 = v15 then
                  (f_rowStart n (3 : Int32) c15.2).bind fun c17 =>
                  if c17.1 = (-1 : Int32) then
                    (f_toDisplay n v5 (0 : Int32) c17.2).bind fun c19 =>
                    if c19.1 = ((v16 * (256 : Int32)) + v17) then
                      (f_toDisplay n v23 (0 : Int32) c19.2).bind fun c21 =>
                      if c21.1 = (((v10 - (1 : Int32)) * (256 : Int32)) + v22) then
                        (f_fromDisplay n v16 ((v17 + v9) - (1 : Int32)) (1 : Int32) c21.2).bind fun c23 =>
                        if c23.1 = t0 then
                          (f_fromDisplay n v16 ((v17 + v9) - (1 : Int32)) (0 : Int32) c23.2).bind fun c25 =>
                          if c25.1 = v5 then
                            f_law_561 n (1 : Int32) c25.2
                          else
                            f_law_560 n c25.2
                        else
                          f_law_560 n c23.2
                      else
                        f_law_560 n c21.2
                    else
                      f_law_560 n c19.2
                  else
                    f_law_560 n c17.2
                else
                  f_law_560 n c15.2
              else
                f_law_560 n c13.2
            else
              f_law_560 n c11.2
          else
            f_law_560 n c9.2
        else
          f_law_560 n c7.2
      else
        f_law_560 n c5.2
    else
      f_law_560 n c3.2
  else
    f_law_560 n s0
set_option maxRecDepth 65536 in
set_option maxHeartbeats 4000000 in
theorem okLAW_378 (l : Launch) (Z : State) (a0 : Array Value) (hw : HW a0 Z) (n0 : Nat) (n : Nat) (v5 : Int32) (v9 : Int32) (v10 : Int32) (v11 : Int32) (v12 : Int32) (v13 : Int32) (v14 : Int32) (v15 : Int32) (v16 : Int32) (v17 : Int32) (v22 : Int32) (v23 : Int32) (t0 : Int32) (s0 : St) (r : Int32) (h : f_law_378 n v5 v9 v10 v11 v12 v13 v14 v15 v16 v17 v22 v23 t0 s0 = some r) : WLAW l Z n0 (PLAW r) 11 2102 378 (.unset :: .unset :: .unset :: .unset :: .val (.ref 0) :: .val (.int v5) :: .unset :: .unset :: .unset :: .val (.int v9) :: .val (.int v10) :: .val (.int v11) :: .val (.int v12) :: .val (.int v13) :: .val (.int v14) :: .val (.int v15) :: .val (.int v16) :: .val (.int v17) :: .unset :: .unset :: .unset :: .unset :: .val (.int v22) :: .val (.int v23) :: .unset :: []) [.int t0] (Hb 0 s0) := by
  unfold f_law_378 at h
  refine WP.istore (L' := (.unset :: .unset :: .unset :: .unset :: .val (.ref 0) :: .val (.int v5) :: .unset :: .unset :: .unset :: .val (.int v9) :: .val (.int v10) :: .val (.int v11) :: .val (.int v12) :: .val (.int v13) :: .val (.int v14) :: .val (.int v15) :: .val (.int v16) :: .val (.int v17) :: .unset :: .unset :: .unset :: .unset :: .val (.int v22) :: .val (.int v23) :: .val (.int t0) :: [])) at_378 (leb rfl) rfl ?_
  refine WP.aload at_380 rfl ?_
  obtain ⟨c1, hc1, h⟩ := Option.bind_eq_some_iff.mp h
  refine WP.callV (i := 0) (y := y5) (as := []) (S := []) at_382 (hw _ m_54) (hw _ m_55) (hw _ m_57) (hw _ m_56) (hw _ m_58) (hw _ m_2) hy5 rfl (ok5 l Z a0 hw s0 _ hc1) rfl (lenOf pd5 rfl) (leb rfl) (leb rfl) (leb rfl) (leb rfl) ?_
  rintro _ _ ⟨rfl, rfl⟩
  show WLAW l Z n0 (PLAW r) 11 2102 385 (.unset :: .unset :: .unset :: .unset :: .val (.ref 0) :: .val (.int v5) :: .unset :: .unset :: .unset :: .val (.int v9) :: .val (.int v10) :: .val (.int v11) :: .val (.int v12) :: .val (.int v13) :: .val (.int v14) :: .val (.int v15) :: .val (.int v16) :: .val (.int v17) :: .unset :: .unset :: .unset :: .unset :: .val (.int v22) :: .val (.int v23) :: .val (.int t0) :: []) [.int c1] (Hb 0 s0)
  refine WP.iload at_385 rfl ?_
  rcases ite_e h with ⟨hc2, h⟩ | ⟨hc2, h⟩
  ·
    refine WP.icmpN at_387 (XT.ii_ne_f hc2) ?_
    refine WP.aload at_390 rfl ?_
    obtain ⟨c3, hc3, h⟩ := Option.bind_eq_some_iff.mp h
    refine WP.callV (i := 0) (y := y6) (as := []) (S := []) at_392 (hw _ m_59) (hw _ m_60) (hw _ m_62) (hw _ m_61) (hw _ m_63) (hw _ m_2) hy6 rfl (ok6 l Z a0 hw n s0 _ hc3) rfl (lenOf pd6 rfl) (leb rfl) (leb rfl) (leb rfl) (leb rfl) ?_
    rintro _ _ ⟨rfl, rfl⟩
    show WLAW l Z n0 (PLAW r) 11 2102 395 (.unset :: .unset :: .unset :: .unset :: .val (.ref 0) :: .val (.int v5) :: .unset :: .unset :: .unset :: .val (.int v9) :: .val (.int v10) :: .val (.int v11) :: .val (.int v12) :: .val (.int v13) :: .val (.int v14) :: .val (.int v15) :: .val (.int v16) :: .val (.int v17) :: .unset :: .unset :: .unset :: .unset :: .val (.int v22) :: .val (.int v23) :: .val (.int t0) :: []) [.int c3.1] (Hb 0 c3.2)
    refine WP.iload at_395 rfl ?_
    rcases ite_e h with ⟨hc4, h⟩ | ⟨hc4, h⟩
    ·
      refine WP.icmpN at_397 (XT.ii_ne_f hc4) ?_
      refine WP.aload at_400 rfl ?_
      refine WP.iconst (0 : Int32) at_402 rfl ?_
      obtain ⟨c5, hc5, h⟩ := Option.bind_eq_some_iff.mp h
      refine WP.callV (i := 0) (y := y13) (as := [.int (0 : Int32)]) (S := []) at_403 (hw _ m_102) (hw _ m_103) (hw _ m_105) (hw _ m_104) (hw _ m_106) (hw _ m_2) hy13 rfl (ok13 l Z a0 hw n (0 : Int32) c3.2 _ hc5) rfl (lenOf pd13 rfl) (leb rfl) (leb rfl) (leb rfl) (leb rfl) ?_
      rintro _ _ ⟨rfl, rfl⟩
      show WLAW l Z n0 (PLAW r) 11 2102 406 (.unset :: .unset :: .unset :: .unset :: .val (.ref 0) :: .val (.int v5) :: .unset :: .unset :: .unset :: .val (.int v9) :: .val (.int v10) :: .val (.int v11) :: .val (.int v12) :: .val (.int v13) :: .val (.int v14) :: .val (.int v15) :: .val (.int v16) :: .val (.int v17) :: .unset :: .unset :: .unset :: .unset :: .val (.int v22) :: .val (.int v23) :: .val (.int t0) :: []) [.int c5.1] (Hb 0 c5.2)
      rcases ite_e h with ⟨hc6, h⟩ | ⟨hc6, h⟩
      ·
        refine WP.ifN at_406 (XT.i0_ne_f hc6) ?_
        refine WP.aload at_409 rfl ?_
        refine WP.iconst (0 : Int32) at_411 rfl ?_
        obtain ⟨c7, hc7, h⟩ := Option.bind_eq_some_iff.mp h
        refine WP.callV (i := 0) (y := y14) (as := [.int (0 : Int32)]) (S := []) at_412 (hw _ m_107) (hw _ m_108) (hw _ m_110) (hw _ m_109) (hw _ m_111) (hw _ m_2) hy14 rfl (ok14 l Z a0 hw n (0 : Int32) c5.2 _ hc7) rfl (lenOf pd14 rfl) (leb rfl) (leb rfl) (leb rfl) (leb rfl) ?_
        rintro _ _ ⟨rfl, rfl⟩
        show WLAW l Z n0 (PLAW r) 11 2102 415 (.unset :: .unset :: .unset :: .unset :: .val (.ref 0) :: .val (.int v5) :: .unset :: .unset :: .unset :: .val (.int v9) :: .val (.int v10) :: .val (.int v11) :: .val (.int v12) :: .val (.int v13) :: .val (.int v14) :: .val (.int v15) :: .val (.int v16) :: .val (.int v17) :: .unset :: .unset :: .unset :: .unset :: .val (.int v22) :: .val (.int v23) :: .val (.int t0) :: []) [.int c7.1] (Hb 0 c7.2)
        refine WP.iload at_415 rfl ?_
        rcases ite_e h with ⟨hc8, h⟩ | ⟨hc8, h⟩
        ·
          refine WP.icmpN at_417 (XT.ii_ne_f hc8) ?_
          refine WP.aload at_420 rfl ?_
          refine WP.iconst (1 : Int32) at_422 rfl ?_
          obtain ⟨c9, hc9, h⟩ := Option.bind_eq_some_iff.mp h
          refine WP.callV (i := 0) (y := y13) (as := [.int (1 : Int32)]) (S := []) at_423 (hw _ m_102) (hw _ m_103) (hw _ m_105) (hw _ m_104) (hw _ m_106) (hw _ m_2) hy13 rfl (ok13 l Z a0 hw n (1 : Int32) c7.2 _ hc9) rfl (lenOf pd13 rfl) (leb rfl) (leb rfl) (leb rfl) (leb rfl) ?_
          rintro _ _ ⟨rfl, rfl⟩
          show WLAW l Z n0 (PLAW r) 11 2102 426 (.unset :: .unset :: .unset :: .unset :: .val (.ref 0) :: .val (.int v5) :: .unset :: .unset :: .unset :: .val (.int v9) :: .val (.int v10) :: .val (.int v11) :: .val (.int v12) :: .val (.int v13) :: .val (.int v14) :: .val (.int v15) :: .val (.int v16) :: .val (.int v17) :: .unset :: .unset :: .unset :: .unset :: .val (.int v22) :: .val (.int v23) :: .val (.int t0) :: []) [.int c9.1] (Hb 0 c9.2)
          refine WP.iload at_426 rfl ?_
          rcases ite_e h with ⟨hc10, h⟩ | ⟨hc10, h⟩
          ·
            refine WP.icmpN at_428 (XT.ii_ne_f hc10) ?_
            refine WP.aload at_431 rfl ?_
            refine WP.iconst (1 : Int32) at_433 rfl ?_
            obtain ⟨c11, hc11, h⟩ := Option.bind_eq_some_iff.mp h
            refine WP.callV (i := 0) (y := y14) (as := [.int (1 : Int32)]) (S := []) at_434 (hw _ m_107) (hw _ m_108) (hw _ m_110) (hw _ m_109) (hw _ m_111) (hw _ m_2) hy14 rfl (ok14 l Z a0 hw n (1 : Int32) c9.2 _ hc11) rfl (lenOf pd14 rfl) (leb rfl) (leb rfl) (leb rfl) (leb rfl) ?_
            rintro _ _ ⟨rfl, rfl⟩
            show WLAW l Z n0 (PLAW r) 11 2102 437 (.unset :: .unset :: .unset :: .unset :: .val (.ref 0) :: .val (.int v5) :: .unset :: .unset :: .unset :: .val (.int v9) :: .val (.int v10) :: .val (.int v11) :: .val (.int v12) :: .val (.int v13) :: .val (.int v14) :: .val (.int v15) :: .val (.int v16) :: .val (.int v17) :: .unset :: .unset :: .unset :: .unset :: .val (.int v22) :: .val (.int v23) :: .val (.int t0) :: []) [.int c11.1] (Hb 0 c11.2)
            refine WP.iload at_437 rfl ?_
            rcases ite_e h with ⟨hc12, h⟩ | ⟨hc12, h⟩
            ·
              refine WP.icmpN at_439 (XT.ii_ne_f hc12) ?_
              refine WP.aload at_442 rfl ?_
              refine WP.iconst (2 : Int32) at_444 rfl ?_
              obtain ⟨c13, hc13, h⟩ := Option.bind_eq_some_iff.mp h
              refine WP.callV (i := 0) (y := y13) (as := [.int (2 : Int32)]) (S := []) at_445 (hw _ m_102) (hw _ m_103) (hw _ m_105) (hw _ m_104) (hw _ m_106) (hw _ m_2) hy13 rfl (ok13 l Z a0 hw n (2 : Int32) c11.2 _ hc13) rfl (lenOf pd13 rfl) (leb rfl) (leb rfl) (leb rfl) (leb rfl) ?_
              rintro _ _ ⟨rfl, rfl⟩
              show WLAW l Z n0 (PLAW r) 11 2102 448 (.unset :: .unset :: .unset :: .unset :: .val (.ref 0) :: .val (.int v5) :: .unset :: .unset :: .unset :: .val (.int v9) :: .val (.int v10) :: .val (.int v11) :: .val (.int v12) :: .val (.int v13) :: .val (.int v14) :: .val (.int v15) :: .val (.int v16) :: .val (.int v17) :: .unset :: .unset :: .unset :: .unset :: .val (.int v22) :: .val (.int v23) :: .val (.int t0) :: []) [.int c13.1] (Hb 0 c13.2)
              refine WP.iload at_448 rfl ?_
              rcases ite_e h with ⟨hc14, h⟩ | ⟨hc14, h⟩
              ·
                refine WP.icmpN at_450 (XT.ii_ne_f hc14) ?_
                refine WP.aload at_453 rfl ?_
                refine WP.iconst (2 : Int32) at_455 rfl ?_
                obtain ⟨c15, hc15, h⟩ := Option.bind_eq_some_iff.mp h
                refine WP.callV (i := 0) (y := y14) (as := [.int (2 : Int32)]) (S := []) at_456 (hw _ m_107) (hw _ m_108) (hw _ m_110) (hw _ m_109) (hw _ m_111) (hw _ m_2) hy14 rfl (ok14 l Z a0 hw n (2 : Int32) c13.2 _ hc15) rfl (lenOf pd14 rfl) (leb rfl) (leb rfl) (leb rfl) (leb rfl) ?_
                rintro _ _ ⟨rfl, rfl⟩
                show WLAW l Z n0 (PLAW r) 11 2102 459 (.unset :: .unset :: .unset :: .unset :: .val (.ref 0) :: .val (.int v5) :: .unset :: .unset :: .unset :: .val (.int v9) :: .val (.int v10) :: .val (.int v11) :: .val (.int v12) :: .val (.int v13) :: .val (.int v14) :: .val (.int v15) :: .val (.int v16) :: .val (.int v17) :: .unset :: .unset :: .unset :: .unset :: .val (.int v22) :: .val (.int v23) :: .val (.int t0) :: []) [.int c15.1] (Hb 0 c15.2)
                refine WP.iload at_459 rfl ?_
                rcases ite_e h with ⟨hc16, h⟩ | ⟨hc16, h⟩
                ·
                  refine WP.icmpN at_461 (XT.ii_ne_f hc16) ?_
                  refine WP.aload at_464 rfl ?_
                  refine WP.iconst (3 : Int32) at_466 rfl ?_
                  obtain ⟨c17, hc17, h⟩ := Option.bind_eq_some_iff.mp h
                  refine WP.callV (i := 0) (y := y13) (as := [.int (3 : Int32)]) (S := []) at_467 (hw _ m_102) (hw _ m_103) (hw _ m_105) (hw _ m_104) (hw _ m_106) (hw _ m_2) hy13 rfl (ok13 l Z a0 hw n (3 : Int32) c15.2 _ hc17) rfl (lenOf pd13 rfl) (leb rfl) (leb rfl) (leb rfl) (leb rfl) ?_
                  rintro _ _ ⟨rfl, rfl⟩
                  show WLAW l Z n0 (PLAW r) 11 2102 470 (.unset :: .unset :: .unset :: .unset :: .val (.ref 0) :: .val (.int v5) :: .unset :: .unset :: .unset :: .val (.int v9) :: .val (.int v10) :: .val (.int v11) :: .val (.int v12) :: .val (.int v13) :: .val (.int v14) :: .val (.int v15) :: .val (.int v16) :: .val (.int v17) :: .unset :: .unset :: .unset :: .unset :: .val (.int v22) :: .val (.int v23) :: .val (.int t0) :: []) [.int c17.1] (Hb 0 c17.2)
                  refine WP.iconst (-1 : Int32) at_470 rfl ?_
                  rcases ite_e h with ⟨hc18, h⟩ | ⟨hc18, h⟩
                  ·
                    refine WP.icmpN at_471 (XT.ii_ne_f hc18) ?_
                    refine WP.aload at_474 rfl ?_
                    refine WP.iload at_476 rfl ?_
                    refine WP.iconst (0 : Int32) at_478 rfl ?_
                    obtain ⟨c19, hc19, h⟩ := Option.bind_eq_some_iff.mp h
                    refine WP.callV (i := 0) (y := y15) (as := [.int v5, .int (0 : Int32)]) (S := []) at_479 (hw _ m_112) (hw _ m_113) (hw _ m_115) (hw _ m_114) (hw _ m_116) (hw _ m_2) hy15 rfl (ok15 l Z a0 hw n v5 (0 : Int32) c17.2 _ hc19) rfl (lenOf pd15 rfl) (leb rfl) (leb rfl) (leb rfl) (leb rfl) ?_
                    rintro _ _ ⟨rfl, rfl⟩
                    show WLAW l Z n0 (PLAW r) 11 2102 482 (.unset :: .unset :: .unset :: .unset :: .val (.ref 0) :: .val (.int v5) :: .unset :: .unset :: .unset :: .val (.int v9) :: .val (.int v10) :: .val (.int v11) :: .val (.int v12) :: .val (.int v13) :: .val (.int v14) :: .val (.int v15) :: .val (.int v16) :: .val (.int v17) :: .unset :: .unset :: .unset :: .unset :: .val (.int v22) :: .val (.int v23) :: .val (.int t0) :: []) [.int c19.1] (Hb 0 c19.2)
                    refine WP.iload at_482 rfl ?_
                    refine WP.sipush (256 : Int32) at_484 rfl ?_
                    refine WP.imul at_487 ?_
                    refine WP.iload at_488 rfl ?_
                    refine WP.iadd at_490 ?_
                    rcases ite_e h with ⟨hc20, h⟩ | ⟨hc20, h⟩
                    ·
                      refine WP.icmpN at_491 (XT.ii_ne_f hc20) ?_
                      refine WP.aload at_494 rfl ?_
                      refine WP.iload at_496 rfl ?_
                      refine WP.iconst (0 : Int32) at_498 rfl ?_
                      obtain ⟨c21, hc21, h⟩ := Option.bind_eq_some_iff.mp h
                      refine WP.callV (i := 0) (y := y15) (as := [.int v23, .int (0 : Int32)]) (S := []) at_499 (hw _ m_112) (hw _ m_113) (hw _ m_115) (hw _ m_114) (hw _ m_116) (hw _ m_2) hy15 rfl (ok15 l Z a0 hw n v23 (0 : Int32) c19.2 _ hc21) rfl (lenOf pd15 rfl) (leb rfl) (leb rfl) (leb rfl) (leb rfl) ?_
                      rintro _ _ ⟨rfl, rfl⟩
                      show WLAW l Z n0 (PLAW r) 11 2102 502 (.unset :: .unset :: .unset :: .unset :: .val (.ref 0) :: .val (.int v5) :: .unset :: .unset :: .unset :: .val (.int v9) :: .val (.int v10) :: .val (.int v11) :: .val (.int v12) :: .val (.int v13) :: .val (.int v14) :: .val (.int v15) :: .val (.int v16) :: .val (.int v17) :: .unset :: .unset :: .unset :: .unset :: .val (.int v22) :: .val (.int v23) :: .val (.int t0) :: []) [.int c21.1] (Hb 0 c21.2)
                      refine WP.iload at_502 rfl ?_
                      refine WP.iconst (1 : Int32) at_504 rfl ?_
                      refine WP.isub at_505 ?_
                      refine WP.sipush (256 : Int32) at_506 rfl ?_
                      refine WP.imul at_509 ?_
                      refine WP.iload at_510 rfl ?_
                      refine WP.iadd at_512 ?_
                      rcases ite_e h with ⟨hc22, h⟩ | ⟨hc22, h⟩
                      ·
                        refine WP.icmpN at_513 (XT.ii_ne_f hc22) ?_
                        refine WP.aload at_516 rfl ?_
                        refine WP.iload at_518 rfl ?_
                        refine WP.iload at_520 rfl ?_
                        refine WP.iload at_522 rfl ?_
                        refine WP.iadd at_524 ?_
                        refine WP.iconst (1 : Int32) at_525 rfl ?_
                        refine WP.isub at_526 ?_
                        refine WP.iconst (1 : Int32) at_527 rfl ?_
                        obtain ⟨c23, hc23, h⟩ := Option.bind_eq_some_iff.mp h
                        refine WP.callV (i := 0) (y := y17) (as := [.int v16, .int ((v17 + v9) - (1 : Int32)), .int (1 : Int32)]) (S := []) at_528 (hw _ m_121) (hw _ m_122) (hw _ m_124) (hw _ m_123) (hw _ m_125) (hw _ m_2) hy17 rfl (ok17 l Z a0 hw n v16 ((v17 + v9) - (1 : Int32)) (1 : Int32) c21.2 _ hc23) rfl (lenOf pd17 rfl) (leb rfl) (leb rfl) (leb rfl) (leb rfl) ?_
                        rintro _ _ ⟨rfl, rfl⟩
                        show WLAW l Z n0 (PLAW r) 11 2102 531 (.unset :: .unset :: .unset :: .unset :: .val (.ref 0) :: .val (.int v5) :: .unset :: .unset :: .unset :: .val (.int v9) :: .val (.int v10) :: .val (.int v11) :: .val (.int v12) :: .val (.int v13) :: .val (.int v14) :: .val (.int v15) :: .val (.int v16) :: .val (.int v17) :: .unset :: .unset :: .unset :: .unset :: .val (.int v22) :: .val (.int v23) :: .val (.int t0) :: []) [.int c23.1] (Hb 0 c23.2)
                        refine WP.iload at_531 rfl ?_
                        rcases ite_e h with ⟨hc24, h⟩ | ⟨hc24, h⟩
                        ·
                          refine WP.icmpN at_533 (XT.ii_ne_f hc24) ?_
                          refine WP.aload at_536 rfl ?_
                          refine WP.iload at_538 rfl ?_
                          refine WP.iload at_540 rfl ?_
                          refine WP.iload at_542 rfl ?_
                          refine WP.iadd at_544 ?_
                          refine WP.iconst (1 : Int32) at_545 rfl ?_
                          refine WP.isub at_546 ?_
                          refine WP.iconst (0 : Int32) at_547 rfl ?_
                          obtain ⟨c25, hc25, h⟩ := Option.bind_eq_some_iff.mp h
                          refine WP.callV (i := 0) (y := y17) (as := [.int v16, .int ((v17 + v9) - (1 : Int32)), .int (0 : Int32)]) (S := []) at_548 (hw _ m_121) (hw _ m_122) (hw _ m_124) (hw _ m_123) (hw _ m_125) (hw _ m_2) hy17 rfl (ok17 l Z a0 hw n v16 ((v17 + v9) - (1 : Int32)) (0 : Int32) c23.2 _ hc25) rfl (lenOf pd17 rfl) (leb rfl) (leb rfl) (leb rfl) (leb rfl) ?_
                          rintro _ _ ⟨rfl, rfl⟩
                          show WLAW l Z n0 (PLAW r) 11 2102 551 (.unset :: .unset :: .unset :: .unset :: .val (.ref 0) :: .val (.int v5) :: .unset :: .unset :: .unset :: .val (.int v9) :: .val (.int v10) :: .val (.int v11) :: .val (.int v12) :: .val (.int v13) :: .val (.int v14) :: .val (.int v15) :: .val (.int v16) :: .val (.int v17) :: .unset :: .unset :: .unset :: .unset :: .val (.int v22) :: .val (.int v23) :: .val (.int t0) :: []) [.int c25.1] (Hb 0 c25.2)
                          refine WP.iload at_551 rfl ?_
                          rcases ite_e h with ⟨hc26, h⟩ | ⟨hc26, h⟩
                          ·
                            refine WP.icmpN at_553 (XT.ii_ne_f hc26) ?_
                            refine WP.iconst (1 : Int32) at_556 rfl ?_
                            refine WP.goto (pc' := 561) at_557 (by decide) rfl ?_
                            exact WP.weak (L' := (.unset :: .unset :: .unset :: .unset :: .unset :: .unset :: .unset :: .unset :: .unset :: .unset :: .unset :: .unset :: .unset :: .unset :: .unset :: .unset :: .unset :: .unset :: .unset :: .unset :: .unset :: .unset :: .unset :: .unset :: .unset :: [])) trivial (okLAW_561 l Z a0 hw n0 n (1 : Int32) c25.2 _ h)
                          ·
                            refine WP.icmpY (pc' := 560) at_553 (XT.ii_ne_t hc26) (by decide) rfl ?_
                            exact WP.weak (L' := (.unset :: .unset :: .unset :: .unset :: .unset :: .unset :: .unset :: .unset :: .unset :: .unset :: .unset :: .unset :: .unset :: .unset :: .unset :: .unset :: .unset :: .unset :: .unset :: .unset :: .unset :: .unset :: .unset :: .unset :: .unset :: [])) trivial (okLAW_560 l Z a0 hw n0 n c25.2 _ h)
                        ·
                          refine WP.icmpY (pc' := 560) at_533 (XT.ii_ne_t hc24) (by decide) rfl ?_
                          exact WP.weak (L' := (.unset :: .unset :: .unset :: .unset :: .unset :: .unset :: .unset :: .unset :: .unset :: .unset :: .unset :: .unset :: .unset :: .unset :: .unset :: .unset :: .unset :: .unset :: .unset :: .unset :: .unset :: .unset :: .unset :: .unset :: .unset :: [])) trivial (okLAW_560 l Z a0 hw n0 n c23.2 _ h)
                      ·
                        refine WP.icmpY (pc' := 560) at_513 (XT.ii_ne_t hc22) (by decide) rfl ?_
                        exact WP.weak (L' := (.unset :: .unset :: .unset :: .unset :: .unset :: .unset :: .unset :: .unset :: .unset :: .unset :: .unset :: .unset :: .unset :: .unset :: .unset :: .unset :: .unset :: .unset :: .unset :: .unset :: .unset :: .unset :: .unset :: .unset :: .unset :: [])) trivial (okLAW_560 l Z a0 hw n0 n c21.2 _ h)
                    ·
                      refine WP.icmpY (pc' := 560) at_491 (XT.ii_ne_t hc20) (by decide) rfl ?_
                      exact WP.weak (L' := (.unset :: .unset :: .unset :: .unset :: .unset :: .unset :: .unset :: .unset :: .unset :: .unset :: .unset :: .unset :: .unset :: .unset :: .unset :: .unset :: .unset :: .unset :: .unset :: .unset :: .unset :: .unset :: .unset :: .unset :: .unset :: [])) trivial (okLAW_560 l Z a0 hw n0 n c19.2 _ h)
                  ·
                    refine WP.icmpY (pc' := 560) at_471 (XT.ii_ne_t hc18) (by decide) rfl ?_
                    exact WP.weak (L' := (.unset :: .unset :: .unset :: .unset :: .unset :: .unset :: .unset :: .unset :: .unset :: .unset :: .unset :: .unset :: .unset :: .unset :: .unset :: .unset :: .unset :: .unset :: .unset :: .unset :: .unset :: .unset :: .unset :: .unset :: .unset :: [])) trivial (okLAW_560 l Z a0 hw n0 n c17.2 _ h)
                ·
                  refine WP.icmpY (pc' := 560) at_461 (XT.ii_ne_t hc16) (by decide) rfl ?_
                  exact WP.weak (L' := (.unset :: .unset :: .unset :: .unset :: .unset :: .unset :: .unset :: .unset :: .unset :: .unset :: .unset :: .unset :: .unset :: .unset :: .unset :: .unset :: .unset :: .unset :: .unset :: .unset :: .unset :: .unset :: .unset :: .unset :: .unset :: [])) trivial (okLAW_560 l Z a0 hw n0 n c15.2 _ h)
              ·
                refine WP.icmpY (pc' := 560) at_450 (XT.ii_ne_t hc14) (by decide) rfl ?_
                exact WP.weak (L' := (.unset :: .unset :: .unset :: .unset :: .unset :: .unset :: .unset :: .unset :: .unset :: .unset :: .unset :: .unset :: .unset :: .unset :: .unset :: .unset :: .unset :: .unset :: .unset :: .unset :: .unset :: .unset :: .unset :: .unset :: .unset :: [])) trivial (okLAW_560 l Z a0 hw n0 n c13.2 _ h)
            ·
              refine WP.icmpY (pc' := 560) at_439 (XT.ii_ne_t hc12) (by decide) rfl ?_
              exact WP.weak (L' := (.unset :: .unset :: .unset :: .unset :: .unset :: .unset :: .unset :: .unset :: .unset :: .unset :: .unset :: .unset :: .unset :: .unset :: .unset :: .unset :: .unset :: .unset :: .unset :: .unset :: .unset :: .unset :: .unset :: .unset :: .unset :: [])) trivial (okLAW_560 l Z a0 hw n0 n c11.2 _ h)
          ·
            refine WP.icmpY (pc' := 560) at_428 (XT.ii_ne_t hc10) (by decide) rfl ?_
            exact WP.weak (L' := (.unset :: .unset :: .unset :: .unset :: .unset :: .unset :: .unset :: .unset :: .unset :: .unset :: .unset :: .unset :: .unset :: .unset :: .unset :: .unset :: .unset :: .unset :: .unset :: .unset :: .unset :: .unset :: .unset :: .unset :: .unset :: [])) trivial (okLAW_560 l Z a0 hw n0 n c9.2 _ h)
        ·
          refine WP.icmpY (pc' := 560) at_417 (XT.ii_ne_t hc8) (by decide) rfl ?_
          exact WP.weak (L' := (.unset :: .unset :: .unset :: .unset :: .unset :: .unset :: .unset :: .unset :: .unset :: .unset :: .unset :: .unset :: .unset :: .unset :: .unset :: .unset :: .unset :: .unset :: .unset :: .unset :: .unset :: .unset :: .unset :: .unset :: .unset :: [])) trivial (okLAW_560 l Z a0 hw n0 n c7.2 _ h)
      ·
        refine WP.ifY (pc' := 560) at_406 (XT.i0_ne_t hc6) (by decide) rfl ?_
        exact WP.weak (L' := (.unset :: .unset :: .unset :: .unset :: .unset :: .unset :: .unset :: .unset :: .unset :: .unset :: .unset :: .unset :: .unset :: .unset :: .unset :: .unset :: .unset :: .unset :: .unset :: .unset :: .unset :: .unset :: .unset :: .unset :: .unset :: [])) trivial (okLAW_560 l Z a0 hw n0 n c5.2 _ h)
    ·
      refine WP.icmpY (pc' := 560) at_397 (XT.ii_ne_t hc4) (by decide) rfl ?_
      exact WP.weak (L' := (.unset :: .unset :: .unset :: .unset :: .unset :: .unset :: .unset :: .unset :: .unset :: .unset :: .unset :: .unset :: .unset :: .unset :: .unset :: .unset :: .unset :: .unset :: .unset :: .unset :: .unset :: .unset :: .unset :: .unset :: .unset :: [])) trivial (okLAW_560 l Z a0 hw n0 n c3.2 _ h)
  ·
    refine WP.icmpY (pc' := 560) at_387 (XT.ii_ne_t hc2) (by decide) rfl ?_
    exact WP.weak (L' := (.unset :: .unset :: .unset :: .unset :: .unset :: .unset :: .unset :: .unset :: .unset :: .unset :: .unset :: .unset :: .unset :: .unset :: .unset :: .unset :: .unset :: .unset :: .unset :: .unset :: .unset :: .unset :: .unset :: .unset :: .unset :: [])) trivial (okLAW_560 l Z a0 hw n0 n s0 _ h)
def f_law_352 (n : Nat) (v5 : Int32) (v6 : Int32) (v9 : Int32) (v10 : Int32) (v11 : Int32) (v12 : Int32) (v13 : Int32) (v14 : Int32) (v15 : Int32) (v16 : Int32) (v17 : Int32) (t0 : Int32) (s0 : St) : Option (Int32) :=
  lt ((v5 + (1 : Int32)) + v6) fun x1 =>
  if v9 = (1 : Int32) then
    f_law_378 n v5 v9 v10 v11 v12 v13 v14 v15 v16 v17 t0 x1 v5 s0
  else
    f_law_378 n v5 v9 v10 v11 v12 v13 v14 v15 v16 v17 t0 x1 (v5 + (1 : Int32)) s0
set_option maxRecDepth 65536 in
set_option maxHeartbeats 4000000 in
theorem okLAW_352 (l : Launch) (Z : State) (a0 : Array Value) (hw : HW a0 Z) (n0 : Nat) (n : Nat) (v5 : Int32) (v6 : Int32) (v9 : Int32) (v10 : Int32) (v11 : Int32) (v12 : Int32) (v13 : Int32) (v14 : Int32) (v15 : Int32) (v16 : Int32) (v17 : Int32) (t0 : Int32) (s0 : St) (r : Int32) (h : f_law_352 n v5 v6 v9 v10 v11 v12 v13 v14 v15 v16 v17 t0 s0 = some r) : WLAW l Z n0 (PLAW r) 11 2102 352 (.unset :: .unset :: .unset :: .unset :: .val (.ref 0) :: .val (.int v5) :: .val (.int v6) :: .unset :: .unset :: .val (.int v9) :: .val (.int v10) :: .val (.int v11) :: .val (.int v12) :: .val (.int v13) :: .val (.int v14) :: .val (.int v15) :: .val (.int v16) :: .val (.int v17) :: .unset :: .unset :: .unset :: .unset :: .unset :: .unset :: .unset :: []) [.int t0] (Hb 0 s0) := by
  unfold f_law_352 at h
  refine WP.istore (L' := (.unset :: .unset :: .unset :: .unset :: .val (.ref 0) :: .val (.int v5) :: .val (.int v6) :: .unset :: .unset :: .val (.int v9) :: .val (.int v10) :: .val (.int v11) :: .val (.int v12) :: .val (.int v13) :: .val (.int v14) :: .val (.int v15) :: .val (.int v16) :: .val (.int v17) :: .unset :: .unset :: .unset :: .unset :: .val (.int t0) :: .unset :: .unset :: [])) at_352 (leb rfl) rfl ?_
  refine WP.iload at_354 rfl ?_
  refine WP.iconst (1 : Int32) at_356 rfl ?_
  refine WP.iadd at_357 ?_
  refine WP.iload at_358 rfl ?_
  refine WP.iadd at_360 ?_
  obtain ⟨x1, ex1, h⟩ := lt_e h
  refine WP.istore (L' := (.unset :: .unset :: .unset :: .unset :: .val (.ref 0) :: .val (.int v5) :: .val (.int v6) :: .unset :: .unset :: .val (.int v9) :: .val (.int v10) :: .val (.int v11) :: .val (.int v12) :: .val (.int v13) :: .val (.int v14) :: .val (.int v15) :: .val (.int v16) :: .val (.int v17) :: .unset :: .unset :: .unset :: .unset :: .val (.int t0) :: .val (.int x1) :: .unset :: [])) at_361 (leb rfl) (by subst ex1; rfl) ?_
  refine WP.iload at_363 rfl ?_
  refine WP.iconst (1 : Int32) at_365 rfl ?_
  rcases ite_e h with ⟨hc2, h⟩ | ⟨hc2, h⟩
  ·
    refine WP.icmpN at_366 (XT.ii_ne_f hc2) ?_
    refine WP.iload at_369 rfl ?_
    refine WP.goto (pc' := 378) at_371 (by decide) rfl ?_
    exact WP.weak (L' := (.unset :: .unset :: .unset :: .unset :: .val (.ref 0) :: .val (.int v5) :: .unset :: .unset :: .unset :: .val (.int v9) :: .val (.int v10) :: .val (.int v11) :: .val (.int v12) :: .val (.int v13) :: .val (.int v14) :: .val (.int v15) :: .val (.int v16) :: .val (.int v17) :: .unset :: .unset :: .unset :: .unset :: .val (.int t0) :: .val (.int x1) :: .unset :: [])) ⟨rfl, rfl, rfl, rfl, rfl, rfl, rfl, rfl, rfl, rfl, rfl, rfl, rfl, trivial⟩ (okLAW_378 l Z a0 hw n0 n v5 v9 v10 v11 v12 v13 v14 v15 v16 v17 t0 x1 v5 s0 _ h)
  ·
    refine WP.icmpY (pc' := 374) at_366 (XT.ii_ne_t hc2) (by decide) rfl ?_
    refine WP.iload at_374 rfl ?_
    refine WP.iconst (1 : Int32) at_376 rfl ?_
    refine WP.iadd at_377 ?_
    exact WP.weak (L' := (.unset :: .unset :: .unset :: .unset :: .val (.ref 0) :: .val (.int v5) :: .unset :: .unset :: .unset :: .val (.int v9) :: .val (.int v10) :: .val (.int v11) :: .val (.int v12) :: .val (.int v13) :: .val (.int v14) :: .val (.int v15) :: .val (.int v16) :: .val (.int v17) :: .unset :: .unset :: .unset :: .unset :: .val (.int t0) :: .val (.int x1) :: .unset :: [])) ⟨rfl, rfl, rfl, rfl, rfl, rfl, rfl, rfl, rfl, rfl, rfl, rfl, rfl, trivial⟩ (okLAW_378 l Z a0 hw n0 n v5 v9 v10 v11 v12 v13 v14 v15 v16 v17 t0 x1 (v5 + (1 : Int32)) s0 _ h)
def f_law_328 (n : Nat) (v5 : Int32) (v6 : Int32) (v9 : Int32) (v10 : Int32) (v11 : Int32) (v12 : Int32) (v13 : Int32) (v14 : Int32) (v15 : Int32) (v16 : Int32) (v17 : Int32) (s0 : St) : Option (Int32) :=
  if v10 = (1 : Int32) then
    f_law_352 n v5 v6 v9 v10 v11 v12 v13 v14 v15 v16 v17 v11 s0
  else
    if v10 = (2 : Int32) then
      f_law_352 n v5 v6 v9 v10 v11 v12 v13 v14 v15 v16 v17 v13 s0
    else
      f_law_352 n v5 v6 v9 v10 v11 v12 v13 v14 v15 v16 v17 v15 s0
set_option maxRecDepth 65536 in
set_option maxHeartbeats 4000000 in
theorem okLAW_328 (l : Launch) (Z : State) (a0 : Array Value) (hw : HW a0 Z) (n0 : Nat) (n : Nat) (v5 : Int32) (v6 : Int32) (v9 : Int32) (v10 : Int32) (v11 : Int32) (v12 : Int32) (v13 : Int32) (v14 : Int32) (v15 : Int32) (v16 : Int32) (v17 : Int32) (s0 : St) (r : Int32) (h : f_law_328 n v5 v6 v9 v10 v11 v12 v13 v14 v15 v16 v17 s0 = some r) : WLAW l Z n0 (PLAW r) 11 2102 328 (.unset :: .unset :: .unset :: .unset :: .val (.ref 0) :: .val (.int v5) :: .val (.int v6) :: .unset :: .unset :: .val (.int v9) :: .val (.int v10) :: .val (.int v11) :: .val (.int v12) :: .val (.int v13) :: .val (.int v14) :: .val (.int v15) :: .val (.int v16) :: .val (.int v17) :: .unset :: .unset :: .unset :: .unset :: .unset :: .unset :: .unset :: []) [] (Hb 0 s0) := by
  unfold f_law_328 at h
  refine WP.iload at_328 rfl ?_
  refine WP.iconst (1 : Int32) at_330 rfl ?_
  rcases ite_e h with ⟨hc1, h⟩ | ⟨hc1, h⟩
  ·
    refine WP.icmpN at_331 (XT.ii_ne_f hc1) ?_
    refine WP.iload at_334 rfl ?_
    refine WP.goto (pc' := 352) at_336 (by decide) rfl ?_
    exact WP.weak (L' := (.unset :: .unset :: .unset :: .unset :: .val (.ref 0) :: .val (.int v5) :: .val (.int v6) :: .unset :: .unset :: .val (.int v9) :: .val (.int v10) :: .val (.int v11) :: .val (.int v12) :: .val (.int v13) :: .val (.int v14) :: .val (.int v15) :: .val (.int v16) :: .val (.int v17) :: .unset :: .unset :: .unset :: .unset :: .unset :: .unset :: .unset :: [])) ⟨rfl, rfl, rfl, rfl, rfl, rfl, rfl, rfl, rfl, rfl, rfl, rfl, trivial⟩ (okLAW_352 l Z a0 hw n0 n v5 v6 v9 v10 v11 v12 v13 v14 v15 v16 v17 v11 s0 _ h)
  ·
    refine WP.icmpY (pc' := 339) at_331 (XT.ii_ne_t hc1) (by decide) rfl ?_
    refine WP.iload at_339 rfl ?_
    refine WP.iconst (2 : Int32) at_341 rfl ?_
    rcases ite_e h with ⟨hc2, h⟩ | ⟨hc2, h⟩
    ·
      refine WP.icmpN at_342 (XT.ii_ne_f hc2) ?_
      refine WP.iload at_345 rfl ?_
      refine WP.goto (pc' := 352) at_347 (by decide) rfl ?_
      exact WP.weak (L' := (.unset :: .unset :: .unset :: .unset :: .val (.ref 0) :: .val (.int v5) :: .val (.int v6) :: .unset :: .unset :: .val (.int v9) :: .val (.int v10) :: .val (.int v11) :: .val (.int v12) :: .val (.int v13) :: .val (.int v14) :: .val (.int v15) :: .val (.int v16) :: .val (.int v17) :: .unset :: .unset :: .unset :: .unset :: .unset :: .unset :: .unset :: [])) ⟨rfl, rfl, rfl, rfl, rfl, rfl, rfl, rfl, rfl, rfl, rfl, rfl, trivial⟩ (okLAW_352 l Z a0 hw n0 n v5 v6 v9 v10 v11 v12 v13 v14 v15 v16 v17 v13 s0 _ h)
    ·
      refine WP.icmpY (pc' := 350) at_342 (XT.ii_ne_t hc2) (by decide) rfl ?_
      refine WP.iload at_350 rfl ?_
      exact WP.weak (L' := (.unset :: .unset :: .unset :: .unset :: .val (.ref 0) :: .val (.int v5) :: .val (.int v6) :: .unset :: .unset :: .val (.int v9) :: .val (.int v10) :: .val (.int v11) :: .val (.int v12) :: .val (.int v13) :: .val (.int v14) :: .val (.int v15) :: .val (.int v16) :: .val (.int v17) :: .unset :: .unset :: .unset :: .unset :: .unset :: .unset :: .unset :: [])) ⟨rfl, rfl, rfl, rfl, rfl, rfl, rfl, rfl, rfl, rfl, rfl, rfl, trivial⟩ (okLAW_352 l Z a0 hw n0 n v5 v6 v9 v10 v11 v12 v13 v14 v15 v16 v17 v15 s0 _ h)
def f_law_282 (n : Nat) (v5 : Int32) (v6 : Int32) (v9 : Int32) (v10 : Int32) (v11 : Int32) (v12 : Int32) (v13 : Int32) (v14 : Int32) (v15 : Int32) (v16 : Int32) (v17 : Int32) (v20 : Int32) (v21 : Int32) (s0 : St) : Option (Int32) :=
  if 0 < v21 then
    if v10 = (1 : Int32) then
      lt ((v5 + (1 : Int32)) + v20) fun x3 =>
      f_law_328 n v5 v6 v9 (2 : Int32) v11 x3 v21 v14 v15 v16 v17 s0
    else
      lt ((v5 + (1 : Int32)) + v20) fun x4 =>
      f_law_328 n v5 v6 v9 (3 : Int32) v11 v12 v13 x4 v21 v16 v17 s0
  else
    f_law_328 n v5 v6 v9 v10 v11 v12 v13 v14 v15 v16 v17 s0
set_option maxRecDepth 65536 in
set_option maxHeartbeats 4000000 in
theorem okLAW_282 (l : Launch) (Z : State) (a0 : Array Value) (hw : HW a0 Z) (n0 : Nat) (n : Nat) (v5 : Int32) (v6 : Int32) (v9 : Int32) (v10 : Int32) (v11 : Int32) (v12 : Int32) (v13 : Int32) (v14 : Int32) (v15 : Int32) (v16 : Int32) (v17 : Int32) (v20 : Int32) (v21 : Int32) (s0 : St) (r : Int32) (h : f_law_282 n v5 v6 v9 v10 v11 v12 v13 v14 v15 v16 v17 v20 v21 s0 = some r) : WLAW l Z n0 (PLAW r) 11 2102 282 (.unset :: .unset :: .unset :: .unset :: .val (.ref 0) :: .val (.int v5) :: .val (.int v6) :: .unset :: .unset :: .val (.int v9) :: .val (.int v10) :: .val (.int v11) :: .val (.int v12) :: .val (.int v13) :: .val (.int v14) :: .val (.int v15) :: .val (.int v16) :: .val (.int v17) :: .unset :: .unset :: .val (.int v20) :: .val (.int v21) :: .unset :: .unset :: .unset :: []) [] (Hb 0 s0) := by
  unfold f_law_282 at h
  refine WP.iload at_282 rfl ?_
  rcases ite_e h with ⟨hc1, h⟩ | ⟨hc1, h⟩
  ·
    refine WP.ifN at_284 (XT.i0_le_f hc1) ?_
    refine WP.iload at_287 rfl ?_
    refine WP.iconst (1 : Int32) at_289 rfl ?_
    rcases ite_e h with ⟨hc2, h⟩ | ⟨hc2, h⟩
    ·
      refine WP.icmpN at_290 (XT.ii_ne_f hc2) ?_
      refine WP.iconst (2 : Int32) at_293 rfl ?_
      refine WP.istore (L' := (.unset :: .unset :: .unset :: .unset :: .val (.ref 0) :: .val (.int v5) :: .val (.int v6) :: .unset :: .unset :: .val (.int v9) :: .val (.int (2 : Int32)) :: .val (.int v11) :: .val (.int v12) :: .val (.int v13) :: .val (.int v14) :: .val (.int v15) :: .val (.int v16) :: .val (.int v17) :: .unset :: .unset :: .val (.int v20) :: .val (.int v21) :: .unset :: .unset :: .unset :: [])) at_294 (leb rfl) rfl ?_
      refine WP.iload at_296 rfl ?_
      refine WP.iconst (1 : Int32) at_298 rfl ?_
      refine WP.iadd at_299 ?_
      refine WP.iload at_300 rfl ?_
      refine WP.iadd at_302 ?_
      obtain ⟨x3, ex3, h⟩ := lt_e h
      refine WP.istore (L' := (.unset :: .unset :: .unset :: .unset :: .val (.ref 0) :: .val (.int v5) :: .val (.int v6) :: .unset :: .unset :: .val (.int v9) :: .val (.int (2 : Int32)) :: .val (.int v11) :: .val (.int x3) :: .val (.int v13) :: .val (.int v14) :: .val (.int v15) :: .val (.int v16) :: .val (.int v17) :: .unset :: .unset :: .val (.int v20) :: .val (.int v21) :: .unset :: .unset :: .unset :: [])) at_303 (leb rfl) (by subst ex3; rfl) ?_
      refine WP.iload at_305 rfl ?_
      refine WP.istore (L' := (.unset :: .unset :: .unset :: .unset :: .val (.ref 0) :: .val (.int v5) :: .val (.int v6) :: .unset :: .unset :: .val (.int v9) :: .val (.int (2 : Int32)) :: .val (.int v11) :: .val (.int x3) :: .val (.int v21) :: .val (.int v14) :: .val (.int v15) :: .val (.int v16) :: .val (.int v17) :: .unset :: .unset :: .val (.int v20) :: .val (.int v21) :: .unset :: .unset :: .unset :: [])) at_307 (leb rfl) rfl ?_
      refine WP.goto (pc' := 328) at_309 (by decide) rfl ?_
      exact WP.weak (L' := (.unset :: .unset :: .unset :: .unset :: .val (.ref 0) :: .val (.int v5) :: .val (.int v6) :: .unset :: .unset :: .val (.int v9) :: .val (.int (2 : Int32)) :: .val (.int v11) :: .val (.int x3) :: .val (.int v21) :: .val (.int v14) :: .val (.int v15) :: .val (.int v16) :: .val (.int v17) :: .unset :: .unset :: .unset :: .unset :: .unset :: .unset :: .unset :: [])) ⟨rfl, rfl, rfl, rfl, rfl, rfl, rfl, rfl, rfl, rfl, rfl, rfl, trivial⟩ (okLAW_328 l Z a0 hw n0 n v5 v6 v9 (2 : Int32) v11 x3 v21 v14 v15 v16 v17 s0 _ h)
    ·
      refine WP.icmpY (pc' := 312) at_290 (XT.ii_ne_t hc2) (by decide) rfl ?_
      refine WP.iconst (3 : Int32) at_312 rfl ?_
      refine WP.istore (L' := (.unset :: .unset :: .unset :: .unset :: .val (.ref 0) :: .val (.int v5) :: .val (.int v6) :: .unset :: .unset :: .val (.int v9) :: .val (.int (3 : Int32)) :: .val (.int v11) :: .val (.int v12) :: .val (.int v13) :: .val (.int v14) :: .val (.int v15) :: .val (.int v16) :: .val (.int v17) :: .unset :: .unset :: .val (.int v20) :: .val (.int v21) :: .unset :: .unset :: .unset :: [])) at_313 (leb rfl) rfl ?_
      refine WP.iload at_315 rfl ?_
      refine WP.iconst (1 : Int32) at_317 rfl ?_
      refine WP.iadd at_318 ?_
      refine WP.iload at_319 rfl ?_
      refine WP.iadd at_321 ?_
      obtain ⟨x4, ex4, h⟩ := lt_e h
      refine WP.istore (L' := (.unset :: .unset :: .unset :: .unset :: .val (.ref 0) :: .val (.int v5) :: .val (.int v6) :: .unset :: .unset :: .val (.int v9) :: .val (.int (3 : Int32)) :: .val (.int v11) :: .val (.int v12) :: .val (.int v13) :: .val (.int x4) :: .val (.int v15) :: .val (.int v16) :: .val (.int v17) :: .unset :: .unset :: .val (.int v20) :: .val (.int v21) :: .unset :: .unset :: .unset :: [])) at_322 (leb rfl) (by subst ex4; rfl) ?_
      refine WP.iload at_324 rfl ?_
      refine WP.istore (L' := (.unset :: .unset :: .unset :: .unset :: .val (.ref 0) :: .val (.int v5) :: .val (.int v6) :: .unset :: .unset :: .val (.int v9) :: .val (.int (3 : Int32)) :: .val (.int v11) :: .val (.int v12) :: .val (.int v13) :: .val (.int x4) :: .val (.int v21) :: .val (.int v16) :: .val (.int v17) :: .unset :: .unset :: .val (.int v20) :: .val (.int v21) :: .unset :: .unset :: .unset :: [])) at_326 (leb rfl) rfl ?_
      exact WP.weak (L' := (.unset :: .unset :: .unset :: .unset :: .val (.ref 0) :: .val (.int v5) :: .val (.int v6) :: .unset :: .unset :: .val (.int v9) :: .val (.int (3 : Int32)) :: .val (.int v11) :: .val (.int v12) :: .val (.int v13) :: .val (.int x4) :: .val (.int v21) :: .val (.int v16) :: .val (.int v17) :: .unset :: .unset :: .unset :: .unset :: .unset :: .unset :: .unset :: [])) ⟨rfl, rfl, rfl, rfl, rfl, rfl, rfl, rfl, rfl, rfl, rfl, rfl, trivial⟩ (okLAW_328 l Z a0 hw n0 n v5 v6 v9 (3 : Int32) v11 v12 v13 x4 v21 v16 v17 s0 _ h)
  ·
    refine WP.ifY (pc' := 328) at_284 (XT.i0_le_t hc1) (by decide) rfl ?_
    exact WP.weak (L' := (.unset :: .unset :: .unset :: .unset :: .val (.ref 0) :: .val (.int v5) :: .val (.int v6) :: .unset :: .unset :: .val (.int v9) :: .val (.int v10) :: .val (.int v11) :: .val (.int v12) :: .val (.int v13) :: .val (.int v14) :: .val (.int v15) :: .val (.int v16) :: .val (.int v17) :: .unset :: .unset :: .unset :: .unset :: .unset :: .unset :: .unset :: [])) ⟨rfl, rfl, rfl, rfl, rfl, rfl, rfl, rfl, rfl, rfl, rfl, rfl, trivial⟩ (okLAW_328 l Z a0 hw n0 n v5 v6 v9 v10 v11 v12 v13 v14 v15 v16 v17 s0 _ h)
def f_law_251 (n : Nat) (v5 : Int32) (v6 : Int32) (v9 : Int32) (v10 : Int32) (v11 : Int32) (v12 : Int32) (v13 : Int32) (v14 : Int32) (v15 : Int32) (v16 : Int32) (v17 : Int32) (t0 : Int32) (s0 : St) : Option (Int32) :=
  lt (v6 - t0) fun x1 =>
  if v16 = 0 then
    lt (v11 + t0) fun x3 =>
    f_law_282 n v5 v6 v9 v10 x3 v12 v13 v14 v15 v16 v17 t0 x1 s0
  else
    lt (v13 + t0) fun x4 =>
    f_law_282 n v5 v6 v9 v10 v11 v12 x4 v14 v15 v16 v17 t0 x1 s0
set_option maxRecDepth 65536 in
set_option maxHeartbeats 4000000 in
theorem okLAW_251 (l : Launch) (Z : State) (a0 : Array Value) (hw : HW a0 Z) (n0 : Nat) (n : Nat) (v5 : Int32) (v6 : Int32) (v9 : Int32) (v10 : Int32) (v11 : Int32) (v12 : Int32) (v13 : Int32) (v14 : Int32) (v15 : Int32) (v16 : Int32) (v17 : Int32) (t0 : Int32) (s0 : St) (r : Int32) (h : f_law_251 n v5 v6 v9 v10 v11 v12 v13 v14 v15 v16 v17 t0 s0 = some r) : WLAW l Z n0 (PLAW r) 11 2102 251 (.unset :: .unset :: .unset :: .unset :: .val (.ref 0) :: .val (.int v5) :: .val (.int v6) :: .unset :: .unset :: .val (.int v9) :: .val (.int v10) :: .val (.int v11) :: .val (.int v12) :: .val (.int v13) :: .val (.int v14) :: .val (.int v15) :: .val (.int v16) :: .val (.int v17) :: .unset :: .unset :: .unset :: .unset :: .unset :: .unset :: .unset :: []) [.int t0] (Hb 0 s0) := by
  unfold f_law_251 at h
  refine WP.istore (L' := (.unset :: .unset :: .unset :: .unset :: .val (.ref 0) :: .val (.int v5) :: .val (.int v6) :: .unset :: .unset :: .val (.int v9) :: .val (.int v10) :: .val (.int v11) :: .val (.int v12) :: .val (.int v13) :: .val (.int v14) :: .val (.int v15) :: .val (.int v16) :: .val (.int v17) :: .unset :: .unset :: .val (.int t0) :: .unset :: .unset :: .unset :: .unset :: [])) at_251 (leb rfl) rfl ?_
  refine WP.iload at_253 rfl ?_
  refine WP.iload at_255 rfl ?_
  refine WP.isub at_257 ?_
  obtain ⟨x1, ex1, h⟩ := lt_e h
  refine WP.istore (L' := (.unset :: .unset :: .unset :: .unset :: .val (.ref 0) :: .val (.int v5) :: .val (.int v6) :: .unset :: .unset :: .val (.int v9) :: .val (.int v10) :: .val (.int v11) :: .val (.int v12) :: .val (.int v13) :: .val (.int v14) :: .val (.int v15) :: .val (.int v16) :: .val (.int v17) :: .unset :: .unset :: .val (.int t0) :: .val (.int x1) :: .unset :: .unset :: .unset :: [])) at_258 (leb rfl) (by subst ex1; rfl) ?_
  refine WP.iload at_260 rfl ?_
  rcases ite_e h with ⟨hc2, h⟩ | ⟨hc2, h⟩
  ·
    refine WP.ifN at_262 (XT.i0_ne_f hc2) ?_
    refine WP.iload at_265 rfl ?_
    refine WP.iload at_267 rfl ?_
    refine WP.iadd at_269 ?_
    obtain ⟨x3, ex3, h⟩ := lt_e h
    refine WP.istore (L' := (.unset :: .unset :: .unset :: .unset :: .val (.ref 0) :: .val (.int v5) :: .val (.int v6) :: .unset :: .unset :: .val (.int v9) :: .val (.int v10) :: .val (.int x3) :: .val (.int v12) :: .val (.int v13) :: .val (.int v14) :: .val (.int v15) :: .val (.int v16) :: .val (.int v17) :: .unset :: .unset :: .val (.int t0) :: .val (.int x1) :: .unset :: .unset :: .unset :: [])) at_270 (leb rfl) (by subst ex3; rfl) ?_
    refine WP.goto (pc' := 282) at_272 (by decide) rfl ?_
    exact WP.weak (L' := (.unset :: .unset :: .unset :: .unset :: .val (.ref 0) :: .val (.int v5) :: .val (.int v6) :: .unset :: .unset :: .val (.int v9) :: .val (.int v10) :: .val (.int x3) :: .val (.int v12) :: .val (.int v13) :: .val (.int v14) :: .val (.int v15) :: .val (.int v16) :: .val (.int v17) :: .unset :: .unset :: .val (.int t0) :: .val (.int x1) :: .unset :: .unset :: .unset :: [])) ⟨rfl, rfl, rfl, rfl, rfl, rfl, rfl, rfl, rfl, rfl, rfl, rfl, rfl, rfl, trivial⟩ (okLAW_282 l Z a0 hw n0 n v5 v6 v9 v10 x3 v12 v13 v14 v15 v16 v17 t0 x1 s0 _ h)
  ·
    refine WP.ifY (pc' := 275) at_262 (XT.i0_ne_t hc2) (by decide) rfl ?_
    refine WP.iload at_275 rfl ?_
    refine WP.iload at_277 rfl ?_
    refine WP.iadd at_279 ?_
    obtain ⟨x4, ex4, h⟩ := lt_e h
    refine WP.istore (L' := (.unset :: .unset :: .unset :: .unset :: .val (.ref 0) :: .val (.int v5) :: .val (.int v6) :: .unset :: .unset :: .val (.int v9) :: .val (.int v10) :: .val (.int v11) :: .val (.int v12) :: .val (.int x4) :: .val (.int v14) :: .val (.int v15) :: .val (.int v16) :: .val (.int v17) :: .unset :: .unset :: .val (.int t0) :: .val (.int x1) :: .unset :: .unset :: .unset :: [])) at_280 (leb rfl) (by subst ex4; rfl) ?_
    exact WP.weak (L' := (.unset :: .unset :: .unset :: .unset :: .val (.ref 0) :: .val (.int v5) :: .val (.int v6) :: .unset :: .unset :: .val (.int v9) :: .val (.int v10) :: .val (.int v11) :: .val (.int v12) :: .val (.int x4) :: .val (.int v14) :: .val (.int v15) :: .val (.int v16) :: .val (.int v17) :: .unset :: .unset :: .val (.int t0) :: .val (.int x1) :: .unset :: .unset :: .unset :: [])) ⟨rfl, rfl, rfl, rfl, rfl, rfl, rfl, rfl, rfl, rfl, rfl, rfl, rfl, rfl, trivial⟩ (okLAW_282 l Z a0 hw n0 n v5 v6 v9 v10 v11 v12 x4 v14 v15 v16 v17 t0 x1 s0 _ h)
def f_law_230 (n : Nat) (v5 : Int32) (v6 : Int32) (v8 : Int32) (v9 : Int32) (v10 : Int32) (v11 : Int32) (v12 : Int32) (v13 : Int32) (v14 : Int32) (v15 : Int32) (v16 : Int32) (v17 : Int32) (v18 : Int32) (s0 : St) : Option (Int32) :=
  lt (v8 - v18) fun x1 =>
  if v6 < x1 then
    f_law_251 n v5 v6 v9 v10 v11 v12 v13 v14 v15 v16 v17 v6 s0
  else
    f_law_251 n v5 v6 v9 v10 v11 v12 v13 v14 v15 v16 v17 x1 s0
set_option maxRecDepth 65536 in
set_option maxHeartbeats 4000000 in
theorem okLAW_230 (l : Launch) (Z : State) (a0 : Array Value) (hw : HW a0 Z) (n0 : Nat) (n : Nat) (v5 : Int32) (v6 : Int32) (v8 : Int32) (v9 : Int32) (v10 : Int32) (v11 : Int32) (v12 : Int32) (v13 : Int32) (v14 : Int32) (v15 : Int32) (v16 : Int32) (v17 : Int32) (v18 : Int32) (s0 : St) (r : Int32) (h : f_law_230 n v5 v6 v8 v9 v10 v11 v12 v13 v14 v15 v16 v17 v18 s0 = some r) : WLAW l Z n0 (PLAW r) 11 2102 230 (.unset :: .unset :: .unset :: .unset :: .val (.ref 0) :: .val (.int v5) :: .val (.int v6) :: .unset :: .val (.int v8) :: .val (.int v9) :: .val (.int v10) :: .val (.int v11) :: .val (.int v12) :: .val (.int v13) :: .val (.int v14) :: .val (.int v15) :: .val (.int v16) :: .val (.int v17) :: .val (.int v18) :: .unset :: .unset :: .unset :: .unset :: .unset :: .unset :: []) [] (Hb 0 s0) := by
  unfold f_law_230 at h
  refine WP.iload at_230 rfl ?_
  refine WP.iload at_232 rfl ?_
  refine WP.isub at_234 ?_
  obtain ⟨x1, ex1, h⟩ := lt_e h
  refine WP.istore (L' := (.unset :: .unset :: .unset :: .unset :: .val (.ref 0) :: .val (.int v5) :: .val (.int v6) :: .unset :: .val (.int v8) :: .val (.int v9) :: .val (.int v10) :: .val (.int v11) :: .val (.int v12) :: .val (.int v13) :: .val (.int v14) :: .val (.int v15) :: .val (.int v16) :: .val (.int v17) :: .val (.int v18) :: .val (.int x1) :: .unset :: .unset :: .unset :: .unset :: .unset :: [])) at_235 (leb rfl) (by subst ex1; rfl) ?_
  refine WP.iload at_237 rfl ?_
  refine WP.iload at_239 rfl ?_
  rcases ite_e h with ⟨hc2, h⟩ | ⟨hc2, h⟩
  ·
    refine WP.icmpN at_241 (XT.ii_ge_f hc2) ?_
    refine WP.iload at_244 rfl ?_
    refine WP.goto (pc' := 251) at_246 (by decide) rfl ?_
    exact WP.weak (L' := (.unset :: .unset :: .unset :: .unset :: .val (.ref 0) :: .val (.int v5) :: .val (.int v6) :: .unset :: .unset :: .val (.int v9) :: .val (.int v10) :: .val (.int v11) :: .val (.int v12) :: .val (.int v13) :: .val (.int v14) :: .val (.int v15) :: .val (.int v16) :: .val (.int v17) :: .unset :: .unset :: .unset :: .unset :: .unset :: .unset :: .unset :: [])) ⟨rfl, rfl, rfl, rfl, rfl, rfl, rfl, rfl, rfl, rfl, rfl, rfl, trivial⟩ (okLAW_251 l Z a0 hw n0 n v5 v6 v9 v10 v11 v12 v13 v14 v15 v16 v17 v6 s0 _ h)
  ·
    refine WP.icmpY (pc' := 249) at_241 (XT.ii_ge_t hc2) (by decide) rfl ?_
    refine WP.iload at_249 rfl ?_
    exact WP.weak (L' := (.unset :: .unset :: .unset :: .unset :: .val (.ref 0) :: .val (.int v5) :: .val (.int v6) :: .unset :: .unset :: .val (.int v9) :: .val (.int v10) :: .val (.int v11) :: .val (.int v12) :: .val (.int v13) :: .val (.int v14) :: .val (.int v15) :: .val (.int v16) :: .val (.int v17) :: .unset :: .unset :: .unset :: .unset :: .unset :: .unset :: .unset :: [])) ⟨rfl, rfl, rfl, rfl, rfl, rfl, rfl, rfl, rfl, rfl, rfl, rfl, trivial⟩ (okLAW_251 l Z a0 hw n0 n v5 v6 v9 v10 v11 v12 v13 v14 v15 v16 v17 x1 s0 _ h)
def f_law_150 (n : Nat) (v5 : Int32) (v6 : Int32) (v7 : Int32) (t0 : Int32) (s0 : St) : Option (Int32) :=
  if v7 = 0 then none else
  lt (v7 - (v5 % v7)) fun x2 =>
  lt (v5 + x2) fun x3 =>
  if t0 < (v5 + x2) then
    f_law_230 n v5 v6 t0 x2 (2 : Int32) v5 v5 x2 (-1 : Int32) (-1 : Int32) (1 : Int32) (0 : Int32) x2 s0
  else
    f_law_230 n v5 v6 t0 x2 (1 : Int32) x3 (-1 : Int32) (-1 : Int32) (-1 : Int32) (-1 : Int32) (0 : Int32) v5 x3 s0
set_option maxRecDepth 65536 in
set_option maxHeartbeats 4000000 in
theorem okLAW_150 (l : Launch) (Z : State) (a0 : Array Value) (hw : HW a0 Z) (n0 : Nat) (n : Nat) (v5 : Int32) (v6 : Int32) (v7 : Int32) (t0 : Int32) (s0 : St) (r : Int32) (h : f_law_150 n v5 v6 v7 t0 s0 = some r) : WLAW l Z n0 (PLAW r) 11 2102 150 (.unset :: .unset :: .unset :: .unset :: .val (.ref 0) :: .val (.int v5) :: .val (.int v6) :: .val (.int v7) :: .unset :: .unset :: .unset :: .unset :: .unset :: .unset :: .unset :: .unset :: .unset :: .unset :: .unset :: .unset :: .unset :: .unset :: .unset :: .unset :: .unset :: []) [.int t0] (Hb 0 s0) := by
  unfold f_law_150 at h
  refine WP.istore (L' := (.unset :: .unset :: .unset :: .unset :: .val (.ref 0) :: .val (.int v5) :: .val (.int v6) :: .val (.int v7) :: .val (.int t0) :: .unset :: .unset :: .unset :: .unset :: .unset :: .unset :: .unset :: .unset :: .unset :: .unset :: .unset :: .unset :: .unset :: .unset :: .unset :: .unset :: [])) at_150 (leb rfl) rfl ?_
  refine WP.iload at_152 rfl ?_
  refine WP.iload at_154 rfl ?_
  refine WP.iload at_156 rfl ?_
  obtain ⟨hz1, h⟩ := nz_e h
  refine WP.irem at_158 hz1 ?_
  refine WP.isub at_159 ?_
  obtain ⟨x2, ex2, h⟩ := lt_e h
  refine WP.istore (L' := (.unset :: .unset :: .unset :: .unset :: .val (.ref 0) :: .val (.int v5) :: .val (.int v6) :: .val (.int v7) :: .val (.int t0) :: .val (.int x2) :: .unset :: .unset :: .unset :: .unset :: .unset :: .unset :: .unset :: .unset :: .unset :: .unset :: .unset :: .unset :: .unset :: .unset :: .unset :: [])) at_160 (leb rfl) (by subst ex2; rfl) ?_
  refine WP.iconst (1 : Int32) at_162 rfl ?_
  refine WP.istore (L' := (.unset :: .unset :: .unset :: .unset :: .val (.ref 0) :: .val (.int v5) :: .val (.int v6) :: .val (.int v7) :: .val (.int t0) :: .val (.int x2) :: .val (.int (1 : Int32)) :: .unset :: .unset :: .unset :: .unset :: .unset :: .unset :: .unset :: .unset :: .unset :: .unset :: .unset :: .unset :: .unset :: .unset :: [])) at_163 (leb rfl) rfl ?_
  refine WP.iload at_165 rfl ?_
  refine WP.iload at_167 rfl ?_
  refine WP.iadd at_169 ?_
  obtain ⟨x3, ex3, h⟩ := lt_e h
  refine WP.istore (L' := (.unset :: .unset :: .unset :: .unset :: .val (.ref 0) :: .val (.int v5) :: .val (.int v6) :: .val (.int v7) :: .val (.int t0) :: .val (.int x2) :: .val (.int (1 : Int32)) :: .val (.int x3) :: .unset :: .unset :: .unset :: .unset :: .unset :: .unset :: .unset :: .unset :: .unset :: .unset :: .unset :: .unset :: .unset :: [])) at_170 (leb rfl) (by subst ex3; rfl) ?_
  refine WP.iconst (-1 : Int32) at_172 rfl ?_
  refine WP.istore (L' := (.unset :: .unset :: .unset :: .unset :: .val (.ref 0) :: .val (.int v5) :: .val (.int v6) :: .val (.int v7) :: .val (.int t0) :: .val (.int x2) :: .val (.int (1 : Int32)) :: .val (.int x3) :: .val (.int (-1 : Int32)) :: .unset :: .unset :: .unset :: .unset :: .unset :: .unset :: .unset :: .unset :: .unset :: .unset :: .unset :: .unset :: [])) at_173 (leb rfl) rfl ?_
  refine WP.iconst (-1 : Int32) at_175 rfl ?_
  refine WP.istore (L' := (.unset :: .unset :: .unset :: .unset :: .val (.ref 0) :: .val (.int v5) :: .val (.int v6) :: .val (.int v7) :: .val (.int t0) :: .val (.int x2) :: .val (.int (1 : Int32)) :: .val (.int x3) :: .val (.int (-1 : Int32)) :: .val (.int (-1 : Int32)) :: .unset :: .unset :: .unset :: .unset :: .unset :: .unset :: .unset :: .unset :: .unset :: .unset :: .unset :: [])) at_176 (leb rfl) rfl ?_
  refine WP.iconst (-1 : Int32) at_178 rfl ?_
  refine WP.istore (L' := (.unset :: .unset :: .unset :: .unset :: .val (.ref 0) :: .val (.int v5) :: .val (.int v6) :: .val (.int v7) :: .val (.int t0) :: .val (.int x2) :: .val (.int (1 : Int32)) :: .val (.int x3) :: .val (.int (-1 : Int32)) :: .val (.int (-1 : Int32)) :: .val (.int (-1 : Int32)) :: .unset :: .unset :: .unset :: .unset :: .unset :: .unset :: .unset :: .unset :: .unset :: .unset :: [])) at_179 (leb rfl) rfl ?_
  refine WP.iconst (-1 : Int32) at_181 rfl ?_
  refine WP.istore (L' := (.unset :: .unset :: .unset :: .unset :: .val (.ref 0) :: .val (.int v5) :: .val (.int v6) :: .val (.int v7) :: .val (.int t0) :: .val (.int x2) :: .val (.int (1 : Int32)) :: .val (.int x3) :: .val (.int (-1 : Int32)) :: .val (.int (-1 : Int32)) :: .val (.int (-1 : Int32)) :: .val (.int (-1 : Int32)) :: .unset :: .unset :: .unset :: .unset :: .unset :: .unset :: .unset :: .unset :: .unset :: [])) at_182 (leb rfl) rfl ?_
  refine WP.iconst (0 : Int32) at_184 rfl ?_
  refine WP.istore (L' := (.unset :: .unset :: .unset :: .unset :: .val (.ref 0) :: .val (.int v5) :: .val (.int v6) :: .val (.int v7) :: .val (.int t0) :: .val (.int x2) :: .val (.int (1 : Int32)) :: .val (.int x3) :: .val (.int (-1 : Int32)) :: .val (.int (-1 : Int32)) :: .val (.int (-1 : Int32)) :: .val (.int (-1 : Int32)) :: .val (.int (0 : Int32)) :: .unset :: .unset :: .unset :: .unset :: .unset :: .unset :: .unset :: .unset :: [])) at_185 (leb rfl) rfl ?_
  refine WP.iload at_187 rfl ?_
  refine WP.istore (L' := (.unset :: .unset :: .unset :: .unset :: .val (.ref 0) :: .val (.int v5) :: .val (.int v6) :: .val (.int v7) :: .val (.int t0) :: .val (.int x2) :: .val (.int (1 : Int32)) :: .val (.int x3) :: .val (.int (-1 : Int32)) :: .val (.int (-1 : Int32)) :: .val (.int (-1 : Int32)) :: .val (.int (-1 : Int32)) :: .val (.int (0 : Int32)) :: .val (.int v5) :: .unset :: .unset :: .unset :: .unset :: .unset :: .unset :: .unset :: [])) at_189 (leb rfl) rfl ?_
  refine WP.iload at_191 rfl ?_
  refine WP.istore (L' := (.unset :: .unset :: .unset :: .unset :: .val (.ref 0) :: .val (.int v5) :: .val (.int v6) :: .val (.int v7) :: .val (.int t0) :: .val (.int x2) :: .val (.int (1 : Int32)) :: .val (.int x3) :: .val (.int (-1 : Int32)) :: .val (.int (-1 : Int32)) :: .val (.int (-1 : Int32)) :: .val (.int (-1 : Int32)) :: .val (.int (0 : Int32)) :: .val (.int v5) :: .val (.int x3) :: .unset :: .unset :: .unset :: .unset :: .unset :: .unset :: [])) at_193 (leb rfl) rfl ?_
  refine WP.iload at_195 rfl ?_
  refine WP.iload at_197 rfl ?_
  refine WP.iadd at_199 ?_
  refine WP.iload at_200 rfl ?_
  rcases ite_e h with ⟨hc4, h⟩ | ⟨hc4, h⟩
  ·
    refine WP.icmpN at_202 (XT.ii_le_f hc4) ?_
    refine WP.iload at_205 rfl ?_
    refine WP.istore (L' := (.unset :: .unset :: .unset :: .unset :: .val (.ref 0) :: .val (.int v5) :: .val (.int v6) :: .val (.int v7) :: .val (.int t0) :: .val (.int x2) :: .val (.int (1 : Int32)) :: .val (.int v5) :: .val (.int (-1 : Int32)) :: .val (.int (-1 : Int32)) :: .val (.int (-1 : Int32)) :: .val (.int (-1 : Int32)) :: .val (.int (0 : Int32)) :: .val (.int v5) :: .val (.int x3) :: .unset :: .unset :: .unset :: .unset :: .unset :: .unset :: [])) at_207 (leb rfl) rfl ?_
    refine WP.iconst (2 : Int32) at_209 rfl ?_
    refine WP.istore (L' := (.unset :: .unset :: .unset :: .unset :: .val (.ref 0) :: .val (.int v5) :: .val (.int v6) :: .val (.int v7) :: .val (.int t0) :: .val (.int x2) :: .val (.int (2 : Int32)) :: .val (.int v5) :: .val (.int (-1 : Int32)) :: .val (.int (-1 : Int32)) :: .val (.int (-1 : Int32)) :: .val (.int (-1 : Int32)) :: .val (.int (0 : Int32)) :: .val (.int v5) :: .val (.int x3) :: .unset :: .unset :: .unset :: .unset :: .unset :: .unset :: [])) at_210 (leb rfl) rfl ?_
    refine WP.iload at_212 rfl ?_
    refine WP.istore (L' := (.unset :: .unset :: .unset :: .unset :: .val (.ref 0) :: .val (.int v5) :: .val (.int v6) :: .val (.int v7) :: .val (.int t0) :: .val (.int x2) :: .val (.int (2 : Int32)) :: .val (.int v5) :: .val (.int v5) :: .val (.int (-1 : Int32)) :: .val (.int (-1 : Int32)) :: .val (.int (-1 : Int32)) :: .val (.int (0 : Int32)) :: .val (.int v5) :: .val (.int x3) :: .unset :: .unset :: .unset :: .unset :: .unset :: .unset :: [])) at_214 (leb rfl) rfl ?_
    refine WP.iload at_216 rfl ?_
    refine WP.istore (L' := (.unset :: .unset :: .unset :: .unset :: .val (.ref 0) :: .val (.int v5) :: .val (.int v6) :: .val (.int v7) :: .val (.int t0) :: .val (.int x2) :: .val (.int (2 : Int32)) :: .val (.int v5) :: .val (.int v5) :: .val (.int x2) :: .val (.int (-1 : Int32)) :: .val (.int (-1 : Int32)) :: .val (.int (0 : Int32)) :: .val (.int v5) :: .val (.int x3) :: .unset :: .unset :: .unset :: .unset :: .unset :: .unset :: [])) at_218 (leb rfl) rfl ?_
    refine WP.iconst (1 : Int32) at_220 rfl ?_
    refine WP.istore (L' := (.unset :: .unset :: .unset :: .unset :: .val (.ref 0) :: .val (.int v5) :: .val (.int v6) :: .val (.int v7) :: .val (.int t0) :: .val (.int x2) :: .val (.int (2 : Int32)) :: .val (.int v5) :: .val (.int v5) :: .val (.int x2) :: .val (.int (-1 : Int32)) :: .val (.int (-1 : Int32)) :: .val (.int (1 : Int32)) :: .val (.int v5) :: .val (.int x3) :: .unset :: .unset :: .unset :: .unset :: .unset :: .unset :: [])) at_221 (leb rfl) rfl ?_
    refine WP.iconst (0 : Int32) at_223 rfl ?_
    refine WP.istore (L' := (.unset :: .unset :: .unset :: .unset :: .val (.ref 0) :: .val (.int v5) :: .val (.int v6) :: .val (.int v7) :: .val (.int t0) :: .val (.int x2) :: .val (.int (2 : Int32)) :: .val (.int v5) :: .val (.int v5) :: .val (.int x2) :: .val (.int (-1 : Int32)) :: .val (.int (-1 : Int32)) :: .val (.int (1 : Int32)) :: .val (.int (0 : Int32)) :: .val (.int x3) :: .unset :: .unset :: .unset :: .unset :: .unset :: .unset :: [])) at_224 (leb rfl) rfl ?_
    refine WP.iload at_226 rfl ?_
    refine WP.istore (L' := (.unset :: .unset :: .unset :: .unset :: .val (.ref 0) :: .val (.int v5) :: .val (.int v6) :: .val (.int v7) :: .val (.int t0) :: .val (.int x2) :: .val (.int (2 : Int32)) :: .val (.int v5) :: .val (.int v5) :: .val (.int x2) :: .val (.int (-1 : Int32)) :: .val (.int (-1 : Int32)) :: .val (.int (1 : Int32)) :: .val (.int (0 : Int32)) :: .val (.int x2) :: .unset :: .unset :: .unset :: .unset :: .unset :: .unset :: [])) at_228 (leb rfl) rfl ?_
    exact WP.weak (L' := (.unset :: .unset :: .unset :: .unset :: .val (.ref 0) :: .val (.int v5) :: .val (.int v6) :: .unset :: .val (.int t0) :: .val (.int x2) :: .val (.int (2 : Int32)) :: .val (.int v5) :: .val (.int v5) :: .val (.int x2) :: .val (.int (-1 : Int32)) :: .val (.int (-1 : Int32)) :: .val (.int (1 : Int32)) :: .val (.int (0 : Int32)) :: .val (.int x2) :: .unset :: .unset :: .unset :: .unset :: .unset :: .unset :: [])) ⟨rfl, rfl, rfl, rfl, rfl, rfl, rfl, rfl, rfl, rfl, rfl, rfl, rfl, rfl, trivial⟩ (okLAW_230 l Z a0 hw n0 n v5 v6 t0 x2 (2 : Int32) v5 v5 x2 (-1 : Int32) (-1 : Int32) (1 : Int32) (0 : Int32) x2 s0 _ h)
  ·
    refine WP.icmpY (pc' := 230) at_202 (XT.ii_le_t hc4) (by decide) rfl ?_
    exact WP.weak (L' := (.unset :: .unset :: .unset :: .unset :: .val (.ref 0) :: .val (.int v5) :: .val (.int v6) :: .unset :: .val (.int t0) :: .val (.int x2) :: .val (.int (1 : Int32)) :: .val (.int x3) :: .val (.int (-1 : Int32)) :: .val (.int (-1 : Int32)) :: .val (.int (-1 : Int32)) :: .val (.int (-1 : Int32)) :: .val (.int (0 : Int32)) :: .val (.int v5) :: .val (.int x3) :: .unset :: .unset :: .unset :: .unset :: .unset :: .unset :: [])) ⟨rfl, rfl, rfl, rfl, rfl, rfl, rfl, rfl, rfl, rfl, rfl, rfl, rfl, rfl, trivial⟩ (okLAW_230 l Z a0 hw n0 n v5 v6 t0 x2 (1 : Int32) x3 (-1 : Int32) (-1 : Int32) (-1 : Int32) (-1 : Int32) (0 : Int32) v5 x3 s0 _ h)
def f_law_125 (n : Nat) (v1 : Int32) (v5 : Int32) (v6 : Int32) (t0 : Int32) (s0 : St) : Option (Int32) :=
  if v1 < (8 : Int32) then
    f_law_150 n v5 v6 t0 (8 : Int32) s0
  else
    if (32 : Int32) < v1 then
      f_law_150 n v5 v6 t0 (32 : Int32) s0
    else
      f_law_150 n v5 v6 t0 v1 s0
set_option maxRecDepth 65536 in
set_option maxHeartbeats 4000000 in
theorem okLAW_125 (l : Launch) (Z : State) (a0 : Array Value) (hw : HW a0 Z) (n0 : Nat) (n : Nat) (v1 : Int32) (v5 : Int32) (v6 : Int32) (t0 : Int32) (s0 : St) (r : Int32) (h : f_law_125 n v1 v5 v6 t0 s0 = some r) : WLAW l Z n0 (PLAW r) 11 2102 125 (.unset :: .val (.int v1) :: .unset :: .unset :: .val (.ref 0) :: .val (.int v5) :: .val (.int v6) :: .unset :: .unset :: .unset :: .unset :: .unset :: .unset :: .unset :: .unset :: .unset :: .unset :: .unset :: .unset :: .unset :: .unset :: .unset :: .unset :: .unset :: .unset :: []) [.int t0] (Hb 0 s0) := by
  unfold f_law_125 at h
  refine WP.istore (L' := (.unset :: .val (.int v1) :: .unset :: .unset :: .val (.ref 0) :: .val (.int v5) :: .val (.int v6) :: .val (.int t0) :: .unset :: .unset :: .unset :: .unset :: .unset :: .unset :: .unset :: .unset :: .unset :: .unset :: .unset :: .unset :: .unset :: .unset :: .unset :: .unset :: .unset :: [])) at_125 (leb rfl) rfl ?_
  refine WP.iloadN at_127 rfl ?_
  refine WP.bipush (8 : Int32) at_128 rfl ?_
  rcases ite_e h with ⟨hc1, h⟩ | ⟨hc1, h⟩
  ·
    refine WP.icmpN at_130 (XT.ii_ge_f hc1) ?_
    refine WP.bipush (8 : Int32) at_133 rfl ?_
    refine WP.goto (pc' := 150) at_135 (by decide) rfl ?_
    exact WP.weak (L' := (.unset :: .unset :: .unset :: .unset :: .val (.ref 0) :: .val (.int v5) :: .val (.int v6) :: .val (.int t0) :: .unset :: .unset :: .unset :: .unset :: .unset :: .unset :: .unset :: .unset :: .unset :: .unset :: .unset :: .unset :: .unset :: .unset :: .unset :: .unset :: .unset :: [])) ⟨rfl, rfl, rfl, rfl, trivial⟩ (okLAW_150 l Z a0 hw n0 n v5 v6 t0 (8 : Int32) s0 _ h)
  ·
    refine WP.icmpY (pc' := 138) at_130 (XT.ii_ge_t hc1) (by decide) rfl ?_
    refine WP.iloadN at_138 rfl ?_
    refine WP.bipush (32 : Int32) at_139 rfl ?_
    rcases ite_e h with ⟨hc2, h⟩ | ⟨hc2, h⟩
    ·
      refine WP.icmpN at_141 (XT.ii_le_f hc2) ?_
      refine WP.bipush (32 : Int32) at_144 rfl ?_
      refine WP.goto (pc' := 150) at_146 (by decide) rfl ?_
      exact WP.weak (L' := (.unset :: .unset :: .unset :: .unset :: .val (.ref 0) :: .val (.int v5) :: .val (.int v6) :: .val (.int t0) :: .unset :: .unset :: .unset :: .unset :: .unset :: .unset :: .unset :: .unset :: .unset :: .unset :: .unset :: .unset :: .unset :: .unset :: .unset :: .unset :: .unset :: [])) ⟨rfl, rfl, rfl, rfl, trivial⟩ (okLAW_150 l Z a0 hw n0 n v5 v6 t0 (32 : Int32) s0 _ h)
    ·
      refine WP.icmpY (pc' := 149) at_141 (XT.ii_le_t hc2) (by decide) rfl ?_
      refine WP.iloadN at_149 rfl ?_
      exact WP.weak (L' := (.unset :: .unset :: .unset :: .unset :: .val (.ref 0) :: .val (.int v5) :: .val (.int v6) :: .val (.int t0) :: .unset :: .unset :: .unset :: .unset :: .unset :: .unset :: .unset :: .unset :: .unset :: .unset :: .unset :: .unset :: .unset :: .unset :: .unset :: .unset :: .unset :: [])) ⟨rfl, rfl, rfl, rfl, trivial⟩ (okLAW_150 l Z a0 hw n0 n v5 v6 t0 v1 s0 _ h)
def g_law_69 (k69 : Int32 → Int32 → Int32 → Int32 → Int32 → St → Option (Int32)) (n : Nat) (v0 : Int32) (v1 : Int32) (v5 : Int32) (v6 : Int32) (v7 : Int32) (s0 : St) : Option (Int32) :=
  if v7 < (8 : Int32) then
    if v7 < v6 then
      (f_insert n ((v5 + (1 : Int32)) + v7) (98 : Int32) s0).bind fun c3 =>
      f_law_98 k69 n v0 v1 v5 v6 v7 c3.2
    else
      f_law_98 k69 n v0 v1 v5 v6 v7 s0
  else
    if v0 < (1 : Int32) then
      f_law_125 n v1 v5 v6 (1 : Int32) s0
    else
      if (8 : Int32) < v0 then
        f_law_125 n v1 v5 v6 (8 : Int32) s0
      else
        f_law_125 n v1 v5 v6 v0 s0
set_option maxRecDepth 65536 in
set_option maxHeartbeats 4000000 in
theorem okgLAW_69 (l : Launch) (Z : State) (a0 : Array Value) (hw : HW a0 Z) (n0 : Nat) (k69 : Int32 → Int32 → Int32 → Int32 → Int32 → St → Option (Int32)) (hk69 : ∀ (v0 : Int32) (v1 : Int32) (v5 : Int32) (v6 : Int32) (v7 : Int32) (s0 : St) (r : Int32), k69 v0 v1 v5 v6 v7 s0 = some r → WLAW l Z n0 (PLAW r) 11 2102 69 (.val (.int v0) :: .val (.int v1) :: .unset :: .unset :: .val (.ref 0) :: .val (.int v5) :: .val (.int v6) :: .val (.int v7) :: .unset :: .unset :: .unset :: .unset :: .unset :: .unset :: .unset :: .unset :: .unset :: .unset :: .unset :: .unset :: .unset :: .unset :: .unset :: .unset :: .unset :: []) [] (Hb 0 s0)) (n : Nat) (v0 : Int32) (v1 : Int32) (v5 : Int32) (v6 : Int32) (v7 : Int32) (s0 : St) (r : Int32) (h : g_law_69 k69 n v0 v1 v5 v6 v7 s0 = some r) : WLAW l Z n0 (PLAW r) 11 2102 69 (.val (.int v0) :: .val (.int v1) :: .unset :: .unset :: .val (.ref 0) :: .val (.int v5) :: .val (.int v6) :: .val (.int v7) :: .unset :: .unset :: .unset :: .unset :: .unset :: .unset :: .unset :: .unset :: .unset :: .unset :: .unset :: .unset :: .unset :: .unset :: .unset :: .unset :: .unset :: []) [] (Hb 0 s0) := by
  unfold g_law_69 at h
  refine WP.iload at_69 rfl ?_
  refine WP.bipush (8 : Int32) at_71 rfl ?_
  rcases ite_e h with ⟨hc1, h⟩ | ⟨hc1, h⟩
  ·
    refine WP.icmpN at_73 (XT.ii_ge_f hc1) ?_
    refine WP.iload at_76 rfl ?_
    refine WP.iload at_78 rfl ?_
    rcases ite_e h with ⟨hc2, h⟩ | ⟨hc2, h⟩
    ·
      refine WP.icmpN at_80 (XT.ii_ge_f hc2) ?_
      refine WP.aload at_83 rfl ?_
      refine WP.iload at_85 rfl ?_
      refine WP.iconst (1 : Int32) at_87 rfl ?_
      refine WP.iadd at_88 ?_
      refine WP.iload at_89 rfl ?_
      refine WP.iadd at_91 ?_
      refine WP.bipush (98 : Int32) at_92 rfl ?_
      obtain ⟨c3, hc3, h⟩ := Option.bind_eq_some_iff.mp h
      refine WP.callV (i := 0) (y := y3) (as := [.int ((v5 + (1 : Int32)) + v7), .int (98 : Int32)]) (S := []) at_94 (hw _ m_46) (hw _ m_47) (hw _ m_49) (hw _ m_48) (hw _ m_50) (hw _ m_2) hy3 rfl (ok3 l Z a0 hw n ((v5 + (1 : Int32)) + v7) (98 : Int32) s0 _ hc3) rfl (lenOf pd3 rfl) (leb rfl) (leb rfl) (leb rfl) (leb rfl) ?_
      rintro _ _ ⟨rfl, rfl⟩
      show WLAW l Z n0 (PLAW r) 11 2102 97 (.val (.int v0) :: .val (.int v1) :: .unset :: .unset :: .val (.ref 0) :: .val (.int v5) :: .val (.int v6) :: .val (.int v7) :: .unset :: .unset :: .unset :: .unset :: .unset :: .unset :: .unset :: .unset :: .unset :: .unset :: .unset :: .unset :: .unset :: .unset :: .unset :: .unset :: .unset :: []) [.int c3.1] (Hb 0 c3.2)
      refine WP.pop at_97 rfl ?_
      exact WP.weak (L' := (.val (.int v0) :: .val (.int v1) :: .unset :: .unset :: .val (.ref 0) :: .val (.int v5) :: .val (.int v6) :: .val (.int v7) :: .unset :: .unset :: .unset :: .unset :: .unset :: .unset :: .unset :: .unset :: .unset :: .unset :: .unset :: .unset :: .unset :: .unset :: .unset :: .unset :: .unset :: [])) ⟨rfl, rfl, rfl, rfl, rfl, rfl, trivial⟩ (okLAW_98 l Z a0 hw n0 _ hk69 n v0 v1 v5 v6 v7 c3.2 _ h)
    ·
      refine WP.icmpY (pc' := 98) at_80 (XT.ii_ge_t hc2) (by decide) rfl ?_
      exact WP.weak (L' := (.val (.int v0) :: .val (.int v1) :: .unset :: .unset :: .val (.ref 0) :: .val (.int v5) :: .val (.int v6) :: .val (.int v7) :: .unset :: .unset :: .unset :: .unset :: .unset :: .unset :: .unset :: .unset :: .unset :: .unset :: .unset :: .unset :: .unset :: .unset :: .unset :: .unset :: .unset :: [])) ⟨rfl, rfl, rfl, rfl, rfl, rfl, trivial⟩ (okLAW_98 l Z a0 hw n0 _ hk69 n v0 v1 v5 v6 v7 s0 _ h)
  ·
    refine WP.icmpY (pc' := 104) at_73 (XT.ii_ge_t hc1) (by decide) rfl ?_
    refine WP.iloadN at_104 rfl ?_
    refine WP.iconst (1 : Int32) at_105 rfl ?_
    rcases ite_e h with ⟨hc4, h⟩ | ⟨hc4, h⟩
    ·
      refine WP.icmpN at_106 (XT.ii_ge_f hc4) ?_
      refine WP.iconst (1 : Int32) at_109 rfl ?_
      refine WP.goto (pc' := 125) at_110 (by decide) rfl ?_
      exact WP.weak (L' := (.unset :: .val (.int v1) :: .unset :: .unset :: .val (.ref 0) :: .val (.int v5) :: .val (.int v6) :: .unset :: .unset :: .unset :: .unset :: .unset :: .unset :: .unset :: .unset :: .unset :: .unset :: .unset :: .unset :: .unset :: .unset :: .unset :: .unset :: .unset :: .unset :: [])) ⟨rfl, rfl, rfl, rfl, trivial⟩ (okLAW_125 l Z a0 hw n0 n v1 v5 v6 (1 : Int32) s0 _ h)
    ·
      refine WP.icmpY (pc' := 113) at_106 (XT.ii_ge_t hc4) (by decide) rfl ?_
      refine WP.iloadN at_113 rfl ?_
      refine WP.bipush (8 : Int32) at_114 rfl ?_
      rcases ite_e h with ⟨hc5, h⟩ | ⟨hc5, h⟩
      ·
        refine WP.icmpN at_116 (XT.ii_le_f hc5) ?_
        refine WP.bipush (8 : Int32) at_119 rfl ?_
        refine WP.goto (pc' := 125) at_121 (by decide) rfl ?_
        exact WP.weak (L' := (.unset :: .val (.int v1) :: .unset :: .unset :: .val (.ref 0) :: .val (.int v5) :: .val (.int v6) :: .unset :: .unset :: .unset :: .unset :: .unset :: .unset :: .unset :: .unset :: .unset :: .unset :: .unset :: .unset :: .unset :: .unset :: .unset :: .unset :: .unset :: .unset :: [])) ⟨rfl, rfl, rfl, rfl, trivial⟩ (okLAW_125 l Z a0 hw n0 n v1 v5 v6 (8 : Int32) s0 _ h)
      ·
        refine WP.icmpY (pc' := 124) at_116 (XT.ii_le_t hc5) (by decide) rfl ?_
        refine WP.iloadN at_124 rfl ?_
        exact WP.weak (L' := (.unset :: .val (.int v1) :: .unset :: .unset :: .val (.ref 0) :: .val (.int v5) :: .val (.int v6) :: .unset :: .unset :: .unset :: .unset :: .unset :: .unset :: .unset :: .unset :: .unset :: .unset :: .unset :: .unset :: .unset :: .unset :: .unset :: .unset :: .unset :: .unset :: [])) ⟨rfl, rfl, rfl, rfl, trivial⟩ (okLAW_125 l Z a0 hw n0 n v1 v5 v6 v0 s0 _ h)
def f_law_69 : Nat → Int32 → Int32 → Int32 → Int32 → Int32 → St → Option (Int32)
  | 0 => fun _ _ _ _ _ _ => none
  | n + 1 => g_law_69 (f_law_69 n) n
theorem okLAW_69 (l : Launch) (Z : State) (a0 : Array Value) (hw : HW a0 Z) (n0 : Nat) : ∀ (n : Nat) (v0 : Int32) (v1 : Int32) (v5 : Int32) (v6 : Int32) (v7 : Int32) (s0 : St) (r : Int32), f_law_69 n v0 v1 v5 v6 v7 s0 = some r → WLAW l Z n0 (PLAW r) 11 2102 69 (.val (.int v0) :: .val (.int v1) :: .unset :: .unset :: .val (.ref 0) :: .val (.int v5) :: .val (.int v6) :: .val (.int v7) :: .unset :: .unset :: .unset :: .unset :: .unset :: .unset :: .unset :: .unset :: .unset :: .unset :: .unset :: .unset :: .unset :: .unset :: .unset :: .unset :: .unset :: []) [] (Hb 0 s0)
  | 0, v0, v1, v5, v6, v7, s0, r, h => nomatch (show none = some r from h)
  | n + 1, v0, v1, v5, v6, v7, s0, r, h => okgLAW_69 l Z a0 hw n0 _ (okLAW_69 l Z a0 hw n0 n) n v0 v1 v5 v6 v7 s0 r h
def g_law_26 (k26 : Int32 → Int32 → Int32 → Int32 → Int32 → St → Option (Int32)) (n : Nat) (v0 : Int32) (v1 : Int32) (v5 : Int32) (v6 : Int32) (v7 : Int32) (s0 : St) : Option (Int32) :=
  if v7 < (8 : Int32) then
    if v7 < v5 then
      (f_insert n v7 (97 : Int32) s0).bind fun c3 =>
      f_law_50 k26 n v0 v1 v5 v6 v7 c3.2
    else
      f_law_50 k26 n v0 v1 v5 v6 v7 s0
  else
    (f_insert n v5 (9 : Int32) s0).bind fun c4 =>
    f_law_69 n v0 v1 v5 v6 (0 : Int32) c4.2
set_option maxRecDepth 65536 in
set_option maxHeartbeats 4000000 in
theorem okgLAW_26 (l : Launch) (Z : State) (a0 : Array Value) (hw : HW a0 Z) (n0 : Nat) (k26 : Int32 → Int32 → Int32 → Int32 → Int32 → St → Option (Int32)) (hk26 : ∀ (v0 : Int32) (v1 : Int32) (v5 : Int32) (v6 : Int32) (v7 : Int32) (s0 : St) (r : Int32), k26 v0 v1 v5 v6 v7 s0 = some r → WLAW l Z n0 (PLAW r) 11 2102 26 (.val (.int v0) :: .val (.int v1) :: .unset :: .unset :: .val (.ref 0) :: .val (.int v5) :: .val (.int v6) :: .val (.int v7) :: .unset :: .unset :: .unset :: .unset :: .unset :: .unset :: .unset :: .unset :: .unset :: .unset :: .unset :: .unset :: .unset :: .unset :: .unset :: .unset :: .unset :: []) [] (Hb 0 s0)) (n : Nat) (v0 : Int32) (v1 : Int32) (v5 : Int32) (v6 : Int32) (v7 : Int32) (s0 : St) (r : Int32) (h : g_law_26 k26 n v0 v1 v5 v6 v7 s0 = some r) : WLAW l Z n0 (PLAW r) 11 2102 26 (.val (.int v0) :: .val (.int v1) :: .unset :: .unset :: .val (.ref 0) :: .val (.int v5) :: .val (.int v6) :: .val (.int v7) :: .unset :: .unset :: .unset :: .unset :: .unset :: .unset :: .unset :: .unset :: .unset :: .unset :: .unset :: .unset :: .unset :: .unset :: .unset :: .unset :: .unset :: []) [] (Hb 0 s0) := by
  unfold g_law_26 at h
  refine WP.iload at_26 rfl ?_
  refine WP.bipush (8 : Int32) at_28 rfl ?_
  rcases ite_e h with ⟨hc1, h⟩ | ⟨hc1, h⟩
  ·
    refine WP.icmpN at_30 (XT.ii_ge_f hc1) ?_
    refine WP.iload at_33 rfl ?_
    refine WP.iload at_35 rfl ?_
    rcases ite_e h with ⟨hc2, h⟩ | ⟨hc2, h⟩
    ·
      refine WP.icmpN at_37 (XT.ii_ge_f hc2) ?_
      refine WP.aload at_40 rfl ?_
      refine WP.iload at_42 rfl ?_
      refine WP.bipush (97 : Int32) at_44 rfl ?_
      obtain ⟨c3, hc3, h⟩ := Option.bind_eq_some_iff.mp h
      refine WP.callV (i := 0) (y := y3) (as := [.int v7, .int (97 : Int32)]) (S := []) at_46 (hw _ m_46) (hw _ m_47) (hw _ m_49) (hw _ m_48) (hw _ m_50) (hw _ m_2) hy3 rfl (ok3 l Z a0 hw n v7 (97 : Int32) s0 _ hc3) rfl (lenOf pd3 rfl) (leb rfl) (leb rfl) (leb rfl) (leb rfl) ?_
      rintro _ _ ⟨rfl, rfl⟩
      show WLAW l Z n0 (PLAW r) 11 2102 49 (.val (.int v0) :: .val (.int v1) :: .unset :: .unset :: .val (.ref 0) :: .val (.int v5) :: .val (.int v6) :: .val (.int v7) :: .unset :: .unset :: .unset :: .unset :: .unset :: .unset :: .unset :: .unset :: .unset :: .unset :: .unset :: .unset :: .unset :: .unset :: .unset :: .unset :: .unset :: []) [.int c3.1] (Hb 0 c3.2)
      refine WP.pop at_49 rfl ?_
      exact WP.weak (L' := (.val (.int v0) :: .val (.int v1) :: .unset :: .unset :: .val (.ref 0) :: .val (.int v5) :: .val (.int v6) :: .val (.int v7) :: .unset :: .unset :: .unset :: .unset :: .unset :: .unset :: .unset :: .unset :: .unset :: .unset :: .unset :: .unset :: .unset :: .unset :: .unset :: .unset :: .unset :: [])) ⟨rfl, rfl, rfl, rfl, rfl, rfl, trivial⟩ (okLAW_50 l Z a0 hw n0 _ hk26 n v0 v1 v5 v6 v7 c3.2 _ h)
    ·
      refine WP.icmpY (pc' := 50) at_37 (XT.ii_ge_t hc2) (by decide) rfl ?_
      exact WP.weak (L' := (.val (.int v0) :: .val (.int v1) :: .unset :: .unset :: .val (.ref 0) :: .val (.int v5) :: .val (.int v6) :: .val (.int v7) :: .unset :: .unset :: .unset :: .unset :: .unset :: .unset :: .unset :: .unset :: .unset :: .unset :: .unset :: .unset :: .unset :: .unset :: .unset :: .unset :: .unset :: [])) ⟨rfl, rfl, rfl, rfl, rfl, rfl, trivial⟩ (okLAW_50 l Z a0 hw n0 _ hk26 n v0 v1 v5 v6 v7 s0 _ h)
  ·
    refine WP.icmpY (pc' := 56) at_30 (XT.ii_ge_t hc1) (by decide) rfl ?_
    refine WP.aload at_56 rfl ?_
    refine WP.iload at_58 rfl ?_
    refine WP.bipush (9 : Int32) at_60 rfl ?_
    obtain ⟨c4, hc4, h⟩ := Option.bind_eq_some_iff.mp h
    refine WP.callV (i := 0) (y := y3) (as := [.int v5, .int (9 : Int32)]) (S := []) at_62 (hw _ m_46) (hw _ m_47) (hw _ m_49) (hw _ m_48) (hw _ m_50) (hw _ m_2) hy3 rfl (ok3 l Z a0 hw n v5 (9 : Int32) s0 _ hc4) rfl (lenOf pd3 rfl) (leb rfl) (leb rfl) (leb rfl) (leb rfl) ?_
    rintro _ _ ⟨rfl, rfl⟩
    show WLAW l Z n0 (PLAW r) 11 2102 65 (.val (.int v0) :: .val (.int v1) :: .unset :: .unset :: .val (.ref 0) :: .val (.int v5) :: .val (.int v6) :: .val (.int v7) :: .unset :: .unset :: .unset :: .unset :: .unset :: .unset :: .unset :: .unset :: .unset :: .unset :: .unset :: .unset :: .unset :: .unset :: .unset :: .unset :: .unset :: []) [.int c4.1] (Hb 0 c4.2)
    refine WP.pop at_65 rfl ?_
    refine WP.iconst (0 : Int32) at_66 rfl ?_
    refine WP.istore (L' := (.val (.int v0) :: .val (.int v1) :: .unset :: .unset :: .val (.ref 0) :: .val (.int v5) :: .val (.int v6) :: .val (.int (0 : Int32)) :: .unset :: .unset :: .unset :: .unset :: .unset :: .unset :: .unset :: .unset :: .unset :: .unset :: .unset :: .unset :: .unset :: .unset :: .unset :: .unset :: .unset :: [])) at_67 (leb rfl) rfl ?_
    exact WP.weak (L' := (.val (.int v0) :: .val (.int v1) :: .unset :: .unset :: .val (.ref 0) :: .val (.int v5) :: .val (.int v6) :: .val (.int (0 : Int32)) :: .unset :: .unset :: .unset :: .unset :: .unset :: .unset :: .unset :: .unset :: .unset :: .unset :: .unset :: .unset :: .unset :: .unset :: .unset :: .unset :: .unset :: [])) ⟨rfl, rfl, rfl, rfl, rfl, rfl, trivial⟩ (okLAW_69 l Z a0 hw n0 n v0 v1 v5 v6 (0 : Int32) c4.2 _ h)
def f_law_26 : Nat → Int32 → Int32 → Int32 → Int32 → Int32 → St → Option (Int32)
  | 0 => fun _ _ _ _ _ _ => none
  | n + 1 => g_law_26 (f_law_26 n) n
theorem okLAW_26 (l : Launch) (Z : State) (a0 : Array Value) (hw : HW a0 Z) (n0 : Nat) : ∀ (n : Nat) (v0 : Int32) (v1 : Int32) (v5 : Int32) (v6 : Int32) (v7 : Int32) (s0 : St) (r : Int32), f_law_26 n v0 v1 v5 v6 v7 s0 = some r → WLAW l Z n0 (PLAW r) 11 2102 26 (.val (.int v0) :: .val (.int v1) :: .unset :: .unset :: .val (.ref 0) :: .val (.int v5) :: .val (.int v6) :: .val (.int v7) :: .unset :: .unset :: .unset :: .unset :: .unset :: .unset :: .unset :: .unset :: .unset :: .unset :: .unset :: .unset :: .unset :: .unset :: .unset :: .unset :: .unset :: []) [] (Hb 0 s0)
  | 0, v0, v1, v5, v6, v7, s0, r, h => nomatch (show none = some r from h)
  | n + 1, v0, v1, v5, v6, v7, s0, r, h => okgLAW_26 l Z a0 hw n0 _ (okLAW_26 l Z a0 hw n0 n) n v0 v1 v5 v6 v7 s0 r h
def f_law (n : Nat) (p0 : Int32) (p1 : Int32) (p2 : Int32) (p3 : Int32) : Option (Int32) :=
  (f_init p0 p1).bind fun c1 =>
  lt (p2 &&& (7 : Int32)) fun x2 =>
  lt (p3 &&& (7 : Int32)) fun x3 =>
  f_law_26 n p0 p1 x2 x3 (0 : Int32) c1
set_option maxRecDepth 65536 in
set_option maxHeartbeats 4000000 in
theorem okLAW (l : Launch) (Z : State) (a0 : Array Value) (hw : HW a0 Z) (n : Nat) (p0 : Int32) (p1 : Int32) (p2 : Int32) (p3 : Int32) (r : Int32) (h : f_law n p0 p1 p2 p3 = some r) : CS l Z CN lay x code maxLocals ret room_1 0 [.int p0, .int p1, .int p2, .int p3] ([] : List OwnC) (PLAW r) := by
  refine CS.of_wp pn_law (leb rfl) fun n0 => ?_
  show WLAW l Z n0 (PLAW r) 0 0 0 (.val (.int p0) :: .val (.int p1) :: .val (.int p2) :: .val (.int p3) :: .unset :: .unset :: .unset :: .unset :: .unset :: .unset :: .unset :: .unset :: .unset :: .unset :: .unset :: .unset :: .unset :: .unset :: .unset :: .unset :: .unset :: .unset :: .unset :: .unset :: .unset :: []) [] ([] : List OwnC)
  unfold f_law at h
  refine WP.new (vs := vs0) at_0 (hw _ m_0) (hw _ m_1) (hw _ m_2) (leb rfl) (leb rfl) (vs0_ok hw) ?_
  show WLAW l Z n0 (PLAW r) 1 22 3 (.val (.int p0) :: .val (.int p1) :: .val (.int p2) :: .val (.int p3) :: .unset :: .unset :: .unset :: .unset :: .unset :: .unset :: .unset :: .unset :: .unset :: .unset :: .unset :: .unset :: .unset :: .unset :: .unset :: .unset :: .unset :: .unset :: .unset :: .unset :: .unset :: []) [.ref 0] ([cO vs0])
  refine WP.dup at_3 rfl ?_
  refine WP.iloadN at_4 rfl ?_
  refine WP.iloadN at_5 rfl ?_
  obtain ⟨c1, hc1, h⟩ := Option.bind_eq_some_iff.mp h
  refine WP.callI (i := 0) (y := y0) (as := [.int p0, .int p1]) (S := [.ref 0]) at_6 rfl (hw _ m_3) (hw _ m_4) (hw _ m_5) (hw _ m_2) hy0 (ok0 l Z a0 hw p0 p1 _ hc1) rfl (lenOf pd0 rfl) (leb rfl) (leb rfl) (leb rfl) (leb rfl) ?_
  rintro _ _ ⟨rfl, rfl⟩
  show WLAW l Z n0 (PLAW r) 11 2102 9 (.val (.int p0) :: .val (.int p1) :: .val (.int p2) :: .val (.int p3) :: .unset :: .unset :: .unset :: .unset :: .unset :: .unset :: .unset :: .unset :: .unset :: .unset :: .unset :: .unset :: .unset :: .unset :: .unset :: .unset :: .unset :: .unset :: .unset :: .unset :: .unset :: []) [.ref 0] (Hb 0 c1)
  refine WP.astore (L' := (.val (.int p0) :: .val (.int p1) :: .val (.int p2) :: .val (.int p3) :: .val (.ref 0) :: .unset :: .unset :: .unset :: .unset :: .unset :: .unset :: .unset :: .unset :: .unset :: .unset :: .unset :: .unset :: .unset :: .unset :: .unset :: .unset :: .unset :: .unset :: .unset :: .unset :: [])) at_9 (leb rfl) rfl ?_
  refine WP.iloadN at_11 rfl ?_
  refine WP.bipush (7 : Int32) at_12 rfl ?_
  refine WP.iand at_14 ?_
  obtain ⟨x2, ex2, h⟩ := lt_e h
  refine WP.istore (L' := (.val (.int p0) :: .val (.int p1) :: .val (.int p2) :: .val (.int p3) :: .val (.ref 0) :: .val (.int x2) :: .unset :: .unset :: .unset :: .unset :: .unset :: .unset :: .unset :: .unset :: .unset :: .unset :: .unset :: .unset :: .unset :: .unset :: .unset :: .unset :: .unset :: .unset :: .unset :: [])) at_15 (leb rfl) (by subst ex2; rfl) ?_
  refine WP.iloadN at_17 rfl ?_
  refine WP.bipush (7 : Int32) at_18 rfl ?_
  refine WP.iand at_20 ?_
  obtain ⟨x3, ex3, h⟩ := lt_e h
  refine WP.istore (L' := (.val (.int p0) :: .val (.int p1) :: .val (.int p2) :: .val (.int p3) :: .val (.ref 0) :: .val (.int x2) :: .val (.int x3) :: .unset :: .unset :: .unset :: .unset :: .unset :: .unset :: .unset :: .unset :: .unset :: .unset :: .unset :: .unset :: .unset :: .unset :: .unset :: .unset :: .unset :: .unset :: [])) at_21 (leb rfl) (by subst ex3; rfl) ?_
  refine WP.iconst (0 : Int32) at_23 rfl ?_
  refine WP.istore (L' := (.val (.int p0) :: .val (.int p1) :: .val (.int p2) :: .val (.int p3) :: .val (.ref 0) :: .val (.int x2) :: .val (.int x3) :: .val (.int (0 : Int32)) :: .unset :: .unset :: .unset :: .unset :: .unset :: .unset :: .unset :: .unset :: .unset :: .unset :: .unset :: .unset :: .unset :: .unset :: .unset :: .unset :: .unset :: [])) at_24 (leb rfl) rfl ?_
  exact WP.weak (L' := (.val (.int p0) :: .val (.int p1) :: .unset :: .unset :: .val (.ref 0) :: .val (.int x2) :: .val (.int x3) :: .val (.int (0 : Int32)) :: .unset :: .unset :: .unset :: .unset :: .unset :: .unset :: .unset :: .unset :: .unset :: .unset :: .unset :: .unset :: .unset :: .unset :: .unset :: .unset :: .unset :: [])) ⟨rfl, rfl, rfl, rfl, rfl, rfl, trivial⟩ (okLAW_26 l Z a0 hw n0 n p0 p1 x2 x3 (0 : Int32) c1 _ h)
/-! a call that comes to an end, and what it leaves -/
def own_Ok {α : Type} (f : Nat → Option α) (P : α → Prop) : Prop := ∃ r, Ev f r ∧ P r
theorem own_Ok.step {α : Type} {f g : Nat → Option α} {P : α → Prop} (e : ∀ n, f (n + 1) = g n) (h : own_Ok g P) : own_Ok f P := by
  obtain ⟨r, h1, h2⟩ := h
  exact ⟨r, Ev.step e h1, h2⟩
theorem own_Ok.congr {α : Type} {f g : Nat → Option α} {P : α → Prop} (e : ∀ n, f n = g n) (h : own_Ok g P) : own_Ok f P := by
  obtain ⟨r, h1, h2⟩ := h
  exact ⟨r, Ev.congr e h1, h2⟩
theorem own_Ok.ret {α : Type} {r : α} {P : α → Prop} (h : P r) : own_Ok (fun _ => some r) P := ⟨r, Ev.const rfl, h⟩
theorem own_Ok.mono {α : Type} {f : Nat → Option α} {P Q : α → Prop} (h : own_Ok f P) (k : ∀ r, P r → Q r) : own_Ok f Q := by
  obtain ⟨r, h1, h2⟩ := h
  exact ⟨r, h1, k r h2⟩
theorem own_Ok.bind {α β : Type} {f : Nat → Option β} {g : Nat → β → Option α} {Q : β → Prop} {P : α → Prop} (h : own_Ok f Q) (k : ∀ c, Q c → own_Ok (fun n => g n c) P) : own_Ok (fun n => (f n).bind (g n)) P := by
  obtain ⟨c, h1, h2⟩ := h
  obtain ⟨r, k1, k2⟩ := k c h2
  exact ⟨r, Ev.bind h1 k1, k2⟩
theorem own_Ok.ite {α : Type} {c : Prop} [Decidable c] {f g : Nat → Option α} {P : α → Prop} (h : c → own_Ok f P) (k : ¬ c → own_Ok g P) : own_Ok (fun n => if c then f n else g n) P := by
  by_cases q : c
  · exact own_Ok.congr (fun n => if_pos q) (h q)
  · exact own_Ok.congr (fun n => if_neg q) (k q)
theorem own_Ok.some_bind {α β : Type} {x : β} {g : Nat → β → Option α} {P : α → Prop} (h : own_Ok (fun n => g n x) P) : own_Ok (fun n => (some x).bind (g n)) P := own_Ok.congr (fun _ => rfl) h

/-! steps of a walk over an open state -/
theorem own_bex {α β : Type} {o : Option α} {g : α → Option β} {b : β} (h : o.bind g = some b) : ∃ c, o = some c ∧ g c = some b := by
  cases o with
  | none => cases h
  | some c => exact ⟨c, rfl, h⟩
theorem own_sa {β : Type} {t : St} {f : Nat} {i : Int32} {k : Nat} {x : Int32} {G : St → Option β} {r : Option β} (hi : i.toInt = k) (h : k < (gA t f).length) (e : G (sA t f ((gA t f).set k x)) = r) : (wrA t f i x).bind G = r := by
  rw [wrA_of x hi h]; exact e
theorem own_sb {β : Type} {t : St} {f : Nat} {i : Int32} {k : Nat} {x : Int64} {G : St → Option β} {r : Option β} (hi : i.toInt = k) (h : k < (gB t f).length) (e : G (sB t f ((gB t f).set k x)) = r) : (wrB t f i x).bind G = r := by
  rw [wrB_of x hi h]; exact e
theorem own_rr {α β : Type} {xs : List α} {i : Int32} {k : Nat} {x : α} {G : α → Option β} {r : Option β} (hi : i.toInt = k) (h : xs[k]? = some x) (e : G x = r) : (rd xs i).bind G = r := by
  rw [rd_of hi h]; exact e
theorem own_bs {α β : Type} {o : Option α} {x : α} {G : α → Option β} {r : Option β} (h : o = some x) (e : G x = r) : o.bind G = r := by
  rw [h]; exact e

/-! the map, without folds -/
theorem own_ltN {i m : Nat} (hi : i ≤ 3000) (hm : m ≤ 3000) : Int32.ofNat i < Int32.ofNat m ↔ i < m := ofN_lt (by omega) (by omega)
theorem own_Ok.let {α β : Type} {x : β} {F : Nat → β → Option α} {P : α → Prop} (h : own_Ok (fun n => F n x) P) : own_Ok (fun n => lt x (F n)) P := h
theorem own_Ok.rdv {α : Type} {xs : List Int32} {k : Nat} {x : Int32} {G : Nat → Int32 → Option α} {P : α → Prop} (hk : k < 3000) (hx : xs[k]? = some x) (h : own_Ok (fun n => G n x) P) : own_Ok (fun n => (Jvm.Own.rd xs (Int32.ofNat k)).bind (G n)) P := own_Ok.congr (fun n => by rw [rd_at (by omega) hx]; rfl) h
theorem own_evO {α β : Type} {f : Nat → Option β} {c : β} (e : ∀ n, f n = some c) {G : Nat → β → Option α} {P : α → Prop} (h : own_Ok (fun n => G n c) P) : own_Ok (fun n => (f n).bind (G n)) P :=
  own_Ok.congr (fun n => by rw [e n]; rfl) h
def own_ln (j : Nat) : Nat := if j = 0 then 256 else if j < 3 then 8 else if j < 6 then 256 else 260
def own_L (s : St) : Prop := ∀ j, j < 10 → (gA s j).length = own_ln j
theorem own_L.wr {s : St} (h : own_L s) (j k : Nat) (x : Int32) : own_L (sA s j ((gA s j).set k x)) := fun i hi => by
  rw [gA_sA]
  by_cases c : i = j
  · subst c; rw [if_pos rfl, List.length_set]; exact h i hi
  · rw [if_neg c]; exact h i hi
theorem own_L.sI {s : St} (h : own_L s) (j : Nat) (x : Int32) : own_L (sI s j x) := h
def own_El (s : St) (k tw i : Nat) : Prop := ∀ j, j < i → (gA s 3)[j]? = some (Int32.ofNat j) ∧ (gA s 4)[j]? = some (Int32.ofNat (j + 1)) ∧ (gA s 5)[j]? = some (Int32.ofNat (if j = k then tw else 1))
def own_Rw (s : St) (R : List (Nat × Nat × Nat)) : Prop := ∀ (j : Nat) (r : Nat × Nat × Nat), R[j]? = some r → (gA s 6)[j]? = some (Int32.ofNat r.1) ∧ (gA s 7)[j]? = some (Int32.ofNat r.2.1) ∧ (gA s 8)[j]? = some (Int32.ofNat r.1) ∧ (gA s 9)[j]? = some (Int32.ofNat r.2.2)
def own_Lo (s0 s : St) (k tw i st wd cnt lc : Nat) (R : List (Nat × Nat × Nat)) : Prop :=
  own_L s ∧ gA s 0 = gA s0 0 ∧ (∀ j, j < 5 → gI s j = gI s0 j) ∧ gI s 5 = Int32.ofNat i ∧ gI s 6 = Int32.ofNat R.length ∧ gI s 7 = Int32.ofNat st ∧ gI s 8 = Int32.ofNat wd ∧ gI s 9 = Int32.ofNat st ∧ gI s 10 = Int32.ofNat cnt ∧ gI s 11 = Int32.ofNat lc ∧ own_El s k tw i ∧ own_Rw s R
theorem own_cl {s0 s : St} {k tw i st wd cnt lc : Nat} {R : List (Nat × Nat × Nat)} (h : own_Lo s0 s k tw i st wd cnt lc R) (hR : R.length < 100) : ∃ s', f_closeRow s = some s' ∧ own_Lo s0 s' k tw i st wd cnt lc (R ++ [(st, wd, cnt)]) := by
  obtain ⟨hL, h0, h4, h5, h6, h7, h8, h9, h10, h11, hE, hR'⟩ := h
  have l6 : (gA s 6).length = 260 := hL 6 (by decide)
  have l7 : (gA s 7).length = 260 := hL 7 (by decide)
  have l8 : (gA s 8).length = 260 := hL 8 (by decide)
  have l9 : (gA s 9).length = 260 := hL 9 (by decide)
  have n6 : (gI s 6).toInt = (R.length : Int) := by rw [h6]; exact ofN_int (by omega)
  refine ⟨sI (sA (sA (sA (sA s 6 ((gA s 6).set R.length (gI s 7))) 7 ((gA s 7).set R.length (gI s 8))) 8 ((gA s 8).set R.length (gI s 9))) 9 ((gA s 9).set R.length (gI s 10))) 6 (gI s 6 + 1), ?_, ?_⟩
  · unfold f_closeRow f_closeRow_72
    rw [if_pos (by rw [h6]; exact (ofN_ltL (m := 260) (by omega) (by decide)).mpr (by omega))]
    refine own_sa (k := R.length) n6 (by omega) ?_
    refine own_sa (k := R.length) n6 (show R.length < (gA s 7).length by omega) ?_
    refine own_sa (k := R.length) n6 (show R.length < (gA s 8).length by omega) ?_
    refine own_sa (k := R.length) n6 (show R.length < (gA s 9).length by omega) ?_
    rfl
  · refine ⟨(((hL.wr 6 _ _).wr 7 _ _).wr 8 _ _).wr 9 _ _, h0, fun j hj => ?_, h5, ?_, h7, h8, h9, h10, h11, hE, fun j r hr => ?_⟩
    · rw [gI_sI, if_neg (by omega)]; exact h4 j hj
    · show gI s 6 + 1 = _
      rw [h6, ofN_succ, List.length_append]; rfl
    · show ((gA s 6).set R.length _)[j]? = _ ∧ ((gA s 7).set R.length _)[j]? = _ ∧ ((gA s 8).set R.length _)[j]? = _ ∧ ((gA s 9).set R.length _)[j]? = _
      by_cases z : j = R.length
      · subst z
        rw [List.getElem?_concat_length] at hr
        obtain rfl := Option.some.inj hr
        rw [get_set_self _ (by omega), get_set_self _ (by omega), get_set_self _ (by omega), get_set_self _ (by omega), h7, h8, h9, h10]
        exact ⟨rfl, rfl, rfl, rfl⟩
      · have lj : j < R.length := by
          obtain ⟨q, -⟩ := List.getElem?_eq_some_iff.mp hr
          rw [List.length_append] at q
          have : [(st, wd, cnt)].length = 1 := rfl
          omega
        rw [List.getElem?_append_left lj] at hr
        rw [get_set_ne _ (Ne.symm z), get_set_ne _ (Ne.symm z), get_set_ne _ (Ne.symm z), get_set_ne _ (Ne.symm z)]
        exact hR' j r hr
theorem own_op {s0 s : St} {k tw i st wd cnt lc : Nat} {R : List (Nat × Nat × Nat)} (h : own_Lo s0 s k tw i st wd cnt lc R) : ∃ s', f_openRow (Int32.ofNat i) s = some s' ∧ own_Lo s0 s' k tw i i 0 0 lc R := by
  obtain ⟨hL, h0, h4, h5, h6, h7, h8, h9, h10, h11, hE, hR'⟩ := h
  refine ⟨sI (sI (sI (sI s 7 (Int32.ofNat i)) 8 0) 9 (gI s 5)) 10 0, rfl, hL, h0, fun j hj => ?_, h5, h6, rfl, rfl, h5, rfl, h11, hE, hR'⟩
  rw [gI_sI, if_neg (by omega), gI_sI, if_neg (by omega), gI_sI, if_neg (by omega), gI_sI, if_neg (by omega)]; exact h4 j hj
/-- an element in the row -/
theorem own_a29 {s0 s : St} {k tw i st wd cnt lc : Nat} {R : List (Nat × Nat × Nat)} (h : own_Lo s0 s k tw i st wd cnt lc R) (hi : i < 200) (w : Nat) (hw : w = if i = k then tw else 1) : ∃ s', f_addElement_29 (Int32.ofNat i) (Int32.ofNat (i + 1)) (Int32.ofNat w) s = some s' ∧ own_Lo s0 s' k tw (i + 1) st (wd + w) (cnt + 1) (lc + w) R := by
  obtain ⟨hL, h0, h4, h5, h6, h7, h8, h9, h10, h11, hE, hR'⟩ := h
  have l3 : (gA s 3).length = 256 := hL 3 (by decide)
  have l4 : (gA s 4).length = 256 := hL 4 (by decide)
  have l5 : (gA s 5).length = 256 := hL 5 (by decide)
  have n5 : (gI s 5).toInt = (i : Int) := by rw [h5]; exact ofN_int (by omega)
  refine ⟨sI (sI (sI (sI (sA (sA (sA s 3 ((gA s 3).set i (Int32.ofNat i))) 4 ((gA s 4).set i (Int32.ofNat (i + 1)))) 5 ((gA s 5).set i (Int32.ofNat w))) 5 (gI s 5 + 1)) 10 (gI s 10 + 1)) 8 (gI s 8 + Int32.ofNat w)) 11 (gI s 11 + Int32.ofNat w), ?_, ?_⟩
  · unfold f_addElement_29 f_addElement_89
    rw [if_pos (by rw [h5]; exact (ofN_ltL (m := 256) (by omega) (by decide)).mpr (by omega))]
    refine own_sa (k := i) n5 (by omega) ?_
    refine own_sa (k := i) n5 (show i < (gA s 4).length by omega) ?_
    refine own_sa (k := i) n5 (show i < (gA s 5).length by omega) ?_
    rfl
  · refine ⟨((hL.wr 3 _ _).wr 4 _ _).wr 5 _ _, h0, fun j hj => ?_, ?_, h6, h7, ?_, h9, ?_, ?_, fun j hj => ?_, hR'⟩
    · rw [gI_sI, if_neg (by omega), gI_sI, if_neg (by omega), gI_sI, if_neg (by omega), gI_sI, if_neg (by omega)]; exact h4 j hj
    · show gI s 5 + 1 = _
      rw [h5, ofN_succ]
    · show gI s 8 + Int32.ofNat w = _
      rw [h8, ← Int32.ofNat_add]
    · show gI s 10 + 1 = _
      rw [h10, ofN_succ]
    · show gI s 11 + Int32.ofNat w = _
      rw [h11, ← Int32.ofNat_add]
    · show ((gA s 3).set i _)[j]? = _ ∧ ((gA s 4).set i _)[j]? = _ ∧ ((gA s 5).set i _)[j]? = _
      by_cases z : j = i
      · subst z
        rw [get_set_self _ (by omega), get_set_self _ (by omega), get_set_self _ (by omega), hw]
        exact ⟨rfl, rfl, rfl⟩
      · rw [get_set_ne _ (Ne.symm z), get_set_ne _ (Ne.symm z), get_set_ne _ (Ne.symm z)]
        exact hE j (by omega)
/-- an element that stays in the row -/
theorem own_addS {s0 s : St} {k tw i st wd cnt lc wrap : Nat} {R : List (Nat × Nat × Nat)} (h : own_Lo s0 s k tw i st wd cnt lc R) (hi : i < 200) (w : Nat) (hw : w = if i = k then tw else 1) (h3 : gI s0 3 = Int32.ofNat wrap) (b1 : wd < 100) (b2 : w < 100) (b3 : wrap < 100) (b4 : cnt < 1000) (fit : cnt = 0 ∨ wd + w ≤ wrap) : ∃ s', f_addElement (Int32.ofNat i) (Int32.ofNat (i + 1)) (Int32.ofNat w) s = some s' ∧ own_Lo s0 s' k tw (i + 1) st (wd + w) (cnt + 1) (lc + w) R := by
  obtain ⟨s', e, h'⟩ := own_a29 h hi w hw
  refine ⟨s', ?_, h'⟩
  obtain ⟨hL, h0, h4, h5, h6, h7, h8, h9, h10, h11, hE, hR'⟩ := h
  unfold f_addElement
  rw [h10, h4 3 (by decide), h3, h8, ← Int32.ofNat_add]
  by_cases z : 0 < cnt
  · rw [if_pos ((ofN_gtL (m := 0) (by omega) (by decide)).mpr z), if_neg (fun q => by have := (own_ltN (by omega) (by omega)).mp q; omega)]; exact e
  · rw [if_neg (fun q => z ((ofN_gtL (m := 0) (by omega) (by decide)).mp q))]; exact e
/-- an element that opens a row -/
theorem own_addN {s0 s : St} {k tw i st wd cnt lc wrap : Nat} {R : List (Nat × Nat × Nat)} (h : own_Lo s0 s k tw i st wd cnt lc R) (hi : i < 200) (w : Nat) (hw : w = if i = k then tw else 1) (h3 : gI s0 3 = Int32.ofNat wrap) (b1 : wd < 100) (b2 : w < 100) (b3 : wrap < 100) (b4 : cnt < 1000) (c1 : 0 < cnt) (no : wrap < wd + w) (hR : R.length < 100) : ∃ s', f_addElement (Int32.ofNat i) (Int32.ofNat (i + 1)) (Int32.ofNat w) s = some s' ∧ own_Lo s0 s' k tw (i + 1) i w 1 (lc + w) (R ++ [(st, wd, cnt)]) := by
  obtain ⟨s1, e1, h1⟩ := own_cl h hR
  obtain ⟨s2, e2, h2⟩ := own_op h1
  obtain ⟨s', e, h'⟩ := own_a29 h2 hi w hw
  refine ⟨s', ?_, by rw [Nat.zero_add] at h'; exact h'⟩
  obtain ⟨hL, h0, h4, h5, h6, h7, h8, h9, h10, h11, hE, hR'⟩ := h
  unfold f_addElement
  rw [h10, h4 3 (by decide), h3, h8, ← Int32.ofNat_add, if_pos ((ofN_gtL (m := 0) (by omega) (by decide)).mpr c1), if_pos ((own_ltN (by omega) (by omega)).mpr no), e1, Option.bind_some, e2, Option.bind_some]; exact e
/-- the text -/
def own_Tx (s : St) (k n tab wrap : Nat) : Prop := own_L s ∧ gI s 0 = Int32.ofNat (k + 1 + n) ∧ gI s 1 = 0 ∧ gI s 2 = Int32.ofNat tab ∧ gI s 3 = Int32.ofNat wrap ∧ ∀ i, i < k + 1 + n → (gA s 0)[i]? = some (if i < k then 97 else if i = k then 9 else 98)
theorem own_fsa {s : St} (h : gI s 1 = 0) (v : Int32) (G : Nat → Int32 → Option St) {P : St → Prop} (k : own_Ok (fun n => G n (-1)) P) : own_Ok (fun n => (f_foldStartingAt n v s).bind (G n)) P := by
  refine own_Ok.bind (Q := (· = -1)) ?_ fun c hc => by rw [hc]; exact k
  unfold f_foldStartingAt
  refine own_Ok.step (g := fun n => g_foldStartingAt_2 (f_foldStartingAt_2 n) n v 0 s) (fun n => rfl) ?_
  unfold g_foldStartingAt_2
  rw [h]
  exact own_Ok.ite (fun q => absurd q (by decide)) fun _ => own_Ok.ret rfl
/-- a turn of the layout -/
theorem own_turn {s0 : St} {k n tab wrap tw : Nat} (hx : own_Tx s0 k n tab wrap) (hk : k ≤ 7) (hn : n ≤ 7) (ht : 1 ≤ tab ∧ tab ≤ 8) (htw : tw = tab - k % tab) {s : St} {i st wd cnt lc : Nat} {R : List (Nat × Nat × Nat)} (h : own_Lo s0 s k tw i st wd cnt lc R) (hi : i < k + 1 + n) (hlc : i ≤ k → lc = i) {P : St → Prop} (go : own_Ok (fun N => (f_addElement (Int32.ofNat i) (Int32.ofNat (i + 1)) (Int32.ofNat (if i = k then tw else 1)) s).bind fun c => f_layout_24 N (Int32.ofNat (i + 1)) (Int32.ofNat (i + 1)) c) P) : own_Ok (fun N => f_layout_24 N (Int32.ofNat i) (Int32.ofNat i) s) P := by
  obtain ⟨xL, x0, x1, x2, x3, xt⟩ := hx
  obtain ⟨hL, h0, h4, h5, h6, h7, h8, h9, h10, h11, hE, hR'⟩ := h
  refine own_Ok.step (g := fun N => g_layout_24 (f_layout_24 N) N (Int32.ofNat i) (Int32.ofNat i) s) (fun n => rfl) ?_
  unfold g_layout_24 f_layout_155
  refine own_Ok.ite (fun q => by have := (ofN_gtL (m := 256) (by omega) (by decide)).mp q; omega) fun _ => ?_
  rw [h4 0 (by decide), x0]
  refine own_Ok.ite (fun _ => ?_) fun q => absurd ((own_ltN (by omega) (by omega)).mpr hi) q
  refine own_fsa ((h4 1 (by decide)).trans x1) _ _ ?_
  refine own_Ok.ite (fun _ => ?_) fun q => absurd (by decide) q
  have ti := xt i hi
  rw [← h0] at ti
  refine own_Ok.rdv (by omega) ti ?_
  refine own_Ok.ite (fun q => ?_) fun _ => ?_
  · exfalso
    revert q
    by_cases z1 : i < k
    · rw [if_pos z1]; decide
    · rw [if_neg z1]
      by_cases z2 : i = k
      · rw [if_pos z2]; decide
      · rw [if_neg z2]; decide
  refine own_Ok.rdv (by omega) ti ?_
  rw [ofN_succ]
  by_cases z2 : i = k
  · rw [if_pos z2] at go
    subst z2
    refine own_Ok.ite (fun _ => ?_) fun q => absurd (by rw [if_neg (Nat.lt_irrefl _), if_pos rfl]) q
    have e2 : gI s 2 = Int32.ofNat tab := (h4 2 (by decide)).trans x2
    rw [e2]
    refine own_Ok.ite (fun q => by have := (ofN_eqL (m := 0) (by omega) (by decide)).mp q; omega) fun _ => ?_
    have ew : Int32.ofNat tab - gI s 11 % Int32.ofNat tab = Int32.ofNat tw := by
      have m : i % tab < tab := Nat.mod_lt _ (by omega)
      rw [h11, hlc (Nat.le_refl _), x32_eq]
      have em : (Int32.ofNat i % Int32.ofNat tab).toInt = ((i % tab : Nat) : Int) := by
        rw [Int32.toInt_mod, ofN_int (by omega), ofN_int (by omega), Int.tmod_eq_emod_of_nonneg (by omega)]; rfl
      rw [x32_sub (by rw [em, ofN_int (by omega)]; omega) (by rw [em, ofN_int (by omega)]; omega), em, ofN_int (by omega), ofN_int (by omega)]; omega
    rw [ew]
    exact go
  · rw [if_neg z2] at go
    refine own_Ok.ite (fun q => ?_) fun _ => go
    exfalso
    revert q
    rw [if_neg z2]
    by_cases z1 : i < k
    · rw [if_pos z1]; decide
    · rw [if_neg z1]; decide
/-- letters that fit -/
theorem own_lets {s0 : St} {k n tab wrap tw : Nat} (hx : own_Tx s0 k n tab wrap) (hk : k ≤ 7) (hn : n ≤ 7) (ht : 1 ≤ tab ∧ tab ≤ 8) (hw : wrap ≤ 32) (htw : tw = tab - k % tab) {P : St → Prop} {st : Nat} {R : List (Nat × Nat × Nat)} : ∀ (m : Nat) (s : St) (i wd cnt lc : Nat), own_Lo s0 s k tw i st wd cnt lc R → i + m ≤ k + 1 + n → (∀ j, i ≤ j → j < i + m → ¬ j = k) → (i ≤ k → lc = i) → wd + m ≤ wrap → cnt + m < 100 → lc + m < 100 → (∀ s', own_Lo s0 s' k tw (i + m) st (wd + m) (cnt + m) (lc + m) R → own_Ok (fun N => f_layout_24 N (Int32.ofNat (i + m)) (Int32.ofNat (i + m)) s') P) → own_Ok (fun N => f_layout_24 N (Int32.ofNat i) (Int32.ofNat i) s) P
  | 0, s, i, wd, cnt, lc, h, _, _, _, _, _, _, go => go s h
  | m + 1, s, i, wd, cnt, lc, h, hi, hne, hlc, hf, hc, hl, go => by
    refine own_turn hx hk hn ht htw h (by omega) hlc ?_
    have ni : ¬ i = k := hne i (Nat.le_refl _) (by omega)
    rw [if_neg ni]
    obtain ⟨s', e, h'⟩ := own_addS (wrap := wrap) h (by omega) 1 (by rw [if_neg ni]) hx.2.2.2.2.1 (by omega) (by omega) (by omega) (by omega) (Or.inr (by omega))
    rw [e]
    refine own_Ok.some_bind ?_
    refine own_lets hx hk hn ht hw htw m s' (i + 1) (wd + 1) (cnt + 1) (lc + 1) h' (by omega) (fun j j1 j2 => hne j (by omega) (by omega)) (fun q => by rw [hlc (by omega)]) (by omega) (by omega) (by omega) fun s2 h2 => ?_
    have e1 : i + 1 + m = i + (m + 1) := by omega
    have e2 : wd + 1 + m = wd + (m + 1) := by omega
    have e3 : cnt + 1 + m = cnt + (m + 1) := by omega
    have e4 : lc + 1 + m = lc + (m + 1) := by omega
    rw [e1, e2, e3, e4] at h2
    rw [e1]
    exact go s2 h2

/-! the layout of k letters, a tab and n letters -/
def own_Pe (s0 : St) (k n tw : Nat) (R : List (Nat × Nat × Nat)) (s : St) : Prop := ∃ st wd cnt lc, own_Lo s0 s k tw (k + 1 + n) st wd cnt lc R
theorem own_endL {s0 : St} {k n tab wrap tw : Nat} (hx : own_Tx s0 k n tab wrap) (hk : k ≤ 7) (hn : n ≤ 7) {s : St} {st wd cnt lc : Nat} {R : List (Nat × Nat × Nat)} (h : own_Lo s0 s k tw (k + 1 + n) st wd cnt lc R) (hR : R.length < 100) : own_Ok (fun N => f_layout_24 N (Int32.ofNat (k + 1 + n)) (Int32.ofNat (k + 1 + n)) s) (own_Pe s0 k n tw (R ++ [(st, wd, cnt)])) := by
  refine own_Ok.step (g := fun N => g_layout_24 (f_layout_24 N) N (Int32.ofNat (k + 1 + n)) (Int32.ofNat (k + 1 + n)) s) (fun n => rfl) ?_
  unfold g_layout_24 f_layout_161
  refine own_Ok.ite (fun q => by have := (ofN_gtL (m := 256) (by omega) (by decide)).mp q; omega) fun _ => ?_
  rw [h.2.2.1 0 (by decide), hx.2.1]
  refine own_Ok.ite (fun q => by have := (own_ltN (by omega) (by omega)).mp q; omega) fun _ => ?_
  obtain ⟨s', e, h'⟩ := own_cl h hR
  rw [e]
  exact own_Ok.some_bind (own_Ok.ret ⟨_, _, _, _, h'⟩)
/-- the letters behind the tab -/
theorem own_ph3 {s0 : St} {k n tab wrap tw : Nat} (hx : own_Tx s0 k n tab wrap) (hk : k ≤ 7) (hn : n ≤ 7) (ht : 1 ≤ tab ∧ tab ≤ 8) (hw : 8 ≤ wrap ∧ wrap ≤ 32) (htw : tw = tab - k % tab) {s : St} {st wd cnt lc : Nat} {R : List (Nat × Nat × Nat)} (h : own_Lo s0 s k tw (k + 1) st wd cnt lc R) (hR : R.length < 90) (c1 : 1 ≤ cnt) (c2 : cnt < 50) (w1 : wd ≤ wrap) (l1 : lc < 50) : own_Ok (fun N => f_layout_24 N (Int32.ofNat (k + 1)) (Int32.ofNat (k + 1)) s) (fun s' => (wd + n ≤ wrap ∧ own_Pe s0 k n tw (R ++ [(st, wd + n, cnt + n)]) s') ∨ (∃ fit rest, fit + rest = n ∧ 1 ≤ rest ∧ wd + fit = wrap ∧ own_Pe s0 k n tw (R ++ [(st, wd + fit, cnt + fit)] ++ [(k + 1 + fit, rest, rest)]) s')) := by
  by_cases q : wd + n ≤ wrap
  · refine own_lets hx hk hn ht hw.2 htw n s (k + 1) wd cnt lc h (Nat.le_refl _) (fun j j1 j2 => by omega) (fun q => by omega) q (by omega) (by omega) fun s' h' => ?_
    exact (own_endL hx hk hn h' (by omega)).mono fun s2 h2 => Or.inl ⟨q, h2⟩
  · obtain ⟨fit, hf⟩ : ∃ fit, wd + fit = wrap := ⟨wrap - wd, by omega⟩
    obtain ⟨r, hr⟩ : ∃ r, fit + (r + 1) = n := ⟨n - fit - 1, by omega⟩
    refine own_lets hx hk hn ht hw.2 htw fit s (k + 1) wd cnt lc h (by omega) (fun j j1 j2 => by omega) (fun q => by omega) (by omega) (by omega) (by omega) fun s1 h1 => ?_
    refine own_turn hx hk hn ht htw h1 (by omega) (fun q => by omega) ?_
    have ni : ¬ k + 1 + fit = k := by omega
    rw [if_neg ni]
    obtain ⟨s2, e2, h2⟩ := own_addN (wrap := wrap) h1 (by omega) 1 (by rw [if_neg ni]) hx.2.2.2.2.1 (by omega) (by omega) (by omega) (by omega) (by omega) (by omega) (by omega)
    rw [e2]
    refine own_Ok.some_bind ?_
    refine own_lets hx hk hn ht hw.2 htw r s2 (k + 1 + fit + 1) 1 1 (lc + fit + 1) h2 (by omega) (fun j j1 j2 => by omega) (fun q => by omega) (by omega) (by omega) (by omega) fun s3 h3 => ?_
    have e3 : k + 1 + fit + 1 + r = k + 1 + n := by omega
    rw [e3] at h3 ⊢
    have lR : (R ++ [(st, wd + fit, cnt + fit)]).length < 100 := by
      rw [List.length_append]
      have : [(st, wd + fit, cnt + fit)].length = 1 := rfl
      omega
    refine (own_endL hx hk hn h3 lR).mono fun s4 h4 => Or.inr ⟨fit, r + 1, hr, by omega, hf, ?_⟩
    rw [Nat.add_comm 1 r] at h4
    exact h4
def own_Sh (k n tw wrap : Nat) (R : List (Nat × Nat × Nat)) : Prop :=
  (k + tw ≤ wrap ∧ k + tw + n ≤ wrap ∧ R = [(0, k + tw + n, k + 1 + n)]) ∨
  (k + tw ≤ wrap ∧ ∃ fit rest, fit + rest = n ∧ 1 ≤ rest ∧ k + tw + fit = wrap ∧ R = [(0, k + tw + fit, k + 1 + fit), (k + 1 + fit, rest, rest)]) ∨
  (wrap < k + tw ∧ tw + n ≤ wrap ∧ R = [(0, k, k), (k, tw + n, 1 + n)]) ∨
  (wrap < k + tw ∧ ∃ fit rest, fit + rest = n ∧ 1 ≤ rest ∧ tw + fit = wrap ∧ R = [(0, k, k), (k, tw + fit, 1 + fit), (k + 1 + fit, rest, rest)])
theorem own_lay {s0 : St} {k n tab wrap tw : Nat} (hx : own_Tx s0 k n tab wrap) (hk : k ≤ 7) (hn : n ≤ 7) (ht : 1 ≤ tab ∧ tab ≤ 8) (hw : 8 ≤ wrap ∧ wrap ≤ 32) (htw : tw = tab - k % tab) : own_Ok (fun N => f_layout N s0) (fun s' => ∃ R, own_Sh k n tw wrap R ∧ own_Pe s0 k n tw R s') := by
  have mt : k % tab < tab := Nat.mod_lt _ (by omega)
  unfold f_layout f_openRow lt
  refine own_Ok.some_bind ?_
  obtain ⟨s1, hs1⟩ : ∃ s1, s1 = sI (sI (sI (sI (sI (sI (sI s0 5 0) 6 0) 7 0) 8 0) 9 (gI (sI (sI (sI (sI s0 5 0) 6 0) 7 0) 8 0) 5)) 10 0) 11 0 := ⟨_, rfl⟩
  have h1 : own_Lo s0 s1 k tw 0 0 0 0 0 [] := by
    subst hs1
    refine ⟨hx.1, rfl, fun j hj => ?_, rfl, rfl, rfl, rfl, rfl, rfl, rfl, fun j hj => absurd hj (Nat.not_lt_zero _), fun j r hr => by cases hr⟩
    rw [gI_sI, if_neg (by omega), gI_sI, if_neg (by omega), gI_sI, if_neg (by omega), gI_sI, if_neg (by omega), gI_sI, if_neg (by omega), gI_sI, if_neg (by omega), gI_sI, if_neg (by omega)]
  rw [← hs1]
  refine own_lets hx hk hn ht hw.2 htw k s1 0 0 0 0 h1 (by omega) (fun j j1 j2 => by omega) (fun _ => rfl) (by omega) (by omega) (by omega) fun s2 h2 => ?_
  rw [Nat.zero_add] at h2 ⊢
  refine own_turn hx hk hn ht htw h2 (by omega) (fun _ => rfl) ?_
  rw [if_pos rfl]
  by_cases q : k + tw ≤ wrap
  · obtain ⟨s3, e3, h3⟩ := own_addS (wrap := wrap) h2 (by omega) tw (by rw [if_pos rfl]) hx.2.2.2.2.1 (by omega) (by omega) (by omega) (by omega) (Or.inr q)
    rw [e3]
    refine own_Ok.some_bind ?_
    refine (own_ph3 hx hk hn ht hw htw h3 (by decide) (by omega) (by omega) q (by omega)).mono fun s' hs' => ?_
    rcases hs' with ⟨f, p⟩ | ⟨fit, rest, f1, f2, f3, p⟩
    · exact ⟨_, Or.inl ⟨q, f, rfl⟩, p⟩
    · exact ⟨_, Or.inr (Or.inl ⟨q, fit, rest, f1, f2, f3, rfl⟩), p⟩
  · have k0 : 0 < k := by
      by_cases z : k = 0
      · subst z; omega
      · omega
    obtain ⟨s3, e3, h3⟩ := own_addN (wrap := wrap) h2 (by omega) tw (by rw [if_pos rfl]) hx.2.2.2.2.1 (by omega) (by omega) (by omega) (by omega) k0 (by omega) (by decide)
    rw [e3]
    refine own_Ok.some_bind ?_
    refine (own_ph3 hx hk hn ht hw htw h3 (show 1 < 90 by decide) (by omega) (by omega) (by omega) (by omega)).mono fun s' hs' => ?_
    rcases hs' with ⟨f, p⟩ | ⟨fit, rest, f1, f2, f3, p⟩
    · exact ⟨_, Or.inr (Or.inr (Or.inl ⟨by omega, f, rfl⟩)), p⟩
    · exact ⟨_, Or.inr (Or.inr (Or.inr ⟨by omega, fit, rest, f1, f2, f3, rfl⟩)), p⟩
/-! the questions -/
def own_Fi (s : St) (k tw T : Nat) (R : List (Nat × Nat × Nat)) : Prop := gI s 0 = Int32.ofNat T ∧ gI s 1 = 0 ∧ gI s 4 = 0 ∧ gI s 6 = Int32.ofNat R.length ∧ own_El s k tw T ∧ own_Rw s R
theorem own_en {s : St} {k tw T : Nat} {R : List (Nat × Nat × Nat)} (h : own_Fi s k tw T R) (n : Nat) : f_ensureLayout n s = some s := by
  unfold f_ensureLayout f_ensureLayout_16
  rw [if_pos h.2.2.1]
def own_rs (R : List (Nat × Nat × Nat)) (j : Nat) : Int32 := (R[j]?).elim (-1) fun r => Int32.ofNat r.1
def own_rw (R : List (Nat × Nat × Nat)) (j : Nat) : Int32 := (R[j]?).elim (-1) fun r => Int32.ofNat r.2.1
theorem own_rsV {s : St} {k tw T : Nat} {R : List (Nat × Nat × Nat)} (h : own_Fi s k tw T R) (hR : R.length < 100) (j : Nat) (hj : j < 100) (n : Nat) : f_rowStart n (Int32.ofNat j) s = some (own_rs R j, s) := by
  unfold f_rowStart f_rowStart_16 own_rs
  rw [own_en h, Option.bind_some, if_neg (ofN_nn (by omega)), h.2.2.2.1]
  by_cases z : j < R.length
  · have e : R[j]? = some R[j] := List.getElem?_eq_getElem z
    rw [if_pos ((own_ltN (by omega) (by omega)).mpr z), rd_at (by omega) (h.2.2.2.2.2 j _ e).1, e]; rfl
  · rw [if_neg (fun q => z ((own_ltN (by omega) (by omega)).mp q)), List.getElem?_eq_none (by omega)]; rfl
theorem own_rwV {s : St} {k tw T : Nat} {R : List (Nat × Nat × Nat)} (h : own_Fi s k tw T R) (hR : R.length < 100) (j : Nat) (hj : j < 100) (n : Nat) : f_rowWidth n (Int32.ofNat j) s = some (own_rw R j, s) := by
  unfold f_rowWidth f_rowWidth_16 own_rw
  rw [own_en h, Option.bind_some, if_neg (ofN_nn (by omega)), h.2.2.2.1]
  by_cases z : j < R.length
  · have e : R[j]? = some R[j] := List.getElem?_eq_getElem z
    rw [if_pos ((own_ltN (by omega) (by omega)).mpr z), rd_at (by omega) (h.2.2.2.2.2 j _ e).2.1, e]; rfl
  · rw [if_neg (fun q => z ((own_ltN (by omega) (by omega)).mp q)), List.getElem?_eq_none (by omega)]; rfl
def own_sw (k tw p : Nat) : Nat → Nat → Nat
  | _, 0 => 0
  | j, m + 1 => (if j < p then (if j = k then tw else 1) else 0) + own_sw k tw p (j + 1) m
theorem own_sw1 (k tw p : Nat) (hp : p ≤ k) : ∀ (m j : Nat), j ≤ p → p ≤ j + m → own_sw k tw p j m = p - j
  | 0, j, h1, h2 => by show 0 = p - j; omega
  | m + 1, j, h1, h2 => by
    show (if j < p then (if j = k then tw else 1) else 0) + own_sw k tw p (j + 1) m = p - j
    by_cases z : j < p
    · rw [if_pos z, if_neg (show ¬ j = k by omega), own_sw1 k tw p hp m (j + 1) (by omega) (by omega)]; omega
    · have z0 : ∀ (m j : Nat), p ≤ j → own_sw k tw p j m = 0 := fun m => by
        induction m with
        | zero => intro j _; rfl
        | succ m ih =>
          intro j hj
          show (if j < p then (if j = k then tw else 1) else 0) + own_sw k tw p (j + 1) m = 0
          rw [if_neg (by omega), ih (j + 1) (by omega)]
      rw [if_neg z, z0 m (j + 1) (by omega)]; omega
theorem own_sw2 (k tw p : Nat) : ∀ (m j : Nat), j + m ≤ p → own_sw k tw p j m + (if j ≤ k ∧ k < j + m then 1 else 0) = m + (if j ≤ k ∧ k < j + m then tw else 0)
  | 0, j, h => by
    show 0 + _ = 0 + _
    rw [if_neg (by omega), if_neg (by omega)]
  | m + 1, j, h => by
    have ih := own_sw2 k tw p m (j + 1) (by omega)
    show (if j < p then (if j = k then tw else 1) else 0) + own_sw k tw p (j + 1) m + _ = _
    rw [if_pos (show j < p by omega)]
    by_cases z : j = k
    · subst z
      rw [if_neg (by omega), if_neg (by omega)] at ih
      rw [if_pos rfl, if_pos (by omega), if_pos (by omega)]; omega
    · rw [if_neg z]
      by_cases y : j ≤ k ∧ k < j + (m + 1)
      · rw [if_pos (show j + 1 ≤ k ∧ k < j + 1 + m by omega), if_pos (show j + 1 ≤ k ∧ k < j + 1 + m by omega)] at ih
        rw [if_pos y, if_pos y]; omega
      · rw [if_neg (show ¬ (j + 1 ≤ k ∧ k < j + 1 + m) by omega), if_neg (show ¬ (j + 1 ≤ k ∧ k < j + 1 + m) by omega)] at ih
        rw [if_neg y, if_neg y]; omega
theorem own_td {s : St} {k tw T : Nat} {R : List (Nat × Nat × Nat)} (h : own_Fi s k tw T R) (hR : R.length < 100) (hT : T < 100) (htw : tw < 100) (p q : Nat) (hp : p ≤ T) {r : Nat × Nat × Nat} (hr : R[q]? = some r) (r1 : r.1 ≤ p) (r2 : r.1 + r.2.2 ≤ T) (hq : ∀ (j : Nat) (r' : Nat × Nat × Nat), q < j → R[j]? = some r' → p < r'.1 ∧ r'.1 < 1000) (hq0 : ∀ (j : Nat) (r' : Nat × Nat × Nat), R[j]? = some r' → r'.1 < 1000) : own_Ok (fun N => f_toDisplay N (Int32.ofNat p) 0 s) (· = (Int32.ofNat q * 256 + Int32.ofNat (own_sw k tw p r.1 r.2.2), s)) := by
  obtain ⟨h0, h1, h4, h6, hE, hW⟩ := h
  have qR : q < R.length := (List.getElem?_eq_some_iff.mp hr).1
  obtain ⟨w6, w7, w8, w9⟩ := hW q r hr
  have k100 : ∀ (m j acc : Nat), j + m = r.1 + r.2.2 → own_Ok (fun N => f_toDisplay_100 N (Int32.ofNat p) (Int32.ofNat q) (Int32.ofNat acc) (Int32.ofNat (r.1 + r.2.2)) (Int32.ofNat j) s) (· = (Int32.ofNat q * 256 + Int32.ofNat (acc + own_sw k tw p j m), s)) := by
    intro m
    induction m with
    | zero =>
      intro j acc hj
      refine own_Ok.step (g := fun N => g_toDisplay_100 (f_toDisplay_100 N) N (Int32.ofNat p) (Int32.ofNat q) (Int32.ofNat acc) (Int32.ofNat (r.1 + r.2.2)) (Int32.ofNat j) s) (fun n => rfl) ?_
      unfold g_toDisplay_100 f_toDisplay_149
      exact own_Ok.ite (fun z => by have := (own_ltN (by omega) (by omega)).mp z; omega) fun _ => own_Ok.ret rfl
    | succ m ih =>
      intro j acc hj
      refine own_Ok.step (g := fun N => g_toDisplay_100 (f_toDisplay_100 N) N (Int32.ofNat p) (Int32.ofNat q) (Int32.ofNat acc) (Int32.ofNat (r.1 + r.2.2)) (Int32.ofNat j) s) (fun n => rfl) ?_
      obtain ⟨e3, e4, e5⟩ := hE j (by omega)
      have sw : own_sw k tw p j (m + 1) = (if j < p then (if j = k then tw else 1) else 0) + own_sw k tw p (j + 1) m := rfl
      rw [sw]
      unfold g_toDisplay_100 f_toDisplay_143 lt
      refine own_Ok.ite (fun _ => ?_) fun z => absurd ((own_ltN (by omega) (by omega)).mpr (by omega)) z
      refine own_Ok.ite (fun _ => ?_) fun z => absurd ((ofN_ltL (m := 256) (by omega) (by decide)).mpr (by omega)) z
      refine own_Ok.ite (fun z => absurd z (ofN_nn (by omega))) fun _ => ?_
      refine own_Ok.rdv (by omega) e3 ?_
      rw [ofN_succ]
      refine own_Ok.ite (fun z => ?_) fun z => ?_
      · have z := (own_ltN (by omega) (by omega)).mp z
        refine own_Ok.rdv (by omega) e5 ?_
        rw [← Int32.ofNat_add, if_pos z, ← Nat.add_assoc]
        exact ih (j + 1) _ (by omega)
      · have z : ¬ j < p := fun e => z ((own_ltN (by omega) (by omega)).mpr e)
        rw [if_neg z, Nat.zero_add]
        exact ih (j + 1) _ (by omega)
  have k42 : ∀ (m j : Nat) (v : Int32), j + m = R.length → (q < j → v = Int32.ofNat q) → own_Ok (fun N => f_toDisplay_42 N (Int32.ofNat p) v (Int32.ofNat j) s) (· = (Int32.ofNat q * 256 + Int32.ofNat (own_sw k tw p r.1 r.2.2), s)) := by
    intro m
    induction m with
    | zero =>
      intro j v hj hv
      obtain rfl := hv (by omega)
      refine own_Ok.step (g := fun N => g_toDisplay_42 (f_toDisplay_42 N) N (Int32.ofNat p) (Int32.ofNat q) (Int32.ofNat j) s) (fun n => rfl) ?_
      unfold g_toDisplay_42
      rw [h6]
      refine own_Ok.ite (fun z => by have := (own_ltN (by omega) (by omega)).mp z; omega) fun _ => ?_
      refine own_Ok.rdv (by omega) w8 ?_
      refine own_Ok.rdv (by omega) w9 ?_
      refine own_Ok.let ?_
      rw [← Int32.ofNat_add]
      have := k100 r.2.2 r.1 0 rfl
      rw [Nat.zero_add] at this
      exact this
    | succ m ih =>
      intro j v hj hv
      refine own_Ok.step (g := fun N => g_toDisplay_42 (f_toDisplay_42 N) N (Int32.ofNat p) v (Int32.ofNat j) s) (fun n => rfl) ?_
      have ej : R[j]? = some R[j] := List.getElem?_eq_getElem (by omega)
      have bj := hq0 j _ ej
      unfold g_toDisplay_42 f_toDisplay_66 lt
      rw [h6]
      refine own_Ok.ite (fun _ => ?_) fun z => absurd ((own_ltN (by omega) (by omega)).mpr (by omega)) z
      refine own_Ok.rdv (by omega) (hW j _ ej).1 ?_
      rw [ofN_succ]
      refine own_Ok.ite (fun z => ?_) fun z => ?_
      · have z := (own_ltN (by omega) (by omega)).mp z
        refine ih (j + 1) v (by omega) fun e => hv ?_
        by_cases y : j = q
        · subst y
          rw [hr] at ej
          have er := Option.some.inj ej
          rw [← er] at z
          omega
        · omega
      · have z : ¬ p < R[j].1 := fun e => z ((own_ltN (by omega) (by omega)).mpr e)
        refine ih (j + 1) _ (by omega) fun e => ?_
        by_cases y : j = q
        · rw [y]
        · have := hq j _ (by omega) ej
          omega
  unfold f_toDisplay f_toDisplay_11
  refine own_Ok.ite (fun _ => ?_) fun z => absurd rfl z
  refine own_Ok.ite (fun z => absurd z (ofN_nn (by omega))) fun _ => ?_
  rw [h0]
  refine own_Ok.ite (fun z => by have := (own_ltN (by omega) (by omega)).mp z; omega) fun _ => ?_
  refine own_Ok.bind (Q := (· = Int32.ofNat p)) ?_ fun c hc => ?_
  · unfold f_snapOutOfFold
    refine own_Ok.step (g := fun N => g_snapOutOfFold_2 (f_snapOutOfFold_2 N) N (Int32.ofNat p) 0 0 s) (fun n => rfl) ?_
    unfold g_snapOutOfFold_2
    rw [h1]
    exact own_Ok.ite (fun z => absurd z (by decide)) fun _ => own_Ok.ret rfl
  · subst hc
    refine own_evO (own_en ⟨h0, h1, h4, h6, hE, hW⟩) ?_
    exact k42 R.length 0 0 (by omega) fun e => absurd e (Nat.not_lt_zero _)
theorem own_fd {s : St} {k tw T : Nat} {R : List (Nat × Nat × Nat)} (h : own_Fi s k tw T R) (hR : R.length < 100) (hT : T < 100) (htw : 1 ≤ tw ∧ tw < 100) (q : Nat) {r : Nat × Nat × Nat} (hr : R[q]? = some r) (r1 : r.1 ≤ k) (r3 : k < r.1 + r.2.2) (r2 : r.1 + r.2.2 ≤ T) (b : Int32) (hb : b = 0 ∨ b = 1) : own_Ok (fun N => f_fromDisplay N (Int32.ofNat q) (Int32.ofNat (k - r.1 + tw - 1)) b s) (· = ((if tw = 1 ∨ b = 0 then Int32.ofNat k else Int32.ofNat (k + 1)), s)) := by
  obtain ⟨h0, h1, h4, h6, hE, hW⟩ := h
  have qR : q < R.length := (List.getElem?_eq_some_iff.mp hr).1
  obtain ⟨w6, w7, w8, w9⟩ := hW q r hr
  have k61 : ∀ (m j : Nat), j + m = k → r.1 ≤ j → own_Ok (fun N => f_fromDisplay_61 N (Int32.ofNat q) (Int32.ofNat (k - r.1 + tw - 1)) b (Int32.ofNat (j - r.1)) (Int32.ofNat (r.1 + r.2.2)) (Int32.ofNat j) s) (· = ((if tw = 1 ∨ b = 0 then Int32.ofNat k else Int32.ofNat (k + 1)), s)) := by
    intro m
    induction m with
    | zero =>
      intro j hj hj1
      obtain rfl : j = k := by omega
      refine own_Ok.step (g := fun N => g_fromDisplay_61 (f_fromDisplay_61 N) N (Int32.ofNat q) (Int32.ofNat (j - r.1 + tw - 1)) b (Int32.ofNat (j - r.1)) (Int32.ofNat (r.1 + r.2.2)) (Int32.ofNat j) s) (fun n => rfl) ?_
      obtain ⟨e3, e4, e5⟩ := hE j (by omega)
      rw [if_pos rfl] at e5
      unfold g_fromDisplay_61 f_fromDisplay_112
      refine own_Ok.ite (fun _ => ?_) fun z => absurd ((own_ltN (by omega) (by omega)).mpr (by omega)) z
      refine own_Ok.ite (fun _ => ?_) fun z => absurd ((ofN_ltL (m := 256) (by omega) (by decide)).mpr (by omega)) z
      refine own_Ok.ite (fun z => absurd z (ofN_nn (by omega))) fun _ => ?_
      refine own_Ok.rdv (by omega) e5 ?_
      rw [← Int32.ofNat_add]
      refine own_Ok.ite (fun _ => ?_) fun z => absurd ((own_ltN (by omega) (by omega)).mpr (by omega)) z
      refine own_Ok.ite (fun z => ?_) fun z => ?_
      · have z := (ofN_eq (by omega) (by omega)).mp z
        rw [if_pos (Or.inl (by omega))]
        exact own_Ok.rdv (by omega) e3 (own_Ok.ret rfl)
      · have z : ¬ j - r.1 + tw - 1 = j - r.1 := fun e => z (by rw [e])
        refine own_Ok.ite (fun y => ?_) fun y => ?_
        · rw [if_pos (Or.inr y)]
          exact own_Ok.rdv (by omega) e3 (own_Ok.ret rfl)
        · rw [if_neg (fun e => by rcases e with e | e; omega; exact y e)]
          exact own_Ok.rdv (by omega) e4 (own_Ok.ret rfl)
    | succ m ih =>
      intro j hj hj1
      refine own_Ok.step (g := fun N => g_fromDisplay_61 (f_fromDisplay_61 N) N (Int32.ofNat q) (Int32.ofNat (k - r.1 + tw - 1)) b (Int32.ofNat (j - r.1)) (Int32.ofNat (r.1 + r.2.2)) (Int32.ofNat j) s) (fun n => rfl) ?_
      obtain ⟨e3, e4, e5⟩ := hE j (by omega)
      rw [if_neg (show ¬ j = k by omega)] at e5
      unfold g_fromDisplay_61 f_fromDisplay_135
      refine own_Ok.ite (fun _ => ?_) fun z => absurd ((own_ltN (by omega) (by omega)).mpr (by omega)) z
      refine own_Ok.ite (fun _ => ?_) fun z => absurd ((ofN_ltL (m := 256) (by omega) (by decide)).mpr (by omega)) z
      refine own_Ok.ite (fun z => absurd z (ofN_nn (by omega))) fun _ => ?_
      refine own_Ok.rdv (by omega) e5 ?_
      rw [← Int32.ofNat_add]
      refine own_Ok.ite (fun z => by have := (own_ltN (by omega) (by omega)).mp z; omega) fun _ => ?_
      refine own_Ok.let ?_
      refine own_Ok.let ?_
      rw [ofN_succ, show j - r.1 + 1 = j + 1 - r.1 by omega]
      exact ih (j + 1) (by omega) (by omega)
  have go : own_Ok (fun N => f_fromDisplay_11 N (Int32.ofNat q) (Int32.ofNat (k - r.1 + tw - 1)) b s) (· = ((if tw = 1 ∨ b = 0 then Int32.ofNat k else Int32.ofNat (k + 1)), s)) := by
    unfold f_fromDisplay_11
    refine own_evO (own_en ⟨h0, h1, h4, h6, hE, hW⟩) ?_
    refine own_Ok.ite (fun z => absurd z (ofN_nn (by omega))) fun _ => ?_
    rw [h6]
    refine own_Ok.ite (fun _ => ?_) fun z => absurd ((own_ltN (by omega) (by omega)).mpr qR) z
    refine own_Ok.ite (fun z => absurd z (ofN_nn (by omega))) fun _ => ?_
    refine own_Ok.rdv (by omega) w8 ?_
    refine own_Ok.rdv (by omega) w9 ?_
    refine own_Ok.let ?_
    rw [← Int32.ofNat_add]
    have := k61 (k - r.1) r.1 (by omega) (Nat.le_refl _)
    rw [Nat.sub_self] at this
    exact this
  unfold f_fromDisplay
  refine own_Ok.ite (fun _ => go) fun z => ?_
  exact own_Ok.ite (fun _ => go) fun z' => by
    rcases hb with e | e
    · exact absurd e z
    · exact absurd e z'

theorem own_isb (x y : Nat) (hx : x < 1000000) (hy : y ≤ x) : Int32.ofNat x - Int32.ofNat y = Int32.ofNat (x - y) := by
  have e1 := ofN_int (k := x) (by omega)
  have e2 := ofN_int (k := y) (by omega)
  rw [x32_eq, x32_sub (by omega) (by omega), e1, e2, ofN_int (by omega)]; omega
/-- a letter at the end -/
def own_In (s : St) (m k tab wrap : Nat) : Prop := own_L s ∧ gI s 0 = Int32.ofNat m ∧ gI s 1 = 0 ∧ gI s 2 = Int32.ofNat tab ∧ gI s 3 = Int32.ofNat wrap ∧ gI s 4 = 1 ∧ ∀ i, i < m → (gA s 0)[i]? = some (if i < k then 97 else if i = k then 9 else 98)
theorem own_ins {s : St} {m k tab wrap : Nat} (h : own_In s m k tab wrap) (hm : m < 200) (ch : Int32) (hc : ch = if m < k then 97 else if m = k then 9 else 98) : own_Ok (fun N => f_insert N (Int32.ofNat m) ch s) (fun r => own_In r.2 (m + 1) k tab wrap) := by
  obtain ⟨hL, h0, h1, h2, h3, h4, ht⟩ := h
  have l0 : (gA s 0).length = 256 := hL 0 (by decide)
  have hv : f_validChar ch = some 1 := by
    rw [hc]
    by_cases z1 : m < k
    · rw [if_pos z1]; rfl
    · rw [if_neg z1]
      by_cases z2 : m = k
      · rw [if_pos z2]; rfl
      · rw [if_neg z2]; rfl
  unfold f_insert
  refine own_Ok.ite (fun q => absurd q (ofN_nn (by omega))) fun _ => ?_
  rw [h0]
  refine own_Ok.ite (fun q => by have := (own_ltN (by omega) (by omega)).mp q; omega) fun _ => ?_
  rw [hv]
  refine own_Ok.some_bind ?_
  refine own_Ok.ite (fun q => absurd q (by decide)) fun _ => ?_
  refine own_Ok.ite (fun _ => ?_) fun q => absurd ((ofN_ltL (m := 256) (by omega) (by decide)).mpr (by omega)) q
  refine own_Ok.let ?_
  refine own_Ok.step (g := fun N => g_insert_40 (f_insert_40 N) N (Int32.ofNat m) ch (Int32.ofNat m) s) (fun n => rfl) ?_
  unfold g_insert_40
  refine own_Ok.ite (fun q => by have := (own_ltN (by omega) (by omega)).mp q; omega) fun _ => ?_
  refine own_evO (c := sA s 0 ((gA s 0).set m ch)) (fun n => wrA_of (k := m) ch (ofN_int (by omega)) (by omega)) ?_
  refine own_Ok.let ?_
  refine own_Ok.step (g := fun N => g_insert_84 (f_insert_84 N) N (Int32.ofNat m) 0 (sI (sA s 0 ((gA s 0).set m ch)) 0 (gI (sA s 0 ((gA s 0).set m ch)) 0 + 1))) (fun n => rfl) ?_
  unfold g_insert_84
  rw [show gI (sI (sA s 0 ((gA s 0).set m ch)) 0 (gI (sA s 0 ((gA s 0).set m ch)) 0 + 1)) 1 = 0 from h1]
  refine own_Ok.ite (fun q => absurd q (by decide)) fun _ => ?_
  refine own_Ok.let (own_Ok.ret ⟨hL.wr 0 _ _, ?_, h1, h2, h3, rfl, fun i hi => ?_⟩)
  · show gI s 0 + 1 = _
    rw [h0, ofN_succ]
  · show ((gA s 0).set m ch)[i]? = _
    by_cases z : i = m
    · subst z
      rw [get_set_self _ (by omega), hc]
    · rw [get_set_ne _ (Ne.symm z)]; exact ht i (by omega)
theorem own_clT (p : Int32) : ∃ tab, 1 ≤ tab ∧ tab ≤ 8 ∧ f_clampTab p = some (Int32.ofNat tab) ∧ ∀ (F : Int32 → Option Int32), (if p < 1 then F 1 else if 8 < p then F 8 else F p) = F (Int32.ofNat tab) := by
  unfold f_clampTab
  by_cases c1 : p < 1
  · exact ⟨1, by decide, by decide, by rw [if_pos c1]; rfl, fun F => by rw [if_pos c1]; rfl⟩
  · by_cases c2 : 8 < p
    · exact ⟨8, by decide, by decide, by rw [if_neg c1, if_pos c2]; rfl, fun F => by rw [if_neg c1, if_pos c2]; rfl⟩
    · have o1 : (1 : Int32).toInt = 1 := rfl
      have o8 : (8 : Int32).toInt = 8 := rfl
      have d1 := c1
      have d2 := c2
      rw [x32_lt] at d1 d2
      refine ⟨p.toInt.toNat, by omega, by omega, ?_, fun F => ?_⟩
      · rw [if_neg c1, if_neg c2]
        congr 1
        exact ofN_of (by omega)
      · rw [if_neg c1, if_neg c2]
        congr 1
        exact ofN_of (by omega)
theorem own_clW (p : Int32) : ∃ w, 8 ≤ w ∧ w ≤ 32 ∧ f_clampWrap p = some (Int32.ofNat w) ∧ ∀ (F : Int32 → Option Int32), (if p < 8 then F 8 else if 32 < p then F 32 else F p) = F (Int32.ofNat w) := by
  unfold f_clampWrap
  by_cases c1 : p < 8
  · exact ⟨8, by decide, by decide, by rw [if_pos c1]; rfl, fun F => by rw [if_pos c1]; rfl⟩
  · by_cases c2 : 32 < p
    · exact ⟨32, by decide, by decide, by rw [if_neg c1, if_pos c2]; rfl, fun F => by rw [if_neg c1, if_pos c2]; rfl⟩
    · have o1 : (8 : Int32).toInt = 8 := rfl
      have o8 : (32 : Int32).toInt = 32 := rfl
      have d1 := c1
      have d2 := c2
      rw [x32_lt] at d1 d2
      refine ⟨p.toInt.toNat, by omega, by omega, ?_, fun F => ?_⟩
      · rw [if_neg c1, if_neg c2]
        congr 1
        exact ofN_of (by omega)
      · rw [if_neg c1, if_neg c2]
        congr 1
        exact ofN_of (by omega)
theorem own_378 {s s1 : St} {k tw T : Nat} {R : List (Nat × Nat × Nat)} (en : Ev (fun N => f_ensureLayout N s) s1) (fi : own_Fi s1 k tw T R) (h0 : gI s 0 = Int32.ofNat T) (hR : 1 ≤ R.length ∧ R.length ≤ 3) (hT : T < 100) (htw : 1 ≤ tw ∧ tw < 100) (hkT : k ≤ T) (s0 : own_rs R 0 = 0) (bnd : ∀ (j : Nat) (r' : Nat × Nat × Nat), R[j]? = some r' → r'.1 < 1000) (q : Nat) {r : Nat × Nat × Nat} (hr : R[q]? = some r) (r1 : r.1 ≤ k) (r3 : k < r.1 + r.2.2) (r2 : r.1 + r.2.2 ≤ T) (hq : ∀ (j : Nat) (r' : Nat × Nat × Nat), q < j → R[j]? = some r' → k < r'.1) {rl : Nat × Nat × Nat} (hrl : R[R.length - 1]? = some rl) (l2 : rl.1 + rl.2.2 = T) (v22 : Nat) (hv22 : v22 = own_sw k tw T rl.1 rl.2.2) : own_Ok (fun N => f_law_378 N (Int32.ofNat k) (Int32.ofNat tw) (Int32.ofNat R.length) (own_rw R 0) (own_rs R 1) (own_rw R 1) (own_rs R 2) (own_rw R 2) (Int32.ofNat q) (Int32.ofNat (k - r.1)) (Int32.ofNat v22) (Int32.ofNat T) (if tw = 1 then Int32.ofNat k else Int32.ofNat (k + 1)) s) (· = 1) := by
  have rs3 : own_rs R 3 = -1 := by
    unfold own_rs
    rw [List.getElem?_eq_none (by omega)]; rfl
  have hR' : R.length < 100 := by omega
  unfold f_law_378 f_length f_rowCount
  refine own_Ok.some_bind ?_
  refine own_Ok.ite (fun _ => ?_) fun z => absurd h0 z
  refine own_Ok.bind (Q := (· = (gI s1 6, s1))) ⟨_, Ev.bind en (Ev.const rfl), rfl⟩ fun c hc => ?_
  subst hc
  refine own_Ok.ite (fun _ => ?_) fun z => absurd fi.2.2.2.1 z
  refine own_evO (own_rsV fi hR' 0 (by decide)) ?_
  refine own_Ok.ite (fun _ => ?_) fun z => absurd s0 z
  refine own_evO (own_rwV fi hR' 0 (by decide)) ?_
  refine own_Ok.ite (fun _ => ?_) fun z => absurd rfl z
  refine own_evO (own_rsV fi hR' 1 (by decide)) ?_
  refine own_Ok.ite (fun _ => ?_) fun z => absurd rfl z
  refine own_evO (own_rwV fi hR' 1 (by decide)) ?_
  refine own_Ok.ite (fun _ => ?_) fun z => absurd rfl z
  refine own_evO (own_rsV fi hR' 2 (by decide)) ?_
  refine own_Ok.ite (fun _ => ?_) fun z => absurd rfl z
  refine own_evO (own_rwV fi hR' 2 (by decide)) ?_
  refine own_Ok.ite (fun _ => ?_) fun z => absurd rfl z
  refine own_evO (own_rsV fi hR' 3 (by decide)) ?_
  refine own_Ok.ite (fun _ => ?_) fun z => absurd rs3 z
  refine own_Ok.bind (own_td fi hR' hT htw.2 k q hkT hr r1 r2 (fun j r' a b => ⟨hq j r' a b, bnd j r' b⟩) bnd) fun c hc => ?_
  subst hc
  rw [own_sw1 k tw k (Nat.le_refl _) r.2.2 r.1 r1 (by omega)]
  refine own_Ok.ite (fun _ => ?_) fun z => absurd rfl z
  refine own_Ok.bind (own_td fi hR' hT htw.2 T (R.length - 1) (Nat.le_refl _) hrl (by omega) (by omega) (fun j r' a b => by
    have := (List.getElem?_eq_some_iff.mp b).1
    omega) bnd) fun c hc => ?_
  subst hc
  have e1 : Int32.ofNat R.length - 1 = Int32.ofNat (R.length - 1) := own_isb R.length 1 (by omega) (by omega)
  rw [e1, ← hv22]
  refine own_Ok.ite (fun _ => ?_) fun z => absurd rfl z
  have e2 : Int32.ofNat (k - r.1) + Int32.ofNat tw - 1 = Int32.ofNat (k - r.1 + tw - 1) := by
    rw [← Int32.ofNat_add]; exact own_isb _ 1 (by omega) (by omega)
  rw [e2]
  refine own_Ok.bind (own_fd fi hR' hT htw q hr r1 r3 r2 1 (Or.inr rfl)) fun c hc => ?_
  subst hc
  have e3 : (if tw = 1 ∨ (1 : Int32) = 0 then Int32.ofNat k else Int32.ofNat (k + 1)) = if tw = 1 then Int32.ofNat k else Int32.ofNat (k + 1) := by
    by_cases z : tw = 1
    · rw [if_pos (Or.inl z), if_pos z]
    · rw [if_neg (fun e => by rcases e with e | e; exact z e; exact absurd e (by decide)), if_neg z]
  rw [e3]
  refine own_Ok.ite (fun _ => ?_) fun z => absurd rfl z
  refine own_Ok.bind (own_fd fi hR' hT htw q hr r1 r3 r2 0 (Or.inl rfl)) fun c hc => ?_
  subst hc
  rw [if_pos (Or.inr rfl)]
  refine own_Ok.ite (fun _ => ?_) fun z => absurd rfl z
  unfold f_law_561
  exact own_Ok.ret (by decide)
theorem own_352 {k n tw : Nat} (hk : k ≤ 7) (hn : n ≤ 7) (v1 : 1 ≤ tw) (v2 : tw ≤ 8) {s : St} {v10 v11 v12 v13 v14 v15 v16 v17 t0 : Int32} (h : own_Ok (fun N => f_law_378 N (Int32.ofNat k) (Int32.ofNat tw) v10 v11 v12 v13 v14 v15 v16 v17 t0 (Int32.ofNat (k + 1 + n)) (if tw = 1 then Int32.ofNat k else Int32.ofNat (k + 1)) s) (· = 1)) : own_Ok (fun N => f_law_352 N (Int32.ofNat k) (Int32.ofNat n) (Int32.ofNat tw) v10 v11 v12 v13 v14 v15 v16 v17 t0 s) (· = 1) := by
  unfold f_law_352
  refine own_Ok.let ?_
  rw [ofN_succ, ← Int32.ofNat_add]
  refine own_Ok.ite (fun q => ?_) fun q => ?_
  · have q := (ofN_eqL (m := 1) (by omega) (by decide)).mp q
    rw [if_pos q] at h; exact h
  · have q : ¬ tw = 1 := fun e => q ((ofN_eqL (m := 1) (by omega) (by decide)).mpr e)
    rw [if_neg q] at h; exact h
theorem own_150 {s : St} {k n tab wrap : Nat} (h : own_In s (k + 1 + n) k tab wrap) (hk : k ≤ 7) (hn : n ≤ 7) (ht : 1 ≤ tab ∧ tab ≤ 8) (hw : 8 ≤ wrap ∧ wrap ≤ 32) : own_Ok (fun N => f_law_150 N (Int32.ofNat k) (Int32.ofNat n) (Int32.ofNat tab) (Int32.ofNat wrap) s) (· = 1) := by
  obtain ⟨tw, htw⟩ : ∃ tw, tw = tab - k % tab := ⟨_, rfl⟩
  have mt : k % tab < tab := Nat.mod_lt _ (by omega)
  obtain ⟨hL, h0, h1, h2, h3, h4, hx⟩ := h
  have X : own_Tx s k n tab wrap := ⟨hL, h0, h1, h2, h3, hx⟩
  obtain ⟨u, eu, R, sh, st, wd, cnt, lc, lo⟩ := own_lay X hk hn ht hw htw
  obtain ⟨uL, u0, u4, u5, u6, u7, u8, u9, u10, u11, uE, uR⟩ := lo
  have en : Ev (fun N => f_ensureLayout N s) (sI u 4 0) := by
    refine Ev.congr (g := fun N => (f_layout N s).bind fun c2 => lt (sI c2 4 0) fun s3 => some s3) (fun N => ?_) (Ev.bind eu (Ev.const rfl))
    unfold f_ensureLayout f_ensureLayout_16
    rw [h4, if_neg (by decide)]
  have fi : own_Fi (sI u 4 0) k tw (k + 1 + n) R := ⟨(u4 0 (by decide)).trans h0, (u4 1 (by decide)).trans h1, rfl, u6, uE, uR⟩
  have em : Int32.ofNat k % Int32.ofNat tab = Int32.ofNat (k % tab) := by
    rw [x32_eq, Int32.toInt_mod, ofN_int (by omega), ofN_int (by omega), ofN_int (by omega), Int.tmod_eq_emod_of_nonneg (by omega)]; rfl
  unfold f_law_150
  refine own_Ok.ite (fun q => by have := (ofN_eqL (m := 0) (by omega) (by decide)).mp q; omega) fun _ => ?_
  refine own_Ok.let ?_
  rw [em, own_isb tab (k % tab) (by omega) (by omega), ← htw, ← Int32.ofNat_add]
  refine own_Ok.let ?_
  have v1 : 1 ≤ tw := by omega
  have v2 : tw ≤ 8 := by omega
  unfold f_law_230
  rcases sh with ⟨a1, a2, rfl⟩ | ⟨a1, fit, rest, f1, f2, f3, rfl⟩ | ⟨a1, a2, rfl⟩ | ⟨a1, fit, rest, f1, f2, f3, rfl⟩
  · refine own_Ok.ite (fun q => by have := (own_ltN (by omega) (by omega)).mp q; omega) fun _ => ?_
    refine own_Ok.let ?_
    rw [own_isb wrap (k + tw) (by omega) a1]
    have go : own_Ok (fun N => f_law_251 N (Int32.ofNat k) (Int32.ofNat n) (Int32.ofNat tw) 1 (Int32.ofNat (k + tw)) (-1) (-1) (-1) (-1) 0 (Int32.ofNat k) (Int32.ofNat n) s) (· = 1) := by
      unfold f_law_251
      refine own_Ok.let ?_
      rw [own_isb n n (by omega) (Nat.le_refl _), Nat.sub_self]
      refine own_Ok.ite (fun _ => ?_) fun q => absurd rfl q
      refine own_Ok.let ?_
      unfold f_law_282
      refine own_Ok.ite (fun q => absurd q (by decide)) fun _ => ?_
      unfold f_law_328
      refine own_Ok.ite (fun _ => ?_) fun q => absurd rfl q
      rw [← Int32.ofNat_add]
      refine own_352 hk hn v1 v2 ?_
      have sw := own_sw2 k tw (k + 1 + n) (k + 1 + n) 0 (by omega)
      rw [if_pos (by omega), if_pos (by omega)] at sw
      have := own_378 en fi h0 ⟨(by decide : 1 ≤ 1), (by decide : 1 ≤ 3)⟩ (by omega) ⟨v1, by omega⟩ (by omega) rfl (fun j r' hj => by
        match j, hj with
        | 0, hj => cases hj; exact (by decide : 0 < 1000)) 0 rfl (Nat.zero_le _) (by show k < 0 + (k + 1 + n); omega) (by show 0 + (k + 1 + n) ≤ _; omega) (fun j r' a b => by
        match j, a, b with
        | j + 1, _, b => cases b) rfl (by show 0 + (k + 1 + n) = _; omega) (k + tw + n) (by show _ = own_sw k tw (k + 1 + n) 0 (k + 1 + n); omega)
      exact this
    refine own_Ok.ite (fun _ => go) fun q => ?_
    have q : ¬ n < wrap - (k + tw) := fun e => q ((own_ltN (by omega) (by omega)).mpr e)
    rw [show wrap - (k + tw) = n by omega]
    exact go
  · refine own_Ok.ite (fun q => by have := (own_ltN (by omega) (by omega)).mp q; omega) fun _ => ?_
    refine own_Ok.let ?_
    rw [own_isb wrap (k + tw) (by omega) a1, show wrap - (k + tw) = fit by omega]
    refine own_Ok.ite (fun q => by have := (own_ltN (by omega) (by omega)).mp q; omega) fun _ => ?_
    unfold f_law_251
    refine own_Ok.let ?_
    rw [own_isb n fit (by omega) (by omega), show n - fit = rest by omega]
    refine own_Ok.ite (fun _ => ?_) fun q => absurd rfl q
    refine own_Ok.let ?_
    unfold f_law_282
    refine own_Ok.ite (fun _ => ?_) fun q => absurd ((ofN_gtL (m := 0) (by omega) (by decide)).mpr (by omega)) q
    refine own_Ok.ite (fun _ => ?_) fun q => absurd rfl q
    refine own_Ok.let ?_
    unfold f_law_328
    refine own_Ok.ite (fun q => absurd q (by decide)) fun _ => ?_
    refine own_Ok.ite (fun _ => ?_) fun q => absurd rfl q
    rw [ofN_succ, ← Int32.ofNat_add, ← Int32.ofNat_add]
    refine own_352 hk hn v1 v2 ?_
    have sw := own_sw2 k tw (k + 1 + n) rest (k + 1 + fit) (by omega)
    rw [if_neg (by omega), if_neg (by omega)] at sw
    have := own_378 en fi h0 ⟨(by decide : 1 ≤ 2), (by decide : 2 ≤ 3)⟩ (by omega) ⟨v1, by omega⟩ (by omega) rfl (fun j r' hj => by
      match j, hj with
      | 0, hj => cases hj; exact (by decide : 0 < 1000)
      | 1, hj => cases hj; show k + 1 + fit < 1000; omega) 0 rfl (Nat.zero_le _) (by show k < 0 + (k + 1 + fit); omega) (by show 0 + (k + 1 + fit) ≤ _; omega) (fun j r' a b => by
      match j, a, b with
      | 1, _, b => cases b; show k < k + 1 + fit; omega
      | j + 2, _, b => cases b) rfl (by show k + 1 + fit + rest = _; omega) rest (by show _ = own_sw k tw (k + 1 + n) (k + 1 + fit) rest; omega)
    exact this
  · refine own_Ok.ite (fun _ => ?_) fun q => absurd ((own_ltN (by omega) (by omega)).mpr a1) q
    refine own_Ok.let ?_
    rw [own_isb wrap tw (by omega) (by omega)]
    have go : own_Ok (fun N => f_law_251 N (Int32.ofNat k) (Int32.ofNat n) (Int32.ofNat tw) 2 (Int32.ofNat k) (Int32.ofNat k) (Int32.ofNat tw) (-1) (-1) 1 0 (Int32.ofNat n) s) (· = 1) := by
      unfold f_law_251
      refine own_Ok.let ?_
      rw [own_isb n n (by omega) (Nat.le_refl _), Nat.sub_self]
      refine own_Ok.ite (fun q => absurd q (by decide)) fun _ => ?_
      refine own_Ok.let ?_
      unfold f_law_282
      refine own_Ok.ite (fun q => absurd q (by decide)) fun _ => ?_
      unfold f_law_328
      refine own_Ok.ite (fun q => absurd q (by decide)) fun _ => ?_
      refine own_Ok.ite (fun _ => ?_) fun q => absurd rfl q
      rw [← Int32.ofNat_add]
      refine own_352 hk hn v1 v2 ?_
      have sw := own_sw2 k tw (k + 1 + n) (1 + n) k (by omega)
      rw [if_pos (by omega), if_pos (by omega)] at sw
      have := own_378 en fi h0 ⟨(by decide : 1 ≤ 2), (by decide : 2 ≤ 3)⟩ (by omega) ⟨v1, by omega⟩ (by omega) rfl (fun j r' hj => by
        match j, hj with
        | 0, hj => cases hj; exact (by decide : 0 < 1000)
        | 1, hj => cases hj; show k < 1000; omega) 1 rfl (Nat.le_refl _) (by show k < k + (1 + n); omega) (by show k + (1 + n) ≤ _; omega) (fun j r' a b => by
        match j, a, b with
        | j + 2, _, b => cases b) rfl (by show k + (1 + n) = _; omega) (tw + n) (by show _ = own_sw k tw (k + 1 + n) k (1 + n); omega)
      rw [show k - ((k, tw + n, 1 + n) : Nat × Nat × Nat).1 = 0 from Nat.sub_self k] at this
      exact this
    refine own_Ok.ite (fun _ => go) fun q => ?_
    have q : ¬ n < wrap - tw := fun e => q ((own_ltN (by omega) (by omega)).mpr e)
    rw [show wrap - tw = n by omega]
    exact go
  · refine own_Ok.ite (fun _ => ?_) fun q => absurd ((own_ltN (by omega) (by omega)).mpr a1) q
    refine own_Ok.let ?_
    rw [own_isb wrap tw (by omega) (by omega), show wrap - tw = fit by omega]
    refine own_Ok.ite (fun q => by have := (own_ltN (by omega) (by omega)).mp q; omega) fun _ => ?_
    unfold f_law_251
    refine own_Ok.let ?_
    rw [own_isb n fit (by omega) (by omega), show n - fit = rest by omega]
    refine own_Ok.ite (fun q => absurd q (by decide)) fun _ => ?_
    refine own_Ok.let ?_
    unfold f_law_282
    refine own_Ok.ite (fun _ => ?_) fun q => absurd ((ofN_gtL (m := 0) (by omega) (by decide)).mpr (by omega)) q
    refine own_Ok.ite (fun q => absurd q (by decide)) fun _ => ?_
    refine own_Ok.let ?_
    unfold f_law_328
    refine own_Ok.ite (fun q => absurd q (by decide)) fun _ => ?_
    refine own_Ok.ite (fun q => absurd q (by decide)) fun _ => ?_
    rw [ofN_succ, ← Int32.ofNat_add, ← Int32.ofNat_add]
    refine own_352 hk hn v1 v2 ?_
    have sw := own_sw2 k tw (k + 1 + n) rest (k + 1 + fit) (by omega)
    rw [if_neg (by omega), if_neg (by omega)] at sw
    have := own_378 en fi h0 ⟨(by decide : 1 ≤ 3), (by decide : 3 ≤ 3)⟩ (by omega) ⟨v1, by omega⟩ (by omega) rfl (fun j r' hj => by
      match j, hj with
      | 0, hj => cases hj; exact (by decide : 0 < 1000)
      | 1, hj => cases hj; show k < 1000; omega
      | 2, hj => cases hj; show k + 1 + fit < 1000; omega) 1 rfl (Nat.le_refl _) (by show k < k + (1 + fit); omega) (by show k + (1 + fit) ≤ _; omega) (fun j r' a b => by
      match j, a, b with
      | 2, _, b => cases b; show k < k + 1 + fit; omega
      | j + 3, _, b => cases b) rfl (by show k + 1 + fit + rest = _; omega) rest (by show _ = own_sw k tw (k + 1 + n) (k + 1 + fit) rest; omega)
    rw [show k - ((k, tw + fit, 1 + fit) : Nat × Nat × Nat).1 = 0 from Nat.sub_self k] at this
    exact this
theorem owed (p0 p1 p2 p3 : Int32) : ∃ fu, f_law fu p0 p1 p2 p3 = some 1 := by
  suffices h : own_Ok (fun N => f_law N p0 p1 p2 p3) (· = 1) by
    obtain ⟨r, h1, rfl⟩ := h
    exact h1.get
  obtain ⟨tab, t1, t2, et, ft⟩ := own_clT p0
  obtain ⟨wrap, w1, w2, ew, fw⟩ := own_clW p1
  obtain ⟨k, hk, ek⟩ := and_natL p2 7 (by decide)
  obtain ⟨n, hn, en⟩ := and_natL p3 7 (by decide)
  have ek : p2 &&& 7 = Int32.ofNat k := ek
  have en : p3 &&& 7 = Int32.ofNat n := en
  have i0 : ∃ s, f_init p0 p1 = some s ∧ own_In s 0 k tab wrap := by
    unfold f_init lt
    dsimp only
    rw [et, Option.bind_some, ew, Option.bind_some]
    refine ⟨_, rfl, fun j hj => ?_, rfl, rfl, rfl, rfl, rfl, fun i hi => absurd hi (Nat.not_lt_zero _)⟩
    have : j = 0 ∨ j = 1 ∨ j = 2 ∨ j = 3 ∨ j = 4 ∨ j = 5 ∨ j = 6 ∨ j = 7 ∨ j = 8 ∨ j = 9 := by omega
    rcases this with rfl | rfl | rfl | rfl | rfl | rfl | rfl | rfl | rfl | rfl <;> (show List.length (List.replicate _ _) = _; rw [List.length_replicate]; rfl)
  obtain ⟨s0, e0, I0⟩ := i0
  have fin : ∀ s, own_In s (k + 1 + n) k tab wrap → own_Ok (fun N => if p0 < 1 then f_law_125 N p1 (Int32.ofNat k) (Int32.ofNat n) 1 s else if 8 < p0 then f_law_125 N p1 (Int32.ofNat k) (Int32.ofNat n) 8 s else f_law_125 N p1 (Int32.ofNat k) (Int32.ofNat n) p0 s) (· = 1) := fun s h => by
    refine own_Ok.congr (fun N => ft fun x => f_law_125 N p1 (Int32.ofNat k) (Int32.ofNat n) x s) ?_
    unfold f_law_125
    refine own_Ok.congr (fun N => fw fun x => f_law_150 N (Int32.ofNat k) (Int32.ofNat n) (Int32.ofNat tab) x s) ?_
    exact own_150 h hk hn ⟨t1, t2⟩ ⟨w1, w2⟩
  have l69 : ∀ (m j : Nat) (s : St), j + m = 8 → own_In s (k + 1 + min j n) k tab wrap → own_Ok (fun N => f_law_69 N p0 p1 (Int32.ofNat k) (Int32.ofNat n) (Int32.ofNat j) s) (· = 1) := by
    intro m
    induction m with
    | zero =>
      intro j s hj h
      refine own_Ok.step (g := fun N => g_law_69 (f_law_69 N) N p0 p1 (Int32.ofNat k) (Int32.ofNat n) (Int32.ofNat j) s) (fun n => rfl) ?_
      unfold g_law_69
      refine own_Ok.ite (fun q => by have := (ofN_ltL (m := 8) (by omega) (by decide)).mp q; omega) fun _ => ?_
      rw [show min j n = n by omega] at h
      exact fin s h
    | succ m ih =>
      intro j s hj h
      refine own_Ok.step (g := fun N => g_law_69 (f_law_69 N) N p0 p1 (Int32.ofNat k) (Int32.ofNat n) (Int32.ofNat j) s) (fun n => rfl) ?_
      unfold g_law_69 f_law_98
      refine own_Ok.ite (fun _ => ?_) fun q => absurd ((ofN_ltL (m := 8) (by omega) (by decide)).mpr (by omega)) q
      refine own_Ok.ite (fun q => ?_) fun q => ?_
      · have q := (own_ltN (by omega) (by omega)).mp q
        rw [ofN_succ, ← Int32.ofNat_add]
        rw [show min j n = j by omega] at h
        refine own_Ok.bind (own_ins h (by omega) 98 (by rw [if_neg (by omega), if_neg (by omega)])) fun r hr => ?_
        refine own_Ok.let ?_
        rw [ofN_succ]
        refine ih (j + 1) _ (by omega) ?_
        rw [show k + 1 + min (j + 1) n = k + 1 + j + 1 by omega]; exact hr
      · have q : ¬ j < n := fun e => q ((own_ltN (by omega) (by omega)).mpr e)
        refine own_Ok.let ?_
        rw [ofN_succ]
        refine ih (j + 1) s (by omega) ?_
        rw [show min (j + 1) n = min j n by omega]; exact h
  have l26 : ∀ (m j : Nat) (s : St), j + m = 8 → own_In s (min j k) k tab wrap → own_Ok (fun N => f_law_26 N p0 p1 (Int32.ofNat k) (Int32.ofNat n) (Int32.ofNat j) s) (· = 1) := by
    intro m
    induction m with
    | zero =>
      intro j s hj h
      refine own_Ok.step (g := fun N => g_law_26 (f_law_26 N) N p0 p1 (Int32.ofNat k) (Int32.ofNat n) (Int32.ofNat j) s) (fun n => rfl) ?_
      unfold g_law_26
      refine own_Ok.ite (fun q => by have := (ofN_ltL (m := 8) (by omega) (by decide)).mp q; omega) fun _ => ?_
      rw [show min j k = k by omega] at h
      refine own_Ok.bind (own_ins h (by omega) 9 (by rw [if_neg (by omega), if_pos rfl])) fun r hr => ?_
      exact l69 8 0 r.2 (by omega) (by rw [Nat.zero_min, Nat.add_zero]; exact hr)
    | succ m ih =>
      intro j s hj h
      refine own_Ok.step (g := fun N => g_law_26 (f_law_26 N) N p0 p1 (Int32.ofNat k) (Int32.ofNat n) (Int32.ofNat j) s) (fun n => rfl) ?_
      unfold g_law_26 f_law_50
      refine own_Ok.ite (fun _ => ?_) fun q => absurd ((ofN_ltL (m := 8) (by omega) (by decide)).mpr (by omega)) q
      refine own_Ok.ite (fun q => ?_) fun q => ?_
      · have q := (own_ltN (by omega) (by omega)).mp q
        rw [show min j k = j by omega] at h
        refine own_Ok.bind (own_ins h (by omega) 97 (by rw [if_pos (by omega)])) fun r hr => ?_
        refine own_Ok.let ?_
        rw [ofN_succ]
        refine ih (j + 1) _ (by omega) ?_
        rw [show min (j + 1) k = j + 1 by omega]; exact hr
      · have q : ¬ j < k := fun e => q ((own_ltN (by omega) (by omega)).mpr e)
        refine own_Ok.let ?_
        rw [ofN_succ]
        refine ih (j + 1) s (by omega) ?_
        rw [show min (j + 1) k = min j k by omega]; exact h
  unfold f_law
  rw [e0]
  refine own_Ok.some_bind ?_
  refine own_Ok.let ?_
  refine own_Ok.let ?_
  rw [ek, en]
  exact l26 8 0 s0 (by omega) (by rw [Nat.zero_min]; exact I0)

set_option maxRecDepth 65536 in
set_option maxHeartbeats 40000000 in
theorem comes_1 {Post : Tables → Env → Array Value → State → Outcome → State → Prop} (hpost : ∀ tb e args s v u, (limb_1_1.after args s (.returned v) u = true ∧ limb_1_2.after args s (.returned v) u = true ∧ True) → FrameEnd s (.returned v) u (Jvm.fieldLocs frame_1_writes args s ++ Jvm.arrayLocs frame_1_arrays args s ++ Jvm.staticLocs frame_1_statics s) 32 4288 → Post tb e args s (.returned v) u) :
    ArmFor flags0 classFile x code maxLocals ret World_1 tables_1 room_1 Calls_1 rest_1 Pre_1 Post := by
  intro l hfl _ _ p e ha hc hk s m args below hf hA hF happ hP
  obtain ⟨hcalls, hrest, hpre⟩ := hP
  obtain ⟨-, -, -, hnamed, -, -, -, hat⟩ := (Spec.applies_iff hf).mp happ
  obtain ⟨hg, hn⟩ := and_e (Cond.before_iff.mp (show (Jvm.Cond.and given_1 narrow_1).before args s = true from hpre))
  obtain ⟨g0, q0⟩ := and_e hg
  obtain ⟨w0, w1, w2, w3, rfl⟩ : ∃ w0 w1 w2 w3 : Value, args = #[w0, w1, w2, w3] := by
    have hs : args.size = 4 := by simpa [Cond.value, given_1] using g0
    obtain ⟨L⟩ := args
    match L, hs with
    | [w0, w1, w2, w3], _ => exact ⟨w0, w1, w2, w3, rfl⟩
  have hw := fun d (hd : d ∈ tables_1) => atoms_spec (ws := Jvm.Cond.code x code maxLocals ret :: tables_1) hat d (List.mem_cons_of_mem _ hd)
  obtain ⟨h0, q1⟩ := and_e q0
  obtain ⟨i0, e0⟩ := is_v h0
  obtain rfl : w0 = (.int i0) := Option.some.inj e0
  obtain ⟨h1, q2⟩ := and_e q1
  obtain ⟨i1, e1⟩ := is_v h1
  obtain rfl : w1 = (.int i1) := Option.some.inj e1
  obtain ⟨h2, q3⟩ := and_e q2
  obtain ⟨i2, e2⟩ := is_v h2
  obtain rfl : w2 = (.int i2) := Option.some.inj e2
  obtain ⟨i3, e3⟩ := is_v q3
  obtain rfl : w3 = (.int i3) := Option.some.inj e3
  obtain ⟨fu, hfu⟩ := owed i0 i1 i2 i3
  obtain ⟨n, o, h1, h2, h3, _, L, rfl, ⟨w, H', rfl, hv, -, -, N⟩, hq⟩ := okLAW l s _ hw fu i0 i1 i2 i3 1 hfu tables_1 s.heap.size _ s.heap (HR.start0 s CN lay) p e ha hc hk s m _ below hf ((Spec.applies_iff_loose hf).mp happ).1 ⟨rfl, State.Warmed39.refl s, rfl⟩ trivial
  obtain rfl : w = some (.int 1) := hv
  refine ⟨n, _, h1, h2, h3, hpost _ _ _ _ _ _ ⟨Cond.after_iff.mpr rfl, Cond.after_iff.mpr (eq_i res_at (Term.int_eval (1)) rfl), trivial⟩ ⟨hq.1, hq.2.1, (hq.2.2.sift fun y hy => Or.inr (N y hy)).mono (by decide) (by decide)⟩⟩
theorem main_1_1 : Claimed_1_1 := comes_1 fun _ _ _ _ _ _ h hF => ⟨h.1, hF⟩
theorem main_1_2 : Claimed_1_2 := comes_1 fun _ _ _ _ _ _ h hF => ⟨h.2.1, hF⟩

end Jvm.Pilot.@@N@@
namespace Jvm.Pilot.@@N@@
open Jvm Jvm.ClassFile Sem Op Lib Jvm.Free Jvm.Stand Jvm.Pilot.@@N@@.Jvm.D
/-! MADE BY PROGRAM (witnessworld.py) out of the Statement's table words and the real class files: 9 classes; the members and pool entries that the words name. The judged class is class 1, her method 1. -/
namespace start1
open Jvm.ClassFile
def u (s : String) : CpInfo := .utf8 (stringToUtf16 s)
/-- a pool by its gaps: so many unusable entries, then the entry; so many at the end -/
def gap : Nat → List CpInfo → List CpInfo
  | 0, r => r
  | n + 1, r => .unusable :: gap n r
def poolList (es : List (Nat × CpInfo)) (last : Nat) : List CpInfo := es.foldr (fun e r => gap e.1 (e.2 :: r)) (gap last [])
def pool (es : List (Nat × CpInfo)) (last : Nat) : Array CpInfo := ⟨poolList es last⟩
def fileOf (pool : Array CpInfo) (this : Nat) (attrs : Array Attribute := #[]) (ms : Array MethodInfo := #[]) (fl : Nat := 33) (sup : Nat := 0) (ifs : Array Nat := #[]) (fds : Array FieldInfo := #[]) : ClassFile where
  minorVersion := 0
  majorVersion := 65
  constantPool := pool
  accessFlags := fl
  thisClass := this
  superClass := sup
  interfaces := ifs
  fields := fds
  methods := ms
  attributes := attrs
def plain (name : String) (sup : Option ClassId) : Class where
  name := name
  kind := .ordinary
  loader := none
  accessFlags := 33
  super := sup
  interfaces := #[]
  cf := none
  fields := #[]
  methods := #[]
  instanceTypes := #[]
  staticTypes := #[]
  resolved := #[]
  callSites := []
  init := .initialized
  statics := none
  mirror := none

def pool0 : Array CpInfo := pool [(5, u "<init>"), (0, u "()V"), (1, .class_ 10), (1, u "java/lang/Object")] 113

def k0c0 : Code := { maxStack := 0, maxLocals := 1, code := object_method_1_code, exceptionTable := #[], attributes := #[] }
def k0m0 : Method := { name := "<init>", desc := "()V", sig := { parameters := [], returnType := none }, accessFlags := 1, code := some k0c0 }
/-- java/lang/Object -/
def k0 : Class := { plain "java/lang/Object" none with
  accessFlags := 33
  interfaces := #[]
  cf := some (fileOf pool0 8 #[] #[{ accessFlags := 1, nameIndex := 5, descriptorIndex := 6, attributes := #[] }] 33 0 #[] #[])
  fields := #[]
  methods := #[k0m0]
  instanceTypes := #[]
  staticTypes := #[]
  resolved := Array.replicate 124 none
  statics := none }

def pool1 : Array CpInfo := pool [(2, .class_ 4), (1, u "java/lang/Object"), (0, u "<init>"), (0, u "()V"), (0, .class_ 8), (0, u "DisplayMap"), (0, .methodref 7 10), (0, .nameAndType 5 11), (0, u "(II)V"), (0, .methodref 7 13), (0, .nameAndType 14 15), (0, u "insert"), (0, u "(II)Z"), (0, .methodref 7 17), (0, .nameAndType 18 19), (0, u "length"), (0, u "()I"), (0, .methodref 7 21), (0, .nameAndType 22 19), (0, u "rowCount"), (0, .methodref 7 24), (0, .nameAndType 25 26), (0, u "rowStart"), (0, u "(I)I"), (0, .methodref 7 28), (0, .nameAndType 29 26), (0, u "rowWidth"), (0, .methodref 7 31), (0, .nameAndType 32 33), (0, u "toDisplay"), (0, u "(II)I"), (0, .methodref 7 35), (0, .nameAndType 36 37), (0, u "fromDisplay"), (0, u "(III)I"), (0, .class_ 39), (0, u "DisplayMapL3"), (2, u "law"), (0, u "(IIII)Z")] 3

def k1m0 : Method := { name := "<init>", desc := "()V", sig := { parameters := [], returnType := none }, accessFlags := 1, code := none }
def k1c1 : Code := { maxStack := 4, maxLocals := 25, code := code, exceptionTable := #[], attributes := #[] }
def k1m1 : Method := { name := "law", desc := "(IIII)Z", sig := { parameters := [.int, .int, .int, .int], returnType := some .boolean }, accessFlags := 9, code := some k1c1 }
/-- DisplayMapL3 -/
def k1 : Class := { plain "DisplayMapL3" (some 0) with
  accessFlags := 49
  interfaces := #[]
  cf := some (fileOf pool1 38 #[] #[{ accessFlags := 1, nameIndex := 5, descriptorIndex := 6, attributes := #[] }, { accessFlags := 9, nameIndex := 42, descriptorIndex := 43, attributes := #[] }] 49 2 #[] #[])
  fields := #[]
  methods := #[k1m0, k1m1]
  instanceTypes := #[]
  staticTypes := #[]
  resolved := Array.replicate 47 none
  statics := none }

def pool2 : Array CpInfo := pool [(1, .methodref 2 3), (0, .class_ 4), (0, .nameAndType 5 6), (0, u "java/lang/Object"), (0, u "<init>"), (0, u "()V"), (0, .fieldref 8 9), (0, .class_ 10), (0, .nameAndType 11 12), (0, u "DisplayMap"), (0, u "text"), (0, u "[I"), (0, .fieldref 8 14), (0, .nameAndType 15 12), (0, u "foldS"), (0, .fieldref 8 17), (0, .nameAndType 18 12), (0, u "foldE"), (0, .fieldref 8 20), (0, .nameAndType 21 12), (0, u "elStart"), (0, .fieldref 8 23), (0, .nameAndType 24 12), (0, u "elEnd"), (0, .fieldref 8 26), (0, .nameAndType 27 12), (0, u "elWidth"), (0, .fieldref 8 29), (0, .nameAndType 30 12), (0, u "rowS"), (0, .fieldref 8 32), (0, .nameAndType 33 12), (0, u "rowW"), (0, .fieldref 8 35), (0, .nameAndType 36 12), (0, u "rowFirst"), (0, .fieldref 8 38), (0, .nameAndType 39 12), (0, u "rowNum"), (0, .methodref 8 41), (0, .nameAndType 42 43), (0, u "clampTab"), (0, u "(I)I"), (0, .fieldref 8 45), (0, .nameAndType 46 47), (0, u "tabSize"), (0, u "I"), (0, .methodref 8 49), (0, .nameAndType 50 43), (0, u "clampWrap"), (0, .fieldref 8 52), (0, .nameAndType 53 47), (0, u "wrapWidth"), (0, .fieldref 8 55), (0, .nameAndType 56 47), (0, u "len"), (0, .fieldref 8 58), (0, .nameAndType 59 47), (0, u "foldN"), (0, .fieldref 8 61), (0, .nameAndType 62 63), (0, u "dirty"), (0, u "Z"), (0, .methodref 8 65), (0, .nameAndType 66 67), (0, u "validChar"), (0, u "(I)Z"), (3, u "(II)Z"), (0, .methodref 8 73), (0, .nameAndType 74 6), (0, u "ensureLayout"), (0, .fieldref 8 76), (0, .nameAndType 77 47), (0, u "rowN"), (0, .methodref 8 79), (0, .nameAndType 80 81), (0, u "snapOutOfFold"), (0, u "(II)I"), (3, .methodref 8 86), (0, .nameAndType 87 6), (0, u "layout"), (0, .fieldref 8 89), (0, .nameAndType 90 47), (0, u "elCount"), (0, .methodref 8 92), (0, .nameAndType 93 94), (0, u "openRow"), (0, u "(I)V"), (0, .fieldref 8 96), (0, .nameAndType 97 47), (0, u "curCol"), (0, .methodref 8 99), (0, .nameAndType 100 43), (0, u "foldStartingAt"), (0, .methodref 8 102), (0, .nameAndType 103 104), (0, u "addElement"), (0, u "(III)V"), (0, .methodref 8 106), (0, .nameAndType 107 6), (0, u "closeRow"), (0, .fieldref 8 109), (0, .nameAndType 110 47), (0, u "curStart"), (0, .fieldref 8 112), (0, .nameAndType 113 47), (0, u "curWidth"), (0, .fieldref 8 115), (0, .nameAndType 116 47), (0, u "curFirst"), (0, .fieldref 8 118), (0, .nameAndType 119 47), (0, u "curNum"), (0, u "BIAS_LEFT"), (2, u "BIAS_RIGHT"), (1, u "FOLD_WIDTH"), (1, u "MAX_LENGTH"), (1, u "MAX_FOLDS"), (1, u "NONE"), (1, u "POINT_SHIFT"), (0, u "MAX_ROWS"), (1, u "(II)V"), (2, u "insert"), (6, u "length"), (0, u "()I"), (4, u "rowCount"), (0, u "rowStart"), (0, u "rowWidth"), (0, u "toDisplay"), (0, u "fromDisplay"), (0, u "(III)I")] 2

def k2c0 : Code := { maxStack := 2, maxLocals := 3, code := prog_1_method_1_code, exceptionTable := #[], attributes := #[] }
def k2m0 : Method := { name := "<init>", desc := "(II)V", sig := { parameters := [.int, .int], returnType := none }, accessFlags := 1, code := some k2c0 }
def k2c1 : Code := { maxStack := 5, maxLocals := 4, code := prog_1_method_2_code, exceptionTable := #[], attributes := #[] }
def k2m1 : Method := { name := "insert", desc := "(II)Z", sig := { parameters := [.int, .int], returnType := some .boolean }, accessFlags := 1, code := some k2c1 }
def k2c2 : Code := { maxStack := 1, maxLocals := 1, code := prog_1_method_8_code, exceptionTable := #[], attributes := #[] }
def k2m2 : Method := { name := "length", desc := "()I", sig := { parameters := [], returnType := some .int }, accessFlags := 1, code := some k2c2 }
def k2c3 : Code := { maxStack := 1, maxLocals := 1, code := prog_1_method_13_code, exceptionTable := #[], attributes := #[] }
def k2m3 : Method := { name := "rowCount", desc := "()I", sig := { parameters := [], returnType := some .int }, accessFlags := 1, code := some k2c3 }
def k2c4 : Code := { maxStack := 2, maxLocals := 2, code := prog_1_method_14_code, exceptionTable := #[], attributes := #[] }
def k2m4 : Method := { name := "rowStart", desc := "(I)I", sig := { parameters := [.int], returnType := some .int }, accessFlags := 1, code := some k2c4 }
def k2c5 : Code := { maxStack := 2, maxLocals := 2, code := prog_1_method_15_code, exceptionTable := #[], attributes := #[] }
def k2m5 : Method := { name := "rowWidth", desc := "(I)I", sig := { parameters := [.int], returnType := some .int }, accessFlags := 1, code := some k2c5 }
def k2c6 : Code := { maxStack := 3, maxLocals := 9, code := prog_1_method_16_code, exceptionTable := #[], attributes := #[] }
def k2m6 : Method := { name := "toDisplay", desc := "(II)I", sig := { parameters := [.int, .int], returnType := some .int }, accessFlags := 1, code := some k2c6 }
def k2c7 : Code := { maxStack := 3, maxLocals := 9, code := prog_1_method_17_code, exceptionTable := #[], attributes := #[] }
def k2m7 : Method := { name := "fromDisplay", desc := "(III)I", sig := { parameters := [.int, .int, .int], returnType := some .int }, accessFlags := 1, code := some k2c7 }
def k2c8 : Code := { maxStack := 2, maxLocals := 1, code := prog_1_method_18_code, exceptionTable := #[], attributes := #[] }
def k2m8 : Method := { name := "clampTab", desc := "(I)I", sig := { parameters := [.int], returnType := some .int }, accessFlags := 10, code := some k2c8 }
def k2c9 : Code := { maxStack := 2, maxLocals := 1, code := prog_1_method_19_code, exceptionTable := #[], attributes := #[] }
def k2m9 : Method := { name := "clampWrap", desc := "(I)I", sig := { parameters := [.int], returnType := some .int }, accessFlags := 10, code := some k2c9 }
def k2c10 : Code := { maxStack := 2, maxLocals := 1, code := prog_1_method_20_code, exceptionTable := #[], attributes := #[] }
def k2m10 : Method := { name := "validChar", desc := "(I)Z", sig := { parameters := [.int], returnType := some .boolean }, accessFlags := 10, code := some k2c10 }
def k2c11 : Code := { maxStack := 3, maxLocals := 4, code := prog_1_method_22_code, exceptionTable := #[], attributes := #[] }
def k2m11 : Method := { name := "snapOutOfFold", desc := "(II)I", sig := { parameters := [.int, .int], returnType := some .int }, accessFlags := 2, code := some k2c11 }
def k2c12 : Code := { maxStack := 2, maxLocals := 3, code := prog_1_method_23_code, exceptionTable := #[], attributes := #[] }
def k2m12 : Method := { name := "foldStartingAt", desc := "(I)I", sig := { parameters := [.int], returnType := some .int }, accessFlags := 2, code := some k2c12 }
def k2c13 : Code := { maxStack := 2, maxLocals := 1, code := prog_1_method_25_code, exceptionTable := #[], attributes := #[] }
def k2m13 : Method := { name := "ensureLayout", desc := "()V", sig := { parameters := [], returnType := none }, accessFlags := 2, code := some k2c13 }
def k2c14 : Code := { maxStack := 6, maxLocals := 5, code := prog_1_method_26_code, exceptionTable := #[], attributes := #[] }
def k2m14 : Method := { name := "layout", desc := "()V", sig := { parameters := [], returnType := none }, accessFlags := 2, code := some k2c14 }
def k2c15 : Code := { maxStack := 2, maxLocals := 2, code := prog_1_method_27_code, exceptionTable := #[], attributes := #[] }
def k2m15 : Method := { name := "openRow", desc := "(I)V", sig := { parameters := [.int], returnType := none }, accessFlags := 2, code := some k2c15 }
def k2c16 : Code := { maxStack := 3, maxLocals := 1, code := prog_1_method_28_code, exceptionTable := #[], attributes := #[] }
def k2m16 : Method := { name := "closeRow", desc := "()V", sig := { parameters := [], returnType := none }, accessFlags := 2, code := some k2c16 }
def k2c17 : Code := { maxStack := 3, maxLocals := 4, code := prog_1_method_29_code, exceptionTable := #[], attributes := #[] }
def k2m17 : Method := { name := "addElement", desc := "(III)V", sig := { parameters := [.int, .int, .int], returnType := none }, accessFlags := 2, code := some k2c17 }
/-- DisplayMap -/
def k2 : Class := { plain "DisplayMap" (some 0) with
  accessFlags := 49
  interfaces := #[]
  cf := some (fileOf pool2 8 #[] #[{ accessFlags := 1, nameIndex := 5, descriptorIndex := 136, attributes := #[] }, { accessFlags := 1, nameIndex := 139, descriptorIndex := 71, attributes := #[] }, { accessFlags := 1, nameIndex := 146, descriptorIndex := 147, attributes := #[] }, { accessFlags := 1, nameIndex := 152, descriptorIndex := 147, attributes := #[] }, { accessFlags := 1, nameIndex := 153, descriptorIndex := 43, attributes := #[] }, { accessFlags := 1, nameIndex := 154, descriptorIndex := 43, attributes := #[] }, { accessFlags := 1, nameIndex := 155, descriptorIndex := 81, attributes := #[] }, { accessFlags := 1, nameIndex := 156, descriptorIndex := 157, attributes := #[] }, { accessFlags := 10, nameIndex := 42, descriptorIndex := 43, attributes := #[] }, { accessFlags := 10, nameIndex := 50, descriptorIndex := 43, attributes := #[] }, { accessFlags := 10, nameIndex := 66, descriptorIndex := 67, attributes := #[] }, { accessFlags := 2, nameIndex := 80, descriptorIndex := 81, attributes := #[] }, { accessFlags := 2, nameIndex := 100, descriptorIndex := 43, attributes := #[] }, { accessFlags := 2, nameIndex := 74, descriptorIndex := 6, attributes := #[] }, { accessFlags := 2, nameIndex := 87, descriptorIndex := 6, attributes := #[] }, { accessFlags := 2, nameIndex := 93, descriptorIndex := 94, attributes := #[] }, { accessFlags := 2, nameIndex := 107, descriptorIndex := 6, attributes := #[] }, { accessFlags := 2, nameIndex := 103, descriptorIndex := 104, attributes := #[] }] 49 2 #[] #[{ accessFlags := 25, nameIndex := 120, descriptorIndex := 47, attributes := #[] }, { accessFlags := 25, nameIndex := 123, descriptorIndex := 47, attributes := #[] }, { accessFlags := 25, nameIndex := 125, descriptorIndex := 47, attributes := #[] }, { accessFlags := 25, nameIndex := 127, descriptorIndex := 47, attributes := #[] }, { accessFlags := 25, nameIndex := 129, descriptorIndex := 47, attributes := #[] }, { accessFlags := 25, nameIndex := 131, descriptorIndex := 47, attributes := #[] }, { accessFlags := 25, nameIndex := 133, descriptorIndex := 47, attributes := #[] }, { accessFlags := 26, nameIndex := 134, descriptorIndex := 47, attributes := #[] }, { accessFlags := 18, nameIndex := 11, descriptorIndex := 12, attributes := #[] }, { accessFlags := 2, nameIndex := 56, descriptorIndex := 47, attributes := #[] }, { accessFlags := 18, nameIndex := 15, descriptorIndex := 12, attributes := #[] }, { accessFlags := 18, nameIndex := 18, descriptorIndex := 12, attributes := #[] }, { accessFlags := 2, nameIndex := 59, descriptorIndex := 47, attributes := #[] }, { accessFlags := 2, nameIndex := 46, descriptorIndex := 47, attributes := #[] }, { accessFlags := 2, nameIndex := 53, descriptorIndex := 47, attributes := #[] }, { accessFlags := 2, nameIndex := 62, descriptorIndex := 63, attributes := #[] }, { accessFlags := 18, nameIndex := 21, descriptorIndex := 12, attributes := #[] }, { accessFlags := 18, nameIndex := 24, descriptorIndex := 12, attributes := #[] }, { accessFlags := 18, nameIndex := 27, descriptorIndex := 12, attributes := #[] }, { accessFlags := 2, nameIndex := 90, descriptorIndex := 47, attributes := #[] }, { accessFlags := 18, nameIndex := 30, descriptorIndex := 12, attributes := #[] }, { accessFlags := 18, nameIndex := 33, descriptorIndex := 12, attributes := #[] }, { accessFlags := 18, nameIndex := 36, descriptorIndex := 12, attributes := #[] }, { accessFlags := 18, nameIndex := 39, descriptorIndex := 12, attributes := #[] }, { accessFlags := 2, nameIndex := 77, descriptorIndex := 47, attributes := #[] }, { accessFlags := 2, nameIndex := 110, descriptorIndex := 47, attributes := #[] }, { accessFlags := 2, nameIndex := 113, descriptorIndex := 47, attributes := #[] }, { accessFlags := 2, nameIndex := 116, descriptorIndex := 47, attributes := #[] }, { accessFlags := 2, nameIndex := 119, descriptorIndex := 47, attributes := #[] }, { accessFlags := 2, nameIndex := 97, descriptorIndex := 47, attributes := #[] }])
  fields := #[{ name := "BIAS_LEFT", type := .int, accessFlags := 25, slot := 0, constantValue := 0 }, { name := "BIAS_RIGHT", type := .int, accessFlags := 25, slot := 1, constantValue := 0 }, { name := "FOLD_WIDTH", type := .int, accessFlags := 25, slot := 2, constantValue := 0 }, { name := "MAX_LENGTH", type := .int, accessFlags := 25, slot := 3, constantValue := 0 }, { name := "MAX_FOLDS", type := .int, accessFlags := 25, slot := 4, constantValue := 0 }, { name := "NONE", type := .int, accessFlags := 25, slot := 5, constantValue := 0 }, { name := "POINT_SHIFT", type := .int, accessFlags := 25, slot := 6, constantValue := 0 }, { name := "MAX_ROWS", type := .int, accessFlags := 26, slot := 7, constantValue := 0 }, { name := "text", type := (.array .int), accessFlags := 18, slot := 0, constantValue := 0 }, { name := "len", type := .int, accessFlags := 2, slot := 1, constantValue := 0 }, { name := "foldS", type := (.array .int), accessFlags := 18, slot := 2, constantValue := 0 }, { name := "foldE", type := (.array .int), accessFlags := 18, slot := 3, constantValue := 0 }, { name := "foldN", type := .int, accessFlags := 2, slot := 4, constantValue := 0 }, { name := "tabSize", type := .int, accessFlags := 2, slot := 5, constantValue := 0 }, { name := "wrapWidth", type := .int, accessFlags := 2, slot := 6, constantValue := 0 }, { name := "dirty", type := .boolean, accessFlags := 2, slot := 7, constantValue := 0 }, { name := "elStart", type := (.array .int), accessFlags := 18, slot := 8, constantValue := 0 }, { name := "elEnd", type := (.array .int), accessFlags := 18, slot := 9, constantValue := 0 }, { name := "elWidth", type := (.array .int), accessFlags := 18, slot := 10, constantValue := 0 }, { name := "elCount", type := .int, accessFlags := 2, slot := 11, constantValue := 0 }, { name := "rowS", type := (.array .int), accessFlags := 18, slot := 12, constantValue := 0 }, { name := "rowW", type := (.array .int), accessFlags := 18, slot := 13, constantValue := 0 }, { name := "rowFirst", type := (.array .int), accessFlags := 18, slot := 14, constantValue := 0 }, { name := "rowNum", type := (.array .int), accessFlags := 18, slot := 15, constantValue := 0 }, { name := "rowN", type := .int, accessFlags := 2, slot := 16, constantValue := 0 }, { name := "curStart", type := .int, accessFlags := 2, slot := 17, constantValue := 0 }, { name := "curWidth", type := .int, accessFlags := 2, slot := 18, constantValue := 0 }, { name := "curFirst", type := .int, accessFlags := 2, slot := 19, constantValue := 0 }, { name := "curNum", type := .int, accessFlags := 2, slot := 20, constantValue := 0 }, { name := "curCol", type := .int, accessFlags := 2, slot := 21, constantValue := 0 }]
  methods := #[k2m0, k2m1, k2m2, k2m3, k2m4, k2m5, k2m6, k2m7, k2m8, k2m9, k2m10, k2m11, k2m12, k2m13, k2m14, k2m15, k2m16, k2m17]
  instanceTypes := #[(.array .int), .int, (.array .int), (.array .int), .int, .int, .int, .boolean, (.array .int), (.array .int), (.array .int), .int, (.array .int), (.array .int), (.array .int), (.array .int), .int, .int, .int, .int, .int, .int]
  staticTypes := #[.int, .int, .int, .int, .int, .int, .int, .int]
  resolved := Array.replicate 160 none
  statics := none }

def pool3 : Array CpInfo := pool [(1, u "java/lang/Cloneable"), (0, .class_ 1), (0, u "java/lang/Object"), (0, .class_ 3)] 3

/-- java/lang/Cloneable -/
def k3 : Class := { plain "java/lang/Cloneable" (some 0) with
  accessFlags := 1537
  interfaces := #[]
  cf := some (fileOf pool3 2 #[] #[] 1537 4 #[] #[])
  fields := #[]
  methods := #[]
  instanceTypes := #[]
  staticTypes := #[]
  resolved := Array.replicate 8 none
  statics := none }

def pool4 : Array CpInfo := pool [(1, u "java/io/Serializable"), (0, .class_ 1), (0, u "java/lang/Object"), (0, .class_ 3)] 3

/-- java/io/Serializable -/
def k4 : Class := { plain "java/io/Serializable" (some 0) with
  accessFlags := 1537
  interfaces := #[]
  cf := some (fileOf pool4 2 #[] #[] 1537 4 #[] #[])
  fields := #[]
  methods := #[]
  instanceTypes := #[]
  staticTypes := #[]
  resolved := Array.replicate 8 none
  statics := none }

/-- the primitive byte -/
def k5 : Class := { plain "byte" none with kind := .primitive 'B', accessFlags := 0x411 }
/-- [B -/
def k6 : Class := { plain "[B" (some 0) with kind := .array 5 .byte, interfaces := #[3, 4], accessFlags := 1041 }

/-- the primitive int -/
def k7 : Class := { plain "int" none with kind := .primitive 'I', accessFlags := 0x411 }
/-- [I -/
def k8 : Class := { plain "[I" (some 0) with kind := .array 7 .int, interfaces := #[3, 4], accessFlags := 1041 }

def heap : Heap := #[]
def classes : Array Class := #[k0, k1, k2, k3, k4, k5, k6, k7, k8]
def interned : List (Array UInt16 × Addr) := []
def slotsUsed : Nat := 0
def theMethod : MethodId := ⟨1, 1⟩
def args0 : Array Value := #[.int 1, .int 1, .int 1, .int 1]
def aboutOver (below : List Frame) : State where
  vm := { classes := classes, interned := interned.toArray }
  heap := heap
  slotsUsed := slotsUsed
  threads := #[{ frames := .invoking theMethod args0 :: below }]
def below0 : List Frame := [.native { method := ⟨0, 0⟩, args := #[] }]
def about1 : State := aboutOver below0
def p0 : Program := .bare "" "" ""
def e0 : Env := launch0.env 0 0 0
theorem w_frames : about1.frames = Frame.invoking theMethod args0 :: below0 := rfl
set_option maxRecDepth 65536 in
theorem w_args : argsFit about1.vm theMethod args0 = true := by decide +kernel
set_option maxRecDepth 65536 in
theorem w_heap : heapFits about1 = true := by decide +kernel
set_option maxRecDepth 65536 in
theorem w_runnable : about1.curStatus? = some .runnable := by decide +kernel
set_option maxRecDepth 65536 in
theorem w_alone : about1.alone = true := by decide +kernel
set_option maxRecDepth 65536 in
theorem w_named : about1.methodNamed? x = some theMethod := by decide +kernel
set_option maxRecDepth 65536 in
theorem w_hears : about1.hears theMethod below0 = true := by decide +kernel
set_option maxRecDepth 65536 in
theorem w_ripe : about1.ripe theMethod args0 below0 = true := by decide +kernel
theorem w_running : about1.status = .running := rfl
set_option maxRecDepth 65536 in
theorem w_room : about1.hasRoom e0.platform room_1 = true :=
  launch0.hasRoom_least _ room_1 (by decide +kernel) (by decide +kernel) (by decide +kernel) (by decide +kernel) (by decide +kernel) (by decide +kernel)
theorem allAtoms_all (ts : List Jvm.Cond) (a : Array Jvm.Value) (st : Jvm.State) : (allAtoms ts).before a st = ts.all (fun c => c.before a st) := by
  induction ts with
  | nil => rfl
  | cons c t ih =>
    show (Jvm.Cond.and c (allAtoms t)).before a st = _
    rw [Jvm.Cond.before_and, ih, List.all_cons]
def words1 : List Jvm.Cond := Jvm.Cond.code x code maxLocals ret :: tables_1
/-- a 'code' word, met by the world's own term for the bytes: nothing is compared byte by byte -/
theorem code_word {y : MethodName} {bytes : ByteArray} {mx : Nat} {rt : Option FieldType} {a : Array Value} {s : State} {m : MethodId} {meth : Method} {c : Code} (h1 : s.methodNamed? y = some m) (h2 : s.vm.method? m = some meth) (h3 : meth.code = some c) (h4 : c.code = bytes)
    (h5 : (c.maxLocals == mx && c.exceptionTable.isEmpty && decide (c.maxStack ≤ mostOperands) && decide (meth.sig.returnType = rt) && !meth.locks && decide (parseMethodDescriptor y.desc = some meth.sig)) = true) : (Jvm.Cond.code y bytes mx rt).before a s = true := by
  simp only [Bool.and_eq_true, beq_iff_eq, Bool.not_eq_true', decide_eq_true_eq] at h5
  obtain ⟨⟨⟨⟨⟨g1, g2⟩, g3⟩, g4⟩, g5⟩, g6⟩ := h5
  simp [Cond.before, Cond.holds, Cond.value, h1, h2, h3, h4, g1, g2, g3, g4, g5, g6]
def isCode : Jvm.Cond → Bool
  | .code _ _ _ _ => true
  | _ => false
theorem all_split {L : List Jvm.Cond} {P : Jvm.Cond → Bool} (h1 : L.all (fun c => isCode c || P c) = true) (h2 : ∀ c ∈ L.filter isCode, P c = true) : L.all P = true := by
  refine List.all_eq_true.mpr fun c hc => ?_
  have h := List.all_eq_true.mp h1 c hc
  rcases Bool.eq_false_or_eq_true (isCode c) with hi | hi
  · exact h2 c (List.mem_filter.mpr ⟨hc, hi⟩)
  · simpa [hi] using h
set_option maxRecDepth 65536 in
theorem w_c0 : (Jvm.Cond.code x code maxLocals ret).before args0 about1 = true := code_word (m := ⟨1, 1⟩) (meth := k1m1) (c := k1c1) (by decide +kernel) rfl rfl rfl (by decide +kernel)
set_option maxRecDepth 65536 in
theorem w_c1 : (Jvm.Cond.code ({ cls := "DisplayMap", name := "<init>", desc := "(II)V" } : Jvm.MethodName) prog_1_method_1_code (3 : Nat) (Option.none : Option Jvm.ClassFile.FieldType)).before args0 about1 = true := code_word (m := ⟨2, 0⟩) (meth := k2m0) (c := k2c0) (by decide +kernel) rfl rfl rfl (by decide +kernel)
set_option maxRecDepth 65536 in
theorem w_c2 : (Jvm.Cond.code ({ cls := "java/lang/Object", name := "<init>", desc := "()V" } : Jvm.MethodName) object_method_1_code (1 : Nat) (Option.none : Option Jvm.ClassFile.FieldType)).before args0 about1 = true := code_word (m := ⟨0, 0⟩) (meth := k0m0) (c := k0c0) (by decide +kernel) rfl rfl rfl (by decide +kernel)
set_option maxRecDepth 65536 in
theorem w_c3 : (Jvm.Cond.code ({ cls := "DisplayMap", name := "clampTab", desc := "(I)I" } : Jvm.MethodName) prog_1_method_18_code (1 : Nat) (Option.some Jvm.ClassFile.FieldType.int)).before args0 about1 = true := code_word (m := ⟨2, 8⟩) (meth := k2m8) (c := k2c8) (by decide +kernel) rfl rfl rfl (by decide +kernel)
set_option maxRecDepth 65536 in
theorem w_c4 : (Jvm.Cond.code ({ cls := "DisplayMap", name := "clampWrap", desc := "(I)I" } : Jvm.MethodName) prog_1_method_19_code (1 : Nat) (Option.some Jvm.ClassFile.FieldType.int)).before args0 about1 = true := code_word (m := ⟨2, 9⟩) (meth := k2m9) (c := k2c9) (by decide +kernel) rfl rfl rfl (by decide +kernel)
set_option maxRecDepth 65536 in
theorem w_c5 : (Jvm.Cond.code ({ cls := "DisplayMap", name := "insert", desc := "(II)Z" } : Jvm.MethodName) prog_1_method_2_code (4 : Nat) (Option.some Jvm.ClassFile.FieldType.boolean)).before args0 about1 = true := code_word (m := ⟨2, 1⟩) (meth := k2m1) (c := k2c1) (by decide +kernel) rfl rfl rfl (by decide +kernel)
set_option maxRecDepth 65536 in
theorem w_c6 : (Jvm.Cond.code ({ cls := "DisplayMap", name := "validChar", desc := "(I)Z" } : Jvm.MethodName) prog_1_method_20_code (1 : Nat) (Option.some Jvm.ClassFile.FieldType.boolean)).before args0 about1 = true := code_word (m := ⟨2, 10⟩) (meth := k2m10) (c := k2c10) (by decide +kernel) rfl rfl rfl (by decide +kernel)
set_option maxRecDepth 65536 in
theorem w_c7 : (Jvm.Cond.code ({ cls := "DisplayMap", name := "length", desc := "()I" } : Jvm.MethodName) prog_1_method_8_code (1 : Nat) (Option.some Jvm.ClassFile.FieldType.int)).before args0 about1 = true := code_word (m := ⟨2, 2⟩) (meth := k2m2) (c := k2c2) (by decide +kernel) rfl rfl rfl (by decide +kernel)
set_option maxRecDepth 65536 in
theorem w_c8 : (Jvm.Cond.code ({ cls := "DisplayMap", name := "rowCount", desc := "()I" } : Jvm.MethodName) prog_1_method_13_code (1 : Nat) (Option.some Jvm.ClassFile.FieldType.int)).before args0 about1 = true := code_word (m := ⟨2, 3⟩) (meth := k2m3) (c := k2c3) (by decide +kernel) rfl rfl rfl (by decide +kernel)
set_option maxRecDepth 65536 in
theorem w_c9 : (Jvm.Cond.code ({ cls := "DisplayMap", name := "ensureLayout", desc := "()V" } : Jvm.MethodName) prog_1_method_25_code (1 : Nat) (Option.none : Option Jvm.ClassFile.FieldType)).before args0 about1 = true := code_word (m := ⟨2, 13⟩) (meth := k2m13) (c := k2c13) (by decide +kernel) rfl rfl rfl (by decide +kernel)
set_option maxRecDepth 65536 in
theorem w_c10 : (Jvm.Cond.code ({ cls := "DisplayMap", name := "layout", desc := "()V" } : Jvm.MethodName) prog_1_method_26_code (5 : Nat) (Option.none : Option Jvm.ClassFile.FieldType)).before args0 about1 = true := code_word (m := ⟨2, 14⟩) (meth := k2m14) (c := k2c14) (by decide +kernel) rfl rfl rfl (by decide +kernel)
set_option maxRecDepth 65536 in
theorem w_c11 : (Jvm.Cond.code ({ cls := "DisplayMap", name := "openRow", desc := "(I)V" } : Jvm.MethodName) prog_1_method_27_code (2 : Nat) (Option.none : Option Jvm.ClassFile.FieldType)).before args0 about1 = true := code_word (m := ⟨2, 15⟩) (meth := k2m15) (c := k2c15) (by decide +kernel) rfl rfl rfl (by decide +kernel)
set_option maxRecDepth 65536 in
theorem w_c12 : (Jvm.Cond.code ({ cls := "DisplayMap", name := "foldStartingAt", desc := "(I)I" } : Jvm.MethodName) prog_1_method_23_code (3 : Nat) (Option.some Jvm.ClassFile.FieldType.int)).before args0 about1 = true := code_word (m := ⟨2, 12⟩) (meth := k2m12) (c := k2c12) (by decide +kernel) rfl rfl rfl (by decide +kernel)
set_option maxRecDepth 65536 in
theorem w_c13 : (Jvm.Cond.code ({ cls := "DisplayMap", name := "addElement", desc := "(III)V" } : Jvm.MethodName) prog_1_method_29_code (4 : Nat) (Option.none : Option Jvm.ClassFile.FieldType)).before args0 about1 = true := code_word (m := ⟨2, 17⟩) (meth := k2m17) (c := k2c17) (by decide +kernel) rfl rfl rfl (by decide +kernel)
set_option maxRecDepth 65536 in
theorem w_c14 : (Jvm.Cond.code ({ cls := "DisplayMap", name := "closeRow", desc := "()V" } : Jvm.MethodName) prog_1_method_28_code (1 : Nat) (Option.none : Option Jvm.ClassFile.FieldType)).before args0 about1 = true := code_word (m := ⟨2, 16⟩) (meth := k2m16) (c := k2c16) (by decide +kernel) rfl rfl rfl (by decide +kernel)
set_option maxRecDepth 65536 in
theorem w_c15 : (Jvm.Cond.code ({ cls := "DisplayMap", name := "rowStart", desc := "(I)I" } : Jvm.MethodName) prog_1_method_14_code (2 : Nat) (Option.some Jvm.ClassFile.FieldType.int)).before args0 about1 = true := code_word (m := ⟨2, 4⟩) (meth := k2m4) (c := k2c4) (by decide +kernel) rfl rfl rfl (by decide +kernel)
set_option maxRecDepth 65536 in
theorem w_c16 : (Jvm.Cond.code ({ cls := "DisplayMap", name := "rowWidth", desc := "(I)I" } : Jvm.MethodName) prog_1_method_15_code (2 : Nat) (Option.some Jvm.ClassFile.FieldType.int)).before args0 about1 = true := code_word (m := ⟨2, 5⟩) (meth := k2m5) (c := k2c5) (by decide +kernel) rfl rfl rfl (by decide +kernel)
set_option maxRecDepth 65536 in
theorem w_c17 : (Jvm.Cond.code ({ cls := "DisplayMap", name := "toDisplay", desc := "(II)I" } : Jvm.MethodName) prog_1_method_16_code (9 : Nat) (Option.some Jvm.ClassFile.FieldType.int)).before args0 about1 = true := code_word (m := ⟨2, 6⟩) (meth := k2m6) (c := k2c6) (by decide +kernel) rfl rfl rfl (by decide +kernel)
set_option maxRecDepth 65536 in
theorem w_c18 : (Jvm.Cond.code ({ cls := "DisplayMap", name := "snapOutOfFold", desc := "(II)I" } : Jvm.MethodName) prog_1_method_22_code (4 : Nat) (Option.some Jvm.ClassFile.FieldType.int)).before args0 about1 = true := code_word (m := ⟨2, 11⟩) (meth := k2m11) (c := k2c11) (by decide +kernel) rfl rfl rfl (by decide +kernel)
set_option maxRecDepth 65536 in
theorem w_c19 : (Jvm.Cond.code ({ cls := "DisplayMap", name := "fromDisplay", desc := "(III)I" } : Jvm.MethodName) prog_1_method_17_code (9 : Nat) (Option.some Jvm.ClassFile.FieldType.int)).before args0 about1 = true := code_word (m := ⟨2, 7⟩) (meth := k2m7) (c := k2c7) (by decide +kernel) rfl rfl rfl (by decide +kernel)
def codes1 : List Jvm.Cond := [Jvm.Cond.code x code maxLocals ret, Jvm.Cond.code ({ cls := "DisplayMap", name := "<init>", desc := "(II)V" } : Jvm.MethodName) prog_1_method_1_code (3 : Nat) (Option.none : Option Jvm.ClassFile.FieldType), Jvm.Cond.code ({ cls := "java/lang/Object", name := "<init>", desc := "()V" } : Jvm.MethodName) object_method_1_code (1 : Nat) (Option.none : Option Jvm.ClassFile.FieldType), Jvm.Cond.code ({ cls := "DisplayMap", name := "clampTab", desc := "(I)I" } : Jvm.MethodName) prog_1_method_18_code (1 : Nat) (Option.some Jvm.ClassFile.FieldType.int), Jvm.Cond.code ({ cls := "DisplayMap", name := "clampWrap", desc := "(I)I" } : Jvm.MethodName) prog_1_method_19_code (1 : Nat) (Option.some Jvm.ClassFile.FieldType.int), Jvm.Cond.code ({ cls := "DisplayMap", name := "insert", desc := "(II)Z" } : Jvm.MethodName) prog_1_method_2_code (4 : Nat) (Option.some Jvm.ClassFile.FieldType.boolean), Jvm.Cond.code ({ cls := "DisplayMap", name := "validChar", desc := "(I)Z" } : Jvm.MethodName) prog_1_method_20_code (1 : Nat) (Option.some Jvm.ClassFile.FieldType.boolean), Jvm.Cond.code ({ cls := "DisplayMap", name := "length", desc := "()I" } : Jvm.MethodName) prog_1_method_8_code (1 : Nat) (Option.some Jvm.ClassFile.FieldType.int), Jvm.Cond.code ({ cls := "DisplayMap", name := "rowCount", desc := "()I" } : Jvm.MethodName) prog_1_method_13_code (1 : Nat) (Option.some Jvm.ClassFile.FieldType.int), Jvm.Cond.code ({ cls := "DisplayMap", name := "ensureLayout", desc := "()V" } : Jvm.MethodName) prog_1_method_25_code (1 : Nat) (Option.none : Option Jvm.ClassFile.FieldType), Jvm.Cond.code ({ cls := "DisplayMap", name := "layout", desc := "()V" } : Jvm.MethodName) prog_1_method_26_code (5 : Nat) (Option.none : Option Jvm.ClassFile.FieldType), Jvm.Cond.code ({ cls := "DisplayMap", name := "openRow", desc := "(I)V" } : Jvm.MethodName) prog_1_method_27_code (2 : Nat) (Option.none : Option Jvm.ClassFile.FieldType), Jvm.Cond.code ({ cls := "DisplayMap", name := "foldStartingAt", desc := "(I)I" } : Jvm.MethodName) prog_1_method_23_code (3 : Nat) (Option.some Jvm.ClassFile.FieldType.int), Jvm.Cond.code ({ cls := "DisplayMap", name := "addElement", desc := "(III)V" } : Jvm.MethodName) prog_1_method_29_code (4 : Nat) (Option.none : Option Jvm.ClassFile.FieldType), Jvm.Cond.code ({ cls := "DisplayMap", name := "closeRow", desc := "()V" } : Jvm.MethodName) prog_1_method_28_code (1 : Nat) (Option.none : Option Jvm.ClassFile.FieldType), Jvm.Cond.code ({ cls := "DisplayMap", name := "rowStart", desc := "(I)I" } : Jvm.MethodName) prog_1_method_14_code (2 : Nat) (Option.some Jvm.ClassFile.FieldType.int), Jvm.Cond.code ({ cls := "DisplayMap", name := "rowWidth", desc := "(I)I" } : Jvm.MethodName) prog_1_method_15_code (2 : Nat) (Option.some Jvm.ClassFile.FieldType.int), Jvm.Cond.code ({ cls := "DisplayMap", name := "toDisplay", desc := "(II)I" } : Jvm.MethodName) prog_1_method_16_code (9 : Nat) (Option.some Jvm.ClassFile.FieldType.int), Jvm.Cond.code ({ cls := "DisplayMap", name := "snapOutOfFold", desc := "(II)I" } : Jvm.MethodName) prog_1_method_22_code (4 : Nat) (Option.some Jvm.ClassFile.FieldType.int), Jvm.Cond.code ({ cls := "DisplayMap", name := "fromDisplay", desc := "(III)I" } : Jvm.MethodName) prog_1_method_17_code (9 : Nat) (Option.some Jvm.ClassFile.FieldType.int)]
set_option maxRecDepth 65536 in
theorem codes_eq : words1.filter isCode = codes1 := rfl
theorem w_codes : ∀ c ∈ words1.filter isCode, c.before args0 about1 = true := by
  rw [codes_eq]
  intro c hc
  simp only [codes1, List.mem_cons, List.not_mem_nil, or_false] at hc
  rcases hc with rfl | rfl | rfl | rfl | rfl | rfl | rfl | rfl | rfl | rfl | rfl | rfl | rfl | rfl | rfl | rfl | rfl | rfl | rfl | rfl
  · exact w_c0
  · exact w_c1
  · exact w_c2
  · exact w_c3
  · exact w_c4
  · exact w_c5
  · exact w_c6
  · exact w_c7
  · exact w_c8
  · exact w_c9
  · exact w_c10
  · exact w_c11
  · exact w_c12
  · exact w_c13
  · exact w_c14
  · exact w_c15
  · exact w_c16
  · exact w_c17
  · exact w_c18
  · exact w_c19
set_option maxRecDepth 65536 in
theorem w_t1 : (words1.take 24).all (fun c => isCode c || c.before args0 about1) = true := by decide +kernel
set_option maxRecDepth 65536 in
theorem w_t2 : ((words1.drop 24).take 24).all (fun c => isCode c || c.before args0 about1) = true := by decide +kernel
set_option maxRecDepth 65536 in
theorem w_t3 : (((words1.drop 24).drop 24).take 24).all (fun c => isCode c || c.before args0 about1) = true := by decide +kernel
set_option maxRecDepth 65536 in
theorem w_t4 : ((((words1.drop 24).drop 24).drop 24).take 24).all (fun c => isCode c || c.before args0 about1) = true := by decide +kernel
set_option maxRecDepth 65536 in
theorem w_t5 : (((((words1.drop 24).drop 24).drop 24).drop 24).take 24).all (fun c => isCode c || c.before args0 about1) = true := by decide +kernel
set_option maxRecDepth 65536 in
theorem w_t6 : (((((words1.drop 24).drop 24).drop 24).drop 24).drop 24).all (fun c => isCode c || c.before args0 about1) = true := by decide +kernel
theorem w_tables : (allAtoms (Jvm.Cond.code x code maxLocals ret :: tables_1)).before args0 about1 = true := by
  rw [allAtoms_all]
  show words1.all (fun c => c.before args0 about1) = true
  refine all_split ?_ w_codes
  rw [← List.take_append_drop 24 words1, List.all_append, w_t1, ← List.take_append_drop 24 (words1.drop 24), List.all_append, w_t2, ← List.take_append_drop 24 ((words1.drop 24).drop 24), List.all_append, w_t3, ← List.take_append_drop 24 (((words1.drop 24).drop 24).drop 24), List.all_append, w_t4, ← List.take_append_drop 24 ((((words1.drop 24).drop 24).drop 24).drop 24), List.all_append, w_t5, w_t6]
  rfl
set_option maxRecDepth 65536 in
theorem w_case : (Jvm.Cond.and given_1 narrow_1).before args0 about1 = true := by decide +kernel
theorem w_applies : (headSpec (Jvm.Cond.code x code maxLocals ret :: tables_1) room_1).applies x e0.platform about1 = true :=
  (Spec.applies_iff w_frames).mpr ⟨w_running, w_runnable, w_alone, w_named, w_hears, w_ripe, w_room, w_tables⟩
theorem atStart : AtStart classFile x code maxLocals ret World_1 tables_1 room_1 Calls_1 rest_1 Pre_1 launch0 p0 e0 about1 theMethod args0 below0 :=
  ⟨lists_1, trivial, launch0.admits_env _ _ _, launch0.least_env, fairChoices_fair.cas, fairChoices_fair.clock, w_frames, w_args, w_heap, w_applies, trivial, trivial, w_case⟩
end start1
theorem witness_1 : WitnessClaimed_1 := ⟨start1.p0, start1.e0, start1.about1, start1.theMethod, start1.args0, start1.below0, start1.atStart⟩
end Jvm.Pilot.@@N@@
