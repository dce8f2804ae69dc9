import JvmDerived
import JvmDerived.Pilot.@@N@@Statement
import JvmDerived.Pilot.@@N@@Code
set_option linter.unusedVariables false
set_option linter.unusedSimpArgs false
namespace Jvm.Own
open Jvm Jvm.ClassFile Sem Op Lib Jvm.Free Jvm.Stand Jvm.LawKit Jvm.RoadKit Bundle
/-! ## values, cells, heaps of the small view -/
theorem leb {a b : Nat} (h : Nat.ble a b = true) : a ≤ b := Nat.le_of_ble_eq_true h
abbrev dc (b : ByteArray) (pc : Nat) (i : Instr) (n : Nat) : Prop := decode b pc = .ok (i, n)
abbrev OwnC : Type := Sum (List Value) (Sum (List Int32) (Sum (List Int64) (List Int32)))
abbrev cO (vs : List Value) : OwnC := .inl vs
abbrev cI (xs : List Int32) : OwnC := .inr (.inl xs)
abbrev cJ (xs : List Int64) : OwnC := .inr (.inr (.inl xs))
abbrev cZ (xs : List Int32) : OwnC := .inr (.inr (.inr xs))
def rf (ad : Nat → Addr) : Value → Value
 | .ref i => .ref (ad i)
 | .int x => .int x
 | .long x => .long x
 | .float x => .float x
 | .double x => .double x
 | .null => .null
 | .retAddr x => .retAddr x
theorem rf_cat (ad : Nat → Addr) (v : Value) : (rf ad v).category = v.category := by cases v <;> rfl
theorem rf_cats (ad : Nat → Addr) (S : List Value) : ((S.map (rf ad)).map fun v => v.category) = S.map fun v => v.category := by
 simp [List.map_map, Function.comp_def, rf_cat]
def CelOk (Z : State) (C : String) (lay : List (String × String)) (ad : Nat → Addr) (h : Heap) (a : Addr) : OwnC → Prop
 | .inl vs => Exa Z h a C ∧ ∀ (i : Nat) (f : String × String) (v : Value), lay[i]? = some f → vs[i]? = some v → Fld Z h a C f.1 f.2 (rf ad v)
 | .inr (.inl xs) => ∃ cl : Cell, Arr Z h a cl .int ∧ cl.slots.toList = xs.map Value.int
 | .inr (.inr (.inl xs)) => ∃ cl : Cell, Arr Z h a cl .long ∧ cl.slots.toList = xs.map Value.long
 | .inr (.inr (.inr xs)) => ∃ cl : Cell, Arr Z h a cl .boolean ∧ cl.slots.toList = xs.map Value.int
def HR (Z : State) (C : String) (lay : List (String × String)) (n0 ro : Nat) (ad : Nat → Addr) (H : List OwnC) (h : Heap) : Prop :=
 (∀ i c, H[i]? = some c → CelOk Z C lay ad h (ad i) c) ∧ (∀ i j, i < H.length → j < H.length → ad i = ad j → i = j) ∧ (∀ t, ad (H.length + t) = h.size + t) ∧ (∀ i, i < H.length → ro ≤ i → n0 ≤ ad i) ∧ n0 ≤ h.size
def Kp (ad : Nat → Addr) (N : Nat) (h h' : Heap) : Prop := h.size ≤ h'.size ∧ ∀ (a : Addr) (c : Cell), h[a]? = some c → (∀ i, i < N → ad i ≠ a) → h'[a]? = some c
theorem CelOk.keep {Z : State} {C : String} {lay : List (String × String)} {ad : Nat → Addr} {h h' : Heap} {a : Addr} {c : OwnC} (q : ∀ cz : Cell, h[a]? = some cz → h'[a]? = some cz) (F : CelOk Z C lay ad h a c) : CelOk Z C lay ad h' a c := by
 rcases c with vs | xs | xs | xs
 ·obtain ⟨⟨cell, k, h1, r⟩, F2⟩ := F
  refine ⟨⟨cell, k, q _ h1, r⟩, fun i f v hf hv => ?_⟩
  obtain ⟨cell, cf, k, i, f, h1, r⟩ := F2 i f v hf hv
  exact ⟨cell, cf, k, i, f, q _ h1, r⟩
 all_goals
  obtain ⟨cl, ⟨h1, r⟩, h2⟩ := F
  exact ⟨cl, ⟨q _ h1, r⟩, h2⟩
theorem CelOk.lt {Z : State} {C : String} {lay : List (String × String)} {ad : Nat → Addr} {h : Heap} {a : Addr} {c : OwnC} (F : CelOk Z C lay ad h a c) : a < h.size := by
 rcases c with vs | xs | xs | xs
 ·exact F.1.lt
 all_goals
  obtain ⟨cl, A, h2⟩ := F
  exact A.lt
theorem Kp.refl (ad : Nat → Addr) (N : Nat) (h : Heap) : Kp ad N h h := ⟨Nat.le_refl _, fun _ _ q _ => q⟩
theorem get_lt {α : Type} {L : List α} {i : Nat} {c : α} (h : L[i]? = some c) : i < L.length := (List.getElem?_eq_some_iff.mp h).1
section HRs
variable {Z : State} {C : String} {lay : List (String × String)} {n0 ro : Nat} {ad : Nat → Addr} {H H' : List OwnC} {h h' h'' : Heap}
/-- the addresses at or above H.length lie at or above the heap's size -/
theorem HR.new (R : HR Z C lay n0 ro ad H h) {i : Nat} (hi : H.length ≤ i) : h.size ≤ ad i := by
 obtain ⟨t, rfl⟩ := Nat.exists_eq_add_of_le hi
 rw [R.2.2.1 t]; exact Nat.le_add_right _ _
theorem Kp.trans (R : HR Z C lay n0 ro ad H h) (K : Kp ad H.length h h') {N : Nat} (K' : Kp ad N h' h'') : Kp ad H.length h h'' := by
 refine ⟨Nat.le_trans K.1 K'.1, fun a c hc hn => K'.2 a c (K.2 a c hc hn) fun i hi q => ?_⟩
 by_cases hl : i < H.length
 ·exact hn i hl q
 ·have h1 := R.new (Nat.le_of_not_lt hl)
  rw [q] at h1
  exact absurd (Array.getElem?_eq_some_iff.mp hc).1 (Nat.not_lt.mpr h1)
/-- one cell of the small heap is written anew, at its own address -/
theorem HR.put (R : HR Z C lay n0 ro ad H h) {i : Nat} {c : OwnC} (hi : i < H.length) (hs : h'.size = h.size) (ho : ∀ a cz, a ≠ ad i → h[a]? = some cz → h'[a]? = some cz) (hc : CelOk Z C lay ad h' (ad i) c) :
  HR Z C lay n0 ro ad (H.set i c) h' ∧ Kp ad H.length h h' := by
 refine ⟨⟨fun j c' hj => ?_, fun i' j' hi' hj' => ?_, fun t => ?_, fun i' hi' => ?_, by rw [hs]; exact R.2.2.2.2⟩, by rw [hs]; exact Nat.le_refl _, fun a cz hz hn => ho a cz (fun q => hn i hi q.symm) hz⟩
 ·rw [List.getElem?_set] at hj
  by_cases e : i = j
  ·subst e
   simp [hi] at hj
   subst hj; exact hc
  ·rw [if_neg e] at hj
   exact (R.1 j c' hj).keep fun cz q => ho _ cz (fun q' => e (R.2.1 _ _ hi (get_lt hj) q'.symm)) q
 ·simp only [List.length_set] at hi' hj'; exact R.2.1 _ _ hi' hj'
 ·rw [List.length_set, hs]; exact R.2.2.1 t
 ·simp only [List.length_set] at hi'; exact R.2.2.2.1 _ hi'
/-- a new cell behind all others -/
theorem HR.push (R : HR Z C lay n0 ro ad H h) {c : OwnC} (hs : h'.size = h.size + 1) (hE : Ext h h') (hc : CelOk Z C lay ad h' h.size c) :
  HR Z C lay n0 ro ad (H ++ [c]) h' ∧ Kp ad H.length h h' ∧ ad H.length = h.size := by
 have e0 : ad H.length = h.size := R.2.2.1 0
 refine ⟨⟨fun j c' hj => ?_, fun i j hi hj q => ?_, fun t => ?_, fun i hi hr => ?_, by rw [hs]; exact Nat.le_succ_of_le R.2.2.2.2⟩, ⟨hE.1, fun a cz hz _ => hE.2 _ _ hz⟩, e0⟩
 ·by_cases hl : j < H.length
  ·rw [List.getElem?_append_left hl] at hj
   exact (R.1 j c' hj).keep fun cz q => hE.2 _ _ q
  ·have hl' := get_lt hj
   simp only [List.length_append, List.length_singleton] at hl'
   obtain rfl : j = H.length := by omega
   simp at hj
   subst hj; rw [e0]; exact hc
 ·simp only [List.length_append, List.length_singleton] at hi hj
  by_cases h1 : i < H.length
  ·by_cases h2 : j < H.length
   ·exact R.2.1 _ _ h1 h2 q
   ·have a1 := (R.1 i _ (List.getElem?_eq_getElem h1)).lt
    have a2 := R.new (Nat.le_of_not_lt h2)
    rw [q] at a1
    exact absurd a1 (Nat.not_lt.mpr a2)
  ·by_cases h2 : j < H.length
   ·have a1 := (R.1 j _ (List.getElem?_eq_getElem h2)).lt
    have a2 := R.new (Nat.le_of_not_lt h1)
    rw [q] at a2
    exact absurd a1 (Nat.not_lt.mpr a2)
   ·omega
 ·rw [hs]
  have := R.2.2.1 (1 + t)
  simp only [List.length_append, List.length_singleton]
  rw [Nat.add_assoc, this]; exact (Nat.add_assoc _ _ _).symm
 ·simp only [List.length_append, List.length_singleton] at hi
  by_cases h1 : i < H.length
  ·exact R.2.2.2.1 _ h1 hr
  ·exact Nat.le_trans R.2.2.2.2 (R.new (Nat.le_of_not_lt h1))
end HRs
/-! ## local variables: 'unset' in the small view says nothing -/
def WFs (f : Nat → Option Slot) : Prop := (∀ i, f i = some .second → ∃ j v, i = j + 1 ∧ f j = some (.val v) ∧ v.category = 2) ∧ ∀ i v, f i = some (.val v) → v.category = 2 → f (i + 1) = some .second
def LR (ad : Nat → Addr) (L : List Slot) (Ls : Array Slot) : Prop :=
 L.length = Ls.size ∧ (∀ (i : Nat) (v : Value), L[i]? = some (.val v) → Ls[i]? = some (.val (rf ad v))) ∧ (∀ i : Nat, L[i]? = some .second → Ls[i]? = some .second) ∧ WFs fun i => Ls[i]?
def kill2 : Slot → Slot
 | .val (.long _) => .unset
 | .val (.double _) => .unset
 | s => s
def killS : Slot → Slot
 | .second => .unset
 | s => s
def hd1 (f : Slot → Slot) : List Slot → List Slot
 | [] => []
 | y :: t => f y :: t
def st1 : List Slot → Nat → Value → List Slot
 | [], _, _ => []
 | _ :: t, 0, v => .val v :: hd1 killS t
 | y :: t, n + 1, v => match n with
  | 0 => kill2 y :: st1 t 0 v
  | k + 1 => y :: st1 t (k + 1) v
def st2 : List Slot → Nat → Value → List Slot
 | [], _, _ => []
 | _ :: t, 0, v => .val v :: (match t with | [] => [] | _ :: t' => .second :: hd1 killS t')
 | y :: t, n + 1, v => match n with
  | 0 => kill2 y :: st2 t 0 v
  | k + 1 => y :: st2 t (k + 1) v
theorem st1_len (v : Value) : ∀ (L : List Slot) (i : Nat), (st1 L i v).length = L.length
 | [], _ => rfl
 | y :: [], 0 => rfl
 | y :: z :: t, 0 => rfl
 | y :: t, 1 => congrArg Nat.succ (st1_len v t 0)
 | y :: t, k + 2 => congrArg Nat.succ (st1_len v t (k + 1))
theorem st2_len (v : Value) : ∀ (L : List Slot) (i : Nat), (st2 L i v).length = L.length
 | [], _ => rfl
 | y :: [], 0 => rfl
 | y :: z :: [], 0 => rfl
 | y :: z :: w :: t, 0 => rfl
 | y :: t, 1 => congrArg Nat.succ (st2_len v t 0)
 | y :: t, k + 2 => congrArg Nat.succ (st2_len v t (k + 1))
theorem kill2_e {y s : Slot} (h : kill2 y = s) (hs : s ≠ .unset) : y = s ∧ ∀ w, s = .val w → w.category = 1 := by
 subst h
 rcases y with _ | _ | w
 ·exact absurd rfl hs
 ·exact ⟨rfl, fun w h => by cases h⟩
 ·cases w <;> first | exact absurd rfl hs | exact ⟨rfl, fun w h => by cases h; rfl⟩
theorem killS_e {y s : Slot} (h : killS y = s) (hs : s ≠ .unset) : y = s ∧ s ≠ .second := by
 subst h
 rcases y with _ | _ | w
 ·exact absurd rfl hs
 ·exact absurd rfl hs
 ·exact ⟨rfl, fun h => by cases h⟩
theorem hd1_e {t : List Slot} {j : Nat} {s : Slot} (h : (hd1 killS t)[j]? = some s) (hs : s ≠ .unset) : t[j]? = some s ∧ (j = 0 → s ≠ .second) := by
 cases t with
 | nil => simp [hd1] at h
 | cons y t =>
  cases j with
  | zero =>
   have h' : killS y = s := by simpa [hd1] using h
   obtain ⟨e1, e2⟩ := killS_e h' hs
   exact ⟨by simp [e1], fun _ => e2⟩
  | succ j => exact ⟨by simpa [hd1] using h, fun q => by cases q⟩
theorem st1_at (v : Value) : ∀ (L : List Slot) (i : Nat), i < L.length → (st1 L i v)[i]? = some (.val v)
 | [], _, h => absurd h (by simp)
 | y :: t, 0, _ => rfl
 | y :: t, 1, h => by simpa [st1] using st1_at v t 0 (by simp at h; omega)
 | y :: t, k + 2, h => by simpa [st1] using st1_at v t (k + 1) (by simp at h; omega)
theorem st1_else (v : Value) : ∀ (L : List Slot) (i j : Nat) (s : Slot), j ≠ i → (st1 L i v)[j]? = some s → s ≠ .unset → L[j]? = some s ∧ (j + 1 = i → ∀ w, s = .val w → w.category = 1) ∧ (j = i + 1 → s ≠ .second)
 | [], _, j, s, _, h, _ => by simp [st1] at h
 | y :: t, 0, 0, s, hj, _, _ => absurd rfl hj
 | y :: t, 0, j + 1, s, hj, h, hs => by
  obtain ⟨e1, e2⟩ := hd1_e (t := t) (j := j) (by simpa [st1] using h) hs
  exact ⟨by simpa using e1, fun q => by omega, fun q => e2 (by omega)⟩
 | y :: t, 1, 0, s, hj, h, hs => by
  obtain ⟨e1, e2⟩ := kill2_e (y := y) (by simpa [st1] using h) hs
  exact ⟨by simp [e1], fun _ => e2, fun q => by omega⟩
 | y :: t, 1, j + 1, s, hj, h, hs => by
  obtain ⟨e1, e2, e3⟩ := st1_else v t 0 j s (by omega) (by simpa [st1] using h) hs
  exact ⟨by simpa using e1, fun q => by omega, fun q => e3 (by omega)⟩
 | y :: t, k + 2, 0, s, hj, h, hs => ⟨by simpa [st1] using h, fun q => by omega, fun q => by omega⟩
 | y :: t, k + 2, j + 1, s, hj, h, hs => by
  obtain ⟨e1, e2, e3⟩ := st1_else v t (k + 1) j s (by omega) (by simpa [st1] using h) hs
  exact ⟨by simpa using e1, fun q => e2 (by omega), fun q => e3 (by omega)⟩
theorem st2_at (v : Value) : ∀ (L : List Slot) (i : Nat), i + 1 < L.length → (st2 L i v)[i]? = some (.val v) ∧ (st2 L i v)[i + 1]? = some .second
 | [], _, h => absurd h (by simp)
 | y :: [], 0, h => absurd h (by simp)
 | y :: z :: t, 0, _ => ⟨rfl, rfl⟩
 | y :: t, 1, h => by simpa [st2] using st2_at v t 0 (by simp at h; omega)
 | y :: t, k + 2, h => by simpa [st2] using st2_at v t (k + 1) (by simp at h; omega)
theorem st2_else (v : Value) : ∀ (L : List Slot) (i j : Nat) (s : Slot), j ≠ i → j ≠ i + 1 → (st2 L i v)[j]? = some s → s ≠ .unset → L[j]? = some s ∧ (j + 1 = i → ∀ w, s = .val w → w.category = 1) ∧ (j = i + 2 → s ≠ .second)
 | [], _, j, s, _, _, h, _ => by simp [st2] at h
 | y :: t, 0, 0, s, hj, _, _, _ => absurd rfl hj
 | y :: t, 0, 1, s, _, hj, _, _ => absurd rfl hj
 | y :: [], 0, j + 2, s, _, _, h, _ => by simp [st2] at h
 | y :: z :: t, 0, j + 2, s, hj, _, h, hs => by
  obtain ⟨e1, e2⟩ := hd1_e (t := t) (j := j) (by simpa [st2] using h) hs
  exact ⟨by simpa using e1, fun q => by omega, fun q => e2 (by omega)⟩
 | y :: t, 1, 0, s, hj, _, h, hs => by
  obtain ⟨e1, e2⟩ := kill2_e (y := y) (by simpa [st2] using h) hs
  exact ⟨by simp [e1], fun _ => e2, fun q => by omega⟩
 | y :: t, 1, j + 1, s, hj, hj', h, hs => by
  obtain ⟨e1, e2, e3⟩ := st2_else v t 0 j s (by omega) (by omega) (by simpa [st2] using h) hs
  exact ⟨by simpa using e1, fun q => by omega, fun q => e3 (by omega)⟩
 | y :: t, k + 2, 0, s, hj, _, h, hs => ⟨by simpa [st2] using h, fun q => by omega, fun q => by omega⟩
 | y :: t, k + 2, j + 1, s, hj, hj', h, hs => by
  obtain ⟨e1, e2, e3⟩ := st2_else v t (k + 1) j s (by omega) (by omega) (by simpa [st2] using h) hs
  exact ⟨by simpa using e1, fun q => e2 (by omega), fun q => e3 (by omega)⟩
theorem setAt_ok {l : Array Slot} {i : Nat} (h : i < l.size) (x : Slot) : setAt l i x = some (l.setIfInBounds i x) := if_pos h
/-- which neighbours a store at i wipes -/
def Bad (Ls : Array Slot) (i j : Nat) : Prop := (j + 1 = i ∧ Ls[i]? = some .second) ∨ (j = i + 1 ∧ ∃ o, Ls[i]? = some (.val o) ∧ o.category = 2)
def Pre1 (Ls Ls1 : Array Slot) (i : Nat) : Prop := Ls1.size = Ls.size ∧ ∀ j, j ≠ i → (¬ Bad Ls i j ∧ Ls1[j]? = Ls[j]?) ∨ (Bad Ls i j ∧ Ls1[j]? = some .unset)
theorem storeLocals_pre {Ls : Array Slot} (wf : WFs fun i => Ls[i]?) {i : Nat} (hi : i < Ls.size) (w : Value) : ∃ Ls1, Pre1 Ls Ls1 i ∧ storeLocals Ls i w = storeSelf Ls1 i w := by
 have hg : Ls[i]? = some Ls[i] := Array.getElem?_eq_getElem hi
 rcases hs : Ls[i] with _ | _ | old
 ·rw [hs] at hg
  refine ⟨Ls, ⟨rfl, fun j hj => Or.inl ⟨?_, rfl⟩⟩, ?_⟩
  ·rintro (⟨-, q⟩ | ⟨-, o, q, -⟩) <;> (rw [hg] at q; cases q)
  ·show (Ls[i]?).bind _ = _; rw [hg]; rfl
 ·rw [hs] at hg
  obtain ⟨j0, v, rfl, hv, hc⟩ := wf.1 i hg
  have h0 : j0 < Ls.size := by omega
  refine ⟨Ls.setIfInBounds j0 .unset, ⟨by simp, fun j hj => ?_⟩, ?_⟩
  ·by_cases e : j = j0
   ·subst e; right; exact ⟨Or.inl ⟨rfl, hg⟩, by simp [h0]⟩
   ·left
    refine ⟨?_, by rw [Array.getElem?_setIfInBounds_ne (Ne.symm e)]⟩
    rintro (⟨q', q⟩ | ⟨-, o, q, -⟩)
    ·exact e (by omega)
    ·rw [hg] at q; cases q
  ·show (Ls[j0 + 1]?).bind _ = _; rw [hg]
   show (setAt Ls (j0 + 1 - 1) .unset).bind _ = _
   rw [Nat.add_sub_cancel, setAt_ok h0]; rfl
 ·rw [hs] at hg
  by_cases hc : old.category = 2
  ·have h1 := wf.2 i old hg hc
   have h1' : i + 1 < Ls.size := (Array.getElem?_eq_some_iff.mp h1).1
   refine ⟨Ls.setIfInBounds (i + 1) .unset, ⟨by simp, fun j hj => ?_⟩, ?_⟩
   ·by_cases e : j = i + 1
    ·subst e; right; exact ⟨Or.inr ⟨rfl, old, hg, hc⟩, by simp [h1']⟩
    ·left
     refine ⟨?_, by rw [Array.getElem?_setIfInBounds_ne (Ne.symm e)]⟩
     rintro (⟨-, q⟩ | ⟨q, -⟩)
     ·rw [hg] at q; cases q
     ·exact e q
   ·show (Ls[i]?).bind _ = _; rw [hg]
    show (if old.category = 2 then _ else _) = _
    rw [if_pos hc]
    show (setAt Ls (i + 1) .unset).bind _ = _
    rw [setAt_ok h1']; rfl
  ·refine ⟨Ls, ⟨rfl, fun j hj => Or.inl ⟨?_, rfl⟩⟩, ?_⟩
   ·rintro (⟨-, q⟩ | ⟨-, o, q, q'⟩) <;> (rw [hg] at q; cases q)
    exact hc q'
   ·show (Ls[i]?).bind _ = _; rw [hg]
    show (if old.category = 2 then _ else _) = _
    rw [if_neg hc]
section St
variable {Ls : Array Slot} {i j : Nat}
/-- a value of one word is not wiped -/
theorem not_bad_val (wf : WFs fun i => Ls[i]?) {w : Value} (hj : Ls[j]? = some (.val w)) (hw : j + 1 = i → w.category = 1) : ¬ Bad Ls i j := by
 rintro (⟨rfl, q⟩ | ⟨rfl, o, q, q'⟩)
 ·obtain ⟨j0, v, e, h1, h2⟩ := wf.1 _ q
  obtain rfl : j0 = j := by omega
  cases h1.symm.trans hj
  rw [hw rfl] at h2; cases h2
 ·have := wf.2 _ _ q q'
  cases this.symm.trans hj
theorem not_bad_second (wf : WFs fun i => Ls[i]?) (hj : Ls[j]? = some .second) (hne : j ≠ i + 1) : ¬ Bad Ls i j := by
 rintro (⟨rfl, q⟩ | ⟨q, -⟩)
 ·obtain ⟨j0, v, e, h1, h2⟩ := wf.1 _ q
  obtain rfl : j0 = j := by omega
  cases h1.symm.trans hj
 ·exact hne q
end St
theorem LR.store1 {ad : Nat → Addr} {L : List Slot} {Ls : Array Slot} (hL : LR ad L Ls) {i : Nat} (hi : i < L.length) {v : Value} (hv : v.category = 1) : ∃ Ls', storeLocals Ls i (rf ad v) = some Ls' ∧ LR ad (st1 L i v) Ls' ∧ Ls'.size = Ls.size := by
 obtain ⟨l1, l2, l3, wf⟩ := hL
 have hi' : i < Ls.size := l1 ▸ hi
 have hv' : (rf ad v).category = 1 := by rw [rf_cat]; exact hv
 obtain ⟨Ls1, ⟨p1, p2⟩, e⟩ := storeLocals_pre wf hi' (rf ad v)
 have hi1 : i < Ls1.size := by rw [p1]; exact hi'
 have e2 : storeSelf Ls1 i (rf ad v) = some (Ls1.setIfInBounds i (.val (rf ad v))) := by
  show (setAt Ls1 i _).bind _ = _
  rw [setAt_ok hi1]
  show (if (rf ad v).category = 2 then _ else _) = _
  rw [if_neg (by rw [hv']; decide)]
 have at_i : (Ls1.setIfInBounds i (.val (rf ad v)))[i]? = some (.val (rf ad v)) := by simp [hi1]
 have at_j : ∀ j, j ≠ i → (Ls1.setIfInBounds i (.val (rf ad v)))[j]? = Ls1[j]? := fun j hj => Array.getElem?_setIfInBounds_ne (Ne.symm hj)
 have good : ∀ j, j ≠ i → ¬ Bad Ls i j → (Ls1.setIfInBounds i (.val (rf ad v)))[j]? = Ls[j]? := fun j hj hb => by
  rw [at_j j hj]
  rcases p2 j hj with ⟨-, q⟩ | ⟨q, -⟩
  ·exact q
  ·exact absurd q hb
 have back : ∀ j s, j ≠ i → s ≠ .unset → (Ls1.setIfInBounds i (.val (rf ad v)))[j]? = some s → ¬ Bad Ls i j ∧ Ls[j]? = some s := fun j s hj hs h => by
  rw [at_j j hj] at h
  rcases p2 j hj with ⟨q, q'⟩ | ⟨-, q⟩
  ·exact ⟨q, by rw [← q']; exact h⟩
  ·rw [q] at h; cases h; exact absurd rfl hs
 refine ⟨_, e.trans e2, ⟨by rw [st1_len, l1]; simp [p1], fun j w hj => ?_, fun j hj => ?_, fun j hj => ?_, fun j w hj hc => ?_⟩, by simp [p1]⟩
 ·by_cases q : j = i
  ·subst q
   rw [st1_at v L j hi] at hj
   cases hj; exact at_i
  ·obtain ⟨a1, a2, -⟩ := st1_else v L i j _ q hj (by simp)
   have b1 := l2 j w a1
   rw [good j q (not_bad_val wf b1 fun z => by rw [rf_cat]; exact a2 z w rfl)]; exact b1
 ·by_cases q : j = i
  ·subst q
   rw [st1_at v L j hi] at hj
   cases hj
  ·obtain ⟨a1, -, a3⟩ := st1_else v L i j _ q hj (by simp)
   have b1 := l3 j a1
   rw [good j q (not_bad_second wf b1 fun z => a3 z rfl)]; exact b1
 ·dsimp only at hj ⊢
  have q : j ≠ i := fun q => by subst q; rw [at_i] at hj; cases hj
  obtain ⟨b1, b2⟩ := back j _ q (by simp) hj
  obtain ⟨j0, v', rfl, h1, h2⟩ := wf.1 j b2
  refine ⟨j0, v', rfl, ?_, h2⟩
  have q0 : j0 ≠ i := fun z => b1 (Or.inr ⟨by omega, v', z ▸ h1, h2⟩)
  rw [good j0 q0 ?_]; exact h1
  rintro (⟨z, -⟩ | ⟨z, o, z1, z2⟩)
  ·exact q z
  ·have := wf.2 _ _ z1 z2
   rw [← z] at this
   cases this.symm.trans h1
 ·dsimp only at hj ⊢
  have q : j ≠ i := fun q => by subst q; rw [at_i] at hj; cases hj; rw [hv'] at hc; cases hc
  obtain ⟨b1, b2⟩ := back j _ q (by simp) hj
  have h1 := wf.2 j w b2 hc
  dsimp only at h1
  have q0 : j + 1 ≠ i := fun z => b1 (Or.inl ⟨z, z ▸ h1⟩)
  rw [good (j + 1) q0 ?_]; exact h1
  rintro (⟨z, z1⟩ | ⟨z, -⟩)
  ·obtain ⟨j1, v1, e1, e2, -⟩ := wf.1 _ z1
   obtain rfl : j1 = j + 1 := by omega
   cases h1.symm.trans e2
  ·omega
theorem LR.store2 {ad : Nat → Addr} {L : List Slot} {Ls : Array Slot} (hL : LR ad L Ls) {i : Nat} (hi : i + 1 < L.length) {v : Value} (hv : v.category = 2) : ∃ Ls', storeLocals Ls i (rf ad v) = some Ls' ∧ LR ad (st2 L i v) Ls' ∧ Ls'.size = Ls.size := by
 obtain ⟨l1, l2, l3, wf⟩ := hL
 have hi' : i + 1 < Ls.size := l1 ▸ hi
 have hv' : (rf ad v).category = 2 := by rw [rf_cat]; exact hv
 obtain ⟨Ls1, ⟨p1, p2⟩, e⟩ := storeLocals_pre wf (by omega : i < Ls.size) (rf ad v)
 have hi1 : i < Ls1.size := by rw [p1]; omega
 have hi2 : i + 1 < Ls1.size := by rw [p1]; omega
 -- what the second half leaves: two slots, and the one behind wiped where a long began at i + 1
 have key : ∃ Ls', storeSelf Ls1 i (rf ad v) = some Ls' ∧ Ls'.size = Ls1.size ∧ Ls'[i]? = some (.val (rf ad v)) ∧ Ls'[i + 1]? = some .second ∧ ∀ j, j ≠ i → j ≠ i + 1 → (Ls'[j]? = Ls1[j]? ∧ ¬ (j = i + 2 ∧ ∃ o, Ls1[i + 1]? = some (.val o) ∧ o.category = 2)) ∨ (Ls'[j]? = some .unset ∧ j = i + 2 ∧ ∃ o, Ls1[i + 1]? = some (.val o) ∧ o.category = 2) := by
  have n1 : (Ls1.setIfInBounds i (.val (rf ad v)))[i + 1]? = Ls1[i + 1]? := Array.getElem?_setIfInBounds_ne (by omega)
  have g1 : Ls1[i + 1]? = some Ls1[i + 1] := Array.getElem?_eq_getElem hi2
  have open1 : storeSelf Ls1 i (rf ad v) = ((Ls1.setIfInBounds i (.val (rf ad v)))[i + 1]?).bind fun x => match x with
   | .val old => if old.category = 2 then (setAt (Ls1.setIfInBounds i (.val (rf ad v))) (i + 2) .unset).bind fun z => setAt z (i + 1) .second else setAt (Ls1.setIfInBounds i (.val (rf ad v))) (i + 1) .second
   | _ => setAt (Ls1.setIfInBounds i (.val (rf ad v))) (i + 1) .second := by
   show (setAt Ls1 i _).bind _ = _
   rw [setAt_ok hi1]
   show (if (rf ad v).category = 2 then _ else _) = _
   rw [if_pos hv']; rfl
  have plain : (∀ o, Ls1[i + 1]? = some (.val o) → o.category ≠ 2) → storeSelf Ls1 i (rf ad v) = setAt (Ls1.setIfInBounds i (.val (rf ad v))) (i + 1) .second := fun hno => by
   rw [open1, n1, g1]
   rcases hs : Ls1[i + 1] with _ | _ | old
   ·rfl
   ·rfl
   ·show (if old.category = 2 then _ else _) = _
    rw [if_neg (hno old (by rw [g1, hs]))]
  have szz : i + 1 < (Ls1.setIfInBounds i (.val (rf ad v))).size := by simpa using hi2
  by_cases hb : ∃ o, Ls1[i + 1]? = some (.val o) ∧ o.category = 2
  ·obtain ⟨o, ho, ho2⟩ := hb
   have b1 : Ls[i + 1]? = some (.val o) := by
    rcases p2 (i + 1) (by omega) with ⟨-, q⟩ | ⟨-, q⟩
    ·rw [← q]; exact ho
    ·rw [q] at ho; cases ho
   have h3 : i + 2 < Ls1.size := by rw [p1]; exact (Array.getElem?_eq_some_iff.mp (wf.2 _ _ b1 ho2)).1
   refine ⟨((Ls1.setIfInBounds i (.val (rf ad v))).setIfInBounds (i + 2) .unset).setIfInBounds (i + 1) .second, ?_, by simp, ?_, ?_, fun j hj hj' => ?_⟩
   ·rw [open1, n1, ho]
    show (if o.category = 2 then _ else _) = _
    rw [if_pos ho2, setAt_ok (by simpa using h3)]
    show setAt _ (i + 1) .second = _
    rw [setAt_ok (by simpa using hi2)]
   ·rw [Array.getElem?_setIfInBounds_ne (by omega), Array.getElem?_setIfInBounds_ne (by omega)]; simp [hi1]
   ·simp [hi2]
   ·rw [Array.getElem?_setIfInBounds_ne (by omega)]
    by_cases z : j = i + 2
    ·subst z; right; exact ⟨by simp [h3], rfl, o, ho, ho2⟩
    ·left; exact ⟨by rw [Array.getElem?_setIfInBounds_ne (by omega), Array.getElem?_setIfInBounds_ne (by omega)], fun q => z q.1⟩
  ·refine ⟨(Ls1.setIfInBounds i (.val (rf ad v))).setIfInBounds (i + 1) .second, ?_, by simp, ?_, ?_, fun j hj hj' => Or.inl ⟨?_, fun q => hb q.2⟩⟩
   ·rw [plain fun o ho q => hb ⟨o, ho, q⟩, setAt_ok szz]
   ·rw [Array.getElem?_setIfInBounds_ne (by omega)]; simp [hi1]
   ·simp [hi2]
   ·rw [Array.getElem?_setIfInBounds_ne (by omega), Array.getElem?_setIfInBounds_ne (by omega)]
 obtain ⟨Ls', e2, sz, at_i, at_i1, at_j⟩ := key
 -- i + 1 seen from Ls
 have up : ∀ o, Ls1[i + 1]? = some (.val o) → Ls[i + 1]? = some (.val o) := fun o ho => by
  rcases p2 (i + 1) (by omega) with ⟨-, q⟩ | ⟨-, q⟩
  ·rw [← q]; exact ho
  ·rw [q] at ho; cases ho
 have good : ∀ j, j ≠ i → j ≠ i + 1 → ¬ Bad Ls i j → ¬ (j = i + 2 ∧ ∃ o, Ls[i + 1]? = some (.val o) ∧ o.category = 2) → Ls'[j]? = Ls[j]? := fun j hj hj' hb hb' => by
  rcases at_j j hj hj' with ⟨q, -⟩ | ⟨-, q1, o, q2, q3⟩
  ·rw [q]
   rcases p2 j hj with ⟨-, q⟩ | ⟨q, -⟩
   ·exact q
   ·exact absurd q hb
  ·exact absurd ⟨q1, o, up o q2, q3⟩ hb'
 have back : ∀ j s, j ≠ i → j ≠ i + 1 → s ≠ .unset → Ls'[j]? = some s → ¬ Bad Ls i j ∧ Ls[j]? = some s ∧ ¬ (j = i + 2 ∧ ∃ o, Ls1[i + 1]? = some (.val o) ∧ o.category = 2) := fun j s hj hj' hs h => by
  rcases at_j j hj hj' with ⟨q, q0⟩ | ⟨q, -⟩
  ·rw [q] at h
   rcases p2 j hj with ⟨q1, q'⟩ | ⟨-, q'⟩
   ·exact ⟨q1, by rw [← q']; exact h, q0⟩
   ·rw [q'] at h; cases h; exact absurd rfl hs
  ·rw [q] at h; cases h; exact absurd rfl hs
 have s2 := st2_at v L i hi
 refine ⟨_, e.trans e2, ⟨by rw [st2_len, l1, sz, p1], fun j w hj => ?_, fun j hj => ?_, fun j hj => ?_, fun j w hj hc => ?_⟩, by rw [sz, p1]⟩
 ·by_cases q : j = i
  ·subst q
   rw [s2.1] at hj
   cases hj; exact at_i
  ·by_cases q1 : j = i + 1
   ·subst q1; rw [s2.2] at hj; cases hj
   ·obtain ⟨a1, a2, -⟩ := st2_else v L i j _ q q1 hj (by simp)
    have b1 := l2 j w a1
    rw [good j q q1 (not_bad_val wf b1 fun z => by rw [rf_cat]; exact a2 z w rfl) ?_]; exact b1
    rintro ⟨rfl, o, z1, z2⟩
    have := wf.2 _ _ z1 z2
    cases this.symm.trans b1
 ·by_cases q : j = i
  ·subst q
   rw [s2.1] at hj
   cases hj
  ·by_cases q1 : j = i + 1
   ·subst q1; exact at_i1
   ·obtain ⟨a1, -, a3⟩ := st2_else v L i j _ q q1 hj (by simp)
    have b1 := l3 j a1
    rw [good j q q1 (not_bad_second wf b1 q1) fun z => a3 z.1 rfl]; exact b1
 ·dsimp only at hj ⊢
  by_cases q1 : j = i + 1
  ·subst q1; exact ⟨i, _, rfl, at_i, hv'⟩
  have q : j ≠ i := fun q => by subst q; rw [at_i] at hj; cases hj
  obtain ⟨b1, b2, b3⟩ := back j _ q q1 (by simp) hj
  obtain ⟨j0, v', rfl, h1, h2⟩ := wf.1 j b2
  dsimp only at h1
  have q0 : j0 ≠ i := fun z => b1 (Or.inr ⟨by omega, v', z ▸ h1, h2⟩)
  -- j0 = i + 1: then j = i + 2 was wiped
  have q0' : j0 ≠ i + 1 := fun z => by
   subst z
   rcases p2 (i + 1) (by omega) with ⟨-, w1⟩ | ⟨w1, -⟩
   ·exact b3 ⟨rfl, v', by rw [w1]; exact h1, h2⟩
   ·rcases w1 with ⟨w1, -⟩ | ⟨-, o, w1, w2⟩
    ·omega
    ·have := wf.2 _ _ w1 w2
     cases this.symm.trans h1
  refine ⟨j0, v', rfl, ?_, h2⟩
  rw [good j0 q0 q0' ?_ ?_]; exact h1
  ·rintro (⟨z, -⟩ | ⟨z, -⟩)
   ·exact q z
   ·exact q0' z
  ·rintro ⟨rfl, o, z1, z2⟩
   have := wf.2 _ _ z1 z2
   cases this.symm.trans h1
 ·dsimp only at hj ⊢
  by_cases q1 : j = i
  ·subst q1; exact at_i1
  have q : j ≠ i + 1 := fun q => by subst q; rw [at_i1] at hj; cases hj
  obtain ⟨b1, b2, -⟩ := back j _ q1 q (by simp) hj
  have h1 := wf.2 j w b2 hc
  dsimp only at h1
  have q0 : j + 1 ≠ i := fun z => b1 (Or.inl ⟨z, z ▸ h1⟩)
  rw [good (j + 1) q0 (by omega) ?_ ?_]; exact h1
  ·rintro (⟨z, z1⟩ | ⟨z, -⟩)
   ·obtain ⟨j1, v1, e1, e2, -⟩ := wf.1 _ z1
    obtain rfl : j1 = j + 1 := by omega
    cases h1.symm.trans e2
   ·omega
  ·rintro ⟨z, -⟩; omega
/-! what is known less of -/
def leL : List Slot → List Slot → Prop
 | [], [] => True
 | .unset :: a, _ :: b => leL a b
 | x :: a, y :: b => x = y ∧ leL a b
 | _, _ => False
theorem leL_len : ∀ {A B : List Slot}, leL A B → A.length = B.length
 | [], [], _ => rfl
 | .unset :: a, _ :: b, h => congrArg Nat.succ (leL_len (A := a) (B := b) h)
 | .second :: a, _ :: b, h => congrArg Nat.succ (leL_len (A := a) (B := b) h.2)
 | .val _ :: a, _ :: b, h => congrArg Nat.succ (leL_len (A := a) (B := b) h.2)
theorem leL_get : ∀ {A B : List Slot}, leL A B → ∀ {i : Nat} {s : Slot}, A[i]? = some s → s ≠ .unset → B[i]? = some s
 | [], [], _, i, s, h, _ => by simp at h
 | .unset :: a, _ :: b, _, 0, s, h, hs => by simp at h; exact absurd h.symm hs
 | .unset :: a, _ :: b, hl, i + 1, s, h, hs => by simpa using leL_get (A := a) (B := b) hl (by simpa using h) hs
 | .second :: a, _ :: b, hl, 0, s, h, hs => by simp at h; subst h; simp [← hl.1]
 | .second :: a, _ :: b, hl, i + 1, s, h, hs => by simpa using leL_get (A := a) (B := b) hl.2 (by simpa using h) hs
 | .val _ :: a, _ :: b, hl, 0, s, h, hs => by simp at h; subst h; simp [← hl.1]
 | .val _ :: a, _ :: b, hl, i + 1, s, h, hs => by simpa using leL_get (A := a) (B := b) hl.2 (by simpa using h) hs
theorem LR.weak {ad : Nat → Addr} {A B : List Slot} {Ls : Array Slot} (h : leL A B) (hL : LR ad B Ls) : LR ad A Ls :=
 ⟨(leL_len h).trans hL.1, fun i v q => hL.2.1 i v (leL_get h q (by simp)), fun i q => hL.2.2.1 i (leL_get h q (by simp)), hL.2.2.2⟩
theorem wf_cons {x : Slot} {M : List Slot} (hx : x = .unset ∨ ∃ v, x = .val v ∧ v.category = 1) (h : WFs fun i => M[i]?) : WFs fun i => (x :: M)[i]? := by
 refine ⟨fun i hi => ?_, fun i v hi hc => ?_⟩
 ·cases i with
  | zero => rcases hx with rfl | ⟨v, rfl, -⟩ <;> (simp at hi)
  | succ i =>
   obtain ⟨j, v, rfl, h1, h2⟩ := h.1 i (by simpa using hi)
   exact ⟨j + 1, v, rfl, by simpa using h1, h2⟩
 ·cases i with
  | zero =>
   rcases hx with rfl | ⟨w, rfl, hw⟩
   ·simp at hi
   ·simp at hi; subst hi; rw [hw] at hc; cases hc
  | succ i => simpa using h.2 i v (by simpa using hi) hc
theorem wf_cons2 {w : Value} {M : List Slot} (hw : w.category = 2) (h : WFs fun i => M[i]?) : WFs fun i => (.val w :: .second :: M)[i]? := by
 refine ⟨fun i hi => ?_, fun i v hi hc => ?_⟩
 ·match i, hi with
  | 0, hi => simp at hi
  | 1, _ => exact ⟨0, w, rfl, rfl, hw⟩
  | i + 2, hi =>
   obtain ⟨j, v, rfl, h1, h2⟩ := h.1 i (by simpa using hi)
   exact ⟨j + 2, v, rfl, by simpa using h1, h2⟩
 ·match i, hi with
  | 0, _ => rfl
  | 1, hi => simp at hi
  | i + 2, hi => simpa using h.2 i v (by simpa using hi) hc
/-- the local variables at the entry -/
def laid : List Value → List Slot
 | [] => []
 | v :: vs => if v.category = 2 then .val v :: .second :: laid vs else .val v :: laid vs
def entL (as : List Value) (n : Nat) : List Slot := laid as ++ List.replicate (n - (laid as).length) Slot.unset
theorem laid_rel (ad : Nat → Addr) (k : Nat) : ∀ as : List Value, (laid as ++ List.replicate k Slot.unset).length = (laid (as.map (rf ad)) ++ List.replicate k Slot.unset).length ∧ (∀ (i : Nat) (v : Value), (laid as ++ List.replicate k Slot.unset)[i]? = some (.val v) → (laid (as.map (rf ad)) ++ List.replicate k Slot.unset)[i]? = some (.val (rf ad v))) ∧
  (∀ i : Nat, (laid as ++ List.replicate k Slot.unset)[i]? = some .second → (laid (as.map (rf ad)) ++ List.replicate k Slot.unset)[i]? = some .second) ∧ WFs fun i => (laid (as.map (rf ad)) ++ List.replicate k Slot.unset)[i]?
 | [] => by
  refine ⟨rfl, fun i v h => ?_, fun i h => h, fun i h => ?_, fun i v h => ?_⟩
  ·simp [laid, List.getElem?_replicate] at h
  ·simp [laid, List.getElem?_replicate] at h
  ·simp [laid, List.getElem?_replicate] at h
 | v :: vs => by
  obtain ⟨a1, a2, a3, a4⟩ := laid_rel ad k vs
  have hc : (rf ad v).category = v.category := rf_cat ad v
  by_cases h : v.category = 2
  ·have e1 : laid (v :: vs) = .val v :: .second :: laid vs := if_pos h
   have e2 : laid ((v :: vs).map (rf ad)) = .val (rf ad v) :: .second :: laid (vs.map (rf ad)) := if_pos (hc.trans h)
   rw [e1, e2]
   refine ⟨by simpa using a1, fun i w hi => ?_, fun i hi => ?_, wf_cons2 (hc.trans h) a4⟩
   ·match i, hi with
    | 0, hi => simp at hi; subst hi; rfl
    | 1, hi => simp at hi
    | i + 2, hi => simpa using a2 i w (by simpa using hi)
   ·match i, hi with
    | 0, hi => simp at hi
    | 1, hi => rfl
    | i + 2, hi => simpa using a3 i (by simpa using hi)
  ·have e1 : laid (v :: vs) = .val v :: laid vs := if_neg h
   have e2 : laid ((v :: vs).map (rf ad)) = .val (rf ad v) :: laid (vs.map (rf ad)) := if_neg (by rw [hc]; exact h)
   have h1 : (rf ad v).category = 1 := by
    rw [hc]; cases v <;> first | rfl | exact absurd rfl h
   rw [e1, e2]
   refine ⟨by simpa using a1, fun i w hi => ?_, fun i hi => ?_, wf_cons (Or.inr ⟨_, rfl, h1⟩) a4⟩
   ·match i, hi with
    | 0, hi => simp at hi; subst hi; rfl
    | i + 1, hi => simpa using a2 i w (by simpa using hi)
   ·match i, hi with
    | 0, hi => simp at hi
    | i + 1, hi => simpa using a3 i (by simpa using hi)
theorem laid_foldl : ∀ (as : List Value) (acc : Array Slot), (as.foldl (fun acc v => if v.category = 2 then (acc.push (.val v)).push .second else acc.push (.val v)) acc).toList = acc.toList ++ laid as
 | [], acc => by simp [laid]
 | v :: vs, acc => by
  show (List.foldl _ (if v.category = 2 then (acc.push (.val v)).push .second else acc.push (.val v)) vs : Array Slot).toList = _
  rw [laid_foldl vs]
  by_cases h : v.category = 2
  ·rw [if_pos h, show laid (v :: vs) = .val v :: .second :: laid vs from if_pos h]; simp
  ·rw [if_neg h, show laid (v :: vs) = .val v :: laid vs from if_neg h]; simp
theorem laid_map_len (ad : Nat → Addr) (as : List Value) : (laid (as.map (rf ad))).length = (laid as).length := by
 have := (laid_rel ad 0 as).1
 simpa using this.symm
theorem entry_LR (ad : Nat → Addr) (as : List Value) (n : Nat) (hn : (laid as).length ≤ n) : LR ad (entL as n) (argsToLocals (as.map (rf ad)).toArray n) ∧ (argsToLocals (as.map (rf ad)).toArray n).size = n := by
 have e : (argsToLocals (as.map (rf ad)).toArray n).toList = laid (as.map (rf ad)) ++ List.replicate (n - (laid as).length) Slot.unset := by
  have e1 := laid_foldl (as.map (rf ad)) #[]
  have e2 : ((as.map (rf ad)).toArray.foldl (fun acc v => if v.category = 2 then (acc.push (.val v)).push .second else acc.push (.val v)) #[] : Array Slot).toList = laid (as.map (rf ad)) := by
   rw [List.foldl_toArray']
   ·rw [e1]; rfl
   ·rfl
  have e3 : ((as.map (rf ad)).toArray.foldl (fun acc v => if v.category = 2 then (acc.push (.val v)).push .second else acc.push (.val v)) #[] : Array Slot).size = (laid as).length := by
   rw [← Array.length_toList, e2, laid_map_len]
  show (_ ++ Array.replicate (n - _) Slot.unset).toList = _
  rw [Array.toList_append, e2, Array.toList_replicate, e3]
 obtain ⟨a1, a2, a3, a4⟩ := laid_rel ad (n - (laid as).length) as
 have g : ∀ i : Nat, (argsToLocals (as.map (rf ad)).toArray n)[i]? = (laid (as.map (rf ad)) ++ List.replicate (n - (laid as).length) Slot.unset)[i]? := fun i => by rw [← e, Array.getElem?_toList]
 have sz : (argsToLocals (as.map (rf ad)).toArray n).size = (laid (as.map (rf ad)) ++ List.replicate (n - (laid as).length) Slot.unset).length := by rw [← e, Array.length_toList]
 refine ⟨⟨by rw [sz]; exact a1, fun i v h => by rw [g]; exact a2 i v h, fun i h => by rw [g]; exact a3 i h, ?_⟩, by rw [sz, ← a1]; simp; omega⟩
 have : (fun i => (argsToLocals (as.map (rf ad)).toArray n)[i]?) = fun i => (laid (as.map (rf ad)) ++ List.replicate (n - (laid as).length) Slot.unset)[i]? := funext g
 rw [this]; exact a4
/-! ## reading and writing a list as Java does an array -/
def rd {α : Type} (xs : List α) (i : Int32) : Option α := if i < 0 then none else xs[i.toNatClampNeg]?
def wr {α : Type} (xs : List α) (i : Int32) (x : α) : Option (List α) := if i < 0 then none else if i.toNatClampNeg < xs.length then some (xs.set i.toNatClampNeg x) else none
theorem rd_slots {α : Type} {f : α → Value} {sl : Array Value} {xs : List α} (h : sl.toList = xs.map f) {j : Int32} {x : α} (hx : rd xs j = some x) : ¬ (j < 0 ∨ sl.size ≤ j.toNatClampNeg) ∧ sl[j.toNatClampNeg]? = some (f x) := by
 unfold rd at hx
 by_cases hj : j < 0
 ·rw [if_pos hj] at hx; cases hx
 ·rw [if_neg hj] at hx
  have h1 : sl[j.toNatClampNeg]? = some (f x) := by rw [← Array.getElem?_toList, h, List.getElem?_map, hx]; rfl
  exact ⟨fun q => q.elim hj fun q => absurd (Array.getElem?_eq_some_iff.mp h1).1 (Nat.not_lt.mpr q), h1⟩
theorem wr_slots {α : Type} {f : α → Value} {cl : Cell} {xs xs' : List α} (h : cl.slots.toList = xs.map f) {j : Int32} {x : α} (hx : wr xs j x = some xs') : ¬ (j < 0 ∨ cl.slots.size ≤ j.toNatClampNeg) ∧ (cl.setSlot j.toNatClampNeg (f x)).slots.toList = xs'.map f := by
 unfold wr at hx
 by_cases hj : j < 0
 ·rw [if_pos hj] at hx; cases hx
 ·rw [if_neg hj] at hx
  by_cases hl : j.toNatClampNeg < xs.length
  ·rw [if_pos hl] at hx; cases hx
   have sz : cl.slots.size = xs.length := by rw [← Array.length_toList, h, List.length_map]
   refine ⟨fun q => q.elim hj fun q => by omega, ?_⟩
   show (cl.slots.setIfInBounds _ _).toList = _
   rw [Array.toList_setIfInBounds, h, List.map_set]
  ·rw [if_neg hl] at hx; cases hx
/-! ## the walk's promise, said of the small view -/
def Am (Z : State) (own mn : String) (bytes : ByteArray) (maxL : Nat) (ret : Option FieldType) (p : Program) (s : State) (m : MethodId) (meth : Method) (c : Code) : Prop :=
 p.tables.exec = Jvm.exec ∧ Z.Warmed39 s.vm ∧ c.code = bytes ∧ c.maxLocals = maxL ∧ meth.sig.returnType = ret ∧ meth.locks = false ∧ s.vm.findClass own = some m.cls ∧ meth.name = mn
def WP (l : Launch) (Z : State) (C : String) (lay : List (String × String)) (own mn : String) (bytes : ByteArray) (maxL : Nat) (ret : Option FieldType) (R : Room) (n0 ro : Nat) (Q : Option Value → List OwnC → Prop) (k n pc : Nat) (L : List Slot) (S : List Value) (H : List OwnC) : Prop :=
 ∀ (p : Program) (e : Env) (s : State) (m : MethodId) (args : Array Value) (below : List Frame) (meth : Method) (c : Code) (T : State) (locs : List Loc) (ad : Nat → Addr) (Ls : Array Slot),
  Stand p l e R s m args below meth c T locs k n → Am Z own mn bytes maxL ret p s m meth c → HR Z C lay n0 ro ad H T.heap → Fr n0 locs → LR ad L Ls → Ls.size = maxL →
  ∃ (s₂ : State) (v : Option Value) (H' : List OwnC) (locs' : List Loc),
   Steps p.tables e below (T.setTop (mkF m pc Ls (S.map (rf ad)))) s₂ ∧ s₂.status = .running ∧ Ended s₂ below (.returned (v.map (rf ad))) ∧ Q v H' ∧ HR Z C lay n0 ro ad H' s₂.heap ∧ Kp ad H.length T.heap s₂.heap ∧ Fr n0 locs' ∧ FrameEnd s (.returned (v.map (rf ad))) s₂ locs' R.cells R.slots
section Rules
variable {l : Launch} {Z : State} {a0 : Array Value} {C : String} {lay : List (String × String)} {own mn : String} {bytes : ByteArray} {maxL : Nat} {ret : Option FieldType} {R : Room} {n0 ro : Nat} {Q : Option Value → List OwnC → Prop} {k n pc pc' : Nat} {L L' : List Slot} {S S' : List Value} {H H' : List OwnC}
theorem xE (h : leL L' L) (nx : WP l Z C lay own mn bytes maxL ret R n0 ro Q k n pc L' S H) : WP l Z C lay own mn bytes maxL ret R n0 ro Q k n pc L S H :=
 fun p e s m args below meth c T locs ad Ls X A hr N hL hz => nx p e s m args below meth c T locs ad Ls X A hr N (LR.weak h hL) hz
theorem WP.of (hs : ∀ (p : Program) (e : Env) (s : State) (m : MethodId) (args : Array Value) (below : List Frame) (meth : Method) (c : Code) (T : State) (locs : List Loc) (ad : Nat → Addr) (Ls : Array Slot), Stand p l e R s m args below meth c T locs k n → Am Z own mn bytes maxL ret p s m meth c → LR ad L Ls → Ls.size = maxL →
   ∃ Ls', LR ad L' Ls' ∧ Ls'.size = maxL ∧ ∀ t, Steps p.tables e below (T.setTop (mkF m pc' Ls' (S'.map (rf ad)))) t → Steps p.tables e below (T.setTop (mkF m pc Ls (S.map (rf ad)))) t)
  (nx : WP l Z C lay own mn bytes maxL ret R n0 ro Q k n pc' L' S' H) : WP l Z C lay own mn bytes maxL ret R n0 ro Q k n pc L S H := by
 intro p e s m args below meth c T locs ad Ls X A hr N hL hz
 obtain ⟨Ls', hL', hz', st⟩ := hs p e s m args below meth c T locs ad Ls X A hL hz
 obtain ⟨s₂, v, H', locs', h1, h2⟩ := nx p e s m args below meth c T locs ad Ls' X A hr N hL' hz'
 exact ⟨s₂, v, H', locs', st _ h1, h2⟩
theorem xH {j : Nat} {x : Int32} (hd : decode bytes pc = .ok (.iload j, 2)) (hl : L[j]? = some (.val (.int x))) (nx : WP l Z C lay own mn bytes maxL ret R n0 ro Q k n (pc + 2) L (.int x :: S) H) : WP l Z C lay own mn bytes maxL ret R n0 ro Q k n pc L (S) H :=
 WP.of (fun p e s m args below meth c T locs ad Ls X A hL hz => ⟨Ls, hL, hz, fun t ht => XS.iload X.here A.1 rfl (hb A.2.2.1 hd) (hL.2.1 _ _ hl) ht⟩) nx
theorem xC {j : Fin 4} {x : Int32} (hd : decode bytes pc = .ok (.iload_n j, 1)) (hl : L[j.val]? = some (.val (.int x))) (nx : WP l Z C lay own mn bytes maxL ret R n0 ro Q k n (pc + 1) L (.int x :: S) H) : WP l Z C lay own mn bytes maxL ret R n0 ro Q k n pc L (S) H :=
 WP.of (fun p e s m args below meth c T locs ad Ls X A hL hz => ⟨Ls, hL, hz, fun t ht => XS.iloadN X.here A.1 rfl (hb A.2.2.1 hd) (hL.2.1 _ _ hl) ht⟩) nx
theorem yQ {j : Nat} {x : Int64} (hd : decode bytes pc = .ok (.lload j, 2)) (hl : L[j]? = some (.val (.long x))) (nx : WP l Z C lay own mn bytes maxL ret R n0 ro Q k n (pc + 2) L (.long x :: S) H) : WP l Z C lay own mn bytes maxL ret R n0 ro Q k n pc L (S) H :=
 WP.of (fun p e s m args below meth c T locs ad Ls X A hL hz => ⟨Ls, hL, hz, fun t ht => XT.lload X.here A.1 rfl (hb A.2.2.1 hd) (hL.2.1 _ _ hl) ht⟩) nx
theorem yH {j : Fin 4} {x : Int64} (hd : decode bytes pc = .ok (.lload_n j, 1)) (hl : L[j.val]? = some (.val (.long x))) (nx : WP l Z C lay own mn bytes maxL ret R n0 ro Q k n (pc + 1) L (.long x :: S) H) : WP l Z C lay own mn bytes maxL ret R n0 ro Q k n pc L (S) H :=
 WP.of (fun p e s m args below meth c T locs ad Ls X A hL hz => ⟨Ls, hL, hz, fun t ht => XT.lloadN X.here A.1 rfl (hb A.2.2.1 hd) (hL.2.1 _ _ hl) ht⟩) nx
theorem xA {j : Fin 4} {i : Nat} (hd : decode bytes pc = .ok (.aload_n j, 1)) (hl : L[j.val]? = some (.val (.ref i))) (nx : WP l Z C lay own mn bytes maxL ret R n0 ro Q k n (pc + 1) L (.ref i :: S) H) : WP l Z C lay own mn bytes maxL ret R n0 ro Q k n pc L (S) H :=
 WP.of (fun p e s m args below meth c T locs ad Ls X A hL hz => ⟨Ls, hL, hz, fun t ht => XS.aloadN X.here A.1 rfl (hb A.2.2.1 hd) (hL.2.1 _ _ hl) rfl ht⟩) nx
theorem xB {i : Int} (v : Int32) (hd : decode bytes pc = .ok (.iconst i, 1)) (hv : Int32.ofInt i = v) (nx : WP l Z C lay own mn bytes maxL ret R n0 ro Q k n (pc + 1) L (.int v :: S) H) : WP l Z C lay own mn bytes maxL ret R n0 ro Q k n pc L (S) H :=
 WP.of (fun p e s m args below meth c T locs ad Ls X A hL hz => ⟨Ls, hL, hz, fun t ht => XS.iconst X.here A.1 rfl (hb A.2.2.1 hd) (by rw [hv]; exact ht)⟩) nx
theorem xG {i : Int} (v : Int32) (hd : decode bytes pc = .ok (.bipush i, 2)) (hv : (Int8.ofInt i).toInt32 = v) (nx : WP l Z C lay own mn bytes maxL ret R n0 ro Q k n (pc + 2) L (.int v :: S) H) : WP l Z C lay own mn bytes maxL ret R n0 ro Q k n pc L (S) H :=
 WP.of (fun p e s m args below meth c T locs ad Ls X A hL hz => ⟨Ls, hL, hz, fun t ht => XS.bipush X.here A.1 rfl (hb A.2.2.1 hd) (by rw [hv]; exact ht)⟩) nx
theorem yB {i : Int} (v : Int32) (hd : decode bytes pc = .ok (.sipush i, 3)) (hv : (Int16.ofInt i).toInt32 = v) (nx : WP l Z C lay own mn bytes maxL ret R n0 ro Q k n (pc + 3) L (.int v :: S) H) : WP l Z C lay own mn bytes maxL ret R n0 ro Q k n pc L (S) H :=
 WP.of (fun p e s m args below meth c T locs ad Ls X A hL hz => ⟨Ls, hL, hz, fun t ht => XS.sipush X.here A.1 rfl (hb A.2.2.1 hd) (by rw [hv]; exact ht)⟩) nx
theorem WP.lconst {j : Fin 2} (v : Int64) (hd : decode bytes pc = .ok (.lconst j, 1)) (hv : Int64.ofNat j = v) (nx : WP l Z C lay own mn bytes maxL ret R n0 ro Q k n (pc + 1) L (.long v :: S) H) : WP l Z C lay own mn bytes maxL ret R n0 ro Q k n pc L (S) H :=
 WP.of (fun p e s m args below meth c T locs ad Ls X A hL hz => ⟨Ls, hL, hz, fun t ht => XT.lconst X.here A.1 rfl (hb A.2.2.1 hd) (by rw [hv]; exact ht)⟩) nx
theorem WP.ldc {idx : Nat} {v : Int32} (hd : decode bytes pc = .ok (.ldc idx, 2)) (hw : (Cond.constant own idx v).before a0 Z = true) (nx : WP l Z C lay own mn bytes maxL ret R n0 ro Q k n (pc + 2) L (.int v :: S) H) : WP l Z C lay own mn bytes maxL ret R n0 ro Q k n pc L (S) H :=
 WP.of (fun p e s m args below meth c T locs ad Ls X A hL hz => ⟨Ls, hL, hz, fun t ht => X.ldcInt A.1 A.2.2.2.2.2.2.1 (mvT A.2.1 hw) (g := mkF m pc Ls (S.map (rf ad))) rfl (hb A.2.2.1 hd) t ht⟩) nx
theorem yM {idx : Nat} {v : Int64} (hd : decode bytes pc = .ok (.ldc2_w idx, 3)) (hw : (Cond.constantLong own idx v).before a0 Z = true) (nx : WP l Z C lay own mn bytes maxL ret R n0 ro Q k n (pc + 3) L (.long v :: S) H) : WP l Z C lay own mn bytes maxL ret R n0 ro Q k n pc L (S) H :=
 WP.of (fun p e s m args below meth c T locs ad Ls X A hL hz => ⟨Ls, hL, hz, fun t ht => X.ldc2Long A.1 A.2.2.2.2.2.2.1 (mvT A.2.1 hw) (g := mkF m pc Ls (S.map (rf ad))) rfl (hb A.2.2.1 hd) t ht⟩) nx
theorem xO {x y : Int32} (hd : decode bytes pc = .ok (.iadd, 1)) (nx : WP l Z C lay own mn bytes maxL ret R n0 ro Q k n (pc + 1) L (.int (x + y) :: S) H) : WP l Z C lay own mn bytes maxL ret R n0 ro Q k n pc L (.int y :: .int x :: S) H :=
 WP.of (fun p e s m args below meth c T locs ad Ls X A hL hz => ⟨Ls, hL, hz, fun t ht => XS.iadd X.here A.1 rfl (hb A.2.2.1 hd) rfl ht⟩) nx
theorem yJ {x y : Int64} (hd : decode bytes pc = .ok (.ladd, 1)) (nx : WP l Z C lay own mn bytes maxL ret R n0 ro Q k n (pc + 1) L (.long (x + y) :: S) H) : WP l Z C lay own mn bytes maxL ret R n0 ro Q k n pc L (.long y :: .long x :: S) H :=
 WP.of (fun p e s m args below meth c T locs ad Ls X A hL hz => ⟨Ls, hL, hz, fun t ht => XT.ladd X.here A.1 rfl (hb A.2.2.1 hd) rfl ht⟩) nx
theorem yN {x y : Int32} (hd : decode bytes pc = .ok (.isub, 1)) (nx : WP l Z C lay own mn bytes maxL ret R n0 ro Q k n (pc + 1) L (.int (x - y) :: S) H) : WP l Z C lay own mn bytes maxL ret R n0 ro Q k n pc L (.int y :: .int x :: S) H :=
 WP.of (fun p e s m args below meth c T locs ad Ls X A hL hz => ⟨Ls, hL, hz, fun t ht => XS.isub X.here A.1 rfl (hb A.2.2.1 hd) rfl ht⟩) nx
theorem WP.lsub {x y : Int64} (hd : decode bytes pc = .ok (.lsub, 1)) (nx : WP l Z C lay own mn bytes maxL ret R n0 ro Q k n (pc + 1) L (.long (x - y) :: S) H) : WP l Z C lay own mn bytes maxL ret R n0 ro Q k n pc L (.long y :: .long x :: S) H :=
 WP.of (fun p e s m args below meth c T locs ad Ls X A hL hz => ⟨Ls, hL, hz, fun t ht => XT.lsub X.here A.1 rfl (hb A.2.2.1 hd) rfl ht⟩) nx
theorem yI {x y : Int32} (hd : decode bytes pc = .ok (.imul, 1)) (nx : WP l Z C lay own mn bytes maxL ret R n0 ro Q k n (pc + 1) L (.int (x * y) :: S) H) : WP l Z C lay own mn bytes maxL ret R n0 ro Q k n pc L (.int y :: .int x :: S) H :=
 WP.of (fun p e s m args below meth c T locs ad Ls X A hL hz => ⟨Ls, hL, hz, fun t ht => XS.imul X.here A.1 rfl (hb A.2.2.1 hd) rfl ht⟩) nx
theorem yO {x y : Int64} (hd : decode bytes pc = .ok (.lmul, 1)) (nx : WP l Z C lay own mn bytes maxL ret R n0 ro Q k n (pc + 1) L (.long (x * y) :: S) H) : WP l Z C lay own mn bytes maxL ret R n0 ro Q k n pc L (.long y :: .long x :: S) H :=
 WP.of (fun p e s m args below meth c T locs ad Ls X A hL hz => ⟨Ls, hL, hz, fun t ht => XT.lmul X.here A.1 rfl (hb A.2.2.1 hd) rfl ht⟩) nx
theorem xW {x y : Int32} (hd : decode bytes pc = .ok (.iand, 1)) (nx : WP l Z C lay own mn bytes maxL ret R n0 ro Q k n (pc + 1) L (.int (x &&& y) :: S) H) : WP l Z C lay own mn bytes maxL ret R n0 ro Q k n pc L (.int y :: .int x :: S) H :=
 WP.of (fun p e s m args below meth c T locs ad Ls X A hL hz => ⟨Ls, hL, hz, fun t ht => XS.iand X.here A.1 rfl (hb A.2.2.1 hd) rfl ht⟩) nx
theorem yG {x : Int32} (hd : decode bytes pc = .ok (.i2l, 1)) (nx : WP l Z C lay own mn bytes maxL ret R n0 ro Q k n (pc + 1) L (.long x.toInt64 :: S) H) : WP l Z C lay own mn bytes maxL ret R n0 ro Q k n pc L (.int x :: S) H :=
 WP.of (fun p e s m args below meth c T locs ad Ls X A hL hz => ⟨Ls, hL, hz, fun t ht => XT.i2l X.here A.1 rfl (hb A.2.2.1 hd) rfl ht⟩) nx
theorem WP.l2i {x : Int64} (hd : decode bytes pc = .ok (.l2i, 1)) (nx : WP l Z C lay own mn bytes maxL ret R n0 ro Q k n (pc + 1) L (.int x.toInt32 :: S) H) : WP l Z C lay own mn bytes maxL ret R n0 ro Q k n pc L (.long x :: S) H :=
 WP.of (fun p e s m args below meth c T locs ad Ls X A hL hz => ⟨Ls, hL, hz, fun t ht => XT.l2i X.here A.1 rfl (hb A.2.2.1 hd) rfl ht⟩) nx
theorem yP {x y : Int64} (hd : decode bytes pc = .ok (.lcmp, 1)) (nx : WP l Z C lay own mn bytes maxL ret R n0 ro Q k n (pc + 1) L (.int (XT.cmpL x y) :: S) H) : WP l Z C lay own mn bytes maxL ret R n0 ro Q k n pc L (.long y :: .long x :: S) H :=
 WP.of (fun p e s m args below meth c T locs ad Ls X A hL hz => ⟨Ls, hL, hz, fun t ht => XT.lcmp X.here A.1 rfl (hb A.2.2.1 hd) rfl ht⟩) nx
theorem yA {v : Value} (hd : decode bytes pc = .ok (.dup, 1)) (hc : v.category = 1) (nx : WP l Z C lay own mn bytes maxL ret R n0 ro Q k n (pc + 1) L (v :: v :: S) H) : WP l Z C lay own mn bytes maxL ret R n0 ro Q k n pc L (v :: S) H :=
 WP.of (fun p e s m args below meth c T locs ad Ls X A hL hz => ⟨Ls, hL, hz, fun t ht => XS.dup X.here A.1 rfl (hb A.2.2.1 hd) rfl (by rw [rf_cat]; exact hc) ht⟩) nx
theorem WP.dup2 {v w : Value} (hd : decode bytes pc = .ok (.dup2, 1)) (hc : v.category = 1) (hc' : w.category = 1) (nx : WP l Z C lay own mn bytes maxL ret R n0 ro Q k n (pc + 1) L (v :: w :: v :: w :: S) H) : WP l Z C lay own mn bytes maxL ret R n0 ro Q k n pc L (v :: w :: S) H :=
 WP.of (fun p e s m args below meth c T locs ad Ls X A hL hz => ⟨Ls, hL, hz, fun t ht => XT.dup2 X.here A.1 rfl (hb A.2.2.1 hd) rfl (by rw [rf_cat]; exact hc) (by rw [rf_cat]; exact hc') ht⟩) nx
theorem WP.pop {v : Value} (hd : decode bytes pc = .ok (.pop, 1)) (hc : v.category = 1) (nx : WP l Z C lay own mn bytes maxL ret R n0 ro Q k n (pc + 1) L (S) H) : WP l Z C lay own mn bytes maxL ret R n0 ro Q k n pc L (v :: S) H :=
 WP.of (fun p e s m args below meth c T locs ad Ls X A hL hz => ⟨Ls, hL, hz, fun t ht => XT.pop X.here A.1 rfl (hb A.2.2.1 hd) rfl (by rw [rf_cat]; exact hc) ht⟩) nx
theorem xR {j : Nat} {x : Int32} (hd : decode bytes pc = .ok (.istore j, 2)) (hi : j < L.length) (hL' : st1 L j (.int x) = L') (nx : WP l Z C lay own mn bytes maxL ret R n0 ro Q k n (pc + 2) L' S H) : WP l Z C lay own mn bytes maxL ret R n0 ro Q k n pc L (.int x :: S) H :=
 WP.of (fun p e s m args below meth c T locs ad Ls X A hL hz => by
  obtain ⟨Ls', e1, e2, e3⟩ := hL.store1 hi (v := .int x) rfl
  exact ⟨Ls', hL' ▸ e2, e3.trans hz, fun t ht => XS.istore X.here A.1 rfl (hb A.2.2.1 hd) rfl e1 ht⟩) nx
theorem xP {j : Fin 4} {x : Int32} (hd : decode bytes pc = .ok (.istore_n j, 1)) (hi : j.val < L.length) (hL' : st1 L j.val (.int x) = L') (nx : WP l Z C lay own mn bytes maxL ret R n0 ro Q k n (pc + 1) L' S H) : WP l Z C lay own mn bytes maxL ret R n0 ro Q k n pc L (.int x :: S) H :=
 WP.of (fun p e s m args below meth c T locs ad Ls X A hL hz => by
  obtain ⟨Ls', e1, e2, e3⟩ := hL.store1 hi (v := .int x) rfl
  exact ⟨Ls', hL' ▸ e2, e3.trans hz, fun t ht => XS.istoreN X.here A.1 rfl (hb A.2.2.1 hd) rfl e1 ht⟩) nx
theorem WP.astoreN {j : Fin 4} {i : Nat} (hd : decode bytes pc = .ok (.astore_n j, 1)) (hi : j.val < L.length) (hL' : st1 L j.val (.ref i) = L') (nx : WP l Z C lay own mn bytes maxL ret R n0 ro Q k n (pc + 1) L' S H) : WP l Z C lay own mn bytes maxL ret R n0 ro Q k n pc L (.ref i :: S) H :=
 WP.of (fun p e s m args below meth c T locs ad Ls X A hL hz => by
  obtain ⟨Ls', e1, e2, e3⟩ := hL.store1 hi (v := .ref i) rfl
  exact ⟨Ls', hL' ▸ e2, e3.trans hz, fun t ht => XS.astoreN X.here A.1 rfl (hb A.2.2.1 hd) rfl rfl e1 ht⟩) nx
theorem WP.lstore {j : Nat} {x : Int64} (hd : decode bytes pc = .ok (.lstore j, 2)) (hi : j + 1 < L.length) (hL' : st2 L j (.long x) = L') (nx : WP l Z C lay own mn bytes maxL ret R n0 ro Q k n (pc + 2) L' S H) : WP l Z C lay own mn bytes maxL ret R n0 ro Q k n pc L (.long x :: S) H :=
 WP.of (fun p e s m args below meth c T locs ad Ls X A hL hz => by
  obtain ⟨Ls', e1, e2, e3⟩ := hL.store2 hi (v := .long x) rfl
  exact ⟨Ls', hL' ▸ e2, e3.trans hz, fun t ht => XT.lstore X.here A.1 rfl (hb A.2.2.1 hd) rfl e1 ht⟩) nx
theorem yL {j : Fin 4} {x : Int64} (hd : decode bytes pc = .ok (.lstore_n j, 1)) (hi : j.val + 1 < L.length) (hL' : st2 L j.val (.long x) = L') (nx : WP l Z C lay own mn bytes maxL ret R n0 ro Q k n (pc + 1) L' S H) : WP l Z C lay own mn bytes maxL ret R n0 ro Q k n pc L (.long x :: S) H :=
 WP.of (fun p e s m args below meth c T locs ad Ls X A hL hz => by
  obtain ⟨Ls', e1, e2, e3⟩ := hL.store2 hi (v := .long x) rfl
  exact ⟨Ls', hL' ▸ e2, e3.trans hz, fun t ht => XT.lstoreN X.here A.1 rfl (hb A.2.2.1 hd) rfl e1 ht⟩) nx
theorem yC {j : Nat} {cst : Int} {x : Int32} (v : Int32) (hd : decode bytes pc = .ok (.iinc j cst, 3)) (hv : Int32.ofInt cst = v) (hl : L[j]? = some (.val (.int x))) (hL' : st1 L j (.int (x + v)) = L') (nx : WP l Z C lay own mn bytes maxL ret R n0 ro Q k n (pc + 3) L' S H) : WP l Z C lay own mn bytes maxL ret R n0 ro Q k n pc L S H :=
 WP.of (fun p e s m args below meth c T locs ad Ls X A hL hz => by
  subst hv
  obtain ⟨Ls', e1, e2, e3⟩ := hL.store1 (get_lt hl) (v := .int (x + Int32.ofInt cst)) rfl
  exact ⟨Ls', hL' ▸ e2, e3.trans hz, fun t ht => XS.iinc X.here A.1 rfl (hb A.2.2.1 hd) (hL.2.1 _ _ hl) e1 ht⟩) nx
theorem xV {o : Int} (hd : decode bytes pc = .ok (.goto o, 3)) (ho : 0 ≤ (pc : Int) + o) (hp : ((pc : Int) + o).toNat = pc') (nx : WP l Z C lay own mn bytes maxL ret R n0 ro Q k n pc' L S H) : WP l Z C lay own mn bytes maxL ret R n0 ro Q k n pc L S H :=
 WP.of (fun p e s m args below meth c T locs ad Ls X A hL hz => ⟨Ls, hL, hz, fun t ht => XS.goto X.here A.1 rfl rfl (hb A.2.2.1 hd) ho hp ht⟩) nx
theorem xL {cd : ClassFile.Cond} {x : Int32} {o : Int} (hd : decode bytes pc = .ok (.ifCond cd o, 3)) (hc : ifCond.holds cd x = true) (ho : 0 ≤ (pc : Int) + o) (hp : ((pc : Int) + o).toNat = pc') (nx : WP l Z C lay own mn bytes maxL ret R n0 ro Q k n pc' L S H) : WP l Z C lay own mn bytes maxL ret R n0 ro Q k n pc L (.int x :: S) H :=
 WP.of (fun p e s m args below meth c T locs ad Ls X A hL hz => ⟨Ls, hL, hz, fun t ht => XS.ifYes X.here A.1 rfl rfl (hb A.2.2.1 hd) rfl hc ho hp ht⟩) nx
theorem xM {cd : ClassFile.Cond} {x : Int32} {o : Int} (hd : decode bytes pc = .ok (.ifCond cd o, 3)) (hc : ifCond.holds cd x = false) (nx : WP l Z C lay own mn bytes maxL ret R n0 ro Q k n (pc + 3) L S H) : WP l Z C lay own mn bytes maxL ret R n0 ro Q k n pc L (.int x :: S) H :=
 WP.of (fun p e s m args below meth c T locs ad Ls X A hL hz => ⟨Ls, hL, hz, fun t ht => XS.ifNo X.here A.1 rfl (hb A.2.2.1 hd) rfl hc ht⟩) nx
theorem xI {cd : ClassFile.Cond} {x y : Int32} {o : Int} (hd : decode bytes pc = .ok (.if_icmp cd o, 3)) (hc : if_icmp.holds cd x y = true) (ho : 0 ≤ (pc : Int) + o) (hp : ((pc : Int) + o).toNat = pc') (nx : WP l Z C lay own mn bytes maxL ret R n0 ro Q k n pc' L S H) : WP l Z C lay own mn bytes maxL ret R n0 ro Q k n pc L (.int y :: .int x :: S) H :=
 WP.of (fun p e s m args below meth c T locs ad Ls X A hL hz => ⟨Ls, hL, hz, fun t ht => XS.icmpYes X.here A.1 rfl rfl (hb A.2.2.1 hd) rfl hc ho hp ht⟩) nx
theorem xJ {cd : ClassFile.Cond} {x y : Int32} {o : Int} (hd : decode bytes pc = .ok (.if_icmp cd o, 3)) (hc : if_icmp.holds cd x y = false) (nx : WP l Z C lay own mn bytes maxL ret R n0 ro Q k n (pc + 3) L S H) : WP l Z C lay own mn bytes maxL ret R n0 ro Q k n pc L (.int y :: .int x :: S) H :=
 WP.of (fun p e s m args below meth c T locs ad Ls X A hL hz => ⟨Ls, hL, hz, fun t ht => XS.icmpNo X.here A.1 rfl (hb A.2.2.1 hd) rfl hc ht⟩) nx
theorem yE {dflt low high o : Int} {offs : Array Int} {len : Nat} {i : Int32} (hd : decode bytes pc = .ok (.tableswitch dflt low high offs, len)) (hin : ¬ (i.toInt < low ∨ i.toInt > high)) (hoff : offs[(i.toInt - low).toNat]? = some o) (ho : 0 ≤ (pc : Int) + o) (hp : ((pc : Int) + o).toNat = pc') (nx : WP l Z C lay own mn bytes maxL ret R n0 ro Q k n pc' L S H) : WP l Z C lay own mn bytes maxL ret R n0 ro Q k n pc L (.int i :: S) H :=
 WP.of (fun p e s m args below meth c T locs ad Ls X A hL hz => ⟨Ls, hL, hz, fun t ht => XS.tswIn X.here A.1 rfl rfl (hb A.2.2.1 hd) rfl hin hoff ho hp ht⟩) nx
theorem WP.tswOut {dflt low high : Int} {offs : Array Int} {len : Nat} {i : Int32} (hd : decode bytes pc = .ok (.tableswitch dflt low high offs, len)) (hout : i.toInt < low ∨ i.toInt > high) (ho : 0 ≤ (pc : Int) + dflt) (hp : ((pc : Int) + dflt).toNat = pc') (nx : WP l Z C lay own mn bytes maxL ret R n0 ro Q k n pc' L S H) : WP l Z C lay own mn bytes maxL ret R n0 ro Q k n pc L (.int i :: S) H :=
 WP.of (fun p e s m args below meth c T locs ad Ls X A hL hz => ⟨Ls, hL, hz, fun t ht => XS.tswOut X.here A.1 rfl rfl (hb A.2.2.1 hd) rfl hout ho hp ht⟩) nx
theorem tsw_miss {i : Int32} {low high : Int} (h : ∀ z : Int, low ≤ z → z ≤ high → ¬ i = Int32.ofInt z) : i.toInt < low ∨ i.toInt > high := by
 by_cases a : i.toInt < low
 ·exact Or.inl a
 ·by_cases b : i.toInt > high
  ·exact Or.inr b
  ·exact absurd (by rw [Int32.ofInt_toInt]) (h i.toInt (by omega) (by omega))
theorem yK (hs : ∀ (p : Program) (e : Env) (s : State) (m : MethodId) (args : Array Value) (below : List Frame) (meth : Method) (c : Code) (T : State) (locs : List Loc) (ad : Nat → Addr) (Ls : Array Slot), Stand p l e R s m args below meth c T locs k n → Am Z own mn bytes maxL ret p s m meth c → HR Z C lay n0 ro ad H T.heap → Fr n0 locs → LR ad L Ls → Ls.size = maxL →
   ∃ T' locs', Stand p l e R s m args below meth c T' locs' k' n' ∧ HR Z C lay n0 ro ad H' T'.heap ∧ Kp ad H.length T.heap T'.heap ∧ Fr n0 locs' ∧ ∀ t, Steps p.tables e below (T'.setTop (mkF m pc' Ls (S'.map (rf ad)))) t → Steps p.tables e below (T.setTop (mkF m pc Ls (S.map (rf ad)))) t)
  (nx : WP l Z C lay own mn bytes maxL ret R n0 ro Q k' n' pc' L S' H') : WP l Z C lay own mn bytes maxL ret R n0 ro Q k n pc L S H := by
 intro p e s m args below meth c T locs ad Ls X A hr N hL hz
 obtain ⟨T', locs', X', hr', K, N', st⟩ := hs p e s m args below meth c T locs ad Ls X A hr N hL hz
 obtain ⟨s₂, v, H2, locs2, h1, h2, h3, h4, h5, h6, h7⟩ := nx p e s m args below meth c T' locs' ad Ls X' A hr' N' hL hz
 exact ⟨s₂, v, H2, locs2, st _ h1, h2, h3, h4, h5, Kp.trans hr K h6, h7⟩
theorem xD {idx i j : Nat} {f d : String} {vs : List Value} {v : Value} (hd : decode bytes pc = .ok (.getfield idx, 3)) (hw : (Cond.fieldLink own idx C f d).before a0 Z = true) (hj : lay[j]? = some (f, d)) (hH : H[i]? = some (.inl vs)) (hv : vs[j]? = some v) (nx : WP l Z C lay own mn bytes maxL ret R n0 ro Q k n (pc + 3) L (v :: S) H) : WP l Z C lay own mn bytes maxL ret R n0 ro Q k n pc L (.ref i :: S) H :=
 yK (fun p e s m args below meth c T locs ad Ls X A hr N hL hz => by
  have F := (hr.1 i _ hH).2 j _ v hj hv
  obtain ⟨T', X', e', st⟩ := getF X A.1 A.2.1 A.2.2.2.2.2.2.1 (host := "") (Or.inl hw) Via.refl rfl F (g := mkF m pc Ls (.ref (ad i) :: S.map (rf ad))) rfl rfl (hb A.2.2.1 hd)
  exact ⟨T', locs, X', by rw [e']; exact hr, by rw [e']; exact Kp.refl _ _ _, N, fun t ht => st t ht⟩) nx
theorem xN {i : Nat} {xs : List Int32} {j x : Int32} (hd : decode bytes pc = .ok (.iaload, 1)) (hH : H[i]? = some (cI xs)) (hx : rd xs j = some x) (nx : WP l Z C lay own mn bytes maxL ret R n0 ro Q k n (pc + 1) L (.int x :: S) H) : WP l Z C lay own mn bytes maxL ret R n0 ro Q k n pc L (.int j :: .ref i :: S) H :=
 yK (fun p e s m args below meth c T locs ad Ls X A hr N hL hz => by
  obtain ⟨cl, Ar, hsl⟩ := hr.1 i _ hH
  obtain ⟨q1, q2⟩ := rd_slots hsl hx
  exact ⟨T, locs, X, hr, Kp.refl _ _ _, N, fun t ht => X.iaload A.1 (j := j) Ar.1 (State.isArrayOf_alike A.2.1.alike Ar.2.1) Ar.2.2 q1 q2 (g := mkF m pc Ls (.int j :: .ref (ad i) :: S.map (rf ad))) rfl rfl (hb A.2.2.1 hd) _ ht⟩) nx
theorem baloadZ {p : Program} {e : Env} {s : State} {m : MethodId} {args : Array Value} {below : List Frame} {meth : Method} {c : Code} {T : State} {locs : List Loc} {cells slots : Nat} (X : Stand p l e R s m args below meth c T locs cells slots) (hexec : p.tables.exec = Jvm.exec) {a : Addr} {cell : Cell} {j : Int32} {v : Value} (hcell : T.heap[a]? = some cell) (harr : s.isArrayOf cell .boolean) (hknown : cell.vm ≠ .unknown)
  (hin : ¬ (j < 0 ∨ cell.slots.size ≤ j.toNatClampNeg)) (hv : cell.slots[j.toNatClampNeg]? = some v) {g : JFrame} (hg : g.method = m) {rest : List Value} (hstack : g.stack = .int j :: .ref a :: rest) (hdg : decode c.code g.pc = .ok (.baload, 1)) (target : State)
  (hrest : Steps p.tables e below (T.setTop { g with pc := g.pc + 1, stack := v :: rest }) target) : Steps p.tables e below (T.setTop g) target := by
 have hT := State.isArrayOf_alike X.warmed.alike harr
 subst hg
 jvm_step X.here [hexec, hdg, baload.wp_booleans (e := e) (s := T) (f := g) X.here.top hstack hcell hT hin hknown hv]
 exact hrest
theorem yR {i : Nat} {xs : List Int32} {j x : Int32} (hd : decode bytes pc = .ok (.baload, 1)) (hH : H[i]? = some (cZ xs)) (hx : rd xs j = some x) (nx : WP l Z C lay own mn bytes maxL ret R n0 ro Q k n (pc + 1) L (.int x :: S) H) : WP l Z C lay own mn bytes maxL ret R n0 ro Q k n pc L (.int j :: .ref i :: S) H :=
 yK (fun p e s m args below meth c T locs ad Ls X A hr N hL hz => by
  obtain ⟨cl, Ar, hsl⟩ := hr.1 i _ hH
  obtain ⟨q1, q2⟩ := rd_slots hsl hx
  exact ⟨T, locs, X, hr, Kp.refl _ _ _, N, fun t ht => baloadZ X A.1 (j := j) Ar.1 (State.isArrayOf_alike A.2.1.alike Ar.2.1) Ar.2.2 q1 q2 (g := mkF m pc Ls (.int j :: .ref (ad i) :: S.map (rf ad))) rfl rfl (hb A.2.2.1 hd) _ ht⟩) nx
theorem WP.arraylength {i : Nat} {xs : List Int32} (hd : decode bytes pc = .ok (.arraylength, 1)) (hH : H[i]? = some (cI xs)) (nx : WP l Z C lay own mn bytes maxL ret R n0 ro Q k n (pc + 1) L (.int xs.length.toInt32 :: S) H) : WP l Z C lay own mn bytes maxL ret R n0 ro Q k n pc L (.ref i :: S) H :=
 yK (fun p e s m args below meth c T locs ad Ls X A hr N hL hz => by
  obtain ⟨cl, Ar, hsl⟩ := hr.1 i _ hH
  have e1 : cl.slots.size = xs.length := by rw [← Array.length_toList, hsl, List.length_map]
  refine ⟨T, locs, X, hr, Kp.refl _ _ _, N, fun t ht => X.arraylength A.1 Ar.1 (State.isArrayOf_alike A.2.1.alike Ar.2.1) (g := mkF m pc Ls (.ref (ad i) :: S.map (rf ad))) rfl rfl (hb A.2.2.1 hd) _ ?_⟩
  rw [e1]; exact ht) nx
theorem xU {i : Nat} {xs xs' : List Int32} {j : Int32} {x : Int32} (hd : decode bytes pc = .ok (.iastore, 1)) (hH : H[i]? = some (cI xs)) (hi : ro ≤ i) (hx : wr xs j x = some xs') (hH' : H.set i (cI xs') = H') (nx : WP l Z C lay own mn bytes maxL ret R n0 ro Q k n (pc + 1) L S H') : WP l Z C lay own mn bytes maxL ret R n0 ro Q k n pc L (.int x :: .int j :: .ref i :: S) H :=
 yK (fun p e s m args below meth c T locs ad Ls X A hr N hL hz => by
  obtain ⟨cl, Ar, hsl⟩ := hr.1 i _ hH
  obtain ⟨q1, q2⟩ := wr_slots hsl hx
  obtain ⟨T', h', X', e', w, st⟩ := stI X A.1 A.2.1 rfl Ar (j := j) (x := x) q1 (g := mkF m pc Ls (.int x :: .int j :: .ref (ad i) :: S.map (rf ad))) rfl rfl (hb A.2.2.1 hd)
  subst e'
  have hi' := get_lt hH
  have P := hr.put (h' := T'.heap) (c := cI xs') hi' w.size (fun a cz hne q => by
   obtain ⟨c', g1, -, -, -, g5, -⟩ := wr_at w q
   rw [g5 hne] at g1; exact g1) ⟨_, Ar.same w, q2⟩
  exact ⟨T', _, X', hH' ▸ P.1, P.2, Fr.snoc X' N (hr.2.2.2.1 i hi' hi), fun t ht => st t ht⟩) nx
theorem yS {i : Nat} {xs xs' : List Int32} {j : Int32} {x : Int32} (hd : decode bytes pc = .ok (.bastore, 1)) (hH : H[i]? = some (cZ xs)) (hi : ro ≤ i) (hx : wr xs j (x &&& 1) = some xs') (hH' : H.set i (cZ xs') = H') (nx : WP l Z C lay own mn bytes maxL ret R n0 ro Q k n (pc + 1) L S H') : WP l Z C lay own mn bytes maxL ret R n0 ro Q k n pc L (.int x :: .int j :: .ref i :: S) H :=
 yK (fun p e s m args below meth c T locs ad Ls X A hr N hL hz => by
  obtain ⟨cl, Ar, hsl⟩ := hr.1 i _ hH
  obtain ⟨q1, q2⟩ := wr_slots hsl hx
  obtain ⟨T', h', X', e', w, st⟩ := stZ X A.1 A.2.1 rfl Ar (j := j) (x := x) q1 (g := mkF m pc Ls (.int x :: .int j :: .ref (ad i) :: S.map (rf ad))) rfl rfl (hb A.2.2.1 hd)
  subst e'
  have hi' := get_lt hH
  have P := hr.put (h' := T'.heap) (c := cZ xs') hi' w.size (fun a cz hne q => by
   obtain ⟨c', g1, -, -, -, g5, -⟩ := wr_at w q
   rw [g5 hne] at g1; exact g1) ⟨_, Ar.same w, q2⟩
  exact ⟨T', _, X', hH' ▸ P.1, P.2, Fr.snoc X' N (hr.2.2.2.1 i hi' hi), fun t ht => st t ht⟩) nx
/-- a field of the one class is written -/
theorem WP.put {idx i j kk : Nat} {f d : String} {vs : List Value} {v v' old : Value} {ty : FieldType} (hd : decode bytes pc = .ok (.putfield idx, 3)) (hw : (Cond.fieldLink own idx C f d).before a0 Z = true) (hl : (Cond.lays C C f d).before a0 Z = true ∨ ((Cond.laysFinal C C f d).before a0 Z = true ∧ own = C ∧ mn = "<init>")) (wi : (Cond.instantiable C kk).before a0 Z = true)
  (hlay : ∀ (a b : Nat) (f g : String × String), lay[a]? = some f → lay[b]? = some g → a ≠ b → RoadKit.slotOf Z C f.1 f.2 ≠ RoadKit.slotOf Z C g.1 g.2) (hty : parseFieldDescriptor d = some ty) (hn : ∀ ad, narrow ty (rf ad v) = rf ad v') (hf : ∀ ad, fits ty (rf ad v') = true)
  (hj : lay[j]? = some (f, d)) (hH : H[i]? = some (.inl vs)) (hv : vs[j]? = some old) (hi : ro ≤ i) (hH' : H.set i (.inl (vs.set j v')) = H') (nx : WP l Z C lay own mn bytes maxL ret R n0 ro Q k n (pc + 3) L S H') : WP l Z C lay own mn bytes maxL ret R n0 ro Q k n pc L (v :: .ref i :: S) H :=
 yK (fun p e s m args below meth c T locs ad Ls X A hr N hL hz => by
  obtain ⟨E, F⟩ := hr.1 i _ hH
  obtain ⟨T', h', X', e', w, st⟩ := putFN X A.1 A.2.1 A.2.2.2.2.2.2.1 hw Via.refl rfl (F j _ old hj hv) E (hl.imp id fun q => ⟨q.1, q.2.1, A.2.2.2.2.2.2.2.trans q.2.2⟩) wi hty (hn ad) (hf ad) (g := mkF m pc Ls (rf ad v :: .ref (ad i) :: S.map (rf ad))) rfl rfl (hb A.2.2.1 hd)
  subst e'
  have hi' := get_lt hH
  have P := hr.put (h' := T'.heap) (c := .inl (vs.set j v')) hi' w.size (fun a cz hne q => by
   obtain ⟨c', g1, -, -, -, g5, -⟩ := wr_at w q
   rw [g5 hne] at g1; exact g1) ⟨E.wr w, fun a g u hg hu => by
    rw [List.getElem?_set] at hu
    by_cases e : j = a
    ·subst e
     cases hj.symm.trans hg
     rw [if_pos rfl, if_pos (get_lt hv)] at hu
     cases hu
     exact (F j _ old hj hv).same w
    ·rw [if_neg e] at hu
     exact (F a g u hg hu).other w (Or.inr (hlay a j g (f, d) hg hj (Ne.symm e)))⟩
  exact ⟨T', _, X', hH' ▸ P.1, P.2, Fr.snoc X' N (hr.2.2.2.1 i hi' hi), fun t ht => st t ht⟩) nx
/-- newarray -/
theorem xX {aty : ArrayType} {c0 : OwnC} {cnt : Int32} (hd : decode bytes pc = .ok (.newarray aty, 2)) (hw : (Cond.arrayClass (newarray.typeOf aty)).before a0 Z = true) (hn : ¬ cnt < 0) (hb8 : cnt.toNatClampNeg * 8 ≤ 536870912) (hc : k + 1 ≤ R.cells) (hl : n + cnt.toNatClampNeg ≤ R.slots)
  (h0 : (aty = .int ∧ c0 = cI (List.replicate cnt.toNatClampNeg 0)) ∨ (aty = .long ∧ c0 = cJ (List.replicate cnt.toNatClampNeg 0)) ∨ (aty = .boolean ∧ c0 = cZ (List.replicate cnt.toNatClampNeg 0)))
  (nx : WP l Z C lay own mn bytes maxL ret R n0 ro Q (k + 1) (n + cnt.toNatClampNeg) (pc + 2) L (.ref H.length :: S) (H ++ [c0])) : WP l Z C lay own mn bytes maxL ret R n0 ro Q k n pc L (.int cnt :: S) H :=
 yK (fun p e s m args below meth c T locs ad Ls X A hr N hL hz => by
  have hcb : componentBytes (newarray.typeOf aty) ≤ 8 := by cases aty <;> decide
  obtain ⟨cA, kA, comp, h1, h2, h3, X', st⟩ := X.newarrayPrim A.1 (mvA A.2.1 hw) (g := mkF m pc Ls (.int cnt :: S.map (rf ad))) rfl (hb A.2.2.1 hd) rfl hn (Nat.le_trans (Nat.mul_le_mul (Nat.le_refl _) hcb) hb8) hc hl
  rw [A.2.1.alike.findClass] at h1
  obtain ⟨kZ, z1, -⟩ := Vm.findClass_spec h1
  obtain ⟨k', z2, z3⟩ := A.2.1.alike.2.2 _ _ z1
  cases h2.symm.trans z2
  have hE : Ext T.heap (T.heap.push { cls := cA, slots := Array.replicate cnt.toNatClampNeg (defaultValue (newarray.typeOf aty)), vm := .none }) := ⟨by simp, fun a c h => by
   rw [Array.getElem?_push_lt (Array.getElem?_eq_some_iff.mp h).1]; exact (Array.getElem?_eq_getElem _).symm.trans h⟩
  have Ar : Arr Z (T.heap.push { cls := cA, slots := Array.replicate cnt.toNatClampNeg (defaultValue (newarray.typeOf aty)), vm := .none }) T.heap.size { cls := cA, slots := Array.replicate cnt.toNatClampNeg (defaultValue (newarray.typeOf aty)), vm := .none } (newarray.typeOf aty) :=
   ⟨by simp, ⟨by simp, kZ, z1, comp, by rw [← h3, z3]⟩, by simp⟩
  have hc0 : CelOk Z C lay ad (T.heap.push { cls := cA, slots := Array.replicate cnt.toNatClampNeg (defaultValue (newarray.typeOf aty)), vm := .none }) T.heap.size c0 := by
   rcases h0 with ⟨rfl, rfl⟩ | ⟨rfl, rfl⟩ | ⟨rfl, rfl⟩
   all_goals exact ⟨_, Ar, by simp [defaultValue, newarray.typeOf]⟩
  have P := hr.push (h' := T.heap.push _) (by simp) hE hc0
  refine ⟨_, locs, X', P.1, P.2.1, N, fun t ht => st t ?_⟩
  have e0 : (List.map (rf ad) (.ref H.length :: S)) = .ref T.heap.size :: S.map (rf ad) := by show (Value.ref (ad H.length) :: _) = _; rw [P.2.2]
  rw [e0] at ht; exact ht) nx
theorem rf_default (ad : Nat → Addr) (ty : FieldType) : rf ad (defaultValue ty) = defaultValue ty := by cases ty <;> rfl
/-- new -/
theorem WP.new {idx kk : Nat} {vs : List Value} (hd : decode bytes pc = .ok (.new idx, 3)) (hw : (Cond.classLink own idx C).before a0 Z = true) (wi : (Cond.instantiable C kk).before a0 Z = true) (wz : (Cond.initialized C).before a0 Z = true) (hc : k + 1 ≤ R.cells) (hl : n + kk ≤ R.slots)
  (h0 : ∀ (i : Nat) (f : String × String) (v : Value), lay[i]? = some f → vs[i]? = some v → Laid Z a0 C C f.1 f.2 ∧ ∃ ty, parseFieldDescriptor f.2 = some ty ∧ v = defaultValue ty)
  (nx : WP l Z C lay own mn bytes maxL ret R n0 ro Q (k + 1) (n + kk) (pc + 3) L (.ref H.length :: S) (H ++ [.inl vs])) : WP l Z C lay own mn bytes maxL ret R n0 ro Q k n pc L S H :=
 yK (fun p e s m args below meth c T locs ad Ls X A hr N hL hz => by
  obtain ⟨vm', cC, kC, h1, h2, h3, h4, X', st⟩ := X.newCold A.1 A.2.2.2.2.2.2.1 (mv A.2.1 hw) (mv A.2.1 wi) (mv A.2.1 wz) (g := mkF m pc Ls (S.map (rf ad))) rfl (hb A.2.2.1 hd) hc hl
  rw [A.2.1.alike.findClass] at h1
  obtain ⟨kZ, z1, -⟩ := Vm.findClass_spec h1
  obtain ⟨k', z2, z3⟩ := A.2.1.alike.2.2 _ _ z1
  cases h2.symm.trans z2
  have ei : kC.instanceTypes = kZ.instanceTypes := by rw [z3]
  have hN : (T.heap.push { cls := cC, slots := kC.instanceTypes.map defaultValue, vm := .none })[T.heap.size]? = some { cls := cC, slots := kC.instanceTypes.map defaultValue, vm := .none } := by simp
  have hE : Ext T.heap (T.heap.push { cls := cC, slots := kC.instanceTypes.map defaultValue, vm := .none }) := ⟨by simp, fun a c h => by
   rw [Array.getElem?_push_lt (Array.getElem?_eq_some_iff.mp h).1]; exact (Array.getElem?_eq_getElem _).symm.trans h⟩
  have hc0 : CelOk Z C lay ad (T.heap.push { cls := cC, slots := kC.instanceTypes.map defaultValue, vm := .none }) T.heap.size (.inl vs) := by
   refine ⟨⟨_, kZ, hN, h1, z1, rfl, fun _ => by simp [ei]⟩, fun i f v hf hv => ?_⟩
   obtain ⟨La, ty, ht, rfl⟩ := h0 i f v hf hv
   obtain ⟨c1, k1, cf, kf, i1, f1, a1, a2, a3, a4, a5, a6, -⟩ := La.spec
   cases h1.symm.trans a1
   cases z1.symm.trans a2
   rw [rf_default]
   exact ⟨_, cf, kf, i1, f1, hN, a3, a4, by simp, rfl, a5, by simp [ei, a6, (State.fieldFound?_type a3 ht).2]⟩
  have P := hr.push (h' := T.heap.push _) (by simp) hE hc0
  refine ⟨_, locs, X', P.1, P.2.1, N, fun t ht => st t ?_⟩
  have e0 : (List.map (rf ad) (.ref H.length :: S)) = .ref T.heap.size :: S.map (rf ad) := by show (Value.ref (ad H.length) :: _) = _; rw [P.2.2]
  rw [e0] at ht; exact ht) nx
/-- Object.<init> -/
theorem WP.initO {idx i : Nat} (hd : decode bytes pc = .ok (.invokespecial idx, 3)) (w1 : (Cond.methodLink own idx Lib.objectInit).before a0 Z = true) (w2 : (Cond.instanceMethod Lib.objectInit).before a0 Z = true) (w3 : (Cond.code Lib.objectInit ⟨#[0xb1]⟩ 1 none).before a0 Z = true) (hf : 1 ≤ R.frames) (hl : (S.map fun v => v.category).sum + 12 ≤ R.locals)
  (nx : WP l Z C lay own mn bytes maxL ret R n0 ro Q k n (pc + 3) L S H) : WP l Z C lay own mn bytes maxL ret R n0 ro Q k n pc L (.ref i :: S) H :=
 yK (fun p e s m args below meth c T locs ad Ls X A hr N hL hz => by
  obtain ⟨T', X', e', st⟩ := RoadKit.initO X A.1 A.2.1 A.2.2.2.2.2.2.1 w1 w2 w3 rfl (g := mkF m pc Ls (.ref (ad i) :: S.map (rf ad))) rfl (hz.trans A.2.2.2.1.symm) rfl (hb A.2.2.1 hd) hf (W := (S.map fun v => v.category).sum) (by show 2 * 0 + _ ≤ _; rw [rf_cats]; omega) hl
  exact ⟨T', locs, X', by rw [e']; exact hr, by rw [e']; exact Kp.refl _ _ _, N, fun t ht => st t ht⟩) nx
theorem WP.leave {v : Option Value} (hk : k ≤ R.cells) (hn : n ≤ R.slots) (hv : ret = none → v = none) (hq : Q v H)
  (hs : ∀ (p : Program) (e : Env) (s : State) (m : MethodId) (args : Array Value) (below : List Frame) (meth : Method) (c : Code) (T : State) (locs : List Loc) (ad : Nat → Addr) (Ls : Array Slot) (fs : List Frame), Stand p l e R s m args below meth c T locs k n → Am Z own mn bytes maxL ret p s m meth c →
   (∀ (f : JFrame) (acts : List Action), f.method = m → f.locked = none → f.entered = [] → (doReturn e (T.setTop f) acts (v.map (rf ad))).1 = T.setFrames fs) → Steps p.tables e below (T.setTop (mkF m pc Ls (S.map (rf ad)))) (T.setFrames fs)) : WP l Z C lay own mn bytes maxL ret R n0 ro Q k n pc L S H := by
 intro p e s m args below meth c T locs ad Ls X A hr N hL hz
 obtain ⟨fs, hr', hrun, hended, hW, hsame⟩ := X.leave (v := v.map (rf ad)) (fun q => by rw [hv (A.2.2.2.2.1.symm.trans q)]; rfl) A.2.2.2.2.2.1
 exact ⟨_, v, H, locs, hs p e s m args below meth c T locs ad Ls fs X A hr', hrun, hended, hq, hr, Kp.refl _ _ _, N, ⟨_, rfl⟩, hW, hsame.mono hk hn⟩
theorem retI' {p : Program} {e : Env} {s : State} {m : MethodId} {args : Array Value} {below : List Frame} {meth : Method} {c : Code} {T : State} {locs : List Loc} {cells slots : Nat} (X : Stand p l e R s m args below meth c T locs cells slots) (hx : p.tables.exec = Jvm.exec) {pc : Nat} {Ls : Array Slot} {z : Int32} {rest : List Value} (hret : meth.sig.returnType = some .int) (hd : decode c.code pc = .ok (.ireturn, 1)) {fs : List Frame}
  (hl : ∀ (f : JFrame) (acts : List Action), f.method = m → f.locked = none → f.entered = [] → (doReturn e (T.setTop f) acts (some (.int z))).1 = T.setFrames fs) : Steps p.tables e below (T.setTop (mkF m pc Ls (.int z :: rest))) (T.setFrames fs) := by
 have hm' : T.vm.method? m = some meth := X.method'
 have hn : narrow .int (.int z) = .int z := rfl
 show Steps p.tables e below (T.setTop { method := m, pc := pc, locals := Ls, stack := _ :: rest, locked := none }) _
 jvm_step X.here [X.here.top, hx, hd, hm', hret, hn]
 first | (intro acts; rw [hl _ acts rfl rfl rfl]) | rw [hl _ _ rfl rfl rfl]
 exact Steps.refl _
theorem xK {x : Int32} (hd : decode bytes pc = .ok (.ireturn, 1)) (hret : ret = some .int) (hk : k ≤ R.cells) (hn : n ≤ R.slots) (hq : Q (some (.int x)) H) : WP l Z C lay own mn bytes maxL ret R n0 ro Q k n pc L (.int x :: S) H :=
 WP.leave (v := some (.int x)) hk hn (fun q => by rw [hret] at q; cases q) hq fun p e s m args below meth c T locs ad Ls fs X A hr' => retI' X A.1 (A.2.2.2.2.1.trans hret) (hb A.2.2.1 hd) hr'
theorem xZ {x : Int32} (hd : decode bytes pc = .ok (.ireturn, 1)) (hret : ret = some .boolean) (hk : k ≤ R.cells) (hn : n ≤ R.slots) (hq : Q (some (.int (x &&& 1))) H) : WP l Z C lay own mn bytes maxL ret R n0 ro Q k n pc L (.int x :: S) H :=
 WP.leave (v := some (.int (x &&& 1))) hk hn (fun q => by rw [hret] at q; cases q) hq fun p e s m args below meth c T locs ad Ls fs X A hr' => retN X A.1 (t := .boolean) (A.2.2.2.2.1.trans hret) (Or.inl rfl) (hb A.2.2.1 hd) hr'
theorem WP.lreturn {x : Int64} (hd : decode bytes pc = .ok (.lreturn, 1)) (hret : ret = some .long) (hk : k ≤ R.cells) (hn : n ≤ R.slots) (hq : Q (some (.long x)) H) : WP l Z C lay own mn bytes maxL ret R n0 ro Q k n pc L [.long x] H :=
 WP.leave (v := some (.long x)) hk hn (fun q => by rw [hret] at q; cases q) hq fun p e s m args below meth c T locs ad Ls fs X A hr' => X.lreturnOut A.1 (A.2.2.2.2.1.trans hret) (hb A.2.2.1 hd) hr'
theorem xS (hd : decode bytes pc = .ok (.return_, 1)) (hret : ret = none) (hk : k ≤ R.cells) (hn : n ≤ R.slots) (hq : Q none H) : WP l Z C lay own mn bytes maxL ret R n0 ro Q k n pc L [] H :=
 WP.leave (v := none) hk hn (fun _ => rfl) hq fun p e s m args below meth c T locs ad Ls fs X A hr' => X.returnOut A.1 (A.2.2.2.2.1.trans hret) (hb A.2.2.1 hd) hr'
end Rules
/-! ## a callee's promise, said of the small view -/
def QQ (Z : State) (C : String) (lay : List (String × String)) (n0 ro : Nat) (ad : Nat → Addr) (N : Nat) (h : Heap) (Q : Option Value → List OwnC → Prop) (v : Option Value) (h' : Heap) (L : List Loc) : Prop :=
 ∃ w H', v = w.map (rf ad) ∧ Q w H' ∧ HR Z C lay n0 ro ad H' h' ∧ Kp ad N h h' ∧ Fr n0 L
def CS (l : Launch) (Z : State) (C : String) (lay : List (String × String)) (y : MethodName) (bytes : ByteArray) (maxL : Nat) (ret : Option FieldType) (R : Room) (ro : Nat) (as : List Value) (H : List OwnC) (Q : Option Value → List OwnC → Prop) : Prop :=
 ∀ (ws : List Cond) (n0 : Nat) (ad : Nat → Addr) (h : Heap), HR Z C lay n0 ro ad H h →
  MetFree l y (head1 (Cond.code y bytes maxL ret :: ws) R) (fun a U => a = (as.map (rf ad)).toArray ∧ Z.Warmed39 U.vm ∧ U.heap = h) (fun _ _ _ _ _ => True)
   (fun _ U o U' => ∃ v L, o = .returned v ∧ QQ Z C lay n0 ro ad H.length h Q v U'.heap L ∧ FrameEnd U o U' L R.cells R.slots)
section Calls
variable {l : Launch} {Z : State} {a0 : Array Value} {C : String} {lay : List (String × String)} {own mn : String} {bytes cb : ByteArray} {maxL cm : Nat} {ret cr : Option FieldType} {R Rc : Room} {n0 ro : Nat} {Q Qc : Option Value → List OwnC → Prop} {k n pc pc' : Nat} {L L' : List Slot} {S S0 as : List Value} {H H' : List OwnC} {y : MethodName}
theorem CS.of_wp (hx : plainName y.cls = true) (hn : (laid as).length ≤ maxL) (w : ∀ n0, WP l Z C lay y.cls y.name bytes maxL ret R n0 ro Q 0 0 0 (entL as maxL) [] H) : CS l Z C lay y bytes maxL ret R ro as H Q := by
 intro ws n0 ad h hr
 refine MetFree.of_bodySF (plainFor_of_name hx) hisR ?_
 intro p e s m args below meth c s₁ Bd hml0 hP hK
 obtain ⟨rfl, hZ, hh⟩ := hP
 have e0 : s₁.heap = h := by rw [← hh, Bd.state]; rfl
 obtain ⟨E1, E2⟩ := entry_LR ad as maxL hn
 obtain ⟨s₂, v, H', locs', h1, h2, h3, h4, h5, h6, h7, h8⟩ := w n0 p e s m _ below meth c s₁ [] ad _ (Stand.of_body Bd) ⟨Bd.exec, hZ, Bd.bytes, hml0, Bd.returns, Bd.notSynchronized, findClass_of_methodNamed Bd.named, (name_of_methodNamed Bd.named Bd.method).1⟩ (by rw [e0]; exact hr) (Fr.nil n0) E1 E2
 rw [e0] at h6
 exact ⟨s₂, _, h1, h2, h3, _, locs', rfl, ⟨v, H', rfl, h4, h5, h6, h7⟩, h8⟩
theorem CS.mono (cs : CS l Z C lay y bytes maxL ret R ro as H Q) (h : ∀ v H', Q v H' → Qc v H') : CS l Z C lay y bytes maxL ret R ro as H Qc := by
 intro ws n0 ad hh hr p e ha hc hk s m args below hf happ hP hK
 obtain ⟨N, o, h1, h2, h3, v, L, h4, ⟨w, H', g1, g2, g3⟩, h5⟩ := cs ws n0 ad hh hr p e ha hc hk s m args below hf happ hP hK
 exact ⟨N, o, h1, h2, h3, v, L, h4, ⟨w, H', g1, h _ _ g2, g3⟩, h5⟩
/-- what every call leaves: the walk goes on behind it -/
theorem go_on {p : Program} {e : Env} {s : State} {m : MethodId} {args : Array Value} {below : List Frame} {meth : Method} {c : Code} {T : State} {locs : List Loc} {ad : Nat → Addr} {Ls : Array Slot} {B : Pt} {v : Option Value} {Lc : List Loc} {s₀ : State}
  (nx : ∀ v H', Qc v H' → WP l Z C lay own mn bytes maxL ret R n0 ro Q (k + Rc.cells) (n + Rc.slots) (pc + 3) L (v.toList ++ S) H') (X : Stand p l e R s m args below meth c B.U B.locs B.cells B.slots) (A : Am Z own mn bytes maxL ret p s m meth c) (hr : HR Z C lay n0 ro ad H T.heap) (N : Fr n0 locs) (hL : LR ad L Ls) (hz : Ls.size = maxL)
  (hQ : QQ Z C lay n0 ro ad H.length T.heap Qc v B.U.heap Lc) (e1 : B.locs = locs ++ Lc) (e2 : B.cells = k + Rc.cells) (e3 : B.slots = n + Rc.slots) (st : Steps p.tables e below s₀ (B.U.setTop (mkF m (pc + 3) Ls (v.toList ++ S.map (rf ad))))) :
  ∃ (s₂ : State) (v : Option Value) (H' : List OwnC) (locs' : List Loc), Steps p.tables e below s₀ s₂ ∧ s₂.status = .running ∧ Ended s₂ below (.returned (v.map (rf ad))) ∧ Q v H' ∧ HR Z C lay n0 ro ad H' s₂.heap ∧ Kp ad H.length T.heap s₂.heap ∧ Fr n0 locs' ∧ FrameEnd s (.returned (v.map (rf ad))) s₂ locs' R.cells R.slots := by
 obtain ⟨w, H1, rfl, g2, g3, g4, g5⟩ := hQ
 rw [e1, e2, e3] at X
 obtain ⟨s₂, v, H2, locs2, h1, h2, h3, h4, h5, h6, h7⟩ := nx w H1 g2 p e s m args below meth c B.U _ ad Ls X A g3 (N.app g5) hL hz
 refine ⟨s₂, v, H2, locs2, st.trans ?_, h2, h3, h4, h5, Kp.trans hr g4 h6, h7⟩
 have e0 : (w.toList ++ S).map (rf ad) = (w.map (rf ad)).toList ++ S.map (rf ad) := by cases w <;> rfl
 rw [← e0]; exact h1
theorem stack_of (ad : Nat → Addr) (h : S0 = as.reverse ++ S) : S0.map (rf ad) = (as.map (rf ad)).reverse ++ S.map (rf ad) := by rw [h, List.map_append, List.map_reverse]
theorem stack_of1 {i : Nat} (ad : Nat → Addr) (h : S0 = as.reverse ++ .ref i :: S) : S0.map (rf ad) = (as.map (rf ad)).reverse ++ .ref (ad i) :: S.map (rf ad) := by rw [h, List.map_append, List.map_reverse]; rfl
theorem xQ {idx : Nat} (hd : decode bytes pc = .ok (.invokestatic idx, 3)) (w1 : (Cond.methodLink own idx y).before a0 Z = true) (w2 : (Cond.static y).before a0 Z = true) (w3 : (Cond.initialized y.cls).before a0 Z = true) (w4 : (Cond.code y cb cm cr).before a0 Z = true) (hy : y.cls ≠ "java/lang/invoke/MethodHandle" ∧ y.cls ≠ "java/lang/invoke/VarHandle")
  (cs : CS l Z C lay y cb cm cr Rc ro as H Qc) (hS : S0 = as.reverse ++ S) (hlen : ∀ sig, parseMethodDescriptor y.desc = some sig → as.length = sig.parameters.length) (hf : Rc.frames + 1 ≤ R.frames) (hl : (S.map fun v => v.category).sum + (cm + 11) + Rc.locals ≤ R.locals) (hc : k + Rc.cells ≤ R.cells) (hs : n + Rc.slots ≤ R.slots)
  (nx : ∀ v H', Qc v H' → WP l Z C lay own mn bytes maxL ret R n0 ro Q (k + Rc.cells) (n + Rc.slots) (pc + 3) L (v.toList ++ S) H') : WP l Z C lay own mn bytes maxL ret R n0 ro Q k n pc L S0 H := by
 intro p e s m args below meth c T locs ad Ls X A hr N hL hz
 obtain ⟨v, vm₁, B, hW₁, X', ⟨Lc, hQ, e1, e2, e3⟩, st⟩ := Jvm.LawKit.callS X A.1 (y := y) A.2.2.2.2.2.2.1 (mvT A.2.1 w1) (mvT A.2.1 w2) (mvT A.2.1 w3) (mvT A.2.1 w4) hy
  (backOf (W := (S.map fun v => v.category).sum) (cs [] n0 ad T.heap hr) A.2.1 w4 w3 hf hl) (g := mkF m pc Ls (S0.map (rf ad))) rfl (hz.trans A.2.2.2.1.symm) (argsL := as.map (rf ad)) (rest := S.map (rf ad)) (fun sig q => by rw [List.length_map]; exact hlen sig q) (stack_of ad hS) (by show 2 * 0 + _ ≤ _; rw [rf_cats]; omega) (hb A.2.2.1 hd) (fun _ _ => ⟨rfl, rfl, hc, hs⟩)
 exact go_on (T := T) nx X' A hr N hL hz hQ e1 e2 e3 (st _ (Steps.refl _))
theorem yF {idx i : Nat} {vs : List Value} (hd : decode bytes pc = .ok (.invokevirtual idx, 3)) (w1 : (Cond.methodLink own idx y).before a0 Z = true) (w2 : (Cond.declares y).before a0 Z = true) (w3 : (Cond.selects C y y).before a0 Z = true) (w4 : (Cond.instanceMethod y).before a0 Z = true) (w5 : (Cond.code y cb cm cr).before a0 Z = true) (w6 : (Cond.initialized y.cls).before a0 Z = true) (hy : y.cls ≠ "java/lang/invoke/MethodHandle" ∧ y.cls ≠ "java/lang/invoke/VarHandle")
  (hH : H[i]? = some (.inl vs)) (cs : CS l Z C lay y cb cm cr Rc ro (.ref i :: as) H Qc) (hS : S0 = as.reverse ++ .ref i :: S) (hlen : ∀ sig, parseMethodDescriptor y.desc = some sig → as.length = sig.parameters.length) (hf : Rc.frames + 1 ≤ R.frames) (hl : (S.map fun v => v.category).sum + (cm + 11) + Rc.locals ≤ R.locals) (hc : k + Rc.cells ≤ R.cells) (hs : n + Rc.slots ≤ R.slots)
  (nx : ∀ v H', Qc v H' → WP l Z C lay own mn bytes maxL ret R n0 ro Q (k + Rc.cells) (n + Rc.slots) (pc + 3) L (v.toList ++ S) H') : WP l Z C lay own mn bytes maxL ret R n0 ro Q k n pc L S0 H := by
 intro p e s m args below meth c T locs ad Ls X A hr N hL hz
 obtain ⟨cq, kq, qa, qb, qc⟩ := isOf A.2.1 rfl (hr.1 i _ hH).1
 obtain ⟨v, vm₁, B, hW₁, X', ⟨Lc, hQ, e1, e2, e3⟩, st⟩ := X.virtualBack A.1 (y := y) (z := y) A.2.2.2.2.2.2.1 (mvT A.2.1 w1) (mvT A.2.1 w2) (notFace_of_selects (args := #[]) (mvT A.2.1 w3)) (mvT A.2.1 w3) (mvT A.2.1 w4) hy
  (backOf (W := (S.map fun v => v.category).sum) (cs [] n0 ad T.heap hr) A.2.1 w5 w6 hf hl) qa qc (g := mkF m pc Ls (S0.map (rf ad))) rfl (hz.trans A.2.2.2.1.symm) (Steps.refl _) (argsL := as.map (rf ad)) (rest := S.map (rf ad)) (fun sig q => by rw [List.length_map]; exact hlen sig q) (stack_of1 ad hS) (by show 2 * 0 + _ ≤ _; rw [rf_cats]; omega) (hb A.2.2.1 hd) (fun _ _ => ⟨rfl, rfl, hc, hs⟩)
 exact go_on (T := T) nx X' A hr N hL hz hQ e1 e2 e3 st
theorem xF {idx i kk : Nat} {vs : List Value} (hd : decode bytes pc = .ok (.invokevirtual idx, 3)) (w1 : (Cond.methodLink own idx y).before a0 Z = true) (w2 : (Cond.privateMethod y).before a0 Z = true) (wi : (Cond.instantiable y.cls kk).before a0 Z = true) (w4 : (Cond.instanceMethod y).before a0 Z = true) (w5 : (Cond.code y cb cm cr).before a0 Z = true) (w6 : (Cond.initialized y.cls).before a0 Z = true) (hy : y.cls ≠ "java/lang/invoke/MethodHandle" ∧ y.cls ≠ "java/lang/invoke/VarHandle")
  (hH : H[i]? = some (.inl vs)) (cs : CS l Z C lay y cb cm cr Rc ro (.ref i :: as) H Qc) (hS : S0 = as.reverse ++ .ref i :: S) (hlen : ∀ sig, parseMethodDescriptor y.desc = some sig → as.length = sig.parameters.length) (hf : Rc.frames + 1 ≤ R.frames) (hl : (S.map fun v => v.category).sum + (cm + 11) + Rc.locals ≤ R.locals) (hc : k + Rc.cells ≤ R.cells) (hs : n + Rc.slots ≤ R.slots)
  (nx : ∀ v H', Qc v H' → WP l Z C lay own mn bytes maxL ret R n0 ro Q (k + Rc.cells) (n + Rc.slots) (pc + 3) L (v.toList ++ S) H') : WP l Z C lay own mn bytes maxL ret R n0 ro Q k n pc L S0 H := by
 intro p e s m args below meth c T locs ad Ls X A hr N hL hz
 obtain ⟨cq, q, q'⟩ := (hr.1 i _ hH).1.cell
 have hpr : s.PrivateAt y := Cond.privateMethod_at (mvP A.2.1 w2 (args := #[]))
 have hin : (Cond.instanceMethod y).before args s = true := mvT A.2.1 w4
 have hsel : (Cond.selects y.cls y y).before args s = true := by
  have wi' : (Cond.instantiable y.cls kk).before args s = true := mvT A.2.1 wi
  obtain ⟨c1, k1, g1, g2, g3, g4, -⟩ := Cond.instantiable_spec wi'
  have g5 : k1.isInterface = false := by
   cases hq : k1.isInterface
   ·rfl
   ·rw [hq] at g4; cases g4
  exact selects_self_of_private g1 g2 g5 hpr hin hy
 obtain ⟨v, vm₁, B, hW₁, X', ⟨Lc, hQ, e1, e2, e3⟩, st⟩ := X.privateBack A.1 (y := y) A.2.2.2.2.2.2.1 (mvT A.2.1 w1) hin hsel hpr (mvT A.2.1 w5) hy
  (backOf (W := (S.map fun v => v.category).sum) (cs [] n0 ad T.heap hr) A.2.1 w5 w6 hf hl) (g := mkF m pc Ls (S0.map (rf ad))) rfl (hz.trans A.2.2.2.1.symm) (Steps.refl _) q q' (argsL := as.map (rf ad)) (rest := S.map (rf ad)) (fun sig q => by rw [List.length_map]; exact hlen sig q) (stack_of1 ad hS) (by show 2 * 0 + _ ≤ _; rw [rf_cats]; omega) (hb A.2.2.1 hd) (fun _ _ => ⟨rfl, rfl, hc, hs⟩)
 exact go_on (T := T) nx X' A hr N hL hz hQ e1 e2 e3 st
theorem WP.callI {idx i : Nat} (hd : decode bytes pc = .ok (.invokespecial idx, 3)) (hn1 : y.name = "<init>") (w1 : (Cond.methodLink own idx y).before a0 Z = true) (w4 : (Cond.instanceMethod y).before a0 Z = true) (w5 : (Cond.code y cb cm none).before a0 Z = true) (w6 : (Cond.initialized y.cls).before a0 Z = true) (hy : y.cls ≠ "java/lang/invoke/MethodHandle" ∧ y.cls ≠ "java/lang/invoke/VarHandle")
  (cs : CS l Z C lay y cb cm none Rc ro (.ref i :: as) H Qc) (hS : S0 = as.reverse ++ .ref i :: S) (hlen : ∀ sig, parseMethodDescriptor y.desc = some sig → as.length = sig.parameters.length) (hf : Rc.frames + 1 ≤ R.frames) (hl : (S.map fun v => v.category).sum + (cm + 11) + Rc.locals ≤ R.locals) (hc : k + Rc.cells ≤ R.cells) (hs : n + Rc.slots ≤ R.slots)
  (nx : ∀ v H', Qc v H' → WP l Z C lay own mn bytes maxL ret R n0 ro Q (k + Rc.cells) (n + Rc.slots) (pc + 3) L (v.toList ++ S) H') : WP l Z C lay own mn bytes maxL ret R n0 ro Q k n pc L S0 H := by
 intro p e s m args below meth c T locs ad Ls X A hr N hL hz
 obtain ⟨v, vm₁, B, hW₁, X', ⟨Lc, hQ, e1, e2, e3⟩, st⟩ := X.specialBack A.1 (y := y) hn1 A.2.2.2.2.2.2.1 (mvT A.2.1 w1) (mvT A.2.1 w4) (mvT A.2.1 w5) hy
  (backOf (W := (S.map fun v => v.category).sum) (cs [] n0 ad T.heap hr) A.2.1 w5 w6 hf hl) (g := mkF m pc Ls (S0.map (rf ad))) rfl (hz.trans A.2.2.2.1.symm) (Steps.refl _) (a := ad i) (argsL := as.map (rf ad)) (rest := S.map (rf ad)) (fun sig q => by rw [List.length_map]; exact hlen sig q) (stack_of1 ad hS) (by show 2 * 0 + _ ≤ _; rw [rf_cats]; omega) (hb A.2.2.1 hd) (fun _ _ => ⟨rfl, rfl, hc, hs⟩)
 exact go_on (T := T) nx X' A hr N hL hz hQ e1 e2 e3 st
end Calls
/-! ## a callee that sees a part of the heap -/
def rn (ρ : Nat → Nat) : Value → Value
 | .ref i => .ref (ρ i)
 | .int x => .int x
 | .long x => .long x
 | .float x => .float x
 | .double x => .double x
 | .null => .null
 | .retAddr x => .retAddr x
theorem rf_rn (ad : Nat → Addr) (ρ : Nat → Nat) (v : Value) : rf ad (rn ρ v) = rf (fun j => ad (ρ j)) v := by cases v <;> rfl
def rnC (ρ : Nat → Nat) : OwnC → OwnC
 | .inl vs => .inl (vs.map (rn ρ))
 | .inr x => .inr x
theorem CelOk_rn {Z : State} {C : String} {lay : List (String × String)} {ad : Nat → Addr} {ρ : Nat → Nat} {h : Heap} {a : Addr} {c : OwnC} : CelOk Z C lay ad h a (rnC ρ c) ↔ CelOk Z C lay (fun j => ad (ρ j)) h a c := by
 rcases c with vs | xs | xs | xs
 ·constructor
  ·rintro ⟨E, F⟩
   refine ⟨E, fun i f v hf hv => ?_⟩
   have := F i f (rn ρ v) hf (by rw [List.getElem?_map, hv]; rfl)
   rwa [rf_rn] at this
  ·rintro ⟨E, F⟩
   refine ⟨E, fun i f v hf hv => ?_⟩
   rw [List.getElem?_map] at hv
   obtain ⟨w, hw, rfl⟩ := Option.map_eq_some_iff.mp hv
   rw [rf_rn]; exact F i f w hf hw
 all_goals exact Iff.rfl
def patch (ρ : Nat → Nat) : List Nat → List OwnC → List OwnC → List OwnC
 | [], D, H => H ++ D.map (rnC ρ)
 | i :: is, c :: D, H => patch ρ is D (H.set i (rnC ρ c))
 | _ :: _, [], H => H
theorem patch_seg (ρ : Nat → Nat) : ∀ (D B A C : List OwnC), B.length = D.length → patch ρ (List.range' A.length D.length) D (A ++ (B ++ C)) = A ++ (D.map (rnC ρ) ++ C)
 | [], B, A, C, h => by
  obtain rfl : B = [] := List.eq_nil_of_length_eq_zero h
  simp [patch]
 | d :: D, [], A, C, h => by simp at h
 | d :: D, b :: B, A, C, h => by
  have h' : B.length = D.length := by simpa using h
  have ih := patch_seg ρ D B (A ++ [rnC ρ d]) C h'
  rw [List.length_append] at ih
  show patch ρ (List.range' (A.length + 1) D.length) D ((A ++ (b :: B ++ C)).set A.length (rnC ρ d)) = _
  rw [List.set_append_right _ _ (Nat.le_refl _), Nat.sub_self]
  simpa using ih
theorem patch_len (ρ : Nat → Nat) : ∀ (foot : List Nat) (D H : List OwnC), foot.length ≤ D.length → (patch ρ foot D H).length = H.length + (D.length - foot.length)
 | [], D, H, _ => by simp [patch]
 | i :: is, [], H, h => by simp at h
 | i :: is, c :: D, H, h => by
  show (patch ρ is D (H.set i (rnC ρ c))).length = _
  rw [patch_len ρ is D _ (by simpa using h)]; simp
theorem patch_out (ρ : Nat → Nat) : ∀ (foot : List Nat) (D H : List OwnC) (i : Nat), i < H.length → i ∉ foot → (patch ρ foot D H)[i]? = H[i]?
 | [], D, H, i, hi, _ => by simp [patch, List.getElem?_append_left hi]
 | j :: is, [], H, i, _, _ => rfl
 | j :: is, c :: D, H, i, hi, hn => by
  show (patch ρ is D (H.set j (rnC ρ c)))[i]? = _
  rw [patch_out ρ is D _ i (by simpa using hi) (fun q => hn (List.mem_cons_of_mem _ q)), List.getElem?_set_ne (fun q => hn (by rw [q]; exact List.mem_cons_self ..))]
theorem patch_new (ρ : Nat → Nat) : ∀ (foot : List Nat) (D H : List OwnC) (t : Nat), foot.length ≤ D.length → (patch ρ foot D H)[H.length + t]? = (D[foot.length + t]?).map (rnC ρ)
 | [], D, H, t, _ => by simp [patch, List.getElem?_append_right (Nat.le_add_right _ _)]
 | i :: is, [], H, _, h => by simp at h
 | i :: is, c :: D, H, t, h => by
  show (patch ρ is D (H.set i (rnC ρ c)))[H.length + t]? = _
  have := patch_new ρ is D (H.set i (rnC ρ c)) t (by simpa using h)
  rw [List.length_set] at this
  rw [this]; simp [Nat.add_right_comm _ 1 t]
theorem patch_in (ρ : Nat → Nat) : ∀ (foot : List Nat) (D H : List OwnC) (j i : Nat), foot.Nodup → (∀ x ∈ foot, x < H.length) → foot[j]? = some i → foot.length ≤ D.length → (patch ρ foot D H)[i]? = (D[j]?).map (rnC ρ)
 | [], D, H, j, i, _, _, h, _ => by simp at h
 | x :: is, [], H, j, i, _, _, _, h => by simp at h
 | x :: is, c :: D, H, 0, i, nd, hl, h, _ => by
  obtain rfl : x = i := by simpa using h
  show (patch ρ is D (H.set x (rnC ρ c)))[x]? = _
  rw [patch_out ρ is D _ x (by simpa using hl x (List.mem_cons_self ..)) (List.nodup_cons.mp nd).1]
  simp [hl x (List.mem_cons_self ..)]
 | x :: is, c :: D, H, j + 1, i, nd, hl, h, hd => by
  show (patch ρ is D (H.set x (rnC ρ c)))[i]? = _
  rw [patch_in ρ is D _ j i (List.nodup_cons.mp nd).2 (fun y hy => by simpa using hl y (List.mem_cons_of_mem _ hy)) (by simpa using h) (by simpa using hd)]
  simp
def ro1 (foot : List Nat) (N : Nat) (j : Nat) : Nat := if j < foot.length then foot.getD j 0 else N + (j - foot.length)
theorem ro1_in {foot : List Nat} {N j i : Nat} (h : foot[j]? = some i) : ro1 foot N j = i := by
 have hj := get_lt h
 unfold ro1
 rw [if_pos hj, List.getD_eq_getElem?_getD, h]; rfl
theorem ro1_new (foot : List Nat) (N t : Nat) : ro1 foot N (foot.length + t) = N + t := by
 unfold ro1
 rw [if_neg (by omega)]; omega
theorem CS.frame {l : Launch} {Z : State} {C : String} {lay : List (String × String)} {y : MethodName} {bytes : ByteArray} {maxL : Nat} {ret : Option FieldType} {R : Room} {ro roc : Nat} {as asc : List Value} {H Hc : List OwnC} {Qc : Option Value → List OwnC → Prop} (foot : List Nat)
  (cs : CS l Z C lay y bytes maxL ret R roc asc Hc Qc) (hlen : Hc.length = foot.length) (hnd : foot.Nodup) (hlt : ∀ x ∈ foot, x < H.length) (hcell : foot.map (fun i => H[i]?) = Hc.map (fun c => some (rnC (ro1 foot H.length) c))) (hro : ∀ x ∈ foot.drop roc, ro ≤ x) (has : asc.map (rn (ro1 foot H.length)) = as) :
  CS l Z C lay y bytes maxL ret R ro as H (fun v H' => ∃ vc D, Qc vc D ∧ v = vc.map (rn (ro1 foot H.length)) ∧ H' = patch (ro1 foot H.length) foot D H) := by
 intro ws n0 ad h hr
 obtain ⟨r1, r2, r3, r4, r5⟩ := hr
 have cellAt : ∀ (j i : Nat), foot[j]? = some i → ∃ c, Hc[j]? = some c ∧ H[i]? = some (rnC (ro1 foot H.length) c) := fun j i hj => by
  have h1 : (foot.map (fun i => H[i]?))[j]? = some H[i]? := by rw [List.getElem?_map, hj]; rfl
  rw [hcell, List.getElem?_map] at h1
  obtain ⟨c, e1, e2⟩ := Option.map_eq_some_iff.mp h1
  exact ⟨c, e1, e2.symm⟩
 have idx : ∀ j : Nat, j < foot.length → ∃ i, foot[j]? = some i ∧ i < H.length := fun j hj => ⟨_, List.getElem?_eq_getElem hj, hlt _ (List.getElem_mem hj)⟩
 have hrc : HR Z C lay n0 roc (fun j => ad (ro1 foot H.length j)) Hc h := by
  refine ⟨fun j c hj => ?_, fun i j hi hj q => ?_, fun t => ?_, fun j hj hr => ?_, r5⟩
  ·obtain ⟨i, e1, e2⟩ := idx j (hlen ▸ get_lt hj)
   obtain ⟨c', g1, g2⟩ := cellAt j i e1
   cases g1.symm.trans hj
   show CelOk Z C lay (fun j => ad (ro1 foot H.length j)) h (ad (ro1 foot H.length j)) c
   rw [ro1_in e1]
   exact CelOk_rn.mp (r1 i _ g2)
  ·rw [hlen] at hi hj
   obtain ⟨i', e1, e2⟩ := idx i hi
   obtain ⟨j', g1, g2⟩ := idx j hj
   dsimp only at q
   rw [ro1_in e1, ro1_in g1] at q
   have q' := r2 _ _ e2 g2 q
   subst q'
   exact (List.getElem?_inj hi hnd).mp (e1.trans g1.symm)
  ·dsimp only
   rw [hlen, ro1_new]; exact r3 t
  ·rw [hlen] at hj
   obtain ⟨i', e1, e2⟩ := idx j hj
   dsimp only
   rw [ro1_in e1]; refine r4 _ e2 (hro i' (List.mem_of_getElem? (i := j - roc) ?_)); rw [List.getElem?_drop, Nat.add_sub_cancel' hr]; exact e1
 intro p e ha hc hk s m args below hf happ hP hK
 have eas : (asc.map (rf fun j => ad (ro1 foot H.length j))) = as.map (rf ad) := by
  rw [← has, List.map_map]; congr 1; funext v; exact (rf_rn ad _ v).symm
 obtain ⟨N, o, h1, h2, h3, v, L, h4, ⟨w, D, rfl, g2, g3, g4, g5⟩, h5⟩ := cs ws n0 _ h hrc p e ha hc hk s m args below hf happ (by rw [eas]; exact hP) hK
 refine ⟨N, o, h1, h2, h3, _, L, h4, ⟨w.map (rn (ro1 foot H.length)), patch (ro1 foot H.length) foot D H, ?_, ⟨w, D, g2, rfl, rfl⟩, ?_, ?_, g5⟩, h5⟩
 ·cases w with
  | none => rfl
  | some w => exact congrArg some (rf_rn ad _ w).symm
 ·generalize hU : (stepsAlone p.tables e N s).heap = h' at g3 g4
  obtain ⟨d1, d2, d3, d4, d5⟩ := g3
  have hD : foot.length ≤ D.length := by
   by_cases q : foot.length ≤ D.length
   ·exact q
   ·exfalso
    obtain ⟨i, e1, e2⟩ := idx D.length (by omega)
    have z := d3 0
    simp only [Nat.add_zero] at z
    rw [ro1_in e1] at z
    obtain ⟨c', -, g2'⟩ := cellAt _ i e1
    have a1 := (r1 i _ g2').lt
    rw [z] at a1
    exact absurd a1 (Nat.not_lt.mpr g4.1)
  have hPl := patch_len (ro1 foot H.length) foot D H hD
  have old : ∀ i, i < H.length → ad i < h.size := fun i hi => (r1 i _ (List.getElem?_eq_getElem hi)).lt
  have new : ∀ i, H.length ≤ i → h.size ≤ ad i := fun i hi => by
   obtain ⟨t, rfl⟩ := Nat.exists_eq_add_of_le hi
   rw [r3 t]; exact Nat.le_add_right _ _
  refine ⟨fun i c hi => ?_, fun i j hi hj q => ?_, fun t => ?_, fun i hi hr => ?_, Nat.le_trans r5 g4.1⟩
  ·by_cases hl : i < H.length
   ·by_cases hm : i ∈ foot
    ·obtain ⟨j, hj⟩ := List.getElem?_of_mem hm
     rw [patch_in _ foot D H j i hnd hlt hj hD] at hi
     obtain ⟨c', e1, rfl⟩ := Option.map_eq_some_iff.mp hi
     have := d1 j c' e1
     dsimp only at this
     rw [ro1_in hj] at this
     exact CelOk_rn.mpr this
    ·rw [patch_out _ foot D H i hl hm] at hi
     refine (r1 i c hi).keep fun cz q => g4.2 _ cz q fun j hj q' => ?_
     rw [hlen] at hj
     obtain ⟨i', e1, e2⟩ := idx j hj
     dsimp only at q'
     rw [ro1_in e1] at q'
     have := r2 _ _ e2 hl q'
     subst this
     exact hm (List.mem_of_getElem? e1)
   ·obtain ⟨t, rfl⟩ := Nat.exists_eq_add_of_le (Nat.le_of_not_lt hl)
    rw [patch_new _ foot D H t hD] at hi
    obtain ⟨c', e1, rfl⟩ := Option.map_eq_some_iff.mp hi
    have := d1 _ c' e1
    dsimp only at this
    rw [ro1_new] at this
    exact CelOk_rn.mpr this
  ·by_cases a1 : i < H.length
   ·by_cases a2 : j < H.length
    ·exact r2 _ _ a1 a2 q
    ·have b1 := old i a1
     rw [q] at b1
     exact absurd b1 (Nat.not_lt.mpr (new j (Nat.le_of_not_lt a2)))
   ·by_cases a2 : j < H.length
    ·have b1 := new i (Nat.le_of_not_lt a1)
     rw [q] at b1
     exact absurd (old j a2) (Nat.not_lt.mpr b1)
    ·obtain ⟨t, rfl⟩ := Nat.exists_eq_add_of_le (Nat.le_of_not_lt a1)
     obtain ⟨t', rfl⟩ := Nat.exists_eq_add_of_le (Nat.le_of_not_lt a2)
     rw [r3, r3] at q; exact congrArg (H.length + ·) (Nat.add_left_cancel q)
  ·have z := d3 t
   dsimp only at z
   have e1 : D.length + t = foot.length + (D.length - foot.length + t) := by omega
   rw [e1, ro1_new] at z
   rw [hPl, Nat.add_assoc]; exact z
  ·by_cases a1 : i < H.length
   ·exact r4 i a1 hr
   ·exact Nat.le_trans r5 (new i (Nat.le_of_not_lt a1))
 ·refine ⟨g4.1, fun a cz hz hn => g4.2 a cz hz fun j hj q => ?_⟩
  rw [hlen] at hj
  obtain ⟨i', e1, e2⟩ := idx j hj
  dsimp only at q
  rw [ro1_in e1] at q
  exact hn i' e2 q
/-! ## an object's state: ints (and booleans), longs, int[] (and boolean[]), long[], each by a number -/
abbrev St : Type := (Nat → Int32) × (Nat → Int64) × (Nat → List Int32) × (Nat → List Int64)
def upd {α : Type} (f : Nat → α) (i : Nat) (v : α) : Nat → α := fun j => if j = i then v else f j
def gI (s : St) (i : Nat) : Int32 := s.1 i
def gA (s : St) (i : Nat) : List Int32 := s.2.2.1 i
def sI (s : St) (i : Nat) (v : Int32) : St := (upd s.1 i v, s.2.1, s.2.2.1, s.2.2.2)
def sA (s : St) (i : Nat) (v : List Int32) : St := (s.1, s.2.1, upd s.2.2.1 i v, s.2.2.2)
theorem gI_sI (s : St) (i j : Nat) (v : Int32) : gI (sI s i v) j = if j = i then v else gI s j := rfl
theorem gA_sA (s : St) (i j : Nat) (v : List Int32) : gA (sA s i v) j = if j = i then v else gA s j := rfl
def wrA (s : St) (i : Nat) (j x : Int32) : Option St := (wr (gA s i) j x).map (sA s i)
theorem wrA_e {s s' : St} {i : Nat} {j x : Int32} (h : wrA s i j x = some s') : ∃ ys, wr (gA s i) j x = some ys ∧ s' = sA s i ys := by
 obtain ⟨ys, h1, h2⟩ := Option.map_eq_some_iff.mp h
 exact ⟨ys, h1, h2.symm⟩
def lt {α β : Type} (x : α) (f : α → β) : β := f x
theorem lt_e {α β : Type} {x : α} {f : α → β} {r : β} (h : lt x f = r) : ∃ y, y = x ∧ f y = r := ⟨x, rfl, h⟩
theorem ite_e {α : Type} {c : Prop} [Decidable c] {a b r : α} (h : (if c then a else b) = r) : (c ∧ a = r) ∨ (¬ c ∧ b = r) := by
 by_cases hc : c
 ·rw [if_pos hc] at h; exact Or.inl ⟨hc, h⟩
 ·rw [if_neg hc] at h; exact Or.inr ⟨hc, h⟩
def LaidAll (Z : State) (a0 : Array Value) (C : String) : List (String × String) → List Value → Prop
 | f :: fs, v :: vs => (Laid Z a0 C C f.1 f.2 ∧ ∃ ty, parseFieldDescriptor f.2 = some ty ∧ v = defaultValue ty) ∧ LaidAll Z a0 C fs vs
 | [], [] => True
 | _, _ => False
theorem LaidAll.new {Z : State} {a0 : Array Value} {C : String} : ∀ {lay : List (String × String)} {vs : List Value}, LaidAll Z a0 C lay vs → ∀ (i : Nat) (f : String × String) (v : Value), lay[i]? = some f → vs[i]? = some v → Laid Z a0 C C f.1 f.2 ∧ ∃ ty, parseFieldDescriptor f.2 = some ty ∧ v = defaultValue ty
 | [], [], _, i, f, v, h, _ => by simp at h
 | g :: fs, w :: vs, h, 0, f, v, h1, h2 => by
  obtain rfl : g = f := by simpa using h1
  obtain rfl : w = v := by simpa using h2
  exact h.1
 | g :: fs, w :: vs, h, i + 1, f, v, h1, h2 => LaidAll.new h.2 i f v (by simpa using h1) (by simpa using h2)
theorem LaidAll.len {Z : State} {a0 : Array Value} {C : String} : ∀ {lay : List (String × String)} {vs : List Value}, LaidAll Z a0 C lay vs → lay.length = vs.length
 | [], [], _ => rfl
 | g :: fs, w :: vs, h => congrArg Nat.succ (LaidAll.len h.2)
theorem LaidAll.ne {Z : State} {a0 : Array Value} {C : String} {lay : List (String × String)} {vs : List Value} (h : LaidAll Z a0 C lay vs) (nd : (lay.map Prod.fst).Nodup) : ∀ (a b : Nat) (f g : String × String), lay[a]? = some f → lay[b]? = some g → a ≠ b → RoadKit.slotOf Z C f.1 f.2 ≠ RoadKit.slotOf Z C g.1 g.2 := by
 intro a b f g ha hb' hne
 have la := get_lt ha
 have lb := get_lt hb'
 obtain ⟨L1, t1, e1, -⟩ := h.new a f _ ha (List.getElem?_eq_getElem (h.len ▸ la))
 obtain ⟨L2, t2, e2, -⟩ := h.new b g _ hb' (List.getElem?_eq_getElem (h.len ▸ lb))
 refine slot_ne L1 L2 (fun q => hne ?_) e1 e2
 have h1 : (lay.map Prod.fst)[a]? = some f.1 := by rw [List.getElem?_map, ha]; rfl
 have h2 : (lay.map Prod.fst)[b]? = some g.1 := by rw [List.getElem?_map, hb']; rfl
 exact (List.getElem?_inj (by simpa using la) nd).mp (h1.trans (by rw [q]; exact h2.symm))
section Puts
variable {l : Launch} {Z : State} {a0 : Array Value} {C : String} {lay : List (String × String)} {own mn : String} {bytes : ByteArray} {maxL : Nat} {ret : Option FieldType} {R : Room} {n0 ro : Nat} {Q : Option Value → List OwnC → Prop} {k n pc pc' : Nat} {L L' : List Slot} {S S' : List Value} {H H' : List OwnC}
theorem xT {idx i j kk : Nat} {f : String} {vs : List Value} {x : Int32} {old : Value} (hd : decode bytes pc = .ok (.putfield idx, 3)) (hw : (Cond.fieldLink own idx C f "I").before a0 Z = true) (hl : (Cond.lays C C f "I").before a0 Z = true ∨ ((Cond.laysFinal C C f "I").before a0 Z = true ∧ own = C ∧ mn = "<init>")) (wi : (Cond.instantiable C kk).before a0 Z = true)
  (hlay : ∀ (a b : Nat) (f g : String × String), lay[a]? = some f → lay[b]? = some g → a ≠ b → RoadKit.slotOf Z C f.1 f.2 ≠ RoadKit.slotOf Z C g.1 g.2) (hj : lay[j]? = some (f, "I")) (hH : H[i]? = some (.inl vs)) (hv : vs[j]? = some old) (hi : ro ≤ i) (hH' : H.set i (.inl (vs.set j (.int x))) = H') (nx : WP l Z C lay own mn bytes maxL ret R n0 ro Q k n (pc + 3) L S H') : WP l Z C lay own mn bytes maxL ret R n0 ro Q k n pc L (.int x :: .ref i :: S) H :=
 WP.put hd hw hl wi hlay (ty := .int) (by decide) (fun _ => rfl) (fun _ => rfl) hj hH hv hi hH' nx
theorem yD {idx i j kk : Nat} {f : String} {vs : List Value} {x : Int32} {old : Value} (hd : decode bytes pc = .ok (.putfield idx, 3)) (hw : (Cond.fieldLink own idx C f "Z").before a0 Z = true) (hl : (Cond.lays C C f "Z").before a0 Z = true ∨ ((Cond.laysFinal C C f "Z").before a0 Z = true ∧ own = C ∧ mn = "<init>")) (wi : (Cond.instantiable C kk).before a0 Z = true)
  (hlay : ∀ (a b : Nat) (f g : String × String), lay[a]? = some f → lay[b]? = some g → a ≠ b → RoadKit.slotOf Z C f.1 f.2 ≠ RoadKit.slotOf Z C g.1 g.2) (hj : lay[j]? = some (f, "Z")) (hH : H[i]? = some (.inl vs)) (hv : vs[j]? = some old) (hi : ro ≤ i) (hH' : H.set i (.inl (vs.set j (.int (x &&& 1)))) = H') (nx : WP l Z C lay own mn bytes maxL ret R n0 ro Q k n (pc + 3) L S H') : WP l Z C lay own mn bytes maxL ret R n0 ro Q k n pc L (.int x :: .ref i :: S) H :=
 WP.put (v' := .int (x &&& 1)) hd hw hl wi hlay (ty := .boolean) (by decide) (fun _ => rfl) (fun _ => fits_nar_bool x) hj hH hv hi hH' nx
theorem xY {idx i j kk i2 : Nat} {f d : String} {vs : List Value} {old : Value} {ty : FieldType} (hd : decode bytes pc = .ok (.putfield idx, 3)) (hw : (Cond.fieldLink own idx C f d).before a0 Z = true) (hl : (Cond.lays C C f d).before a0 Z = true ∨ ((Cond.laysFinal C C f d).before a0 Z = true ∧ own = C ∧ mn = "<init>")) (wi : (Cond.instantiable C kk).before a0 Z = true)
  (hlay : ∀ (a b : Nat) (f g : String × String), lay[a]? = some f → lay[b]? = some g → a ≠ b → RoadKit.slotOf Z C f.1 f.2 ≠ RoadKit.slotOf Z C g.1 g.2) (hty : parseFieldDescriptor d = some ty) (hn : ∀ a, narrow ty (.ref a) = .ref a) (hf : ∀ a, fits ty (.ref a) = true) (hj : lay[j]? = some (f, d)) (hH : H[i]? = some (.inl vs)) (hv : vs[j]? = some old) (hi : ro ≤ i) (hH' : H.set i (.inl (vs.set j (.ref i2))) = H') (nx : WP l Z C lay own mn bytes maxL ret R n0 ro Q k n (pc + 3) L S H') : WP l Z C lay own mn bytes maxL ret R n0 ro Q k n pc L (.ref i2 :: .ref i :: S) H :=
 WP.put (v' := .ref i2) hd hw hl wi hlay hty (fun ad => hn (ad i2)) (fun ad => hf (ad i2)) hj hH hv hi hH' nx
end Puts
/-! ## the start of a law -/
theorem script_ints {s : State} {a : Addr} {c : Cell} (hf : Fit s) (A : Arr s s.heap a c .int) : ∃ xs : List Int32, c.slots.toList = xs.map Value.int := by
 have h : ∀ v ∈ c.slots.toList, ∃ x : Int32, v = Value.int x := fun v hv => by
  obtain ⟨i, hi, e⟩ := List.mem_iff_getElem.mp hv
  have hi' : i < c.slots.size := by simpa using hi
  have q := hf A.1 hi'
  obtain ⟨hs, k, hk, comp, hkind⟩ := A.2.1
  have e2 : s.slotType? c.cls c.vm i = some .int := by
   cases hq : c.vm <;> first | exact absurd hq (hs _) | simp [State.slotType?, hk, hkind]
  have e3 : c.slots[i] = v := by rw [← e]; simp
  have q2 : fits .int v = true := by rw [← e3]; simpa [State.fitsSlot, e2] using q
  exact fit_I q2 (by simp)
 generalize c.slots.toList = L at h
 induction L with
 | nil => exact ⟨[], rfl⟩
 | cons v L ih =>
  obtain ⟨x, rfl⟩ := h v (List.mem_cons_self ..)
  obtain ⟨xs, rfl⟩ := ih fun w hw => h w (List.mem_cons_of_mem _ hw)
  exact ⟨x :: xs, rfl⟩
def ad1 (a N : Nat) : Nat → Addr
 | 0 => a
 | t + 1 => N + t
theorem HR.start1 {s : State} (C : String) (lay : List (String × String)) {a : Addr} {c : Cell} {xs : List Int32} (A : Arr s s.heap a c .int) (hx : c.slots.toList = xs.map Value.int) : HR s C lay s.heap.size 1 (ad1 a s.heap.size) [cI xs] s.heap := by
 refine ⟨fun i cc h => ?_, fun i j hi hj _ => ?_, fun t => ?_, fun i hi hr => ?_, Nat.le_refl _⟩
 ·have hi := get_lt h
  simp at hi; subst hi
  simp at h; subst h
  exact ⟨c, A, hx⟩
 ·simp at hi hj; omega
 ·show ad1 a s.heap.size (1 + t) = _; rw [Nat.add_comm 1 t]; rfl
 ·simp at hi; omega
theorem script_len {s : State} {a : Addr} {c : Cell} {n : Nat} {args : Array Value} {t : Term} (ev : t.eval args s none [] s = some (.ref a)) (A : Arr s s.heap a c .int) (e1 : c.slots.size = n) (h : (Cond.le (Term.length t) (Term.int 260)).value args s none s [] = some true) : n ≤ 260 := by
 have hat := A.fin (Vm.Alike.refl _)
 have hl : (Term.length t).eval args s none [] s = if n < 2 ^ 31 then some (.int n.toInt32) else none := by
  simp only [Term.eval, ev, hat, Option.bind_eq_bind, Option.bind_some, e1]; rfl
 by_cases hn : n < 2 ^ 31
 ·rw [if_pos hn] at hl
  have h1 := gotT (Cond.le_ints hl (Term.int_eval (260 : Int32))) h
  have h2 : n.toInt32.toInt = n := by
   show (Int32.ofNat n).toInt = n
   exact Int32.toInt_ofNat_of_lt hn
  have h3 := Int32.le_iff_toInt_le.mp h1
  rw [h2] at h3
  have : (260 : Int32).toInt = 260 := by decide
  omega
 ·rw [if_neg hn] at hl
  simp [Cond.value, hl] at h
/-! ## plain laws -/
/-- with fuel enough it answers r -/
def Ev {α : Type} (f : Nat → Option α) (r : α) : Prop := ∃ N, ∀ n, N ≤ n → f n = some r
theorem Ev.const {α : Type} {x : Option α} {r : α} (h : x = some r) : Ev (fun _ => x) r := ⟨0, fun _ _ => h⟩
theorem Ev.get {α : Type} {f : Nat → Option α} {r : α} (h : Ev f r) : ∃ n, f n = some r := by obtain ⟨N, h⟩ := h; exact ⟨N, h N (Nat.le_refl _)⟩
theorem Ev.step {α : Type} {f g : Nat → Option α} {r : α} (e : ∀ n, f (n + 1) = g n) (h : Ev g r) : Ev f r := by
 obtain ⟨N, h⟩ := h
 refine ⟨N + 1, fun n hn => ?_⟩
 cases n with
 | zero => omega
 | succ n => rw [e n]; exact h n (by omega)
theorem Ev.congr {α : Type} {f g : Nat → Option α} {r : α} (e : ∀ n, f n = g n) (h : Ev g r) : Ev f r := by
 obtain ⟨N, h⟩ := h
 exact ⟨N, fun n hn => (e n).trans (h n hn)⟩
theorem Ev.bind {α β : Type} {f : Nat → Option β} {g : Nat → β → Option α} {c : β} {r : α} (h1 : Ev f c) (h2 : Ev (fun n => g n c) r) : Ev (fun n => (f n).bind (g n)) r := by
 obtain ⟨N, h1⟩ := h1
 obtain ⟨M, h2⟩ := h2
 refine ⟨N + M, fun n hn => ?_⟩
 show (f n).bind (g n) = some r
 rw [h1 n (by omega)]; exact h2 n (by omega)
theorem Ev.uniq {α : Type} {f : Nat → Option α} {r r' : α} (h : Ev f r) (h' : Ev f r') : r = r' := by
 obtain ⟨N, h⟩ := h
 obtain ⟨M, h'⟩ := h'
 exact Option.some.inj ((h (N + M) (by omega)).symm.trans (h' (N + M) (by omega)))
/-! Int32 as Int -/
theorem x32_lt {x y : Int32} : x < y ↔ x.toInt < y.toInt := Int32.lt_iff_toInt_lt
theorem x32_eq {x y : Int32} : x = y ↔ x.toInt = y.toInt := Int32.toInt_inj.symm
theorem clamp_nat (x : Int32) : x.toNatClampNeg = x.toInt.toNat := rfl
/-! reading and writing -/
theorem rd_of {α : Type} {xs : List α} {i : Int32} {k : Nat} {x : α} (hi : i.toInt = k) (h : xs[k]? = some x) : rd xs i = some x := by
 have h0 : ¬ i < 0 := by rw [x32_lt, hi]; show ¬ (k : Int) < 0; omega
 unfold rd
 rw [if_neg h0, clamp_nat, hi]; exact h
theorem wr_of {α : Type} {xs : List α} {i : Int32} {k : Nat} (x : α) (hi : i.toInt = k) (h : k < xs.length) : wr xs i x = some (xs.set k x) := by
 have h0 : ¬ i < 0 := by rw [x32_lt, hi]; show ¬ (k : Int) < 0; omega
 unfold wr
 rw [if_neg h0, clamp_nat, hi]; exact if_pos h
theorem wrA_of {s : St} {f : Nat} {i : Int32} {k : Nat} (x : Int32) (hi : i.toInt = k) (h : k < (gA s f).length) : wrA s f i x = some (sA s f ((gA s f).set k x)) := by
 unfold wrA; rw [wr_of x hi h]; rfl
theorem nn_of {i : Int32} (h : ¬ i < 0) : ∃ k : Nat, i.toInt = k := ⟨i.toInt.toNat, by
 rw [x32_lt] at h
 have : (0 : Int32).toInt = 0 := by decide
 omega⟩
theorem Ev.all {α : Type} {f : Nat → Option α} {r : α} (h : ∀ n, f n = some r) : Ev f r := ⟨0, fun n _ => h n⟩
theorem ofN_int {k : Nat} (h : k < 2147483648) : (Int32.ofNat k).toInt = k := Int32.toInt_ofNat_of_lt (by omega)
theorem ofN_lt {i m : Nat} (hi : i < 2147483648) (hm : m < 2147483648) : Int32.ofNat i < Int32.ofNat m ↔ i < m := by
 rw [x32_lt, ofN_int hi, ofN_int hm]; omega
theorem ofN_succ (k : Nat) : Int32.ofNat k + 1 = Int32.ofNat (k + 1) := (Int32.ofNat_add k 1).symm
theorem ofN_eq {i m : Nat} (hi : i < 2147483648) (hm : m < 2147483648) : Int32.ofNat i = Int32.ofNat m ↔ i = m := by
 rw [x32_eq, ofN_int hi, ofN_int hm]; omega
theorem ofN_of {x : Int32} {k : Nat} (h : x.toInt = k) : x = Int32.ofNat k := by
 have h2 := Int32.toInt_lt x
 rw [x32_eq, ofN_int (by omega)]; exact h
theorem set_len {α : Type} (xs : List α) (k : Nat) (x : α) : (xs.set k x).length = xs.length := List.length_set
theorem ofN_ltL {i m : Nat} (hi : i < 2147483648) (hm : m < 2147483648) : Int32.ofNat i < (OfNat.ofNat m : Int32) ↔ i < m := ofN_lt hi hm
theorem ofN_gtL {i m : Nat} (hi : i < 2147483648) (hm : m < 2147483648) : (OfNat.ofNat m : Int32) < Int32.ofNat i ↔ m < i := ofN_lt hm hi
theorem ofN_eqL {i m : Nat} (hi : i < 2147483648) (hm : m < 2147483648) : Int32.ofNat i = (OfNat.ofNat m : Int32) ↔ i = m := ofN_eq hi hm
theorem ofN_nn {i : Nat} (hi : i < 2147483648) : ¬ Int32.ofNat i < 0 := fun h => Nat.not_lt_zero _ ((ofN_ltL hi (by decide)).mp h)
theorem upd_upd {α : Type} (f : Nat → α) (i : Nat) (x y : α) : upd (upd f i x) i y = upd f i y := by
 funext j; unfold upd; by_cases h : j = i <;> simp [h]
theorem sI_sI (s : St) (i : Nat) (x y : Int32) : sI (sI s i x) i y = sI s i y := by unfold sI; dsimp only; rw [upd_upd]
theorem and_nat (x : Int32) (m : Nat) (hm : m < 2147483648) : ∃ k, k ≤ m ∧ (x &&& Int32.ofNat m) = Int32.ofNat k := by
 refine ⟨(x.toBitVec &&& BitVec.ofNat 32 m).toNat, ?_, ?_⟩
 ·rw [BitVec.toNat_and, BitVec.toNat_ofNat, Nat.mod_eq_of_lt (by omega)]
  exact Nat.and_le_right
 ·apply Int32.toBitVec_inj.mp
  show x.toBitVec &&& BitVec.ofNat 32 m = BitVec.ofNat 32 _
  rw [BitVec.ofNat_toNat, BitVec.setWidth_eq]
theorem and_natL (x : Int32) (m : Nat) (hm : m < 2147483648) : ∃ k, k ≤ m ∧ (x &&& (OfNat.ofNat m : Int32)) = Int32.ofNat k := and_nat x m hm
theorem rd_at {α : Type} {xs : List α} {k : Nat} {x : α} (hk : k < 2147483648) (h : xs[k]? = some x) : rd xs (Int32.ofNat k) = some x := rd_of (ofN_int hk) h
theorem rep_get {α : Type} {n k : Nat} (a : α) (h : k < n) : (List.replicate n a)[k]? = some a := by rw [List.getElem?_replicate, if_pos h]
theorem get_set_self {α : Type} {xs : List α} {k : Nat} (x : α) (h : k < xs.length) : (xs.set k x)[k]? = some x := by rw [List.getElem?_set_self h]
theorem get_set_ne {α : Type} {xs : List α} {k j : Nat} (x : α) (h : k ≠ j) : (xs.set k x)[j]? = xs[j]? := List.getElem?_set_ne h
theorem x64_lt {x y : Int64} : x < y ↔ x.toInt < y.toInt := Int64.lt_iff_toInt_lt
end Jvm.Own
namespace Jvm.Pilot.@@N@@
open Jvm Jvm.ClassFile Sem Op Lib Jvm.Free Jvm.Stand Jvm.LawKit Jvm.RoadKit Bundle Jvm.Pilot.@@N@@.Jvm.D Jvm.Own
abbrev HW (a0 : Array Value) (Z : State) : Prop := ∀ d ∈ tables_1, d.before a0 Z = true
abbrev CN : String := "FatPointerC"
def lay : List (String × String) := [("memCells", "I"), ("maxDepth", "I"), ("nTok", "I"), ("tokK", "[I"), ("tokV", "[I"), ("compiled", "Z"), ("status", "I"), ("trapSite", "I"), ("framesAt", "I"), ("resKind", "I"), ("resVal", "I"), ("resSize", "I"), ("outN", "I"), ("outVals", "[I"), ("fnDef", "[Z"), ("fnTok", "[I"), ("fnParams", "[I"), ("fnObjCount", "[I"), ("fnFrame", "[I"), ("fnBody", "[I"), ("nameIdx", "[I"), ("nameArr", "[Z"), ("fnObjSize", "[I"), ("callArgs", "[I"), ("matchEnd", "[I"), ("braceOwner", "[I"), ("pp", "I"), ("pok", "Z"), ("curFn", "I"), ("openStack", "[I"), ("cellK", "[I"), ("cellV", "[I"), ("cellO", "[I"), ("objBase", "[I"), ("objSize", "[I"), ("objAlive", "[Z"), ("nextObj", "I"), ("frFunc", "[I"), ("frFirst", "[I"), ("frBase", "[I"), ("frRetPc", "[I"), ("frTarget", "[I"), ("depth", "I"), ("liveCells", "I"), ("fuel", "I"), ("running", "Z"), ("regK", "[I"), ("regV", "[I"), ("regO", "[I"), ("argK", "[I"), ("argV", "[I"), ("argO", "[I")]
abbrev vs0 : List Value := [.int 0, .int 0, .int 0, .null, .null, .int 0, .int 0, .int 0, .int 0, .int 0, .int 0, .int 0, .int 0, .null, .null, .null, .null, .null, .null, .null, .null, .null, .null, .null, .null, .null, .int 0, .int 0, .int 0, .null, .null, .null, .null, .null, .null, .null, .int 0, .null, .null, .null, .null, .null, .int 0, .int 0, .int 0, .int 0, .null, .null, .null, .null, .null, .null]
abbrev Hb (b : Nat) (s : St) : List OwnC := [cO [.int (gI s 0), .int (gI s 1), .int (gI s 2), .ref (b + 1), .ref (b + 2), .int (gI s 3), .int (gI s 4), .int (gI s 5), .int (gI s 6), .int (gI s 7), .int (gI s 8), .int (gI s 9), .int (gI s 10), .ref (b + 3), .ref (b + 4), .ref (b + 5), .ref (b + 6), .ref (b + 7), .ref (b + 8), .ref (b + 9), .ref (b + 10), .ref (b + 11), .ref (b + 12), .ref (b + 13), .ref (b + 14), .ref (b + 15), .int (gI s 11), .int (gI s 12), .int (gI s 13), .ref (b + 16), .ref (b + 17), .ref (b + 18), .ref (b + 19), .ref (b + 20), .ref (b + 21), .ref (b + 22), .int (gI s 14), .ref (b + 23), .ref (b + 24), .ref (b + 25), .ref (b + 26), .ref (b + 27), .int (gI s 15), .int (gI s 16), .int (gI s 17), .int (gI s 18), .ref (b + 28), .ref (b + 29), .ref (b + 30), .ref (b + 31), .ref (b + 32), .ref (b + 33)], cI (gA s 0), cI (gA s 1), cI (gA s 2), cZ (gA s 3), cI (gA s 4), cI (gA s 5), cI (gA s 6), cI (gA s 7), cI (gA s 8), cI (gA s 9), cZ (gA s 10), cI (gA s 11), cI (gA s 12), cI (gA s 13), cI (gA s 14), cI (gA s 15), cI (gA s 16), cI (gA s 17), cI (gA s 18), cI (gA s 19), cI (gA s 20), cZ (gA s 21), cI (gA s 22), cI (gA s 23), cI (gA s 24), cI (gA s 25), cI (gA s 26), cI (gA s 27), cI (gA s 28), cI (gA s 29), cI (gA s 30), cI (gA s 31), cI (gA s 32)]
def st0 : St := (fun _ => 0, fun _ => 0, fun i => ([List.replicate 256 0, List.replicate 256 0, List.replicate 16 0, List.replicate 4 0, List.replicate 4 0, List.replicate 4 0, List.replicate 4 0, List.replicate 4 0, List.replicate 4 0, List.replicate 32 0, List.replicate 32 0, List.replicate 32 0, List.replicate 256 0, List.replicate 256 0, List.replicate 256 0, List.replicate 16 0, List.replicate 64 0, List.replicate 64 0, List.replicate 64 0, List.replicate 4096 0, List.replicate 4096 0, List.replicate 4096 0, List.replicate 8 0, List.replicate 8 0, List.replicate 8 0, List.replicate 8 0, List.replicate 8 0, List.replicate 4 0, List.replicate 4 0, List.replicate 4 0, List.replicate 8 0, List.replicate 8 0, List.replicate 8 0] : List (List Int32)).getD i [], fun i => ([] : List (List Int64)).getD i [])
variable {l : Launch} {Z : State} {a0 : Array Value}
theorem mW (i : Nat) {w : Cond} (h : tables_1[i]? = some w) ⦃a0 : Array Value⦄ ⦃Z : State⦄ (hw : HW a0 Z) : w.before a0 Z = true := hw _ (List.mem_of_getElem? h)
def m0 := mW 0 rfl
def m1 := mW 1 rfl
def m2 := mW 2 rfl
def m3 := mW 3 rfl
def m4 := mW 4 rfl
def m5 := mW 5 rfl
def m6 := mW 6 rfl
def m7 := mW 7 rfl
def m8 := mW 8 rfl
def m9 := mW 9 rfl
def m10 := mW 10 rfl
def m11 := mW 11 rfl
def m12 := mW 12 rfl
def m13 := mW 13 rfl
def m14 := mW 14 rfl
def m15 := mW 15 rfl
def m16 := mW 16 rfl
def m17 := mW 17 rfl
def m18 := mW 18 rfl
def m19 := mW 19 rfl
def m20 := mW 20 rfl
def m21 := mW 21 rfl
def m22 := mW 22 rfl
def m23 := mW 23 rfl
def m24 := mW 24 rfl
def m25 := mW 25 rfl
def m26 := mW 26 rfl
def m27 := mW 27 rfl
def m28 := mW 28 rfl
def m29 := mW 29 rfl
def m30 := mW 30 rfl
def m31 := mW 31 rfl
def m32 := mW 32 rfl
def m33 := mW 33 rfl
def m34 := mW 34 rfl
def m35 := mW 35 rfl
def m36 := mW 36 rfl
def m37 := mW 37 rfl
def m38 := mW 38 rfl
def m39 := mW 39 rfl
def m40 := mW 40 rfl
def m41 := mW 41 rfl
def m42 := mW 42 rfl
def m43 := mW 43 rfl
def m44 := mW 44 rfl
def m45 := mW 45 rfl
def m46 := mW 46 rfl
def m47 := mW 47 rfl
def m48 := mW 48 rfl
def m49 := mW 49 rfl
def m50 := mW 50 rfl
def m51 := mW 51 rfl
def m52 := mW 52 rfl
def m53 := mW 53 rfl
def m54 := mW 54 rfl
def m55 := mW 55 rfl
def m56 := mW 56 rfl
def m57 := mW 57 rfl
def m58 := mW 58 rfl
def m59 := mW 59 rfl
def m60 := mW 60 rfl
def m61 := mW 61 rfl
def m62 := mW 62 rfl
def m63 := mW 63 rfl
def m64 := mW 64 rfl
def m65 := mW 65 rfl
def m66 := mW 66 rfl
def m67 := mW 67 rfl
def m68 := mW 68 rfl
def m69 := mW 69 rfl
def m70 := mW 70 rfl
def m71 := mW 71 rfl
def m72 := mW 72 rfl
def m73 := mW 73 rfl
def m74 := mW 74 rfl
def m75 := mW 75 rfl
def m76 := mW 76 rfl
def m77 := mW 77 rfl
def m78 := mW 78 rfl
def m79 := mW 79 rfl
def m80 := mW 80 rfl
def m81 := mW 81 rfl
def m82 := mW 82 rfl
def m83 := mW 83 rfl
def m84 := mW 84 rfl
def m85 := mW 85 rfl
def m86 := mW 86 rfl
def m87 := mW 87 rfl
def m88 := mW 88 rfl
def m89 := mW 89 rfl
def m90 := mW 90 rfl
def m91 := mW 91 rfl
def m92 := mW 92 rfl
def m93 := mW 93 rfl
def m94 := mW 94 rfl
def m95 := mW 95 rfl
def m96 := mW 96 rfl
def m97 := mW 97 rfl
def m98 := mW 98 rfl
def m99 := mW 99 rfl
def m100 := mW 100 rfl
def m101 := mW 101 rfl
def m102 := mW 102 rfl
def m103 := mW 103 rfl
def m104 := mW 104 rfl
def m105 := mW 105 rfl
def m106 := mW 106 rfl
def m107 := mW 107 rfl
def m108 := mW 108 rfl
def m109 := mW 109 rfl
def m110 := mW 110 rfl
def m111 := mW 111 rfl
def m112 := mW 112 rfl
def m113 := mW 113 rfl
def m114 := mW 114 rfl
def m115 := mW 115 rfl
def m116 := mW 116 rfl
def m117 := mW 117 rfl
def m118 := mW 118 rfl
def m119 := mW 119 rfl
def m120 := mW 120 rfl
def m121 := mW 121 rfl
def m122 := mW 122 rfl
def m123 := mW 123 rfl
def m124 := mW 124 rfl
def m125 := mW 125 rfl
def m126 := mW 126 rfl
def m127 := mW 127 rfl
def m128 := mW 128 rfl
def m129 := mW 129 rfl
def m130 := mW 130 rfl
def m131 := mW 131 rfl
def m132 := mW 132 rfl
def m133 := mW 133 rfl
def m134 := mW 134 rfl
def m135 := mW 135 rfl
def m136 := mW 136 rfl
def m137 := mW 137 rfl
def m138 := mW 138 rfl
def m139 := mW 139 rfl
def m140 := mW 140 rfl
def m141 := mW 141 rfl
def m142 := mW 142 rfl
def m143 := mW 143 rfl
def m144 := mW 144 rfl
def m145 := mW 145 rfl
def m146 := mW 146 rfl
def m147 := mW 147 rfl
def m148 := mW 148 rfl
def m149 := mW 149 rfl
def m150 := mW 150 rfl
def m151 := mW 151 rfl
def m152 := mW 152 rfl
def m153 := mW 153 rfl
def m154 := mW 154 rfl
def m155 := mW 155 rfl
def m156 := mW 156 rfl
def m157 := mW 157 rfl
def m158 := mW 158 rfl
def m159 := mW 159 rfl
def m160 := mW 160 rfl
def m161 := mW 161 rfl
def m162 := mW 162 rfl
def m163 := mW 163 rfl
def m164 := mW 164 rfl
def m165 := mW 165 rfl
def m166 := mW 166 rfl
def m167 := mW 167 rfl
def m168 := mW 168 rfl
def m169 := mW 169 rfl
def m170 := mW 170 rfl
def m171 := mW 171 rfl
def m172 := mW 172 rfl
def m173 := mW 173 rfl
def m174 := mW 174 rfl
def m175 := mW 175 rfl
def m176 := mW 176 rfl
def m177 := mW 177 rfl
def m178 := mW 178 rfl
def m179 := mW 179 rfl
def m180 := mW 180 rfl
def m181 := mW 181 rfl
def m182 := mW 182 rfl
def m183 := mW 183 rfl
def m184 := mW 184 rfl
def m185 := mW 185 rfl
def m186 := mW 186 rfl
def m187 := mW 187 rfl
def m188 := mW 188 rfl
def m189 := mW 189 rfl
def m190 := mW 190 rfl
def m191 := mW 191 rfl
def m192 := mW 192 rfl
def m193 := mW 193 rfl
def m194 := mW 194 rfl
def m195 := mW 195 rfl
def m196 := mW 196 rfl
def m197 := mW 197 rfl
def m198 := mW 198 rfl
def m199 := mW 199 rfl
def m200 := mW 200 rfl
def m201 := mW 201 rfl
def m202 := mW 202 rfl
def m203 := mW 203 rfl
def m204 := mW 204 rfl
def m205 := mW 205 rfl
def m206 := mW 206 rfl
def m207 := mW 207 rfl
def m208 := mW 208 rfl
def m209 := mW 209 rfl
def m210 := mW 210 rfl
def m211 := mW 211 rfl
def m212 := mW 212 rfl
def m213 := mW 213 rfl
def m214 := mW 214 rfl
def m215 := mW 215 rfl
def m216 := mW 216 rfl
def m217 := mW 217 rfl
def m218 := mW 218 rfl
def m219 := mW 219 rfl
def m220 := mW 220 rfl
def m221 := mW 221 rfl
def m222 := mW 222 rfl
def m223 := mW 223 rfl
def m224 := mW 224 rfl
def m225 := mW 225 rfl
def m226 := mW 226 rfl
def m227 := mW 227 rfl
def m228 := mW 228 rfl
def m229 := mW 229 rfl
def m230 := mW 230 rfl
def m231 := mW 231 rfl
def m232 := mW 232 rfl
def m233 := mW 233 rfl
def m234 := mW 234 rfl
def m235 := mW 235 rfl
def m236 := mW 236 rfl
def m237 := mW 237 rfl
def m238 := mW 238 rfl
def m239 := mW 239 rfl
def m240 := mW 240 rfl
def m241 := mW 241 rfl
def m242 := mW 242 rfl
def m243 := mW 243 rfl
def m244 := mW 244 rfl
def m245 := mW 245 rfl
def m246 := mW 246 rfl
def m247 := mW 247 rfl
def m248 := mW 248 rfl
def m249 := mW 249 rfl
def m250 := mW 250 rfl
def m251 := mW 251 rfl
def m252 := mW 252 rfl
def m253 := mW 253 rfl
def m254 := mW 254 rfl
def m255 := mW 255 rfl
def m256 := mW 256 rfl
def m257 := mW 257 rfl
def m258 := mW 258 rfl
def m259 := mW 259 rfl
def m260 := mW 260 rfl
def m261 := mW 261 rfl
def m262 := mW 262 rfl
def m263 := mW 263 rfl
def m264 := mW 264 rfl
def m265 := mW 265 rfl
def m266 := mW 266 rfl
def m267 := mW 267 rfl
def m268 := mW 268 rfl
def m269 := mW 269 rfl
def m270 := mW 270 rfl
def m271 := mW 271 rfl
def m272 := mW 272 rfl
def m273 := mW 273 rfl
def m274 := mW 274 rfl
def m275 := mW 275 rfl
def m276 := mW 276 rfl
def m277 := mW 277 rfl
def m278 := mW 278 rfl
def m279 := mW 279 rfl
def m280 := mW 280 rfl
def m281 := mW 281 rfl
def m282 := mW 282 rfl
def m283 := mW 283 rfl
def m284 := mW 284 rfl
def m285 := mW 285 rfl
def m286 := mW 286 rfl
def m287 := mW 287 rfl
def m288 := mW 288 rfl
def m289 := mW 289 rfl
def m290 := mW 290 rfl
def m291 := mW 291 rfl
def m292 := mW 292 rfl
def m293 := mW 293 rfl
def m294 := mW 294 rfl
def m295 := mW 295 rfl
def m296 := mW 296 rfl
def m297 := mW 297 rfl
def m298 := mW 298 rfl
def m299 := mW 299 rfl
def m300 := mW 300 rfl
def m301 := mW 301 rfl
def m302 := mW 302 rfl
def m303 := mW 303 rfl
def m304 := mW 304 rfl
def m305 := mW 305 rfl
def m306 := mW 306 rfl
def m307 := mW 307 rfl
def m308 := mW 308 rfl
def m309 := mW 309 rfl
def m310 := mW 310 rfl
def m311 := mW 311 rfl
def m312 := mW 312 rfl
def m313 := mW 313 rfl
def m314 := mW 314 rfl
def m315 := mW 315 rfl
def m316 := mW 316 rfl
def m317 := mW 317 rfl
def m318 := mW 318 rfl
def m319 := mW 319 rfl
def m320 := mW 320 rfl
def m321 := mW 321 rfl
def m322 := mW 322 rfl
def m323 := mW 323 rfl
def m324 := mW 324 rfl
def m325 := mW 325 rfl
def m326 := mW 326 rfl
def m327 := mW 327 rfl
def m328 := mW 328 rfl
def m329 := mW 329 rfl
def m330 := mW 330 rfl
def m331 := mW 331 rfl
def m332 := mW 332 rfl
def m333 := mW 333 rfl
def m334 := mW 334 rfl
def m335 := mW 335 rfl
def m336 := mW 336 rfl
def m337 := mW 337 rfl
def m338 := mW 338 rfl
def m339 := mW 339 rfl
def m340 := mW 340 rfl
def m341 := mW 341 rfl
def m342 := mW 342 rfl
def m343 := mW 343 rfl
def m344 := mW 344 rfl
def m345 := mW 345 rfl
def m346 := mW 346 rfl
def m347 := mW 347 rfl
def m348 := mW 348 rfl
def m349 := mW 349 rfl
def m350 := mW 350 rfl
def m351 := mW 351 rfl
def m352 := mW 352 rfl
def m353 := mW 353 rfl
def m354 := mW 354 rfl
def m355 := mW 355 rfl
def m356 := mW 356 rfl
def m357 := mW 357 rfl
def m358 := mW 358 rfl
def m359 := mW 359 rfl
def m360 := mW 360 rfl
def m361 := mW 361 rfl
def m362 := mW 362 rfl
def m363 := mW 363 rfl
def m364 := mW 364 rfl
def m365 := mW 365 rfl
def m366 := mW 366 rfl
def m367 := mW 367 rfl
def m368 := mW 368 rfl
def m369 := mW 369 rfl
def m370 := mW 370 rfl
def m371 := mW 371 rfl
def m372 := mW 372 rfl
def m373 := mW 373 rfl
def m374 := mW 374 rfl
def m375 := mW 375 rfl
def m376 := mW 376 rfl
def m377 := mW 377 rfl
def m378 := mW 378 rfl
def m379 := mW 379 rfl
def m380 := mW 380 rfl
def m381 := mW 381 rfl
def m382 := mW 382 rfl
def m383 := mW 383 rfl
theorem laid0 (hw : HW a0 Z) : LaidAll Z a0 CN lay vs0 :=
  ⟨⟨Or.inl (m78 hw), .int, by decide, rfl⟩, ⟨Or.inl (m80 hw), .int, by decide, rfl⟩, ⟨Or.inl (m109 hw), .int, by decide, rfl⟩, ⟨Or.inl (m11 hw), .array .int, by decide, rfl⟩, ⟨Or.inl (m13 hw), .array .int, by decide, rfl⟩, ⟨Or.inl (m111 hw), .boolean, by decide, rfl⟩, ⟨Or.inl (m86 hw), .int, by decide, rfl⟩, ⟨Or.inl (m88 hw), .int, by decide, rfl⟩, ⟨Or.inl (m90 hw), .int, by decide, rfl⟩, ⟨Or.inl (m92 hw), .int, by decide, rfl⟩, ⟨Or.inl (m94 hw), .int, by decide, rfl⟩, ⟨Or.inl (m96 hw), .int, by decide, rfl⟩, ⟨Or.inl (m98 hw), .int, by decide, rfl⟩, ⟨Or.inl (m15 hw), .array .int, by decide, rfl⟩, ⟨Or.inl (m18 hw), .array .boolean, by decide, rfl⟩, ⟨Or.inl (m20 hw), .array .int, by decide, rfl⟩, ⟨Or.inl (m22 hw), .array .int, by decide, rfl⟩, ⟨Or.inl (m24 hw), .array .int, by decide, rfl⟩, ⟨Or.inl (m26 hw), .array .int, by decide, rfl⟩, ⟨Or.inl (m28 hw), .array .int, by decide, rfl⟩, ⟨Or.inl (m30 hw), .array .int, by decide, rfl⟩, ⟨Or.inl (m32 hw), .array .boolean, by decide, rfl⟩, ⟨Or.inl (m34 hw), .array .int, by decide, rfl⟩, ⟨Or.inl (m36 hw), .array .int, by decide, rfl⟩, ⟨Or.inl (m38 hw), .array .int, by decide, rfl⟩, ⟨Or.inl (m40 hw), .array .int, by decide, rfl⟩, ⟨Or.inl (m129 hw), .int, by decide, rfl⟩, ⟨Or.inl (m127 hw), .boolean, by decide, rfl⟩, ⟨Or.inl (m147 hw), .int, by decide, rfl⟩, ⟨Or.inl (m42 hw), .array .int, by decide, rfl⟩, ⟨Or.inl (m44 hw), .array .int, by decide, rfl⟩, ⟨Or.inl (m46 hw), .array .int, by decide, rfl⟩, ⟨Or.inl (m48 hw), .array .int, by decide, rfl⟩, ⟨Or.inl (m50 hw), .array .int, by decide, rfl⟩, ⟨Or.inl (m52 hw), .array .int, by decide, rfl⟩, ⟨Or.inl (m54 hw), .array .boolean, by decide, rfl⟩, ⟨Or.inl (m223 hw), .int, by decide, rfl⟩, ⟨Or.inl (m56 hw), .array .int, by decide, rfl⟩, ⟨Or.inl (m58 hw), .array .int, by decide, rfl⟩, ⟨Or.inl (m60 hw), .array .int, by decide, rfl⟩, ⟨Or.inl (m62 hw), .array .int, by decide, rfl⟩, ⟨Or.inl (m64 hw), .array .int, by decide, rfl⟩, ⟨Or.inl (m219 hw), .int, by decide, rfl⟩, ⟨Or.inl (m221 hw), .int, by decide, rfl⟩, ⟨Or.inl (m225 hw), .int, by decide, rfl⟩, ⟨Or.inl (m227 hw), .boolean, by decide, rfl⟩, ⟨Or.inl (m66 hw), .array .int, by decide, rfl⟩, ⟨Or.inl (m68 hw), .array .int, by decide, rfl⟩, ⟨Or.inl (m70 hw), .array .int, by decide, rfl⟩, ⟨Or.inl (m72 hw), .array .int, by decide, rfl⟩, ⟨Or.inl (m74 hw), .array .int, by decide, rfl⟩, ⟨Or.inl (m76 hw), .array .int, by decide, rfl⟩, trivial⟩
theorem hlay (hw : HW a0 Z) : ∀ (a b : Nat) (f g : String × String), lay[a]? = some f → lay[b]? = some g → a ≠ b → RoadKit.slotOf Z CN f.1 f.2 ≠ RoadKit.slotOf Z CN g.1 g.2 := (laid0 hw).ne (by decide)
theorem vs0_ok (hw : HW a0 Z) : ∀ (i : Nat) (f : String × String) (v : Value), lay[i]? = some f → vs0[i]? = some v → Laid Z a0 CN CN f.1 f.2 ∧ ∃ ty, parseFieldDescriptor f.2 = some ty ∧ v = defaultValue ty := (laid0 hw).new
theorem pn_cls : plainName CN = true := by first | (simp [plainName, overriddenIn]; done) | decide +kernel
theorem pn_law : plainName "FatPointerCL7" = true := by first | (simp [plainName, overriddenIn]; done) | decide +kernel
set_option maxRecDepth 65536
set_option maxHeartbeats 4000000
abbrev k0 := prog_1_method_1_code
abbrev k1 := prog_1_method_3_code
abbrev k2 := prog_1_method_4_code
abbrev k3 := prog_1_method_5_code
abbrev k4 := prog_1_method_6_code
abbrev k5 := prog_1_method_7_code
abbrev k6 := prog_1_method_8_code
abbrev k7 := prog_1_method_9_code
abbrev k8 := prog_1_method_10_code
abbrev k9 := prog_1_method_11_code
abbrev k10 := prog_1_method_12_code
abbrev k11 := prog_1_method_13_code
abbrev k12 := prog_1_method_14_code
abbrev k13 := prog_1_method_15_code
abbrev k14 := prog_1_method_16_code
abbrev k15 := prog_1_method_17_code
abbrev k16 := prog_1_method_18_code
abbrev k17 := prog_1_method_19_code
abbrev k18 := prog_1_method_20_code
abbrev k19 := prog_1_method_21_code
abbrev k20 := prog_1_method_22_code
abbrev k21 := prog_1_method_23_code
abbrev k22 := prog_1_method_24_code
abbrev k23 := prog_1_method_25_code
abbrev k24 := prog_1_method_26_code
abbrev k25 := prog_1_method_27_code
abbrev k26 := prog_1_method_28_code
abbrev k27 := prog_1_method_29_code
abbrev k28 := prog_1_method_30_code
abbrev k29 := prog_1_method_32_code
abbrev k30 := prog_1_method_33_code
abbrev k31 := prog_1_method_34_code
abbrev k32 := prog_1_method_35_code
abbrev k33 := prog_1_method_36_code
abbrev k34 := prog_1_method_37_code
abbrev k35 := prog_1_method_38_code
abbrev k36 := prog_1_method_39_code
abbrev k37 := prog_1_method_40_code
abbrev k38 := prog_1_method_41_code
abbrev k39 := prog_1_method_42_code
abbrev k40 := prog_1_method_43_code
abbrev k41 := prog_1_method_44_code
abbrev k42 := prog_1_method_45_code
abbrev k43 := prog_1_method_46_code
abbrev k44 := prog_1_method_47_code
abbrev k45 := prog_1_method_48_code
abbrev k46 := prog_1_method_49_code
abbrev k47 := prog_1_method_50_code
abbrev k48 := prog_1_method_51_code
abbrev k49 := prog_1_method_52_code
abbrev k50 := prog_1_method_53_code
abbrev k51 := prog_1_method_54_code
abbrev k52 := prog_1_method_55_code
abbrev k53 := prog_1_method_56_code
abbrev k54 := prog_1_method_57_code
abbrev k55 := prog_1_method_58_code
abbrev k56 := prog_1_method_59_code
abbrev k57 := prog_1_method_60_code
abbrev k58 := prog_1_method_61_code
abbrev k59 := prog_1_method_62_code
abbrev k60 := prog_1_method_63_code
abbrev k61 := prog_1_method_65_code
abbrev k62 := prog_1_method_66_code
theorem bd {α β : Type} {o : Option α} {f : α → Option β} {r : β} (h : o.bind f = some r) : ∃ c, o = some c ∧ f c = some r := Option.bind_eq_some_iff.mp h
abbrev KT0 := Int32 → St → Option (St)
abbrev KT1 := Int32 → Int32 → St → Option (St)
abbrev KT2 := Int32 → Int32 → St → Option (Int32 × St)
abbrev KT3 := Int32 → St → Option (Int32 × St)
abbrev KT4 := Int32 → Int32 → Int32 → Int32 → Int32 → St → Option (St)
abbrev KT5 := Int32 → Int32 → List Int32 → St → Option (Int32)
abbrev KT6 := Int32 → St → Option (Int32)
abbrev KT7 := Int32 → Int32 → Int32 → Int32 → Int32 → Int32 → Int32 → St → Option (St)
abbrev KT8 := Int32 → Int32 → Int32 → Int32 → St → Option (St)
abbrev KT9 := Int32 → Int32 → Int32 → Int32 → Int32 → Int32 → St → Option (Int32 × St)
abbrev KT10 := Int64 → Int32 → St → Option (Int64)
abbrev vU : Slot := .unset
abbrev vS : Slot := .second
abbrev vI (x : Int32) : Slot := .val (.int x)
abbrev vJ (x : Int64) : Slot := .val (.long x)
abbrev vR (x : Nat) : Slot := .val (.ref x)
abbrev oN : Value := .int (0 : Int32)
abbrev oI (n : Nat) : OwnC := cI (List.replicate n 0)
abbrev oZ (n : Nat) : OwnC := cZ (List.replicate n 0)
def gT {α : Type} : List α → Nat → α → α
 | [], _, d => d
 | x :: _, 0, _ => x
 | _ :: l, n + 1, d => gT l n d
theorem gT_in {α : Type} {d : α} : ∀ {l : List α} {i : Nat}, gT l i d ∈ d :: l
 | [], i => by unfold gT; exact List.mem_cons_self ..
 | x :: l, 0 => by unfold gT; exact List.mem_cons_of_mem _ (List.mem_cons_self ..)
 | x :: l, n + 1 => by
  have := gT_in (d := d) (l := l) (i := n)
  show gT l n d ∈ _
  rcases List.mem_cons.mp this with h | h
  · rw [h]; exact List.mem_cons_self ..
  · exact List.mem_cons_of_mem _ (List.mem_cons_of_mem _ h)
theorem dA (b : ByteArray) (z : Nat × Instr × Nat) (l : List (Nat × Instr × Nat)) (h : ∀ e ∈ z :: z :: l, dc b e.1 e.2.1 e.2.2) (i : Nat) : dc b (gT (z :: l) i z).1 (gT (z :: l) i z).2.1 (gT (z :: l) i z).2.2 := h _ gT_in
def D1 := dA k13 (0,.aload_n 0,1) [(1,.iconst (-1),1),(2,.putfield 150,3),(5,.aload_n 0,1),(6,.iconst (-1),1),(7,.putfield 162,3),(10,.aload_n 0,1),(11,.iconst 0,1),(12,.putfield 165,3),(15,.aload_n 0,1),(16,.iconst (-1),1),(17,.putfield 168,3),(20,.aload_n 0,1),(21,.iconst 0,1),(22,.putfield 171,3),(25,.aload_n 0,1),(26,.iconst 0,1),(27,.putfield 174,3),(30,.aload_n 0,1),(31,.iconst 0,1),(32,.putfield 177,3),(35,.return_,1)] (by decide +kernel)
abbrev y1 : MethodName := ⟨"FatPointerC", "clearResults", "()V"⟩
theorem hy1 : y1.cls ≠ "java/lang/invoke/MethodHandle" ∧ y1.cls ≠ "java/lang/invoke/VarHandle" := by decide
theorem pd1 : parseMethodDescriptor y1.desc = some ⟨[], none⟩ := by decide +kernel
abbrev R1 : Room := { frames := 0, cells := 0, slots := 0, locals := 0 }
abbrev P1 (r : St) : Option Value → List OwnC → Prop := fun v H' => v = none ∧ H' = (Hb 0 r)
abbrev W1 (l : Launch) (Z : State) (n0 : Nat) := WP l Z CN lay "FatPointerC" "clearResults" prog_1_method_15_code 1 (none) R1 n0 0
def f_clearResults (s : St) : Option (St) :=
 lt (sI s 4 (-1 : Int32)) fun s1 =>
 lt (sI s1 5 (-1 : Int32)) fun s2 =>
 lt (sI s2 6 (0 : Int32)) fun s3 =>
 lt (sI s3 7 (-1 : Int32)) fun s4 =>
 lt (sI s4 8 (0 : Int32)) fun s5 =>
 lt (sI s5 9 (0 : Int32)) fun s6 =>
 lt (sI s6 10 (0 : Int32)) fun s7 =>
 some s7
theorem ok1 (hw : HW a0 Z) (s r : St) (h : f_clearResults s = some r) : CS l Z CN lay y1 prog_1_method_15_code 1 (none) R1 0 [.ref 0] (Hb 0 s) (P1 r) := by
 refine CS.of_wp pn_cls (leb rfl) fun n0 => ?_
 show W1 l Z n0 (P1 r) 0 0 0 [vR 0] [] (Hb 0 s)
 unfold f_clearResults at h
 refine xA (D1 0) rfl (xB (-1) (D1 1) rfl ?_)
 obtain ⟨s1, es1, h⟩ := lt_e h
 refine xT (i := 0) (j := 6) (H' := (Hb 0 s1)) (D1 2) (m85 hw) (Or.inl (m86 hw)) (m1 hw) (hlay hw) rfl rfl rfl (leb rfl) (by subst es1; rfl) (xA (D1 3) rfl (xB (-1) (D1 4) rfl ?_))
 obtain ⟨s2, es2, h⟩ := lt_e h
 refine xT (i := 0) (j := 7) (H' := (Hb 0 s2)) (D1 5) (m87 hw) (Or.inl (m88 hw)) (m1 hw) (hlay hw) rfl rfl rfl (leb rfl) (by subst es2; rfl) (xA (D1 6) rfl (xB 0 (D1 7) rfl ?_))
 obtain ⟨s3, es3, h⟩ := lt_e h
 refine xT (i := 0) (j := 8) (H' := (Hb 0 s3)) (D1 8) (m89 hw) (Or.inl (m90 hw)) (m1 hw) (hlay hw) rfl rfl rfl (leb rfl) (by subst es3; rfl) (xA (D1 9) rfl (xB (-1) (D1 10) rfl ?_))
 obtain ⟨s4, es4, h⟩ := lt_e h
 refine xT (i := 0) (j := 9) (H' := (Hb 0 s4)) (D1 11) (m91 hw) (Or.inl (m92 hw)) (m1 hw) (hlay hw) rfl rfl rfl (leb rfl) (by subst es4; rfl) (xA (D1 12) rfl (xB 0 (D1 13) rfl ?_))
 obtain ⟨s5, es5, h⟩ := lt_e h
 refine xT (i := 0) (j := 10) (H' := (Hb 0 s5)) (D1 14) (m93 hw) (Or.inl (m94 hw)) (m1 hw) (hlay hw) rfl rfl rfl (leb rfl) (by subst es5; rfl) (xA (D1 15) rfl (xB 0 (D1 16) rfl ?_))
 obtain ⟨s6, es6, h⟩ := lt_e h
 refine xT (i := 0) (j := 11) (H' := (Hb 0 s6)) (D1 17) (m95 hw) (Or.inl (m96 hw)) (m1 hw) (hlay hw) rfl rfl rfl (leb rfl) (by subst es6; rfl) (xA (D1 18) rfl (xB 0 (D1 19) rfl ?_))
 obtain ⟨s7, es7, h⟩ := lt_e h
 refine xT (i := 0) (j := 12) (H' := (Hb 0 s7)) (D1 20) (m97 hw) (Or.inl (m98 hw)) (m1 hw) (hlay hw) rfl rfl rfl (leb rfl) (by subst es7; rfl) ?_
 cases h
 exact xS (D1 21) rfl (leb rfl) (leb rfl) ⟨rfl, rfl⟩
abbrev qr (a k : Nat) : Value := bif Nat.ble k a then .ref k else .null
abbrev hA : List OwnC := [oI 256, oI 256, oI 16, oZ 4, oI 4, oI 4, oI 4, oI 4, oI 4, oI 32, oZ 32, oI 32, oI 256, oI 256, oI 256, oI 16, oI 64, oI 64, oI 64, oI 4096, oI 4096, oZ 4096, oI 8, oI 8, oI 8, oI 8, oI 8, oI 4, oI 4, oI 4, oI 8, oI 8, oI 8]
abbrev hp (a b : Nat) : List OwnC := cO [oN,oN,oN,qr a 1,qr a 2,oN,oN,oN,oN,oN,oN,oN,oN,qr a 3,qr a 4,qr a 5,qr a 6,qr a 7,qr a 8,qr a 9,qr a 10,qr a 11,qr a 12,qr a 13,qr a 14,qr a 15,oN,oN,oN,qr a 16,qr a 17,qr a 18,qr a 19,qr a 20,qr a 21,qr a 22,oN,qr a 23,qr a 24,qr a 25,qr a 26,qr a 27,oN,oN,oN,oN,qr a 28,qr a 29,qr a 30,qr a 31,qr a 32,.null] :: hA.take b
def D0 := dA k0 (0,.aload_n 0,1) [(1,.invokespecial 1,3),(4,.aload_n 0,1),(5,.sipush 256,3),(8,.newarray .int,2),(10,.putfield 7,3),(13,.aload_n 0,1),(14,.sipush 256,3),(17,.newarray .int,2),(19,.putfield 13,3),(22,.aload_n 0,1),(23,.bipush 16,2),(25,.newarray .int,2),(27,.putfield 16,3),(30,.aload_n 0,1),(31,.iconst 4,1),(32,.newarray .boolean,2),(34,.putfield 19,3),(37,.aload_n 0,1),(38,.iconst 4,1),(39,.newarray .int,2),(41,.putfield 23,3),(44,.aload_n 0,1),(45,.iconst 4,1),(46,.newarray .int,2),(48,.putfield 26,3),(51,.aload_n 0,1),(52,.iconst 4,1),(53,.newarray .int,2),(55,.putfield 29,3),(58,.aload_n 0,1),(59,.iconst 4,1),(60,.newarray .int,2),(62,.putfield 32,3),(65,.aload_n 0,1),(66,.iconst 4,1),(67,.newarray .int,2),(69,.putfield 35,3),(72,.aload_n 0,1),(73,.bipush 32,2),(75,.newarray .int,2),(77,.putfield 38,3),(80,.aload_n 0,1),(81,.bipush 32,2),(83,.newarray .boolean,2),(85,.putfield 41,3),(88,.aload_n 0,1),(89,.bipush 32,2),(91,.newarray .int,2),(93,.putfield 44,3),(96,.aload_n 0,1),(97,.sipush 256,3),(100,.newarray .int,2),(102,.putfield 47,3),(105,.aload_n 0,1),(106,.sipush 256,3),(109,.newarray .int,2),(111,.putfield 50,3),(114,.aload_n 0,1),(115,.sipush 256,3),(118,.newarray .int,2),(120,.putfield 53,3),(123,.aload_n 0,1),(124,.bipush 16,2),(126,.newarray .int,2),(128,.putfield 56,3),(131,.aload_n 0,1),(132,.bipush 64,2),(134,.newarray .int,2),(136,.putfield 59,3),(139,.aload_n 0,1),(140,.bipush 64,2),(142,.newarray .int,2),(144,.putfield 62,3),(147,.aload_n 0,1),(148,.bipush 64,2),(150,.newarray .int,2),(152,.putfield 65,3),(155,.aload_n 0,1),(156,.sipush 4096,3),(159,.newarray .int,2),(161,.putfield 68,3),(164,.aload_n 0,1),(165,.sipush 4096,3),(168,.newarray .int,2),(170,.putfield 71,3),(173,.aload_n 0,1),(174,.sipush 4096,3),(177,.newarray .boolean,2),(179,.putfield 74,3),(182,.aload_n 0,1),(183,.bipush 8,2),(185,.newarray .int,2),(187,.putfield 77,3),(190,.aload_n 0,1),(191,.bipush 8,2),(193,.newarray .int,2),(195,.putfield 80,3),(198,.aload_n 0,1),(199,.bipush 8,2),(201,.newarray .int,2),(203,.putfield 83,3),(206,.aload_n 0,1),(207,.bipush 8,2),(209,.newarray .int,2),(211,.putfield 86,3),(214,.aload_n 0,1),(215,.bipush 8,2),(217,.newarray .int,2),(219,.putfield 89,3),(222,.aload_n 0,1),(223,.iconst 4,1),(224,.newarray .int,2),(226,.putfield 92,3),(229,.aload_n 0,1),(230,.iconst 4,1),(231,.newarray .int,2),(233,.putfield 95,3),(236,.aload_n 0,1),(237,.iconst 4,1),(238,.newarray .int,2),(240,.putfield 98,3),(243,.aload_n 0,1),(244,.bipush 8,2),(246,.newarray .int,2),(248,.putfield 101,3),(251,.aload_n 0,1),(252,.bipush 8,2),(254,.newarray .int,2),(256,.putfield 104,3),(259,.aload_n 0,1),(260,.bipush 8,2),(262,.newarray .int,2),(264,.putfield 107,3),(267,.iload_n 1,1),(268,.istore_n 3,1),(269,.iload_n 3,1),(270,.bipush 8,2),(272,.if_icmp .ge 6,3),(275,.bipush 8,2),(277,.istore_n 3,1),(278,.iload_n 3,1),(279,.bipush 64,2),(281,.if_icmp .le 6,3),(284,.bipush 64,2),(286,.istore_n 3,1),(287,.aload_n 0,1),(288,.iload_n 3,1),(289,.putfield 110,3),(292,.iload_n 2,1),(293,.istore 4,2),(295,.iload 4,2),(297,.iconst 1,1),(298,.if_icmp .ge 6,3),(301,.iconst 1,1),(302,.istore 4,2),(304,.iload 4,2),(306,.bipush 8,2),(308,.if_icmp .le 7,3),(311,.bipush 8,2),(313,.istore 4,2),(315,.aload_n 0,1),(316,.iload 4,2),(318,.putfield 114,3),(321,.aload_n 0,1),(322,.invokevirtual 117,3),(325,.return_,1)] (by decide +kernel)
abbrev y0 : MethodName := ⟨"FatPointerC", "<init>", "(II)V"⟩
theorem hy0 : y0.cls ≠ "java/lang/invoke/MethodHandle" ∧ y0.cls ≠ "java/lang/invoke/VarHandle" := by decide
theorem pd0 : parseMethodDescriptor y0.desc = some ⟨[.int, .int], none⟩ := by decide +kernel
abbrev R0 : Room := { frames := 1, cells := 33, slots := 13988, locals := 12 }
abbrev P0 (r : St) : Option Value → List OwnC → Prop := fun v H' => v = none ∧ H' = (Hb 0 r)
abbrev W0 (l : Launch) (Z : State) (n0 : Nat) := WP l Z CN lay "FatPointerC" "<init>" prog_1_method_1_code 5 (none) R0 n0 0
def f_init_315 (v4 : Int32) (s : St) : Option (St) :=
 lt (sI s 1 v4) fun s1 =>
 (f_clearResults s1).bind fun c2 =>
 some c2
theorem ok0_315 (hw : HW a0 Z) (n0 : Nat) (v4 : Int32) (s r : St) (h : f_init_315 v4 s = some r) : W0 l Z n0 (P0 r) 33 13988 315 [vR 0,vU,vU,vU,vI v4] [] (Hb 0 s) := by
 unfold f_init_315 at h
 refine xA (D0 161) rfl (xH (D0 162) rfl ?_)
 obtain ⟨s1, es1, h⟩ := lt_e h
 refine xT (i := 0) (j := 1) (H' := (Hb 0 s1)) (D0 163) (m79 hw) (Or.inl (m80 hw)) (m1 hw) (hlay hw) rfl rfl rfl (leb rfl) (by subst es1; rfl) (xA (D0 164) rfl ?_)
 obtain ⟨c2, hc2, h⟩ := bd h
 refine xF (i := 0) (y := y1) (as := []) (S := []) (D0 165) (m81 hw) (m83 hw) (m1 hw) (m82 hw) (m84 hw) (m2 hw) hy1 rfl (ok1 hw s1 _ hc2) rfl (lenOf pd1 rfl) (leb rfl) (leb rfl) (leb rfl) (leb rfl) ?_
 rintro _ _ ⟨rfl, rfl⟩
 show W0 l Z n0 (P0 r) 33 13988 325 [vR 0,vU,vU,vU,vI v4] [] (Hb 0 c2)
 cases h
 exact xS (D0 166) rfl (leb rfl) (leb rfl) ⟨rfl, rfl⟩
def f_init_304 (v4 : Int32) (s : St) : Option (St) :=
 if (8 : Int32) < v4 then
  f_init_315 (8 : Int32) s
 else
  f_init_315 v4 s
theorem ok0_304 (hw : HW a0 Z) (n0 : Nat) (v4 : Int32) (s r : St) (h : f_init_304 v4 s = some r) : W0 l Z n0 (P0 r) 33 13988 304 [vR 0,vU,vU,vU,vI v4] [] (Hb 0 s) := by
 unfold f_init_304 at h
 refine xH (D0 156) rfl (xG 8 (D0 157) rfl ?_)
 rcases ite_e h with ⟨hc1, h⟩ | ⟨hc1, h⟩
 ·
  exact xJ (D0 158) (XT.ii_le_f hc1) (xG 8 (D0 159) rfl (xR (L' := [vR 0,vU,vU,vU,vI 8]) (D0 160) (leb rfl) rfl (xE (L' := [vR 0,vU,vU,vU,vI 8]) ⟨rfl, rfl, trivial⟩ (ok0_315 hw n0 (8 : Int32) s _ h))))
 ·
  exact xI (pc' := 315) (D0 158) (XT.ii_le_t hc1) (by decide) rfl (xE (L' := [vR 0,vU,vU,vU,vI v4]) ⟨rfl, rfl, trivial⟩ (ok0_315 hw n0 v4 s _ h))
def f_init_287 (v2 v3 : Int32) (s : St) : Option (St) :=
 lt (sI s 0 v3) fun s1 =>
 if v2 < (1 : Int32) then
  f_init_304 (1 : Int32) s1
 else
  f_init_304 v2 s1
theorem ok0_287 (hw : HW a0 Z) (n0 : Nat) (v2 v3 : Int32) (s r : St) (h : f_init_287 v2 v3 s = some r) : W0 l Z n0 (P0 r) 33 13988 287 [vR 0,vU,vI v2,vI v3,vU] [] (Hb 0 s) := by
 unfold f_init_287 at h
 refine xA (D0 146) rfl (xC (D0 147) rfl ?_)
 obtain ⟨s1, es1, h⟩ := lt_e h
 refine xT (i := 0) (j := 0) (H' := (Hb 0 s1)) (D0 148) (m77 hw) (Or.inl (m78 hw)) (m1 hw) (hlay hw) rfl rfl rfl (leb rfl) (by subst es1; rfl) (xC (D0 149) rfl (xR (L' := [vR 0,vU,vI v2,vI v3,vI v2]) (D0 150) (leb rfl) rfl (xH (D0 151) rfl (xB 1 (D0 152) rfl ?_))))
 rcases ite_e h with ⟨hc2, h⟩ | ⟨hc2, h⟩
 ·
  exact xJ (D0 153) (XT.ii_ge_f hc2) (xB 1 (D0 154) rfl (xR (L' := [vR 0,vU,vI v2,vI v3,vI 1]) (D0 155) (leb rfl) rfl (xE (L' := [vR 0,vU,vU,vU,vI 1]) ⟨rfl, rfl, trivial⟩ (ok0_304 hw n0 (1 : Int32) s1 _ h))))
 ·
  exact xI (pc' := 304) (D0 153) (XT.ii_ge_t hc2) (by decide) rfl (xE (L' := [vR 0,vU,vU,vU,vI v2]) ⟨rfl, rfl, trivial⟩ (ok0_304 hw n0 v2 s1 _ h))
def f_init_278 (v2 v3 : Int32) (s : St) : Option (St) :=
 if (64 : Int32) < v3 then
  f_init_287 v2 (64 : Int32) s
 else
  f_init_287 v2 v3 s
theorem ok0_278 (hw : HW a0 Z) (n0 : Nat) (v2 v3 : Int32) (s r : St) (h : f_init_278 v2 v3 s = some r) : W0 l Z n0 (P0 r) 33 13988 278 [vR 0,vU,vI v2,vI v3,vU] [] (Hb 0 s) := by
 unfold f_init_278 at h
 refine xC (D0 141) rfl (xG 64 (D0 142) rfl ?_)
 rcases ite_e h with ⟨hc1, h⟩ | ⟨hc1, h⟩
 ·
  exact xJ (D0 143) (XT.ii_le_f hc1) (xG 64 (D0 144) rfl (xP (L' := [vR 0,vU,vI v2,vI 64,vU]) (D0 145) (leb rfl) rfl (xE (L' := [vR 0,vU,vI v2,vI 64,vU]) ⟨rfl, rfl, rfl, trivial⟩ (ok0_287 hw n0 v2 (64 : Int32) s _ h))))
 ·
  exact xI (pc' := 287) (D0 143) (XT.ii_le_t hc1) (by decide) rfl (xE (L' := [vR 0,vU,vI v2,vI v3,vU]) ⟨rfl, rfl, rfl, trivial⟩ (ok0_287 hw n0 v2 v3 s _ h))
def f_init (p1 p2 : Int32) : Option (St) :=
 lt (st0) fun s1 =>
 if p1 < (8 : Int32) then
  f_init_278 p2 (8 : Int32) s1
 else
  f_init_278 p2 p1 s1
theorem ok0 (hw : HW a0 Z) (p1 p2 : Int32) (r : St) (h : f_init p1 p2 = some r) : CS l Z CN lay y0 prog_1_method_1_code 5 (none) R0 0 [.ref 0, .int p1, .int p2] [cO vs0] (P0 r) := by
 refine CS.of_wp pn_cls (leb rfl) fun n0 => ?_
 show W0 l Z n0 (P0 r) 0 0 0 [vR 0,vI p1,vI p2,vU,vU] [] [cO vs0]
 unfold f_init at h
 refine xA (D0 0) rfl (WP.initO (D0 1) (m6 hw) (m7 hw) (m8 hw) (leb rfl) (leb rfl) (xA (D0 2) rfl (yB 256 (D0 3) rfl (xX (D0 4) (m9 hw) (by decide) (leb rfl) (leb rfl) (leb rfl) (Or.inl ⟨rfl, rfl⟩) ?_))))
 show W0 l Z n0 (P0 r) 1 256 10 [vR 0,vI p1,vI p2,vU,vU] [.ref 1, .ref 0] (hp 0 1)
 refine xY (ty := .array .int) (i := 0) (j := 3) (H' := (hp 1 1)) (D0 5) (m10 hw) (Or.inl (m11 hw)) (m1 hw) (hlay hw) (by decide) (fun _ => rfl) (fun _ => rfl) rfl rfl rfl (leb rfl) rfl (xA (D0 6) rfl (yB 256 (D0 7) rfl (xX (D0 8) (m9 hw) (by decide) (leb rfl) (leb rfl) (leb rfl) (Or.inl ⟨rfl, rfl⟩) ?_)))
 show W0 l Z n0 (P0 r) 2 512 19 [vR 0,vI p1,vI p2,vU,vU] [.ref 2, .ref 0] (hp 1 2)
 refine xY (ty := .array .int) (i := 0) (j := 4) (H' := (hp 2 2)) (D0 9) (m12 hw) (Or.inl (m13 hw)) (m1 hw) (hlay hw) (by decide) (fun _ => rfl) (fun _ => rfl) rfl rfl rfl (leb rfl) rfl (xA (D0 10) rfl (xG 16 (D0 11) rfl (xX (D0 12) (m9 hw) (by decide) (leb rfl) (leb rfl) (leb rfl) (Or.inl ⟨rfl, rfl⟩) ?_)))
 show W0 l Z n0 (P0 r) 3 528 27 [vR 0,vI p1,vI p2,vU,vU] [.ref 3, .ref 0] (hp 2 3)
 refine xY (ty := .array .int) (i := 0) (j := 13) (H' := (hp 3 3)) (D0 13) (m14 hw) (Or.inl (m15 hw)) (m1 hw) (hlay hw) (by decide) (fun _ => rfl) (fun _ => rfl) rfl rfl rfl (leb rfl) rfl (xA (D0 14) rfl (xB 4 (D0 15) rfl (xX (D0 16) (m16 hw) (by decide) (leb rfl) (leb rfl) (leb rfl) (Or.inr (Or.inr ⟨rfl, rfl⟩)) ?_)))
 show W0 l Z n0 (P0 r) 4 532 34 [vR 0,vI p1,vI p2,vU,vU] [.ref 4, .ref 0] (hp 3 4)
 refine xY (ty := .array .boolean) (i := 0) (j := 14) (H' := (hp 4 4)) (D0 17) (m17 hw) (Or.inl (m18 hw)) (m1 hw) (hlay hw) (by decide) (fun _ => rfl) (fun _ => rfl) rfl rfl rfl (leb rfl) rfl (xA (D0 18) rfl (xB 4 (D0 19) rfl (xX (D0 20) (m9 hw) (by decide) (leb rfl) (leb rfl) (leb rfl) (Or.inl ⟨rfl, rfl⟩) ?_)))
 show W0 l Z n0 (P0 r) 5 536 41 [vR 0,vI p1,vI p2,vU,vU] [.ref 5, .ref 0] (hp 4 5)
 refine xY (ty := .array .int) (i := 0) (j := 15) (H' := (hp 5 5)) (D0 21) (m19 hw) (Or.inl (m20 hw)) (m1 hw) (hlay hw) (by decide) (fun _ => rfl) (fun _ => rfl) rfl rfl rfl (leb rfl) rfl (xA (D0 22) rfl (xB 4 (D0 23) rfl (xX (D0 24) (m9 hw) (by decide) (leb rfl) (leb rfl) (leb rfl) (Or.inl ⟨rfl, rfl⟩) ?_)))
 show W0 l Z n0 (P0 r) 6 540 48 [vR 0,vI p1,vI p2,vU,vU] [.ref 6, .ref 0] (hp 5 6)
 refine xY (ty := .array .int) (i := 0) (j := 16) (H' := (hp 6 6)) (D0 25) (m21 hw) (Or.inl (m22 hw)) (m1 hw) (hlay hw) (by decide) (fun _ => rfl) (fun _ => rfl) rfl rfl rfl (leb rfl) rfl (xA (D0 26) rfl (xB 4 (D0 27) rfl (xX (D0 28) (m9 hw) (by decide) (leb rfl) (leb rfl) (leb rfl) (Or.inl ⟨rfl, rfl⟩) ?_)))
 show W0 l Z n0 (P0 r) 7 544 55 [vR 0,vI p1,vI p2,vU,vU] [.ref 7, .ref 0] (hp 6 7)
 refine xY (ty := .array .int) (i := 0) (j := 17) (H' := (hp 7 7)) (D0 29) (m23 hw) (Or.inl (m24 hw)) (m1 hw) (hlay hw) (by decide) (fun _ => rfl) (fun _ => rfl) rfl rfl rfl (leb rfl) rfl (xA (D0 30) rfl (xB 4 (D0 31) rfl (xX (D0 32) (m9 hw) (by decide) (leb rfl) (leb rfl) (leb rfl) (Or.inl ⟨rfl, rfl⟩) ?_)))
 show W0 l Z n0 (P0 r) 8 548 62 [vR 0,vI p1,vI p2,vU,vU] [.ref 8, .ref 0] (hp 7 8)
 refine xY (ty := .array .int) (i := 0) (j := 18) (H' := (hp 8 8)) (D0 33) (m25 hw) (Or.inl (m26 hw)) (m1 hw) (hlay hw) (by decide) (fun _ => rfl) (fun _ => rfl) rfl rfl rfl (leb rfl) rfl (xA (D0 34) rfl (xB 4 (D0 35) rfl (xX (D0 36) (m9 hw) (by decide) (leb rfl) (leb rfl) (leb rfl) (Or.inl ⟨rfl, rfl⟩) ?_)))
 show W0 l Z n0 (P0 r) 9 552 69 [vR 0,vI p1,vI p2,vU,vU] [.ref 9, .ref 0] (hp 8 9)
 refine xY (ty := .array .int) (i := 0) (j := 19) (H' := (hp 9 9)) (D0 37) (m27 hw) (Or.inl (m28 hw)) (m1 hw) (hlay hw) (by decide) (fun _ => rfl) (fun _ => rfl) rfl rfl rfl (leb rfl) rfl (xA (D0 38) rfl (xG 32 (D0 39) rfl (xX (D0 40) (m9 hw) (by decide) (leb rfl) (leb rfl) (leb rfl) (Or.inl ⟨rfl, rfl⟩) ?_)))
 show W0 l Z n0 (P0 r) 10 584 77 [vR 0,vI p1,vI p2,vU,vU] [.ref 10, .ref 0] (hp 9 10)
 refine xY (ty := .array .int) (i := 0) (j := 20) (H' := (hp 10 10)) (D0 41) (m29 hw) (Or.inl (m30 hw)) (m1 hw) (hlay hw) (by decide) (fun _ => rfl) (fun _ => rfl) rfl rfl rfl (leb rfl) rfl (xA (D0 42) rfl (xG 32 (D0 43) rfl (xX (D0 44) (m16 hw) (by decide) (leb rfl) (leb rfl) (leb rfl) (Or.inr (Or.inr ⟨rfl, rfl⟩)) ?_)))
 show W0 l Z n0 (P0 r) 11 616 85 [vR 0,vI p1,vI p2,vU,vU] [.ref 11, .ref 0] (hp 10 11)
 refine xY (ty := .array .boolean) (i := 0) (j := 21) (H' := (hp 11 11)) (D0 45) (m31 hw) (Or.inl (m32 hw)) (m1 hw) (hlay hw) (by decide) (fun _ => rfl) (fun _ => rfl) rfl rfl rfl (leb rfl) rfl (xA (D0 46) rfl (xG 32 (D0 47) rfl (xX (D0 48) (m9 hw) (by decide) (leb rfl) (leb rfl) (leb rfl) (Or.inl ⟨rfl, rfl⟩) ?_)))
 show W0 l Z n0 (P0 r) 12 648 93 [vR 0,vI p1,vI p2,vU,vU] [.ref 12, .ref 0] (hp 11 12)
 refine xY (ty := .array .int) (i := 0) (j := 22) (H' := (hp 12 12)) (D0 49) (m33 hw) (Or.inl (m34 hw)) (m1 hw) (hlay hw) (by decide) (fun _ => rfl) (fun _ => rfl) rfl rfl rfl (leb rfl) rfl (xA (D0 50) rfl (yB 256 (D0 51) rfl (xX (D0 52) (m9 hw) (by decide) (leb rfl) (leb rfl) (leb rfl) (Or.inl ⟨rfl, rfl⟩) ?_)))
 show W0 l Z n0 (P0 r) 13 904 102 [vR 0,vI p1,vI p2,vU,vU] [.ref 13, .ref 0] (hp 12 13)
 refine xY (ty := .array .int) (i := 0) (j := 23) (H' := (hp 13 13)) (D0 53) (m35 hw) (Or.inl (m36 hw)) (m1 hw) (hlay hw) (by decide) (fun _ => rfl) (fun _ => rfl) rfl rfl rfl (leb rfl) rfl (xA (D0 54) rfl (yB 256 (D0 55) rfl (xX (D0 56) (m9 hw) (by decide) (leb rfl) (leb rfl) (leb rfl) (Or.inl ⟨rfl, rfl⟩) ?_)))
 show W0 l Z n0 (P0 r) 14 1160 111 [vR 0,vI p1,vI p2,vU,vU] [.ref 14, .ref 0] (hp 13 14)
 refine xY (ty := .array .int) (i := 0) (j := 24) (H' := (hp 14 14)) (D0 57) (m37 hw) (Or.inl (m38 hw)) (m1 hw) (hlay hw) (by decide) (fun _ => rfl) (fun _ => rfl) rfl rfl rfl (leb rfl) rfl (xA (D0 58) rfl (yB 256 (D0 59) rfl (xX (D0 60) (m9 hw) (by decide) (leb rfl) (leb rfl) (leb rfl) (Or.inl ⟨rfl, rfl⟩) ?_)))
 show W0 l Z n0 (P0 r) 15 1416 120 [vR 0,vI p1,vI p2,vU,vU] [.ref 15, .ref 0] (hp 14 15)
 refine xY (ty := .array .int) (i := 0) (j := 25) (H' := (hp 15 15)) (D0 61) (m39 hw) (Or.inl (m40 hw)) (m1 hw) (hlay hw) (by decide) (fun _ => rfl) (fun _ => rfl) rfl rfl rfl (leb rfl) rfl (xA (D0 62) rfl (xG 16 (D0 63) rfl (xX (D0 64) (m9 hw) (by decide) (leb rfl) (leb rfl) (leb rfl) (Or.inl ⟨rfl, rfl⟩) ?_)))
 show W0 l Z n0 (P0 r) 16 1432 128 [vR 0,vI p1,vI p2,vU,vU] [.ref 16, .ref 0] (hp 15 16)
 refine xY (ty := .array .int) (i := 0) (j := 29) (H' := (hp 16 16)) (D0 65) (m41 hw) (Or.inl (m42 hw)) (m1 hw) (hlay hw) (by decide) (fun _ => rfl) (fun _ => rfl) rfl rfl rfl (leb rfl) rfl (xA (D0 66) rfl (xG 64 (D0 67) rfl (xX (D0 68) (m9 hw) (by decide) (leb rfl) (leb rfl) (leb rfl) (Or.inl ⟨rfl, rfl⟩) ?_)))
 show W0 l Z n0 (P0 r) 17 1496 136 [vR 0,vI p1,vI p2,vU,vU] [.ref 17, .ref 0] (hp 16 17)
 refine xY (ty := .array .int) (i := 0) (j := 30) (H' := (hp 17 17)) (D0 69) (m43 hw) (Or.inl (m44 hw)) (m1 hw) (hlay hw) (by decide) (fun _ => rfl) (fun _ => rfl) rfl rfl rfl (leb rfl) rfl (xA (D0 70) rfl (xG 64 (D0 71) rfl (xX (D0 72) (m9 hw) (by decide) (leb rfl) (leb rfl) (leb rfl) (Or.inl ⟨rfl, rfl⟩) ?_)))
 show W0 l Z n0 (P0 r) 18 1560 144 [vR 0,vI p1,vI p2,vU,vU] [.ref 18, .ref 0] (hp 17 18)
 refine xY (ty := .array .int) (i := 0) (j := 31) (H' := (hp 18 18)) (D0 73) (m45 hw) (Or.inl (m46 hw)) (m1 hw) (hlay hw) (by decide) (fun _ => rfl) (fun _ => rfl) rfl rfl rfl (leb rfl) rfl (xA (D0 74) rfl (xG 64 (D0 75) rfl (xX (D0 76) (m9 hw) (by decide) (leb rfl) (leb rfl) (leb rfl) (Or.inl ⟨rfl, rfl⟩) ?_)))
 show W0 l Z n0 (P0 r) 19 1624 152 [vR 0,vI p1,vI p2,vU,vU] [.ref 19, .ref 0] (hp 18 19)
 refine xY (ty := .array .int) (i := 0) (j := 32) (H' := (hp 19 19)) (D0 77) (m47 hw) (Or.inl (m48 hw)) (m1 hw) (hlay hw) (by decide) (fun _ => rfl) (fun _ => rfl) rfl rfl rfl (leb rfl) rfl (xA (D0 78) rfl (yB 4096 (D0 79) rfl (xX (D0 80) (m9 hw) (by decide) (leb rfl) (leb rfl) (leb rfl) (Or.inl ⟨rfl, rfl⟩) ?_)))
 show W0 l Z n0 (P0 r) 20 5720 161 [vR 0,vI p1,vI p2,vU,vU] [.ref 20, .ref 0] (hp 19 20)
 refine xY (ty := .array .int) (i := 0) (j := 33) (H' := (hp 20 20)) (D0 81) (m49 hw) (Or.inl (m50 hw)) (m1 hw) (hlay hw) (by decide) (fun _ => rfl) (fun _ => rfl) rfl rfl rfl (leb rfl) rfl (xA (D0 82) rfl (yB 4096 (D0 83) rfl (xX (D0 84) (m9 hw) (by decide) (leb rfl) (leb rfl) (leb rfl) (Or.inl ⟨rfl, rfl⟩) ?_)))
 show W0 l Z n0 (P0 r) 21 9816 170 [vR 0,vI p1,vI p2,vU,vU] [.ref 21, .ref 0] (hp 20 21)
 refine xY (ty := .array .int) (i := 0) (j := 34) (H' := (hp 21 21)) (D0 85) (m51 hw) (Or.inl (m52 hw)) (m1 hw) (hlay hw) (by decide) (fun _ => rfl) (fun _ => rfl) rfl rfl rfl (leb rfl) rfl (xA (D0 86) rfl (yB 4096 (D0 87) rfl (xX (D0 88) (m16 hw) (by decide) (leb rfl) (leb rfl) (leb rfl) (Or.inr (Or.inr ⟨rfl, rfl⟩)) ?_)))
 show W0 l Z n0 (P0 r) 22 13912 179 [vR 0,vI p1,vI p2,vU,vU] [.ref 22, .ref 0] (hp 21 22)
 refine xY (ty := .array .boolean) (i := 0) (j := 35) (H' := (hp 22 22)) (D0 89) (m53 hw) (Or.inl (m54 hw)) (m1 hw) (hlay hw) (by decide) (fun _ => rfl) (fun _ => rfl) rfl rfl rfl (leb rfl) rfl (xA (D0 90) rfl (xG 8 (D0 91) rfl (xX (D0 92) (m9 hw) (by decide) (leb rfl) (leb rfl) (leb rfl) (Or.inl ⟨rfl, rfl⟩) ?_)))
 show W0 l Z n0 (P0 r) 23 13920 187 [vR 0,vI p1,vI p2,vU,vU] [.ref 23, .ref 0] (hp 22 23)
 refine xY (ty := .array .int) (i := 0) (j := 37) (H' := (hp 23 23)) (D0 93) (m55 hw) (Or.inl (m56 hw)) (m1 hw) (hlay hw) (by decide) (fun _ => rfl) (fun _ => rfl) rfl rfl rfl (leb rfl) rfl (xA (D0 94) rfl (xG 8 (D0 95) rfl (xX (D0 96) (m9 hw) (by decide) (leb rfl) (leb rfl) (leb rfl) (Or.inl ⟨rfl, rfl⟩) ?_)))
 show W0 l Z n0 (P0 r) 24 13928 195 [vR 0,vI p1,vI p2,vU,vU] [.ref 24, .ref 0] (hp 23 24)
 refine xY (ty := .array .int) (i := 0) (j := 38) (H' := (hp 24 24)) (D0 97) (m57 hw) (Or.inl (m58 hw)) (m1 hw) (hlay hw) (by decide) (fun _ => rfl) (fun _ => rfl) rfl rfl rfl (leb rfl) rfl (xA (D0 98) rfl (xG 8 (D0 99) rfl (xX (D0 100) (m9 hw) (by decide) (leb rfl) (leb rfl) (leb rfl) (Or.inl ⟨rfl, rfl⟩) ?_)))
 show W0 l Z n0 (P0 r) 25 13936 203 [vR 0,vI p1,vI p2,vU,vU] [.ref 25, .ref 0] (hp 24 25)
 refine xY (ty := .array .int) (i := 0) (j := 39) (H' := (hp 25 25)) (D0 101) (m59 hw) (Or.inl (m60 hw)) (m1 hw) (hlay hw) (by decide) (fun _ => rfl) (fun _ => rfl) rfl rfl rfl (leb rfl) rfl (xA (D0 102) rfl (xG 8 (D0 103) rfl (xX (D0 104) (m9 hw) (by decide) (leb rfl) (leb rfl) (leb rfl) (Or.inl ⟨rfl, rfl⟩) ?_)))
 show W0 l Z n0 (P0 r) 26 13944 211 [vR 0,vI p1,vI p2,vU,vU] [.ref 26, .ref 0] (hp 25 26)
 refine xY (ty := .array .int) (i := 0) (j := 40) (H' := (hp 26 26)) (D0 105) (m61 hw) (Or.inl (m62 hw)) (m1 hw) (hlay hw) (by decide) (fun _ => rfl) (fun _ => rfl) rfl rfl rfl (leb rfl) rfl (xA (D0 106) rfl (xG 8 (D0 107) rfl (xX (D0 108) (m9 hw) (by decide) (leb rfl) (leb rfl) (leb rfl) (Or.inl ⟨rfl, rfl⟩) ?_)))
 show W0 l Z n0 (P0 r) 27 13952 219 [vR 0,vI p1,vI p2,vU,vU] [.ref 27, .ref 0] (hp 26 27)
 refine xY (ty := .array .int) (i := 0) (j := 41) (H' := (hp 27 27)) (D0 109) (m63 hw) (Or.inl (m64 hw)) (m1 hw) (hlay hw) (by decide) (fun _ => rfl) (fun _ => rfl) rfl rfl rfl (leb rfl) rfl (xA (D0 110) rfl (xB 4 (D0 111) rfl (xX (D0 112) (m9 hw) (by decide) (leb rfl) (leb rfl) (leb rfl) (Or.inl ⟨rfl, rfl⟩) ?_)))
 show W0 l Z n0 (P0 r) 28 13956 226 [vR 0,vI p1,vI p2,vU,vU] [.ref 28, .ref 0] (hp 27 28)
 refine xY (ty := .array .int) (i := 0) (j := 46) (H' := (hp 28 28)) (D0 113) (m65 hw) (Or.inl (m66 hw)) (m1 hw) (hlay hw) (by decide) (fun _ => rfl) (fun _ => rfl) rfl rfl rfl (leb rfl) rfl (xA (D0 114) rfl (xB 4 (D0 115) rfl (xX (D0 116) (m9 hw) (by decide) (leb rfl) (leb rfl) (leb rfl) (Or.inl ⟨rfl, rfl⟩) ?_)))
 show W0 l Z n0 (P0 r) 29 13960 233 [vR 0,vI p1,vI p2,vU,vU] [.ref 29, .ref 0] (hp 28 29)
 refine xY (ty := .array .int) (i := 0) (j := 47) (H' := (hp 29 29)) (D0 117) (m67 hw) (Or.inl (m68 hw)) (m1 hw) (hlay hw) (by decide) (fun _ => rfl) (fun _ => rfl) rfl rfl rfl (leb rfl) rfl (xA (D0 118) rfl (xB 4 (D0 119) rfl (xX (D0 120) (m9 hw) (by decide) (leb rfl) (leb rfl) (leb rfl) (Or.inl ⟨rfl, rfl⟩) ?_)))
 show W0 l Z n0 (P0 r) 30 13964 240 [vR 0,vI p1,vI p2,vU,vU] [.ref 30, .ref 0] (hp 29 30)
 refine xY (ty := .array .int) (i := 0) (j := 48) (H' := (hp 30 30)) (D0 121) (m69 hw) (Or.inl (m70 hw)) (m1 hw) (hlay hw) (by decide) (fun _ => rfl) (fun _ => rfl) rfl rfl rfl (leb rfl) rfl (xA (D0 122) rfl (xG 8 (D0 123) rfl (xX (D0 124) (m9 hw) (by decide) (leb rfl) (leb rfl) (leb rfl) (Or.inl ⟨rfl, rfl⟩) ?_)))
 show W0 l Z n0 (P0 r) 31 13972 248 [vR 0,vI p1,vI p2,vU,vU] [.ref 31, .ref 0] (hp 30 31)
 refine xY (ty := .array .int) (i := 0) (j := 49) (H' := (hp 31 31)) (D0 125) (m71 hw) (Or.inl (m72 hw)) (m1 hw) (hlay hw) (by decide) (fun _ => rfl) (fun _ => rfl) rfl rfl rfl (leb rfl) rfl (xA (D0 126) rfl (xG 8 (D0 127) rfl (xX (D0 128) (m9 hw) (by decide) (leb rfl) (leb rfl) (leb rfl) (Or.inl ⟨rfl, rfl⟩) ?_)))
 show W0 l Z n0 (P0 r) 32 13980 256 [vR 0,vI p1,vI p2,vU,vU] [.ref 32, .ref 0] (hp 31 32)
 refine xY (ty := .array .int) (i := 0) (j := 50) (H' := (hp 32 32)) (D0 129) (m73 hw) (Or.inl (m74 hw)) (m1 hw) (hlay hw) (by decide) (fun _ => rfl) (fun _ => rfl) rfl rfl rfl (leb rfl) rfl (xA (D0 130) rfl (xG 8 (D0 131) rfl (xX (D0 132) (m9 hw) (by decide) (leb rfl) (leb rfl) (leb rfl) (Or.inl ⟨rfl, rfl⟩) ?_)))
 show W0 l Z n0 (P0 r) 33 13988 264 [vR 0,vI p1,vI p2,vU,vU] [.ref 33, .ref 0] (hp 32 33)
 obtain ⟨s1, es1, h⟩ := lt_e h
 refine xY (ty := .array .int) (i := 0) (j := 51) (H' := (Hb 0 s1)) (D0 133) (m75 hw) (Or.inl (m76 hw)) (m1 hw) (hlay hw) (by decide) (fun _ => rfl) (fun _ => rfl) rfl rfl rfl (leb rfl) (by subst es1; rfl) (xC (D0 134) rfl (xP (L' := [vR 0,vI p1,vI p2,vI p1,vU]) (D0 135) (leb rfl) rfl (xC (D0 136) rfl (xG 8 (D0 137) rfl ?_))))
 rcases ite_e h with ⟨hc2, h⟩ | ⟨hc2, h⟩
 ·
  exact xJ (D0 138) (XT.ii_ge_f hc2) (xG 8 (D0 139) rfl (xP (L' := [vR 0,vI p1,vI p2,vI 8,vU]) (D0 140) (leb rfl) rfl (xE (L' := [vR 0,vU,vI p2,vI 8,vU]) ⟨rfl, rfl, rfl, trivial⟩ (ok0_278 hw n0 p2 (8 : Int32) s1 _ h))))
 ·
  exact xI (pc' := 278) (D0 138) (XT.ii_ge_t hc2) (by decide) rfl (xE (L' := [vR 0,vU,vI p2,vI p1,vU]) ⟨rfl, rfl, rfl, trivial⟩ (ok0_278 hw n0 p2 p1 s1 _ h))
def D3 := dA k1 (0,.aload_n 0,1) [(1,.getfield 120,3),(4,.sipush 256,3),(7,.if_icmp .ne 5,3),(10,.iconst 0,1),(11,.ireturn,1),(12,.iload_n 1,1),(13,.iconst 1,1),(14,.if_icmp .lt 9,3),(17,.iload_n 1,1),(18,.bipush 25,2),(20,.if_icmp .le 5,3),(23,.iconst 0,1),(24,.ireturn,1),(25,.iload_n 1,1),(26,.iconst 2,1),(27,.if_icmp .ne 15,3),(30,.iload_n 2,1),(31,.ifCond .lt 9,3),(34,.iload_n 2,1),(35,.bipush 7,2),(37,.if_icmp .le 5,3),(40,.iconst 0,1),(41,.ireturn,1),(42,.iload_n 1,1),(43,.iconst 3,1),(44,.if_icmp .ne 14,3),(47,.iload_n 2,1),(48,.ifCond .lt 8,3),(51,.iload_n 2,1),(52,.iconst 3,1),(53,.if_icmp .le 5,3),(56,.iconst 0,1),(57,.ireturn,1),(58,.iconst 0,1),(59,.istore_n 3,1),(60,.iload_n 1,1),(61,.iconst 1,1),(62,.if_icmp .eq 13,3),(65,.iload_n 1,1),(66,.iconst 2,1),(67,.if_icmp .eq 8,3),(70,.iload_n 1,1),(71,.iconst 3,1),(72,.if_icmp .ne 5,3),(75,.iload_n 2,1),(76,.istore_n 3,1),(77,.aload_n 0,1),(78,.getfield 7,3),(81,.aload_n 0,1),(82,.getfield 120,3),(85,.iload_n 1,1),(86,.iastore,1),(87,.aload_n 0,1),(88,.getfield 13,3),(91,.aload_n 0,1),(92,.getfield 120,3),(95,.iload_n 3,1),(96,.iastore,1),(97,.aload_n 0,1),(98,.dup,1),(99,.getfield 120,3),(102,.iconst 1,1),(103,.iadd,1),(104,.putfield 120,3),(107,.aload_n 0,1),(108,.iconst 0,1),(109,.putfield 123,3),(112,.aload_n 0,1),(113,.invokevirtual 117,3),(116,.iconst 1,1),(117,.ireturn,1)] (by decide +kernel)
abbrev y3 : MethodName := ⟨"FatPointerC", "tok", "(II)Z"⟩
theorem hy3 : y3.cls ≠ "java/lang/invoke/MethodHandle" ∧ y3.cls ≠ "java/lang/invoke/VarHandle" := by decide
theorem pd3 : parseMethodDescriptor y3.desc = some ⟨[.int, .int], some .boolean⟩ := by decide +kernel
abbrev R3 : Room := { frames := 1, cells := 0, slots := 0, locals := 12 }
abbrev P3 (r : Int32 × St) : Option Value → List OwnC → Prop := fun v H' => v = some (.int r.1) ∧ H' = (Hb 0 r.2)
abbrev W3 (l : Launch) (Z : State) (n0 : Nat) := WP l Z CN lay "FatPointerC" "tok" prog_1_method_3_code 4 (some FieldType.boolean) R3 n0 0
def f_tok_23 (s : St) : Option (Int32 × St) :=
 some ((0 : Int32), s)
theorem ok3_23 (hw : HW a0 Z) (n0 : Nat) (s : St) (r : Int32 × St) (h : f_tok_23 s = some r) : W3 l Z n0 (P3 r) 0 0 23 [vU,vU,vU,vU] [] (Hb 0 s) := by
 unfold f_tok_23 at h
 refine xB 0 (D3 12) rfl ?_
 cases h
 exact xZ (D3 13) rfl (leb rfl) (leb rfl) ⟨rfl, rfl⟩
def f_tok_40 (s : St) : Option (Int32 × St) :=
 some ((0 : Int32), s)
theorem ok3_40 (hw : HW a0 Z) (n0 : Nat) (s : St) (r : Int32 × St) (h : f_tok_40 s = some r) : W3 l Z n0 (P3 r) 0 0 40 [vU,vU,vU,vU] [] (Hb 0 s) := by
 unfold f_tok_40 at h
 refine xB 0 (D3 22) rfl ?_
 cases h
 exact xZ (D3 23) rfl (leb rfl) (leb rfl) ⟨rfl, rfl⟩
def f_tok_56 (s : St) : Option (Int32 × St) :=
 some ((0 : Int32), s)
theorem ok3_56 (hw : HW a0 Z) (n0 : Nat) (s : St) (r : Int32 × St) (h : f_tok_56 s = some r) : W3 l Z n0 (P3 r) 0 0 56 [vU,vU,vU,vU] [] (Hb 0 s) := by
 unfold f_tok_56 at h
 refine xB 0 (D3 32) rfl ?_
 cases h
 exact xZ (D3 33) rfl (leb rfl) (leb rfl) ⟨rfl, rfl⟩
def f_tok_77 (v1 v3 : Int32) (s : St) : Option (Int32 × St) :=
 (wrA s 0 (gI s 2) v1).bind fun s1 =>
 (wrA s1 1 (gI s1 2) v3).bind fun s2 =>
 lt (sI s2 2 ((gI s2 2) + (1 : Int32))) fun s3 =>
 lt (sI s3 3 (0 : Int32)) fun s4 =>
 (f_clearResults s4).bind fun c5 =>
 some ((1 : Int32), c5)
theorem ok3_77 (hw : HW a0 Z) (n0 : Nat) (v1 v3 : Int32) (s : St) (r : Int32 × St) (h : f_tok_77 v1 v3 s = some r) : W3 l Z n0 (P3 r) 0 0 77 [vR 0,vI v1,vU,vI v3] [] (Hb 0 s) := by
 unfold f_tok_77 at h
 refine xA (D3 47) rfl (xD (i := 0) (j := 3) (D3 48) (m10 hw) rfl rfl rfl (xA (D3 49) rfl (xD (i := 0) (j := 2) (D3 50) (m108 hw) rfl rfl rfl (xC (D3 51) rfl ?_))))
 obtain ⟨s1, hs1, h⟩ := bd h
 obtain ⟨ys1, gs1, es1⟩ := wrA_e hs1
 refine xU (i := 1) (xs := gA s 0) (H' := (Hb 0 s1)) (D3 52) rfl (leb rfl) gs1 (by subst es1; rfl) (xA (D3 53) rfl (xD (i := 0) (j := 4) (D3 54) (m12 hw) rfl rfl rfl (xA (D3 55) rfl (xD (i := 0) (j := 2) (D3 56) (m108 hw) rfl rfl rfl (xC (D3 57) rfl ?_)))))
 obtain ⟨s2, hs2, h⟩ := bd h
 obtain ⟨ys2, gs2, es2⟩ := wrA_e hs2
 refine xU (i := 2) (xs := gA s1 1) (H' := (Hb 0 s2)) (D3 58) rfl (leb rfl) gs2 (by subst es2; rfl) (xA (D3 59) rfl (yA (D3 60) rfl (xD (i := 0) (j := 2) (D3 61) (m108 hw) rfl rfl rfl (xB 1 (D3 62) rfl (xO (D3 63) ?_)))))
 obtain ⟨s3, es3, h⟩ := lt_e h
 refine xT (i := 0) (j := 2) (H' := (Hb 0 s3)) (D3 64) (m108 hw) (Or.inl (m109 hw)) (m1 hw) (hlay hw) rfl rfl rfl (leb rfl) (by subst es3; rfl) (xA (D3 65) rfl (xB 0 (D3 66) rfl ?_))
 obtain ⟨s4, es4, h⟩ := lt_e h
 refine yD (i := 0) (j := 5) (H' := (Hb 0 s4)) (D3 67) (m110 hw) (Or.inl (m111 hw)) (m1 hw) (hlay hw) rfl rfl rfl (leb rfl) (by subst es4; rfl) (xA (D3 68) rfl ?_)
 obtain ⟨c5, hc5, h⟩ := bd h
 refine xF (i := 0) (y := y1) (as := []) (S := []) (D3 69) (m81 hw) (m83 hw) (m1 hw) (m82 hw) (m84 hw) (m2 hw) hy1 rfl (ok1 hw s4 _ hc5) rfl (lenOf pd1 rfl) (leb rfl) (leb rfl) (leb rfl) (leb rfl) ?_
 rintro _ _ ⟨rfl, rfl⟩
 show W3 l Z n0 (P3 r) 0 0 116 [vR 0,vI v1,vU,vI v3] [] (Hb 0 c5)
 refine xB 1 (D3 70) rfl ?_
 cases h
 exact xZ (D3 71) rfl (leb rfl) (leb rfl) ⟨rfl, rfl⟩
def f_tok_75 (v1 v2 : Int32) (s : St) : Option (Int32 × St) :=
 f_tok_77 v1 v2 s
theorem ok3_75 (hw : HW a0 Z) (n0 : Nat) (v1 v2 : Int32) (s : St) (r : Int32 × St) (h : f_tok_75 v1 v2 s = some r) : W3 l Z n0 (P3 r) 0 0 75 [vR 0,vI v1,vI v2,vU] [] (Hb 0 s) := by
 unfold f_tok_75 at h
 exact xC (D3 45) rfl (xP (L' := [vR 0,vI v1,vI v2,vI v2]) (D3 46) (leb rfl) rfl (xE (L' := [vR 0,vI v1,vU,vI v2]) ⟨rfl, rfl, rfl, trivial⟩ (ok3_77 hw n0 v1 v2 s _ h)))
def f_tok_58 (v1 v2 : Int32) (s : St) : Option (Int32 × St) :=
 if v1 = (1 : Int32) then
  f_tok_75 v1 v2 s
 else
  if v1 = (2 : Int32) then
   f_tok_75 v1 v2 s
  else
   if v1 = (3 : Int32) then
    f_tok_75 v1 v2 s
   else
    f_tok_77 v1 (0 : Int32) s
theorem ok3_58 (hw : HW a0 Z) (n0 : Nat) (v1 v2 : Int32) (s : St) (r : Int32 × St) (h : f_tok_58 v1 v2 s = some r) : W3 l Z n0 (P3 r) 0 0 58 [vR 0,vI v1,vI v2,vU] [] (Hb 0 s) := by
 unfold f_tok_58 at h
 refine xB 0 (D3 34) rfl (xP (L' := [vR 0,vI v1,vI v2,vI 0]) (D3 35) (leb rfl) rfl (xC (D3 36) rfl (xB 1 (D3 37) rfl ?_)))
 rcases ite_e h with ⟨hc1, h⟩ | ⟨hc1, h⟩
 ·
  exact xI (pc' := 75) (D3 38) (XT.ii_eq_t hc1) (by decide) rfl (xE (L' := [vR 0,vI v1,vI v2,vU]) ⟨rfl, rfl, rfl, trivial⟩ (ok3_75 hw n0 v1 v2 s _ h))
 ·
  refine xJ (D3 38) (XT.ii_eq_f hc1) (xC (D3 39) rfl (xB 2 (D3 40) rfl ?_))
  rcases ite_e h with ⟨hc2, h⟩ | ⟨hc2, h⟩
  ·
   exact xI (pc' := 75) (D3 41) (XT.ii_eq_t hc2) (by decide) rfl (xE (L' := [vR 0,vI v1,vI v2,vU]) ⟨rfl, rfl, rfl, trivial⟩ (ok3_75 hw n0 v1 v2 s _ h))
  ·
   refine xJ (D3 41) (XT.ii_eq_f hc2) (xC (D3 42) rfl (xB 3 (D3 43) rfl ?_))
   rcases ite_e h with ⟨hc3, h⟩ | ⟨hc3, h⟩
   ·
    exact xJ (D3 44) (XT.ii_ne_f hc3) (xE (L' := [vR 0,vI v1,vI v2,vU]) ⟨rfl, rfl, rfl, trivial⟩ (ok3_75 hw n0 v1 v2 s _ h))
   ·
    exact xI (pc' := 77) (D3 44) (XT.ii_ne_t hc3) (by decide) rfl (xE (L' := [vR 0,vI v1,vU,vI 0]) ⟨rfl, rfl, rfl, trivial⟩ (ok3_77 hw n0 v1 (0 : Int32) s _ h))
def f_tok_42 (v1 v2 : Int32) (s : St) : Option (Int32 × St) :=
 if v1 = (3 : Int32) then
  if v2 < 0 then
   f_tok_56 s
  else
   if (3 : Int32) < v2 then
    f_tok_56 s
   else
    f_tok_58 v1 v2 s
 else
  f_tok_58 v1 v2 s
theorem ok3_42 (hw : HW a0 Z) (n0 : Nat) (v1 v2 : Int32) (s : St) (r : Int32 × St) (h : f_tok_42 v1 v2 s = some r) : W3 l Z n0 (P3 r) 0 0 42 [vR 0,vI v1,vI v2,vU] [] (Hb 0 s) := by
 unfold f_tok_42 at h
 refine xC (D3 24) rfl (xB 3 (D3 25) rfl ?_)
 rcases ite_e h with ⟨hc1, h⟩ | ⟨hc1, h⟩
 ·
  refine xJ (D3 26) (XT.ii_ne_f hc1) (xC (D3 27) rfl ?_)
  rcases ite_e h with ⟨hc2, h⟩ | ⟨hc2, h⟩
  ·
   exact xL (pc' := 56) (D3 28) (XT.i0_lt_t hc2) (by decide) rfl (xE (L' := [vU,vU,vU,vU]) trivial (ok3_56 hw n0 s _ h))
  ·
   refine xM (D3 28) (XT.i0_lt_f hc2) (xC (D3 29) rfl (xB 3 (D3 30) rfl ?_))
   rcases ite_e h with ⟨hc3, h⟩ | ⟨hc3, h⟩
   ·
    exact xJ (D3 31) (XT.ii_le_f hc3) (xE (L' := [vU,vU,vU,vU]) trivial (ok3_56 hw n0 s _ h))
   ·
    exact xI (pc' := 58) (D3 31) (XT.ii_le_t hc3) (by decide) rfl (xE (L' := [vR 0,vI v1,vI v2,vU]) ⟨rfl, rfl, rfl, trivial⟩ (ok3_58 hw n0 v1 v2 s _ h))
 ·
  exact xI (pc' := 58) (D3 26) (XT.ii_ne_t hc1) (by decide) rfl (xE (L' := [vR 0,vI v1,vI v2,vU]) ⟨rfl, rfl, rfl, trivial⟩ (ok3_58 hw n0 v1 v2 s _ h))
def f_tok (p1 p2 : Int32) (s : St) : Option (Int32 × St) :=
 if (gI s 2) = (256 : Int32) then
  some ((0 : Int32), s)
 else
  if p1 < (1 : Int32) then
   f_tok_23 s
  else
   if (25 : Int32) < p1 then
    f_tok_23 s
   else
    if p1 = (2 : Int32) then
     if p2 < 0 then
      f_tok_40 s
     else
      if (7 : Int32) < p2 then
       f_tok_40 s
      else
       f_tok_42 p1 p2 s
    else
     f_tok_42 p1 p2 s
theorem ok3 (hw : HW a0 Z) (p1 p2 : Int32) (s : St) (r : Int32 × St) (h : f_tok p1 p2 s = some r) : CS l Z CN lay y3 prog_1_method_3_code 4 (some FieldType.boolean) R3 0 [.ref 0, .int p1, .int p2] (Hb 0 s) (P3 r) := by
 refine CS.of_wp pn_cls (leb rfl) fun n0 => ?_
 show W3 l Z n0 (P3 r) 0 0 0 [vR 0,vI p1,vI p2,vU] [] (Hb 0 s)
 unfold f_tok at h
 refine xA (D3 0) rfl (xD (i := 0) (j := 2) (D3 1) (m108 hw) rfl rfl rfl (yB 256 (D3 2) rfl ?_))
 rcases ite_e h with ⟨hc1, h⟩ | ⟨hc1, h⟩
 ·
  refine xJ (D3 3) (XT.ii_ne_f hc1) (xB 0 (D3 4) rfl ?_)
  cases h
  exact xZ (D3 5) rfl (leb rfl) (leb rfl) ⟨rfl, rfl⟩
 ·
  refine xI (pc' := 12) (D3 3) (XT.ii_ne_t hc1) (by decide) rfl (xC (D3 6) rfl (xB 1 (D3 7) rfl ?_))
  rcases ite_e h with ⟨hc2, h⟩ | ⟨hc2, h⟩
  ·
   exact xI (pc' := 23) (D3 8) (XT.ii_lt_t hc2) (by decide) rfl (xE (L' := [vU,vU,vU,vU]) trivial (ok3_23 hw n0 s _ h))
  ·
   refine xJ (D3 8) (XT.ii_lt_f hc2) (xC (D3 9) rfl (xG 25 (D3 10) rfl ?_))
   rcases ite_e h with ⟨hc3, h⟩ | ⟨hc3, h⟩
   ·
    exact xJ (D3 11) (XT.ii_le_f hc3) (xE (L' := [vU,vU,vU,vU]) trivial (ok3_23 hw n0 s _ h))
   ·
    refine xI (pc' := 25) (D3 11) (XT.ii_le_t hc3) (by decide) rfl (xC (D3 14) rfl (xB 2 (D3 15) rfl ?_))
    rcases ite_e h with ⟨hc4, h⟩ | ⟨hc4, h⟩
    ·
     refine xJ (D3 16) (XT.ii_ne_f hc4) (xC (D3 17) rfl ?_)
     rcases ite_e h with ⟨hc5, h⟩ | ⟨hc5, h⟩
     ·
      exact xL (pc' := 40) (D3 18) (XT.i0_lt_t hc5) (by decide) rfl (xE (L' := [vU,vU,vU,vU]) trivial (ok3_40 hw n0 s _ h))
     ·
      refine xM (D3 18) (XT.i0_lt_f hc5) (xC (D3 19) rfl (xG 7 (D3 20) rfl ?_))
      rcases ite_e h with ⟨hc6, h⟩ | ⟨hc6, h⟩
      ·
       exact xJ (D3 21) (XT.ii_le_f hc6) (xE (L' := [vU,vU,vU,vU]) trivial (ok3_40 hw n0 s _ h))
      ·
       exact xI (pc' := 42) (D3 21) (XT.ii_le_t hc6) (by decide) rfl (xE (L' := [vR 0,vI p1,vI p2,vU]) ⟨rfl, rfl, rfl, trivial⟩ (ok3_42 hw n0 p1 p2 s _ h))
    ·
     exact xI (pc' := 42) (D3 16) (XT.ii_ne_t hc4) (by decide) rfl (xE (L' := [vR 0,vI p1,vI p2,vU]) ⟨rfl, rfl, rfl, trivial⟩ (ok3_42 hw n0 p1 p2 s _ h))
def D2 := dA method_2_code (0,.aload_n 0,1) [(1,.iload_n 1,1),(2,.iload_n 2,1),(3,.invokevirtual 7,3),(6,.pop,1),(7,.return_,1)] (by decide +kernel)
abbrev y2 : MethodName := ⟨"FatPointerCL7", "k", "(LFatPointerC;II)V"⟩
theorem hy2 : y2.cls ≠ "java/lang/invoke/MethodHandle" ∧ y2.cls ≠ "java/lang/invoke/VarHandle" := by decide
theorem pd2 : parseMethodDescriptor y2.desc = some ⟨[.object "FatPointerC", .int, .int], none⟩ := by decide +kernel
abbrev R2 : Room := { frames := 2, cells := 0, slots := 0, locals := 27 }
abbrev P2 (r : St) : Option Value → List OwnC → Prop := fun v H' => v = none ∧ H' = (Hb 0 r)
abbrev W2 (l : Launch) (Z : State) (n0 : Nat) := WP l Z CN lay "FatPointerCL7" "k" method_2_code 3 (none) R2 n0 0
def f_L_k (p1 p2 : Int32) (s : St) : Option (St) :=
 (f_tok p1 p2 s).bind fun c1 =>
 some c1.2
theorem ok2 (hw : HW a0 Z) (p1 p2 : Int32) (s r : St) (h : f_L_k p1 p2 s = some r) : CS l Z CN lay y2 method_2_code 3 (none) R2 0 [.ref 0, .int p1, .int p2] (Hb 0 s) (P2 r) := by
 refine CS.of_wp pn_law (leb rfl) fun n0 => ?_
 show W2 l Z n0 (P2 r) 0 0 0 [vR 0,vI p1,vI p2] [] (Hb 0 s)
 unfold f_L_k at h
 refine xA (D2 0) rfl (xC (D2 1) rfl (xC (D2 2) rfl ?_))
 obtain ⟨c1, hc1, h⟩ := bd h
 refine yF (i := 0) (y := y3) (as := [.int p1, .int p2]) (S := []) (D2 3) (m103 hw) (m104 hw) (m106 hw) (m105 hw) (m107 hw) (m2 hw) hy3 rfl (ok3 hw p1 p2 s _ hc1) rfl (lenOf pd3 rfl) (leb rfl) (leb rfl) (leb rfl) (leb rfl) ?_
 rintro _ _ ⟨rfl, rfl⟩
 show W2 l Z n0 (P2 r) 0 0 6 [vR 0,vI p1,vI p2] [.int c1.1] (Hb 0 c1.2)
 refine WP.pop (D2 4) rfl ?_
 cases h
 exact xS (D2 5) rfl (leb rfl) (leb rfl) ⟨rfl, rfl⟩
def D4 := dA k2 (0,.aload_n 0,1) [(1,.getfield 120,3),(4,.ireturn,1)] (by decide +kernel)
abbrev y4 : MethodName := ⟨"FatPointerC", "tokenCount", "()I"⟩
theorem hy4 : y4.cls ≠ "java/lang/invoke/MethodHandle" ∧ y4.cls ≠ "java/lang/invoke/VarHandle" := by decide
theorem pd4 : parseMethodDescriptor y4.desc = some ⟨[], some .int⟩ := by decide +kernel
abbrev R4 : Room := { frames := 0, cells := 0, slots := 0, locals := 0 }
abbrev P4 (s : St) (r : Int32) : Option Value → List OwnC → Prop := fun v H' => v = some (.int r) ∧ H' = (Hb 0 s)
abbrev W4 (l : Launch) (Z : State) (n0 : Nat) := WP l Z CN lay "FatPointerC" "tokenCount" prog_1_method_4_code 1 (some FieldType.int) R4 n0 0
def f_tokenCount (s : St) : Option (Int32) :=
 some (gI s 2)
theorem ok4 (hw : HW a0 Z) (s : St) (r : Int32) (h : f_tokenCount s = some r) : CS l Z CN lay y4 prog_1_method_4_code 1 (some FieldType.int) R4 0 [.ref 0] (Hb 0 s) (P4 s r) := by
 refine CS.of_wp pn_cls (leb rfl) fun n0 => ?_
 show W4 l Z n0 (P4 s r) 0 0 0 [vR 0] [] (Hb 0 s)
 unfold f_tokenCount at h
 refine xA (D4 0) rfl (xD (i := 0) (j := 2) (D4 1) (m108 hw) rfl rfl rfl ?_)
 cases h
 exact xK (D4 2) rfl (leb rfl) (leb rfl) ⟨rfl, rfl⟩
def D9 := dA k14 (0,.iload_n 1,1) [(1,.ifCond .lt 11,3),(4,.iload_n 1,1),(5,.aload_n 0,1),(6,.getfield 120,3),(9,.if_icmp .lt 5,3),(12,.iconst 0,1),(13,.ireturn,1),(14,.aload_n 0,1),(15,.getfield 7,3),(18,.iload_n 1,1),(19,.iaload,1),(20,.ireturn,1)] (by decide +kernel)
abbrev y9 : MethodName := ⟨"FatPointerC", "kindAt", "(I)I"⟩
theorem hy9 : y9.cls ≠ "java/lang/invoke/MethodHandle" ∧ y9.cls ≠ "java/lang/invoke/VarHandle" := by decide
theorem pd9 : parseMethodDescriptor y9.desc = some ⟨[.int], some .int⟩ := by decide +kernel
abbrev R9 : Room := { frames := 0, cells := 0, slots := 0, locals := 0 }
abbrev P9 (s : St) (r : Int32) : Option Value → List OwnC → Prop := fun v H' => v = some (.int r) ∧ H' = (Hb 0 s)
abbrev W9 (l : Launch) (Z : State) (n0 : Nat) := WP l Z CN lay "FatPointerC" "kindAt" prog_1_method_16_code 2 (some FieldType.int) R9 n0 0
def f_kindAt_12 (s : St) : Option (Int32) :=
 some (0 : Int32)
theorem ok9_12 (hw : HW a0 Z) (n0 : Nat) (s : St) (r : Int32) (h : f_kindAt_12 s = some r) : W9 l Z n0 (P9 s r) 0 0 12 [vU,vU] [] (Hb 0 s) := by
 unfold f_kindAt_12 at h
 refine xB 0 (D9 6) rfl ?_
 cases h
 exact xK (D9 7) rfl (leb rfl) (leb rfl) ⟨rfl, rfl⟩
def f_kindAt (p1 : Int32) (s : St) : Option (Int32) :=
 if p1 < 0 then
  f_kindAt_12 s
 else
  if p1 < (gI s 2) then
   (rd (gA s 0) p1).bind fun x3 =>
   some x3
  else
   f_kindAt_12 s
theorem ok9 (hw : HW a0 Z) (p1 : Int32) (s : St) (r : Int32) (h : f_kindAt p1 s = some r) : CS l Z CN lay y9 prog_1_method_16_code 2 (some FieldType.int) R9 0 [.ref 0, .int p1] (Hb 0 s) (P9 s r) := by
 refine CS.of_wp pn_cls (leb rfl) fun n0 => ?_
 show W9 l Z n0 (P9 s r) 0 0 0 [vR 0,vI p1] [] (Hb 0 s)
 unfold f_kindAt at h
 refine xC (D9 0) rfl ?_
 rcases ite_e h with ⟨hc1, h⟩ | ⟨hc1, h⟩
 ·
  exact xL (pc' := 12) (D9 1) (XT.i0_lt_t hc1) (by decide) rfl (xE (L' := [vU,vU]) trivial (ok9_12 hw n0 s _ h))
 ·
  refine xM (D9 1) (XT.i0_lt_f hc1) (xC (D9 2) rfl (xA (D9 3) rfl (xD (i := 0) (j := 2) (D9 4) (m108 hw) rfl rfl rfl ?_)))
  rcases ite_e h with ⟨hc2, h⟩ | ⟨hc2, h⟩
  ·
   refine xI (pc' := 14) (D9 5) (XT.ii_lt_t hc2) (by decide) rfl (xA (D9 8) rfl (xD (i := 0) (j := 3) (D9 9) (m10 hw) rfl rfl rfl (xC (D9 10) rfl ?_)))
   obtain ⟨x3, hx3, h⟩ := bd h
   refine xN (i := 1) (D9 11) rfl hx3 ?_
   cases h
   exact xK (D9 12) rfl (leb rfl) (leb rfl) ⟨rfl, rfl⟩
  ·
   exact xJ (D9 5) (XT.ii_lt_f hc2) (xE (L' := [vU,vU]) trivial (ok9_12 hw n0 s _ h))
def D8 := dA k18 (0,.aload_n 0,1) [(1,.getfield 180,3),(4,.ifCond .ne 4,3),(7,.return_,1),(8,.aload_n 0,1),(9,.aload_n 0,1),(10,.getfield 183,3),(13,.invokevirtual 192,3),(16,.iload_n 1,1),(17,.if_icmp .eq 9,3),(20,.aload_n 0,1),(21,.iconst 0,1),(22,.putfield 180,3),(25,.return_,1),(26,.aload_n 0,1),(27,.dup,1),(28,.getfield 183,3),(31,.iconst 1,1),(32,.iadd,1),(33,.putfield 183,3),(36,.return_,1)] (by decide +kernel)
abbrev y8 : MethodName := ⟨"FatPointerC", "expect", "(I)V"⟩
theorem hy8 : y8.cls ≠ "java/lang/invoke/MethodHandle" ∧ y8.cls ≠ "java/lang/invoke/VarHandle" := by decide
theorem pd8 : parseMethodDescriptor y8.desc = some ⟨[.int], none⟩ := by decide +kernel
abbrev R8 : Room := { frames := 1, cells := 0, slots := 0, locals := 13 }
abbrev P8 (r : St) : Option Value → List OwnC → Prop := fun v H' => v = none ∧ H' = (Hb 0 r)
abbrev W8 (l : Launch) (Z : State) (n0 : Nat) := WP l Z CN lay "FatPointerC" "expect" prog_1_method_20_code 2 (none) R8 n0 0
def f_expect (p1 : Int32) (s : St) : Option (St) :=
 if (gI s 12) = 0 then
  some s
 else
  (f_kindAt (gI s 11) s).bind fun c2 =>
  if c2 = p1 then
   lt (sI s 11 ((gI s 11) + (1 : Int32))) fun s4 =>
   some s4
  else
   lt (sI s 12 (0 : Int32)) fun s5 =>
   some s5
theorem ok8 (hw : HW a0 Z) (p1 : Int32) (s r : St) (h : f_expect p1 s = some r) : CS l Z CN lay y8 prog_1_method_20_code 2 (none) R8 0 [.ref 0, .int p1] (Hb 0 s) (P8 r) := by
 refine CS.of_wp pn_cls (leb rfl) fun n0 => ?_
 show W8 l Z n0 (P8 r) 0 0 0 [vR 0,vI p1] [] (Hb 0 s)
 unfold f_expect at h
 refine xA (D8 0) rfl (xD (i := 0) (j := 27) (D8 1) (m126 hw) rfl rfl rfl ?_)
 rcases ite_e h with ⟨hc1, h⟩ | ⟨hc1, h⟩
 ·
  refine xM (D8 2) (XT.i0_ne_f hc1) ?_
  cases h
  exact xS (D8 3) rfl (leb rfl) (leb rfl) ⟨rfl, rfl⟩
 ·
  refine xL (pc' := 8) (D8 2) (XT.i0_ne_t hc1) (by decide) rfl (xA (D8 4) rfl (xA (D8 5) rfl (xD (i := 0) (j := 26) (D8 6) (m128 hw) rfl rfl rfl ?_)))
  obtain ⟨c2, hc2, h⟩ := bd h
  refine xF (i := 0) (y := y9) (as := [.int (gI s 11)]) (S := []) (D8 7) (m138 hw) (m140 hw) (m1 hw) (m139 hw) (m141 hw) (m2 hw) hy9 rfl (ok9 hw (gI s 11) s _ hc2) rfl (lenOf pd9 rfl) (leb rfl) (leb rfl) (leb rfl) (leb rfl) ?_
  rintro _ _ ⟨rfl, rfl⟩
  show W8 l Z n0 (P8 r) 0 0 16 [vR 0,vI p1] [.int c2] (Hb 0 s)
  refine xC (D8 8) rfl ?_
  rcases ite_e h with ⟨hc3, h⟩ | ⟨hc3, h⟩
  ·
   refine xI (pc' := 26) (D8 9) (XT.ii_eq_t hc3) (by decide) rfl (xA (D8 14) rfl (yA (D8 15) rfl (xD (i := 0) (j := 26) (D8 16) (m128 hw) rfl rfl rfl (xB 1 (D8 17) rfl (xO (D8 18) ?_)))))
   obtain ⟨s4, es4, h⟩ := lt_e h
   refine xT (i := 0) (j := 26) (H' := (Hb 0 s4)) (D8 19) (m128 hw) (Or.inl (m129 hw)) (m1 hw) (hlay hw) rfl rfl rfl (leb rfl) (by subst es4; rfl) ?_
   cases h
   exact xS (D8 20) rfl (leb rfl) (leb rfl) ⟨rfl, rfl⟩
  ·
   refine xJ (D8 9) (XT.ii_eq_f hc3) (xA (D8 10) rfl (xB 0 (D8 11) rfl ?_))
   obtain ⟨s5, es5, h⟩ := lt_e h
   refine yD (i := 0) (j := 27) (H' := (Hb 0 s5)) (D8 12) (m126 hw) (Or.inl (m127 hw)) (m1 hw) (hlay hw) rfl rfl rfl (leb rfl) (by subst es5; rfl) ?_
   cases h
   exact xS (D8 13) rfl (leb rfl) (leb rfl) ⟨rfl, rfl⟩
def D10 := dA k15 (0,.iload_n 1,1) [(1,.ifCond .lt 11,3),(4,.iload_n 1,1),(5,.aload_n 0,1),(6,.getfield 120,3),(9,.if_icmp .lt 5,3),(12,.iconst 0,1),(13,.ireturn,1),(14,.aload_n 0,1),(15,.getfield 13,3),(18,.iload_n 1,1),(19,.iaload,1),(20,.ireturn,1)] (by decide +kernel)
abbrev y10 : MethodName := ⟨"FatPointerC", "valAt", "(I)I"⟩
theorem hy10 : y10.cls ≠ "java/lang/invoke/MethodHandle" ∧ y10.cls ≠ "java/lang/invoke/VarHandle" := by decide
theorem pd10 : parseMethodDescriptor y10.desc = some ⟨[.int], some .int⟩ := by decide +kernel
abbrev R10 : Room := { frames := 0, cells := 0, slots := 0, locals := 0 }
abbrev P10 (s : St) (r : Int32) : Option Value → List OwnC → Prop := fun v H' => v = some (.int r) ∧ H' = (Hb 0 s)
abbrev W10 (l : Launch) (Z : State) (n0 : Nat) := WP l Z CN lay "FatPointerC" "valAt" prog_1_method_17_code 2 (some FieldType.int) R10 n0 0
def f_valAt_12 (s : St) : Option (Int32) :=
 some (0 : Int32)
theorem ok10_12 (hw : HW a0 Z) (n0 : Nat) (s : St) (r : Int32) (h : f_valAt_12 s = some r) : W10 l Z n0 (P10 s r) 0 0 12 [vU,vU] [] (Hb 0 s) := by
 unfold f_valAt_12 at h
 refine xB 0 (D10 6) rfl ?_
 cases h
 exact xK (D10 7) rfl (leb rfl) (leb rfl) ⟨rfl, rfl⟩
def f_valAt (p1 : Int32) (s : St) : Option (Int32) :=
 if p1 < 0 then
  f_valAt_12 s
 else
  if p1 < (gI s 2) then
   (rd (gA s 1) p1).bind fun x3 =>
   some x3
  else
   f_valAt_12 s
theorem ok10 (hw : HW a0 Z) (p1 : Int32) (s : St) (r : Int32) (h : f_valAt p1 s = some r) : CS l Z CN lay y10 prog_1_method_17_code 2 (some FieldType.int) R10 0 [.ref 0, .int p1] (Hb 0 s) (P10 s r) := by
 refine CS.of_wp pn_cls (leb rfl) fun n0 => ?_
 show W10 l Z n0 (P10 s r) 0 0 0 [vR 0,vI p1] [] (Hb 0 s)
 unfold f_valAt at h
 refine xC (D10 0) rfl ?_
 rcases ite_e h with ⟨hc1, h⟩ | ⟨hc1, h⟩
 ·
  exact xL (pc' := 12) (D10 1) (XT.i0_lt_t hc1) (by decide) rfl (xE (L' := [vU,vU]) trivial (ok10_12 hw n0 s _ h))
 ·
  refine xM (D10 1) (XT.i0_lt_f hc1) (xC (D10 2) rfl (xA (D10 3) rfl (xD (i := 0) (j := 2) (D10 4) (m108 hw) rfl rfl rfl ?_)))
  rcases ite_e h with ⟨hc2, h⟩ | ⟨hc2, h⟩
  ·
   refine xI (pc' := 14) (D10 5) (XT.ii_lt_t hc2) (by decide) rfl (xA (D10 8) rfl (xD (i := 0) (j := 4) (D10 9) (m12 hw) rfl rfl rfl (xC (D10 10) rfl ?_)))
   obtain ⟨x3, hx3, h⟩ := bd h
   refine xN (i := 2) (D10 11) rfl hx3 ?_
   cases h
   exact xK (D10 12) rfl (leb rfl) (leb rfl) ⟨rfl, rfl⟩
  ·
   exact xJ (D10 5) (XT.ii_lt_f hc2) (xE (L' := [vU,vU]) trivial (ok10_12 hw n0 s _ h))
def D14 := dA k24 (0,.aload_n 0,1) [(1,.getfield 180,3),(4,.ifCond .ne 4,3),(7,.return_,1),(8,.aload_n 0,1),(9,.getfield 202,3),(12,.bipush 8,2),(14,.imul,1),(15,.iload_n 1,1),(16,.bipush 7,2),(18,.iand,1),(19,.iadd,1),(20,.istore 4,2),(22,.aload_n 0,1),(23,.getfield 29,3),(26,.aload_n 0,1),(27,.getfield 202,3),(30,.iaload,1),(31,.istore 5,2),(33,.aload_n 0,1),(34,.getfield 38,3),(37,.iload 4,2),(39,.iaload,1),(40,.ifCond .ge 10,3),(43,.iload 5,2),(45,.bipush 8,2),(47,.if_icmp .lt 9,3),(50,.aload_n 0,1),(51,.iconst 0,1),(52,.putfield 180,3),(55,.return_,1),(56,.aload_n 0,1),(57,.getfield 38,3),(60,.iload 4,2),(62,.iload 5,2),(64,.iastore,1),(65,.aload_n 0,1),(66,.getfield 41,3),(69,.iload 4,2),(71,.iload_n 3,1),(72,.bastore,1),(73,.aload_n 0,1),(74,.getfield 44,3),(77,.aload_n 0,1),(78,.getfield 202,3),(81,.bipush 8,2),(83,.imul,1),(84,.iload 5,2),(86,.iadd,1),(87,.iload_n 2,1),(88,.iastore,1),(89,.aload_n 0,1),(90,.getfield 29,3),(93,.aload_n 0,1),(94,.getfield 202,3),(97,.iload 5,2),(99,.iconst 1,1),(100,.iadd,1),(101,.iastore,1),(102,.aload_n 0,1),(103,.getfield 32,3),(106,.aload_n 0,1),(107,.getfield 202,3),(110,.dup2,1),(111,.iaload,1),(112,.iload_n 2,1),(113,.iadd,1),(114,.iastore,1),(115,.return_,1)] (by decide +kernel)
abbrev y14 : MethodName := ⟨"FatPointerC", "addName", "(IIZ)V"⟩
theorem hy14 : y14.cls ≠ "java/lang/invoke/MethodHandle" ∧ y14.cls ≠ "java/lang/invoke/VarHandle" := by decide
theorem pd14 : parseMethodDescriptor y14.desc = some ⟨[.int, .int, .boolean], none⟩ := by decide +kernel
abbrev R14 : Room := { frames := 0, cells := 0, slots := 0, locals := 0 }
abbrev P14 (r : St) : Option Value → List OwnC → Prop := fun v H' => v = none ∧ H' = (Hb 0 r)
abbrev W14 (l : Launch) (Z : State) (n0 : Nat) := WP l Z CN lay "FatPointerC" "addName" prog_1_method_26_code 6 (none) R14 n0 0
def f_addName_50 (s : St) : Option (St) :=
 lt (sI s 12 (0 : Int32)) fun s1 =>
 some s1
theorem ok14_50 (hw : HW a0 Z) (n0 : Nat) (s r : St) (h : f_addName_50 s = some r) : W14 l Z n0 (P14 r) 0 0 50 [vR 0,vU,vU,vU,vU,vU] [] (Hb 0 s) := by
 unfold f_addName_50 at h
 refine xA (D14 27) rfl (xB 0 (D14 28) rfl ?_)
 obtain ⟨s1, es1, h⟩ := lt_e h
 refine yD (i := 0) (j := 27) (H' := (Hb 0 s1)) (D14 29) (m126 hw) (Or.inl (m127 hw)) (m1 hw) (hlay hw) rfl rfl rfl (leb rfl) (by subst es1; rfl) ?_
 cases h
 exact xS (D14 30) rfl (leb rfl) (leb rfl) ⟨rfl, rfl⟩
def f_addName (p1 p2 p3 : Int32) (s : St) : Option (St) :=
 if (gI s 12) = 0 then
  some s
 else
  lt (((gI s 13) * (8 : Int32)) + (p1 &&& (7 : Int32))) fun x2 =>
  (rd (gA s 6) (gI s 13)).bind fun x3 =>
  (rd (gA s 9) x2).bind fun x4 =>
  if x4 < 0 then
   if x3 < (8 : Int32) then
    (wrA s 9 x2 x3).bind fun s7 =>
    (wrA s7 10 x2 (p3 &&& 1)).bind fun s8 =>
    (wrA s8 11 (((gI s8 13) * (8 : Int32)) + x3) p2).bind fun s9 =>
    (wrA s9 6 (gI s9 13) (x3 + (1 : Int32))).bind fun s10 =>
    (rd (gA s10 7) (gI s10 13)).bind fun x11 =>
    (wrA s10 7 (gI s10 13) (x11 + p2)).bind fun s12 =>
    some s12
   else
    f_addName_50 s
  else
   f_addName_50 s
theorem ok14 (hw : HW a0 Z) (p1 p2 p3 : Int32) (s r : St) (h : f_addName p1 p2 p3 s = some r) : CS l Z CN lay y14 prog_1_method_26_code 6 (none) R14 0 [.ref 0, .int p1, .int p2, .int p3] (Hb 0 s) (P14 r) := by
 refine CS.of_wp pn_cls (leb rfl) fun n0 => ?_
 show W14 l Z n0 (P14 r) 0 0 0 [vR 0,vI p1,vI p2,vI p3,vU,vU] [] (Hb 0 s)
 unfold f_addName at h
 refine xA (D14 0) rfl (xD (i := 0) (j := 27) (D14 1) (m126 hw) rfl rfl rfl ?_)
 rcases ite_e h with ⟨hc1, h⟩ | ⟨hc1, h⟩
 ·
  refine xM (D14 2) (XT.i0_ne_f hc1) ?_
  cases h
  exact xS (D14 3) rfl (leb rfl) (leb rfl) ⟨rfl, rfl⟩
 ·
  refine xL (pc' := 8) (D14 2) (XT.i0_ne_t hc1) (by decide) rfl (xA (D14 4) rfl (xD (i := 0) (j := 28) (D14 5) (m146 hw) rfl rfl rfl (xG 8 (D14 6) rfl (yI (D14 7) (xC (D14 8) rfl (xG 7 (D14 9) rfl (xW (D14 10) (xO (D14 11) ?_))))))))
  obtain ⟨x2, ex2, h⟩ := lt_e h
  refine xR (L' := [vR 0,vI p1,vI p2,vI p3,vI x2,vU]) (D14 12) (leb rfl) (by subst ex2; rfl) (xA (D14 13) rfl (xD (i := 0) (j := 17) (D14 14) (m23 hw) rfl rfl rfl (xA (D14 15) rfl (xD (i := 0) (j := 28) (D14 16) (m146 hw) rfl rfl rfl ?_))))
  obtain ⟨x3, hx3, h⟩ := bd h
  refine xN (i := 7) (D14 17) rfl hx3 (xR (L' := [vR 0,vI p1,vI p2,vI p3,vI x2,vI x3]) (D14 18) (leb rfl) rfl (xA (D14 19) rfl (xD (i := 0) (j := 20) (D14 20) (m29 hw) rfl rfl rfl (xH (D14 21) rfl ?_))))
  obtain ⟨x4, hx4, h⟩ := bd h
  refine xN (i := 10) (D14 22) rfl hx4 ?_
  rcases ite_e h with ⟨hc5, h⟩ | ⟨hc5, h⟩
  ·
   refine xM (D14 23) (XT.i0_ge_f hc5) (xH (D14 24) rfl (xG 8 (D14 25) rfl ?_))
   rcases ite_e h with ⟨hc6, h⟩ | ⟨hc6, h⟩
   ·
    refine xI (pc' := 56) (D14 26) (XT.ii_lt_t hc6) (by decide) rfl (xA (D14 31) rfl (xD (i := 0) (j := 20) (D14 32) (m29 hw) rfl rfl rfl (xH (D14 33) rfl (xH (D14 34) rfl ?_))))
    obtain ⟨s7, hs7, h⟩ := bd h
    obtain ⟨ys7, gs7, es7⟩ := wrA_e hs7
    refine xU (i := 10) (xs := gA s 9) (H' := (Hb 0 s7)) (D14 35) rfl (leb rfl) gs7 (by subst es7; rfl) (xA (D14 36) rfl (xD (i := 0) (j := 21) (D14 37) (m31 hw) rfl rfl rfl (xH (D14 38) rfl (xC (D14 39) rfl ?_))))
    obtain ⟨s8, hs8, h⟩ := bd h
    obtain ⟨ys8, gs8, es8⟩ := wrA_e hs8
    refine yS (i := 11) (xs := gA s7 10) (H' := (Hb 0 s8)) (D14 40) rfl (leb rfl) gs8 (by subst es8; rfl) (xA (D14 41) rfl (xD (i := 0) (j := 22) (D14 42) (m33 hw) rfl rfl rfl (xA (D14 43) rfl (xD (i := 0) (j := 28) (D14 44) (m146 hw) rfl rfl rfl (xG 8 (D14 45) rfl (yI (D14 46) (xH (D14 47) rfl (xO (D14 48) (xC (D14 49) rfl ?_)))))))))
    obtain ⟨s9, hs9, h⟩ := bd h
    obtain ⟨ys9, gs9, es9⟩ := wrA_e hs9
    refine xU (i := 12) (xs := gA s8 11) (H' := (Hb 0 s9)) (D14 50) rfl (leb rfl) gs9 (by subst es9; rfl) (xA (D14 51) rfl (xD (i := 0) (j := 17) (D14 52) (m23 hw) rfl rfl rfl (xA (D14 53) rfl (xD (i := 0) (j := 28) (D14 54) (m146 hw) rfl rfl rfl (xH (D14 55) rfl (xB 1 (D14 56) rfl (xO (D14 57) ?_)))))))
    obtain ⟨s10, hs10, h⟩ := bd h
    obtain ⟨ys10, gs10, es10⟩ := wrA_e hs10
    refine xU (i := 7) (xs := gA s9 6) (H' := (Hb 0 s10)) (D14 58) rfl (leb rfl) gs10 (by subst es10; rfl) (xA (D14 59) rfl (xD (i := 0) (j := 18) (D14 60) (m25 hw) rfl rfl rfl (xA (D14 61) rfl (xD (i := 0) (j := 28) (D14 62) (m146 hw) rfl rfl rfl (WP.dup2 (D14 63) rfl rfl ?_)))))
    obtain ⟨x11, hx11, h⟩ := bd h
    refine xN (i := 8) (D14 64) rfl hx11 (xC (D14 65) rfl (xO (D14 66) ?_))
    obtain ⟨s12, hs12, h⟩ := bd h
    obtain ⟨ys12, gs12, es12⟩ := wrA_e hs12
    refine xU (i := 8) (xs := gA s10 7) (H' := (Hb 0 s12)) (D14 67) rfl (leb rfl) gs12 (by subst es12; rfl) ?_
    cases h
    exact xS (D14 68) rfl (leb rfl) (leb rfl) ⟨rfl, rfl⟩
   ·
    exact xJ (D14 26) (XT.ii_lt_f hc6) (xE (L' := [vR 0,vU,vU,vU,vU,vU]) ⟨rfl, trivial⟩ (ok14_50 hw n0 s _ h))
  ·
   exact xL (pc' := 50) (D14 23) (XT.i0_ge_t hc5) (by decide) rfl (xE (L' := [vR 0,vU,vU,vU,vU,vU]) ⟨rfl, trivial⟩ (ok14_50 hw n0 s _ h))
def D11 := dA k20 (0,.aload_n 0,1) [(1,.getfield 180,3),(4,.ifCond .eq 15,3),(7,.aload_n 0,1),(8,.aload_n 0,1),(9,.getfield 183,3),(12,.invokevirtual 192,3),(15,.iconst 2,1),(16,.if_icmp .eq 4,3),(19,.return_,1),(20,.iconst 0,1),(21,.istore_n 1,1),(22,.iload_n 1,1),(23,.bipush 9,2),(25,.if_icmp .ge 95,3),(28,.aload_n 0,1),(29,.getfield 180,3),(32,.ifCond .eq 88,3),(35,.aload_n 0,1),(36,.aload_n 0,1),(37,.getfield 183,3),(40,.invokevirtual 192,3),(43,.iconst 2,1),(44,.if_icmp .eq 9,3),(47,.aload_n 0,1),(48,.iconst 0,1),(49,.putfield 180,3),(52,.return_,1),(53,.aload_n 0,1),(54,.aload_n 0,1),(55,.aload_n 0,1),(56,.getfield 183,3),(59,.invokevirtual 199,3),(62,.iconst 1,1),(63,.iconst 0,1),(64,.invokevirtual 214,3),(67,.aload_n 0,1),(68,.getfield 26,3),(71,.aload_n 0,1),(72,.getfield 202,3),(75,.dup2,1),(76,.iaload,1),(77,.iconst 1,1),(78,.iadd,1),(79,.iastore,1),(80,.aload_n 0,1),(81,.dup,1),(82,.getfield 183,3),(85,.iconst 1,1),(86,.iadd,1),(87,.putfield 183,3),(90,.aload_n 0,1),(91,.aload_n 0,1),(92,.getfield 183,3),(95,.invokevirtual 192,3),(98,.bipush 18,2),(100,.if_icmp .eq 4,3),(103,.return_,1),(104,.aload_n 0,1),(105,.dup,1),(106,.getfield 183,3),(109,.iconst 1,1),(110,.iadd,1),(111,.putfield 183,3),(114,.iinc 1 1,3),(117,.goto (-95),3),(120,.return_,1)] (by decide +kernel)
abbrev y11 : MethodName := ⟨"FatPointerC", "parseParams", "()V"⟩
theorem hy11 : y11.cls ≠ "java/lang/invoke/MethodHandle" ∧ y11.cls ≠ "java/lang/invoke/VarHandle" := by decide
theorem pd11 : parseMethodDescriptor y11.desc = some ⟨[], none⟩ := by decide +kernel
abbrev R11 : Room := { frames := 1, cells := 0, slots := 0, locals := 17 }
abbrev P11 (r : St) : Option Value → List OwnC → Prop := fun v H' => v = none ∧ H' = (Hb 0 r)
abbrev W11 (l : Launch) (Z : State) (n0 : Nat) := WP l Z CN lay "FatPointerC" "parseParams" prog_1_method_22_code 2 (none) R11 n0 0
def f_parseParams_19 (n : Nat) (s : St) : Option (St) :=
 some s
theorem ok11_19 (hw : HW a0 Z) (n0 n : Nat) (s r : St) (h : f_parseParams_19 n s = some r) : W11 l Z n0 (P11 r) 0 0 19 [vU,vU] [] (Hb 0 s) := by
 unfold f_parseParams_19 at h
 cases h
 exact xS (D11 9) rfl (leb rfl) (leb rfl) ⟨rfl, rfl⟩
def f_parseParams_120 (n : Nat) (s : St) : Option (St) :=
 some s
theorem ok11_120 (hw : HW a0 Z) (n0 n : Nat) (s r : St) (h : f_parseParams_120 n s = some r) : W11 l Z n0 (P11 r) 0 0 120 [vU,vU] [] (Hb 0 s) := by
 unfold f_parseParams_120 at h
 cases h
 exact xS (D11 66) rfl (leb rfl) (leb rfl) ⟨rfl, rfl⟩
def g_parseParams_22 (k22 : KT0) (n : Nat) (v1 : Int32) (s : St) : Option (St) :=
 if v1 < (9 : Int32) then
  if (gI s 12) = 0 then
   f_parseParams_120 n s
  else
   (f_kindAt (gI s 11) s).bind fun c3 =>
   if c3 = (2 : Int32) then
    (f_valAt (gI s 11) s).bind fun c5 =>
    (f_addName c5 (1 : Int32) (0 : Int32) s).bind fun c6 =>
    (rd (gA c6 5) (gI c6 13)).bind fun x7 =>
    (wrA c6 5 (gI c6 13) (x7 + (1 : Int32))).bind fun s8 =>
    lt (sI s8 11 ((gI s8 11) + (1 : Int32))) fun s9 =>
    (f_kindAt (gI s9 11) s9).bind fun c10 =>
    if c10 = (18 : Int32) then
     lt (sI s9 11 ((gI s9 11) + (1 : Int32))) fun s12 =>
     lt (v1 + (1 : Int32)) fun x13 =>
     k22 x13 s12
    else
     some s9
   else
    lt (sI s 12 (0 : Int32)) fun s14 =>
    some s14
 else
  f_parseParams_120 n s
abbrev HK11_22 (l : Launch) (Z : State) (n0 : Nat) (k22 : KT0) : Prop := ∀ (v1 : Int32) (s r : St), k22 v1 s = some r → W11 l Z n0 (P11 r) 0 0 22 [vR 0,vI v1] [] (Hb 0 s)
theorem okg11_22 (hw : HW a0 Z) (n0 : Nat) (k22 : KT0) (hk22 : HK11_22 l Z n0 k22) (n : Nat) (v1 : Int32) (s r : St) (h : g_parseParams_22 k22 n v1 s = some r) : W11 l Z n0 (P11 r) 0 0 22 [vR 0,vI v1] [] (Hb 0 s) := by
 unfold g_parseParams_22 at h
 refine xC (D11 12) rfl (xG 9 (D11 13) rfl ?_)
 rcases ite_e h with ⟨hc1, h⟩ | ⟨hc1, h⟩
 ·
  refine xJ (D11 14) (XT.ii_ge_f hc1) (xA (D11 15) rfl (xD (i := 0) (j := 27) (D11 16) (m126 hw) rfl rfl rfl ?_))
  rcases ite_e h with ⟨hc2, h⟩ | ⟨hc2, h⟩
  ·
   exact xL (pc' := 120) (D11 17) (XT.i0_eq_t hc2) (by decide) rfl (xE (L' := [vU,vU]) trivial (ok11_120 hw n0 n s _ h))
  ·
   refine xM (D11 17) (XT.i0_eq_f hc2) (xA (D11 18) rfl (xA (D11 19) rfl (xD (i := 0) (j := 26) (D11 20) (m128 hw) rfl rfl rfl ?_)))
   obtain ⟨c3, hc3, h⟩ := bd h
   refine xF (i := 0) (y := y9) (as := [.int (gI s 11)]) (S := []) (D11 21) (m138 hw) (m140 hw) (m1 hw) (m139 hw) (m141 hw) (m2 hw) hy9 rfl (ok9 hw (gI s 11) s _ hc3) rfl (lenOf pd9 rfl) (leb rfl) (leb rfl) (leb rfl) (leb rfl) ?_
   rintro _ _ ⟨rfl, rfl⟩
   show W11 l Z n0 (P11 r) 0 0 43 [vR 0,vI v1] [.int c3] (Hb 0 s)
   refine xB 2 (D11 22) rfl ?_
   rcases ite_e h with ⟨hc4, h⟩ | ⟨hc4, h⟩
   ·
    refine xI (pc' := 53) (D11 23) (XT.ii_eq_t hc4) (by decide) rfl (xA (D11 28) rfl (xA (D11 29) rfl (xA (D11 30) rfl (xD (i := 0) (j := 26) (D11 31) (m128 hw) rfl rfl rfl ?_))))
    obtain ⟨c5, hc5, h⟩ := bd h
    refine xF (i := 0) (y := y10) (as := [.int (gI s 11)]) (S := [.ref 0]) (D11 32) (m142 hw) (m144 hw) (m1 hw) (m143 hw) (m145 hw) (m2 hw) hy10 rfl (ok10 hw (gI s 11) s _ hc5) rfl (lenOf pd10 rfl) (leb rfl) (leb rfl) (leb rfl) (leb rfl) ?_
    rintro _ _ ⟨rfl, rfl⟩
    show W11 l Z n0 (P11 r) 0 0 62 [vR 0,vI v1] [.int c5, .ref 0] (Hb 0 s)
    refine xB 1 (D11 33) rfl (xB 0 (D11 34) rfl ?_)
    obtain ⟨c6, hc6, h⟩ := bd h
    refine xF (i := 0) (y := y14) (as := [.int c5, .int (1 : Int32), oN]) (S := []) (D11 35) (m160 hw) (m162 hw) (m1 hw) (m161 hw) (m163 hw) (m2 hw) hy14 rfl (ok14 hw c5 (1 : Int32) (0 : Int32) s _ hc6) rfl (lenOf pd14 rfl) (leb rfl) (leb rfl) (leb rfl) (leb rfl) ?_
    rintro _ _ ⟨rfl, rfl⟩
    show W11 l Z n0 (P11 r) 0 0 67 [vR 0,vI v1] [] (Hb 0 c6)
    refine xA (D11 36) rfl (xD (i := 0) (j := 16) (D11 37) (m21 hw) rfl rfl rfl (xA (D11 38) rfl (xD (i := 0) (j := 28) (D11 39) (m146 hw) rfl rfl rfl (WP.dup2 (D11 40) rfl rfl ?_))))
    obtain ⟨x7, hx7, h⟩ := bd h
    refine xN (i := 6) (D11 41) rfl hx7 (xB 1 (D11 42) rfl (xO (D11 43) ?_))
    obtain ⟨s8, hs8, h⟩ := bd h
    obtain ⟨ys8, gs8, es8⟩ := wrA_e hs8
    refine xU (i := 6) (xs := gA c6 5) (H' := (Hb 0 s8)) (D11 44) rfl (leb rfl) gs8 (by subst es8; rfl) (xA (D11 45) rfl (yA (D11 46) rfl (xD (i := 0) (j := 26) (D11 47) (m128 hw) rfl rfl rfl (xB 1 (D11 48) rfl (xO (D11 49) ?_)))))
    obtain ⟨s9, es9, h⟩ := lt_e h
    refine xT (i := 0) (j := 26) (H' := (Hb 0 s9)) (D11 50) (m128 hw) (Or.inl (m129 hw)) (m1 hw) (hlay hw) rfl rfl rfl (leb rfl) (by subst es9; rfl) (xA (D11 51) rfl (xA (D11 52) rfl (xD (i := 0) (j := 26) (D11 53) (m128 hw) rfl rfl rfl ?_)))
    obtain ⟨c10, hc10, h⟩ := bd h
    refine xF (i := 0) (y := y9) (as := [.int (gI s9 11)]) (S := []) (D11 54) (m138 hw) (m140 hw) (m1 hw) (m139 hw) (m141 hw) (m2 hw) hy9 rfl (ok9 hw (gI s9 11) s9 _ hc10) rfl (lenOf pd9 rfl) (leb rfl) (leb rfl) (leb rfl) (leb rfl) ?_
    rintro _ _ ⟨rfl, rfl⟩
    show W11 l Z n0 (P11 r) 0 0 98 [vR 0,vI v1] [.int c10] (Hb 0 s9)
    refine xG 18 (D11 55) rfl ?_
    rcases ite_e h with ⟨hc11, h⟩ | ⟨hc11, h⟩
    ·
     refine xI (pc' := 104) (D11 56) (XT.ii_eq_t hc11) (by decide) rfl (xA (D11 58) rfl (yA (D11 59) rfl (xD (i := 0) (j := 26) (D11 60) (m128 hw) rfl rfl rfl (xB 1 (D11 61) rfl (xO (D11 62) ?_)))))
     obtain ⟨s12, es12, h⟩ := lt_e h
     refine xT (i := 0) (j := 26) (H' := (Hb 0 s12)) (D11 63) (m128 hw) (Or.inl (m129 hw)) (m1 hw) (hlay hw) rfl rfl rfl (leb rfl) (by subst es12; rfl) ?_
     obtain ⟨x13, ex13, h⟩ := lt_e h
     exact yC (L' := [vR 0,vI x13]) (1 : Int32) (D11 64) rfl rfl (by subst ex13; rfl) (xV (pc' := 22) (D11 65) (by decide) rfl (xE (L' := [vR 0,vI x13]) ⟨rfl, rfl, trivial⟩ (hk22 x13 s12 _ h)))
    ·
     refine xJ (D11 56) (XT.ii_eq_f hc11) ?_
     cases h
     exact xS (D11 57) rfl (leb rfl) (leb rfl) ⟨rfl, rfl⟩
   ·
    refine xJ (D11 23) (XT.ii_eq_f hc4) (xA (D11 24) rfl (xB 0 (D11 25) rfl ?_))
    obtain ⟨s14, es14, h⟩ := lt_e h
    refine yD (i := 0) (j := 27) (H' := (Hb 0 s14)) (D11 26) (m126 hw) (Or.inl (m127 hw)) (m1 hw) (hlay hw) rfl rfl rfl (leb rfl) (by subst es14; rfl) ?_
    cases h
    exact xS (D11 27) rfl (leb rfl) (leb rfl) ⟨rfl, rfl⟩
 ·
  exact xI (pc' := 120) (D11 14) (XT.ii_ge_t hc1) (by decide) rfl (xE (L' := [vU,vU]) trivial (ok11_120 hw n0 n s _ h))
def f_parseParams_22 : Nat → Int32 → St → Option (St)
 | 0 => fun _ _ => none
 | n + 1 => g_parseParams_22 (f_parseParams_22 n) n
theorem ok11_22 (hw : HW a0 Z) (n0 : Nat) : ∀ (n : Nat) (v1 : Int32) (s r : St), f_parseParams_22 n v1 s = some r → W11 l Z n0 (P11 r) 0 0 22 [vR 0,vI v1] [] (Hb 0 s)
 | 0, v1, s, r, h => nomatch (show none = some r from h)
 | n + 1, v1, s, r, h => okg11_22 hw n0 _ (ok11_22 hw n0 n) n v1 s r h
def f_parseParams (n : Nat) (s : St) : Option (St) :=
 if (gI s 12) = 0 then
  f_parseParams_19 n s
 else
  (f_kindAt (gI s 11) s).bind fun c2 =>
  if c2 = (2 : Int32) then
   f_parseParams_22 n (0 : Int32) s
  else
   f_parseParams_19 n s
theorem ok11 (hw : HW a0 Z) (n : Nat) (s r : St) (h : f_parseParams n s = some r) : CS l Z CN lay y11 prog_1_method_22_code 2 (none) R11 0 [.ref 0] (Hb 0 s) (P11 r) := by
 refine CS.of_wp pn_cls (leb rfl) fun n0 => ?_
 show W11 l Z n0 (P11 r) 0 0 0 [vR 0,vU] [] (Hb 0 s)
 unfold f_parseParams at h
 refine xA (D11 0) rfl (xD (i := 0) (j := 27) (D11 1) (m126 hw) rfl rfl rfl ?_)
 rcases ite_e h with ⟨hc1, h⟩ | ⟨hc1, h⟩
 ·
  exact xL (pc' := 19) (D11 2) (XT.i0_eq_t hc1) (by decide) rfl (xE (L' := [vU,vU]) trivial (ok11_19 hw n0 n s _ h))
 ·
  refine xM (D11 2) (XT.i0_eq_f hc1) (xA (D11 3) rfl (xA (D11 4) rfl (xD (i := 0) (j := 26) (D11 5) (m128 hw) rfl rfl rfl ?_)))
  obtain ⟨c2, hc2, h⟩ := bd h
  refine xF (i := 0) (y := y9) (as := [.int (gI s 11)]) (S := []) (D11 6) (m138 hw) (m140 hw) (m1 hw) (m139 hw) (m141 hw) (m2 hw) hy9 rfl (ok9 hw (gI s 11) s _ hc2) rfl (lenOf pd9 rfl) (leb rfl) (leb rfl) (leb rfl) (leb rfl) ?_
  rintro _ _ ⟨rfl, rfl⟩
  show W11 l Z n0 (P11 r) 0 0 15 [vR 0,vU] [.int c2] (Hb 0 s)
  refine xB 2 (D11 7) rfl ?_
  rcases ite_e h with ⟨hc3, h⟩ | ⟨hc3, h⟩
  ·
   exact xI (pc' := 20) (D11 8) (XT.ii_eq_t hc3) (by decide) rfl (xB 0 (D11 10) rfl (xP (L' := [vR 0,vI 0]) (D11 11) (leb rfl) rfl (xE (L' := [vR 0,vI 0]) ⟨rfl, rfl, trivial⟩ (ok11_22 hw n0 n (0 : Int32) s _ h))))
  ·
   exact xJ (D11 8) (XT.ii_eq_f hc3) (xE (L' := [vU,vU]) trivial (ok11_19 hw n0 n s _ h))
def D13 := dA k22 (0,.aload_n 0,1) [(1,.getfield 180,3),(4,.ifCond .ne 5,3),(7,.iconst 0,1),(8,.ireturn,1),(9,.aload_n 0,1),(10,.aload_n 0,1),(11,.getfield 183,3),(14,.invokevirtual 192,3),(17,.iconst 2,1),(18,.if_icmp .eq 10,3),(21,.aload_n 0,1),(22,.iconst 0,1),(23,.putfield 180,3),(26,.iconst 0,1),(27,.ireturn,1),(28,.aload_n 0,1),(29,.aload_n 0,1),(30,.getfield 183,3),(33,.invokevirtual 199,3),(36,.bipush 7,2),(38,.iand,1),(39,.istore_n 1,1),(40,.aload_n 0,1),(41,.dup,1),(42,.getfield 183,3),(45,.iconst 1,1),(46,.iadd,1),(47,.putfield 183,3),(50,.iload_n 1,1),(51,.ireturn,1)] (by decide +kernel)
abbrev y13 : MethodName := ⟨"FatPointerC", "declName", "()I"⟩
theorem hy13 : y13.cls ≠ "java/lang/invoke/MethodHandle" ∧ y13.cls ≠ "java/lang/invoke/VarHandle" := by decide
theorem pd13 : parseMethodDescriptor y13.desc = some ⟨[], some .int⟩ := by decide +kernel
abbrev R13 : Room := { frames := 1, cells := 0, slots := 0, locals := 13 }
abbrev P13 (r : Int32 × St) : Option Value → List OwnC → Prop := fun v H' => v = some (.int r.1) ∧ H' = (Hb 0 r.2)
abbrev W13 (l : Launch) (Z : State) (n0 : Nat) := WP l Z CN lay "FatPointerC" "declName" prog_1_method_24_code 2 (some FieldType.int) R13 n0 0
def f_declName (s : St) : Option (Int32 × St) :=
 if (gI s 12) = 0 then
  some ((0 : Int32), s)
 else
  (f_kindAt (gI s 11) s).bind fun c2 =>
  if c2 = (2 : Int32) then
   (f_valAt (gI s 11) s).bind fun c4 =>
   lt (c4 &&& (7 : Int32)) fun x5 =>
   lt (sI s 11 ((gI s 11) + (1 : Int32))) fun s6 =>
   some (x5, s6)
  else
   lt (sI s 12 (0 : Int32)) fun s7 =>
   some ((0 : Int32), s7)
theorem ok13 (hw : HW a0 Z) (s : St) (r : Int32 × St) (h : f_declName s = some r) : CS l Z CN lay y13 prog_1_method_24_code 2 (some FieldType.int) R13 0 [.ref 0] (Hb 0 s) (P13 r) := by
 refine CS.of_wp pn_cls (leb rfl) fun n0 => ?_
 show W13 l Z n0 (P13 r) 0 0 0 [vR 0,vU] [] (Hb 0 s)
 unfold f_declName at h
 refine xA (D13 0) rfl (xD (i := 0) (j := 27) (D13 1) (m126 hw) rfl rfl rfl ?_)
 rcases ite_e h with ⟨hc1, h⟩ | ⟨hc1, h⟩
 ·
  refine xM (D13 2) (XT.i0_ne_f hc1) (xB 0 (D13 3) rfl ?_)
  cases h
  exact xK (D13 4) rfl (leb rfl) (leb rfl) ⟨rfl, rfl⟩
 ·
  refine xL (pc' := 9) (D13 2) (XT.i0_ne_t hc1) (by decide) rfl (xA (D13 5) rfl (xA (D13 6) rfl (xD (i := 0) (j := 26) (D13 7) (m128 hw) rfl rfl rfl ?_)))
  obtain ⟨c2, hc2, h⟩ := bd h
  refine xF (i := 0) (y := y9) (as := [.int (gI s 11)]) (S := []) (D13 8) (m138 hw) (m140 hw) (m1 hw) (m139 hw) (m141 hw) (m2 hw) hy9 rfl (ok9 hw (gI s 11) s _ hc2) rfl (lenOf pd9 rfl) (leb rfl) (leb rfl) (leb rfl) (leb rfl) ?_
  rintro _ _ ⟨rfl, rfl⟩
  show W13 l Z n0 (P13 r) 0 0 17 [vR 0,vU] [.int c2] (Hb 0 s)
  refine xB 2 (D13 9) rfl ?_
  rcases ite_e h with ⟨hc3, h⟩ | ⟨hc3, h⟩
  ·
   refine xI (pc' := 28) (D13 10) (XT.ii_eq_t hc3) (by decide) rfl (xA (D13 16) rfl (xA (D13 17) rfl (xD (i := 0) (j := 26) (D13 18) (m128 hw) rfl rfl rfl ?_)))
   obtain ⟨c4, hc4, h⟩ := bd h
   refine xF (i := 0) (y := y10) (as := [.int (gI s 11)]) (S := []) (D13 19) (m142 hw) (m144 hw) (m1 hw) (m143 hw) (m145 hw) (m2 hw) hy10 rfl (ok10 hw (gI s 11) s _ hc4) rfl (lenOf pd10 rfl) (leb rfl) (leb rfl) (leb rfl) (leb rfl) ?_
   rintro _ _ ⟨rfl, rfl⟩
   show W13 l Z n0 (P13 r) 0 0 36 [vR 0,vU] [.int c4] (Hb 0 s)
   refine xG 7 (D13 20) rfl (xW (D13 21) ?_)
   obtain ⟨x5, ex5, h⟩ := lt_e h
   refine xP (L' := [vR 0,vI x5]) (D13 22) (leb rfl) (by subst ex5; rfl) (xA (D13 23) rfl (yA (D13 24) rfl (xD (i := 0) (j := 26) (D13 25) (m128 hw) rfl rfl rfl (xB 1 (D13 26) rfl (xO (D13 27) ?_)))))
   obtain ⟨s6, es6, h⟩ := lt_e h
   refine xT (i := 0) (j := 26) (H' := (Hb 0 s6)) (D13 28) (m128 hw) (Or.inl (m129 hw)) (m1 hw) (hlay hw) rfl rfl rfl (leb rfl) (by subst es6; rfl) (xC (D13 29) rfl ?_)
   cases h
   exact xK (D13 30) rfl (leb rfl) (leb rfl) ⟨rfl, rfl⟩
  ·
   refine xJ (D13 10) (XT.ii_eq_f hc3) (xA (D13 11) rfl (xB 0 (D13 12) rfl ?_))
   obtain ⟨s7, es7, h⟩ := lt_e h
   refine yD (i := 0) (j := 27) (H' := (Hb 0 s7)) (D13 13) (m126 hw) (Or.inl (m127 hw)) (m1 hw) (hlay hw) rfl rfl rfl (leb rfl) (by subst es7; rfl) (xB 0 (D13 14) rfl ?_)
   cases h
   exact xK (D13 15) rfl (leb rfl) (leb rfl) ⟨rfl, rfl⟩
def D15 := dA k23 (0,.aload_n 0,1) [(1,.getfield 180,3),(4,.ifCond .ne 5,3),(7,.iconst 0,1),(8,.ireturn,1),(9,.aload_n 0,1),(10,.aload_n 0,1),(11,.getfield 183,3),(14,.invokevirtual 192,3),(17,.iconst 1,1),(18,.if_icmp .eq 10,3),(21,.aload_n 0,1),(22,.iconst 0,1),(23,.putfield 180,3),(26,.iconst 0,1),(27,.ireturn,1),(28,.aload_n 0,1),(29,.aload_n 0,1),(30,.getfield 183,3),(33,.invokevirtual 199,3),(36,.istore_n 1,1),(37,.iload_n 1,1),(38,.iconst 1,1),(39,.if_icmp .lt 9,3),(42,.iload_n 1,1),(43,.bipush 16,2),(45,.if_icmp .le 10,3),(48,.aload_n 0,1),(49,.iconst 0,1),(50,.putfield 180,3),(53,.iconst 0,1),(54,.ireturn,1),(55,.aload_n 0,1),(56,.dup,1),(57,.getfield 183,3),(60,.iconst 1,1),(61,.iadd,1),(62,.putfield 183,3),(65,.iload_n 1,1),(66,.ireturn,1)] (by decide +kernel)
abbrev y15 : MethodName := ⟨"FatPointerC", "arrSize", "()I"⟩
theorem hy15 : y15.cls ≠ "java/lang/invoke/MethodHandle" ∧ y15.cls ≠ "java/lang/invoke/VarHandle" := by decide
theorem pd15 : parseMethodDescriptor y15.desc = some ⟨[], some .int⟩ := by decide +kernel
abbrev R15 : Room := { frames := 1, cells := 0, slots := 0, locals := 13 }
abbrev P15 (r : Int32 × St) : Option Value → List OwnC → Prop := fun v H' => v = some (.int r.1) ∧ H' = (Hb 0 r.2)
abbrev W15 (l : Launch) (Z : State) (n0 : Nat) := WP l Z CN lay "FatPointerC" "arrSize" prog_1_method_25_code 2 (some FieldType.int) R15 n0 0
def f_arrSize_48 (s : St) : Option (Int32 × St) :=
 lt (sI s 12 (0 : Int32)) fun s1 =>
 some ((0 : Int32), s1)
theorem ok15_48 (hw : HW a0 Z) (n0 : Nat) (s : St) (r : Int32 × St) (h : f_arrSize_48 s = some r) : W15 l Z n0 (P15 r) 0 0 48 [vR 0,vU] [] (Hb 0 s) := by
 unfold f_arrSize_48 at h
 refine xA (D15 27) rfl (xB 0 (D15 28) rfl ?_)
 obtain ⟨s1, es1, h⟩ := lt_e h
 refine yD (i := 0) (j := 27) (H' := (Hb 0 s1)) (D15 29) (m126 hw) (Or.inl (m127 hw)) (m1 hw) (hlay hw) rfl rfl rfl (leb rfl) (by subst es1; rfl) (xB 0 (D15 30) rfl ?_)
 cases h
 exact xK (D15 31) rfl (leb rfl) (leb rfl) ⟨rfl, rfl⟩
def f_arrSize (s : St) : Option (Int32 × St) :=
 if (gI s 12) = 0 then
  some ((0 : Int32), s)
 else
  (f_kindAt (gI s 11) s).bind fun c2 =>
  if c2 = (1 : Int32) then
   (f_valAt (gI s 11) s).bind fun c4 =>
   if c4 < (1 : Int32) then
    f_arrSize_48 s
   else
    if (16 : Int32) < c4 then
     f_arrSize_48 s
    else
     lt (sI s 11 ((gI s 11) + (1 : Int32))) fun s7 =>
     some (c4, s7)
  else
   lt (sI s 12 (0 : Int32)) fun s8 =>
   some ((0 : Int32), s8)
theorem ok15 (hw : HW a0 Z) (s : St) (r : Int32 × St) (h : f_arrSize s = some r) : CS l Z CN lay y15 prog_1_method_25_code 2 (some FieldType.int) R15 0 [.ref 0] (Hb 0 s) (P15 r) := by
 refine CS.of_wp pn_cls (leb rfl) fun n0 => ?_
 show W15 l Z n0 (P15 r) 0 0 0 [vR 0,vU] [] (Hb 0 s)
 unfold f_arrSize at h
 refine xA (D15 0) rfl (xD (i := 0) (j := 27) (D15 1) (m126 hw) rfl rfl rfl ?_)
 rcases ite_e h with ⟨hc1, h⟩ | ⟨hc1, h⟩
 ·
  refine xM (D15 2) (XT.i0_ne_f hc1) (xB 0 (D15 3) rfl ?_)
  cases h
  exact xK (D15 4) rfl (leb rfl) (leb rfl) ⟨rfl, rfl⟩
 ·
  refine xL (pc' := 9) (D15 2) (XT.i0_ne_t hc1) (by decide) rfl (xA (D15 5) rfl (xA (D15 6) rfl (xD (i := 0) (j := 26) (D15 7) (m128 hw) rfl rfl rfl ?_)))
  obtain ⟨c2, hc2, h⟩ := bd h
  refine xF (i := 0) (y := y9) (as := [.int (gI s 11)]) (S := []) (D15 8) (m138 hw) (m140 hw) (m1 hw) (m139 hw) (m141 hw) (m2 hw) hy9 rfl (ok9 hw (gI s 11) s _ hc2) rfl (lenOf pd9 rfl) (leb rfl) (leb rfl) (leb rfl) (leb rfl) ?_
  rintro _ _ ⟨rfl, rfl⟩
  show W15 l Z n0 (P15 r) 0 0 17 [vR 0,vU] [.int c2] (Hb 0 s)
  refine xB 1 (D15 9) rfl ?_
  rcases ite_e h with ⟨hc3, h⟩ | ⟨hc3, h⟩
  ·
   refine xI (pc' := 28) (D15 10) (XT.ii_eq_t hc3) (by decide) rfl (xA (D15 16) rfl (xA (D15 17) rfl (xD (i := 0) (j := 26) (D15 18) (m128 hw) rfl rfl rfl ?_)))
   obtain ⟨c4, hc4, h⟩ := bd h
   refine xF (i := 0) (y := y10) (as := [.int (gI s 11)]) (S := []) (D15 19) (m142 hw) (m144 hw) (m1 hw) (m143 hw) (m145 hw) (m2 hw) hy10 rfl (ok10 hw (gI s 11) s _ hc4) rfl (lenOf pd10 rfl) (leb rfl) (leb rfl) (leb rfl) (leb rfl) ?_
   rintro _ _ ⟨rfl, rfl⟩
   show W15 l Z n0 (P15 r) 0 0 36 [vR 0,vU] [.int c4] (Hb 0 s)
   refine xP (L' := [vR 0,vI c4]) (D15 20) (leb rfl) rfl (xC (D15 21) rfl (xB 1 (D15 22) rfl ?_))
   rcases ite_e h with ⟨hc5, h⟩ | ⟨hc5, h⟩
   ·
    exact xI (pc' := 48) (D15 23) (XT.ii_lt_t hc5) (by decide) rfl (xE (L' := [vR 0,vU]) ⟨rfl, trivial⟩ (ok15_48 hw n0 s _ h))
   ·
    refine xJ (D15 23) (XT.ii_lt_f hc5) (xC (D15 24) rfl (xG 16 (D15 25) rfl ?_))
    rcases ite_e h with ⟨hc6, h⟩ | ⟨hc6, h⟩
    ·
     exact xJ (D15 26) (XT.ii_le_f hc6) (xE (L' := [vR 0,vU]) ⟨rfl, trivial⟩ (ok15_48 hw n0 s _ h))
    ·
     refine xI (pc' := 55) (D15 26) (XT.ii_le_t hc6) (by decide) rfl (xA (D15 32) rfl (yA (D15 33) rfl (xD (i := 0) (j := 26) (D15 34) (m128 hw) rfl rfl rfl (xB 1 (D15 35) rfl (xO (D15 36) ?_)))))
     obtain ⟨s7, es7, h⟩ := lt_e h
     refine xT (i := 0) (j := 26) (H' := (Hb 0 s7)) (D15 37) (m128 hw) (Or.inl (m129 hw)) (m1 hw) (hlay hw) rfl rfl rfl (leb rfl) (by subst es7; rfl) (xC (D15 38) rfl ?_)
     cases h
     exact xK (D15 39) rfl (leb rfl) (leb rfl) ⟨rfl, rfl⟩
  ·
   refine xJ (D15 10) (XT.ii_eq_f hc3) (xA (D15 11) rfl (xB 0 (D15 12) rfl ?_))
   obtain ⟨s8, es8, h⟩ := lt_e h
   refine yD (i := 0) (j := 27) (H' := (Hb 0 s8)) (D15 13) (m126 hw) (Or.inl (m127 hw)) (m1 hw) (hlay hw) rfl rfl rfl (leb rfl) (by subst es8; rfl) (xB 0 (D15 14) rfl ?_)
   cases h
   exact xK (D15 15) rfl (leb rfl) (leb rfl) ⟨rfl, rfl⟩
def D12 := dA k21 (0,.iconst 0,1) [(1,.istore_n 1,1),(2,.iload_n 1,1),(3,.bipush 9,2),(5,.if_icmp .ge 118,3),(8,.aload_n 0,1),(9,.getfield 180,3),(12,.ifCond .eq 111,3),(15,.aload_n 0,1),(16,.aload_n 0,1),(17,.getfield 183,3),(20,.invokevirtual 192,3),(23,.istore_n 2,1),(24,.iload_n 2,1),(25,.iconst 5,1),(26,.if_icmp .ne 34,3),(29,.aload_n 0,1),(30,.dup,1),(31,.getfield 183,3),(34,.iconst 1,1),(35,.iadd,1),(36,.putfield 183,3),(39,.aload_n 0,1),(40,.invokevirtual 218,3),(43,.istore_n 3,1),(44,.aload_n 0,1),(45,.iload_n 3,1),(46,.iconst 1,1),(47,.iconst 0,1),(48,.invokevirtual 214,3),(51,.aload_n 0,1),(52,.bipush 17,2),(54,.invokevirtual 195,3),(57,.goto 60,3),(60,.iload_n 2,1),(61,.bipush 6,2),(63,.if_icmp .ne 53,3),(66,.aload_n 0,1),(67,.dup,1),(68,.getfield 183,3),(71,.iconst 1,1),(72,.iadd,1),(73,.putfield 183,3),(76,.aload_n 0,1),(77,.invokevirtual 218,3),(80,.istore_n 3,1),(81,.aload_n 0,1),(82,.bipush 15,2),(84,.invokevirtual 195,3),(87,.aload_n 0,1),(88,.invokevirtual 222,3),(91,.istore 4,2),(93,.aload_n 0,1),(94,.iload_n 3,1),(95,.iload 4,2),(97,.iconst 1,1),(98,.invokevirtual 214,3),(101,.aload_n 0,1),(102,.bipush 16,2),(104,.invokevirtual 195,3),(107,.aload_n 0,1),(108,.bipush 17,2),(110,.invokevirtual 195,3),(113,.goto 4,3),(116,.return_,1),(117,.iinc 1 1,3),(120,.goto (-118),3),(123,.return_,1)] (by decide +kernel)
abbrev y12 : MethodName := ⟨"FatPointerC", "parseDecls", "()V"⟩
theorem hy12 : y12.cls ≠ "java/lang/invoke/MethodHandle" ∧ y12.cls ≠ "java/lang/invoke/VarHandle" := by decide
theorem pd12 : parseMethodDescriptor y12.desc = some ⟨[], none⟩ := by decide +kernel
abbrev R12 : Room := { frames := 2, cells := 0, slots := 0, locals := 26 }
abbrev P12 (r : St) : Option Value → List OwnC → Prop := fun v H' => v = none ∧ H' = (Hb 0 r)
abbrev W12 (l : Launch) (Z : State) (n0 : Nat) := WP l Z CN lay "FatPointerC" "parseDecls" prog_1_method_23_code 5 (none) R12 n0 0
def f_parseDecls_117 (k2 : KT0) (n : Nat) (v1 : Int32) (s : St) : Option (St) :=
 lt (v1 + (1 : Int32)) fun x1 =>
 k2 x1 s
abbrev HK12_2 (l : Launch) (Z : State) (n0 : Nat) (k2 : KT0) : Prop := ∀ (v1 : Int32) (s r : St), k2 v1 s = some r → W12 l Z n0 (P12 r) 0 0 2 [vR 0,vI v1,vU,vU,vU] [] (Hb 0 s)
theorem ok12_117 (hw : HW a0 Z) (n0 : Nat) (k2 : KT0) (hk2 : HK12_2 l Z n0 k2) (n : Nat) (v1 : Int32) (s r : St) (h : f_parseDecls_117 k2 n v1 s = some r) : W12 l Z n0 (P12 r) 0 0 117 [vR 0,vI v1,vU,vU,vU] [] (Hb 0 s) := by
 unfold f_parseDecls_117 at h
 obtain ⟨x1, ex1, h⟩ := lt_e h
 exact yC (L' := [vR 0,vI x1,vU,vU,vU]) (1 : Int32) (D12 65) rfl rfl (by subst ex1; rfl) (xV (pc' := 2) (D12 66) (by decide) rfl (xE (L' := [vR 0,vI x1,vU,vU,vU]) ⟨rfl, rfl, trivial⟩ (hk2 x1 s _ h)))
def f_parseDecls_123 (n : Nat) (s : St) : Option (St) :=
 some s
theorem ok12_123 (hw : HW a0 Z) (n0 n : Nat) (s r : St) (h : f_parseDecls_123 n s = some r) : W12 l Z n0 (P12 r) 0 0 123 [vU,vU,vU,vU,vU] [] (Hb 0 s) := by
 unfold f_parseDecls_123 at h
 cases h
 exact xS (D12 67) rfl (leb rfl) (leb rfl) ⟨rfl, rfl⟩
def g_parseDecls_2 (k2 : KT0) (n : Nat) (v1 : Int32) (s : St) : Option (St) :=
 if v1 < (9 : Int32) then
  if (gI s 12) = 0 then
   f_parseDecls_123 n s
  else
   (f_kindAt (gI s 11) s).bind fun c3 =>
   if c3 = (5 : Int32) then
    lt (sI s 11 ((gI s 11) + (1 : Int32))) fun s5 =>
    (f_declName s5).bind fun c6 =>
    (f_addName c6.1 (1 : Int32) (0 : Int32) c6.2).bind fun c7 =>
    (f_expect (17 : Int32) c7).bind fun c8 =>
    f_parseDecls_117 k2 n v1 c8
   else
    if c3 = (6 : Int32) then
     lt (sI s 11 ((gI s 11) + (1 : Int32))) fun s10 =>
     (f_declName s10).bind fun c11 =>
     (f_expect (15 : Int32) c11.2).bind fun c12 =>
     (f_arrSize c12).bind fun c13 =>
     (f_addName c11.1 c13.1 (1 : Int32) c13.2).bind fun c14 =>
     (f_expect (16 : Int32) c14).bind fun c15 =>
     (f_expect (17 : Int32) c15).bind fun c16 =>
     f_parseDecls_117 k2 n v1 c16
    else
     some s
 else
  f_parseDecls_123 n s
theorem okg12_2 (hw : HW a0 Z) (n0 : Nat) (k2 : KT0) (hk2 : HK12_2 l Z n0 k2) (n : Nat) (v1 : Int32) (s r : St) (h : g_parseDecls_2 k2 n v1 s = some r) : W12 l Z n0 (P12 r) 0 0 2 [vR 0,vI v1,vU,vU,vU] [] (Hb 0 s) := by
 unfold g_parseDecls_2 at h
 refine xC (D12 2) rfl (xG 9 (D12 3) rfl ?_)
 rcases ite_e h with ⟨hc1, h⟩ | ⟨hc1, h⟩
 ·
  refine xJ (D12 4) (XT.ii_ge_f hc1) (xA (D12 5) rfl (xD (i := 0) (j := 27) (D12 6) (m126 hw) rfl rfl rfl ?_))
  rcases ite_e h with ⟨hc2, h⟩ | ⟨hc2, h⟩
  ·
   exact xL (pc' := 123) (D12 7) (XT.i0_eq_t hc2) (by decide) rfl (xE (L' := [vU,vU,vU,vU,vU]) trivial (ok12_123 hw n0 n s _ h))
  ·
   refine xM (D12 7) (XT.i0_eq_f hc2) (xA (D12 8) rfl (xA (D12 9) rfl (xD (i := 0) (j := 26) (D12 10) (m128 hw) rfl rfl rfl ?_)))
   obtain ⟨c3, hc3, h⟩ := bd h
   refine xF (i := 0) (y := y9) (as := [.int (gI s 11)]) (S := []) (D12 11) (m138 hw) (m140 hw) (m1 hw) (m139 hw) (m141 hw) (m2 hw) hy9 rfl (ok9 hw (gI s 11) s _ hc3) rfl (lenOf pd9 rfl) (leb rfl) (leb rfl) (leb rfl) (leb rfl) ?_
   rintro _ _ ⟨rfl, rfl⟩
   show W12 l Z n0 (P12 r) 0 0 23 [vR 0,vI v1,vU,vU,vU] [.int c3] (Hb 0 s)
   refine xP (L' := [vR 0,vI v1,vI c3,vU,vU]) (D12 12) (leb rfl) rfl (xC (D12 13) rfl (xB 5 (D12 14) rfl ?_))
   rcases ite_e h with ⟨hc4, h⟩ | ⟨hc4, h⟩
   ·
    refine xJ (D12 15) (XT.ii_ne_f hc4) (xA (D12 16) rfl (yA (D12 17) rfl (xD (i := 0) (j := 26) (D12 18) (m128 hw) rfl rfl rfl (xB 1 (D12 19) rfl (xO (D12 20) ?_)))))
    obtain ⟨s5, es5, h⟩ := lt_e h
    refine xT (i := 0) (j := 26) (H' := (Hb 0 s5)) (D12 21) (m128 hw) (Or.inl (m129 hw)) (m1 hw) (hlay hw) rfl rfl rfl (leb rfl) (by subst es5; rfl) (xA (D12 22) rfl ?_)
    obtain ⟨c6, hc6, h⟩ := bd h
    refine xF (i := 0) (y := y13) (as := []) (S := []) (D12 23) (m156 hw) (m158 hw) (m1 hw) (m157 hw) (m159 hw) (m2 hw) hy13 rfl (ok13 hw s5 _ hc6) rfl (lenOf pd13 rfl) (leb rfl) (leb rfl) (leb rfl) (leb rfl) ?_
    rintro _ _ ⟨rfl, rfl⟩
    show W12 l Z n0 (P12 r) 0 0 43 [vR 0,vI v1,vI c3,vU,vU] [.int c6.1] (Hb 0 c6.2)
    refine xP (L' := [vR 0,vI v1,vI c3,vI c6.1,vU]) (D12 24) (leb rfl) rfl (xA (D12 25) rfl (xC (D12 26) rfl (xB 1 (D12 27) rfl (xB 0 (D12 28) rfl ?_))))
    obtain ⟨c7, hc7, h⟩ := bd h
    refine xF (i := 0) (y := y14) (as := [.int c6.1, .int (1 : Int32), oN]) (S := []) (D12 29) (m160 hw) (m162 hw) (m1 hw) (m161 hw) (m163 hw) (m2 hw) hy14 rfl (ok14 hw c6.1 (1 : Int32) (0 : Int32) c6.2 _ hc7) rfl (lenOf pd14 rfl) (leb rfl) (leb rfl) (leb rfl) (leb rfl) ?_
    rintro _ _ ⟨rfl, rfl⟩
    show W12 l Z n0 (P12 r) 0 0 51 [vR 0,vI v1,vI c3,vI c6.1,vU] [] (Hb 0 c7)
    refine xA (D12 30) rfl (xG 17 (D12 31) rfl ?_)
    obtain ⟨c8, hc8, h⟩ := bd h
    refine xF (i := 0) (y := y8) (as := [.int (17 : Int32)]) (S := []) (D12 32) (m134 hw) (m136 hw) (m1 hw) (m135 hw) (m137 hw) (m2 hw) hy8 rfl (ok8 hw (17 : Int32) c7 _ hc8) rfl (lenOf pd8 rfl) (leb rfl) (leb rfl) (leb rfl) (leb rfl) ?_
    rintro _ _ ⟨rfl, rfl⟩
    show W12 l Z n0 (P12 r) 0 0 57 [vR 0,vI v1,vI c3,vI c6.1,vU] [] (Hb 0 c8)
    exact xV (pc' := 117) (D12 33) (by decide) rfl (xE (L' := [vR 0,vI v1,vU,vU,vU]) ⟨rfl, rfl, trivial⟩ (ok12_117 hw n0 _ hk2 n v1 c8 _ h))
   ·
    refine xI (pc' := 60) (D12 15) (XT.ii_ne_t hc4) (by decide) rfl (xC (D12 34) rfl (xG 6 (D12 35) rfl ?_))
    rcases ite_e h with ⟨hc9, h⟩ | ⟨hc9, h⟩
    ·
     refine xJ (D12 36) (XT.ii_ne_f hc9) (xA (D12 37) rfl (yA (D12 38) rfl (xD (i := 0) (j := 26) (D12 39) (m128 hw) rfl rfl rfl (xB 1 (D12 40) rfl (xO (D12 41) ?_)))))
     obtain ⟨s10, es10, h⟩ := lt_e h
     refine xT (i := 0) (j := 26) (H' := (Hb 0 s10)) (D12 42) (m128 hw) (Or.inl (m129 hw)) (m1 hw) (hlay hw) rfl rfl rfl (leb rfl) (by subst es10; rfl) (xA (D12 43) rfl ?_)
     obtain ⟨c11, hc11, h⟩ := bd h
     refine xF (i := 0) (y := y13) (as := []) (S := []) (D12 44) (m156 hw) (m158 hw) (m1 hw) (m157 hw) (m159 hw) (m2 hw) hy13 rfl (ok13 hw s10 _ hc11) rfl (lenOf pd13 rfl) (leb rfl) (leb rfl) (leb rfl) (leb rfl) ?_
     rintro _ _ ⟨rfl, rfl⟩
     show W12 l Z n0 (P12 r) 0 0 80 [vR 0,vI v1,vI c3,vU,vU] [.int c11.1] (Hb 0 c11.2)
     refine xP (L' := [vR 0,vI v1,vI c3,vI c11.1,vU]) (D12 45) (leb rfl) rfl (xA (D12 46) rfl (xG 15 (D12 47) rfl ?_))
     obtain ⟨c12, hc12, h⟩ := bd h
     refine xF (i := 0) (y := y8) (as := [.int (15 : Int32)]) (S := []) (D12 48) (m134 hw) (m136 hw) (m1 hw) (m135 hw) (m137 hw) (m2 hw) hy8 rfl (ok8 hw (15 : Int32) c11.2 _ hc12) rfl (lenOf pd8 rfl) (leb rfl) (leb rfl) (leb rfl) (leb rfl) ?_
     rintro _ _ ⟨rfl, rfl⟩
     show W12 l Z n0 (P12 r) 0 0 87 [vR 0,vI v1,vI c3,vI c11.1,vU] [] (Hb 0 c12)
     refine xA (D12 49) rfl ?_
     obtain ⟨c13, hc13, h⟩ := bd h
     refine xF (i := 0) (y := y15) (as := []) (S := []) (D12 50) (m164 hw) (m166 hw) (m1 hw) (m165 hw) (m167 hw) (m2 hw) hy15 rfl (ok15 hw c12 _ hc13) rfl (lenOf pd15 rfl) (leb rfl) (leb rfl) (leb rfl) (leb rfl) ?_
     rintro _ _ ⟨rfl, rfl⟩
     show W12 l Z n0 (P12 r) 0 0 91 [vR 0,vI v1,vI c3,vI c11.1,vU] [.int c13.1] (Hb 0 c13.2)
     refine xR (L' := [vR 0,vI v1,vI c3,vI c11.1,vI c13.1]) (D12 51) (leb rfl) rfl (xA (D12 52) rfl (xC (D12 53) rfl (xH (D12 54) rfl (xB 1 (D12 55) rfl ?_))))
     obtain ⟨c14, hc14, h⟩ := bd h
     refine xF (i := 0) (y := y14) (as := [.int c11.1, .int c13.1, .int (1 : Int32)]) (S := []) (D12 56) (m160 hw) (m162 hw) (m1 hw) (m161 hw) (m163 hw) (m2 hw) hy14 rfl (ok14 hw c11.1 c13.1 (1 : Int32) c13.2 _ hc14) rfl (lenOf pd14 rfl) (leb rfl) (leb rfl) (leb rfl) (leb rfl) ?_
     rintro _ _ ⟨rfl, rfl⟩
     show W12 l Z n0 (P12 r) 0 0 101 [vR 0,vI v1,vI c3,vI c11.1,vI c13.1] [] (Hb 0 c14)
     refine xA (D12 57) rfl (xG 16 (D12 58) rfl ?_)
     obtain ⟨c15, hc15, h⟩ := bd h
     refine xF (i := 0) (y := y8) (as := [.int (16 : Int32)]) (S := []) (D12 59) (m134 hw) (m136 hw) (m1 hw) (m135 hw) (m137 hw) (m2 hw) hy8 rfl (ok8 hw (16 : Int32) c14 _ hc15) rfl (lenOf pd8 rfl) (leb rfl) (leb rfl) (leb rfl) (leb rfl) ?_
     rintro _ _ ⟨rfl, rfl⟩
     show W12 l Z n0 (P12 r) 0 0 107 [vR 0,vI v1,vI c3,vI c11.1,vI c13.1] [] (Hb 0 c15)
     refine xA (D12 60) rfl (xG 17 (D12 61) rfl ?_)
     obtain ⟨c16, hc16, h⟩ := bd h
     refine xF (i := 0) (y := y8) (as := [.int (17 : Int32)]) (S := []) (D12 62) (m134 hw) (m136 hw) (m1 hw) (m135 hw) (m137 hw) (m2 hw) hy8 rfl (ok8 hw (17 : Int32) c15 _ hc16) rfl (lenOf pd8 rfl) (leb rfl) (leb rfl) (leb rfl) (leb rfl) ?_
     rintro _ _ ⟨rfl, rfl⟩
     show W12 l Z n0 (P12 r) 0 0 113 [vR 0,vI v1,vI c3,vI c11.1,vI c13.1] [] (Hb 0 c16)
     exact xV (pc' := 117) (D12 63) (by decide) rfl (xE (L' := [vR 0,vI v1,vU,vU,vU]) ⟨rfl, rfl, trivial⟩ (ok12_117 hw n0 _ hk2 n v1 c16 _ h))
    ·
     refine xI (pc' := 116) (D12 36) (XT.ii_ne_t hc9) (by decide) rfl ?_
     cases h
     exact xS (D12 64) rfl (leb rfl) (leb rfl) ⟨rfl, rfl⟩
 ·
  exact xI (pc' := 123) (D12 4) (XT.ii_ge_t hc1) (by decide) rfl (xE (L' := [vU,vU,vU,vU,vU]) trivial (ok12_123 hw n0 n s _ h))
def f_parseDecls_2 : Nat → Int32 → St → Option (St)
 | 0 => fun _ _ => none
 | n + 1 => g_parseDecls_2 (f_parseDecls_2 n) n
theorem ok12_2 (hw : HW a0 Z) (n0 : Nat) : ∀ (n : Nat) (v1 : Int32) (s r : St), f_parseDecls_2 n v1 s = some r → W12 l Z n0 (P12 r) 0 0 2 [vR 0,vI v1,vU,vU,vU] [] (Hb 0 s)
 | 0, v1, s, r, h => nomatch (show none = some r from h)
 | n + 1, v1, s, r, h => okg12_2 hw n0 _ (ok12_2 hw n0 n) n v1 s r h
def f_parseDecls (n : Nat) (s : St) : Option (St) :=
 f_parseDecls_2 n (0 : Int32) s
theorem ok12 (hw : HW a0 Z) (n : Nat) (s r : St) (h : f_parseDecls n s = some r) : CS l Z CN lay y12 prog_1_method_23_code 5 (none) R12 0 [.ref 0] (Hb 0 s) (P12 r) := by
 refine CS.of_wp pn_cls (leb rfl) fun n0 => ?_
 show W12 l Z n0 (P12 r) 0 0 0 [vR 0,vU,vU,vU,vU] [] (Hb 0 s)
 unfold f_parseDecls at h
 exact xB 0 (D12 0) rfl (xP (L' := [vR 0,vI 0,vU,vU,vU]) (D12 1) (leb rfl) rfl (xE (L' := [vR 0,vI 0,vU,vU,vU]) ⟨rfl, rfl, trivial⟩ (ok12_2 hw n0 n (0 : Int32) s _ h)))
def D19 := dA k28 (0,.aload_n 0,1) [(1,.getfield 180,3),(4,.ifCond .ne 5,3),(7,.iconst 0,1),(8,.ireturn,1),(9,.aload_n 0,1),(10,.aload_n 0,1),(11,.getfield 183,3),(14,.invokevirtual 192,3),(17,.iconst 2,1),(18,.if_icmp .eq 10,3),(21,.aload_n 0,1),(22,.iconst 0,1),(23,.putfield 180,3),(26,.iconst 0,1),(27,.ireturn,1),(28,.aload_n 0,1),(29,.aload_n 0,1),(30,.getfield 183,3),(33,.invokevirtual 199,3),(36,.bipush 7,2),(38,.iand,1),(39,.istore_n 1,1),(40,.aload_n 0,1),(41,.getfield 38,3),(44,.aload_n 0,1),(45,.getfield 202,3),(48,.bipush 8,2),(50,.imul,1),(51,.iload_n 1,1),(52,.iadd,1),(53,.iaload,1),(54,.ifCond .ge 10,3),(57,.aload_n 0,1),(58,.iconst 0,1),(59,.putfield 180,3),(62,.iconst 0,1),(63,.ireturn,1),(64,.aload_n 0,1),(65,.dup,1),(66,.getfield 183,3),(69,.iconst 1,1),(70,.iadd,1),(71,.putfield 183,3),(74,.iload_n 1,1),(75,.ireturn,1)] (by decide +kernel)
abbrev y19 : MethodName := ⟨"FatPointerC", "useVar", "()I"⟩
theorem hy19 : y19.cls ≠ "java/lang/invoke/MethodHandle" ∧ y19.cls ≠ "java/lang/invoke/VarHandle" := by decide
theorem pd19 : parseMethodDescriptor y19.desc = some ⟨[], some .int⟩ := by decide +kernel
abbrev R19 : Room := { frames := 1, cells := 0, slots := 0, locals := 13 }
abbrev P19 (r : Int32 × St) : Option Value → List OwnC → Prop := fun v H' => v = some (.int r.1) ∧ H' = (Hb 0 r.2)
abbrev W19 (l : Launch) (Z : State) (n0 : Nat) := WP l Z CN lay "FatPointerC" "useVar" prog_1_method_30_code 2 (some FieldType.int) R19 n0 0
def f_useVar (s : St) : Option (Int32 × St) :=
 if (gI s 12) = 0 then
  some ((0 : Int32), s)
 else
  (f_kindAt (gI s 11) s).bind fun c2 =>
  if c2 = (2 : Int32) then
   (f_valAt (gI s 11) s).bind fun c4 =>
   lt (c4 &&& (7 : Int32)) fun x5 =>
   (rd (gA s 9) (((gI s 13) * (8 : Int32)) + x5)).bind fun x6 =>
   if x6 < 0 then
    lt (sI s 12 (0 : Int32)) fun s8 =>
    some ((0 : Int32), s8)
   else
    lt (sI s 11 ((gI s 11) + (1 : Int32))) fun s9 =>
    some (x5, s9)
  else
   lt (sI s 12 (0 : Int32)) fun s10 =>
   some ((0 : Int32), s10)
theorem ok19 (hw : HW a0 Z) (s : St) (r : Int32 × St) (h : f_useVar s = some r) : CS l Z CN lay y19 prog_1_method_30_code 2 (some FieldType.int) R19 0 [.ref 0] (Hb 0 s) (P19 r) := by
 refine CS.of_wp pn_cls (leb rfl) fun n0 => ?_
 show W19 l Z n0 (P19 r) 0 0 0 [vR 0,vU] [] (Hb 0 s)
 unfold f_useVar at h
 refine xA (D19 0) rfl (xD (i := 0) (j := 27) (D19 1) (m126 hw) rfl rfl rfl ?_)
 rcases ite_e h with ⟨hc1, h⟩ | ⟨hc1, h⟩
 ·
  refine xM (D19 2) (XT.i0_ne_f hc1) (xB 0 (D19 3) rfl ?_)
  cases h
  exact xK (D19 4) rfl (leb rfl) (leb rfl) ⟨rfl, rfl⟩
 ·
  refine xL (pc' := 9) (D19 2) (XT.i0_ne_t hc1) (by decide) rfl (xA (D19 5) rfl (xA (D19 6) rfl (xD (i := 0) (j := 26) (D19 7) (m128 hw) rfl rfl rfl ?_)))
  obtain ⟨c2, hc2, h⟩ := bd h
  refine xF (i := 0) (y := y9) (as := [.int (gI s 11)]) (S := []) (D19 8) (m138 hw) (m140 hw) (m1 hw) (m139 hw) (m141 hw) (m2 hw) hy9 rfl (ok9 hw (gI s 11) s _ hc2) rfl (lenOf pd9 rfl) (leb rfl) (leb rfl) (leb rfl) (leb rfl) ?_
  rintro _ _ ⟨rfl, rfl⟩
  show W19 l Z n0 (P19 r) 0 0 17 [vR 0,vU] [.int c2] (Hb 0 s)
  refine xB 2 (D19 9) rfl ?_
  rcases ite_e h with ⟨hc3, h⟩ | ⟨hc3, h⟩
  ·
   refine xI (pc' := 28) (D19 10) (XT.ii_eq_t hc3) (by decide) rfl (xA (D19 16) rfl (xA (D19 17) rfl (xD (i := 0) (j := 26) (D19 18) (m128 hw) rfl rfl rfl ?_)))
   obtain ⟨c4, hc4, h⟩ := bd h
   refine xF (i := 0) (y := y10) (as := [.int (gI s 11)]) (S := []) (D19 19) (m142 hw) (m144 hw) (m1 hw) (m143 hw) (m145 hw) (m2 hw) hy10 rfl (ok10 hw (gI s 11) s _ hc4) rfl (lenOf pd10 rfl) (leb rfl) (leb rfl) (leb rfl) (leb rfl) ?_
   rintro _ _ ⟨rfl, rfl⟩
   show W19 l Z n0 (P19 r) 0 0 36 [vR 0,vU] [.int c4] (Hb 0 s)
   refine xG 7 (D19 20) rfl (xW (D19 21) ?_)
   obtain ⟨x5, ex5, h⟩ := lt_e h
   refine xP (L' := [vR 0,vI x5]) (D19 22) (leb rfl) (by subst ex5; rfl) (xA (D19 23) rfl (xD (i := 0) (j := 20) (D19 24) (m29 hw) rfl rfl rfl (xA (D19 25) rfl (xD (i := 0) (j := 28) (D19 26) (m146 hw) rfl rfl rfl (xG 8 (D19 27) rfl (yI (D19 28) (xC (D19 29) rfl (xO (D19 30) ?_))))))))
   obtain ⟨x6, hx6, h⟩ := bd h
   refine xN (i := 10) (D19 31) rfl hx6 ?_
   rcases ite_e h with ⟨hc7, h⟩ | ⟨hc7, h⟩
   ·
    refine xM (D19 32) (XT.i0_ge_f hc7) (xA (D19 33) rfl (xB 0 (D19 34) rfl ?_))
    obtain ⟨s8, es8, h⟩ := lt_e h
    refine yD (i := 0) (j := 27) (H' := (Hb 0 s8)) (D19 35) (m126 hw) (Or.inl (m127 hw)) (m1 hw) (hlay hw) rfl rfl rfl (leb rfl) (by subst es8; rfl) (xB 0 (D19 36) rfl ?_)
    cases h
    exact xK (D19 37) rfl (leb rfl) (leb rfl) ⟨rfl, rfl⟩
   ·
    refine xL (pc' := 64) (D19 32) (XT.i0_ge_t hc7) (by decide) rfl (xA (D19 38) rfl (yA (D19 39) rfl (xD (i := 0) (j := 26) (D19 40) (m128 hw) rfl rfl rfl (xB 1 (D19 41) rfl (xO (D19 42) ?_)))))
    obtain ⟨s9, es9, h⟩ := lt_e h
    refine xT (i := 0) (j := 26) (H' := (Hb 0 s9)) (D19 43) (m128 hw) (Or.inl (m129 hw)) (m1 hw) (hlay hw) rfl rfl rfl (leb rfl) (by subst es9; rfl) (xC (D19 44) rfl ?_)
    cases h
    exact xK (D19 45) rfl (leb rfl) (leb rfl) ⟨rfl, rfl⟩
  ·
   refine xJ (D19 10) (XT.ii_eq_f hc3) (xA (D19 11) rfl (xB 0 (D19 12) rfl ?_))
   obtain ⟨s10, es10, h⟩ := lt_e h
   refine yD (i := 0) (j := 27) (H' := (Hb 0 s10)) (D19 13) (m126 hw) (Or.inl (m127 hw)) (m1 hw) (hlay hw) rfl rfl rfl (leb rfl) (by subst es10; rfl) (xB 0 (D19 14) rfl ?_)
   cases h
   exact xK (D19 15) rfl (leb rfl) (leb rfl) ⟨rfl, rfl⟩
def D24 := dA k33 (0,.aload_n 0,1) [(1,.getfield 180,3),(4,.ifCond .ne 4,3),(7,.return_,1),(8,.aload_n 0,1),(9,.aload_n 0,1),(10,.getfield 183,3),(13,.invokevirtual 192,3),(16,.iconst 1,1),(17,.if_icmp .ne 14,3),(20,.aload_n 0,1),(21,.dup,1),(22,.getfield 183,3),(25,.iconst 1,1),(26,.iadd,1),(27,.putfield 183,3),(30,.return_,1),(31,.aload_n 0,1),(32,.invokevirtual 234,3),(35,.pop,1),(36,.return_,1)] (by decide +kernel)
abbrev y24 : MethodName := ⟨"FatPointerC", "parseAtom", "()V"⟩
theorem hy24 : y24.cls ≠ "java/lang/invoke/MethodHandle" ∧ y24.cls ≠ "java/lang/invoke/VarHandle" := by decide
theorem pd24 : parseMethodDescriptor y24.desc = some ⟨[], none⟩ := by decide +kernel
abbrev R24 : Room := { frames := 2, cells := 0, slots := 0, locals := 26 }
abbrev P24 (r : St) : Option Value → List OwnC → Prop := fun v H' => v = none ∧ H' = (Hb 0 r)
abbrev W24 (l : Launch) (Z : State) (n0 : Nat) := WP l Z CN lay "FatPointerC" "parseAtom" prog_1_method_36_code 1 (none) R24 n0 0
def f_parseAtom (s : St) : Option (St) :=
 if (gI s 12) = 0 then
  some s
 else
  (f_kindAt (gI s 11) s).bind fun c2 =>
  if c2 = (1 : Int32) then
   lt (sI s 11 ((gI s 11) + (1 : Int32))) fun s4 =>
   some s4
  else
   (f_useVar s).bind fun c5 =>
   some c5.2
theorem ok24 (hw : HW a0 Z) (s r : St) (h : f_parseAtom s = some r) : CS l Z CN lay y24 prog_1_method_36_code 1 (none) R24 0 [.ref 0] (Hb 0 s) (P24 r) := by
 refine CS.of_wp pn_cls (leb rfl) fun n0 => ?_
 show W24 l Z n0 (P24 r) 0 0 0 [vR 0] [] (Hb 0 s)
 unfold f_parseAtom at h
 refine xA (D24 0) rfl (xD (i := 0) (j := 27) (D24 1) (m126 hw) rfl rfl rfl ?_)
 rcases ite_e h with ⟨hc1, h⟩ | ⟨hc1, h⟩
 ·
  refine xM (D24 2) (XT.i0_ne_f hc1) ?_
  cases h
  exact xS (D24 3) rfl (leb rfl) (leb rfl) ⟨rfl, rfl⟩
 ·
  refine xL (pc' := 8) (D24 2) (XT.i0_ne_t hc1) (by decide) rfl (xA (D24 4) rfl (xA (D24 5) rfl (xD (i := 0) (j := 26) (D24 6) (m128 hw) rfl rfl rfl ?_)))
  obtain ⟨c2, hc2, h⟩ := bd h
  refine xF (i := 0) (y := y9) (as := [.int (gI s 11)]) (S := []) (D24 7) (m138 hw) (m140 hw) (m1 hw) (m139 hw) (m141 hw) (m2 hw) hy9 rfl (ok9 hw (gI s 11) s _ hc2) rfl (lenOf pd9 rfl) (leb rfl) (leb rfl) (leb rfl) (leb rfl) ?_
  rintro _ _ ⟨rfl, rfl⟩
  show W24 l Z n0 (P24 r) 0 0 16 [vR 0] [.int c2] (Hb 0 s)
  refine xB 1 (D24 8) rfl ?_
  rcases ite_e h with ⟨hc3, h⟩ | ⟨hc3, h⟩
  ·
   refine xJ (D24 9) (XT.ii_ne_f hc3) (xA (D24 10) rfl (yA (D24 11) rfl (xD (i := 0) (j := 26) (D24 12) (m128 hw) rfl rfl rfl (xB 1 (D24 13) rfl (xO (D24 14) ?_)))))
   obtain ⟨s4, es4, h⟩ := lt_e h
   refine xT (i := 0) (j := 26) (H' := (Hb 0 s4)) (D24 15) (m128 hw) (Or.inl (m129 hw)) (m1 hw) (hlay hw) rfl rfl rfl (leb rfl) (by subst es4; rfl) ?_
   cases h
   exact xS (D24 16) rfl (leb rfl) (leb rfl) ⟨rfl, rfl⟩
  ·
   refine xI (pc' := 31) (D24 9) (XT.ii_ne_t hc3) (by decide) rfl (xA (D24 17) rfl ?_)
   obtain ⟨c5, hc5, h⟩ := bd h
   refine xF (i := 0) (y := y19) (as := []) (S := []) (D24 18) (m180 hw) (m182 hw) (m1 hw) (m181 hw) (m183 hw) (m2 hw) hy19 rfl (ok19 hw s _ hc5) rfl (lenOf pd19 rfl) (leb rfl) (leb rfl) (leb rfl) (leb rfl) ?_
   rintro _ _ ⟨rfl, rfl⟩
   show W24 l Z n0 (P24 r) 0 0 35 [vR 0] [.int c5.1] (Hb 0 c5.2)
   refine WP.pop (D24 19) rfl ?_
   cases h
   exact xS (D24 20) rfl (leb rfl) (leb rfl) ⟨rfl, rfl⟩
def D23 := dA k32 (0,.aload_n 0,1) [(1,.getfield 180,3),(4,.ifCond .ne 4,3),(7,.return_,1),(8,.aload_n 0,1),(9,.aload_n 0,1),(10,.getfield 183,3),(13,.invokevirtual 192,3),(16,.istore_n 1,1),(17,.iload_n 1,1),(18,.iconst 1,1),(19,.if_icmp .ne 14,3),(22,.aload_n 0,1),(23,.dup,1),(24,.getfield 183,3),(27,.iconst 1,1),(28,.iadd,1),(29,.putfield 183,3),(32,.return_,1),(33,.iload_n 1,1),(34,.bipush 22,2),(36,.if_icmp .eq 9,3),(39,.iload_n 1,1),(40,.bipush 23,2),(42,.if_icmp .ne 19,3),(45,.aload_n 0,1),(46,.dup,1),(47,.getfield 183,3),(50,.iconst 1,1),(51,.iadd,1),(52,.putfield 183,3),(55,.aload_n 0,1),(56,.invokevirtual 234,3),(59,.pop,1),(60,.return_,1),(61,.iload_n 1,1),(62,.iconst 2,1),(63,.if_icmp .eq 9,3),(66,.aload_n 0,1),(67,.iconst 0,1),(68,.putfield 180,3),(71,.return_,1),(72,.aload_n 0,1),(73,.invokevirtual 234,3),(76,.pop,1),(77,.aload_n 0,1),(78,.getfield 180,3),(81,.ifCond .eq 36,3),(84,.aload_n 0,1),(85,.aload_n 0,1),(86,.getfield 183,3),(89,.invokevirtual 192,3),(92,.bipush 15,2),(94,.if_icmp .ne 23,3),(97,.aload_n 0,1),(98,.dup,1),(99,.getfield 183,3),(102,.iconst 1,1),(103,.iadd,1),(104,.putfield 183,3),(107,.aload_n 0,1),(108,.invokevirtual 240,3),(111,.aload_n 0,1),(112,.bipush 16,2),(114,.invokevirtual 195,3),(117,.return_,1)] (by decide +kernel)
abbrev y23 : MethodName := ⟨"FatPointerC", "parseOperand", "()V"⟩
theorem hy23 : y23.cls ≠ "java/lang/invoke/MethodHandle" ∧ y23.cls ≠ "java/lang/invoke/VarHandle" := by decide
theorem pd23 : parseMethodDescriptor y23.desc = some ⟨[], none⟩ := by decide +kernel
abbrev R23 : Room := { frames := 3, cells := 0, slots := 0, locals := 38 }
abbrev P23 (r : St) : Option Value → List OwnC → Prop := fun v H' => v = none ∧ H' = (Hb 0 r)
abbrev W23 (l : Launch) (Z : State) (n0 : Nat) := WP l Z CN lay "FatPointerC" "parseOperand" prog_1_method_35_code 2 (none) R23 n0 0
def f_parseOperand_45 (s : St) : Option (St) :=
 lt (sI s 11 ((gI s 11) + (1 : Int32))) fun s1 =>
 (f_useVar s1).bind fun c2 =>
 some c2.2
theorem ok23_45 (hw : HW a0 Z) (n0 : Nat) (s r : St) (h : f_parseOperand_45 s = some r) : W23 l Z n0 (P23 r) 0 0 45 [vR 0,vU] [] (Hb 0 s) := by
 unfold f_parseOperand_45 at h
 refine xA (D23 25) rfl (yA (D23 26) rfl (xD (i := 0) (j := 26) (D23 27) (m128 hw) rfl rfl rfl (xB 1 (D23 28) rfl (xO (D23 29) ?_))))
 obtain ⟨s1, es1, h⟩ := lt_e h
 refine xT (i := 0) (j := 26) (H' := (Hb 0 s1)) (D23 30) (m128 hw) (Or.inl (m129 hw)) (m1 hw) (hlay hw) rfl rfl rfl (leb rfl) (by subst es1; rfl) (xA (D23 31) rfl ?_)
 obtain ⟨c2, hc2, h⟩ := bd h
 refine xF (i := 0) (y := y19) (as := []) (S := []) (D23 32) (m180 hw) (m182 hw) (m1 hw) (m181 hw) (m183 hw) (m2 hw) hy19 rfl (ok19 hw s1 _ hc2) rfl (lenOf pd19 rfl) (leb rfl) (leb rfl) (leb rfl) (leb rfl) ?_
 rintro _ _ ⟨rfl, rfl⟩
 show W23 l Z n0 (P23 r) 0 0 59 [vR 0,vU] [.int c2.1] (Hb 0 c2.2)
 refine WP.pop (D23 33) rfl ?_
 cases h
 exact xS (D23 34) rfl (leb rfl) (leb rfl) ⟨rfl, rfl⟩
def f_parseOperand_117 (s : St) : Option (St) :=
 some s
theorem ok23_117 (hw : HW a0 Z) (n0 : Nat) (s r : St) (h : f_parseOperand_117 s = some r) : W23 l Z n0 (P23 r) 0 0 117 [vU,vU] [] (Hb 0 s) := by
 unfold f_parseOperand_117 at h
 cases h
 exact xS (D23 65) rfl (leb rfl) (leb rfl) ⟨rfl, rfl⟩
def f_parseOperand (s : St) : Option (St) :=
 if (gI s 12) = 0 then
  some s
 else
  (f_kindAt (gI s 11) s).bind fun c2 =>
  if c2 = (1 : Int32) then
   lt (sI s 11 ((gI s 11) + (1 : Int32))) fun s4 =>
   some s4
  else
   if c2 = (22 : Int32) then
    f_parseOperand_45 s
   else
    if c2 = (23 : Int32) then
     f_parseOperand_45 s
    else
     if c2 = (2 : Int32) then
      (f_useVar s).bind fun c8 =>
      if (gI c8.2 12) = 0 then
       f_parseOperand_117 c8.2
      else
       (f_kindAt (gI c8.2 11) c8.2).bind fun c10 =>
       if c10 = (15 : Int32) then
        lt (sI c8.2 11 ((gI c8.2 11) + (1 : Int32))) fun s12 =>
        (f_parseAtom s12).bind fun c13 =>
        (f_expect (16 : Int32) c13).bind fun c14 =>
        f_parseOperand_117 c14
       else
        f_parseOperand_117 c8.2
     else
      lt (sI s 12 (0 : Int32)) fun s15 =>
      some s15
theorem ok23 (hw : HW a0 Z) (s r : St) (h : f_parseOperand s = some r) : CS l Z CN lay y23 prog_1_method_35_code 2 (none) R23 0 [.ref 0] (Hb 0 s) (P23 r) := by
 refine CS.of_wp pn_cls (leb rfl) fun n0 => ?_
 show W23 l Z n0 (P23 r) 0 0 0 [vR 0,vU] [] (Hb 0 s)
 unfold f_parseOperand at h
 refine xA (D23 0) rfl (xD (i := 0) (j := 27) (D23 1) (m126 hw) rfl rfl rfl ?_)
 rcases ite_e h with ⟨hc1, h⟩ | ⟨hc1, h⟩
 ·
  refine xM (D23 2) (XT.i0_ne_f hc1) ?_
  cases h
  exact xS (D23 3) rfl (leb rfl) (leb rfl) ⟨rfl, rfl⟩
 ·
  refine xL (pc' := 8) (D23 2) (XT.i0_ne_t hc1) (by decide) rfl (xA (D23 4) rfl (xA (D23 5) rfl (xD (i := 0) (j := 26) (D23 6) (m128 hw) rfl rfl rfl ?_)))
  obtain ⟨c2, hc2, h⟩ := bd h
  refine xF (i := 0) (y := y9) (as := [.int (gI s 11)]) (S := []) (D23 7) (m138 hw) (m140 hw) (m1 hw) (m139 hw) (m141 hw) (m2 hw) hy9 rfl (ok9 hw (gI s 11) s _ hc2) rfl (lenOf pd9 rfl) (leb rfl) (leb rfl) (leb rfl) (leb rfl) ?_
  rintro _ _ ⟨rfl, rfl⟩
  show W23 l Z n0 (P23 r) 0 0 16 [vR 0,vU] [.int c2] (Hb 0 s)
  refine xP (L' := [vR 0,vI c2]) (D23 8) (leb rfl) rfl (xC (D23 9) rfl (xB 1 (D23 10) rfl ?_))
  rcases ite_e h with ⟨hc3, h⟩ | ⟨hc3, h⟩
  ·
   refine xJ (D23 11) (XT.ii_ne_f hc3) (xA (D23 12) rfl (yA (D23 13) rfl (xD (i := 0) (j := 26) (D23 14) (m128 hw) rfl rfl rfl (xB 1 (D23 15) rfl (xO (D23 16) ?_)))))
   obtain ⟨s4, es4, h⟩ := lt_e h
   refine xT (i := 0) (j := 26) (H' := (Hb 0 s4)) (D23 17) (m128 hw) (Or.inl (m129 hw)) (m1 hw) (hlay hw) rfl rfl rfl (leb rfl) (by subst es4; rfl) ?_
   cases h
   exact xS (D23 18) rfl (leb rfl) (leb rfl) ⟨rfl, rfl⟩
  ·
   refine xI (pc' := 33) (D23 11) (XT.ii_ne_t hc3) (by decide) rfl (xC (D23 19) rfl (xG 22 (D23 20) rfl ?_))
   rcases ite_e h with ⟨hc5, h⟩ | ⟨hc5, h⟩
   ·
    exact xI (pc' := 45) (D23 21) (XT.ii_eq_t hc5) (by decide) rfl (xE (L' := [vR 0,vU]) ⟨rfl, trivial⟩ (ok23_45 hw n0 s _ h))
   ·
    refine xJ (D23 21) (XT.ii_eq_f hc5) (xC (D23 22) rfl (xG 23 (D23 23) rfl ?_))
    rcases ite_e h with ⟨hc6, h⟩ | ⟨hc6, h⟩
    ·
     exact xJ (D23 24) (XT.ii_ne_f hc6) (xE (L' := [vR 0,vU]) ⟨rfl, trivial⟩ (ok23_45 hw n0 s _ h))
    ·
     refine xI (pc' := 61) (D23 24) (XT.ii_ne_t hc6) (by decide) rfl (xC (D23 35) rfl (xB 2 (D23 36) rfl ?_))
     rcases ite_e h with ⟨hc7, h⟩ | ⟨hc7, h⟩
     ·
      refine xI (pc' := 72) (D23 37) (XT.ii_eq_t hc7) (by decide) rfl (xA (D23 42) rfl ?_)
      obtain ⟨c8, hc8, h⟩ := bd h
      refine xF (i := 0) (y := y19) (as := []) (S := []) (D23 43) (m180 hw) (m182 hw) (m1 hw) (m181 hw) (m183 hw) (m2 hw) hy19 rfl (ok19 hw s _ hc8) rfl (lenOf pd19 rfl) (leb rfl) (leb rfl) (leb rfl) (leb rfl) ?_
      rintro _ _ ⟨rfl, rfl⟩
      show W23 l Z n0 (P23 r) 0 0 76 [vR 0,vI c2] [.int c8.1] (Hb 0 c8.2)
      refine WP.pop (D23 44) rfl (xA (D23 45) rfl (xD (i := 0) (j := 27) (D23 46) (m126 hw) rfl rfl rfl ?_))
      rcases ite_e h with ⟨hc9, h⟩ | ⟨hc9, h⟩
      ·
       exact xL (pc' := 117) (D23 47) (XT.i0_eq_t hc9) (by decide) rfl (xE (L' := [vU,vU]) trivial (ok23_117 hw n0 c8.2 _ h))
      ·
       refine xM (D23 47) (XT.i0_eq_f hc9) (xA (D23 48) rfl (xA (D23 49) rfl (xD (i := 0) (j := 26) (D23 50) (m128 hw) rfl rfl rfl ?_)))
       obtain ⟨c10, hc10, h⟩ := bd h
       refine xF (i := 0) (y := y9) (as := [.int (gI c8.2 11)]) (S := []) (D23 51) (m138 hw) (m140 hw) (m1 hw) (m139 hw) (m141 hw) (m2 hw) hy9 rfl (ok9 hw (gI c8.2 11) c8.2 _ hc10) rfl (lenOf pd9 rfl) (leb rfl) (leb rfl) (leb rfl) (leb rfl) ?_
       rintro _ _ ⟨rfl, rfl⟩
       show W23 l Z n0 (P23 r) 0 0 92 [vR 0,vI c2] [.int c10] (Hb 0 c8.2)
       refine xG 15 (D23 52) rfl ?_
       rcases ite_e h with ⟨hc11, h⟩ | ⟨hc11, h⟩
       ·
        refine xJ (D23 53) (XT.ii_ne_f hc11) (xA (D23 54) rfl (yA (D23 55) rfl (xD (i := 0) (j := 26) (D23 56) (m128 hw) rfl rfl rfl (xB 1 (D23 57) rfl (xO (D23 58) ?_)))))
        obtain ⟨s12, es12, h⟩ := lt_e h
        refine xT (i := 0) (j := 26) (H' := (Hb 0 s12)) (D23 59) (m128 hw) (Or.inl (m129 hw)) (m1 hw) (hlay hw) rfl rfl rfl (leb rfl) (by subst es12; rfl) (xA (D23 60) rfl ?_)
        obtain ⟨c13, hc13, h⟩ := bd h
        refine xF (i := 0) (y := y24) (as := []) (S := []) (D23 61) (m200 hw) (m202 hw) (m1 hw) (m201 hw) (m203 hw) (m2 hw) hy24 rfl (ok24 hw s12 _ hc13) rfl (lenOf pd24 rfl) (leb rfl) (leb rfl) (leb rfl) (leb rfl) ?_
        rintro _ _ ⟨rfl, rfl⟩
        show W23 l Z n0 (P23 r) 0 0 111 [vR 0,vI c2] [] (Hb 0 c13)
        refine xA (D23 62) rfl (xG 16 (D23 63) rfl ?_)
        obtain ⟨c14, hc14, h⟩ := bd h
        refine xF (i := 0) (y := y8) (as := [.int (16 : Int32)]) (S := []) (D23 64) (m134 hw) (m136 hw) (m1 hw) (m135 hw) (m137 hw) (m2 hw) hy8 rfl (ok8 hw (16 : Int32) c13 _ hc14) rfl (lenOf pd8 rfl) (leb rfl) (leb rfl) (leb rfl) (leb rfl) ?_
        rintro _ _ ⟨rfl, rfl⟩
        show W23 l Z n0 (P23 r) 0 0 117 [vR 0,vI c2] [] (Hb 0 c14)
        exact xE (L' := [vU,vU]) trivial (ok23_117 hw n0 c14 _ h)
       ·
        exact xI (pc' := 117) (D23 53) (XT.ii_ne_t hc11) (by decide) rfl (xE (L' := [vU,vU]) trivial (ok23_117 hw n0 c8.2 _ h))
     ·
      refine xJ (D23 37) (XT.ii_eq_f hc7) (xA (D23 38) rfl (xB 0 (D23 39) rfl ?_))
      obtain ⟨s15, es15, h⟩ := lt_e h
      refine yD (i := 0) (j := 27) (H' := (Hb 0 s15)) (D23 40) (m126 hw) (Or.inl (m127 hw)) (m1 hw) (hlay hw) rfl rfl rfl (leb rfl) (by subst es15; rfl) ?_
      cases h
      exact xS (D23 41) rfl (leb rfl) (leb rfl) ⟨rfl, rfl⟩
def D22 := dA k31 (0,.aload_n 0,1) [(1,.invokevirtual 249,3),(4,.iconst 0,1),(5,.istore_n 1,1),(6,.iload_n 1,1),(7,.sipush 256,3),(10,.if_icmp .ge 43,3),(13,.aload_n 0,1),(14,.getfield 180,3),(17,.ifCond .eq 36,3),(20,.aload_n 0,1),(21,.aload_n 0,1),(22,.getfield 183,3),(25,.invokevirtual 192,3),(28,.bipush 22,2),(30,.if_icmp .ne 23,3),(33,.aload_n 0,1),(34,.dup,1),(35,.getfield 183,3),(38,.iconst 1,1),(39,.iadd,1),(40,.putfield 183,3),(43,.aload_n 0,1),(44,.invokevirtual 249,3),(47,.iinc 1 1,3),(50,.goto (-44),3),(53,.return_,1)] (by decide +kernel)
abbrev y22 : MethodName := ⟨"FatPointerC", "parseTerm", "()V"⟩
theorem hy22 : y22.cls ≠ "java/lang/invoke/MethodHandle" ∧ y22.cls ≠ "java/lang/invoke/VarHandle" := by decide
theorem pd22 : parseMethodDescriptor y22.desc = some ⟨[], none⟩ := by decide +kernel
abbrev R22 : Room := { frames := 4, cells := 0, slots := 0, locals := 51 }
abbrev P22 (r : St) : Option Value → List OwnC → Prop := fun v H' => v = none ∧ H' = (Hb 0 r)
abbrev W22 (l : Launch) (Z : State) (n0 : Nat) := WP l Z CN lay "FatPointerC" "parseTerm" prog_1_method_34_code 2 (none) R22 n0 0
def f_parseTerm_53 (n : Nat) (s : St) : Option (St) :=
 some s
theorem ok22_53 (hw : HW a0 Z) (n0 n : Nat) (s r : St) (h : f_parseTerm_53 n s = some r) : W22 l Z n0 (P22 r) 0 0 53 [vU,vU] [] (Hb 0 s) := by
 unfold f_parseTerm_53 at h
 cases h
 exact xS (D22 26) rfl (leb rfl) (leb rfl) ⟨rfl, rfl⟩
def g_parseTerm_6 (k6 : KT0) (n : Nat) (v1 : Int32) (s : St) : Option (St) :=
 if v1 < (256 : Int32) then
  if (gI s 12) = 0 then
   f_parseTerm_53 n s
  else
   (f_kindAt (gI s 11) s).bind fun c3 =>
   if c3 = (22 : Int32) then
    lt (sI s 11 ((gI s 11) + (1 : Int32))) fun s5 =>
    (f_parseOperand s5).bind fun c6 =>
    lt (v1 + (1 : Int32)) fun x7 =>
    k6 x7 c6
   else
    f_parseTerm_53 n s
 else
  f_parseTerm_53 n s
abbrev HK22_6 (l : Launch) (Z : State) (n0 : Nat) (k6 : KT0) : Prop := ∀ (v1 : Int32) (s r : St), k6 v1 s = some r → W22 l Z n0 (P22 r) 0 0 6 [vR 0,vI v1] [] (Hb 0 s)
theorem okg22_6 (hw : HW a0 Z) (n0 : Nat) (k6 : KT0) (hk6 : HK22_6 l Z n0 k6) (n : Nat) (v1 : Int32) (s r : St) (h : g_parseTerm_6 k6 n v1 s = some r) : W22 l Z n0 (P22 r) 0 0 6 [vR 0,vI v1] [] (Hb 0 s) := by
 unfold g_parseTerm_6 at h
 refine xC (D22 4) rfl (yB 256 (D22 5) rfl ?_)
 rcases ite_e h with ⟨hc1, h⟩ | ⟨hc1, h⟩
 ·
  refine xJ (D22 6) (XT.ii_ge_f hc1) (xA (D22 7) rfl (xD (i := 0) (j := 27) (D22 8) (m126 hw) rfl rfl rfl ?_))
  rcases ite_e h with ⟨hc2, h⟩ | ⟨hc2, h⟩
  ·
   exact xL (pc' := 53) (D22 9) (XT.i0_eq_t hc2) (by decide) rfl (xE (L' := [vU,vU]) trivial (ok22_53 hw n0 n s _ h))
  ·
   refine xM (D22 9) (XT.i0_eq_f hc2) (xA (D22 10) rfl (xA (D22 11) rfl (xD (i := 0) (j := 26) (D22 12) (m128 hw) rfl rfl rfl ?_)))
   obtain ⟨c3, hc3, h⟩ := bd h
   refine xF (i := 0) (y := y9) (as := [.int (gI s 11)]) (S := []) (D22 13) (m138 hw) (m140 hw) (m1 hw) (m139 hw) (m141 hw) (m2 hw) hy9 rfl (ok9 hw (gI s 11) s _ hc3) rfl (lenOf pd9 rfl) (leb rfl) (leb rfl) (leb rfl) (leb rfl) ?_
   rintro _ _ ⟨rfl, rfl⟩
   show W22 l Z n0 (P22 r) 0 0 28 [vR 0,vI v1] [.int c3] (Hb 0 s)
   refine xG 22 (D22 14) rfl ?_
   rcases ite_e h with ⟨hc4, h⟩ | ⟨hc4, h⟩
   ·
    refine xJ (D22 15) (XT.ii_ne_f hc4) (xA (D22 16) rfl (yA (D22 17) rfl (xD (i := 0) (j := 26) (D22 18) (m128 hw) rfl rfl rfl (xB 1 (D22 19) rfl (xO (D22 20) ?_)))))
    obtain ⟨s5, es5, h⟩ := lt_e h
    refine xT (i := 0) (j := 26) (H' := (Hb 0 s5)) (D22 21) (m128 hw) (Or.inl (m129 hw)) (m1 hw) (hlay hw) rfl rfl rfl (leb rfl) (by subst es5; rfl) (xA (D22 22) rfl ?_)
    obtain ⟨c6, hc6, h⟩ := bd h
    refine xF (i := 0) (y := y23) (as := []) (S := []) (D22 23) (m196 hw) (m198 hw) (m1 hw) (m197 hw) (m199 hw) (m2 hw) hy23 rfl (ok23 hw s5 _ hc6) rfl (lenOf pd23 rfl) (leb rfl) (leb rfl) (leb rfl) (leb rfl) ?_
    rintro _ _ ⟨rfl, rfl⟩
    show W22 l Z n0 (P22 r) 0 0 47 [vR 0,vI v1] [] (Hb 0 c6)
    obtain ⟨x7, ex7, h⟩ := lt_e h
    exact yC (L' := [vR 0,vI x7]) (1 : Int32) (D22 24) rfl rfl (by subst ex7; rfl) (xV (pc' := 6) (D22 25) (by decide) rfl (xE (L' := [vR 0,vI x7]) ⟨rfl, rfl, trivial⟩ (hk6 x7 c6 _ h)))
   ·
    exact xI (pc' := 53) (D22 15) (XT.ii_ne_t hc4) (by decide) rfl (xE (L' := [vU,vU]) trivial (ok22_53 hw n0 n s _ h))
 ·
  exact xI (pc' := 53) (D22 6) (XT.ii_ge_t hc1) (by decide) rfl (xE (L' := [vU,vU]) trivial (ok22_53 hw n0 n s _ h))
def f_parseTerm_6 : Nat → Int32 → St → Option (St)
 | 0 => fun _ _ => none
 | n + 1 => g_parseTerm_6 (f_parseTerm_6 n) n
theorem ok22_6 (hw : HW a0 Z) (n0 : Nat) : ∀ (n : Nat) (v1 : Int32) (s r : St), f_parseTerm_6 n v1 s = some r → W22 l Z n0 (P22 r) 0 0 6 [vR 0,vI v1] [] (Hb 0 s)
 | 0, v1, s, r, h => nomatch (show none = some r from h)
 | n + 1, v1, s, r, h => okg22_6 hw n0 _ (ok22_6 hw n0 n) n v1 s r h
def f_parseTerm (n : Nat) (s : St) : Option (St) :=
 (f_parseOperand s).bind fun c1 =>
 f_parseTerm_6 n (0 : Int32) c1
theorem ok22 (hw : HW a0 Z) (n : Nat) (s r : St) (h : f_parseTerm n s = some r) : CS l Z CN lay y22 prog_1_method_34_code 2 (none) R22 0 [.ref 0] (Hb 0 s) (P22 r) := by
 refine CS.of_wp pn_cls (leb rfl) fun n0 => ?_
 show W22 l Z n0 (P22 r) 0 0 0 [vR 0,vU] [] (Hb 0 s)
 unfold f_parseTerm at h
 refine xA (D22 0) rfl ?_
 obtain ⟨c1, hc1, h⟩ := bd h
 refine xF (i := 0) (y := y23) (as := []) (S := []) (D22 1) (m196 hw) (m198 hw) (m1 hw) (m197 hw) (m199 hw) (m2 hw) hy23 rfl (ok23 hw s _ hc1) rfl (lenOf pd23 rfl) (leb rfl) (leb rfl) (leb rfl) (leb rfl) ?_
 rintro _ _ ⟨rfl, rfl⟩
 show W22 l Z n0 (P22 r) 0 0 4 [vR 0,vU] [] (Hb 0 c1)
 exact xB 0 (D22 2) rfl (xP (L' := [vR 0,vI 0]) (D22 3) (leb rfl) rfl (xE (L' := [vR 0,vI 0]) ⟨rfl, rfl, trivial⟩ (ok22_6 hw n0 n (0 : Int32) c1 _ h)))
def D21 := dA k30 (0,.aload_n 0,1) [(1,.invokevirtual 246,3),(4,.iconst 0,1),(5,.istore_n 1,1),(6,.iload_n 1,1),(7,.sipush 256,3),(10,.if_icmp .ge 52,3),(13,.aload_n 0,1),(14,.getfield 180,3),(17,.ifCond .eq 45,3),(20,.aload_n 0,1),(21,.aload_n 0,1),(22,.getfield 183,3),(25,.invokevirtual 192,3),(28,.istore_n 2,1),(29,.iload_n 2,1),(30,.bipush 20,2),(32,.if_icmp .eq 10,3),(35,.iload_n 2,1),(36,.bipush 21,2),(38,.if_icmp .eq 4,3),(41,.return_,1),(42,.aload_n 0,1),(43,.dup,1),(44,.getfield 183,3),(47,.iconst 1,1),(48,.iadd,1),(49,.putfield 183,3),(52,.aload_n 0,1),(53,.invokevirtual 246,3),(56,.iinc 1 1,3),(59,.goto (-53),3),(62,.return_,1)] (by decide +kernel)
abbrev y21 : MethodName := ⟨"FatPointerC", "parseSum", "()V"⟩
theorem hy21 : y21.cls ≠ "java/lang/invoke/MethodHandle" ∧ y21.cls ≠ "java/lang/invoke/VarHandle" := by decide
theorem pd21 : parseMethodDescriptor y21.desc = some ⟨[], none⟩ := by decide +kernel
abbrev R21 : Room := { frames := 5, cells := 0, slots := 0, locals := 64 }
abbrev P21 (r : St) : Option Value → List OwnC → Prop := fun v H' => v = none ∧ H' = (Hb 0 r)
abbrev W21 (l : Launch) (Z : State) (n0 : Nat) := WP l Z CN lay "FatPointerC" "parseSum" prog_1_method_33_code 3 (none) R21 n0 0
def f_parseSum_42 (k6 : KT0) (n : Nat) (v1 : Int32) (s : St) : Option (St) :=
 lt (sI s 11 ((gI s 11) + (1 : Int32))) fun s1 =>
 (f_parseTerm n s1).bind fun c2 =>
 lt (v1 + (1 : Int32)) fun x3 =>
 k6 x3 c2
abbrev HK21_6 (l : Launch) (Z : State) (n0 : Nat) (k6 : KT0) : Prop := ∀ (v1 : Int32) (s r : St), k6 v1 s = some r → W21 l Z n0 (P21 r) 0 0 6 [vR 0,vI v1,vU] [] (Hb 0 s)
theorem ok21_42 (hw : HW a0 Z) (n0 : Nat) (k6 : KT0) (hk6 : HK21_6 l Z n0 k6) (n : Nat) (v1 : Int32) (s r : St) (h : f_parseSum_42 k6 n v1 s = some r) : W21 l Z n0 (P21 r) 0 0 42 [vR 0,vI v1,vU] [] (Hb 0 s) := by
 unfold f_parseSum_42 at h
 refine xA (D21 22) rfl (yA (D21 23) rfl (xD (i := 0) (j := 26) (D21 24) (m128 hw) rfl rfl rfl (xB 1 (D21 25) rfl (xO (D21 26) ?_))))
 obtain ⟨s1, es1, h⟩ := lt_e h
 refine xT (i := 0) (j := 26) (H' := (Hb 0 s1)) (D21 27) (m128 hw) (Or.inl (m129 hw)) (m1 hw) (hlay hw) rfl rfl rfl (leb rfl) (by subst es1; rfl) (xA (D21 28) rfl ?_)
 obtain ⟨c2, hc2, h⟩ := bd h
 refine xF (i := 0) (y := y22) (as := []) (S := []) (D21 29) (m192 hw) (m194 hw) (m1 hw) (m193 hw) (m195 hw) (m2 hw) hy22 rfl (ok22 hw n s1 _ hc2) rfl (lenOf pd22 rfl) (leb rfl) (leb rfl) (leb rfl) (leb rfl) ?_
 rintro _ _ ⟨rfl, rfl⟩
 show W21 l Z n0 (P21 r) 0 0 56 [vR 0,vI v1,vU] [] (Hb 0 c2)
 obtain ⟨x3, ex3, h⟩ := lt_e h
 exact yC (L' := [vR 0,vI x3,vU]) (1 : Int32) (D21 30) rfl rfl (by subst ex3; rfl) (xV (pc' := 6) (D21 31) (by decide) rfl (xE (L' := [vR 0,vI x3,vU]) ⟨rfl, rfl, trivial⟩ (hk6 x3 c2 _ h)))
def f_parseSum_62 (n : Nat) (s : St) : Option (St) :=
 some s
theorem ok21_62 (hw : HW a0 Z) (n0 n : Nat) (s r : St) (h : f_parseSum_62 n s = some r) : W21 l Z n0 (P21 r) 0 0 62 [vU,vU,vU] [] (Hb 0 s) := by
 unfold f_parseSum_62 at h
 cases h
 exact xS (D21 32) rfl (leb rfl) (leb rfl) ⟨rfl, rfl⟩
def g_parseSum_6 (k6 : KT0) (n : Nat) (v1 : Int32) (s : St) : Option (St) :=
 if v1 < (256 : Int32) then
  if (gI s 12) = 0 then
   f_parseSum_62 n s
  else
   (f_kindAt (gI s 11) s).bind fun c3 =>
   if c3 = (20 : Int32) then
    f_parseSum_42 k6 n v1 s
   else
    if c3 = (21 : Int32) then
     f_parseSum_42 k6 n v1 s
    else
     some s
 else
  f_parseSum_62 n s
theorem okg21_6 (hw : HW a0 Z) (n0 : Nat) (k6 : KT0) (hk6 : HK21_6 l Z n0 k6) (n : Nat) (v1 : Int32) (s r : St) (h : g_parseSum_6 k6 n v1 s = some r) : W21 l Z n0 (P21 r) 0 0 6 [vR 0,vI v1,vU] [] (Hb 0 s) := by
 unfold g_parseSum_6 at h
 refine xC (D21 4) rfl (yB 256 (D21 5) rfl ?_)
 rcases ite_e h with ⟨hc1, h⟩ | ⟨hc1, h⟩
 ·
  refine xJ (D21 6) (XT.ii_ge_f hc1) (xA (D21 7) rfl (xD (i := 0) (j := 27) (D21 8) (m126 hw) rfl rfl rfl ?_))
  rcases ite_e h with ⟨hc2, h⟩ | ⟨hc2, h⟩
  ·
   exact xL (pc' := 62) (D21 9) (XT.i0_eq_t hc2) (by decide) rfl (xE (L' := [vU,vU,vU]) trivial (ok21_62 hw n0 n s _ h))
  ·
   refine xM (D21 9) (XT.i0_eq_f hc2) (xA (D21 10) rfl (xA (D21 11) rfl (xD (i := 0) (j := 26) (D21 12) (m128 hw) rfl rfl rfl ?_)))
   obtain ⟨c3, hc3, h⟩ := bd h
   refine xF (i := 0) (y := y9) (as := [.int (gI s 11)]) (S := []) (D21 13) (m138 hw) (m140 hw) (m1 hw) (m139 hw) (m141 hw) (m2 hw) hy9 rfl (ok9 hw (gI s 11) s _ hc3) rfl (lenOf pd9 rfl) (leb rfl) (leb rfl) (leb rfl) (leb rfl) ?_
   rintro _ _ ⟨rfl, rfl⟩
   show W21 l Z n0 (P21 r) 0 0 28 [vR 0,vI v1,vU] [.int c3] (Hb 0 s)
   refine xP (L' := [vR 0,vI v1,vI c3]) (D21 14) (leb rfl) rfl (xC (D21 15) rfl (xG 20 (D21 16) rfl ?_))
   rcases ite_e h with ⟨hc4, h⟩ | ⟨hc4, h⟩
   ·
    exact xI (pc' := 42) (D21 17) (XT.ii_eq_t hc4) (by decide) rfl (xE (L' := [vR 0,vI v1,vU]) ⟨rfl, rfl, trivial⟩ (ok21_42 hw n0 _ hk6 n v1 s _ h))
   ·
    refine xJ (D21 17) (XT.ii_eq_f hc4) (xC (D21 18) rfl (xG 21 (D21 19) rfl ?_))
    rcases ite_e h with ⟨hc5, h⟩ | ⟨hc5, h⟩
    ·
     exact xI (pc' := 42) (D21 20) (XT.ii_eq_t hc5) (by decide) rfl (xE (L' := [vR 0,vI v1,vU]) ⟨rfl, rfl, trivial⟩ (ok21_42 hw n0 _ hk6 n v1 s _ h))
    ·
     refine xJ (D21 20) (XT.ii_eq_f hc5) ?_
     cases h
     exact xS (D21 21) rfl (leb rfl) (leb rfl) ⟨rfl, rfl⟩
 ·
  exact xI (pc' := 62) (D21 6) (XT.ii_ge_t hc1) (by decide) rfl (xE (L' := [vU,vU,vU]) trivial (ok21_62 hw n0 n s _ h))
def f_parseSum_6 : Nat → Int32 → St → Option (St)
 | 0 => fun _ _ => none
 | n + 1 => g_parseSum_6 (f_parseSum_6 n) n
theorem ok21_6 (hw : HW a0 Z) (n0 : Nat) : ∀ (n : Nat) (v1 : Int32) (s r : St), f_parseSum_6 n v1 s = some r → W21 l Z n0 (P21 r) 0 0 6 [vR 0,vI v1,vU] [] (Hb 0 s)
 | 0, v1, s, r, h => nomatch (show none = some r from h)
 | n + 1, v1, s, r, h => okg21_6 hw n0 _ (ok21_6 hw n0 n) n v1 s r h
def f_parseSum (n : Nat) (s : St) : Option (St) :=
 (f_parseTerm n s).bind fun c1 =>
 f_parseSum_6 n (0 : Int32) c1
theorem ok21 (hw : HW a0 Z) (n : Nat) (s r : St) (h : f_parseSum n s = some r) : CS l Z CN lay y21 prog_1_method_33_code 3 (none) R21 0 [.ref 0] (Hb 0 s) (P21 r) := by
 refine CS.of_wp pn_cls (leb rfl) fun n0 => ?_
 show W21 l Z n0 (P21 r) 0 0 0 [vR 0,vU,vU] [] (Hb 0 s)
 unfold f_parseSum at h
 refine xA (D21 0) rfl ?_
 obtain ⟨c1, hc1, h⟩ := bd h
 refine xF (i := 0) (y := y22) (as := []) (S := []) (D21 1) (m192 hw) (m194 hw) (m1 hw) (m193 hw) (m195 hw) (m2 hw) hy22 rfl (ok22 hw n s _ hc1) rfl (lenOf pd22 rfl) (leb rfl) (leb rfl) (leb rfl) (leb rfl) ?_
 rintro _ _ ⟨rfl, rfl⟩
 show W21 l Z n0 (P21 r) 0 0 4 [vR 0,vU,vU] [] (Hb 0 c1)
 exact xB 0 (D21 2) rfl (xP (L' := [vR 0,vI 0,vU]) (D21 3) (leb rfl) rfl (xE (L' := [vR 0,vI 0,vU]) ⟨rfl, rfl, trivial⟩ (ok21_6 hw n0 n (0 : Int32) c1 _ h)))
def D20 := dA k29 (0,.aload_n 0,1) [(1,.invokevirtual 243,3),(4,.aload_n 0,1),(5,.aload_n 0,1),(6,.getfield 183,3),(9,.invokevirtual 192,3),(12,.istore_n 1,1),(13,.aload_n 0,1),(14,.getfield 180,3),(17,.ifCond .eq 29,3),(20,.iload_n 1,1),(21,.bipush 24,2),(23,.if_icmp .eq 9,3),(26,.iload_n 1,1),(27,.bipush 25,2),(29,.if_icmp .ne 17,3),(32,.aload_n 0,1),(33,.dup,1),(34,.getfield 183,3),(37,.iconst 1,1),(38,.iadd,1),(39,.putfield 183,3),(42,.aload_n 0,1),(43,.invokevirtual 243,3),(46,.return_,1)] (by decide +kernel)
abbrev y20 : MethodName := ⟨"FatPointerC", "parseExpr", "()V"⟩
theorem hy20 : y20.cls ≠ "java/lang/invoke/MethodHandle" ∧ y20.cls ≠ "java/lang/invoke/VarHandle" := by decide
theorem pd20 : parseMethodDescriptor y20.desc = some ⟨[], none⟩ := by decide +kernel
abbrev R20 : Room := { frames := 6, cells := 0, slots := 0, locals := 78 }
abbrev P20 (r : St) : Option Value → List OwnC → Prop := fun v H' => v = none ∧ H' = (Hb 0 r)
abbrev W20 (l : Launch) (Z : State) (n0 : Nat) := WP l Z CN lay "FatPointerC" "parseExpr" prog_1_method_32_code 2 (none) R20 n0 0
def f_parseExpr_46 (n : Nat) (s : St) : Option (St) :=
 some s
theorem ok20_46 (hw : HW a0 Z) (n0 n : Nat) (s r : St) (h : f_parseExpr_46 n s = some r) : W20 l Z n0 (P20 r) 0 0 46 [vU,vU] [] (Hb 0 s) := by
 unfold f_parseExpr_46 at h
 cases h
 exact xS (D20 24) rfl (leb rfl) (leb rfl) ⟨rfl, rfl⟩
def f_parseExpr_32 (n : Nat) (s : St) : Option (St) :=
 lt (sI s 11 ((gI s 11) + (1 : Int32))) fun s1 =>
 (f_parseSum n s1).bind fun c2 =>
 f_parseExpr_46 n c2
theorem ok20_32 (hw : HW a0 Z) (n0 n : Nat) (s r : St) (h : f_parseExpr_32 n s = some r) : W20 l Z n0 (P20 r) 0 0 32 [vR 0,vU] [] (Hb 0 s) := by
 unfold f_parseExpr_32 at h
 refine xA (D20 16) rfl (yA (D20 17) rfl (xD (i := 0) (j := 26) (D20 18) (m128 hw) rfl rfl rfl (xB 1 (D20 19) rfl (xO (D20 20) ?_))))
 obtain ⟨s1, es1, h⟩ := lt_e h
 refine xT (i := 0) (j := 26) (H' := (Hb 0 s1)) (D20 21) (m128 hw) (Or.inl (m129 hw)) (m1 hw) (hlay hw) rfl rfl rfl (leb rfl) (by subst es1; rfl) (xA (D20 22) rfl ?_)
 obtain ⟨c2, hc2, h⟩ := bd h
 refine xF (i := 0) (y := y21) (as := []) (S := []) (D20 23) (m188 hw) (m190 hw) (m1 hw) (m189 hw) (m191 hw) (m2 hw) hy21 rfl (ok21 hw n s1 _ hc2) rfl (lenOf pd21 rfl) (leb rfl) (leb rfl) (leb rfl) (leb rfl) ?_
 rintro _ _ ⟨rfl, rfl⟩
 show W20 l Z n0 (P20 r) 0 0 46 [vR 0,vU] [] (Hb 0 c2)
 exact xE (L' := [vU,vU]) trivial (ok20_46 hw n0 n c2 _ h)
def f_parseExpr (n : Nat) (s : St) : Option (St) :=
 (f_parseSum n s).bind fun c1 =>
 (f_kindAt (gI c1 11) c1).bind fun c2 =>
 if (gI c1 12) = 0 then
  f_parseExpr_46 n c1
 else
  if c2 = (24 : Int32) then
   f_parseExpr_32 n c1
  else
   if c2 = (25 : Int32) then
    f_parseExpr_32 n c1
   else
    f_parseExpr_46 n c1
theorem ok20 (hw : HW a0 Z) (n : Nat) (s r : St) (h : f_parseExpr n s = some r) : CS l Z CN lay y20 prog_1_method_32_code 2 (none) R20 0 [.ref 0] (Hb 0 s) (P20 r) := by
 refine CS.of_wp pn_cls (leb rfl) fun n0 => ?_
 show W20 l Z n0 (P20 r) 0 0 0 [vR 0,vU] [] (Hb 0 s)
 unfold f_parseExpr at h
 refine xA (D20 0) rfl ?_
 obtain ⟨c1, hc1, h⟩ := bd h
 refine xF (i := 0) (y := y21) (as := []) (S := []) (D20 1) (m188 hw) (m190 hw) (m1 hw) (m189 hw) (m191 hw) (m2 hw) hy21 rfl (ok21 hw n s _ hc1) rfl (lenOf pd21 rfl) (leb rfl) (leb rfl) (leb rfl) (leb rfl) ?_
 rintro _ _ ⟨rfl, rfl⟩
 show W20 l Z n0 (P20 r) 0 0 4 [vR 0,vU] [] (Hb 0 c1)
 refine xA (D20 2) rfl (xA (D20 3) rfl (xD (i := 0) (j := 26) (D20 4) (m128 hw) rfl rfl rfl ?_))
 obtain ⟨c2, hc2, h⟩ := bd h
 refine xF (i := 0) (y := y9) (as := [.int (gI c1 11)]) (S := []) (D20 5) (m138 hw) (m140 hw) (m1 hw) (m139 hw) (m141 hw) (m2 hw) hy9 rfl (ok9 hw (gI c1 11) c1 _ hc2) rfl (lenOf pd9 rfl) (leb rfl) (leb rfl) (leb rfl) (leb rfl) ?_
 rintro _ _ ⟨rfl, rfl⟩
 show W20 l Z n0 (P20 r) 0 0 12 [vR 0,vU] [.int c2] (Hb 0 c1)
 refine xP (L' := [vR 0,vI c2]) (D20 6) (leb rfl) rfl (xA (D20 7) rfl (xD (i := 0) (j := 27) (D20 8) (m126 hw) rfl rfl rfl ?_))
 rcases ite_e h with ⟨hc3, h⟩ | ⟨hc3, h⟩
 ·
  exact xL (pc' := 46) (D20 9) (XT.i0_eq_t hc3) (by decide) rfl (xE (L' := [vU,vU]) trivial (ok20_46 hw n0 n c1 _ h))
 ·
  refine xM (D20 9) (XT.i0_eq_f hc3) (xC (D20 10) rfl (xG 24 (D20 11) rfl ?_))
  rcases ite_e h with ⟨hc4, h⟩ | ⟨hc4, h⟩
  ·
   exact xI (pc' := 32) (D20 12) (XT.ii_eq_t hc4) (by decide) rfl (xE (L' := [vR 0,vU]) ⟨rfl, trivial⟩ (ok20_32 hw n0 n c1 _ h))
  ·
   refine xJ (D20 12) (XT.ii_eq_f hc4) (xC (D20 13) rfl (xG 25 (D20 14) rfl ?_))
   rcases ite_e h with ⟨hc5, h⟩ | ⟨hc5, h⟩
   ·
    exact xJ (D20 15) (XT.ii_ne_f hc5) (xE (L' := [vR 0,vU]) ⟨rfl, trivial⟩ (ok20_32 hw n0 n c1 _ h))
   ·
    exact xI (pc' := 46) (D20 15) (XT.ii_ne_t hc5) (by decide) rfl (xE (L' := [vU,vU]) trivial (ok20_46 hw n0 n c1 _ h))
def D18 := dA k27 (0,.aload_n 0,1) [(1,.invokevirtual 234,3),(4,.istore_n 1,1),(5,.aload_n 0,1),(6,.getfield 180,3),(9,.ifCond .ne 4,3),(12,.return_,1),(13,.aload_n 0,1),(14,.aload_n 0,1),(15,.getfield 183,3),(18,.invokevirtual 192,3),(21,.bipush 19,2),(23,.if_icmp .ne 66,3),(26,.aload_n 0,1),(27,.getfield 41,3),(30,.aload_n 0,1),(31,.getfield 202,3),(34,.bipush 8,2),(36,.imul,1),(37,.iload_n 1,1),(38,.iadd,1),(39,.baload,1),(40,.ifCond .eq 9,3),(43,.aload_n 0,1),(44,.iconst 0,1),(45,.putfield 180,3),(48,.return_,1),(49,.aload_n 0,1),(50,.dup,1),(51,.getfield 183,3),(54,.iconst 1,1),(55,.iadd,1),(56,.putfield 183,3),(59,.aload_n 0,1),(60,.aload_n 0,1),(61,.getfield 183,3),(64,.invokevirtual 192,3),(67,.iconst 3,1),(68,.if_icmp .ne 10,3),(71,.aload_n 0,1),(72,.invokevirtual 237,3),(78,.aload_n 0,1),(79,.invokevirtual 228,3),(82,.aload_n 0,1),(83,.bipush 17,2),(85,.invokevirtual 195,3),(88,.return_,1),(89,.aload_n 0,1),(90,.bipush 15,2),(92,.invokevirtual 195,3),(95,.aload_n 0,1),(96,.invokevirtual 240,3),(99,.aload_n 0,1),(100,.bipush 16,2),(102,.invokevirtual 195,3),(105,.aload_n 0,1),(106,.bipush 19,2),(108,.invokevirtual 195,3),(111,.aload_n 0,1),(112,.invokevirtual 228,3),(115,.aload_n 0,1),(116,.bipush 17,2),(118,.invokevirtual 195,3),(121,.return_,1)] (by decide +kernel)
abbrev y18 : MethodName := ⟨"FatPointerC", "parseVarStmt", "()V"⟩
theorem hy18 : y18.cls ≠ "java/lang/invoke/MethodHandle" ∧ y18.cls ≠ "java/lang/invoke/VarHandle" := by decide
theorem pd18 : parseMethodDescriptor y18.desc = some ⟨[], none⟩ := by decide +kernel
abbrev R18 : Room := { frames := 7, cells := 0, slots := 0, locals := 91 }
abbrev P18 (r : St) : Option Value → List OwnC → Prop := fun v H' => v = none ∧ H' = (Hb 0 r)
abbrev W18 (l : Launch) (Z : State) (n0 : Nat) := WP l Z CN lay "FatPointerC" "parseVarStmt" prog_1_method_29_code 2 (none) R18 n0 0
def f_parseVarStmt (n : Nat) (s : St) : Option (St) :=
 (f_useVar s).bind fun c1 =>
 if (gI c1.2 12) = 0 then
  some c1.2
 else
  (f_kindAt (gI c1.2 11) c1.2).bind fun c3 =>
  if c3 = (19 : Int32) then
   (rd (gA c1.2 10) (((gI c1.2 13) * (8 : Int32)) + c1.1)).bind fun x5 =>
   if x5 = 0 then
    lt (sI c1.2 11 ((gI c1.2 11) + (1 : Int32))) fun s7 =>
    (f_kindAt (gI s7 11) s7).bind fun c8 =>
    if c8 = (3 : Int32) then
     none
    else
     (f_parseExpr n s7).bind fun c10 =>
     (f_expect (17 : Int32) c10).bind fun c11 =>
     some c11
   else
    lt (sI c1.2 12 (0 : Int32)) fun s12 =>
    some s12
  else
   (f_expect (15 : Int32) c1.2).bind fun c13 =>
   (f_parseAtom c13).bind fun c14 =>
   (f_expect (16 : Int32) c14).bind fun c15 =>
   (f_expect (19 : Int32) c15).bind fun c16 =>
   (f_parseExpr n c16).bind fun c17 =>
   (f_expect (17 : Int32) c17).bind fun c18 =>
   some c18
theorem ok18 (hw : HW a0 Z) (n : Nat) (s r : St) (h : f_parseVarStmt n s = some r) : CS l Z CN lay y18 prog_1_method_29_code 2 (none) R18 0 [.ref 0] (Hb 0 s) (P18 r) := by
 refine CS.of_wp pn_cls (leb rfl) fun n0 => ?_
 show W18 l Z n0 (P18 r) 0 0 0 [vR 0,vU] [] (Hb 0 s)
 unfold f_parseVarStmt at h
 refine xA (D18 0) rfl ?_
 obtain ⟨c1, hc1, h⟩ := bd h
 refine xF (i := 0) (y := y19) (as := []) (S := []) (D18 1) (m180 hw) (m182 hw) (m1 hw) (m181 hw) (m183 hw) (m2 hw) hy19 rfl (ok19 hw s _ hc1) rfl (lenOf pd19 rfl) (leb rfl) (leb rfl) (leb rfl) (leb rfl) ?_
 rintro _ _ ⟨rfl, rfl⟩
 show W18 l Z n0 (P18 r) 0 0 4 [vR 0,vU] [.int c1.1] (Hb 0 c1.2)
 refine xP (L' := [vR 0,vI c1.1]) (D18 2) (leb rfl) rfl (xA (D18 3) rfl (xD (i := 0) (j := 27) (D18 4) (m126 hw) rfl rfl rfl ?_))
 rcases ite_e h with ⟨hc2, h⟩ | ⟨hc2, h⟩
 ·
  refine xM (D18 5) (XT.i0_ne_f hc2) ?_
  cases h
  exact xS (D18 6) rfl (leb rfl) (leb rfl) ⟨rfl, rfl⟩
 ·
  refine xL (pc' := 13) (D18 5) (XT.i0_ne_t hc2) (by decide) rfl (xA (D18 7) rfl (xA (D18 8) rfl (xD (i := 0) (j := 26) (D18 9) (m128 hw) rfl rfl rfl ?_)))
  obtain ⟨c3, hc3, h⟩ := bd h
  refine xF (i := 0) (y := y9) (as := [.int (gI c1.2 11)]) (S := []) (D18 10) (m138 hw) (m140 hw) (m1 hw) (m139 hw) (m141 hw) (m2 hw) hy9 rfl (ok9 hw (gI c1.2 11) c1.2 _ hc3) rfl (lenOf pd9 rfl) (leb rfl) (leb rfl) (leb rfl) (leb rfl) ?_
  rintro _ _ ⟨rfl, rfl⟩
  show W18 l Z n0 (P18 r) 0 0 21 [vR 0,vI c1.1] [.int c3] (Hb 0 c1.2)
  refine xG 19 (D18 11) rfl ?_
  rcases ite_e h with ⟨hc4, h⟩ | ⟨hc4, h⟩
  ·
   refine xJ (D18 12) (XT.ii_ne_f hc4) (xA (D18 13) rfl (xD (i := 0) (j := 21) (D18 14) (m31 hw) rfl rfl rfl (xA (D18 15) rfl (xD (i := 0) (j := 28) (D18 16) (m146 hw) rfl rfl rfl (xG 8 (D18 17) rfl (yI (D18 18) (xC (D18 19) rfl (xO (D18 20) ?_))))))))
   obtain ⟨x5, hx5, h⟩ := bd h
   refine yR (i := 11) (D18 21) rfl hx5 ?_
   rcases ite_e h with ⟨hc6, h⟩ | ⟨hc6, h⟩
   ·
    refine xL (pc' := 49) (D18 22) (XT.i0_eq_t hc6) (by decide) rfl (xA (D18 27) rfl (yA (D18 28) rfl (xD (i := 0) (j := 26) (D18 29) (m128 hw) rfl rfl rfl (xB 1 (D18 30) rfl (xO (D18 31) ?_)))))
    obtain ⟨s7, es7, h⟩ := lt_e h
    refine xT (i := 0) (j := 26) (H' := (Hb 0 s7)) (D18 32) (m128 hw) (Or.inl (m129 hw)) (m1 hw) (hlay hw) rfl rfl rfl (leb rfl) (by subst es7; rfl) (xA (D18 33) rfl (xA (D18 34) rfl (xD (i := 0) (j := 26) (D18 35) (m128 hw) rfl rfl rfl ?_)))
    obtain ⟨c8, hc8, h⟩ := bd h
    refine xF (i := 0) (y := y9) (as := [.int (gI s7 11)]) (S := []) (D18 36) (m138 hw) (m140 hw) (m1 hw) (m139 hw) (m141 hw) (m2 hw) hy9 rfl (ok9 hw (gI s7 11) s7 _ hc8) rfl (lenOf pd9 rfl) (leb rfl) (leb rfl) (leb rfl) (leb rfl) ?_
    rintro _ _ ⟨rfl, rfl⟩
    show W18 l Z n0 (P18 r) 0 0 67 [vR 0,vI c1.1] [.int c8] (Hb 0 s7)
    refine xB 3 (D18 37) rfl ?_
    rcases ite_e h with ⟨hc9, h⟩ | ⟨hc9, h⟩
    ·
     refine xJ (D18 38) (XT.ii_ne_f hc9) (xA (D18 39) rfl ?_)
     cases h
    ·
     refine xI (pc' := 78) (D18 38) (XT.ii_ne_t hc9) (by decide) rfl (xA (D18 41) rfl ?_)
     obtain ⟨c10, hc10, h⟩ := bd h
     refine xF (i := 0) (y := y20) (as := []) (S := []) (D18 42) (m184 hw) (m186 hw) (m1 hw) (m185 hw) (m187 hw) (m2 hw) hy20 rfl (ok20 hw n s7 _ hc10) rfl (lenOf pd20 rfl) (leb rfl) (leb rfl) (leb rfl) (leb rfl) ?_
     rintro _ _ ⟨rfl, rfl⟩
     show W18 l Z n0 (P18 r) 0 0 82 [vR 0,vI c1.1] [] (Hb 0 c10)
     refine xA (D18 43) rfl (xG 17 (D18 44) rfl ?_)
     obtain ⟨c11, hc11, h⟩ := bd h
     refine xF (i := 0) (y := y8) (as := [.int (17 : Int32)]) (S := []) (D18 45) (m134 hw) (m136 hw) (m1 hw) (m135 hw) (m137 hw) (m2 hw) hy8 rfl (ok8 hw (17 : Int32) c10 _ hc11) rfl (lenOf pd8 rfl) (leb rfl) (leb rfl) (leb rfl) (leb rfl) ?_
     rintro _ _ ⟨rfl, rfl⟩
     show W18 l Z n0 (P18 r) 0 0 88 [vR 0,vI c1.1] [] (Hb 0 c11)
     cases h
     exact xS (D18 46) rfl (leb rfl) (leb rfl) ⟨rfl, rfl⟩
   ·
    refine xM (D18 22) (XT.i0_eq_f hc6) (xA (D18 23) rfl (xB 0 (D18 24) rfl ?_))
    obtain ⟨s12, es12, h⟩ := lt_e h
    refine yD (i := 0) (j := 27) (H' := (Hb 0 s12)) (D18 25) (m126 hw) (Or.inl (m127 hw)) (m1 hw) (hlay hw) rfl rfl rfl (leb rfl) (by subst es12; rfl) ?_
    cases h
    exact xS (D18 26) rfl (leb rfl) (leb rfl) ⟨rfl, rfl⟩
  ·
   refine xI (pc' := 89) (D18 12) (XT.ii_ne_t hc4) (by decide) rfl (xA (D18 47) rfl (xG 15 (D18 48) rfl ?_))
   obtain ⟨c13, hc13, h⟩ := bd h
   refine xF (i := 0) (y := y8) (as := [.int (15 : Int32)]) (S := []) (D18 49) (m134 hw) (m136 hw) (m1 hw) (m135 hw) (m137 hw) (m2 hw) hy8 rfl (ok8 hw (15 : Int32) c1.2 _ hc13) rfl (lenOf pd8 rfl) (leb rfl) (leb rfl) (leb rfl) (leb rfl) ?_
   rintro _ _ ⟨rfl, rfl⟩
   show W18 l Z n0 (P18 r) 0 0 95 [vR 0,vI c1.1] [] (Hb 0 c13)
   refine xA (D18 50) rfl ?_
   obtain ⟨c14, hc14, h⟩ := bd h
   refine xF (i := 0) (y := y24) (as := []) (S := []) (D18 51) (m200 hw) (m202 hw) (m1 hw) (m201 hw) (m203 hw) (m2 hw) hy24 rfl (ok24 hw c13 _ hc14) rfl (lenOf pd24 rfl) (leb rfl) (leb rfl) (leb rfl) (leb rfl) ?_
   rintro _ _ ⟨rfl, rfl⟩
   show W18 l Z n0 (P18 r) 0 0 99 [vR 0,vI c1.1] [] (Hb 0 c14)
   refine xA (D18 52) rfl (xG 16 (D18 53) rfl ?_)
   obtain ⟨c15, hc15, h⟩ := bd h
   refine xF (i := 0) (y := y8) (as := [.int (16 : Int32)]) (S := []) (D18 54) (m134 hw) (m136 hw) (m1 hw) (m135 hw) (m137 hw) (m2 hw) hy8 rfl (ok8 hw (16 : Int32) c14 _ hc15) rfl (lenOf pd8 rfl) (leb rfl) (leb rfl) (leb rfl) (leb rfl) ?_
   rintro _ _ ⟨rfl, rfl⟩
   show W18 l Z n0 (P18 r) 0 0 105 [vR 0,vI c1.1] [] (Hb 0 c15)
   refine xA (D18 55) rfl (xG 19 (D18 56) rfl ?_)
   obtain ⟨c16, hc16, h⟩ := bd h
   refine xF (i := 0) (y := y8) (as := [.int (19 : Int32)]) (S := []) (D18 57) (m134 hw) (m136 hw) (m1 hw) (m135 hw) (m137 hw) (m2 hw) hy8 rfl (ok8 hw (19 : Int32) c15 _ hc16) rfl (lenOf pd8 rfl) (leb rfl) (leb rfl) (leb rfl) (leb rfl) ?_
   rintro _ _ ⟨rfl, rfl⟩
   show W18 l Z n0 (P18 r) 0 0 111 [vR 0,vI c1.1] [] (Hb 0 c16)
   refine xA (D18 58) rfl ?_
   obtain ⟨c17, hc17, h⟩ := bd h
   refine xF (i := 0) (y := y20) (as := []) (S := []) (D18 59) (m184 hw) (m186 hw) (m1 hw) (m185 hw) (m187 hw) (m2 hw) hy20 rfl (ok20 hw n c16 _ hc17) rfl (lenOf pd20 rfl) (leb rfl) (leb rfl) (leb rfl) (leb rfl) ?_
   rintro _ _ ⟨rfl, rfl⟩
   show W18 l Z n0 (P18 r) 0 0 115 [vR 0,vI c1.1] [] (Hb 0 c17)
   refine xA (D18 60) rfl (xG 17 (D18 61) rfl ?_)
   obtain ⟨c18, hc18, h⟩ := bd h
   refine xF (i := 0) (y := y8) (as := [.int (17 : Int32)]) (S := []) (D18 62) (m134 hw) (m136 hw) (m1 hw) (m135 hw) (m137 hw) (m2 hw) hy8 rfl (ok8 hw (17 : Int32) c17 _ hc18) rfl (lenOf pd8 rfl) (leb rfl) (leb rfl) (leb rfl) (leb rfl) ?_
   rintro _ _ ⟨rfl, rfl⟩
   show W18 l Z n0 (P18 r) 0 0 121 [vR 0,vI c1.1] [] (Hb 0 c18)
   cases h
   exact xS (D18 63) rfl (leb rfl) (leb rfl) ⟨rfl, rfl⟩
def D17 := dA k26 (0,.aload_n 0,1) [(1,.aload_n 0,1),(2,.getfield 183,3),(5,.invokevirtual 192,3),(8,.istore_n 1,1),(9,.iload_n 1,1),(10,.bipush 7,2),(12,.if_icmp .eq 9,3),(15,.iload_n 1,1),(16,.bipush 8,2),(18,.if_icmp .ne 36,3),(21,.aload_n 0,1),(22,.dup,1),(23,.getfield 183,3),(26,.iconst 1,1),(27,.iadd,1),(28,.putfield 183,3),(31,.aload_n 0,1),(32,.bipush 11,2),(34,.invokevirtual 195,3),(37,.aload_n 0,1),(38,.invokevirtual 228,3),(41,.aload_n 0,1),(42,.bipush 12,2),(44,.invokevirtual 195,3),(47,.aload_n 0,1),(48,.bipush 13,2),(50,.invokevirtual 195,3),(53,.return_,1),(54,.iload_n 1,1),(55,.iconst 2,1),(56,.if_icmp .ne 8,3),(59,.aload_n 0,1),(60,.invokevirtual 231,3),(63,.return_,1),(64,.iload_n 1,1),(65,.bipush 22,2),(67,.if_icmp .ne 35,3),(70,.aload_n 0,1),(71,.dup,1),(72,.getfield 183,3),(75,.iconst 1,1),(76,.iadd,1),(77,.putfield 183,3),(80,.aload_n 0,1),(81,.invokevirtual 234,3),(84,.pop,1),(85,.aload_n 0,1),(86,.bipush 19,2),(88,.invokevirtual 195,3),(91,.aload_n 0,1),(92,.invokevirtual 228,3),(95,.aload_n 0,1),(96,.bipush 17,2),(98,.invokevirtual 195,3),(101,.return_,1),(102,.iload_n 1,1),(103,.iconst 3,1),(104,.if_icmp .ne 14,3),(107,.aload_n 0,1),(108,.invokevirtual 237,3),(118,.iload_n 1,1),(119,.bipush 10,2),(121,.if_icmp .eq 9,3),(124,.iload_n 1,1),(125,.bipush 9,2),(127,.if_icmp .ne 24,3),(130,.aload_n 0,1),(131,.dup,1),(132,.getfield 183,3),(135,.iconst 1,1),(136,.iadd,1),(137,.putfield 183,3),(140,.aload_n 0,1),(141,.invokevirtual 228,3),(144,.aload_n 0,1),(145,.bipush 17,2),(147,.invokevirtual 195,3),(150,.return_,1),(151,.aload_n 0,1),(152,.iconst 0,1),(153,.putfield 180,3),(156,.return_,1)] (by decide +kernel)
abbrev y17 : MethodName := ⟨"FatPointerC", "parseStmt", "()V"⟩
theorem hy17 : y17.cls ≠ "java/lang/invoke/MethodHandle" ∧ y17.cls ≠ "java/lang/invoke/VarHandle" := by decide
theorem pd17 : parseMethodDescriptor y17.desc = some ⟨[], none⟩ := by decide +kernel
abbrev R17 : Room := { frames := 8, cells := 0, slots := 0, locals := 104 }
abbrev P17 (r : St) : Option Value → List OwnC → Prop := fun v H' => v = none ∧ H' = (Hb 0 r)
abbrev W17 (l : Launch) (Z : State) (n0 : Nat) := WP l Z CN lay "FatPointerC" "parseStmt" prog_1_method_28_code 2 (none) R17 n0 0
def f_parseStmt_21 (n : Nat) (s : St) : Option (St) :=
 lt (sI s 11 ((gI s 11) + (1 : Int32))) fun s1 =>
 (f_expect (11 : Int32) s1).bind fun c2 =>
 (f_parseExpr n c2).bind fun c3 =>
 (f_expect (12 : Int32) c3).bind fun c4 =>
 (f_expect (13 : Int32) c4).bind fun c5 =>
 some c5
theorem ok17_21 (hw : HW a0 Z) (n0 n : Nat) (s r : St) (h : f_parseStmt_21 n s = some r) : W17 l Z n0 (P17 r) 0 0 21 [vR 0,vU] [] (Hb 0 s) := by
 unfold f_parseStmt_21 at h
 refine xA (D17 11) rfl (yA (D17 12) rfl (xD (i := 0) (j := 26) (D17 13) (m128 hw) rfl rfl rfl (xB 1 (D17 14) rfl (xO (D17 15) ?_))))
 obtain ⟨s1, es1, h⟩ := lt_e h
 refine xT (i := 0) (j := 26) (H' := (Hb 0 s1)) (D17 16) (m128 hw) (Or.inl (m129 hw)) (m1 hw) (hlay hw) rfl rfl rfl (leb rfl) (by subst es1; rfl) (xA (D17 17) rfl (xG 11 (D17 18) rfl ?_))
 obtain ⟨c2, hc2, h⟩ := bd h
 refine xF (i := 0) (y := y8) (as := [.int (11 : Int32)]) (S := []) (D17 19) (m134 hw) (m136 hw) (m1 hw) (m135 hw) (m137 hw) (m2 hw) hy8 rfl (ok8 hw (11 : Int32) s1 _ hc2) rfl (lenOf pd8 rfl) (leb rfl) (leb rfl) (leb rfl) (leb rfl) ?_
 rintro _ _ ⟨rfl, rfl⟩
 show W17 l Z n0 (P17 r) 0 0 37 [vR 0,vU] [] (Hb 0 c2)
 refine xA (D17 20) rfl ?_
 obtain ⟨c3, hc3, h⟩ := bd h
 refine xF (i := 0) (y := y20) (as := []) (S := []) (D17 21) (m184 hw) (m186 hw) (m1 hw) (m185 hw) (m187 hw) (m2 hw) hy20 rfl (ok20 hw n c2 _ hc3) rfl (lenOf pd20 rfl) (leb rfl) (leb rfl) (leb rfl) (leb rfl) ?_
 rintro _ _ ⟨rfl, rfl⟩
 show W17 l Z n0 (P17 r) 0 0 41 [vR 0,vU] [] (Hb 0 c3)
 refine xA (D17 22) rfl (xG 12 (D17 23) rfl ?_)
 obtain ⟨c4, hc4, h⟩ := bd h
 refine xF (i := 0) (y := y8) (as := [.int (12 : Int32)]) (S := []) (D17 24) (m134 hw) (m136 hw) (m1 hw) (m135 hw) (m137 hw) (m2 hw) hy8 rfl (ok8 hw (12 : Int32) c3 _ hc4) rfl (lenOf pd8 rfl) (leb rfl) (leb rfl) (leb rfl) (leb rfl) ?_
 rintro _ _ ⟨rfl, rfl⟩
 show W17 l Z n0 (P17 r) 0 0 47 [vR 0,vU] [] (Hb 0 c4)
 refine xA (D17 25) rfl (xG 13 (D17 26) rfl ?_)
 obtain ⟨c5, hc5, h⟩ := bd h
 refine xF (i := 0) (y := y8) (as := [.int (13 : Int32)]) (S := []) (D17 27) (m134 hw) (m136 hw) (m1 hw) (m135 hw) (m137 hw) (m2 hw) hy8 rfl (ok8 hw (13 : Int32) c4 _ hc5) rfl (lenOf pd8 rfl) (leb rfl) (leb rfl) (leb rfl) (leb rfl) ?_
 rintro _ _ ⟨rfl, rfl⟩
 show W17 l Z n0 (P17 r) 0 0 53 [vR 0,vU] [] (Hb 0 c5)
 cases h
 exact xS (D17 28) rfl (leb rfl) (leb rfl) ⟨rfl, rfl⟩
def f_parseStmt_130 (n : Nat) (s : St) : Option (St) :=
 lt (sI s 11 ((gI s 11) + (1 : Int32))) fun s1 =>
 (f_parseExpr n s1).bind fun c2 =>
 (f_expect (17 : Int32) c2).bind fun c3 =>
 some c3
theorem ok17_130 (hw : HW a0 Z) (n0 n : Nat) (s r : St) (h : f_parseStmt_130 n s = some r) : W17 l Z n0 (P17 r) 0 0 130 [vR 0,vU] [] (Hb 0 s) := by
 unfold f_parseStmt_130 at h
 refine xA (D17 67) rfl (yA (D17 68) rfl (xD (i := 0) (j := 26) (D17 69) (m128 hw) rfl rfl rfl (xB 1 (D17 70) rfl (xO (D17 71) ?_))))
 obtain ⟨s1, es1, h⟩ := lt_e h
 refine xT (i := 0) (j := 26) (H' := (Hb 0 s1)) (D17 72) (m128 hw) (Or.inl (m129 hw)) (m1 hw) (hlay hw) rfl rfl rfl (leb rfl) (by subst es1; rfl) (xA (D17 73) rfl ?_)
 obtain ⟨c2, hc2, h⟩ := bd h
 refine xF (i := 0) (y := y20) (as := []) (S := []) (D17 74) (m184 hw) (m186 hw) (m1 hw) (m185 hw) (m187 hw) (m2 hw) hy20 rfl (ok20 hw n s1 _ hc2) rfl (lenOf pd20 rfl) (leb rfl) (leb rfl) (leb rfl) (leb rfl) ?_
 rintro _ _ ⟨rfl, rfl⟩
 show W17 l Z n0 (P17 r) 0 0 144 [vR 0,vU] [] (Hb 0 c2)
 refine xA (D17 75) rfl (xG 17 (D17 76) rfl ?_)
 obtain ⟨c3, hc3, h⟩ := bd h
 refine xF (i := 0) (y := y8) (as := [.int (17 : Int32)]) (S := []) (D17 77) (m134 hw) (m136 hw) (m1 hw) (m135 hw) (m137 hw) (m2 hw) hy8 rfl (ok8 hw (17 : Int32) c2 _ hc3) rfl (lenOf pd8 rfl) (leb rfl) (leb rfl) (leb rfl) (leb rfl) ?_
 rintro _ _ ⟨rfl, rfl⟩
 show W17 l Z n0 (P17 r) 0 0 150 [vR 0,vU] [] (Hb 0 c3)
 cases h
 exact xS (D17 78) rfl (leb rfl) (leb rfl) ⟨rfl, rfl⟩
def f_parseStmt (n : Nat) (s : St) : Option (St) :=
 (f_kindAt (gI s 11) s).bind fun c1 =>
 if c1 = (7 : Int32) then
  f_parseStmt_21 n s
 else
  if c1 = (8 : Int32) then
   f_parseStmt_21 n s
  else
   if c1 = (2 : Int32) then
    (f_parseVarStmt n s).bind fun c5 =>
    some c5
   else
    if c1 = (22 : Int32) then
     lt (sI s 11 ((gI s 11) + (1 : Int32))) fun s7 =>
     (f_useVar s7).bind fun c8 =>
     (f_expect (19 : Int32) c8.2).bind fun c9 =>
     (f_parseExpr n c9).bind fun c10 =>
     (f_expect (17 : Int32) c10).bind fun c11 =>
     some c11
    else
     if c1 = (3 : Int32) then
      none
     else
      if c1 = (10 : Int32) then
       f_parseStmt_130 n s
      else
       if c1 = (9 : Int32) then
        f_parseStmt_130 n s
       else
        lt (sI s 12 (0 : Int32)) fun s15 =>
        some s15
theorem ok17 (hw : HW a0 Z) (n : Nat) (s r : St) (h : f_parseStmt n s = some r) : CS l Z CN lay y17 prog_1_method_28_code 2 (none) R17 0 [.ref 0] (Hb 0 s) (P17 r) := by
 refine CS.of_wp pn_cls (leb rfl) fun n0 => ?_
 show W17 l Z n0 (P17 r) 0 0 0 [vR 0,vU] [] (Hb 0 s)
 unfold f_parseStmt at h
 refine xA (D17 0) rfl (xA (D17 1) rfl (xD (i := 0) (j := 26) (D17 2) (m128 hw) rfl rfl rfl ?_))
 obtain ⟨c1, hc1, h⟩ := bd h
 refine xF (i := 0) (y := y9) (as := [.int (gI s 11)]) (S := []) (D17 3) (m138 hw) (m140 hw) (m1 hw) (m139 hw) (m141 hw) (m2 hw) hy9 rfl (ok9 hw (gI s 11) s _ hc1) rfl (lenOf pd9 rfl) (leb rfl) (leb rfl) (leb rfl) (leb rfl) ?_
 rintro _ _ ⟨rfl, rfl⟩
 show W17 l Z n0 (P17 r) 0 0 8 [vR 0,vU] [.int c1] (Hb 0 s)
 refine xP (L' := [vR 0,vI c1]) (D17 4) (leb rfl) rfl (xC (D17 5) rfl (xG 7 (D17 6) rfl ?_))
 rcases ite_e h with ⟨hc2, h⟩ | ⟨hc2, h⟩
 ·
  exact xI (pc' := 21) (D17 7) (XT.ii_eq_t hc2) (by decide) rfl (xE (L' := [vR 0,vU]) ⟨rfl, trivial⟩ (ok17_21 hw n0 n s _ h))
 ·
  refine xJ (D17 7) (XT.ii_eq_f hc2) (xC (D17 8) rfl (xG 8 (D17 9) rfl ?_))
  rcases ite_e h with ⟨hc3, h⟩ | ⟨hc3, h⟩
  ·
   exact xJ (D17 10) (XT.ii_ne_f hc3) (xE (L' := [vR 0,vU]) ⟨rfl, trivial⟩ (ok17_21 hw n0 n s _ h))
  ·
   refine xI (pc' := 54) (D17 10) (XT.ii_ne_t hc3) (by decide) rfl (xC (D17 29) rfl (xB 2 (D17 30) rfl ?_))
   rcases ite_e h with ⟨hc4, h⟩ | ⟨hc4, h⟩
   ·
    refine xJ (D17 31) (XT.ii_ne_f hc4) (xA (D17 32) rfl ?_)
    obtain ⟨c5, hc5, h⟩ := bd h
    refine xF (i := 0) (y := y18) (as := []) (S := []) (D17 33) (m176 hw) (m178 hw) (m1 hw) (m177 hw) (m179 hw) (m2 hw) hy18 rfl (ok18 hw n s _ hc5) rfl (lenOf pd18 rfl) (leb rfl) (leb rfl) (leb rfl) (leb rfl) ?_
    rintro _ _ ⟨rfl, rfl⟩
    show W17 l Z n0 (P17 r) 0 0 63 [vR 0,vI c1] [] (Hb 0 c5)
    cases h
    exact xS (D17 34) rfl (leb rfl) (leb rfl) ⟨rfl, rfl⟩
   ·
    refine xI (pc' := 64) (D17 31) (XT.ii_ne_t hc4) (by decide) rfl (xC (D17 35) rfl (xG 22 (D17 36) rfl ?_))
    rcases ite_e h with ⟨hc6, h⟩ | ⟨hc6, h⟩
    ·
     refine xJ (D17 37) (XT.ii_ne_f hc6) (xA (D17 38) rfl (yA (D17 39) rfl (xD (i := 0) (j := 26) (D17 40) (m128 hw) rfl rfl rfl (xB 1 (D17 41) rfl (xO (D17 42) ?_)))))
     obtain ⟨s7, es7, h⟩ := lt_e h
     refine xT (i := 0) (j := 26) (H' := (Hb 0 s7)) (D17 43) (m128 hw) (Or.inl (m129 hw)) (m1 hw) (hlay hw) rfl rfl rfl (leb rfl) (by subst es7; rfl) (xA (D17 44) rfl ?_)
     obtain ⟨c8, hc8, h⟩ := bd h
     refine xF (i := 0) (y := y19) (as := []) (S := []) (D17 45) (m180 hw) (m182 hw) (m1 hw) (m181 hw) (m183 hw) (m2 hw) hy19 rfl (ok19 hw s7 _ hc8) rfl (lenOf pd19 rfl) (leb rfl) (leb rfl) (leb rfl) (leb rfl) ?_
     rintro _ _ ⟨rfl, rfl⟩
     show W17 l Z n0 (P17 r) 0 0 84 [vR 0,vI c1] [.int c8.1] (Hb 0 c8.2)
     refine WP.pop (D17 46) rfl (xA (D17 47) rfl (xG 19 (D17 48) rfl ?_))
     obtain ⟨c9, hc9, h⟩ := bd h
     refine xF (i := 0) (y := y8) (as := [.int (19 : Int32)]) (S := []) (D17 49) (m134 hw) (m136 hw) (m1 hw) (m135 hw) (m137 hw) (m2 hw) hy8 rfl (ok8 hw (19 : Int32) c8.2 _ hc9) rfl (lenOf pd8 rfl) (leb rfl) (leb rfl) (leb rfl) (leb rfl) ?_
     rintro _ _ ⟨rfl, rfl⟩
     show W17 l Z n0 (P17 r) 0 0 91 [vR 0,vI c1] [] (Hb 0 c9)
     refine xA (D17 50) rfl ?_
     obtain ⟨c10, hc10, h⟩ := bd h
     refine xF (i := 0) (y := y20) (as := []) (S := []) (D17 51) (m184 hw) (m186 hw) (m1 hw) (m185 hw) (m187 hw) (m2 hw) hy20 rfl (ok20 hw n c9 _ hc10) rfl (lenOf pd20 rfl) (leb rfl) (leb rfl) (leb rfl) (leb rfl) ?_
     rintro _ _ ⟨rfl, rfl⟩
     show W17 l Z n0 (P17 r) 0 0 95 [vR 0,vI c1] [] (Hb 0 c10)
     refine xA (D17 52) rfl (xG 17 (D17 53) rfl ?_)
     obtain ⟨c11, hc11, h⟩ := bd h
     refine xF (i := 0) (y := y8) (as := [.int (17 : Int32)]) (S := []) (D17 54) (m134 hw) (m136 hw) (m1 hw) (m135 hw) (m137 hw) (m2 hw) hy8 rfl (ok8 hw (17 : Int32) c10 _ hc11) rfl (lenOf pd8 rfl) (leb rfl) (leb rfl) (leb rfl) (leb rfl) ?_
     rintro _ _ ⟨rfl, rfl⟩
     show W17 l Z n0 (P17 r) 0 0 101 [vR 0,vI c1] [] (Hb 0 c11)
     cases h
     exact xS (D17 55) rfl (leb rfl) (leb rfl) ⟨rfl, rfl⟩
    ·
     refine xI (pc' := 102) (D17 37) (XT.ii_ne_t hc6) (by decide) rfl (xC (D17 56) rfl (xB 3 (D17 57) rfl ?_))
     rcases ite_e h with ⟨hc12, h⟩ | ⟨hc12, h⟩
     ·
      refine xJ (D17 58) (XT.ii_ne_f hc12) (xA (D17 59) rfl ?_)
      cases h
     ·
      refine xI (pc' := 118) (D17 58) (XT.ii_ne_t hc12) (by decide) rfl (xC (D17 61) rfl (xG 10 (D17 62) rfl ?_))
      rcases ite_e h with ⟨hc13, h⟩ | ⟨hc13, h⟩
      ·
       exact xI (pc' := 130) (D17 63) (XT.ii_eq_t hc13) (by decide) rfl (xE (L' := [vR 0,vU]) ⟨rfl, trivial⟩ (ok17_130 hw n0 n s _ h))
      ·
       refine xJ (D17 63) (XT.ii_eq_f hc13) (xC (D17 64) rfl (xG 9 (D17 65) rfl ?_))
       rcases ite_e h with ⟨hc14, h⟩ | ⟨hc14, h⟩
       ·
        exact xJ (D17 66) (XT.ii_ne_f hc14) (xE (L' := [vR 0,vU]) ⟨rfl, trivial⟩ (ok17_130 hw n0 n s _ h))
       ·
        refine xI (pc' := 151) (D17 66) (XT.ii_ne_t hc14) (by decide) rfl (xA (D17 79) rfl (xB 0 (D17 80) rfl ?_))
        obtain ⟨s15, es15, h⟩ := lt_e h
        refine yD (i := 0) (j := 27) (H' := (Hb 0 s15)) (D17 81) (m126 hw) (Or.inl (m127 hw)) (m1 hw) (hlay hw) rfl rfl rfl (leb rfl) (by subst es15; rfl) ?_
        cases h
        exact xS (D17 82) rfl (leb rfl) (leb rfl) ⟨rfl, rfl⟩
def D16 := dA k25 (0,.iconst 0,1) [(1,.istore_n 1,1),(2,.iconst 0,1),(3,.istore_n 2,1),(4,.iload_n 2,1),(5,.sipush 300,3),(8,.if_icmp .ge 160,3),(11,.aload_n 0,1),(12,.getfield 180,3),(15,.ifCond .eq 153,3),(18,.aload_n 0,1),(19,.aload_n 0,1),(20,.getfield 183,3),(23,.invokevirtual 192,3),(26,.istore_n 3,1),(27,.iload_n 3,1),(28,.bipush 14,2),(30,.if_icmp .ne 28,3),(33,.iload_n 1,1),(34,.ifCond .ne 24,3),(37,.aload_n 0,1),(38,.getfield 53,3),(41,.aload_n 0,1),(42,.getfield 183,3),(45,.iconst (-1),1),(46,.iastore,1),(47,.aload_n 0,1),(48,.dup,1),(49,.getfield 183,3),(52,.iconst 1,1),(53,.iadd,1),(54,.putfield 183,3),(57,.return_,1),(58,.iload_n 3,1),(59,.bipush 14,2),(61,.if_icmp .ne 49,3),(64,.iinc 1 (-1),3),(67,.aload_n 0,1),(68,.getfield 56,3),(71,.iload_n 1,1),(72,.iaload,1),(73,.istore 4,2),(75,.aload_n 0,1),(76,.getfield 50,3),(79,.iload 4,2),(81,.aload_n 0,1),(82,.getfield 183,3),(85,.iastore,1),(86,.aload_n 0,1),(87,.getfield 53,3),(90,.aload_n 0,1),(91,.getfield 183,3),(94,.iload 4,2),(96,.iastore,1),(97,.aload_n 0,1),(98,.dup,1),(99,.getfield 183,3),(102,.iconst 1,1),(103,.iadd,1),(104,.putfield 183,3),(107,.goto 55,3),(110,.iload_n 1,1),(111,.bipush 8,2),(113,.if_icmp .le 9,3),(116,.aload_n 0,1),(117,.iconst 0,1),(118,.putfield 180,3),(121,.return_,1),(122,.aload_n 0,1),(123,.getfield 183,3),(126,.istore 4,2),(128,.aload_n 0,1),(129,.invokevirtual 225,3),(132,.aload_n 0,1),(133,.getfield 180,3),(136,.ifCond .eq 26,3),(139,.iload_n 3,1),(140,.bipush 7,2),(142,.if_icmp .eq 9,3),(145,.iload_n 3,1),(146,.bipush 8,2),(148,.if_icmp .ne 14,3),(151,.aload_n 0,1),(152,.getfield 56,3),(155,.iload_n 1,1),(156,.iload 4,2),(158,.iastore,1),(159,.iinc 1 1,3),(162,.iinc 2 1,3),(165,.goto (-161),3),(168,.aload_n 0,1),(169,.iconst 0,1),(170,.putfield 180,3),(173,.return_,1)] (by decide +kernel)
abbrev y16 : MethodName := ⟨"FatPointerC", "parseBody", "()V"⟩
theorem hy16 : y16.cls ≠ "java/lang/invoke/MethodHandle" ∧ y16.cls ≠ "java/lang/invoke/VarHandle" := by decide
theorem pd16 : parseMethodDescriptor y16.desc = some ⟨[], none⟩ := by decide +kernel
abbrev R16 : Room := { frames := 9, cells := 0, slots := 0, locals := 117 }
abbrev P16 (r : St) : Option Value → List OwnC → Prop := fun v H' => v = none ∧ H' = (Hb 0 r)
abbrev W16 (l : Launch) (Z : State) (n0 : Nat) := WP l Z CN lay "FatPointerC" "parseBody" prog_1_method_27_code 5 (none) R16 n0 0
def f_parseBody_162 (k4 : KT1) (n : Nat) (v1 v2 : Int32) (s : St) : Option (St) :=
 lt (v2 + (1 : Int32)) fun x1 =>
 k4 v1 x1 s
abbrev HK16_4 (l : Launch) (Z : State) (n0 : Nat) (k4 : KT1) : Prop := ∀ (v1 v2 : Int32) (s r : St), k4 v1 v2 s = some r → W16 l Z n0 (P16 r) 0 0 4 [vR 0,vI v1,vI v2,vU,vU] [] (Hb 0 s)
theorem ok16_162 (hw : HW a0 Z) (n0 : Nat) (k4 : KT1) (hk4 : HK16_4 l Z n0 k4) (n : Nat) (v1 v2 : Int32) (s r : St) (h : f_parseBody_162 k4 n v1 v2 s = some r) : W16 l Z n0 (P16 r) 0 0 162 [vR 0,vI v1,vI v2,vU,vU] [] (Hb 0 s) := by
 unfold f_parseBody_162 at h
 obtain ⟨x1, ex1, h⟩ := lt_e h
 exact yC (L' := [vR 0,vI v1,vI x1,vU,vU]) (1 : Int32) (D16 88) rfl rfl (by subst ex1; rfl) (xV (pc' := 4) (D16 89) (by decide) rfl (xE (L' := [vR 0,vI v1,vI x1,vU,vU]) ⟨rfl, rfl, rfl, trivial⟩ (hk4 v1 x1 s _ h)))
def f_parseBody_151 (k4 : KT1) (n : Nat) (v1 v2 v4 : Int32) (s : St) : Option (St) :=
 (wrA s 15 v1 v4).bind fun s1 =>
 lt (v1 + (1 : Int32)) fun x2 =>
 f_parseBody_162 k4 n x2 v2 s1
theorem ok16_151 (hw : HW a0 Z) (n0 : Nat) (k4 : KT1) (hk4 : HK16_4 l Z n0 k4) (n : Nat) (v1 v2 v4 : Int32) (s r : St) (h : f_parseBody_151 k4 n v1 v2 v4 s = some r) : W16 l Z n0 (P16 r) 0 0 151 [vR 0,vI v1,vI v2,vU,vI v4] [] (Hb 0 s) := by
 unfold f_parseBody_151 at h
 refine xA (D16 82) rfl (xD (i := 0) (j := 29) (D16 83) (m41 hw) rfl rfl rfl (xC (D16 84) rfl (xH (D16 85) rfl ?_)))
 obtain ⟨s1, hs1, h⟩ := bd h
 obtain ⟨ys1, gs1, es1⟩ := wrA_e hs1
 refine xU (i := 16) (xs := gA s 15) (H' := (Hb 0 s1)) (D16 86) rfl (leb rfl) gs1 (by subst es1; rfl) ?_
 obtain ⟨x2, ex2, h⟩ := lt_e h
 exact yC (L' := [vR 0,vI x2,vI v2,vU,vI v4]) (1 : Int32) (D16 87) rfl rfl (by subst ex2; rfl) (xE (L' := [vR 0,vI x2,vI v2,vU,vU]) ⟨rfl, rfl, rfl, trivial⟩ (ok16_162 hw n0 _ hk4 n x2 v2 s1 _ h))
def f_parseBody_58 (k4 : KT1) (n : Nat) (v1 v2 v3 : Int32) (s : St) : Option (St) :=
 if v3 = (14 : Int32) then
  lt (v1 + (-1 : Int32)) fun x2 =>
  (rd (gA s 15) x2).bind fun x3 =>
  (wrA s 13 x3 (gI s 11)).bind fun s4 =>
  (wrA s4 14 (gI s4 11) x3).bind fun s5 =>
  lt (sI s5 11 ((gI s5 11) + (1 : Int32))) fun s6 =>
  f_parseBody_162 k4 n x2 v2 s6
 else
  if (8 : Int32) < v1 then
   lt (sI s 12 (0 : Int32)) fun s8 =>
   some s8
  else
   lt (gI s 11) fun x9 =>
   (f_parseStmt n s).bind fun c10 =>
   if (gI c10 12) = 0 then
    f_parseBody_162 k4 n v1 v2 c10
   else
    if v3 = (7 : Int32) then
     f_parseBody_151 k4 n v1 v2 x9 c10
    else
     if v3 = (8 : Int32) then
      f_parseBody_151 k4 n v1 v2 x9 c10
     else
      f_parseBody_162 k4 n v1 v2 c10
theorem ok16_58 (hw : HW a0 Z) (n0 : Nat) (k4 : KT1) (hk4 : HK16_4 l Z n0 k4) (n : Nat) (v1 v2 v3 : Int32) (s r : St) (h : f_parseBody_58 k4 n v1 v2 v3 s = some r) : W16 l Z n0 (P16 r) 0 0 58 [vR 0,vI v1,vI v2,vI v3,vU] [] (Hb 0 s) := by
 unfold f_parseBody_58 at h
 refine xC (D16 33) rfl (xG 14 (D16 34) rfl ?_)
 rcases ite_e h with ⟨hc1, h⟩ | ⟨hc1, h⟩
 ·
  refine xJ (D16 35) (XT.ii_ne_f hc1) ?_
  obtain ⟨x2, ex2, h⟩ := lt_e h
  refine yC (L' := [vR 0,vI x2,vI v2,vI v3,vU]) (-1 : Int32) (D16 36) rfl rfl (by subst ex2; rfl) (xA (D16 37) rfl (xD (i := 0) (j := 29) (D16 38) (m41 hw) rfl rfl rfl (xC (D16 39) rfl ?_)))
  obtain ⟨x3, hx3, h⟩ := bd h
  refine xN (i := 16) (D16 40) rfl hx3 (xR (L' := [vR 0,vI x2,vI v2,vI v3,vI x3]) (D16 41) (leb rfl) rfl (xA (D16 42) rfl (xD (i := 0) (j := 24) (D16 43) (m37 hw) rfl rfl rfl (xH (D16 44) rfl (xA (D16 45) rfl (xD (i := 0) (j := 26) (D16 46) (m128 hw) rfl rfl rfl ?_))))))
  obtain ⟨s4, hs4, h⟩ := bd h
  obtain ⟨ys4, gs4, es4⟩ := wrA_e hs4
  refine xU (i := 14) (xs := gA s 13) (H' := (Hb 0 s4)) (D16 47) rfl (leb rfl) gs4 (by subst es4; rfl) (xA (D16 48) rfl (xD (i := 0) (j := 25) (D16 49) (m39 hw) rfl rfl rfl (xA (D16 50) rfl (xD (i := 0) (j := 26) (D16 51) (m128 hw) rfl rfl rfl (xH (D16 52) rfl ?_)))))
  obtain ⟨s5, hs5, h⟩ := bd h
  obtain ⟨ys5, gs5, es5⟩ := wrA_e hs5
  refine xU (i := 15) (xs := gA s4 14) (H' := (Hb 0 s5)) (D16 53) rfl (leb rfl) gs5 (by subst es5; rfl) (xA (D16 54) rfl (yA (D16 55) rfl (xD (i := 0) (j := 26) (D16 56) (m128 hw) rfl rfl rfl (xB 1 (D16 57) rfl (xO (D16 58) ?_)))))
  obtain ⟨s6, es6, h⟩ := lt_e h
  exact xT (i := 0) (j := 26) (H' := (Hb 0 s6)) (D16 59) (m128 hw) (Or.inl (m129 hw)) (m1 hw) (hlay hw) rfl rfl rfl (leb rfl) (by subst es6; rfl) (xV (pc' := 162) (D16 60) (by decide) rfl (xE (L' := [vR 0,vI x2,vI v2,vU,vU]) ⟨rfl, rfl, rfl, trivial⟩ (ok16_162 hw n0 _ hk4 n x2 v2 s6 _ h)))
 ·
  refine xI (pc' := 110) (D16 35) (XT.ii_ne_t hc1) (by decide) rfl (xC (D16 61) rfl (xG 8 (D16 62) rfl ?_))
  rcases ite_e h with ⟨hc7, h⟩ | ⟨hc7, h⟩
  ·
   refine xJ (D16 63) (XT.ii_le_f hc7) (xA (D16 64) rfl (xB 0 (D16 65) rfl ?_))
   obtain ⟨s8, es8, h⟩ := lt_e h
   refine yD (i := 0) (j := 27) (H' := (Hb 0 s8)) (D16 66) (m126 hw) (Or.inl (m127 hw)) (m1 hw) (hlay hw) rfl rfl rfl (leb rfl) (by subst es8; rfl) ?_
   cases h
   exact xS (D16 67) rfl (leb rfl) (leb rfl) ⟨rfl, rfl⟩
  ·
   refine xI (pc' := 122) (D16 63) (XT.ii_le_t hc7) (by decide) rfl (xA (D16 68) rfl (xD (i := 0) (j := 26) (D16 69) (m128 hw) rfl rfl rfl ?_))
   obtain ⟨x9, ex9, h⟩ := lt_e h
   refine xR (L' := [vR 0,vI v1,vI v2,vI v3,vI x9]) (D16 70) (leb rfl) (by subst ex9; rfl) (xA (D16 71) rfl ?_)
   obtain ⟨c10, hc10, h⟩ := bd h
   refine xF (i := 0) (y := y17) (as := []) (S := []) (D16 72) (m172 hw) (m174 hw) (m1 hw) (m173 hw) (m175 hw) (m2 hw) hy17 rfl (ok17 hw n s _ hc10) rfl (lenOf pd17 rfl) (leb rfl) (leb rfl) (leb rfl) (leb rfl) ?_
   rintro _ _ ⟨rfl, rfl⟩
   show W16 l Z n0 (P16 r) 0 0 132 [vR 0,vI v1,vI v2,vI v3,vI x9] [] (Hb 0 c10)
   refine xA (D16 73) rfl (xD (i := 0) (j := 27) (D16 74) (m126 hw) rfl rfl rfl ?_)
   rcases ite_e h with ⟨hc11, h⟩ | ⟨hc11, h⟩
   ·
    exact xL (pc' := 162) (D16 75) (XT.i0_eq_t hc11) (by decide) rfl (xE (L' := [vR 0,vI v1,vI v2,vU,vU]) ⟨rfl, rfl, rfl, trivial⟩ (ok16_162 hw n0 _ hk4 n v1 v2 c10 _ h))
   ·
    refine xM (D16 75) (XT.i0_eq_f hc11) (xC (D16 76) rfl (xG 7 (D16 77) rfl ?_))
    rcases ite_e h with ⟨hc12, h⟩ | ⟨hc12, h⟩
    ·
     exact xI (pc' := 151) (D16 78) (XT.ii_eq_t hc12) (by decide) rfl (xE (L' := [vR 0,vI v1,vI v2,vU,vI x9]) ⟨rfl, rfl, rfl, rfl, trivial⟩ (ok16_151 hw n0 _ hk4 n v1 v2 x9 c10 _ h))
    ·
     refine xJ (D16 78) (XT.ii_eq_f hc12) (xC (D16 79) rfl (xG 8 (D16 80) rfl ?_))
     rcases ite_e h with ⟨hc13, h⟩ | ⟨hc13, h⟩
     ·
      exact xJ (D16 81) (XT.ii_ne_f hc13) (xE (L' := [vR 0,vI v1,vI v2,vU,vI x9]) ⟨rfl, rfl, rfl, rfl, trivial⟩ (ok16_151 hw n0 _ hk4 n v1 v2 x9 c10 _ h))
     ·
      exact xI (pc' := 162) (D16 81) (XT.ii_ne_t hc13) (by decide) rfl (xE (L' := [vR 0,vI v1,vI v2,vU,vU]) ⟨rfl, rfl, rfl, trivial⟩ (ok16_162 hw n0 _ hk4 n v1 v2 c10 _ h))
def f_parseBody_168 (n : Nat) (s : St) : Option (St) :=
 lt (sI s 12 (0 : Int32)) fun s1 =>
 some s1
theorem ok16_168 (hw : HW a0 Z) (n0 n : Nat) (s r : St) (h : f_parseBody_168 n s = some r) : W16 l Z n0 (P16 r) 0 0 168 [vR 0,vU,vU,vU,vU] [] (Hb 0 s) := by
 unfold f_parseBody_168 at h
 refine xA (D16 90) rfl (xB 0 (D16 91) rfl ?_)
 obtain ⟨s1, es1, h⟩ := lt_e h
 refine yD (i := 0) (j := 27) (H' := (Hb 0 s1)) (D16 92) (m126 hw) (Or.inl (m127 hw)) (m1 hw) (hlay hw) rfl rfl rfl (leb rfl) (by subst es1; rfl) ?_
 cases h
 exact xS (D16 93) rfl (leb rfl) (leb rfl) ⟨rfl, rfl⟩
def g_parseBody_4 (k4 : KT1) (n : Nat) (v1 v2 : Int32) (s : St) : Option (St) :=
 if v2 < (300 : Int32) then
  if (gI s 12) = 0 then
   f_parseBody_168 n s
  else
   (f_kindAt (gI s 11) s).bind fun c3 =>
   if c3 = (14 : Int32) then
    if v1 = 0 then
     (wrA s 14 (gI s 11) (-1 : Int32)).bind fun s6 =>
     lt (sI s6 11 ((gI s6 11) + (1 : Int32))) fun s7 =>
     some s7
    else
     f_parseBody_58 k4 n v1 v2 c3 s
   else
    f_parseBody_58 k4 n v1 v2 c3 s
 else
  f_parseBody_168 n s
theorem okg16_4 (hw : HW a0 Z) (n0 : Nat) (k4 : KT1) (hk4 : HK16_4 l Z n0 k4) (n : Nat) (v1 v2 : Int32) (s r : St) (h : g_parseBody_4 k4 n v1 v2 s = some r) : W16 l Z n0 (P16 r) 0 0 4 [vR 0,vI v1,vI v2,vU,vU] [] (Hb 0 s) := by
 unfold g_parseBody_4 at h
 refine xC (D16 4) rfl (yB 300 (D16 5) rfl ?_)
 rcases ite_e h with ⟨hc1, h⟩ | ⟨hc1, h⟩
 ·
  refine xJ (D16 6) (XT.ii_ge_f hc1) (xA (D16 7) rfl (xD (i := 0) (j := 27) (D16 8) (m126 hw) rfl rfl rfl ?_))
  rcases ite_e h with ⟨hc2, h⟩ | ⟨hc2, h⟩
  ·
   exact xL (pc' := 168) (D16 9) (XT.i0_eq_t hc2) (by decide) rfl (xE (L' := [vR 0,vU,vU,vU,vU]) ⟨rfl, trivial⟩ (ok16_168 hw n0 n s _ h))
  ·
   refine xM (D16 9) (XT.i0_eq_f hc2) (xA (D16 10) rfl (xA (D16 11) rfl (xD (i := 0) (j := 26) (D16 12) (m128 hw) rfl rfl rfl ?_)))
   obtain ⟨c3, hc3, h⟩ := bd h
   refine xF (i := 0) (y := y9) (as := [.int (gI s 11)]) (S := []) (D16 13) (m138 hw) (m140 hw) (m1 hw) (m139 hw) (m141 hw) (m2 hw) hy9 rfl (ok9 hw (gI s 11) s _ hc3) rfl (lenOf pd9 rfl) (leb rfl) (leb rfl) (leb rfl) (leb rfl) ?_
   rintro _ _ ⟨rfl, rfl⟩
   show W16 l Z n0 (P16 r) 0 0 26 [vR 0,vI v1,vI v2,vU,vU] [.int c3] (Hb 0 s)
   refine xP (L' := [vR 0,vI v1,vI v2,vI c3,vU]) (D16 14) (leb rfl) rfl (xC (D16 15) rfl (xG 14 (D16 16) rfl ?_))
   rcases ite_e h with ⟨hc4, h⟩ | ⟨hc4, h⟩
   ·
    refine xJ (D16 17) (XT.ii_ne_f hc4) (xC (D16 18) rfl ?_)
    rcases ite_e h with ⟨hc5, h⟩ | ⟨hc5, h⟩
    ·
     refine xM (D16 19) (XT.i0_ne_f hc5) (xA (D16 20) rfl (xD (i := 0) (j := 25) (D16 21) (m39 hw) rfl rfl rfl (xA (D16 22) rfl (xD (i := 0) (j := 26) (D16 23) (m128 hw) rfl rfl rfl (xB (-1) (D16 24) rfl ?_)))))
     obtain ⟨s6, hs6, h⟩ := bd h
     obtain ⟨ys6, gs6, es6⟩ := wrA_e hs6
     refine xU (i := 15) (xs := gA s 14) (H' := (Hb 0 s6)) (D16 25) rfl (leb rfl) gs6 (by subst es6; rfl) (xA (D16 26) rfl (yA (D16 27) rfl (xD (i := 0) (j := 26) (D16 28) (m128 hw) rfl rfl rfl (xB 1 (D16 29) rfl (xO (D16 30) ?_)))))
     obtain ⟨s7, es7, h⟩ := lt_e h
     refine xT (i := 0) (j := 26) (H' := (Hb 0 s7)) (D16 31) (m128 hw) (Or.inl (m129 hw)) (m1 hw) (hlay hw) rfl rfl rfl (leb rfl) (by subst es7; rfl) ?_
     cases h
     exact xS (D16 32) rfl (leb rfl) (leb rfl) ⟨rfl, rfl⟩
    ·
     exact xL (pc' := 58) (D16 19) (XT.i0_ne_t hc5) (by decide) rfl (xE (L' := [vR 0,vI v1,vI v2,vI c3,vU]) ⟨rfl, rfl, rfl, rfl, trivial⟩ (ok16_58 hw n0 _ hk4 n v1 v2 c3 s _ h))
   ·
    exact xI (pc' := 58) (D16 17) (XT.ii_ne_t hc4) (by decide) rfl (xE (L' := [vR 0,vI v1,vI v2,vI c3,vU]) ⟨rfl, rfl, rfl, rfl, trivial⟩ (ok16_58 hw n0 _ hk4 n v1 v2 c3 s _ h))
 ·
  exact xI (pc' := 168) (D16 6) (XT.ii_ge_t hc1) (by decide) rfl (xE (L' := [vR 0,vU,vU,vU,vU]) ⟨rfl, trivial⟩ (ok16_168 hw n0 n s _ h))
def f_parseBody_4 : Nat → Int32 → Int32 → St → Option (St)
 | 0 => fun _ _ _ => none
 | n + 1 => g_parseBody_4 (f_parseBody_4 n) n
theorem ok16_4 (hw : HW a0 Z) (n0 : Nat) : ∀ (n : Nat) (v1 v2 : Int32) (s r : St), f_parseBody_4 n v1 v2 s = some r → W16 l Z n0 (P16 r) 0 0 4 [vR 0,vI v1,vI v2,vU,vU] [] (Hb 0 s)
 | 0, v1, v2, s, r, h => nomatch (show none = some r from h)
 | n + 1, v1, v2, s, r, h => okg16_4 hw n0 _ (ok16_4 hw n0 n) n v1 v2 s r h
def f_parseBody (n : Nat) (s : St) : Option (St) :=
 f_parseBody_4 n (0 : Int32) (0 : Int32) s
theorem ok16 (hw : HW a0 Z) (n : Nat) (s r : St) (h : f_parseBody n s = some r) : CS l Z CN lay y16 prog_1_method_27_code 5 (none) R16 0 [.ref 0] (Hb 0 s) (P16 r) := by
 refine CS.of_wp pn_cls (leb rfl) fun n0 => ?_
 show W16 l Z n0 (P16 r) 0 0 0 [vR 0,vU,vU,vU,vU] [] (Hb 0 s)
 unfold f_parseBody at h
 exact xB 0 (D16 0) rfl (xP (L' := [vR 0,vI 0,vU,vU,vU]) (D16 1) (leb rfl) rfl (xB 0 (D16 2) rfl (xP (L' := [vR 0,vI 0,vI 0,vU,vU]) (D16 3) (leb rfl) rfl (xE (L' := [vR 0,vI 0,vI 0,vU,vU]) ⟨rfl, rfl, rfl, trivial⟩ (ok16_4 hw n0 n (0 : Int32) (0 : Int32) s _ h)))))
def D7 := dA k19 (0,.aload_n 0,1) [(1,.iconst 4,1),(2,.invokevirtual 195,3),(5,.aload_n 0,1),(6,.getfield 180,3),(9,.ifCond .eq 15,3),(12,.aload_n 0,1),(13,.aload_n 0,1),(14,.getfield 183,3),(17,.invokevirtual 192,3),(20,.iconst 3,1),(21,.if_icmp .eq 9,3),(24,.aload_n 0,1),(25,.iconst 0,1),(26,.putfield 180,3),(29,.return_,1),(30,.aload_n 0,1),(31,.aload_n 0,1),(32,.getfield 183,3),(35,.invokevirtual 199,3),(38,.iconst 3,1),(39,.iand,1),(40,.istore_n 1,1),(41,.aload_n 0,1),(42,.getfield 19,3),(45,.iload_n 1,1),(46,.baload,1),(47,.ifCond .eq 9,3),(50,.aload_n 0,1),(51,.iconst 0,1),(52,.putfield 180,3),(55,.return_,1),(56,.aload_n 0,1),(57,.getfield 19,3),(60,.iload_n 1,1),(61,.iconst 1,1),(62,.bastore,1),(63,.aload_n 0,1),(64,.getfield 23,3),(67,.iload_n 1,1),(68,.aload_n 0,1),(69,.getfield 183,3),(72,.iastore,1),(73,.aload_n 0,1),(74,.iload_n 1,1),(75,.putfield 202,3),(78,.aload_n 0,1),(79,.dup,1),(80,.getfield 183,3),(83,.iconst 1,1),(84,.iadd,1),(85,.putfield 183,3),(88,.iconst 0,1),(89,.istore_n 2,1),(90,.iload_n 2,1),(91,.bipush 8,2),(93,.if_icmp .ge 33,3),(96,.aload_n 0,1),(97,.getfield 38,3),(100,.iload_n 1,1),(101,.bipush 8,2),(103,.imul,1),(104,.iload_n 2,1),(105,.iadd,1),(106,.iconst (-1),1),(107,.iastore,1),(108,.aload_n 0,1),(109,.getfield 41,3),(112,.iload_n 1,1),(113,.bipush 8,2),(115,.imul,1),(116,.iload_n 2,1),(117,.iadd,1),(118,.iconst 0,1),(119,.bastore,1),(120,.iinc 2 1,3),(123,.goto (-33),3),(126,.aload_n 0,1),(127,.bipush 11,2),(129,.invokevirtual 195,3),(132,.aload_n 0,1),(133,.invokevirtual 205,3),(136,.aload_n 0,1),(137,.bipush 12,2),(139,.invokevirtual 195,3),(142,.aload_n 0,1),(143,.bipush 13,2),(145,.invokevirtual 195,3),(148,.aload_n 0,1),(149,.invokevirtual 208,3),(152,.aload_n 0,1),(153,.getfield 35,3),(156,.iload_n 1,1),(157,.aload_n 0,1),(158,.getfield 183,3),(161,.iastore,1),(162,.aload_n 0,1),(163,.invokevirtual 211,3),(166,.return_,1)] (by decide +kernel)
abbrev y7 : MethodName := ⟨"FatPointerC", "parseFunc", "()V"⟩
theorem hy7 : y7.cls ≠ "java/lang/invoke/MethodHandle" ∧ y7.cls ≠ "java/lang/invoke/VarHandle" := by decide
theorem pd7 : parseMethodDescriptor y7.desc = some ⟨[], none⟩ := by decide +kernel
abbrev R7 : Room := { frames := 10, cells := 0, slots := 0, locals := 133 }
abbrev P7 (r : St) : Option Value → List OwnC → Prop := fun v H' => v = none ∧ H' = (Hb 0 r)
abbrev W7 (l : Launch) (Z : State) (n0 : Nat) := WP l Z CN lay "FatPointerC" "parseFunc" prog_1_method_21_code 3 (none) R7 n0 0
def f_parseFunc_24 (n : Nat) (s : St) : Option (St) :=
 lt (sI s 12 (0 : Int32)) fun s1 =>
 some s1
theorem ok7_24 (hw : HW a0 Z) (n0 n : Nat) (s r : St) (h : f_parseFunc_24 n s = some r) : W7 l Z n0 (P7 r) 0 0 24 [vR 0,vU,vU] [] (Hb 0 s) := by
 unfold f_parseFunc_24 at h
 refine xA (D7 12) rfl (xB 0 (D7 13) rfl ?_)
 obtain ⟨s1, es1, h⟩ := lt_e h
 refine yD (i := 0) (j := 27) (H' := (Hb 0 s1)) (D7 14) (m126 hw) (Or.inl (m127 hw)) (m1 hw) (hlay hw) rfl rfl rfl (leb rfl) (by subst es1; rfl) ?_
 cases h
 exact xS (D7 15) rfl (leb rfl) (leb rfl) ⟨rfl, rfl⟩
def g_parseFunc_90 (k90 : KT1) (n : Nat) (v1 v2 : Int32) (s : St) : Option (St) :=
 if v2 < (8 : Int32) then
  (wrA s 9 ((v1 * (8 : Int32)) + v2) (-1 : Int32)).bind fun s2 =>
  (wrA s2 10 ((v1 * (8 : Int32)) + v2) (0 : Int32)).bind fun s3 =>
  lt (v2 + (1 : Int32)) fun x4 =>
  k90 v1 x4 s3
 else
  (f_expect (11 : Int32) s).bind fun c5 =>
  (f_parseParams n c5).bind fun c6 =>
  (f_expect (12 : Int32) c6).bind fun c7 =>
  (f_expect (13 : Int32) c7).bind fun c8 =>
  (f_parseDecls n c8).bind fun c9 =>
  (wrA c9 8 v1 (gI c9 11)).bind fun s10 =>
  (f_parseBody n s10).bind fun c11 =>
  some c11
abbrev HK7_90 (l : Launch) (Z : State) (n0 : Nat) (k90 : KT1) : Prop := ∀ (v1 v2 : Int32) (s r : St), k90 v1 v2 s = some r → W7 l Z n0 (P7 r) 0 0 90 [vR 0,vI v1,vI v2] [] (Hb 0 s)
theorem okg7_90 (hw : HW a0 Z) (n0 : Nat) (k90 : KT1) (hk90 : HK7_90 l Z n0 k90) (n : Nat) (v1 v2 : Int32) (s r : St) (h : g_parseFunc_90 k90 n v1 v2 s = some r) : W7 l Z n0 (P7 r) 0 0 90 [vR 0,vI v1,vI v2] [] (Hb 0 s) := by
 unfold g_parseFunc_90 at h
 refine xC (D7 54) rfl (xG 8 (D7 55) rfl ?_)
 rcases ite_e h with ⟨hc1, h⟩ | ⟨hc1, h⟩
 ·
  refine xJ (D7 56) (XT.ii_ge_f hc1) (xA (D7 57) rfl (xD (i := 0) (j := 20) (D7 58) (m29 hw) rfl rfl rfl (xC (D7 59) rfl (xG 8 (D7 60) rfl (yI (D7 61) (xC (D7 62) rfl (xO (D7 63) (xB (-1) (D7 64) rfl ?_))))))))
  obtain ⟨s2, hs2, h⟩ := bd h
  obtain ⟨ys2, gs2, es2⟩ := wrA_e hs2
  refine xU (i := 10) (xs := gA s 9) (H' := (Hb 0 s2)) (D7 65) rfl (leb rfl) gs2 (by subst es2; rfl) (xA (D7 66) rfl (xD (i := 0) (j := 21) (D7 67) (m31 hw) rfl rfl rfl (xC (D7 68) rfl (xG 8 (D7 69) rfl (yI (D7 70) (xC (D7 71) rfl (xO (D7 72) (xB 0 (D7 73) rfl ?_))))))))
  obtain ⟨s3, hs3, h⟩ := bd h
  obtain ⟨ys3, gs3, es3⟩ := wrA_e hs3
  refine yS (i := 11) (xs := gA s2 10) (H' := (Hb 0 s3)) (D7 74) rfl (leb rfl) gs3 (by subst es3; rfl) ?_
  obtain ⟨x4, ex4, h⟩ := lt_e h
  exact yC (L' := [vR 0,vI v1,vI x4]) (1 : Int32) (D7 75) rfl rfl (by subst ex4; rfl) (xV (pc' := 90) (D7 76) (by decide) rfl (xE (L' := [vR 0,vI v1,vI x4]) ⟨rfl, rfl, rfl, trivial⟩ (hk90 v1 x4 s3 _ h)))
 ·
  refine xI (pc' := 126) (D7 56) (XT.ii_ge_t hc1) (by decide) rfl (xA (D7 77) rfl (xG 11 (D7 78) rfl ?_))
  obtain ⟨c5, hc5, h⟩ := bd h
  refine xF (i := 0) (y := y8) (as := [.int (11 : Int32)]) (S := []) (D7 79) (m134 hw) (m136 hw) (m1 hw) (m135 hw) (m137 hw) (m2 hw) hy8 rfl (ok8 hw (11 : Int32) s _ hc5) rfl (lenOf pd8 rfl) (leb rfl) (leb rfl) (leb rfl) (leb rfl) ?_
  rintro _ _ ⟨rfl, rfl⟩
  show W7 l Z n0 (P7 r) 0 0 132 [vR 0,vI v1,vI v2] [] (Hb 0 c5)
  refine xA (D7 80) rfl ?_
  obtain ⟨c6, hc6, h⟩ := bd h
  refine xF (i := 0) (y := y11) (as := []) (S := []) (D7 81) (m148 hw) (m150 hw) (m1 hw) (m149 hw) (m151 hw) (m2 hw) hy11 rfl (ok11 hw n c5 _ hc6) rfl (lenOf pd11 rfl) (leb rfl) (leb rfl) (leb rfl) (leb rfl) ?_
  rintro _ _ ⟨rfl, rfl⟩
  show W7 l Z n0 (P7 r) 0 0 136 [vR 0,vI v1,vI v2] [] (Hb 0 c6)
  refine xA (D7 82) rfl (xG 12 (D7 83) rfl ?_)
  obtain ⟨c7, hc7, h⟩ := bd h
  refine xF (i := 0) (y := y8) (as := [.int (12 : Int32)]) (S := []) (D7 84) (m134 hw) (m136 hw) (m1 hw) (m135 hw) (m137 hw) (m2 hw) hy8 rfl (ok8 hw (12 : Int32) c6 _ hc7) rfl (lenOf pd8 rfl) (leb rfl) (leb rfl) (leb rfl) (leb rfl) ?_
  rintro _ _ ⟨rfl, rfl⟩
  show W7 l Z n0 (P7 r) 0 0 142 [vR 0,vI v1,vI v2] [] (Hb 0 c7)
  refine xA (D7 85) rfl (xG 13 (D7 86) rfl ?_)
  obtain ⟨c8, hc8, h⟩ := bd h
  refine xF (i := 0) (y := y8) (as := [.int (13 : Int32)]) (S := []) (D7 87) (m134 hw) (m136 hw) (m1 hw) (m135 hw) (m137 hw) (m2 hw) hy8 rfl (ok8 hw (13 : Int32) c7 _ hc8) rfl (lenOf pd8 rfl) (leb rfl) (leb rfl) (leb rfl) (leb rfl) ?_
  rintro _ _ ⟨rfl, rfl⟩
  show W7 l Z n0 (P7 r) 0 0 148 [vR 0,vI v1,vI v2] [] (Hb 0 c8)
  refine xA (D7 88) rfl ?_
  obtain ⟨c9, hc9, h⟩ := bd h
  refine xF (i := 0) (y := y12) (as := []) (S := []) (D7 89) (m152 hw) (m154 hw) (m1 hw) (m153 hw) (m155 hw) (m2 hw) hy12 rfl (ok12 hw n c8 _ hc9) rfl (lenOf pd12 rfl) (leb rfl) (leb rfl) (leb rfl) (leb rfl) ?_
  rintro _ _ ⟨rfl, rfl⟩
  show W7 l Z n0 (P7 r) 0 0 152 [vR 0,vI v1,vI v2] [] (Hb 0 c9)
  refine xA (D7 90) rfl (xD (i := 0) (j := 19) (D7 91) (m27 hw) rfl rfl rfl (xC (D7 92) rfl (xA (D7 93) rfl (xD (i := 0) (j := 26) (D7 94) (m128 hw) rfl rfl rfl ?_))))
  obtain ⟨s10, hs10, h⟩ := bd h
  obtain ⟨ys10, gs10, es10⟩ := wrA_e hs10
  refine xU (i := 9) (xs := gA c9 8) (H' := (Hb 0 s10)) (D7 95) rfl (leb rfl) gs10 (by subst es10; rfl) (xA (D7 96) rfl ?_)
  obtain ⟨c11, hc11, h⟩ := bd h
  refine xF (i := 0) (y := y16) (as := []) (S := []) (D7 97) (m168 hw) (m170 hw) (m1 hw) (m169 hw) (m171 hw) (m2 hw) hy16 rfl (ok16 hw n s10 _ hc11) rfl (lenOf pd16 rfl) (leb rfl) (leb rfl) (leb rfl) (leb rfl) ?_
  rintro _ _ ⟨rfl, rfl⟩
  show W7 l Z n0 (P7 r) 0 0 166 [vR 0,vI v1,vI v2] [] (Hb 0 c11)
  cases h
  exact xS (D7 98) rfl (leb rfl) (leb rfl) ⟨rfl, rfl⟩
def f_parseFunc_90 : Nat → Int32 → Int32 → St → Option (St)
 | 0 => fun _ _ _ => none
 | n + 1 => g_parseFunc_90 (f_parseFunc_90 n) n
theorem ok7_90 (hw : HW a0 Z) (n0 : Nat) : ∀ (n : Nat) (v1 v2 : Int32) (s r : St), f_parseFunc_90 n v1 v2 s = some r → W7 l Z n0 (P7 r) 0 0 90 [vR 0,vI v1,vI v2] [] (Hb 0 s)
 | 0, v1, v2, s, r, h => nomatch (show none = some r from h)
 | n + 1, v1, v2, s, r, h => okg7_90 hw n0 _ (ok7_90 hw n0 n) n v1 v2 s r h
def f_parseFunc (n : Nat) (s : St) : Option (St) :=
 (f_expect (4 : Int32) s).bind fun c1 =>
 if (gI c1 12) = 0 then
  f_parseFunc_24 n c1
 else
  (f_kindAt (gI c1 11) c1).bind fun c3 =>
  if c3 = (3 : Int32) then
   (f_valAt (gI c1 11) c1).bind fun c5 =>
   lt (c5 &&& (3 : Int32)) fun x6 =>
   (rd (gA c1 3) x6).bind fun x7 =>
   if x7 = 0 then
    (wrA c1 3 x6 (1 : Int32)).bind fun s9 =>
    (wrA s9 4 x6 (gI s9 11)).bind fun s10 =>
    lt (sI s10 13 x6) fun s11 =>
    lt (sI s11 11 ((gI s11 11) + (1 : Int32))) fun s12 =>
    f_parseFunc_90 n x6 (0 : Int32) s12
   else
    lt (sI c1 12 (0 : Int32)) fun s13 =>
    some s13
  else
   f_parseFunc_24 n c1
theorem ok7 (hw : HW a0 Z) (n : Nat) (s r : St) (h : f_parseFunc n s = some r) : CS l Z CN lay y7 prog_1_method_21_code 3 (none) R7 0 [.ref 0] (Hb 0 s) (P7 r) := by
 refine CS.of_wp pn_cls (leb rfl) fun n0 => ?_
 show W7 l Z n0 (P7 r) 0 0 0 [vR 0,vU,vU] [] (Hb 0 s)
 unfold f_parseFunc at h
 refine xA (D7 0) rfl (xB 4 (D7 1) rfl ?_)
 obtain ⟨c1, hc1, h⟩ := bd h
 refine xF (i := 0) (y := y8) (as := [.int (4 : Int32)]) (S := []) (D7 2) (m134 hw) (m136 hw) (m1 hw) (m135 hw) (m137 hw) (m2 hw) hy8 rfl (ok8 hw (4 : Int32) s _ hc1) rfl (lenOf pd8 rfl) (leb rfl) (leb rfl) (leb rfl) (leb rfl) ?_
 rintro _ _ ⟨rfl, rfl⟩
 show W7 l Z n0 (P7 r) 0 0 5 [vR 0,vU,vU] [] (Hb 0 c1)
 refine xA (D7 3) rfl (xD (i := 0) (j := 27) (D7 4) (m126 hw) rfl rfl rfl ?_)
 rcases ite_e h with ⟨hc2, h⟩ | ⟨hc2, h⟩
 ·
  exact xL (pc' := 24) (D7 5) (XT.i0_eq_t hc2) (by decide) rfl (xE (L' := [vR 0,vU,vU]) ⟨rfl, trivial⟩ (ok7_24 hw n0 n c1 _ h))
 ·
  refine xM (D7 5) (XT.i0_eq_f hc2) (xA (D7 6) rfl (xA (D7 7) rfl (xD (i := 0) (j := 26) (D7 8) (m128 hw) rfl rfl rfl ?_)))
  obtain ⟨c3, hc3, h⟩ := bd h
  refine xF (i := 0) (y := y9) (as := [.int (gI c1 11)]) (S := []) (D7 9) (m138 hw) (m140 hw) (m1 hw) (m139 hw) (m141 hw) (m2 hw) hy9 rfl (ok9 hw (gI c1 11) c1 _ hc3) rfl (lenOf pd9 rfl) (leb rfl) (leb rfl) (leb rfl) (leb rfl) ?_
  rintro _ _ ⟨rfl, rfl⟩
  show W7 l Z n0 (P7 r) 0 0 20 [vR 0,vU,vU] [.int c3] (Hb 0 c1)
  refine xB 3 (D7 10) rfl ?_
  rcases ite_e h with ⟨hc4, h⟩ | ⟨hc4, h⟩
  ·
   refine xI (pc' := 30) (D7 11) (XT.ii_eq_t hc4) (by decide) rfl (xA (D7 16) rfl (xA (D7 17) rfl (xD (i := 0) (j := 26) (D7 18) (m128 hw) rfl rfl rfl ?_)))
   obtain ⟨c5, hc5, h⟩ := bd h
   refine xF (i := 0) (y := y10) (as := [.int (gI c1 11)]) (S := []) (D7 19) (m142 hw) (m144 hw) (m1 hw) (m143 hw) (m145 hw) (m2 hw) hy10 rfl (ok10 hw (gI c1 11) c1 _ hc5) rfl (lenOf pd10 rfl) (leb rfl) (leb rfl) (leb rfl) (leb rfl) ?_
   rintro _ _ ⟨rfl, rfl⟩
   show W7 l Z n0 (P7 r) 0 0 38 [vR 0,vU,vU] [.int c5] (Hb 0 c1)
   refine xB 3 (D7 20) rfl (xW (D7 21) ?_)
   obtain ⟨x6, ex6, h⟩ := lt_e h
   refine xP (L' := [vR 0,vI x6,vU]) (D7 22) (leb rfl) (by subst ex6; rfl) (xA (D7 23) rfl (xD (i := 0) (j := 14) (D7 24) (m17 hw) rfl rfl rfl (xC (D7 25) rfl ?_)))
   obtain ⟨x7, hx7, h⟩ := bd h
   refine yR (i := 4) (D7 26) rfl hx7 ?_
   rcases ite_e h with ⟨hc8, h⟩ | ⟨hc8, h⟩
   ·
    refine xL (pc' := 56) (D7 27) (XT.i0_eq_t hc8) (by decide) rfl (xA (D7 32) rfl (xD (i := 0) (j := 14) (D7 33) (m17 hw) rfl rfl rfl (xC (D7 34) rfl (xB 1 (D7 35) rfl ?_))))
    obtain ⟨s9, hs9, h⟩ := bd h
    obtain ⟨ys9, gs9, es9⟩ := wrA_e hs9
    refine yS (i := 4) (xs := gA c1 3) (H' := (Hb 0 s9)) (D7 36) rfl (leb rfl) gs9 (by subst es9; rfl) (xA (D7 37) rfl (xD (i := 0) (j := 15) (D7 38) (m19 hw) rfl rfl rfl (xC (D7 39) rfl (xA (D7 40) rfl (xD (i := 0) (j := 26) (D7 41) (m128 hw) rfl rfl rfl ?_)))))
    obtain ⟨s10, hs10, h⟩ := bd h
    obtain ⟨ys10, gs10, es10⟩ := wrA_e hs10
    refine xU (i := 5) (xs := gA s9 4) (H' := (Hb 0 s10)) (D7 42) rfl (leb rfl) gs10 (by subst es10; rfl) (xA (D7 43) rfl (xC (D7 44) rfl ?_))
    obtain ⟨s11, es11, h⟩ := lt_e h
    refine xT (i := 0) (j := 28) (H' := (Hb 0 s11)) (D7 45) (m146 hw) (Or.inl (m147 hw)) (m1 hw) (hlay hw) rfl rfl rfl (leb rfl) (by subst es11; rfl) (xA (D7 46) rfl (yA (D7 47) rfl (xD (i := 0) (j := 26) (D7 48) (m128 hw) rfl rfl rfl (xB 1 (D7 49) rfl (xO (D7 50) ?_)))))
    obtain ⟨s12, es12, h⟩ := lt_e h
    exact xT (i := 0) (j := 26) (H' := (Hb 0 s12)) (D7 51) (m128 hw) (Or.inl (m129 hw)) (m1 hw) (hlay hw) rfl rfl rfl (leb rfl) (by subst es12; rfl) (xB 0 (D7 52) rfl (xP (L' := [vR 0,vI x6,vI 0]) (D7 53) (leb rfl) rfl (xE (L' := [vR 0,vI x6,vI 0]) ⟨rfl, rfl, rfl, trivial⟩ (ok7_90 hw n0 n x6 (0 : Int32) s12 _ h))))
   ·
    refine xM (D7 27) (XT.i0_eq_f hc8) (xA (D7 28) rfl (xB 0 (D7 29) rfl ?_))
    obtain ⟨s13, es13, h⟩ := lt_e h
    refine yD (i := 0) (j := 27) (H' := (Hb 0 s13)) (D7 30) (m126 hw) (Or.inl (m127 hw)) (m1 hw) (hlay hw) rfl rfl rfl (leb rfl) (by subst es13; rfl) ?_
    cases h
    exact xS (D7 31) rfl (leb rfl) (leb rfl) ⟨rfl, rfl⟩
  ·
   exact xJ (D7 11) (XT.ii_eq_f hc4) (xE (L' := [vR 0,vU,vU]) ⟨rfl, trivial⟩ (ok7_24 hw n0 n c1 _ h))
def D25 := dA k17 (0,.iconst 0,1) [(1,.istore_n 1,1),(2,.iload_n 1,1),(3,.aload_n 0,1),(4,.getfield 120,3),(7,.if_icmp .ge 53,3),(10,.aload_n 0,1),(11,.getfield 47,3),(14,.iload_n 1,1),(15,.iaload,1),(16,.istore_n 2,1),(17,.iload_n 2,1),(18,.ifCond .ge 6,3),(21,.goto 33,3),(24,.aload_n 0,1),(25,.getfield 13,3),(28,.iload_n 1,1),(29,.iaload,1),(30,.iconst 3,1),(31,.iand,1),(32,.istore_n 3,1),(33,.aload_n 0,1),(34,.getfield 19,3),(37,.iload_n 3,1),(38,.baload,1),(39,.ifCond .eq 13,3),(42,.aload_n 0,1),(43,.getfield 26,3),(46,.iload_n 3,1),(47,.iaload,1),(48,.iload_n 2,1),(49,.if_icmp .eq 5,3),(52,.iconst 0,1),(53,.ireturn,1),(54,.iinc 1 1,3),(57,.goto (-55),3),(60,.iconst 1,1),(61,.ireturn,1)] (by decide +kernel)
abbrev y25 : MethodName := ⟨"FatPointerC", "checkCalls", "()Z"⟩
theorem hy25 : y25.cls ≠ "java/lang/invoke/MethodHandle" ∧ y25.cls ≠ "java/lang/invoke/VarHandle" := by decide
theorem pd25 : parseMethodDescriptor y25.desc = some ⟨[], some .boolean⟩ := by decide +kernel
abbrev R25 : Room := { frames := 0, cells := 0, slots := 0, locals := 0 }
abbrev P25 (s : St) (r : Int32) : Option Value → List OwnC → Prop := fun v H' => v = some (.int r) ∧ H' = (Hb 0 s)
abbrev W25 (l : Launch) (Z : State) (n0 : Nat) := WP l Z CN lay "FatPointerC" "checkCalls" prog_1_method_19_code 4 (some FieldType.boolean) R25 n0 0
def f_checkCalls_52 (n : Nat) (s : St) : Option (Int32) :=
 some (0 : Int32)
theorem ok25_52 (hw : HW a0 Z) (n0 n : Nat) (s : St) (r : Int32) (h : f_checkCalls_52 n s = some r) : W25 l Z n0 (P25 s r) 0 0 52 [vU,vU,vU,vU] [] (Hb 0 s) := by
 unfold f_checkCalls_52 at h
 refine xB 0 (D25 32) rfl ?_
 cases h
 exact xZ (D25 33) rfl (leb rfl) (leb rfl) ⟨rfl, rfl⟩
def f_checkCalls_54 (k2 : KT6) (n : Nat) (v1 : Int32) (s : St) : Option (Int32) :=
 lt (v1 + (1 : Int32)) fun x1 =>
 k2 x1 s
abbrev HK25_2 (l : Launch) (Z : State) (n0 : Nat) (k2 : KT6) : Prop := ∀ (v1 : Int32) (s : St) (r : Int32), k2 v1 s = some r → W25 l Z n0 (P25 s r) 0 0 2 [vR 0,vI v1,vU,vU] [] (Hb 0 s)
theorem ok25_54 (hw : HW a0 Z) (n0 : Nat) (k2 : KT6) (hk2 : HK25_2 l Z n0 k2) (n : Nat) (v1 : Int32) (s : St) (r : Int32) (h : f_checkCalls_54 k2 n v1 s = some r) : W25 l Z n0 (P25 s r) 0 0 54 [vR 0,vI v1,vU,vU] [] (Hb 0 s) := by
 unfold f_checkCalls_54 at h
 obtain ⟨x1, ex1, h⟩ := lt_e h
 exact yC (L' := [vR 0,vI x1,vU,vU]) (1 : Int32) (D25 34) rfl rfl (by subst ex1; rfl) (xV (pc' := 2) (D25 35) (by decide) rfl (xE (L' := [vR 0,vI x1,vU,vU]) ⟨rfl, rfl, trivial⟩ (hk2 x1 s _ h)))
def g_checkCalls_2 (k2 : KT6) (n : Nat) (v1 : Int32) (s : St) : Option (Int32) :=
 if v1 < (gI s 2) then
  (rd (gA s 12) v1).bind fun x2 =>
  if x2 < 0 then
   f_checkCalls_54 k2 n v1 s
  else
   (rd (gA s 1) v1).bind fun x4 =>
   lt (x4 &&& (3 : Int32)) fun x5 =>
   (rd (gA s 3) x5).bind fun x6 =>
   if x6 = 0 then
    f_checkCalls_52 n s
   else
    (rd (gA s 5) x5).bind fun x8 =>
    if x8 = x2 then
     f_checkCalls_54 k2 n v1 s
    else
     f_checkCalls_52 n s
 else
  some (1 : Int32)
theorem okg25_2 (hw : HW a0 Z) (n0 : Nat) (k2 : KT6) (hk2 : HK25_2 l Z n0 k2) (n : Nat) (v1 : Int32) (s : St) (r : Int32) (h : g_checkCalls_2 k2 n v1 s = some r) : W25 l Z n0 (P25 s r) 0 0 2 [vR 0,vI v1,vU,vU] [] (Hb 0 s) := by
 unfold g_checkCalls_2 at h
 refine xC (D25 2) rfl (xA (D25 3) rfl (xD (i := 0) (j := 2) (D25 4) (m108 hw) rfl rfl rfl ?_))
 rcases ite_e h with ⟨hc1, h⟩ | ⟨hc1, h⟩
 ·
  refine xJ (D25 5) (XT.ii_ge_f hc1) (xA (D25 6) rfl (xD (i := 0) (j := 23) (D25 7) (m35 hw) rfl rfl rfl (xC (D25 8) rfl ?_)))
  obtain ⟨x2, hx2, h⟩ := bd h
  refine xN (i := 13) (D25 9) rfl hx2 (xP (L' := [vR 0,vI v1,vI x2,vU]) (D25 10) (leb rfl) rfl (xC (D25 11) rfl ?_))
  rcases ite_e h with ⟨hc3, h⟩ | ⟨hc3, h⟩
  ·
   exact xM (D25 12) (XT.i0_ge_f hc3) (xV (pc' := 54) (D25 13) (by decide) rfl (xE (L' := [vR 0,vI v1,vU,vU]) ⟨rfl, rfl, trivial⟩ (ok25_54 hw n0 _ hk2 n v1 s _ h)))
  ·
   refine xL (pc' := 24) (D25 12) (XT.i0_ge_t hc3) (by decide) rfl (xA (D25 14) rfl (xD (i := 0) (j := 4) (D25 15) (m12 hw) rfl rfl rfl (xC (D25 16) rfl ?_)))
   obtain ⟨x4, hx4, h⟩ := bd h
   refine xN (i := 2) (D25 17) rfl hx4 (xB 3 (D25 18) rfl (xW (D25 19) ?_))
   obtain ⟨x5, ex5, h⟩ := lt_e h
   refine xP (L' := [vR 0,vI v1,vI x2,vI x5]) (D25 20) (leb rfl) (by subst ex5; rfl) (xA (D25 21) rfl (xD (i := 0) (j := 14) (D25 22) (m17 hw) rfl rfl rfl (xC (D25 23) rfl ?_)))
   obtain ⟨x6, hx6, h⟩ := bd h
   refine yR (i := 4) (D25 24) rfl hx6 ?_
   rcases ite_e h with ⟨hc7, h⟩ | ⟨hc7, h⟩
   ·
    exact xL (pc' := 52) (D25 25) (XT.i0_eq_t hc7) (by decide) rfl (xE (L' := [vU,vU,vU,vU]) trivial (ok25_52 hw n0 n s _ h))
   ·
    refine xM (D25 25) (XT.i0_eq_f hc7) (xA (D25 26) rfl (xD (i := 0) (j := 16) (D25 27) (m21 hw) rfl rfl rfl (xC (D25 28) rfl ?_)))
    obtain ⟨x8, hx8, h⟩ := bd h
    refine xN (i := 6) (D25 29) rfl hx8 (xC (D25 30) rfl ?_)
    rcases ite_e h with ⟨hc9, h⟩ | ⟨hc9, h⟩
    ·
     exact xI (pc' := 54) (D25 31) (XT.ii_eq_t hc9) (by decide) rfl (xE (L' := [vR 0,vI v1,vU,vU]) ⟨rfl, rfl, trivial⟩ (ok25_54 hw n0 _ hk2 n v1 s _ h))
    ·
     exact xJ (D25 31) (XT.ii_eq_f hc9) (xE (L' := [vU,vU,vU,vU]) trivial (ok25_52 hw n0 n s _ h))
 ·
  refine xI (pc' := 60) (D25 5) (XT.ii_ge_t hc1) (by decide) rfl (xB 1 (D25 36) rfl ?_)
  cases h
  exact xZ (D25 37) rfl (leb rfl) (leb rfl) ⟨rfl, rfl⟩
def f_checkCalls_2 : Nat → Int32 → St → Option (Int32)
 | 0 => fun _ _ => none
 | n + 1 => g_checkCalls_2 (f_checkCalls_2 n) n
theorem ok25_2 (hw : HW a0 Z) (n0 : Nat) : ∀ (n : Nat) (v1 : Int32) (s : St) (r : Int32), f_checkCalls_2 n v1 s = some r → W25 l Z n0 (P25 s r) 0 0 2 [vR 0,vI v1,vU,vU] [] (Hb 0 s)
 | 0, v1, s, r, h => nomatch (show none = some r from h)
 | n + 1, v1, s, r, h => okg25_2 hw n0 _ (ok25_2 hw n0 n) n v1 s r h
def f_checkCalls (n : Nat) (s : St) : Option (Int32) :=
 f_checkCalls_2 n (0 : Int32) s
theorem ok25 (hw : HW a0 Z) (n : Nat) (s : St) (r : Int32) (h : f_checkCalls n s = some r) : CS l Z CN lay y25 prog_1_method_19_code 4 (some FieldType.boolean) R25 0 [.ref 0] (Hb 0 s) (P25 s r) := by
 refine CS.of_wp pn_cls (leb rfl) fun n0 => ?_
 show W25 l Z n0 (P25 s r) 0 0 0 [vR 0,vU,vU,vU] [] (Hb 0 s)
 unfold f_checkCalls at h
 exact xB 0 (D25 0) rfl (xP (L' := [vR 0,vI 0,vU,vU]) (D25 1) (leb rfl) rfl (xE (L' := [vR 0,vI 0,vU,vU]) ⟨rfl, rfl, trivial⟩ (ok25_2 hw n0 n (0 : Int32) s _ h)))
def D6 := dA k16 (0,.iconst 0,1) [(1,.istore_n 1,1),(2,.iload_n 1,1),(3,.iconst 4,1),(4,.if_icmp .ge 51,3),(7,.aload_n 0,1),(8,.getfield 19,3),(11,.iload_n 1,1),(12,.iconst 0,1),(13,.bastore,1),(14,.aload_n 0,1),(15,.getfield 26,3),(18,.iload_n 1,1),(19,.iconst 0,1),(20,.iastore,1),(21,.aload_n 0,1),(22,.getfield 29,3),(25,.iload_n 1,1),(26,.iconst 0,1),(27,.iastore,1),(28,.aload_n 0,1),(29,.getfield 32,3),(32,.iload_n 1,1),(33,.iconst 0,1),(34,.iastore,1),(35,.aload_n 0,1),(36,.getfield 35,3),(39,.iload_n 1,1),(40,.iconst 0,1),(41,.iastore,1),(42,.aload_n 0,1),(43,.getfield 23,3),(46,.iload_n 1,1),(47,.iconst 0,1),(48,.iastore,1),(49,.iinc 1 1,3),(52,.goto (-50),3),(55,.iconst 0,1),(56,.istore_n 1,1),(57,.iload_n 1,1),(58,.sipush 256,3),(61,.if_icmp .ge 30,3),(64,.aload_n 0,1),(65,.getfield 47,3),(68,.iload_n 1,1),(69,.iconst (-1),1),(70,.iastore,1),(71,.aload_n 0,1),(72,.getfield 50,3),(75,.iload_n 1,1),(76,.iconst (-1),1),(77,.iastore,1),(78,.aload_n 0,1),(79,.getfield 53,3),(82,.iload_n 1,1),(83,.iconst (-1),1),(84,.iastore,1),(85,.iinc 1 1,3),(88,.goto (-31),3),(91,.aload_n 0,1),(92,.aload_n 0,1),(93,.getfield 120,3),(96,.ifCond .le 7,3),(99,.iconst 1,1),(100,.goto 4,3),(103,.iconst 0,1),(104,.putfield 180,3),(107,.aload_n 0,1),(108,.iconst 0,1),(109,.putfield 183,3),(112,.iconst 0,1),(113,.istore_n 1,1),(114,.iload_n 1,1),(115,.bipush 8,2),(117,.if_icmp .ge 31,3),(120,.aload_n 0,1),(121,.getfield 180,3),(124,.ifCond .eq 24,3),(127,.aload_n 0,1),(128,.getfield 183,3),(131,.aload_n 0,1),(132,.getfield 120,3),(135,.if_icmp .ge 13,3),(138,.aload_n 0,1),(139,.invokevirtual 186,3),(142,.iinc 1 1,3),(145,.goto (-31),3),(148,.aload_n 0,1),(149,.getfield 180,3),(152,.ifCond .eq 14,3),(155,.aload_n 0,1),(156,.getfield 183,3),(159,.aload_n 0,1),(160,.getfield 120,3),(163,.if_icmp .eq 5,3),(166,.iconst 0,1),(167,.ireturn,1),(168,.aload_n 0,1),(169,.getfield 19,3),(172,.iconst 0,1),(173,.baload,1),(174,.ifCond .eq 12,3),(177,.aload_n 0,1),(178,.getfield 26,3),(181,.iconst 0,1),(182,.iaload,1),(183,.ifCond .eq 5,3),(186,.iconst 0,1),(187,.ireturn,1),(188,.aload_n 0,1),(189,.invokevirtual 189,3),(192,.ireturn,1)] (by decide +kernel)
abbrev y6 : MethodName := ⟨"FatPointerC", "parseProgram", "()Z"⟩
theorem hy6 : y6.cls ≠ "java/lang/invoke/MethodHandle" ∧ y6.cls ≠ "java/lang/invoke/VarHandle" := by decide
theorem pd6 : parseMethodDescriptor y6.desc = some ⟨[], some .boolean⟩ := by decide +kernel
abbrev R6 : Room := { frames := 11, cells := 0, slots := 0, locals := 147 }
abbrev P6 (r : Int32 × St) : Option Value → List OwnC → Prop := fun v H' => v = some (.int r.1) ∧ H' = (Hb 0 r.2)
abbrev W6 (l : Launch) (Z : State) (n0 : Nat) := WP l Z CN lay "FatPointerC" "parseProgram" prog_1_method_18_code 2 (some FieldType.boolean) R6 n0 0
def f_parseProgram_166 (n : Nat) (s : St) : Option (Int32 × St) :=
 some ((0 : Int32), s)
theorem ok6_166 (hw : HW a0 Z) (n0 n : Nat) (s : St) (r : Int32 × St) (h : f_parseProgram_166 n s = some r) : W6 l Z n0 (P6 r) 0 0 166 [vU,vU] [] (Hb 0 s) := by
 unfold f_parseProgram_166 at h
 refine xB 0 (D6 95) rfl ?_
 cases h
 exact xZ (D6 96) rfl (leb rfl) (leb rfl) ⟨rfl, rfl⟩
def f_parseProgram_186 (n : Nat) (s : St) : Option (Int32 × St) :=
 some ((0 : Int32), s)
theorem ok6_186 (hw : HW a0 Z) (n0 n : Nat) (s : St) (r : Int32 × St) (h : f_parseProgram_186 n s = some r) : W6 l Z n0 (P6 r) 0 0 186 [vU,vU] [] (Hb 0 s) := by
 unfold f_parseProgram_186 at h
 refine xB 0 (D6 107) rfl ?_
 cases h
 exact xZ (D6 108) rfl (leb rfl) (leb rfl) ⟨rfl, rfl⟩
def f_parseProgram_148 (n : Nat) (s : St) : Option (Int32 × St) :=
 if (gI s 12) = 0 then
  f_parseProgram_166 n s
 else
  if (gI s 11) = (gI s 2) then
   (rd (gA s 3) (0 : Int32)).bind fun x3 =>
   if x3 = 0 then
    f_parseProgram_186 n s
   else
    (rd (gA s 5) (0 : Int32)).bind fun x5 =>
    if x5 = 0 then
     (f_checkCalls n s).bind fun c7 =>
     some (c7 &&& 1, s)
    else
     f_parseProgram_186 n s
  else
   f_parseProgram_166 n s
theorem ok6_148 (hw : HW a0 Z) (n0 n : Nat) (s : St) (r : Int32 × St) (h : f_parseProgram_148 n s = some r) : W6 l Z n0 (P6 r) 0 0 148 [vR 0,vU] [] (Hb 0 s) := by
 unfold f_parseProgram_148 at h
 refine xA (D6 87) rfl (xD (i := 0) (j := 27) (D6 88) (m126 hw) rfl rfl rfl ?_)
 rcases ite_e h with ⟨hc1, h⟩ | ⟨hc1, h⟩
 ·
  exact xL (pc' := 166) (D6 89) (XT.i0_eq_t hc1) (by decide) rfl (xE (L' := [vU,vU]) trivial (ok6_166 hw n0 n s _ h))
 ·
  refine xM (D6 89) (XT.i0_eq_f hc1) (xA (D6 90) rfl (xD (i := 0) (j := 26) (D6 91) (m128 hw) rfl rfl rfl (xA (D6 92) rfl (xD (i := 0) (j := 2) (D6 93) (m108 hw) rfl rfl rfl ?_))))
  rcases ite_e h with ⟨hc2, h⟩ | ⟨hc2, h⟩
  ·
   refine xI (pc' := 168) (D6 94) (XT.ii_eq_t hc2) (by decide) rfl (xA (D6 97) rfl (xD (i := 0) (j := 14) (D6 98) (m17 hw) rfl rfl rfl (xB 0 (D6 99) rfl ?_)))
   obtain ⟨x3, hx3, h⟩ := bd h
   refine yR (i := 4) (D6 100) rfl hx3 ?_
   rcases ite_e h with ⟨hc4, h⟩ | ⟨hc4, h⟩
   ·
    exact xL (pc' := 186) (D6 101) (XT.i0_eq_t hc4) (by decide) rfl (xE (L' := [vU,vU]) trivial (ok6_186 hw n0 n s _ h))
   ·
    refine xM (D6 101) (XT.i0_eq_f hc4) (xA (D6 102) rfl (xD (i := 0) (j := 16) (D6 103) (m21 hw) rfl rfl rfl (xB 0 (D6 104) rfl ?_)))
    obtain ⟨x5, hx5, h⟩ := bd h
    refine xN (i := 6) (D6 105) rfl hx5 ?_
    rcases ite_e h with ⟨hc6, h⟩ | ⟨hc6, h⟩
    ·
     refine xL (pc' := 188) (D6 106) (XT.i0_eq_t hc6) (by decide) rfl (xA (D6 109) rfl ?_)
     obtain ⟨c7, hc7, h⟩ := bd h
     refine xF (i := 0) (y := y25) (as := []) (S := []) (D6 110) (m204 hw) (m206 hw) (m1 hw) (m205 hw) (m207 hw) (m2 hw) hy25 rfl (ok25 hw n s _ hc7) rfl (lenOf pd25 rfl) (leb rfl) (leb rfl) (leb rfl) (leb rfl) ?_
     rintro _ _ ⟨rfl, rfl⟩
     show W6 l Z n0 (P6 r) 0 0 192 [vR 0,vU] [.int c7] (Hb 0 s)
     cases h
     exact xZ (D6 111) rfl (leb rfl) (leb rfl) ⟨rfl, rfl⟩
    ·
     exact xM (D6 106) (XT.i0_eq_f hc6) (xE (L' := [vU,vU]) trivial (ok6_186 hw n0 n s _ h))
  ·
   exact xJ (D6 94) (XT.ii_eq_f hc2) (xE (L' := [vU,vU]) trivial (ok6_166 hw n0 n s _ h))
def g_parseProgram_114 (k114 : KT3) (n : Nat) (v1 : Int32) (s : St) : Option (Int32 × St) :=
 if v1 < (8 : Int32) then
  if (gI s 12) = 0 then
   f_parseProgram_148 n s
  else
   if (gI s 11) < (gI s 2) then
    (f_parseFunc n s).bind fun c4 =>
    lt (v1 + (1 : Int32)) fun x5 =>
    k114 x5 c4
   else
    f_parseProgram_148 n s
 else
  f_parseProgram_148 n s
abbrev HK6_114 (l : Launch) (Z : State) (n0 : Nat) (k114 : KT3) : Prop := ∀ (v1 : Int32) (s : St) (r : Int32 × St), k114 v1 s = some r → W6 l Z n0 (P6 r) 0 0 114 [vR 0,vI v1] [] (Hb 0 s)
theorem okg6_114 (hw : HW a0 Z) (n0 : Nat) (k114 : KT3) (hk114 : HK6_114 l Z n0 k114) (n : Nat) (v1 : Int32) (s : St) (r : Int32 × St) (h : g_parseProgram_114 k114 n v1 s = some r) : W6 l Z n0 (P6 r) 0 0 114 [vR 0,vI v1] [] (Hb 0 s) := by
 unfold g_parseProgram_114 at h
 refine xC (D6 72) rfl (xG 8 (D6 73) rfl ?_)
 rcases ite_e h with ⟨hc1, h⟩ | ⟨hc1, h⟩
 ·
  refine xJ (D6 74) (XT.ii_ge_f hc1) (xA (D6 75) rfl (xD (i := 0) (j := 27) (D6 76) (m126 hw) rfl rfl rfl ?_))
  rcases ite_e h with ⟨hc2, h⟩ | ⟨hc2, h⟩
  ·
   exact xL (pc' := 148) (D6 77) (XT.i0_eq_t hc2) (by decide) rfl (xE (L' := [vR 0,vU]) ⟨rfl, trivial⟩ (ok6_148 hw n0 n s _ h))
  ·
   refine xM (D6 77) (XT.i0_eq_f hc2) (xA (D6 78) rfl (xD (i := 0) (j := 26) (D6 79) (m128 hw) rfl rfl rfl (xA (D6 80) rfl (xD (i := 0) (j := 2) (D6 81) (m108 hw) rfl rfl rfl ?_))))
   rcases ite_e h with ⟨hc3, h⟩ | ⟨hc3, h⟩
   ·
    refine xJ (D6 82) (XT.ii_ge_f hc3) (xA (D6 83) rfl ?_)
    obtain ⟨c4, hc4, h⟩ := bd h
    refine xF (i := 0) (y := y7) (as := []) (S := []) (D6 84) (m130 hw) (m132 hw) (m1 hw) (m131 hw) (m133 hw) (m2 hw) hy7 rfl (ok7 hw n s _ hc4) rfl (lenOf pd7 rfl) (leb rfl) (leb rfl) (leb rfl) (leb rfl) ?_
    rintro _ _ ⟨rfl, rfl⟩
    show W6 l Z n0 (P6 r) 0 0 142 [vR 0,vI v1] [] (Hb 0 c4)
    obtain ⟨x5, ex5, h⟩ := lt_e h
    exact yC (L' := [vR 0,vI x5]) (1 : Int32) (D6 85) rfl rfl (by subst ex5; rfl) (xV (pc' := 114) (D6 86) (by decide) rfl (xE (L' := [vR 0,vI x5]) ⟨rfl, rfl, trivial⟩ (hk114 x5 c4 _ h)))
   ·
    exact xI (pc' := 148) (D6 82) (XT.ii_ge_t hc3) (by decide) rfl (xE (L' := [vR 0,vU]) ⟨rfl, trivial⟩ (ok6_148 hw n0 n s _ h))
 ·
  exact xI (pc' := 148) (D6 74) (XT.ii_ge_t hc1) (by decide) rfl (xE (L' := [vR 0,vU]) ⟨rfl, trivial⟩ (ok6_148 hw n0 n s _ h))
def f_parseProgram_114 : Nat → Int32 → St → Option (Int32 × St)
 | 0 => fun _ _ => none
 | n + 1 => g_parseProgram_114 (f_parseProgram_114 n) n
theorem ok6_114 (hw : HW a0 Z) (n0 : Nat) : ∀ (n : Nat) (v1 : Int32) (s : St) (r : Int32 × St), f_parseProgram_114 n v1 s = some r → W6 l Z n0 (P6 r) 0 0 114 [vR 0,vI v1] [] (Hb 0 s)
 | 0, v1, s, r, h => nomatch (show none = some r from h)
 | n + 1, v1, s, r, h => okg6_114 hw n0 _ (ok6_114 hw n0 n) n v1 s r h
def f_parseProgram_104 (n : Nat) (t0 : Int32) (s : St) : Option (Int32 × St) :=
 lt (sI s 12 (t0 &&& 1)) fun s1 =>
 lt (sI s1 11 (0 : Int32)) fun s2 =>
 f_parseProgram_114 n (0 : Int32) s2
theorem ok6_104 (hw : HW a0 Z) (n0 n : Nat) (t0 : Int32) (s : St) (r : Int32 × St) (h : f_parseProgram_104 n t0 s = some r) : W6 l Z n0 (P6 r) 0 0 104 [vR 0,vU] [.int t0, .ref 0] (Hb 0 s) := by
 unfold f_parseProgram_104 at h
 obtain ⟨s1, es1, h⟩ := lt_e h
 refine yD (i := 0) (j := 27) (H' := (Hb 0 s1)) (D6 66) (m126 hw) (Or.inl (m127 hw)) (m1 hw) (hlay hw) rfl rfl rfl (leb rfl) (by subst es1; rfl) (xA (D6 67) rfl (xB 0 (D6 68) rfl ?_))
 obtain ⟨s2, es2, h⟩ := lt_e h
 exact xT (i := 0) (j := 26) (H' := (Hb 0 s2)) (D6 69) (m128 hw) (Or.inl (m129 hw)) (m1 hw) (hlay hw) rfl rfl rfl (leb rfl) (by subst es2; rfl) (xB 0 (D6 70) rfl (xP (L' := [vR 0,vI 0]) (D6 71) (leb rfl) rfl (xE (L' := [vR 0,vI 0]) ⟨rfl, rfl, trivial⟩ (ok6_114 hw n0 n (0 : Int32) s2 _ h))))
def g_parseProgram_57 (k57 : KT3) (n : Nat) (v1 : Int32) (s : St) : Option (Int32 × St) :=
 if v1 < (256 : Int32) then
  (wrA s 12 v1 (-1 : Int32)).bind fun s2 =>
  (wrA s2 13 v1 (-1 : Int32)).bind fun s3 =>
  (wrA s3 14 v1 (-1 : Int32)).bind fun s4 =>
  lt (v1 + (1 : Int32)) fun x5 =>
  k57 x5 s4
 else
  if 0 < (gI s 2) then
   f_parseProgram_104 n (1 : Int32) s
  else
   f_parseProgram_104 n (0 : Int32) s
abbrev HK6_57 (l : Launch) (Z : State) (n0 : Nat) (k57 : KT3) : Prop := ∀ (v1 : Int32) (s : St) (r : Int32 × St), k57 v1 s = some r → W6 l Z n0 (P6 r) 0 0 57 [vR 0,vI v1] [] (Hb 0 s)
theorem okg6_57 (hw : HW a0 Z) (n0 : Nat) (k57 : KT3) (hk57 : HK6_57 l Z n0 k57) (n : Nat) (v1 : Int32) (s : St) (r : Int32 × St) (h : g_parseProgram_57 k57 n v1 s = some r) : W6 l Z n0 (P6 r) 0 0 57 [vR 0,vI v1] [] (Hb 0 s) := by
 unfold g_parseProgram_57 at h
 refine xC (D6 39) rfl (yB 256 (D6 40) rfl ?_)
 rcases ite_e h with ⟨hc1, h⟩ | ⟨hc1, h⟩
 ·
  refine xJ (D6 41) (XT.ii_ge_f hc1) (xA (D6 42) rfl (xD (i := 0) (j := 23) (D6 43) (m35 hw) rfl rfl rfl (xC (D6 44) rfl (xB (-1) (D6 45) rfl ?_))))
  obtain ⟨s2, hs2, h⟩ := bd h
  obtain ⟨ys2, gs2, es2⟩ := wrA_e hs2
  refine xU (i := 13) (xs := gA s 12) (H' := (Hb 0 s2)) (D6 46) rfl (leb rfl) gs2 (by subst es2; rfl) (xA (D6 47) rfl (xD (i := 0) (j := 24) (D6 48) (m37 hw) rfl rfl rfl (xC (D6 49) rfl (xB (-1) (D6 50) rfl ?_))))
  obtain ⟨s3, hs3, h⟩ := bd h
  obtain ⟨ys3, gs3, es3⟩ := wrA_e hs3
  refine xU (i := 14) (xs := gA s2 13) (H' := (Hb 0 s3)) (D6 51) rfl (leb rfl) gs3 (by subst es3; rfl) (xA (D6 52) rfl (xD (i := 0) (j := 25) (D6 53) (m39 hw) rfl rfl rfl (xC (D6 54) rfl (xB (-1) (D6 55) rfl ?_))))
  obtain ⟨s4, hs4, h⟩ := bd h
  obtain ⟨ys4, gs4, es4⟩ := wrA_e hs4
  refine xU (i := 15) (xs := gA s3 14) (H' := (Hb 0 s4)) (D6 56) rfl (leb rfl) gs4 (by subst es4; rfl) ?_
  obtain ⟨x5, ex5, h⟩ := lt_e h
  exact yC (L' := [vR 0,vI x5]) (1 : Int32) (D6 57) rfl rfl (by subst ex5; rfl) (xV (pc' := 57) (D6 58) (by decide) rfl (xE (L' := [vR 0,vI x5]) ⟨rfl, rfl, trivial⟩ (hk57 x5 s4 _ h)))
 ·
  refine xI (pc' := 91) (D6 41) (XT.ii_ge_t hc1) (by decide) rfl (xA (D6 59) rfl (xA (D6 60) rfl (xD (i := 0) (j := 2) (D6 61) (m108 hw) rfl rfl rfl ?_)))
  rcases ite_e h with ⟨hc6, h⟩ | ⟨hc6, h⟩
  ·
   exact xM (D6 62) (XT.i0_le_f hc6) (xB 1 (D6 63) rfl (xV (pc' := 104) (D6 64) (by decide) rfl (xE (L' := [vR 0,vU]) ⟨rfl, trivial⟩ (ok6_104 hw n0 n (1 : Int32) s _ h))))
  ·
   exact xL (pc' := 103) (D6 62) (XT.i0_le_t hc6) (by decide) rfl (xB 0 (D6 65) rfl (xE (L' := [vR 0,vU]) ⟨rfl, trivial⟩ (ok6_104 hw n0 n (0 : Int32) s _ h)))
def f_parseProgram_57 : Nat → Int32 → St → Option (Int32 × St)
 | 0 => fun _ _ => none
 | n + 1 => g_parseProgram_57 (f_parseProgram_57 n) n
theorem ok6_57 (hw : HW a0 Z) (n0 : Nat) : ∀ (n : Nat) (v1 : Int32) (s : St) (r : Int32 × St), f_parseProgram_57 n v1 s = some r → W6 l Z n0 (P6 r) 0 0 57 [vR 0,vI v1] [] (Hb 0 s)
 | 0, v1, s, r, h => nomatch (show none = some r from h)
 | n + 1, v1, s, r, h => okg6_57 hw n0 _ (ok6_57 hw n0 n) n v1 s r h
def g_parseProgram_2 (k2 : KT3) (n : Nat) (v1 : Int32) (s : St) : Option (Int32 × St) :=
 if v1 < (4 : Int32) then
  (wrA s 3 v1 (0 : Int32)).bind fun s2 =>
  (wrA s2 5 v1 (0 : Int32)).bind fun s3 =>
  (wrA s3 6 v1 (0 : Int32)).bind fun s4 =>
  (wrA s4 7 v1 (0 : Int32)).bind fun s5 =>
  (wrA s5 8 v1 (0 : Int32)).bind fun s6 =>
  (wrA s6 4 v1 (0 : Int32)).bind fun s7 =>
  lt (v1 + (1 : Int32)) fun x8 =>
  k2 x8 s7
 else
  f_parseProgram_57 n (0 : Int32) s
abbrev HK6_2 (l : Launch) (Z : State) (n0 : Nat) (k2 : KT3) : Prop := ∀ (v1 : Int32) (s : St) (r : Int32 × St), k2 v1 s = some r → W6 l Z n0 (P6 r) 0 0 2 [vR 0,vI v1] [] (Hb 0 s)
theorem okg6_2 (hw : HW a0 Z) (n0 : Nat) (k2 : KT3) (hk2 : HK6_2 l Z n0 k2) (n : Nat) (v1 : Int32) (s : St) (r : Int32 × St) (h : g_parseProgram_2 k2 n v1 s = some r) : W6 l Z n0 (P6 r) 0 0 2 [vR 0,vI v1] [] (Hb 0 s) := by
 unfold g_parseProgram_2 at h
 refine xC (D6 2) rfl (xB 4 (D6 3) rfl ?_)
 rcases ite_e h with ⟨hc1, h⟩ | ⟨hc1, h⟩
 ·
  refine xJ (D6 4) (XT.ii_ge_f hc1) (xA (D6 5) rfl (xD (i := 0) (j := 14) (D6 6) (m17 hw) rfl rfl rfl (xC (D6 7) rfl (xB 0 (D6 8) rfl ?_))))
  obtain ⟨s2, hs2, h⟩ := bd h
  obtain ⟨ys2, gs2, es2⟩ := wrA_e hs2
  refine yS (i := 4) (xs := gA s 3) (H' := (Hb 0 s2)) (D6 9) rfl (leb rfl) gs2 (by subst es2; rfl) (xA (D6 10) rfl (xD (i := 0) (j := 16) (D6 11) (m21 hw) rfl rfl rfl (xC (D6 12) rfl (xB 0 (D6 13) rfl ?_))))
  obtain ⟨s3, hs3, h⟩ := bd h
  obtain ⟨ys3, gs3, es3⟩ := wrA_e hs3
  refine xU (i := 6) (xs := gA s2 5) (H' := (Hb 0 s3)) (D6 14) rfl (leb rfl) gs3 (by subst es3; rfl) (xA (D6 15) rfl (xD (i := 0) (j := 17) (D6 16) (m23 hw) rfl rfl rfl (xC (D6 17) rfl (xB 0 (D6 18) rfl ?_))))
  obtain ⟨s4, hs4, h⟩ := bd h
  obtain ⟨ys4, gs4, es4⟩ := wrA_e hs4
  refine xU (i := 7) (xs := gA s3 6) (H' := (Hb 0 s4)) (D6 19) rfl (leb rfl) gs4 (by subst es4; rfl) (xA (D6 20) rfl (xD (i := 0) (j := 18) (D6 21) (m25 hw) rfl rfl rfl (xC (D6 22) rfl (xB 0 (D6 23) rfl ?_))))
  obtain ⟨s5, hs5, h⟩ := bd h
  obtain ⟨ys5, gs5, es5⟩ := wrA_e hs5
  refine xU (i := 8) (xs := gA s4 7) (H' := (Hb 0 s5)) (D6 24) rfl (leb rfl) gs5 (by subst es5; rfl) (xA (D6 25) rfl (xD (i := 0) (j := 19) (D6 26) (m27 hw) rfl rfl rfl (xC (D6 27) rfl (xB 0 (D6 28) rfl ?_))))
  obtain ⟨s6, hs6, h⟩ := bd h
  obtain ⟨ys6, gs6, es6⟩ := wrA_e hs6
  refine xU (i := 9) (xs := gA s5 8) (H' := (Hb 0 s6)) (D6 29) rfl (leb rfl) gs6 (by subst es6; rfl) (xA (D6 30) rfl (xD (i := 0) (j := 15) (D6 31) (m19 hw) rfl rfl rfl (xC (D6 32) rfl (xB 0 (D6 33) rfl ?_))))
  obtain ⟨s7, hs7, h⟩ := bd h
  obtain ⟨ys7, gs7, es7⟩ := wrA_e hs7
  refine xU (i := 5) (xs := gA s6 4) (H' := (Hb 0 s7)) (D6 34) rfl (leb rfl) gs7 (by subst es7; rfl) ?_
  obtain ⟨x8, ex8, h⟩ := lt_e h
  exact yC (L' := [vR 0,vI x8]) (1 : Int32) (D6 35) rfl rfl (by subst ex8; rfl) (xV (pc' := 2) (D6 36) (by decide) rfl (xE (L' := [vR 0,vI x8]) ⟨rfl, rfl, trivial⟩ (hk2 x8 s7 _ h)))
 ·
  exact xI (pc' := 55) (D6 4) (XT.ii_ge_t hc1) (by decide) rfl (xB 0 (D6 37) rfl (xP (L' := [vR 0,vI 0]) (D6 38) (leb rfl) rfl (xE (L' := [vR 0,vI 0]) ⟨rfl, rfl, trivial⟩ (ok6_57 hw n0 n (0 : Int32) s _ h))))
def f_parseProgram_2 : Nat → Int32 → St → Option (Int32 × St)
 | 0 => fun _ _ => none
 | n + 1 => g_parseProgram_2 (f_parseProgram_2 n) n
theorem ok6_2 (hw : HW a0 Z) (n0 : Nat) : ∀ (n : Nat) (v1 : Int32) (s : St) (r : Int32 × St), f_parseProgram_2 n v1 s = some r → W6 l Z n0 (P6 r) 0 0 2 [vR 0,vI v1] [] (Hb 0 s)
 | 0, v1, s, r, h => nomatch (show none = some r from h)
 | n + 1, v1, s, r, h => okg6_2 hw n0 _ (ok6_2 hw n0 n) n v1 s r h
def f_parseProgram (n : Nat) (s : St) : Option (Int32 × St) :=
 f_parseProgram_2 n (0 : Int32) s
theorem ok6 (hw : HW a0 Z) (n : Nat) (s : St) (r : Int32 × St) (h : f_parseProgram n s = some r) : CS l Z CN lay y6 prog_1_method_18_code 2 (some FieldType.boolean) R6 0 [.ref 0] (Hb 0 s) (P6 r) := by
 refine CS.of_wp pn_cls (leb rfl) fun n0 => ?_
 show W6 l Z n0 (P6 r) 0 0 0 [vR 0,vU] [] (Hb 0 s)
 unfold f_parseProgram at h
 exact xB 0 (D6 0) rfl (xP (L' := [vR 0,vI 0]) (D6 1) (leb rfl) rfl (xE (L' := [vR 0,vI 0]) ⟨rfl, rfl, trivial⟩ (ok6_2 hw n0 n (0 : Int32) s _ h)))
def D5 := dA k3 (0,.aload_n 0,1) [(1,.invokevirtual 117,3),(4,.aload_n 0,1),(5,.aload_n 0,1),(6,.invokevirtual 127,3),(9,.putfield 123,3),(12,.aload_n 0,1),(13,.getfield 123,3),(16,.ireturn,1)] (by decide +kernel)
abbrev y5 : MethodName := ⟨"FatPointerC", "compile", "()Z"⟩
theorem hy5 : y5.cls ≠ "java/lang/invoke/MethodHandle" ∧ y5.cls ≠ "java/lang/invoke/VarHandle" := by decide
theorem pd5 : parseMethodDescriptor y5.desc = some ⟨[], some .boolean⟩ := by decide +kernel
abbrev R5 : Room := { frames := 12, cells := 0, slots := 0, locals := 161 }
abbrev P5 (r : Int32 × St) : Option Value → List OwnC → Prop := fun v H' => v = some (.int r.1) ∧ H' = (Hb 0 r.2)
abbrev W5 (l : Launch) (Z : State) (n0 : Nat) := WP l Z CN lay "FatPointerC" "compile" prog_1_method_5_code 1 (some FieldType.boolean) R5 n0 0
def f_compile (n : Nat) (s : St) : Option (Int32 × St) :=
 (f_clearResults s).bind fun c1 =>
 (f_parseProgram n c1).bind fun c2 =>
 lt (sI c2.2 3 (c2.1 &&& 1)) fun s3 =>
 some ((gI s3 3) &&& 1, s3)
theorem ok5 (hw : HW a0 Z) (n : Nat) (s : St) (r : Int32 × St) (h : f_compile n s = some r) : CS l Z CN lay y5 prog_1_method_5_code 1 (some FieldType.boolean) R5 0 [.ref 0] (Hb 0 s) (P5 r) := by
 refine CS.of_wp pn_cls (leb rfl) fun n0 => ?_
 show W5 l Z n0 (P5 r) 0 0 0 [vR 0] [] (Hb 0 s)
 unfold f_compile at h
 refine xA (D5 0) rfl ?_
 obtain ⟨c1, hc1, h⟩ := bd h
 refine xF (i := 0) (y := y1) (as := []) (S := []) (D5 1) (m81 hw) (m83 hw) (m1 hw) (m82 hw) (m84 hw) (m2 hw) hy1 rfl (ok1 hw s _ hc1) rfl (lenOf pd1 rfl) (leb rfl) (leb rfl) (leb rfl) (leb rfl) ?_
 rintro _ _ ⟨rfl, rfl⟩
 show W5 l Z n0 (P5 r) 0 0 4 [vR 0] [] (Hb 0 c1)
 refine xA (D5 2) rfl (xA (D5 3) rfl ?_)
 obtain ⟨c2, hc2, h⟩ := bd h
 refine xF (i := 0) (y := y6) (as := []) (S := [.ref 0]) (D5 4) (m122 hw) (m124 hw) (m1 hw) (m123 hw) (m125 hw) (m2 hw) hy6 rfl (ok6 hw n c1 _ hc2) rfl (lenOf pd6 rfl) (leb rfl) (leb rfl) (leb rfl) (leb rfl) ?_
 rintro _ _ ⟨rfl, rfl⟩
 show W5 l Z n0 (P5 r) 0 0 9 [vR 0] [.int c2.1, .ref 0] (Hb 0 c2.2)
 obtain ⟨s3, es3, h⟩ := lt_e h
 refine yD (i := 0) (j := 5) (H' := (Hb 0 s3)) (D5 5) (m110 hw) (Or.inl (m111 hw)) (m1 hw) (hlay hw) rfl rfl rfl (leb rfl) (by subst es3; rfl) (xA (D5 6) rfl (xD (i := 0) (j := 5) (D5 7) (m110 hw) rfl rfl rfl ?_))
 cases h
 exact xZ (D5 8) rfl (leb rfl) (leb rfl) ⟨rfl, rfl⟩
def D26 := dA k5 (0,.aload_n 0,1) [(1,.getfield 150,3),(4,.ireturn,1)] (by decide +kernel)
abbrev y26 : MethodName := ⟨"FatPointerC", "status", "()I"⟩
theorem hy26 : y26.cls ≠ "java/lang/invoke/MethodHandle" ∧ y26.cls ≠ "java/lang/invoke/VarHandle" := by decide
theorem pd26 : parseMethodDescriptor y26.desc = some ⟨[], some .int⟩ := by decide +kernel
abbrev R26 : Room := { frames := 0, cells := 0, slots := 0, locals := 0 }
abbrev P26 (s : St) (r : Int32) : Option Value → List OwnC → Prop := fun v H' => v = some (.int r) ∧ H' = (Hb 0 s)
abbrev W26 (l : Launch) (Z : State) (n0 : Nat) := WP l Z CN lay "FatPointerC" "status" prog_1_method_7_code 1 (some FieldType.int) R26 n0 0
def f_status (s : St) : Option (Int32) :=
 some (gI s 4)
theorem ok26 (hw : HW a0 Z) (s : St) (r : Int32) (h : f_status s = some r) : CS l Z CN lay y26 prog_1_method_7_code 1 (some FieldType.int) R26 0 [.ref 0] (Hb 0 s) (P26 s r) := by
 refine CS.of_wp pn_cls (leb rfl) fun n0 => ?_
 show W26 l Z n0 (P26 s r) 0 0 0 [vR 0] [] (Hb 0 s)
 unfold f_status at h
 refine xA (D26 0) rfl (xD (i := 0) (j := 6) (D26 1) (m85 hw) rfl rfl rfl ?_)
 cases h
 exact xK (D26 2) rfl (leb rfl) (leb rfl) ⟨rfl, rfl⟩
def D42 := dA k34 (0,.aload_n 0,1) [(1,.iload_n 1,1),(2,.putfield 150,3),(5,.aload_n 0,1),(6,.iload_n 2,1),(7,.putfield 162,3),(10,.aload_n 0,1),(11,.aload_n 0,1),(12,.getfield 131,3),(15,.putfield 165,3),(18,.aload_n 0,1),(19,.iconst 0,1),(20,.putfield 143,3),(23,.return_,1)] (by decide +kernel)
abbrev y42 : MethodName := ⟨"FatPointerC", "trap", "(II)V"⟩
theorem hy42 : y42.cls ≠ "java/lang/invoke/MethodHandle" ∧ y42.cls ≠ "java/lang/invoke/VarHandle" := by decide
theorem pd42 : parseMethodDescriptor y42.desc = some ⟨[.int, .int], none⟩ := by decide +kernel
abbrev R42 : Room := { frames := 0, cells := 0, slots := 0, locals := 0 }
abbrev P42 (r : St) : Option Value → List OwnC → Prop := fun v H' => v = none ∧ H' = (Hb 0 r)
abbrev W42 (l : Launch) (Z : State) (n0 : Nat) := WP l Z CN lay "FatPointerC" "trap" prog_1_method_37_code 3 (none) R42 n0 0
def f_trap (p1 p2 : Int32) (s : St) : Option (St) :=
 lt (sI s 4 p1) fun s1 =>
 lt (sI s1 5 p2) fun s2 =>
 lt (sI s2 6 (gI s2 15)) fun s3 =>
 lt (sI s3 18 (0 : Int32)) fun s4 =>
 some s4
theorem ok42 (hw : HW a0 Z) (p1 p2 : Int32) (s r : St) (h : f_trap p1 p2 s = some r) : CS l Z CN lay y42 prog_1_method_37_code 3 (none) R42 0 [.ref 0, .int p1, .int p2] (Hb 0 s) (P42 r) := by
 refine CS.of_wp pn_cls (leb rfl) fun n0 => ?_
 show W42 l Z n0 (P42 r) 0 0 0 [vR 0,vI p1,vI p2] [] (Hb 0 s)
 unfold f_trap at h
 refine xA (D42 0) rfl (xC (D42 1) rfl ?_)
 obtain ⟨s1, es1, h⟩ := lt_e h
 refine xT (i := 0) (j := 6) (H' := (Hb 0 s1)) (D42 2) (m85 hw) (Or.inl (m86 hw)) (m1 hw) (hlay hw) rfl rfl rfl (leb rfl) (by subst es1; rfl) (xA (D42 3) rfl (xC (D42 4) rfl ?_))
 obtain ⟨s2, es2, h⟩ := lt_e h
 refine xT (i := 0) (j := 7) (H' := (Hb 0 s2)) (D42 5) (m87 hw) (Or.inl (m88 hw)) (m1 hw) (hlay hw) rfl rfl rfl (leb rfl) (by subst es2; rfl) (xA (D42 6) rfl (xA (D42 7) rfl (xD (i := 0) (j := 42) (D42 8) (m218 hw) rfl rfl rfl ?_)))
 obtain ⟨s3, es3, h⟩ := lt_e h
 refine xT (i := 0) (j := 8) (H' := (Hb 0 s3)) (D42 9) (m89 hw) (Or.inl (m90 hw)) (m1 hw) (hlay hw) rfl rfl rfl (leb rfl) (by subst es3; rfl) (xA (D42 10) rfl (xB 0 (D42 11) rfl ?_))
 obtain ⟨s4, es4, h⟩ := lt_e h
 refine yD (i := 0) (j := 45) (H' := (Hb 0 s4)) (D42 12) (m226 hw) (Or.inl (m227 hw)) (m1 hw) (hlay hw) rfl rfl rfl (leb rfl) (by subst es4; rfl) ?_
 cases h
 exact xS (D42 13) rfl (leb rfl) (leb rfl) ⟨rfl, rfl⟩
def D28 := dA k61 (0,.aload_n 0,1) [(1,.getfield 131,3),(4,.bipush 7,2),(6,.iand,1),(7,.istore 4,2),(9,.aload_n 0,1),(10,.getfield 77,3),(13,.iload 4,2),(15,.iload_n 1,1),(16,.iastore,1),(17,.aload_n 0,1),(18,.getfield 80,3),(21,.iload 4,2),(23,.aload_n 0,1),(24,.getfield 137,3),(27,.iastore,1),(28,.aload_n 0,1),(29,.getfield 83,3),(32,.iload 4,2),(34,.aload_n 0,1),(35,.getfield 134,3),(38,.iastore,1),(39,.aload_n 0,1),(40,.getfield 86,3),(43,.iload 4,2),(45,.iload_n 2,1),(46,.iastore,1),(47,.aload_n 0,1),(48,.getfield 89,3),(51,.iload 4,2),(53,.iload_n 3,1),(54,.iastore,1),(55,.aload_n 0,1),(56,.getfield 134,3),(59,.istore 5,2),(61,.aload_n 0,1),(62,.getfield 29,3),(65,.iload_n 1,1),(66,.iaload,1),(67,.istore 6,2),(69,.iconst 0,1),(70,.istore 7,2),(72,.iload 7,2),(74,.iload 6,2),(76,.if_icmp .ge 126,3),(79,.iload 7,2),(81,.bipush 8,2),(83,.if_icmp .ge 119,3),(86,.aload_n 0,1),(87,.getfield 137,3),(90,.iload 7,2),(92,.iadd,1),(93,.sipush 4095,3),(96,.iand,1),(97,.istore 8,2),(99,.aload_n 0,1),(100,.getfield 44,3),(103,.iload_n 1,1),(104,.bipush 8,2),(106,.imul,1),(107,.iload 7,2),(109,.iadd,1),(110,.iaload,1),(111,.istore 9,2),(113,.aload_n 0,1),(114,.getfield 68,3),(117,.iload 8,2),(119,.iload 5,2),(121,.iastore,1),(122,.aload_n 0,1),(123,.getfield 71,3),(126,.iload 8,2),(128,.iload 9,2),(130,.iastore,1),(131,.aload_n 0,1),(132,.getfield 74,3),(135,.iload 8,2),(137,.iconst 1,1),(138,.bastore,1),(139,.iconst 0,1),(140,.istore 10,2),(142,.iload 10,2),(144,.iload 9,2),(146,.if_icmp .ge 43,3),(149,.iload 5,2),(151,.iload 10,2),(153,.iadd,1),(154,.bipush 63,2),(156,.iand,1),(157,.istore 11,2),(159,.aload_n 0,1),(160,.getfield 59,3),(163,.iload 11,2),(165,.iconst 0,1),(166,.iastore,1),(167,.aload_n 0,1),(168,.getfield 62,3),(171,.iload 11,2),(173,.iconst 0,1),(174,.iastore,1),(175,.aload_n 0,1),(176,.getfield 65,3),(179,.iload 11,2),(181,.iconst 0,1),(182,.iastore,1),(183,.iinc 10 1,3),(186,.goto (-44),3),(189,.iload 5,2),(191,.iload 9,2),(193,.iadd,1),(194,.istore 5,2),(196,.iinc 7 1,3),(199,.goto (-127),3),(202,.iconst 0,1),(203,.istore 7,2),(205,.iload 7,2),(207,.aload_n 0,1),(208,.getfield 26,3),(211,.iload_n 1,1),(212,.iaload,1),(213,.if_icmp .ge 79,3),(216,.iload 7,2),(218,.bipush 8,2),(220,.if_icmp .ge 72,3),(223,.aload_n 0,1),(224,.getfield 68,3),(227,.aload_n 0,1),(228,.getfield 137,3),(231,.iload 7,2),(233,.iadd,1),(234,.sipush 4095,3),(237,.iand,1),(238,.iaload,1),(239,.bipush 63,2),(241,.iand,1),(242,.istore 8,2),(244,.aload_n 0,1),(245,.getfield 59,3),(248,.iload 8,2),(250,.aload_n 0,1),(251,.getfield 101,3),(254,.iload 7,2),(256,.iaload,1),(257,.iastore,1),(258,.aload_n 0,1),(259,.getfield 62,3),(262,.iload 8,2),(264,.aload_n 0,1),(265,.getfield 104,3),(268,.iload 7,2),(270,.iaload,1),(271,.iastore,1),(272,.aload_n 0,1),(273,.getfield 65,3),(276,.iload 8,2),(278,.aload_n 0,1),(279,.getfield 107,3),(282,.iload 7,2),(284,.iaload,1),(285,.iastore,1),(286,.iinc 7 1,3),(289,.goto (-84),3),(292,.aload_n 0,1),(293,.dup,1),(294,.getfield 137,3),(297,.iload 6,2),(299,.iadd,1),(300,.putfield 137,3),(303,.aload_n 0,1),(304,.dup,1),(305,.getfield 134,3),(308,.aload_n 0,1),(309,.getfield 32,3),(312,.iload_n 1,1),(313,.iaload,1),(314,.iadd,1),(315,.putfield 134,3),(318,.aload_n 0,1),(319,.iload 4,2),(321,.iconst 1,1),(322,.iadd,1),(323,.putfield 131,3),(326,.return_,1)] (by decide +kernel)
abbrev y28 : MethodName := ⟨"FatPointerC", "pushFrame", "(III)V"⟩
theorem hy28 : y28.cls ≠ "java/lang/invoke/MethodHandle" ∧ y28.cls ≠ "java/lang/invoke/VarHandle" := by decide
theorem pd28 : parseMethodDescriptor y28.desc = some ⟨[.int, .int, .int], none⟩ := by decide +kernel
abbrev R28 : Room := { frames := 0, cells := 0, slots := 0, locals := 0 }
abbrev P28 (r : St) : Option Value → List OwnC → Prop := fun v H' => v = none ∧ H' = (Hb 0 r)
abbrev W28 (l : Launch) (Z : State) (n0 : Nat) := WP l Z CN lay "FatPointerC" "pushFrame" prog_1_method_65_code 12 (none) R28 n0 0
def g_pushFrame_142 (k72 : KT4) (k142 : KT7) (n : Nat) (v1 v4 v5 v6 v7 v9 v10 : Int32) (s : St) : Option (St) :=
 if v10 < v9 then
  lt ((v5 + v10) &&& (63 : Int32)) fun x2 =>
  (wrA s 16 x2 (0 : Int32)).bind fun s3 =>
  (wrA s3 17 x2 (0 : Int32)).bind fun s4 =>
  (wrA s4 18 x2 (0 : Int32)).bind fun s5 =>
  lt (v10 + (1 : Int32)) fun x6 =>
  k142 v1 v4 v5 v6 v7 v9 x6 s5
 else
  lt (v5 + v9) fun x7 =>
  lt (v7 + (1 : Int32)) fun x8 =>
  k72 v1 v4 x7 v6 x8 s
abbrev HK28_72 (l : Launch) (Z : State) (n0 : Nat) (k72 : KT4) : Prop := ∀ (v1 v4 v5 v6 v7 : Int32) (s r : St), k72 v1 v4 v5 v6 v7 s = some r → W28 l Z n0 (P28 r) 0 0 72 [vR 0,vI v1,vU,vU,vI v4,vI v5,vI v6,vI v7,vU,vU,vU,vU] [] (Hb 0 s)
abbrev HK28_142 (l : Launch) (Z : State) (n0 : Nat) (k142 : KT7) : Prop := ∀ (v1 v4 v5 v6 v7 v9 v10 : Int32) (s r : St), k142 v1 v4 v5 v6 v7 v9 v10 s = some r → W28 l Z n0 (P28 r) 0 0 142 [vR 0,vI v1,vU,vU,vI v4,vI v5,vI v6,vI v7,vU,vI v9,vI v10,vU] [] (Hb 0 s)
theorem okg28_142 (hw : HW a0 Z) (n0 : Nat) (k72 : KT4) (hk72 : HK28_72 l Z n0 k72) (k142 : KT7) (hk142 : HK28_142 l Z n0 k142) (n : Nat) (v1 v4 v5 v6 v7 v9 v10 : Int32) (s r : St) (h : g_pushFrame_142 k72 k142 n v1 v4 v5 v6 v7 v9 v10 s = some r) : W28 l Z n0 (P28 r) 0 0 142 [vR 0,vI v1,vU,vU,vI v4,vI v5,vI v6,vI v7,vU,vI v9,vI v10,vU] [] (Hb 0 s) := by
 unfold g_pushFrame_142 at h
 refine xH (D28 81) rfl (xH (D28 82) rfl ?_)
 rcases ite_e h with ⟨hc1, h⟩ | ⟨hc1, h⟩
 ·
  refine xJ (D28 83) (XT.ii_ge_f hc1) (xH (D28 84) rfl (xH (D28 85) rfl (xO (D28 86) (xG 63 (D28 87) rfl (xW (D28 88) ?_)))))
  obtain ⟨x2, ex2, h⟩ := lt_e h
  refine xR (L' := [vR 0,vI v1,vU,vU,vI v4,vI v5,vI v6,vI v7,vU,vI v9,vI v10,vI x2]) (D28 89) (leb rfl) (by subst ex2; rfl) (xA (D28 90) rfl (xD (i := 0) (j := 30) (D28 91) (m43 hw) rfl rfl rfl (xH (D28 92) rfl (xB 0 (D28 93) rfl ?_))))
  obtain ⟨s3, hs3, h⟩ := bd h
  obtain ⟨ys3, gs3, es3⟩ := wrA_e hs3
  refine xU (i := 17) (xs := gA s 16) (H' := (Hb 0 s3)) (D28 94) rfl (leb rfl) gs3 (by subst es3; rfl) (xA (D28 95) rfl (xD (i := 0) (j := 31) (D28 96) (m45 hw) rfl rfl rfl (xH (D28 97) rfl (xB 0 (D28 98) rfl ?_))))
  obtain ⟨s4, hs4, h⟩ := bd h
  obtain ⟨ys4, gs4, es4⟩ := wrA_e hs4
  refine xU (i := 18) (xs := gA s3 17) (H' := (Hb 0 s4)) (D28 99) rfl (leb rfl) gs4 (by subst es4; rfl) (xA (D28 100) rfl (xD (i := 0) (j := 32) (D28 101) (m47 hw) rfl rfl rfl (xH (D28 102) rfl (xB 0 (D28 103) rfl ?_))))
  obtain ⟨s5, hs5, h⟩ := bd h
  obtain ⟨ys5, gs5, es5⟩ := wrA_e hs5
  refine xU (i := 19) (xs := gA s4 18) (H' := (Hb 0 s5)) (D28 104) rfl (leb rfl) gs5 (by subst es5; rfl) ?_
  obtain ⟨x6, ex6, h⟩ := lt_e h
  exact yC (L' := [vR 0,vI v1,vU,vU,vI v4,vI v5,vI v6,vI v7,vU,vI v9,vI x6,vI x2]) (1 : Int32) (D28 105) rfl rfl (by subst ex6; rfl) (xV (pc' := 142) (D28 106) (by decide) rfl (xE (L' := [vR 0,vI v1,vU,vU,vI v4,vI v5,vI v6,vI v7,vU,vI v9,vI x6,vU]) ⟨rfl, rfl, rfl, rfl, rfl, rfl, rfl, rfl, trivial⟩ (hk142 v1 v4 v5 v6 v7 v9 x6 s5 _ h)))
 ·
  refine xI (pc' := 189) (D28 83) (XT.ii_ge_t hc1) (by decide) rfl (xH (D28 107) rfl (xH (D28 108) rfl (xO (D28 109) ?_)))
  obtain ⟨x7, ex7, h⟩ := lt_e h
  refine xR (L' := [vR 0,vI v1,vU,vU,vI v4,vI x7,vI v6,vI v7,vU,vI v9,vI v10,vU]) (D28 110) (leb rfl) (by subst ex7; rfl) ?_
  obtain ⟨x8, ex8, h⟩ := lt_e h
  exact yC (L' := [vR 0,vI v1,vU,vU,vI v4,vI x7,vI v6,vI x8,vU,vI v9,vI v10,vU]) (1 : Int32) (D28 111) rfl rfl (by subst ex8; rfl) (xV (pc' := 72) (D28 112) (by decide) rfl (xE (L' := [vR 0,vI v1,vU,vU,vI v4,vI x7,vI v6,vI x8,vU,vU,vU,vU]) ⟨rfl, rfl, rfl, rfl, rfl, rfl, trivial⟩ (hk72 v1 v4 x7 v6 x8 s _ h)))
def f_pushFrame_142 (k72 : KT4) : Nat → Int32 → Int32 → Int32 → Int32 → Int32 → Int32 → Int32 → St → Option (St)
 | 0 => fun _ _ _ _ _ _ _ _ => none
 | n + 1 => g_pushFrame_142 k72 (f_pushFrame_142 k72 n) n
theorem ok28_142 (hw : HW a0 Z) (n0 : Nat) (k72 : KT4) (hk72 : HK28_72 l Z n0 k72) : ∀ (n : Nat) (v1 v4 v5 v6 v7 v9 v10 : Int32) (s r : St), f_pushFrame_142 k72 n v1 v4 v5 v6 v7 v9 v10 s = some r → W28 l Z n0 (P28 r) 0 0 142 [vR 0,vI v1,vU,vU,vI v4,vI v5,vI v6,vI v7,vU,vI v9,vI v10,vU] [] (Hb 0 s)
 | 0, v1, v4, v5, v6, v7, v9, v10, s, r, h => nomatch (show none = some r from h)
 | n + 1, v1, v4, v5, v6, v7, v9, v10, s, r, h => okg28_142 hw n0 _ hk72 _ (ok28_142 hw n0 k72 hk72 n) n v1 v4 v5 v6 v7 v9 v10 s r h
def f_pushFrame_292 (n : Nat) (v1 v4 v6 : Int32) (s : St) : Option (St) :=
 lt (sI s 14 ((gI s 14) + v6)) fun s1 =>
 (rd (gA s1 7) v1).bind fun x2 =>
 lt (sI s1 16 ((gI s1 16) + x2)) fun s3 =>
 lt (sI s3 15 (v4 + (1 : Int32))) fun s4 =>
 some s4
theorem ok28_292 (hw : HW a0 Z) (n0 n : Nat) (v1 v4 v6 : Int32) (s r : St) (h : f_pushFrame_292 n v1 v4 v6 s = some r) : W28 l Z n0 (P28 r) 0 0 292 [vR 0,vI v1,vU,vU,vI v4,vU,vI v6,vU,vU,vU,vU,vU] [] (Hb 0 s) := by
 unfold f_pushFrame_292 at h
 refine xA (D28 162) rfl (yA (D28 163) rfl (xD (i := 0) (j := 36) (D28 164) (m222 hw) rfl rfl rfl (xH (D28 165) rfl (xO (D28 166) ?_))))
 obtain ⟨s1, es1, h⟩ := lt_e h
 refine xT (i := 0) (j := 36) (H' := (Hb 0 s1)) (D28 167) (m222 hw) (Or.inl (m223 hw)) (m1 hw) (hlay hw) rfl rfl rfl (leb rfl) (by subst es1; rfl) (xA (D28 168) rfl (yA (D28 169) rfl (xD (i := 0) (j := 43) (D28 170) (m220 hw) rfl rfl rfl (xA (D28 171) rfl (xD (i := 0) (j := 18) (D28 172) (m25 hw) rfl rfl rfl (xC (D28 173) rfl ?_))))))
 obtain ⟨x2, hx2, h⟩ := bd h
 refine xN (i := 8) (D28 174) rfl hx2 (xO (D28 175) ?_)
 obtain ⟨s3, es3, h⟩ := lt_e h
 refine xT (i := 0) (j := 43) (H' := (Hb 0 s3)) (D28 176) (m220 hw) (Or.inl (m221 hw)) (m1 hw) (hlay hw) rfl rfl rfl (leb rfl) (by subst es3; rfl) (xA (D28 177) rfl (xH (D28 178) rfl (xB 1 (D28 179) rfl (xO (D28 180) ?_))))
 obtain ⟨s4, es4, h⟩ := lt_e h
 refine xT (i := 0) (j := 42) (H' := (Hb 0 s4)) (D28 181) (m218 hw) (Or.inl (m219 hw)) (m1 hw) (hlay hw) rfl rfl rfl (leb rfl) (by subst es4; rfl) ?_
 cases h
 exact xS (D28 182) rfl (leb rfl) (leb rfl) ⟨rfl, rfl⟩
def g_pushFrame_205 (k205 : KT8) (n : Nat) (v1 v4 v6 v7 : Int32) (s : St) : Option (St) :=
 (rd (gA s 5) v1).bind fun x1 =>
 if v7 < x1 then
  if v7 < (8 : Int32) then
   (rd (gA s 19) (((gI s 14) + v7) &&& (4095 : Int32))).bind fun x4 =>
   lt (x4 &&& (63 : Int32)) fun x5 =>
   (rd (gA s 30) v7).bind fun x6 =>
   (wrA s 16 x5 x6).bind fun s7 =>
   (rd (gA s7 31) v7).bind fun x8 =>
   (wrA s7 17 x5 x8).bind fun s9 =>
   (rd (gA s9 32) v7).bind fun x10 =>
   (wrA s9 18 x5 x10).bind fun s11 =>
   lt (v7 + (1 : Int32)) fun x12 =>
   k205 v1 v4 v6 x12 s11
  else
   f_pushFrame_292 n v1 v4 v6 s
 else
  f_pushFrame_292 n v1 v4 v6 s
abbrev HK28_205 (l : Launch) (Z : State) (n0 : Nat) (k205 : KT8) : Prop := ∀ (v1 v4 v6 v7 : Int32) (s r : St), k205 v1 v4 v6 v7 s = some r → W28 l Z n0 (P28 r) 0 0 205 [vR 0,vI v1,vU,vU,vI v4,vU,vI v6,vI v7,vU,vU,vU,vU] [] (Hb 0 s)
theorem okg28_205 (hw : HW a0 Z) (n0 : Nat) (k205 : KT8) (hk205 : HK28_205 l Z n0 k205) (n : Nat) (v1 v4 v6 v7 : Int32) (s r : St) (h : g_pushFrame_205 k205 n v1 v4 v6 v7 s = some r) : W28 l Z n0 (P28 r) 0 0 205 [vR 0,vI v1,vU,vU,vI v4,vU,vI v6,vI v7,vU,vU,vU,vU] [] (Hb 0 s) := by
 unfold g_pushFrame_205 at h
 refine xH (D28 115) rfl (xA (D28 116) rfl (xD (i := 0) (j := 16) (D28 117) (m21 hw) rfl rfl rfl (xC (D28 118) rfl ?_)))
 obtain ⟨x1, hx1, h⟩ := bd h
 refine xN (i := 6) (D28 119) rfl hx1 ?_
 rcases ite_e h with ⟨hc2, h⟩ | ⟨hc2, h⟩
 ·
  refine xJ (D28 120) (XT.ii_ge_f hc2) (xH (D28 121) rfl (xG 8 (D28 122) rfl ?_))
  rcases ite_e h with ⟨hc3, h⟩ | ⟨hc3, h⟩
  ·
   refine xJ (D28 123) (XT.ii_ge_f hc3) (xA (D28 124) rfl (xD (i := 0) (j := 33) (D28 125) (m49 hw) rfl rfl rfl (xA (D28 126) rfl (xD (i := 0) (j := 36) (D28 127) (m222 hw) rfl rfl rfl (xH (D28 128) rfl (xO (D28 129) (yB 4095 (D28 130) rfl (xW (D28 131) ?_))))))))
   obtain ⟨x4, hx4, h⟩ := bd h
   refine xN (i := 20) (D28 132) rfl hx4 (xG 63 (D28 133) rfl (xW (D28 134) ?_))
   obtain ⟨x5, ex5, h⟩ := lt_e h
   refine xR (L' := [vR 0,vI v1,vU,vU,vI v4,vU,vI v6,vI v7,vI x5,vU,vU,vU]) (D28 135) (leb rfl) (by subst ex5; rfl) (xA (D28 136) rfl (xD (i := 0) (j := 30) (D28 137) (m43 hw) rfl rfl rfl (xH (D28 138) rfl (xA (D28 139) rfl (xD (i := 0) (j := 49) (D28 140) (m71 hw) rfl rfl rfl (xH (D28 141) rfl ?_))))))
   obtain ⟨x6, hx6, h⟩ := bd h
   refine xN (i := 31) (D28 142) rfl hx6 ?_
   obtain ⟨s7, hs7, h⟩ := bd h
   obtain ⟨ys7, gs7, es7⟩ := wrA_e hs7
   refine xU (i := 17) (xs := gA s 16) (H' := (Hb 0 s7)) (D28 143) rfl (leb rfl) gs7 (by subst es7; rfl) (xA (D28 144) rfl (xD (i := 0) (j := 31) (D28 145) (m45 hw) rfl rfl rfl (xH (D28 146) rfl (xA (D28 147) rfl (xD (i := 0) (j := 50) (D28 148) (m73 hw) rfl rfl rfl (xH (D28 149) rfl ?_))))))
   obtain ⟨x8, hx8, h⟩ := bd h
   refine xN (i := 32) (D28 150) rfl hx8 ?_
   obtain ⟨s9, hs9, h⟩ := bd h
   obtain ⟨ys9, gs9, es9⟩ := wrA_e hs9
   refine xU (i := 18) (xs := gA s7 17) (H' := (Hb 0 s9)) (D28 151) rfl (leb rfl) gs9 (by subst es9; rfl) (xA (D28 152) rfl (xD (i := 0) (j := 32) (D28 153) (m47 hw) rfl rfl rfl (xH (D28 154) rfl (xA (D28 155) rfl (xD (i := 0) (j := 51) (D28 156) (m75 hw) rfl rfl rfl (xH (D28 157) rfl ?_))))))
   obtain ⟨x10, hx10, h⟩ := bd h
   refine xN (i := 33) (D28 158) rfl hx10 ?_
   obtain ⟨s11, hs11, h⟩ := bd h
   obtain ⟨ys11, gs11, es11⟩ := wrA_e hs11
   refine xU (i := 19) (xs := gA s9 18) (H' := (Hb 0 s11)) (D28 159) rfl (leb rfl) gs11 (by subst es11; rfl) ?_
   obtain ⟨x12, ex12, h⟩ := lt_e h
   exact yC (L' := [vR 0,vI v1,vU,vU,vI v4,vU,vI v6,vI x12,vI x5,vU,vU,vU]) (1 : Int32) (D28 160) rfl rfl (by subst ex12; rfl) (xV (pc' := 205) (D28 161) (by decide) rfl (xE (L' := [vR 0,vI v1,vU,vU,vI v4,vU,vI v6,vI x12,vU,vU,vU,vU]) ⟨rfl, rfl, rfl, rfl, rfl, trivial⟩ (hk205 v1 v4 v6 x12 s11 _ h)))
  ·
   exact xI (pc' := 292) (D28 123) (XT.ii_ge_t hc3) (by decide) rfl (xE (L' := [vR 0,vI v1,vU,vU,vI v4,vU,vI v6,vU,vU,vU,vU,vU]) ⟨rfl, rfl, rfl, rfl, trivial⟩ (ok28_292 hw n0 n v1 v4 v6 s _ h))
 ·
  exact xI (pc' := 292) (D28 120) (XT.ii_ge_t hc2) (by decide) rfl (xE (L' := [vR 0,vI v1,vU,vU,vI v4,vU,vI v6,vU,vU,vU,vU,vU]) ⟨rfl, rfl, rfl, rfl, trivial⟩ (ok28_292 hw n0 n v1 v4 v6 s _ h))
def f_pushFrame_205 : Nat → Int32 → Int32 → Int32 → Int32 → St → Option (St)
 | 0 => fun _ _ _ _ _ => none
 | n + 1 => g_pushFrame_205 (f_pushFrame_205 n) n
theorem ok28_205 (hw : HW a0 Z) (n0 : Nat) : ∀ (n : Nat) (v1 v4 v6 v7 : Int32) (s r : St), f_pushFrame_205 n v1 v4 v6 v7 s = some r → W28 l Z n0 (P28 r) 0 0 205 [vR 0,vI v1,vU,vU,vI v4,vU,vI v6,vI v7,vU,vU,vU,vU] [] (Hb 0 s)
 | 0, v1, v4, v6, v7, s, r, h => nomatch (show none = some r from h)
 | n + 1, v1, v4, v6, v7, s, r, h => okg28_205 hw n0 _ (ok28_205 hw n0 n) n v1 v4 v6 v7 s r h
def f_pushFrame_202 (n : Nat) (v1 v4 v6 : Int32) (s : St) : Option (St) :=
 f_pushFrame_205 n v1 v4 v6 (0 : Int32) s
theorem ok28_202 (hw : HW a0 Z) (n0 n : Nat) (v1 v4 v6 : Int32) (s r : St) (h : f_pushFrame_202 n v1 v4 v6 s = some r) : W28 l Z n0 (P28 r) 0 0 202 [vR 0,vI v1,vU,vU,vI v4,vU,vI v6,vU,vU,vU,vU,vU] [] (Hb 0 s) := by
 unfold f_pushFrame_202 at h
 exact xB 0 (D28 113) rfl (xR (L' := [vR 0,vI v1,vU,vU,vI v4,vU,vI v6,vI 0,vU,vU,vU,vU]) (D28 114) (leb rfl) rfl (xE (L' := [vR 0,vI v1,vU,vU,vI v4,vU,vI v6,vI 0,vU,vU,vU,vU]) ⟨rfl, rfl, rfl, rfl, rfl, trivial⟩ (ok28_205 hw n0 n v1 v4 v6 (0 : Int32) s _ h)))
def g_pushFrame_72 (k72 : KT4) (n : Nat) (v1 v4 v5 v6 v7 : Int32) (s : St) : Option (St) :=
 if v7 < v6 then
  if v7 < (8 : Int32) then
   lt (((gI s 14) + v7) &&& (4095 : Int32)) fun x3 =>
   (rd (gA s 11) ((v1 * (8 : Int32)) + v7)).bind fun x4 =>
   (wrA s 19 x3 v5).bind fun s5 =>
   (wrA s5 20 x3 x4).bind fun s6 =>
   (wrA s6 21 x3 (1 : Int32)).bind fun s7 =>
   f_pushFrame_142 k72 n v1 v4 v5 v6 v7 x4 (0 : Int32) s7
  else
   f_pushFrame_202 n v1 v4 v6 s
 else
  f_pushFrame_202 n v1 v4 v6 s
theorem okg28_72 (hw : HW a0 Z) (n0 : Nat) (k72 : KT4) (hk72 : HK28_72 l Z n0 k72) (n : Nat) (v1 v4 v5 v6 v7 : Int32) (s r : St) (h : g_pushFrame_72 k72 n v1 v4 v5 v6 v7 s = some r) : W28 l Z n0 (P28 r) 0 0 72 [vR 0,vI v1,vU,vU,vI v4,vI v5,vI v6,vI v7,vU,vU,vU,vU] [] (Hb 0 s) := by
 unfold g_pushFrame_72 at h
 refine xH (D28 42) rfl (xH (D28 43) rfl ?_)
 rcases ite_e h with ⟨hc1, h⟩ | ⟨hc1, h⟩
 ·
  refine xJ (D28 44) (XT.ii_ge_f hc1) (xH (D28 45) rfl (xG 8 (D28 46) rfl ?_))
  rcases ite_e h with ⟨hc2, h⟩ | ⟨hc2, h⟩
  ·
   refine xJ (D28 47) (XT.ii_ge_f hc2) (xA (D28 48) rfl (xD (i := 0) (j := 36) (D28 49) (m222 hw) rfl rfl rfl (xH (D28 50) rfl (xO (D28 51) (yB 4095 (D28 52) rfl (xW (D28 53) ?_))))))
   obtain ⟨x3, ex3, h⟩ := lt_e h
   refine xR (L' := [vR 0,vI v1,vU,vU,vI v4,vI v5,vI v6,vI v7,vI x3,vU,vU,vU]) (D28 54) (leb rfl) (by subst ex3; rfl) (xA (D28 55) rfl (xD (i := 0) (j := 22) (D28 56) (m33 hw) rfl rfl rfl (xC (D28 57) rfl (xG 8 (D28 58) rfl (yI (D28 59) (xH (D28 60) rfl (xO (D28 61) ?_)))))))
   obtain ⟨x4, hx4, h⟩ := bd h
   refine xN (i := 12) (D28 62) rfl hx4 (xR (L' := [vR 0,vI v1,vU,vU,vI v4,vI v5,vI v6,vI v7,vI x3,vI x4,vU,vU]) (D28 63) (leb rfl) rfl (xA (D28 64) rfl (xD (i := 0) (j := 33) (D28 65) (m49 hw) rfl rfl rfl (xH (D28 66) rfl (xH (D28 67) rfl ?_)))))
   obtain ⟨s5, hs5, h⟩ := bd h
   obtain ⟨ys5, gs5, es5⟩ := wrA_e hs5
   refine xU (i := 20) (xs := gA s 19) (H' := (Hb 0 s5)) (D28 68) rfl (leb rfl) gs5 (by subst es5; rfl) (xA (D28 69) rfl (xD (i := 0) (j := 34) (D28 70) (m51 hw) rfl rfl rfl (xH (D28 71) rfl (xH (D28 72) rfl ?_))))
   obtain ⟨s6, hs6, h⟩ := bd h
   obtain ⟨ys6, gs6, es6⟩ := wrA_e hs6
   refine xU (i := 21) (xs := gA s5 20) (H' := (Hb 0 s6)) (D28 73) rfl (leb rfl) gs6 (by subst es6; rfl) (xA (D28 74) rfl (xD (i := 0) (j := 35) (D28 75) (m53 hw) rfl rfl rfl (xH (D28 76) rfl (xB 1 (D28 77) rfl ?_))))
   obtain ⟨s7, hs7, h⟩ := bd h
   obtain ⟨ys7, gs7, es7⟩ := wrA_e hs7
   exact yS (i := 22) (xs := gA s6 21) (H' := (Hb 0 s7)) (D28 78) rfl (leb rfl) gs7 (by subst es7; rfl) (xB 0 (D28 79) rfl (xR (L' := [vR 0,vI v1,vU,vU,vI v4,vI v5,vI v6,vI v7,vI x3,vI x4,vI 0,vU]) (D28 80) (leb rfl) rfl (xE (L' := [vR 0,vI v1,vU,vU,vI v4,vI v5,vI v6,vI v7,vU,vI x4,vI 0,vU]) ⟨rfl, rfl, rfl, rfl, rfl, rfl, rfl, rfl, trivial⟩ (ok28_142 hw n0 _ hk72 n v1 v4 v5 v6 v7 x4 (0 : Int32) s7 _ h))))
  ·
   exact xI (pc' := 202) (D28 47) (XT.ii_ge_t hc2) (by decide) rfl (xE (L' := [vR 0,vI v1,vU,vU,vI v4,vU,vI v6,vU,vU,vU,vU,vU]) ⟨rfl, rfl, rfl, rfl, trivial⟩ (ok28_202 hw n0 n v1 v4 v6 s _ h))
 ·
  exact xI (pc' := 202) (D28 44) (XT.ii_ge_t hc1) (by decide) rfl (xE (L' := [vR 0,vI v1,vU,vU,vI v4,vU,vI v6,vU,vU,vU,vU,vU]) ⟨rfl, rfl, rfl, rfl, trivial⟩ (ok28_202 hw n0 n v1 v4 v6 s _ h))
def f_pushFrame_72 : Nat → Int32 → Int32 → Int32 → Int32 → Int32 → St → Option (St)
 | 0 => fun _ _ _ _ _ _ => none
 | n + 1 => g_pushFrame_72 (f_pushFrame_72 n) n
theorem ok28_72 (hw : HW a0 Z) (n0 : Nat) : ∀ (n : Nat) (v1 v4 v5 v6 v7 : Int32) (s r : St), f_pushFrame_72 n v1 v4 v5 v6 v7 s = some r → W28 l Z n0 (P28 r) 0 0 72 [vR 0,vI v1,vU,vU,vI v4,vI v5,vI v6,vI v7,vU,vU,vU,vU] [] (Hb 0 s)
 | 0, v1, v4, v5, v6, v7, s, r, h => nomatch (show none = some r from h)
 | n + 1, v1, v4, v5, v6, v7, s, r, h => okg28_72 hw n0 _ (ok28_72 hw n0 n) n v1 v4 v5 v6 v7 s r h
def f_pushFrame (n : Nat) (p1 p2 p3 : Int32) (s : St) : Option (St) :=
 lt ((gI s 15) &&& (7 : Int32)) fun x1 =>
 (wrA s 22 x1 p1).bind fun s2 =>
 (wrA s2 23 x1 (gI s2 14)).bind fun s3 =>
 (wrA s3 24 x1 (gI s3 16)).bind fun s4 =>
 (wrA s4 25 x1 p2).bind fun s5 =>
 (wrA s5 26 x1 p3).bind fun s6 =>
 lt (gI s6 16) fun x7 =>
 (rd (gA s6 6) p1).bind fun x8 =>
 f_pushFrame_72 n p1 x1 x7 x8 (0 : Int32) s6
theorem ok28 (hw : HW a0 Z) (n : Nat) (p1 p2 p3 : Int32) (s r : St) (h : f_pushFrame n p1 p2 p3 s = some r) : CS l Z CN lay y28 prog_1_method_65_code 12 (none) R28 0 [.ref 0, .int p1, .int p2, .int p3] (Hb 0 s) (P28 r) := by
 refine CS.of_wp pn_cls (leb rfl) fun n0 => ?_
 show W28 l Z n0 (P28 r) 0 0 0 [vR 0,vI p1,vI p2,vI p3,vU,vU,vU,vU,vU,vU,vU,vU] [] (Hb 0 s)
 unfold f_pushFrame at h
 refine xA (D28 0) rfl (xD (i := 0) (j := 42) (D28 1) (m218 hw) rfl rfl rfl (xG 7 (D28 2) rfl (xW (D28 3) ?_)))
 obtain ⟨x1, ex1, h⟩ := lt_e h
 refine xR (L' := [vR 0,vI p1,vI p2,vI p3,vI x1,vU,vU,vU,vU,vU,vU,vU]) (D28 4) (leb rfl) (by subst ex1; rfl) (xA (D28 5) rfl (xD (i := 0) (j := 37) (D28 6) (m55 hw) rfl rfl rfl (xH (D28 7) rfl (xC (D28 8) rfl ?_))))
 obtain ⟨s2, hs2, h⟩ := bd h
 obtain ⟨ys2, gs2, es2⟩ := wrA_e hs2
 refine xU (i := 23) (xs := gA s 22) (H' := (Hb 0 s2)) (D28 9) rfl (leb rfl) gs2 (by subst es2; rfl) (xA (D28 10) rfl (xD (i := 0) (j := 38) (D28 11) (m57 hw) rfl rfl rfl (xH (D28 12) rfl (xA (D28 13) rfl (xD (i := 0) (j := 36) (D28 14) (m222 hw) rfl rfl rfl ?_)))))
 obtain ⟨s3, hs3, h⟩ := bd h
 obtain ⟨ys3, gs3, es3⟩ := wrA_e hs3
 refine xU (i := 24) (xs := gA s2 23) (H' := (Hb 0 s3)) (D28 15) rfl (leb rfl) gs3 (by subst es3; rfl) (xA (D28 16) rfl (xD (i := 0) (j := 39) (D28 17) (m59 hw) rfl rfl rfl (xH (D28 18) rfl (xA (D28 19) rfl (xD (i := 0) (j := 43) (D28 20) (m220 hw) rfl rfl rfl ?_)))))
 obtain ⟨s4, hs4, h⟩ := bd h
 obtain ⟨ys4, gs4, es4⟩ := wrA_e hs4
 refine xU (i := 25) (xs := gA s3 24) (H' := (Hb 0 s4)) (D28 21) rfl (leb rfl) gs4 (by subst es4; rfl) (xA (D28 22) rfl (xD (i := 0) (j := 40) (D28 23) (m61 hw) rfl rfl rfl (xH (D28 24) rfl (xC (D28 25) rfl ?_))))
 obtain ⟨s5, hs5, h⟩ := bd h
 obtain ⟨ys5, gs5, es5⟩ := wrA_e hs5
 refine xU (i := 26) (xs := gA s4 25) (H' := (Hb 0 s5)) (D28 26) rfl (leb rfl) gs5 (by subst es5; rfl) (xA (D28 27) rfl (xD (i := 0) (j := 41) (D28 28) (m63 hw) rfl rfl rfl (xH (D28 29) rfl (xC (D28 30) rfl ?_))))
 obtain ⟨s6, hs6, h⟩ := bd h
 obtain ⟨ys6, gs6, es6⟩ := wrA_e hs6
 refine xU (i := 27) (xs := gA s5 26) (H' := (Hb 0 s6)) (D28 31) rfl (leb rfl) gs6 (by subst es6; rfl) (xA (D28 32) rfl (xD (i := 0) (j := 43) (D28 33) (m220 hw) rfl rfl rfl ?_))
 obtain ⟨x7, ex7, h⟩ := lt_e h
 refine xR (L' := [vR 0,vI p1,vI p2,vI p3,vI x1,vI x7,vU,vU,vU,vU,vU,vU]) (D28 34) (leb rfl) (by subst ex7; rfl) (xA (D28 35) rfl (xD (i := 0) (j := 17) (D28 36) (m23 hw) rfl rfl rfl (xC (D28 37) rfl ?_)))
 obtain ⟨x8, hx8, h⟩ := bd h
 exact xN (i := 7) (D28 38) rfl hx8 (xR (L' := [vR 0,vI p1,vI p2,vI p3,vI x1,vI x7,vI x8,vU,vU,vU,vU,vU]) (D28 39) (leb rfl) rfl (xB 0 (D28 40) rfl (xR (L' := [vR 0,vI p1,vI p2,vI p3,vI x1,vI x7,vI x8,vI 0,vU,vU,vU,vU]) (D28 41) (leb rfl) rfl (xE (L' := [vR 0,vI p1,vU,vU,vI x1,vI x7,vI x8,vI 0,vU,vU,vU,vU]) ⟨rfl, rfl, rfl, rfl, rfl, rfl, trivial⟩ (ok28_72 hw n0 n p1 x1 x7 x8 (0 : Int32) s6 _ h)))))
def D36 := dA k38 (0,.aload_n 0,1) [(1,.getfield 131,3),(4,.iconst 1,1),(5,.isub,1),(6,.istore_n 2,1),(7,.iload_n 2,1),(8,.ifCond .ge 5,3),(11,.iconst 0,1),(12,.ireturn,1),(13,.aload_n 0,1),(14,.getfield 38,3),(17,.aload_n 0,1),(18,.getfield 77,3),(21,.iload_n 2,1),(22,.iaload,1),(23,.iconst 3,1),(24,.iand,1),(25,.bipush 8,2),(27,.imul,1),(28,.iload_n 1,1),(29,.bipush 7,2),(31,.iand,1),(32,.iadd,1),(33,.iaload,1),(34,.istore_n 3,1),(35,.iload_n 3,1),(36,.ifCond .ge 5,3),(39,.iconst 0,1),(40,.istore_n 3,1),(41,.aload_n 0,1),(42,.getfield 80,3),(45,.iload_n 2,1),(46,.iaload,1),(47,.iload_n 3,1),(48,.iadd,1),(49,.sipush 4095,3),(52,.iand,1),(53,.ireturn,1)] (by decide +kernel)
abbrev y36 : MethodName := ⟨"FatPointerC", "objOf", "(I)I"⟩
theorem hy36 : y36.cls ≠ "java/lang/invoke/MethodHandle" ∧ y36.cls ≠ "java/lang/invoke/VarHandle" := by decide
theorem pd36 : parseMethodDescriptor y36.desc = some ⟨[.int], some .int⟩ := by decide +kernel
abbrev R36 : Room := { frames := 0, cells := 0, slots := 0, locals := 0 }
abbrev P36 (s : St) (r : Int32) : Option Value → List OwnC → Prop := fun v H' => v = some (.int r) ∧ H' = (Hb 0 s)
abbrev W36 (l : Launch) (Z : State) (n0 : Nat) := WP l Z CN lay "FatPointerC" "objOf" prog_1_method_41_code 4 (some FieldType.int) R36 n0 0
def f_objOf_41 (v2 v3 : Int32) (s : St) : Option (Int32) :=
 (rd (gA s 23) v2).bind fun x1 =>
 some ((x1 + v3) &&& (4095 : Int32))
theorem ok36_41 (hw : HW a0 Z) (n0 : Nat) (v2 v3 : Int32) (s : St) (r : Int32) (h : f_objOf_41 v2 v3 s = some r) : W36 l Z n0 (P36 s r) 0 0 41 [vR 0,vU,vI v2,vI v3] [] (Hb 0 s) := by
 unfold f_objOf_41 at h
 refine xA (D36 29) rfl (xD (i := 0) (j := 38) (D36 30) (m57 hw) rfl rfl rfl (xC (D36 31) rfl ?_))
 obtain ⟨x1, hx1, h⟩ := bd h
 refine xN (i := 24) (D36 32) rfl hx1 (xC (D36 33) rfl (xO (D36 34) (yB 4095 (D36 35) rfl (xW (D36 36) ?_))))
 cases h
 exact xK (D36 37) rfl (leb rfl) (leb rfl) ⟨rfl, rfl⟩
def f_objOf (p1 : Int32) (s : St) : Option (Int32) :=
 lt ((gI s 15) - (1 : Int32)) fun x1 =>
 if x1 < 0 then
  some (0 : Int32)
 else
  (rd (gA s 22) x1).bind fun x3 =>
  (rd (gA s 9) (((x3 &&& (3 : Int32)) * (8 : Int32)) + (p1 &&& (7 : Int32)))).bind fun x4 =>
  if x4 < 0 then
   f_objOf_41 x1 (0 : Int32) s
  else
   f_objOf_41 x1 x4 s
theorem ok36 (hw : HW a0 Z) (p1 : Int32) (s : St) (r : Int32) (h : f_objOf p1 s = some r) : CS l Z CN lay y36 prog_1_method_41_code 4 (some FieldType.int) R36 0 [.ref 0, .int p1] (Hb 0 s) (P36 s r) := by
 refine CS.of_wp pn_cls (leb rfl) fun n0 => ?_
 show W36 l Z n0 (P36 s r) 0 0 0 [vR 0,vI p1,vU,vU] [] (Hb 0 s)
 unfold f_objOf at h
 refine xA (D36 0) rfl (xD (i := 0) (j := 42) (D36 1) (m218 hw) rfl rfl rfl (xB 1 (D36 2) rfl (yN (D36 3) ?_)))
 obtain ⟨x1, ex1, h⟩ := lt_e h
 refine xP (L' := [vR 0,vI p1,vI x1,vU]) (D36 4) (leb rfl) (by subst ex1; rfl) (xC (D36 5) rfl ?_)
 rcases ite_e h with ⟨hc2, h⟩ | ⟨hc2, h⟩
 ·
  refine xM (D36 6) (XT.i0_ge_f hc2) (xB 0 (D36 7) rfl ?_)
  cases h
  exact xK (D36 8) rfl (leb rfl) (leb rfl) ⟨rfl, rfl⟩
 ·
  refine xL (pc' := 13) (D36 6) (XT.i0_ge_t hc2) (by decide) rfl (xA (D36 9) rfl (xD (i := 0) (j := 20) (D36 10) (m29 hw) rfl rfl rfl (xA (D36 11) rfl (xD (i := 0) (j := 37) (D36 12) (m55 hw) rfl rfl rfl (xC (D36 13) rfl ?_)))))
  obtain ⟨x3, hx3, h⟩ := bd h
  refine xN (i := 23) (D36 14) rfl hx3 (xB 3 (D36 15) rfl (xW (D36 16) (xG 8 (D36 17) rfl (yI (D36 18) (xC (D36 19) rfl (xG 7 (D36 20) rfl (xW (D36 21) (xO (D36 22) ?_))))))))
  obtain ⟨x4, hx4, h⟩ := bd h
  refine xN (i := 10) (D36 23) rfl hx4 (xP (L' := [vR 0,vI p1,vI x1,vI x4]) (D36 24) (leb rfl) rfl (xC (D36 25) rfl ?_))
  rcases ite_e h with ⟨hc5, h⟩ | ⟨hc5, h⟩
  ·
   exact xM (D36 26) (XT.i0_ge_f hc5) (xB 0 (D36 27) rfl (xP (L' := [vR 0,vI p1,vI x1,vI 0]) (D36 28) (leb rfl) rfl (xE (L' := [vR 0,vU,vI x1,vI 0]) ⟨rfl, rfl, rfl, trivial⟩ (ok36_41 hw n0 x1 (0 : Int32) s _ h))))
  ·
   exact xL (pc' := 41) (D36 26) (XT.i0_ge_t hc5) (by decide) rfl (xE (L' := [vR 0,vU,vI x1,vI x4]) ⟨rfl, rfl, rfl, trivial⟩ (ok36_41 hw n0 x1 x4 s _ h))
def D37 := dA k39 (0,.aload_n 0,1) [(1,.getfield 131,3),(4,.iconst 1,1),(5,.isub,1),(6,.istore_n 2,1),(7,.iload_n 2,1),(8,.ifCond .ge 5,3),(11,.iconst 0,1),(12,.ireturn,1),(13,.aload_n 0,1),(14,.getfield 41,3),(17,.aload_n 0,1),(18,.getfield 77,3),(21,.iload_n 2,1),(22,.iaload,1),(23,.iconst 3,1),(24,.iand,1),(25,.bipush 8,2),(27,.imul,1),(28,.iload_n 1,1),(29,.bipush 7,2),(31,.iand,1),(32,.iadd,1),(33,.baload,1),(34,.ireturn,1)] (by decide +kernel)
abbrev y37 : MethodName := ⟨"FatPointerC", "isArr", "(I)Z"⟩
theorem hy37 : y37.cls ≠ "java/lang/invoke/MethodHandle" ∧ y37.cls ≠ "java/lang/invoke/VarHandle" := by decide
theorem pd37 : parseMethodDescriptor y37.desc = some ⟨[.int], some .boolean⟩ := by decide +kernel
abbrev R37 : Room := { frames := 0, cells := 0, slots := 0, locals := 0 }
abbrev P37 (s : St) (r : Int32) : Option Value → List OwnC → Prop := fun v H' => v = some (.int r) ∧ H' = (Hb 0 s)
abbrev W37 (l : Launch) (Z : State) (n0 : Nat) := WP l Z CN lay "FatPointerC" "isArr" prog_1_method_42_code 3 (some FieldType.boolean) R37 n0 0
def f_isArr (p1 : Int32) (s : St) : Option (Int32) :=
 lt ((gI s 15) - (1 : Int32)) fun x1 =>
 if x1 < 0 then
  some (0 : Int32)
 else
  (rd (gA s 22) x1).bind fun x3 =>
  (rd (gA s 10) (((x3 &&& (3 : Int32)) * (8 : Int32)) + (p1 &&& (7 : Int32)))).bind fun x4 =>
  some (x4 &&& 1)
theorem ok37 (hw : HW a0 Z) (p1 : Int32) (s : St) (r : Int32) (h : f_isArr p1 s = some r) : CS l Z CN lay y37 prog_1_method_42_code 3 (some FieldType.boolean) R37 0 [.ref 0, .int p1] (Hb 0 s) (P37 s r) := by
 refine CS.of_wp pn_cls (leb rfl) fun n0 => ?_
 show W37 l Z n0 (P37 s r) 0 0 0 [vR 0,vI p1,vU] [] (Hb 0 s)
 unfold f_isArr at h
 refine xA (D37 0) rfl (xD (i := 0) (j := 42) (D37 1) (m218 hw) rfl rfl rfl (xB 1 (D37 2) rfl (yN (D37 3) ?_)))
 obtain ⟨x1, ex1, h⟩ := lt_e h
 refine xP (L' := [vR 0,vI p1,vI x1]) (D37 4) (leb rfl) (by subst ex1; rfl) (xC (D37 5) rfl ?_)
 rcases ite_e h with ⟨hc2, h⟩ | ⟨hc2, h⟩
 ·
  refine xM (D37 6) (XT.i0_ge_f hc2) (xB 0 (D37 7) rfl ?_)
  cases h
  exact xZ (D37 8) rfl (leb rfl) (leb rfl) ⟨rfl, rfl⟩
 ·
  refine xL (pc' := 13) (D37 6) (XT.i0_ge_t hc2) (by decide) rfl (xA (D37 9) rfl (xD (i := 0) (j := 21) (D37 10) (m31 hw) rfl rfl rfl (xA (D37 11) rfl (xD (i := 0) (j := 37) (D37 12) (m55 hw) rfl rfl rfl (xC (D37 13) rfl ?_)))))
  obtain ⟨x3, hx3, h⟩ := bd h
  refine xN (i := 23) (D37 14) rfl hx3 (xB 3 (D37 15) rfl (xW (D37 16) (xG 8 (D37 17) rfl (yI (D37 18) (xC (D37 19) rfl (xG 7 (D37 20) rfl (xW (D37 21) (xO (D37 22) ?_))))))))
  obtain ⟨x4, hx4, h⟩ := bd h
  refine yR (i := 11) (D37 23) rfl hx4 ?_
  cases h
  exact xZ (D37 24) rfl (leb rfl) (leb rfl) ⟨rfl, rfl⟩
def D38 := dA k36 (0,.aload_n 0,1) [(1,.getfield 92,3),(4,.iload_n 1,1),(5,.iload_n 2,1),(6,.iastore,1),(7,.aload_n 0,1),(8,.getfield 95,3),(11,.iload_n 1,1),(12,.iload_n 3,1),(13,.iastore,1),(14,.aload_n 0,1),(15,.getfield 98,3),(18,.iload_n 1,1),(19,.iload 4,2),(21,.iastore,1),(22,.return_,1)] (by decide +kernel)
abbrev y38 : MethodName := ⟨"FatPointerC", "setReg", "(IIII)V"⟩
theorem hy38 : y38.cls ≠ "java/lang/invoke/MethodHandle" ∧ y38.cls ≠ "java/lang/invoke/VarHandle" := by decide
theorem pd38 : parseMethodDescriptor y38.desc = some ⟨[.int, .int, .int, .int], none⟩ := by decide +kernel
abbrev R38 : Room := { frames := 0, cells := 0, slots := 0, locals := 0 }
abbrev P38 (r : St) : Option Value → List OwnC → Prop := fun v H' => v = none ∧ H' = (Hb 0 r)
abbrev W38 (l : Launch) (Z : State) (n0 : Nat) := WP l Z CN lay "FatPointerC" "setReg" prog_1_method_39_code 5 (none) R38 n0 0
def f_setReg (p1 p2 p3 p4 : Int32) (s : St) : Option (St) :=
 (wrA s 27 p1 p2).bind fun s1 =>
 (wrA s1 28 p1 p3).bind fun s2 =>
 (wrA s2 29 p1 p4).bind fun s3 =>
 some s3
theorem ok38 (hw : HW a0 Z) (p1 p2 p3 p4 : Int32) (s r : St) (h : f_setReg p1 p2 p3 p4 s = some r) : CS l Z CN lay y38 prog_1_method_39_code 5 (none) R38 0 [.ref 0, .int p1, .int p2, .int p3, .int p4] (Hb 0 s) (P38 r) := by
 refine CS.of_wp pn_cls (leb rfl) fun n0 => ?_
 show W38 l Z n0 (P38 r) 0 0 0 [vR 0,vI p1,vI p2,vI p3,vI p4] [] (Hb 0 s)
 unfold f_setReg at h
 refine xA (D38 0) rfl (xD (i := 0) (j := 46) (D38 1) (m65 hw) rfl rfl rfl (xC (D38 2) rfl (xC (D38 3) rfl ?_)))
 obtain ⟨s1, hs1, h⟩ := bd h
 obtain ⟨ys1, gs1, es1⟩ := wrA_e hs1
 refine xU (i := 28) (xs := gA s 27) (H' := (Hb 0 s1)) (D38 4) rfl (leb rfl) gs1 (by subst es1; rfl) (xA (D38 5) rfl (xD (i := 0) (j := 47) (D38 6) (m67 hw) rfl rfl rfl (xC (D38 7) rfl (xC (D38 8) rfl ?_))))
 obtain ⟨s2, hs2, h⟩ := bd h
 obtain ⟨ys2, gs2, es2⟩ := wrA_e hs2
 refine xU (i := 29) (xs := gA s1 28) (H' := (Hb 0 s2)) (D38 9) rfl (leb rfl) gs2 (by subst es2; rfl) (xA (D38 10) rfl (xD (i := 0) (j := 48) (D38 11) (m69 hw) rfl rfl rfl (xC (D38 12) rfl (xH (D38 13) rfl ?_))))
 obtain ⟨s3, hs3, h⟩ := bd h
 obtain ⟨ys3, gs3, es3⟩ := wrA_e hs3
 refine xU (i := 30) (xs := gA s2 29) (H' := (Hb 0 s3)) (D38 14) rfl (leb rfl) gs3 (by subst es3; rfl) ?_
 cases h
 exact xS (D38 15) rfl (leb rfl) (leb rfl) ⟨rfl, rfl⟩
def D53 := dA k43 (0,.aload_n 0,1) [(1,.iload_n 2,1),(2,.aload_n 0,1),(3,.getfield 59,3),(6,.iload_n 1,1),(7,.bipush 63,2),(9,.iand,1),(10,.iaload,1),(11,.aload_n 0,1),(12,.getfield 62,3),(15,.iload_n 1,1),(16,.bipush 63,2),(18,.iand,1),(19,.iaload,1),(20,.aload_n 0,1),(21,.getfield 65,3),(24,.iload_n 1,1),(25,.bipush 63,2),(27,.iand,1),(28,.iaload,1),(29,.invokevirtual 252,3),(32,.return_,1)] (by decide +kernel)
abbrev y53 : MethodName := ⟨"FatPointerC", "readCell", "(II)V"⟩
theorem hy53 : y53.cls ≠ "java/lang/invoke/MethodHandle" ∧ y53.cls ≠ "java/lang/invoke/VarHandle" := by decide
theorem pd53 : parseMethodDescriptor y53.desc = some ⟨[.int, .int], none⟩ := by decide +kernel
abbrev R53 : Room := { frames := 1, cells := 0, slots := 0, locals := 16 }
abbrev P53 (r : St) : Option Value → List OwnC → Prop := fun v H' => v = none ∧ H' = (Hb 0 r)
abbrev W53 (l : Launch) (Z : State) (n0 : Nat) := WP l Z CN lay "FatPointerC" "readCell" prog_1_method_46_code 3 (none) R53 n0 0
def f_readCell (p1 p2 : Int32) (s : St) : Option (St) :=
 (rd (gA s 16) (p1 &&& (63 : Int32))).bind fun x1 =>
 (rd (gA s 17) (p1 &&& (63 : Int32))).bind fun x2 =>
 (rd (gA s 18) (p1 &&& (63 : Int32))).bind fun x3 =>
 (f_setReg p2 x1 x2 x3 s).bind fun c4 =>
 some c4
theorem ok53 (hw : HW a0 Z) (p1 p2 : Int32) (s r : St) (h : f_readCell p1 p2 s = some r) : CS l Z CN lay y53 prog_1_method_46_code 3 (none) R53 0 [.ref 0, .int p1, .int p2] (Hb 0 s) (P53 r) := by
 refine CS.of_wp pn_cls (leb rfl) fun n0 => ?_
 show W53 l Z n0 (P53 r) 0 0 0 [vR 0,vI p1,vI p2] [] (Hb 0 s)
 unfold f_readCell at h
 refine xA (D53 0) rfl (xC (D53 1) rfl (xA (D53 2) rfl (xD (i := 0) (j := 30) (D53 3) (m43 hw) rfl rfl rfl (xC (D53 4) rfl (xG 63 (D53 5) rfl (xW (D53 6) ?_))))))
 obtain ⟨x1, hx1, h⟩ := bd h
 refine xN (i := 17) (D53 7) rfl hx1 (xA (D53 8) rfl (xD (i := 0) (j := 31) (D53 9) (m45 hw) rfl rfl rfl (xC (D53 10) rfl (xG 63 (D53 11) rfl (xW (D53 12) ?_)))))
 obtain ⟨x2, hx2, h⟩ := bd h
 refine xN (i := 18) (D53 13) rfl hx2 (xA (D53 14) rfl (xD (i := 0) (j := 32) (D53 15) (m47 hw) rfl rfl rfl (xC (D53 16) rfl (xG 63 (D53 17) rfl (xW (D53 18) ?_)))))
 obtain ⟨x3, hx3, h⟩ := bd h
 refine xN (i := 19) (D53 19) rfl hx3 ?_
 obtain ⟨c4, hc4, h⟩ := bd h
 refine xF (i := 0) (y := y38) (as := [.int p2, .int x1, .int x2, .int x3]) (S := []) (D53 20) (m269 hw) (m271 hw) (m1 hw) (m270 hw) (m272 hw) (m2 hw) hy38 rfl (ok38 hw p2 x1 x2 x3 s _ hc4) rfl (lenOf pd38 rfl) (leb rfl) (leb rfl) (leb rfl) (leb rfl) ?_
 rintro _ _ ⟨rfl, rfl⟩
 show W53 l Z n0 (P53 r) 0 0 32 [vR 0,vI p1,vI p2] [] (Hb 0 c4)
 cases h
 exact xS (D53 21) rfl (leb rfl) (leb rfl) ⟨rfl, rfl⟩
def D35 := dA k40 (0,.aload_n 0,1) [(1,.iload_n 1,1),(2,.invokevirtual 256,3),(5,.istore_n 3,1),(6,.aload_n 0,1),(7,.iload_n 1,1),(8,.invokevirtual 259,3),(11,.ifCond .eq 12,3),(14,.aload_n 0,1),(15,.iload_n 2,1),(16,.iconst 1,1),(17,.iconst 0,1),(18,.iload_n 3,1),(19,.invokevirtual 252,3),(22,.return_,1),(23,.aload_n 0,1),(24,.aload_n 0,1),(25,.getfield 68,3),(28,.iload_n 3,1),(29,.iaload,1),(30,.bipush 63,2),(32,.iand,1),(33,.iload_n 2,1),(34,.invokevirtual 263,3),(37,.return_,1)] (by decide +kernel)
abbrev y35 : MethodName := ⟨"FatPointerC", "loadVar", "(II)V"⟩
theorem hy35 : y35.cls ≠ "java/lang/invoke/MethodHandle" ∧ y35.cls ≠ "java/lang/invoke/VarHandle" := by decide
theorem pd35 : parseMethodDescriptor y35.desc = some ⟨[.int, .int], none⟩ := by decide +kernel
abbrev R35 : Room := { frames := 2, cells := 0, slots := 0, locals := 30 }
abbrev P35 (r : St) : Option Value → List OwnC → Prop := fun v H' => v = none ∧ H' = (Hb 0 r)
abbrev W35 (l : Launch) (Z : State) (n0 : Nat) := WP l Z CN lay "FatPointerC" "loadVar" prog_1_method_43_code 4 (none) R35 n0 0
def f_loadVar (p1 p2 : Int32) (s : St) : Option (St) :=
 (f_objOf p1 s).bind fun c1 =>
 (f_isArr p1 s).bind fun c2 =>
 if c2 = 0 then
  (rd (gA s 19) c1).bind fun x4 =>
  (f_readCell (x4 &&& (63 : Int32)) p2 s).bind fun c5 =>
  some c5
 else
  (f_setReg p2 (1 : Int32) (0 : Int32) c1 s).bind fun c6 =>
  some c6
theorem ok35 (hw : HW a0 Z) (p1 p2 : Int32) (s r : St) (h : f_loadVar p1 p2 s = some r) : CS l Z CN lay y35 prog_1_method_43_code 4 (none) R35 0 [.ref 0, .int p1, .int p2] (Hb 0 s) (P35 r) := by
 refine CS.of_wp pn_cls (leb rfl) fun n0 => ?_
 show W35 l Z n0 (P35 r) 0 0 0 [vR 0,vI p1,vI p2,vU] [] (Hb 0 s)
 unfold f_loadVar at h
 refine xA (D35 0) rfl (xC (D35 1) rfl ?_)
 obtain ⟨c1, hc1, h⟩ := bd h
 refine xF (i := 0) (y := y36) (as := [.int p1]) (S := []) (D35 2) (m261 hw) (m263 hw) (m1 hw) (m262 hw) (m264 hw) (m2 hw) hy36 rfl (ok36 hw p1 s _ hc1) rfl (lenOf pd36 rfl) (leb rfl) (leb rfl) (leb rfl) (leb rfl) ?_
 rintro _ _ ⟨rfl, rfl⟩
 show W35 l Z n0 (P35 r) 0 0 5 [vR 0,vI p1,vI p2,vU] [.int c1] (Hb 0 s)
 refine xP (L' := [vR 0,vI p1,vI p2,vI c1]) (D35 3) (leb rfl) rfl (xA (D35 4) rfl (xC (D35 5) rfl ?_))
 obtain ⟨c2, hc2, h⟩ := bd h
 refine xF (i := 0) (y := y37) (as := [.int p1]) (S := []) (D35 6) (m265 hw) (m267 hw) (m1 hw) (m266 hw) (m268 hw) (m2 hw) hy37 rfl (ok37 hw p1 s _ hc2) rfl (lenOf pd37 rfl) (leb rfl) (leb rfl) (leb rfl) (leb rfl) ?_
 rintro _ _ ⟨rfl, rfl⟩
 show W35 l Z n0 (P35 r) 0 0 11 [vR 0,vI p1,vI p2,vI c1] [.int c2] (Hb 0 s)
 rcases ite_e h with ⟨hc3, h⟩ | ⟨hc3, h⟩
 ·
  refine xL (pc' := 23) (D35 7) (XT.i0_eq_t hc3) (by decide) rfl (xA (D35 15) rfl (xA (D35 16) rfl (xD (i := 0) (j := 33) (D35 17) (m49 hw) rfl rfl rfl (xC (D35 18) rfl ?_))))
  obtain ⟨x4, hx4, h⟩ := bd h
  refine xN (i := 20) (D35 19) rfl hx4 (xG 63 (D35 20) rfl (xW (D35 21) (xC (D35 22) rfl ?_)))
  obtain ⟨c5, hc5, h⟩ := bd h
  refine xF (i := 0) (y := y53) (as := [.int (x4 &&& (63 : Int32)), .int p2]) (S := []) (D35 23) (m336 hw) (m338 hw) (m1 hw) (m337 hw) (m339 hw) (m2 hw) hy53 rfl (ok53 hw (x4 &&& (63 : Int32)) p2 s _ hc5) rfl (lenOf pd53 rfl) (leb rfl) (leb rfl) (leb rfl) (leb rfl) ?_
  rintro _ _ ⟨rfl, rfl⟩
  show W35 l Z n0 (P35 r) 0 0 37 [vR 0,vI p1,vI p2,vI c1] [] (Hb 0 c5)
  cases h
  exact xS (D35 24) rfl (leb rfl) (leb rfl) ⟨rfl, rfl⟩
 ·
  refine xM (D35 7) (XT.i0_eq_f hc3) (xA (D35 8) rfl (xC (D35 9) rfl (xB 1 (D35 10) rfl (xB 0 (D35 11) rfl (xC (D35 12) rfl ?_)))))
  obtain ⟨c6, hc6, h⟩ := bd h
  refine xF (i := 0) (y := y38) (as := [.int p2, .int (1 : Int32), oN, .int c1]) (S := []) (D35 13) (m269 hw) (m271 hw) (m1 hw) (m270 hw) (m272 hw) (m2 hw) hy38 rfl (ok38 hw p2 (1 : Int32) (0 : Int32) c1 s _ hc6) rfl (lenOf pd38 rfl) (leb rfl) (leb rfl) (leb rfl) (leb rfl) ?_
  rintro _ _ ⟨rfl, rfl⟩
  show W35 l Z n0 (P35 r) 0 0 22 [vR 0,vI p1,vI p2,vI c1] [] (Hb 0 c6)
  cases h
  exact xS (D35 14) rfl (leb rfl) (leb rfl) ⟨rfl, rfl⟩
def D63 := dA k41 (0,.aload_n 0,1) [(1,.iload_n 1,1),(2,.invokevirtual 192,3),(5,.iconst 1,1),(6,.if_icmp .ne 18,3),(9,.aload_n 0,1),(10,.iload_n 2,1),(11,.iconst 0,1),(12,.aload_n 0,1),(13,.iload_n 1,1),(14,.invokevirtual 199,3),(17,.iconst 0,1),(18,.invokevirtual 252,3),(21,.goto 13,3),(24,.aload_n 0,1),(25,.aload_n 0,1),(26,.iload_n 1,1),(27,.invokevirtual 199,3),(30,.iload_n 2,1),(31,.invokevirtual 266,3),(34,.return_,1)] (by decide +kernel)
abbrev y63 : MethodName := ⟨"FatPointerC", "loadAtom", "(II)V"⟩
theorem hy63 : y63.cls ≠ "java/lang/invoke/MethodHandle" ∧ y63.cls ≠ "java/lang/invoke/VarHandle" := by decide
theorem pd63 : parseMethodDescriptor y63.desc = some ⟨[.int, .int], none⟩ := by decide +kernel
abbrev R63 : Room := { frames := 3, cells := 0, slots := 0, locals := 45 }
abbrev P63 (r : St) : Option Value → List OwnC → Prop := fun v H' => v = none ∧ H' = (Hb 0 r)
abbrev W63 (l : Launch) (Z : State) (n0 : Nat) := WP l Z CN lay "FatPointerC" "loadAtom" prog_1_method_44_code 3 (none) R63 n0 0
def f_loadAtom_34 (s : St) : Option (St) :=
 some s
theorem ok63_34 (hw : HW a0 Z) (n0 : Nat) (s r : St) (h : f_loadAtom_34 s = some r) : W63 l Z n0 (P63 r) 0 0 34 [vU,vU,vU] [] (Hb 0 s) := by
 unfold f_loadAtom_34 at h
 cases h
 exact xS (D63 20) rfl (leb rfl) (leb rfl) ⟨rfl, rfl⟩
def f_loadAtom (p1 p2 : Int32) (s : St) : Option (St) :=
 (f_kindAt p1 s).bind fun c1 =>
 if c1 = (1 : Int32) then
  (f_valAt p1 s).bind fun c3 =>
  (f_setReg p2 (0 : Int32) c3 (0 : Int32) s).bind fun c4 =>
  f_loadAtom_34 c4
 else
  (f_valAt p1 s).bind fun c5 =>
  (f_loadVar c5 p2 s).bind fun c6 =>
  f_loadAtom_34 c6
theorem ok63 (hw : HW a0 Z) (p1 p2 : Int32) (s r : St) (h : f_loadAtom p1 p2 s = some r) : CS l Z CN lay y63 prog_1_method_44_code 3 (none) R63 0 [.ref 0, .int p1, .int p2] (Hb 0 s) (P63 r) := by
 refine CS.of_wp pn_cls (leb rfl) fun n0 => ?_
 show W63 l Z n0 (P63 r) 0 0 0 [vR 0,vI p1,vI p2] [] (Hb 0 s)
 unfold f_loadAtom at h
 refine xA (D63 0) rfl (xC (D63 1) rfl ?_)
 obtain ⟨c1, hc1, h⟩ := bd h
 refine xF (i := 0) (y := y9) (as := [.int p1]) (S := []) (D63 2) (m138 hw) (m140 hw) (m1 hw) (m139 hw) (m141 hw) (m2 hw) hy9 rfl (ok9 hw p1 s _ hc1) rfl (lenOf pd9 rfl) (leb rfl) (leb rfl) (leb rfl) (leb rfl) ?_
 rintro _ _ ⟨rfl, rfl⟩
 show W63 l Z n0 (P63 r) 0 0 5 [vR 0,vI p1,vI p2] [.int c1] (Hb 0 s)
 refine xB 1 (D63 3) rfl ?_
 rcases ite_e h with ⟨hc2, h⟩ | ⟨hc2, h⟩
 ·
  refine xJ (D63 4) (XT.ii_ne_f hc2) (xA (D63 5) rfl (xC (D63 6) rfl (xB 0 (D63 7) rfl (xA (D63 8) rfl (xC (D63 9) rfl ?_)))))
  obtain ⟨c3, hc3, h⟩ := bd h
  refine xF (i := 0) (y := y10) (as := [.int p1]) (S := [oN, .int p2, .ref 0]) (D63 10) (m142 hw) (m144 hw) (m1 hw) (m143 hw) (m145 hw) (m2 hw) hy10 rfl (ok10 hw p1 s _ hc3) rfl (lenOf pd10 rfl) (leb rfl) (leb rfl) (leb rfl) (leb rfl) ?_
  rintro _ _ ⟨rfl, rfl⟩
  show W63 l Z n0 (P63 r) 0 0 17 [vR 0,vI p1,vI p2] [.int c3, oN, .int p2, .ref 0] (Hb 0 s)
  refine xB 0 (D63 11) rfl ?_
  obtain ⟨c4, hc4, h⟩ := bd h
  refine xF (i := 0) (y := y38) (as := [.int p2, oN, .int c3, oN]) (S := []) (D63 12) (m269 hw) (m271 hw) (m1 hw) (m270 hw) (m272 hw) (m2 hw) hy38 rfl (ok38 hw p2 (0 : Int32) c3 (0 : Int32) s _ hc4) rfl (lenOf pd38 rfl) (leb rfl) (leb rfl) (leb rfl) (leb rfl) ?_
  rintro _ _ ⟨rfl, rfl⟩
  show W63 l Z n0 (P63 r) 0 0 21 [vR 0,vI p1,vI p2] [] (Hb 0 c4)
  exact xV (pc' := 34) (D63 13) (by decide) rfl (xE (L' := [vU,vU,vU]) trivial (ok63_34 hw n0 c4 _ h))
 ·
  refine xI (pc' := 24) (D63 4) (XT.ii_ne_t hc2) (by decide) rfl (xA (D63 14) rfl (xA (D63 15) rfl (xC (D63 16) rfl ?_)))
  obtain ⟨c5, hc5, h⟩ := bd h
  refine xF (i := 0) (y := y10) (as := [.int p1]) (S := [.ref 0]) (D63 17) (m142 hw) (m144 hw) (m1 hw) (m143 hw) (m145 hw) (m2 hw) hy10 rfl (ok10 hw p1 s _ hc5) rfl (lenOf pd10 rfl) (leb rfl) (leb rfl) (leb rfl) (leb rfl) ?_
  rintro _ _ ⟨rfl, rfl⟩
  show W63 l Z n0 (P63 r) 0 0 30 [vR 0,vI p1,vI p2] [.int c5, .ref 0] (Hb 0 s)
  refine xC (D63 18) rfl ?_
  obtain ⟨c6, hc6, h⟩ := bd h
  refine xF (i := 0) (y := y35) (as := [.int c5, .int p2]) (S := []) (D63 19) (m257 hw) (m259 hw) (m1 hw) (m258 hw) (m260 hw) (m2 hw) hy35 rfl (ok35 hw c5 p2 s _ hc6) rfl (lenOf pd35 rfl) (leb rfl) (leb rfl) (leb rfl) (leb rfl) ?_
  rintro _ _ ⟨rfl, rfl⟩
  show W63 l Z n0 (P63 r) 0 0 34 [vR 0,vI p1,vI p2] [] (Hb 0 c6)
  exact xE (L' := [vU,vU,vU]) trivial (ok63_34 hw n0 c6 _ h)
def D54 := dA k45 (0,.iload_n 1,1) [(1,.iconst 1,1),(2,.if_icmp .ne 8,3),(5,.iload 4,2),(7,.ifCond .eq 12,3),(10,.aload_n 0,1),(11,.iconst 1,1),(12,.iload 6,2),(14,.invokevirtual 146,3),(17,.iconst (-1),1),(18,.ireturn,1),(19,.iload_n 3,1),(20,.sipush 4095,3),(23,.iand,1),(24,.istore 7,2),(26,.aload_n 0,1),(27,.getfield 74,3),(30,.iload 7,2),(32,.baload,1),(33,.ifCond .ne 12,3),(36,.aload_n 0,1),(37,.iconst 3,1),(38,.iload 6,2),(40,.invokevirtual 146,3),(43,.iconst (-1),1),(44,.ireturn,1),(45,.iload_n 2,1),(46,.i2l,1),(47,.iload 5,2),(49,.i2l,1),(50,.ladd,1),(51,.lstore 8,2),(53,.lload 8,2),(55,.lconst 0,1),(56,.lcmp,1),(57,.ifCond .lt 17,3),(60,.lload 8,2),(62,.aload_n 0,1),(63,.getfield 71,3),(66,.iload 7,2),(68,.iaload,1),(69,.i2l,1),(70,.lcmp,1),(71,.ifCond .lt 12,3),(74,.aload_n 0,1),(75,.iconst 2,1),(76,.iload 6,2),(78,.invokevirtual 146,3),(81,.iconst (-1),1),(82,.ireturn,1),(83,.aload_n 0,1),(84,.getfield 68,3),(87,.iload 7,2),(89,.iaload,1),(90,.lload 8,2),(92,.l2i,1),(93,.iadd,1),(94,.bipush 63,2),(96,.iand,1),(97,.ireturn,1)] (by decide +kernel)
abbrev y54 : MethodName := ⟨"FatPointerC", "check", "(IIIIII)I"⟩
theorem hy54 : y54.cls ≠ "java/lang/invoke/MethodHandle" ∧ y54.cls ≠ "java/lang/invoke/VarHandle" := by decide
theorem pd54 : parseMethodDescriptor y54.desc = some ⟨[.int, .int, .int, .int, .int, .int], some .int⟩ := by decide +kernel
abbrev R54 : Room := { frames := 1, cells := 0, slots := 0, locals := 14 }
abbrev P54 (r : Int32 × St) : Option Value → List OwnC → Prop := fun v H' => v = some (.int r.1) ∧ H' = (Hb 0 r.2)
abbrev W54 (l : Launch) (Z : State) (n0 : Nat) := WP l Z CN lay "FatPointerC" "check" prog_1_method_48_code 10 (some FieldType.int) R54 n0 0
def f_check_10 (v6 : Int32) (s : St) : Option (Int32 × St) :=
 (f_trap (1 : Int32) v6 s).bind fun c1 =>
 some ((-1 : Int32), c1)
theorem ok54_10 (hw : HW a0 Z) (n0 : Nat) (v6 : Int32) (s : St) (r : Int32 × St) (h : f_check_10 v6 s = some r) : W54 l Z n0 (P54 r) 0 0 10 [vR 0,vU,vU,vU,vU,vU,vI v6,vU,vU,vU] [] (Hb 0 s) := by
 unfold f_check_10 at h
 refine xA (D54 5) rfl (xB 1 (D54 6) rfl (xH (D54 7) rfl ?_))
 obtain ⟨c1, hc1, h⟩ := bd h
 refine xF (i := 0) (y := y42) (as := [.int (1 : Int32), .int v6]) (S := []) (D54 8) (m285 hw) (m287 hw) (m1 hw) (m286 hw) (m288 hw) (m2 hw) hy42 rfl (ok42 hw (1 : Int32) v6 s _ hc1) rfl (lenOf pd42 rfl) (leb rfl) (leb rfl) (leb rfl) (leb rfl) ?_
 rintro _ _ ⟨rfl, rfl⟩
 show W54 l Z n0 (P54 r) 0 0 17 [vR 0,vU,vU,vU,vU,vU,vI v6,vU,vU,vU] [] (Hb 0 c1)
 refine xB (-1) (D54 9) rfl ?_
 cases h
 exact xK (D54 10) rfl (leb rfl) (leb rfl) ⟨rfl, rfl⟩
def f_check_74 (v6 : Int32) (s : St) : Option (Int32 × St) :=
 (f_trap (2 : Int32) v6 s).bind fun c1 =>
 some ((-1 : Int32), c1)
theorem ok54_74 (hw : HW a0 Z) (n0 : Nat) (v6 : Int32) (s : St) (r : Int32 × St) (h : f_check_74 v6 s = some r) : W54 l Z n0 (P54 r) 0 0 74 [vR 0,vU,vU,vU,vU,vU,vI v6,vU,vU,vU] [] (Hb 0 s) := by
 unfold f_check_74 at h
 refine xA (D54 44) rfl (xB 2 (D54 45) rfl (xH (D54 46) rfl ?_))
 obtain ⟨c1, hc1, h⟩ := bd h
 refine xF (i := 0) (y := y42) (as := [.int (2 : Int32), .int v6]) (S := []) (D54 47) (m285 hw) (m287 hw) (m1 hw) (m286 hw) (m288 hw) (m2 hw) hy42 rfl (ok42 hw (2 : Int32) v6 s _ hc1) rfl (lenOf pd42 rfl) (leb rfl) (leb rfl) (leb rfl) (leb rfl) ?_
 rintro _ _ ⟨rfl, rfl⟩
 show W54 l Z n0 (P54 r) 0 0 81 [vR 0,vU,vU,vU,vU,vU,vI v6,vU,vU,vU] [] (Hb 0 c1)
 refine xB (-1) (D54 48) rfl ?_
 cases h
 exact xK (D54 49) rfl (leb rfl) (leb rfl) ⟨rfl, rfl⟩
def f_check (p1 p2 p3 p4 p5 p6 : Int32) (s : St) : Option (Int32 × St) :=
 if p1 = (1 : Int32) then
  if p4 = 0 then
   lt (p3 &&& (4095 : Int32)) fun x3 =>
   (rd (gA s 21) x3).bind fun x4 =>
   if x4 = 0 then
    (f_trap (3 : Int32) p6 s).bind fun c6 =>
    some ((-1 : Int32), c6)
   else
    lt (p2.toInt64 + p5.toInt64) fun x7 =>
    if x7 < (0 : Int64) then
     f_check_74 p6 s
    else
     (rd (gA s 20) x3).bind fun x9 =>
     if x7 < x9.toInt64 then
      (rd (gA s 19) x3).bind fun x11 =>
      some ((x11 + x7.toInt32) &&& (63 : Int32), s)
     else
      f_check_74 p6 s
  else
   f_check_10 p6 s
 else
  f_check_10 p6 s
theorem ok54 (hw : HW a0 Z) (p1 p2 p3 p4 p5 p6 : Int32) (s : St) (r : Int32 × St) (h : f_check p1 p2 p3 p4 p5 p6 s = some r) : CS l Z CN lay y54 prog_1_method_48_code 10 (some FieldType.int) R54 0 [.ref 0, .int p1, .int p2, .int p3, .int p4, .int p5, .int p6] (Hb 0 s) (P54 r) := by
 refine CS.of_wp pn_cls (leb rfl) fun n0 => ?_
 show W54 l Z n0 (P54 r) 0 0 0 [vR 0,vI p1,vI p2,vI p3,vI p4,vI p5,vI p6,vU,vU,vU] [] (Hb 0 s)
 unfold f_check at h
 refine xC (D54 0) rfl (xB 1 (D54 1) rfl ?_)
 rcases ite_e h with ⟨hc1, h⟩ | ⟨hc1, h⟩
 ·
  refine xJ (D54 2) (XT.ii_ne_f hc1) (xH (D54 3) rfl ?_)
  rcases ite_e h with ⟨hc2, h⟩ | ⟨hc2, h⟩
  ·
   refine xL (pc' := 19) (D54 4) (XT.i0_eq_t hc2) (by decide) rfl (xC (D54 11) rfl (yB 4095 (D54 12) rfl (xW (D54 13) ?_)))
   obtain ⟨x3, ex3, h⟩ := lt_e h
   refine xR (L' := [vR 0,vI p1,vI p2,vI p3,vI p4,vI p5,vI p6,vI x3,vU,vU]) (D54 14) (leb rfl) (by subst ex3; rfl) (xA (D54 15) rfl (xD (i := 0) (j := 35) (D54 16) (m53 hw) rfl rfl rfl (xH (D54 17) rfl ?_)))
   obtain ⟨x4, hx4, h⟩ := bd h
   refine yR (i := 22) (D54 18) rfl hx4 ?_
   rcases ite_e h with ⟨hc5, h⟩ | ⟨hc5, h⟩
   ·
    refine xM (D54 19) (XT.i0_ne_f hc5) (xA (D54 20) rfl (xB 3 (D54 21) rfl (xH (D54 22) rfl ?_)))
    obtain ⟨c6, hc6, h⟩ := bd h
    refine xF (i := 0) (y := y42) (as := [.int (3 : Int32), .int p6]) (S := []) (D54 23) (m285 hw) (m287 hw) (m1 hw) (m286 hw) (m288 hw) (m2 hw) hy42 rfl (ok42 hw (3 : Int32) p6 s _ hc6) rfl (lenOf pd42 rfl) (leb rfl) (leb rfl) (leb rfl) (leb rfl) ?_
    rintro _ _ ⟨rfl, rfl⟩
    show W54 l Z n0 (P54 r) 0 0 43 [vR 0,vI p1,vI p2,vI p3,vI p4,vI p5,vI p6,vI x3,vU,vU] [] (Hb 0 c6)
    refine xB (-1) (D54 24) rfl ?_
    cases h
    exact xK (D54 25) rfl (leb rfl) (leb rfl) ⟨rfl, rfl⟩
   ·
    refine xL (pc' := 45) (D54 19) (XT.i0_ne_t hc5) (by decide) rfl (xC (D54 26) rfl (yG (D54 27) (xH (D54 28) rfl (yG (D54 29) (yJ (D54 30) ?_)))))
    obtain ⟨x7, ex7, h⟩ := lt_e h
    refine WP.lstore (L' := [vR 0,vI p1,vI p2,vI p3,vI p4,vI p5,vI p6,vI x3,vJ x7,vS]) (D54 31) (leb rfl) (by subst ex7; rfl) (yQ (D54 32) rfl (WP.lconst (0 : Int64) (D54 33) rfl (yP (D54 34) ?_)))
    rcases ite_e h with ⟨hc8, h⟩ | ⟨hc8, h⟩
    ·
     exact xL (pc' := 74) (D54 35) (XT.ll_lt_t hc8) (by decide) rfl (xE (L' := [vR 0,vU,vU,vU,vU,vU,vI p6,vU,vU,vU]) ⟨rfl, rfl, trivial⟩ (ok54_74 hw n0 p6 s _ h))
    ·
     refine xM (D54 35) (XT.ll_lt_f hc8) (yQ (D54 36) rfl (xA (D54 37) rfl (xD (i := 0) (j := 34) (D54 38) (m51 hw) rfl rfl rfl (xH (D54 39) rfl ?_))))
     obtain ⟨x9, hx9, h⟩ := bd h
     refine xN (i := 21) (D54 40) rfl hx9 (yG (D54 41) (yP (D54 42) ?_))
     rcases ite_e h with ⟨hc10, h⟩ | ⟨hc10, h⟩
     ·
      refine xL (pc' := 83) (D54 43) (XT.ll_lt_t hc10) (by decide) rfl (xA (D54 50) rfl (xD (i := 0) (j := 33) (D54 51) (m49 hw) rfl rfl rfl (xH (D54 52) rfl ?_)))
      obtain ⟨x11, hx11, h⟩ := bd h
      refine xN (i := 20) (D54 53) rfl hx11 (yQ (D54 54) rfl (WP.l2i (D54 55) (xO (D54 56) (xG 63 (D54 57) rfl (xW (D54 58) ?_)))))
      cases h
      exact xK (D54 59) rfl (leb rfl) (leb rfl) ⟨rfl, rfl⟩
     ·
      exact xM (D54 43) (XT.ll_lt_f hc10) (xE (L' := [vR 0,vU,vU,vU,vU,vU,vI p6,vU,vU,vU]) ⟨rfl, rfl, trivial⟩ (ok54_74 hw n0 p6 s _ h))
  ·
   exact xM (D54 4) (XT.i0_eq_f hc2) (xE (L' := [vR 0,vU,vU,vU,vU,vU,vI p6,vU,vU,vU]) ⟨rfl, rfl, trivial⟩ (ok54_10 hw n0 p6 s _ h))
 ·
  exact xI (pc' := 10) (D54 2) (XT.ii_ne_t hc1) (by decide) rfl (xE (L' := [vR 0,vU,vU,vU,vU,vU,vI p6,vU,vU,vU]) ⟨rfl, rfl, trivial⟩ (ok54_10 hw n0 p6 s _ h))
def D34 := dA k49 (0,.aload_n 0,1) [(1,.iload_n 1,1),(2,.invokevirtual 192,3),(5,.istore_n 2,1),(6,.iload_n 2,1),(7,.iconst 1,1),(8,.if_icmp .ne 19,3),(11,.aload_n 0,1),(12,.iconst 0,1),(13,.iconst 0,1),(14,.aload_n 0,1),(15,.iload_n 1,1),(16,.invokevirtual 199,3),(19,.iconst 0,1),(20,.invokevirtual 252,3),(23,.iload_n 1,1),(24,.iconst 1,1),(25,.iadd,1),(26,.ireturn,1),(27,.iload_n 2,1),(28,.bipush 23,2),(30,.if_icmp .ne 25,3),(33,.aload_n 0,1),(34,.iconst 0,1),(35,.iconst 1,1),(36,.iconst 0,1),(37,.aload_n 0,1),(38,.aload_n 0,1),(39,.iload_n 1,1),(40,.iconst 1,1),(41,.iadd,1),(42,.invokevirtual 199,3),(45,.invokevirtual 256,3),(48,.invokevirtual 252,3),(51,.iload_n 1,1),(52,.iconst 2,1),(53,.iadd,1),(54,.ireturn,1),(55,.iload_n 2,1),(56,.bipush 22,2),(58,.if_icmp .ne 57,3),(61,.aload_n 0,1),(62,.aload_n 0,1),(63,.iload_n 1,1),(64,.iconst 1,1),(65,.iadd,1),(66,.invokevirtual 199,3),(69,.iconst 0,1),(70,.invokevirtual 266,3),(73,.aload_n 0,1),(74,.aload_n 0,1),(75,.getfield 92,3),(78,.iconst 0,1),(79,.iaload,1),(80,.aload_n 0,1),(81,.getfield 95,3),(84,.iconst 0,1),(85,.iaload,1),(86,.aload_n 0,1),(87,.getfield 98,3),(90,.iconst 0,1),(91,.iaload,1),(92,.iconst 0,1),(93,.iconst 0,1),(94,.iload_n 1,1),(95,.invokevirtual 285,3),(98,.istore_n 3,1),(99,.iload_n 3,1),(100,.ifCond .ge 5,3),(103,.iconst (-1),1),(104,.ireturn,1),(105,.aload_n 0,1),(106,.iload_n 3,1),(107,.iconst 0,1),(108,.invokevirtual 263,3),(111,.iload_n 1,1),(112,.iconst 2,1),(113,.iadd,1),(114,.ireturn,1),(115,.aload_n 0,1),(116,.aload_n 0,1),(117,.iload_n 1,1),(118,.invokevirtual 199,3),(121,.iconst 0,1),(122,.invokevirtual 266,3),(125,.aload_n 0,1),(126,.iload_n 1,1),(127,.iconst 1,1),(128,.iadd,1),(129,.invokevirtual 192,3),(132,.bipush 15,2),(134,.if_icmp .eq 7,3),(137,.iload_n 1,1),(138,.iconst 1,1),(139,.iadd,1),(140,.ireturn,1),(141,.aload_n 0,1),(142,.getfield 92,3),(145,.iconst 0,1),(146,.iaload,1),(147,.istore_n 3,1),(148,.aload_n 0,1),(149,.getfield 95,3),(152,.iconst 0,1),(153,.iaload,1),(154,.istore 4,2),(156,.aload_n 0,1),(157,.getfield 98,3),(160,.iconst 0,1),(161,.iaload,1),(162,.istore 5,2),(164,.aload_n 0,1),(165,.iload_n 1,1),(166,.iconst 2,1),(167,.iadd,1),(168,.iconst 0,1),(169,.invokevirtual 289,3),(172,.aload_n 0,1),(173,.iload_n 3,1),(174,.iload 4,2),(176,.iload 5,2),(178,.aload_n 0,1),(179,.getfield 92,3),(182,.iconst 0,1),(183,.iaload,1),(184,.aload_n 0,1),(185,.getfield 95,3),(188,.iconst 0,1),(189,.iaload,1),(190,.iload_n 1,1),(191,.iconst 1,1),(192,.iadd,1),(193,.invokevirtual 285,3),(196,.istore 6,2),(198,.iload 6,2),(200,.ifCond .ge 5,3),(203,.iconst (-1),1),(204,.ireturn,1),(205,.aload_n 0,1),(206,.iload 6,2),(208,.iconst 0,1),(209,.invokevirtual 263,3),(212,.iload_n 1,1),(213,.iconst 4,1),(214,.iadd,1),(215,.ireturn,1)] (by decide +kernel)
abbrev y34 : MethodName := ⟨"FatPointerC", "evalOperand", "(I)I"⟩
theorem hy34 : y34.cls ≠ "java/lang/invoke/MethodHandle" ∧ y34.cls ≠ "java/lang/invoke/VarHandle" := by decide
theorem pd34 : parseMethodDescriptor y34.desc = some ⟨[.int], some .int⟩ := by decide +kernel
abbrev R34 : Room := { frames := 4, cells := 0, slots := 0, locals := 59 }
abbrev P34 (r : Int32 × St) : Option Value → List OwnC → Prop := fun v H' => v = some (.int r.1) ∧ H' = (Hb 0 r.2)
abbrev W34 (l : Launch) (Z : State) (n0 : Nat) := WP l Z CN lay "FatPointerC" "evalOperand" prog_1_method_52_code 7 (some FieldType.int) R34 n0 0
def f_evalOperand (p1 : Int32) (s : St) : Option (Int32 × St) :=
 (f_kindAt p1 s).bind fun c1 =>
 if c1 = (1 : Int32) then
  (f_valAt p1 s).bind fun c3 =>
  (f_setReg (0 : Int32) (0 : Int32) c3 (0 : Int32) s).bind fun c4 =>
  some (p1 + (1 : Int32), c4)
 else
  if c1 = (23 : Int32) then
   (f_valAt (p1 + (1 : Int32)) s).bind fun c6 =>
   (f_objOf c6 s).bind fun c7 =>
   (f_setReg (0 : Int32) (1 : Int32) (0 : Int32) c7 s).bind fun c8 =>
   some (p1 + (2 : Int32), c8)
  else
   if c1 = (22 : Int32) then
    (f_valAt (p1 + (1 : Int32)) s).bind fun c10 =>
    (f_loadVar c10 (0 : Int32) s).bind fun c11 =>
    (rd (gA c11 27) (0 : Int32)).bind fun x12 =>
    (rd (gA c11 28) (0 : Int32)).bind fun x13 =>
    (rd (gA c11 29) (0 : Int32)).bind fun x14 =>
    (f_check x12 x13 x14 (0 : Int32) (0 : Int32) p1 c11).bind fun c15 =>
    if c15.1 < 0 then
     some ((-1 : Int32), c15.2)
    else
     (f_readCell c15.1 (0 : Int32) c15.2).bind fun c17 =>
     some (p1 + (2 : Int32), c17)
   else
    (f_valAt p1 s).bind fun c18 =>
    (f_loadVar c18 (0 : Int32) s).bind fun c19 =>
    (f_kindAt (p1 + (1 : Int32)) c19).bind fun c20 =>
    if c20 = (15 : Int32) then
     (rd (gA c19 27) (0 : Int32)).bind fun x22 =>
     (rd (gA c19 28) (0 : Int32)).bind fun x23 =>
     (rd (gA c19 29) (0 : Int32)).bind fun x24 =>
     (f_loadAtom (p1 + (2 : Int32)) (0 : Int32) c19).bind fun c25 =>
     (rd (gA c25 27) (0 : Int32)).bind fun x26 =>
     (rd (gA c25 28) (0 : Int32)).bind fun x27 =>
     (f_check x22 x23 x24 x26 x27 (p1 + (1 : Int32)) c25).bind fun c28 =>
     if c28.1 < 0 then
      some ((-1 : Int32), c28.2)
     else
      (f_readCell c28.1 (0 : Int32) c28.2).bind fun c30 =>
      some (p1 + (4 : Int32), c30)
    else
     some (p1 + (1 : Int32), c19)
theorem ok34 (hw : HW a0 Z) (p1 : Int32) (s : St) (r : Int32 × St) (h : f_evalOperand p1 s = some r) : CS l Z CN lay y34 prog_1_method_52_code 7 (some FieldType.int) R34 0 [.ref 0, .int p1] (Hb 0 s) (P34 r) := by
 refine CS.of_wp pn_cls (leb rfl) fun n0 => ?_
 show W34 l Z n0 (P34 r) 0 0 0 [vR 0,vI p1,vU,vU,vU,vU,vU] [] (Hb 0 s)
 unfold f_evalOperand at h
 refine xA (D34 0) rfl (xC (D34 1) rfl ?_)
 obtain ⟨c1, hc1, h⟩ := bd h
 refine xF (i := 0) (y := y9) (as := [.int p1]) (S := []) (D34 2) (m138 hw) (m140 hw) (m1 hw) (m139 hw) (m141 hw) (m2 hw) hy9 rfl (ok9 hw p1 s _ hc1) rfl (lenOf pd9 rfl) (leb rfl) (leb rfl) (leb rfl) (leb rfl) ?_
 rintro _ _ ⟨rfl, rfl⟩
 show W34 l Z n0 (P34 r) 0 0 5 [vR 0,vI p1,vU,vU,vU,vU,vU] [.int c1] (Hb 0 s)
 refine xP (L' := [vR 0,vI p1,vI c1,vU,vU,vU,vU]) (D34 3) (leb rfl) rfl (xC (D34 4) rfl (xB 1 (D34 5) rfl ?_))
 rcases ite_e h with ⟨hc2, h⟩ | ⟨hc2, h⟩
 ·
  refine xJ (D34 6) (XT.ii_ne_f hc2) (xA (D34 7) rfl (xB 0 (D34 8) rfl (xB 0 (D34 9) rfl (xA (D34 10) rfl (xC (D34 11) rfl ?_)))))
  obtain ⟨c3, hc3, h⟩ := bd h
  refine xF (i := 0) (y := y10) (as := [.int p1]) (S := [oN, oN, .ref 0]) (D34 12) (m142 hw) (m144 hw) (m1 hw) (m143 hw) (m145 hw) (m2 hw) hy10 rfl (ok10 hw p1 s _ hc3) rfl (lenOf pd10 rfl) (leb rfl) (leb rfl) (leb rfl) (leb rfl) ?_
  rintro _ _ ⟨rfl, rfl⟩
  show W34 l Z n0 (P34 r) 0 0 19 [vR 0,vI p1,vI c1,vU,vU,vU,vU] [.int c3, oN, oN, .ref 0] (Hb 0 s)
  refine xB 0 (D34 13) rfl ?_
  obtain ⟨c4, hc4, h⟩ := bd h
  refine xF (i := 0) (y := y38) (as := [oN, oN, .int c3, oN]) (S := []) (D34 14) (m269 hw) (m271 hw) (m1 hw) (m270 hw) (m272 hw) (m2 hw) hy38 rfl (ok38 hw (0 : Int32) (0 : Int32) c3 (0 : Int32) s _ hc4) rfl (lenOf pd38 rfl) (leb rfl) (leb rfl) (leb rfl) (leb rfl) ?_
  rintro _ _ ⟨rfl, rfl⟩
  show W34 l Z n0 (P34 r) 0 0 23 [vR 0,vI p1,vI c1,vU,vU,vU,vU] [] (Hb 0 c4)
  refine xC (D34 15) rfl (xB 1 (D34 16) rfl (xO (D34 17) ?_))
  cases h
  exact xK (D34 18) rfl (leb rfl) (leb rfl) ⟨rfl, rfl⟩
 ·
  refine xI (pc' := 27) (D34 6) (XT.ii_ne_t hc2) (by decide) rfl (xC (D34 19) rfl (xG 23 (D34 20) rfl ?_))
  rcases ite_e h with ⟨hc5, h⟩ | ⟨hc5, h⟩
  ·
   refine xJ (D34 21) (XT.ii_ne_f hc5) (xA (D34 22) rfl (xB 0 (D34 23) rfl (xB 1 (D34 24) rfl (xB 0 (D34 25) rfl (xA (D34 26) rfl (xA (D34 27) rfl (xC (D34 28) rfl (xB 1 (D34 29) rfl (xO (D34 30) ?_)))))))))
   obtain ⟨c6, hc6, h⟩ := bd h
   refine xF (i := 0) (y := y10) (as := [.int (p1 + (1 : Int32))]) (S := [.ref 0, oN, .int (1 : Int32), oN, .ref 0]) (D34 31) (m142 hw) (m144 hw) (m1 hw) (m143 hw) (m145 hw) (m2 hw) hy10 rfl (ok10 hw (p1 + (1 : Int32)) s _ hc6) rfl (lenOf pd10 rfl) (leb rfl) (leb rfl) (leb rfl) (leb rfl) ?_
   rintro _ _ ⟨rfl, rfl⟩
   show W34 l Z n0 (P34 r) 0 0 45 [vR 0,vI p1,vI c1,vU,vU,vU,vU] [.int c6, .ref 0, oN, .int (1 : Int32), oN, .ref 0] (Hb 0 s)
   obtain ⟨c7, hc7, h⟩ := bd h
   refine xF (i := 0) (y := y36) (as := [.int c6]) (S := [oN, .int (1 : Int32), oN, .ref 0]) (D34 32) (m261 hw) (m263 hw) (m1 hw) (m262 hw) (m264 hw) (m2 hw) hy36 rfl (ok36 hw c6 s _ hc7) rfl (lenOf pd36 rfl) (leb rfl) (leb rfl) (leb rfl) (leb rfl) ?_
   rintro _ _ ⟨rfl, rfl⟩
   show W34 l Z n0 (P34 r) 0 0 48 [vR 0,vI p1,vI c1,vU,vU,vU,vU] [.int c7, oN, .int (1 : Int32), oN, .ref 0] (Hb 0 s)
   obtain ⟨c8, hc8, h⟩ := bd h
   refine xF (i := 0) (y := y38) (as := [oN, .int (1 : Int32), oN, .int c7]) (S := []) (D34 33) (m269 hw) (m271 hw) (m1 hw) (m270 hw) (m272 hw) (m2 hw) hy38 rfl (ok38 hw (0 : Int32) (1 : Int32) (0 : Int32) c7 s _ hc8) rfl (lenOf pd38 rfl) (leb rfl) (leb rfl) (leb rfl) (leb rfl) ?_
   rintro _ _ ⟨rfl, rfl⟩
   show W34 l Z n0 (P34 r) 0 0 51 [vR 0,vI p1,vI c1,vU,vU,vU,vU] [] (Hb 0 c8)
   refine xC (D34 34) rfl (xB 2 (D34 35) rfl (xO (D34 36) ?_))
   cases h
   exact xK (D34 37) rfl (leb rfl) (leb rfl) ⟨rfl, rfl⟩
  ·
   refine xI (pc' := 55) (D34 21) (XT.ii_ne_t hc5) (by decide) rfl (xC (D34 38) rfl (xG 22 (D34 39) rfl ?_))
   rcases ite_e h with ⟨hc9, h⟩ | ⟨hc9, h⟩
   ·
    refine xJ (D34 40) (XT.ii_ne_f hc9) (xA (D34 41) rfl (xA (D34 42) rfl (xC (D34 43) rfl (xB 1 (D34 44) rfl (xO (D34 45) ?_)))))
    obtain ⟨c10, hc10, h⟩ := bd h
    refine xF (i := 0) (y := y10) (as := [.int (p1 + (1 : Int32))]) (S := [.ref 0]) (D34 46) (m142 hw) (m144 hw) (m1 hw) (m143 hw) (m145 hw) (m2 hw) hy10 rfl (ok10 hw (p1 + (1 : Int32)) s _ hc10) rfl (lenOf pd10 rfl) (leb rfl) (leb rfl) (leb rfl) (leb rfl) ?_
    rintro _ _ ⟨rfl, rfl⟩
    show W34 l Z n0 (P34 r) 0 0 69 [vR 0,vI p1,vI c1,vU,vU,vU,vU] [.int c10, .ref 0] (Hb 0 s)
    refine xB 0 (D34 47) rfl ?_
    obtain ⟨c11, hc11, h⟩ := bd h
    refine xF (i := 0) (y := y35) (as := [.int c10, oN]) (S := []) (D34 48) (m257 hw) (m259 hw) (m1 hw) (m258 hw) (m260 hw) (m2 hw) hy35 rfl (ok35 hw c10 (0 : Int32) s _ hc11) rfl (lenOf pd35 rfl) (leb rfl) (leb rfl) (leb rfl) (leb rfl) ?_
    rintro _ _ ⟨rfl, rfl⟩
    show W34 l Z n0 (P34 r) 0 0 73 [vR 0,vI p1,vI c1,vU,vU,vU,vU] [] (Hb 0 c11)
    refine xA (D34 49) rfl (xA (D34 50) rfl (xD (i := 0) (j := 46) (D34 51) (m65 hw) rfl rfl rfl (xB 0 (D34 52) rfl ?_)))
    obtain ⟨x12, hx12, h⟩ := bd h
    refine xN (i := 28) (D34 53) rfl hx12 (xA (D34 54) rfl (xD (i := 0) (j := 47) (D34 55) (m67 hw) rfl rfl rfl (xB 0 (D34 56) rfl ?_)))
    obtain ⟨x13, hx13, h⟩ := bd h
    refine xN (i := 29) (D34 57) rfl hx13 (xA (D34 58) rfl (xD (i := 0) (j := 48) (D34 59) (m69 hw) rfl rfl rfl (xB 0 (D34 60) rfl ?_)))
    obtain ⟨x14, hx14, h⟩ := bd h
    refine xN (i := 30) (D34 61) rfl hx14 (xB 0 (D34 62) rfl (xB 0 (D34 63) rfl (xC (D34 64) rfl ?_)))
    obtain ⟨c15, hc15, h⟩ := bd h
    refine xF (i := 0) (y := y54) (as := [.int x12, .int x13, .int x14, oN, oN, .int p1]) (S := []) (D34 65) (m340 hw) (m342 hw) (m1 hw) (m341 hw) (m343 hw) (m2 hw) hy54 rfl (ok54 hw x12 x13 x14 (0 : Int32) (0 : Int32) p1 c11 _ hc15) rfl (lenOf pd54 rfl) (leb rfl) (leb rfl) (leb rfl) (leb rfl) ?_
    rintro _ _ ⟨rfl, rfl⟩
    show W34 l Z n0 (P34 r) 0 0 98 [vR 0,vI p1,vI c1,vU,vU,vU,vU] [.int c15.1] (Hb 0 c15.2)
    refine xP (L' := [vR 0,vI p1,vI c1,vI c15.1,vU,vU,vU]) (D34 66) (leb rfl) rfl (xC (D34 67) rfl ?_)
    rcases ite_e h with ⟨hc16, h⟩ | ⟨hc16, h⟩
    ·
     refine xM (D34 68) (XT.i0_ge_f hc16) (xB (-1) (D34 69) rfl ?_)
     cases h
     exact xK (D34 70) rfl (leb rfl) (leb rfl) ⟨rfl, rfl⟩
    ·
     refine xL (pc' := 105) (D34 68) (XT.i0_ge_t hc16) (by decide) rfl (xA (D34 71) rfl (xC (D34 72) rfl (xB 0 (D34 73) rfl ?_)))
     obtain ⟨c17, hc17, h⟩ := bd h
     refine xF (i := 0) (y := y53) (as := [.int c15.1, oN]) (S := []) (D34 74) (m336 hw) (m338 hw) (m1 hw) (m337 hw) (m339 hw) (m2 hw) hy53 rfl (ok53 hw c15.1 (0 : Int32) c15.2 _ hc17) rfl (lenOf pd53 rfl) (leb rfl) (leb rfl) (leb rfl) (leb rfl) ?_
     rintro _ _ ⟨rfl, rfl⟩
     show W34 l Z n0 (P34 r) 0 0 111 [vR 0,vI p1,vI c1,vI c15.1,vU,vU,vU] [] (Hb 0 c17)
     refine xC (D34 75) rfl (xB 2 (D34 76) rfl (xO (D34 77) ?_))
     cases h
     exact xK (D34 78) rfl (leb rfl) (leb rfl) ⟨rfl, rfl⟩
   ·
    refine xI (pc' := 115) (D34 40) (XT.ii_ne_t hc9) (by decide) rfl (xA (D34 79) rfl (xA (D34 80) rfl (xC (D34 81) rfl ?_)))
    obtain ⟨c18, hc18, h⟩ := bd h
    refine xF (i := 0) (y := y10) (as := [.int p1]) (S := [.ref 0]) (D34 82) (m142 hw) (m144 hw) (m1 hw) (m143 hw) (m145 hw) (m2 hw) hy10 rfl (ok10 hw p1 s _ hc18) rfl (lenOf pd10 rfl) (leb rfl) (leb rfl) (leb rfl) (leb rfl) ?_
    rintro _ _ ⟨rfl, rfl⟩
    show W34 l Z n0 (P34 r) 0 0 121 [vR 0,vI p1,vI c1,vU,vU,vU,vU] [.int c18, .ref 0] (Hb 0 s)
    refine xB 0 (D34 83) rfl ?_
    obtain ⟨c19, hc19, h⟩ := bd h
    refine xF (i := 0) (y := y35) (as := [.int c18, oN]) (S := []) (D34 84) (m257 hw) (m259 hw) (m1 hw) (m258 hw) (m260 hw) (m2 hw) hy35 rfl (ok35 hw c18 (0 : Int32) s _ hc19) rfl (lenOf pd35 rfl) (leb rfl) (leb rfl) (leb rfl) (leb rfl) ?_
    rintro _ _ ⟨rfl, rfl⟩
    show W34 l Z n0 (P34 r) 0 0 125 [vR 0,vI p1,vI c1,vU,vU,vU,vU] [] (Hb 0 c19)
    refine xA (D34 85) rfl (xC (D34 86) rfl (xB 1 (D34 87) rfl (xO (D34 88) ?_)))
    obtain ⟨c20, hc20, h⟩ := bd h
    refine xF (i := 0) (y := y9) (as := [.int (p1 + (1 : Int32))]) (S := []) (D34 89) (m138 hw) (m140 hw) (m1 hw) (m139 hw) (m141 hw) (m2 hw) hy9 rfl (ok9 hw (p1 + (1 : Int32)) c19 _ hc20) rfl (lenOf pd9 rfl) (leb rfl) (leb rfl) (leb rfl) (leb rfl) ?_
    rintro _ _ ⟨rfl, rfl⟩
    show W34 l Z n0 (P34 r) 0 0 132 [vR 0,vI p1,vI c1,vU,vU,vU,vU] [.int c20] (Hb 0 c19)
    refine xG 15 (D34 90) rfl ?_
    rcases ite_e h with ⟨hc21, h⟩ | ⟨hc21, h⟩
    ·
     refine xI (pc' := 141) (D34 91) (XT.ii_eq_t hc21) (by decide) rfl (xA (D34 96) rfl (xD (i := 0) (j := 46) (D34 97) (m65 hw) rfl rfl rfl (xB 0 (D34 98) rfl ?_)))
     obtain ⟨x22, hx22, h⟩ := bd h
     refine xN (i := 28) (D34 99) rfl hx22 (xP (L' := [vR 0,vI p1,vI c1,vI x22,vU,vU,vU]) (D34 100) (leb rfl) rfl (xA (D34 101) rfl (xD (i := 0) (j := 47) (D34 102) (m67 hw) rfl rfl rfl (xB 0 (D34 103) rfl ?_))))
     obtain ⟨x23, hx23, h⟩ := bd h
     refine xN (i := 29) (D34 104) rfl hx23 (xR (L' := [vR 0,vI p1,vI c1,vI x22,vI x23,vU,vU]) (D34 105) (leb rfl) rfl (xA (D34 106) rfl (xD (i := 0) (j := 48) (D34 107) (m69 hw) rfl rfl rfl (xB 0 (D34 108) rfl ?_))))
     obtain ⟨x24, hx24, h⟩ := bd h
     refine xN (i := 30) (D34 109) rfl hx24 (xR (L' := [vR 0,vI p1,vI c1,vI x22,vI x23,vI x24,vU]) (D34 110) (leb rfl) rfl (xA (D34 111) rfl (xC (D34 112) rfl (xB 2 (D34 113) rfl (xO (D34 114) (xB 0 (D34 115) rfl ?_))))))
     obtain ⟨c25, hc25, h⟩ := bd h
     refine xF (i := 0) (y := y63) (as := [.int (p1 + (2 : Int32)), oN]) (S := []) (D34 116) (m376 hw) (m378 hw) (m1 hw) (m377 hw) (m379 hw) (m2 hw) hy63 rfl (ok63 hw (p1 + (2 : Int32)) (0 : Int32) c19 _ hc25) rfl (lenOf pd63 rfl) (leb rfl) (leb rfl) (leb rfl) (leb rfl) ?_
     rintro _ _ ⟨rfl, rfl⟩
     show W34 l Z n0 (P34 r) 0 0 172 [vR 0,vI p1,vI c1,vI x22,vI x23,vI x24,vU] [] (Hb 0 c25)
     refine xA (D34 117) rfl (xC (D34 118) rfl (xH (D34 119) rfl (xH (D34 120) rfl (xA (D34 121) rfl (xD (i := 0) (j := 46) (D34 122) (m65 hw) rfl rfl rfl (xB 0 (D34 123) rfl ?_))))))
     obtain ⟨x26, hx26, h⟩ := bd h
     refine xN (i := 28) (D34 124) rfl hx26 (xA (D34 125) rfl (xD (i := 0) (j := 47) (D34 126) (m67 hw) rfl rfl rfl (xB 0 (D34 127) rfl ?_)))
     obtain ⟨x27, hx27, h⟩ := bd h
     refine xN (i := 29) (D34 128) rfl hx27 (xC (D34 129) rfl (xB 1 (D34 130) rfl (xO (D34 131) ?_)))
     obtain ⟨c28, hc28, h⟩ := bd h
     refine xF (i := 0) (y := y54) (as := [.int x22, .int x23, .int x24, .int x26, .int x27, .int (p1 + (1 : Int32))]) (S := []) (D34 132) (m340 hw) (m342 hw) (m1 hw) (m341 hw) (m343 hw) (m2 hw) hy54 rfl (ok54 hw x22 x23 x24 x26 x27 (p1 + (1 : Int32)) c25 _ hc28) rfl (lenOf pd54 rfl) (leb rfl) (leb rfl) (leb rfl) (leb rfl) ?_
     rintro _ _ ⟨rfl, rfl⟩
     show W34 l Z n0 (P34 r) 0 0 196 [vR 0,vI p1,vI c1,vI x22,vI x23,vI x24,vU] [.int c28.1] (Hb 0 c28.2)
     refine xR (L' := [vR 0,vI p1,vI c1,vI x22,vI x23,vI x24,vI c28.1]) (D34 133) (leb rfl) rfl (xH (D34 134) rfl ?_)
     rcases ite_e h with ⟨hc29, h⟩ | ⟨hc29, h⟩
     ·
      refine xM (D34 135) (XT.i0_ge_f hc29) (xB (-1) (D34 136) rfl ?_)
      cases h
      exact xK (D34 137) rfl (leb rfl) (leb rfl) ⟨rfl, rfl⟩
     ·
      refine xL (pc' := 205) (D34 135) (XT.i0_ge_t hc29) (by decide) rfl (xA (D34 138) rfl (xH (D34 139) rfl (xB 0 (D34 140) rfl ?_)))
      obtain ⟨c30, hc30, h⟩ := bd h
      refine xF (i := 0) (y := y53) (as := [.int c28.1, oN]) (S := []) (D34 141) (m336 hw) (m338 hw) (m1 hw) (m337 hw) (m339 hw) (m2 hw) hy53 rfl (ok53 hw c28.1 (0 : Int32) c28.2 _ hc30) rfl (lenOf pd53 rfl) (leb rfl) (leb rfl) (leb rfl) (leb rfl) ?_
      rintro _ _ ⟨rfl, rfl⟩
      show W34 l Z n0 (P34 r) 0 0 212 [vR 0,vI p1,vI c1,vI x22,vI x23,vI x24,vI c28.1] [] (Hb 0 c30)
      refine xC (D34 142) rfl (xB 4 (D34 143) rfl (xO (D34 144) ?_))
      cases h
      exact xK (D34 145) rfl (leb rfl) (leb rfl) ⟨rfl, rfl⟩
    ·
     refine xJ (D34 91) (XT.ii_eq_f hc21) (xC (D34 92) rfl (xB 1 (D34 93) rfl (xO (D34 94) ?_)))
     cases h
     exact xK (D34 95) rfl (leb rfl) (leb rfl) ⟨rfl, rfl⟩
def D39 := dA k37 (0,.aload_n 0,1) [(1,.iload_n 1,1),(2,.aload_n 0,1),(3,.getfield 92,3),(6,.iload_n 2,1),(7,.iaload,1),(8,.aload_n 0,1),(9,.getfield 95,3),(12,.iload_n 2,1),(13,.iaload,1),(14,.aload_n 0,1),(15,.getfield 98,3),(18,.iload_n 2,1),(19,.iaload,1),(20,.invokevirtual 252,3),(23,.return_,1)] (by decide +kernel)
abbrev y39 : MethodName := ⟨"FatPointerC", "copyReg", "(II)V"⟩
theorem hy39 : y39.cls ≠ "java/lang/invoke/MethodHandle" ∧ y39.cls ≠ "java/lang/invoke/VarHandle" := by decide
theorem pd39 : parseMethodDescriptor y39.desc = some ⟨[.int, .int], none⟩ := by decide +kernel
abbrev R39 : Room := { frames := 1, cells := 0, slots := 0, locals := 16 }
abbrev P39 (r : St) : Option Value → List OwnC → Prop := fun v H' => v = none ∧ H' = (Hb 0 r)
abbrev W39 (l : Launch) (Z : State) (n0 : Nat) := WP l Z CN lay "FatPointerC" "copyReg" prog_1_method_40_code 3 (none) R39 n0 0
def f_copyReg (p1 p2 : Int32) (s : St) : Option (St) :=
 (rd (gA s 27) p2).bind fun x1 =>
 (rd (gA s 28) p2).bind fun x2 =>
 (rd (gA s 29) p2).bind fun x3 =>
 (f_setReg p1 x1 x2 x3 s).bind fun c4 =>
 some c4
theorem ok39 (hw : HW a0 Z) (p1 p2 : Int32) (s r : St) (h : f_copyReg p1 p2 s = some r) : CS l Z CN lay y39 prog_1_method_40_code 3 (none) R39 0 [.ref 0, .int p1, .int p2] (Hb 0 s) (P39 r) := by
 refine CS.of_wp pn_cls (leb rfl) fun n0 => ?_
 show W39 l Z n0 (P39 r) 0 0 0 [vR 0,vI p1,vI p2] [] (Hb 0 s)
 unfold f_copyReg at h
 refine xA (D39 0) rfl (xC (D39 1) rfl (xA (D39 2) rfl (xD (i := 0) (j := 46) (D39 3) (m65 hw) rfl rfl rfl (xC (D39 4) rfl ?_))))
 obtain ⟨x1, hx1, h⟩ := bd h
 refine xN (i := 28) (D39 5) rfl hx1 (xA (D39 6) rfl (xD (i := 0) (j := 47) (D39 7) (m67 hw) rfl rfl rfl (xC (D39 8) rfl ?_)))
 obtain ⟨x2, hx2, h⟩ := bd h
 refine xN (i := 29) (D39 9) rfl hx2 (xA (D39 10) rfl (xD (i := 0) (j := 48) (D39 11) (m69 hw) rfl rfl rfl (xC (D39 12) rfl ?_)))
 obtain ⟨x3, hx3, h⟩ := bd h
 refine xN (i := 30) (D39 13) rfl hx3 ?_
 obtain ⟨c4, hc4, h⟩ := bd h
 refine xF (i := 0) (y := y38) (as := [.int p1, .int x1, .int x2, .int x3]) (S := []) (D39 14) (m269 hw) (m271 hw) (m1 hw) (m270 hw) (m272 hw) (m2 hw) hy38 rfl (ok38 hw p1 x1 x2 x3 s _ hc4) rfl (lenOf pd38 rfl) (leb rfl) (leb rfl) (leb rfl) (leb rfl) ?_
 rintro _ _ ⟨rfl, rfl⟩
 show W39 l Z n0 (P39 r) 0 0 23 [vR 0,vI p1,vI p2] [] (Hb 0 c4)
 cases h
 exact xS (D39 15) rfl (leb rfl) (leb rfl) ⟨rfl, rfl⟩
def D57 := dA k51 (0,.iload_n 1,1) [(1,.bipush 20,2),(3,.if_icmp .ne 7,3),(6,.iload_n 2,1),(7,.iload_n 3,1),(8,.iadd,1),(9,.ireturn,1),(10,.iload_n 1,1),(11,.bipush 21,2),(13,.if_icmp .ne 7,3),(16,.iload_n 2,1),(17,.iload_n 3,1),(18,.isub,1),(19,.ireturn,1),(20,.iload_n 1,1),(21,.bipush 22,2),(23,.if_icmp .ne 7,3),(26,.iload_n 2,1),(27,.iload_n 3,1),(28,.imul,1),(29,.ireturn,1),(30,.iload_n 1,1),(31,.bipush 24,2),(33,.if_icmp .ne 14,3),(36,.iload_n 2,1),(37,.iload_n 3,1),(38,.if_icmp .ge 7,3),(41,.iconst 1,1),(42,.goto 4,3),(45,.iconst 0,1),(46,.ireturn,1),(47,.iload_n 2,1),(48,.iload_n 3,1),(49,.if_icmp .ne 7,3),(52,.iconst 1,1),(53,.goto 4,3),(56,.iconst 0,1),(57,.ireturn,1)] (by decide +kernel)
abbrev y57 : MethodName := ⟨"FatPointerC", "intOp", "(III)I"⟩
theorem hy57 : y57.cls ≠ "java/lang/invoke/MethodHandle" ∧ y57.cls ≠ "java/lang/invoke/VarHandle" := by decide
theorem pd57 : parseMethodDescriptor y57.desc = some ⟨[.int, .int, .int], some .int⟩ := by decide +kernel
abbrev R57 : Room := { frames := 0, cells := 0, slots := 0, locals := 0 }
abbrev P57 (s : St) (r : Int32) : Option Value → List OwnC → Prop := fun v H' => v = some (.int r) ∧ H' = (Hb 0 s)
abbrev W57 (l : Launch) (Z : State) (n0 : Nat) := WP l Z CN lay "FatPointerC" "intOp" prog_1_method_54_code 4 (some FieldType.int) R57 n0 0
def f_intOp_46 (t0 : Int32) (s : St) : Option (Int32) :=
 some t0
theorem ok57_46 (hw : HW a0 Z) (n0 : Nat) (t0 : Int32) (s : St) (r : Int32) (h : f_intOp_46 t0 s = some r) : W57 l Z n0 (P57 s r) 0 0 46 [vU,vU,vU,vU] [.int t0] (Hb 0 s) := by
 unfold f_intOp_46 at h
 cases h
 exact xK (D57 30) rfl (leb rfl) (leb rfl) ⟨rfl, rfl⟩
def f_intOp_57 (t0 : Int32) (s : St) : Option (Int32) :=
 some t0
theorem ok57_57 (hw : HW a0 Z) (n0 : Nat) (t0 : Int32) (s : St) (r : Int32) (h : f_intOp_57 t0 s = some r) : W57 l Z n0 (P57 s r) 0 0 57 [vU,vU,vU,vU] [.int t0] (Hb 0 s) := by
 unfold f_intOp_57 at h
 cases h
 exact xK (D57 37) rfl (leb rfl) (leb rfl) ⟨rfl, rfl⟩
def f_intOp (p1 p2 p3 : Int32) (s : St) : Option (Int32) :=
 if p1 = (20 : Int32) then
  some (p2 + p3)
 else
  if p1 = (21 : Int32) then
   some (p2 - p3)
  else
   if p1 = (22 : Int32) then
    some (p2 * p3)
   else
    if p1 = (24 : Int32) then
     if p2 < p3 then
      f_intOp_46 (1 : Int32) s
     else
      f_intOp_46 (0 : Int32) s
    else
     if p2 = p3 then
      f_intOp_57 (1 : Int32) s
     else
      f_intOp_57 (0 : Int32) s
theorem ok57 (hw : HW a0 Z) (p1 p2 p3 : Int32) (s : St) (r : Int32) (h : f_intOp p1 p2 p3 s = some r) : CS l Z CN lay y57 prog_1_method_54_code 4 (some FieldType.int) R57 0 [.ref 0, .int p1, .int p2, .int p3] (Hb 0 s) (P57 s r) := by
 refine CS.of_wp pn_cls (leb rfl) fun n0 => ?_
 show W57 l Z n0 (P57 s r) 0 0 0 [vR 0,vI p1,vI p2,vI p3] [] (Hb 0 s)
 unfold f_intOp at h
 refine xC (D57 0) rfl (xG 20 (D57 1) rfl ?_)
 rcases ite_e h with ⟨hc1, h⟩ | ⟨hc1, h⟩
 ·
  refine xJ (D57 2) (XT.ii_ne_f hc1) (xC (D57 3) rfl (xC (D57 4) rfl (xO (D57 5) ?_)))
  cases h
  exact xK (D57 6) rfl (leb rfl) (leb rfl) ⟨rfl, rfl⟩
 ·
  refine xI (pc' := 10) (D57 2) (XT.ii_ne_t hc1) (by decide) rfl (xC (D57 7) rfl (xG 21 (D57 8) rfl ?_))
  rcases ite_e h with ⟨hc2, h⟩ | ⟨hc2, h⟩
  ·
   refine xJ (D57 9) (XT.ii_ne_f hc2) (xC (D57 10) rfl (xC (D57 11) rfl (yN (D57 12) ?_)))
   cases h
   exact xK (D57 13) rfl (leb rfl) (leb rfl) ⟨rfl, rfl⟩
  ·
   refine xI (pc' := 20) (D57 9) (XT.ii_ne_t hc2) (by decide) rfl (xC (D57 14) rfl (xG 22 (D57 15) rfl ?_))
   rcases ite_e h with ⟨hc3, h⟩ | ⟨hc3, h⟩
   ·
    refine xJ (D57 16) (XT.ii_ne_f hc3) (xC (D57 17) rfl (xC (D57 18) rfl (yI (D57 19) ?_)))
    cases h
    exact xK (D57 20) rfl (leb rfl) (leb rfl) ⟨rfl, rfl⟩
   ·
    refine xI (pc' := 30) (D57 16) (XT.ii_ne_t hc3) (by decide) rfl (xC (D57 21) rfl (xG 24 (D57 22) rfl ?_))
    rcases ite_e h with ⟨hc4, h⟩ | ⟨hc4, h⟩
    ·
     refine xJ (D57 23) (XT.ii_ne_f hc4) (xC (D57 24) rfl (xC (D57 25) rfl ?_))
     rcases ite_e h with ⟨hc5, h⟩ | ⟨hc5, h⟩
     ·
      exact xJ (D57 26) (XT.ii_ge_f hc5) (xB 1 (D57 27) rfl (xV (pc' := 46) (D57 28) (by decide) rfl (xE (L' := [vU,vU,vU,vU]) trivial (ok57_46 hw n0 (1 : Int32) s _ h))))
     ·
      exact xI (pc' := 45) (D57 26) (XT.ii_ge_t hc5) (by decide) rfl (xB 0 (D57 29) rfl (xE (L' := [vU,vU,vU,vU]) trivial (ok57_46 hw n0 (0 : Int32) s _ h)))
    ·
     refine xI (pc' := 47) (D57 23) (XT.ii_ne_t hc4) (by decide) rfl (xC (D57 31) rfl (xC (D57 32) rfl ?_))
     rcases ite_e h with ⟨hc6, h⟩ | ⟨hc6, h⟩
     ·
      exact xJ (D57 33) (XT.ii_ne_f hc6) (xB 1 (D57 34) rfl (xV (pc' := 57) (D57 35) (by decide) rfl (xE (L' := [vU,vU,vU,vU]) trivial (ok57_57 hw n0 (1 : Int32) s _ h))))
     ·
      exact xI (pc' := 56) (D57 33) (XT.ii_ne_t hc6) (by decide) rfl (xB 0 (D57 36) rfl (xE (L' := [vU,vU,vU,vU]) trivial (ok57_57 hw n0 (0 : Int32) s _ h)))
def D41 := dA k52 (0,.iload_n 2,1) [(1,.sipush 4095,3),(4,.iand,1),(5,.istore 6,2),(7,.lload_n 3,1),(8,.lconst 0,1),(9,.lcmp,1),(10,.ifCond .lt 16,3),(13,.lload_n 3,1),(14,.aload_n 0,1),(15,.getfield 71,3),(18,.iload 6,2),(20,.iaload,1),(21,.i2l,1),(22,.lcmp,1),(23,.ifCond .le 12,3),(26,.aload_n 0,1),(27,.iconst 4,1),(28,.iload 5,2),(30,.invokevirtual 146,3),(33,.iconst 0,1),(34,.ireturn,1),(35,.aload_n 0,1),(36,.iload_n 1,1),(37,.iconst 1,1),(38,.lload_n 3,1),(39,.l2i,1),(40,.iload 6,2),(42,.invokevirtual 252,3),(45,.iconst 1,1),(46,.ireturn,1)] (by decide +kernel)
abbrev y41 : MethodName := ⟨"FatPointerC", "movePtr", "(IIJI)Z"⟩
theorem hy41 : y41.cls ≠ "java/lang/invoke/MethodHandle" ∧ y41.cls ≠ "java/lang/invoke/VarHandle" := by decide
theorem pd41 : parseMethodDescriptor y41.desc = some ⟨[.int, .int, .long, .int], some .boolean⟩ := by decide +kernel
abbrev R41 : Room := { frames := 1, cells := 0, slots := 0, locals := 16 }
abbrev P41 (r : Int32 × St) : Option Value → List OwnC → Prop := fun v H' => v = some (.int r.1) ∧ H' = (Hb 0 r.2)
abbrev W41 (l : Launch) (Z : State) (n0 : Nat) := WP l Z CN lay "FatPointerC" "movePtr" prog_1_method_55_code 7 (some FieldType.boolean) R41 n0 0
def f_movePtr_26 (v5 : Int32) (s : St) : Option (Int32 × St) :=
 (f_trap (4 : Int32) v5 s).bind fun c1 =>
 some ((0 : Int32), c1)
theorem ok41_26 (hw : HW a0 Z) (n0 : Nat) (v5 : Int32) (s : St) (r : Int32 × St) (h : f_movePtr_26 v5 s = some r) : W41 l Z n0 (P41 r) 0 0 26 [vR 0,vU,vU,vU,vU,vI v5,vU] [] (Hb 0 s) := by
 unfold f_movePtr_26 at h
 refine xA (D41 16) rfl (xB 4 (D41 17) rfl (xH (D41 18) rfl ?_))
 obtain ⟨c1, hc1, h⟩ := bd h
 refine xF (i := 0) (y := y42) (as := [.int (4 : Int32), .int v5]) (S := []) (D41 19) (m285 hw) (m287 hw) (m1 hw) (m286 hw) (m288 hw) (m2 hw) hy42 rfl (ok42 hw (4 : Int32) v5 s _ hc1) rfl (lenOf pd42 rfl) (leb rfl) (leb rfl) (leb rfl) (leb rfl) ?_
 rintro _ _ ⟨rfl, rfl⟩
 show W41 l Z n0 (P41 r) 0 0 33 [vR 0,vU,vU,vU,vU,vI v5,vU] [] (Hb 0 c1)
 refine xB 0 (D41 20) rfl ?_
 cases h
 exact xZ (D41 21) rfl (leb rfl) (leb rfl) ⟨rfl, rfl⟩
def f_movePtr (p1 p2 : Int32) (p3 : Int64) (p4 : Int32) (s : St) : Option (Int32 × St) :=
 lt (p2 &&& (4095 : Int32)) fun x1 =>
 if p3 < (0 : Int64) then
  f_movePtr_26 p4 s
 else
  (rd (gA s 20) x1).bind fun x3 =>
  if x3.toInt64 < p3 then
   f_movePtr_26 p4 s
  else
   (f_setReg p1 (1 : Int32) p3.toInt32 x1 s).bind fun c5 =>
   some ((1 : Int32), c5)
theorem ok41 (hw : HW a0 Z) (p1 p2 : Int32) (p3 : Int64) (p4 : Int32) (s : St) (r : Int32 × St) (h : f_movePtr p1 p2 p3 p4 s = some r) : CS l Z CN lay y41 prog_1_method_55_code 7 (some FieldType.boolean) R41 0 [.ref 0, .int p1, .int p2, .long p3, .int p4] (Hb 0 s) (P41 r) := by
 refine CS.of_wp pn_cls (leb rfl) fun n0 => ?_
 show W41 l Z n0 (P41 r) 0 0 0 [vR 0,vI p1,vI p2,vJ p3,vS,vI p4,vU] [] (Hb 0 s)
 unfold f_movePtr at h
 refine xC (D41 0) rfl (yB 4095 (D41 1) rfl (xW (D41 2) ?_))
 obtain ⟨x1, ex1, h⟩ := lt_e h
 refine xR (L' := [vR 0,vI p1,vI p2,vJ p3,vS,vI p4,vI x1]) (D41 3) (leb rfl) (by subst ex1; rfl) (yH (D41 4) rfl (WP.lconst (0 : Int64) (D41 5) rfl (yP (D41 6) ?_)))
 rcases ite_e h with ⟨hc2, h⟩ | ⟨hc2, h⟩
 ·
  exact xL (pc' := 26) (D41 7) (XT.ll_lt_t hc2) (by decide) rfl (xE (L' := [vR 0,vU,vU,vU,vU,vI p4,vU]) ⟨rfl, rfl, trivial⟩ (ok41_26 hw n0 p4 s _ h))
 ·
  refine xM (D41 7) (XT.ll_lt_f hc2) (yH (D41 8) rfl (xA (D41 9) rfl (xD (i := 0) (j := 34) (D41 10) (m51 hw) rfl rfl rfl (xH (D41 11) rfl ?_))))
  obtain ⟨x3, hx3, h⟩ := bd h
  refine xN (i := 21) (D41 12) rfl hx3 (yG (D41 13) (yP (D41 14) ?_))
  rcases ite_e h with ⟨hc4, h⟩ | ⟨hc4, h⟩
  ·
   exact xM (D41 15) (XT.ll_le_f hc4) (xE (L' := [vR 0,vU,vU,vU,vU,vI p4,vU]) ⟨rfl, rfl, trivial⟩ (ok41_26 hw n0 p4 s _ h))
  ·
   refine xL (pc' := 35) (D41 15) (XT.ll_le_t hc4) (by decide) rfl (xA (D41 22) rfl (xC (D41 23) rfl (xB 1 (D41 24) rfl (yH (D41 25) rfl (WP.l2i (D41 26) (xH (D41 27) rfl ?_))))))
   obtain ⟨c5, hc5, h⟩ := bd h
   refine xF (i := 0) (y := y38) (as := [.int p1, .int (1 : Int32), .int p3.toInt32, .int x1]) (S := []) (D41 28) (m269 hw) (m271 hw) (m1 hw) (m270 hw) (m272 hw) (m2 hw) hy38 rfl (ok38 hw p1 (1 : Int32) p3.toInt32 x1 s _ hc5) rfl (lenOf pd38 rfl) (leb rfl) (leb rfl) (leb rfl) (leb rfl) ?_
   rintro _ _ ⟨rfl, rfl⟩
   show W41 l Z n0 (P41 r) 0 0 45 [vR 0,vI p1,vI p2,vJ p3,vS,vI p4,vI x1] [] (Hb 0 c5)
   refine xB 1 (D41 29) rfl ?_
   cases h
   exact xZ (D41 30) rfl (leb rfl) (leb rfl) ⟨rfl, rfl⟩
def D40 := dA k50 (0,.aload_n 0,1) [(1,.getfield 92,3),(4,.iload_n 3,1),(5,.iaload,1),(6,.istore 5,2),(8,.aload_n 0,1),(9,.getfield 95,3),(12,.iload_n 3,1),(13,.iaload,1),(14,.istore 6,2),(16,.aload_n 0,1),(17,.getfield 98,3),(20,.iload_n 3,1),(21,.iaload,1),(22,.istore 7,2),(24,.aload_n 0,1),(25,.getfield 92,3),(28,.iload 4,2),(30,.iaload,1),(31,.istore 8,2),(33,.aload_n 0,1),(34,.getfield 95,3),(37,.iload 4,2),(39,.iaload,1),(40,.istore 9,2),(42,.aload_n 0,1),(43,.getfield 98,3),(46,.iload 4,2),(48,.iaload,1),(49,.istore 10,2),(51,.iload 5,2),(53,.ifCond .ne 26,3),(56,.iload 8,2),(58,.ifCond .ne 21,3),(61,.aload_n 0,1),(62,.iload_n 3,1),(63,.iconst 0,1),(64,.aload_n 0,1),(65,.iload_n 1,1),(66,.iload 6,2),(68,.iload 9,2),(70,.invokevirtual 292,3),(73,.iconst 0,1),(74,.invokevirtual 252,3),(77,.iconst 1,1),(78,.ireturn,1),(79,.iload_n 1,1),(80,.bipush 20,2),(82,.if_icmp .ne 30,3),(85,.iload 5,2),(87,.iconst 1,1),(88,.if_icmp .ne 24,3),(91,.iload 8,2),(93,.ifCond .ne 19,3),(96,.aload_n 0,1),(97,.iload_n 3,1),(98,.iload 7,2),(100,.iload 6,2),(102,.i2l,1),(103,.iload 9,2),(105,.i2l,1),(106,.ladd,1),(107,.iload_n 2,1),(108,.invokevirtual 296,3),(111,.ireturn,1),(112,.iload_n 1,1),(113,.bipush 20,2),(115,.if_icmp .ne 30,3),(118,.iload 5,2),(120,.ifCond .ne 25,3),(123,.iload 8,2),(125,.iconst 1,1),(126,.if_icmp .ne 19,3),(129,.aload_n 0,1),(130,.iload_n 3,1),(131,.iload 10,2),(133,.iload 9,2),(135,.i2l,1),(136,.iload 6,2),(138,.i2l,1),(139,.ladd,1),(140,.iload_n 2,1),(141,.invokevirtual 296,3),(144,.ireturn,1),(145,.iload_n 1,1),(146,.bipush 21,2),(148,.if_icmp .ne 30,3),(151,.iload 5,2),(153,.iconst 1,1),(154,.if_icmp .ne 24,3),(157,.iload 8,2),(159,.ifCond .ne 19,3),(162,.aload_n 0,1),(163,.iload_n 3,1),(164,.iload 7,2),(166,.iload 6,2),(168,.i2l,1),(169,.iload 9,2),(171,.i2l,1),(172,.lsub,1),(173,.iload_n 2,1),(174,.invokevirtual 296,3),(177,.ireturn,1),(178,.iload 5,2),(180,.iconst 1,1),(181,.if_icmp .ne 104,3),(184,.iload 8,2),(186,.iconst 1,1),(187,.if_icmp .ne 98,3),(190,.iload_n 1,1),(191,.bipush 25,2),(193,.if_icmp .ne 31,3),(196,.aload_n 0,1),(197,.iload_n 3,1),(198,.iconst 0,1),(199,.iload 7,2),(201,.iload 10,2),(203,.if_icmp .ne 14,3),(206,.iload 6,2),(208,.iload 9,2),(210,.if_icmp .ne 7,3),(213,.iconst 1,1),(214,.goto 4,3),(217,.iconst 0,1),(218,.iconst 0,1),(219,.invokevirtual 252,3),(222,.iconst 1,1),(223,.ireturn,1),(224,.iload_n 1,1),(225,.bipush 21,2),(227,.if_icmp .ne 24,3),(230,.iload 7,2),(232,.iload 10,2),(234,.if_icmp .ne 17,3),(237,.aload_n 0,1),(238,.iload_n 3,1),(239,.iconst 0,1),(240,.iload 6,2),(242,.iload 9,2),(244,.isub,1),(245,.iconst 0,1),(246,.invokevirtual 252,3),(249,.iconst 1,1),(250,.ireturn,1),(251,.iload_n 1,1),(252,.bipush 24,2),(254,.if_icmp .ne 31,3),(257,.iload 7,2),(259,.iload 10,2),(261,.if_icmp .ne 24,3),(264,.aload_n 0,1),(265,.iload_n 3,1),(266,.iconst 0,1),(267,.iload 6,2),(269,.iload 9,2),(271,.if_icmp .ge 7,3),(274,.iconst 1,1),(275,.goto 4,3),(278,.iconst 0,1),(279,.iconst 0,1),(280,.invokevirtual 252,3),(283,.iconst 1,1),(284,.ireturn,1),(285,.aload_n 0,1),(286,.iconst 1,1),(287,.iload_n 2,1),(288,.invokevirtual 146,3),(291,.iconst 0,1),(292,.ireturn,1)] (by decide +kernel)
abbrev y40 : MethodName := ⟨"FatPointerC", "binary", "(IIII)Z"⟩
theorem hy40 : y40.cls ≠ "java/lang/invoke/MethodHandle" ∧ y40.cls ≠ "java/lang/invoke/VarHandle" := by decide
theorem pd40 : parseMethodDescriptor y40.desc = some ⟨[.int, .int, .int, .int], some .boolean⟩ := by decide +kernel
abbrev R40 : Room := { frames := 2, cells := 0, slots := 0, locals := 34 }
abbrev P40 (r : Int32 × St) : Option Value → List OwnC → Prop := fun v H' => v = some (.int r.1) ∧ H' = (Hb 0 r.2)
abbrev W40 (l : Launch) (Z : State) (n0 : Nat) := WP l Z CN lay "FatPointerC" "binary" prog_1_method_53_code 11 (some FieldType.boolean) R40 n0 0
def f_binary_218 (t0 t1 t2 : Int32) (s : St) : Option (Int32 × St) :=
 (f_setReg t2 t1 t0 (0 : Int32) s).bind fun c1 =>
 some ((1 : Int32), c1)
theorem ok40_218 (hw : HW a0 Z) (n0 : Nat) (t0 t1 t2 : Int32) (s : St) (r : Int32 × St) (h : f_binary_218 t0 t1 t2 s = some r) : W40 l Z n0 (P40 r) 0 0 218 [vU,vU,vU,vU,vU,vU,vU,vU,vU,vU,vU] [.int t0, .int t1, .int t2, .ref 0] (Hb 0 s) := by
 unfold f_binary_218 at h
 refine xB 0 (D40 124) rfl ?_
 obtain ⟨c1, hc1, h⟩ := bd h
 refine xF (i := 0) (y := y38) (as := [.int t2, .int t1, .int t0, oN]) (S := []) (D40 125) (m269 hw) (m271 hw) (m1 hw) (m270 hw) (m272 hw) (m2 hw) hy38 rfl (ok38 hw t2 t1 t0 (0 : Int32) s _ hc1) rfl (lenOf pd38 rfl) (leb rfl) (leb rfl) (leb rfl) (leb rfl) ?_
 rintro _ _ ⟨rfl, rfl⟩
 show W40 l Z n0 (P40 r) 0 0 222 [vU,vU,vU,vU,vU,vU,vU,vU,vU,vU,vU] [] (Hb 0 c1)
 refine xB 1 (D40 126) rfl ?_
 cases h
 exact xZ (D40 127) rfl (leb rfl) (leb rfl) ⟨rfl, rfl⟩
def f_binary_217 (t0 t1 : Int32) (s : St) : Option (Int32 × St) :=
 f_binary_218 (0 : Int32) t0 t1 s
theorem ok40_217 (hw : HW a0 Z) (n0 : Nat) (t0 t1 : Int32) (s : St) (r : Int32 × St) (h : f_binary_217 t0 t1 s = some r) : W40 l Z n0 (P40 r) 0 0 217 [vU,vU,vU,vU,vU,vU,vU,vU,vU,vU,vU] [.int t0, .int t1, .ref 0] (Hb 0 s) := by
 unfold f_binary_217 at h
 exact xB 0 (D40 123) rfl (xE (L' := [vU,vU,vU,vU,vU,vU,vU,vU,vU,vU,vU]) trivial (ok40_218 hw n0 (0 : Int32) t0 t1 s _ h))
def f_binary_279 (t0 t1 t2 : Int32) (s : St) : Option (Int32 × St) :=
 (f_setReg t2 t1 t0 (0 : Int32) s).bind fun c1 =>
 some ((1 : Int32), c1)
theorem ok40_279 (hw : HW a0 Z) (n0 : Nat) (t0 t1 t2 : Int32) (s : St) (r : Int32 × St) (h : f_binary_279 t0 t1 t2 s = some r) : W40 l Z n0 (P40 r) 0 0 279 [vU,vU,vU,vU,vU,vU,vU,vU,vU,vU,vU] [.int t0, .int t1, .int t2, .ref 0] (Hb 0 s) := by
 unfold f_binary_279 at h
 refine xB 0 (D40 159) rfl ?_
 obtain ⟨c1, hc1, h⟩ := bd h
 refine xF (i := 0) (y := y38) (as := [.int t2, .int t1, .int t0, oN]) (S := []) (D40 160) (m269 hw) (m271 hw) (m1 hw) (m270 hw) (m272 hw) (m2 hw) hy38 rfl (ok38 hw t2 t1 t0 (0 : Int32) s _ hc1) rfl (lenOf pd38 rfl) (leb rfl) (leb rfl) (leb rfl) (leb rfl) ?_
 rintro _ _ ⟨rfl, rfl⟩
 show W40 l Z n0 (P40 r) 0 0 283 [vU,vU,vU,vU,vU,vU,vU,vU,vU,vU,vU] [] (Hb 0 c1)
 refine xB 1 (D40 161) rfl ?_
 cases h
 exact xZ (D40 162) rfl (leb rfl) (leb rfl) ⟨rfl, rfl⟩
def f_binary_285 (v2 : Int32) (s : St) : Option (Int32 × St) :=
 (f_trap (1 : Int32) v2 s).bind fun c1 =>
 some ((0 : Int32), c1)
theorem ok40_285 (hw : HW a0 Z) (n0 : Nat) (v2 : Int32) (s : St) (r : Int32 × St) (h : f_binary_285 v2 s = some r) : W40 l Z n0 (P40 r) 0 0 285 [vR 0,vU,vI v2,vU,vU,vU,vU,vU,vU,vU,vU] [] (Hb 0 s) := by
 unfold f_binary_285 at h
 refine xA (D40 163) rfl (xB 1 (D40 164) rfl (xC (D40 165) rfl ?_))
 obtain ⟨c1, hc1, h⟩ := bd h
 refine xF (i := 0) (y := y42) (as := [.int (1 : Int32), .int v2]) (S := []) (D40 166) (m285 hw) (m287 hw) (m1 hw) (m286 hw) (m288 hw) (m2 hw) hy42 rfl (ok42 hw (1 : Int32) v2 s _ hc1) rfl (lenOf pd42 rfl) (leb rfl) (leb rfl) (leb rfl) (leb rfl) ?_
 rintro _ _ ⟨rfl, rfl⟩
 show W40 l Z n0 (P40 r) 0 0 291 [vR 0,vU,vI v2,vU,vU,vU,vU,vU,vU,vU,vU] [] (Hb 0 c1)
 refine xB 0 (D40 167) rfl ?_
 cases h
 exact xZ (D40 168) rfl (leb rfl) (leb rfl) ⟨rfl, rfl⟩
def f_binary_251 (v1 v2 v3 v6 v7 v9 v10 : Int32) (s : St) : Option (Int32 × St) :=
 if v1 = (24 : Int32) then
  if v7 = v10 then
   if v6 < v9 then
    f_binary_279 (1 : Int32) (0 : Int32) v3 s
   else
    f_binary_279 (0 : Int32) (0 : Int32) v3 s
  else
   f_binary_285 v2 s
 else
  f_binary_285 v2 s
theorem ok40_251 (hw : HW a0 Z) (n0 : Nat) (v1 v2 v3 v6 v7 v9 v10 : Int32) (s : St) (r : Int32 × St) (h : f_binary_251 v1 v2 v3 v6 v7 v9 v10 s = some r) : W40 l Z n0 (P40 r) 0 0 251 [vR 0,vI v1,vI v2,vI v3,vU,vU,vI v6,vI v7,vU,vI v9,vI v10] [] (Hb 0 s) := by
 unfold f_binary_251 at h
 refine xC (D40 144) rfl (xG 24 (D40 145) rfl ?_)
 rcases ite_e h with ⟨hc1, h⟩ | ⟨hc1, h⟩
 ·
  refine xJ (D40 146) (XT.ii_ne_f hc1) (xH (D40 147) rfl (xH (D40 148) rfl ?_))
  rcases ite_e h with ⟨hc2, h⟩ | ⟨hc2, h⟩
  ·
   refine xJ (D40 149) (XT.ii_ne_f hc2) (xA (D40 150) rfl (xC (D40 151) rfl (xB 0 (D40 152) rfl (xH (D40 153) rfl (xH (D40 154) rfl ?_)))))
   rcases ite_e h with ⟨hc3, h⟩ | ⟨hc3, h⟩
   ·
    exact xJ (D40 155) (XT.ii_ge_f hc3) (xB 1 (D40 156) rfl (xV (pc' := 279) (D40 157) (by decide) rfl (xE (L' := [vU,vU,vU,vU,vU,vU,vU,vU,vU,vU,vU]) trivial (ok40_279 hw n0 (1 : Int32) (0 : Int32) v3 s _ h))))
   ·
    exact xI (pc' := 278) (D40 155) (XT.ii_ge_t hc3) (by decide) rfl (xB 0 (D40 158) rfl (xE (L' := [vU,vU,vU,vU,vU,vU,vU,vU,vU,vU,vU]) trivial (ok40_279 hw n0 (0 : Int32) (0 : Int32) v3 s _ h)))
  ·
   exact xI (pc' := 285) (D40 149) (XT.ii_ne_t hc2) (by decide) rfl (xE (L' := [vR 0,vU,vI v2,vU,vU,vU,vU,vU,vU,vU,vU]) ⟨rfl, rfl, trivial⟩ (ok40_285 hw n0 v2 s _ h))
 ·
  exact xI (pc' := 285) (D40 146) (XT.ii_ne_t hc1) (by decide) rfl (xE (L' := [vR 0,vU,vI v2,vU,vU,vU,vU,vU,vU,vU,vU]) ⟨rfl, rfl, trivial⟩ (ok40_285 hw n0 v2 s _ h))
def f_binary_178 (v1 v2 v3 v5 v6 v7 v8 v9 v10 : Int32) (s : St) : Option (Int32 × St) :=
 if v5 = (1 : Int32) then
  if v8 = (1 : Int32) then
   if v1 = (25 : Int32) then
    if v7 = v10 then
     if v6 = v9 then
      f_binary_218 (1 : Int32) (0 : Int32) v3 s
     else
      f_binary_217 (0 : Int32) v3 s
    else
     f_binary_217 (0 : Int32) v3 s
   else
    if v1 = (21 : Int32) then
     if v7 = v10 then
      (f_setReg v3 (0 : Int32) (v6 - v9) (0 : Int32) s).bind fun c8 =>
      some ((1 : Int32), c8)
     else
      f_binary_251 v1 v2 v3 v6 v7 v9 v10 s
    else
     f_binary_251 v1 v2 v3 v6 v7 v9 v10 s
  else
   f_binary_285 v2 s
 else
  f_binary_285 v2 s
theorem ok40_178 (hw : HW a0 Z) (n0 : Nat) (v1 v2 v3 v5 v6 v7 v8 v9 v10 : Int32) (s : St) (r : Int32 × St) (h : f_binary_178 v1 v2 v3 v5 v6 v7 v8 v9 v10 s = some r) : W40 l Z n0 (P40 r) 0 0 178 [vR 0,vI v1,vI v2,vI v3,vU,vI v5,vI v6,vI v7,vI v8,vI v9,vI v10] [] (Hb 0 s) := by
 unfold f_binary_178 at h
 refine xH (D40 103) rfl (xB 1 (D40 104) rfl ?_)
 rcases ite_e h with ⟨hc1, h⟩ | ⟨hc1, h⟩
 ·
  refine xJ (D40 105) (XT.ii_ne_f hc1) (xH (D40 106) rfl (xB 1 (D40 107) rfl ?_))
  rcases ite_e h with ⟨hc2, h⟩ | ⟨hc2, h⟩
  ·
   refine xJ (D40 108) (XT.ii_ne_f hc2) (xC (D40 109) rfl (xG 25 (D40 110) rfl ?_))
   rcases ite_e h with ⟨hc3, h⟩ | ⟨hc3, h⟩
   ·
    refine xJ (D40 111) (XT.ii_ne_f hc3) (xA (D40 112) rfl (xC (D40 113) rfl (xB 0 (D40 114) rfl (xH (D40 115) rfl (xH (D40 116) rfl ?_)))))
    rcases ite_e h with ⟨hc4, h⟩ | ⟨hc4, h⟩
    ·
     refine xJ (D40 117) (XT.ii_ne_f hc4) (xH (D40 118) rfl (xH (D40 119) rfl ?_))
     rcases ite_e h with ⟨hc5, h⟩ | ⟨hc5, h⟩
     ·
      exact xJ (D40 120) (XT.ii_ne_f hc5) (xB 1 (D40 121) rfl (xV (pc' := 218) (D40 122) (by decide) rfl (xE (L' := [vU,vU,vU,vU,vU,vU,vU,vU,vU,vU,vU]) trivial (ok40_218 hw n0 (1 : Int32) (0 : Int32) v3 s _ h))))
     ·
      exact xI (pc' := 217) (D40 120) (XT.ii_ne_t hc5) (by decide) rfl (xE (L' := [vU,vU,vU,vU,vU,vU,vU,vU,vU,vU,vU]) trivial (ok40_217 hw n0 (0 : Int32) v3 s _ h))
    ·
     exact xI (pc' := 217) (D40 117) (XT.ii_ne_t hc4) (by decide) rfl (xE (L' := [vU,vU,vU,vU,vU,vU,vU,vU,vU,vU,vU]) trivial (ok40_217 hw n0 (0 : Int32) v3 s _ h))
   ·
    refine xI (pc' := 224) (D40 111) (XT.ii_ne_t hc3) (by decide) rfl (xC (D40 128) rfl (xG 21 (D40 129) rfl ?_))
    rcases ite_e h with ⟨hc6, h⟩ | ⟨hc6, h⟩
    ·
     refine xJ (D40 130) (XT.ii_ne_f hc6) (xH (D40 131) rfl (xH (D40 132) rfl ?_))
     rcases ite_e h with ⟨hc7, h⟩ | ⟨hc7, h⟩
     ·
      refine xJ (D40 133) (XT.ii_ne_f hc7) (xA (D40 134) rfl (xC (D40 135) rfl (xB 0 (D40 136) rfl (xH (D40 137) rfl (xH (D40 138) rfl (yN (D40 139) (xB 0 (D40 140) rfl ?_)))))))
      obtain ⟨c8, hc8, h⟩ := bd h
      refine xF (i := 0) (y := y38) (as := [.int v3, oN, .int (v6 - v9), oN]) (S := []) (D40 141) (m269 hw) (m271 hw) (m1 hw) (m270 hw) (m272 hw) (m2 hw) hy38 rfl (ok38 hw v3 (0 : Int32) (v6 - v9) (0 : Int32) s _ hc8) rfl (lenOf pd38 rfl) (leb rfl) (leb rfl) (leb rfl) (leb rfl) ?_
      rintro _ _ ⟨rfl, rfl⟩
      show W40 l Z n0 (P40 r) 0 0 249 [vR 0,vI v1,vI v2,vI v3,vU,vI v5,vI v6,vI v7,vI v8,vI v9,vI v10] [] (Hb 0 c8)
      refine xB 1 (D40 142) rfl ?_
      cases h
      exact xZ (D40 143) rfl (leb rfl) (leb rfl) ⟨rfl, rfl⟩
     ·
      exact xI (pc' := 251) (D40 133) (XT.ii_ne_t hc7) (by decide) rfl (xE (L' := [vR 0,vI v1,vI v2,vI v3,vU,vU,vI v6,vI v7,vU,vI v9,vI v10]) ⟨rfl, rfl, rfl, rfl, rfl, rfl, rfl, rfl, trivial⟩ (ok40_251 hw n0 v1 v2 v3 v6 v7 v9 v10 s _ h))
    ·
     exact xI (pc' := 251) (D40 130) (XT.ii_ne_t hc6) (by decide) rfl (xE (L' := [vR 0,vI v1,vI v2,vI v3,vU,vU,vI v6,vI v7,vU,vI v9,vI v10]) ⟨rfl, rfl, rfl, rfl, rfl, rfl, rfl, rfl, trivial⟩ (ok40_251 hw n0 v1 v2 v3 v6 v7 v9 v10 s _ h))
  ·
   exact xI (pc' := 285) (D40 108) (XT.ii_ne_t hc2) (by decide) rfl (xE (L' := [vR 0,vU,vI v2,vU,vU,vU,vU,vU,vU,vU,vU]) ⟨rfl, rfl, trivial⟩ (ok40_285 hw n0 v2 s _ h))
 ·
  exact xI (pc' := 285) (D40 105) (XT.ii_ne_t hc1) (by decide) rfl (xE (L' := [vR 0,vU,vI v2,vU,vU,vU,vU,vU,vU,vU,vU]) ⟨rfl, rfl, trivial⟩ (ok40_285 hw n0 v2 s _ h))
def f_binary_145 (v1 v2 v3 v5 v6 v7 v8 v9 v10 : Int32) (s : St) : Option (Int32 × St) :=
 if v1 = (21 : Int32) then
  if v5 = (1 : Int32) then
   if v8 = 0 then
    (f_movePtr v3 v7 (v6.toInt64 - v9.toInt64) v2 s).bind fun c4 =>
    some (c4.1 &&& 1, c4.2)
   else
    f_binary_178 v1 v2 v3 v5 v6 v7 v8 v9 v10 s
  else
   f_binary_178 v1 v2 v3 v5 v6 v7 v8 v9 v10 s
 else
  f_binary_178 v1 v2 v3 v5 v6 v7 v8 v9 v10 s
theorem ok40_145 (hw : HW a0 Z) (n0 : Nat) (v1 v2 v3 v5 v6 v7 v8 v9 v10 : Int32) (s : St) (r : Int32 × St) (h : f_binary_145 v1 v2 v3 v5 v6 v7 v8 v9 v10 s = some r) : W40 l Z n0 (P40 r) 0 0 145 [vR 0,vI v1,vI v2,vI v3,vU,vI v5,vI v6,vI v7,vI v8,vI v9,vI v10] [] (Hb 0 s) := by
 unfold f_binary_145 at h
 refine xC (D40 84) rfl (xG 21 (D40 85) rfl ?_)
 rcases ite_e h with ⟨hc1, h⟩ | ⟨hc1, h⟩
 ·
  refine xJ (D40 86) (XT.ii_ne_f hc1) (xH (D40 87) rfl (xB 1 (D40 88) rfl ?_))
  rcases ite_e h with ⟨hc2, h⟩ | ⟨hc2, h⟩
  ·
   refine xJ (D40 89) (XT.ii_ne_f hc2) (xH (D40 90) rfl ?_)
   rcases ite_e h with ⟨hc3, h⟩ | ⟨hc3, h⟩
   ·
    refine xM (D40 91) (XT.i0_ne_f hc3) (xA (D40 92) rfl (xC (D40 93) rfl (xH (D40 94) rfl (xH (D40 95) rfl (yG (D40 96) (xH (D40 97) rfl (yG (D40 98) (WP.lsub (D40 99) (xC (D40 100) rfl ?_)))))))))
    obtain ⟨c4, hc4, h⟩ := bd h
    refine xF (i := 0) (y := y41) (as := [.int v3, .int v7, .long (v6.toInt64 - v9.toInt64), .int v2]) (S := []) (D40 101) (m281 hw) (m283 hw) (m1 hw) (m282 hw) (m284 hw) (m2 hw) hy41 rfl (ok41 hw v3 v7 (v6.toInt64 - v9.toInt64) v2 s _ hc4) rfl (lenOf pd41 rfl) (leb rfl) (leb rfl) (leb rfl) (leb rfl) ?_
    rintro _ _ ⟨rfl, rfl⟩
    show W40 l Z n0 (P40 r) 0 0 177 [vR 0,vI v1,vI v2,vI v3,vU,vI v5,vI v6,vI v7,vI v8,vI v9,vI v10] [.int c4.1] (Hb 0 c4.2)
    cases h
    exact xZ (D40 102) rfl (leb rfl) (leb rfl) ⟨rfl, rfl⟩
   ·
    exact xL (pc' := 178) (D40 91) (XT.i0_ne_t hc3) (by decide) rfl (xE (L' := [vR 0,vI v1,vI v2,vI v3,vU,vI v5,vI v6,vI v7,vI v8,vI v9,vI v10]) ⟨rfl, rfl, rfl, rfl, rfl, rfl, rfl, rfl, rfl, rfl, trivial⟩ (ok40_178 hw n0 v1 v2 v3 v5 v6 v7 v8 v9 v10 s _ h))
  ·
   exact xI (pc' := 178) (D40 89) (XT.ii_ne_t hc2) (by decide) rfl (xE (L' := [vR 0,vI v1,vI v2,vI v3,vU,vI v5,vI v6,vI v7,vI v8,vI v9,vI v10]) ⟨rfl, rfl, rfl, rfl, rfl, rfl, rfl, rfl, rfl, rfl, trivial⟩ (ok40_178 hw n0 v1 v2 v3 v5 v6 v7 v8 v9 v10 s _ h))
 ·
  exact xI (pc' := 178) (D40 86) (XT.ii_ne_t hc1) (by decide) rfl (xE (L' := [vR 0,vI v1,vI v2,vI v3,vU,vI v5,vI v6,vI v7,vI v8,vI v9,vI v10]) ⟨rfl, rfl, rfl, rfl, rfl, rfl, rfl, rfl, rfl, rfl, trivial⟩ (ok40_178 hw n0 v1 v2 v3 v5 v6 v7 v8 v9 v10 s _ h))
def f_binary_112 (v1 v2 v3 v5 v6 v7 v8 v9 v10 : Int32) (s : St) : Option (Int32 × St) :=
 if v1 = (20 : Int32) then
  if v5 = 0 then
   if v8 = (1 : Int32) then
    (f_movePtr v3 v10 (v9.toInt64 + v6.toInt64) v2 s).bind fun c4 =>
    some (c4.1 &&& 1, c4.2)
   else
    f_binary_145 v1 v2 v3 v5 v6 v7 v8 v9 v10 s
  else
   f_binary_145 v1 v2 v3 v5 v6 v7 v8 v9 v10 s
 else
  f_binary_145 v1 v2 v3 v5 v6 v7 v8 v9 v10 s
theorem ok40_112 (hw : HW a0 Z) (n0 : Nat) (v1 v2 v3 v5 v6 v7 v8 v9 v10 : Int32) (s : St) (r : Int32 × St) (h : f_binary_112 v1 v2 v3 v5 v6 v7 v8 v9 v10 s = some r) : W40 l Z n0 (P40 r) 0 0 112 [vR 0,vI v1,vI v2,vI v3,vU,vI v5,vI v6,vI v7,vI v8,vI v9,vI v10] [] (Hb 0 s) := by
 unfold f_binary_112 at h
 refine xC (D40 65) rfl (xG 20 (D40 66) rfl ?_)
 rcases ite_e h with ⟨hc1, h⟩ | ⟨hc1, h⟩
 ·
  refine xJ (D40 67) (XT.ii_ne_f hc1) (xH (D40 68) rfl ?_)
  rcases ite_e h with ⟨hc2, h⟩ | ⟨hc2, h⟩
  ·
   refine xM (D40 69) (XT.i0_ne_f hc2) (xH (D40 70) rfl (xB 1 (D40 71) rfl ?_))
   rcases ite_e h with ⟨hc3, h⟩ | ⟨hc3, h⟩
   ·
    refine xJ (D40 72) (XT.ii_ne_f hc3) (xA (D40 73) rfl (xC (D40 74) rfl (xH (D40 75) rfl (xH (D40 76) rfl (yG (D40 77) (xH (D40 78) rfl (yG (D40 79) (yJ (D40 80) (xC (D40 81) rfl ?_)))))))))
    obtain ⟨c4, hc4, h⟩ := bd h
    refine xF (i := 0) (y := y41) (as := [.int v3, .int v10, .long (v9.toInt64 + v6.toInt64), .int v2]) (S := []) (D40 82) (m281 hw) (m283 hw) (m1 hw) (m282 hw) (m284 hw) (m2 hw) hy41 rfl (ok41 hw v3 v10 (v9.toInt64 + v6.toInt64) v2 s _ hc4) rfl (lenOf pd41 rfl) (leb rfl) (leb rfl) (leb rfl) (leb rfl) ?_
    rintro _ _ ⟨rfl, rfl⟩
    show W40 l Z n0 (P40 r) 0 0 144 [vR 0,vI v1,vI v2,vI v3,vU,vI v5,vI v6,vI v7,vI v8,vI v9,vI v10] [.int c4.1] (Hb 0 c4.2)
    cases h
    exact xZ (D40 83) rfl (leb rfl) (leb rfl) ⟨rfl, rfl⟩
   ·
    exact xI (pc' := 145) (D40 72) (XT.ii_ne_t hc3) (by decide) rfl (xE (L' := [vR 0,vI v1,vI v2,vI v3,vU,vI v5,vI v6,vI v7,vI v8,vI v9,vI v10]) ⟨rfl, rfl, rfl, rfl, rfl, rfl, rfl, rfl, rfl, rfl, trivial⟩ (ok40_145 hw n0 v1 v2 v3 v5 v6 v7 v8 v9 v10 s _ h))
  ·
   exact xL (pc' := 145) (D40 69) (XT.i0_ne_t hc2) (by decide) rfl (xE (L' := [vR 0,vI v1,vI v2,vI v3,vU,vI v5,vI v6,vI v7,vI v8,vI v9,vI v10]) ⟨rfl, rfl, rfl, rfl, rfl, rfl, rfl, rfl, rfl, rfl, trivial⟩ (ok40_145 hw n0 v1 v2 v3 v5 v6 v7 v8 v9 v10 s _ h))
 ·
  exact xI (pc' := 145) (D40 67) (XT.ii_ne_t hc1) (by decide) rfl (xE (L' := [vR 0,vI v1,vI v2,vI v3,vU,vI v5,vI v6,vI v7,vI v8,vI v9,vI v10]) ⟨rfl, rfl, rfl, rfl, rfl, rfl, rfl, rfl, rfl, rfl, trivial⟩ (ok40_145 hw n0 v1 v2 v3 v5 v6 v7 v8 v9 v10 s _ h))
def f_binary_79 (v1 v2 v3 v5 v6 v7 v8 v9 v10 : Int32) (s : St) : Option (Int32 × St) :=
 if v1 = (20 : Int32) then
  if v5 = (1 : Int32) then
   if v8 = 0 then
    (f_movePtr v3 v7 (v6.toInt64 + v9.toInt64) v2 s).bind fun c4 =>
    some (c4.1 &&& 1, c4.2)
   else
    f_binary_112 v1 v2 v3 v5 v6 v7 v8 v9 v10 s
  else
   f_binary_112 v1 v2 v3 v5 v6 v7 v8 v9 v10 s
 else
  f_binary_112 v1 v2 v3 v5 v6 v7 v8 v9 v10 s
theorem ok40_79 (hw : HW a0 Z) (n0 : Nat) (v1 v2 v3 v5 v6 v7 v8 v9 v10 : Int32) (s : St) (r : Int32 × St) (h : f_binary_79 v1 v2 v3 v5 v6 v7 v8 v9 v10 s = some r) : W40 l Z n0 (P40 r) 0 0 79 [vR 0,vI v1,vI v2,vI v3,vU,vI v5,vI v6,vI v7,vI v8,vI v9,vI v10] [] (Hb 0 s) := by
 unfold f_binary_79 at h
 refine xC (D40 46) rfl (xG 20 (D40 47) rfl ?_)
 rcases ite_e h with ⟨hc1, h⟩ | ⟨hc1, h⟩
 ·
  refine xJ (D40 48) (XT.ii_ne_f hc1) (xH (D40 49) rfl (xB 1 (D40 50) rfl ?_))
  rcases ite_e h with ⟨hc2, h⟩ | ⟨hc2, h⟩
  ·
   refine xJ (D40 51) (XT.ii_ne_f hc2) (xH (D40 52) rfl ?_)
   rcases ite_e h with ⟨hc3, h⟩ | ⟨hc3, h⟩
   ·
    refine xM (D40 53) (XT.i0_ne_f hc3) (xA (D40 54) rfl (xC (D40 55) rfl (xH (D40 56) rfl (xH (D40 57) rfl (yG (D40 58) (xH (D40 59) rfl (yG (D40 60) (yJ (D40 61) (xC (D40 62) rfl ?_)))))))))
    obtain ⟨c4, hc4, h⟩ := bd h
    refine xF (i := 0) (y := y41) (as := [.int v3, .int v7, .long (v6.toInt64 + v9.toInt64), .int v2]) (S := []) (D40 63) (m281 hw) (m283 hw) (m1 hw) (m282 hw) (m284 hw) (m2 hw) hy41 rfl (ok41 hw v3 v7 (v6.toInt64 + v9.toInt64) v2 s _ hc4) rfl (lenOf pd41 rfl) (leb rfl) (leb rfl) (leb rfl) (leb rfl) ?_
    rintro _ _ ⟨rfl, rfl⟩
    show W40 l Z n0 (P40 r) 0 0 111 [vR 0,vI v1,vI v2,vI v3,vU,vI v5,vI v6,vI v7,vI v8,vI v9,vI v10] [.int c4.1] (Hb 0 c4.2)
    cases h
    exact xZ (D40 64) rfl (leb rfl) (leb rfl) ⟨rfl, rfl⟩
   ·
    exact xL (pc' := 112) (D40 53) (XT.i0_ne_t hc3) (by decide) rfl (xE (L' := [vR 0,vI v1,vI v2,vI v3,vU,vI v5,vI v6,vI v7,vI v8,vI v9,vI v10]) ⟨rfl, rfl, rfl, rfl, rfl, rfl, rfl, rfl, rfl, rfl, trivial⟩ (ok40_112 hw n0 v1 v2 v3 v5 v6 v7 v8 v9 v10 s _ h))
  ·
   exact xI (pc' := 112) (D40 51) (XT.ii_ne_t hc2) (by decide) rfl (xE (L' := [vR 0,vI v1,vI v2,vI v3,vU,vI v5,vI v6,vI v7,vI v8,vI v9,vI v10]) ⟨rfl, rfl, rfl, rfl, rfl, rfl, rfl, rfl, rfl, rfl, trivial⟩ (ok40_112 hw n0 v1 v2 v3 v5 v6 v7 v8 v9 v10 s _ h))
 ·
  exact xI (pc' := 112) (D40 48) (XT.ii_ne_t hc1) (by decide) rfl (xE (L' := [vR 0,vI v1,vI v2,vI v3,vU,vI v5,vI v6,vI v7,vI v8,vI v9,vI v10]) ⟨rfl, rfl, rfl, rfl, rfl, rfl, rfl, rfl, rfl, rfl, trivial⟩ (ok40_112 hw n0 v1 v2 v3 v5 v6 v7 v8 v9 v10 s _ h))
def f_binary (p1 p2 p3 p4 : Int32) (s : St) : Option (Int32 × St) :=
 (rd (gA s 27) p3).bind fun x1 =>
 (rd (gA s 28) p3).bind fun x2 =>
 (rd (gA s 29) p3).bind fun x3 =>
 (rd (gA s 27) p4).bind fun x4 =>
 (rd (gA s 28) p4).bind fun x5 =>
 (rd (gA s 29) p4).bind fun x6 =>
 if x1 = 0 then
  if x4 = 0 then
   (f_intOp p1 x2 x5 s).bind fun c9 =>
   (f_setReg p3 (0 : Int32) c9 (0 : Int32) s).bind fun c10 =>
   some ((1 : Int32), c10)
  else
   f_binary_79 p1 p2 p3 x1 x2 x3 x4 x5 x6 s
 else
  f_binary_79 p1 p2 p3 x1 x2 x3 x4 x5 x6 s
theorem ok40 (hw : HW a0 Z) (p1 p2 p3 p4 : Int32) (s : St) (r : Int32 × St) (h : f_binary p1 p2 p3 p4 s = some r) : CS l Z CN lay y40 prog_1_method_53_code 11 (some FieldType.boolean) R40 0 [.ref 0, .int p1, .int p2, .int p3, .int p4] (Hb 0 s) (P40 r) := by
 refine CS.of_wp pn_cls (leb rfl) fun n0 => ?_
 show W40 l Z n0 (P40 r) 0 0 0 [vR 0,vI p1,vI p2,vI p3,vI p4,vU,vU,vU,vU,vU,vU] [] (Hb 0 s)
 unfold f_binary at h
 refine xA (D40 0) rfl (xD (i := 0) (j := 46) (D40 1) (m65 hw) rfl rfl rfl (xC (D40 2) rfl ?_))
 obtain ⟨x1, hx1, h⟩ := bd h
 refine xN (i := 28) (D40 3) rfl hx1 (xR (L' := [vR 0,vI p1,vI p2,vI p3,vI p4,vI x1,vU,vU,vU,vU,vU]) (D40 4) (leb rfl) rfl (xA (D40 5) rfl (xD (i := 0) (j := 47) (D40 6) (m67 hw) rfl rfl rfl (xC (D40 7) rfl ?_))))
 obtain ⟨x2, hx2, h⟩ := bd h
 refine xN (i := 29) (D40 8) rfl hx2 (xR (L' := [vR 0,vI p1,vI p2,vI p3,vI p4,vI x1,vI x2,vU,vU,vU,vU]) (D40 9) (leb rfl) rfl (xA (D40 10) rfl (xD (i := 0) (j := 48) (D40 11) (m69 hw) rfl rfl rfl (xC (D40 12) rfl ?_))))
 obtain ⟨x3, hx3, h⟩ := bd h
 refine xN (i := 30) (D40 13) rfl hx3 (xR (L' := [vR 0,vI p1,vI p2,vI p3,vI p4,vI x1,vI x2,vI x3,vU,vU,vU]) (D40 14) (leb rfl) rfl (xA (D40 15) rfl (xD (i := 0) (j := 46) (D40 16) (m65 hw) rfl rfl rfl (xH (D40 17) rfl ?_))))
 obtain ⟨x4, hx4, h⟩ := bd h
 refine xN (i := 28) (D40 18) rfl hx4 (xR (L' := [vR 0,vI p1,vI p2,vI p3,vI p4,vI x1,vI x2,vI x3,vI x4,vU,vU]) (D40 19) (leb rfl) rfl (xA (D40 20) rfl (xD (i := 0) (j := 47) (D40 21) (m67 hw) rfl rfl rfl (xH (D40 22) rfl ?_))))
 obtain ⟨x5, hx5, h⟩ := bd h
 refine xN (i := 29) (D40 23) rfl hx5 (xR (L' := [vR 0,vI p1,vI p2,vI p3,vI p4,vI x1,vI x2,vI x3,vI x4,vI x5,vU]) (D40 24) (leb rfl) rfl (xA (D40 25) rfl (xD (i := 0) (j := 48) (D40 26) (m69 hw) rfl rfl rfl (xH (D40 27) rfl ?_))))
 obtain ⟨x6, hx6, h⟩ := bd h
 refine xN (i := 30) (D40 28) rfl hx6 (xR (L' := [vR 0,vI p1,vI p2,vI p3,vI p4,vI x1,vI x2,vI x3,vI x4,vI x5,vI x6]) (D40 29) (leb rfl) rfl (xH (D40 30) rfl ?_))
 rcases ite_e h with ⟨hc7, h⟩ | ⟨hc7, h⟩
 ·
  refine xM (D40 31) (XT.i0_ne_f hc7) (xH (D40 32) rfl ?_)
  rcases ite_e h with ⟨hc8, h⟩ | ⟨hc8, h⟩
  ·
   refine xM (D40 33) (XT.i0_ne_f hc8) (xA (D40 34) rfl (xC (D40 35) rfl (xB 0 (D40 36) rfl (xA (D40 37) rfl (xC (D40 38) rfl (xH (D40 39) rfl (xH (D40 40) rfl ?_)))))))
   obtain ⟨c9, hc9, h⟩ := bd h
   refine xF (i := 0) (y := y57) (as := [.int p1, .int x2, .int x5]) (S := [oN, .int p3, .ref 0]) (D40 41) (m352 hw) (m354 hw) (m1 hw) (m353 hw) (m355 hw) (m2 hw) hy57 rfl (ok57 hw p1 x2 x5 s _ hc9) rfl (lenOf pd57 rfl) (leb rfl) (leb rfl) (leb rfl) (leb rfl) ?_
   rintro _ _ ⟨rfl, rfl⟩
   show W40 l Z n0 (P40 r) 0 0 73 [vR 0,vI p1,vI p2,vI p3,vI p4,vI x1,vI x2,vI x3,vI x4,vI x5,vI x6] [.int c9, oN, .int p3, .ref 0] (Hb 0 s)
   refine xB 0 (D40 42) rfl ?_
   obtain ⟨c10, hc10, h⟩ := bd h
   refine xF (i := 0) (y := y38) (as := [.int p3, oN, .int c9, oN]) (S := []) (D40 43) (m269 hw) (m271 hw) (m1 hw) (m270 hw) (m272 hw) (m2 hw) hy38 rfl (ok38 hw p3 (0 : Int32) c9 (0 : Int32) s _ hc10) rfl (lenOf pd38 rfl) (leb rfl) (leb rfl) (leb rfl) (leb rfl) ?_
   rintro _ _ ⟨rfl, rfl⟩
   show W40 l Z n0 (P40 r) 0 0 77 [vR 0,vI p1,vI p2,vI p3,vI p4,vI x1,vI x2,vI x3,vI x4,vI x5,vI x6] [] (Hb 0 c10)
   refine xB 1 (D40 44) rfl ?_
   cases h
   exact xZ (D40 45) rfl (leb rfl) (leb rfl) ⟨rfl, rfl⟩
  ·
   exact xL (pc' := 79) (D40 33) (XT.i0_ne_t hc8) (by decide) rfl (xE (L' := [vR 0,vI p1,vI p2,vI p3,vU,vI x1,vI x2,vI x3,vI x4,vI x5,vI x6]) ⟨rfl, rfl, rfl, rfl, rfl, rfl, rfl, rfl, rfl, rfl, trivial⟩ (ok40_79 hw n0 p1 p2 p3 x1 x2 x3 x4 x5 x6 s _ h))
 ·
  exact xL (pc' := 79) (D40 31) (XT.i0_ne_t hc7) (by decide) rfl (xE (L' := [vR 0,vI p1,vI p2,vI p3,vU,vI x1,vI x2,vI x3,vI x4,vI x5,vI x6]) ⟨rfl, rfl, rfl, rfl, rfl, rfl, rfl, rfl, rfl, rfl, trivial⟩ (ok40_79 hw n0 p1 p2 p3 x1 x2 x3 x4 x5 x6 s _ h))
def D33 := dA k48 (0,.aload_n 0,1) [(1,.iload_n 1,1),(2,.invokevirtual 282,3),(5,.istore_n 2,1),(6,.iload_n 2,1),(7,.ifCond .ge 5,3),(10,.iconst (-1),1),(11,.ireturn,1),(12,.aload_n 0,1),(13,.iconst 1,1),(14,.iconst 0,1),(15,.invokevirtual 272,3),(18,.iconst 0,1),(19,.istore_n 3,1),(20,.iload_n 3,1),(21,.sipush 256,3),(24,.if_icmp .ge 51,3),(27,.aload_n 0,1),(28,.iload_n 2,1),(29,.invokevirtual 192,3),(32,.bipush 22,2),(34,.if_icmp .ne 41,3),(37,.iload_n 2,1),(38,.istore 4,2),(40,.aload_n 0,1),(41,.iload_n 2,1),(42,.iconst 1,1),(43,.iadd,1),(44,.invokevirtual 282,3),(47,.istore_n 2,1),(48,.iload_n 2,1),(49,.ifCond .ge 5,3),(52,.iconst (-1),1),(53,.ireturn,1),(54,.aload_n 0,1),(55,.bipush 22,2),(57,.iload 4,2),(59,.iconst 1,1),(60,.iconst 0,1),(61,.invokevirtual 275,3),(64,.ifCond .ne 5,3),(67,.iconst (-1),1),(68,.ireturn,1),(69,.iinc 3 1,3),(72,.goto (-52),3),(75,.iload_n 2,1),(76,.ireturn,1)] (by decide +kernel)
abbrev y33 : MethodName := ⟨"FatPointerC", "evalTerm", "(I)I"⟩
theorem hy33 : y33.cls ≠ "java/lang/invoke/MethodHandle" ∧ y33.cls ≠ "java/lang/invoke/VarHandle" := by decide
theorem pd33 : parseMethodDescriptor y33.desc = some ⟨[.int], some .int⟩ := by decide +kernel
abbrev R33 : Room := { frames := 5, cells := 0, slots := 0, locals := 77 }
abbrev P33 (r : Int32 × St) : Option Value → List OwnC → Prop := fun v H' => v = some (.int r.1) ∧ H' = (Hb 0 r.2)
abbrev W33 (l : Launch) (Z : State) (n0 : Nat) := WP l Z CN lay "FatPointerC" "evalTerm" prog_1_method_51_code 5 (some FieldType.int) R33 n0 0
def f_evalTerm_75 (n : Nat) (v2 : Int32) (s : St) : Option (Int32 × St) :=
 some (v2, s)
theorem ok33_75 (hw : HW a0 Z) (n0 n : Nat) (v2 : Int32) (s : St) (r : Int32 × St) (h : f_evalTerm_75 n v2 s = some r) : W33 l Z n0 (P33 r) 0 0 75 [vU,vU,vI v2,vU,vU] [] (Hb 0 s) := by
 unfold f_evalTerm_75 at h
 refine xC (D33 45) rfl ?_
 cases h
 exact xK (D33 46) rfl (leb rfl) (leb rfl) ⟨rfl, rfl⟩
def g_evalTerm_20 (k20 : KT2) (n : Nat) (v2 v3 : Int32) (s : St) : Option (Int32 × St) :=
 if v3 < (256 : Int32) then
  (f_kindAt v2 s).bind fun c2 =>
  if c2 = (22 : Int32) then
   (f_evalOperand (v2 + (1 : Int32)) s).bind fun c4 =>
   if c4.1 < 0 then
    some ((-1 : Int32), c4.2)
   else
    (f_binary (22 : Int32) v2 (1 : Int32) (0 : Int32) c4.2).bind fun c6 =>
    if c6.1 = 0 then
     some ((-1 : Int32), c6.2)
    else
     lt (v3 + (1 : Int32)) fun x8 =>
     k20 c4.1 x8 c6.2
  else
   f_evalTerm_75 n v2 s
 else
  f_evalTerm_75 n v2 s
abbrev HK33_20 (l : Launch) (Z : State) (n0 : Nat) (k20 : KT2) : Prop := ∀ (v2 v3 : Int32) (s : St) (r : Int32 × St), k20 v2 v3 s = some r → W33 l Z n0 (P33 r) 0 0 20 [vR 0,vU,vI v2,vI v3,vU] [] (Hb 0 s)
theorem okg33_20 (hw : HW a0 Z) (n0 : Nat) (k20 : KT2) (hk20 : HK33_20 l Z n0 k20) (n : Nat) (v2 v3 : Int32) (s : St) (r : Int32 × St) (h : g_evalTerm_20 k20 n v2 v3 s = some r) : W33 l Z n0 (P33 r) 0 0 20 [vR 0,vU,vI v2,vI v3,vU] [] (Hb 0 s) := by
 unfold g_evalTerm_20 at h
 refine xC (D33 14) rfl (yB 256 (D33 15) rfl ?_)
 rcases ite_e h with ⟨hc1, h⟩ | ⟨hc1, h⟩
 ·
  refine xJ (D33 16) (XT.ii_ge_f hc1) (xA (D33 17) rfl (xC (D33 18) rfl ?_))
  obtain ⟨c2, hc2, h⟩ := bd h
  refine xF (i := 0) (y := y9) (as := [.int v2]) (S := []) (D33 19) (m138 hw) (m140 hw) (m1 hw) (m139 hw) (m141 hw) (m2 hw) hy9 rfl (ok9 hw v2 s _ hc2) rfl (lenOf pd9 rfl) (leb rfl) (leb rfl) (leb rfl) (leb rfl) ?_
  rintro _ _ ⟨rfl, rfl⟩
  show W33 l Z n0 (P33 r) 0 0 32 [vR 0,vU,vI v2,vI v3,vU] [.int c2] (Hb 0 s)
  refine xG 22 (D33 20) rfl ?_
  rcases ite_e h with ⟨hc3, h⟩ | ⟨hc3, h⟩
  ·
   refine xJ (D33 21) (XT.ii_ne_f hc3) (xC (D33 22) rfl (xR (L' := [vR 0,vU,vI v2,vI v3,vI v2]) (D33 23) (leb rfl) rfl (xA (D33 24) rfl (xC (D33 25) rfl (xB 1 (D33 26) rfl (xO (D33 27) ?_))))))
   obtain ⟨c4, hc4, h⟩ := bd h
   refine xF (i := 0) (y := y34) (as := [.int (v2 + (1 : Int32))]) (S := []) (D33 28) (m253 hw) (m255 hw) (m1 hw) (m254 hw) (m256 hw) (m2 hw) hy34 rfl (ok34 hw (v2 + (1 : Int32)) s _ hc4) rfl (lenOf pd34 rfl) (leb rfl) (leb rfl) (leb rfl) (leb rfl) ?_
   rintro _ _ ⟨rfl, rfl⟩
   show W33 l Z n0 (P33 r) 0 0 47 [vR 0,vU,vI v2,vI v3,vI v2] [.int c4.1] (Hb 0 c4.2)
   refine xP (L' := [vR 0,vU,vI c4.1,vI v3,vI v2]) (D33 29) (leb rfl) rfl (xC (D33 30) rfl ?_)
   rcases ite_e h with ⟨hc5, h⟩ | ⟨hc5, h⟩
   ·
    refine xM (D33 31) (XT.i0_ge_f hc5) (xB (-1) (D33 32) rfl ?_)
    cases h
    exact xK (D33 33) rfl (leb rfl) (leb rfl) ⟨rfl, rfl⟩
   ·
    refine xL (pc' := 54) (D33 31) (XT.i0_ge_t hc5) (by decide) rfl (xA (D33 34) rfl (xG 22 (D33 35) rfl (xH (D33 36) rfl (xB 1 (D33 37) rfl (xB 0 (D33 38) rfl ?_)))))
    obtain ⟨c6, hc6, h⟩ := bd h
    refine xF (i := 0) (y := y40) (as := [.int (22 : Int32), .int v2, .int (1 : Int32), oN]) (S := []) (D33 39) (m277 hw) (m279 hw) (m1 hw) (m278 hw) (m280 hw) (m2 hw) hy40 rfl (ok40 hw (22 : Int32) v2 (1 : Int32) (0 : Int32) c4.2 _ hc6) rfl (lenOf pd40 rfl) (leb rfl) (leb rfl) (leb rfl) (leb rfl) ?_
    rintro _ _ ⟨rfl, rfl⟩
    show W33 l Z n0 (P33 r) 0 0 64 [vR 0,vU,vI c4.1,vI v3,vI v2] [.int c6.1] (Hb 0 c6.2)
    rcases ite_e h with ⟨hc7, h⟩ | ⟨hc7, h⟩
    ·
     refine xM (D33 40) (XT.i0_ne_f hc7) (xB (-1) (D33 41) rfl ?_)
     cases h
     exact xK (D33 42) rfl (leb rfl) (leb rfl) ⟨rfl, rfl⟩
    ·
     refine xL (pc' := 69) (D33 40) (XT.i0_ne_t hc7) (by decide) rfl ?_
     obtain ⟨x8, ex8, h⟩ := lt_e h
     exact yC (L' := [vR 0,vU,vI c4.1,vI x8,vI v2]) (1 : Int32) (D33 43) rfl rfl (by subst ex8; rfl) (xV (pc' := 20) (D33 44) (by decide) rfl (xE (L' := [vR 0,vU,vI c4.1,vI x8,vU]) ⟨rfl, rfl, rfl, trivial⟩ (hk20 c4.1 x8 c6.2 _ h)))
  ·
   exact xI (pc' := 75) (D33 21) (XT.ii_ne_t hc3) (by decide) rfl (xE (L' := [vU,vU,vI v2,vU,vU]) ⟨rfl, trivial⟩ (ok33_75 hw n0 n v2 s _ h))
 ·
  exact xI (pc' := 75) (D33 16) (XT.ii_ge_t hc1) (by decide) rfl (xE (L' := [vU,vU,vI v2,vU,vU]) ⟨rfl, trivial⟩ (ok33_75 hw n0 n v2 s _ h))
def f_evalTerm_20 : Nat → Int32 → Int32 → St → Option (Int32 × St)
 | 0 => fun _ _ _ => none
 | n + 1 => g_evalTerm_20 (f_evalTerm_20 n) n
theorem ok33_20 (hw : HW a0 Z) (n0 : Nat) : ∀ (n : Nat) (v2 v3 : Int32) (s : St) (r : Int32 × St), f_evalTerm_20 n v2 v3 s = some r → W33 l Z n0 (P33 r) 0 0 20 [vR 0,vU,vI v2,vI v3,vU] [] (Hb 0 s)
 | 0, v2, v3, s, r, h => nomatch (show none = some r from h)
 | n + 1, v2, v3, s, r, h => okg33_20 hw n0 _ (ok33_20 hw n0 n) n v2 v3 s r h
def f_evalTerm (n : Nat) (p1 : Int32) (s : St) : Option (Int32 × St) :=
 (f_evalOperand p1 s).bind fun c1 =>
 if c1.1 < 0 then
  some ((-1 : Int32), c1.2)
 else
  (f_copyReg (1 : Int32) (0 : Int32) c1.2).bind fun c3 =>
  f_evalTerm_20 n c1.1 (0 : Int32) c3
theorem ok33 (hw : HW a0 Z) (n : Nat) (p1 : Int32) (s : St) (r : Int32 × St) (h : f_evalTerm n p1 s = some r) : CS l Z CN lay y33 prog_1_method_51_code 5 (some FieldType.int) R33 0 [.ref 0, .int p1] (Hb 0 s) (P33 r) := by
 refine CS.of_wp pn_cls (leb rfl) fun n0 => ?_
 show W33 l Z n0 (P33 r) 0 0 0 [vR 0,vI p1,vU,vU,vU] [] (Hb 0 s)
 unfold f_evalTerm at h
 refine xA (D33 0) rfl (xC (D33 1) rfl ?_)
 obtain ⟨c1, hc1, h⟩ := bd h
 refine xF (i := 0) (y := y34) (as := [.int p1]) (S := []) (D33 2) (m253 hw) (m255 hw) (m1 hw) (m254 hw) (m256 hw) (m2 hw) hy34 rfl (ok34 hw p1 s _ hc1) rfl (lenOf pd34 rfl) (leb rfl) (leb rfl) (leb rfl) (leb rfl) ?_
 rintro _ _ ⟨rfl, rfl⟩
 show W33 l Z n0 (P33 r) 0 0 5 [vR 0,vI p1,vU,vU,vU] [.int c1.1] (Hb 0 c1.2)
 refine xP (L' := [vR 0,vI p1,vI c1.1,vU,vU]) (D33 3) (leb rfl) rfl (xC (D33 4) rfl ?_)
 rcases ite_e h with ⟨hc2, h⟩ | ⟨hc2, h⟩
 ·
  refine xM (D33 5) (XT.i0_ge_f hc2) (xB (-1) (D33 6) rfl ?_)
  cases h
  exact xK (D33 7) rfl (leb rfl) (leb rfl) ⟨rfl, rfl⟩
 ·
  refine xL (pc' := 12) (D33 5) (XT.i0_ge_t hc2) (by decide) rfl (xA (D33 8) rfl (xB 1 (D33 9) rfl (xB 0 (D33 10) rfl ?_)))
  obtain ⟨c3, hc3, h⟩ := bd h
  refine xF (i := 0) (y := y39) (as := [.int (1 : Int32), oN]) (S := []) (D33 11) (m273 hw) (m275 hw) (m1 hw) (m274 hw) (m276 hw) (m2 hw) hy39 rfl (ok39 hw (1 : Int32) (0 : Int32) c1.2 _ hc3) rfl (lenOf pd39 rfl) (leb rfl) (leb rfl) (leb rfl) (leb rfl) ?_
  rintro _ _ ⟨rfl, rfl⟩
  show W33 l Z n0 (P33 r) 0 0 18 [vR 0,vI p1,vI c1.1,vU,vU] [] (Hb 0 c3)
  exact xB 0 (D33 12) rfl (xP (L' := [vR 0,vI p1,vI c1.1,vI 0,vU]) (D33 13) (leb rfl) rfl (xE (L' := [vR 0,vU,vI c1.1,vI 0,vU]) ⟨rfl, rfl, rfl, trivial⟩ (ok33_20 hw n0 n c1.1 (0 : Int32) c3 _ h)))
def D32 := dA k47 (0,.aload_n 0,1) [(1,.iload_n 1,1),(2,.invokevirtual 279,3),(5,.istore_n 2,1),(6,.iload_n 2,1),(7,.ifCond .ge 5,3),(10,.iconst (-1),1),(11,.ireturn,1),(12,.aload_n 0,1),(13,.iconst 2,1),(14,.iconst 1,1),(15,.invokevirtual 272,3),(18,.iconst 0,1),(19,.istore_n 3,1),(20,.iload_n 3,1),(21,.sipush 256,3),(24,.if_icmp .ge 64,3),(27,.aload_n 0,1),(28,.iload_n 2,1),(29,.invokevirtual 192,3),(32,.istore 4,2),(34,.iload 4,2),(36,.bipush 20,2),(38,.if_icmp .eq 12,3),(41,.iload 4,2),(43,.bipush 21,2),(45,.if_icmp .eq 5,3),(48,.iload_n 2,1),(49,.ireturn,1),(50,.iload_n 2,1),(51,.istore 5,2),(53,.aload_n 0,1),(54,.iload_n 2,1),(55,.iconst 1,1),(56,.iadd,1),(57,.invokevirtual 279,3),(60,.istore_n 2,1),(61,.iload_n 2,1),(62,.ifCond .ge 5,3),(65,.iconst (-1),1),(66,.ireturn,1),(67,.aload_n 0,1),(68,.iload 4,2),(70,.iload 5,2),(72,.iconst 2,1),(73,.iconst 1,1),(74,.invokevirtual 275,3),(77,.ifCond .ne 5,3),(80,.iconst (-1),1),(81,.ireturn,1),(82,.iinc 3 1,3),(85,.goto (-65),3),(88,.iload_n 2,1),(89,.ireturn,1)] (by decide +kernel)
abbrev y32 : MethodName := ⟨"FatPointerC", "evalSum", "(I)I"⟩
theorem hy32 : y32.cls ≠ "java/lang/invoke/MethodHandle" ∧ y32.cls ≠ "java/lang/invoke/VarHandle" := by decide
theorem pd32 : parseMethodDescriptor y32.desc = some ⟨[.int], some .int⟩ := by decide +kernel
abbrev R32 : Room := { frames := 6, cells := 0, slots := 0, locals := 93 }
abbrev P32 (r : Int32 × St) : Option Value → List OwnC → Prop := fun v H' => v = some (.int r.1) ∧ H' = (Hb 0 r.2)
abbrev W32 (l : Launch) (Z : State) (n0 : Nat) := WP l Z CN lay "FatPointerC" "evalSum" prog_1_method_50_code 6 (some FieldType.int) R32 n0 0
def f_evalSum_50 (k20 : KT2) (n : Nat) (v2 v3 v4 : Int32) (s : St) : Option (Int32 × St) :=
 (f_evalTerm n (v2 + (1 : Int32)) s).bind fun c1 =>
 if c1.1 < 0 then
  some ((-1 : Int32), c1.2)
 else
  (f_binary v4 v2 (2 : Int32) (1 : Int32) c1.2).bind fun c3 =>
  if c3.1 = 0 then
   some ((-1 : Int32), c3.2)
  else
   lt (v3 + (1 : Int32)) fun x5 =>
   k20 c1.1 x5 c3.2
abbrev HK32_20 (l : Launch) (Z : State) (n0 : Nat) (k20 : KT2) : Prop := ∀ (v2 v3 : Int32) (s : St) (r : Int32 × St), k20 v2 v3 s = some r → W32 l Z n0 (P32 r) 0 0 20 [vR 0,vU,vI v2,vI v3,vU,vU] [] (Hb 0 s)
theorem ok32_50 (hw : HW a0 Z) (n0 : Nat) (k20 : KT2) (hk20 : HK32_20 l Z n0 k20) (n : Nat) (v2 v3 v4 : Int32) (s : St) (r : Int32 × St) (h : f_evalSum_50 k20 n v2 v3 v4 s = some r) : W32 l Z n0 (P32 r) 0 0 50 [vR 0,vU,vI v2,vI v3,vI v4,vU] [] (Hb 0 s) := by
 unfold f_evalSum_50 at h
 refine xC (D32 29) rfl (xR (L' := [vR 0,vU,vI v2,vI v3,vI v4,vI v2]) (D32 30) (leb rfl) rfl (xA (D32 31) rfl (xC (D32 32) rfl (xB 1 (D32 33) rfl (xO (D32 34) ?_)))))
 obtain ⟨c1, hc1, h⟩ := bd h
 refine xF (i := 0) (y := y33) (as := [.int (v2 + (1 : Int32))]) (S := []) (D32 35) (m249 hw) (m251 hw) (m1 hw) (m250 hw) (m252 hw) (m2 hw) hy33 rfl (ok33 hw n (v2 + (1 : Int32)) s _ hc1) rfl (lenOf pd33 rfl) (leb rfl) (leb rfl) (leb rfl) (leb rfl) ?_
 rintro _ _ ⟨rfl, rfl⟩
 show W32 l Z n0 (P32 r) 0 0 60 [vR 0,vU,vI v2,vI v3,vI v4,vI v2] [.int c1.1] (Hb 0 c1.2)
 refine xP (L' := [vR 0,vU,vI c1.1,vI v3,vI v4,vI v2]) (D32 36) (leb rfl) rfl (xC (D32 37) rfl ?_)
 rcases ite_e h with ⟨hc2, h⟩ | ⟨hc2, h⟩
 ·
  refine xM (D32 38) (XT.i0_ge_f hc2) (xB (-1) (D32 39) rfl ?_)
  cases h
  exact xK (D32 40) rfl (leb rfl) (leb rfl) ⟨rfl, rfl⟩
 ·
  refine xL (pc' := 67) (D32 38) (XT.i0_ge_t hc2) (by decide) rfl (xA (D32 41) rfl (xH (D32 42) rfl (xH (D32 43) rfl (xB 2 (D32 44) rfl (xB 1 (D32 45) rfl ?_)))))
  obtain ⟨c3, hc3, h⟩ := bd h
  refine xF (i := 0) (y := y40) (as := [.int v4, .int v2, .int (2 : Int32), .int (1 : Int32)]) (S := []) (D32 46) (m277 hw) (m279 hw) (m1 hw) (m278 hw) (m280 hw) (m2 hw) hy40 rfl (ok40 hw v4 v2 (2 : Int32) (1 : Int32) c1.2 _ hc3) rfl (lenOf pd40 rfl) (leb rfl) (leb rfl) (leb rfl) (leb rfl) ?_
  rintro _ _ ⟨rfl, rfl⟩
  show W32 l Z n0 (P32 r) 0 0 77 [vR 0,vU,vI c1.1,vI v3,vI v4,vI v2] [.int c3.1] (Hb 0 c3.2)
  rcases ite_e h with ⟨hc4, h⟩ | ⟨hc4, h⟩
  ·
   refine xM (D32 47) (XT.i0_ne_f hc4) (xB (-1) (D32 48) rfl ?_)
   cases h
   exact xK (D32 49) rfl (leb rfl) (leb rfl) ⟨rfl, rfl⟩
  ·
   refine xL (pc' := 82) (D32 47) (XT.i0_ne_t hc4) (by decide) rfl ?_
   obtain ⟨x5, ex5, h⟩ := lt_e h
   exact yC (L' := [vR 0,vU,vI c1.1,vI x5,vI v4,vI v2]) (1 : Int32) (D32 50) rfl rfl (by subst ex5; rfl) (xV (pc' := 20) (D32 51) (by decide) rfl (xE (L' := [vR 0,vU,vI c1.1,vI x5,vU,vU]) ⟨rfl, rfl, rfl, trivial⟩ (hk20 c1.1 x5 c3.2 _ h)))
def g_evalSum_20 (k20 : KT2) (n : Nat) (v2 v3 : Int32) (s : St) : Option (Int32 × St) :=
 if v3 < (256 : Int32) then
  (f_kindAt v2 s).bind fun c2 =>
  if c2 = (20 : Int32) then
   f_evalSum_50 k20 n v2 v3 c2 s
  else
   if c2 = (21 : Int32) then
    f_evalSum_50 k20 n v2 v3 c2 s
   else
    some (v2, s)
 else
  some (v2, s)
theorem okg32_20 (hw : HW a0 Z) (n0 : Nat) (k20 : KT2) (hk20 : HK32_20 l Z n0 k20) (n : Nat) (v2 v3 : Int32) (s : St) (r : Int32 × St) (h : g_evalSum_20 k20 n v2 v3 s = some r) : W32 l Z n0 (P32 r) 0 0 20 [vR 0,vU,vI v2,vI v3,vU,vU] [] (Hb 0 s) := by
 unfold g_evalSum_20 at h
 refine xC (D32 14) rfl (yB 256 (D32 15) rfl ?_)
 rcases ite_e h with ⟨hc1, h⟩ | ⟨hc1, h⟩
 ·
  refine xJ (D32 16) (XT.ii_ge_f hc1) (xA (D32 17) rfl (xC (D32 18) rfl ?_))
  obtain ⟨c2, hc2, h⟩ := bd h
  refine xF (i := 0) (y := y9) (as := [.int v2]) (S := []) (D32 19) (m138 hw) (m140 hw) (m1 hw) (m139 hw) (m141 hw) (m2 hw) hy9 rfl (ok9 hw v2 s _ hc2) rfl (lenOf pd9 rfl) (leb rfl) (leb rfl) (leb rfl) (leb rfl) ?_
  rintro _ _ ⟨rfl, rfl⟩
  show W32 l Z n0 (P32 r) 0 0 32 [vR 0,vU,vI v2,vI v3,vU,vU] [.int c2] (Hb 0 s)
  refine xR (L' := [vR 0,vU,vI v2,vI v3,vI c2,vU]) (D32 20) (leb rfl) rfl (xH (D32 21) rfl (xG 20 (D32 22) rfl ?_))
  rcases ite_e h with ⟨hc3, h⟩ | ⟨hc3, h⟩
  ·
   exact xI (pc' := 50) (D32 23) (XT.ii_eq_t hc3) (by decide) rfl (xE (L' := [vR 0,vU,vI v2,vI v3,vI c2,vU]) ⟨rfl, rfl, rfl, rfl, trivial⟩ (ok32_50 hw n0 _ hk20 n v2 v3 c2 s _ h))
  ·
   refine xJ (D32 23) (XT.ii_eq_f hc3) (xH (D32 24) rfl (xG 21 (D32 25) rfl ?_))
   rcases ite_e h with ⟨hc4, h⟩ | ⟨hc4, h⟩
   ·
    exact xI (pc' := 50) (D32 26) (XT.ii_eq_t hc4) (by decide) rfl (xE (L' := [vR 0,vU,vI v2,vI v3,vI c2,vU]) ⟨rfl, rfl, rfl, rfl, trivial⟩ (ok32_50 hw n0 _ hk20 n v2 v3 c2 s _ h))
   ·
    refine xJ (D32 26) (XT.ii_eq_f hc4) (xC (D32 27) rfl ?_)
    cases h
    exact xK (D32 28) rfl (leb rfl) (leb rfl) ⟨rfl, rfl⟩
 ·
  refine xI (pc' := 88) (D32 16) (XT.ii_ge_t hc1) (by decide) rfl (xC (D32 52) rfl ?_)
  cases h
  exact xK (D32 53) rfl (leb rfl) (leb rfl) ⟨rfl, rfl⟩
def f_evalSum_20 : Nat → Int32 → Int32 → St → Option (Int32 × St)
 | 0 => fun _ _ _ => none
 | n + 1 => g_evalSum_20 (f_evalSum_20 n) n
theorem ok32_20 (hw : HW a0 Z) (n0 : Nat) : ∀ (n : Nat) (v2 v3 : Int32) (s : St) (r : Int32 × St), f_evalSum_20 n v2 v3 s = some r → W32 l Z n0 (P32 r) 0 0 20 [vR 0,vU,vI v2,vI v3,vU,vU] [] (Hb 0 s)
 | 0, v2, v3, s, r, h => nomatch (show none = some r from h)
 | n + 1, v2, v3, s, r, h => okg32_20 hw n0 _ (ok32_20 hw n0 n) n v2 v3 s r h
def f_evalSum (n : Nat) (p1 : Int32) (s : St) : Option (Int32 × St) :=
 (f_evalTerm n p1 s).bind fun c1 =>
 if c1.1 < 0 then
  some ((-1 : Int32), c1.2)
 else
  (f_copyReg (2 : Int32) (1 : Int32) c1.2).bind fun c3 =>
  f_evalSum_20 n c1.1 (0 : Int32) c3
theorem ok32 (hw : HW a0 Z) (n : Nat) (p1 : Int32) (s : St) (r : Int32 × St) (h : f_evalSum n p1 s = some r) : CS l Z CN lay y32 prog_1_method_50_code 6 (some FieldType.int) R32 0 [.ref 0, .int p1] (Hb 0 s) (P32 r) := by
 refine CS.of_wp pn_cls (leb rfl) fun n0 => ?_
 show W32 l Z n0 (P32 r) 0 0 0 [vR 0,vI p1,vU,vU,vU,vU] [] (Hb 0 s)
 unfold f_evalSum at h
 refine xA (D32 0) rfl (xC (D32 1) rfl ?_)
 obtain ⟨c1, hc1, h⟩ := bd h
 refine xF (i := 0) (y := y33) (as := [.int p1]) (S := []) (D32 2) (m249 hw) (m251 hw) (m1 hw) (m250 hw) (m252 hw) (m2 hw) hy33 rfl (ok33 hw n p1 s _ hc1) rfl (lenOf pd33 rfl) (leb rfl) (leb rfl) (leb rfl) (leb rfl) ?_
 rintro _ _ ⟨rfl, rfl⟩
 show W32 l Z n0 (P32 r) 0 0 5 [vR 0,vI p1,vU,vU,vU,vU] [.int c1.1] (Hb 0 c1.2)
 refine xP (L' := [vR 0,vI p1,vI c1.1,vU,vU,vU]) (D32 3) (leb rfl) rfl (xC (D32 4) rfl ?_)
 rcases ite_e h with ⟨hc2, h⟩ | ⟨hc2, h⟩
 ·
  refine xM (D32 5) (XT.i0_ge_f hc2) (xB (-1) (D32 6) rfl ?_)
  cases h
  exact xK (D32 7) rfl (leb rfl) (leb rfl) ⟨rfl, rfl⟩
 ·
  refine xL (pc' := 12) (D32 5) (XT.i0_ge_t hc2) (by decide) rfl (xA (D32 8) rfl (xB 2 (D32 9) rfl (xB 1 (D32 10) rfl ?_)))
  obtain ⟨c3, hc3, h⟩ := bd h
  refine xF (i := 0) (y := y39) (as := [.int (2 : Int32), .int (1 : Int32)]) (S := []) (D32 11) (m273 hw) (m275 hw) (m1 hw) (m274 hw) (m276 hw) (m2 hw) hy39 rfl (ok39 hw (2 : Int32) (1 : Int32) c1.2 _ hc3) rfl (lenOf pd39 rfl) (leb rfl) (leb rfl) (leb rfl) (leb rfl) ?_
  rintro _ _ ⟨rfl, rfl⟩
  show W32 l Z n0 (P32 r) 0 0 18 [vR 0,vI p1,vI c1.1,vU,vU,vU] [] (Hb 0 c3)
  exact xB 0 (D32 12) rfl (xP (L' := [vR 0,vI p1,vI c1.1,vI 0,vU,vU]) (D32 13) (leb rfl) rfl (xE (L' := [vR 0,vU,vI c1.1,vI 0,vU,vU]) ⟨rfl, rfl, rfl, trivial⟩ (ok32_20 hw n0 n c1.1 (0 : Int32) c3 _ h)))
def D31 := dA k46 (0,.aload_n 0,1) [(1,.iload_n 1,1),(2,.invokevirtual 269,3),(5,.istore_n 2,1),(6,.iload_n 2,1),(7,.ifCond .ge 5,3),(10,.iconst (-1),1),(11,.ireturn,1),(12,.aload_n 0,1),(13,.iload_n 2,1),(14,.invokevirtual 192,3),(17,.istore_n 3,1),(18,.iload_n 3,1),(19,.bipush 24,2),(21,.if_icmp .eq 11,3),(24,.iload_n 3,1),(25,.bipush 25,2),(27,.if_icmp .eq 5,3),(30,.iload_n 2,1),(31,.ireturn,1),(32,.aload_n 0,1),(33,.iconst 3,1),(34,.iconst 2,1),(35,.invokevirtual 272,3),(38,.iload_n 2,1),(39,.istore 4,2),(41,.aload_n 0,1),(42,.iload_n 2,1),(43,.iconst 1,1),(44,.iadd,1),(45,.invokevirtual 269,3),(48,.istore_n 2,1),(49,.iload_n 2,1),(50,.ifCond .ge 5,3),(53,.iconst (-1),1),(54,.ireturn,1),(55,.aload_n 0,1),(56,.iload_n 3,1),(57,.iload 4,2),(59,.iconst 3,1),(60,.iconst 2,1),(61,.invokevirtual 275,3),(64,.ifCond .ne 5,3),(67,.iconst (-1),1),(68,.ireturn,1),(69,.aload_n 0,1),(70,.iconst 2,1),(71,.iconst 3,1),(72,.invokevirtual 272,3),(75,.iload_n 2,1),(76,.ireturn,1)] (by decide +kernel)
abbrev y31 : MethodName := ⟨"FatPointerC", "evalExpr", "(I)I"⟩
theorem hy31 : y31.cls ≠ "java/lang/invoke/MethodHandle" ∧ y31.cls ≠ "java/lang/invoke/VarHandle" := by decide
theorem pd31 : parseMethodDescriptor y31.desc = some ⟨[.int], some .int⟩ := by decide +kernel
abbrev R31 : Room := { frames := 7, cells := 0, slots := 0, locals := 110 }
abbrev P31 (r : Int32 × St) : Option Value → List OwnC → Prop := fun v H' => v = some (.int r.1) ∧ H' = (Hb 0 r.2)
abbrev W31 (l : Launch) (Z : State) (n0 : Nat) := WP l Z CN lay "FatPointerC" "evalExpr" prog_1_method_49_code 5 (some FieldType.int) R31 n0 0
def f_evalExpr_32 (n : Nat) (v2 v3 : Int32) (s : St) : Option (Int32 × St) :=
 (f_copyReg (3 : Int32) (2 : Int32) s).bind fun c1 =>
 (f_evalSum n (v2 + (1 : Int32)) c1).bind fun c2 =>
 if c2.1 < 0 then
  some ((-1 : Int32), c2.2)
 else
  (f_binary v3 v2 (3 : Int32) (2 : Int32) c2.2).bind fun c4 =>
  if c4.1 = 0 then
   some ((-1 : Int32), c4.2)
  else
   (f_copyReg (2 : Int32) (3 : Int32) c4.2).bind fun c6 =>
   some (c2.1, c6)
theorem ok31_32 (hw : HW a0 Z) (n0 n : Nat) (v2 v3 : Int32) (s : St) (r : Int32 × St) (h : f_evalExpr_32 n v2 v3 s = some r) : W31 l Z n0 (P31 r) 0 0 32 [vR 0,vU,vI v2,vI v3,vU] [] (Hb 0 s) := by
 unfold f_evalExpr_32 at h
 refine xA (D31 20) rfl (xB 3 (D31 21) rfl (xB 2 (D31 22) rfl ?_))
 obtain ⟨c1, hc1, h⟩ := bd h
 refine xF (i := 0) (y := y39) (as := [.int (3 : Int32), .int (2 : Int32)]) (S := []) (D31 23) (m273 hw) (m275 hw) (m1 hw) (m274 hw) (m276 hw) (m2 hw) hy39 rfl (ok39 hw (3 : Int32) (2 : Int32) s _ hc1) rfl (lenOf pd39 rfl) (leb rfl) (leb rfl) (leb rfl) (leb rfl) ?_
 rintro _ _ ⟨rfl, rfl⟩
 show W31 l Z n0 (P31 r) 0 0 38 [vR 0,vU,vI v2,vI v3,vU] [] (Hb 0 c1)
 refine xC (D31 24) rfl (xR (L' := [vR 0,vU,vI v2,vI v3,vI v2]) (D31 25) (leb rfl) rfl (xA (D31 26) rfl (xC (D31 27) rfl (xB 1 (D31 28) rfl (xO (D31 29) ?_)))))
 obtain ⟨c2, hc2, h⟩ := bd h
 refine xF (i := 0) (y := y32) (as := [.int (v2 + (1 : Int32))]) (S := []) (D31 30) (m245 hw) (m247 hw) (m1 hw) (m246 hw) (m248 hw) (m2 hw) hy32 rfl (ok32 hw n (v2 + (1 : Int32)) c1 _ hc2) rfl (lenOf pd32 rfl) (leb rfl) (leb rfl) (leb rfl) (leb rfl) ?_
 rintro _ _ ⟨rfl, rfl⟩
 show W31 l Z n0 (P31 r) 0 0 48 [vR 0,vU,vI v2,vI v3,vI v2] [.int c2.1] (Hb 0 c2.2)
 refine xP (L' := [vR 0,vU,vI c2.1,vI v3,vI v2]) (D31 31) (leb rfl) rfl (xC (D31 32) rfl ?_)
 rcases ite_e h with ⟨hc3, h⟩ | ⟨hc3, h⟩
 ·
  refine xM (D31 33) (XT.i0_ge_f hc3) (xB (-1) (D31 34) rfl ?_)
  cases h
  exact xK (D31 35) rfl (leb rfl) (leb rfl) ⟨rfl, rfl⟩
 ·
  refine xL (pc' := 55) (D31 33) (XT.i0_ge_t hc3) (by decide) rfl (xA (D31 36) rfl (xC (D31 37) rfl (xH (D31 38) rfl (xB 3 (D31 39) rfl (xB 2 (D31 40) rfl ?_)))))
  obtain ⟨c4, hc4, h⟩ := bd h
  refine xF (i := 0) (y := y40) (as := [.int v3, .int v2, .int (3 : Int32), .int (2 : Int32)]) (S := []) (D31 41) (m277 hw) (m279 hw) (m1 hw) (m278 hw) (m280 hw) (m2 hw) hy40 rfl (ok40 hw v3 v2 (3 : Int32) (2 : Int32) c2.2 _ hc4) rfl (lenOf pd40 rfl) (leb rfl) (leb rfl) (leb rfl) (leb rfl) ?_
  rintro _ _ ⟨rfl, rfl⟩
  show W31 l Z n0 (P31 r) 0 0 64 [vR 0,vU,vI c2.1,vI v3,vI v2] [.int c4.1] (Hb 0 c4.2)
  rcases ite_e h with ⟨hc5, h⟩ | ⟨hc5, h⟩
  ·
   refine xM (D31 42) (XT.i0_ne_f hc5) (xB (-1) (D31 43) rfl ?_)
   cases h
   exact xK (D31 44) rfl (leb rfl) (leb rfl) ⟨rfl, rfl⟩
  ·
   refine xL (pc' := 69) (D31 42) (XT.i0_ne_t hc5) (by decide) rfl (xA (D31 45) rfl (xB 2 (D31 46) rfl (xB 3 (D31 47) rfl ?_)))
   obtain ⟨c6, hc6, h⟩ := bd h
   refine xF (i := 0) (y := y39) (as := [.int (2 : Int32), .int (3 : Int32)]) (S := []) (D31 48) (m273 hw) (m275 hw) (m1 hw) (m274 hw) (m276 hw) (m2 hw) hy39 rfl (ok39 hw (2 : Int32) (3 : Int32) c4.2 _ hc6) rfl (lenOf pd39 rfl) (leb rfl) (leb rfl) (leb rfl) (leb rfl) ?_
   rintro _ _ ⟨rfl, rfl⟩
   show W31 l Z n0 (P31 r) 0 0 75 [vR 0,vU,vI c2.1,vI v3,vI v2] [] (Hb 0 c6)
   refine xC (D31 49) rfl ?_
   cases h
   exact xK (D31 50) rfl (leb rfl) (leb rfl) ⟨rfl, rfl⟩
def f_evalExpr (n : Nat) (p1 : Int32) (s : St) : Option (Int32 × St) :=
 (f_evalSum n p1 s).bind fun c1 =>
 if c1.1 < 0 then
  some ((-1 : Int32), c1.2)
 else
  (f_kindAt c1.1 c1.2).bind fun c3 =>
  if c3 = (24 : Int32) then
   f_evalExpr_32 n c1.1 c3 c1.2
  else
   if c3 = (25 : Int32) then
    f_evalExpr_32 n c1.1 c3 c1.2
   else
    some (c1.1, c1.2)
theorem ok31 (hw : HW a0 Z) (n : Nat) (p1 : Int32) (s : St) (r : Int32 × St) (h : f_evalExpr n p1 s = some r) : CS l Z CN lay y31 prog_1_method_49_code 5 (some FieldType.int) R31 0 [.ref 0, .int p1] (Hb 0 s) (P31 r) := by
 refine CS.of_wp pn_cls (leb rfl) fun n0 => ?_
 show W31 l Z n0 (P31 r) 0 0 0 [vR 0,vI p1,vU,vU,vU] [] (Hb 0 s)
 unfold f_evalExpr at h
 refine xA (D31 0) rfl (xC (D31 1) rfl ?_)
 obtain ⟨c1, hc1, h⟩ := bd h
 refine xF (i := 0) (y := y32) (as := [.int p1]) (S := []) (D31 2) (m245 hw) (m247 hw) (m1 hw) (m246 hw) (m248 hw) (m2 hw) hy32 rfl (ok32 hw n p1 s _ hc1) rfl (lenOf pd32 rfl) (leb rfl) (leb rfl) (leb rfl) (leb rfl) ?_
 rintro _ _ ⟨rfl, rfl⟩
 show W31 l Z n0 (P31 r) 0 0 5 [vR 0,vI p1,vU,vU,vU] [.int c1.1] (Hb 0 c1.2)
 refine xP (L' := [vR 0,vI p1,vI c1.1,vU,vU]) (D31 3) (leb rfl) rfl (xC (D31 4) rfl ?_)
 rcases ite_e h with ⟨hc2, h⟩ | ⟨hc2, h⟩
 ·
  refine xM (D31 5) (XT.i0_ge_f hc2) (xB (-1) (D31 6) rfl ?_)
  cases h
  exact xK (D31 7) rfl (leb rfl) (leb rfl) ⟨rfl, rfl⟩
 ·
  refine xL (pc' := 12) (D31 5) (XT.i0_ge_t hc2) (by decide) rfl (xA (D31 8) rfl (xC (D31 9) rfl ?_))
  obtain ⟨c3, hc3, h⟩ := bd h
  refine xF (i := 0) (y := y9) (as := [.int c1.1]) (S := []) (D31 10) (m138 hw) (m140 hw) (m1 hw) (m139 hw) (m141 hw) (m2 hw) hy9 rfl (ok9 hw c1.1 c1.2 _ hc3) rfl (lenOf pd9 rfl) (leb rfl) (leb rfl) (leb rfl) (leb rfl) ?_
  rintro _ _ ⟨rfl, rfl⟩
  show W31 l Z n0 (P31 r) 0 0 17 [vR 0,vI p1,vI c1.1,vU,vU] [.int c3] (Hb 0 c1.2)
  refine xP (L' := [vR 0,vI p1,vI c1.1,vI c3,vU]) (D31 11) (leb rfl) rfl (xC (D31 12) rfl (xG 24 (D31 13) rfl ?_))
  rcases ite_e h with ⟨hc4, h⟩ | ⟨hc4, h⟩
  ·
   exact xI (pc' := 32) (D31 14) (XT.ii_eq_t hc4) (by decide) rfl (xE (L' := [vR 0,vU,vI c1.1,vI c3,vU]) ⟨rfl, rfl, rfl, trivial⟩ (ok31_32 hw n0 n c1.1 c3 c1.2 _ h))
  ·
   refine xJ (D31 14) (XT.ii_eq_f hc4) (xC (D31 15) rfl (xG 25 (D31 16) rfl ?_))
   rcases ite_e h with ⟨hc5, h⟩ | ⟨hc5, h⟩
   ·
    exact xI (pc' := 32) (D31 17) (XT.ii_eq_t hc5) (by decide) rfl (xE (L' := [vR 0,vU,vI c1.1,vI c3,vU]) ⟨rfl, rfl, rfl, trivial⟩ (ok31_32 hw n0 n c1.1 c3 c1.2 _ h))
   ·
    refine xJ (D31 17) (XT.ii_eq_f hc5) (xC (D31 18) rfl ?_)
    cases h
    exact xK (D31 19) rfl (leb rfl) (leb rfl) ⟨rfl, rfl⟩
def D64 := dA k44 (0,.aload_n 0,1) [(1,.getfield 59,3),(4,.iload_n 1,1),(5,.bipush 63,2),(7,.iand,1),(8,.aload_n 0,1),(9,.getfield 92,3),(12,.iload_n 2,1),(13,.iaload,1),(14,.iastore,1),(15,.aload_n 0,1),(16,.getfield 62,3),(19,.iload_n 1,1),(20,.bipush 63,2),(22,.iand,1),(23,.aload_n 0,1),(24,.getfield 95,3),(27,.iload_n 2,1),(28,.iaload,1),(29,.iastore,1),(30,.aload_n 0,1),(31,.getfield 65,3),(34,.iload_n 1,1),(35,.bipush 63,2),(37,.iand,1),(38,.aload_n 0,1),(39,.getfield 98,3),(42,.iload_n 2,1),(43,.iaload,1),(44,.iastore,1),(45,.return_,1)] (by decide +kernel)
abbrev y64 : MethodName := ⟨"FatPointerC", "writeCell", "(II)V"⟩
theorem hy64 : y64.cls ≠ "java/lang/invoke/MethodHandle" ∧ y64.cls ≠ "java/lang/invoke/VarHandle" := by decide
theorem pd64 : parseMethodDescriptor y64.desc = some ⟨[.int, .int], none⟩ := by decide +kernel
abbrev R64 : Room := { frames := 0, cells := 0, slots := 0, locals := 0 }
abbrev P64 (r : St) : Option Value → List OwnC → Prop := fun v H' => v = none ∧ H' = (Hb 0 r)
abbrev W64 (l : Launch) (Z : State) (n0 : Nat) := WP l Z CN lay "FatPointerC" "writeCell" prog_1_method_47_code 3 (none) R64 n0 0
def f_writeCell (p1 p2 : Int32) (s : St) : Option (St) :=
 (rd (gA s 27) p2).bind fun x1 =>
 (wrA s 16 (p1 &&& (63 : Int32)) x1).bind fun s2 =>
 (rd (gA s2 28) p2).bind fun x3 =>
 (wrA s2 17 (p1 &&& (63 : Int32)) x3).bind fun s4 =>
 (rd (gA s4 29) p2).bind fun x5 =>
 (wrA s4 18 (p1 &&& (63 : Int32)) x5).bind fun s6 =>
 some s6
theorem ok64 (hw : HW a0 Z) (p1 p2 : Int32) (s r : St) (h : f_writeCell p1 p2 s = some r) : CS l Z CN lay y64 prog_1_method_47_code 3 (none) R64 0 [.ref 0, .int p1, .int p2] (Hb 0 s) (P64 r) := by
 refine CS.of_wp pn_cls (leb rfl) fun n0 => ?_
 show W64 l Z n0 (P64 r) 0 0 0 [vR 0,vI p1,vI p2] [] (Hb 0 s)
 unfold f_writeCell at h
 refine xA (D64 0) rfl (xD (i := 0) (j := 30) (D64 1) (m43 hw) rfl rfl rfl (xC (D64 2) rfl (xG 63 (D64 3) rfl (xW (D64 4) (xA (D64 5) rfl (xD (i := 0) (j := 46) (D64 6) (m65 hw) rfl rfl rfl (xC (D64 7) rfl ?_)))))))
 obtain ⟨x1, hx1, h⟩ := bd h
 refine xN (i := 28) (D64 8) rfl hx1 ?_
 obtain ⟨s2, hs2, h⟩ := bd h
 obtain ⟨ys2, gs2, es2⟩ := wrA_e hs2
 refine xU (i := 17) (xs := gA s 16) (H' := (Hb 0 s2)) (D64 9) rfl (leb rfl) gs2 (by subst es2; rfl) (xA (D64 10) rfl (xD (i := 0) (j := 31) (D64 11) (m45 hw) rfl rfl rfl (xC (D64 12) rfl (xG 63 (D64 13) rfl (xW (D64 14) (xA (D64 15) rfl (xD (i := 0) (j := 47) (D64 16) (m67 hw) rfl rfl rfl (xC (D64 17) rfl ?_))))))))
 obtain ⟨x3, hx3, h⟩ := bd h
 refine xN (i := 29) (D64 18) rfl hx3 ?_
 obtain ⟨s4, hs4, h⟩ := bd h
 obtain ⟨ys4, gs4, es4⟩ := wrA_e hs4
 refine xU (i := 18) (xs := gA s2 17) (H' := (Hb 0 s4)) (D64 19) rfl (leb rfl) gs4 (by subst es4; rfl) (xA (D64 20) rfl (xD (i := 0) (j := 32) (D64 21) (m47 hw) rfl rfl rfl (xC (D64 22) rfl (xG 63 (D64 23) rfl (xW (D64 24) (xA (D64 25) rfl (xD (i := 0) (j := 48) (D64 26) (m69 hw) rfl rfl rfl (xC (D64 27) rfl ?_))))))))
 obtain ⟨x5, hx5, h⟩ := bd h
 refine xN (i := 30) (D64 28) rfl hx5 ?_
 obtain ⟨s6, hs6, h⟩ := bd h
 obtain ⟨ys6, gs6, es6⟩ := wrA_e hs6
 refine xU (i := 19) (xs := gA s4 18) (H' := (Hb 0 s6)) (D64 29) rfl (leb rfl) gs6 (by subst es6; rfl) ?_
 cases h
 exact xS (D64 30) rfl (leb rfl) (leb rfl) ⟨rfl, rfl⟩
def D62 := dA k55 (0,.aload_n 0,1) [(1,.aload_n 0,1),(2,.iload_n 1,1),(3,.invokevirtual 199,3),(6,.iconst 0,1),(7,.invokevirtual 266,3),(10,.aload_n 0,1),(11,.getfield 92,3),(14,.iconst 0,1),(15,.iaload,1),(16,.istore_n 2,1),(17,.aload_n 0,1),(18,.getfield 95,3),(21,.iconst 0,1),(22,.iaload,1),(23,.istore_n 3,1),(24,.aload_n 0,1),(25,.getfield 98,3),(28,.iconst 0,1),(29,.iaload,1),(30,.istore 4,2),(32,.aload_n 0,1),(33,.iload_n 1,1),(34,.iconst 2,1),(35,.iadd,1),(36,.iconst 0,1),(37,.invokevirtual 289,3),(40,.aload_n 0,1),(41,.getfield 92,3),(44,.iconst 0,1),(45,.iaload,1),(46,.istore 5,2),(48,.aload_n 0,1),(49,.getfield 95,3),(52,.iconst 0,1),(53,.iaload,1),(54,.istore 6,2),(56,.aload_n 0,1),(57,.iload_n 1,1),(58,.iconst 5,1),(59,.iadd,1),(60,.invokevirtual 326,3),(63,.istore 7,2),(65,.iload 7,2),(67,.ifCond .ge 5,3),(70,.iconst (-1),1),(71,.ireturn,1),(72,.aload_n 0,1),(73,.iload_n 2,1),(74,.iload_n 3,1),(75,.iload 4,2),(77,.iload 5,2),(79,.iload 6,2),(81,.iload_n 1,1),(82,.iconst 1,1),(83,.iadd,1),(84,.invokevirtual 285,3),(87,.istore 8,2),(89,.iload 8,2),(91,.ifCond .ge 5,3),(94,.iconst (-1),1),(95,.ireturn,1),(96,.aload_n 0,1),(97,.iload 8,2),(99,.iconst 2,1),(100,.invokevirtual 332,3),(103,.iload 7,2),(105,.iconst 1,1),(106,.iadd,1),(107,.ireturn,1)] (by decide +kernel)
abbrev y62 : MethodName := ⟨"FatPointerC", "execIndexStore", "(I)I"⟩
theorem hy62 : y62.cls ≠ "java/lang/invoke/MethodHandle" ∧ y62.cls ≠ "java/lang/invoke/VarHandle" := by decide
theorem pd62 : parseMethodDescriptor y62.desc = some ⟨[.int], some .int⟩ := by decide +kernel
abbrev R62 : Room := { frames := 8, cells := 0, slots := 0, locals := 126 }
abbrev P62 (r : Int32 × St) : Option Value → List OwnC → Prop := fun v H' => v = some (.int r.1) ∧ H' = (Hb 0 r.2)
abbrev W62 (l : Launch) (Z : State) (n0 : Nat) := WP l Z CN lay "FatPointerC" "execIndexStore" prog_1_method_58_code 9 (some FieldType.int) R62 n0 0
def f_execIndexStore (n : Nat) (p1 : Int32) (s : St) : Option (Int32 × St) :=
 (f_valAt p1 s).bind fun c1 =>
 (f_loadVar c1 (0 : Int32) s).bind fun c2 =>
 (rd (gA c2 27) (0 : Int32)).bind fun x3 =>
 (rd (gA c2 28) (0 : Int32)).bind fun x4 =>
 (rd (gA c2 29) (0 : Int32)).bind fun x5 =>
 (f_loadAtom (p1 + (2 : Int32)) (0 : Int32) c2).bind fun c6 =>
 (rd (gA c6 27) (0 : Int32)).bind fun x7 =>
 (rd (gA c6 28) (0 : Int32)).bind fun x8 =>
 (f_evalExpr n (p1 + (5 : Int32)) c6).bind fun c9 =>
 if c9.1 < 0 then
  some ((-1 : Int32), c9.2)
 else
  (f_check x3 x4 x5 x7 x8 (p1 + (1 : Int32)) c9.2).bind fun c11 =>
  if c11.1 < 0 then
   some ((-1 : Int32), c11.2)
  else
   (f_writeCell c11.1 (2 : Int32) c11.2).bind fun c13 =>
   some (c9.1 + (1 : Int32), c13)
theorem ok62 (hw : HW a0 Z) (n : Nat) (p1 : Int32) (s : St) (r : Int32 × St) (h : f_execIndexStore n p1 s = some r) : CS l Z CN lay y62 prog_1_method_58_code 9 (some FieldType.int) R62 0 [.ref 0, .int p1] (Hb 0 s) (P62 r) := by
 refine CS.of_wp pn_cls (leb rfl) fun n0 => ?_
 show W62 l Z n0 (P62 r) 0 0 0 [vR 0,vI p1,vU,vU,vU,vU,vU,vU,vU] [] (Hb 0 s)
 unfold f_execIndexStore at h
 refine xA (D62 0) rfl (xA (D62 1) rfl (xC (D62 2) rfl ?_))
 obtain ⟨c1, hc1, h⟩ := bd h
 refine xF (i := 0) (y := y10) (as := [.int p1]) (S := [.ref 0]) (D62 3) (m142 hw) (m144 hw) (m1 hw) (m143 hw) (m145 hw) (m2 hw) hy10 rfl (ok10 hw p1 s _ hc1) rfl (lenOf pd10 rfl) (leb rfl) (leb rfl) (leb rfl) (leb rfl) ?_
 rintro _ _ ⟨rfl, rfl⟩
 show W62 l Z n0 (P62 r) 0 0 6 [vR 0,vI p1,vU,vU,vU,vU,vU,vU,vU] [.int c1, .ref 0] (Hb 0 s)
 refine xB 0 (D62 4) rfl ?_
 obtain ⟨c2, hc2, h⟩ := bd h
 refine xF (i := 0) (y := y35) (as := [.int c1, oN]) (S := []) (D62 5) (m257 hw) (m259 hw) (m1 hw) (m258 hw) (m260 hw) (m2 hw) hy35 rfl (ok35 hw c1 (0 : Int32) s _ hc2) rfl (lenOf pd35 rfl) (leb rfl) (leb rfl) (leb rfl) (leb rfl) ?_
 rintro _ _ ⟨rfl, rfl⟩
 show W62 l Z n0 (P62 r) 0 0 10 [vR 0,vI p1,vU,vU,vU,vU,vU,vU,vU] [] (Hb 0 c2)
 refine xA (D62 6) rfl (xD (i := 0) (j := 46) (D62 7) (m65 hw) rfl rfl rfl (xB 0 (D62 8) rfl ?_))
 obtain ⟨x3, hx3, h⟩ := bd h
 refine xN (i := 28) (D62 9) rfl hx3 (xP (L' := [vR 0,vI p1,vI x3,vU,vU,vU,vU,vU,vU]) (D62 10) (leb rfl) rfl (xA (D62 11) rfl (xD (i := 0) (j := 47) (D62 12) (m67 hw) rfl rfl rfl (xB 0 (D62 13) rfl ?_))))
 obtain ⟨x4, hx4, h⟩ := bd h
 refine xN (i := 29) (D62 14) rfl hx4 (xP (L' := [vR 0,vI p1,vI x3,vI x4,vU,vU,vU,vU,vU]) (D62 15) (leb rfl) rfl (xA (D62 16) rfl (xD (i := 0) (j := 48) (D62 17) (m69 hw) rfl rfl rfl (xB 0 (D62 18) rfl ?_))))
 obtain ⟨x5, hx5, h⟩ := bd h
 refine xN (i := 30) (D62 19) rfl hx5 (xR (L' := [vR 0,vI p1,vI x3,vI x4,vI x5,vU,vU,vU,vU]) (D62 20) (leb rfl) rfl (xA (D62 21) rfl (xC (D62 22) rfl (xB 2 (D62 23) rfl (xO (D62 24) (xB 0 (D62 25) rfl ?_))))))
 obtain ⟨c6, hc6, h⟩ := bd h
 refine xF (i := 0) (y := y63) (as := [.int (p1 + (2 : Int32)), oN]) (S := []) (D62 26) (m376 hw) (m378 hw) (m1 hw) (m377 hw) (m379 hw) (m2 hw) hy63 rfl (ok63 hw (p1 + (2 : Int32)) (0 : Int32) c2 _ hc6) rfl (lenOf pd63 rfl) (leb rfl) (leb rfl) (leb rfl) (leb rfl) ?_
 rintro _ _ ⟨rfl, rfl⟩
 show W62 l Z n0 (P62 r) 0 0 40 [vR 0,vI p1,vI x3,vI x4,vI x5,vU,vU,vU,vU] [] (Hb 0 c6)
 refine xA (D62 27) rfl (xD (i := 0) (j := 46) (D62 28) (m65 hw) rfl rfl rfl (xB 0 (D62 29) rfl ?_))
 obtain ⟨x7, hx7, h⟩ := bd h
 refine xN (i := 28) (D62 30) rfl hx7 (xR (L' := [vR 0,vI p1,vI x3,vI x4,vI x5,vI x7,vU,vU,vU]) (D62 31) (leb rfl) rfl (xA (D62 32) rfl (xD (i := 0) (j := 47) (D62 33) (m67 hw) rfl rfl rfl (xB 0 (D62 34) rfl ?_))))
 obtain ⟨x8, hx8, h⟩ := bd h
 refine xN (i := 29) (D62 35) rfl hx8 (xR (L' := [vR 0,vI p1,vI x3,vI x4,vI x5,vI x7,vI x8,vU,vU]) (D62 36) (leb rfl) rfl (xA (D62 37) rfl (xC (D62 38) rfl (xB 5 (D62 39) rfl (xO (D62 40) ?_)))))
 obtain ⟨c9, hc9, h⟩ := bd h
 refine xF (i := 0) (y := y31) (as := [.int (p1 + (5 : Int32))]) (S := []) (D62 41) (m241 hw) (m243 hw) (m1 hw) (m242 hw) (m244 hw) (m2 hw) hy31 rfl (ok31 hw n (p1 + (5 : Int32)) c6 _ hc9) rfl (lenOf pd31 rfl) (leb rfl) (leb rfl) (leb rfl) (leb rfl) ?_
 rintro _ _ ⟨rfl, rfl⟩
 show W62 l Z n0 (P62 r) 0 0 63 [vR 0,vI p1,vI x3,vI x4,vI x5,vI x7,vI x8,vU,vU] [.int c9.1] (Hb 0 c9.2)
 refine xR (L' := [vR 0,vI p1,vI x3,vI x4,vI x5,vI x7,vI x8,vI c9.1,vU]) (D62 42) (leb rfl) rfl (xH (D62 43) rfl ?_)
 rcases ite_e h with ⟨hc10, h⟩ | ⟨hc10, h⟩
 ·
  refine xM (D62 44) (XT.i0_ge_f hc10) (xB (-1) (D62 45) rfl ?_)
  cases h
  exact xK (D62 46) rfl (leb rfl) (leb rfl) ⟨rfl, rfl⟩
 ·
  refine xL (pc' := 72) (D62 44) (XT.i0_ge_t hc10) (by decide) rfl (xA (D62 47) rfl (xC (D62 48) rfl (xC (D62 49) rfl (xH (D62 50) rfl (xH (D62 51) rfl (xH (D62 52) rfl (xC (D62 53) rfl (xB 1 (D62 54) rfl (xO (D62 55) ?_)))))))))
  obtain ⟨c11, hc11, h⟩ := bd h
  refine xF (i := 0) (y := y54) (as := [.int x3, .int x4, .int x5, .int x7, .int x8, .int (p1 + (1 : Int32))]) (S := []) (D62 56) (m340 hw) (m342 hw) (m1 hw) (m341 hw) (m343 hw) (m2 hw) hy54 rfl (ok54 hw x3 x4 x5 x7 x8 (p1 + (1 : Int32)) c9.2 _ hc11) rfl (lenOf pd54 rfl) (leb rfl) (leb rfl) (leb rfl) (leb rfl) ?_
  rintro _ _ ⟨rfl, rfl⟩
  show W62 l Z n0 (P62 r) 0 0 87 [vR 0,vI p1,vI x3,vI x4,vI x5,vI x7,vI x8,vI c9.1,vU] [.int c11.1] (Hb 0 c11.2)
  refine xR (L' := [vR 0,vI p1,vI x3,vI x4,vI x5,vI x7,vI x8,vI c9.1,vI c11.1]) (D62 57) (leb rfl) rfl (xH (D62 58) rfl ?_)
  rcases ite_e h with ⟨hc12, h⟩ | ⟨hc12, h⟩
  ·
   refine xM (D62 59) (XT.i0_ge_f hc12) (xB (-1) (D62 60) rfl ?_)
   cases h
   exact xK (D62 61) rfl (leb rfl) (leb rfl) ⟨rfl, rfl⟩
  ·
   refine xL (pc' := 96) (D62 59) (XT.i0_ge_t hc12) (by decide) rfl (xA (D62 62) rfl (xH (D62 63) rfl (xB 2 (D62 64) rfl ?_)))
   obtain ⟨c13, hc13, h⟩ := bd h
   refine xF (i := 0) (y := y64) (as := [.int c11.1, .int (2 : Int32)]) (S := []) (D62 65) (m380 hw) (m382 hw) (m1 hw) (m381 hw) (m383 hw) (m2 hw) hy64 rfl (ok64 hw c11.1 (2 : Int32) c11.2 _ hc13) rfl (lenOf pd64 rfl) (leb rfl) (leb rfl) (leb rfl) (leb rfl) ?_
   rintro _ _ ⟨rfl, rfl⟩
   show W62 l Z n0 (P62 r) 0 0 103 [vR 0,vI p1,vI x3,vI x4,vI x5,vI x7,vI x8,vI c9.1,vI c11.1] [] (Hb 0 c13)
   refine xH (D62 66) rfl (xB 1 (D62 67) rfl (xO (D62 68) ?_))
   cases h
   exact xK (D62 69) rfl (leb rfl) (leb rfl) ⟨rfl, rfl⟩
def D51 := dA k42 (0,.aload_n 0,1) [(1,.getfield 68,3),(4,.aload_n 0,1),(5,.iload_n 1,1),(6,.invokevirtual 256,3),(9,.iaload,1),(10,.bipush 63,2),(12,.iand,1),(13,.istore 5,2),(15,.aload_n 0,1),(16,.getfield 59,3),(19,.iload 5,2),(21,.iload_n 2,1),(22,.iastore,1),(23,.aload_n 0,1),(24,.getfield 62,3),(27,.iload 5,2),(29,.iload_n 3,1),(30,.iastore,1),(31,.aload_n 0,1),(32,.getfield 65,3),(35,.iload 5,2),(37,.iload 4,2),(39,.iastore,1),(40,.return_,1)] (by decide +kernel)
abbrev y51 : MethodName := ⟨"FatPointerC", "storeVar", "(IIII)V"⟩
theorem hy51 : y51.cls ≠ "java/lang/invoke/MethodHandle" ∧ y51.cls ≠ "java/lang/invoke/VarHandle" := by decide
theorem pd51 : parseMethodDescriptor y51.desc = some ⟨[.int, .int, .int, .int], none⟩ := by decide +kernel
abbrev R51 : Room := { frames := 1, cells := 0, slots := 0, locals := 16 }
abbrev P51 (r : St) : Option Value → List OwnC → Prop := fun v H' => v = none ∧ H' = (Hb 0 r)
abbrev W51 (l : Launch) (Z : State) (n0 : Nat) := WP l Z CN lay "FatPointerC" "storeVar" prog_1_method_45_code 6 (none) R51 n0 0
def f_storeVar (p1 p2 p3 p4 : Int32) (s : St) : Option (St) :=
 (f_objOf p1 s).bind fun c1 =>
 (rd (gA s 19) c1).bind fun x2 =>
 lt (x2 &&& (63 : Int32)) fun x3 =>
 (wrA s 16 x3 p2).bind fun s4 =>
 (wrA s4 17 x3 p3).bind fun s5 =>
 (wrA s5 18 x3 p4).bind fun s6 =>
 some s6
theorem ok51 (hw : HW a0 Z) (p1 p2 p3 p4 : Int32) (s r : St) (h : f_storeVar p1 p2 p3 p4 s = some r) : CS l Z CN lay y51 prog_1_method_45_code 6 (none) R51 0 [.ref 0, .int p1, .int p2, .int p3, .int p4] (Hb 0 s) (P51 r) := by
 refine CS.of_wp pn_cls (leb rfl) fun n0 => ?_
 show W51 l Z n0 (P51 r) 0 0 0 [vR 0,vI p1,vI p2,vI p3,vI p4,vU] [] (Hb 0 s)
 unfold f_storeVar at h
 refine xA (D51 0) rfl (xD (i := 0) (j := 33) (D51 1) (m49 hw) rfl rfl rfl (xA (D51 2) rfl (xC (D51 3) rfl ?_)))
 obtain ⟨c1, hc1, h⟩ := bd h
 refine xF (i := 0) (y := y36) (as := [.int p1]) (S := [.ref 20]) (D51 4) (m261 hw) (m263 hw) (m1 hw) (m262 hw) (m264 hw) (m2 hw) hy36 rfl (ok36 hw p1 s _ hc1) rfl (lenOf pd36 rfl) (leb rfl) (leb rfl) (leb rfl) (leb rfl) ?_
 rintro _ _ ⟨rfl, rfl⟩
 show W51 l Z n0 (P51 r) 0 0 9 [vR 0,vI p1,vI p2,vI p3,vI p4,vU] [.int c1, .ref 20] (Hb 0 s)
 obtain ⟨x2, hx2, h⟩ := bd h
 refine xN (i := 20) (D51 5) rfl hx2 (xG 63 (D51 6) rfl (xW (D51 7) ?_))
 obtain ⟨x3, ex3, h⟩ := lt_e h
 refine xR (L' := [vR 0,vI p1,vI p2,vI p3,vI p4,vI x3]) (D51 8) (leb rfl) (by subst ex3; rfl) (xA (D51 9) rfl (xD (i := 0) (j := 30) (D51 10) (m43 hw) rfl rfl rfl (xH (D51 11) rfl (xC (D51 12) rfl ?_))))
 obtain ⟨s4, hs4, h⟩ := bd h
 obtain ⟨ys4, gs4, es4⟩ := wrA_e hs4
 refine xU (i := 17) (xs := gA s 16) (H' := (Hb 0 s4)) (D51 13) rfl (leb rfl) gs4 (by subst es4; rfl) (xA (D51 14) rfl (xD (i := 0) (j := 31) (D51 15) (m45 hw) rfl rfl rfl (xH (D51 16) rfl (xC (D51 17) rfl ?_))))
 obtain ⟨s5, hs5, h⟩ := bd h
 obtain ⟨ys5, gs5, es5⟩ := wrA_e hs5
 refine xU (i := 18) (xs := gA s4 17) (H' := (Hb 0 s5)) (D51 18) rfl (leb rfl) gs5 (by subst es5; rfl) (xA (D51 19) rfl (xD (i := 0) (j := 32) (D51 20) (m47 hw) rfl rfl rfl (xH (D51 21) rfl (xH (D51 22) rfl ?_))))
 obtain ⟨s6, hs6, h⟩ := bd h
 obtain ⟨ys6, gs6, es6⟩ := wrA_e hs6
 refine xU (i := 19) (xs := gA s5 18) (H' := (Hb 0 s6)) (D51 23) rfl (leb rfl) gs6 (by subst es6; rfl) ?_
 cases h
 exact xS (D51 24) rfl (leb rfl) (leb rfl) ⟨rfl, rfl⟩
def D30 := dA k54 (0,.aload_n 0,1) [(1,.iload_n 1,1),(2,.invokevirtual 199,3),(5,.istore_n 2,1),(6,.aload_n 0,1),(7,.iload_n 1,1),(8,.iconst 1,1),(9,.iadd,1),(10,.invokevirtual 192,3),(13,.bipush 15,2),(15,.if_icmp .ne 9,3),(18,.aload_n 0,1),(19,.iload_n 1,1),(20,.invokevirtual 323,3),(23,.ireturn,1),(24,.aload_n 0,1),(25,.iload_n 1,1),(26,.iconst 2,1),(27,.iadd,1),(28,.invokevirtual 192,3),(31,.iconst 3,1),(32,.if_icmp .ne 12,3),(35,.aload_n 0,1),(36,.iload_n 1,1),(37,.iconst 2,1),(38,.iadd,1),(39,.iload_n 2,1),(40,.invokevirtual 306,3),(44,.aload_n 0,1),(45,.iload_n 1,1),(46,.iconst 2,1),(47,.iadd,1),(48,.invokevirtual 326,3),(51,.istore_n 3,1),(52,.iload_n 3,1),(53,.ifCond .ge 5,3),(56,.iconst (-1),1),(57,.ireturn,1),(58,.aload_n 0,1),(59,.iload_n 2,1),(60,.aload_n 0,1),(61,.getfield 92,3),(64,.iconst 2,1),(65,.iaload,1),(66,.aload_n 0,1),(67,.getfield 95,3),(70,.iconst 2,1),(71,.iaload,1),(72,.aload_n 0,1),(73,.getfield 98,3),(76,.iconst 2,1),(77,.iaload,1),(78,.invokevirtual 329,3),(81,.iload_n 3,1),(82,.iconst 1,1),(83,.iadd,1),(84,.ireturn,1)] (by decide +kernel)
abbrev y30 : MethodName := ⟨"FatPointerC", "execVarStmt", "(I)I"⟩
theorem hy30 : y30.cls ≠ "java/lang/invoke/MethodHandle" ∧ y30.cls ≠ "java/lang/invoke/VarHandle" := by decide
theorem pd30 : parseMethodDescriptor y30.desc = some ⟨[.int], some .int⟩ := by decide +kernel
abbrev R30 : Room := { frames := 9, cells := 0, slots := 0, locals := 146 }
abbrev P30 (r : Int32 × St) : Option Value → List OwnC → Prop := fun v H' => v = some (.int r.1) ∧ H' = (Hb 0 r.2)
abbrev W30 (l : Launch) (Z : State) (n0 : Nat) := WP l Z CN lay "FatPointerC" "execVarStmt" prog_1_method_57_code 4 (some FieldType.int) R30 n0 0
def f_execVarStmt (n : Nat) (p1 : Int32) (s : St) : Option (Int32 × St) :=
 (f_valAt p1 s).bind fun c1 =>
 (f_kindAt (p1 + (1 : Int32)) s).bind fun c2 =>
 if c2 = (15 : Int32) then
  (f_execIndexStore n p1 s).bind fun c4 =>
  some (c4.1, c4.2)
 else
  (f_kindAt (p1 + (2 : Int32)) s).bind fun c5 =>
  if c5 = (3 : Int32) then
   none
  else
   (f_evalExpr n (p1 + (2 : Int32)) s).bind fun c7 =>
   if c7.1 < 0 then
    some ((-1 : Int32), c7.2)
   else
    (rd (gA c7.2 27) (2 : Int32)).bind fun x9 =>
    (rd (gA c7.2 28) (2 : Int32)).bind fun x10 =>
    (rd (gA c7.2 29) (2 : Int32)).bind fun x11 =>
    (f_storeVar c1 x9 x10 x11 c7.2).bind fun c12 =>
    some (c7.1 + (1 : Int32), c12)
theorem ok30 (hw : HW a0 Z) (n : Nat) (p1 : Int32) (s : St) (r : Int32 × St) (h : f_execVarStmt n p1 s = some r) : CS l Z CN lay y30 prog_1_method_57_code 4 (some FieldType.int) R30 0 [.ref 0, .int p1] (Hb 0 s) (P30 r) := by
 refine CS.of_wp pn_cls (leb rfl) fun n0 => ?_
 show W30 l Z n0 (P30 r) 0 0 0 [vR 0,vI p1,vU,vU] [] (Hb 0 s)
 unfold f_execVarStmt at h
 refine xA (D30 0) rfl (xC (D30 1) rfl ?_)
 obtain ⟨c1, hc1, h⟩ := bd h
 refine xF (i := 0) (y := y10) (as := [.int p1]) (S := []) (D30 2) (m142 hw) (m144 hw) (m1 hw) (m143 hw) (m145 hw) (m2 hw) hy10 rfl (ok10 hw p1 s _ hc1) rfl (lenOf pd10 rfl) (leb rfl) (leb rfl) (leb rfl) (leb rfl) ?_
 rintro _ _ ⟨rfl, rfl⟩
 show W30 l Z n0 (P30 r) 0 0 5 [vR 0,vI p1,vU,vU] [.int c1] (Hb 0 s)
 refine xP (L' := [vR 0,vI p1,vI c1,vU]) (D30 3) (leb rfl) rfl (xA (D30 4) rfl (xC (D30 5) rfl (xB 1 (D30 6) rfl (xO (D30 7) ?_))))
 obtain ⟨c2, hc2, h⟩ := bd h
 refine xF (i := 0) (y := y9) (as := [.int (p1 + (1 : Int32))]) (S := []) (D30 8) (m138 hw) (m140 hw) (m1 hw) (m139 hw) (m141 hw) (m2 hw) hy9 rfl (ok9 hw (p1 + (1 : Int32)) s _ hc2) rfl (lenOf pd9 rfl) (leb rfl) (leb rfl) (leb rfl) (leb rfl) ?_
 rintro _ _ ⟨rfl, rfl⟩
 show W30 l Z n0 (P30 r) 0 0 13 [vR 0,vI p1,vI c1,vU] [.int c2] (Hb 0 s)
 refine xG 15 (D30 9) rfl ?_
 rcases ite_e h with ⟨hc3, h⟩ | ⟨hc3, h⟩
 ·
  refine xJ (D30 10) (XT.ii_ne_f hc3) (xA (D30 11) rfl (xC (D30 12) rfl ?_))
  obtain ⟨c4, hc4, h⟩ := bd h
  refine xF (i := 0) (y := y62) (as := [.int p1]) (S := []) (D30 13) (m372 hw) (m374 hw) (m1 hw) (m373 hw) (m375 hw) (m2 hw) hy62 rfl (ok62 hw n p1 s _ hc4) rfl (lenOf pd62 rfl) (leb rfl) (leb rfl) (leb rfl) (leb rfl) ?_
  rintro _ _ ⟨rfl, rfl⟩
  show W30 l Z n0 (P30 r) 0 0 23 [vR 0,vI p1,vI c1,vU] [.int c4.1] (Hb 0 c4.2)
  cases h
  exact xK (D30 14) rfl (leb rfl) (leb rfl) ⟨rfl, rfl⟩
 ·
  refine xI (pc' := 24) (D30 10) (XT.ii_ne_t hc3) (by decide) rfl (xA (D30 15) rfl (xC (D30 16) rfl (xB 2 (D30 17) rfl (xO (D30 18) ?_))))
  obtain ⟨c5, hc5, h⟩ := bd h
  refine xF (i := 0) (y := y9) (as := [.int (p1 + (2 : Int32))]) (S := []) (D30 19) (m138 hw) (m140 hw) (m1 hw) (m139 hw) (m141 hw) (m2 hw) hy9 rfl (ok9 hw (p1 + (2 : Int32)) s _ hc5) rfl (lenOf pd9 rfl) (leb rfl) (leb rfl) (leb rfl) (leb rfl) ?_
  rintro _ _ ⟨rfl, rfl⟩
  show W30 l Z n0 (P30 r) 0 0 31 [vR 0,vI p1,vI c1,vU] [.int c5] (Hb 0 s)
  refine xB 3 (D30 20) rfl ?_
  rcases ite_e h with ⟨hc6, h⟩ | ⟨hc6, h⟩
  ·
   refine xJ (D30 21) (XT.ii_ne_f hc6) (xA (D30 22) rfl (xC (D30 23) rfl (xB 2 (D30 24) rfl (xO (D30 25) (xC (D30 26) rfl ?_)))))
   cases h
  ·
   refine xI (pc' := 44) (D30 21) (XT.ii_ne_t hc6) (by decide) rfl (xA (D30 28) rfl (xC (D30 29) rfl (xB 2 (D30 30) rfl (xO (D30 31) ?_))))
   obtain ⟨c7, hc7, h⟩ := bd h
   refine xF (i := 0) (y := y31) (as := [.int (p1 + (2 : Int32))]) (S := []) (D30 32) (m241 hw) (m243 hw) (m1 hw) (m242 hw) (m244 hw) (m2 hw) hy31 rfl (ok31 hw n (p1 + (2 : Int32)) s _ hc7) rfl (lenOf pd31 rfl) (leb rfl) (leb rfl) (leb rfl) (leb rfl) ?_
   rintro _ _ ⟨rfl, rfl⟩
   show W30 l Z n0 (P30 r) 0 0 51 [vR 0,vI p1,vI c1,vU] [.int c7.1] (Hb 0 c7.2)
   refine xP (L' := [vR 0,vI p1,vI c1,vI c7.1]) (D30 33) (leb rfl) rfl (xC (D30 34) rfl ?_)
   rcases ite_e h with ⟨hc8, h⟩ | ⟨hc8, h⟩
   ·
    refine xM (D30 35) (XT.i0_ge_f hc8) (xB (-1) (D30 36) rfl ?_)
    cases h
    exact xK (D30 37) rfl (leb rfl) (leb rfl) ⟨rfl, rfl⟩
   ·
    refine xL (pc' := 58) (D30 35) (XT.i0_ge_t hc8) (by decide) rfl (xA (D30 38) rfl (xC (D30 39) rfl (xA (D30 40) rfl (xD (i := 0) (j := 46) (D30 41) (m65 hw) rfl rfl rfl (xB 2 (D30 42) rfl ?_)))))
    obtain ⟨x9, hx9, h⟩ := bd h
    refine xN (i := 28) (D30 43) rfl hx9 (xA (D30 44) rfl (xD (i := 0) (j := 47) (D30 45) (m67 hw) rfl rfl rfl (xB 2 (D30 46) rfl ?_)))
    obtain ⟨x10, hx10, h⟩ := bd h
    refine xN (i := 29) (D30 47) rfl hx10 (xA (D30 48) rfl (xD (i := 0) (j := 48) (D30 49) (m69 hw) rfl rfl rfl (xB 2 (D30 50) rfl ?_)))
    obtain ⟨x11, hx11, h⟩ := bd h
    refine xN (i := 30) (D30 51) rfl hx11 ?_
    obtain ⟨c12, hc12, h⟩ := bd h
    refine xF (i := 0) (y := y51) (as := [.int c1, .int x9, .int x10, .int x11]) (S := []) (D30 52) (m328 hw) (m330 hw) (m1 hw) (m329 hw) (m331 hw) (m2 hw) hy51 rfl (ok51 hw c1 x9 x10 x11 c7.2 _ hc12) rfl (lenOf pd51 rfl) (leb rfl) (leb rfl) (leb rfl) (leb rfl) ?_
    rintro _ _ ⟨rfl, rfl⟩
    show W30 l Z n0 (P30 r) 0 0 81 [vR 0,vI p1,vI c1,vI c7.1] [] (Hb 0 c12)
    refine xC (D30 53) rfl (xB 1 (D30 54) rfl (xO (D30 55) ?_))
    cases h
    exact xK (D30 56) rfl (leb rfl) (leb rfl) ⟨rfl, rfl⟩
def D52 := dA k56 (0,.aload_n 0,1) [(1,.aload_n 0,1),(2,.iload_n 1,1),(3,.iconst 1,1),(4,.iadd,1),(5,.invokevirtual 199,3),(8,.iconst 0,1),(9,.invokevirtual 266,3),(12,.aload_n 0,1),(13,.getfield 92,3),(16,.iconst 0,1),(17,.iaload,1),(18,.istore_n 2,1),(19,.aload_n 0,1),(20,.getfield 95,3),(23,.iconst 0,1),(24,.iaload,1),(25,.istore_n 3,1),(26,.aload_n 0,1),(27,.getfield 98,3),(30,.iconst 0,1),(31,.iaload,1),(32,.istore 4,2),(34,.aload_n 0,1),(35,.iload_n 1,1),(36,.iconst 3,1),(37,.iadd,1),(38,.invokevirtual 326,3),(41,.istore 5,2),(43,.iload 5,2),(45,.ifCond .ge 5,3),(48,.iconst (-1),1),(49,.ireturn,1),(50,.aload_n 0,1),(51,.iload_n 2,1),(52,.iload_n 3,1),(53,.iload 4,2),(55,.iconst 0,1),(56,.iconst 0,1),(57,.iload_n 1,1),(58,.invokevirtual 285,3),(61,.istore 6,2),(63,.iload 6,2),(65,.ifCond .ge 5,3),(68,.iconst (-1),1),(69,.ireturn,1),(70,.aload_n 0,1),(71,.iload 6,2),(73,.iconst 2,1),(74,.invokevirtual 332,3),(77,.iload 5,2),(79,.iconst 1,1),(80,.iadd,1),(81,.ireturn,1)] (by decide +kernel)
abbrev y52 : MethodName := ⟨"FatPointerC", "execStarStore", "(I)I"⟩
theorem hy52 : y52.cls ≠ "java/lang/invoke/MethodHandle" ∧ y52.cls ≠ "java/lang/invoke/VarHandle" := by decide
theorem pd52 : parseMethodDescriptor y52.desc = some ⟨[.int], some .int⟩ := by decide +kernel
abbrev R52 : Room := { frames := 8, cells := 0, slots := 0, locals := 126 }
abbrev P52 (r : Int32 × St) : Option Value → List OwnC → Prop := fun v H' => v = some (.int r.1) ∧ H' = (Hb 0 r.2)
abbrev W52 (l : Launch) (Z : State) (n0 : Nat) := WP l Z CN lay "FatPointerC" "execStarStore" prog_1_method_59_code 7 (some FieldType.int) R52 n0 0
def f_execStarStore (n : Nat) (p1 : Int32) (s : St) : Option (Int32 × St) :=
 (f_valAt (p1 + (1 : Int32)) s).bind fun c1 =>
 (f_loadVar c1 (0 : Int32) s).bind fun c2 =>
 (rd (gA c2 27) (0 : Int32)).bind fun x3 =>
 (rd (gA c2 28) (0 : Int32)).bind fun x4 =>
 (rd (gA c2 29) (0 : Int32)).bind fun x5 =>
 (f_evalExpr n (p1 + (3 : Int32)) c2).bind fun c6 =>
 if c6.1 < 0 then
  some ((-1 : Int32), c6.2)
 else
  (f_check x3 x4 x5 (0 : Int32) (0 : Int32) p1 c6.2).bind fun c8 =>
  if c8.1 < 0 then
   some ((-1 : Int32), c8.2)
  else
   (f_writeCell c8.1 (2 : Int32) c8.2).bind fun c10 =>
   some (c6.1 + (1 : Int32), c10)
theorem ok52 (hw : HW a0 Z) (n : Nat) (p1 : Int32) (s : St) (r : Int32 × St) (h : f_execStarStore n p1 s = some r) : CS l Z CN lay y52 prog_1_method_59_code 7 (some FieldType.int) R52 0 [.ref 0, .int p1] (Hb 0 s) (P52 r) := by
 refine CS.of_wp pn_cls (leb rfl) fun n0 => ?_
 show W52 l Z n0 (P52 r) 0 0 0 [vR 0,vI p1,vU,vU,vU,vU,vU] [] (Hb 0 s)
 unfold f_execStarStore at h
 refine xA (D52 0) rfl (xA (D52 1) rfl (xC (D52 2) rfl (xB 1 (D52 3) rfl (xO (D52 4) ?_))))
 obtain ⟨c1, hc1, h⟩ := bd h
 refine xF (i := 0) (y := y10) (as := [.int (p1 + (1 : Int32))]) (S := [.ref 0]) (D52 5) (m142 hw) (m144 hw) (m1 hw) (m143 hw) (m145 hw) (m2 hw) hy10 rfl (ok10 hw (p1 + (1 : Int32)) s _ hc1) rfl (lenOf pd10 rfl) (leb rfl) (leb rfl) (leb rfl) (leb rfl) ?_
 rintro _ _ ⟨rfl, rfl⟩
 show W52 l Z n0 (P52 r) 0 0 8 [vR 0,vI p1,vU,vU,vU,vU,vU] [.int c1, .ref 0] (Hb 0 s)
 refine xB 0 (D52 6) rfl ?_
 obtain ⟨c2, hc2, h⟩ := bd h
 refine xF (i := 0) (y := y35) (as := [.int c1, oN]) (S := []) (D52 7) (m257 hw) (m259 hw) (m1 hw) (m258 hw) (m260 hw) (m2 hw) hy35 rfl (ok35 hw c1 (0 : Int32) s _ hc2) rfl (lenOf pd35 rfl) (leb rfl) (leb rfl) (leb rfl) (leb rfl) ?_
 rintro _ _ ⟨rfl, rfl⟩
 show W52 l Z n0 (P52 r) 0 0 12 [vR 0,vI p1,vU,vU,vU,vU,vU] [] (Hb 0 c2)
 refine xA (D52 8) rfl (xD (i := 0) (j := 46) (D52 9) (m65 hw) rfl rfl rfl (xB 0 (D52 10) rfl ?_))
 obtain ⟨x3, hx3, h⟩ := bd h
 refine xN (i := 28) (D52 11) rfl hx3 (xP (L' := [vR 0,vI p1,vI x3,vU,vU,vU,vU]) (D52 12) (leb rfl) rfl (xA (D52 13) rfl (xD (i := 0) (j := 47) (D52 14) (m67 hw) rfl rfl rfl (xB 0 (D52 15) rfl ?_))))
 obtain ⟨x4, hx4, h⟩ := bd h
 refine xN (i := 29) (D52 16) rfl hx4 (xP (L' := [vR 0,vI p1,vI x3,vI x4,vU,vU,vU]) (D52 17) (leb rfl) rfl (xA (D52 18) rfl (xD (i := 0) (j := 48) (D52 19) (m69 hw) rfl rfl rfl (xB 0 (D52 20) rfl ?_))))
 obtain ⟨x5, hx5, h⟩ := bd h
 refine xN (i := 30) (D52 21) rfl hx5 (xR (L' := [vR 0,vI p1,vI x3,vI x4,vI x5,vU,vU]) (D52 22) (leb rfl) rfl (xA (D52 23) rfl (xC (D52 24) rfl (xB 3 (D52 25) rfl (xO (D52 26) ?_)))))
 obtain ⟨c6, hc6, h⟩ := bd h
 refine xF (i := 0) (y := y31) (as := [.int (p1 + (3 : Int32))]) (S := []) (D52 27) (m241 hw) (m243 hw) (m1 hw) (m242 hw) (m244 hw) (m2 hw) hy31 rfl (ok31 hw n (p1 + (3 : Int32)) c2 _ hc6) rfl (lenOf pd31 rfl) (leb rfl) (leb rfl) (leb rfl) (leb rfl) ?_
 rintro _ _ ⟨rfl, rfl⟩
 show W52 l Z n0 (P52 r) 0 0 41 [vR 0,vI p1,vI x3,vI x4,vI x5,vU,vU] [.int c6.1] (Hb 0 c6.2)
 refine xR (L' := [vR 0,vI p1,vI x3,vI x4,vI x5,vI c6.1,vU]) (D52 28) (leb rfl) rfl (xH (D52 29) rfl ?_)
 rcases ite_e h with ⟨hc7, h⟩ | ⟨hc7, h⟩
 ·
  refine xM (D52 30) (XT.i0_ge_f hc7) (xB (-1) (D52 31) rfl ?_)
  cases h
  exact xK (D52 32) rfl (leb rfl) (leb rfl) ⟨rfl, rfl⟩
 ·
  refine xL (pc' := 50) (D52 30) (XT.i0_ge_t hc7) (by decide) rfl (xA (D52 33) rfl (xC (D52 34) rfl (xC (D52 35) rfl (xH (D52 36) rfl (xB 0 (D52 37) rfl (xB 0 (D52 38) rfl (xC (D52 39) rfl ?_)))))))
  obtain ⟨c8, hc8, h⟩ := bd h
  refine xF (i := 0) (y := y54) (as := [.int x3, .int x4, .int x5, oN, oN, .int p1]) (S := []) (D52 40) (m340 hw) (m342 hw) (m1 hw) (m341 hw) (m343 hw) (m2 hw) hy54 rfl (ok54 hw x3 x4 x5 (0 : Int32) (0 : Int32) p1 c6.2 _ hc8) rfl (lenOf pd54 rfl) (leb rfl) (leb rfl) (leb rfl) (leb rfl) ?_
  rintro _ _ ⟨rfl, rfl⟩
  show W52 l Z n0 (P52 r) 0 0 61 [vR 0,vI p1,vI x3,vI x4,vI x5,vI c6.1,vU] [.int c8.1] (Hb 0 c8.2)
  refine xR (L' := [vR 0,vI p1,vI x3,vI x4,vI x5,vI c6.1,vI c8.1]) (D52 41) (leb rfl) rfl (xH (D52 42) rfl ?_)
  rcases ite_e h with ⟨hc9, h⟩ | ⟨hc9, h⟩
  ·
   refine xM (D52 43) (XT.i0_ge_f hc9) (xB (-1) (D52 44) rfl ?_)
   cases h
   exact xK (D52 45) rfl (leb rfl) (leb rfl) ⟨rfl, rfl⟩
  ·
   refine xL (pc' := 70) (D52 43) (XT.i0_ge_t hc9) (by decide) rfl (xA (D52 46) rfl (xH (D52 47) rfl (xB 2 (D52 48) rfl ?_)))
   obtain ⟨c10, hc10, h⟩ := bd h
   refine xF (i := 0) (y := y64) (as := [.int c8.1, .int (2 : Int32)]) (S := []) (D52 49) (m380 hw) (m382 hw) (m1 hw) (m381 hw) (m383 hw) (m2 hw) hy64 rfl (ok64 hw c8.1 (2 : Int32) c8.2 _ hc10) rfl (lenOf pd64 rfl) (leb rfl) (leb rfl) (leb rfl) (leb rfl) ?_
   rintro _ _ ⟨rfl, rfl⟩
   show W52 l Z n0 (P52 r) 0 0 77 [vR 0,vI p1,vI x3,vI x4,vI x5,vI c6.1,vI c8.1] [] (Hb 0 c10)
   refine xH (D52 50) rfl (xB 1 (D52 51) rfl (xO (D52 52) ?_))
   cases h
   exact xK (D52 53) rfl (leb rfl) (leb rfl) ⟨rfl, rfl⟩
def D59 := dA k57 (0,.aload_n 0,1) [(1,.iload_n 1,1),(2,.iconst 1,1),(3,.iadd,1),(4,.invokevirtual 326,3),(7,.istore_n 2,1),(8,.iload_n 2,1),(9,.ifCond .ge 5,3),(12,.iconst (-1),1),(13,.ireturn,1),(14,.aload_n 0,1),(15,.getfield 92,3),(18,.iconst 2,1),(19,.iaload,1),(20,.ifCond .eq 11,3),(23,.aload_n 0,1),(24,.iconst 1,1),(25,.iload_n 1,1),(26,.invokevirtual 146,3),(29,.iconst (-1),1),(30,.ireturn,1),(31,.aload_n 0,1),(32,.getfield 177,3),(35,.bipush 16,2),(37,.if_icmp .lt 12,3),(40,.aload_n 0,1),(41,.bipush 6,2),(43,.iload_n 1,1),(44,.invokevirtual 146,3),(47,.iconst (-1),1),(48,.ireturn,1),(49,.aload_n 0,1),(50,.getfield 16,3),(53,.aload_n 0,1),(54,.getfield 177,3),(57,.aload_n 0,1),(58,.getfield 95,3),(61,.iconst 2,1),(62,.iaload,1),(63,.iastore,1),(64,.aload_n 0,1),(65,.dup,1),(66,.getfield 177,3),(69,.iconst 1,1),(70,.iadd,1),(71,.putfield 177,3),(74,.iload_n 2,1),(75,.iconst 1,1),(76,.iadd,1),(77,.ireturn,1)] (by decide +kernel)
abbrev y59 : MethodName := ⟨"FatPointerC", "execOut", "(I)I"⟩
theorem hy59 : y59.cls ≠ "java/lang/invoke/MethodHandle" ∧ y59.cls ≠ "java/lang/invoke/VarHandle" := by decide
theorem pd59 : parseMethodDescriptor y59.desc = some ⟨[.int], some .int⟩ := by decide +kernel
abbrev R59 : Room := { frames := 8, cells := 0, slots := 0, locals := 126 }
abbrev P59 (r : Int32 × St) : Option Value → List OwnC → Prop := fun v H' => v = some (.int r.1) ∧ H' = (Hb 0 r.2)
abbrev W59 (l : Launch) (Z : State) (n0 : Nat) := WP l Z CN lay "FatPointerC" "execOut" prog_1_method_60_code 3 (some FieldType.int) R59 n0 0
def f_execOut (n : Nat) (p1 : Int32) (s : St) : Option (Int32 × St) :=
 (f_evalExpr n (p1 + (1 : Int32)) s).bind fun c1 =>
 if c1.1 < 0 then
  some ((-1 : Int32), c1.2)
 else
  (rd (gA c1.2 27) (2 : Int32)).bind fun x3 =>
  if x3 = 0 then
   if (gI c1.2 10) < (16 : Int32) then
    (rd (gA c1.2 28) (2 : Int32)).bind fun x6 =>
    (wrA c1.2 2 (gI c1.2 10) x6).bind fun s7 =>
    lt (sI s7 10 ((gI s7 10) + (1 : Int32))) fun s8 =>
    some (c1.1 + (1 : Int32), s8)
   else
    (f_trap (6 : Int32) p1 c1.2).bind fun c9 =>
    some ((-1 : Int32), c9)
  else
   (f_trap (1 : Int32) p1 c1.2).bind fun c10 =>
   some ((-1 : Int32), c10)
theorem ok59 (hw : HW a0 Z) (n : Nat) (p1 : Int32) (s : St) (r : Int32 × St) (h : f_execOut n p1 s = some r) : CS l Z CN lay y59 prog_1_method_60_code 3 (some FieldType.int) R59 0 [.ref 0, .int p1] (Hb 0 s) (P59 r) := by
 refine CS.of_wp pn_cls (leb rfl) fun n0 => ?_
 show W59 l Z n0 (P59 r) 0 0 0 [vR 0,vI p1,vU] [] (Hb 0 s)
 unfold f_execOut at h
 refine xA (D59 0) rfl (xC (D59 1) rfl (xB 1 (D59 2) rfl (xO (D59 3) ?_)))
 obtain ⟨c1, hc1, h⟩ := bd h
 refine xF (i := 0) (y := y31) (as := [.int (p1 + (1 : Int32))]) (S := []) (D59 4) (m241 hw) (m243 hw) (m1 hw) (m242 hw) (m244 hw) (m2 hw) hy31 rfl (ok31 hw n (p1 + (1 : Int32)) s _ hc1) rfl (lenOf pd31 rfl) (leb rfl) (leb rfl) (leb rfl) (leb rfl) ?_
 rintro _ _ ⟨rfl, rfl⟩
 show W59 l Z n0 (P59 r) 0 0 7 [vR 0,vI p1,vU] [.int c1.1] (Hb 0 c1.2)
 refine xP (L' := [vR 0,vI p1,vI c1.1]) (D59 5) (leb rfl) rfl (xC (D59 6) rfl ?_)
 rcases ite_e h with ⟨hc2, h⟩ | ⟨hc2, h⟩
 ·
  refine xM (D59 7) (XT.i0_ge_f hc2) (xB (-1) (D59 8) rfl ?_)
  cases h
  exact xK (D59 9) rfl (leb rfl) (leb rfl) ⟨rfl, rfl⟩
 ·
  refine xL (pc' := 14) (D59 7) (XT.i0_ge_t hc2) (by decide) rfl (xA (D59 10) rfl (xD (i := 0) (j := 46) (D59 11) (m65 hw) rfl rfl rfl (xB 2 (D59 12) rfl ?_)))
  obtain ⟨x3, hx3, h⟩ := bd h
  refine xN (i := 28) (D59 13) rfl hx3 ?_
  rcases ite_e h with ⟨hc4, h⟩ | ⟨hc4, h⟩
  ·
   refine xL (pc' := 31) (D59 14) (XT.i0_eq_t hc4) (by decide) rfl (xA (D59 21) rfl (xD (i := 0) (j := 12) (D59 22) (m97 hw) rfl rfl rfl (xG 16 (D59 23) rfl ?_)))
   rcases ite_e h with ⟨hc5, h⟩ | ⟨hc5, h⟩
   ·
    refine xI (pc' := 49) (D59 24) (XT.ii_lt_t hc5) (by decide) rfl (xA (D59 31) rfl (xD (i := 0) (j := 13) (D59 32) (m14 hw) rfl rfl rfl (xA (D59 33) rfl (xD (i := 0) (j := 12) (D59 34) (m97 hw) rfl rfl rfl (xA (D59 35) rfl (xD (i := 0) (j := 47) (D59 36) (m67 hw) rfl rfl rfl (xB 2 (D59 37) rfl ?_)))))))
    obtain ⟨x6, hx6, h⟩ := bd h
    refine xN (i := 29) (D59 38) rfl hx6 ?_
    obtain ⟨s7, hs7, h⟩ := bd h
    obtain ⟨ys7, gs7, es7⟩ := wrA_e hs7
    refine xU (i := 3) (xs := gA c1.2 2) (H' := (Hb 0 s7)) (D59 39) rfl (leb rfl) gs7 (by subst es7; rfl) (xA (D59 40) rfl (yA (D59 41) rfl (xD (i := 0) (j := 12) (D59 42) (m97 hw) rfl rfl rfl (xB 1 (D59 43) rfl (xO (D59 44) ?_)))))
    obtain ⟨s8, es8, h⟩ := lt_e h
    refine xT (i := 0) (j := 12) (H' := (Hb 0 s8)) (D59 45) (m97 hw) (Or.inl (m98 hw)) (m1 hw) (hlay hw) rfl rfl rfl (leb rfl) (by subst es8; rfl) (xC (D59 46) rfl (xB 1 (D59 47) rfl (xO (D59 48) ?_)))
    cases h
    exact xK (D59 49) rfl (leb rfl) (leb rfl) ⟨rfl, rfl⟩
   ·
    refine xJ (D59 24) (XT.ii_lt_f hc5) (xA (D59 25) rfl (xG 6 (D59 26) rfl (xC (D59 27) rfl ?_)))
    obtain ⟨c9, hc9, h⟩ := bd h
    refine xF (i := 0) (y := y42) (as := [.int (6 : Int32), .int p1]) (S := []) (D59 28) (m285 hw) (m287 hw) (m1 hw) (m286 hw) (m288 hw) (m2 hw) hy42 rfl (ok42 hw (6 : Int32) p1 c1.2 _ hc9) rfl (lenOf pd42 rfl) (leb rfl) (leb rfl) (leb rfl) (leb rfl) ?_
    rintro _ _ ⟨rfl, rfl⟩
    show W59 l Z n0 (P59 r) 0 0 47 [vR 0,vI p1,vI c1.1] [] (Hb 0 c9)
    refine xB (-1) (D59 29) rfl ?_
    cases h
    exact xK (D59 30) rfl (leb rfl) (leb rfl) ⟨rfl, rfl⟩
  ·
   refine xM (D59 14) (XT.i0_eq_f hc4) (xA (D59 15) rfl (xB 1 (D59 16) rfl (xC (D59 17) rfl ?_)))
   obtain ⟨c10, hc10, h⟩ := bd h
   refine xF (i := 0) (y := y42) (as := [.int (1 : Int32), .int p1]) (S := []) (D59 18) (m285 hw) (m287 hw) (m1 hw) (m286 hw) (m288 hw) (m2 hw) hy42 rfl (ok42 hw (1 : Int32) p1 c1.2 _ hc10) rfl (lenOf pd42 rfl) (leb rfl) (leb rfl) (leb rfl) (leb rfl) ?_
   rintro _ _ ⟨rfl, rfl⟩
   show W59 l Z n0 (P59 r) 0 0 29 [vR 0,vI p1,vI c1.1] [] (Hb 0 c10)
   refine xB (-1) (D59 19) rfl ?_
   cases h
   exact xK (D59 20) rfl (leb rfl) (leb rfl) ⟨rfl, rfl⟩
def D61 := dA k62 (0,.aload_n 0,1) [(1,.getfield 131,3),(4,.iconst 1,1),(5,.isub,1),(6,.istore 4,2),(8,.iload 4,2),(10,.ifCond .ge 10,3),(13,.aload_n 0,1),(14,.iconst 0,1),(15,.putfield 143,3),(18,.iconst (-1),1),(19,.ireturn,1),(20,.aload_n 0,1),(21,.getfield 77,3),(24,.iload 4,2),(26,.iaload,1),(27,.iconst 3,1),(28,.iand,1),(29,.istore 5,2),(31,.iconst 0,1),(32,.istore 6,2),(34,.iload 6,2),(36,.aload_n 0,1),(37,.getfield 29,3),(40,.iload 5,2),(42,.iaload,1),(43,.if_icmp .ge 36,3),(46,.iload 6,2),(48,.bipush 8,2),(50,.if_icmp .ge 29,3),(53,.aload_n 0,1),(54,.getfield 74,3),(57,.aload_n 0,1),(58,.getfield 80,3),(61,.iload 4,2),(63,.iaload,1),(64,.iload 6,2),(66,.iadd,1),(67,.sipush 4095,3),(70,.iand,1),(71,.iconst 0,1),(72,.bastore,1),(73,.iinc 6 1,3),(76,.goto (-42),3),(79,.aload_n 0,1),(80,.aload_n 0,1),(81,.getfield 83,3),(84,.iload 4,2),(86,.iaload,1),(87,.putfield 134,3),(90,.aload_n 0,1),(91,.iload 4,2),(93,.putfield 131,3),(96,.iload 4,2),(98,.ifCond .ne 57,3),(101,.aload_n 0,1),(102,.iconst 0,1),(103,.putfield 150,3),(106,.aload_n 0,1),(107,.iload_n 1,1),(108,.iconst 1,1),(109,.if_icmp .ne 7,3),(112,.iconst 1,1),(113,.goto 4,3),(116,.iconst 0,1),(117,.putfield 168,3),(120,.aload_n 0,1),(121,.iload_n 2,1),(122,.putfield 171,3),(125,.aload_n 0,1),(126,.iload_n 1,1),(127,.iconst 1,1),(128,.if_icmp .ne 16,3),(131,.aload_n 0,1),(132,.getfield 71,3),(135,.iload_n 3,1),(136,.sipush 4095,3),(139,.iand,1),(140,.iaload,1),(141,.goto 4,3),(144,.iconst 0,1),(145,.putfield 174,3),(148,.aload_n 0,1),(149,.iconst 0,1),(150,.putfield 143,3),(153,.iconst (-1),1),(154,.ireturn,1),(155,.aload_n 0,1),(156,.getfield 89,3),(159,.iload 4,2),(161,.iaload,1),(162,.ifCond .lt 17,3),(165,.aload_n 0,1),(166,.aload_n 0,1),(167,.getfield 89,3),(170,.iload 4,2),(172,.iaload,1),(173,.iload_n 1,1),(174,.iload_n 2,1),(175,.iload_n 3,1),(176,.invokevirtual 329,3),(179,.aload_n 0,1),(180,.getfield 86,3),(183,.iload 4,2),(185,.iaload,1),(186,.ireturn,1)] (by decide +kernel)
abbrev y61 : MethodName := ⟨"FatPointerC", "doReturn", "(III)I"⟩
theorem hy61 : y61.cls ≠ "java/lang/invoke/MethodHandle" ∧ y61.cls ≠ "java/lang/invoke/VarHandle" := by decide
theorem pd61 : parseMethodDescriptor y61.desc = some ⟨[.int, .int, .int], some .int⟩ := by decide +kernel
abbrev R61 : Room := { frames := 2, cells := 0, slots := 0, locals := 33 }
abbrev P61 (r : Int32 × St) : Option Value → List OwnC → Prop := fun v H' => v = some (.int r.1) ∧ H' = (Hb 0 r.2)
abbrev W61 (l : Launch) (Z : State) (n0 : Nat) := WP l Z CN lay "FatPointerC" "doReturn" prog_1_method_66_code 7 (some FieldType.int) R61 n0 0
def f_doReturn_145 (n : Nat) (t0 : Int32) (s : St) : Option (Int32 × St) :=
 lt (sI s 9 t0) fun s1 =>
 lt (sI s1 18 (0 : Int32)) fun s2 =>
 some ((-1 : Int32), s2)
theorem ok61_145 (hw : HW a0 Z) (n0 n : Nat) (t0 : Int32) (s : St) (r : Int32 × St) (h : f_doReturn_145 n t0 s = some r) : W61 l Z n0 (P61 r) 0 0 145 [vR 0,vU,vU,vU,vU,vU,vU] [.int t0, .ref 0] (Hb 0 s) := by
 unfold f_doReturn_145 at h
 obtain ⟨s1, es1, h⟩ := lt_e h
 refine xT (i := 0) (j := 11) (H' := (Hb 0 s1)) (D61 81) (m95 hw) (Or.inl (m96 hw)) (m1 hw) (hlay hw) rfl rfl rfl (leb rfl) (by subst es1; rfl) (xA (D61 82) rfl (xB 0 (D61 83) rfl ?_))
 obtain ⟨s2, es2, h⟩ := lt_e h
 refine yD (i := 0) (j := 45) (H' := (Hb 0 s2)) (D61 84) (m226 hw) (Or.inl (m227 hw)) (m1 hw) (hlay hw) rfl rfl rfl (leb rfl) (by subst es2; rfl) (xB (-1) (D61 85) rfl ?_)
 cases h
 exact xK (D61 86) rfl (leb rfl) (leb rfl) ⟨rfl, rfl⟩
def f_doReturn_117 (n : Nat) (v1 v2 v3 t0 : Int32) (s : St) : Option (Int32 × St) :=
 lt (sI s 7 t0) fun s1 =>
 lt (sI s1 8 v2) fun s2 =>
 if v1 = (1 : Int32) then
  (rd (gA s2 20) (v3 &&& (4095 : Int32))).bind fun x4 =>
  f_doReturn_145 n x4 s2
 else
  f_doReturn_145 n (0 : Int32) s2
theorem ok61_117 (hw : HW a0 Z) (n0 n : Nat) (v1 v2 v3 t0 : Int32) (s : St) (r : Int32 × St) (h : f_doReturn_117 n v1 v2 v3 t0 s = some r) : W61 l Z n0 (P61 r) 0 0 117 [vR 0,vI v1,vI v2,vI v3,vU,vU,vU] [.int t0, .ref 0] (Hb 0 s) := by
 unfold f_doReturn_117 at h
 obtain ⟨s1, es1, h⟩ := lt_e h
 refine xT (i := 0) (j := 9) (H' := (Hb 0 s1)) (D61 65) (m91 hw) (Or.inl (m92 hw)) (m1 hw) (hlay hw) rfl rfl rfl (leb rfl) (by subst es1; rfl) (xA (D61 66) rfl (xC (D61 67) rfl ?_))
 obtain ⟨s2, es2, h⟩ := lt_e h
 refine xT (i := 0) (j := 10) (H' := (Hb 0 s2)) (D61 68) (m93 hw) (Or.inl (m94 hw)) (m1 hw) (hlay hw) rfl rfl rfl (leb rfl) (by subst es2; rfl) (xA (D61 69) rfl (xC (D61 70) rfl (xB 1 (D61 71) rfl ?_)))
 rcases ite_e h with ⟨hc3, h⟩ | ⟨hc3, h⟩
 ·
  refine xJ (D61 72) (XT.ii_ne_f hc3) (xA (D61 73) rfl (xD (i := 0) (j := 34) (D61 74) (m51 hw) rfl rfl rfl (xC (D61 75) rfl (yB 4095 (D61 76) rfl (xW (D61 77) ?_)))))
  obtain ⟨x4, hx4, h⟩ := bd h
  exact xN (i := 21) (D61 78) rfl hx4 (xV (pc' := 145) (D61 79) (by decide) rfl (xE (L' := [vR 0,vU,vU,vU,vU,vU,vU]) ⟨rfl, trivial⟩ (ok61_145 hw n0 n x4 s2 _ h)))
 ·
  exact xI (pc' := 144) (D61 72) (XT.ii_ne_t hc3) (by decide) rfl (xB 0 (D61 80) rfl (xE (L' := [vR 0,vU,vU,vU,vU,vU,vU]) ⟨rfl, trivial⟩ (ok61_145 hw n0 n (0 : Int32) s2 _ h)))
def f_doReturn_179 (n : Nat) (v4 : Int32) (s : St) : Option (Int32 × St) :=
 (rd (gA s 25) v4).bind fun x1 =>
 some (x1, s)
theorem ok61_179 (hw : HW a0 Z) (n0 n : Nat) (v4 : Int32) (s : St) (r : Int32 × St) (h : f_doReturn_179 n v4 s = some r) : W61 l Z n0 (P61 r) 0 0 179 [vR 0,vU,vU,vU,vI v4,vU,vU] [] (Hb 0 s) := by
 unfold f_doReturn_179 at h
 refine xA (D61 101) rfl (xD (i := 0) (j := 40) (D61 102) (m61 hw) rfl rfl rfl (xH (D61 103) rfl ?_))
 obtain ⟨x1, hx1, h⟩ := bd h
 refine xN (i := 26) (D61 104) rfl hx1 ?_
 cases h
 exact xK (D61 105) rfl (leb rfl) (leb rfl) ⟨rfl, rfl⟩
def f_doReturn_79 (n : Nat) (v1 v2 v3 v4 : Int32) (s : St) : Option (Int32 × St) :=
 (rd (gA s 24) v4).bind fun x1 =>
 lt (sI s 16 x1) fun s2 =>
 lt (sI s2 15 v4) fun s3 =>
 if v4 = 0 then
  lt (sI s3 4 (0 : Int32)) fun s5 =>
  if v1 = (1 : Int32) then
   f_doReturn_117 n v1 v2 v3 (1 : Int32) s5
  else
   f_doReturn_117 n v1 v2 v3 (0 : Int32) s5
 else
  (rd (gA s3 26) v4).bind fun x7 =>
  if x7 < 0 then
   f_doReturn_179 n v4 s3
  else
   (rd (gA s3 26) v4).bind fun x9 =>
   (f_storeVar x9 v1 v2 v3 s3).bind fun c10 =>
   f_doReturn_179 n v4 c10
theorem ok61_79 (hw : HW a0 Z) (n0 n : Nat) (v1 v2 v3 v4 : Int32) (s : St) (r : Int32 × St) (h : f_doReturn_79 n v1 v2 v3 v4 s = some r) : W61 l Z n0 (P61 r) 0 0 79 [vR 0,vI v1,vI v2,vI v3,vI v4,vU,vU] [] (Hb 0 s) := by
 unfold f_doReturn_79 at h
 refine xA (D61 44) rfl (xA (D61 45) rfl (xD (i := 0) (j := 39) (D61 46) (m59 hw) rfl rfl rfl (xH (D61 47) rfl ?_)))
 obtain ⟨x1, hx1, h⟩ := bd h
 refine xN (i := 25) (D61 48) rfl hx1 ?_
 obtain ⟨s2, es2, h⟩ := lt_e h
 refine xT (i := 0) (j := 43) (H' := (Hb 0 s2)) (D61 49) (m220 hw) (Or.inl (m221 hw)) (m1 hw) (hlay hw) rfl rfl rfl (leb rfl) (by subst es2; rfl) (xA (D61 50) rfl (xH (D61 51) rfl ?_))
 obtain ⟨s3, es3, h⟩ := lt_e h
 refine xT (i := 0) (j := 42) (H' := (Hb 0 s3)) (D61 52) (m218 hw) (Or.inl (m219 hw)) (m1 hw) (hlay hw) rfl rfl rfl (leb rfl) (by subst es3; rfl) (xH (D61 53) rfl ?_)
 rcases ite_e h with ⟨hc4, h⟩ | ⟨hc4, h⟩
 ·
  refine xM (D61 54) (XT.i0_ne_f hc4) (xA (D61 55) rfl (xB 0 (D61 56) rfl ?_))
  obtain ⟨s5, es5, h⟩ := lt_e h
  refine xT (i := 0) (j := 6) (H' := (Hb 0 s5)) (D61 57) (m85 hw) (Or.inl (m86 hw)) (m1 hw) (hlay hw) rfl rfl rfl (leb rfl) (by subst es5; rfl) (xA (D61 58) rfl (xC (D61 59) rfl (xB 1 (D61 60) rfl ?_)))
  rcases ite_e h with ⟨hc6, h⟩ | ⟨hc6, h⟩
  ·
   exact xJ (D61 61) (XT.ii_ne_f hc6) (xB 1 (D61 62) rfl (xV (pc' := 117) (D61 63) (by decide) rfl (xE (L' := [vR 0,vI v1,vI v2,vI v3,vU,vU,vU]) ⟨rfl, rfl, rfl, rfl, trivial⟩ (ok61_117 hw n0 n v1 v2 v3 (1 : Int32) s5 _ h))))
  ·
   exact xI (pc' := 116) (D61 61) (XT.ii_ne_t hc6) (by decide) rfl (xB 0 (D61 64) rfl (xE (L' := [vR 0,vI v1,vI v2,vI v3,vU,vU,vU]) ⟨rfl, rfl, rfl, rfl, trivial⟩ (ok61_117 hw n0 n v1 v2 v3 (0 : Int32) s5 _ h)))
 ·
  refine xL (pc' := 155) (D61 54) (XT.i0_ne_t hc4) (by decide) rfl (xA (D61 87) rfl (xD (i := 0) (j := 41) (D61 88) (m63 hw) rfl rfl rfl (xH (D61 89) rfl ?_)))
  obtain ⟨x7, hx7, h⟩ := bd h
  refine xN (i := 27) (D61 90) rfl hx7 ?_
  rcases ite_e h with ⟨hc8, h⟩ | ⟨hc8, h⟩
  ·
   exact xL (pc' := 179) (D61 91) (XT.i0_lt_t hc8) (by decide) rfl (xE (L' := [vR 0,vU,vU,vU,vI v4,vU,vU]) ⟨rfl, rfl, trivial⟩ (ok61_179 hw n0 n v4 s3 _ h))
  ·
   refine xM (D61 91) (XT.i0_lt_f hc8) (xA (D61 92) rfl (xA (D61 93) rfl (xD (i := 0) (j := 41) (D61 94) (m63 hw) rfl rfl rfl (xH (D61 95) rfl ?_))))
   obtain ⟨x9, hx9, h⟩ := bd h
   refine xN (i := 27) (D61 96) rfl hx9 (xC (D61 97) rfl (xC (D61 98) rfl (xC (D61 99) rfl ?_)))
   obtain ⟨c10, hc10, h⟩ := bd h
   refine xF (i := 0) (y := y51) (as := [.int x9, .int v1, .int v2, .int v3]) (S := []) (D61 100) (m328 hw) (m330 hw) (m1 hw) (m329 hw) (m331 hw) (m2 hw) hy51 rfl (ok51 hw x9 v1 v2 v3 s3 _ hc10) rfl (lenOf pd51 rfl) (leb rfl) (leb rfl) (leb rfl) (leb rfl) ?_
   rintro _ _ ⟨rfl, rfl⟩
   show W61 l Z n0 (P61 r) 0 0 179 [vR 0,vI v1,vI v2,vI v3,vI v4,vU,vU] [] (Hb 0 c10)
   exact xE (L' := [vR 0,vU,vU,vU,vI v4,vU,vU]) ⟨rfl, rfl, trivial⟩ (ok61_179 hw n0 n v4 c10 _ h)
def g_doReturn_34 (k34 : KT9) (n : Nat) (v1 v2 v3 v4 v5 v6 : Int32) (s : St) : Option (Int32 × St) :=
 (rd (gA s 6) v5).bind fun x1 =>
 if v6 < x1 then
  if v6 < (8 : Int32) then
   (rd (gA s 23) v4).bind fun x4 =>
   (wrA s 21 ((x4 + v6) &&& (4095 : Int32)) (0 : Int32)).bind fun s5 =>
   lt (v6 + (1 : Int32)) fun x6 =>
   k34 v1 v2 v3 v4 v5 x6 s5
  else
   f_doReturn_79 n v1 v2 v3 v4 s
 else
  f_doReturn_79 n v1 v2 v3 v4 s
abbrev HK61_34 (l : Launch) (Z : State) (n0 : Nat) (k34 : KT9) : Prop := ∀ (v1 v2 v3 v4 v5 v6 : Int32) (s : St) (r : Int32 × St), k34 v1 v2 v3 v4 v5 v6 s = some r → W61 l Z n0 (P61 r) 0 0 34 [vR 0,vI v1,vI v2,vI v3,vI v4,vI v5,vI v6] [] (Hb 0 s)
theorem okg61_34 (hw : HW a0 Z) (n0 : Nat) (k34 : KT9) (hk34 : HK61_34 l Z n0 k34) (n : Nat) (v1 v2 v3 v4 v5 v6 : Int32) (s : St) (r : Int32 × St) (h : g_doReturn_34 k34 n v1 v2 v3 v4 v5 v6 s = some r) : W61 l Z n0 (P61 r) 0 0 34 [vR 0,vI v1,vI v2,vI v3,vI v4,vI v5,vI v6] [] (Hb 0 s) := by
 unfold g_doReturn_34 at h
 refine xH (D61 21) rfl (xA (D61 22) rfl (xD (i := 0) (j := 17) (D61 23) (m23 hw) rfl rfl rfl (xH (D61 24) rfl ?_)))
 obtain ⟨x1, hx1, h⟩ := bd h
 refine xN (i := 7) (D61 25) rfl hx1 ?_
 rcases ite_e h with ⟨hc2, h⟩ | ⟨hc2, h⟩
 ·
  refine xJ (D61 26) (XT.ii_ge_f hc2) (xH (D61 27) rfl (xG 8 (D61 28) rfl ?_))
  rcases ite_e h with ⟨hc3, h⟩ | ⟨hc3, h⟩
  ·
   refine xJ (D61 29) (XT.ii_ge_f hc3) (xA (D61 30) rfl (xD (i := 0) (j := 35) (D61 31) (m53 hw) rfl rfl rfl (xA (D61 32) rfl (xD (i := 0) (j := 38) (D61 33) (m57 hw) rfl rfl rfl (xH (D61 34) rfl ?_)))))
   obtain ⟨x4, hx4, h⟩ := bd h
   refine xN (i := 24) (D61 35) rfl hx4 (xH (D61 36) rfl (xO (D61 37) (yB 4095 (D61 38) rfl (xW (D61 39) (xB 0 (D61 40) rfl ?_)))))
   obtain ⟨s5, hs5, h⟩ := bd h
   obtain ⟨ys5, gs5, es5⟩ := wrA_e hs5
   refine yS (i := 22) (xs := gA s 21) (H' := (Hb 0 s5)) (D61 41) rfl (leb rfl) gs5 (by subst es5; rfl) ?_
   obtain ⟨x6, ex6, h⟩ := lt_e h
   exact yC (L' := [vR 0,vI v1,vI v2,vI v3,vI v4,vI v5,vI x6]) (1 : Int32) (D61 42) rfl rfl (by subst ex6; rfl) (xV (pc' := 34) (D61 43) (by decide) rfl (xE (L' := [vR 0,vI v1,vI v2,vI v3,vI v4,vI v5,vI x6]) ⟨rfl, rfl, rfl, rfl, rfl, rfl, rfl, trivial⟩ (hk34 v1 v2 v3 v4 v5 x6 s5 _ h)))
  ·
   exact xI (pc' := 79) (D61 29) (XT.ii_ge_t hc3) (by decide) rfl (xE (L' := [vR 0,vI v1,vI v2,vI v3,vI v4,vU,vU]) ⟨rfl, rfl, rfl, rfl, rfl, trivial⟩ (ok61_79 hw n0 n v1 v2 v3 v4 s _ h))
 ·
  exact xI (pc' := 79) (D61 26) (XT.ii_ge_t hc2) (by decide) rfl (xE (L' := [vR 0,vI v1,vI v2,vI v3,vI v4,vU,vU]) ⟨rfl, rfl, rfl, rfl, rfl, trivial⟩ (ok61_79 hw n0 n v1 v2 v3 v4 s _ h))
def f_doReturn_34 : Nat → Int32 → Int32 → Int32 → Int32 → Int32 → Int32 → St → Option (Int32 × St)
 | 0 => fun _ _ _ _ _ _ _ => none
 | n + 1 => g_doReturn_34 (f_doReturn_34 n) n
theorem ok61_34 (hw : HW a0 Z) (n0 : Nat) : ∀ (n : Nat) (v1 v2 v3 v4 v5 v6 : Int32) (s : St) (r : Int32 × St), f_doReturn_34 n v1 v2 v3 v4 v5 v6 s = some r → W61 l Z n0 (P61 r) 0 0 34 [vR 0,vI v1,vI v2,vI v3,vI v4,vI v5,vI v6] [] (Hb 0 s)
 | 0, v1, v2, v3, v4, v5, v6, s, r, h => nomatch (show none = some r from h)
 | n + 1, v1, v2, v3, v4, v5, v6, s, r, h => okg61_34 hw n0 _ (ok61_34 hw n0 n) n v1 v2 v3 v4 v5 v6 s r h
def f_doReturn (n : Nat) (p1 p2 p3 : Int32) (s : St) : Option (Int32 × St) :=
 lt ((gI s 15) - (1 : Int32)) fun x1 =>
 if x1 < 0 then
  lt (sI s 18 (0 : Int32)) fun s3 =>
  some ((-1 : Int32), s3)
 else
  (rd (gA s 22) x1).bind fun x4 =>
  lt (x4 &&& (3 : Int32)) fun x5 =>
  f_doReturn_34 n p1 p2 p3 x1 x5 (0 : Int32) s
theorem ok61 (hw : HW a0 Z) (n : Nat) (p1 p2 p3 : Int32) (s : St) (r : Int32 × St) (h : f_doReturn n p1 p2 p3 s = some r) : CS l Z CN lay y61 prog_1_method_66_code 7 (some FieldType.int) R61 0 [.ref 0, .int p1, .int p2, .int p3] (Hb 0 s) (P61 r) := by
 refine CS.of_wp pn_cls (leb rfl) fun n0 => ?_
 show W61 l Z n0 (P61 r) 0 0 0 [vR 0,vI p1,vI p2,vI p3,vU,vU,vU] [] (Hb 0 s)
 unfold f_doReturn at h
 refine xA (D61 0) rfl (xD (i := 0) (j := 42) (D61 1) (m218 hw) rfl rfl rfl (xB 1 (D61 2) rfl (yN (D61 3) ?_)))
 obtain ⟨x1, ex1, h⟩ := lt_e h
 refine xR (L' := [vR 0,vI p1,vI p2,vI p3,vI x1,vU,vU]) (D61 4) (leb rfl) (by subst ex1; rfl) (xH (D61 5) rfl ?_)
 rcases ite_e h with ⟨hc2, h⟩ | ⟨hc2, h⟩
 ·
  refine xM (D61 6) (XT.i0_ge_f hc2) (xA (D61 7) rfl (xB 0 (D61 8) rfl ?_))
  obtain ⟨s3, es3, h⟩ := lt_e h
  refine yD (i := 0) (j := 45) (H' := (Hb 0 s3)) (D61 9) (m226 hw) (Or.inl (m227 hw)) (m1 hw) (hlay hw) rfl rfl rfl (leb rfl) (by subst es3; rfl) (xB (-1) (D61 10) rfl ?_)
  cases h
  exact xK (D61 11) rfl (leb rfl) (leb rfl) ⟨rfl, rfl⟩
 ·
  refine xL (pc' := 20) (D61 6) (XT.i0_ge_t hc2) (by decide) rfl (xA (D61 12) rfl (xD (i := 0) (j := 37) (D61 13) (m55 hw) rfl rfl rfl (xH (D61 14) rfl ?_)))
  obtain ⟨x4, hx4, h⟩ := bd h
  refine xN (i := 23) (D61 15) rfl hx4 (xB 3 (D61 16) rfl (xW (D61 17) ?_))
  obtain ⟨x5, ex5, h⟩ := lt_e h
  exact xR (L' := [vR 0,vI p1,vI p2,vI p3,vI x1,vI x5,vU]) (D61 18) (leb rfl) (by subst ex5; rfl) (xB 0 (D61 19) rfl (xR (L' := [vR 0,vI p1,vI p2,vI p3,vI x1,vI x5,vI 0]) (D61 20) (leb rfl) rfl (xE (L' := [vR 0,vI p1,vI p2,vI p3,vI x1,vI x5,vI 0]) ⟨rfl, rfl, rfl, rfl, rfl, rfl, rfl, trivial⟩ (ok61_34 hw n0 n p1 p2 p3 x1 x5 (0 : Int32) s _ h))))
def D60 := dA k58 (0,.aload_n 0,1) [(1,.iload_n 1,1),(2,.iconst 1,1),(3,.iadd,1),(4,.invokevirtual 326,3),(7,.istore_n 2,1),(8,.iload_n 2,1),(9,.ifCond .ge 5,3),(12,.iconst (-1),1),(13,.ireturn,1),(14,.aload_n 0,1),(15,.aload_n 0,1),(16,.getfield 92,3),(19,.iconst 2,1),(20,.iaload,1),(21,.aload_n 0,1),(22,.getfield 95,3),(25,.iconst 2,1),(26,.iaload,1),(27,.aload_n 0,1),(28,.getfield 98,3),(31,.iconst 2,1),(32,.iaload,1),(33,.invokevirtual 335,3),(36,.ireturn,1)] (by decide +kernel)
abbrev y60 : MethodName := ⟨"FatPointerC", "execReturn", "(I)I"⟩
theorem hy60 : y60.cls ≠ "java/lang/invoke/MethodHandle" ∧ y60.cls ≠ "java/lang/invoke/VarHandle" := by decide
theorem pd60 : parseMethodDescriptor y60.desc = some ⟨[.int], some .int⟩ := by decide +kernel
abbrev R60 : Room := { frames := 8, cells := 0, slots := 0, locals := 126 }
abbrev P60 (r : Int32 × St) : Option Value → List OwnC → Prop := fun v H' => v = some (.int r.1) ∧ H' = (Hb 0 r.2)
abbrev W60 (l : Launch) (Z : State) (n0 : Nat) := WP l Z CN lay "FatPointerC" "execReturn" prog_1_method_61_code 3 (some FieldType.int) R60 n0 0
def f_execReturn (n : Nat) (p1 : Int32) (s : St) : Option (Int32 × St) :=
 (f_evalExpr n (p1 + (1 : Int32)) s).bind fun c1 =>
 if c1.1 < 0 then
  some ((-1 : Int32), c1.2)
 else
  (rd (gA c1.2 27) (2 : Int32)).bind fun x3 =>
  (rd (gA c1.2 28) (2 : Int32)).bind fun x4 =>
  (rd (gA c1.2 29) (2 : Int32)).bind fun x5 =>
  (f_doReturn n x3 x4 x5 c1.2).bind fun c6 =>
  some (c6.1, c6.2)
theorem ok60 (hw : HW a0 Z) (n : Nat) (p1 : Int32) (s : St) (r : Int32 × St) (h : f_execReturn n p1 s = some r) : CS l Z CN lay y60 prog_1_method_61_code 3 (some FieldType.int) R60 0 [.ref 0, .int p1] (Hb 0 s) (P60 r) := by
 refine CS.of_wp pn_cls (leb rfl) fun n0 => ?_
 show W60 l Z n0 (P60 r) 0 0 0 [vR 0,vI p1,vU] [] (Hb 0 s)
 unfold f_execReturn at h
 refine xA (D60 0) rfl (xC (D60 1) rfl (xB 1 (D60 2) rfl (xO (D60 3) ?_)))
 obtain ⟨c1, hc1, h⟩ := bd h
 refine xF (i := 0) (y := y31) (as := [.int (p1 + (1 : Int32))]) (S := []) (D60 4) (m241 hw) (m243 hw) (m1 hw) (m242 hw) (m244 hw) (m2 hw) hy31 rfl (ok31 hw n (p1 + (1 : Int32)) s _ hc1) rfl (lenOf pd31 rfl) (leb rfl) (leb rfl) (leb rfl) (leb rfl) ?_
 rintro _ _ ⟨rfl, rfl⟩
 show W60 l Z n0 (P60 r) 0 0 7 [vR 0,vI p1,vU] [.int c1.1] (Hb 0 c1.2)
 refine xP (L' := [vR 0,vI p1,vI c1.1]) (D60 5) (leb rfl) rfl (xC (D60 6) rfl ?_)
 rcases ite_e h with ⟨hc2, h⟩ | ⟨hc2, h⟩
 ·
  refine xM (D60 7) (XT.i0_ge_f hc2) (xB (-1) (D60 8) rfl ?_)
  cases h
  exact xK (D60 9) rfl (leb rfl) (leb rfl) ⟨rfl, rfl⟩
 ·
  refine xL (pc' := 14) (D60 7) (XT.i0_ge_t hc2) (by decide) rfl (xA (D60 10) rfl (xA (D60 11) rfl (xD (i := 0) (j := 46) (D60 12) (m65 hw) rfl rfl rfl (xB 2 (D60 13) rfl ?_))))
  obtain ⟨x3, hx3, h⟩ := bd h
  refine xN (i := 28) (D60 14) rfl hx3 (xA (D60 15) rfl (xD (i := 0) (j := 47) (D60 16) (m67 hw) rfl rfl rfl (xB 2 (D60 17) rfl ?_)))
  obtain ⟨x4, hx4, h⟩ := bd h
  refine xN (i := 29) (D60 18) rfl hx4 (xA (D60 19) rfl (xD (i := 0) (j := 48) (D60 20) (m69 hw) rfl rfl rfl (xB 2 (D60 21) rfl ?_)))
  obtain ⟨x5, hx5, h⟩ := bd h
  refine xN (i := 30) (D60 22) rfl hx5 ?_
  obtain ⟨c6, hc6, h⟩ := bd h
  refine xF (i := 0) (y := y61) (as := [.int x3, .int x4, .int x5]) (S := []) (D60 23) (m368 hw) (m370 hw) (m1 hw) (m369 hw) (m371 hw) (m2 hw) hy61 rfl (ok61 hw n x3 x4 x5 c1.2 _ hc6) rfl (lenOf pd61 rfl) (leb rfl) (leb rfl) (leb rfl) (leb rfl) ?_
  rintro _ _ ⟨rfl, rfl⟩
  show W60 l Z n0 (P60 r) 0 0 36 [vR 0,vI p1,vI c1.1] [.int c6.1] (Hb 0 c6.2)
  cases h
  exact xK (D60 24) rfl (leb rfl) (leb rfl) ⟨rfl, rfl⟩
def D56 := dA k35 (0,.aload_n 0,1) [(1,.getfield 140,3),(4,.ifCond .gt 12,3),(7,.aload_n 0,1),(8,.bipush 7,2),(10,.iload_n 1,1),(11,.invokevirtual 146,3),(14,.iconst 0,1),(15,.ireturn,1),(16,.aload_n 0,1),(17,.dup,1),(18,.getfield 140,3),(21,.iconst 1,1),(22,.isub,1),(23,.putfield 140,3),(26,.iconst 1,1),(27,.ireturn,1)] (by decide +kernel)
abbrev y56 : MethodName := ⟨"FatPointerC", "tick", "(I)Z"⟩
theorem hy56 : y56.cls ≠ "java/lang/invoke/MethodHandle" ∧ y56.cls ≠ "java/lang/invoke/VarHandle" := by decide
theorem pd56 : parseMethodDescriptor y56.desc = some ⟨[.int], some .boolean⟩ := by decide +kernel
abbrev R56 : Room := { frames := 1, cells := 0, slots := 0, locals := 14 }
abbrev P56 (r : Int32 × St) : Option Value → List OwnC → Prop := fun v H' => v = some (.int r.1) ∧ H' = (Hb 0 r.2)
abbrev W56 (l : Launch) (Z : State) (n0 : Nat) := WP l Z CN lay "FatPointerC" "tick" prog_1_method_38_code 2 (some FieldType.boolean) R56 n0 0
def f_tick (p1 : Int32) (s : St) : Option (Int32 × St) :=
 if 0 < (gI s 17) then
  lt (sI s 17 ((gI s 17) - (1 : Int32))) fun s2 =>
  some ((1 : Int32), s2)
 else
  (f_trap (7 : Int32) p1 s).bind fun c3 =>
  some ((0 : Int32), c3)
theorem ok56 (hw : HW a0 Z) (p1 : Int32) (s : St) (r : Int32 × St) (h : f_tick p1 s = some r) : CS l Z CN lay y56 prog_1_method_38_code 2 (some FieldType.boolean) R56 0 [.ref 0, .int p1] (Hb 0 s) (P56 r) := by
 refine CS.of_wp pn_cls (leb rfl) fun n0 => ?_
 show W56 l Z n0 (P56 r) 0 0 0 [vR 0,vI p1] [] (Hb 0 s)
 unfold f_tick at h
 refine xA (D56 0) rfl (xD (i := 0) (j := 44) (D56 1) (m224 hw) rfl rfl rfl ?_)
 rcases ite_e h with ⟨hc1, h⟩ | ⟨hc1, h⟩
 ·
  refine xL (pc' := 16) (D56 2) (XT.i0_gt_t hc1) (by decide) rfl (xA (D56 9) rfl (yA (D56 10) rfl (xD (i := 0) (j := 44) (D56 11) (m224 hw) rfl rfl rfl (xB 1 (D56 12) rfl (yN (D56 13) ?_)))))
  obtain ⟨s2, es2, h⟩ := lt_e h
  refine xT (i := 0) (j := 44) (H' := (Hb 0 s2)) (D56 14) (m224 hw) (Or.inl (m225 hw)) (m1 hw) (hlay hw) rfl rfl rfl (leb rfl) (by subst es2; rfl) (xB 1 (D56 15) rfl ?_)
  cases h
  exact xZ (D56 16) rfl (leb rfl) (leb rfl) ⟨rfl, rfl⟩
 ·
  refine xM (D56 2) (XT.i0_gt_f hc1) (xA (D56 3) rfl (xG 7 (D56 4) rfl (xC (D56 5) rfl ?_)))
  obtain ⟨c3, hc3, h⟩ := bd h
  refine xF (i := 0) (y := y42) (as := [.int (7 : Int32), .int p1]) (S := []) (D56 6) (m285 hw) (m287 hw) (m1 hw) (m286 hw) (m288 hw) (m2 hw) hy42 rfl (ok42 hw (7 : Int32) p1 s _ hc3) rfl (lenOf pd42 rfl) (leb rfl) (leb rfl) (leb rfl) (leb rfl) ?_
  rintro _ _ ⟨rfl, rfl⟩
  show W56 l Z n0 (P56 r) 0 0 14 [vR 0,vI p1] [] (Hb 0 c3)
  refine xB 0 (D56 7) rfl ?_
  cases h
  exact xZ (D56 8) rfl (leb rfl) (leb rfl) ⟨rfl, rfl⟩
def D55 := dA k59 (0,.iload_n 2,1) [(1,.ifCond .eq 13,3),(4,.aload_n 0,1),(5,.iload_n 1,1),(6,.invokevirtual 338,3),(9,.ifCond .ne 5,3),(12,.iconst (-1),1),(13,.ireturn,1),(14,.aload_n 0,1),(15,.iload_n 1,1),(16,.iconst 2,1),(17,.iadd,1),(18,.invokevirtual 326,3),(21,.istore_n 3,1),(22,.iload_n 3,1),(23,.ifCond .ge 5,3),(26,.iconst (-1),1),(27,.ireturn,1),(28,.aload_n 0,1),(29,.getfield 92,3),(32,.iconst 2,1),(33,.iaload,1),(34,.ifCond .eq 11,3),(37,.aload_n 0,1),(38,.iconst 1,1),(39,.iload_n 1,1),(40,.invokevirtual 146,3),(43,.iconst (-1),1),(44,.ireturn,1),(45,.aload_n 0,1),(46,.getfield 95,3),(49,.iconst 2,1),(50,.iaload,1),(51,.ifCond .eq 7,3),(54,.iload_n 3,1),(55,.iconst 2,1),(56,.iadd,1),(57,.ireturn,1),(58,.aload_n 0,1),(59,.getfield 50,3),(62,.iload_n 1,1),(63,.sipush 255,3),(66,.iand,1),(67,.iaload,1),(68,.iconst 1,1),(69,.iadd,1),(70,.ireturn,1)] (by decide +kernel)
abbrev y55 : MethodName := ⟨"FatPointerC", "execCond", "(IZ)I"⟩
theorem hy55 : y55.cls ≠ "java/lang/invoke/MethodHandle" ∧ y55.cls ≠ "java/lang/invoke/VarHandle" := by decide
theorem pd55 : parseMethodDescriptor y55.desc = some ⟨[.int, .boolean], some .int⟩ := by decide +kernel
abbrev R55 : Room := { frames := 8, cells := 0, slots := 0, locals := 126 }
abbrev P55 (r : Int32 × St) : Option Value → List OwnC → Prop := fun v H' => v = some (.int r.1) ∧ H' = (Hb 0 r.2)
abbrev W55 (l : Launch) (Z : State) (n0 : Nat) := WP l Z CN lay "FatPointerC" "execCond" prog_1_method_62_code 4 (some FieldType.int) R55 n0 0
def f_execCond_14 (n : Nat) (v1 : Int32) (s : St) : Option (Int32 × St) :=
 (f_evalExpr n (v1 + (2 : Int32)) s).bind fun c1 =>
 if c1.1 < 0 then
  some ((-1 : Int32), c1.2)
 else
  (rd (gA c1.2 27) (2 : Int32)).bind fun x3 =>
  if x3 = 0 then
   (rd (gA c1.2 28) (2 : Int32)).bind fun x5 =>
   if x5 = 0 then
    (rd (gA c1.2 13) (v1 &&& (255 : Int32))).bind fun x7 =>
    some (x7 + (1 : Int32), c1.2)
   else
    some (c1.1 + (2 : Int32), c1.2)
  else
   (f_trap (1 : Int32) v1 c1.2).bind fun c8 =>
   some ((-1 : Int32), c8)
theorem ok55_14 (hw : HW a0 Z) (n0 n : Nat) (v1 : Int32) (s : St) (r : Int32 × St) (h : f_execCond_14 n v1 s = some r) : W55 l Z n0 (P55 r) 0 0 14 [vR 0,vI v1,vU,vU] [] (Hb 0 s) := by
 unfold f_execCond_14 at h
 refine xA (D55 8) rfl (xC (D55 9) rfl (xB 2 (D55 10) rfl (xO (D55 11) ?_)))
 obtain ⟨c1, hc1, h⟩ := bd h
 refine xF (i := 0) (y := y31) (as := [.int (v1 + (2 : Int32))]) (S := []) (D55 12) (m241 hw) (m243 hw) (m1 hw) (m242 hw) (m244 hw) (m2 hw) hy31 rfl (ok31 hw n (v1 + (2 : Int32)) s _ hc1) rfl (lenOf pd31 rfl) (leb rfl) (leb rfl) (leb rfl) (leb rfl) ?_
 rintro _ _ ⟨rfl, rfl⟩
 show W55 l Z n0 (P55 r) 0 0 21 [vR 0,vI v1,vU,vU] [.int c1.1] (Hb 0 c1.2)
 refine xP (L' := [vR 0,vI v1,vU,vI c1.1]) (D55 13) (leb rfl) rfl (xC (D55 14) rfl ?_)
 rcases ite_e h with ⟨hc2, h⟩ | ⟨hc2, h⟩
 ·
  refine xM (D55 15) (XT.i0_ge_f hc2) (xB (-1) (D55 16) rfl ?_)
  cases h
  exact xK (D55 17) rfl (leb rfl) (leb rfl) ⟨rfl, rfl⟩
 ·
  refine xL (pc' := 28) (D55 15) (XT.i0_ge_t hc2) (by decide) rfl (xA (D55 18) rfl (xD (i := 0) (j := 46) (D55 19) (m65 hw) rfl rfl rfl (xB 2 (D55 20) rfl ?_)))
  obtain ⟨x3, hx3, h⟩ := bd h
  refine xN (i := 28) (D55 21) rfl hx3 ?_
  rcases ite_e h with ⟨hc4, h⟩ | ⟨hc4, h⟩
  ·
   refine xL (pc' := 45) (D55 22) (XT.i0_eq_t hc4) (by decide) rfl (xA (D55 29) rfl (xD (i := 0) (j := 47) (D55 30) (m67 hw) rfl rfl rfl (xB 2 (D55 31) rfl ?_)))
   obtain ⟨x5, hx5, h⟩ := bd h
   refine xN (i := 29) (D55 32) rfl hx5 ?_
   rcases ite_e h with ⟨hc6, h⟩ | ⟨hc6, h⟩
   ·
    refine xL (pc' := 58) (D55 33) (XT.i0_eq_t hc6) (by decide) rfl (xA (D55 38) rfl (xD (i := 0) (j := 24) (D55 39) (m37 hw) rfl rfl rfl (xC (D55 40) rfl (yB 255 (D55 41) rfl (xW (D55 42) ?_)))))
    obtain ⟨x7, hx7, h⟩ := bd h
    refine xN (i := 14) (D55 43) rfl hx7 (xB 1 (D55 44) rfl (xO (D55 45) ?_))
    cases h
    exact xK (D55 46) rfl (leb rfl) (leb rfl) ⟨rfl, rfl⟩
   ·
    refine xM (D55 33) (XT.i0_eq_f hc6) (xC (D55 34) rfl (xB 2 (D55 35) rfl (xO (D55 36) ?_)))
    cases h
    exact xK (D55 37) rfl (leb rfl) (leb rfl) ⟨rfl, rfl⟩
  ·
   refine xM (D55 22) (XT.i0_eq_f hc4) (xA (D55 23) rfl (xB 1 (D55 24) rfl (xC (D55 25) rfl ?_)))
   obtain ⟨c8, hc8, h⟩ := bd h
   refine xF (i := 0) (y := y42) (as := [.int (1 : Int32), .int v1]) (S := []) (D55 26) (m285 hw) (m287 hw) (m1 hw) (m286 hw) (m288 hw) (m2 hw) hy42 rfl (ok42 hw (1 : Int32) v1 c1.2 _ hc8) rfl (lenOf pd42 rfl) (leb rfl) (leb rfl) (leb rfl) (leb rfl) ?_
   rintro _ _ ⟨rfl, rfl⟩
   show W55 l Z n0 (P55 r) 0 0 43 [vR 0,vI v1,vU,vI c1.1] [] (Hb 0 c8)
   refine xB (-1) (D55 27) rfl ?_
   cases h
   exact xK (D55 28) rfl (leb rfl) (leb rfl) ⟨rfl, rfl⟩
def f_execCond (n : Nat) (p1 p2 : Int32) (s : St) : Option (Int32 × St) :=
 if p2 = 0 then
  f_execCond_14 n p1 s
 else
  (f_tick p1 s).bind fun c2 =>
  if c2.1 = 0 then
   some ((-1 : Int32), c2.2)
  else
   f_execCond_14 n p1 c2.2
theorem ok55 (hw : HW a0 Z) (n : Nat) (p1 p2 : Int32) (s : St) (r : Int32 × St) (h : f_execCond n p1 p2 s = some r) : CS l Z CN lay y55 prog_1_method_62_code 4 (some FieldType.int) R55 0 [.ref 0, .int p1, .int p2] (Hb 0 s) (P55 r) := by
 refine CS.of_wp pn_cls (leb rfl) fun n0 => ?_
 show W55 l Z n0 (P55 r) 0 0 0 [vR 0,vI p1,vI p2,vU] [] (Hb 0 s)
 unfold f_execCond at h
 refine xC (D55 0) rfl ?_
 rcases ite_e h with ⟨hc1, h⟩ | ⟨hc1, h⟩
 ·
  exact xL (pc' := 14) (D55 1) (XT.i0_eq_t hc1) (by decide) rfl (xE (L' := [vR 0,vI p1,vU,vU]) ⟨rfl, rfl, trivial⟩ (ok55_14 hw n0 n p1 s _ h))
 ·
  refine xM (D55 1) (XT.i0_eq_f hc1) (xA (D55 2) rfl (xC (D55 3) rfl ?_))
  obtain ⟨c2, hc2, h⟩ := bd h
  refine xF (i := 0) (y := y56) (as := [.int p1]) (S := []) (D55 4) (m348 hw) (m350 hw) (m1 hw) (m349 hw) (m351 hw) (m2 hw) hy56 rfl (ok56 hw p1 s _ hc2) rfl (lenOf pd56 rfl) (leb rfl) (leb rfl) (leb rfl) (leb rfl) ?_
  rintro _ _ ⟨rfl, rfl⟩
  show W55 l Z n0 (P55 r) 0 0 9 [vR 0,vI p1,vI p2,vU] [.int c2.1] (Hb 0 c2.2)
  rcases ite_e h with ⟨hc3, h⟩ | ⟨hc3, h⟩
  ·
   refine xM (D55 5) (XT.i0_ne_f hc3) (xB (-1) (D55 6) rfl ?_)
   cases h
   exact xK (D55 7) rfl (leb rfl) (leb rfl) ⟨rfl, rfl⟩
  ·
   exact xL (pc' := 14) (D55 5) (XT.i0_ne_t hc3) (by decide) rfl (xE (L' := [vR 0,vI p1,vU,vU]) ⟨rfl, rfl, trivial⟩ (ok55_14 hw n0 n p1 c2.2 _ h))
def D58 := dA k60 (0,.aload_n 0,1) [(1,.getfield 53,3),(4,.iload_n 1,1),(5,.sipush 255,3),(8,.iand,1),(9,.iaload,1),(10,.istore_n 2,1),(11,.iload_n 2,1),(12,.ifCond .ge 11,3),(15,.aload_n 0,1),(16,.iconst 0,1),(17,.iconst 0,1),(18,.iconst 0,1),(19,.invokevirtual 335,3),(22,.ireturn,1),(23,.aload_n 0,1),(24,.iload_n 2,1),(25,.invokevirtual 192,3),(28,.bipush 7,2),(30,.if_icmp .ne 5,3),(33,.iload_n 2,1),(34,.ireturn,1),(35,.iload_n 1,1),(36,.iconst 1,1),(37,.iadd,1),(38,.ireturn,1)] (by decide +kernel)
abbrev y58 : MethodName := ⟨"FatPointerC", "execRbrace", "(I)I"⟩
theorem hy58 : y58.cls ≠ "java/lang/invoke/MethodHandle" ∧ y58.cls ≠ "java/lang/invoke/VarHandle" := by decide
theorem pd58 : parseMethodDescriptor y58.desc = some ⟨[.int], some .int⟩ := by decide +kernel
abbrev R58 : Room := { frames := 3, cells := 0, slots := 0, locals := 51 }
abbrev P58 (r : Int32 × St) : Option Value → List OwnC → Prop := fun v H' => v = some (.int r.1) ∧ H' = (Hb 0 r.2)
abbrev W58 (l : Launch) (Z : State) (n0 : Nat) := WP l Z CN lay "FatPointerC" "execRbrace" prog_1_method_63_code 3 (some FieldType.int) R58 n0 0
def f_execRbrace (n : Nat) (p1 : Int32) (s : St) : Option (Int32 × St) :=
 (rd (gA s 14) (p1 &&& (255 : Int32))).bind fun x1 =>
 if x1 < 0 then
  (f_doReturn n (0 : Int32) (0 : Int32) (0 : Int32) s).bind fun c3 =>
  some (c3.1, c3.2)
 else
  (f_kindAt x1 s).bind fun c4 =>
  if c4 = (7 : Int32) then
   some (x1, s)
  else
   some (p1 + (1 : Int32), s)
theorem ok58 (hw : HW a0 Z) (n : Nat) (p1 : Int32) (s : St) (r : Int32 × St) (h : f_execRbrace n p1 s = some r) : CS l Z CN lay y58 prog_1_method_63_code 3 (some FieldType.int) R58 0 [.ref 0, .int p1] (Hb 0 s) (P58 r) := by
 refine CS.of_wp pn_cls (leb rfl) fun n0 => ?_
 show W58 l Z n0 (P58 r) 0 0 0 [vR 0,vI p1,vU] [] (Hb 0 s)
 unfold f_execRbrace at h
 refine xA (D58 0) rfl (xD (i := 0) (j := 25) (D58 1) (m39 hw) rfl rfl rfl (xC (D58 2) rfl (yB 255 (D58 3) rfl (xW (D58 4) ?_))))
 obtain ⟨x1, hx1, h⟩ := bd h
 refine xN (i := 15) (D58 5) rfl hx1 (xP (L' := [vR 0,vI p1,vI x1]) (D58 6) (leb rfl) rfl (xC (D58 7) rfl ?_))
 rcases ite_e h with ⟨hc2, h⟩ | ⟨hc2, h⟩
 ·
  refine xM (D58 8) (XT.i0_ge_f hc2) (xA (D58 9) rfl (xB 0 (D58 10) rfl (xB 0 (D58 11) rfl (xB 0 (D58 12) rfl ?_))))
  obtain ⟨c3, hc3, h⟩ := bd h
  refine xF (i := 0) (y := y61) (as := [oN, oN, oN]) (S := []) (D58 13) (m368 hw) (m370 hw) (m1 hw) (m369 hw) (m371 hw) (m2 hw) hy61 rfl (ok61 hw n (0 : Int32) (0 : Int32) (0 : Int32) s _ hc3) rfl (lenOf pd61 rfl) (leb rfl) (leb rfl) (leb rfl) (leb rfl) ?_
  rintro _ _ ⟨rfl, rfl⟩
  show W58 l Z n0 (P58 r) 0 0 22 [vR 0,vI p1,vI x1] [.int c3.1] (Hb 0 c3.2)
  cases h
  exact xK (D58 14) rfl (leb rfl) (leb rfl) ⟨rfl, rfl⟩
 ·
  refine xL (pc' := 23) (D58 8) (XT.i0_ge_t hc2) (by decide) rfl (xA (D58 15) rfl (xC (D58 16) rfl ?_))
  obtain ⟨c4, hc4, h⟩ := bd h
  refine xF (i := 0) (y := y9) (as := [.int x1]) (S := []) (D58 17) (m138 hw) (m140 hw) (m1 hw) (m139 hw) (m141 hw) (m2 hw) hy9 rfl (ok9 hw x1 s _ hc4) rfl (lenOf pd9 rfl) (leb rfl) (leb rfl) (leb rfl) (leb rfl) ?_
  rintro _ _ ⟨rfl, rfl⟩
  show W58 l Z n0 (P58 r) 0 0 28 [vR 0,vI p1,vI x1] [.int c4] (Hb 0 s)
  refine xG 7 (D58 18) rfl ?_
  rcases ite_e h with ⟨hc5, h⟩ | ⟨hc5, h⟩
  ·
   refine xJ (D58 19) (XT.ii_ne_f hc5) (xC (D58 20) rfl ?_)
   cases h
   exact xK (D58 21) rfl (leb rfl) (leb rfl) ⟨rfl, rfl⟩
  ·
   refine xI (pc' := 35) (D58 19) (XT.ii_ne_t hc5) (by decide) rfl (xC (D58 22) rfl (xB 1 (D58 23) rfl (xO (D58 24) ?_)))
   cases h
   exact xK (D58 25) rfl (leb rfl) (leb rfl) ⟨rfl, rfl⟩
def D29 := dA k53 (0,.aload_n 0,1) [(1,.iload_n 1,1),(2,.invokevirtual 192,3),(5,.istore_n 2,1),(6,.iload_n 2,1),(7,.tableswitch 148 2 22 #[97, 109, 148, 148, 148, 128, 135, 122, 116, 148, 148, 148, 142, 148, 148, 148, 148, 148, 148, 148, 103],97),(104,.aload_n 0,1),(105,.iload_n 1,1),(106,.invokevirtual 300,3),(109,.ireturn,1),(110,.aload_n 0,1),(111,.iload_n 1,1),(112,.invokevirtual 303,3),(115,.ireturn,1),(116,.aload_n 0,1),(117,.iload_n 1,1),(118,.iconst (-1),1),(119,.invokevirtual 306,3),(123,.aload_n 0,1),(124,.iload_n 1,1),(125,.invokevirtual 310,3),(128,.ireturn,1),(129,.aload_n 0,1),(130,.iload_n 1,1),(131,.invokevirtual 313,3),(134,.ireturn,1),(135,.aload_n 0,1),(136,.iload_n 1,1),(137,.iconst 1,1),(138,.invokevirtual 316,3),(141,.ireturn,1),(142,.aload_n 0,1),(143,.iload_n 1,1),(144,.iconst 0,1),(145,.invokevirtual 316,3),(148,.ireturn,1),(149,.aload_n 0,1),(150,.iload_n 1,1),(151,.invokevirtual 320,3),(154,.ireturn,1),(155,.aload_n 0,1),(156,.iconst 1,1),(157,.iload_n 1,1),(158,.invokevirtual 146,3),(161,.iconst (-1),1),(162,.ireturn,1)] (by decide +kernel)
abbrev y29 : MethodName := ⟨"FatPointerC", "step", "(I)I"⟩
theorem hy29 : y29.cls ≠ "java/lang/invoke/MethodHandle" ∧ y29.cls ≠ "java/lang/invoke/VarHandle" := by decide
theorem pd29 : parseMethodDescriptor y29.desc = some ⟨[.int], some .int⟩ := by decide +kernel
abbrev R29 : Room := { frames := 10, cells := 0, slots := 0, locals := 161 }
abbrev P29 (r : Int32 × St) : Option Value → List OwnC → Prop := fun v H' => v = some (.int r.1) ∧ H' = (Hb 0 r.2)
abbrev W29 (l : Launch) (Z : State) (n0 : Nat) := WP l Z CN lay "FatPointerC" "step" prog_1_method_56_code 3 (some FieldType.int) R29 n0 0
def f_step (n : Nat) (p1 : Int32) (s : St) : Option (Int32 × St) :=
 (f_kindAt p1 s).bind fun c1 =>
 if c1 = (2 : Int32) then
  (f_execVarStmt n p1 s).bind fun c3 =>
  some (c3.1, c3.2)
 else if c1 = (3 : Int32) then
  none
 else if c1 = (4 : Int32) then
  (f_trap (1 : Int32) p1 s).bind fun c6 =>
  some ((-1 : Int32), c6)
 else if c1 = (5 : Int32) then
  (f_trap (1 : Int32) p1 s).bind fun c8 =>
  some ((-1 : Int32), c8)
 else if c1 = (6 : Int32) then
  (f_trap (1 : Int32) p1 s).bind fun c10 =>
  some ((-1 : Int32), c10)
 else if c1 = (7 : Int32) then
  (f_execCond n p1 (1 : Int32) s).bind fun c12 =>
  some (c12.1, c12.2)
 else if c1 = (8 : Int32) then
  (f_execCond n p1 (0 : Int32) s).bind fun c14 =>
  some (c14.1, c14.2)
 else if c1 = (9 : Int32) then
  (f_execReturn n p1 s).bind fun c16 =>
  some (c16.1, c16.2)
 else if c1 = (10 : Int32) then
  (f_execOut n p1 s).bind fun c18 =>
  some (c18.1, c18.2)
 else if c1 = (11 : Int32) then
  (f_trap (1 : Int32) p1 s).bind fun c20 =>
  some ((-1 : Int32), c20)
 else if c1 = (12 : Int32) then
  (f_trap (1 : Int32) p1 s).bind fun c22 =>
  some ((-1 : Int32), c22)
 else if c1 = (13 : Int32) then
  (f_trap (1 : Int32) p1 s).bind fun c24 =>
  some ((-1 : Int32), c24)
 else if c1 = (14 : Int32) then
  (f_execRbrace n p1 s).bind fun c26 =>
  some (c26.1, c26.2)
 else if c1 = (15 : Int32) then
  (f_trap (1 : Int32) p1 s).bind fun c28 =>
  some ((-1 : Int32), c28)
 else if c1 = (16 : Int32) then
  (f_trap (1 : Int32) p1 s).bind fun c30 =>
  some ((-1 : Int32), c30)
 else if c1 = (17 : Int32) then
  (f_trap (1 : Int32) p1 s).bind fun c32 =>
  some ((-1 : Int32), c32)
 else if c1 = (18 : Int32) then
  (f_trap (1 : Int32) p1 s).bind fun c34 =>
  some ((-1 : Int32), c34)
 else if c1 = (19 : Int32) then
  (f_trap (1 : Int32) p1 s).bind fun c36 =>
  some ((-1 : Int32), c36)
 else if c1 = (20 : Int32) then
  (f_trap (1 : Int32) p1 s).bind fun c38 =>
  some ((-1 : Int32), c38)
 else if c1 = (21 : Int32) then
  (f_trap (1 : Int32) p1 s).bind fun c40 =>
  some ((-1 : Int32), c40)
 else if c1 = (22 : Int32) then
  (f_execStarStore n p1 s).bind fun c42 =>
  some (c42.1, c42.2)
 else 
 (f_trap (1 : Int32) p1 s).bind fun c43 =>
 some ((-1 : Int32), c43)
theorem ok29 (hw : HW a0 Z) (n : Nat) (p1 : Int32) (s : St) (r : Int32 × St) (h : f_step n p1 s = some r) : CS l Z CN lay y29 prog_1_method_56_code 3 (some FieldType.int) R29 0 [.ref 0, .int p1] (Hb 0 s) (P29 r) := by
 refine CS.of_wp pn_cls (leb rfl) fun n0 => ?_
 show W29 l Z n0 (P29 r) 0 0 0 [vR 0,vI p1,vU] [] (Hb 0 s)
 unfold f_step at h
 refine xA (D29 0) rfl (xC (D29 1) rfl ?_)
 obtain ⟨c1, hc1, h⟩ := bd h
 refine xF (i := 0) (y := y9) (as := [.int p1]) (S := []) (D29 2) (m138 hw) (m140 hw) (m1 hw) (m139 hw) (m141 hw) (m2 hw) hy9 rfl (ok9 hw p1 s _ hc1) rfl (lenOf pd9 rfl) (leb rfl) (leb rfl) (leb rfl) (leb rfl) ?_
 rintro _ _ ⟨rfl, rfl⟩
 show W29 l Z n0 (P29 r) 0 0 5 [vR 0,vI p1,vU] [.int c1] (Hb 0 s)
 refine xP (L' := [vR 0,vI p1,vI c1]) (D29 3) (leb rfl) rfl (xC (D29 4) rfl ?_)
 rcases ite_e h with ⟨hc2, h⟩ | ⟨hc2, h⟩
 ·
  refine yE (o := 97) (pc' := 104) (D29 5) (by rw [hc2]; decide) (by rw [hc2]; rfl) (by decide) rfl (xA (D29 6) rfl (xC (D29 7) rfl ?_))
  obtain ⟨c3, hc3, h⟩ := bd h
  refine xF (i := 0) (y := y30) (as := [.int p1]) (S := []) (D29 8) (m237 hw) (m239 hw) (m1 hw) (m238 hw) (m240 hw) (m2 hw) hy30 rfl (ok30 hw n p1 s _ hc3) rfl (lenOf pd30 rfl) (leb rfl) (leb rfl) (leb rfl) (leb rfl) ?_
  rintro _ _ ⟨rfl, rfl⟩
  show W29 l Z n0 (P29 r) 0 0 109 [vR 0,vI p1,vI c1] [.int c3.1] (Hb 0 c3.2)
  cases h
  exact xK (D29 9) rfl (leb rfl) (leb rfl) ⟨rfl, rfl⟩
 rcases ite_e h with ⟨hc4, h⟩ | ⟨hc4, h⟩
 ·
  refine yE (o := 109) (pc' := 116) (D29 5) (by rw [hc4]; decide) (by rw [hc4]; rfl) (by decide) rfl (xA (D29 14) rfl (xC (D29 15) rfl (xB (-1) (D29 16) rfl ?_)))
  cases h
 rcases ite_e h with ⟨hc5, h⟩ | ⟨hc5, h⟩
 ·
  refine yE (o := 148) (pc' := 155) (D29 5) (by rw [hc5]; decide) (by rw [hc5]; rfl) (by decide) rfl (xA (D29 40) rfl (xB 1 (D29 41) rfl (xC (D29 42) rfl ?_)))
  obtain ⟨c6, hc6, h⟩ := bd h
  refine xF (i := 0) (y := y42) (as := [.int (1 : Int32), .int p1]) (S := []) (D29 43) (m285 hw) (m287 hw) (m1 hw) (m286 hw) (m288 hw) (m2 hw) hy42 rfl (ok42 hw (1 : Int32) p1 s _ hc6) rfl (lenOf pd42 rfl) (leb rfl) (leb rfl) (leb rfl) (leb rfl) ?_
  rintro _ _ ⟨rfl, rfl⟩
  show W29 l Z n0 (P29 r) 0 0 161 [vR 0,vI p1,vI c1] [] (Hb 0 c6)
  refine xB (-1) (D29 44) rfl ?_
  cases h
  exact xK (D29 45) rfl (leb rfl) (leb rfl) ⟨rfl, rfl⟩
 rcases ite_e h with ⟨hc7, h⟩ | ⟨hc7, h⟩
 ·
  refine yE (o := 148) (pc' := 155) (D29 5) (by rw [hc7]; decide) (by rw [hc7]; rfl) (by decide) rfl (xA (D29 40) rfl (xB 1 (D29 41) rfl (xC (D29 42) rfl ?_)))
  obtain ⟨c8, hc8, h⟩ := bd h
  refine xF (i := 0) (y := y42) (as := [.int (1 : Int32), .int p1]) (S := []) (D29 43) (m285 hw) (m287 hw) (m1 hw) (m286 hw) (m288 hw) (m2 hw) hy42 rfl (ok42 hw (1 : Int32) p1 s _ hc8) rfl (lenOf pd42 rfl) (leb rfl) (leb rfl) (leb rfl) (leb rfl) ?_
  rintro _ _ ⟨rfl, rfl⟩
  show W29 l Z n0 (P29 r) 0 0 161 [vR 0,vI p1,vI c1] [] (Hb 0 c8)
  refine xB (-1) (D29 44) rfl ?_
  cases h
  exact xK (D29 45) rfl (leb rfl) (leb rfl) ⟨rfl, rfl⟩
 rcases ite_e h with ⟨hc9, h⟩ | ⟨hc9, h⟩
 ·
  refine yE (o := 148) (pc' := 155) (D29 5) (by rw [hc9]; decide) (by rw [hc9]; rfl) (by decide) rfl (xA (D29 40) rfl (xB 1 (D29 41) rfl (xC (D29 42) rfl ?_)))
  obtain ⟨c10, hc10, h⟩ := bd h
  refine xF (i := 0) (y := y42) (as := [.int (1 : Int32), .int p1]) (S := []) (D29 43) (m285 hw) (m287 hw) (m1 hw) (m286 hw) (m288 hw) (m2 hw) hy42 rfl (ok42 hw (1 : Int32) p1 s _ hc10) rfl (lenOf pd42 rfl) (leb rfl) (leb rfl) (leb rfl) (leb rfl) ?_
  rintro _ _ ⟨rfl, rfl⟩
  show W29 l Z n0 (P29 r) 0 0 161 [vR 0,vI p1,vI c1] [] (Hb 0 c10)
  refine xB (-1) (D29 44) rfl ?_
  cases h
  exact xK (D29 45) rfl (leb rfl) (leb rfl) ⟨rfl, rfl⟩
 rcases ite_e h with ⟨hc11, h⟩ | ⟨hc11, h⟩
 ·
  refine yE (o := 128) (pc' := 135) (D29 5) (by rw [hc11]; decide) (by rw [hc11]; rfl) (by decide) rfl (xA (D29 26) rfl (xC (D29 27) rfl (xB 1 (D29 28) rfl ?_)))
  obtain ⟨c12, hc12, h⟩ := bd h
  refine xF (i := 0) (y := y55) (as := [.int p1, .int (1 : Int32)]) (S := []) (D29 29) (m344 hw) (m346 hw) (m1 hw) (m345 hw) (m347 hw) (m2 hw) hy55 rfl (ok55 hw n p1 (1 : Int32) s _ hc12) rfl (lenOf pd55 rfl) (leb rfl) (leb rfl) (leb rfl) (leb rfl) ?_
  rintro _ _ ⟨rfl, rfl⟩
  show W29 l Z n0 (P29 r) 0 0 141 [vR 0,vI p1,vI c1] [.int c12.1] (Hb 0 c12.2)
  cases h
  exact xK (D29 30) rfl (leb rfl) (leb rfl) ⟨rfl, rfl⟩
 rcases ite_e h with ⟨hc13, h⟩ | ⟨hc13, h⟩
 ·
  refine yE (o := 135) (pc' := 142) (D29 5) (by rw [hc13]; decide) (by rw [hc13]; rfl) (by decide) rfl (xA (D29 31) rfl (xC (D29 32) rfl (xB 0 (D29 33) rfl ?_)))
  obtain ⟨c14, hc14, h⟩ := bd h
  refine xF (i := 0) (y := y55) (as := [.int p1, oN]) (S := []) (D29 34) (m344 hw) (m346 hw) (m1 hw) (m345 hw) (m347 hw) (m2 hw) hy55 rfl (ok55 hw n p1 (0 : Int32) s _ hc14) rfl (lenOf pd55 rfl) (leb rfl) (leb rfl) (leb rfl) (leb rfl) ?_
  rintro _ _ ⟨rfl, rfl⟩
  show W29 l Z n0 (P29 r) 0 0 148 [vR 0,vI p1,vI c1] [.int c14.1] (Hb 0 c14.2)
  cases h
  exact xK (D29 35) rfl (leb rfl) (leb rfl) ⟨rfl, rfl⟩
 rcases ite_e h with ⟨hc15, h⟩ | ⟨hc15, h⟩
 ·
  refine yE (o := 122) (pc' := 129) (D29 5) (by rw [hc15]; decide) (by rw [hc15]; rfl) (by decide) rfl (xA (D29 22) rfl (xC (D29 23) rfl ?_))
  obtain ⟨c16, hc16, h⟩ := bd h
  refine xF (i := 0) (y := y60) (as := [.int p1]) (S := []) (D29 24) (m364 hw) (m366 hw) (m1 hw) (m365 hw) (m367 hw) (m2 hw) hy60 rfl (ok60 hw n p1 s _ hc16) rfl (lenOf pd60 rfl) (leb rfl) (leb rfl) (leb rfl) (leb rfl) ?_
  rintro _ _ ⟨rfl, rfl⟩
  show W29 l Z n0 (P29 r) 0 0 134 [vR 0,vI p1,vI c1] [.int c16.1] (Hb 0 c16.2)
  cases h
  exact xK (D29 25) rfl (leb rfl) (leb rfl) ⟨rfl, rfl⟩
 rcases ite_e h with ⟨hc17, h⟩ | ⟨hc17, h⟩
 ·
  refine yE (o := 116) (pc' := 123) (D29 5) (by rw [hc17]; decide) (by rw [hc17]; rfl) (by decide) rfl (xA (D29 18) rfl (xC (D29 19) rfl ?_))
  obtain ⟨c18, hc18, h⟩ := bd h
  refine xF (i := 0) (y := y59) (as := [.int p1]) (S := []) (D29 20) (m360 hw) (m362 hw) (m1 hw) (m361 hw) (m363 hw) (m2 hw) hy59 rfl (ok59 hw n p1 s _ hc18) rfl (lenOf pd59 rfl) (leb rfl) (leb rfl) (leb rfl) (leb rfl) ?_
  rintro _ _ ⟨rfl, rfl⟩
  show W29 l Z n0 (P29 r) 0 0 128 [vR 0,vI p1,vI c1] [.int c18.1] (Hb 0 c18.2)
  cases h
  exact xK (D29 21) rfl (leb rfl) (leb rfl) ⟨rfl, rfl⟩
 rcases ite_e h with ⟨hc19, h⟩ | ⟨hc19, h⟩
 ·
  refine yE (o := 148) (pc' := 155) (D29 5) (by rw [hc19]; decide) (by rw [hc19]; rfl) (by decide) rfl (xA (D29 40) rfl (xB 1 (D29 41) rfl (xC (D29 42) rfl ?_)))
  obtain ⟨c20, hc20, h⟩ := bd h
  refine xF (i := 0) (y := y42) (as := [.int (1 : Int32), .int p1]) (S := []) (D29 43) (m285 hw) (m287 hw) (m1 hw) (m286 hw) (m288 hw) (m2 hw) hy42 rfl (ok42 hw (1 : Int32) p1 s _ hc20) rfl (lenOf pd42 rfl) (leb rfl) (leb rfl) (leb rfl) (leb rfl) ?_
  rintro _ _ ⟨rfl, rfl⟩
  show W29 l Z n0 (P29 r) 0 0 161 [vR 0,vI p1,vI c1] [] (Hb 0 c20)
  refine xB (-1) (D29 44) rfl ?_
  cases h
  exact xK (D29 45) rfl (leb rfl) (leb rfl) ⟨rfl, rfl⟩
 rcases ite_e h with ⟨hc21, h⟩ | ⟨hc21, h⟩
 ·
  refine yE (o := 148) (pc' := 155) (D29 5) (by rw [hc21]; decide) (by rw [hc21]; rfl) (by decide) rfl (xA (D29 40) rfl (xB 1 (D29 41) rfl (xC (D29 42) rfl ?_)))
  obtain ⟨c22, hc22, h⟩ := bd h
  refine xF (i := 0) (y := y42) (as := [.int (1 : Int32), .int p1]) (S := []) (D29 43) (m285 hw) (m287 hw) (m1 hw) (m286 hw) (m288 hw) (m2 hw) hy42 rfl (ok42 hw (1 : Int32) p1 s _ hc22) rfl (lenOf pd42 rfl) (leb rfl) (leb rfl) (leb rfl) (leb rfl) ?_
  rintro _ _ ⟨rfl, rfl⟩
  show W29 l Z n0 (P29 r) 0 0 161 [vR 0,vI p1,vI c1] [] (Hb 0 c22)
  refine xB (-1) (D29 44) rfl ?_
  cases h
  exact xK (D29 45) rfl (leb rfl) (leb rfl) ⟨rfl, rfl⟩
 rcases ite_e h with ⟨hc23, h⟩ | ⟨hc23, h⟩
 ·
  refine yE (o := 148) (pc' := 155) (D29 5) (by rw [hc23]; decide) (by rw [hc23]; rfl) (by decide) rfl (xA (D29 40) rfl (xB 1 (D29 41) rfl (xC (D29 42) rfl ?_)))
  obtain ⟨c24, hc24, h⟩ := bd h
  refine xF (i := 0) (y := y42) (as := [.int (1 : Int32), .int p1]) (S := []) (D29 43) (m285 hw) (m287 hw) (m1 hw) (m286 hw) (m288 hw) (m2 hw) hy42 rfl (ok42 hw (1 : Int32) p1 s _ hc24) rfl (lenOf pd42 rfl) (leb rfl) (leb rfl) (leb rfl) (leb rfl) ?_
  rintro _ _ ⟨rfl, rfl⟩
  show W29 l Z n0 (P29 r) 0 0 161 [vR 0,vI p1,vI c1] [] (Hb 0 c24)
  refine xB (-1) (D29 44) rfl ?_
  cases h
  exact xK (D29 45) rfl (leb rfl) (leb rfl) ⟨rfl, rfl⟩
 rcases ite_e h with ⟨hc25, h⟩ | ⟨hc25, h⟩
 ·
  refine yE (o := 142) (pc' := 149) (D29 5) (by rw [hc25]; decide) (by rw [hc25]; rfl) (by decide) rfl (xA (D29 36) rfl (xC (D29 37) rfl ?_))
  obtain ⟨c26, hc26, h⟩ := bd h
  refine xF (i := 0) (y := y58) (as := [.int p1]) (S := []) (D29 38) (m356 hw) (m358 hw) (m1 hw) (m357 hw) (m359 hw) (m2 hw) hy58 rfl (ok58 hw n p1 s _ hc26) rfl (lenOf pd58 rfl) (leb rfl) (leb rfl) (leb rfl) (leb rfl) ?_
  rintro _ _ ⟨rfl, rfl⟩
  show W29 l Z n0 (P29 r) 0 0 154 [vR 0,vI p1,vI c1] [.int c26.1] (Hb 0 c26.2)
  cases h
  exact xK (D29 39) rfl (leb rfl) (leb rfl) ⟨rfl, rfl⟩
 rcases ite_e h with ⟨hc27, h⟩ | ⟨hc27, h⟩
 ·
  refine yE (o := 148) (pc' := 155) (D29 5) (by rw [hc27]; decide) (by rw [hc27]; rfl) (by decide) rfl (xA (D29 40) rfl (xB 1 (D29 41) rfl (xC (D29 42) rfl ?_)))
  obtain ⟨c28, hc28, h⟩ := bd h
  refine xF (i := 0) (y := y42) (as := [.int (1 : Int32), .int p1]) (S := []) (D29 43) (m285 hw) (m287 hw) (m1 hw) (m286 hw) (m288 hw) (m2 hw) hy42 rfl (ok42 hw (1 : Int32) p1 s _ hc28) rfl (lenOf pd42 rfl) (leb rfl) (leb rfl) (leb rfl) (leb rfl) ?_
  rintro _ _ ⟨rfl, rfl⟩
  show W29 l Z n0 (P29 r) 0 0 161 [vR 0,vI p1,vI c1] [] (Hb 0 c28)
  refine xB (-1) (D29 44) rfl ?_
  cases h
  exact xK (D29 45) rfl (leb rfl) (leb rfl) ⟨rfl, rfl⟩
 rcases ite_e h with ⟨hc29, h⟩ | ⟨hc29, h⟩
 ·
  refine yE (o := 148) (pc' := 155) (D29 5) (by rw [hc29]; decide) (by rw [hc29]; rfl) (by decide) rfl (xA (D29 40) rfl (xB 1 (D29 41) rfl (xC (D29 42) rfl ?_)))
  obtain ⟨c30, hc30, h⟩ := bd h
  refine xF (i := 0) (y := y42) (as := [.int (1 : Int32), .int p1]) (S := []) (D29 43) (m285 hw) (m287 hw) (m1 hw) (m286 hw) (m288 hw) (m2 hw) hy42 rfl (ok42 hw (1 : Int32) p1 s _ hc30) rfl (lenOf pd42 rfl) (leb rfl) (leb rfl) (leb rfl) (leb rfl) ?_
  rintro _ _ ⟨rfl, rfl⟩
  show W29 l Z n0 (P29 r) 0 0 161 [vR 0,vI p1,vI c1] [] (Hb 0 c30)
  refine xB (-1) (D29 44) rfl ?_
  cases h
  exact xK (D29 45) rfl (leb rfl) (leb rfl) ⟨rfl, rfl⟩
 rcases ite_e h with ⟨hc31, h⟩ | ⟨hc31, h⟩
 ·
  refine yE (o := 148) (pc' := 155) (D29 5) (by rw [hc31]; decide) (by rw [hc31]; rfl) (by decide) rfl (xA (D29 40) rfl (xB 1 (D29 41) rfl (xC (D29 42) rfl ?_)))
  obtain ⟨c32, hc32, h⟩ := bd h
  refine xF (i := 0) (y := y42) (as := [.int (1 : Int32), .int p1]) (S := []) (D29 43) (m285 hw) (m287 hw) (m1 hw) (m286 hw) (m288 hw) (m2 hw) hy42 rfl (ok42 hw (1 : Int32) p1 s _ hc32) rfl (lenOf pd42 rfl) (leb rfl) (leb rfl) (leb rfl) (leb rfl) ?_
  rintro _ _ ⟨rfl, rfl⟩
  show W29 l Z n0 (P29 r) 0 0 161 [vR 0,vI p1,vI c1] [] (Hb 0 c32)
  refine xB (-1) (D29 44) rfl ?_
  cases h
  exact xK (D29 45) rfl (leb rfl) (leb rfl) ⟨rfl, rfl⟩
 rcases ite_e h with ⟨hc33, h⟩ | ⟨hc33, h⟩
 ·
  refine yE (o := 148) (pc' := 155) (D29 5) (by rw [hc33]; decide) (by rw [hc33]; rfl) (by decide) rfl (xA (D29 40) rfl (xB 1 (D29 41) rfl (xC (D29 42) rfl ?_)))
  obtain ⟨c34, hc34, h⟩ := bd h
  refine xF (i := 0) (y := y42) (as := [.int (1 : Int32), .int p1]) (S := []) (D29 43) (m285 hw) (m287 hw) (m1 hw) (m286 hw) (m288 hw) (m2 hw) hy42 rfl (ok42 hw (1 : Int32) p1 s _ hc34) rfl (lenOf pd42 rfl) (leb rfl) (leb rfl) (leb rfl) (leb rfl) ?_
  rintro _ _ ⟨rfl, rfl⟩
  show W29 l Z n0 (P29 r) 0 0 161 [vR 0,vI p1,vI c1] [] (Hb 0 c34)
  refine xB (-1) (D29 44) rfl ?_
  cases h
  exact xK (D29 45) rfl (leb rfl) (leb rfl) ⟨rfl, rfl⟩
 rcases ite_e h with ⟨hc35, h⟩ | ⟨hc35, h⟩
 ·
  refine yE (o := 148) (pc' := 155) (D29 5) (by rw [hc35]; decide) (by rw [hc35]; rfl) (by decide) rfl (xA (D29 40) rfl (xB 1 (D29 41) rfl (xC (D29 42) rfl ?_)))
  obtain ⟨c36, hc36, h⟩ := bd h
  refine xF (i := 0) (y := y42) (as := [.int (1 : Int32), .int p1]) (S := []) (D29 43) (m285 hw) (m287 hw) (m1 hw) (m286 hw) (m288 hw) (m2 hw) hy42 rfl (ok42 hw (1 : Int32) p1 s _ hc36) rfl (lenOf pd42 rfl) (leb rfl) (leb rfl) (leb rfl) (leb rfl) ?_
  rintro _ _ ⟨rfl, rfl⟩
  show W29 l Z n0 (P29 r) 0 0 161 [vR 0,vI p1,vI c1] [] (Hb 0 c36)
  refine xB (-1) (D29 44) rfl ?_
  cases h
  exact xK (D29 45) rfl (leb rfl) (leb rfl) ⟨rfl, rfl⟩
 rcases ite_e h with ⟨hc37, h⟩ | ⟨hc37, h⟩
 ·
  refine yE (o := 148) (pc' := 155) (D29 5) (by rw [hc37]; decide) (by rw [hc37]; rfl) (by decide) rfl (xA (D29 40) rfl (xB 1 (D29 41) rfl (xC (D29 42) rfl ?_)))
  obtain ⟨c38, hc38, h⟩ := bd h
  refine xF (i := 0) (y := y42) (as := [.int (1 : Int32), .int p1]) (S := []) (D29 43) (m285 hw) (m287 hw) (m1 hw) (m286 hw) (m288 hw) (m2 hw) hy42 rfl (ok42 hw (1 : Int32) p1 s _ hc38) rfl (lenOf pd42 rfl) (leb rfl) (leb rfl) (leb rfl) (leb rfl) ?_
  rintro _ _ ⟨rfl, rfl⟩
  show W29 l Z n0 (P29 r) 0 0 161 [vR 0,vI p1,vI c1] [] (Hb 0 c38)
  refine xB (-1) (D29 44) rfl ?_
  cases h
  exact xK (D29 45) rfl (leb rfl) (leb rfl) ⟨rfl, rfl⟩
 rcases ite_e h with ⟨hc39, h⟩ | ⟨hc39, h⟩
 ·
  refine yE (o := 148) (pc' := 155) (D29 5) (by rw [hc39]; decide) (by rw [hc39]; rfl) (by decide) rfl (xA (D29 40) rfl (xB 1 (D29 41) rfl (xC (D29 42) rfl ?_)))
  obtain ⟨c40, hc40, h⟩ := bd h
  refine xF (i := 0) (y := y42) (as := [.int (1 : Int32), .int p1]) (S := []) (D29 43) (m285 hw) (m287 hw) (m1 hw) (m286 hw) (m288 hw) (m2 hw) hy42 rfl (ok42 hw (1 : Int32) p1 s _ hc40) rfl (lenOf pd42 rfl) (leb rfl) (leb rfl) (leb rfl) (leb rfl) ?_
  rintro _ _ ⟨rfl, rfl⟩
  show W29 l Z n0 (P29 r) 0 0 161 [vR 0,vI p1,vI c1] [] (Hb 0 c40)
  refine xB (-1) (D29 44) rfl ?_
  cases h
  exact xK (D29 45) rfl (leb rfl) (leb rfl) ⟨rfl, rfl⟩
 rcases ite_e h with ⟨hc41, h⟩ | ⟨hc41, h⟩
 ·
  refine yE (o := 103) (pc' := 110) (D29 5) (by rw [hc41]; decide) (by rw [hc41]; rfl) (by decide) rfl (xA (D29 10) rfl (xC (D29 11) rfl ?_))
  obtain ⟨c42, hc42, h⟩ := bd h
  refine xF (i := 0) (y := y52) (as := [.int p1]) (S := []) (D29 12) (m332 hw) (m334 hw) (m1 hw) (m333 hw) (m335 hw) (m2 hw) hy52 rfl (ok52 hw n p1 s _ hc42) rfl (lenOf pd52 rfl) (leb rfl) (leb rfl) (leb rfl) (leb rfl) ?_
  rintro _ _ ⟨rfl, rfl⟩
  show W29 l Z n0 (P29 r) 0 0 115 [vR 0,vI p1,vI c1] [.int c42.1] (Hb 0 c42.2)
  cases h
  exact xK (D29 13) rfl (leb rfl) (leb rfl) ⟨rfl, rfl⟩
 refine WP.tswOut (pc' := 155) (D29 5) (tsw_miss fun z h1 h2 => by
   have hz : z = 2 ∨ z = 3 ∨ z = 4 ∨ z = 5 ∨ z = 6 ∨ z = 7 ∨ z = 8 ∨ z = 9 ∨ z = 10 ∨ z = 11 ∨ z = 12 ∨ z = 13 ∨ z = 14 ∨ z = 15 ∨ z = 16 ∨ z = 17 ∨ z = 18 ∨ z = 19 ∨ z = 20 ∨ z = 21 ∨ z = 22 := by omega
   rcases hz with rfl | rfl | rfl | rfl | rfl | rfl | rfl | rfl | rfl | rfl | rfl | rfl | rfl | rfl | rfl | rfl | rfl | rfl | rfl | rfl | rfl
   · exact hc2
   · exact hc4
   · exact hc5
   · exact hc7
   · exact hc9
   · exact hc11
   · exact hc13
   · exact hc15
   · exact hc17
   · exact hc19
   · exact hc21
   · exact hc23
   · exact hc25
   · exact hc27
   · exact hc29
   · exact hc31
   · exact hc33
   · exact hc35
   · exact hc37
   · exact hc39
   · exact hc41
   ) (by decide) rfl ?_
 refine xA (D29 40) rfl (xB 1 (D29 41) rfl (xC (D29 42) rfl ?_))
 obtain ⟨c43, hc43, h⟩ := bd h
 refine xF (i := 0) (y := y42) (as := [.int (1 : Int32), .int p1]) (S := []) (D29 43) (m285 hw) (m287 hw) (m1 hw) (m286 hw) (m288 hw) (m2 hw) hy42 rfl (ok42 hw (1 : Int32) p1 s _ hc43) rfl (lenOf pd42 rfl) (leb rfl) (leb rfl) (leb rfl) (leb rfl) ?_
 rintro _ _ ⟨rfl, rfl⟩
 show W29 l Z n0 (P29 r) 0 0 161 [vR 0,vI p1,vI c1] [] (Hb 0 c43)
 refine xB (-1) (D29 44) rfl ?_
 cases h
 exact xK (D29 45) rfl (leb rfl) (leb rfl) ⟨rfl, rfl⟩
def D27 := dA k4 (0,.aload_n 0,1) [(1,.getfield 123,3),(4,.ifCond .ne 5,3),(7,.iconst (-1),1),(8,.ireturn,1),(9,.aload_n 0,1),(10,.invokevirtual 117,3),(13,.aload_n 0,1),(14,.iconst 0,1),(15,.putfield 131,3),(18,.aload_n 0,1),(19,.iconst 0,1),(20,.putfield 134,3),(23,.aload_n 0,1),(24,.iconst 0,1),(25,.putfield 137,3),(28,.aload_n 0,1),(29,.sipush 256,3),(32,.putfield 140,3),(35,.aload_n 0,1),(36,.iconst 1,1),(37,.putfield 143,3),(40,.aload_n 0,1),(41,.getfield 32,3),(44,.iconst 0,1),(45,.iaload,1),(46,.aload_n 0,1),(47,.getfield 110,3),(50,.if_icmp .le 19,3),(53,.aload_n 0,1),(54,.iconst 5,1),(55,.aload_n 0,1),(56,.getfield 23,3),(59,.iconst 0,1),(60,.iaload,1),(61,.invokevirtual 146,3),(64,.aload_n 0,1),(65,.getfield 150,3),(68,.ireturn,1),(69,.aload_n 0,1),(70,.iconst 0,1),(71,.iconst (-1),1),(72,.iconst (-1),1),(73,.invokevirtual 153,3),(76,.aload_n 0,1),(77,.getfield 35,3),(80,.iconst 0,1),(81,.iaload,1),(82,.istore_n 1,1),(83,.iconst 0,1),(84,.istore_n 2,1),(85,.iload_n 2,1),(86,.ldc 157,2),(88,.if_icmp .ge 22,3),(91,.aload_n 0,1),(92,.getfield 143,3),(95,.ifCond .eq 15,3),(98,.aload_n 0,1),(99,.iload_n 1,1),(100,.invokevirtual 158,3),(103,.istore_n 1,1),(104,.iinc 2 1,3),(107,.goto (-22),3),(110,.aload_n 0,1),(111,.getfield 143,3),(114,.ifCond .eq 10,3),(117,.aload_n 0,1),(118,.bipush 7,2),(120,.iload_n 1,1),(121,.invokevirtual 146,3),(124,.aload_n 0,1),(125,.getfield 150,3),(128,.ireturn,1)] (by decide +kernel)
abbrev y27 : MethodName := ⟨"FatPointerC", "run", "()I"⟩
theorem hy27 : y27.cls ≠ "java/lang/invoke/MethodHandle" ∧ y27.cls ≠ "java/lang/invoke/VarHandle" := by decide
theorem pd27 : parseMethodDescriptor y27.desc = some ⟨[], some .int⟩ := by decide +kernel
abbrev R27 : Room := { frames := 11, cells := 0, slots := 0, locals := 175 }
abbrev P27 (r : Int32 × St) : Option Value → List OwnC → Prop := fun v H' => v = some (.int r.1) ∧ H' = (Hb 0 r.2)
abbrev W27 (l : Launch) (Z : State) (n0 : Nat) := WP l Z CN lay "FatPointerC" "run" prog_1_method_6_code 3 (some FieldType.int) R27 n0 0
def f_run_124 (n : Nat) (s : St) : Option (Int32 × St) :=
 some (gI s 4, s)
theorem ok27_124 (hw : HW a0 Z) (n0 n : Nat) (s : St) (r : Int32 × St) (h : f_run_124 n s = some r) : W27 l Z n0 (P27 r) 0 0 124 [vR 0,vU,vU] [] (Hb 0 s) := by
 unfold f_run_124 at h
 refine xA (D27 70) rfl (xD (i := 0) (j := 6) (D27 71) (m85 hw) rfl rfl rfl ?_)
 cases h
 exact xK (D27 72) rfl (leb rfl) (leb rfl) ⟨rfl, rfl⟩
def f_run_110 (n : Nat) (v1 : Int32) (s : St) : Option (Int32 × St) :=
 if (gI s 18) = 0 then
  f_run_124 n s
 else
  (f_trap (7 : Int32) v1 s).bind fun c2 =>
  f_run_124 n c2
theorem ok27_110 (hw : HW a0 Z) (n0 n : Nat) (v1 : Int32) (s : St) (r : Int32 × St) (h : f_run_110 n v1 s = some r) : W27 l Z n0 (P27 r) 0 0 110 [vR 0,vI v1,vU] [] (Hb 0 s) := by
 unfold f_run_110 at h
 refine xA (D27 63) rfl (xD (i := 0) (j := 45) (D27 64) (m226 hw) rfl rfl rfl ?_)
 rcases ite_e h with ⟨hc1, h⟩ | ⟨hc1, h⟩
 ·
  exact xL (pc' := 124) (D27 65) (XT.i0_eq_t hc1) (by decide) rfl (xE (L' := [vR 0,vU,vU]) ⟨rfl, trivial⟩ (ok27_124 hw n0 n s _ h))
 ·
  refine xM (D27 65) (XT.i0_eq_f hc1) (xA (D27 66) rfl (xG 7 (D27 67) rfl (xC (D27 68) rfl ?_)))
  obtain ⟨c2, hc2, h⟩ := bd h
  refine xF (i := 0) (y := y42) (as := [.int (7 : Int32), .int v1]) (S := []) (D27 69) (m285 hw) (m287 hw) (m1 hw) (m286 hw) (m288 hw) (m2 hw) hy42 rfl (ok42 hw (7 : Int32) v1 s _ hc2) rfl (lenOf pd42 rfl) (leb rfl) (leb rfl) (leb rfl) (leb rfl) ?_
  rintro _ _ ⟨rfl, rfl⟩
  show W27 l Z n0 (P27 r) 0 0 124 [vR 0,vI v1,vU] [] (Hb 0 c2)
  exact xE (L' := [vR 0,vU,vU]) ⟨rfl, trivial⟩ (ok27_124 hw n0 n c2 _ h)
def g_run_85 (k85 : KT2) (n : Nat) (v1 v2 : Int32) (s : St) : Option (Int32 × St) :=
 if v2 < (1048576 : Int32) then
  if (gI s 18) = 0 then
   f_run_110 n v1 s
  else
   (f_step n v1 s).bind fun c3 =>
   lt (v2 + (1 : Int32)) fun x4 =>
   k85 c3.1 x4 c3.2
 else
  f_run_110 n v1 s
abbrev HK27_85 (l : Launch) (Z : State) (n0 : Nat) (k85 : KT2) : Prop := ∀ (v1 v2 : Int32) (s : St) (r : Int32 × St), k85 v1 v2 s = some r → W27 l Z n0 (P27 r) 0 0 85 [vR 0,vI v1,vI v2] [] (Hb 0 s)
theorem okg27_85 (hw : HW a0 Z) (n0 : Nat) (k85 : KT2) (hk85 : HK27_85 l Z n0 k85) (n : Nat) (v1 v2 : Int32) (s : St) (r : Int32 × St) (h : g_run_85 k85 n v1 v2 s = some r) : W27 l Z n0 (P27 r) 0 0 85 [vR 0,vI v1,vI v2] [] (Hb 0 s) := by
 unfold g_run_85 at h
 refine xC (D27 51) rfl (WP.ldc (D27 52) (m232 hw) ?_)
 rcases ite_e h with ⟨hc1, h⟩ | ⟨hc1, h⟩
 ·
  refine xJ (D27 53) (XT.ii_ge_f hc1) (xA (D27 54) rfl (xD (i := 0) (j := 45) (D27 55) (m226 hw) rfl rfl rfl ?_))
  rcases ite_e h with ⟨hc2, h⟩ | ⟨hc2, h⟩
  ·
   exact xL (pc' := 110) (D27 56) (XT.i0_eq_t hc2) (by decide) rfl (xE (L' := [vR 0,vI v1,vU]) ⟨rfl, rfl, trivial⟩ (ok27_110 hw n0 n v1 s _ h))
  ·
   refine xM (D27 56) (XT.i0_eq_f hc2) (xA (D27 57) rfl (xC (D27 58) rfl ?_))
   obtain ⟨c3, hc3, h⟩ := bd h
   refine xF (i := 0) (y := y29) (as := [.int v1]) (S := []) (D27 59) (m233 hw) (m235 hw) (m1 hw) (m234 hw) (m236 hw) (m2 hw) hy29 rfl (ok29 hw n v1 s _ hc3) rfl (lenOf pd29 rfl) (leb rfl) (leb rfl) (leb rfl) (leb rfl) ?_
   rintro _ _ ⟨rfl, rfl⟩
   show W27 l Z n0 (P27 r) 0 0 103 [vR 0,vI v1,vI v2] [.int c3.1] (Hb 0 c3.2)
   refine xP (L' := [vR 0,vI c3.1,vI v2]) (D27 60) (leb rfl) rfl ?_
   obtain ⟨x4, ex4, h⟩ := lt_e h
   exact yC (L' := [vR 0,vI c3.1,vI x4]) (1 : Int32) (D27 61) rfl rfl (by subst ex4; rfl) (xV (pc' := 85) (D27 62) (by decide) rfl (xE (L' := [vR 0,vI c3.1,vI x4]) ⟨rfl, rfl, rfl, trivial⟩ (hk85 c3.1 x4 c3.2 _ h)))
 ·
  exact xI (pc' := 110) (D27 53) (XT.ii_ge_t hc1) (by decide) rfl (xE (L' := [vR 0,vI v1,vU]) ⟨rfl, rfl, trivial⟩ (ok27_110 hw n0 n v1 s _ h))
def f_run_85 : Nat → Int32 → Int32 → St → Option (Int32 × St)
 | 0 => fun _ _ _ => none
 | n + 1 => g_run_85 (f_run_85 n) n
theorem ok27_85 (hw : HW a0 Z) (n0 : Nat) : ∀ (n : Nat) (v1 v2 : Int32) (s : St) (r : Int32 × St), f_run_85 n v1 v2 s = some r → W27 l Z n0 (P27 r) 0 0 85 [vR 0,vI v1,vI v2] [] (Hb 0 s)
 | 0, v1, v2, s, r, h => nomatch (show none = some r from h)
 | n + 1, v1, v2, s, r, h => okg27_85 hw n0 _ (ok27_85 hw n0 n) n v1 v2 s r h
def f_run (n : Nat) (s : St) : Option (Int32 × St) :=
 if (gI s 3) = 0 then
  some ((-1 : Int32), s)
 else
  (f_clearResults s).bind fun c2 =>
  lt (sI c2 15 (0 : Int32)) fun s3 =>
  lt (sI s3 16 (0 : Int32)) fun s4 =>
  lt (sI s4 14 (0 : Int32)) fun s5 =>
  lt (sI s5 17 (256 : Int32)) fun s6 =>
  lt (sI s6 18 (1 : Int32)) fun s7 =>
  (rd (gA s7 7) (0 : Int32)).bind fun x8 =>
  if (gI s7 0) < x8 then
   (rd (gA s7 4) (0 : Int32)).bind fun x10 =>
   (f_trap (5 : Int32) x10 s7).bind fun c11 =>
   some (gI c11 4, c11)
  else
   (f_pushFrame n (0 : Int32) (-1 : Int32) (-1 : Int32) s7).bind fun c12 =>
   (rd (gA c12 8) (0 : Int32)).bind fun x13 =>
   f_run_85 n x13 (0 : Int32) c12
theorem ok27 (hw : HW a0 Z) (n : Nat) (s : St) (r : Int32 × St) (h : f_run n s = some r) : CS l Z CN lay y27 prog_1_method_6_code 3 (some FieldType.int) R27 0 [.ref 0] (Hb 0 s) (P27 r) := by
 refine CS.of_wp pn_cls (leb rfl) fun n0 => ?_
 show W27 l Z n0 (P27 r) 0 0 0 [vR 0,vU,vU] [] (Hb 0 s)
 unfold f_run at h
 refine xA (D27 0) rfl (xD (i := 0) (j := 5) (D27 1) (m110 hw) rfl rfl rfl ?_)
 rcases ite_e h with ⟨hc1, h⟩ | ⟨hc1, h⟩
 ·
  refine xM (D27 2) (XT.i0_ne_f hc1) (xB (-1) (D27 3) rfl ?_)
  cases h
  exact xK (D27 4) rfl (leb rfl) (leb rfl) ⟨rfl, rfl⟩
 ·
  refine xL (pc' := 9) (D27 2) (XT.i0_ne_t hc1) (by decide) rfl (xA (D27 5) rfl ?_)
  obtain ⟨c2, hc2, h⟩ := bd h
  refine xF (i := 0) (y := y1) (as := []) (S := []) (D27 6) (m81 hw) (m83 hw) (m1 hw) (m82 hw) (m84 hw) (m2 hw) hy1 rfl (ok1 hw s _ hc2) rfl (lenOf pd1 rfl) (leb rfl) (leb rfl) (leb rfl) (leb rfl) ?_
  rintro _ _ ⟨rfl, rfl⟩
  show W27 l Z n0 (P27 r) 0 0 13 [vR 0,vU,vU] [] (Hb 0 c2)
  refine xA (D27 7) rfl (xB 0 (D27 8) rfl ?_)
  obtain ⟨s3, es3, h⟩ := lt_e h
  refine xT (i := 0) (j := 42) (H' := (Hb 0 s3)) (D27 9) (m218 hw) (Or.inl (m219 hw)) (m1 hw) (hlay hw) rfl rfl rfl (leb rfl) (by subst es3; rfl) (xA (D27 10) rfl (xB 0 (D27 11) rfl ?_))
  obtain ⟨s4, es4, h⟩ := lt_e h
  refine xT (i := 0) (j := 43) (H' := (Hb 0 s4)) (D27 12) (m220 hw) (Or.inl (m221 hw)) (m1 hw) (hlay hw) rfl rfl rfl (leb rfl) (by subst es4; rfl) (xA (D27 13) rfl (xB 0 (D27 14) rfl ?_))
  obtain ⟨s5, es5, h⟩ := lt_e h
  refine xT (i := 0) (j := 36) (H' := (Hb 0 s5)) (D27 15) (m222 hw) (Or.inl (m223 hw)) (m1 hw) (hlay hw) rfl rfl rfl (leb rfl) (by subst es5; rfl) (xA (D27 16) rfl (yB 256 (D27 17) rfl ?_))
  obtain ⟨s6, es6, h⟩ := lt_e h
  refine xT (i := 0) (j := 44) (H' := (Hb 0 s6)) (D27 18) (m224 hw) (Or.inl (m225 hw)) (m1 hw) (hlay hw) rfl rfl rfl (leb rfl) (by subst es6; rfl) (xA (D27 19) rfl (xB 1 (D27 20) rfl ?_))
  obtain ⟨s7, es7, h⟩ := lt_e h
  refine yD (i := 0) (j := 45) (H' := (Hb 0 s7)) (D27 21) (m226 hw) (Or.inl (m227 hw)) (m1 hw) (hlay hw) rfl rfl rfl (leb rfl) (by subst es7; rfl) (xA (D27 22) rfl (xD (i := 0) (j := 18) (D27 23) (m25 hw) rfl rfl rfl (xB 0 (D27 24) rfl ?_)))
  obtain ⟨x8, hx8, h⟩ := bd h
  refine xN (i := 8) (D27 25) rfl hx8 (xA (D27 26) rfl (xD (i := 0) (j := 0) (D27 27) (m77 hw) rfl rfl rfl ?_))
  rcases ite_e h with ⟨hc9, h⟩ | ⟨hc9, h⟩
  ·
   refine xJ (D27 28) (XT.ii_le_f hc9) (xA (D27 29) rfl (xB 5 (D27 30) rfl (xA (D27 31) rfl (xD (i := 0) (j := 15) (D27 32) (m19 hw) rfl rfl rfl (xB 0 (D27 33) rfl ?_)))))
   obtain ⟨x10, hx10, h⟩ := bd h
   refine xN (i := 5) (D27 34) rfl hx10 ?_
   obtain ⟨c11, hc11, h⟩ := bd h
   refine xF (i := 0) (y := y42) (as := [.int (5 : Int32), .int x10]) (S := []) (D27 35) (m285 hw) (m287 hw) (m1 hw) (m286 hw) (m288 hw) (m2 hw) hy42 rfl (ok42 hw (5 : Int32) x10 s7 _ hc11) rfl (lenOf pd42 rfl) (leb rfl) (leb rfl) (leb rfl) (leb rfl) ?_
   rintro _ _ ⟨rfl, rfl⟩
   show W27 l Z n0 (P27 r) 0 0 64 [vR 0,vU,vU] [] (Hb 0 c11)
   refine xA (D27 36) rfl (xD (i := 0) (j := 6) (D27 37) (m85 hw) rfl rfl rfl ?_)
   cases h
   exact xK (D27 38) rfl (leb rfl) (leb rfl) ⟨rfl, rfl⟩
  ·
   refine xI (pc' := 69) (D27 28) (XT.ii_le_t hc9) (by decide) rfl (xA (D27 39) rfl (xB 0 (D27 40) rfl (xB (-1) (D27 41) rfl (xB (-1) (D27 42) rfl ?_))))
   obtain ⟨c12, hc12, h⟩ := bd h
   refine xF (i := 0) (y := y28) (as := [oN, .int (-1 : Int32), .int (-1 : Int32)]) (S := []) (D27 43) (m228 hw) (m230 hw) (m1 hw) (m229 hw) (m231 hw) (m2 hw) hy28 rfl (ok28 hw n (0 : Int32) (-1 : Int32) (-1 : Int32) s7 _ hc12) rfl (lenOf pd28 rfl) (leb rfl) (leb rfl) (leb rfl) (leb rfl) ?_
   rintro _ _ ⟨rfl, rfl⟩
   show W27 l Z n0 (P27 r) 0 0 76 [vR 0,vU,vU] [] (Hb 0 c12)
   refine xA (D27 44) rfl (xD (i := 0) (j := 19) (D27 45) (m27 hw) rfl rfl rfl (xB 0 (D27 46) rfl ?_))
   obtain ⟨x13, hx13, h⟩ := bd h
   exact xN (i := 9) (D27 47) rfl hx13 (xP (L' := [vR 0,vI x13,vU]) (D27 48) (leb rfl) rfl (xB 0 (D27 49) rfl (xP (L' := [vR 0,vI x13,vI 0]) (D27 50) (leb rfl) rfl (xE (L' := [vR 0,vI x13,vI 0]) ⟨rfl, rfl, rfl, trivial⟩ (ok27_85 hw n0 n x13 (0 : Int32) c12 _ h)))))
def D44 := dA k6 (0,.aload_n 0,1) [(1,.getfield 162,3),(4,.ireturn,1)] (by decide +kernel)
abbrev y44 : MethodName := ⟨"FatPointerC", "trapSite", "()I"⟩
theorem hy44 : y44.cls ≠ "java/lang/invoke/MethodHandle" ∧ y44.cls ≠ "java/lang/invoke/VarHandle" := by decide
theorem pd44 : parseMethodDescriptor y44.desc = some ⟨[], some .int⟩ := by decide +kernel
abbrev R44 : Room := { frames := 0, cells := 0, slots := 0, locals := 0 }
abbrev P44 (s : St) (r : Int32) : Option Value → List OwnC → Prop := fun v H' => v = some (.int r) ∧ H' = (Hb 0 s)
abbrev W44 (l : Launch) (Z : State) (n0 : Nat) := WP l Z CN lay "FatPointerC" "trapSite" prog_1_method_8_code 1 (some FieldType.int) R44 n0 0
def f_trapSite (s : St) : Option (Int32) :=
 some (gI s 5)
theorem ok44 (hw : HW a0 Z) (s : St) (r : Int32) (h : f_trapSite s = some r) : CS l Z CN lay y44 prog_1_method_8_code 1 (some FieldType.int) R44 0 [.ref 0] (Hb 0 s) (P44 s r) := by
 refine CS.of_wp pn_cls (leb rfl) fun n0 => ?_
 show W44 l Z n0 (P44 s r) 0 0 0 [vR 0] [] (Hb 0 s)
 unfold f_trapSite at h
 refine xA (D44 0) rfl (xD (i := 0) (j := 7) (D44 1) (m87 hw) rfl rfl rfl ?_)
 cases h
 exact xK (D44 2) rfl (leb rfl) (leb rfl) ⟨rfl, rfl⟩
def D45 := dA k7 (0,.aload_n 0,1) [(1,.getfield 165,3),(4,.ireturn,1)] (by decide +kernel)
abbrev y45 : MethodName := ⟨"FatPointerC", "frames", "()I"⟩
theorem hy45 : y45.cls ≠ "java/lang/invoke/MethodHandle" ∧ y45.cls ≠ "java/lang/invoke/VarHandle" := by decide
theorem pd45 : parseMethodDescriptor y45.desc = some ⟨[], some .int⟩ := by decide +kernel
abbrev R45 : Room := { frames := 0, cells := 0, slots := 0, locals := 0 }
abbrev P45 (s : St) (r : Int32) : Option Value → List OwnC → Prop := fun v H' => v = some (.int r) ∧ H' = (Hb 0 s)
abbrev W45 (l : Launch) (Z : State) (n0 : Nat) := WP l Z CN lay "FatPointerC" "frames" prog_1_method_9_code 1 (some FieldType.int) R45 n0 0
def f_frames (s : St) : Option (Int32) :=
 some (gI s 6)
theorem ok45 (hw : HW a0 Z) (s : St) (r : Int32) (h : f_frames s = some r) : CS l Z CN lay y45 prog_1_method_9_code 1 (some FieldType.int) R45 0 [.ref 0] (Hb 0 s) (P45 s r) := by
 refine CS.of_wp pn_cls (leb rfl) fun n0 => ?_
 show W45 l Z n0 (P45 s r) 0 0 0 [vR 0] [] (Hb 0 s)
 unfold f_frames at h
 refine xA (D45 0) rfl (xD (i := 0) (j := 8) (D45 1) (m89 hw) rfl rfl rfl ?_)
 cases h
 exact xK (D45 2) rfl (leb rfl) (leb rfl) ⟨rfl, rfl⟩
def D46 := dA k8 (0,.aload_n 0,1) [(1,.getfield 168,3),(4,.ireturn,1)] (by decide +kernel)
abbrev y46 : MethodName := ⟨"FatPointerC", "resultKind", "()I"⟩
theorem hy46 : y46.cls ≠ "java/lang/invoke/MethodHandle" ∧ y46.cls ≠ "java/lang/invoke/VarHandle" := by decide
theorem pd46 : parseMethodDescriptor y46.desc = some ⟨[], some .int⟩ := by decide +kernel
abbrev R46 : Room := { frames := 0, cells := 0, slots := 0, locals := 0 }
abbrev P46 (s : St) (r : Int32) : Option Value → List OwnC → Prop := fun v H' => v = some (.int r) ∧ H' = (Hb 0 s)
abbrev W46 (l : Launch) (Z : State) (n0 : Nat) := WP l Z CN lay "FatPointerC" "resultKind" prog_1_method_10_code 1 (some FieldType.int) R46 n0 0
def f_resultKind (s : St) : Option (Int32) :=
 some (gI s 7)
theorem ok46 (hw : HW a0 Z) (s : St) (r : Int32) (h : f_resultKind s = some r) : CS l Z CN lay y46 prog_1_method_10_code 1 (some FieldType.int) R46 0 [.ref 0] (Hb 0 s) (P46 s r) := by
 refine CS.of_wp pn_cls (leb rfl) fun n0 => ?_
 show W46 l Z n0 (P46 s r) 0 0 0 [vR 0] [] (Hb 0 s)
 unfold f_resultKind at h
 refine xA (D46 0) rfl (xD (i := 0) (j := 9) (D46 1) (m91 hw) rfl rfl rfl ?_)
 cases h
 exact xK (D46 2) rfl (leb rfl) (leb rfl) ⟨rfl, rfl⟩
def D47 := dA k9 (0,.aload_n 0,1) [(1,.getfield 171,3),(4,.ireturn,1)] (by decide +kernel)
abbrev y47 : MethodName := ⟨"FatPointerC", "resultValue", "()I"⟩
theorem hy47 : y47.cls ≠ "java/lang/invoke/MethodHandle" ∧ y47.cls ≠ "java/lang/invoke/VarHandle" := by decide
theorem pd47 : parseMethodDescriptor y47.desc = some ⟨[], some .int⟩ := by decide +kernel
abbrev R47 : Room := { frames := 0, cells := 0, slots := 0, locals := 0 }
abbrev P47 (s : St) (r : Int32) : Option Value → List OwnC → Prop := fun v H' => v = some (.int r) ∧ H' = (Hb 0 s)
abbrev W47 (l : Launch) (Z : State) (n0 : Nat) := WP l Z CN lay "FatPointerC" "resultValue" prog_1_method_11_code 1 (some FieldType.int) R47 n0 0
def f_resultValue (s : St) : Option (Int32) :=
 some (gI s 8)
theorem ok47 (hw : HW a0 Z) (s : St) (r : Int32) (h : f_resultValue s = some r) : CS l Z CN lay y47 prog_1_method_11_code 1 (some FieldType.int) R47 0 [.ref 0] (Hb 0 s) (P47 s r) := by
 refine CS.of_wp pn_cls (leb rfl) fun n0 => ?_
 show W47 l Z n0 (P47 s r) 0 0 0 [vR 0] [] (Hb 0 s)
 unfold f_resultValue at h
 refine xA (D47 0) rfl (xD (i := 0) (j := 10) (D47 1) (m93 hw) rfl rfl rfl ?_)
 cases h
 exact xK (D47 2) rfl (leb rfl) (leb rfl) ⟨rfl, rfl⟩
def D48 := dA k10 (0,.aload_n 0,1) [(1,.getfield 174,3),(4,.ireturn,1)] (by decide +kernel)
abbrev y48 : MethodName := ⟨"FatPointerC", "resultSize", "()I"⟩
theorem hy48 : y48.cls ≠ "java/lang/invoke/MethodHandle" ∧ y48.cls ≠ "java/lang/invoke/VarHandle" := by decide
theorem pd48 : parseMethodDescriptor y48.desc = some ⟨[], some .int⟩ := by decide +kernel
abbrev R48 : Room := { frames := 0, cells := 0, slots := 0, locals := 0 }
abbrev P48 (s : St) (r : Int32) : Option Value → List OwnC → Prop := fun v H' => v = some (.int r) ∧ H' = (Hb 0 s)
abbrev W48 (l : Launch) (Z : State) (n0 : Nat) := WP l Z CN lay "FatPointerC" "resultSize" prog_1_method_12_code 1 (some FieldType.int) R48 n0 0
def f_resultSize (s : St) : Option (Int32) :=
 some (gI s 9)
theorem ok48 (hw : HW a0 Z) (s : St) (r : Int32) (h : f_resultSize s = some r) : CS l Z CN lay y48 prog_1_method_12_code 1 (some FieldType.int) R48 0 [.ref 0] (Hb 0 s) (P48 s r) := by
 refine CS.of_wp pn_cls (leb rfl) fun n0 => ?_
 show W48 l Z n0 (P48 s r) 0 0 0 [vR 0] [] (Hb 0 s)
 unfold f_resultSize at h
 refine xA (D48 0) rfl (xD (i := 0) (j := 11) (D48 1) (m95 hw) rfl rfl rfl ?_)
 cases h
 exact xK (D48 2) rfl (leb rfl) (leb rfl) ⟨rfl, rfl⟩
def D49 := dA k11 (0,.aload_n 0,1) [(1,.getfield 177,3),(4,.ireturn,1)] (by decide +kernel)
abbrev y49 : MethodName := ⟨"FatPointerC", "outCount", "()I"⟩
theorem hy49 : y49.cls ≠ "java/lang/invoke/MethodHandle" ∧ y49.cls ≠ "java/lang/invoke/VarHandle" := by decide
theorem pd49 : parseMethodDescriptor y49.desc = some ⟨[], some .int⟩ := by decide +kernel
abbrev R49 : Room := { frames := 0, cells := 0, slots := 0, locals := 0 }
abbrev P49 (s : St) (r : Int32) : Option Value → List OwnC → Prop := fun v H' => v = some (.int r) ∧ H' = (Hb 0 s)
abbrev W49 (l : Launch) (Z : State) (n0 : Nat) := WP l Z CN lay "FatPointerC" "outCount" prog_1_method_13_code 1 (some FieldType.int) R49 n0 0
def f_outCount (s : St) : Option (Int32) :=
 some (gI s 10)
theorem ok49 (hw : HW a0 Z) (s : St) (r : Int32) (h : f_outCount s = some r) : CS l Z CN lay y49 prog_1_method_13_code 1 (some FieldType.int) R49 0 [.ref 0] (Hb 0 s) (P49 s r) := by
 refine CS.of_wp pn_cls (leb rfl) fun n0 => ?_
 show W49 l Z n0 (P49 s r) 0 0 0 [vR 0] [] (Hb 0 s)
 unfold f_outCount at h
 refine xA (D49 0) rfl (xD (i := 0) (j := 12) (D49 1) (m97 hw) rfl rfl rfl ?_)
 cases h
 exact xK (D49 2) rfl (leb rfl) (leb rfl) ⟨rfl, rfl⟩
def D50 := dA k12 (0,.iload_n 1,1) [(1,.ifCond .lt 17,3),(4,.iload_n 1,1),(5,.aload_n 0,1),(6,.getfield 177,3),(9,.if_icmp .ge 9,3),(12,.iload_n 1,1),(13,.bipush 16,2),(15,.if_icmp .lt 5,3),(18,.iconst 0,1),(19,.ireturn,1),(20,.aload_n 0,1),(21,.getfield 16,3),(24,.iload_n 1,1),(25,.iaload,1),(26,.ireturn,1)] (by decide +kernel)
abbrev y50 : MethodName := ⟨"FatPointerC", "outValue", "(I)I"⟩
theorem hy50 : y50.cls ≠ "java/lang/invoke/MethodHandle" ∧ y50.cls ≠ "java/lang/invoke/VarHandle" := by decide
theorem pd50 : parseMethodDescriptor y50.desc = some ⟨[.int], some .int⟩ := by decide +kernel
abbrev R50 : Room := { frames := 0, cells := 0, slots := 0, locals := 0 }
abbrev P50 (s : St) (r : Int32) : Option Value → List OwnC → Prop := fun v H' => v = some (.int r) ∧ H' = (Hb 0 s)
abbrev W50 (l : Launch) (Z : State) (n0 : Nat) := WP l Z CN lay "FatPointerC" "outValue" prog_1_method_14_code 2 (some FieldType.int) R50 n0 0
def f_outValue_18 (s : St) : Option (Int32) :=
 some (0 : Int32)
theorem ok50_18 (hw : HW a0 Z) (n0 : Nat) (s : St) (r : Int32) (h : f_outValue_18 s = some r) : W50 l Z n0 (P50 s r) 0 0 18 [vU,vU] [] (Hb 0 s) := by
 unfold f_outValue_18 at h
 refine xB 0 (D50 9) rfl ?_
 cases h
 exact xK (D50 10) rfl (leb rfl) (leb rfl) ⟨rfl, rfl⟩
def f_outValue (p1 : Int32) (s : St) : Option (Int32) :=
 if p1 < 0 then
  f_outValue_18 s
 else
  if p1 < (gI s 10) then
   if p1 < (16 : Int32) then
    (rd (gA s 2) p1).bind fun x4 =>
    some x4
   else
    f_outValue_18 s
  else
   f_outValue_18 s
theorem ok50 (hw : HW a0 Z) (p1 : Int32) (s : St) (r : Int32) (h : f_outValue p1 s = some r) : CS l Z CN lay y50 prog_1_method_14_code 2 (some FieldType.int) R50 0 [.ref 0, .int p1] (Hb 0 s) (P50 s r) := by
 refine CS.of_wp pn_cls (leb rfl) fun n0 => ?_
 show W50 l Z n0 (P50 s r) 0 0 0 [vR 0,vI p1] [] (Hb 0 s)
 unfold f_outValue at h
 refine xC (D50 0) rfl ?_
 rcases ite_e h with ⟨hc1, h⟩ | ⟨hc1, h⟩
 ·
  exact xL (pc' := 18) (D50 1) (XT.i0_lt_t hc1) (by decide) rfl (xE (L' := [vU,vU]) trivial (ok50_18 hw n0 s _ h))
 ·
  refine xM (D50 1) (XT.i0_lt_f hc1) (xC (D50 2) rfl (xA (D50 3) rfl (xD (i := 0) (j := 12) (D50 4) (m97 hw) rfl rfl rfl ?_)))
  rcases ite_e h with ⟨hc2, h⟩ | ⟨hc2, h⟩
  ·
   refine xJ (D50 5) (XT.ii_ge_f hc2) (xC (D50 6) rfl (xG 16 (D50 7) rfl ?_))
   rcases ite_e h with ⟨hc3, h⟩ | ⟨hc3, h⟩
   ·
    refine xI (pc' := 20) (D50 8) (XT.ii_lt_t hc3) (by decide) rfl (xA (D50 11) rfl (xD (i := 0) (j := 13) (D50 12) (m14 hw) rfl rfl rfl (xC (D50 13) rfl ?_)))
    obtain ⟨x4, hx4, h⟩ := bd h
    refine xN (i := 3) (D50 14) rfl hx4 ?_
    cases h
    exact xK (D50 15) rfl (leb rfl) (leb rfl) ⟨rfl, rfl⟩
   ·
    exact xJ (D50 8) (XT.ii_lt_f hc3) (xE (L' := [vU,vU]) trivial (ok50_18 hw n0 s _ h))
  ·
   exact xI (pc' := 18) (D50 5) (XT.ii_ge_t hc2) (by decide) rfl (xE (L' := [vU,vU]) trivial (ok50_18 hw n0 s _ h))
def D43 := dA method_3_code (0,.aload_n 0,1) [(1,.invokevirtual 13,3),(4,.i2l,1),(5,.lstore_n 1,1),(6,.lload_n 1,1),(7,.ldc2_w 17,3),(10,.lmul,1),(11,.aload_n 0,1),(12,.invokevirtual 19,3),(15,.i2l,1),(16,.ladd,1),(17,.lstore_n 1,1),(18,.lload_n 1,1),(19,.ldc2_w 17,3),(22,.lmul,1),(23,.aload_n 0,1),(24,.invokevirtual 22,3),(27,.i2l,1),(28,.ladd,1),(29,.lstore_n 1,1),(30,.lload_n 1,1),(31,.ldc2_w 17,3),(34,.lmul,1),(35,.aload_n 0,1),(36,.invokevirtual 25,3),(39,.i2l,1),(40,.ladd,1),(41,.lstore_n 1,1),(42,.lload_n 1,1),(43,.ldc2_w 17,3),(46,.lmul,1),(47,.aload_n 0,1),(48,.invokevirtual 28,3),(51,.i2l,1),(52,.ladd,1),(53,.lstore_n 1,1),(54,.lload_n 1,1),(55,.ldc2_w 17,3),(58,.lmul,1),(59,.aload_n 0,1),(60,.invokevirtual 31,3),(63,.i2l,1),(64,.ladd,1),(65,.lstore_n 1,1),(66,.lload_n 1,1),(67,.ldc2_w 17,3),(70,.lmul,1),(71,.aload_n 0,1),(72,.invokevirtual 34,3),(75,.i2l,1),(76,.ladd,1),(77,.lstore_n 1,1),(78,.iconst 0,1),(79,.istore_n 3,1),(80,.iload_n 3,1),(81,.bipush 16,2),(83,.if_icmp .ge 22,3),(86,.lload_n 1,1),(87,.ldc2_w 17,3),(90,.lmul,1),(91,.aload_n 0,1),(92,.iload_n 3,1),(93,.invokevirtual 37,3),(96,.i2l,1),(97,.ladd,1),(98,.lstore_n 1,1),(99,.iinc 3 1,3),(102,.goto (-22),3),(105,.lload_n 1,1),(106,.lreturn,1)] (by decide +kernel)
abbrev y43 : MethodName := ⟨"FatPointerCL7", "snap", "(LFatPointerC;)J"⟩
theorem hy43 : y43.cls ≠ "java/lang/invoke/MethodHandle" ∧ y43.cls ≠ "java/lang/invoke/VarHandle" := by decide
theorem pd43 : parseMethodDescriptor y43.desc = some ⟨[.object "FatPointerC"], some .long⟩ := by decide +kernel
abbrev R43 : Room := { frames := 1, cells := 0, slots := 0, locals := 15 }
abbrev P43 (s : St) (r : Int64) : Option Value → List OwnC → Prop := fun v H' => v = some (.long r) ∧ H' = (Hb 0 s)
abbrev W43 (l : Launch) (Z : State) (n0 : Nat) := WP l Z CN lay "FatPointerCL7" "snap" method_3_code 4 (some FieldType.long) R43 n0 0
def g_L_snap_80 (k80 : KT10) (n : Nat) (v1 : Int64) (v3 : Int32) (s : St) : Option (Int64) :=
 if v3 < (16 : Int32) then
  (f_outValue v3 s).bind fun c2 =>
  lt ((v1 * (1000003 : Int64)) + c2.toInt64) fun x3 =>
  lt (v3 + (1 : Int32)) fun x4 =>
  k80 x3 x4 s
 else
  some v1
abbrev HK43_80 (l : Launch) (Z : State) (n0 : Nat) (k80 : KT10) : Prop := ∀ (v1 : Int64) (v3 : Int32) (s : St) (r : Int64), k80 v1 v3 s = some r → W43 l Z n0 (P43 s r) 0 0 80 [vR 0,vJ v1,vS,vI v3] [] (Hb 0 s)
theorem okg43_80 (hw : HW a0 Z) (n0 : Nat) (k80 : KT10) (hk80 : HK43_80 l Z n0 k80) (n : Nat) (v1 : Int64) (v3 : Int32) (s : St) (r : Int64) (h : g_L_snap_80 k80 n v1 v3 s = some r) : W43 l Z n0 (P43 s r) 0 0 80 [vR 0,vJ v1,vS,vI v3] [] (Hb 0 s) := by
 unfold g_L_snap_80 at h
 refine xC (D43 54) rfl (xG 16 (D43 55) rfl ?_)
 rcases ite_e h with ⟨hc1, h⟩ | ⟨hc1, h⟩
 ·
  refine xJ (D43 56) (XT.ii_ge_f hc1) (yH (D43 57) rfl (yM (D43 58) (m292 hw) (yO (D43 59) (xA (D43 60) rfl (xC (D43 61) rfl ?_)))))
  obtain ⟨c2, hc2, h⟩ := bd h
  refine yF (i := 0) (y := y50) (as := [.int v3]) (S := [.long (v1 * (1000003 : Int64))]) (D43 62) (m323 hw) (m324 hw) (m326 hw) (m325 hw) (m327 hw) (m2 hw) hy50 rfl (ok50 hw v3 s _ hc2) rfl (lenOf pd50 rfl) (leb rfl) (leb rfl) (leb rfl) (leb rfl) ?_
  rintro _ _ ⟨rfl, rfl⟩
  show W43 l Z n0 (P43 s r) 0 0 96 [vR 0,vJ v1,vS,vI v3] [.int c2, .long (v1 * (1000003 : Int64))] (Hb 0 s)
  refine yG (D43 63) (yJ (D43 64) ?_)
  obtain ⟨x3, ex3, h⟩ := lt_e h
  refine yL (L' := [vR 0,vJ x3,vS,vI v3]) (D43 65) (leb rfl) (by subst ex3; rfl) ?_
  obtain ⟨x4, ex4, h⟩ := lt_e h
  exact yC (L' := [vR 0,vJ x3,vS,vI x4]) (1 : Int32) (D43 66) rfl rfl (by subst ex4; rfl) (xV (pc' := 80) (D43 67) (by decide) rfl (xE (L' := [vR 0,vJ x3,vS,vI x4]) ⟨rfl, rfl, rfl, rfl, trivial⟩ (hk80 x3 x4 s _ h)))
 ·
  refine xI (pc' := 105) (D43 56) (XT.ii_ge_t hc1) (by decide) rfl (yH (D43 68) rfl ?_)
  cases h
  exact WP.lreturn (D43 69) rfl (leb rfl) (leb rfl) ⟨rfl, rfl⟩
def f_L_snap_80 : Nat → Int64 → Int32 → St → Option (Int64)
 | 0 => fun _ _ _ => none
 | n + 1 => g_L_snap_80 (f_L_snap_80 n) n
theorem ok43_80 (hw : HW a0 Z) (n0 : Nat) : ∀ (n : Nat) (v1 : Int64) (v3 : Int32) (s : St) (r : Int64), f_L_snap_80 n v1 v3 s = some r → W43 l Z n0 (P43 s r) 0 0 80 [vR 0,vJ v1,vS,vI v3] [] (Hb 0 s)
 | 0, v1, v3, s, r, h => nomatch (show none = some r from h)
 | n + 1, v1, v3, s, r, h => okg43_80 hw n0 _ (ok43_80 hw n0 n) n v1 v3 s r h
def f_L_snap (n : Nat) (s : St) : Option (Int64) :=
 (f_status s).bind fun c1 =>
 lt (c1.toInt64) fun x2 =>
 (f_trapSite s).bind fun c3 =>
 lt ((x2 * (1000003 : Int64)) + c3.toInt64) fun x4 =>
 (f_frames s).bind fun c5 =>
 lt ((x4 * (1000003 : Int64)) + c5.toInt64) fun x6 =>
 (f_resultKind s).bind fun c7 =>
 lt ((x6 * (1000003 : Int64)) + c7.toInt64) fun x8 =>
 (f_resultValue s).bind fun c9 =>
 lt ((x8 * (1000003 : Int64)) + c9.toInt64) fun x10 =>
 (f_resultSize s).bind fun c11 =>
 lt ((x10 * (1000003 : Int64)) + c11.toInt64) fun x12 =>
 (f_outCount s).bind fun c13 =>
 lt ((x12 * (1000003 : Int64)) + c13.toInt64) fun x14 =>
 f_L_snap_80 n x14 (0 : Int32) s
theorem ok43 (hw : HW a0 Z) (n : Nat) (s : St) (r : Int64) (h : f_L_snap n s = some r) : CS l Z CN lay y43 method_3_code 4 (some FieldType.long) R43 0 [.ref 0] (Hb 0 s) (P43 s r) := by
 refine CS.of_wp pn_law (leb rfl) fun n0 => ?_
 show W43 l Z n0 (P43 s r) 0 0 0 [vR 0,vU,vU,vU] [] (Hb 0 s)
 unfold f_L_snap at h
 refine xA (D43 0) rfl ?_
 obtain ⟨c1, hc1, h⟩ := bd h
 refine yF (i := 0) (y := y26) (as := []) (S := []) (D43 1) (m208 hw) (m209 hw) (m211 hw) (m210 hw) (m212 hw) (m2 hw) hy26 rfl (ok26 hw s _ hc1) rfl (lenOf pd26 rfl) (leb rfl) (leb rfl) (leb rfl) (leb rfl) ?_
 rintro _ _ ⟨rfl, rfl⟩
 show W43 l Z n0 (P43 s r) 0 0 4 [vR 0,vU,vU,vU] [.int c1] (Hb 0 s)
 refine yG (D43 2) ?_
 obtain ⟨x2, ex2, h⟩ := lt_e h
 refine yL (L' := [vR 0,vJ x2,vS,vU]) (D43 3) (leb rfl) (by subst ex2; rfl) (yH (D43 4) rfl (yM (D43 5) (m292 hw) (yO (D43 6) (xA (D43 7) rfl ?_))))
 obtain ⟨c3, hc3, h⟩ := bd h
 refine yF (i := 0) (y := y44) (as := []) (S := [.long (x2 * (1000003 : Int64))]) (D43 8) (m293 hw) (m294 hw) (m296 hw) (m295 hw) (m297 hw) (m2 hw) hy44 rfl (ok44 hw s _ hc3) rfl (lenOf pd44 rfl) (leb rfl) (leb rfl) (leb rfl) (leb rfl) ?_
 rintro _ _ ⟨rfl, rfl⟩
 show W43 l Z n0 (P43 s r) 0 0 15 [vR 0,vJ x2,vS,vU] [.int c3, .long (x2 * (1000003 : Int64))] (Hb 0 s)
 refine yG (D43 9) (yJ (D43 10) ?_)
 obtain ⟨x4, ex4, h⟩ := lt_e h
 refine yL (L' := [vR 0,vJ x4,vS,vU]) (D43 11) (leb rfl) (by subst ex4; rfl) (yH (D43 12) rfl (yM (D43 13) (m292 hw) (yO (D43 14) (xA (D43 15) rfl ?_))))
 obtain ⟨c5, hc5, h⟩ := bd h
 refine yF (i := 0) (y := y45) (as := []) (S := [.long (x4 * (1000003 : Int64))]) (D43 16) (m298 hw) (m299 hw) (m301 hw) (m300 hw) (m302 hw) (m2 hw) hy45 rfl (ok45 hw s _ hc5) rfl (lenOf pd45 rfl) (leb rfl) (leb rfl) (leb rfl) (leb rfl) ?_
 rintro _ _ ⟨rfl, rfl⟩
 show W43 l Z n0 (P43 s r) 0 0 27 [vR 0,vJ x4,vS,vU] [.int c5, .long (x4 * (1000003 : Int64))] (Hb 0 s)
 refine yG (D43 17) (yJ (D43 18) ?_)
 obtain ⟨x6, ex6, h⟩ := lt_e h
 refine yL (L' := [vR 0,vJ x6,vS,vU]) (D43 19) (leb rfl) (by subst ex6; rfl) (yH (D43 20) rfl (yM (D43 21) (m292 hw) (yO (D43 22) (xA (D43 23) rfl ?_))))
 obtain ⟨c7, hc7, h⟩ := bd h
 refine yF (i := 0) (y := y46) (as := []) (S := [.long (x6 * (1000003 : Int64))]) (D43 24) (m303 hw) (m304 hw) (m306 hw) (m305 hw) (m307 hw) (m2 hw) hy46 rfl (ok46 hw s _ hc7) rfl (lenOf pd46 rfl) (leb rfl) (leb rfl) (leb rfl) (leb rfl) ?_
 rintro _ _ ⟨rfl, rfl⟩
 show W43 l Z n0 (P43 s r) 0 0 39 [vR 0,vJ x6,vS,vU] [.int c7, .long (x6 * (1000003 : Int64))] (Hb 0 s)
 refine yG (D43 25) (yJ (D43 26) ?_)
 obtain ⟨x8, ex8, h⟩ := lt_e h
 refine yL (L' := [vR 0,vJ x8,vS,vU]) (D43 27) (leb rfl) (by subst ex8; rfl) (yH (D43 28) rfl (yM (D43 29) (m292 hw) (yO (D43 30) (xA (D43 31) rfl ?_))))
 obtain ⟨c9, hc9, h⟩ := bd h
 refine yF (i := 0) (y := y47) (as := []) (S := [.long (x8 * (1000003 : Int64))]) (D43 32) (m308 hw) (m309 hw) (m311 hw) (m310 hw) (m312 hw) (m2 hw) hy47 rfl (ok47 hw s _ hc9) rfl (lenOf pd47 rfl) (leb rfl) (leb rfl) (leb rfl) (leb rfl) ?_
 rintro _ _ ⟨rfl, rfl⟩
 show W43 l Z n0 (P43 s r) 0 0 51 [vR 0,vJ x8,vS,vU] [.int c9, .long (x8 * (1000003 : Int64))] (Hb 0 s)
 refine yG (D43 33) (yJ (D43 34) ?_)
 obtain ⟨x10, ex10, h⟩ := lt_e h
 refine yL (L' := [vR 0,vJ x10,vS,vU]) (D43 35) (leb rfl) (by subst ex10; rfl) (yH (D43 36) rfl (yM (D43 37) (m292 hw) (yO (D43 38) (xA (D43 39) rfl ?_))))
 obtain ⟨c11, hc11, h⟩ := bd h
 refine yF (i := 0) (y := y48) (as := []) (S := [.long (x10 * (1000003 : Int64))]) (D43 40) (m313 hw) (m314 hw) (m316 hw) (m315 hw) (m317 hw) (m2 hw) hy48 rfl (ok48 hw s _ hc11) rfl (lenOf pd48 rfl) (leb rfl) (leb rfl) (leb rfl) (leb rfl) ?_
 rintro _ _ ⟨rfl, rfl⟩
 show W43 l Z n0 (P43 s r) 0 0 63 [vR 0,vJ x10,vS,vU] [.int c11, .long (x10 * (1000003 : Int64))] (Hb 0 s)
 refine yG (D43 41) (yJ (D43 42) ?_)
 obtain ⟨x12, ex12, h⟩ := lt_e h
 refine yL (L' := [vR 0,vJ x12,vS,vU]) (D43 43) (leb rfl) (by subst ex12; rfl) (yH (D43 44) rfl (yM (D43 45) (m292 hw) (yO (D43 46) (xA (D43 47) rfl ?_))))
 obtain ⟨c13, hc13, h⟩ := bd h
 refine yF (i := 0) (y := y49) (as := []) (S := [.long (x12 * (1000003 : Int64))]) (D43 48) (m318 hw) (m319 hw) (m321 hw) (m320 hw) (m322 hw) (m2 hw) hy49 rfl (ok49 hw s _ hc13) rfl (lenOf pd49 rfl) (leb rfl) (leb rfl) (leb rfl) (leb rfl) ?_
 rintro _ _ ⟨rfl, rfl⟩
 show W43 l Z n0 (P43 s r) 0 0 75 [vR 0,vJ x12,vS,vU] [.int c13, .long (x12 * (1000003 : Int64))] (Hb 0 s)
 refine yG (D43 49) (yJ (D43 50) ?_)
 obtain ⟨x14, ex14, h⟩ := lt_e h
 exact yL (L' := [vR 0,vJ x14,vS,vU]) (D43 51) (leb rfl) (by subst ex14; rfl) (xB 0 (D43 52) rfl (xP (L' := [vR 0,vJ x14,vS,vI 0]) (D43 53) (leb rfl) rfl (xE (L' := [vR 0,vJ x14,vS,vI 0]) ⟨rfl, rfl, rfl, rfl, trivial⟩ (ok43_80 hw n0 n x14 (0 : Int32) s _ h))))
def fr0_f : List Nat := [1, 2, 3, 4, 5, 6, 7, 8, 9, 10, 11, 12, 13, 14, 15, 16, 17, 18, 19, 20, 21, 22, 23, 24, 25, 26, 27, 28, 29, 30, 31, 32, 33, 34]
theorem fr0_c (x0 : List Int32) (x1 : St) : fr0_f.map (fun i => ([cI x0] ++ Hb 1 x1)[i]?) = (Hb 0 x1).map (fun c => some (rnC (ro1 fr0_f ([cI x0] ++ Hb 1 x1).length) c)) := rfl
theorem fr0_l (x0 : List Int32) (x1 : St) : ∀ x ∈ fr0_f, x < ([cI x0] ++ Hb 1 x1).length := by show ∀ x ∈ fr0_f, x < 35; decide
theorem fr0_p (x0 : List Int32) (x1 y1 : St) : patch (ro1 fr0_f ([cI x0] ++ Hb 1 x1).length) fr0_f (Hb 0 y1) ([cI x0] ++ Hb 1 x1) = ([cI x0] ++ Hb 1 y1) := by
 have h := patch_seg (ro1 fr0_f ([cI x0] ++ Hb 1 x1).length) (Hb 0 y1) (Hb 1 x1) ([cI x0]) ([] : List OwnC) rfl
 rw [show List.range' ([cI x0]).length (Hb 0 y1).length = fr0_f from rfl, show (Hb 0 y1).map (rnC (ro1 fr0_f ([cI x0] ++ Hb 1 x1).length)) = (Hb 1 y1) from rfl] at h
 simpa only [List.append_assoc, List.append_nil, List.nil_append] using h
def fr1_f : List Nat := [1]
theorem fr1_c (x0 : List Int32) : fr1_f.map (fun i => ([cI x0] ++ [cO vs0])[i]?) = ([cO vs0]).map (fun c => some (rnC (ro1 fr1_f ([cI x0] ++ [cO vs0]).length) c)) := rfl
theorem fr1_l (x0 : List Int32) : ∀ x ∈ fr1_f, x < ([cI x0] ++ [cO vs0]).length := by show ∀ x ∈ fr1_f, x < 2; decide
theorem fr1_p (x0 : List Int32) (y1 : St) : patch (ro1 fr1_f ([cI x0] ++ [cO vs0]).length) fr1_f (Hb 0 y1) ([cI x0] ++ [cO vs0]) = ([cI x0] ++ Hb 1 y1) := rfl
abbrev PLAW (r : Int32) : Option Value → List OwnC → Prop := fun v _ => v = some (.int r)
abbrev WLAW (l : Launch) (Z : State) (n0 : Nat) := WP l Z CN lay "FatPointerCL7" "law" code maxLocals ret room_1 n0 1
def f_law_534 (k124 : KT5) (n : Nat) (v3 v4 : Int32) (a : List Int32) (s0 : St) : Option (Int32) :=
 lt (v4 + (3 : Int32)) fun x1 =>
 k124 v3 x1 a s0
abbrev HKLAW_124 (l : Launch) (Z : State) (n0 : Nat) (k124 : KT5) : Prop := ∀ (v3 v4 : Int32) (a : List Int32) (s0 : St) (r : Int32), k124 v3 v4 a s0 = some r → WLAW l Z n0 (PLAW r) 34 14040 124 [vR 0,vR 1,vU,vI v3,vI v4,vU,vU,vU] [] ([cI a] ++ Hb 1 s0)
theorem okLAW_534 (hw : HW a0 Z) (n0 : Nat) (k124 : KT5) (hk124 : HKLAW_124 l Z n0 k124) (n : Nat) (v3 v4 : Int32) (a : List Int32) (s0 : St) (r : Int32) (h : f_law_534 k124 n v3 v4 a s0 = some r) : WLAW l Z n0 (PLAW r) 34 14040 534 [vR 0,vR 1,vU,vI v3,vI v4,vU,vU,vU] [] ([cI a] ++ Hb 1 s0) := by
 unfold f_law_534 at h
 obtain ⟨x1, ex1, h⟩ := lt_e h
 exact yC (L' := [vR 0,vR 1,vU,vI v3,vI x1,vU,vU,vU]) (3 : Int32) at_534 rfl rfl (by subst ex1; rfl) (xV (pc' := 124) at_537 (by decide) rfl (xE (L' := [vR 0,vR 1,vU,vI v3,vI x1,vU,vU,vU]) ⟨rfl, rfl, rfl, rfl, trivial⟩ (hk124 v3 x1 a s0 _ h)))
def f_law_521 (k124 : KT5) (n : Nat) (v3 v4 v5 : Int32) (a : List Int32) (s0 : St) : Option (Int32) :=
 if v5 = (5 : Int32) then
  f_law_534 k124 n v3 v4 a s0
 else
  (f_L_k (17 : Int32) (0 : Int32) s0).bind fun c2 =>
  f_law_534 k124 n v3 v4 a c2
theorem okLAW_521 (hw : HW a0 Z) (n0 : Nat) (k124 : KT5) (hk124 : HKLAW_124 l Z n0 k124) (n : Nat) (v3 v4 v5 : Int32) (a : List Int32) (s0 : St) (r : Int32) (h : f_law_521 k124 n v3 v4 v5 a s0 = some r) : WLAW l Z n0 (PLAW r) 34 14040 521 [vR 0,vR 1,vU,vI v3,vI v4,vI v5,vU,vU] [] ([cI a] ++ Hb 1 s0) := by
 unfold f_law_521 at h
 refine xH at_521 rfl (xB 5 at_523 rfl ?_)
 rcases ite_e h with ⟨hc1, h⟩ | ⟨hc1, h⟩
 ·
  exact xI (pc' := 534) at_524 (XT.ii_eq_t hc1) (by decide) rfl (xE (L' := [vR 0,vR 1,vU,vI v3,vI v4,vU,vU,vU]) ⟨rfl, rfl, rfl, rfl, trivial⟩ (okLAW_534 hw n0 _ hk124 n v3 v4 a s0 _ h))
 ·
  refine xJ at_524 (XT.ii_eq_f hc1) (xA at_527 rfl (xG 17 at_528 rfl (xB 0 at_530 rfl ?_)))
  obtain ⟨c2, hc2, h⟩ := bd h
  refine xQ (y := y2) (as := [.ref 1, .int (17 : Int32), oN]) (S := []) at_531 (m99 hw) (m100 hw) (m101 hw) (m102 hw) hy2 (CS.frame (ro := 1) (H := ([cI a] ++ Hb 1 s0)) (as := [.ref 1, .int (17 : Int32), oN]) fr0_f (ok2 hw (17 : Int32) (0 : Int32) s0 _ hc2) rfl (by decide) (fr0_l a s0) (fr0_c a s0) (by decide) rfl) rfl (lenOf pd2 rfl) (leb rfl) (leb rfl) (leb rfl) (leb rfl) ?_
  rintro _ _ ⟨_, _, ⟨rfl, rfl⟩, e1_, e2_⟩
  rw [fr0_p a s0 c2] at e2_
  subst e1_ e2_
  show WLAW l Z n0 (PLAW r) 34 14040 534 [vR 0,vR 1,vU,vI v3,vI v4,vI v5,vU,vU] [] ([cI a] ++ Hb 1 c2)
  exact xE (L' := [vR 0,vR 1,vU,vI v3,vI v4,vU,vU,vU]) ⟨rfl, rfl, rfl, rfl, trivial⟩ (okLAW_534 hw n0 _ hk124 n v3 v4 a c2 _ h)
def f_law_588 (n : Nat) (a : List Int32) (s0 : St) : Option (Int32) :=
 some (0 : Int32)
theorem okLAW_588 (hw : HW a0 Z) (n0 n : Nat) (a : List Int32) (s0 : St) (r : Int32) (h : f_law_588 n a s0 = some r) : WLAW l Z n0 (PLAW r) 34 14040 588 [vU,vU,vU,vU,vU,vU,vU,vU] [] ([cI a] ++ Hb 1 s0) := by
 unfold f_law_588 at h
 refine xB 0 at_588 rfl ?_
 cases h
 exact xZ at_589 rfl (leb rfl) (leb rfl) rfl
def f_law_611 (n : Nat) (a : List Int32) (s0 : St) : Option (Int32) :=
 some (0 : Int32)
theorem okLAW_611 (hw : HW a0 Z) (n0 n : Nat) (a : List Int32) (s0 : St) (r : Int32) (h : f_law_611 n a s0 = some r) : WLAW l Z n0 (PLAW r) 34 14040 611 [vU,vU,vU,vU,vU,vU,vU,vU] [] ([cI a] ++ Hb 1 s0) := by
 unfold f_law_611 at h
 refine xB 0 at_611 rfl ?_
 cases h
 exact xZ at_612 rfl (leb rfl) (leb rfl) rfl
def f_law_647 (n : Nat) (a : List Int32) (s0 : St) : Option (Int32) :=
 some (0 : Int32)
theorem okLAW_647 (hw : HW a0 Z) (n0 n : Nat) (a : List Int32) (s0 : St) (r : Int32) (h : f_law_647 n a s0 = some r) : WLAW l Z n0 (PLAW r) 34 14040 647 [vU,vU,vU,vU,vU,vU,vU,vU] [] ([cI a] ++ Hb 1 s0) := by
 unfold f_law_647 at h
 refine xB 0 at_647 rfl ?_
 cases h
 exact xZ at_648 rfl (leb rfl) (leb rfl) rfl
def f_law_668 (n : Nat) (a : List Int32) (s0 : St) : Option (Int32) :=
 some (0 : Int32)
theorem okLAW_668 (hw : HW a0 Z) (n0 n : Nat) (a : List Int32) (s0 : St) (r : Int32) (h : f_law_668 n a s0 = some r) : WLAW l Z n0 (PLAW r) 34 14040 668 [vU,vU,vU,vU,vU,vU,vU,vU] [] ([cI a] ++ Hb 1 s0) := by
 unfold f_law_668 at h
 refine xB 0 at_668 rfl ?_
 cases h
 exact xZ at_669 rfl (leb rfl) (leb rfl) rfl
def f_law_685 (n : Nat) (a : List Int32) (s0 : St) : Option (Int32) :=
 some (0 : Int32)
theorem okLAW_685 (hw : HW a0 Z) (n0 n : Nat) (a : List Int32) (s0 : St) (r : Int32) (h : f_law_685 n a s0 = some r) : WLAW l Z n0 (PLAW r) 34 14040 685 [vU,vU,vU,vU,vU,vU,vU,vU] [] ([cI a] ++ Hb 1 s0) := by
 unfold f_law_685 at h
 refine xB 0 at_685 rfl ?_
 cases h
 exact xZ at_686 rfl (leb rfl) (leb rfl) rfl
def f_law_715 (n : Nat) (a : List Int32) (s0 : St) : Option (Int32) :=
 some (0 : Int32)
theorem okLAW_715 (hw : HW a0 Z) (n0 n : Nat) (a : List Int32) (s0 : St) (r : Int32) (h : f_law_715 n a s0 = some r) : WLAW l Z n0 (PLAW r) 34 14040 715 [vU,vU,vU,vU,vU,vU,vU,vU] [] ([cI a] ++ Hb 1 s0) := by
 unfold f_law_715 at h
 refine xB 0 at_715 rfl ?_
 cases h
 exact xZ at_716 rfl (leb rfl) (leb rfl) rfl
def f_law_540 (n : Nat) (a : List Int32) (s0 : St) : Option (Int32) :=
 (f_L_k (9 : Int32) (0 : Int32) s0).bind fun c1 =>
 (f_L_k (2 : Int32) (0 : Int32) c1).bind fun c2 =>
 (f_L_k (17 : Int32) (0 : Int32) c2).bind fun c3 =>
 (f_L_k (14 : Int32) (0 : Int32) c3).bind fun c4 =>
 (f_tokenCount c4).bind fun c5 =>
 (f_compile n c4).bind fun c6 =>
 if c6.1 = 0 then
  f_law_588 n a c6.2
 else
  (f_status c6.2).bind fun c8 =>
  if c8 = (-1 : Int32) then
   (f_run n c6.2).bind fun c10 =>
   if c10.1 = (-1 : Int32) then
    f_law_611 n a c10.2
   else
    (f_status c10.2).bind fun c12 =>
    if c10.1 = c12 then
     (f_L_snap n c10.2).bind fun c14 =>
     (f_tok (0 : Int32) (0 : Int32) c10.2).bind fun c15 =>
     if c15.1 = 0 then
      (f_tokenCount c15.2).bind fun c17 =>
      if c17 = c5 then
       (f_L_snap n c15.2).bind fun c19 =>
       if c19 = c14 then
        (f_run n c15.2).bind fun c21 =>
        if c21.1 = c10.1 then
         (f_L_snap n c21.2).bind fun c23 =>
         if c23 = c14 then
          (f_compile n c21.2).bind fun c25 =>
          if c25.1 = 0 then
           f_law_685 n a c25.2
          else
           (f_status c25.2).bind fun c27 =>
           if c27 = (-1 : Int32) then
            (f_run n c25.2).bind fun c29 =>
            if c29.1 = c10.1 then
             (f_L_snap n c29.2).bind fun c31 =>
             if c31 = c14 then
              (f_tokenCount c29.2).bind fun c33 =>
              if c33 = c5 then
               some (1 : Int32)
              else
               f_law_715 n a c29.2
             else
              f_law_715 n a c29.2
            else
             f_law_715 n a c29.2
           else
            f_law_685 n a c25.2
         else
          f_law_668 n a c21.2
        else
         f_law_668 n a c21.2
       else
        f_law_647 n a c15.2
      else
       f_law_647 n a c15.2
     else
      f_law_647 n a c15.2
    else
     f_law_611 n a c10.2
  else
   f_law_588 n a c6.2
theorem okLAW_540 (hw : HW a0 Z) (n0 n : Nat) (a : List Int32) (s0 : St) (r : Int32) (h : f_law_540 n a s0 = some r) : WLAW l Z n0 (PLAW r) 34 14040 540 [vU,vR 1,vU,vU,vU,vU,vU,vU] [] ([cI a] ++ Hb 1 s0) := by
 unfold f_law_540 at h
 refine xA at_540 rfl (xG 9 at_541 rfl (xB 0 at_543 rfl ?_))
 obtain ⟨c1, hc1, h⟩ := bd h
 refine xQ (y := y2) (as := [.ref 1, .int (9 : Int32), oN]) (S := []) at_544 (m99 hw) (m100 hw) (m101 hw) (m102 hw) hy2 (CS.frame (ro := 1) (H := ([cI a] ++ Hb 1 s0)) (as := [.ref 1, .int (9 : Int32), oN]) fr0_f (ok2 hw (9 : Int32) (0 : Int32) s0 _ hc1) rfl (by decide) (fr0_l a s0) (fr0_c a s0) (by decide) rfl) rfl (lenOf pd2 rfl) (leb rfl) (leb rfl) (leb rfl) (leb rfl) ?_
 rintro _ _ ⟨_, _, ⟨rfl, rfl⟩, e1_, e2_⟩
 rw [fr0_p a s0 c1] at e2_
 subst e1_ e2_
 show WLAW l Z n0 (PLAW r) 34 14040 547 [vU,vR 1,vU,vU,vU,vU,vU,vU] [] ([cI a] ++ Hb 1 c1)
 refine xA at_547 rfl (xB 2 at_548 rfl (xB 0 at_549 rfl ?_))
 obtain ⟨c2, hc2, h⟩ := bd h
 refine xQ (y := y2) (as := [.ref 1, .int (2 : Int32), oN]) (S := []) at_550 (m99 hw) (m100 hw) (m101 hw) (m102 hw) hy2 (CS.frame (ro := 1) (H := ([cI a] ++ Hb 1 c1)) (as := [.ref 1, .int (2 : Int32), oN]) fr0_f (ok2 hw (2 : Int32) (0 : Int32) c1 _ hc2) rfl (by decide) (fr0_l a c1) (fr0_c a c1) (by decide) rfl) rfl (lenOf pd2 rfl) (leb rfl) (leb rfl) (leb rfl) (leb rfl) ?_
 rintro _ _ ⟨_, _, ⟨rfl, rfl⟩, e1_, e2_⟩
 rw [fr0_p a c1 c2] at e2_
 subst e1_ e2_
 show WLAW l Z n0 (PLAW r) 34 14040 553 [vU,vR 1,vU,vU,vU,vU,vU,vU] [] ([cI a] ++ Hb 1 c2)
 refine xA at_553 rfl (xG 17 at_554 rfl (xB 0 at_556 rfl ?_))
 obtain ⟨c3, hc3, h⟩ := bd h
 refine xQ (y := y2) (as := [.ref 1, .int (17 : Int32), oN]) (S := []) at_557 (m99 hw) (m100 hw) (m101 hw) (m102 hw) hy2 (CS.frame (ro := 1) (H := ([cI a] ++ Hb 1 c2)) (as := [.ref 1, .int (17 : Int32), oN]) fr0_f (ok2 hw (17 : Int32) (0 : Int32) c2 _ hc3) rfl (by decide) (fr0_l a c2) (fr0_c a c2) (by decide) rfl) rfl (lenOf pd2 rfl) (leb rfl) (leb rfl) (leb rfl) (leb rfl) ?_
 rintro _ _ ⟨_, _, ⟨rfl, rfl⟩, e1_, e2_⟩
 rw [fr0_p a c2 c3] at e2_
 subst e1_ e2_
 show WLAW l Z n0 (PLAW r) 34 14040 560 [vU,vR 1,vU,vU,vU,vU,vU,vU] [] ([cI a] ++ Hb 1 c3)
 refine xA at_560 rfl (xG 14 at_561 rfl (xB 0 at_563 rfl ?_))
 obtain ⟨c4, hc4, h⟩ := bd h
 refine xQ (y := y2) (as := [.ref 1, .int (14 : Int32), oN]) (S := []) at_564 (m99 hw) (m100 hw) (m101 hw) (m102 hw) hy2 (CS.frame (ro := 1) (H := ([cI a] ++ Hb 1 c3)) (as := [.ref 1, .int (14 : Int32), oN]) fr0_f (ok2 hw (14 : Int32) (0 : Int32) c3 _ hc4) rfl (by decide) (fr0_l a c3) (fr0_c a c3) (by decide) rfl) rfl (lenOf pd2 rfl) (leb rfl) (leb rfl) (leb rfl) (leb rfl) ?_
 rintro _ _ ⟨_, _, ⟨rfl, rfl⟩, e1_, e2_⟩
 rw [fr0_p a c3 c4] at e2_
 subst e1_ e2_
 show WLAW l Z n0 (PLAW r) 34 14040 567 [vU,vR 1,vU,vU,vU,vU,vU,vU] [] ([cI a] ++ Hb 1 c4)
 refine xA at_567 rfl ?_
 obtain ⟨c5, hc5, h⟩ := bd h
 refine yF (i := 1) (y := y4) (as := []) (S := []) at_568 (m112 hw) (m113 hw) (m115 hw) (m114 hw) (m116 hw) (m2 hw) hy4 rfl (CS.frame (ro := 1) (H := ([cI a] ++ Hb 1 c4)) (as := [.ref 1]) fr0_f (ok4 hw c4 _ hc5) rfl (by decide) (fr0_l a c4) (fr0_c a c4) (by decide) rfl) rfl (lenOf pd4 rfl) (leb rfl) (leb rfl) (leb rfl) (leb rfl) ?_
 rintro _ _ ⟨_, _, ⟨rfl, rfl⟩, e1_, e2_⟩
 rw [fr0_p a c4 c4] at e2_
 subst e1_ e2_
 show WLAW l Z n0 (PLAW r) 34 14040 571 [vU,vR 1,vU,vU,vU,vU,vU,vU] [.int c5] ([cI a] ++ Hb 1 c4)
 refine xR (L' := [vU,vR 1,vU,vU,vI c5,vU,vU,vU]) at_571 (leb rfl) rfl (xA at_573 rfl ?_)
 obtain ⟨c6, hc6, h⟩ := bd h
 refine yF (i := 1) (y := y5) (as := []) (S := []) at_574 (m117 hw) (m118 hw) (m120 hw) (m119 hw) (m121 hw) (m2 hw) hy5 rfl (CS.frame (ro := 1) (H := ([cI a] ++ Hb 1 c4)) (as := [.ref 1]) fr0_f (ok5 hw n c4 _ hc6) rfl (by decide) (fr0_l a c4) (fr0_c a c4) (by decide) rfl) rfl (lenOf pd5 rfl) (leb rfl) (leb rfl) (leb rfl) (leb rfl) ?_
 rintro _ _ ⟨_, _, ⟨rfl, rfl⟩, e1_, e2_⟩
 rw [fr0_p a c4 c6.2] at e2_
 subst e1_ e2_
 show WLAW l Z n0 (PLAW r) 34 14040 577 [vU,vR 1,vU,vU,vI c5,vU,vU,vU] [.int c6.1] ([cI a] ++ Hb 1 c6.2)
 rcases ite_e h with ⟨hc7, h⟩ | ⟨hc7, h⟩
 ·
  exact xL (pc' := 588) at_577 (XT.i0_eq_t hc7) (by decide) rfl (xE (L' := [vU,vU,vU,vU,vU,vU,vU,vU]) trivial (okLAW_588 hw n0 n a c6.2 _ h))
 ·
  refine xM at_577 (XT.i0_eq_f hc7) (xA at_580 rfl ?_)
  obtain ⟨c8, hc8, h⟩ := bd h
  refine yF (i := 1) (y := y26) (as := []) (S := []) at_581 (m208 hw) (m209 hw) (m211 hw) (m210 hw) (m212 hw) (m2 hw) hy26 rfl (CS.frame (ro := 1) (H := ([cI a] ++ Hb 1 c6.2)) (as := [.ref 1]) fr0_f (ok26 hw c6.2 _ hc8) rfl (by decide) (fr0_l a c6.2) (fr0_c a c6.2) (by decide) rfl) rfl (lenOf pd26 rfl) (leb rfl) (leb rfl) (leb rfl) (leb rfl) ?_
  rintro _ _ ⟨_, _, ⟨rfl, rfl⟩, e1_, e2_⟩
  rw [fr0_p a c6.2 c6.2] at e2_
  subst e1_ e2_
  show WLAW l Z n0 (PLAW r) 34 14040 584 [vU,vR 1,vU,vU,vI c5,vU,vU,vU] [.int c8] ([cI a] ++ Hb 1 c6.2)
  refine xB (-1) at_584 rfl ?_
  rcases ite_e h with ⟨hc9, h⟩ | ⟨hc9, h⟩
  ·
   refine xI (pc' := 590) at_585 (XT.ii_eq_t hc9) (by decide) rfl (xA at_590 rfl ?_)
   obtain ⟨c10, hc10, h⟩ := bd h
   refine yF (i := 1) (y := y27) (as := []) (S := []) at_591 (m213 hw) (m214 hw) (m216 hw) (m215 hw) (m217 hw) (m2 hw) hy27 rfl (CS.frame (ro := 1) (H := ([cI a] ++ Hb 1 c6.2)) (as := [.ref 1]) fr0_f (ok27 hw n c6.2 _ hc10) rfl (by decide) (fr0_l a c6.2) (fr0_c a c6.2) (by decide) rfl) rfl (lenOf pd27 rfl) (leb rfl) (leb rfl) (leb rfl) (leb rfl) ?_
   rintro _ _ ⟨_, _, ⟨rfl, rfl⟩, e1_, e2_⟩
   rw [fr0_p a c6.2 c10.2] at e2_
   subst e1_ e2_
   show WLAW l Z n0 (PLAW r) 34 14040 594 [vU,vR 1,vU,vU,vI c5,vU,vU,vU] [.int c10.1] ([cI a] ++ Hb 1 c10.2)
   refine xR (L' := [vU,vR 1,vU,vU,vI c5,vI c10.1,vU,vU]) at_594 (leb rfl) rfl (xH at_596 rfl (xB (-1) at_598 rfl ?_))
   rcases ite_e h with ⟨hc11, h⟩ | ⟨hc11, h⟩
   ·
    exact xI (pc' := 611) at_599 (XT.ii_eq_t hc11) (by decide) rfl (xE (L' := [vU,vU,vU,vU,vU,vU,vU,vU]) trivial (okLAW_611 hw n0 n a c10.2 _ h))
   ·
    refine xJ at_599 (XT.ii_eq_f hc11) (xH at_602 rfl (xA at_604 rfl ?_))
    obtain ⟨c12, hc12, h⟩ := bd h
    refine yF (i := 1) (y := y26) (as := []) (S := [.int c10.1]) at_605 (m208 hw) (m209 hw) (m211 hw) (m210 hw) (m212 hw) (m2 hw) hy26 rfl (CS.frame (ro := 1) (H := ([cI a] ++ Hb 1 c10.2)) (as := [.ref 1]) fr0_f (ok26 hw c10.2 _ hc12) rfl (by decide) (fr0_l a c10.2) (fr0_c a c10.2) (by decide) rfl) rfl (lenOf pd26 rfl) (leb rfl) (leb rfl) (leb rfl) (leb rfl) ?_
    rintro _ _ ⟨_, _, ⟨rfl, rfl⟩, e1_, e2_⟩
    rw [fr0_p a c10.2 c10.2] at e2_
    subst e1_ e2_
    show WLAW l Z n0 (PLAW r) 34 14040 608 [vU,vR 1,vU,vU,vI c5,vI c10.1,vU,vU] [.int c12, .int c10.1] ([cI a] ++ Hb 1 c10.2)
    rcases ite_e h with ⟨hc13, h⟩ | ⟨hc13, h⟩
    ·
     refine xI (pc' := 613) at_608 (XT.ii_eq_t hc13) (by decide) rfl (xA at_613 rfl ?_)
     obtain ⟨c14, hc14, h⟩ := bd h
     refine xQ (y := y43) (as := [.ref 1]) (S := []) at_614 (m289 hw) (m290 hw) (m101 hw) (m291 hw) hy43 (CS.frame (ro := 1) (H := ([cI a] ++ Hb 1 c10.2)) (as := [.ref 1]) fr0_f (ok43 hw n c10.2 _ hc14) rfl (by decide) (fr0_l a c10.2) (fr0_c a c10.2) (by decide) rfl) rfl (lenOf pd43 rfl) (leb rfl) (leb rfl) (leb rfl) (leb rfl) ?_
     rintro _ _ ⟨_, _, ⟨rfl, rfl⟩, e1_, e2_⟩
     rw [fr0_p a c10.2 c10.2] at e2_
     subst e1_ e2_
     show WLAW l Z n0 (PLAW r) 34 14040 617 [vU,vR 1,vU,vU,vI c5,vI c10.1,vU,vU] [.long c14] ([cI a] ++ Hb 1 c10.2)
     refine WP.lstore (L' := [vU,vR 1,vU,vU,vI c5,vI c10.1,vJ c14,vS]) at_617 (leb rfl) rfl (xA at_619 rfl (xB 0 at_620 rfl (xB 0 at_621 rfl ?_)))
     obtain ⟨c15, hc15, h⟩ := bd h
     refine yF (i := 1) (y := y3) (as := [oN, oN]) (S := []) at_622 (m103 hw) (m104 hw) (m106 hw) (m105 hw) (m107 hw) (m2 hw) hy3 rfl (CS.frame (ro := 1) (H := ([cI a] ++ Hb 1 c10.2)) (as := [.ref 1, oN, oN]) fr0_f (ok3 hw (0 : Int32) (0 : Int32) c10.2 _ hc15) rfl (by decide) (fr0_l a c10.2) (fr0_c a c10.2) (by decide) rfl) rfl (lenOf pd3 rfl) (leb rfl) (leb rfl) (leb rfl) (leb rfl) ?_
     rintro _ _ ⟨_, _, ⟨rfl, rfl⟩, e1_, e2_⟩
     rw [fr0_p a c10.2 c15.2] at e2_
     subst e1_ e2_
     show WLAW l Z n0 (PLAW r) 34 14040 625 [vU,vR 1,vU,vU,vI c5,vI c10.1,vJ c14,vS] [.int c15.1] ([cI a] ++ Hb 1 c15.2)
     rcases ite_e h with ⟨hc16, h⟩ | ⟨hc16, h⟩
     ·
      refine xM at_625 (XT.i0_ne_f hc16) (xA at_628 rfl ?_)
      obtain ⟨c17, hc17, h⟩ := bd h
      refine yF (i := 1) (y := y4) (as := []) (S := []) at_629 (m112 hw) (m113 hw) (m115 hw) (m114 hw) (m116 hw) (m2 hw) hy4 rfl (CS.frame (ro := 1) (H := ([cI a] ++ Hb 1 c15.2)) (as := [.ref 1]) fr0_f (ok4 hw c15.2 _ hc17) rfl (by decide) (fr0_l a c15.2) (fr0_c a c15.2) (by decide) rfl) rfl (lenOf pd4 rfl) (leb rfl) (leb rfl) (leb rfl) (leb rfl) ?_
      rintro _ _ ⟨_, _, ⟨rfl, rfl⟩, e1_, e2_⟩
      rw [fr0_p a c15.2 c15.2] at e2_
      subst e1_ e2_
      show WLAW l Z n0 (PLAW r) 34 14040 632 [vU,vR 1,vU,vU,vI c5,vI c10.1,vJ c14,vS] [.int c17] ([cI a] ++ Hb 1 c15.2)
      refine xH at_632 rfl ?_
      rcases ite_e h with ⟨hc18, h⟩ | ⟨hc18, h⟩
      ·
       refine xJ at_634 (XT.ii_ne_f hc18) (xA at_637 rfl ?_)
       obtain ⟨c19, hc19, h⟩ := bd h
       refine xQ (y := y43) (as := [.ref 1]) (S := []) at_638 (m289 hw) (m290 hw) (m101 hw) (m291 hw) hy43 (CS.frame (ro := 1) (H := ([cI a] ++ Hb 1 c15.2)) (as := [.ref 1]) fr0_f (ok43 hw n c15.2 _ hc19) rfl (by decide) (fr0_l a c15.2) (fr0_c a c15.2) (by decide) rfl) rfl (lenOf pd43 rfl) (leb rfl) (leb rfl) (leb rfl) (leb rfl) ?_
       rintro _ _ ⟨_, _, ⟨rfl, rfl⟩, e1_, e2_⟩
       rw [fr0_p a c15.2 c15.2] at e2_
       subst e1_ e2_
       show WLAW l Z n0 (PLAW r) 34 14040 641 [vU,vR 1,vU,vU,vI c5,vI c10.1,vJ c14,vS] [.long c19] ([cI a] ++ Hb 1 c15.2)
       refine yQ at_641 rfl (yP at_643 ?_)
       rcases ite_e h with ⟨hc20, h⟩ | ⟨hc20, h⟩
       ·
        refine xL (pc' := 649) at_644 (XT.ll_eq_t hc20) (by decide) rfl (xA at_649 rfl ?_)
        obtain ⟨c21, hc21, h⟩ := bd h
        refine yF (i := 1) (y := y27) (as := []) (S := []) at_650 (m213 hw) (m214 hw) (m216 hw) (m215 hw) (m217 hw) (m2 hw) hy27 rfl (CS.frame (ro := 1) (H := ([cI a] ++ Hb 1 c15.2)) (as := [.ref 1]) fr0_f (ok27 hw n c15.2 _ hc21) rfl (by decide) (fr0_l a c15.2) (fr0_c a c15.2) (by decide) rfl) rfl (lenOf pd27 rfl) (leb rfl) (leb rfl) (leb rfl) (leb rfl) ?_
        rintro _ _ ⟨_, _, ⟨rfl, rfl⟩, e1_, e2_⟩
        rw [fr0_p a c15.2 c21.2] at e2_
        subst e1_ e2_
        show WLAW l Z n0 (PLAW r) 34 14040 653 [vU,vR 1,vU,vU,vI c5,vI c10.1,vJ c14,vS] [.int c21.1] ([cI a] ++ Hb 1 c21.2)
        refine xH at_653 rfl ?_
        rcases ite_e h with ⟨hc22, h⟩ | ⟨hc22, h⟩
        ·
         refine xJ at_655 (XT.ii_ne_f hc22) (xA at_658 rfl ?_)
         obtain ⟨c23, hc23, h⟩ := bd h
         refine xQ (y := y43) (as := [.ref 1]) (S := []) at_659 (m289 hw) (m290 hw) (m101 hw) (m291 hw) hy43 (CS.frame (ro := 1) (H := ([cI a] ++ Hb 1 c21.2)) (as := [.ref 1]) fr0_f (ok43 hw n c21.2 _ hc23) rfl (by decide) (fr0_l a c21.2) (fr0_c a c21.2) (by decide) rfl) rfl (lenOf pd43 rfl) (leb rfl) (leb rfl) (leb rfl) (leb rfl) ?_
         rintro _ _ ⟨_, _, ⟨rfl, rfl⟩, e1_, e2_⟩
         rw [fr0_p a c21.2 c21.2] at e2_
         subst e1_ e2_
         show WLAW l Z n0 (PLAW r) 34 14040 662 [vU,vR 1,vU,vU,vI c5,vI c10.1,vJ c14,vS] [.long c23] ([cI a] ++ Hb 1 c21.2)
         refine yQ at_662 rfl (yP at_664 ?_)
         rcases ite_e h with ⟨hc24, h⟩ | ⟨hc24, h⟩
         ·
          refine xL (pc' := 670) at_665 (XT.ll_eq_t hc24) (by decide) rfl (xA at_670 rfl ?_)
          obtain ⟨c25, hc25, h⟩ := bd h
          refine yF (i := 1) (y := y5) (as := []) (S := []) at_671 (m117 hw) (m118 hw) (m120 hw) (m119 hw) (m121 hw) (m2 hw) hy5 rfl (CS.frame (ro := 1) (H := ([cI a] ++ Hb 1 c21.2)) (as := [.ref 1]) fr0_f (ok5 hw n c21.2 _ hc25) rfl (by decide) (fr0_l a c21.2) (fr0_c a c21.2) (by decide) rfl) rfl (lenOf pd5 rfl) (leb rfl) (leb rfl) (leb rfl) (leb rfl) ?_
          rintro _ _ ⟨_, _, ⟨rfl, rfl⟩, e1_, e2_⟩
          rw [fr0_p a c21.2 c25.2] at e2_
          subst e1_ e2_
          show WLAW l Z n0 (PLAW r) 34 14040 674 [vU,vR 1,vU,vU,vI c5,vI c10.1,vJ c14,vS] [.int c25.1] ([cI a] ++ Hb 1 c25.2)
          rcases ite_e h with ⟨hc26, h⟩ | ⟨hc26, h⟩
          ·
           exact xL (pc' := 685) at_674 (XT.i0_eq_t hc26) (by decide) rfl (xE (L' := [vU,vU,vU,vU,vU,vU,vU,vU]) trivial (okLAW_685 hw n0 n a c25.2 _ h))
          ·
           refine xM at_674 (XT.i0_eq_f hc26) (xA at_677 rfl ?_)
           obtain ⟨c27, hc27, h⟩ := bd h
           refine yF (i := 1) (y := y26) (as := []) (S := []) at_678 (m208 hw) (m209 hw) (m211 hw) (m210 hw) (m212 hw) (m2 hw) hy26 rfl (CS.frame (ro := 1) (H := ([cI a] ++ Hb 1 c25.2)) (as := [.ref 1]) fr0_f (ok26 hw c25.2 _ hc27) rfl (by decide) (fr0_l a c25.2) (fr0_c a c25.2) (by decide) rfl) rfl (lenOf pd26 rfl) (leb rfl) (leb rfl) (leb rfl) (leb rfl) ?_
           rintro _ _ ⟨_, _, ⟨rfl, rfl⟩, e1_, e2_⟩
           rw [fr0_p a c25.2 c25.2] at e2_
           subst e1_ e2_
           show WLAW l Z n0 (PLAW r) 34 14040 681 [vU,vR 1,vU,vU,vI c5,vI c10.1,vJ c14,vS] [.int c27] ([cI a] ++ Hb 1 c25.2)
           refine xB (-1) at_681 rfl ?_
           rcases ite_e h with ⟨hc28, h⟩ | ⟨hc28, h⟩
           ·
            refine xI (pc' := 687) at_682 (XT.ii_eq_t hc28) (by decide) rfl (xA at_687 rfl ?_)
            obtain ⟨c29, hc29, h⟩ := bd h
            refine yF (i := 1) (y := y27) (as := []) (S := []) at_688 (m213 hw) (m214 hw) (m216 hw) (m215 hw) (m217 hw) (m2 hw) hy27 rfl (CS.frame (ro := 1) (H := ([cI a] ++ Hb 1 c25.2)) (as := [.ref 1]) fr0_f (ok27 hw n c25.2 _ hc29) rfl (by decide) (fr0_l a c25.2) (fr0_c a c25.2) (by decide) rfl) rfl (lenOf pd27 rfl) (leb rfl) (leb rfl) (leb rfl) (leb rfl) ?_
            rintro _ _ ⟨_, _, ⟨rfl, rfl⟩, e1_, e2_⟩
            rw [fr0_p a c25.2 c29.2] at e2_
            subst e1_ e2_
            show WLAW l Z n0 (PLAW r) 34 14040 691 [vU,vR 1,vU,vU,vI c5,vI c10.1,vJ c14,vS] [.int c29.1] ([cI a] ++ Hb 1 c29.2)
            refine xH at_691 rfl ?_
            rcases ite_e h with ⟨hc30, h⟩ | ⟨hc30, h⟩
            ·
             refine xJ at_693 (XT.ii_ne_f hc30) (xA at_696 rfl ?_)
             obtain ⟨c31, hc31, h⟩ := bd h
             refine xQ (y := y43) (as := [.ref 1]) (S := []) at_697 (m289 hw) (m290 hw) (m101 hw) (m291 hw) hy43 (CS.frame (ro := 1) (H := ([cI a] ++ Hb 1 c29.2)) (as := [.ref 1]) fr0_f (ok43 hw n c29.2 _ hc31) rfl (by decide) (fr0_l a c29.2) (fr0_c a c29.2) (by decide) rfl) rfl (lenOf pd43 rfl) (leb rfl) (leb rfl) (leb rfl) (leb rfl) ?_
             rintro _ _ ⟨_, _, ⟨rfl, rfl⟩, e1_, e2_⟩
             rw [fr0_p a c29.2 c29.2] at e2_
             subst e1_ e2_
             show WLAW l Z n0 (PLAW r) 34 14040 700 [vU,vR 1,vU,vU,vI c5,vI c10.1,vJ c14,vS] [.long c31] ([cI a] ++ Hb 1 c29.2)
             refine yQ at_700 rfl (yP at_702 ?_)
             rcases ite_e h with ⟨hc32, h⟩ | ⟨hc32, h⟩
             ·
              refine xM at_703 (XT.ll_ne_f hc32) (xA at_706 rfl ?_)
              obtain ⟨c33, hc33, h⟩ := bd h
              refine yF (i := 1) (y := y4) (as := []) (S := []) at_707 (m112 hw) (m113 hw) (m115 hw) (m114 hw) (m116 hw) (m2 hw) hy4 rfl (CS.frame (ro := 1) (H := ([cI a] ++ Hb 1 c29.2)) (as := [.ref 1]) fr0_f (ok4 hw c29.2 _ hc33) rfl (by decide) (fr0_l a c29.2) (fr0_c a c29.2) (by decide) rfl) rfl (lenOf pd4 rfl) (leb rfl) (leb rfl) (leb rfl) (leb rfl) ?_
              rintro _ _ ⟨_, _, ⟨rfl, rfl⟩, e1_, e2_⟩
              rw [fr0_p a c29.2 c29.2] at e2_
              subst e1_ e2_
              show WLAW l Z n0 (PLAW r) 34 14040 710 [vU,vR 1,vU,vU,vI c5,vI c10.1,vJ c14,vS] [.int c33] ([cI a] ++ Hb 1 c29.2)
              refine xH at_710 rfl ?_
              rcases ite_e h with ⟨hc34, h⟩ | ⟨hc34, h⟩
              ·
               refine xI (pc' := 717) at_712 (XT.ii_eq_t hc34) (by decide) rfl (xB 1 at_717 rfl ?_)
               cases h
               exact xZ at_718 rfl (leb rfl) (leb rfl) rfl
              ·
               exact xJ at_712 (XT.ii_eq_f hc34) (xE (L' := [vU,vU,vU,vU,vU,vU,vU,vU]) trivial (okLAW_715 hw n0 n a c29.2 _ h))
             ·
              exact xL (pc' := 715) at_703 (XT.ll_ne_t hc32) (by decide) rfl (xE (L' := [vU,vU,vU,vU,vU,vU,vU,vU]) trivial (okLAW_715 hw n0 n a c29.2 _ h))
            ·
             exact xI (pc' := 715) at_693 (XT.ii_ne_t hc30) (by decide) rfl (xE (L' := [vU,vU,vU,vU,vU,vU,vU,vU]) trivial (okLAW_715 hw n0 n a c29.2 _ h))
           ·
            exact xJ at_682 (XT.ii_eq_f hc28) (xE (L' := [vU,vU,vU,vU,vU,vU,vU,vU]) trivial (okLAW_685 hw n0 n a c25.2 _ h))
         ·
          exact xM at_665 (XT.ll_eq_f hc24) (xE (L' := [vU,vU,vU,vU,vU,vU,vU,vU]) trivial (okLAW_668 hw n0 n a c21.2 _ h))
        ·
         exact xI (pc' := 668) at_655 (XT.ii_ne_t hc22) (by decide) rfl (xE (L' := [vU,vU,vU,vU,vU,vU,vU,vU]) trivial (okLAW_668 hw n0 n a c21.2 _ h))
       ·
        exact xM at_644 (XT.ll_eq_f hc20) (xE (L' := [vU,vU,vU,vU,vU,vU,vU,vU]) trivial (okLAW_647 hw n0 n a c15.2 _ h))
      ·
       exact xI (pc' := 647) at_634 (XT.ii_ne_t hc18) (by decide) rfl (xE (L' := [vU,vU,vU,vU,vU,vU,vU,vU]) trivial (okLAW_647 hw n0 n a c15.2 _ h))
     ·
      exact xL (pc' := 647) at_625 (XT.i0_ne_t hc16) (by decide) rfl (xE (L' := [vU,vU,vU,vU,vU,vU,vU,vU]) trivial (okLAW_647 hw n0 n a c15.2 _ h))
    ·
     exact xJ at_608 (XT.ii_eq_f hc13) (xE (L' := [vU,vU,vU,vU,vU,vU,vU,vU]) trivial (okLAW_611 hw n0 n a c10.2 _ h))
  ·
   exact xJ at_585 (XT.ii_eq_f hc9) (xE (L' := [vU,vU,vU,vU,vU,vU,vU,vU]) trivial (okLAW_588 hw n0 n a c6.2 _ h))
def g_law_124 (k124 : KT5) (n : Nat) (v3 v4 : Int32) (a : List Int32) (s0 : St) : Option (Int32) :=
 if (v4 + (2 : Int32)) < a.length.toInt32 then
  if v3 < (16 : Int32) then
   lt (v3 + (1 : Int32)) fun x3 =>
   (rd a v4).bind fun x4 =>
   lt (x4 &&& (7 : Int32)) fun x5 =>
   (rd a (v4 + (1 : Int32))).bind fun x6 =>
   lt ((x6 &&& (31 : Int32)) - (8 : Int32)) fun x7 =>
   (rd a (v4 + (2 : Int32))).bind fun x8 =>
   if x5 = 0 then
    (f_L_k (10 : Int32) (0 : Int32) s0).bind fun c10 =>
    (f_L_k (2 : Int32) (1 : Int32) c10).bind fun c11 =>
    (f_L_k (15 : Int32) (0 : Int32) c11).bind fun c12 =>
    (f_L_k (1 : Int32) x7 c12).bind fun c13 =>
    (f_L_k (16 : Int32) (0 : Int32) c13).bind fun c14 =>
    f_law_521 k124 n x3 v4 x5 a c14
   else
    if x5 = (1 : Int32) then
     (f_L_k (2 : Int32) (1 : Int32) s0).bind fun c16 =>
     (f_L_k (15 : Int32) (0 : Int32) c16).bind fun c17 =>
     (f_L_k (1 : Int32) x7 c17).bind fun c18 =>
     (f_L_k (16 : Int32) (0 : Int32) c18).bind fun c19 =>
     (f_L_k (19 : Int32) (0 : Int32) c19).bind fun c20 =>
     (f_L_k (1 : Int32) x8 c20).bind fun c21 =>
     f_law_521 k124 n x3 v4 x5 a c21
    else
     if x5 = (2 : Int32) then
      (f_L_k (2 : Int32) (0 : Int32) s0).bind fun c23 =>
      (f_L_k (19 : Int32) (0 : Int32) c23).bind fun c24 =>
      (f_L_k (2 : Int32) (1 : Int32) c24).bind fun c25 =>
      (f_L_k (20 : Int32) (0 : Int32) c25).bind fun c26 =>
      (f_L_k (1 : Int32) x7 c26).bind fun c27 =>
      f_law_521 k124 n x3 v4 x5 a c27
     else
      if x5 = (3 : Int32) then
       (f_L_k (10 : Int32) (0 : Int32) s0).bind fun c29 =>
       (f_L_k (22 : Int32) (0 : Int32) c29).bind fun c30 =>
       (f_L_k (2 : Int32) (0 : Int32) c30).bind fun c31 =>
       f_law_521 k124 n x3 v4 x5 a c31
      else
       if x5 = (4 : Int32) then
        (f_L_k (2 : Int32) (0 : Int32) s0).bind fun c33 =>
        (f_L_k (19 : Int32) (0 : Int32) c33).bind fun c34 =>
        (f_L_k (1 : Int32) x8 c34).bind fun c35 =>
        f_law_521 k124 n x3 v4 x5 a c35
       else
        if x5 = (5 : Int32) then
         (f_L_k (7 : Int32) (0 : Int32) s0).bind fun c37 =>
         (f_L_k (11 : Int32) (0 : Int32) c37).bind fun c38 =>
         (f_L_k (2 : Int32) (0 : Int32) c38).bind fun c39 =>
         (f_L_k (24 : Int32) (0 : Int32) c39).bind fun c40 =>
         (f_L_k (1 : Int32) (x7 * (16 : Int32)) c40).bind fun c41 =>
         (f_L_k (12 : Int32) (0 : Int32) c41).bind fun c42 =>
         (f_L_k (13 : Int32) (0 : Int32) c42).bind fun c43 =>
         (f_L_k (2 : Int32) (0 : Int32) c43).bind fun c44 =>
         (f_L_k (19 : Int32) (0 : Int32) c44).bind fun c45 =>
         (f_L_k (2 : Int32) (0 : Int32) c45).bind fun c46 =>
         (f_L_k (20 : Int32) (0 : Int32) c46).bind fun c47 =>
         (f_L_k (1 : Int32) (1 : Int32) c47).bind fun c48 =>
         (f_L_k (17 : Int32) (0 : Int32) c48).bind fun c49 =>
         (f_L_k (14 : Int32) (0 : Int32) c49).bind fun c50 =>
         f_law_521 k124 n x3 v4 x5 a c50
        else
         if x5 = (6 : Int32) then
          (f_L_k (22 : Int32) (0 : Int32) s0).bind fun c52 =>
          (f_L_k (2 : Int32) (0 : Int32) c52).bind fun c53 =>
          (f_L_k (19 : Int32) (0 : Int32) c53).bind fun c54 =>
          (f_L_k (1 : Int32) x8 c54).bind fun c55 =>
          f_law_521 k124 n x3 v4 x5 a c55
         else
          (f_L_k (10 : Int32) (0 : Int32) s0).bind fun c56 =>
          (f_L_k (2 : Int32) (0 : Int32) c56).bind fun c57 =>
          f_law_521 k124 n x3 v4 x5 a c57
  else
   f_law_540 n a s0
 else
  f_law_540 n a s0
theorem okgLAW_124 (hw : HW a0 Z) (n0 : Nat) (k124 : KT5) (hk124 : HKLAW_124 l Z n0 k124) (n : Nat) (v3 v4 : Int32) (a : List Int32) (s0 : St) (r : Int32) (h : g_law_124 k124 n v3 v4 a s0 = some r) : WLAW l Z n0 (PLAW r) 34 14040 124 [vR 0,vR 1,vU,vI v3,vI v4,vU,vU,vU] [] ([cI a] ++ Hb 1 s0) := by
 unfold g_law_124 at h
 refine xH at_124 rfl (xB 2 at_126 rfl (xO at_127 (xA at_128 rfl (WP.arraylength (i := 0) (xs := a) at_129 rfl ?_))))
 rcases ite_e h with ⟨hc1, h⟩ | ⟨hc1, h⟩
 ·
  refine xJ at_130 (XT.ii_ge_f hc1) (xC at_133 rfl (xG 16 at_134 rfl ?_))
  rcases ite_e h with ⟨hc2, h⟩ | ⟨hc2, h⟩
  ·
   refine xJ at_136 (XT.ii_ge_f hc2) ?_
   obtain ⟨x3, ex3, h⟩ := lt_e h
   refine yC (L' := [vR 0,vR 1,vU,vI x3,vI v4,vU,vU,vU]) (1 : Int32) at_139 rfl rfl (by subst ex3; rfl) (xA at_142 rfl (xH at_143 rfl ?_))
   obtain ⟨x4, hx4, h⟩ := bd h
   refine xN (i := 0) at_145 rfl hx4 (xG 7 at_146 rfl (xW at_148 ?_))
   obtain ⟨x5, ex5, h⟩ := lt_e h
   refine xR (L' := [vR 0,vR 1,vU,vI x3,vI v4,vI x5,vU,vU]) at_149 (leb rfl) (by subst ex5; rfl) (xA at_151 rfl (xH at_152 rfl (xB 1 at_154 rfl (xO at_155 ?_))))
   obtain ⟨x6, hx6, h⟩ := bd h
   refine xN (i := 0) at_156 rfl hx6 (xG 31 at_157 rfl (xW at_159 (xG 8 at_160 rfl (yN at_162 ?_))))
   obtain ⟨x7, ex7, h⟩ := lt_e h
   refine xR (L' := [vR 0,vR 1,vU,vI x3,vI v4,vI x5,vI x7,vU]) at_163 (leb rfl) (by subst ex7; rfl) (xA at_165 rfl (xH at_166 rfl (xB 2 at_168 rfl (xO at_169 ?_))))
   obtain ⟨x8, hx8, h⟩ := bd h
   refine xN (i := 0) at_170 rfl hx8 (xR (L' := [vR 0,vR 1,vU,vI x3,vI v4,vI x5,vI x7,vI x8]) at_171 (leb rfl) rfl (xH at_173 rfl ?_))
   rcases ite_e h with ⟨hc9, h⟩ | ⟨hc9, h⟩
   ·
    refine xM at_175 (XT.i0_ne_f hc9) (xA at_178 rfl (xG 10 at_179 rfl (xB 0 at_181 rfl ?_)))
    obtain ⟨c10, hc10, h⟩ := bd h
    refine xQ (y := y2) (as := [.ref 1, .int (10 : Int32), oN]) (S := []) at_182 (m99 hw) (m100 hw) (m101 hw) (m102 hw) hy2 (CS.frame (ro := 1) (H := ([cI a] ++ Hb 1 s0)) (as := [.ref 1, .int (10 : Int32), oN]) fr0_f (ok2 hw (10 : Int32) (0 : Int32) s0 _ hc10) rfl (by decide) (fr0_l a s0) (fr0_c a s0) (by decide) rfl) rfl (lenOf pd2 rfl) (leb rfl) (leb rfl) (leb rfl) (leb rfl) ?_
    rintro _ _ ⟨_, _, ⟨rfl, rfl⟩, e1_, e2_⟩
    rw [fr0_p a s0 c10] at e2_
    subst e1_ e2_
    show WLAW l Z n0 (PLAW r) 34 14040 185 [vR 0,vR 1,vU,vI x3,vI v4,vI x5,vI x7,vI x8] [] ([cI a] ++ Hb 1 c10)
    refine xA at_185 rfl (xB 2 at_186 rfl (xB 1 at_187 rfl ?_))
    obtain ⟨c11, hc11, h⟩ := bd h
    refine xQ (y := y2) (as := [.ref 1, .int (2 : Int32), .int (1 : Int32)]) (S := []) at_188 (m99 hw) (m100 hw) (m101 hw) (m102 hw) hy2 (CS.frame (ro := 1) (H := ([cI a] ++ Hb 1 c10)) (as := [.ref 1, .int (2 : Int32), .int (1 : Int32)]) fr0_f (ok2 hw (2 : Int32) (1 : Int32) c10 _ hc11) rfl (by decide) (fr0_l a c10) (fr0_c a c10) (by decide) rfl) rfl (lenOf pd2 rfl) (leb rfl) (leb rfl) (leb rfl) (leb rfl) ?_
    rintro _ _ ⟨_, _, ⟨rfl, rfl⟩, e1_, e2_⟩
    rw [fr0_p a c10 c11] at e2_
    subst e1_ e2_
    show WLAW l Z n0 (PLAW r) 34 14040 191 [vR 0,vR 1,vU,vI x3,vI v4,vI x5,vI x7,vI x8] [] ([cI a] ++ Hb 1 c11)
    refine xA at_191 rfl (xG 15 at_192 rfl (xB 0 at_194 rfl ?_))
    obtain ⟨c12, hc12, h⟩ := bd h
    refine xQ (y := y2) (as := [.ref 1, .int (15 : Int32), oN]) (S := []) at_195 (m99 hw) (m100 hw) (m101 hw) (m102 hw) hy2 (CS.frame (ro := 1) (H := ([cI a] ++ Hb 1 c11)) (as := [.ref 1, .int (15 : Int32), oN]) fr0_f (ok2 hw (15 : Int32) (0 : Int32) c11 _ hc12) rfl (by decide) (fr0_l a c11) (fr0_c a c11) (by decide) rfl) rfl (lenOf pd2 rfl) (leb rfl) (leb rfl) (leb rfl) (leb rfl) ?_
    rintro _ _ ⟨_, _, ⟨rfl, rfl⟩, e1_, e2_⟩
    rw [fr0_p a c11 c12] at e2_
    subst e1_ e2_
    show WLAW l Z n0 (PLAW r) 34 14040 198 [vR 0,vR 1,vU,vI x3,vI v4,vI x5,vI x7,vI x8] [] ([cI a] ++ Hb 1 c12)
    refine xA at_198 rfl (xB 1 at_199 rfl (xH at_200 rfl ?_))
    obtain ⟨c13, hc13, h⟩ := bd h
    refine xQ (y := y2) (as := [.ref 1, .int (1 : Int32), .int x7]) (S := []) at_202 (m99 hw) (m100 hw) (m101 hw) (m102 hw) hy2 (CS.frame (ro := 1) (H := ([cI a] ++ Hb 1 c12)) (as := [.ref 1, .int (1 : Int32), .int x7]) fr0_f (ok2 hw (1 : Int32) x7 c12 _ hc13) rfl (by decide) (fr0_l a c12) (fr0_c a c12) (by decide) rfl) rfl (lenOf pd2 rfl) (leb rfl) (leb rfl) (leb rfl) (leb rfl) ?_
    rintro _ _ ⟨_, _, ⟨rfl, rfl⟩, e1_, e2_⟩
    rw [fr0_p a c12 c13] at e2_
    subst e1_ e2_
    show WLAW l Z n0 (PLAW r) 34 14040 205 [vR 0,vR 1,vU,vI x3,vI v4,vI x5,vI x7,vI x8] [] ([cI a] ++ Hb 1 c13)
    refine xA at_205 rfl (xG 16 at_206 rfl (xB 0 at_208 rfl ?_))
    obtain ⟨c14, hc14, h⟩ := bd h
    refine xQ (y := y2) (as := [.ref 1, .int (16 : Int32), oN]) (S := []) at_209 (m99 hw) (m100 hw) (m101 hw) (m102 hw) hy2 (CS.frame (ro := 1) (H := ([cI a] ++ Hb 1 c13)) (as := [.ref 1, .int (16 : Int32), oN]) fr0_f (ok2 hw (16 : Int32) (0 : Int32) c13 _ hc14) rfl (by decide) (fr0_l a c13) (fr0_c a c13) (by decide) rfl) rfl (lenOf pd2 rfl) (leb rfl) (leb rfl) (leb rfl) (leb rfl) ?_
    rintro _ _ ⟨_, _, ⟨rfl, rfl⟩, e1_, e2_⟩
    rw [fr0_p a c13 c14] at e2_
    subst e1_ e2_
    show WLAW l Z n0 (PLAW r) 34 14040 212 [vR 0,vR 1,vU,vI x3,vI v4,vI x5,vI x7,vI x8] [] ([cI a] ++ Hb 1 c14)
    exact xV (pc' := 521) at_212 (by decide) rfl (xE (L' := [vR 0,vR 1,vU,vI x3,vI v4,vI x5,vU,vU]) ⟨rfl, rfl, rfl, rfl, rfl, trivial⟩ (okLAW_521 hw n0 _ hk124 n x3 v4 x5 a c14 _ h))
   ·
    refine xL (pc' := 215) at_175 (XT.i0_ne_t hc9) (by decide) rfl (xH at_215 rfl (xB 1 at_217 rfl ?_))
    rcases ite_e h with ⟨hc15, h⟩ | ⟨hc15, h⟩
    ·
     refine xJ at_218 (XT.ii_ne_f hc15) (xA at_221 rfl (xB 2 at_222 rfl (xB 1 at_223 rfl ?_)))
     obtain ⟨c16, hc16, h⟩ := bd h
     refine xQ (y := y2) (as := [.ref 1, .int (2 : Int32), .int (1 : Int32)]) (S := []) at_224 (m99 hw) (m100 hw) (m101 hw) (m102 hw) hy2 (CS.frame (ro := 1) (H := ([cI a] ++ Hb 1 s0)) (as := [.ref 1, .int (2 : Int32), .int (1 : Int32)]) fr0_f (ok2 hw (2 : Int32) (1 : Int32) s0 _ hc16) rfl (by decide) (fr0_l a s0) (fr0_c a s0) (by decide) rfl) rfl (lenOf pd2 rfl) (leb rfl) (leb rfl) (leb rfl) (leb rfl) ?_
     rintro _ _ ⟨_, _, ⟨rfl, rfl⟩, e1_, e2_⟩
     rw [fr0_p a s0 c16] at e2_
     subst e1_ e2_
     show WLAW l Z n0 (PLAW r) 34 14040 227 [vR 0,vR 1,vU,vI x3,vI v4,vI x5,vI x7,vI x8] [] ([cI a] ++ Hb 1 c16)
     refine xA at_227 rfl (xG 15 at_228 rfl (xB 0 at_230 rfl ?_))
     obtain ⟨c17, hc17, h⟩ := bd h
     refine xQ (y := y2) (as := [.ref 1, .int (15 : Int32), oN]) (S := []) at_231 (m99 hw) (m100 hw) (m101 hw) (m102 hw) hy2 (CS.frame (ro := 1) (H := ([cI a] ++ Hb 1 c16)) (as := [.ref 1, .int (15 : Int32), oN]) fr0_f (ok2 hw (15 : Int32) (0 : Int32) c16 _ hc17) rfl (by decide) (fr0_l a c16) (fr0_c a c16) (by decide) rfl) rfl (lenOf pd2 rfl) (leb rfl) (leb rfl) (leb rfl) (leb rfl) ?_
     rintro _ _ ⟨_, _, ⟨rfl, rfl⟩, e1_, e2_⟩
     rw [fr0_p a c16 c17] at e2_
     subst e1_ e2_
     show WLAW l Z n0 (PLAW r) 34 14040 234 [vR 0,vR 1,vU,vI x3,vI v4,vI x5,vI x7,vI x8] [] ([cI a] ++ Hb 1 c17)
     refine xA at_234 rfl (xB 1 at_235 rfl (xH at_236 rfl ?_))
     obtain ⟨c18, hc18, h⟩ := bd h
     refine xQ (y := y2) (as := [.ref 1, .int (1 : Int32), .int x7]) (S := []) at_238 (m99 hw) (m100 hw) (m101 hw) (m102 hw) hy2 (CS.frame (ro := 1) (H := ([cI a] ++ Hb 1 c17)) (as := [.ref 1, .int (1 : Int32), .int x7]) fr0_f (ok2 hw (1 : Int32) x7 c17 _ hc18) rfl (by decide) (fr0_l a c17) (fr0_c a c17) (by decide) rfl) rfl (lenOf pd2 rfl) (leb rfl) (leb rfl) (leb rfl) (leb rfl) ?_
     rintro _ _ ⟨_, _, ⟨rfl, rfl⟩, e1_, e2_⟩
     rw [fr0_p a c17 c18] at e2_
     subst e1_ e2_
     show WLAW l Z n0 (PLAW r) 34 14040 241 [vR 0,vR 1,vU,vI x3,vI v4,vI x5,vI x7,vI x8] [] ([cI a] ++ Hb 1 c18)
     refine xA at_241 rfl (xG 16 at_242 rfl (xB 0 at_244 rfl ?_))
     obtain ⟨c19, hc19, h⟩ := bd h
     refine xQ (y := y2) (as := [.ref 1, .int (16 : Int32), oN]) (S := []) at_245 (m99 hw) (m100 hw) (m101 hw) (m102 hw) hy2 (CS.frame (ro := 1) (H := ([cI a] ++ Hb 1 c18)) (as := [.ref 1, .int (16 : Int32), oN]) fr0_f (ok2 hw (16 : Int32) (0 : Int32) c18 _ hc19) rfl (by decide) (fr0_l a c18) (fr0_c a c18) (by decide) rfl) rfl (lenOf pd2 rfl) (leb rfl) (leb rfl) (leb rfl) (leb rfl) ?_
     rintro _ _ ⟨_, _, ⟨rfl, rfl⟩, e1_, e2_⟩
     rw [fr0_p a c18 c19] at e2_
     subst e1_ e2_
     show WLAW l Z n0 (PLAW r) 34 14040 248 [vR 0,vR 1,vU,vI x3,vI v4,vI x5,vI x7,vI x8] [] ([cI a] ++ Hb 1 c19)
     refine xA at_248 rfl (xG 19 at_249 rfl (xB 0 at_251 rfl ?_))
     obtain ⟨c20, hc20, h⟩ := bd h
     refine xQ (y := y2) (as := [.ref 1, .int (19 : Int32), oN]) (S := []) at_252 (m99 hw) (m100 hw) (m101 hw) (m102 hw) hy2 (CS.frame (ro := 1) (H := ([cI a] ++ Hb 1 c19)) (as := [.ref 1, .int (19 : Int32), oN]) fr0_f (ok2 hw (19 : Int32) (0 : Int32) c19 _ hc20) rfl (by decide) (fr0_l a c19) (fr0_c a c19) (by decide) rfl) rfl (lenOf pd2 rfl) (leb rfl) (leb rfl) (leb rfl) (leb rfl) ?_
     rintro _ _ ⟨_, _, ⟨rfl, rfl⟩, e1_, e2_⟩
     rw [fr0_p a c19 c20] at e2_
     subst e1_ e2_
     show WLAW l Z n0 (PLAW r) 34 14040 255 [vR 0,vR 1,vU,vI x3,vI v4,vI x5,vI x7,vI x8] [] ([cI a] ++ Hb 1 c20)
     refine xA at_255 rfl (xB 1 at_256 rfl (xH at_257 rfl ?_))
     obtain ⟨c21, hc21, h⟩ := bd h
     refine xQ (y := y2) (as := [.ref 1, .int (1 : Int32), .int x8]) (S := []) at_259 (m99 hw) (m100 hw) (m101 hw) (m102 hw) hy2 (CS.frame (ro := 1) (H := ([cI a] ++ Hb 1 c20)) (as := [.ref 1, .int (1 : Int32), .int x8]) fr0_f (ok2 hw (1 : Int32) x8 c20 _ hc21) rfl (by decide) (fr0_l a c20) (fr0_c a c20) (by decide) rfl) rfl (lenOf pd2 rfl) (leb rfl) (leb rfl) (leb rfl) (leb rfl) ?_
     rintro _ _ ⟨_, _, ⟨rfl, rfl⟩, e1_, e2_⟩
     rw [fr0_p a c20 c21] at e2_
     subst e1_ e2_
     show WLAW l Z n0 (PLAW r) 34 14040 262 [vR 0,vR 1,vU,vI x3,vI v4,vI x5,vI x7,vI x8] [] ([cI a] ++ Hb 1 c21)
     exact xV (pc' := 521) at_262 (by decide) rfl (xE (L' := [vR 0,vR 1,vU,vI x3,vI v4,vI x5,vU,vU]) ⟨rfl, rfl, rfl, rfl, rfl, trivial⟩ (okLAW_521 hw n0 _ hk124 n x3 v4 x5 a c21 _ h))
    ·
     refine xI (pc' := 265) at_218 (XT.ii_ne_t hc15) (by decide) rfl (xH at_265 rfl (xB 2 at_267 rfl ?_))
     rcases ite_e h with ⟨hc22, h⟩ | ⟨hc22, h⟩
     ·
      refine xJ at_268 (XT.ii_ne_f hc22) (xA at_271 rfl (xB 2 at_272 rfl (xB 0 at_273 rfl ?_)))
      obtain ⟨c23, hc23, h⟩ := bd h
      refine xQ (y := y2) (as := [.ref 1, .int (2 : Int32), oN]) (S := []) at_274 (m99 hw) (m100 hw) (m101 hw) (m102 hw) hy2 (CS.frame (ro := 1) (H := ([cI a] ++ Hb 1 s0)) (as := [.ref 1, .int (2 : Int32), oN]) fr0_f (ok2 hw (2 : Int32) (0 : Int32) s0 _ hc23) rfl (by decide) (fr0_l a s0) (fr0_c a s0) (by decide) rfl) rfl (lenOf pd2 rfl) (leb rfl) (leb rfl) (leb rfl) (leb rfl) ?_
      rintro _ _ ⟨_, _, ⟨rfl, rfl⟩, e1_, e2_⟩
      rw [fr0_p a s0 c23] at e2_
      subst e1_ e2_
      show WLAW l Z n0 (PLAW r) 34 14040 277 [vR 0,vR 1,vU,vI x3,vI v4,vI x5,vI x7,vI x8] [] ([cI a] ++ Hb 1 c23)
      refine xA at_277 rfl (xG 19 at_278 rfl (xB 0 at_280 rfl ?_))
      obtain ⟨c24, hc24, h⟩ := bd h
      refine xQ (y := y2) (as := [.ref 1, .int (19 : Int32), oN]) (S := []) at_281 (m99 hw) (m100 hw) (m101 hw) (m102 hw) hy2 (CS.frame (ro := 1) (H := ([cI a] ++ Hb 1 c23)) (as := [.ref 1, .int (19 : Int32), oN]) fr0_f (ok2 hw (19 : Int32) (0 : Int32) c23 _ hc24) rfl (by decide) (fr0_l a c23) (fr0_c a c23) (by decide) rfl) rfl (lenOf pd2 rfl) (leb rfl) (leb rfl) (leb rfl) (leb rfl) ?_
      rintro _ _ ⟨_, _, ⟨rfl, rfl⟩, e1_, e2_⟩
      rw [fr0_p a c23 c24] at e2_
      subst e1_ e2_
      show WLAW l Z n0 (PLAW r) 34 14040 284 [vR 0,vR 1,vU,vI x3,vI v4,vI x5,vI x7,vI x8] [] ([cI a] ++ Hb 1 c24)
      refine xA at_284 rfl (xB 2 at_285 rfl (xB 1 at_286 rfl ?_))
      obtain ⟨c25, hc25, h⟩ := bd h
      refine xQ (y := y2) (as := [.ref 1, .int (2 : Int32), .int (1 : Int32)]) (S := []) at_287 (m99 hw) (m100 hw) (m101 hw) (m102 hw) hy2 (CS.frame (ro := 1) (H := ([cI a] ++ Hb 1 c24)) (as := [.ref 1, .int (2 : Int32), .int (1 : Int32)]) fr0_f (ok2 hw (2 : Int32) (1 : Int32) c24 _ hc25) rfl (by decide) (fr0_l a c24) (fr0_c a c24) (by decide) rfl) rfl (lenOf pd2 rfl) (leb rfl) (leb rfl) (leb rfl) (leb rfl) ?_
      rintro _ _ ⟨_, _, ⟨rfl, rfl⟩, e1_, e2_⟩
      rw [fr0_p a c24 c25] at e2_
      subst e1_ e2_
      show WLAW l Z n0 (PLAW r) 34 14040 290 [vR 0,vR 1,vU,vI x3,vI v4,vI x5,vI x7,vI x8] [] ([cI a] ++ Hb 1 c25)
      refine xA at_290 rfl (xG 20 at_291 rfl (xB 0 at_293 rfl ?_))
      obtain ⟨c26, hc26, h⟩ := bd h
      refine xQ (y := y2) (as := [.ref 1, .int (20 : Int32), oN]) (S := []) at_294 (m99 hw) (m100 hw) (m101 hw) (m102 hw) hy2 (CS.frame (ro := 1) (H := ([cI a] ++ Hb 1 c25)) (as := [.ref 1, .int (20 : Int32), oN]) fr0_f (ok2 hw (20 : Int32) (0 : Int32) c25 _ hc26) rfl (by decide) (fr0_l a c25) (fr0_c a c25) (by decide) rfl) rfl (lenOf pd2 rfl) (leb rfl) (leb rfl) (leb rfl) (leb rfl) ?_
      rintro _ _ ⟨_, _, ⟨rfl, rfl⟩, e1_, e2_⟩
      rw [fr0_p a c25 c26] at e2_
      subst e1_ e2_
      show WLAW l Z n0 (PLAW r) 34 14040 297 [vR 0,vR 1,vU,vI x3,vI v4,vI x5,vI x7,vI x8] [] ([cI a] ++ Hb 1 c26)
      refine xA at_297 rfl (xB 1 at_298 rfl (xH at_299 rfl ?_))
      obtain ⟨c27, hc27, h⟩ := bd h
      refine xQ (y := y2) (as := [.ref 1, .int (1 : Int32), .int x7]) (S := []) at_301 (m99 hw) (m100 hw) (m101 hw) (m102 hw) hy2 (CS.frame (ro := 1) (H := ([cI a] ++ Hb 1 c26)) (as := [.ref 1, .int (1 : Int32), .int x7]) fr0_f (ok2 hw (1 : Int32) x7 c26 _ hc27) rfl (by decide) (fr0_l a c26) (fr0_c a c26) (by decide) rfl) rfl (lenOf pd2 rfl) (leb rfl) (leb rfl) (leb rfl) (leb rfl) ?_
      rintro _ _ ⟨_, _, ⟨rfl, rfl⟩, e1_, e2_⟩
      rw [fr0_p a c26 c27] at e2_
      subst e1_ e2_
      show WLAW l Z n0 (PLAW r) 34 14040 304 [vR 0,vR 1,vU,vI x3,vI v4,vI x5,vI x7,vI x8] [] ([cI a] ++ Hb 1 c27)
      exact xV (pc' := 521) at_304 (by decide) rfl (xE (L' := [vR 0,vR 1,vU,vI x3,vI v4,vI x5,vU,vU]) ⟨rfl, rfl, rfl, rfl, rfl, trivial⟩ (okLAW_521 hw n0 _ hk124 n x3 v4 x5 a c27 _ h))
     ·
      refine xI (pc' := 307) at_268 (XT.ii_ne_t hc22) (by decide) rfl (xH at_307 rfl (xB 3 at_309 rfl ?_))
      rcases ite_e h with ⟨hc28, h⟩ | ⟨hc28, h⟩
      ·
       refine xJ at_310 (XT.ii_ne_f hc28) (xA at_313 rfl (xG 10 at_314 rfl (xB 0 at_316 rfl ?_)))
       obtain ⟨c29, hc29, h⟩ := bd h
       refine xQ (y := y2) (as := [.ref 1, .int (10 : Int32), oN]) (S := []) at_317 (m99 hw) (m100 hw) (m101 hw) (m102 hw) hy2 (CS.frame (ro := 1) (H := ([cI a] ++ Hb 1 s0)) (as := [.ref 1, .int (10 : Int32), oN]) fr0_f (ok2 hw (10 : Int32) (0 : Int32) s0 _ hc29) rfl (by decide) (fr0_l a s0) (fr0_c a s0) (by decide) rfl) rfl (lenOf pd2 rfl) (leb rfl) (leb rfl) (leb rfl) (leb rfl) ?_
       rintro _ _ ⟨_, _, ⟨rfl, rfl⟩, e1_, e2_⟩
       rw [fr0_p a s0 c29] at e2_
       subst e1_ e2_
       show WLAW l Z n0 (PLAW r) 34 14040 320 [vR 0,vR 1,vU,vI x3,vI v4,vI x5,vI x7,vI x8] [] ([cI a] ++ Hb 1 c29)
       refine xA at_320 rfl (xG 22 at_321 rfl (xB 0 at_323 rfl ?_))
       obtain ⟨c30, hc30, h⟩ := bd h
       refine xQ (y := y2) (as := [.ref 1, .int (22 : Int32), oN]) (S := []) at_324 (m99 hw) (m100 hw) (m101 hw) (m102 hw) hy2 (CS.frame (ro := 1) (H := ([cI a] ++ Hb 1 c29)) (as := [.ref 1, .int (22 : Int32), oN]) fr0_f (ok2 hw (22 : Int32) (0 : Int32) c29 _ hc30) rfl (by decide) (fr0_l a c29) (fr0_c a c29) (by decide) rfl) rfl (lenOf pd2 rfl) (leb rfl) (leb rfl) (leb rfl) (leb rfl) ?_
       rintro _ _ ⟨_, _, ⟨rfl, rfl⟩, e1_, e2_⟩
       rw [fr0_p a c29 c30] at e2_
       subst e1_ e2_
       show WLAW l Z n0 (PLAW r) 34 14040 327 [vR 0,vR 1,vU,vI x3,vI v4,vI x5,vI x7,vI x8] [] ([cI a] ++ Hb 1 c30)
       refine xA at_327 rfl (xB 2 at_328 rfl (xB 0 at_329 rfl ?_))
       obtain ⟨c31, hc31, h⟩ := bd h
       refine xQ (y := y2) (as := [.ref 1, .int (2 : Int32), oN]) (S := []) at_330 (m99 hw) (m100 hw) (m101 hw) (m102 hw) hy2 (CS.frame (ro := 1) (H := ([cI a] ++ Hb 1 c30)) (as := [.ref 1, .int (2 : Int32), oN]) fr0_f (ok2 hw (2 : Int32) (0 : Int32) c30 _ hc31) rfl (by decide) (fr0_l a c30) (fr0_c a c30) (by decide) rfl) rfl (lenOf pd2 rfl) (leb rfl) (leb rfl) (leb rfl) (leb rfl) ?_
       rintro _ _ ⟨_, _, ⟨rfl, rfl⟩, e1_, e2_⟩
       rw [fr0_p a c30 c31] at e2_
       subst e1_ e2_
       show WLAW l Z n0 (PLAW r) 34 14040 333 [vR 0,vR 1,vU,vI x3,vI v4,vI x5,vI x7,vI x8] [] ([cI a] ++ Hb 1 c31)
       exact xV (pc' := 521) at_333 (by decide) rfl (xE (L' := [vR 0,vR 1,vU,vI x3,vI v4,vI x5,vU,vU]) ⟨rfl, rfl, rfl, rfl, rfl, trivial⟩ (okLAW_521 hw n0 _ hk124 n x3 v4 x5 a c31 _ h))
      ·
       refine xI (pc' := 336) at_310 (XT.ii_ne_t hc28) (by decide) rfl (xH at_336 rfl (xB 4 at_338 rfl ?_))
       rcases ite_e h with ⟨hc32, h⟩ | ⟨hc32, h⟩
       ·
        refine xJ at_339 (XT.ii_ne_f hc32) (xA at_342 rfl (xB 2 at_343 rfl (xB 0 at_344 rfl ?_)))
        obtain ⟨c33, hc33, h⟩ := bd h
        refine xQ (y := y2) (as := [.ref 1, .int (2 : Int32), oN]) (S := []) at_345 (m99 hw) (m100 hw) (m101 hw) (m102 hw) hy2 (CS.frame (ro := 1) (H := ([cI a] ++ Hb 1 s0)) (as := [.ref 1, .int (2 : Int32), oN]) fr0_f (ok2 hw (2 : Int32) (0 : Int32) s0 _ hc33) rfl (by decide) (fr0_l a s0) (fr0_c a s0) (by decide) rfl) rfl (lenOf pd2 rfl) (leb rfl) (leb rfl) (leb rfl) (leb rfl) ?_
        rintro _ _ ⟨_, _, ⟨rfl, rfl⟩, e1_, e2_⟩
        rw [fr0_p a s0 c33] at e2_
        subst e1_ e2_
        show WLAW l Z n0 (PLAW r) 34 14040 348 [vR 0,vR 1,vU,vI x3,vI v4,vI x5,vI x7,vI x8] [] ([cI a] ++ Hb 1 c33)
        refine xA at_348 rfl (xG 19 at_349 rfl (xB 0 at_351 rfl ?_))
        obtain ⟨c34, hc34, h⟩ := bd h
        refine xQ (y := y2) (as := [.ref 1, .int (19 : Int32), oN]) (S := []) at_352 (m99 hw) (m100 hw) (m101 hw) (m102 hw) hy2 (CS.frame (ro := 1) (H := ([cI a] ++ Hb 1 c33)) (as := [.ref 1, .int (19 : Int32), oN]) fr0_f (ok2 hw (19 : Int32) (0 : Int32) c33 _ hc34) rfl (by decide) (fr0_l a c33) (fr0_c a c33) (by decide) rfl) rfl (lenOf pd2 rfl) (leb rfl) (leb rfl) (leb rfl) (leb rfl) ?_
        rintro _ _ ⟨_, _, ⟨rfl, rfl⟩, e1_, e2_⟩
        rw [fr0_p a c33 c34] at e2_
        subst e1_ e2_
        show WLAW l Z n0 (PLAW r) 34 14040 355 [vR 0,vR 1,vU,vI x3,vI v4,vI x5,vI x7,vI x8] [] ([cI a] ++ Hb 1 c34)
        refine xA at_355 rfl (xB 1 at_356 rfl (xH at_357 rfl ?_))
        obtain ⟨c35, hc35, h⟩ := bd h
        refine xQ (y := y2) (as := [.ref 1, .int (1 : Int32), .int x8]) (S := []) at_359 (m99 hw) (m100 hw) (m101 hw) (m102 hw) hy2 (CS.frame (ro := 1) (H := ([cI a] ++ Hb 1 c34)) (as := [.ref 1, .int (1 : Int32), .int x8]) fr0_f (ok2 hw (1 : Int32) x8 c34 _ hc35) rfl (by decide) (fr0_l a c34) (fr0_c a c34) (by decide) rfl) rfl (lenOf pd2 rfl) (leb rfl) (leb rfl) (leb rfl) (leb rfl) ?_
        rintro _ _ ⟨_, _, ⟨rfl, rfl⟩, e1_, e2_⟩
        rw [fr0_p a c34 c35] at e2_
        subst e1_ e2_
        show WLAW l Z n0 (PLAW r) 34 14040 362 [vR 0,vR 1,vU,vI x3,vI v4,vI x5,vI x7,vI x8] [] ([cI a] ++ Hb 1 c35)
        exact xV (pc' := 521) at_362 (by decide) rfl (xE (L' := [vR 0,vR 1,vU,vI x3,vI v4,vI x5,vU,vU]) ⟨rfl, rfl, rfl, rfl, rfl, trivial⟩ (okLAW_521 hw n0 _ hk124 n x3 v4 x5 a c35 _ h))
       ·
        refine xI (pc' := 365) at_339 (XT.ii_ne_t hc32) (by decide) rfl (xH at_365 rfl (xB 5 at_367 rfl ?_))
        rcases ite_e h with ⟨hc36, h⟩ | ⟨hc36, h⟩
        ·
         refine xJ at_368 (XT.ii_ne_f hc36) (xA at_371 rfl (xG 7 at_372 rfl (xB 0 at_374 rfl ?_)))
         obtain ⟨c37, hc37, h⟩ := bd h
         refine xQ (y := y2) (as := [.ref 1, .int (7 : Int32), oN]) (S := []) at_375 (m99 hw) (m100 hw) (m101 hw) (m102 hw) hy2 (CS.frame (ro := 1) (H := ([cI a] ++ Hb 1 s0)) (as := [.ref 1, .int (7 : Int32), oN]) fr0_f (ok2 hw (7 : Int32) (0 : Int32) s0 _ hc37) rfl (by decide) (fr0_l a s0) (fr0_c a s0) (by decide) rfl) rfl (lenOf pd2 rfl) (leb rfl) (leb rfl) (leb rfl) (leb rfl) ?_
         rintro _ _ ⟨_, _, ⟨rfl, rfl⟩, e1_, e2_⟩
         rw [fr0_p a s0 c37] at e2_
         subst e1_ e2_
         show WLAW l Z n0 (PLAW r) 34 14040 378 [vR 0,vR 1,vU,vI x3,vI v4,vI x5,vI x7,vI x8] [] ([cI a] ++ Hb 1 c37)
         refine xA at_378 rfl (xG 11 at_379 rfl (xB 0 at_381 rfl ?_))
         obtain ⟨c38, hc38, h⟩ := bd h
         refine xQ (y := y2) (as := [.ref 1, .int (11 : Int32), oN]) (S := []) at_382 (m99 hw) (m100 hw) (m101 hw) (m102 hw) hy2 (CS.frame (ro := 1) (H := ([cI a] ++ Hb 1 c37)) (as := [.ref 1, .int (11 : Int32), oN]) fr0_f (ok2 hw (11 : Int32) (0 : Int32) c37 _ hc38) rfl (by decide) (fr0_l a c37) (fr0_c a c37) (by decide) rfl) rfl (lenOf pd2 rfl) (leb rfl) (leb rfl) (leb rfl) (leb rfl) ?_
         rintro _ _ ⟨_, _, ⟨rfl, rfl⟩, e1_, e2_⟩
         rw [fr0_p a c37 c38] at e2_
         subst e1_ e2_
         show WLAW l Z n0 (PLAW r) 34 14040 385 [vR 0,vR 1,vU,vI x3,vI v4,vI x5,vI x7,vI x8] [] ([cI a] ++ Hb 1 c38)
         refine xA at_385 rfl (xB 2 at_386 rfl (xB 0 at_387 rfl ?_))
         obtain ⟨c39, hc39, h⟩ := bd h
         refine xQ (y := y2) (as := [.ref 1, .int (2 : Int32), oN]) (S := []) at_388 (m99 hw) (m100 hw) (m101 hw) (m102 hw) hy2 (CS.frame (ro := 1) (H := ([cI a] ++ Hb 1 c38)) (as := [.ref 1, .int (2 : Int32), oN]) fr0_f (ok2 hw (2 : Int32) (0 : Int32) c38 _ hc39) rfl (by decide) (fr0_l a c38) (fr0_c a c38) (by decide) rfl) rfl (lenOf pd2 rfl) (leb rfl) (leb rfl) (leb rfl) (leb rfl) ?_
         rintro _ _ ⟨_, _, ⟨rfl, rfl⟩, e1_, e2_⟩
         rw [fr0_p a c38 c39] at e2_
         subst e1_ e2_
         show WLAW l Z n0 (PLAW r) 34 14040 391 [vR 0,vR 1,vU,vI x3,vI v4,vI x5,vI x7,vI x8] [] ([cI a] ++ Hb 1 c39)
         refine xA at_391 rfl (xG 24 at_392 rfl (xB 0 at_394 rfl ?_))
         obtain ⟨c40, hc40, h⟩ := bd h
         refine xQ (y := y2) (as := [.ref 1, .int (24 : Int32), oN]) (S := []) at_395 (m99 hw) (m100 hw) (m101 hw) (m102 hw) hy2 (CS.frame (ro := 1) (H := ([cI a] ++ Hb 1 c39)) (as := [.ref 1, .int (24 : Int32), oN]) fr0_f (ok2 hw (24 : Int32) (0 : Int32) c39 _ hc40) rfl (by decide) (fr0_l a c39) (fr0_c a c39) (by decide) rfl) rfl (lenOf pd2 rfl) (leb rfl) (leb rfl) (leb rfl) (leb rfl) ?_
         rintro _ _ ⟨_, _, ⟨rfl, rfl⟩, e1_, e2_⟩
         rw [fr0_p a c39 c40] at e2_
         subst e1_ e2_
         show WLAW l Z n0 (PLAW r) 34 14040 398 [vR 0,vR 1,vU,vI x3,vI v4,vI x5,vI x7,vI x8] [] ([cI a] ++ Hb 1 c40)
         refine xA at_398 rfl (xB 1 at_399 rfl (xH at_400 rfl (xG 16 at_402 rfl (yI at_404 ?_))))
         obtain ⟨c41, hc41, h⟩ := bd h
         refine xQ (y := y2) (as := [.ref 1, .int (1 : Int32), .int (x7 * (16 : Int32))]) (S := []) at_405 (m99 hw) (m100 hw) (m101 hw) (m102 hw) hy2 (CS.frame (ro := 1) (H := ([cI a] ++ Hb 1 c40)) (as := [.ref 1, .int (1 : Int32), .int (x7 * (16 : Int32))]) fr0_f (ok2 hw (1 : Int32) (x7 * (16 : Int32)) c40 _ hc41) rfl (by decide) (fr0_l a c40) (fr0_c a c40) (by decide) rfl) rfl (lenOf pd2 rfl) (leb rfl) (leb rfl) (leb rfl) (leb rfl) ?_
         rintro _ _ ⟨_, _, ⟨rfl, rfl⟩, e1_, e2_⟩
         rw [fr0_p a c40 c41] at e2_
         subst e1_ e2_
         show WLAW l Z n0 (PLAW r) 34 14040 408 [vR 0,vR 1,vU,vI x3,vI v4,vI x5,vI x7,vI x8] [] ([cI a] ++ Hb 1 c41)
         refine xA at_408 rfl (xG 12 at_409 rfl (xB 0 at_411 rfl ?_))
         obtain ⟨c42, hc42, h⟩ := bd h
         refine xQ (y := y2) (as := [.ref 1, .int (12 : Int32), oN]) (S := []) at_412 (m99 hw) (m100 hw) (m101 hw) (m102 hw) hy2 (CS.frame (ro := 1) (H := ([cI a] ++ Hb 1 c41)) (as := [.ref 1, .int (12 : Int32), oN]) fr0_f (ok2 hw (12 : Int32) (0 : Int32) c41 _ hc42) rfl (by decide) (fr0_l a c41) (fr0_c a c41) (by decide) rfl) rfl (lenOf pd2 rfl) (leb rfl) (leb rfl) (leb rfl) (leb rfl) ?_
         rintro _ _ ⟨_, _, ⟨rfl, rfl⟩, e1_, e2_⟩
         rw [fr0_p a c41 c42] at e2_
         subst e1_ e2_
         show WLAW l Z n0 (PLAW r) 34 14040 415 [vR 0,vR 1,vU,vI x3,vI v4,vI x5,vI x7,vI x8] [] ([cI a] ++ Hb 1 c42)
         refine xA at_415 rfl (xG 13 at_416 rfl (xB 0 at_418 rfl ?_))
         obtain ⟨c43, hc43, h⟩ := bd h
         refine xQ (y := y2) (as := [.ref 1, .int (13 : Int32), oN]) (S := []) at_419 (m99 hw) (m100 hw) (m101 hw) (m102 hw) hy2 (CS.frame (ro := 1) (H := ([cI a] ++ Hb 1 c42)) (as := [.ref 1, .int (13 : Int32), oN]) fr0_f (ok2 hw (13 : Int32) (0 : Int32) c42 _ hc43) rfl (by decide) (fr0_l a c42) (fr0_c a c42) (by decide) rfl) rfl (lenOf pd2 rfl) (leb rfl) (leb rfl) (leb rfl) (leb rfl) ?_
         rintro _ _ ⟨_, _, ⟨rfl, rfl⟩, e1_, e2_⟩
         rw [fr0_p a c42 c43] at e2_
         subst e1_ e2_
         show WLAW l Z n0 (PLAW r) 34 14040 422 [vR 0,vR 1,vU,vI x3,vI v4,vI x5,vI x7,vI x8] [] ([cI a] ++ Hb 1 c43)
         refine xA at_422 rfl (xB 2 at_423 rfl (xB 0 at_424 rfl ?_))
         obtain ⟨c44, hc44, h⟩ := bd h
         refine xQ (y := y2) (as := [.ref 1, .int (2 : Int32), oN]) (S := []) at_425 (m99 hw) (m100 hw) (m101 hw) (m102 hw) hy2 (CS.frame (ro := 1) (H := ([cI a] ++ Hb 1 c43)) (as := [.ref 1, .int (2 : Int32), oN]) fr0_f (ok2 hw (2 : Int32) (0 : Int32) c43 _ hc44) rfl (by decide) (fr0_l a c43) (fr0_c a c43) (by decide) rfl) rfl (lenOf pd2 rfl) (leb rfl) (leb rfl) (leb rfl) (leb rfl) ?_
         rintro _ _ ⟨_, _, ⟨rfl, rfl⟩, e1_, e2_⟩
         rw [fr0_p a c43 c44] at e2_
         subst e1_ e2_
         show WLAW l Z n0 (PLAW r) 34 14040 428 [vR 0,vR 1,vU,vI x3,vI v4,vI x5,vI x7,vI x8] [] ([cI a] ++ Hb 1 c44)
         refine xA at_428 rfl (xG 19 at_429 rfl (xB 0 at_431 rfl ?_))
         obtain ⟨c45, hc45, h⟩ := bd h
         refine xQ (y := y2) (as := [.ref 1, .int (19 : Int32), oN]) (S := []) at_432 (m99 hw) (m100 hw) (m101 hw) (m102 hw) hy2 (CS.frame (ro := 1) (H := ([cI a] ++ Hb 1 c44)) (as := [.ref 1, .int (19 : Int32), oN]) fr0_f (ok2 hw (19 : Int32) (0 : Int32) c44 _ hc45) rfl (by decide) (fr0_l a c44) (fr0_c a c44) (by decide) rfl) rfl (lenOf pd2 rfl) (leb rfl) (leb rfl) (leb rfl) (leb rfl) ?_
         rintro _ _ ⟨_, _, ⟨rfl, rfl⟩, e1_, e2_⟩
         rw [fr0_p a c44 c45] at e2_
         subst e1_ e2_
         show WLAW l Z n0 (PLAW r) 34 14040 435 [vR 0,vR 1,vU,vI x3,vI v4,vI x5,vI x7,vI x8] [] ([cI a] ++ Hb 1 c45)
         refine xA at_435 rfl (xB 2 at_436 rfl (xB 0 at_437 rfl ?_))
         obtain ⟨c46, hc46, h⟩ := bd h
         refine xQ (y := y2) (as := [.ref 1, .int (2 : Int32), oN]) (S := []) at_438 (m99 hw) (m100 hw) (m101 hw) (m102 hw) hy2 (CS.frame (ro := 1) (H := ([cI a] ++ Hb 1 c45)) (as := [.ref 1, .int (2 : Int32), oN]) fr0_f (ok2 hw (2 : Int32) (0 : Int32) c45 _ hc46) rfl (by decide) (fr0_l a c45) (fr0_c a c45) (by decide) rfl) rfl (lenOf pd2 rfl) (leb rfl) (leb rfl) (leb rfl) (leb rfl) ?_
         rintro _ _ ⟨_, _, ⟨rfl, rfl⟩, e1_, e2_⟩
         rw [fr0_p a c45 c46] at e2_
         subst e1_ e2_
         show WLAW l Z n0 (PLAW r) 34 14040 441 [vR 0,vR 1,vU,vI x3,vI v4,vI x5,vI x7,vI x8] [] ([cI a] ++ Hb 1 c46)
         refine xA at_441 rfl (xG 20 at_442 rfl (xB 0 at_444 rfl ?_))
         obtain ⟨c47, hc47, h⟩ := bd h
         refine xQ (y := y2) (as := [.ref 1, .int (20 : Int32), oN]) (S := []) at_445 (m99 hw) (m100 hw) (m101 hw) (m102 hw) hy2 (CS.frame (ro := 1) (H := ([cI a] ++ Hb 1 c46)) (as := [.ref 1, .int (20 : Int32), oN]) fr0_f (ok2 hw (20 : Int32) (0 : Int32) c46 _ hc47) rfl (by decide) (fr0_l a c46) (fr0_c a c46) (by decide) rfl) rfl (lenOf pd2 rfl) (leb rfl) (leb rfl) (leb rfl) (leb rfl) ?_
         rintro _ _ ⟨_, _, ⟨rfl, rfl⟩, e1_, e2_⟩
         rw [fr0_p a c46 c47] at e2_
         subst e1_ e2_
         show WLAW l Z n0 (PLAW r) 34 14040 448 [vR 0,vR 1,vU,vI x3,vI v4,vI x5,vI x7,vI x8] [] ([cI a] ++ Hb 1 c47)
         refine xA at_448 rfl (xB 1 at_449 rfl (xB 1 at_450 rfl ?_))
         obtain ⟨c48, hc48, h⟩ := bd h
         refine xQ (y := y2) (as := [.ref 1, .int (1 : Int32), .int (1 : Int32)]) (S := []) at_451 (m99 hw) (m100 hw) (m101 hw) (m102 hw) hy2 (CS.frame (ro := 1) (H := ([cI a] ++ Hb 1 c47)) (as := [.ref 1, .int (1 : Int32), .int (1 : Int32)]) fr0_f (ok2 hw (1 : Int32) (1 : Int32) c47 _ hc48) rfl (by decide) (fr0_l a c47) (fr0_c a c47) (by decide) rfl) rfl (lenOf pd2 rfl) (leb rfl) (leb rfl) (leb rfl) (leb rfl) ?_
         rintro _ _ ⟨_, _, ⟨rfl, rfl⟩, e1_, e2_⟩
         rw [fr0_p a c47 c48] at e2_
         subst e1_ e2_
         show WLAW l Z n0 (PLAW r) 34 14040 454 [vR 0,vR 1,vU,vI x3,vI v4,vI x5,vI x7,vI x8] [] ([cI a] ++ Hb 1 c48)
         refine xA at_454 rfl (xG 17 at_455 rfl (xB 0 at_457 rfl ?_))
         obtain ⟨c49, hc49, h⟩ := bd h
         refine xQ (y := y2) (as := [.ref 1, .int (17 : Int32), oN]) (S := []) at_458 (m99 hw) (m100 hw) (m101 hw) (m102 hw) hy2 (CS.frame (ro := 1) (H := ([cI a] ++ Hb 1 c48)) (as := [.ref 1, .int (17 : Int32), oN]) fr0_f (ok2 hw (17 : Int32) (0 : Int32) c48 _ hc49) rfl (by decide) (fr0_l a c48) (fr0_c a c48) (by decide) rfl) rfl (lenOf pd2 rfl) (leb rfl) (leb rfl) (leb rfl) (leb rfl) ?_
         rintro _ _ ⟨_, _, ⟨rfl, rfl⟩, e1_, e2_⟩
         rw [fr0_p a c48 c49] at e2_
         subst e1_ e2_
         show WLAW l Z n0 (PLAW r) 34 14040 461 [vR 0,vR 1,vU,vI x3,vI v4,vI x5,vI x7,vI x8] [] ([cI a] ++ Hb 1 c49)
         refine xA at_461 rfl (xG 14 at_462 rfl (xB 0 at_464 rfl ?_))
         obtain ⟨c50, hc50, h⟩ := bd h
         refine xQ (y := y2) (as := [.ref 1, .int (14 : Int32), oN]) (S := []) at_465 (m99 hw) (m100 hw) (m101 hw) (m102 hw) hy2 (CS.frame (ro := 1) (H := ([cI a] ++ Hb 1 c49)) (as := [.ref 1, .int (14 : Int32), oN]) fr0_f (ok2 hw (14 : Int32) (0 : Int32) c49 _ hc50) rfl (by decide) (fr0_l a c49) (fr0_c a c49) (by decide) rfl) rfl (lenOf pd2 rfl) (leb rfl) (leb rfl) (leb rfl) (leb rfl) ?_
         rintro _ _ ⟨_, _, ⟨rfl, rfl⟩, e1_, e2_⟩
         rw [fr0_p a c49 c50] at e2_
         subst e1_ e2_
         show WLAW l Z n0 (PLAW r) 34 14040 468 [vR 0,vR 1,vU,vI x3,vI v4,vI x5,vI x7,vI x8] [] ([cI a] ++ Hb 1 c50)
         exact xV (pc' := 521) at_468 (by decide) rfl (xE (L' := [vR 0,vR 1,vU,vI x3,vI v4,vI x5,vU,vU]) ⟨rfl, rfl, rfl, rfl, rfl, trivial⟩ (okLAW_521 hw n0 _ hk124 n x3 v4 x5 a c50 _ h))
        ·
         refine xI (pc' := 471) at_368 (XT.ii_ne_t hc36) (by decide) rfl (xH at_471 rfl (xG 6 at_473 rfl ?_))
         rcases ite_e h with ⟨hc51, h⟩ | ⟨hc51, h⟩
         ·
          refine xJ at_475 (XT.ii_ne_f hc51) (xA at_478 rfl (xG 22 at_479 rfl (xB 0 at_481 rfl ?_)))
          obtain ⟨c52, hc52, h⟩ := bd h
          refine xQ (y := y2) (as := [.ref 1, .int (22 : Int32), oN]) (S := []) at_482 (m99 hw) (m100 hw) (m101 hw) (m102 hw) hy2 (CS.frame (ro := 1) (H := ([cI a] ++ Hb 1 s0)) (as := [.ref 1, .int (22 : Int32), oN]) fr0_f (ok2 hw (22 : Int32) (0 : Int32) s0 _ hc52) rfl (by decide) (fr0_l a s0) (fr0_c a s0) (by decide) rfl) rfl (lenOf pd2 rfl) (leb rfl) (leb rfl) (leb rfl) (leb rfl) ?_
          rintro _ _ ⟨_, _, ⟨rfl, rfl⟩, e1_, e2_⟩
          rw [fr0_p a s0 c52] at e2_
          subst e1_ e2_
          show WLAW l Z n0 (PLAW r) 34 14040 485 [vR 0,vR 1,vU,vI x3,vI v4,vI x5,vI x7,vI x8] [] ([cI a] ++ Hb 1 c52)
          refine xA at_485 rfl (xB 2 at_486 rfl (xB 0 at_487 rfl ?_))
          obtain ⟨c53, hc53, h⟩ := bd h
          refine xQ (y := y2) (as := [.ref 1, .int (2 : Int32), oN]) (S := []) at_488 (m99 hw) (m100 hw) (m101 hw) (m102 hw) hy2 (CS.frame (ro := 1) (H := ([cI a] ++ Hb 1 c52)) (as := [.ref 1, .int (2 : Int32), oN]) fr0_f (ok2 hw (2 : Int32) (0 : Int32) c52 _ hc53) rfl (by decide) (fr0_l a c52) (fr0_c a c52) (by decide) rfl) rfl (lenOf pd2 rfl) (leb rfl) (leb rfl) (leb rfl) (leb rfl) ?_
          rintro _ _ ⟨_, _, ⟨rfl, rfl⟩, e1_, e2_⟩
          rw [fr0_p a c52 c53] at e2_
          subst e1_ e2_
          show WLAW l Z n0 (PLAW r) 34 14040 491 [vR 0,vR 1,vU,vI x3,vI v4,vI x5,vI x7,vI x8] [] ([cI a] ++ Hb 1 c53)
          refine xA at_491 rfl (xG 19 at_492 rfl (xB 0 at_494 rfl ?_))
          obtain ⟨c54, hc54, h⟩ := bd h
          refine xQ (y := y2) (as := [.ref 1, .int (19 : Int32), oN]) (S := []) at_495 (m99 hw) (m100 hw) (m101 hw) (m102 hw) hy2 (CS.frame (ro := 1) (H := ([cI a] ++ Hb 1 c53)) (as := [.ref 1, .int (19 : Int32), oN]) fr0_f (ok2 hw (19 : Int32) (0 : Int32) c53 _ hc54) rfl (by decide) (fr0_l a c53) (fr0_c a c53) (by decide) rfl) rfl (lenOf pd2 rfl) (leb rfl) (leb rfl) (leb rfl) (leb rfl) ?_
          rintro _ _ ⟨_, _, ⟨rfl, rfl⟩, e1_, e2_⟩
          rw [fr0_p a c53 c54] at e2_
          subst e1_ e2_
          show WLAW l Z n0 (PLAW r) 34 14040 498 [vR 0,vR 1,vU,vI x3,vI v4,vI x5,vI x7,vI x8] [] ([cI a] ++ Hb 1 c54)
          refine xA at_498 rfl (xB 1 at_499 rfl (xH at_500 rfl ?_))
          obtain ⟨c55, hc55, h⟩ := bd h
          refine xQ (y := y2) (as := [.ref 1, .int (1 : Int32), .int x8]) (S := []) at_502 (m99 hw) (m100 hw) (m101 hw) (m102 hw) hy2 (CS.frame (ro := 1) (H := ([cI a] ++ Hb 1 c54)) (as := [.ref 1, .int (1 : Int32), .int x8]) fr0_f (ok2 hw (1 : Int32) x8 c54 _ hc55) rfl (by decide) (fr0_l a c54) (fr0_c a c54) (by decide) rfl) rfl (lenOf pd2 rfl) (leb rfl) (leb rfl) (leb rfl) (leb rfl) ?_
          rintro _ _ ⟨_, _, ⟨rfl, rfl⟩, e1_, e2_⟩
          rw [fr0_p a c54 c55] at e2_
          subst e1_ e2_
          show WLAW l Z n0 (PLAW r) 34 14040 505 [vR 0,vR 1,vU,vI x3,vI v4,vI x5,vI x7,vI x8] [] ([cI a] ++ Hb 1 c55)
          exact xV (pc' := 521) at_505 (by decide) rfl (xE (L' := [vR 0,vR 1,vU,vI x3,vI v4,vI x5,vU,vU]) ⟨rfl, rfl, rfl, rfl, rfl, trivial⟩ (okLAW_521 hw n0 _ hk124 n x3 v4 x5 a c55 _ h))
         ·
          refine xI (pc' := 508) at_475 (XT.ii_ne_t hc51) (by decide) rfl (xA at_508 rfl (xG 10 at_509 rfl (xB 0 at_511 rfl ?_)))
          obtain ⟨c56, hc56, h⟩ := bd h
          refine xQ (y := y2) (as := [.ref 1, .int (10 : Int32), oN]) (S := []) at_512 (m99 hw) (m100 hw) (m101 hw) (m102 hw) hy2 (CS.frame (ro := 1) (H := ([cI a] ++ Hb 1 s0)) (as := [.ref 1, .int (10 : Int32), oN]) fr0_f (ok2 hw (10 : Int32) (0 : Int32) s0 _ hc56) rfl (by decide) (fr0_l a s0) (fr0_c a s0) (by decide) rfl) rfl (lenOf pd2 rfl) (leb rfl) (leb rfl) (leb rfl) (leb rfl) ?_
          rintro _ _ ⟨_, _, ⟨rfl, rfl⟩, e1_, e2_⟩
          rw [fr0_p a s0 c56] at e2_
          subst e1_ e2_
          show WLAW l Z n0 (PLAW r) 34 14040 515 [vR 0,vR 1,vU,vI x3,vI v4,vI x5,vI x7,vI x8] [] ([cI a] ++ Hb 1 c56)
          refine xA at_515 rfl (xB 2 at_516 rfl (xB 0 at_517 rfl ?_))
          obtain ⟨c57, hc57, h⟩ := bd h
          refine xQ (y := y2) (as := [.ref 1, .int (2 : Int32), oN]) (S := []) at_518 (m99 hw) (m100 hw) (m101 hw) (m102 hw) hy2 (CS.frame (ro := 1) (H := ([cI a] ++ Hb 1 c56)) (as := [.ref 1, .int (2 : Int32), oN]) fr0_f (ok2 hw (2 : Int32) (0 : Int32) c56 _ hc57) rfl (by decide) (fr0_l a c56) (fr0_c a c56) (by decide) rfl) rfl (lenOf pd2 rfl) (leb rfl) (leb rfl) (leb rfl) (leb rfl) ?_
          rintro _ _ ⟨_, _, ⟨rfl, rfl⟩, e1_, e2_⟩
          rw [fr0_p a c56 c57] at e2_
          subst e1_ e2_
          show WLAW l Z n0 (PLAW r) 34 14040 521 [vR 0,vR 1,vU,vI x3,vI v4,vI x5,vI x7,vI x8] [] ([cI a] ++ Hb 1 c57)
          exact xE (L' := [vR 0,vR 1,vU,vI x3,vI v4,vI x5,vU,vU]) ⟨rfl, rfl, rfl, rfl, rfl, trivial⟩ (okLAW_521 hw n0 _ hk124 n x3 v4 x5 a c57 _ h)
  ·
   exact xI (pc' := 540) at_136 (XT.ii_ge_t hc2) (by decide) rfl (xE (L' := [vU,vR 1,vU,vU,vU,vU,vU,vU]) ⟨rfl, trivial⟩ (okLAW_540 hw n0 n a s0 _ h))
 ·
  exact xI (pc' := 540) at_130 (XT.ii_ge_t hc1) (by decide) rfl (xE (L' := [vU,vR 1,vU,vU,vU,vU,vU,vU]) ⟨rfl, trivial⟩ (okLAW_540 hw n0 n a s0 _ h))
def f_law_124 : Nat → Int32 → Int32 → List Int32 → St → Option (Int32)
 | 0 => fun _ _ _ _ => none
 | n + 1 => g_law_124 (f_law_124 n) n
theorem okLAW_124 (hw : HW a0 Z) (n0 : Nat) : ∀ (n : Nat) (v3 v4 : Int32) (a : List Int32) (s0 : St) (r : Int32), f_law_124 n v3 v4 a s0 = some r → WLAW l Z n0 (PLAW r) 34 14040 124 [vR 0,vR 1,vU,vI v3,vI v4,vU,vU,vU] [] ([cI a] ++ Hb 1 s0)
 | 0, v3, v4, a, s0, r, h => nomatch (show none = some r from h)
 | n + 1, v3, v4, a, s0, r, h => okgLAW_124 hw n0 _ (okLAW_124 hw n0 n) n v3 v4 a s0 r h
def f_law_27 (n : Nat) (v2 : Int32) (a : List Int32) (s0 : St) : Option (Int32) :=
 (f_L_k (4 : Int32) (0 : Int32) s0).bind fun c1 =>
 (f_L_k (3 : Int32) (0 : Int32) c1).bind fun c2 =>
 (f_L_k (11 : Int32) (0 : Int32) c2).bind fun c3 =>
 (f_L_k (12 : Int32) (0 : Int32) c3).bind fun c4 =>
 (f_L_k (13 : Int32) (0 : Int32) c4).bind fun c5 =>
 (f_L_k (5 : Int32) (0 : Int32) c5).bind fun c6 =>
 (f_L_k (2 : Int32) (0 : Int32) c6).bind fun c7 =>
 (f_L_k (17 : Int32) (0 : Int32) c7).bind fun c8 =>
 (f_L_k (6 : Int32) (0 : Int32) c8).bind fun c9 =>
 (f_L_k (2 : Int32) (1 : Int32) c9).bind fun c10 =>
 (f_L_k (15 : Int32) (0 : Int32) c10).bind fun c11 =>
 (f_L_k (1 : Int32) v2 c11).bind fun c12 =>
 (f_L_k (16 : Int32) (0 : Int32) c12).bind fun c13 =>
 (f_L_k (17 : Int32) (0 : Int32) c13).bind fun c14 =>
 f_law_124 n (0 : Int32) (1 : Int32) a c14
theorem okLAW_27 (hw : HW a0 Z) (n0 n : Nat) (v2 : Int32) (a : List Int32) (s0 : St) (r : Int32) (h : f_law_27 n v2 a s0 = some r) : WLAW l Z n0 (PLAW r) 34 14040 27 [vR 0,vR 1,vI v2,vU,vU,vU,vU,vU] [] ([cI a] ++ Hb 1 s0) := by
 unfold f_law_27 at h
 refine xA at_27 rfl (xB 4 at_28 rfl (xB 0 at_29 rfl ?_))
 obtain ⟨c1, hc1, h⟩ := bd h
 refine xQ (y := y2) (as := [.ref 1, .int (4 : Int32), oN]) (S := []) at_30 (m99 hw) (m100 hw) (m101 hw) (m102 hw) hy2 (CS.frame (ro := 1) (H := ([cI a] ++ Hb 1 s0)) (as := [.ref 1, .int (4 : Int32), oN]) fr0_f (ok2 hw (4 : Int32) (0 : Int32) s0 _ hc1) rfl (by decide) (fr0_l a s0) (fr0_c a s0) (by decide) rfl) rfl (lenOf pd2 rfl) (leb rfl) (leb rfl) (leb rfl) (leb rfl) ?_
 rintro _ _ ⟨_, _, ⟨rfl, rfl⟩, e1_, e2_⟩
 rw [fr0_p a s0 c1] at e2_
 subst e1_ e2_
 show WLAW l Z n0 (PLAW r) 34 14040 33 [vR 0,vR 1,vI v2,vU,vU,vU,vU,vU] [] ([cI a] ++ Hb 1 c1)
 refine xA at_33 rfl (xB 3 at_34 rfl (xB 0 at_35 rfl ?_))
 obtain ⟨c2, hc2, h⟩ := bd h
 refine xQ (y := y2) (as := [.ref 1, .int (3 : Int32), oN]) (S := []) at_36 (m99 hw) (m100 hw) (m101 hw) (m102 hw) hy2 (CS.frame (ro := 1) (H := ([cI a] ++ Hb 1 c1)) (as := [.ref 1, .int (3 : Int32), oN]) fr0_f (ok2 hw (3 : Int32) (0 : Int32) c1 _ hc2) rfl (by decide) (fr0_l a c1) (fr0_c a c1) (by decide) rfl) rfl (lenOf pd2 rfl) (leb rfl) (leb rfl) (leb rfl) (leb rfl) ?_
 rintro _ _ ⟨_, _, ⟨rfl, rfl⟩, e1_, e2_⟩
 rw [fr0_p a c1 c2] at e2_
 subst e1_ e2_
 show WLAW l Z n0 (PLAW r) 34 14040 39 [vR 0,vR 1,vI v2,vU,vU,vU,vU,vU] [] ([cI a] ++ Hb 1 c2)
 refine xA at_39 rfl (xG 11 at_40 rfl (xB 0 at_42 rfl ?_))
 obtain ⟨c3, hc3, h⟩ := bd h
 refine xQ (y := y2) (as := [.ref 1, .int (11 : Int32), oN]) (S := []) at_43 (m99 hw) (m100 hw) (m101 hw) (m102 hw) hy2 (CS.frame (ro := 1) (H := ([cI a] ++ Hb 1 c2)) (as := [.ref 1, .int (11 : Int32), oN]) fr0_f (ok2 hw (11 : Int32) (0 : Int32) c2 _ hc3) rfl (by decide) (fr0_l a c2) (fr0_c a c2) (by decide) rfl) rfl (lenOf pd2 rfl) (leb rfl) (leb rfl) (leb rfl) (leb rfl) ?_
 rintro _ _ ⟨_, _, ⟨rfl, rfl⟩, e1_, e2_⟩
 rw [fr0_p a c2 c3] at e2_
 subst e1_ e2_
 show WLAW l Z n0 (PLAW r) 34 14040 46 [vR 0,vR 1,vI v2,vU,vU,vU,vU,vU] [] ([cI a] ++ Hb 1 c3)
 refine xA at_46 rfl (xG 12 at_47 rfl (xB 0 at_49 rfl ?_))
 obtain ⟨c4, hc4, h⟩ := bd h
 refine xQ (y := y2) (as := [.ref 1, .int (12 : Int32), oN]) (S := []) at_50 (m99 hw) (m100 hw) (m101 hw) (m102 hw) hy2 (CS.frame (ro := 1) (H := ([cI a] ++ Hb 1 c3)) (as := [.ref 1, .int (12 : Int32), oN]) fr0_f (ok2 hw (12 : Int32) (0 : Int32) c3 _ hc4) rfl (by decide) (fr0_l a c3) (fr0_c a c3) (by decide) rfl) rfl (lenOf pd2 rfl) (leb rfl) (leb rfl) (leb rfl) (leb rfl) ?_
 rintro _ _ ⟨_, _, ⟨rfl, rfl⟩, e1_, e2_⟩
 rw [fr0_p a c3 c4] at e2_
 subst e1_ e2_
 show WLAW l Z n0 (PLAW r) 34 14040 53 [vR 0,vR 1,vI v2,vU,vU,vU,vU,vU] [] ([cI a] ++ Hb 1 c4)
 refine xA at_53 rfl (xG 13 at_54 rfl (xB 0 at_56 rfl ?_))
 obtain ⟨c5, hc5, h⟩ := bd h
 refine xQ (y := y2) (as := [.ref 1, .int (13 : Int32), oN]) (S := []) at_57 (m99 hw) (m100 hw) (m101 hw) (m102 hw) hy2 (CS.frame (ro := 1) (H := ([cI a] ++ Hb 1 c4)) (as := [.ref 1, .int (13 : Int32), oN]) fr0_f (ok2 hw (13 : Int32) (0 : Int32) c4 _ hc5) rfl (by decide) (fr0_l a c4) (fr0_c a c4) (by decide) rfl) rfl (lenOf pd2 rfl) (leb rfl) (leb rfl) (leb rfl) (leb rfl) ?_
 rintro _ _ ⟨_, _, ⟨rfl, rfl⟩, e1_, e2_⟩
 rw [fr0_p a c4 c5] at e2_
 subst e1_ e2_
 show WLAW l Z n0 (PLAW r) 34 14040 60 [vR 0,vR 1,vI v2,vU,vU,vU,vU,vU] [] ([cI a] ++ Hb 1 c5)
 refine xA at_60 rfl (xB 5 at_61 rfl (xB 0 at_62 rfl ?_))
 obtain ⟨c6, hc6, h⟩ := bd h
 refine xQ (y := y2) (as := [.ref 1, .int (5 : Int32), oN]) (S := []) at_63 (m99 hw) (m100 hw) (m101 hw) (m102 hw) hy2 (CS.frame (ro := 1) (H := ([cI a] ++ Hb 1 c5)) (as := [.ref 1, .int (5 : Int32), oN]) fr0_f (ok2 hw (5 : Int32) (0 : Int32) c5 _ hc6) rfl (by decide) (fr0_l a c5) (fr0_c a c5) (by decide) rfl) rfl (lenOf pd2 rfl) (leb rfl) (leb rfl) (leb rfl) (leb rfl) ?_
 rintro _ _ ⟨_, _, ⟨rfl, rfl⟩, e1_, e2_⟩
 rw [fr0_p a c5 c6] at e2_
 subst e1_ e2_
 show WLAW l Z n0 (PLAW r) 34 14040 66 [vR 0,vR 1,vI v2,vU,vU,vU,vU,vU] [] ([cI a] ++ Hb 1 c6)
 refine xA at_66 rfl (xB 2 at_67 rfl (xB 0 at_68 rfl ?_))
 obtain ⟨c7, hc7, h⟩ := bd h
 refine xQ (y := y2) (as := [.ref 1, .int (2 : Int32), oN]) (S := []) at_69 (m99 hw) (m100 hw) (m101 hw) (m102 hw) hy2 (CS.frame (ro := 1) (H := ([cI a] ++ Hb 1 c6)) (as := [.ref 1, .int (2 : Int32), oN]) fr0_f (ok2 hw (2 : Int32) (0 : Int32) c6 _ hc7) rfl (by decide) (fr0_l a c6) (fr0_c a c6) (by decide) rfl) rfl (lenOf pd2 rfl) (leb rfl) (leb rfl) (leb rfl) (leb rfl) ?_
 rintro _ _ ⟨_, _, ⟨rfl, rfl⟩, e1_, e2_⟩
 rw [fr0_p a c6 c7] at e2_
 subst e1_ e2_
 show WLAW l Z n0 (PLAW r) 34 14040 72 [vR 0,vR 1,vI v2,vU,vU,vU,vU,vU] [] ([cI a] ++ Hb 1 c7)
 refine xA at_72 rfl (xG 17 at_73 rfl (xB 0 at_75 rfl ?_))
 obtain ⟨c8, hc8, h⟩ := bd h
 refine xQ (y := y2) (as := [.ref 1, .int (17 : Int32), oN]) (S := []) at_76 (m99 hw) (m100 hw) (m101 hw) (m102 hw) hy2 (CS.frame (ro := 1) (H := ([cI a] ++ Hb 1 c7)) (as := [.ref 1, .int (17 : Int32), oN]) fr0_f (ok2 hw (17 : Int32) (0 : Int32) c7 _ hc8) rfl (by decide) (fr0_l a c7) (fr0_c a c7) (by decide) rfl) rfl (lenOf pd2 rfl) (leb rfl) (leb rfl) (leb rfl) (leb rfl) ?_
 rintro _ _ ⟨_, _, ⟨rfl, rfl⟩, e1_, e2_⟩
 rw [fr0_p a c7 c8] at e2_
 subst e1_ e2_
 show WLAW l Z n0 (PLAW r) 34 14040 79 [vR 0,vR 1,vI v2,vU,vU,vU,vU,vU] [] ([cI a] ++ Hb 1 c8)
 refine xA at_79 rfl (xG 6 at_80 rfl (xB 0 at_82 rfl ?_))
 obtain ⟨c9, hc9, h⟩ := bd h
 refine xQ (y := y2) (as := [.ref 1, .int (6 : Int32), oN]) (S := []) at_83 (m99 hw) (m100 hw) (m101 hw) (m102 hw) hy2 (CS.frame (ro := 1) (H := ([cI a] ++ Hb 1 c8)) (as := [.ref 1, .int (6 : Int32), oN]) fr0_f (ok2 hw (6 : Int32) (0 : Int32) c8 _ hc9) rfl (by decide) (fr0_l a c8) (fr0_c a c8) (by decide) rfl) rfl (lenOf pd2 rfl) (leb rfl) (leb rfl) (leb rfl) (leb rfl) ?_
 rintro _ _ ⟨_, _, ⟨rfl, rfl⟩, e1_, e2_⟩
 rw [fr0_p a c8 c9] at e2_
 subst e1_ e2_
 show WLAW l Z n0 (PLAW r) 34 14040 86 [vR 0,vR 1,vI v2,vU,vU,vU,vU,vU] [] ([cI a] ++ Hb 1 c9)
 refine xA at_86 rfl (xB 2 at_87 rfl (xB 1 at_88 rfl ?_))
 obtain ⟨c10, hc10, h⟩ := bd h
 refine xQ (y := y2) (as := [.ref 1, .int (2 : Int32), .int (1 : Int32)]) (S := []) at_89 (m99 hw) (m100 hw) (m101 hw) (m102 hw) hy2 (CS.frame (ro := 1) (H := ([cI a] ++ Hb 1 c9)) (as := [.ref 1, .int (2 : Int32), .int (1 : Int32)]) fr0_f (ok2 hw (2 : Int32) (1 : Int32) c9 _ hc10) rfl (by decide) (fr0_l a c9) (fr0_c a c9) (by decide) rfl) rfl (lenOf pd2 rfl) (leb rfl) (leb rfl) (leb rfl) (leb rfl) ?_
 rintro _ _ ⟨_, _, ⟨rfl, rfl⟩, e1_, e2_⟩
 rw [fr0_p a c9 c10] at e2_
 subst e1_ e2_
 show WLAW l Z n0 (PLAW r) 34 14040 92 [vR 0,vR 1,vI v2,vU,vU,vU,vU,vU] [] ([cI a] ++ Hb 1 c10)
 refine xA at_92 rfl (xG 15 at_93 rfl (xB 0 at_95 rfl ?_))
 obtain ⟨c11, hc11, h⟩ := bd h
 refine xQ (y := y2) (as := [.ref 1, .int (15 : Int32), oN]) (S := []) at_96 (m99 hw) (m100 hw) (m101 hw) (m102 hw) hy2 (CS.frame (ro := 1) (H := ([cI a] ++ Hb 1 c10)) (as := [.ref 1, .int (15 : Int32), oN]) fr0_f (ok2 hw (15 : Int32) (0 : Int32) c10 _ hc11) rfl (by decide) (fr0_l a c10) (fr0_c a c10) (by decide) rfl) rfl (lenOf pd2 rfl) (leb rfl) (leb rfl) (leb rfl) (leb rfl) ?_
 rintro _ _ ⟨_, _, ⟨rfl, rfl⟩, e1_, e2_⟩
 rw [fr0_p a c10 c11] at e2_
 subst e1_ e2_
 show WLAW l Z n0 (PLAW r) 34 14040 99 [vR 0,vR 1,vI v2,vU,vU,vU,vU,vU] [] ([cI a] ++ Hb 1 c11)
 refine xA at_99 rfl (xB 1 at_100 rfl (xC at_101 rfl ?_))
 obtain ⟨c12, hc12, h⟩ := bd h
 refine xQ (y := y2) (as := [.ref 1, .int (1 : Int32), .int v2]) (S := []) at_102 (m99 hw) (m100 hw) (m101 hw) (m102 hw) hy2 (CS.frame (ro := 1) (H := ([cI a] ++ Hb 1 c11)) (as := [.ref 1, .int (1 : Int32), .int v2]) fr0_f (ok2 hw (1 : Int32) v2 c11 _ hc12) rfl (by decide) (fr0_l a c11) (fr0_c a c11) (by decide) rfl) rfl (lenOf pd2 rfl) (leb rfl) (leb rfl) (leb rfl) (leb rfl) ?_
 rintro _ _ ⟨_, _, ⟨rfl, rfl⟩, e1_, e2_⟩
 rw [fr0_p a c11 c12] at e2_
 subst e1_ e2_
 show WLAW l Z n0 (PLAW r) 34 14040 105 [vR 0,vR 1,vI v2,vU,vU,vU,vU,vU] [] ([cI a] ++ Hb 1 c12)
 refine xA at_105 rfl (xG 16 at_106 rfl (xB 0 at_108 rfl ?_))
 obtain ⟨c13, hc13, h⟩ := bd h
 refine xQ (y := y2) (as := [.ref 1, .int (16 : Int32), oN]) (S := []) at_109 (m99 hw) (m100 hw) (m101 hw) (m102 hw) hy2 (CS.frame (ro := 1) (H := ([cI a] ++ Hb 1 c12)) (as := [.ref 1, .int (16 : Int32), oN]) fr0_f (ok2 hw (16 : Int32) (0 : Int32) c12 _ hc13) rfl (by decide) (fr0_l a c12) (fr0_c a c12) (by decide) rfl) rfl (lenOf pd2 rfl) (leb rfl) (leb rfl) (leb rfl) (leb rfl) ?_
 rintro _ _ ⟨_, _, ⟨rfl, rfl⟩, e1_, e2_⟩
 rw [fr0_p a c12 c13] at e2_
 subst e1_ e2_
 show WLAW l Z n0 (PLAW r) 34 14040 112 [vR 0,vR 1,vI v2,vU,vU,vU,vU,vU] [] ([cI a] ++ Hb 1 c13)
 refine xA at_112 rfl (xG 17 at_113 rfl (xB 0 at_115 rfl ?_))
 obtain ⟨c14, hc14, h⟩ := bd h
 refine xQ (y := y2) (as := [.ref 1, .int (17 : Int32), oN]) (S := []) at_116 (m99 hw) (m100 hw) (m101 hw) (m102 hw) hy2 (CS.frame (ro := 1) (H := ([cI a] ++ Hb 1 c13)) (as := [.ref 1, .int (17 : Int32), oN]) fr0_f (ok2 hw (17 : Int32) (0 : Int32) c13 _ hc14) rfl (by decide) (fr0_l a c13) (fr0_c a c13) (by decide) rfl) rfl (lenOf pd2 rfl) (leb rfl) (leb rfl) (leb rfl) (leb rfl) ?_
 rintro _ _ ⟨_, _, ⟨rfl, rfl⟩, e1_, e2_⟩
 rw [fr0_p a c13 c14] at e2_
 subst e1_ e2_
 show WLAW l Z n0 (PLAW r) 34 14040 119 [vR 0,vR 1,vI v2,vU,vU,vU,vU,vU] [] ([cI a] ++ Hb 1 c14)
 exact xB 0 at_119 rfl (xP (L' := [vR 0,vR 1,vI v2,vI 0,vU,vU,vU,vU]) at_120 (leb rfl) rfl (xB 1 at_121 rfl (xR (L' := [vR 0,vR 1,vI v2,vI 0,vI 1,vU,vU,vU]) at_122 (leb rfl) rfl (xE (L' := [vR 0,vR 1,vU,vI 0,vI 1,vU,vU,vU]) ⟨rfl, rfl, rfl, rfl, trivial⟩ (okLAW_124 hw n0 n (0 : Int32) (1 : Int32) a c14 _ h)))))
def f_law (n : Nat) (a : List Int32) : Option (Int32) :=
 (f_init (16 : Int32) (2 : Int32)).bind fun c1 =>
 if 0 < a.length.toInt32 then
  (rd a (0 : Int32)).bind fun x3 =>
  lt ((x3 &&& (15 : Int32)) + (1 : Int32)) fun x4 =>
  f_law_27 n x4 a c1
 else
  f_law_27 n (1 : Int32) a c1
theorem okLAW (hw : HW a0 Z) (n : Nat) (a : List Int32) (r : Int32) (h : f_law n a = some r) : CS l Z CN lay x code maxLocals ret room_1 1 [.ref 0] ([cI a]) (PLAW r) := by
 refine CS.of_wp pn_law (leb rfl) fun n0 => ?_
 show WLAW l Z n0 (PLAW r) 0 0 0 [vR 0,vU,vU,vU,vU,vU,vU,vU] [] ([cI a])
 unfold f_law at h
 refine WP.new (vs := vs0) at_0 (m0 hw) (m1 hw) (m2 hw) (leb rfl) (leb rfl) (vs0_ok hw) ?_
 show WLAW l Z n0 (PLAW r) 1 52 3 [vR 0,vU,vU,vU,vU,vU,vU,vU] [.ref 1] ([cI a] ++ [cO vs0])
 refine yA at_3 rfl (xG 16 at_4 rfl (xB 2 at_6 rfl ?_))
 obtain ⟨c1, hc1, h⟩ := bd h
 refine WP.callI (i := 1) (y := y0) (as := [.int (16 : Int32), .int (2 : Int32)]) (S := [.ref 1]) at_7 rfl (m3 hw) (m4 hw) (m5 hw) (m2 hw) hy0 (CS.frame (ro := 1) (H := ([cI a] ++ [cO vs0])) (as := [.ref 1, .int (16 : Int32), .int (2 : Int32)]) fr1_f (ok0 hw (16 : Int32) (2 : Int32) _ hc1) rfl (by decide) (fr1_l a) (fr1_c a) (by decide) rfl) rfl (lenOf pd0 rfl) (leb rfl) (leb rfl) (leb rfl) (leb rfl) ?_
 rintro _ _ ⟨_, _, ⟨rfl, rfl⟩, e1_, e2_⟩
 rw [fr1_p a c1] at e2_
 subst e1_ e2_
 show WLAW l Z n0 (PLAW r) 34 14040 10 [vR 0,vU,vU,vU,vU,vU,vU,vU] [.ref 1] ([cI a] ++ Hb 1 c1)
 refine WP.astoreN (L' := [vR 0,vR 1,vU,vU,vU,vU,vU,vU]) at_10 (leb rfl) rfl (xB 1 at_11 rfl (xP (L' := [vR 0,vR 1,vI 1,vU,vU,vU,vU,vU]) at_12 (leb rfl) rfl (xA at_13 rfl (WP.arraylength (i := 0) (xs := a) at_14 rfl ?_))))
 rcases ite_e h with ⟨hc2, h⟩ | ⟨hc2, h⟩
 ·
  refine xM at_15 (XT.i0_le_f hc2) (xA at_18 rfl (xB 0 at_19 rfl ?_))
  obtain ⟨x3, hx3, h⟩ := bd h
  refine xN (i := 0) at_20 rfl hx3 (xG 15 at_21 rfl (xW at_23 (xB 1 at_24 rfl (xO at_25 ?_))))
  obtain ⟨x4, ex4, h⟩ := lt_e h
  exact xP (L' := [vR 0,vR 1,vI x4,vU,vU,vU,vU,vU]) at_26 (leb rfl) (by subst ex4; rfl) (xE (L' := [vR 0,vR 1,vI x4,vU,vU,vU,vU,vU]) ⟨rfl, rfl, rfl, trivial⟩ (okLAW_27 hw n0 n x4 a c1 _ h))
 ·
  exact xL (pc' := 27) at_15 (XT.i0_le_t hc2) (by decide) rfl (xE (L' := [vR 0,vR 1,vI 1,vU,vU,vU,vU,vU]) ⟨rfl, rfl, rfl, trivial⟩ (okLAW_27 hw n0 n (1 : Int32) a c1 _ h))
/-! steps of a walk over an open state -/
theorem qsa {β : Type} {t : St} {f : Nat} {i : Int32} {k : Nat} {x : Int32} {G : St → Option β} {r : Option β} (hi : i.toInt = k) (h : k < (gA t f).length) (e : G (sA t f ((gA t f).set k x)) = r) : (wrA t f i x).bind G = r := by
 rw [wrA_of x hi h]; exact e
theorem qrr {α β : Type} {xs : List α} {i : Int32} {k : Nat} {x : α} {G : α → Option β} {r : Option β} (hi : i.toInt = k) (h : xs[k]? = some x) (e : G x = r) : (rd xs i).bind G = r := by
 rw [rd_of hi h]; exact e
def qO2 {α β : Type} (f : Nat → Option α) (g : Nat → Option β) (P : α → β → Prop) : Prop := ∃ a b, Ev f a ∧ Ev g b ∧ P a b
theorem qO2.step {α β : Type} {f f' : Nat → Option α} {g g' : Nat → Option β} {P : α → β → Prop} (e : ∀ n, f (n + 1) = f' n) (k : ∀ n, g (n + 1) = g' n) (h : qO2 f' g' P) : qO2 f g P := by
 obtain ⟨a, b, h1, h2, h3⟩ := h
 exact ⟨a, b, Ev.step e h1, Ev.step k h2, h3⟩
theorem qO2.congr {α β : Type} {f f' : Nat → Option α} {g g' : Nat → Option β} {P : α → β → Prop} (e : ∀ n, f n = f' n) (k : ∀ n, g n = g' n) (h : qO2 f' g' P) : qO2 f g P := by
 obtain ⟨a, b, h1, h2, h3⟩ := h
 exact ⟨a, b, Ev.congr e h1, Ev.congr k h2, h3⟩
theorem qO2.ret {α β : Type} {a : α} {b : β} {P : α → β → Prop} (h : P a b) : qO2 (fun _ => some a) (fun _ => some b) P := ⟨a, b, Ev.const rfl, Ev.const rfl, h⟩
theorem qO2.bind {α β α' β' : Type} {f : Nat → Option α'} {g : Nat → Option β'} {F : Nat → α' → Option α} {G : Nat → β' → Option β} {Q : α' → β' → Prop} {P : α → β → Prop} (h : qO2 f g Q) (k : ∀ c d, Q c d → qO2 (fun n => F n c) (fun n => G n d) P) : qO2 (fun n => (f n).bind (F n)) (fun n => (g n).bind (G n)) P := by
 obtain ⟨c, d, h1, h2, h3⟩ := h
 obtain ⟨a, b, k1, k2, k3⟩ := k c d h3
 exact ⟨a, b, Ev.bind h1 k1, Ev.bind h2 k2, k3⟩
theorem qO2.ite {α β : Type} {c c' : Prop} [Decidable c] [Decidable c'] {f f' : Nat → Option α} {g g' : Nat → Option β} {P : α → β → Prop} (e : c' ↔ c) (h : c → qO2 f g P) (k : ¬ c → qO2 f' g' P) : qO2 (fun n => if c then f n else f' n) (fun n => if c' then g n else g' n) P := by
 by_cases q : c
 ·exact qO2.congr (fun n => if_pos q) (fun n => if_pos (e.mpr q)) (h q)
 ·exact qO2.congr (fun n => if_neg q) (fun n => if_neg (fun z => q (e.mp z))) (k q)
theorem qO2.let {α β γ δ : Type} {x : γ} {y : δ} {F : Nat → γ → Option α} {G : Nat → δ → Option β} {P : α → β → Prop} (h : qO2 (fun n => F n x) (fun n => G n y) P) : qO2 (fun n => lt x (F n)) (fun n => lt y (G n)) P := h
theorem qO2.eq {α β γ δ : Type} {o : Option γ} {q : Option δ} {x : γ} {y : δ} (e1 : o = some x) (e2 : q = some y) {F : Nat → γ → Option α} {G : Nat → δ → Option β} {P : α → β → Prop} (h : qO2 (fun n => F n x) (fun n => G n y) P) : qO2 (fun n => o.bind (F n)) (fun n => q.bind (G n)) P :=
 qO2.congr (fun n => by rw [e1]; rfl) (fun n => by rw [e2]; rfl) h
theorem qO2.rd {α β : Type} {xs ys : List Int32} {i : Int32} {k : Nat} {x : Int32} {F : Nat → Int32 → Option α} {G : Nat → Int32 → Option β} {P : α → β → Prop} (hi : i.toInt = k) (h1 : xs[k]? = some x) (h2 : ys[k]? = some x) (h : qO2 (fun n => F n x) (fun n => G n x) P) : qO2 (fun n => (Jvm.Own.rd xs i).bind (F n)) (fun n => (Jvm.Own.rd ys i).bind (G n)) P :=
 qO2.congr (fun n => by rw [rd_of hi h1]; rfl) (fun n => by rw [rd_of hi h2]; rfl) h
def qlens : List Nat := [256, 256, 16, 4, 4, 4, 4, 4, 4, 32, 32, 32, 256, 256, 256, 16, 64, 64, 64, 4096, 4096, 4096, 8, 8, 8, 8, 8, 4, 4, 4, 8, 8, 8]
def qL (s : St) : Prop := ∀ j, (gA s j).length = qlens.getD j 0
theorem qL.wr {s : St} (h : qL s) (j k : Nat) (x : Int32) : qL (sA s j ((gA s j).set k x)) := fun i => by
 rw [gA_sA]
 by_cases e : i = j
 ·rw [if_pos e, set_len, ← e]; exact h i
 ·rw [if_neg e]; exact h i
theorem qL.get {s : St} (h : qL s) (j k : Nat) (hk : k < qlens.getD j 0) : ∃ x, (gA s j)[k]? = some x := ⟨_, List.getElem?_eq_getElem (by rw [h j]; exact hk)⟩
abbrev qfx (j : Nat) : Prop := (j < 15 ∧ j ≠ 2) ∨ j = 19 ∨ j = 20 ∨ (22 ≤ j ∧ j ≤ 26)
abbrev qvy (j : Nat) : Prop := (16 ≤ j ∧ j ≤ 18) ∨ j = 21
abbrev qci (j : Nat) : Prop := j ≤ 3 ∨ (11 ≤ j ∧ j ≤ 13)
def qD (b : St) (n : Nat) (s t : St) : Prop := qL s ∧ qL t ∧ (∀ j, qfx j → gA s j = gA b j ∧ gA t j = gA b j) ∧ (∀ j, j < 19 → gI t j = gI s j) ∧ (∀ j, qci j → gI s j = gI b j) ∧ (∀ j, qvy j → gA t j = gA s j) ∧ (∀ j k, 16 ≤ j → j ≤ 18 → 1 + n ≤ k → k < 64 → (gA s j)[k]? = some 0) ∧ (∀ k, 2 ≤ k → k < 4096 → (gA s 21)[k]? = some 0) ∧ (∃ o, o ≤ 16 ∧ gI s 10 = Int32.ofNat o ∧ ∀ k, k < o → (gA t 2)[k]? = (gA s 2)[k]?)
def qB (b : St) (n : Nat) : Prop := (1 ≤ n ∧ n ≤ 16) ∧ qL b ∧ (∃ nt, nt ≤ 256 ∧ gI b 2 = Int32.ofNat nt) ∧ (∀ k, k ≠ 1 → ¬ (gA b 0)[k]? = some 3) ∧ (∀ k, k < 256 → ∃ m, (gA b 13)[k]? = some m ∧ (m = -1 ∨ ∃ l, 2 ≤ l ∧ l < 256 ∧ m = Int32.ofNat l)) ∧ (∀ k, k < 256 → ∃ m, (gA b 14)[k]? = some m ∧ (m = -1 ∨ ∃ l, 2 ≤ l ∧ l < 256 ∧ m = Int32.ofNat l)) ∧ (∀ k, k < 8 → ∃ v : Int32, (gA b 9)[k]? = some v ∧ (v < 0 ∨ v = 0 ∨ v = 1)) ∧ ((gA b 19)[0]? = some 0 ∧ (gA b 19)[1]? = some 1 ∧ (gA b 20)[0]? = some 1 ∧ (gA b 20)[1]? = some (Int32.ofNat n)) ∧ ((gA b 22)[0]? = some 0 ∧ (gA b 23)[0]? = some 0 ∧ (gA b 24)[0]? = some 0) ∧ (gA b 6)[0]? = some 2 ∧ ¬ (gA b 0)[0]? = some 14
theorem qD.i {b : St} {n : Nat} {s t : St} (h : qD b n s t) (j : Nat) (hj : ¬ qci j) (hj' : j ≠ 10) {x y : Int32} (e : y = x) : qD b n (sI s j x) (sI t j y) := by
 subst e
 obtain ⟨h1, h2, h3, h4, h5, h6, h7, h8, o, h9, h10, h11⟩ := h
 refine ⟨h1, h2, h3, fun l hl => ?_, fun l hl => ?_, h6, h7, h8, o, h9, ?_, h11⟩
 ·rw [gI_sI, gI_sI, h4 l hl]
 ·have : ¬ l = j := fun e => hj (e ▸ hl)
  rw [gI_sI, if_neg this]; exact h5 l hl
 ·rw [gI_sI, if_neg (Ne.symm hj')]; exact h10
/-- a write into an array that is the same in both, at a place that may be written -/
theorem qD.w {b : St} {n : Nat} {s t : St} (h : qD b n s t) (j k : Nat) (x : Int32) (hj : (16 ≤ j ∧ j ≤ 18 ∧ k < 1 + n) ∨ (j = 21 ∧ k < 2)) : qD b n (sA s j ((gA s j).set k x)) (sA t j ((gA t j).set k x)) := by
 obtain ⟨h1, h2, h3, h4, h5, h6, h7, h8, h9⟩ := h
 have ne : ∀ l, ¬ l = j → gA (sA s j ((gA s j).set k x)) l = gA s l ∧ gA (sA t j ((gA t j).set k x)) l = gA t l := fun l e => ⟨by rw [gA_sA, if_neg e], by rw [gA_sA, if_neg e]⟩
 refine ⟨h1.wr j k x, h2.wr j k x, fun l hl => ?_, h4, h5, fun l hl => ?_, fun l i l1 l2 i1 i2 => ?_, fun i i1 i2 => ?_, ?_⟩
 ·have e : ¬ l = j := fun e => by omega
  rw [(ne l e).1, (ne l e).2]; exact h3 l hl
 ·by_cases e : l = j
  ·subst e
   rw [gA_sA, gA_sA, if_pos rfl, if_pos rfl, h6 l hl]
  ·rw [(ne l e).1, (ne l e).2]; exact h6 l hl
 ·by_cases e : l = j
  ·subst e
   rw [gA_sA, if_pos rfl, get_set_ne _ (by omega)]; exact h7 l i l1 l2 i1 i2
  ·rw [(ne l e).1]; exact h7 l i l1 l2 i1 i2
 ·by_cases e : 21 = j
  ·subst e
   rw [gA_sA, if_pos rfl, get_set_ne _ (by omega)]; exact h8 i i1 i2
  ·rw [(ne 21 e).1]; exact h8 i i1 i2
 ·rw [(ne 2 (by omega)).1, (ne 2 (by omega)).2]; exact h9
def qsr (r : Nat) (k v o : Int32) (s : St) : St := sA (sA (sA s 27 ((gA s 27).set r k)) 28 ((gA s 28).set r v)) 29 ((gA s 29).set r o)
def qrg (s : St) (r : Nat) (k v o : Int32) : Prop := (gA s 27)[r]? = some k ∧ (gA s 28)[r]? = some v ∧ (gA s 29)[r]? = some o
def qG (s t : St) (r : Nat) : Prop := ∃ k v o, qrg s r k v o ∧ qrg t r k v o
theorem qset {s : St} (hL : qL s) {c : Int32} {r : Nat} (hc : c.toInt = r) (hr : r < 4) (k v o : Int32) : f_setReg c k v o s = some (qsr r k v o s) := by
 have l1 : (gA s 27).length = 4 := hL 27
 have l2 : (gA s 28).length = 4 := hL 28
 have l3 : (gA s 29).length = 4 := hL 29
 unfold f_setReg
 refine qsa hc (by omega) ?_
 refine qsa hc (show r < (gA s 28).length by omega) ?_
 exact qsa hc (show r < (gA s 29).length by omega) rfl
theorem qD.sr {b : St} {n : Nat} {s t : St} (h : qD b n s t) (r : Nat) (k v o : Int32) : qD b n (qsr r k v o s) (qsr r k v o t) := by
 obtain ⟨h1, h2, h3, h4, h5, h6, h7, h8, h9⟩ := h
 have ne : ∀ u : St, ∀ l, l < 27 → gA (qsr r k v o u) l = gA u l := fun u l e => by
  unfold qsr
  rw [gA_sA, if_neg (by omega), gA_sA, if_neg (by omega), gA_sA, if_neg (by omega)]
 refine ⟨((h1.wr 27 r k).wr 28 r v).wr 29 r o, ((h2.wr 27 r k).wr 28 r v).wr 29 r o, fun l hl => ?_, h4, h5, fun l hl => ?_, fun l i l1 l2 i1 i2 => ?_, fun i i1 i2 => ?_, ?_⟩
 ·rw [ne s l (by omega), ne t l (by omega)]; exact h3 l hl
 ·rw [ne s l (by omega), ne t l (by omega)]; exact h6 l hl
 ·rw [ne s l (by omega)]; exact h7 l i l1 l2 i1 i2
 ·rw [ne s 21 (by omega)]; exact h8 i i1 i2
 ·rw [ne s 2 (by omega), ne t 2 (by omega)]; exact h9
theorem qrs {s : St} (hL : qL s) {r : Nat} (hr : r < 4) (k v o : Int32) : qrg (qsr r k v o s) r k v o := by
 have l1 : (gA s 27).length = 4 := hL 27
 have l2 : (gA s 28).length = 4 := hL 28
 have l3 : (gA s 29).length = 4 := hL 29
 exact ⟨get_set_self _ (by omega), get_set_self _ (by omega), get_set_self _ (by omega)⟩
theorem qrn {s : St} {r q : Nat} (h : q ≠ r) (k v o : Int32) {k' v' o' : Int32} (hq : qrg s q k' v' o') : qrg (qsr r k v o s) q k' v' o' :=
 ⟨by show ((gA s 27).set r k)[q]? = _; rw [get_set_ne _ (Ne.symm h)]; exact hq.1, by show ((gA s 28).set r v)[q]? = _; rw [get_set_ne _ (Ne.symm h)]; exact hq.2.1, by show ((gA s 29).set r o)[q]? = _; rw [get_set_ne _ (Ne.symm h)]; exact hq.2.2⟩
theorem qG.self {b : St} {n : Nat} {s t : St} (h : qD b n s t) {r : Nat} (hr : r < 4) (k v o : Int32) : qG (qsr r k v o s) (qsr r k v o t) r := ⟨k, v, o, qrs h.1 hr k v o, qrs h.2.1 hr k v o⟩
theorem qG.ne {s t : St} {r q : Nat} (h : q ≠ r) (k v o : Int32) (hq : qG s t q) : qG (qsr r k v o s) (qsr r k v o t) q := by
 obtain ⟨k', v', o', h1, h2⟩ := hq
 exact ⟨k', v', o', qrn h k v o h1, qrn h k v o h2⟩
/-! tokens -/
theorem qkb {b : St} {n : Nat} (hB : qB b n) (p : Int32) : ∃ k, f_kindAt p b = some k ∧ (¬ k = 0 → ∃ q, q < 256 ∧ p = Int32.ofNat q ∧ (gA b 0)[q]? = some k) := by
 obtain ⟨-, hL, ⟨nt, h1, h2⟩, -⟩ := hB
 unfold f_kindAt f_kindAt_12
 by_cases c : p < 0
 ·rw [if_pos c]; exact ⟨0, rfl, fun z => absurd rfl z⟩
 rw [if_neg c, h2]
 by_cases d : p < Int32.ofNat nt
 ·rw [if_pos d]
  obtain ⟨q, hq⟩ := nn_of c
  have d' := d
  rw [x32_lt, hq, ofN_int (by omega)] at d'
  obtain ⟨x, hx⟩ := hL.get 0 q (show q < 256 by omega)
  rw [rd_of hq hx]
  exact ⟨x, rfl, fun _ => ⟨q, by omega, ofN_of hq, hx⟩⟩
 ·rw [if_neg d]; exact ⟨0, rfl, fun z => absurd rfl z⟩
theorem qvb {b : St} {n : Nat} (hB : qB b n) (p : Int32) : ∃ k, f_valAt p b = some k := by
 obtain ⟨-, hL, ⟨nt, h1, h2⟩, -⟩ := hB
 unfold f_valAt f_valAt_12
 by_cases c : p < 0
 ·rw [if_pos c]; exact ⟨0, rfl⟩
 rw [if_neg c, h2]
 by_cases d : p < Int32.ofNat nt
 ·rw [if_pos d]
  obtain ⟨q, hq⟩ := nn_of c
  have d' := d
  rw [x32_lt, hq, ofN_int (by omega)] at d'
  obtain ⟨x, hx⟩ := hL.get 1 q (show q < 256 by omega)
  rw [rd_of hq hx]
  exact ⟨x, rfl⟩
 ·rw [if_neg d]; exact ⟨0, rfl⟩
theorem qD.kd {b : St} {n : Nat} {s t : St} (h : qD b n s t) (p : Int32) : f_kindAt p s = f_kindAt p b ∧ f_kindAt p t = f_kindAt p b := by
 have e1 := h.2.2.1 0 (by decide)
 have e2 := h.2.2.2.2.1 2 (by decide)
 have e3 := h.2.2.2.1 2 (by decide)
 unfold f_kindAt f_kindAt_12
 rw [e1.1, e1.2, e3, e2]
 exact ⟨rfl, rfl⟩
theorem qD.vl {b : St} {n : Nat} {s t : St} (h : qD b n s t) (p : Int32) : f_valAt p s = f_valAt p b ∧ f_valAt p t = f_valAt p b := by
 have e1 := h.2.2.1 1 (by decide)
 have e2 := h.2.2.2.2.1 2 (by decide)
 have e3 := h.2.2.2.1 2 (by decide)
 unfold f_valAt f_valAt_12
 rw [e1.1, e1.2, e3, e2]
 exact ⟨rfl, rfl⟩
theorem qO2.kind {α β : Type} {b : St} {n : Nat} {s t : St} (hB : qB b n) (h : qD b n s t) {p : Int32} {F : Nat → Int32 → Option α} {G : Nat → Int32 → Option β} {P : α → β → Prop} (k : ∀ k, f_kindAt p b = some k → (¬ k = 0 → ∃ q, q < 256 ∧ p = Int32.ofNat q ∧ (gA b 0)[q]? = some k) → qO2 (fun m => F m k) (fun m => G m k) P) : qO2 (fun m => (f_kindAt p s).bind (F m)) (fun m => (f_kindAt p t).bind (G m)) P := by
 obtain ⟨x, e, hx⟩ := qkb hB p
 exact qO2.eq ((h.kd p).1.trans e) ((h.kd p).2.trans e) (k x e hx)
theorem qO2.val {α β : Type} {b : St} {n : Nat} {s t : St} (hB : qB b n) (h : qD b n s t) {p : Int32} {F : Nat → Int32 → Option α} {G : Nat → Int32 → Option β} {P : α → β → Prop} (k : ∀ k, qO2 (fun m => F m k) (fun m => G m k) P) : qO2 (fun m => (f_valAt p s).bind (F m)) (fun m => (f_valAt p t).bind (G m)) P := by
 obtain ⟨x, e⟩ := qvb hB p
 exact qO2.eq ((h.vl p).1.trans e) ((h.vl p).2.trans e) (k x)
/-- a read of a cell that is the same in both -/
theorem qD.get {b : St} {n : Nat} {s t : St} (h : qD b n s t) {j k : Nat} (hj : qfx j ∨ qvy j) (hk : k < qlens.getD j 0) : ∃ x, (gA s j)[k]? = some x ∧ (gA t j)[k]? = some x := by
 obtain ⟨x, hx⟩ := h.1.get j k hk
 refine ⟨x, hx, ?_⟩
 rcases hj with e | e
 ·rw [(h.2.2.1 j e).2, ← (h.2.2.1 j e).1]; exact hx
 ·rw [h.2.2.2.2.2.1 j e]; exact hx
theorem qO2.cell {α β : Type} {b : St} {n : Nat} {s t : St} (h : qD b n s t) {j : Nat} {i : Int32} {k : Nat} (hj : qfx j ∨ qvy j) (hi : i.toInt = k) (hk : k < qlens.getD j 0) {F : Nat → Int32 → Option α} {G : Nat → Int32 → Option β} {P : α → β → Prop} (q : ∀ x, (gA s j)[k]? = some x → qO2 (fun m => F m x) (fun m => G m x) P) : qO2 (fun m => (Jvm.Own.rd (gA s j) i).bind (F m)) (fun m => (Jvm.Own.rd (gA t j) i).bind (G m)) P := by
 obtain ⟨x, h1, h2⟩ := h.get hj hk
 exact qO2.rd hi h1 h2 (q x h1)

def qRun (b : St) (n : Nat) (s t : St) : Prop := qD b n s t ∧ gI s 15 = 1 ∧ gI s 18 = 1
def qStop (b : St) (n : Nat) (s t : St) : Prop := qD b n s t ∧ gI s 18 = 0 ∧ ¬ gI s 4 = -1
def qPr (b : St) (n r : Nat) (s t a a' : St) : Prop := qRun b n a a' ∧ qG a a' r ∧ ∀ q, q ≠ r → qG s t q → qG a a' q
theorem qRun.sr {b : St} {n : Nat} {s t : St} (h : qRun b n s t) {r : Nat} (hr : r < 4) (k v o : Int32) : qPr b n r s t (qsr r k v o s) (qsr r k v o t) := ⟨⟨h.1.sr r k v o, h.2.1, h.2.2⟩, qG.self h.1 hr k v o, fun _ hq g => g.ne hq k v o⟩
theorem qsetO {b : St} {n : Nat} {s t : St} (h : qRun b n s t) {c : Int32} {r : Nat} (hc : c.toInt = r) (hr : r < 4) (k v o : Int32) : qO2 (fun _ => f_setReg c k v o s) (fun _ => f_setReg c k v o t) (qPr b n r s t) :=
 ⟨_, _, Ev.const (qset h.1.1 hc hr k v o), Ev.const (qset h.1.2.1 hc hr k v o), h.sr hr k v o⟩
theorem qand63 (x : Int32) : ∃ w, w ≤ 63 ∧ x &&& 63 = Int32.ofNat w := and_natL x 63 (by decide)
theorem qand4k (x : Int32) : ∃ w, w ≤ 4095 ∧ x &&& 4095 = Int32.ofNat w := and_natL x 4095 (by decide)
theorem qrc {b : St} {n : Nat} {s t : St} (h : qRun b n s t) (p c : Int32) {r : Nat} (hc : c.toInt = r) (hr : r < 4) : qO2 (fun _ => f_readCell p c s) (fun _ => f_readCell p c t) (qPr b n r s t) := by
 obtain ⟨w, hw, e⟩ := qand63 p
 unfold f_readCell
 rw [e]
 refine qO2.cell h.1 (j := 16) (by decide) (ofN_int (by omega)) (show w < 64 by omega) fun x _ => ?_
 refine qO2.cell h.1 (j := 17) (by decide) (ofN_int (by omega)) (show w < 64 by omega) fun y _ => ?_
 refine qO2.cell h.1 (j := 18) (by decide) (ofN_int (by omega)) (show w < 64 by omega) fun z _ => ?_
 exact qO2.bind (qsetO h hc hr x y z) fun a a' q => qO2.ret q
theorem qix (p : Int32) : ∃ w, w ≤ 7 ∧ (((0 : Int32) &&& 3) * 8 + (p &&& 7)) = Int32.ofNat w := by
 obtain ⟨w, hw, e⟩ := and_natL p 7 (by decide)
 have hw : w ≤ 7 := hw
 have e : p &&& 7 = Int32.ofNat w := e
 exact ⟨w, hw, by rw [e, show ((0 : Int32) &&& 3) * 8 = 0 by decide, Int32.zero_add]⟩
theorem qob1 {b : St} {n : Nat} {u : St} (hB : qB b n) (h15 : gI u 15 = 1) (hA : ∀ j, qfx j → gA u j = gA b j) (p : Int32) : ∃ i, i < 2 ∧ f_objOf p b = f_objOf p b ∧ f_objOf p u = some (Int32.ofNat i) ∧ ((∃ w v, w ≤ 7 ∧ (((0 : Int32) &&& 3) * 8 + (p &&& 7)) = Int32.ofNat w ∧ (gA b 9)[w]? = some v ∧ i = if v = 1 then 1 else 0)) := by
 obtain ⟨-, -, -, -, -, -, hN, -, ⟨h22, h23, -⟩, -⟩ := hB
 obtain ⟨w, hw, ew⟩ := qix p
 obtain ⟨v, hv, hv'⟩ := hN w (by omega)
 have one : (1 : Int32) - 1 = 0 := rfl
 have main : f_objOf p u = if v < 0 then f_objOf_41 0 0 u else f_objOf_41 0 v u := by
  unfold f_objOf lt
  rw [h15]
  dsimp only
  rw [if_neg (by decide), hA 22 (by decide), hA 9 (by decide)]
  refine qrr (k := 0) rfl h22 ?_
  exact qrr (k := w) (by rw [ew]; exact ofN_int (by omega)) hv rfl
 have f41 : ∀ x, f_objOf_41 0 x u = some ((0 + x) &&& 4095) := fun x => by
  unfold f_objOf_41
  rw [hA 23 (by decide)]
  exact qrr (k := 0) rfl h23 rfl
 refine ⟨if v = 1 then 1 else 0, by split <;> omega, rfl, ?_, w, v, hw, ew, hv, rfl⟩
 rw [main, f41, f41]
 rcases hv' with e | rfl | rfl
 ·rw [if_pos e, if_neg (fun z => by rw [z] at e; exact absurd e (by decide))]; decide
 ·decide
 ·decide
theorem qobj {b : St} {n : Nat} {s t : St} (hB : qB b n) (h : qRun b n s t) (p : Int32) : ∃ i, i < 2 ∧ f_objOf p s = some (Int32.ofNat i) ∧ f_objOf p t = some (Int32.ofNat i) := by
 obtain ⟨i, hi, -, e1, w, v, wl, ew, hv, ei⟩ := qob1 hB h.2.1 (fun j hj => (h.1.2.2.1 j hj).1) p
 obtain ⟨i', hi', -, e2, w', v', wl', ew', hv', ei'⟩ := qob1 (u := t) hB ((h.1.2.2.2.1 15 (by decide)).trans h.2.1) (fun j hj => (h.1.2.2.1 j hj).2) p
 have : i' = i := by
  have a1 : Int32.ofNat w = Int32.ofNat w' := ew.symm.trans ew'
  have : w = w' := (ofN_eq (by omega) (by omega)).mp a1
  subst this
  have : v = v' := Option.some.inj (hv.symm.trans hv')
  rw [ei, ei', this]
 rw [this] at e2
 exact ⟨i, hi, e1, e2⟩
theorem qarr {b : St} {n : Nat} {s t : St} (hB : qB b n) (h : qRun b n s t) (p : Int32) : ∃ x, f_isArr p s = some x ∧ f_isArr p t = some x := by
 have h22 := hB.2.2.2.2.2.2.2.2.1.1
 obtain ⟨w, hw, ew⟩ := qix p
 obtain ⟨x, hx⟩ := hB.2.1.get 10 w (show w < 32 by omega)
 have main : ∀ u : St, gI u 15 = 1 → (∀ j, qfx j → gA u j = gA b j) → f_isArr p u = some (x &&& 1) := fun u h15 hA => by
  unfold f_isArr lt
  rw [h15]
  dsimp only
  rw [if_neg (by decide), hA 22 (by decide), hA 10 (by decide)]
  refine qrr (k := 0) rfl h22 ?_
  exact qrr (k := w) (by rw [ew]; exact ofN_int (by omega)) hx rfl
 exact ⟨_, main s h.2.1 fun j hj => (h.1.2.2.1 j hj).1, main t ((h.1.2.2.2.1 15 (by decide)).trans h.2.1) fun j hj => (h.1.2.2.1 j hj).2⟩
theorem qlv {b : St} {n : Nat} {s t : St} (hB : qB b n) (h : qRun b n s t) (p c : Int32) {r : Nat} (hc : c.toInt = r) (hr : r < 4) : qO2 (fun _ => f_loadVar p c s) (fun _ => f_loadVar p c t) (qPr b n r s t) := by
 obtain ⟨i, hi, e1, e2⟩ := qobj hB h p
 obtain ⟨x, e3, e4⟩ := qarr hB h p
 unfold f_loadVar
 refine qO2.eq e1 e2 ?_
 refine qO2.eq e3 e4 ?_
 refine qO2.ite Iff.rfl (fun _ => ?_) fun _ => ?_
 ·refine qO2.cell h.1 (j := 19) (by decide) (ofN_int (by omega)) (show i < 4096 by omega) fun y _ => ?_
  exact qO2.bind (qrc h (y &&& 63) c hc hr) fun a a' q => qO2.ret q
 ·exact qO2.bind (qsetO h hc hr 1 0 (Int32.ofNat i)) fun a a' q => qO2.ret q
theorem qla {b : St} {n : Nat} {s t : St} (hB : qB b n) (h : qRun b n s t) (p c : Int32) {r : Nat} (hc : c.toInt = r) (hr : r < 4) : qO2 (fun _ => f_loadAtom p c s) (fun _ => f_loadAtom p c t) (qPr b n r s t) := by
 unfold f_loadAtom f_loadAtom_34
 refine qO2.kind hB h.1 fun k _ _ => ?_
 refine qO2.ite Iff.rfl (fun _ => ?_) fun _ => ?_
 ·refine qO2.val hB h.1 fun v => ?_
  exact qO2.bind (qsetO h hc hr 0 v 0) fun a a' q => qO2.ret q
 ·refine qO2.val hB h.1 fun v => ?_
  exact qO2.bind (qlv hB h v c hc hr) fun a a' q => qO2.ret q
def qtrp (k p : Int32) (s : St) : St := sI (sI (sI (sI s 4 k) 5 p) 6 (gI s 15)) 18 0
theorem qtrS {b : St} {n : Nat} {s t : St} (h : qRun b n s t) {k : Int32} (hk : ¬ k = -1) (p : Int32) : qStop b n (qtrp k p s) (qtrp k p t) := by
 refine ⟨?_, rfl, hk⟩
 exact (((h.1.i 4 (by decide) (by decide) rfl).i 5 (by decide) (by decide) rfl).i 6 (by decide) (by decide) (h.1.2.2.2.1 15 (by decide))).i 18 (by decide) (by decide) rfl
theorem qtrO {α β : Type} {b : St} {n : Nat} {s t : St} (h : qRun b n s t) {k : Int32} (hk : ¬ k = -1) (p : Int32) {F : Nat → St → Option α} {G : Nat → St → Option β} {P : α → β → Prop} (q : qStop b n (qtrp k p s) (qtrp k p t) → qO2 (fun m => F m (qtrp k p s)) (fun m => G m (qtrp k p t)) P) : qO2 (fun m => (f_trap k p s).bind (F m)) (fun m => (f_trap k p t).bind (G m)) P :=
 qO2.eq (x := qtrp k p s) (y := qtrp k p t) rfl rfl (q (qtrS h hk p))
/-- the access check -/
theorem qchk {b : St} {n : Nat} {s t : St} (hB : qB b n) (h : qRun b n s t) (p1 p2 p3 p4 p5 p6 : Int32) : qO2 (fun _ => f_check p1 p2 p3 p4 p5 p6 s) (fun _ => f_check p1 p2 p3 p4 p5 p6 t) (fun a a' => a'.1 = a.1 ∧ ((a.1 = -1 ∧ qStop b n a.2 a'.2) ∨ (∃ c, c < 1 + n ∧ a.1 = Int32.ofNat c ∧ a.2 = s ∧ a'.2 = t))) := by
 have o : (0 : Int64).toInt = 0 := rfl
 have hn := hB.1
 obtain ⟨b190, b191, b200, b201⟩ := hB.2.2.2.2.2.2.2.1
 have tr : ∀ k : Int32, ¬ k = -1 → qO2 (fun _ => (f_trap k p6 s).bind fun c => some ((-1 : Int32), c)) (fun _ => (f_trap k p6 t).bind fun c => some ((-1 : Int32), c)) (fun a a' => a'.1 = a.1 ∧ ((a.1 = -1 ∧ qStop b n a.2 a'.2) ∨ (∃ c, c < 1 + n ∧ a.1 = Int32.ofNat c ∧ a.2 = s ∧ a'.2 = t))) := fun k hk => qtrO h hk p6 fun q => qO2.ret ⟨rfl, .inl ⟨rfl, q⟩⟩
 unfold f_check f_check_10 f_check_74
 refine qO2.ite Iff.rfl (fun _ => ?_) fun _ => tr 1 (by decide)
 refine qO2.ite Iff.rfl (fun _ => ?_) fun _ => tr 1 (by decide)
 obtain ⟨w, hw, e⟩ := qand4k p3
 rw [e]
 refine qO2.let ?_
 refine qO2.cell h.1 (j := 21) (by decide) (ofN_int (by omega)) (show w < 4096 by omega) fun x hx => ?_
 refine qO2.ite Iff.rfl (fun _ => tr 3 (by decide)) fun nz => ?_
 have w2 : w < 2 := by
  by_cases c : w < 2
  ·exact c
  ·have := h.1.2.2.2.2.2.2.2.1 w (by omega) (by omega)
   rw [this] at hx
   exact absurd (Option.some.inj hx).symm nz
 refine qO2.let ?_
 refine qO2.ite Iff.rfl (fun _ => tr 2 (by decide)) fun c0 => ?_
 obtain ⟨sz, bs, hsz, hbs, hle⟩ : ∃ sz bs, (gA b 20)[w]? = some (Int32.ofNat sz) ∧ (gA b 19)[w]? = some (Int32.ofNat bs) ∧ bs + sz ≤ 1 + n := by
  rcases (by omega : w = 0 ∨ w = 1) with rfl | rfl
  ·exact ⟨1, 0, b200, b190, by omega⟩
  ·exact ⟨n, 1, b201, b191, by omega⟩
 refine qO2.rd (x := Int32.ofNat sz) (k := w) (ofN_int (by omega)) (by rw [(h.1.2.2.1 20 (by decide)).1]; exact hsz) (by rw [(h.1.2.2.1 20 (by decide)).2]; exact hsz) ?_
 refine qO2.ite Iff.rfl (fun c1 => ?_) fun _ => tr 2 (by decide)
 refine qO2.rd (x := Int32.ofNat bs) (k := w) (ofN_int (by omega)) (by rw [(h.1.2.2.1 19 (by decide)).1]; exact hbs) (by rw [(h.1.2.2.1 19 (by decide)).2]; exact hbs) ?_
 rw [x64_lt, o] at c0
 rw [x64_lt, Int32.toInt_toInt64, ofN_int (by omega)] at c1
 generalize p2.toInt64 + p5.toInt64 = y at c0 c1
 obtain ⟨m, hm⟩ : ∃ m : Nat, y.toInt = m := ⟨y.toInt.toNat, by omega⟩
 have e32 : y.toInt32 = Int32.ofNat m := by
  rw [x32_eq, Int64.toInt_toInt32, hm, ofN_int (by omega)]
  exact Int.bmod_eq_of_le (by omega) (by omega)
 have e63 : (Int32.ofNat bs + y.toInt32) &&& 63 = Int32.ofNat (bs + m) := by
  rw [e32, ← Int32.ofNat_add]
  have all : ∀ z : Fin 64, Int32.ofNat z.val &&& 63 = Int32.ofNat z.val := by decide +kernel
  exact all ⟨bs + m, by omega⟩
 rw [e63]
 exact qO2.ret ⟨rfl, .inr ⟨bs + m, by omega, rfl, rfl, rfl⟩⟩
def qPe (b : St) (n r lo hi : Nat) (s t : St) (a a' : Int32 × St) : Prop := a'.1 = a.1 ∧ ((a.1 = -1 ∧ qStop b n a.2 a'.2) ∨ (∃ q, lo < q ∧ q ≤ hi ∧ a.1 = Int32.ofNat q ∧ qRun b n a.2 a'.2 ∧ qG a.2 a'.2 r ∧ ∀ l, r < l → qG s t l → qG a.2 a'.2 l))
theorem qPr.e {b : St} {n r lo hi q : Nat} {s t a a' : St} (h : qPr b n r s t a a') (h1 : lo < q) (h2 : q ≤ hi) : qPe b n r lo hi s t (Int32.ofNat q, a) (Int32.ofNat q, a') := ⟨rfl, .inr ⟨q, h1, h2, rfl, h.1, h.2.1, fun l hl g => h.2.2 l (by omega) g⟩⟩
theorem qRun.lift {b : St} {n : Nat} {s t : St} (h : qRun b n s t) {a a' : St} {r : Nat} (q : qPr b n r s t a a') {c c' : St} (q2 : qPr b n r a a' c c') : qPr b n r s t c c' := ⟨q2.1, q2.2.1, fun l hl g => q2.2.2 l hl (q.2.2 l hl g)⟩
theorem qeo {b : St} {n : Nat} {s t : St} (hB : qB b n) (h : qRun b n s t) (p : Nat) (hp : p ≤ 300) : qO2 (fun _ => f_evalOperand (Int32.ofNat p) s) (fun _ => f_evalOperand (Int32.ofNat p) t) (qPe b n 0 p (p + 4) s t) := by
 have s1 : Int32.ofNat p + 1 = Int32.ofNat (p + 1) := ofN_succ p
 have s2 : Int32.ofNat p + 2 = Int32.ofNat (p + 2) := (Int32.ofNat_add p 2).symm
 have s4 : Int32.ofNat p + 4 = Int32.ofNat (p + 4) := (Int32.ofNat_add p 4).symm
 unfold f_evalOperand
 rw [s1, s2, s4]
 refine qO2.kind hB h.1 fun k _ _ => ?_
 refine qO2.ite Iff.rfl (fun _ => ?_) fun _ => ?_
 ·refine qO2.val hB h.1 fun v => ?_
  exact qO2.bind (qsetO h (r := 0) rfl (by decide) 0 v 0) fun a a' q => qO2.ret (q.e (by omega) (by omega))
 refine qO2.ite Iff.rfl (fun _ => ?_) fun _ => ?_
 ·refine qO2.val hB h.1 fun v => ?_
  obtain ⟨i, hi, e1, e2⟩ := qobj hB h v
  refine qO2.eq e1 e2 ?_
  exact qO2.bind (qsetO h (r := 0) rfl (by decide) 1 0 (Int32.ofNat i)) fun a a' q => qO2.ret (q.e (by omega) (by omega))
 have fin : ∀ (a a' : St), qPr b n 0 s t a a' → ∀ (p1 p2 p3 p4 p5 p6 : Int32) (m : Nat), p < m → m ≤ p + 4 → qO2 (fun _ => (f_check p1 p2 p3 p4 p5 p6 a).bind fun c => if c.1 < 0 then some ((-1 : Int32), c.2) else (f_readCell c.1 0 c.2).bind fun d => some (Int32.ofNat m, d)) (fun _ => (f_check p1 p2 p3 p4 p5 p6 a').bind fun c => if c.1 < 0 then some ((-1 : Int32), c.2) else (f_readCell c.1 0 c.2).bind fun d => some (Int32.ofNat m, d)) (qPe b n 0 p (p + 4) s t) := fun a a' q p1 p2 p3 p4 p5 p6 m m1 m2 => by
  refine qO2.bind (qchk hB q.1 p1 p2 p3 p4 p5 p6) fun c c' hc => ?_
  obtain ⟨c1, c2⟩ := c
  obtain ⟨d1, d2⟩ := c'
  obtain ⟨e1, hc⟩ := hc
  dsimp only at e1 hc ⊢
  subst e1
  have hn := hB.1
  rcases hc with ⟨rfl, hS⟩ | ⟨x, hx, rfl, rfl, rfl⟩
  ·exact qO2.ite Iff.rfl (fun _ => qO2.ret ⟨rfl, .inl ⟨rfl, hS⟩⟩) fun z => absurd (by decide) z
  ·refine qO2.ite Iff.rfl (fun z => absurd z (ofN_nn (by omega))) fun _ => ?_
   exact qO2.bind (qrc q.1 (Int32.ofNat x) 0 (r := 0) rfl (by decide)) fun e e' q2 => qO2.ret ((h.lift q q2).e m1 m2)
 refine qO2.ite Iff.rfl (fun _ => ?_) fun _ => ?_
 ·refine qO2.val hB h.1 fun v => ?_
  refine qO2.bind (qlv hB h v 0 (r := 0) rfl (by decide)) fun a a' q => ?_
  obtain ⟨k', v', o', g1, g2⟩ := q.2.1
  refine qO2.rd (k := 0) rfl g1.1 g2.1 ?_
  refine qO2.rd (k := 0) rfl g1.2.1 g2.2.1 ?_
  refine qO2.rd (k := 0) rfl g1.2.2 g2.2.2 ?_
  exact fin a a' q _ _ _ _ _ _ (p + 2) (by omega) (by omega)
 ·refine qO2.val hB h.1 fun v => ?_
  refine qO2.bind (qlv hB h v 0 (r := 0) rfl (by decide)) fun a a' q => ?_
  refine qO2.kind hB q.1.1 fun k2 _ _ => ?_
  refine qO2.ite Iff.rfl (fun _ => ?_) fun _ => qO2.ret (q.e (by omega) (by omega))
  obtain ⟨k', v', o', g1, g2⟩ := q.2.1
  refine qO2.rd (k := 0) rfl g1.1 g2.1 ?_
  refine qO2.rd (k := 0) rfl g1.2.1 g2.2.1 ?_
  refine qO2.rd (k := 0) rfl g1.2.2 g2.2.2 ?_
  refine qO2.bind (qla hB q.1 (Int32.ofNat (p + 2)) 0 (r := 0) rfl (by decide)) fun c c' q2 => ?_
  obtain ⟨k3, v3, o3, g3, g4⟩ := q2.2.1
  refine qO2.rd (k := 0) rfl g3.1 g4.1 ?_
  refine qO2.rd (k := 0) rfl g3.2.1 g4.2.1 ?_
  exact fin c c' (h.lift q q2) _ _ _ _ _ _ (p + 4) (by omega) (by omega)
theorem qcp {b : St} {n : Nat} {s t : St} (h : qRun b n s t) {c e : Int32} {q r : Nat} (he : e.toInt = q) (hc : c.toInt = r) (hr : r < 4) (g : qG s t q) : qO2 (fun _ => f_copyReg c e s) (fun _ => f_copyReg c e t) (qPr b n r s t) := by
 obtain ⟨k, v, o, g1, g2⟩ := g
 unfold f_copyReg
 refine qO2.rd he g1.1 g2.1 ?_
 refine qO2.rd he g1.2.1 g2.2.1 ?_
 refine qO2.rd he g1.2.2 g2.2.2 ?_
 exact qO2.bind (qsetO h hc hr k v o) fun a a' q => qO2.ret q
/-- the binary operations -/
def qPb (b : St) (n r : Nat) (s t : St) (a a' : Int32 × St) : Prop := a'.1 = a.1 ∧ ((a.1 = 0 ∧ qStop b n a.2 a'.2) ∨ (a.1 = 1 ∧ qPr b n r s t a.2 a'.2))
theorem qbi {b : St} {n : Nat} {s t : St} (h : qRun b n s t) (op site : Int32) {c e : Int32} {q r : Nat} (he : e.toInt = q) (hc : c.toInt = r) (hr : r < 4) (gr : qG s t r) (gq : qG s t q) : qO2 (fun _ => f_binary op site c e s) (fun _ => f_binary op site c e t) (qPb b n r s t) := by
 obtain ⟨k1, v1, o1, g1, g2⟩ := gr
 obtain ⟨k2, v2, o2, g3, g4⟩ := gq
 have st : ∀ k v o, qO2 (fun _ => (f_setReg c k v o s).bind fun d => some ((1 : Int32), d)) (fun _ => (f_setReg c k v o t).bind fun d => some ((1 : Int32), d)) (qPb b n r s t) := fun k v o => qO2.bind (qsetO h hc hr k v o) fun a a' z => qO2.ret ⟨rfl, .inr ⟨rfl, z⟩⟩
 have tr : ∀ k : Int32, ¬ k = -1 → qO2 (fun _ => (f_trap k site s).bind fun d => some ((0 : Int32), d)) (fun _ => (f_trap k site t).bind fun d => some ((0 : Int32), d)) (qPb b n r s t) := fun k hk => qtrO h hk site fun z => qO2.ret ⟨rfl, .inl ⟨rfl, z⟩⟩
 have mv : ∀ o x, qO2 (fun _ => (f_movePtr c o x site s).bind fun d => some (d.1 &&& 1, d.2)) (fun _ => (f_movePtr c o x site t).bind fun d => some (d.1 &&& 1, d.2)) (qPb b n r s t) := fun o x => by
  refine qO2.bind (Q := qPb b n r s t) ?_ fun d d' z => qO2.ret ?_
  ·obtain ⟨w, hw, e4⟩ := qand4k o
   unfold f_movePtr f_movePtr_26
   rw [e4]
   refine qO2.let ?_
   refine qO2.ite Iff.rfl (fun _ => tr 4 (by decide)) fun _ => ?_
   refine qO2.cell h.1 (j := 20) (by decide) (ofN_int (by omega)) (show w < 4096 by omega) fun y _ => ?_
   exact qO2.ite Iff.rfl (fun _ => tr 4 (by decide)) fun _ => st _ _ _
  ·obtain ⟨z1, z2⟩ := z
   refine ⟨by show d'.1 &&& 1 = d.1 &&& 1; rw [z1], ?_⟩
   rcases z2 with ⟨e, z⟩ | ⟨e, z⟩
   ·exact .inl ⟨by show d.1 &&& 1 = 0; rw [e]; decide, z⟩
   ·exact .inr ⟨by show d.1 &&& 1 = 1; rw [e]; decide, z⟩
 unfold f_binary
 refine qO2.rd hc g1.1 g2.1 ?_
 refine qO2.rd hc g1.2.1 g2.2.1 ?_
 refine qO2.rd hc g1.2.2 g2.2.2 ?_
 refine qO2.rd he g3.1 g4.1 ?_
 refine qO2.rd he g3.2.1 g4.2.1 ?_
 refine qO2.rd he g3.2.2 g4.2.2 ?_
 have b251 : qO2 (fun _ => f_binary_251 op site c v1 o1 v2 o2 s) (fun _ => f_binary_251 op site c v1 o1 v2 o2 t) (qPb b n r s t) := by
  unfold f_binary_251 f_binary_279 f_binary_285
  refine qO2.ite Iff.rfl (fun _ => ?_) fun _ => tr 1 (by decide)
  refine qO2.ite Iff.rfl (fun _ => ?_) fun _ => tr 1 (by decide)
  exact qO2.ite Iff.rfl (fun _ => st _ _ _) fun _ => st _ _ _
 have b178 : qO2 (fun _ => f_binary_178 op site c k1 v1 o1 k2 v2 o2 s) (fun _ => f_binary_178 op site c k1 v1 o1 k2 v2 o2 t) (qPb b n r s t) := by
  unfold f_binary_178 f_binary_217 f_binary_218 f_binary_285
  refine qO2.ite Iff.rfl (fun _ => ?_) fun _ => tr 1 (by decide)
  refine qO2.ite Iff.rfl (fun _ => ?_) fun _ => tr 1 (by decide)
  refine qO2.ite Iff.rfl (fun _ => ?_) fun _ => ?_
  ·refine qO2.ite Iff.rfl (fun _ => ?_) fun _ => st _ _ _
   exact qO2.ite Iff.rfl (fun _ => st _ _ _) fun _ => st _ _ _
  ·refine qO2.ite Iff.rfl (fun _ => ?_) fun _ => b251
   exact qO2.ite Iff.rfl (fun _ => st _ _ _) fun _ => b251
 have b145 : qO2 (fun _ => f_binary_145 op site c k1 v1 o1 k2 v2 o2 s) (fun _ => f_binary_145 op site c k1 v1 o1 k2 v2 o2 t) (qPb b n r s t) := by
  unfold f_binary_145
  refine qO2.ite Iff.rfl (fun _ => ?_) fun _ => b178
  refine qO2.ite Iff.rfl (fun _ => ?_) fun _ => b178
  exact qO2.ite Iff.rfl (fun _ => mv _ _) fun _ => b178
 have b112 : qO2 (fun _ => f_binary_112 op site c k1 v1 o1 k2 v2 o2 s) (fun _ => f_binary_112 op site c k1 v1 o1 k2 v2 o2 t) (qPb b n r s t) := by
  unfold f_binary_112
  refine qO2.ite Iff.rfl (fun _ => ?_) fun _ => b145
  refine qO2.ite Iff.rfl (fun _ => ?_) fun _ => b145
  exact qO2.ite Iff.rfl (fun _ => mv _ _) fun _ => b145
 have b79 : qO2 (fun _ => f_binary_79 op site c k1 v1 o1 k2 v2 o2 s) (fun _ => f_binary_79 op site c k1 v1 o1 k2 v2 o2 t) (qPb b n r s t) := by
  unfold f_binary_79
  refine qO2.ite Iff.rfl (fun _ => ?_) fun _ => b112
  refine qO2.ite Iff.rfl (fun _ => ?_) fun _ => b112
  exact qO2.ite Iff.rfl (fun _ => mv _ _) fun _ => b112
 refine qO2.ite Iff.rfl (fun _ => ?_) fun _ => b79
 refine qO2.ite Iff.rfl (fun _ => ?_) fun _ => b79
 have io : ∃ x, f_intOp op v1 v2 s = some x ∧ f_intOp op v1 v2 t = some x := by
  unfold f_intOp f_intOp_46 f_intOp_57
  split
  ·exact ⟨_, rfl, rfl⟩
  split
  ·exact ⟨_, rfl, rfl⟩
  split
  ·exact ⟨_, rfl, rfl⟩
  split
  ·split <;> exact ⟨_, rfl, rfl⟩
  ·split <;> exact ⟨_, rfl, rfl⟩
 obtain ⟨x, e1, e2⟩ := io
 exact qO2.eq e1 e2 (st _ _ _)
/-! expressions -/
theorem qPe.w {b : St} {n r lo hi lo' hi' : Nat} {s t s0 t0 : St} {a a' : Int32 × St} (h : qPe b n r lo hi s t a a') (h1 : lo' ≤ lo) (h2 : hi ≤ hi') (g : ∀ l, r < l → qG s0 t0 l → qG s t l) : qPe b n r lo' hi' s0 t0 a a' := by
 obtain ⟨e, h⟩ := h
 refine ⟨e, ?_⟩
 rcases h with h | ⟨q, q1, q2, q3, q4, q5, q6⟩
 ·exact .inl h
 ·exact .inr ⟨q, by omega, by omega, q3, q4, q5, fun l hl z => q6 l hl (g l hl z)⟩
theorem qet20 {b : St} {n : Nat} (hB : qB b n) (lo : Nat) : ∀ (m i p : Nat) (s t : St), i + m = 256 → lo < p → p ≤ 266 → qRun b n s t → qG s t 1 → qO2 (fun N => f_evalTerm_20 N (Int32.ofNat p) (Int32.ofNat i) s) (fun N => f_evalTerm_20 N (Int32.ofNat p) (Int32.ofNat i) t) (qPe b n 1 lo 266 s t) := by
 intro m
 induction m with
 | zero =>
  intro i p s t hi hlo hp h g
  refine qO2.step (f' := fun N => g_evalTerm_20 (f_evalTerm_20 N) N (Int32.ofNat p) (Int32.ofNat i) s) (g' := fun N => g_evalTerm_20 (f_evalTerm_20 N) N (Int32.ofNat p) (Int32.ofNat i) t) (fun _ => rfl) (fun _ => rfl) ?_
  unfold g_evalTerm_20 f_evalTerm_75
  exact qO2.ite Iff.rfl (fun z => by have := (ofN_ltL (m := 256) (by omega) (by decide)).mp z; omega) fun _ => qO2.ret ⟨rfl, .inr ⟨p, hlo, hp, rfl, h, g, fun l _ z => z⟩⟩
 | succ m ih =>
  intro i p s t hi hlo hp h g
  refine qO2.step (f' := fun N => g_evalTerm_20 (f_evalTerm_20 N) N (Int32.ofNat p) (Int32.ofNat i) s) (g' := fun N => g_evalTerm_20 (f_evalTerm_20 N) N (Int32.ofNat p) (Int32.ofNat i) t) (fun _ => rfl) (fun _ => rfl) ?_
  have stop : qO2 (fun N => f_evalTerm_75 N (Int32.ofNat p) s) (fun N => f_evalTerm_75 N (Int32.ofNat p) t) (qPe b n 1 lo 266 s t) := qO2.ret ⟨rfl, .inr ⟨p, hlo, hp, rfl, h, g, fun l _ z => z⟩⟩
  unfold g_evalTerm_20
  refine qO2.ite Iff.rfl (fun _ => ?_) fun _ => stop
  refine qO2.kind hB h.1 fun k _ hk => ?_
  refine qO2.ite Iff.rfl (fun k22 => ?_) fun _ => stop
  obtain ⟨q, q1, q2, -⟩ := hk (by rw [k22]; decide)
  have pq : p = q := (ofN_eq (by omega) (by omega)).mp q2
  rw [ofN_succ, ofN_succ]
  refine qO2.bind (qeo hB h (p + 1) (by omega)) fun a a' ha => ?_
  obtain ⟨a1, a2⟩ := a
  obtain ⟨d1, d2⟩ := a'
  obtain ⟨e1, ha⟩ := ha
  dsimp only at e1 ha ⊢
  subst e1
  rcases ha with ⟨rfl, hS⟩ | ⟨y, y1, y2, rfl, hR, g0, gk⟩
  ·exact qO2.ite Iff.rfl (fun _ => qO2.ret ⟨rfl, .inl ⟨rfl, hS⟩⟩) fun z => absurd (by decide) z
  ·refine qO2.ite Iff.rfl (fun z => absurd z (ofN_nn (by omega))) fun _ => ?_
   refine qO2.bind (qbi hR 22 (Int32.ofNat p) (e := 0) (c := 1) (q := 0) (r := 1) rfl rfl (by decide) (gk 1 (by decide) g) g0) fun c c' hc => ?_
   obtain ⟨c1, c2⟩ := c
   obtain ⟨f1, f2⟩ := c'
   obtain ⟨e2, hc⟩ := hc
   dsimp only at e2 hc ⊢
   subst e2
   rcases hc with ⟨rfl, hS⟩ | ⟨rfl, hP⟩
   ·exact qO2.ite Iff.rfl (fun _ => qO2.ret ⟨rfl, .inl ⟨rfl, hS⟩⟩) fun z => absurd rfl z
   ·refine qO2.ite Iff.rfl (fun z => absurd z (by decide)) fun _ => qO2.let ?_
    have := ih (i + 1) y c2 f2 (by omega) (by omega) (by omega) hP.1 hP.2.1
    obtain ⟨r, r', z1, z2, z3⟩ := this
    exact ⟨r, r', z1, z2, z3.w (Nat.le_refl _) (Nat.le_refl _) fun l hl z => hP.2.2 l (by omega) (gk l (by omega) z)⟩
theorem qet {b : St} {n : Nat} (hB : qB b n) {s t : St} (h : qRun b n s t) (p : Nat) (hp : p ≤ 262) : qO2 (fun N => f_evalTerm N (Int32.ofNat p) s) (fun N => f_evalTerm N (Int32.ofNat p) t) (qPe b n 1 p 266 s t) := by
 unfold f_evalTerm
 refine qO2.bind (qeo hB h p (by omega)) fun a a' ha => ?_
 obtain ⟨a1, a2⟩ := a
 obtain ⟨d1, d2⟩ := a'
 obtain ⟨e1, ha⟩ := ha
 dsimp only at e1 ha ⊢
 subst e1
 rcases ha with ⟨rfl, hS⟩ | ⟨y, y1, y2, rfl, hR, g0, gk⟩
 ·exact qO2.ite Iff.rfl (fun _ => qO2.ret ⟨rfl, .inl ⟨rfl, hS⟩⟩) fun z => absurd (by decide) z
 ·refine qO2.ite Iff.rfl (fun z => absurd z (ofN_nn (by omega))) fun _ => ?_
  refine qO2.bind (qcp hR (e := 0) (c := 1) (q := 0) (r := 1) rfl rfl (by decide) g0) fun c c' hc => ?_
  obtain ⟨r, r', z1, z2, z3⟩ := qet20 hB p 256 0 y c c' rfl y1 (by omega) hc.1 hc.2.1
  exact ⟨r, r', z1, z2, z3.w (Nat.le_refl _) (Nat.le_refl _) fun l hl z => hc.2.2 l (by omega) (gk l (by omega) z)⟩
theorem qes20 {b : St} {n : Nat} (hB : qB b n) (lo : Nat) : ∀ (m i p : Nat) (s t : St), i + m = 256 → lo < p → p ≤ 266 → qRun b n s t → qG s t 2 → qO2 (fun N => f_evalSum_20 N (Int32.ofNat p) (Int32.ofNat i) s) (fun N => f_evalSum_20 N (Int32.ofNat p) (Int32.ofNat i) t) (qPe b n 2 lo 266 s t) := by
 intro m
 induction m with
 | zero =>
  intro i p s t hi hlo hp h g
  refine qO2.step (f' := fun N => g_evalSum_20 (f_evalSum_20 N) N (Int32.ofNat p) (Int32.ofNat i) s) (g' := fun N => g_evalSum_20 (f_evalSum_20 N) N (Int32.ofNat p) (Int32.ofNat i) t) (fun _ => rfl) (fun _ => rfl) ?_
  unfold g_evalSum_20
  exact qO2.ite Iff.rfl (fun z => by have := (ofN_ltL (m := 256) (by omega) (by decide)).mp z; omega) fun _ => qO2.ret ⟨rfl, .inr ⟨p, hlo, hp, rfl, h, g, fun l _ z => z⟩⟩
 | succ m ih =>
  intro i p s t hi hlo hp h g
  refine qO2.step (f' := fun N => g_evalSum_20 (f_evalSum_20 N) N (Int32.ofNat p) (Int32.ofNat i) s) (g' := fun N => g_evalSum_20 (f_evalSum_20 N) N (Int32.ofNat p) (Int32.ofNat i) t) (fun _ => rfl) (fun _ => rfl) ?_
  have stop : qO2 (fun N => some (Int32.ofNat p, s)) (fun N => some (Int32.ofNat p, t)) (qPe b n 2 lo 266 s t) := qO2.ret ⟨rfl, .inr ⟨p, hlo, hp, rfl, h, g, fun l _ z => z⟩⟩
  unfold g_evalSum_20
  refine qO2.ite Iff.rfl (fun _ => ?_) fun _ => stop
  refine qO2.kind hB h.1 fun k _ hk => ?_
  have go : ¬ k = 0 → qO2 (fun N => f_evalSum_50 (f_evalSum_20 N) N (Int32.ofNat p) (Int32.ofNat i) k s) (fun N => f_evalSum_50 (f_evalSum_20 N) N (Int32.ofNat p) (Int32.ofNat i) k t) (qPe b n 2 lo 266 s t) := fun k0 => by
   obtain ⟨q, q1, q2, -⟩ := hk k0
   have pq : p = q := (ofN_eq (by omega) (by omega)).mp q2
   unfold f_evalSum_50
   rw [ofN_succ, ofN_succ]
   refine qO2.bind (qet hB h (p + 1) (by omega)) fun a a' ha => ?_
   obtain ⟨a1, a2⟩ := a
   obtain ⟨d1, d2⟩ := a'
   obtain ⟨e1, ha⟩ := ha
   dsimp only at e1 ha ⊢
   subst e1
   rcases ha with ⟨rfl, hS⟩ | ⟨y, y1, y2, rfl, hR, g0, gk⟩
   ·exact qO2.ite Iff.rfl (fun _ => qO2.ret ⟨rfl, .inl ⟨rfl, hS⟩⟩) fun z => absurd (by decide) z
   ·refine qO2.ite Iff.rfl (fun z => absurd z (ofN_nn (by omega))) fun _ => ?_
    refine qO2.bind (qbi hR k (Int32.ofNat p) (e := 1) (c := 2) (q := 1) (r := 2) rfl rfl (by decide) (gk 2 (by decide) g) g0) fun c c' hc => ?_
    obtain ⟨c1, c2⟩ := c
    obtain ⟨f1, f2⟩ := c'
    obtain ⟨e2, hc⟩ := hc
    dsimp only at e2 hc ⊢
    subst e2
    rcases hc with ⟨rfl, hS⟩ | ⟨rfl, hP⟩
    ·exact qO2.ite Iff.rfl (fun _ => qO2.ret ⟨rfl, .inl ⟨rfl, hS⟩⟩) fun z => absurd rfl z
    ·refine qO2.ite Iff.rfl (fun z => absurd z (by decide)) fun _ => qO2.let ?_
     obtain ⟨r, r', z1, z2, z3⟩ := ih (i + 1) y c2 f2 (by omega) (by omega) (by omega) hP.1 hP.2.1
     exact ⟨r, r', z1, z2, z3.w (Nat.le_refl _) (Nat.le_refl _) fun l hl z => hP.2.2 l (by omega) (gk l (by omega) z)⟩
  refine qO2.ite Iff.rfl (fun z => go (by rw [z]; decide)) fun _ => ?_
  exact qO2.ite Iff.rfl (fun z => go (by rw [z]; decide)) fun _ => stop
theorem qes {b : St} {n : Nat} (hB : qB b n) {s t : St} (h : qRun b n s t) (p : Nat) (hp : p ≤ 262) : qO2 (fun N => f_evalSum N (Int32.ofNat p) s) (fun N => f_evalSum N (Int32.ofNat p) t) (qPe b n 2 p 266 s t) := by
 unfold f_evalSum
 refine qO2.bind (qet hB h p (by omega)) fun a a' ha => ?_
 obtain ⟨a1, a2⟩ := a
 obtain ⟨d1, d2⟩ := a'
 obtain ⟨e1, ha⟩ := ha
 dsimp only at e1 ha ⊢
 subst e1
 rcases ha with ⟨rfl, hS⟩ | ⟨y, y1, y2, rfl, hR, g0, gk⟩
 ·exact qO2.ite Iff.rfl (fun _ => qO2.ret ⟨rfl, .inl ⟨rfl, hS⟩⟩) fun z => absurd (by decide) z
 ·refine qO2.ite Iff.rfl (fun z => absurd z (ofN_nn (by omega))) fun _ => ?_
  refine qO2.bind (qcp hR (e := 1) (c := 2) (q := 1) (r := 2) rfl rfl (by decide) g0) fun c c' hc => ?_
  obtain ⟨r, r', z1, z2, z3⟩ := qes20 hB p 256 0 y c c' rfl y1 (by omega) hc.1 hc.2.1
  exact ⟨r, r', z1, z2, z3.w (Nat.le_refl _) (Nat.le_refl _) fun l hl z => hc.2.2 l (by omega) (gk l (by omega) z)⟩
def qPx (b : St) (n lo : Nat) (a a' : Int32 × St) : Prop := a'.1 = a.1 ∧ ((a.1 = -1 ∧ qStop b n a.2 a'.2) ∨ (∃ q, lo < q ∧ q ≤ 266 ∧ a.1 = Int32.ofNat q ∧ qRun b n a.2 a'.2 ∧ qG a.2 a'.2 2))
theorem qex {b : St} {n : Nat} (hB : qB b n) {s t : St} (h : qRun b n s t) (p : Nat) (hp : p ≤ 261) : qO2 (fun N => f_evalExpr N (Int32.ofNat p) s) (fun N => f_evalExpr N (Int32.ofNat p) t) (qPx b n p) := by
 unfold f_evalExpr
 refine qO2.bind (qes hB h p (by omega)) fun a a' ha => ?_
 obtain ⟨a1, a2⟩ := a
 obtain ⟨d1, d2⟩ := a'
 obtain ⟨e1, ha⟩ := ha
 dsimp only at e1 ha ⊢
 subst e1
 rcases ha with ⟨rfl, hS⟩ | ⟨y, y1, y2, rfl, hR, g0, gk⟩
 ·exact qO2.ite Iff.rfl (fun _ => qO2.ret ⟨rfl, .inl ⟨rfl, hS⟩⟩) fun z => absurd (by decide) z
 ·refine qO2.ite Iff.rfl (fun z => absurd z (ofN_nn (by omega))) fun _ => ?_
  refine qO2.kind hB hR.1 fun k _ hk => ?_
  have go : ¬ k = 0 → qO2 (fun N => f_evalExpr_32 N (Int32.ofNat y) k a2) (fun N => f_evalExpr_32 N (Int32.ofNat y) k d2) (qPx b n p) := fun k0 => by
   obtain ⟨q, q1, q2, -⟩ := hk k0
   have pq : y = q := (ofN_eq (by omega) (by omega)).mp q2
   unfold f_evalExpr_32
   rw [ofN_succ]
   refine qO2.bind (qcp hR (e := 2) (c := 3) (q := 2) (r := 3) rfl rfl (by decide) g0) fun c c' hc => ?_
   refine qO2.bind (qes hB hc.1 (y + 1) (by omega)) fun e e' he => ?_
   obtain ⟨u1, u2⟩ := e
   obtain ⟨w1, w2⟩ := e'
   obtain ⟨e1, he⟩ := he
   dsimp only at e1 he ⊢
   subst e1
   rcases he with ⟨rfl, hS⟩ | ⟨x, x1, x2, rfl, hR2, g2, gk2⟩
   ·exact qO2.ite Iff.rfl (fun _ => qO2.ret ⟨rfl, .inl ⟨rfl, hS⟩⟩) fun z => absurd (by decide) z
   ·refine qO2.ite Iff.rfl (fun z => absurd z (ofN_nn (by omega))) fun _ => ?_
    refine qO2.bind (qbi hR2 k (Int32.ofNat y) (e := 2) (c := 3) (q := 2) (r := 3) rfl rfl (by decide) (gk2 3 (by decide) hc.2.1) g2) fun f f' hf => ?_
    obtain ⟨c1, c2⟩ := f
    obtain ⟨f1, f2⟩ := f'
    obtain ⟨e2, hf⟩ := hf
    dsimp only at e2 hf ⊢
    subst e2
    rcases hf with ⟨rfl, hS⟩ | ⟨rfl, hP⟩
    ·exact qO2.ite Iff.rfl (fun _ => qO2.ret ⟨rfl, .inl ⟨rfl, hS⟩⟩) fun z => absurd rfl z
    ·refine qO2.ite Iff.rfl (fun z => absurd z (by decide)) fun _ => ?_
     exact qO2.bind (qcp hP.1 (e := 3) (c := 2) (q := 3) (r := 2) rfl rfl (by decide) hP.2.1) fun l l' hl => qO2.ret ⟨rfl, .inr ⟨x, by omega, x2, rfl, hl.1, hl.2.1⟩⟩
  refine qO2.ite Iff.rfl (fun z => go (by rw [z]; decide)) fun _ => ?_
  refine qO2.ite Iff.rfl (fun z => go (by rw [z]; decide)) fun _ => ?_
  exact qO2.ret ⟨rfl, .inr ⟨y, y1, y2, rfl, hR, g0⟩⟩

/-! the statements -/
theorem qa63 {c : Nat} (hc : c ≤ 17) : Int32.ofNat c &&& 63 = Int32.ofNat c := by
 have all : ∀ z : Fin 64, Int32.ofNat z.val &&& 63 = Int32.ofNat z.val := by decide +kernel
 exact all ⟨c, by omega⟩
/-- three writes at one cell -/
theorem qw3 {α β : Type} {b : St} {n : Nat} {s t : St} (h : qRun b n s t) {i : Int32} {c : Nat} (hi : i.toInt = c) (hc : c < 1 + n) (hn : n ≤ 16) (x y z : Int32) {F : Nat → St → Option α} {G : Nat → St → Option β} {P : α → β → Prop} (q : ∀ u w, qRun b n u w → qO2 (fun m => F m u) (fun m => G m w) P) : qO2 (fun m => (wrA s 16 i x).bind fun s2 => (wrA s2 17 i y).bind fun s4 => (wrA s4 18 i z).bind fun s6 => F m s6) (fun m => (wrA t 16 i x).bind fun s2 => (wrA s2 17 i y).bind fun s4 => (wrA s4 18 i z).bind fun s6 => G m s6) P := by
 have len : ∀ u : St, qL u → (gA u 16).length = 64 ∧ (gA u 17).length = 64 ∧ (gA u 18).length = 64 := fun u hu => ⟨hu 16, hu 17, hu 18⟩
 have e : ∀ u : St, qL u → ∀ {γ : Type} (H : St → Option γ), ((wrA u 16 i x).bind fun s2 => (wrA s2 17 i y).bind fun s4 => (wrA s4 18 i z).bind fun s6 => H s6) = H (sA (sA (sA u 16 ((gA u 16).set c x)) 17 ((gA u 17).set c y)) 18 ((gA u 18).set c z)) := fun u hu γ H => by
  obtain ⟨l1, l2, l3⟩ := len u hu
  refine qsa hi (by omega) ?_
  refine qsa hi (show c < (gA u 17).length by omega) ?_
  exact qsa hi (show c < (gA u 18).length by omega) rfl
 refine qO2.congr (fun m => e s h.1.1 (F m)) (fun m => e t h.1.2.1 (G m)) (q _ _ ?_)
 exact ⟨((h.1.w 16 c x (by omega)).w 17 c y (by omega)).w 18 c z (by omega), h.2.1, h.2.2⟩
theorem qwc {b : St} {n : Nat} {s t : St} (h : qRun b n s t) (hn : n ≤ 16) {c : Nat} (hc : c < 1 + n) (g : qG s t 2) : qO2 (fun _ => f_writeCell (Int32.ofNat c) 2 s) (fun _ => f_writeCell (Int32.ofNat c) 2 t) (qRun b n) := by
 obtain ⟨k, v, o, g1, g2⟩ := g
 unfold f_writeCell
 rw [qa63 (by omega)]
 refine qO2.rd (k := 2) rfl g1.1 g2.1 ?_
 have e : ∀ u : St, qL u → qrg u 2 k v o → ((wrA u 16 (Int32.ofNat c) k).bind fun s2 => (rd (gA s2 28) 2).bind fun x3 => (wrA s2 17 (Int32.ofNat c) x3).bind fun s4 => (rd (gA s4 29) 2).bind fun x5 => (wrA s4 18 (Int32.ofNat c) x5).bind fun s6 => some s6) = (wrA u 16 (Int32.ofNat c) k).bind fun s2 => (wrA s2 17 (Int32.ofNat c) v).bind fun s4 => (wrA s4 18 (Int32.ofNat c) o).bind fun s6 => some s6 := fun u hu gu => by
  have l1 : (gA u 16).length = 64 := hu 16
  have l2 : (gA u 17).length = 64 := hu 17
  rw [wrA_of (k := c) k (ofN_int (by omega)) (by omega), Option.bind_some, Option.bind_some]
  refine qrr (k := 2) rfl gu.2.1 ?_
  rw [wrA_of (s := sA u 16 ((gA u 16).set c k)) (f := 17) (k := c) v (ofN_int (by omega)) (show c < (gA u 17).length by omega), Option.bind_some, Option.bind_some]
  exact qrr (k := 2) rfl gu.2.2 rfl
 refine qO2.congr (fun _ => e s h.1.1 g1) (fun _ => e t h.1.2.1 g2) ?_
 exact qw3 h (ofN_int (by omega)) hc hn k v o fun u w q => qO2.ret q
theorem qsv {b : St} {n : Nat} {s t : St} (hB : qB b n) (h : qRun b n s t) (p k v o : Int32) : qO2 (fun _ => f_storeVar p k v o s) (fun _ => f_storeVar p k v o t) (qRun b n) := by
 have hn := hB.1
 obtain ⟨i, hi, e1, e2⟩ := qobj hB h p
 obtain ⟨b190, b191, -, -⟩ := hB.2.2.2.2.2.2.2.1
 have bi : (gA b 19)[i]? = some (Int32.ofNat i) := by
  rcases (by omega : i = 0 ∨ i = 1) with rfl | rfl
  ·exact b190
  ·exact b191
 unfold f_storeVar
 refine qO2.eq e1 e2 ?_
 refine qO2.rd (x := Int32.ofNat i) (k := i) (ofN_int (by omega)) (by rw [(h.1.2.2.1 19 (by decide)).1]; exact bi) (by rw [(h.1.2.2.1 19 (by decide)).2]; exact bi) ?_
 rw [qa63 (by omega)]
 refine qO2.let ?_
 exact qw3 h (ofN_int (by omega)) (by omega) hn.2 k v o fun u w q => qO2.ret q
def qPs (b : St) (n : Nat) (a a' : Int32 × St) : Prop := a'.1 = a.1 ∧ (qStop b n a.2 a'.2 ∨ (∃ q, q ≠ 1 ∧ q ≤ 300 ∧ a.1 = Int32.ofNat q ∧ qRun b n a.2 a'.2))
/-- behind an expression -/
theorem qaf {b : St} {n p : Nat} {a a' : Int32 × St} (h : qPx b n p a a') {F G : Nat → Int32 → St → Option (Int32 × St)} (k : ∀ q u w, p < q → q ≤ 266 → qRun b n u w → qG u w 2 → qO2 (fun m => F m (Int32.ofNat q) u) (fun m => G m (Int32.ofNat q) w) (qPs b n)) : qO2 (fun m => if a.1 < 0 then some ((-1 : Int32), a.2) else F m a.1 a.2) (fun m => if a'.1 < 0 then some ((-1 : Int32), a'.2) else G m a'.1 a'.2) (qPs b n) := by
 obtain ⟨a1, a2⟩ := a
 obtain ⟨d1, d2⟩ := a'
 obtain ⟨e1, ha⟩ := h
 dsimp only at e1 ha ⊢
 subst e1
 rcases ha with ⟨rfl, hS⟩ | ⟨y, y1, y2, rfl, hR, g0⟩
 ·exact qO2.ite Iff.rfl (fun _ => qO2.ret ⟨rfl, .inl hS⟩) fun z => absurd (by decide) z
 ·exact qO2.ite Iff.rfl (fun z => absurd z (ofN_nn (by omega))) fun _ => k y a2 d2 y1 y2 hR g0
/-- check, then write, then on -/
theorem qcw {b : St} {n : Nat} {s t : St} (hB : qB b n) (h : qRun b n s t) (g : qG s t 2) (p1 p2 p3 p4 p5 p6 : Int32) (q : Nat) (hq : 1 ≤ q ∧ q ≤ 280) : qO2 (fun _ => (f_check p1 p2 p3 p4 p5 p6 s).bind fun c11 => if c11.1 < 0 then some ((-1 : Int32), c11.2) else (f_writeCell c11.1 (2 : Int32) c11.2).bind fun c13 => some (Int32.ofNat q + 1, c13)) (fun _ => (f_check p1 p2 p3 p4 p5 p6 t).bind fun c11 => if c11.1 < 0 then some ((-1 : Int32), c11.2) else (f_writeCell c11.1 (2 : Int32) c11.2).bind fun c13 => some (Int32.ofNat q + 1, c13)) (qPs b n) := by
 have hn := hB.1
 refine qO2.bind (qchk hB h p1 p2 p3 p4 p5 p6) fun c c' hc => ?_
 obtain ⟨c1, c2⟩ := c
 obtain ⟨d1, d2⟩ := c'
 obtain ⟨e1, hc⟩ := hc
 dsimp only at e1 hc ⊢
 subst e1
 rcases hc with ⟨rfl, hS⟩ | ⟨x, hx, rfl, rfl, rfl⟩
 ·exact qO2.ite Iff.rfl (fun _ => qO2.ret ⟨rfl, .inl hS⟩) fun z => absurd (by decide) z
 ·refine qO2.ite Iff.rfl (fun z => absurd z (ofN_nn (by omega))) fun _ => ?_
  rw [ofN_succ]
  exact qO2.bind (qwc h hn.2 hx g) fun u w z => qO2.ret ⟨rfl, .inr ⟨q + 1, by omega, by omega, rfl, z⟩⟩
theorem qsIx {b : St} {n : Nat} {s t : St} (hB : qB b n) (h : qRun b n s t) (p : Nat) (hp : p < 256) : qO2 (fun N => f_execIndexStore N (Int32.ofNat p) s) (fun N => f_execIndexStore N (Int32.ofNat p) t) (qPs b n) := by
 unfold f_execIndexStore
 rw [show Int32.ofNat p + 2 = Int32.ofNat (p + 2) from (Int32.ofNat_add p 2).symm, show Int32.ofNat p + 5 = Int32.ofNat (p + 5) from (Int32.ofNat_add p 5).symm]
 refine qO2.val hB h.1 fun v => ?_
 refine qO2.bind (qlv hB h v 0 (r := 0) rfl (by decide)) fun a a' q => ?_
 obtain ⟨k', v', o', g1, g2⟩ := q.2.1
 refine qO2.rd (k := 0) rfl g1.1 g2.1 ?_
 refine qO2.rd (k := 0) rfl g1.2.1 g2.2.1 ?_
 refine qO2.rd (k := 0) rfl g1.2.2 g2.2.2 ?_
 refine qO2.bind (qla hB q.1 (Int32.ofNat (p + 2)) 0 (r := 0) rfl (by decide)) fun c c' q2 => ?_
 obtain ⟨k3, v3, o3, g3, g4⟩ := q2.2.1
 refine qO2.rd (k := 0) rfl g3.1 g4.1 ?_
 refine qO2.rd (k := 0) rfl g3.2.1 g4.2.1 ?_
 refine qO2.bind (qex hB q2.1 (p + 5) (by omega)) fun e e' he => ?_
 exact qaf (F := fun _ x u => (f_check k' v' o' k3 v3 (Int32.ofNat p + 1) u).bind fun c11 => if c11.1 < 0 then some ((-1 : Int32), c11.2) else (f_writeCell c11.1 (2 : Int32) c11.2).bind fun c13 => some (x + 1, c13)) (G := fun _ x u => (f_check k' v' o' k3 v3 (Int32.ofNat p + 1) u).bind fun c11 => if c11.1 < 0 then some ((-1 : Int32), c11.2) else (f_writeCell c11.1 (2 : Int32) c11.2).bind fun c13 => some (x + 1, c13)) he fun y u w y1 y2 hR g => qcw hB hR g _ _ _ _ _ _ y (by omega)
theorem qsVa {b : St} {n : Nat} {s t : St} (hB : qB b n) (h : qRun b n s t) (p : Nat) (hp : p < 256) : qO2 (fun N => f_execVarStmt N (Int32.ofNat p) s) (fun N => f_execVarStmt N (Int32.ofNat p) t) (qPs b n) := by
 unfold f_execVarStmt
 rw [ofN_succ, show Int32.ofNat p + 2 = Int32.ofNat (p + 2) from (Int32.ofNat_add p 2).symm]
 refine qO2.val hB h.1 fun v => ?_
 refine qO2.kind hB h.1 fun k _ _ => ?_
 refine qO2.ite Iff.rfl (fun _ => ?_) fun _ => ?_
 ·exact qO2.bind (qsIx hB h p hp) fun a a' q => qO2.ret q
 refine qO2.kind hB h.1 fun k2 _ hk2 => ?_
 refine qO2.ite Iff.rfl (fun z => ?_) fun _ => ?_
 ·obtain ⟨q, q1, q2, q3⟩ := hk2 (by rw [z]; decide)
  have : p + 2 = q := (ofN_eq (by omega) (by omega)).mp q2
  rw [z] at q3
  exact absurd q3 (hB.2.2.2.1 q (by omega))
 refine qO2.bind (qex hB h (p + 2) (by omega)) fun e e' he => ?_
 refine qaf (F := fun _ x u => (rd (gA u 27) (2 : Int32)).bind fun x9 => (rd (gA u 28) (2 : Int32)).bind fun x10 => (rd (gA u 29) (2 : Int32)).bind fun x11 => (f_storeVar v x9 x10 x11 u).bind fun c12 => some (x + 1, c12)) (G := fun _ x u => (rd (gA u 27) (2 : Int32)).bind fun x9 => (rd (gA u 28) (2 : Int32)).bind fun x10 => (rd (gA u 29) (2 : Int32)).bind fun x11 => (f_storeVar v x9 x10 x11 u).bind fun c12 => some (x + 1, c12)) he fun y u w y1 y2 hR g => ?_
 obtain ⟨k', v', o', g1, g2⟩ := g
 refine qO2.rd (k := 2) rfl g1.1 g2.1 ?_
 refine qO2.rd (k := 2) rfl g1.2.1 g2.2.1 ?_
 refine qO2.rd (k := 2) rfl g1.2.2 g2.2.2 ?_
 rw [ofN_succ]
 exact qO2.bind (qsv hB hR v k' v' o') fun c c' z => qO2.ret ⟨rfl, .inr ⟨y + 1, by omega, by omega, rfl, z⟩⟩
theorem qsSt {b : St} {n : Nat} {s t : St} (hB : qB b n) (h : qRun b n s t) (p : Nat) (hp : p < 256) : qO2 (fun N => f_execStarStore N (Int32.ofNat p) s) (fun N => f_execStarStore N (Int32.ofNat p) t) (qPs b n) := by
 unfold f_execStarStore
 rw [show Int32.ofNat p + 3 = Int32.ofNat (p + 3) from (Int32.ofNat_add p 3).symm]
 refine qO2.val hB h.1 fun v => ?_
 refine qO2.bind (qlv hB h v 0 (r := 0) rfl (by decide)) fun a a' q => ?_
 obtain ⟨k', v', o', g1, g2⟩ := q.2.1
 refine qO2.rd (k := 0) rfl g1.1 g2.1 ?_
 refine qO2.rd (k := 0) rfl g1.2.1 g2.2.1 ?_
 refine qO2.rd (k := 0) rfl g1.2.2 g2.2.2 ?_
 refine qO2.bind (qex hB q.1 (p + 3) (by omega)) fun e e' he => ?_
 exact qaf (F := fun _ x u => (f_check k' v' o' 0 0 (Int32.ofNat p) u).bind fun c11 => if c11.1 < 0 then some ((-1 : Int32), c11.2) else (f_writeCell c11.1 (2 : Int32) c11.2).bind fun c13 => some (x + 1, c13)) (G := fun _ x u => (f_check k' v' o' 0 0 (Int32.ofNat p) u).bind fun c11 => if c11.1 < 0 then some ((-1 : Int32), c11.2) else (f_writeCell c11.1 (2 : Int32) c11.2).bind fun c13 => some (x + 1, c13)) he fun y u w y1 y2 hR g => qcw hB hR g _ _ _ _ _ _ y (by omega)
theorem qtrP {b : St} {n : Nat} {s t : St} (h : qRun b n s t) {k : Int32} (hk : ¬ k = -1) (p : Int32) : qO2 (fun _ => (f_trap k p s).bind fun c => some ((-1 : Int32), c)) (fun _ => (f_trap k p t).bind fun c => some ((-1 : Int32), c)) (qPs b n) := qtrO h hk p fun q => qO2.ret ⟨rfl, .inl q⟩
theorem qD.out {b : St} {n : Nat} {s t : St} (h : qD b n s t) {o : Nat} (ho : o < 16) (e : gI s 10 = Int32.ofNat o) (x : Int32) : qD b n (sI (sA s 2 ((gA s 2).set o x)) 10 (gI s 10 + 1)) (sI (sA t 2 ((gA t 2).set o x)) 10 (gI s 10 + 1)) := by
 obtain ⟨h1, h2, h3, h4, h5, h6, h7, h8, o', h9, h10, h11⟩ := h
 have oo : o' = o := (ofN_eq (by omega) (by omega)).mp (h10.symm.trans e)
 subst oo
 have l1 : (gA s 2).length = 16 := h1 2
 have l2 : (gA t 2).length = 16 := h2 2
 have ne : ∀ u : St, ∀ l, ¬ l = 2 → gA (sI (sA u 2 ((gA u 2).set o' x)) 10 (gI s 10 + 1)) l = gA u l := fun u l el => by
  show gA (sA u 2 _) l = _
  rw [gA_sA, if_neg el]
 refine ⟨h1.wr 2 o' x, h2.wr 2 o' x, fun l hl => ?_, fun l hl => ?_, fun l hl => ?_, fun l hl => ?_, fun l i l1 l2 i1 i2 => ?_, fun i i1 i2 => ?_, o' + 1, by omega, ?_, fun k hk => ?_⟩
 ·rw [ne s l (by omega), ne t l (by omega)]; exact h3 l hl
 ·rw [gI_sI, gI_sI]
  by_cases c : l = 10
  ·rw [if_pos c, if_pos c]
  ·rw [if_neg c, if_neg c]; exact h4 l hl
 ·rw [gI_sI, if_neg (by omega)]; exact h5 l hl
 ·rw [ne s l (by omega), ne t l (by omega)]; exact h6 l hl
 ·rw [ne s l (by omega)]; exact h7 l i l1 l2 i1 i2
 ·rw [ne s 21 (by omega)]; exact h8 i i1 i2
 ·show gI s 10 + 1 = _
  rw [e, ofN_succ]
 ·show ((gA t 2).set o' x)[k]? = ((gA s 2).set o' x)[k]?
  by_cases c : k = o'
  ·subst c
   rw [get_set_self _ (by omega), get_set_self _ (by omega)]
  ·rw [get_set_ne _ (Ne.symm c), get_set_ne _ (Ne.symm c)]; exact h11 k (by omega)
theorem qsOu {b : St} {n : Nat} {s t : St} (hB : qB b n) (h : qRun b n s t) (p : Nat) (hp : p < 256) : qO2 (fun N => f_execOut N (Int32.ofNat p) s) (fun N => f_execOut N (Int32.ofNat p) t) (qPs b n) := by
 unfold f_execOut
 rw [ofN_succ]
 refine qO2.bind (qex hB h (p + 1) (by omega)) fun e e' he => ?_
 refine qaf (F := fun _ x u => (rd (gA u 27) (2 : Int32)).bind fun x3 => if x3 = 0 then if (gI u 10) < (16 : Int32) then (rd (gA u 28) (2 : Int32)).bind fun x6 => (wrA u 2 (gI u 10) x6).bind fun s7 => lt (sI s7 10 ((gI s7 10) + (1 : Int32))) fun s8 => some (x + (1 : Int32), s8) else (f_trap (6 : Int32) (Int32.ofNat p) u).bind fun c9 => some ((-1 : Int32), c9) else (f_trap (1 : Int32) (Int32.ofNat p) u).bind fun c10 => some ((-1 : Int32), c10)) (G := fun _ x u => (rd (gA u 27) (2 : Int32)).bind fun x3 => if x3 = 0 then if (gI u 10) < (16 : Int32) then (rd (gA u 28) (2 : Int32)).bind fun x6 => (wrA u 2 (gI u 10) x6).bind fun s7 => lt (sI s7 10 ((gI s7 10) + (1 : Int32))) fun s8 => some (x + (1 : Int32), s8) else (f_trap (6 : Int32) (Int32.ofNat p) u).bind fun c9 => some ((-1 : Int32), c9) else (f_trap (1 : Int32) (Int32.ofNat p) u).bind fun c10 => some ((-1 : Int32), c10)) he fun y u w y1 y2 hR g => ?_
 obtain ⟨k', v', o', g1, g2⟩ := g
 refine qO2.rd (k := 2) rfl g1.1 g2.1 ?_
 refine qO2.ite Iff.rfl (fun _ => ?_) fun _ => qtrP hR (by decide) _
 obtain ⟨o, h9, h10, h11⟩ := hR.1.2.2.2.2.2.2.2.2
 have t10 := hR.1.2.2.2.1 10 (by decide)
 refine qO2.ite (by rw [t10]) (fun z => ?_) fun _ => qtrP hR (by decide) _
 rw [h10] at z
 have z : o < 16 := (ofN_ltL (m := 16) (by omega) (by decide)).mp z
 have l1 : (gA u 2).length = 16 := hR.1.1 2
 have l2 : (gA w 2).length = 16 := hR.1.2.1 2
 refine qO2.rd (k := 2) rfl g1.2.1 g2.2.1 ?_
 refine qO2.eq (wrA_of (k := o) v' (by rw [h10]; exact ofN_int (by omega)) (by omega)) (wrA_of (k := o) v' (by rw [t10, h10]; exact ofN_int (by omega)) (by omega)) ?_
 refine qO2.let ?_
 rw [ofN_succ]
 refine qO2.ret ⟨rfl, .inr ⟨y + 1, by omega, by omega, rfl, ?_, hR.2.1, hR.2.2⟩⟩
 have := hR.1.out z h10 v'
 show qD b n (sI (sA u 2 _) 10 (gI u 10 + 1)) (sI (sA w 2 _) 10 (gI w 10 + 1))
 rw [t10]; exact this
/-- the end of the activation -/
theorem qdr {b : St} {n : Nat} {s t : St} (hB : qB b n) (h : qRun b n s t) (v1 v2 v3 : Int32) : qO2 (fun N => (f_doReturn N v1 v2 v3 s).bind fun c6 => some (c6.1, c6.2)) (fun N => (f_doReturn N v1 v2 v3 t).bind fun c6 => some (c6.1, c6.2)) (qPs b n) := by
 obtain ⟨b22, b23, b24⟩ := hB.2.2.2.2.2.2.2.2.1
 have b6 := hB.2.2.2.2.2.2.2.2.2.1
 have rd' : ∀ {u w : St}, qD b n u w → ∀ {j : Nat} {x : Int32}, qfx j → (gA b j)[0]? = some x → (gA u j)[0]? = some x ∧ (gA w j)[0]? = some x := fun hd j x hj hx => ⟨by rw [(hd.2.2.1 j hj).1]; exact hx, by rw [(hd.2.2.1 j hj).2]; exact hx⟩
 have f79 : ∀ {u w : St}, qRun b n u w → qO2 (fun N => f_doReturn_79 N v1 v2 v3 0 u) (fun N => f_doReturn_79 N v1 v2 v3 0 w) (qPs b n) := fun {u w} hR => by
  unfold f_doReturn_79
  have r24 := rd' hR.1 (j := 24) (by decide) b24
  refine qO2.rd (k := 0) rfl r24.1 r24.2 ?_
  refine qO2.let (qO2.let ?_)
  refine qO2.ite Iff.rfl (fun _ => ?_) fun z => absurd rfl z
  refine qO2.let ?_
  have D1 := ((hR.1.i 16 (by decide) (by decide) (rfl : (0 : Int32) = 0)).i 15 (by decide) (by decide) (rfl : (0 : Int32) = 0)).i 4 (by decide) (by decide) (rfl : (0 : Int32) = 0)
  have f117 : ∀ t0 : Int32, qO2 (fun N => f_doReturn_117 N v1 v2 v3 t0 (sI (sI (sI u 16 0) 15 0) 4 0)) (fun N => f_doReturn_117 N v1 v2 v3 t0 (sI (sI (sI w 16 0) 15 0) 4 0)) (qPs b n) := fun t0 => by
   unfold f_doReturn_117 f_doReturn_145
   have D2 := (D1.i 7 (by decide) (by decide) (rfl : t0 = t0)).i 8 (by decide) (by decide) (rfl : v2 = v2)
   refine qO2.let (qO2.let ?_)
   refine qO2.ite Iff.rfl (fun _ => ?_) fun _ => ?_
   ·obtain ⟨q, hq, e⟩ := qand4k v3
    rw [e]
    refine qO2.cell D2 (j := 20) (by decide) (ofN_int (by omega)) (show q < 4096 by omega) fun y _ => ?_
    refine qO2.let (qO2.let (qO2.ret ⟨rfl, .inl ⟨(D2.i 9 (by decide) (by decide) rfl).i 18 (by decide) (by decide) rfl, rfl, by show ¬ (0 : Int32) = -1; decide⟩⟩))
   ·exact qO2.let (qO2.let (qO2.ret ⟨rfl, .inl ⟨(D2.i 9 (by decide) (by decide) rfl).i 18 (by decide) (by decide) rfl, rfl, by show ¬ (0 : Int32) = -1; decide⟩⟩))
  exact qO2.ite Iff.rfl (fun _ => f117 1) fun _ => f117 0
 have l34 : ∀ (m v : Nat) (u w : St), v + m = 2 → qRun b n u w → qO2 (fun N => f_doReturn_34 N v1 v2 v3 0 0 (Int32.ofNat v) u) (fun N => f_doReturn_34 N v1 v2 v3 0 0 (Int32.ofNat v) w) (qPs b n) := by
  intro m
  induction m with
  | zero =>
   intro v u w hv hR
   obtain rfl : v = 2 := by omega
   refine qO2.step (f' := fun N => g_doReturn_34 (f_doReturn_34 N) N v1 v2 v3 0 0 (Int32.ofNat 2) u) (g' := fun N => g_doReturn_34 (f_doReturn_34 N) N v1 v2 v3 0 0 (Int32.ofNat 2) w) (fun _ => rfl) (fun _ => rfl) ?_
   unfold g_doReturn_34
   have r6 := rd' hR.1 (j := 6) (by decide) b6
   refine qO2.rd (k := 0) rfl r6.1 r6.2 ?_
   exact qO2.ite Iff.rfl (fun z => absurd z (by decide)) fun _ => f79 hR
  | succ m ih =>
   intro v u w hv hR
   refine qO2.step (f' := fun N => g_doReturn_34 (f_doReturn_34 N) N v1 v2 v3 0 0 (Int32.ofNat v) u) (g' := fun N => g_doReturn_34 (f_doReturn_34 N) N v1 v2 v3 0 0 (Int32.ofNat v) w) (fun _ => rfl) (fun _ => rfl) ?_
   unfold g_doReturn_34
   have r6 := rd' hR.1 (j := 6) (by decide) b6
   have r23 := rd' hR.1 (j := 23) (by decide) b23
   have l1 : (gA u 21).length = 4096 := hR.1.1 21
   have l2 : (gA w 21).length = 4096 := hR.1.2.1 21
   refine qO2.rd (k := 0) rfl r6.1 r6.2 ?_
   refine qO2.ite Iff.rfl (fun _ => ?_) fun _ => f79 hR
   refine qO2.ite Iff.rfl (fun _ => ?_) fun _ => f79 hR
   refine qO2.rd (k := 0) rfl r23.1 r23.2 ?_
   have ev : (0 : Int32) + Int32.ofNat v &&& 4095 = Int32.ofNat v := by
    rcases (by omega : v = 0 ∨ v = 1) with rfl | rfl <;> decide
   rw [ev]
   refine qO2.eq (wrA_of (k := v) 0 (ofN_int (by omega)) (by omega)) (wrA_of (k := v) 0 (ofN_int (by omega)) (by omega)) ?_
   refine qO2.let ?_
   rw [ofN_succ]
   exact ih (v + 1) _ _ (by omega) ⟨hR.1.w 21 v 0 (.inr ⟨rfl, by omega⟩), hR.2.1, hR.2.2⟩
 refine qO2.bind (Q := qPs b n) ?_ fun a a' z => qO2.ret z
 unfold f_doReturn
 have t15 := (h.1.2.2.2.1 15 (by decide)).trans h.2.1
 rw [t15, h.2.1]
 refine qO2.let ?_
 refine qO2.ite Iff.rfl (fun z => absurd z (by decide)) fun _ => ?_
 have r22 := rd' h.1 (j := 22) (by decide) b22
 refine qO2.rd (k := 0) rfl r22.1 r22.2 ?_
 refine qO2.let ?_
 exact l34 2 0 s t (by omega) h
theorem qsRe {b : St} {n : Nat} {s t : St} (hB : qB b n) (h : qRun b n s t) (p : Nat) (hp : p < 256) : qO2 (fun N => f_execReturn N (Int32.ofNat p) s) (fun N => f_execReturn N (Int32.ofNat p) t) (qPs b n) := by
 unfold f_execReturn
 rw [ofN_succ]
 refine qO2.bind (qex hB h (p + 1) (by omega)) fun e e' he => ?_
 refine qaf (F := fun N _ u => (rd (gA u 27) (2 : Int32)).bind fun x3 => (rd (gA u 28) (2 : Int32)).bind fun x4 => (rd (gA u 29) (2 : Int32)).bind fun x5 => (f_doReturn N x3 x4 x5 u).bind fun c6 => some (c6.1, c6.2)) (G := fun N _ u => (rd (gA u 27) (2 : Int32)).bind fun x3 => (rd (gA u 28) (2 : Int32)).bind fun x4 => (rd (gA u 29) (2 : Int32)).bind fun x5 => (f_doReturn N x3 x4 x5 u).bind fun c6 => some (c6.1, c6.2)) he fun y u w y1 y2 hR g => ?_
 obtain ⟨k', v', o', g1, g2⟩ := g
 refine qO2.rd (k := 2) rfl g1.1 g2.1 ?_
 refine qO2.rd (k := 2) rfl g1.2.1 g2.2.1 ?_
 refine qO2.rd (k := 2) rfl g1.2.2 g2.2.2 ?_
 exact qdr hB hR k' v' o'
theorem qsCo {b : St} {n : Nat} {s t : St} (hB : qB b n) (h : qRun b n s t) (p : Nat) (hp : p < 256) (p2 : Int32) : qO2 (fun N => f_execCond N (Int32.ofNat p) p2 s) (fun N => f_execCond N (Int32.ofNat p) p2 t) (qPs b n) := by
 have f14 : ∀ {u w : St}, qRun b n u w → qO2 (fun N => f_execCond_14 N (Int32.ofNat p) u) (fun N => f_execCond_14 N (Int32.ofNat p) w) (qPs b n) := fun {u w} hu => by
  unfold f_execCond_14
  rw [show Int32.ofNat p + 2 = Int32.ofNat (p + 2) from (Int32.ofNat_add p 2).symm]
  refine qO2.bind (qex hB hu (p + 2) (by omega)) fun e e' he => ?_
  refine qaf (F := fun _ x u => (rd (gA u 27) (2 : Int32)).bind fun x3 => if x3 = 0 then (rd (gA u 28) (2 : Int32)).bind fun x5 => if x5 = 0 then (rd (gA u 13) ((Int32.ofNat p) &&& (255 : Int32))).bind fun x7 => some (x7 + (1 : Int32), u) else some (x + (2 : Int32), u) else (f_trap (1 : Int32) (Int32.ofNat p) u).bind fun c8 => some ((-1 : Int32), c8)) (G := fun _ x u => (rd (gA u 27) (2 : Int32)).bind fun x3 => if x3 = 0 then (rd (gA u 28) (2 : Int32)).bind fun x5 => if x5 = 0 then (rd (gA u 13) ((Int32.ofNat p) &&& (255 : Int32))).bind fun x7 => some (x7 + (1 : Int32), u) else some (x + (2 : Int32), u) else (f_trap (1 : Int32) (Int32.ofNat p) u).bind fun c8 => some ((-1 : Int32), c8)) he fun y u w y1 y2 hR g => ?_
  obtain ⟨k', v', o', g1, g2⟩ := g
  refine qO2.rd (k := 2) rfl g1.1 g2.1 ?_
  refine qO2.ite Iff.rfl (fun _ => ?_) fun _ => qtrP hR (by decide) _
  refine qO2.rd (k := 2) rfl g1.2.1 g2.2.1 ?_
  refine qO2.ite Iff.rfl (fun _ => ?_) fun _ => ?_
  ·obtain ⟨q, hq, e⟩ := and_natL (Int32.ofNat p) 255 (by decide)
   have hq : q ≤ 255 := hq
   have e : Int32.ofNat p &&& 255 = Int32.ofNat q := e
   rw [e]
   obtain ⟨m, hm, hm'⟩ := hB.2.2.2.2.1 q (by omega)
   refine qO2.rd (x := m) (k := q) (ofN_int (by omega)) (by rw [(hR.1.2.2.1 13 (by decide)).1]; exact hm) (by rw [(hR.1.2.2.1 13 (by decide)).2]; exact hm) (qO2.ret ⟨rfl, .inr ?_⟩)
   rcases hm' with rfl | ⟨l, l1, l2, rfl⟩
   ·exact ⟨0, by decide, by decide, rfl, hR⟩
   ·exact ⟨l + 1, by omega, by omega, ofN_succ l, hR⟩
  ·exact qO2.ret ⟨rfl, .inr ⟨y + 2, by omega, by omega, (Int32.ofNat_add y 2).symm, hR⟩⟩
 unfold f_execCond
 refine qO2.ite Iff.rfl (fun _ => f14 h) fun _ => ?_
 have t17 := h.1.2.2.2.1 17 (by decide)
 refine qO2.bind (Q := fun a a' => a'.1 = a.1 ∧ ((a.1 = 0 ∧ qStop b n a.2 a'.2) ∨ (a.1 = 1 ∧ qRun b n a.2 a'.2))) ?_ fun a a' ha => ?_
 ·unfold f_tick
  refine qO2.ite (by rw [t17]) (fun _ => ?_) fun _ => ?_
  ·exact qO2.let (qO2.ret ⟨rfl, .inr ⟨rfl, h.1.i 17 (by decide) (by decide) (by rw [t17]), h.2.1, h.2.2⟩⟩)
  ·exact qtrO h (by decide) _ fun q => qO2.ret ⟨rfl, .inl ⟨rfl, q⟩⟩
 ·obtain ⟨a1, a2⟩ := a
  obtain ⟨d1, d2⟩ := a'
  obtain ⟨e1, ha⟩ := ha
  dsimp only at e1 ha ⊢
  subst e1
  rcases ha with ⟨rfl, hS⟩ | ⟨rfl, hR⟩
  ·exact qO2.ite Iff.rfl (fun _ => qO2.ret ⟨rfl, .inl hS⟩) fun z => absurd rfl z
  ·exact qO2.ite Iff.rfl (fun z => absurd z (by decide)) fun _ => f14 hR
theorem qsRb {b : St} {n : Nat} {s t : St} (hB : qB b n) (h : qRun b n s t) (p : Nat) (hp : 2 ≤ p ∧ p < 256) : qO2 (fun N => f_execRbrace N (Int32.ofNat p) s) (fun N => f_execRbrace N (Int32.ofNat p) t) (qPs b n) := by
 unfold f_execRbrace
 obtain ⟨q, hq, e⟩ := and_natL (Int32.ofNat p) 255 (by decide)
 have hq : q ≤ 255 := hq
 have e : Int32.ofNat p &&& 255 = Int32.ofNat q := e
 rw [e]
 obtain ⟨m, hm, hm'⟩ := hB.2.2.2.2.2.1 q (by omega)
 refine qO2.rd (x := m) (k := q) (ofN_int (by omega)) (by rw [(h.1.2.2.1 14 (by decide)).1]; exact hm) (by rw [(h.1.2.2.1 14 (by decide)).2]; exact hm) ?_
 rcases hm' with rfl | ⟨l, l1, l2, rfl⟩
 ·exact qO2.ite Iff.rfl (fun _ => qdr hB h 0 0 0) fun z => absurd (by decide) z
 ·refine qO2.ite Iff.rfl (fun z => absurd z (ofN_nn (by omega))) fun _ => ?_
  refine qO2.kind hB h.1 fun k _ hk => ?_
  refine qO2.ite Iff.rfl (fun _ => qO2.ret ⟨rfl, .inr ⟨l, by omega, by omega, rfl, h⟩⟩) fun _ => ?_
  exact qO2.ret ⟨rfl, .inr ⟨p + 1, by omega, by omega, ofN_succ p, h⟩⟩
theorem qstp {b : St} {n : Nat} {s t : St} (hB : qB b n) (h : qRun b n s t) (p : Nat) (hp : p ≤ 300) (p1 : p ≠ 1) : qO2 (fun N => f_step N (Int32.ofNat p) s) (fun N => f_step N (Int32.ofNat p) t) (qPs b n) := by
 have tr := qtrP h (k := 1) (by decide) (Int32.ofNat p)
 have pr : ∀ {f g : Nat → Option (Int32 × St)}, qO2 f g (qPs b n) → qO2 (fun N => (f N).bind fun c => some (c.1, c.2)) (fun N => (g N).bind fun c => some (c.1, c.2)) (qPs b n) := fun q => qO2.bind q fun a a' z => qO2.ret z
 unfold f_step
 refine qO2.kind hB h.1 fun k _ hk => ?_
 have inr : ¬ k = 0 → p < 256 ∧ (gA b 0)[p]? = some k := fun k0 => by
  obtain ⟨q, q1, q2, q3⟩ := hk k0
  obtain rfl : p = q := (ofN_eq (by omega) (by omega)).mp q2
  exact ⟨q1, q3⟩
 refine qO2.ite Iff.rfl (fun z => pr (qsVa hB h p (inr (by rw [z]; decide)).1)) fun _ => ?_
 refine qO2.ite Iff.rfl (fun z => ?_) fun _ => ?_
 ·have := (inr (by rw [z]; decide)).2
  rw [z] at this
  exact absurd this (hB.2.2.2.1 p p1)
 refine qO2.ite Iff.rfl (fun _ => tr) fun _ => ?_
 refine qO2.ite Iff.rfl (fun _ => tr) fun _ => ?_
 refine qO2.ite Iff.rfl (fun _ => tr) fun _ => ?_
 refine qO2.ite Iff.rfl (fun z => pr (qsCo hB h p (inr (by rw [z]; decide)).1 1)) fun _ => ?_
 refine qO2.ite Iff.rfl (fun z => pr (qsCo hB h p (inr (by rw [z]; decide)).1 0)) fun _ => ?_
 refine qO2.ite Iff.rfl (fun z => pr (qsRe hB h p (inr (by rw [z]; decide)).1)) fun _ => ?_
 refine qO2.ite Iff.rfl (fun z => pr (qsOu hB h p (inr (by rw [z]; decide)).1)) fun _ => ?_
 refine qO2.ite Iff.rfl (fun _ => tr) fun _ => ?_
 refine qO2.ite Iff.rfl (fun _ => tr) fun _ => ?_
 refine qO2.ite Iff.rfl (fun _ => tr) fun _ => ?_
 refine qO2.ite Iff.rfl (fun z => ?_) fun _ => ?_
 ·have i := inr (by rw [z]; decide)
  have : p ≠ 0 := fun e => by
   rw [e, z] at i
   exact hB.2.2.2.2.2.2.2.2.2.2 i.2
  exact pr (qsRb hB h p ⟨by omega, i.1⟩)
 refine qO2.ite Iff.rfl (fun _ => tr) fun _ => ?_
 refine qO2.ite Iff.rfl (fun _ => tr) fun _ => ?_
 refine qO2.ite Iff.rfl (fun _ => tr) fun _ => ?_
 refine qO2.ite Iff.rfl (fun _ => tr) fun _ => ?_
 refine qO2.ite Iff.rfl (fun _ => tr) fun _ => ?_
 refine qO2.ite Iff.rfl (fun _ => tr) fun _ => ?_
 refine qO2.ite Iff.rfl (fun _ => tr) fun _ => ?_
 refine qO2.ite Iff.rfl (fun z => pr (qsSt hB h p (inr (by rw [z]; decide)).1)) fun _ => tr
/-! the loop of steps -/
def qPf (b : St) (n : Nat) (a a' : Int32 × St) : Prop := a'.1 = a.1 ∧ a.1 = gI a.2 4 ∧ ¬ a.1 = -1 ∧ qD b n a.2 a'.2
theorem q110 {b : St} {n : Nat} {s t : St} (h : qStop b n s t) (v1 : Int32) : qO2 (fun N => f_run_110 N v1 s) (fun N => f_run_110 N v1 t) (qPf b n) := by
 unfold f_run_110 f_run_124
 refine qO2.ite (by rw [h.1.2.2.2.1 18 (by decide)]) (fun _ => ?_) fun z => absurd h.2.1 z
 exact qO2.ret ⟨h.1.2.2.2.1 4 (by decide), rfl, h.2.2, h.1⟩
theorem qhalt {b : St} {n : Nat} {s t : St} (h : qStop b n s t) (v1 v2 : Int32) : qO2 (fun N => f_run_85 N v1 v2 s) (fun N => f_run_85 N v1 v2 t) (qPf b n) := by
 refine qO2.step (f' := fun N => g_run_85 (f_run_85 N) N v1 v2 s) (g' := fun N => g_run_85 (f_run_85 N) N v1 v2 t) (fun _ => rfl) (fun _ => rfl) ?_
 unfold g_run_85
 refine qO2.ite Iff.rfl (fun _ => ?_) fun _ => q110 h v1
 exact qO2.ite (by rw [h.1.2.2.2.1 18 (by decide)]) (fun _ => q110 h v1) fun z => absurd h.2.1 z
theorem qlp {b : St} {n : Nat} (hB : qB b n) : ∀ (m i p : Nat) (s t : St), i + m = 1048576 → p ≤ 300 → p ≠ 1 → qRun b n s t → qO2 (fun N => f_run_85 N (Int32.ofNat p) (Int32.ofNat i) s) (fun N => f_run_85 N (Int32.ofNat p) (Int32.ofNat i) t) (qPf b n) := by
 intro m
 induction m with
 | zero =>
  intro i p s t hi hp p1 h
  refine qO2.step (f' := fun N => g_run_85 (f_run_85 N) N (Int32.ofNat p) (Int32.ofNat i) s) (g' := fun N => g_run_85 (f_run_85 N) N (Int32.ofNat p) (Int32.ofNat i) t) (fun _ => rfl) (fun _ => rfl) ?_
  unfold g_run_85
  refine qO2.ite Iff.rfl (fun z => by have := (ofN_ltL (m := 1048576) (by omega) (by decide)).mp z; omega) fun _ => ?_
  unfold f_run_110 f_run_124
  refine qO2.ite (by rw [h.1.2.2.2.1 18 (by decide)]) (fun z => by rw [h.2.2] at z; exact absurd z (by decide)) fun _ => ?_
  refine qtrO h (by decide) _ fun q => qO2.ret ⟨q.1.2.2.2.1 4 (by decide), rfl, q.2.2, q.1⟩
 | succ m ih =>
  intro i p s t hi hp p1 h
  refine qO2.step (f' := fun N => g_run_85 (f_run_85 N) N (Int32.ofNat p) (Int32.ofNat i) s) (g' := fun N => g_run_85 (f_run_85 N) N (Int32.ofNat p) (Int32.ofNat i) t) (fun _ => rfl) (fun _ => rfl) ?_
  unfold g_run_85
  refine qO2.ite Iff.rfl (fun _ => ?_) fun z => absurd ((ofN_ltL (m := 1048576) (by omega) (by decide)).mpr (by omega)) z
  refine qO2.ite (by rw [h.1.2.2.2.1 18 (by decide)]) (fun z => by rw [h.2.2] at z; exact absurd z (by decide)) fun _ => ?_
  refine qO2.bind (qstp hB h p hp p1) fun a a' ha => ?_
  obtain ⟨a1, a2⟩ := a
  obtain ⟨d1, d2⟩ := a'
  obtain ⟨e1, ha⟩ := ha
  dsimp only at e1 ha ⊢
  subst e1
  refine qO2.let ?_
  rcases ha with hS | ⟨q, q1, q2, rfl, hR⟩
  ·exact qhalt hS _ _
  ·rw [ofN_succ]
   exact ih (i + 1) q a2 d2 (by omega) q2 q1 hR

/-! a call that comes to an end, and what it leaves -/
def qOk {α : Type} (f : Nat → Option α) (P : α → Prop) : Prop := ∃ r, Ev f r ∧ P r
theorem qOk.step {α : Type} {f g : Nat → Option α} {P : α → Prop} (e : ∀ n, f (n + 1) = g n) (h : qOk g P) : qOk f P := by
 obtain ⟨r, h1, h2⟩ := h
 exact ⟨r, Ev.step e h1, h2⟩
theorem qOk.congr {α : Type} {f g : Nat → Option α} {P : α → Prop} (e : ∀ n, f n = g n) (h : qOk g P) : qOk f P := by
 obtain ⟨r, h1, h2⟩ := h
 exact ⟨r, Ev.congr e h1, h2⟩
theorem qOk.ret {α : Type} {r : α} {P : α → Prop} (h : P r) : qOk (fun _ => some r) P := ⟨r, Ev.const rfl, h⟩
theorem qOk.mono {α : Type} {f : Nat → Option α} {P Q : α → Prop} (h : qOk f P) (k : ∀ r, P r → Q r) : qOk f Q := by
 obtain ⟨r, h1, h2⟩ := h
 exact ⟨r, h1, k r h2⟩
theorem qOk.bind {α β : Type} {f : Nat → Option β} {g : Nat → β → Option α} {Q : β → Prop} {P : α → Prop} (h : qOk f Q) (k : ∀ c, Q c → qOk (fun n => g n c) P) : qOk (fun n => (f n).bind (g n)) P := by
 obtain ⟨c, h1, h2⟩ := h
 obtain ⟨r, k1, k2⟩ := k c h2
 exact ⟨r, Ev.bind h1 k1, k2⟩
theorem qOk.ite {α : Type} {c : Prop} [Decidable c] {f g : Nat → Option α} {P : α → Prop} (h : c → qOk f P) (k : ¬ c → qOk g P) : qOk (fun n => if c then f n else g n) P := by
 by_cases q : c
 ·exact qOk.congr (fun n => if_pos q) (h q)
 ·exact qOk.congr (fun n => if_neg q) (k q)
theorem qOk.some_bind {α β : Type} {x : β} {g : Nat → β → Option α} {P : α → Prop} (h : qOk (fun n => g n x) P) : qOk (fun n => (some x).bind (g n)) P := qOk.congr (fun _ => rfl) h

theorem qOk.let {α β : Type} {x : β} {F : Nat → β → Option α} {P : α → Prop} (h : qOk (fun n => F n x) P) : qOk (fun n => lt x (F n)) P := h
theorem qOk.eq {α β : Type} {o : Option β} {c : β} (e : o = some c) {G : Nat → β → Option α} {P : α → Prop} (h : qOk (fun n => G n c) P) : qOk (fun n => o.bind (G n)) P :=
 qOk.congr (fun n => by rw [e]; rfl) h
theorem qsh {α : Type} {f : Nat → Option α} {P : α → Prop} (h : qOk f P) (d : Nat) : qOk (fun n => f (n + d)) P := by
 obtain ⟨r, ⟨N, h1⟩, h2⟩ := h
 exact ⟨r, ⟨N, fun n hn => h1 (n + d) (by omega)⟩, h2⟩
theorem qext {xs ys : List Int32} {m : Nat} (h1 : xs.length = m) (h2 : ys.length = m) (h : ∀ k, k < m → ys[k]? = xs[k]?) : ys = xs := by
 refine List.ext_getElem? fun k => ?_
 by_cases c : k < m
 ·exact h k c
 ·rw [List.getElem?_eq_none (by omega), List.getElem?_eq_none (by omega)]
/-- the compiled tables; the memory beyond the frame is clean -/
def qZt (n : Nat) (s : St) : Prop := (∀ j k, 16 ≤ j → j ≤ 18 → 1 + n ≤ k → k < 64 → (gA s j)[k]? = some 0) ∧ (∀ j k, 19 ≤ j → j ≤ 21 → 2 ≤ k → k < 4096 → (gA s j)[k]? = some 0) ∧ ∀ j k, 22 ≤ j → j ≤ 26 → 1 ≤ k → k < 8 → (gA s j)[k]? = some 0
def qCs (n : Nat) (T : Nat → List Int32) (c : Nat → Int32) (s : St) : Prop := qL s ∧ (∀ j, j < 15 → j ≠ 2 → gA s j = T j) ∧ (∀ j, qci j → gI s j = c j) ∧ qZt n s
def qTt (n : Nat) (T : Nat → List Int32) (c : Nat → Int32) : Prop := (1 ≤ n ∧ n ≤ 16) ∧ c 0 = 16 ∧ c 3 = 1 ∧ (T 4)[0]? = some 1 ∧ (T 5)[0]? = some 0 ∧ (T 6)[0]? = some 2 ∧ (T 7)[0]? = some (Int32.ofNat (1 + n)) ∧ (T 8)[0]? = some 14 ∧ (T 11)[0]? = some 1 ∧ (T 11)[1]? = some (Int32.ofNat n)
def qTx (T : Nat → List Int32) (c : Nat → Int32) : Prop := (∃ nt, nt ≤ 256 ∧ c 2 = Int32.ofNat nt) ∧ (∀ k, k ≠ 1 → ¬ (T 0)[k]? = some 3) ∧ (∀ k, k < 256 → ∃ m, (T 13)[k]? = some m ∧ (m = -1 ∨ ∃ l, 2 ≤ l ∧ l < 256 ∧ m = Int32.ofNat l)) ∧ (∀ k, k < 256 → ∃ m, (T 14)[k]? = some m ∧ (m = -1 ∨ ∃ l, 2 ≤ l ∧ l < 256 ∧ m = Int32.ofNat l)) ∧ (∀ k, k < 8 → ∃ v : Int32, (T 9)[k]? = some v ∧ (v < 0 ∨ v = 0 ∨ v = 1)) ∧ ¬ (T 0)[0]? = some 14
def qcl (s : St) : St := sI (sI (sI (sI (sI (sI (sI s 4 (-1)) 5 (-1)) 6 0) 7 (-1)) 8 0) 9 0) 10 0
def qr0 (s : St) : St := sI (sI (sI (sI (sI (qcl s) 15 0) 16 0) 14 0) 17 256) 18 1
def qzc (n lo : Nat) (u : St) : Prop := ∀ j k, 16 ≤ j → j ≤ 18 → k < 64 → (k < lo ∨ 1 + n ≤ k) → (gA u j)[k]? = some 0
theorem qz142 {P : St → Prop} {n : Nat} (K : Nat → Int32 → Int32 → Int32 → Int32 → Int32 → St → Option St) (bs m v7 : Nat) (hb : bs + m ≤ 1 + n) (hn : n ≤ 16) (s : St) (nx : ∀ u, qL u → (∀ j, ¬ (16 ≤ j ∧ j ≤ 18) → gA u j = gA s j) → (∀ j, gI u j = gI s j) → qzc n (bs + m) u → qOk (fun N => K N 0 0 (Int32.ofNat bs + Int32.ofNat m) 2 (Int32.ofNat v7 + 1) u) P) : ∀ (j c d : Nat) (u : St), c + j = m → qL u → (∀ j, ¬ (16 ≤ j ∧ j ≤ 18) → gA u j = gA s j) → (∀ j, gI u j = gI s j) → qzc n (bs + c) u → qOk (fun N => f_pushFrame_142 (K (N + d)) N 0 0 (Int32.ofNat bs) 2 (Int32.ofNat v7) (Int32.ofNat m) (Int32.ofNat c) u) P := by
 intro j
 induction j with
 | zero =>
  intro c d u hc hL hA hI hz
  obtain rfl : c = m := by omega
  refine qOk.step (g := fun N => g_pushFrame_142 (K (N + (d + 1))) (f_pushFrame_142 (K (N + (d + 1))) N) N 0 0 (Int32.ofNat bs) 2 (Int32.ofNat v7) (Int32.ofNat c) (Int32.ofNat c) u) (fun N => by rw [show N + (d + 1) = N + 1 + d by omega]; rfl) ?_
  unfold g_pushFrame_142
  refine qOk.ite (fun z => by rw [x32_lt] at z; omega) fun _ => ?_
  exact qOk.let (qOk.let (qsh (nx u hL hA hI hz) (d + 1)))
 | succ j ih =>
  intro c d u hc hL hA hI hz
  refine qOk.step (g := fun N => g_pushFrame_142 (K (N + (d + 1))) (f_pushFrame_142 (K (N + (d + 1))) N) N 0 0 (Int32.ofNat bs) 2 (Int32.ofNat v7) (Int32.ofNat m) (Int32.ofNat c) u) (fun N => by rw [show N + (d + 1) = N + 1 + d by omega]; rfl) ?_
  unfold g_pushFrame_142
  have l1 : (gA u 16).length = 64 := hL 16
  have l2 : (gA u 17).length = 64 := hL 17
  have l3 : (gA u 18).length = 64 := hL 18
  refine qOk.ite (fun _ => ?_) fun z => absurd ((ofN_lt (by omega) (by omega)).mpr (by omega)) z
  refine qOk.let ?_
  rw [← Int32.ofNat_add, qa63 (by omega)]
  refine qOk.eq (wrA_of (k := bs + c) 0 (ofN_int (by omega)) (by omega)) ?_
  refine qOk.eq (wrA_of (s := sA u 16 _) (f := 17) (k := bs + c) 0 (ofN_int (by omega)) (show bs + c < (gA u 17).length by omega)) ?_
  refine qOk.eq (wrA_of (s := sA (sA u 16 _) 17 _) (f := 18) (k := bs + c) 0 (ofN_int (by omega)) (show bs + c < (gA u 18).length by omega)) ?_
  refine qOk.let ?_
  rw [ofN_succ]
  refine ih (c + 1) (d + 1) _ (by omega) (((hL.wr 16 _ 0).wr 17 _ 0).wr 18 _ 0) (fun l hl => ?_) hI fun l k l1' l2' k1 k2 => ?_
  ·rw [gA_sA, if_neg (by omega), gA_sA, if_neg (by omega), gA_sA, if_neg (by omega)]; exact hA l hl
  ·have get : ∀ xs : List Int32, xs.length = 64 → (k < bs + c ∨ 1 + n ≤ k → xs[k]? = some 0) → (xs.set (bs + c) 0)[k]? = some 0 := fun xs hx h => by
    by_cases e : k = bs + c
    ·subst e; rw [get_set_self _ (by omega)]
    ·rw [get_set_ne _ (Ne.symm e)]; exact h (by omega)
   rcases (by omega : l = 16 ∨ l = 17 ∨ l = 18) with rfl | rfl | rfl
   ·exact get _ l1 fun h => hz 16 k (by decide) (by decide) k1 h
   ·exact get _ l2 fun h => hz 17 k (by decide) (by decide) k1 h
   ·exact get _ l3 fun h => hz 18 k (by decide) (by decide) k1 h
/-- the state behind the frame's making -/
def qPu (n : Nat) (T : Nat → List Int32) (s u : St) : Prop := qL u ∧ (∀ j, j < 15 → j ≠ 2 → gA u j = T j) ∧ (∀ j, j ≠ 14 → j ≠ 15 → j ≠ 16 → gI u j = gI s j) ∧ gI u 14 = 2 ∧ gI u 15 = 1 ∧ gI u 16 = 0 + Int32.ofNat (1 + n) ∧ (∀ j k, 16 ≤ j → j ≤ 18 → k < 64 → (gA u j)[k]? = some 0) ∧ (∀ k, k < 4096 → (gA u 19)[k]? = some (if k = 1 then 1 else 0) ∧ (gA u 20)[k]? = some (if k = 0 then 1 else if k = 1 then Int32.ofNat n else 0) ∧ (gA u 21)[k]? = some (if k < 2 then 1 else 0)) ∧ ∀ j k, 22 ≤ j → j ≤ 26 → k < 8 → (gA u j)[k]? = some (if k = 0 ∧ 25 ≤ j then (-1 : Int32) else 0)
theorem qpush {n : Nat} {T : Nat → List Int32} {c : Nat → Int32} {s : St} (hT : qTt n T c) (hL : qL s) (hA : ∀ j, j < 15 → j ≠ 2 → gA s j = T j) (hZ : qZt n s) (h14 : gI s 14 = 0) (h15 : gI s 15 = 0) (h16 : gI s 16 = 0) : qOk (fun N => f_pushFrame N 0 (-1) (-1) s) (qPu n T s) := by
 obtain ⟨hn, -, -, -, q5, q6, q7, -, q11, q12⟩ := hT
 have l19 : (gA s 19).length = 4096 := hL 19
 have l20 : (gA s 20).length = 4096 := hL 20
 have l21 : (gA s 21).length = 4096 := hL 21
 have l22 : (gA s 22).length = 8 := hL 22
 have l23 : (gA s 23).length = 8 := hL 23
 have l24 : (gA s 24).length = 8 := hL 24
 have l25 : (gA s 25).length = 8 := hL 25
 have l26 : (gA s 26).length = 8 := hL 26
 unfold f_pushFrame
 rw [h15]
 refine qOk.let ?_
 refine qOk.eq (wrA_of (k := 0) 0 (by decide) (by omega)) ?_
 refine qOk.eq (wrA_of (s := sA s 22 _) (f := 23) (k := 0) _ (by decide) (show 0 < (gA s 23).length by omega)) ?_
 refine qOk.eq (wrA_of (s := sA (sA s 22 _) 23 _) (f := 24) (k := 0) _ (by decide) (show 0 < (gA s 24).length by omega)) ?_
 refine qOk.eq (wrA_of (s := sA (sA (sA s 22 _) 23 _) 24 _) (f := 25) (k := 0) _ (by decide) (show 0 < (gA s 25).length by omega)) ?_
 refine qOk.eq (wrA_of (s := sA (sA (sA (sA s 22 _) 23 _) 24 _) 25 _) (f := 26) (k := 0) _ (by decide) (show 0 < (gA s 26).length by omega)) ?_
 refine qOk.let ?_
 have g14 : gI s 14 = 0 := h14
 show qOk (fun N => (rd (gA s 6) 0).bind fun x8 => f_pushFrame_72 N 0 0 (gI s 16) x8 0 (sA (sA (sA (sA (sA s 22 ((gA s 22).set 0 0)) 23 ((gA s 23).set 0 (gI s 14))) 24 ((gA s 24).set 0 (gI s 16))) 25 ((gA s 25).set 0 (-1))) 26 ((gA s 26).set 0 (-1)))) _
 rw [h14, h16]
 refine qOk.eq (rd_of (k := 0) rfl (by rw [hA 6 (by decide) (by decide)]; exact q6)) ?_
 have LA : qL (sA (sA (sA (sA (sA s 22 ((gA s 22).set 0 0)) 23 ((gA s 23).set 0 0)) 24 ((gA s 24).set 0 0)) 25 ((gA s 25).set 0 (-1))) 26 ((gA s 26).set 0 (-1))) := ((((hL.wr 22 0 0).wr 23 0 0).wr 24 0 0).wr 25 0 (-1)).wr 26 0 (-1)
 generalize es : sA (sA (sA (sA (sA s 22 ((gA s 22).set 0 0)) 23 ((gA s 23).set 0 0)) 24 ((gA s 24).set 0 0)) 25 ((gA s 25).set 0 (-1))) 26 ((gA s 26).set 0 (-1)) = s1 at LA
 have A1 : ∀ j, j < 22 → gA s1 j = gA s j := fun j hj => by
  rw [← es, gA_sA, if_neg (by omega), gA_sA, if_neg (by omega), gA_sA, if_neg (by omega), gA_sA, if_neg (by omega), gA_sA, if_neg (by omega)]
 have I1 : ∀ j, gI s1 j = gI s j := fun j => by rw [← es]; rfl
 have F1 : ∀ j k, 22 ≤ j → j ≤ 26 → k < 8 → (gA s1 j)[k]? = some (if k = 0 ∧ 25 ≤ j then (-1 : Int32) else 0) := fun j k j1 j2 k1 => by
  have get : ∀ (xs : List Int32) (x : Int32), xs.length = 8 → (1 ≤ k → xs[k]? = some 0) → (xs.set 0 x)[k]? = some (if k = 0 then x else 0) := fun xs x hx h => by
   by_cases e : k = 0
   ·subst e; rw [get_set_self _ (by omega), if_pos rfl]
   ·rw [get_set_ne _ (Ne.symm e), if_neg e]; exact h (by omega)
  rw [← es]
  rcases (by omega : j = 22 ∨ j = 23 ∨ j = 24 ∨ j = 25 ∨ j = 26) with rfl | rfl | rfl | rfl | rfl
  ·rw [if_neg (by omega)]
   refine (get _ 0 l22 fun h => hZ.2.2 22 k (by decide) (by decide) h k1).trans ?_
   rw [ite_self]
  ·rw [if_neg (by omega)]
   refine (get _ 0 l23 fun h => hZ.2.2 23 k (by decide) (by decide) h k1).trans ?_
   rw [ite_self]
  ·rw [if_neg (by omega)]
   refine (get _ 0 l24 fun h => hZ.2.2 24 k (by decide) (by decide) h k1).trans ?_
   rw [ite_self]
  ·refine (get _ (-1) l25 fun h => hZ.2.2 25 k (by decide) (by decide) h k1).trans ?_
   by_cases e : k = 0
   ·rw [if_pos e, if_pos ⟨e, by decide⟩]
   ·rw [if_neg e, if_neg (fun z => e z.1)]
  ·refine (get _ (-1) l26 fun h => hZ.2.2 26 k (by decide) (by decide) h k1).trans ?_
   by_cases e : k = 0
   ·rw [if_pos e, if_pos ⟨e, by decide⟩]
   ·rw [if_neg e, if_neg (fun z => e z.1)]
 clear es
 -- the first object
 refine qOk.step (g := fun N => g_pushFrame_72 (f_pushFrame_72 N) N 0 0 0 2 0 s1) (fun N => rfl) ?_
 unfold g_pushFrame_72
 refine qOk.ite (fun _ => ?_) fun z => absurd (by decide) z
 refine qOk.ite (fun _ => ?_) fun z => absurd (by decide) z
 rw [I1 14, h14]
 refine qOk.let ?_
 refine qOk.eq (rd_of (k := 0) rfl (by rw [A1 11 (by decide), hA 11 (by decide) (by decide)]; exact q11)) ?_
 refine qOk.eq (wrA_of (k := 0) 0 (by decide) (by rw [A1 19 (by decide)]; omega)) ?_
 refine qOk.eq (wrA_of (s := sA s1 19 _) (f := 20) (k := 0) 1 (by decide) (show 0 < (gA s1 20).length by rw [A1 20 (by decide)]; omega)) ?_
 refine qOk.eq (wrA_of (s := sA (sA s1 19 _) 20 _) (f := 21) (k := 0) 1 (by decide) (show 0 < (gA s1 21).length by rw [A1 21 (by decide)]; omega)) ?_
 have L2 : qL (sA (sA (sA s1 19 ((gA s1 19).set 0 0)) 20 ((gA (sA s1 19 ((gA s1 19).set 0 0)) 20).set 0 1)) 21 ((gA (sA (sA s1 19 ((gA s1 19).set 0 0)) 20 ((gA (sA s1 19 ((gA s1 19).set 0 0)) 20).set 0 1)) 21).set 0 1)) := ((LA.wr 19 0 0).wr 20 0 1).wr 21 0 1
 generalize es : sA (sA (sA s1 19 ((gA s1 19).set 0 0)) 20 ((gA (sA s1 19 ((gA s1 19).set 0 0)) 20).set 0 1)) 21 ((gA (sA (sA s1 19 ((gA s1 19).set 0 0)) 20 ((gA (sA s1 19 ((gA s1 19).set 0 0)) 20).set 0 1)) 21).set 0 1) = s2 at L2
 have A2 : ∀ j, ¬ (19 ≤ j ∧ j ≤ 21) → gA s2 j = gA s1 j := fun j hj => by
  rw [← es, gA_sA, if_neg (by omega), gA_sA, if_neg (by omega), gA_sA, if_neg (by omega)]
 have I2 : ∀ j, gI s2 j = gI s1 j := fun j => by rw [← es]; rfl
 have O2 : gA s2 19 = (gA s 19).set 0 0 ∧ gA s2 20 = (gA s 20).set 0 1 ∧ gA s2 21 = (gA s 21).set 0 1 := by
  rw [← es, ← A1 19 (by decide), ← A1 20 (by decide), ← A1 21 (by decide)]
  exact ⟨rfl, rfl, rfl⟩
 clear es
 refine qz142 f_pushFrame_72 0 1 0 (by omega) hn.2 s2 (fun u3 L3 A3 I3 z3 => ?_) 1 0 0 s2 rfl L2 (fun _ _ => rfl) (fun _ => rfl) fun j k j1 j2 k1 k2 => ?_
 rotate_left
 ·rw [A2 j (by omega), A1 j (by omega)]
  exact hZ.1 j k j1 j2 (by omega) k1
 -- the second object
 refine qOk.step (g := fun N => g_pushFrame_72 (f_pushFrame_72 N) N 0 0 (Int32.ofNat 0 + Int32.ofNat 1) 2 (Int32.ofNat 0 + 1) u3) (fun N => rfl) ?_
 unfold g_pushFrame_72
 refine qOk.ite (fun _ => ?_) fun z => absurd (by decide) z
 refine qOk.ite (fun _ => ?_) fun z => absurd (by decide) z
 have i14 : gI u3 14 = 0 := by rw [I3, I2, I1]; exact h14
 rw [i14]
 refine qOk.let ?_
 have b19 : (gA u3 19).length = 4096 := L3 19
 have b20 : (gA u3 20).length = 4096 := L3 20
 have b21 : (gA u3 21).length = 4096 := L3 21
 refine qOk.eq (rd_of (k := 1) (by decide) (by rw [A3 11 (by decide), A2 11 (by decide), A1 11 (by decide), hA 11 (by decide) (by decide)]; exact q12)) ?_
 refine qOk.eq (wrA_of (k := 1) _ (by decide) (by omega)) ?_
 refine qOk.eq (wrA_of (s := sA u3 19 _) (f := 20) (k := 1) (Int32.ofNat n) (by decide) (show 1 < (gA u3 20).length by omega)) ?_
 refine qOk.eq (wrA_of (s := sA (sA u3 19 _) 20 _) (f := 21) (k := 1) 1 (by decide) (show 1 < (gA u3 21).length by omega)) ?_
 rw [show (Int32.ofNat 0 + Int32.ofNat 1 : Int32) = Int32.ofNat 1 from rfl, show (Int32.ofNat 0 + 1 : Int32) = Int32.ofNat 1 from rfl]
 have L4 : qL (sA (sA (sA u3 19 ((gA u3 19).set 1 (Int32.ofNat 1))) 20 ((gA (sA u3 19 ((gA u3 19).set 1 (Int32.ofNat 1))) 20).set 1 (Int32.ofNat n))) 21 ((gA (sA (sA u3 19 ((gA u3 19).set 1 (Int32.ofNat 1))) 20 ((gA (sA u3 19 ((gA u3 19).set 1 (Int32.ofNat 1))) 20).set 1 (Int32.ofNat n))) 21).set 1 1)) := ((L3.wr 19 1 _).wr 20 1 _).wr 21 1 1
 generalize es : sA (sA (sA u3 19 ((gA u3 19).set 1 (Int32.ofNat 1))) 20 ((gA (sA u3 19 ((gA u3 19).set 1 (Int32.ofNat 1))) 20).set 1 (Int32.ofNat n))) 21 ((gA (sA (sA u3 19 ((gA u3 19).set 1 (Int32.ofNat 1))) 20 ((gA (sA u3 19 ((gA u3 19).set 1 (Int32.ofNat 1))) 20).set 1 (Int32.ofNat n))) 21).set 1 1) = s4 at L4
 have A4 : ∀ j, ¬ (19 ≤ j ∧ j ≤ 21) → gA s4 j = gA u3 j := fun j hj => by
  rw [← es, gA_sA, if_neg (by omega), gA_sA, if_neg (by omega), gA_sA, if_neg (by omega)]
 have I4 : ∀ j, gI s4 j = gI u3 j := fun j => by rw [← es]; rfl
 have O4 : gA s4 19 = ((gA s 19).set 0 0).set 1 1 ∧ gA s4 20 = ((gA s 20).set 0 1).set 1 (Int32.ofNat n) ∧ gA s4 21 = ((gA s 21).set 0 1).set 1 1 := by
  rw [← es, ← O2.1, ← O2.2.1, ← O2.2.2, ← A3 19 (by decide), ← A3 20 (by decide), ← A3 21 (by decide)]
  exact ⟨rfl, rfl, rfl⟩
 clear es
 refine qz142 f_pushFrame_72 1 n 1 (by omega) hn.2 s4 (fun u5 L5 A5 I5 z5 => ?_) n 0 0 s4 (by omega) L4 (fun _ _ => rfl) (fun _ => rfl) fun j k j1 j2 k1 k2 => ?_
 rotate_left
 ·rw [A4 j (by omega)]
  exact z3 j k j1 j2 k1 (by omega)
 -- the end
 have all : ∀ j, j < 16 → gA u5 j = gA s j := fun j hj => by rw [A5 j (by omega), A4 j (by omega), A3 j (by omega), A2 j (by omega), A1 j (by omega)]
 have allI : ∀ j, gI u5 j = gI s j := fun j => by rw [I5, I4, I3, I2, I1]
 refine qOk.step (g := fun N => g_pushFrame_72 (f_pushFrame_72 N) N 0 0 (Int32.ofNat 1 + Int32.ofNat n) 2 (Int32.ofNat 1 + 1) u5) (fun N => rfl) ?_
 unfold g_pushFrame_72 f_pushFrame_202
 refine qOk.ite (fun z => absurd z (by decide)) fun _ => ?_
 refine qOk.step (g := fun N => g_pushFrame_205 (f_pushFrame_205 N) N 0 0 2 0 u5) (fun N => rfl) ?_
 unfold g_pushFrame_205 f_pushFrame_292
 refine qOk.eq (rd_of (k := 0) rfl (by rw [all 5 (by decide), hA 5 (by decide) (by decide)]; exact q5)) ?_
 refine qOk.ite (fun z => absurd z (by decide)) fun _ => ?_
 refine qOk.let ?_
 refine qOk.eq (rd_of (k := 0) rfl (show (gA u5 7)[0]? = _ by rw [all 7 (by decide), hA 7 (by decide) (by decide)]; exact q7)) ?_
 refine qOk.let (qOk.let (qOk.ret ⟨L5, fun j h1 h2 => (all j (by omega)).trans (hA j h1 h2), fun j h1 h2 h3 => ?_, ?_, rfl, ?_, fun j k j1 j2 k1 => z5 j k j1 j2 k1 (by omega), fun k hk => ?_, fun j k j1 j2 k1 => ?_⟩))
 ·rw [gI_sI, if_neg h2, gI_sI, if_neg h3, gI_sI, if_neg h1]; exact allI j
 ·show gI u5 14 + 2 = 2
  rw [allI 14, h14]; rfl
 ·show gI u5 16 + Int32.ofNat (1 + n) = _
  rw [allI 16, h16]
 ·show (gA u5 19)[k]? = _ ∧ (gA u5 20)[k]? = _ ∧ (gA u5 21)[k]? = _
  rw [A5 19 (by decide), A5 20 (by decide), A5 21 (by decide), O4.1, O4.2.1, O4.2.2]
  by_cases k1 : k = 1
  ·subst k1
   rw [get_set_self _ (by rw [set_len]; omega), get_set_self _ (by rw [set_len]; omega), get_set_self _ (by rw [set_len]; omega)]
   exact ⟨rfl, rfl, rfl⟩
  ·rw [get_set_ne _ (Ne.symm k1), get_set_ne _ (Ne.symm k1), get_set_ne _ (Ne.symm k1)]
   by_cases k0 : k = 0
   ·subst k0
    rw [get_set_self _ (by omega), get_set_self _ (by omega), get_set_self _ (by omega)]
    exact ⟨rfl, rfl, rfl⟩
   ·rw [get_set_ne _ (Ne.symm k0), get_set_ne _ (Ne.symm k0), get_set_ne _ (Ne.symm k0), if_neg k1, if_neg k0, if_neg k1, if_neg (by omega)]
    exact ⟨hZ.2.1 19 k (by decide) (by decide) (by omega) hk, hZ.2.1 20 k (by decide) (by decide) (by omega) hk, hZ.2.1 21 k (by decide) (by decide) (by omega) hk⟩
 ·show (gA u5 j)[k]? = _
  rw [A5 j (by omega), A4 j (by omega), A3 j (by omega), A2 j (by omega)]
  exact F1 j k j1 j2 k1

theorem qclr (s : St) : f_clearResults s = some (qcl s) := rfl
def qOb (s t : St) : Prop := (∀ j, 4 ≤ j → j ≤ 10 → gI t j = gI s j) ∧ ∃ o, o ≤ 16 ∧ gI s 10 = Int32.ofNat o ∧ ∀ k, k < o → (gA t 2)[k]? = (gA s 2)[k]?
theorem qCs.of {n : Nat} {T : Nat → List Int32} {c : Nat → Int32} {s t : St} (h : qCs n T c s) (hI : ∀ j, qci j → gI t j = gI s j) (hA : ∀ j, gA t j = gA s j) : qCs n T c t := by
 obtain ⟨h1, h2, h3, h4, h5, h6⟩ := h
 exact ⟨fun j => by rw [hA]; exact h1 j, fun j a b => by rw [hA]; exact h2 j a b, fun j hj => (hI j hj).trans (h3 j hj), fun j k a b c d => by rw [hA]; exact h4 j k a b c d, fun j k a b c d => by rw [hA]; exact h5 j k a b c d, fun j k a b c d => by rw [hA]; exact h6 j k a b c d⟩
theorem qrI (s : St) (j : Nat) (hj : qci j) : gI (qr0 s) j = gI s j := by
 unfold qr0 qcl
 rw [gI_sI, if_neg (by omega), gI_sI, if_neg (by omega), gI_sI, if_neg (by omega), gI_sI, if_neg (by omega), gI_sI, if_neg (by omega), gI_sI, if_neg (by omega), gI_sI, if_neg (by omega), gI_sI, if_neg (by omega), gI_sI, if_neg (by omega), gI_sI, if_neg (by omega), gI_sI, if_neg (by omega), gI_sI, if_neg (by omega)]
def qRr (n : Nat) (T : Nat → List Int32) (c : Nat → Int32) (a a' : Int32 × St) : Prop := a'.1 = a.1 ∧ a.1 = gI a.2 4 ∧ ¬ a.1 = -1 ∧ qCs n T c a.2 ∧ qCs n T c a'.2 ∧ qOb a.2 a'.2
/-- two runs of the same tables -/
theorem qrn2 {n : Nat} {T : Nat → List Int32} {c : Nat → Int32} (hT : qTt n T c) (hX : qTx T c) {s t : St} (hs : qCs n T c s) (ht : qCs n T c t) : qO2 (fun N => f_run N s) (fun N => f_run N t) (qRr n T c) := by
 obtain ⟨hn, c0, c3, q4, q5, q6, q7, q8, q11, q12⟩ := id hT
 have un : ∀ u : St, qCs n T c u → ∀ N, f_run N u = if (16 : Int32) < Int32.ofNat (1 + n) then some (5, qtrp 5 1 (qr0 u)) else (f_pushFrame N 0 (-1) (-1) (qr0 u)).bind fun c12 => (rd (gA c12 8) (0 : Int32)).bind fun x13 => f_run_85 N x13 (0 : Int32) c12 := fun u hu N => by
  unfold f_run
  rw [hu.2.2.1 3 (by decide), c3, if_neg (by decide), qclr, Option.bind_some]
  show (rd (gA (qr0 u) 7) 0).bind _ = _
  rw [rd_of (k := 0) rfl (show (gA (qr0 u) 7)[0]? = some (Int32.ofNat (1 + n)) from by show (gA u 7)[0]? = _; rw [hu.2.1 7 (by decide) (by decide)]; exact q7), Option.bind_some]
  show (if gI (qr0 u) 0 < Int32.ofNat (1 + n) then (rd (gA (qr0 u) 4) 0).bind _ else _) = _
  rw [qrI u 0 (by decide), hu.2.2.1 0 (by decide), c0, rd_of (k := 0) rfl (show (gA (qr0 u) 4)[0]? = some 1 from by show (gA u 4)[0]? = _; rw [hu.2.1 4 (by decide) (by decide)]; exact q4), Option.bind_some]; rfl
 have r0 : ∀ u : St, qCs n T c u → qCs n T c (qr0 u) := fun u hu => hu.of (qrI u) fun _ => rfl
 refine qO2.congr (un s hs) (un t ht) ?_
 refine qO2.ite Iff.rfl (fun _ => ?_) fun _ => ?_
 ·refine qO2.ret ⟨rfl, rfl, by show ¬ (5 : Int32) = -1; decide, (r0 s hs).of (fun j hj => ?_) fun _ => rfl, (r0 t ht).of (fun j hj => ?_) fun _ => rfl, fun j j1 j2 => ?_, 0, by omega, rfl, fun k hk => absurd hk (Nat.not_lt_zero _)⟩
  ·unfold qtrp
   rw [gI_sI, if_neg (by omega), gI_sI, if_neg (by omega), gI_sI, if_neg (by omega), gI_sI, if_neg (by omega)]
  ·unfold qtrp
   rw [gI_sI, if_neg (by omega), gI_sI, if_neg (by omega), gI_sI, if_neg (by omega), gI_sI, if_neg (by omega)]
  ·rcases (by omega : j = 4 ∨ j = 5 ∨ j = 6 ∨ j = 7 ∨ j = 8 ∨ j = 9 ∨ j = 10) with rfl | rfl | rfl | rfl | rfl | rfl | rfl <;> rfl
 ·obtain ⟨u, eu, pu⟩ := qpush hT (r0 s hs).1 (r0 s hs).2.1 (r0 s hs).2.2.2 rfl rfl rfl
  obtain ⟨w, ew, pw⟩ := qpush hT (r0 t ht).1 (r0 t ht).2.1 (r0 t ht).2.2.2 rfl rfl rfl
  obtain ⟨u1, u2, u3, u4, u5, u6, u7, u8, u9⟩ := pu
  obtain ⟨w1, w2, w3, w4, w5, w6, w7, w8, w9⟩ := pw
  have eqA : ∀ j, (j < 15 ∧ j ≠ 2) ∨ (16 ≤ j ∧ j ≤ 26) → gA w j = gA u j := fun j hj => by
   by_cases c15 : j < 15
   ·rw [u2 j c15 (by omega), w2 j c15 (by omega)]
   ·refine qext (u1 j) (w1 j) fun k hk => ?_
    rcases (by omega : (16 ≤ j ∧ j ≤ 18) ∨ j = 19 ∨ j = 20 ∨ j = 21 ∨ (22 ≤ j ∧ j ≤ 26)) with e | rfl | rfl | rfl | e
    ·have hk : k < 64 := by
      rcases (by omega : j = 16 ∨ j = 17 ∨ j = 18) with rfl | rfl | rfl <;> exact hk
     rw [u7 j k e.1 e.2 hk, w7 j k e.1 e.2 hk]
    ·rw [(u8 k hk).1, (w8 k hk).1]
    ·rw [(u8 k hk).2.1, (w8 k hk).2.1]
    ·rw [(u8 k hk).2.2, (w8 k hk).2.2]
    ·have hk : k < 8 := by
      rcases (by omega : j = 22 ∨ j = 23 ∨ j = 24 ∨ j = 25 ∨ j = 26) with rfl | rfl | rfl | rfl | rfl <;> exact hk
     rw [u9 j k e.1 e.2 hk, w9 j k e.1 e.2 hk]
  have cu : ∀ j, qci j → gI u j = c j := fun j hj => (u3 j (by omega) (by omega) (by omega)).trans ((qrI s j hj).trans (hs.2.2.1 j hj))
  have eqI : ∀ j, j < 19 → gI w j = gI u j := fun j hj => by
   by_cases ci : qci j
   ·rw [cu j ci, w3 j (by omega) (by omega) (by omega), qrI t j ci, ht.2.2.1 j ci]
   ·rcases (by omega : j = 4 ∨ j = 5 ∨ j = 6 ∨ j = 7 ∨ j = 8 ∨ j = 9 ∨ j = 10 ∨ j = 14 ∨ j = 15 ∨ j = 16 ∨ j = 17 ∨ j = 18) with rfl | rfl | rfl | rfl | rfl | rfl | rfl | rfl | rfl | rfl | rfl | rfl
    ·rw [u3 4 (by decide) (by decide) (by decide), w3 4 (by decide) (by decide) (by decide)]; rfl
    ·rw [u3 5 (by decide) (by decide) (by decide), w3 5 (by decide) (by decide) (by decide)]; rfl
    ·rw [u3 6 (by decide) (by decide) (by decide), w3 6 (by decide) (by decide) (by decide)]; rfl
    ·rw [u3 7 (by decide) (by decide) (by decide), w3 7 (by decide) (by decide) (by decide)]; rfl
    ·rw [u3 8 (by decide) (by decide) (by decide), w3 8 (by decide) (by decide) (by decide)]; rfl
    ·rw [u3 9 (by decide) (by decide) (by decide), w3 9 (by decide) (by decide) (by decide)]; rfl
    ·rw [u3 10 (by decide) (by decide) (by decide), w3 10 (by decide) (by decide) (by decide)]; rfl
    ·rw [u4, w4]
    ·rw [u5, w5]
    ·rw [u6, w6]
    ·rw [u3 17 (by decide) (by decide) (by decide), w3 17 (by decide) (by decide) (by decide)]; rfl
    ·rw [u3 18 (by decide) (by decide) (by decide), w3 18 (by decide) (by decide) (by decide)]; rfl
  have D : qD u n u w := ⟨u1, w1, fun j hj => ⟨rfl, eqA j (by omega)⟩, eqI, fun _ _ => rfl, fun j hj => eqA j (by omega), fun j k j1 j2 k1 k2 => u7 j k j1 j2 k2, fun k k1 k2 => by rw [(u8 k k2).2.2, if_neg (by omega)], 0, by omega, by rw [u3 10 (by decide) (by decide) (by decide)]; rfl, fun k hk => absurd hk (Nat.not_lt_zero _)⟩
  have R : qRun u n u w := ⟨D, u5, by rw [u3 18 (by decide) (by decide) (by decide)]; rfl⟩
  obtain ⟨⟨nt, n1, n2⟩, x3, x13, x14, x9, x0⟩ := hX
  have B : qB u n := by
   refine ⟨hn, u1, ⟨nt, n1, by rw [cu 2 (by decide)]; exact n2⟩, ?_, ?_, ?_, ?_, ⟨(u8 0 (by decide)).1, (u8 1 (by decide)).1, (u8 0 (by decide)).2.1, (u8 1 (by decide)).2.1⟩, ⟨u9 22 0 (by decide) (by decide) (by decide), u9 23 0 (by decide) (by decide) (by decide), u9 24 0 (by decide) (by decide) (by decide)⟩, ?_, ?_⟩
   ·rw [u2 0 (by decide) (by decide)]; exact x3
   ·rw [u2 13 (by decide) (by decide)]; exact x13
   ·rw [u2 14 (by decide) (by decide)]; exact x14
   ·rw [u2 9 (by decide) (by decide)]; exact x9
   ·rw [u2 6 (by decide) (by decide)]; exact q6
   ·rw [u2 0 (by decide) (by decide)]; exact x0
  refine qO2.bind (Q := fun a a' => a = u ∧ a' = w) ⟨u, w, eu, ew, rfl, rfl⟩ fun a a' h => ?_
  obtain ⟨rfl, rfl⟩ := h
  refine qO2.rd (x := 14) (k := 0) rfl (by rw [u2 8 (by decide) (by decide)]; exact q8) (by rw [w2 8 (by decide) (by decide)]; exact q8) ?_
  obtain ⟨r, r', e1, e2, p1, p2, p3, D'⟩ := qlp B 1048576 0 14 a a' rfl (by decide) (by decide) R
  refine ⟨r, r', e1, e2, p1, p2, p3, ?_, ?_, fun j j1 j2 => D'.2.2.2.1 j (by omega), D'.2.2.2.2.2.2.2.2⟩
  ·refine ⟨D'.1, fun j h1 h2 => ((D'.2.2.1 j (.inl ⟨h1, h2⟩)).1).trans (u2 j h1 h2), fun j hj => (D'.2.2.2.2.1 j hj).trans (cu j hj), D'.2.2.2.2.2.2.1, fun j k j1 j2 k1 k2 => ?_, fun j k j1 j2 k1 k2 => ?_⟩
   ·rcases (by omega : j = 19 ∨ j = 20 ∨ j = 21) with rfl | rfl | rfl
    ·rw [(D'.2.2.1 19 (by decide)).1, (u8 k k2).1, if_neg (by omega)]
    ·rw [(D'.2.2.1 20 (by decide)).1, (u8 k k2).2.1, if_neg (by omega), if_neg (by omega)]
    ·exact D'.2.2.2.2.2.2.2.1 k k1 k2
   ·rw [(D'.2.2.1 j (by omega)).1, u9 j k j1 j2 k2, if_neg (by omega)]
  ·refine ⟨D'.2.1, fun j h1 h2 => ((D'.2.2.1 j (.inl ⟨h1, h2⟩)).2).trans (u2 j h1 h2), fun j hj => (D'.2.2.2.1 j (by omega)).trans ((D'.2.2.2.2.1 j hj).trans (cu j hj)), fun j k j1 j2 k1 k2 => ?_, fun j k j1 j2 k1 k2 => ?_, fun j k j1 j2 k1 k2 => ?_⟩
   ·rw [D'.2.2.2.2.2.1 j (.inl ⟨j1, j2⟩)]; exact D'.2.2.2.2.2.2.1 j k j1 j2 k1 k2
   ·rcases (by omega : j = 19 ∨ j = 20 ∨ j = 21) with rfl | rfl | rfl
    ·rw [(D'.2.2.1 19 (by decide)).2, (u8 k k2).1, if_neg (by omega)]
    ·rw [(D'.2.2.1 20 (by decide)).2, (u8 k k2).2.1, if_neg (by omega), if_neg (by omega)]
    ·rw [D'.2.2.2.2.2.1 21 (by decide)]; exact D'.2.2.2.2.2.2.2.1 k k1 k2
   ·rw [(D'.2.2.1 j (by omega)).2, u9 j k j1 j2 k2, if_neg (by omega)]
/-- the snapshot -/
theorem qsnap {s t : St} (h : qOb s t) (hs : qL s) : qO2 (fun N => f_L_snap N s) (fun N => f_L_snap N t) (fun a a' => a' = a) := by
 obtain ⟨hI, o, ho, h10, hO⟩ := h
 have l2 : (gA s 2).length = 16 := hs 2
 have ov : ∀ i, i < 16 → ∃ x, f_outValue (Int32.ofNat i) s = some x ∧ f_outValue (Int32.ofNat i) t = some x := fun i hi => by
  unfold f_outValue f_outValue_18
  rw [hI 10 (by decide) (by decide), h10, if_neg (ofN_nn (by omega)), if_neg (ofN_nn (by omega))]
  by_cases c : i < o
  ·rw [if_pos ((ofN_lt (by omega) (by omega)).mpr c), if_pos ((ofN_lt (by omega) (by omega)).mpr c), if_pos ((ofN_ltL (m := 16) (by omega) (by decide)).mpr hi), if_pos ((ofN_ltL (m := 16) (by omega) (by decide)).mpr hi)]
   have hx : (gA s 2)[i]? = some ((gA s 2)[i]'(by omega)) := List.getElem?_eq_getElem _
   rw [rd_at (by omega) hx, rd_at (by omega) ((hO i c).trans hx)]
   exact ⟨_, rfl, rfl⟩
  ·rw [if_neg (fun z => c ((ofN_lt (by omega) (by omega)).mp z)), if_neg (fun z => c ((ofN_lt (by omega) (by omega)).mp z))]
   exact ⟨0, rfl, rfl⟩
 have key : ∀ (m i : Nat) (x : Int64), i + m = 16 → qO2 (fun N => f_L_snap_80 N x (Int32.ofNat i) s) (fun N => f_L_snap_80 N x (Int32.ofNat i) t) (fun a a' => a' = a) := by
  intro m
  induction m with
  | zero =>
   intro i x hi
   obtain rfl : i = 16 := by omega
   refine qO2.step (f' := fun N => g_L_snap_80 (f_L_snap_80 N) N x (Int32.ofNat 16) s) (g' := fun N => g_L_snap_80 (f_L_snap_80 N) N x (Int32.ofNat 16) t) (fun _ => rfl) (fun _ => rfl) ?_
   unfold g_L_snap_80
   exact qO2.ite Iff.rfl (fun z => absurd z (by decide)) fun _ => qO2.ret rfl
  | succ m ih =>
   intro i x hi
   refine qO2.step (f' := fun N => g_L_snap_80 (f_L_snap_80 N) N x (Int32.ofNat i) s) (g' := fun N => g_L_snap_80 (f_L_snap_80 N) N x (Int32.ofNat i) t) (fun _ => rfl) (fun _ => rfl) ?_
   unfold g_L_snap_80
   refine qO2.ite Iff.rfl (fun _ => ?_) fun z => absurd ((ofN_ltL (m := 16) (by omega) (by decide)).mpr (by omega)) z
   obtain ⟨y, e1, e2⟩ := ov i (by omega)
   refine qO2.eq e1 e2 (qO2.let (qO2.let ?_))
   rw [ofN_succ]
   exact ih (i + 1) _ (by omega)
 unfold f_L_snap f_status f_trapSite f_frames f_resultKind f_resultValue f_resultSize f_outCount
 rw [hI 4 (by decide) (by decide), hI 5 (by decide) (by decide), hI 6 (by decide) (by decide), hI 7 (by decide) (by decide), hI 8 (by decide) (by decide), hI 9 (by decide) (by decide), hI 10 (by decide) (by decide)]
 exact key 16 0 _ rfl

/-! the cells of the arrays -/
def qA (s : St) (f k : Nat) : Int32 := (gA s f).getD k 0
def qu {α : Type} (a : Nat → Nat → α) (f k : Nat) (x : α) (g j : Nat) : α := if g = f ∧ j = k then x else a g j
theorem qu0 {α : Type} (a : Nat → Nat → α) (f k : Nat) (x : α) : qu a f k x f k = x := if_pos ⟨rfl, rfl⟩
theorem qu1 {α : Type} (a : Nat → Nat → α) {f g : Nat} (k : Nat) (x : α) (j : Nat) (h : g ≠ f) : qu a f k x g j = a g j := if_neg fun q => h q.1
theorem qu2 {α : Type} (a : Nat → Nat → α) {k j : Nat} (f : Nat) (x : α) (g : Nat) (h : j ≠ k) : qu a f k x g j = a g j := if_neg fun q => h q.2
theorem qAwA {s : St} (f k : Nat) (x : Int32) (hk : k < (gA s f).length) : qA (sA s f ((gA s f).set k x)) = qu (qA s) f k x := by
 funext g j
 unfold qA qu
 rw [gA_sA]
 by_cases c : g = f
 ·rw [if_pos c]
  by_cases d : j = k
  ·rw [if_pos ⟨c, d⟩, d, List.getD_eq_getElem?_getD, get_set_self _ hk]; rfl
  ·rw [if_neg fun q => d q.2, List.getD_eq_getElem?_getD, get_set_ne _ (Ne.symm d), c]; exact List.getD_eq_getElem?_getD.symm
 ·rw [if_neg c, if_neg fun q => c q.1]
theorem qAg {s : St} (h : qL s) {f k : Nat} (hk : k < qlens.getD f 0) : (gA s f)[k]? = some (qA s f k) := by
 have hl := h f
 have hx : (gA s f)[k]? = some ((gA s f)[k]'(by omega)) := List.getElem?_eq_getElem _
 unfold qA
 rw [List.getD_eq_getElem?_getD, hx]; rfl
theorem qrdA {s : St} (h : qL s) {f k : Nat} {i : Int32} (hi : i.toInt = k) (hk : k < qlens.getD f 0) : rd (gA s f) i = some (qA s f k) := rd_of hi (qAg h hk)
/-- t is s with cells written -/
def qM (s : St) (a : Nat → Nat → Int32) (t : St) : Prop := qL t ∧ (∀ j, gI t j = gI s j) ∧ qA t = a
theorem qwrA {s : St} (h : qL s) {f k : Nat} {i : Int32} (x : Int32) (hi : i.toInt = k) (hk : k < qlens.getD f 0) : ∃ t, wrA s f i x = some t ∧ qM s (qu (qA s) f k x) t := by
 have hl := h f
 exact ⟨_, wrA_of x hi (by omega), h.wr f k x, fun _ => rfl, qAwA f k x (by omega)⟩
theorem qOk.rA {α : Type} {s : St} {f : Nat} {i : Int32} {G : Nat → Int32 → Option α} {P : α → Prop} (h : qL s) (k : Nat) (hi : i.toInt = k) (hk : k < qlens.getD f 0) (q : qOk (fun n => G n (qA s f k)) P) : qOk (fun n => (rd (gA s f) i).bind (G n)) P := by
 rw [qrdA h hi hk]; exact qOk.some_bind q
theorem qOk.wA {α : Type} {s : St} {f : Nat} {i : Int32} {x : Int32} {G : Nat → St → Option α} {P : α → Prop} (h : qL s) (k : Nat) (hi : i.toInt = k) (hk : k < qlens.getD f 0) (q : ∀ t, qM s (qu (qA s) f k x) t → qOk (fun n => G n t) P) : qOk (fun n => (wrA s f i x).bind (G n)) P := by
 obtain ⟨t, e, ht⟩ := qwrA h x hi hk
 rw [e]; exact qOk.some_bind (q t ht)
/-! tokens -/
def qkd (TL : List (Int32 × Int32)) (k : Nat) : Int32 := (TL.getD k (0, 0)).1
def qvl (TL : List (Int32 × Int32)) (k : Nat) : Int32 := (TL.getD k (0, 0)).2
def qTk (TL : List (Int32 × Int32)) (s : St) : Prop := qL s ∧ TL.length ≤ 256 ∧ gI s 2 = Int32.ofNat TL.length ∧ ∀ k, k < 256 → qA s 0 k = qkd TL k ∧ qA s 1 k = qvl TL k
theorem qgap {α : Type} (A : List α) (x d : α) (k : Nat) : (A ++ [x]).getD k d = if k = A.length then x else A.getD k d := by
 rw [List.getD_eq_getElem?_getD, List.getD_eq_getElem?_getD]
 by_cases c : k < A.length
 ·rw [List.getElem?_append_left c, if_neg (by omega)]
 ·rw [List.getElem?_append_right (by omega)]
  by_cases e : k = A.length
  ·subst e
   rw [Nat.sub_self, if_pos rfl]; rfl
  ·rw [if_neg e, List.getElem?_eq_none (l := A) (by omega), List.getElem?_eq_none (by show 1 ≤ k - A.length; omega)]
def qvk (k v v' : Int32) : Prop := ∀ s : St, ¬ gI s 2 = 256 → f_tok k v s = f_tok_77 k v' s
/-- a token more -/
theorem qOk.tok {α : Type} {TL : List (Int32 × Int32)} {s : St} (h : qTk TL s) (hl : TL.length < 256) {k v v' : Int32} (hv : qvk k v v') {G : Nat → St → Option α} {P : α → Prop} (q : ∀ t, qTk (TL ++ [(k, v')]) t → (∀ j, 2 ≤ j → gA t j = gA s j) → (∀ j, j < 2 ∨ 11 ≤ j → gI t j = gI s j) → qOk (fun n => G n t) P) : qOk (fun n => (f_L_k k v s).bind (G n)) P := by
 obtain ⟨h1, h2, h3, h4⟩ := h
 have l0 : (gA s 0).length = 256 := h1 0
 have l1 : (gA s 1).length = 256 := h1 1
 have ne : ¬ gI s 2 = 256 := fun e => by
  rw [h3] at e
  have := (ofN_eqL (m := 256) (by omega) (by decide)).mp e
  omega
 have e : f_L_k k v s = some (qcl (sI (sI (sA (sA s 0 ((gA s 0).set TL.length k)) 1 ((gA s 1).set TL.length v')) 2 (gI s 2 + 1)) 3 0)) := by
  unfold f_L_k
  rw [hv s ne]
  unfold f_tok_77
  rw [wrA_of (k := TL.length) k (by rw [h3]; exact ofN_int (by omega)) (by omega), Option.bind_some]
  rw [wrA_of (s := sA s 0 ((gA s 0).set TL.length k)) (f := 1) (i := gI (sA s 0 ((gA s 0).set TL.length k)) 2) (k := TL.length) v' (show (gI s 2).toInt = _ by rw [h3]; exact ofN_int (by omega)) (show TL.length < (gA s 1).length by omega), Option.bind_some]
  rfl
 refine qOk.eq e (q _ ⟨(h1.wr 0 TL.length k).wr 1 TL.length v', ?_, ?_, fun i hi => ?_⟩ (fun j hj => ?_) fun j hj => ?_)
 ·rw [List.length_append]; show TL.length + 1 ≤ 256; omega
 ·show gI s 2 + 1 = _
  rw [h3, List.length_append, ofN_succ]; rfl
 ·have A2 : ∀ g i, qA (qcl (sI (sI (sA (sA s 0 ((gA s 0).set TL.length k)) 1 ((gA s 1).set TL.length v')) 2 (gI s 2 + 1)) 3 0)) g i = qu (qu (qA s) 0 TL.length k) 1 TL.length v' g i := fun g i => by
   show qA (sA (sA s 0 ((gA s 0).set TL.length k)) 1 ((gA (sA s 0 ((gA s 0).set TL.length k)) 1).set TL.length v')) g i = _
   rw [qAwA (s := sA s 0 ((gA s 0).set TL.length k)) 1 TL.length v' (show TL.length < (gA s 1).length by omega), qAwA 0 TL.length k (by omega)]
  rw [A2, A2]
  unfold qkd qvl
  rw [qgap]
  by_cases c : i = TL.length
  ·subst c
   rw [qu1 _ _ _ _ (by decide), qu0, qu0, if_pos rfl]
   exact ⟨rfl, rfl⟩
  ·rw [qu2 _ _ _ _ c, qu2 _ _ _ _ c, qu2 _ _ _ _ c, qu2 _ _ _ _ c, if_neg c]
   exact h4 i hi
 ·show gA (sA (sA s 0 _) 1 _) j = _
  rw [gA_sA, if_neg (by omega), gA_sA, if_neg (by omega)]
 ·unfold qcl
  rw [gI_sI, if_neg (by omega), gI_sI, if_neg (by omega), gI_sI, if_neg (by omega), gI_sI, if_neg (by omega), gI_sI, if_neg (by omega), gI_sI, if_neg (by omega), gI_sI, if_neg (by omega), gI_sI, if_neg (by omega), gI_sI, if_neg (by omega)]; rfl
theorem qvN (v : Int32) : qvk 1 v v := fun s ne => by
 unfold f_tok f_tok_42 f_tok_58 f_tok_75
 rw [if_neg ne, if_neg (by decide), if_neg (by decide), if_neg (by decide), if_neg (by decide), if_pos rfl]
theorem qvV (v : Int32) (h : v = 0 ∨ v = 1) : qvk 2 v v := fun s ne => by
 unfold f_tok f_tok_42 f_tok_58 f_tok_75
 rw [if_neg ne, if_neg (by decide), if_neg (by decide), if_pos rfl, if_neg (by rcases h with rfl | rfl <;> decide), if_neg (by rcases h with rfl | rfl <;> decide), if_neg (by decide), if_neg (by decide), if_pos rfl]
theorem qvF : qvk 3 0 0 := fun s ne => by
 unfold f_tok f_tok_42 f_tok_58 f_tok_75
 rw [if_neg ne, if_neg (by decide), if_neg (by decide), if_neg (by decide), if_pos rfl, if_neg (by decide), if_neg (by decide), if_neg (by decide), if_neg (by decide), if_pos rfl]
theorem qvO (k : Int32) (h : ¬ k < 1 ∧ ¬ 25 < k ∧ ¬ k = 1 ∧ ¬ k = 2 ∧ ¬ k = 3) : qvk k 0 0 := fun s ne => by
 unfold f_tok f_tok_42 f_tok_58
 rw [if_neg ne, if_neg h.1, if_neg h.2.1, if_neg h.2.2.2.1, if_neg h.2.2.2.2, if_neg h.2.2.1, if_neg h.2.2.2.1, if_neg h.2.2.2.2]
/-! the parser's small steps -/
def qQ (TL : List (Int32 × Int32)) (s : St) : Prop := qTk TL s ∧ gI s 12 = 1
def qNm (s : St) : Prop := gI s 13 = 0 ∧ qA s 9 0 = 0 ∧ qA s 9 1 = 1 ∧ qA s 10 0 = 0
def qto (s : St) (p : Nat) : St := sI s 11 (Int32.ofNat p)
theorem qQ.to {TL : List (Int32 × Int32)} {s : St} (h : qQ TL s) (p : Nat) : qQ TL (qto s p) := h
theorem qNm.to {s : St} (h : qNm s) (p : Nat) : qNm (qto s p) := h
theorem qtoto (s : St) (p q : Nat) : qto (qto s p) q = qto s q := sI_sI _ _ _ _
theorem qnx {s : St} {p : Nat} (h : gI s 11 = Int32.ofNat p) : sI s 11 (gI s 11 + 1) = qto s (p + 1) := by
 unfold qto
 rw [h, ofN_succ]
theorem qkz {TL : List (Int32 × Int32)} {k : Nat} (h : TL.length ≤ k) : qkd TL k = 0 ∧ qvl TL k = 0 := by
 unfold qkd qvl
 rw [List.getD_eq_getElem?_getD, List.getElem?_eq_none h]
 exact ⟨rfl, rfl⟩
theorem qka {TL : List (Int32 × Int32)} {s : St} (h : qTk TL s) (p : Nat) (hp : p ≤ 3000) : f_kindAt (Int32.ofNat p) s = some (qkd TL p) := by
 obtain ⟨h1, h2, h3, h4⟩ := h
 unfold f_kindAt f_kindAt_12
 rw [if_neg (ofN_nn (by omega)), h3]
 by_cases c : p < TL.length
 ·rw [if_pos ((ofN_lt (by omega) (by omega)).mpr c), qrdA (f := 0) h1 (ofN_int (by omega)) (show p < 256 by omega), (h4 p (by omega)).1]; rfl
 ·rw [if_neg (fun z => c ((ofN_lt (by omega) (by omega)).mp z)), (qkz (by omega)).1]
theorem qva {TL : List (Int32 × Int32)} {s : St} (h : qTk TL s) (p : Nat) (hp : p ≤ 3000) : f_valAt (Int32.ofNat p) s = some (qvl TL p) := by
 obtain ⟨h1, h2, h3, h4⟩ := h
 unfold f_valAt f_valAt_12
 rw [if_neg (ofN_nn (by omega)), h3]
 by_cases c : p < TL.length
 ·rw [if_pos ((ofN_lt (by omega) (by omega)).mpr c), qrdA (f := 1) h1 (ofN_int (by omega)) (show p < 256 by omega), (h4 p (by omega)).2]; rfl
 ·rw [if_neg (fun z => c ((ofN_lt (by omega) (by omega)).mp z)), (qkz (by omega)).2]
theorem qok {TL : List (Int32 × Int32)} {s : St} (h : qQ TL s) : ¬ gI s 12 = 0 := by rw [h.2]; decide
theorem qexp {TL : List (Int32 × Int32)} {s : St} (h : qQ TL s) {p : Nat} (hp : p ≤ 3000) (e : gI s 11 = Int32.ofNat p) {k : Int32} (hk : qkd TL p = k) : f_expect k s = some (qto s (p + 1)) := by
 unfold f_expect
 rw [if_neg (qok h), e, qka h.1 p hp, Option.bind_some, if_pos hk, ← qnx e, e]; rfl
theorem quv {TL : List (Int32 × Int32)} {s : St} (h : qQ TL s) (hN : qNm s) {p : Nat} (hp : p ≤ 3000) (e : gI s 11 = Int32.ofNat p) (hk : qkd TL p = 2) {v : Nat} (hv : qvl TL p = Int32.ofNat v) (v2 : v < 2) : f_useVar s = some (Int32.ofNat v, qto s (p + 1)) := by
 have ev : Int32.ofNat v &&& 7 = Int32.ofNat v := by
  rcases (by omega : v = 0 ∨ v = 1) with rfl | rfl <;> decide
 have e9 : qA s 9 v = Int32.ofNat v := by
  rcases (by omega : v = 0 ∨ v = 1) with rfl | rfl
  ·exact hN.2.1
  ·exact hN.2.2.1
 have ei : ((0 : Int32) * 8 + Int32.ofNat v).toInt = v := by
  rcases (by omega : v = 0 ∨ v = 1) with rfl | rfl <;> decide
 unfold f_useVar
 rw [if_neg (qok h), e, qka h.1 p hp, Option.bind_some, if_pos hk, qva h.1 p hp, Option.bind_some, hv, ev, hN.1]
 show (rd (gA s 9) ((0 : Int32) * 8 + Int32.ofNat v)).bind _ = _
 rw [qrdA (f := 9) h.1.1 ei (show v < 32 by omega), e9, Option.bind_some, if_neg (ofN_nn (by omega))]
 show some (Int32.ofNat v, sI s 11 (Int32.ofNat p + 1)) = _
 rw [ofN_succ]; rfl
theorem qpa {TL : List (Int32 × Int32)} {s : St} (h : qQ TL s) {p : Nat} (hp : p ≤ 3000) (e : gI s 11 = Int32.ofNat p) (hk : qkd TL p = 1) : f_parseAtom s = some (qto s (p + 1)) := by
 unfold f_parseAtom
 rw [if_neg (qok h), e, qka h.1 p hp, Option.bind_some, if_pos hk]
 show some (sI s 11 (Int32.ofNat p + 1)) = _
 rw [ofN_succ]; rfl
/-- an operand from p to q -/
def qOp (TL : List (Int32 × Int32)) (p q : Nat) : Prop := ∀ s, qQ TL s → qNm s → gI s 11 = Int32.ofNat p → f_parseOperand s = some (qto s q)
theorem qopN {TL : List (Int32 × Int32)} {p : Nat} (hp : p ≤ 2000) (hk : qkd TL p = 1) : qOp TL p (p + 1) := fun s h hN e => by
 unfold f_parseOperand
 rw [if_neg (qok h), e, qka h.1 p (by omega), Option.bind_some, if_pos hk]
 show some (sI s 11 (Int32.ofNat p + 1)) = _
 rw [ofN_succ]; rfl
theorem qopS {TL : List (Int32 × Int32)} {p : Nat} (hp : p ≤ 2000) (hk : qkd TL p = 22) (hk2 : qkd TL (p + 1) = 2) (hv : qvl TL (p + 1) = Int32.ofNat 0) : qOp TL p (p + 2) := fun s h hN e => by
 unfold f_parseOperand f_parseOperand_45
 rw [if_neg (qok h), e, qka h.1 p (by omega), Option.bind_some, hk, if_neg (by decide), if_pos rfl]
 show (f_useVar (sI s 11 (Int32.ofNat p + 1))).bind _ = _
 rw [ofN_succ, show sI s 11 (Int32.ofNat (p + 1)) = qto s (p + 1) from rfl, quv (h.to _) (hN.to _) (p := p + 1) (by omega) rfl hk2 hv (by decide), qtoto]; rfl
theorem qopV {TL : List (Int32 × Int32)} {p v : Nat} (hp : p ≤ 2000) (hk : qkd TL p = 2) (hv : qvl TL p = Int32.ofNat v) (v2 : v < 2) (hk2 : ¬ qkd TL (p + 1) = 15) : qOp TL p (p + 1) := fun s h hN e => by
 unfold f_parseOperand f_parseOperand_117
 rw [if_neg (qok h), e, qka h.1 p (by omega), Option.bind_some, hk, if_neg (by decide), if_neg (by decide), if_neg (by decide), if_pos rfl, quv h hN (by omega) e hk hv v2, Option.bind_some]
 dsimp only
 rw [if_neg (qok (h.to _)), show gI (qto s (p + 1)) 11 = Int32.ofNat (p + 1) from rfl, qka (h.to (p + 1)).1 (p + 1) (by omega), Option.bind_some, if_neg hk2]
theorem qopA {TL : List (Int32 × Int32)} {p v : Nat} (hp : p ≤ 2000) (hk : qkd TL p = 2) (hv : qvl TL p = Int32.ofNat v) (v2 : v < 2) (hk1 : qkd TL (p + 1) = 15) (hk2 : qkd TL (p + 2) = 1) (hk3 : qkd TL (p + 3) = 16) : qOp TL p (p + 4) := fun s h hN e => by
 unfold f_parseOperand f_parseOperand_117
 rw [if_neg (qok h), e, qka h.1 p (by omega), Option.bind_some, hk, if_neg (by decide), if_neg (by decide), if_neg (by decide), if_pos rfl, quv h hN (by omega) e hk hv v2, Option.bind_some]
 dsimp only
 rw [if_neg (qok (h.to _)), show gI (qto s (p + 1)) 11 = Int32.ofNat (p + 1) from rfl, qka (h.to (p + 1)).1 (p + 1) (by omega), Option.bind_some, if_pos hk1]
 show (f_parseAtom (sI (qto s (p + 1)) 11 (Int32.ofNat (p + 1) + 1))).bind _ = _
 rw [ofN_succ, show sI (qto s (p + 1)) 11 (Int32.ofNat (p + 1 + 1)) = qto s (p + 2) from qtoto _ _ _, qpa (h.to (p + 2)) (p := p + 2) (by omega) rfl hk2, Option.bind_some, qtoto, qexp (h.to (p + 2 + 1)) (p := p + 3) (by omega) rfl hk3, qtoto]; rfl
theorem qte {TL : List (Int32 × Int32)} {p q : Nat} (hq : q ≤ 2000) (o : qOp TL p q) (hk : ¬ qkd TL q = 22) {s : St} (h : qQ TL s) (hN : qNm s) (e : gI s 11 = Int32.ofNat p) : qOk (fun N => f_parseTerm N s) (· = qto s q) := by
 unfold f_parseTerm
 refine qOk.eq (o s h hN e) ?_
 refine qOk.step (g := fun N => g_parseTerm_6 (f_parseTerm_6 N) N 0 (qto s q)) (fun N => rfl) ?_
 unfold g_parseTerm_6 f_parseTerm_53
 refine qOk.ite (fun _ => ?_) fun z => absurd (by decide) z
 refine qOk.ite (fun z => absurd z (qok (h.to q))) fun _ => ?_
 refine qOk.eq (qka (h.to q).1 q (by omega)) ?_
 exact qOk.ite (fun z => absurd z hk) fun _ => qOk.ret rfl
/-- a sum from p to q -/
def qSu (TL : List (Int32 × Int32)) (p q : Nat) : Prop := ∀ s, qQ TL s → qNm s → gI s 11 = Int32.ofNat p → qOk (fun N => f_parseSum N s) (· = qto s q)
theorem qsu1 {TL : List (Int32 × Int32)} {p q : Nat} (hq : q ≤ 2000) (o : qOp TL p q) (h22 : ¬ qkd TL q = 22) (h20 : ¬ qkd TL q = 20) (h21 : ¬ qkd TL q = 21) : qSu TL p q := fun s h hN e => by
 unfold f_parseSum
 refine qOk.bind (qte hq o h22 h hN e) fun c hc => ?_
 subst hc
 refine qOk.step (g := fun N => g_parseSum_6 (f_parseSum_6 N) N 0 (qto s q)) (fun N => rfl) ?_
 unfold g_parseSum_6
 refine qOk.ite (fun _ => ?_) fun z => absurd (by decide) z
 refine qOk.ite (fun z => absurd z (qok (h.to q))) fun _ => ?_
 refine qOk.eq (qka (h.to q).1 q (by omega)) ?_
 refine qOk.ite (fun z => absurd z h20) fun _ => ?_
 exact qOk.ite (fun z => absurd z h21) fun _ => qOk.ret rfl
theorem qsu2 {TL : List (Int32 × Int32)} {p q r : Nat} (hq : q ≤ 2000) (hr : r ≤ 2000) (o : qOp TL p q) (hk : qkd TL q = 20) (o2 : qOp TL (q + 1) r) (h22 : ¬ qkd TL r = 22) (h20 : ¬ qkd TL r = 20) (h21 : ¬ qkd TL r = 21) : qSu TL p r := fun s h hN e => by
 unfold f_parseSum
 refine qOk.bind (qte hq o (by rw [hk]; decide) h hN e) fun c hc => ?_
 subst hc
 refine qOk.step (g := fun N => g_parseSum_6 (f_parseSum_6 N) N 0 (qto s q)) (fun N => rfl) ?_
 unfold g_parseSum_6 f_parseSum_42
 refine qOk.ite (fun _ => ?_) fun z => absurd (by decide) z
 refine qOk.ite (fun z => absurd z (qok (h.to q))) fun _ => ?_
 refine qOk.eq (qka (h.to q).1 q (by omega)) ?_
 refine qOk.ite (fun _ => ?_) fun z => absurd hk z
 refine qOk.let ?_
 rw [qnx (s := qto s q) (p := q) rfl, qtoto]
 refine qOk.bind (qte hr o2 h22 (h.to (q + 1)) (hN.to (q + 1)) rfl) fun c hc => ?_
 subst hc
 rw [qtoto]
 refine qOk.let ?_
 refine qOk.step (g := fun N => g_parseSum_6 (f_parseSum_6 N) N (0 + 1) (qto s r)) (fun N => rfl) ?_
 unfold g_parseSum_6
 refine qOk.ite (fun _ => ?_) fun z => absurd (by decide) z
 refine qOk.ite (fun z => absurd z (qok (h.to r))) fun _ => ?_
 refine qOk.eq (qka (h.to r).1 r (by omega)) ?_
 refine qOk.ite (fun z => absurd z h20) fun _ => ?_
 exact qOk.ite (fun z => absurd z h21) fun _ => qOk.ret rfl
def qEx (TL : List (Int32 × Int32)) (p q : Nat) : Prop := ∀ s, qQ TL s → qNm s → gI s 11 = Int32.ofNat p → qOk (fun N => f_parseExpr N s) (· = qto s q)
theorem qex1 {TL : List (Int32 × Int32)} {p q : Nat} (hq : q ≤ 2000) (o : qSu TL p q) (h24 : ¬ qkd TL q = 24) (h25 : ¬ qkd TL q = 25) : qEx TL p q := fun s h hN e => by
 unfold f_parseExpr f_parseExpr_46
 refine qOk.bind (o s h hN e) fun c hc => ?_
 subst hc
 refine qOk.eq (qka (h.to q).1 q (by omega)) ?_
 refine qOk.ite (fun z => absurd z (qok (h.to q))) fun _ => ?_
 refine qOk.ite (fun z => absurd z h24) fun _ => ?_
 exact qOk.ite (fun z => absurd z h25) fun _ => qOk.ret rfl
theorem qex2 {TL : List (Int32 × Int32)} {p q r : Nat} (hq : q ≤ 2000) (o : qSu TL p q) (h24 : qkd TL q = 24) (o2 : qSu TL (q + 1) r) : qEx TL p r := fun s h hN e => by
 unfold f_parseExpr f_parseExpr_32 f_parseExpr_46
 refine qOk.bind (o s h hN e) fun c hc => ?_
 subst hc
 refine qOk.eq (qka (h.to q).1 q (by omega)) ?_
 refine qOk.ite (fun z => absurd z (qok (h.to q))) fun _ => ?_
 refine qOk.ite (fun _ => ?_) fun z => absurd h24 z
 refine qOk.let ?_
 rw [qnx (s := qto s q) (p := q) rfl, qtoto]
 refine qOk.bind (o2 _ (h.to (q + 1)) (hN.to (q + 1)) rfl) fun c hc => ?_
 subst hc
 rw [qtoto]
 exact qOk.ret rfl

/-! the parser's statements -/
def qsT : Nat → Int32 → Int32 → List (Int32 × Int32)
 | 0, x, _ => [(10, 0), (2, 1), (15, 0), (1, x), (16, 0), (17, 0)]
 | 1, x, c => [(2, 1), (15, 0), (1, x), (16, 0), (19, 0), (1, c), (17, 0)]
 | 2, x, _ => [(2, 0), (19, 0), (2, 1), (20, 0), (1, x), (17, 0)]
 | 3, _, _ => [(10, 0), (22, 0), (2, 0), (17, 0)]
 | 4, _, c => [(2, 0), (19, 0), (1, c), (17, 0)]
 | 5, x, _ => [(7, 0), (11, 0), (2, 0), (24, 0), (1, x * 16), (12, 0), (13, 0), (2, 0), (19, 0), (2, 0), (20, 0), (1, 1), (17, 0), (14, 0)]
 | 6, _, c => [(22, 0), (2, 0), (19, 0), (1, c), (17, 0)]
 | _, _, _ => [(10, 0), (2, 0), (17, 0)]
def qtl : List (Int32 × Int32) := [(9, 0), (2, 0), (17, 0), (14, 0)]
theorem qgr {α : Type} (A X : List α) (i : Nat) (d : α) : (A ++ X).getD (A.length + i) d = X.getD i d := by
 rw [List.getD_eq_getElem?_getD, List.getD_eq_getElem?_getD, List.getElem?_append_right (by omega), Nat.add_sub_cancel_left]
theorem qgl {α : Type} (X B : List α) {i : Nat} (h : i < X.length) (d : α) : (X ++ B).getD i d = X.getD i d := by
 rw [List.getD_eq_getElem?_getD, List.getD_eq_getElem?_getD, List.getElem?_append_left h]
/-- tokens X stand at p -/
def qAt (TL : List (Int32 × Int32)) (p : Nat) (X : List (Int32 × Int32)) : Prop := ∀ i, i < X.length → qkd TL (p + i) = (X.getD i (0, 0)).1 ∧ qvl TL (p + i) = (X.getD i (0, 0)).2
theorem qat {TL A X B : List (Int32 × Int32)} {p : Nat} (h : TL = A ++ (X ++ B)) (hp : A.length = p) : qAt TL p X := fun i hi => by
 subst h
 subst hp
 unfold qkd qvl
 rw [qgr, qgl _ _ hi]
 exact ⟨rfl, rfl⟩
theorem qs130 {TL : List (Int32 × Int32)} {p q : Nat} (hp : p ≤ 1000) (hq : q ≤ 1000) (hk : qkd TL p = 10 ∨ qkd TL p = 9) (o : qEx TL (p + 1) q) (h17 : qkd TL q = 17) {s : St} (h : qQ TL s) (hN : qNm s) (e : gI s 11 = Int32.ofNat p) : qOk (fun N => f_parseStmt N s) (· = qto s (q + 1)) := by
 have go : qOk (fun N => f_parseStmt_130 N s) (· = qto s (q + 1)) := by
  unfold f_parseStmt_130
  refine qOk.let ?_
  rw [qnx e]
  refine qOk.bind (o _ (h.to (p + 1)) (hN.to (p + 1)) rfl) fun c hc => ?_
  subst hc
  rw [qtoto]
  refine qOk.eq (qexp (h.to q) (by omega) rfl h17) ?_
  rw [qtoto]
  exact qOk.ret rfl
 unfold f_parseStmt
 rw [e]
 refine qOk.eq (qka h.1 p (by omega)) ?_
 rcases hk with hk | hk
 ·rw [hk]
  refine qOk.ite (fun z => absurd z (by decide)) fun _ => ?_
  refine qOk.ite (fun z => absurd z (by decide)) fun _ => ?_
  refine qOk.ite (fun z => absurd z (by decide)) fun _ => ?_
  refine qOk.ite (fun z => absurd z (by decide)) fun _ => ?_
  refine qOk.ite (fun z => absurd z (by decide)) fun _ => ?_
  exact qOk.ite (fun _ => go) fun z => absurd rfl z
 ·rw [hk]
  refine qOk.ite (fun z => absurd z (by decide)) fun _ => ?_
  refine qOk.ite (fun z => absurd z (by decide)) fun _ => ?_
  refine qOk.ite (fun z => absurd z (by decide)) fun _ => ?_
  refine qOk.ite (fun z => absurd z (by decide)) fun _ => ?_
  refine qOk.ite (fun z => absurd z (by decide)) fun _ => ?_
  refine qOk.ite (fun z => absurd z (by decide)) fun _ => ?_
  exact qOk.ite (fun _ => go) fun z => absurd rfl z
/-- x0 = expression ; -/
theorem qsAs {TL : List (Int32 × Int32)} {p q : Nat} (hp : p ≤ 1000) (hq : q ≤ 1000) (hk : qkd TL p = 2) (hv : qvl TL p = Int32.ofNat 0) (hk1 : qkd TL (p + 1) = 19) (hk2 : ¬ qkd TL (p + 2) = 3) (o : qEx TL (p + 2) q) (h17 : qkd TL q = 17) {s : St} (h : qQ TL s) (hN : qNm s) (e : gI s 11 = Int32.ofNat p) : qOk (fun N => f_parseStmt N s) (· = qto s (q + 1)) := by
 unfold f_parseStmt
 rw [e]
 refine qOk.eq (qka h.1 p (by omega)) ?_
 rw [hk]
 refine qOk.ite (fun z => absurd z (by decide)) fun _ => ?_
 refine qOk.ite (fun z => absurd z (by decide)) fun _ => ?_
 refine qOk.ite (fun _ => ?_) fun z => absurd rfl z
 refine qOk.bind (Q := (· = qto s (q + 1))) ?_ fun c hc => qOk.ret hc
 unfold f_parseVarStmt
 refine qOk.eq (quv h hN (by omega) e hk hv (by decide)) ?_
 refine qOk.ite (fun z => absurd z (qok (h.to (p + 1)))) fun _ => ?_
 refine qOk.eq (qka (h.to (p + 1)).1 (p + 1) (by omega)) ?_
 refine qOk.ite (fun _ => ?_) fun z => absurd hk1 z
 refine qOk.rA (f := 10) (h.to (p + 1)).1.1 0 (by show (gI s 13 * 8 + Int32.ofNat 0).toInt = _; rw [hN.1]; rfl) (by decide) ?_
 refine qOk.ite (fun _ => ?_) fun z => absurd hN.2.2.2 z
 refine qOk.let ?_
 show qOk (fun N => (f_kindAt (Int32.ofNat (p + 1) + 1) (sI (qto s (p + 1)) 11 (Int32.ofNat (p + 1) + 1))).bind fun c8 => if c8 = 3 then none else (f_parseExpr N (sI (qto s (p + 1)) 11 (Int32.ofNat (p + 1) + 1))).bind fun c10 => (f_expect 17 c10).bind fun c11 => some c11) _
 rw [ofN_succ, show sI (qto s (p + 1)) 11 (Int32.ofNat (p + 1 + 1)) = qto s (p + 2) from qtoto _ _ _]
 refine qOk.eq (qka (h.to (p + 2)).1 (p + 2) (by omega)) ?_
 refine qOk.ite (fun z => absurd z hk2) fun _ => ?_
 refine qOk.bind (o _ (h.to (p + 2)) (hN.to (p + 2)) rfl) fun c hc => ?_
 subst hc
 rw [qtoto]
 refine qOk.eq (qexp (h.to q) (by omega) rfl h17) ?_
 rw [qtoto]
 exact qOk.ret rfl
/-- x1 [ number ] = expression ; -/
theorem qsAr {TL : List (Int32 × Int32)} {p q : Nat} (hp : p ≤ 1000) (hq : q ≤ 1000) (hk : qkd TL p = 2) (hv : qvl TL p = Int32.ofNat 1) (hk1 : qkd TL (p + 1) = 15) (hk2 : qkd TL (p + 2) = 1) (hk3 : qkd TL (p + 3) = 16) (hk4 : qkd TL (p + 4) = 19) (o : qEx TL (p + 5) q) (h17 : qkd TL q = 17) {s : St} (h : qQ TL s) (hN : qNm s) (e : gI s 11 = Int32.ofNat p) : qOk (fun N => f_parseStmt N s) (· = qto s (q + 1)) := by
 unfold f_parseStmt
 rw [e]
 refine qOk.eq (qka h.1 p (by omega)) ?_
 rw [hk]
 refine qOk.ite (fun z => absurd z (by decide)) fun _ => ?_
 refine qOk.ite (fun z => absurd z (by decide)) fun _ => ?_
 refine qOk.ite (fun _ => ?_) fun z => absurd rfl z
 refine qOk.bind (Q := (· = qto s (q + 1))) ?_ fun c hc => qOk.ret hc
 unfold f_parseVarStmt
 refine qOk.eq (quv h hN (by omega) e hk hv (by decide)) ?_
 refine qOk.ite (fun z => absurd z (qok (h.to (p + 1)))) fun _ => ?_
 refine qOk.eq (qka (h.to (p + 1)).1 (p + 1) (by omega)) ?_
 refine qOk.ite (fun z => by rw [hk1] at z; exact absurd z (by decide)) fun _ => ?_
 refine qOk.eq (qexp (h.to (p + 1)) (p := p + 1) (by omega) rfl hk1) ?_
 rw [qtoto]
 refine qOk.eq (qpa (h.to (p + 2)) (p := p + 2) (by omega) rfl hk2) ?_
 rw [qtoto]
 refine qOk.eq (qexp (h.to (p + 3)) (p := p + 3) (by omega) rfl hk3) ?_
 rw [qtoto]
 refine qOk.eq (qexp (h.to (p + 4)) (p := p + 4) (by omega) rfl hk4) ?_
 rw [qtoto]
 refine qOk.bind (o _ (h.to (p + 5)) (hN.to (p + 5)) rfl) fun c hc => ?_
 subst hc
 rw [qtoto]
 refine qOk.eq (qexp (h.to q) (by omega) rfl h17) ?_
 rw [qtoto]
 exact qOk.ret rfl
/-- * x0 = expression ; -/
theorem qsDe {TL : List (Int32 × Int32)} {p q : Nat} (hp : p ≤ 1000) (hq : q ≤ 1000) (hk : qkd TL p = 22) (hk1 : qkd TL (p + 1) = 2) (hv : qvl TL (p + 1) = Int32.ofNat 0) (hk2 : qkd TL (p + 2) = 19) (o : qEx TL (p + 3) q) (h17 : qkd TL q = 17) {s : St} (h : qQ TL s) (hN : qNm s) (e : gI s 11 = Int32.ofNat p) : qOk (fun N => f_parseStmt N s) (· = qto s (q + 1)) := by
 unfold f_parseStmt
 rw [qnx e, e]
 refine qOk.eq (qka h.1 p (by omega)) ?_
 rw [hk]
 refine qOk.ite (fun z => absurd z (by decide)) fun _ => ?_
 refine qOk.ite (fun z => absurd z (by decide)) fun _ => ?_
 refine qOk.ite (fun z => absurd z (by decide)) fun _ => ?_
 refine qOk.ite (fun _ => ?_) fun z => absurd rfl z
 refine qOk.let ?_
 refine qOk.eq (quv (h.to (p + 1)) (hN.to (p + 1)) (p := p + 1) (by omega) rfl hk1 hv (by decide)) ?_
 rw [qtoto]
 refine qOk.eq (qexp (h.to (p + 2)) (p := p + 2) (by omega) rfl hk2) ?_
 rw [qtoto]
 refine qOk.bind (o _ (h.to (p + 3)) (hN.to (p + 3)) rfl) fun c hc => ?_
 subst hc
 rw [qtoto]
 refine qOk.eq (qexp (h.to q) (by omega) rfl h17) ?_
 rw [qtoto]
 exact qOk.ret rfl
/-- while ( expression ) { -/
theorem qsWh {TL : List (Int32 × Int32)} {p q : Nat} (hp : p ≤ 1000) (hq : q ≤ 1000) (hk : qkd TL p = 7) (hk1 : qkd TL (p + 1) = 11) (o : qEx TL (p + 2) q) (h12 : qkd TL q = 12) (h13 : qkd TL (q + 1) = 13) {s : St} (h : qQ TL s) (hN : qNm s) (e : gI s 11 = Int32.ofNat p) : qOk (fun N => f_parseStmt N s) (· = qto s (q + 2)) := by
 unfold f_parseStmt f_parseStmt_21
 rw [qnx e, e]
 refine qOk.eq (qka h.1 p (by omega)) ?_
 rw [hk]
 refine qOk.ite (fun _ => ?_) fun z => absurd rfl z
 refine qOk.let ?_
 refine qOk.eq (qexp (h.to (p + 1)) (p := p + 1) (by omega) rfl hk1) ?_
 rw [qtoto]
 refine qOk.bind (o _ (h.to (p + 2)) (hN.to (p + 2)) rfl) fun c hc => ?_
 subst hc
 rw [qtoto]
 refine qOk.eq (qexp (h.to q) (by omega) rfl h12) ?_
 rw [qtoto]
 refine qOk.eq (qexp (h.to (q + 1)) (p := q + 1) (by omega) rfl h13) ?_
 rw [qtoto]
 exact qOk.ret rfl
def qln (op : Nat) : Nat := if op = 0 then 6 else if op = 1 then 7 else if op = 2 then 6 else if op = 3 then 4 else if op = 4 then 4 else if op = 5 then 14 else if op = 6 then 5 else 3
theorem qsl (op : Nat) (ho : op ≤ 7) (x c : Int32) : (qsT op x c).length = qln op := by
 rcases (by omega : op = 0 ∨ op = 1 ∨ op = 2 ∨ op = 3 ∨ op = 4 ∨ op = 5 ∨ op = 6 ∨ op = 7) with rfl | rfl | rfl | rfl | rfl | rfl | rfl | rfl <;> rfl
/-- a statement that isn't a loop -/
theorem qone {TL : List (Int32 × Int32)} {p op : Nat} {x c : Int32} (hp : p ≤ 900) (ho : op ≤ 7) (n5 : op ≠ 5) (h : qAt TL p (qsT op x c)) : (∀ s, qQ TL s → qNm s → gI s 11 = Int32.ofNat p → qOk (fun N => f_parseStmt N s) (· = qto s (p + qln op))) ∧ (qkd TL p = 2 ∨ qkd TL p = 10 ∨ qkd TL p = 22) ∧ ∀ i, i < qln op → ¬ qkd TL (p + i) = 7 := by
 rcases (by omega : op = 0 ∨ op = 1 ∨ op = 2 ∨ op = 3 ∨ op = 4 ∨ op = 6 ∨ op = 7) with rfl | rfl | rfl | rfl | rfl | rfl | rfl
 ·have t0 := h 0 (by show 0 < 6; decide)
  have t1 := h 1 (by show 1 < 6; decide)
  have t2 := h 2 (by show 2 < 6; decide)
  have t3 := h 3 (by show 3 < 6; decide)
  have t4 := h 4 (by show 4 < 6; decide)
  have t5 := h 5 (by show 5 < 6; decide)
  have k0 : qkd TL p = 10 := t0.1
  have k1 : qkd TL (p + 1) = 2 := t1.1
  have k2 : qkd TL (p + 2) = 15 := t2.1
  have k3 : qkd TL (p + 3) = 1 := t3.1
  have k4 : qkd TL (p + 4) = 16 := t4.1
  have k5 : qkd TL (p + 5) = 17 := t5.1
  refine ⟨fun s hQ hN e => ?_, .inr (.inl k0), fun i hi => ?_⟩
  ·exact qs130 (q := p + 5) (by omega) (by omega) (.inl k0) (qex1 (by omega) (qsu1 (by omega) (qopA (p := p + 1) (v := 1) (by omega) k1 t1.2 (by decide) k2 k3 k4) (by rw [k5]; decide) (by rw [k5]; decide) (by rw [k5]; decide)) (by rw [k5]; decide) (by rw [k5]; decide)) k5 hQ hN e
  ·have hi : i < 6 := hi
   rcases (by omega : i = 0 ∨ i = 1 ∨ i = 2 ∨ i = 3 ∨ i = 4 ∨ i = 5) with rfl | rfl | rfl | rfl | rfl | rfl
   ·rw [Nat.add_zero, k0]; decide
   ·rw [k1]; decide
   ·rw [k2]; decide
   ·rw [k3]; decide
   ·rw [k4]; decide
   ·rw [k5]; decide
 ·have t0 := h 0 (by show 0 < 7; decide)
  have k0 : qkd TL p = 2 := t0.1
  have k1 : qkd TL (p + 1) = 15 := (h 1 (by show 1 < 7; decide)).1
  have k2 : qkd TL (p + 2) = 1 := (h 2 (by show 2 < 7; decide)).1
  have k3 : qkd TL (p + 3) = 16 := (h 3 (by show 3 < 7; decide)).1
  have k4 : qkd TL (p + 4) = 19 := (h 4 (by show 4 < 7; decide)).1
  have k5 : qkd TL (p + 5) = 1 := (h 5 (by show 5 < 7; decide)).1
  have k6 : qkd TL (p + 6) = 17 := (h 6 (by show 6 < 7; decide)).1
  refine ⟨fun s hQ hN e => ?_, .inl k0, fun i hi => ?_⟩
  ·exact qsAr (q := p + 6) (by omega) (by omega) k0 t0.2 k1 k2 k3 k4 (qex1 (by omega) (qsu1 (by omega) (qopN (p := p + 5) (by omega) k5) (by rw [k6]; decide) (by rw [k6]; decide) (by rw [k6]; decide)) (by rw [k6]; decide) (by rw [k6]; decide)) k6 hQ hN e
  ·have hi : i < 7 := hi
   rcases (by omega : i = 0 ∨ i = 1 ∨ i = 2 ∨ i = 3 ∨ i = 4 ∨ i = 5 ∨ i = 6) with rfl | rfl | rfl | rfl | rfl | rfl | rfl
   ·rw [Nat.add_zero, k0]; decide
   ·rw [k1]; decide
   ·rw [k2]; decide
   ·rw [k3]; decide
   ·rw [k4]; decide
   ·rw [k5]; decide
   ·rw [k6]; decide
 ·have t0 := h 0 (by show 0 < 6; decide)
  have t2 := h 2 (by show 2 < 6; decide)
  have k0 : qkd TL p = 2 := t0.1
  have k1 : qkd TL (p + 1) = 19 := (h 1 (by show 1 < 6; decide)).1
  have k2 : qkd TL (p + 2) = 2 := t2.1
  have k3 : qkd TL (p + 3) = 20 := (h 3 (by show 3 < 6; decide)).1
  have k4 : qkd TL (p + 4) = 1 := (h 4 (by show 4 < 6; decide)).1
  have k5 : qkd TL (p + 5) = 17 := (h 5 (by show 5 < 6; decide)).1
  refine ⟨fun s hQ hN e => ?_, .inl k0, fun i hi => ?_⟩
  ·exact qsAs (q := p + 5) (by omega) (by omega) k0 t0.2 k1 (by rw [k2]; decide) (qex1 (by omega) (qsu2 (q := p + 3) (by omega) (by omega) (qopV (p := p + 2) (v := 1) (by omega) k2 t2.2 (by decide) (by rw [k3]; decide)) k3 (qopN (p := p + 4) (by omega) k4) (by rw [k5]; decide) (by rw [k5]; decide) (by rw [k5]; decide)) (by rw [k5]; decide) (by rw [k5]; decide)) k5 hQ hN e
  ·have hi : i < 6 := hi
   rcases (by omega : i = 0 ∨ i = 1 ∨ i = 2 ∨ i = 3 ∨ i = 4 ∨ i = 5) with rfl | rfl | rfl | rfl | rfl | rfl
   ·rw [Nat.add_zero, k0]; decide
   ·rw [k1]; decide
   ·rw [k2]; decide
   ·rw [k3]; decide
   ·rw [k4]; decide
   ·rw [k5]; decide
 ·have t2 := h 2 (by show 2 < 4; decide)
  have k0 : qkd TL p = 10 := (h 0 (by show 0 < 4; decide)).1
  have k1 : qkd TL (p + 1) = 22 := (h 1 (by show 1 < 4; decide)).1
  have k2 : qkd TL (p + 2) = 2 := t2.1
  have k3 : qkd TL (p + 3) = 17 := (h 3 (by show 3 < 4; decide)).1
  refine ⟨fun s hQ hN e => ?_, .inr (.inl k0), fun i hi => ?_⟩
  ·exact qs130 (q := p + 3) (by omega) (by omega) (.inl k0) (qex1 (by omega) (qsu1 (by omega) (qopS (p := p + 1) (by omega) k1 k2 t2.2) (by rw [k3]; decide) (by rw [k3]; decide) (by rw [k3]; decide)) (by rw [k3]; decide) (by rw [k3]; decide)) k3 hQ hN e
  ·have hi : i < 4 := hi
   rcases (by omega : i = 0 ∨ i = 1 ∨ i = 2 ∨ i = 3) with rfl | rfl | rfl | rfl
   ·rw [Nat.add_zero, k0]; decide
   ·rw [k1]; decide
   ·rw [k2]; decide
   ·rw [k3]; decide
 ·have t0 := h 0 (by show 0 < 4; decide)
  have k0 : qkd TL p = 2 := t0.1
  have k1 : qkd TL (p + 1) = 19 := (h 1 (by show 1 < 4; decide)).1
  have k2 : qkd TL (p + 2) = 1 := (h 2 (by show 2 < 4; decide)).1
  have k3 : qkd TL (p + 3) = 17 := (h 3 (by show 3 < 4; decide)).1
  refine ⟨fun s hQ hN e => ?_, .inl k0, fun i hi => ?_⟩
  ·exact qsAs (q := p + 3) (by omega) (by omega) k0 t0.2 k1 (by rw [k2]; decide) (qex1 (by omega) (qsu1 (by omega) (qopN (p := p + 2) (by omega) k2) (by rw [k3]; decide) (by rw [k3]; decide) (by rw [k3]; decide)) (by rw [k3]; decide) (by rw [k3]; decide)) k3 hQ hN e
  ·have hi : i < 4 := hi
   rcases (by omega : i = 0 ∨ i = 1 ∨ i = 2 ∨ i = 3) with rfl | rfl | rfl | rfl
   ·rw [Nat.add_zero, k0]; decide
   ·rw [k1]; decide
   ·rw [k2]; decide
   ·rw [k3]; decide
 ·have t1 := h 1 (by show 1 < 5; decide)
  have k0 : qkd TL p = 22 := (h 0 (by show 0 < 5; decide)).1
  have k1 : qkd TL (p + 1) = 2 := t1.1
  have k2 : qkd TL (p + 2) = 19 := (h 2 (by show 2 < 5; decide)).1
  have k3 : qkd TL (p + 3) = 1 := (h 3 (by show 3 < 5; decide)).1
  have k4 : qkd TL (p + 4) = 17 := (h 4 (by show 4 < 5; decide)).1
  refine ⟨fun s hQ hN e => ?_, .inr (.inr k0), fun i hi => ?_⟩
  ·exact qsDe (q := p + 4) (by omega) (by omega) k0 k1 t1.2 k2 (qex1 (by omega) (qsu1 (by omega) (qopN (p := p + 3) (by omega) k3) (by rw [k4]; decide) (by rw [k4]; decide) (by rw [k4]; decide)) (by rw [k4]; decide) (by rw [k4]; decide)) k4 hQ hN e
  ·have hi : i < 5 := hi
   rcases (by omega : i = 0 ∨ i = 1 ∨ i = 2 ∨ i = 3 ∨ i = 4) with rfl | rfl | rfl | rfl | rfl
   ·rw [Nat.add_zero, k0]; decide
   ·rw [k1]; decide
   ·rw [k2]; decide
   ·rw [k3]; decide
   ·rw [k4]; decide
 ·have t1 := h 1 (by show 1 < 3; decide)
  have k0 : qkd TL p = 10 := (h 0 (by show 0 < 3; decide)).1
  have k1 : qkd TL (p + 1) = 2 := t1.1
  have k2 : qkd TL (p + 2) = 17 := (h 2 (by show 2 < 3; decide)).1
  refine ⟨fun s hQ hN e => ?_, .inr (.inl k0), fun i hi => ?_⟩
  ·exact qs130 (q := p + 2) (by omega) (by omega) (.inl k0) (qex1 (by omega) (qsu1 (by omega) (qopV (p := p + 1) (v := 0) (by omega) k1 t1.2 (by decide) (by rw [k2]; decide)) (by rw [k2]; decide) (by rw [k2]; decide) (by rw [k2]; decide)) (by rw [k2]; decide) (by rw [k2]; decide)) k2 hQ hN e
  ·have hi : i < 3 := hi
   rcases (by omega : i = 0 ∨ i = 1 ∨ i = 2) with rfl | rfl | rfl
   ·rw [Nat.add_zero, k0]; decide
   ·rw [k1]; decide
   ·rw [k2]; decide

/-! the body -/
def qWh (TL : List (Int32 × Int32)) (p : Nat) (s : St) : Prop := (∀ k, k < 256 → qA s 13 k = if qkd TL k = 7 ∧ k < p then Int32.ofNat (k + 13) else -1) ∧ (∀ k, k < 256 → qA s 14 k = if 13 ≤ k ∧ qkd TL (k - 13) = 7 ∧ k - 13 < p then Int32.ofNat (k - 13) else -1) ∧ ∀ k, k < p → qkd TL k = 7 → k + 14 ≤ p
def qF3 (s0 s : St) : Prop := (∀ j k, j ≠ 13 → j ≠ 14 → j ≠ 15 → qA s j k = qA s0 j k) ∧ ∀ j, j ≠ 11 → gI s j = gI s0 j
def qBd (TL : List (Int32 × Int32)) (s0 : St) (p : Nat) (s : St) : Prop := qQ TL s ∧ qNm s ∧ gI s 11 = Int32.ofNat p ∧ qWh TL p s ∧ qF3 s0 s
theorem qWh.skip {TL : List (Int32 × Int32)} {p q : Nat} {s : St} (h : qWh TL p s) (hpq : p ≤ q) (no : ∀ k, p ≤ k → k < q → ¬ qkd TL k = 7) : qWh TL q s := by
 obtain ⟨h1, h2, h3⟩ := h
 have eq : ∀ k, (qkd TL k = 7 ∧ k < q) ↔ (qkd TL k = 7 ∧ k < p) := fun k => ⟨fun e => ⟨e.1, by
  by_cases c : k < p
  ·exact c
  ·exact absurd e.1 (no k (by omega) e.2)⟩, fun e => ⟨e.1, by omega⟩⟩
 refine ⟨fun k hk => ?_, fun k hk => ?_, fun k hk e => ?_⟩
 ·rw [h1 k hk]
  by_cases c : qkd TL k = 7 ∧ k < p
  ·rw [if_pos c, if_pos ((eq k).mpr c)]
  ·rw [if_neg c, if_neg (fun z => c ((eq k).mp z))]
 ·rw [h2 k hk]
  by_cases c : 13 ≤ k ∧ qkd TL (k - 13) = 7 ∧ k - 13 < p
  ·rw [if_pos c, if_pos ⟨c.1, (eq (k - 13)).mpr c.2⟩]
  ·rw [if_neg c, if_neg (fun z => c ⟨z.1, (eq (k - 13)).mp z.2⟩)]
 ·have := (eq k).mp ⟨e, hk⟩
  have := h3 k this.2 e
  omega
theorem qBd.to {TL : List (Int32 × Int32)} {s0 s : St} {p q : Nat} (h : qBd TL s0 p s) (hpq : p ≤ q) (no : ∀ k, p ≤ k → k < q → ¬ qkd TL k = 7) : qBd TL s0 q (qto s q) := by
 obtain ⟨h1, h2, h3, h4, h5⟩ := h
 refine ⟨h1.to q, h2.to q, rfl, h4.skip hpq no, fun j k a b c => h5.1 j k a b c, fun j hj => ?_⟩
 unfold qto
 rw [gI_sI, if_neg hj]; exact h5.2 j hj
theorem qitn {P : St → Prop} {TL : List (Int32 × Int32)} {p q v g : Nat} (hp : p ≤ 900) (hv : v ≤ 1) (hg : g < 290) {s : St} (h : qQ TL s) (e : gI s 11 = Int32.ofNat p) (hk : ¬ qkd TL p = 14 ∧ ¬ qkd TL p = 7 ∧ ¬ qkd TL p = 8) (st : qOk (fun N => f_parseStmt N s) (· = qto s q)) (nx : qOk (fun N => f_parseBody_4 N (Int32.ofNat v) (Int32.ofNat (g + 1)) (qto s q)) P) : qOk (fun N => f_parseBody_4 N (Int32.ofNat v) (Int32.ofNat g) s) P := by
 refine qOk.step (g := fun N => g_parseBody_4 (f_parseBody_4 N) N (Int32.ofNat v) (Int32.ofNat g) s) (fun N => rfl) ?_
 unfold g_parseBody_4 f_parseBody_58 f_parseBody_162
 rw [e]
 refine qOk.ite (fun _ => ?_) fun z => absurd ((ofN_ltL (m := 300) (by omega) (by decide)).mpr (by omega)) z
 refine qOk.ite (fun z => absurd z (qok h)) fun _ => ?_
 refine qOk.eq (qka h.1 p (by omega)) ?_
 refine qOk.ite (fun z => absurd z hk.1) fun _ => ?_
 refine qOk.ite (fun z => absurd z hk.1) fun _ => ?_
 refine qOk.ite (fun z => by have := (ofN_gtL (m := 8) (by omega) (by decide)).mp z; omega) fun _ => ?_
 refine qOk.let ?_
 refine qOk.bind st fun c hc => ?_
 subst hc
 refine qOk.ite (fun z => absurd z (qok (h.to q))) fun _ => ?_
 refine qOk.ite (fun z => absurd z hk.2.1) fun _ => ?_
 refine qOk.ite (fun z => absurd z hk.2.2) fun _ => qOk.let ?_
 rw [ofN_succ]
 exact nx
/-- a whole loop -/
theorem qitw {P : St → Prop} {TL : List (Int32 × Int32)} {s0 : St} {p g : Nat} {x c : Int32} (hp : p + 14 ≤ 256) (hg : g < 280) (h : qAt TL p (qsT 5 x c)) {s : St} (hb : qBd TL s0 p s) (nx : ∀ u, qBd TL s0 (p + 14) u → qOk (fun N => f_parseBody_4 N 0 (Int32.ofNat (g + 3)) u) P) : qOk (fun N => f_parseBody_4 N 0 (Int32.ofNat g) s) P := by
 obtain ⟨hQ, hN, e, hW, hF⟩ := hb
 have t2 := h 2 (by show 2 < 14; decide)
 have t7 := h 7 (by show 7 < 14; decide)
 have t9 := h 9 (by show 9 < 14; decide)
 have k0 : qkd TL p = 7 := (h 0 (by show 0 < 14; decide)).1
 have k1 : qkd TL (p + 1) = 11 := (h 1 (by show 1 < 14; decide)).1
 have k2 : qkd TL (p + 2) = 2 := t2.1
 have k3 : qkd TL (p + 3) = 24 := (h 3 (by show 3 < 14; decide)).1
 have k4 : qkd TL (p + 4) = 1 := (h 4 (by show 4 < 14; decide)).1
 have k5 : qkd TL (p + 5) = 12 := (h 5 (by show 5 < 14; decide)).1
 have k6 : qkd TL (p + 6) = 13 := (h 6 (by show 6 < 14; decide)).1
 have k7 : qkd TL (p + 7) = 2 := t7.1
 have k8 : qkd TL (p + 8) = 19 := (h 8 (by show 8 < 14; decide)).1
 have k9 : qkd TL (p + 9) = 2 := t9.1
 have k10 : qkd TL (p + 10) = 20 := (h 10 (by show 10 < 14; decide)).1
 have k11 : qkd TL (p + 11) = 1 := (h 11 (by show 11 < 14; decide)).1
 have k12 : qkd TL (p + 12) = 17 := (h 12 (by show 12 < 14; decide)).1
 have k13 : qkd TL (p + 13) = 14 := (h 13 (by show 13 < 14; decide)).1
 have no : ∀ k, p < k → k < p + 14 → ¬ qkd TL k = 7 := fun k h1 h2 => by
  rcases (by omega : k = p + 1 ∨ k = p + 2 ∨ k = p + 3 ∨ k = p + 4 ∨ k = p + 5 ∨ k = p + 6 ∨ k = p + 7 ∨ k = p + 8 ∨ k = p + 9 ∨ k = p + 10 ∨ k = p + 11 ∨ k = p + 12 ∨ k = p + 13) with rfl | rfl | rfl | rfl | rfl | rfl | rfl | rfl | rfl | rfl | rfl | rfl | rfl
  ·rw [k1]; decide
  ·rw [k2]; decide
  ·rw [k3]; decide
  ·rw [k4]; decide
  ·rw [k5]; decide
  ·rw [k6]; decide
  ·rw [k7]; decide
  ·rw [k8]; decide
  ·rw [k9]; decide
  ·rw [k10]; decide
  ·rw [k11]; decide
  ·rw [k12]; decide
  ·rw [k13]; decide
 have head := qsWh (TL := TL) (p := p) (q := p + 5) (by omega) (by omega) k0 k1 (qex2 (q := p + 3) (by omega) (qsu1 (by omega) (qopV (p := p + 2) (v := 0) (by omega) k2 t2.2 (by decide) (by rw [k3]; decide)) (by rw [k3]; decide) (by rw [k3]; decide) (by rw [k3]; decide)) k3 (qsu1 (by omega) (qopN (p := p + 4) (by omega) k4) (by rw [k5]; decide) (by rw [k5]; decide) (by rw [k5]; decide))) k5 k6 hQ hN e
 refine qOk.step (g := fun N => g_parseBody_4 (f_parseBody_4 N) N 0 (Int32.ofNat g) s) (fun N => rfl) ?_
 unfold g_parseBody_4 f_parseBody_58 f_parseBody_151 f_parseBody_162
 rw [e]
 refine qOk.ite (fun _ => ?_) fun z => absurd ((ofN_ltL (m := 300) (by omega) (by decide)).mpr (by omega)) z
 refine qOk.ite (fun z => absurd z (qok hQ)) fun _ => ?_
 refine qOk.eq (qka hQ.1 p (by omega)) ?_
 rw [k0]
 refine qOk.ite (fun z => absurd z (by decide)) fun _ => ?_
 refine qOk.ite (fun z => absurd z (by decide)) fun _ => ?_
 refine qOk.ite (fun z => absurd z (by decide)) fun _ => ?_
 refine qOk.let ?_
 refine qOk.bind head fun c' hc => ?_
 subst hc
 refine qOk.ite (fun z => absurd z (qok (hQ.to _))) fun _ => ?_
 refine qOk.ite (fun _ => ?_) fun z => absurd rfl z
 refine qOk.wA (f := 15) (hQ.to (p + 5 + 2)).1.1 0 (by decide) (by decide) fun s1 m1 => ?_
 refine qOk.let (qOk.let ?_)
 rw [ofN_succ]
 have A1 : qA s1 = qu (qA s) 15 0 (Int32.ofNat p) := m1.2.2
 have I1 : ∀ j, j ≠ 11 → gI s1 j = gI s j := fun j hj => by
  rw [m1.2.1]
  unfold qto
  rw [gI_sI, if_neg hj]
 have Q1 : qQ TL s1 := ⟨⟨m1.1, hQ.1.2.1, (I1 2 (by decide)).trans hQ.1.2.2.1, fun k hk => by rw [A1, qu1 _ _ _ _ (by decide), qu1 _ _ _ _ (by decide)]; exact hQ.1.2.2.2 k hk⟩, (I1 12 (by decide)).trans hQ.2⟩
 have N1 : qNm s1 := ⟨(I1 13 (by decide)).trans hN.1, by rw [A1, qu1 _ _ _ _ (by decide)]; exact hN.2.1, by rw [A1, qu1 _ _ _ _ (by decide)]; exact hN.2.2.1, by rw [A1, qu1 _ _ _ _ (by decide)]; exact hN.2.2.2⟩
 have e1 : gI s1 11 = Int32.ofNat (p + 7) := m1.2.1 11
 have inner := qsAs (TL := TL) (p := p + 7) (q := p + 12) (by omega) (by omega) k7 t7.2 k8 (by rw [k9]; decide) (qex1 (by omega) (qsu2 (q := p + 10) (by omega) (by omega) (qopV (p := p + 9) (v := 0) (by omega) k9 t9.2 (by decide) (by rw [k10]; decide)) k10 (qopN (p := p + 11) (by omega) k11) (by rw [k12]; decide) (by rw [k12]; decide) (by rw [k12]; decide)) (by rw [k12]; decide) (by rw [k12]; decide)) k12 Q1 N1 e1
 show qOk (fun N => f_parseBody_4 N (Int32.ofNat 1) (Int32.ofNat (g + 1)) s1) P
 refine qitn (p := p + 7) (q := p + 13) (by omega) (by decide) (by omega) Q1 e1 (by rw [k7]; decide) inner ?_
 refine qOk.step (g := fun N => g_parseBody_4 (f_parseBody_4 N) N (Int32.ofNat 1) (Int32.ofNat (g + 1 + 1)) (qto s1 (p + 13))) (fun N => rfl) ?_
 unfold g_parseBody_4 f_parseBody_58 f_parseBody_162
 refine qOk.ite (fun _ => ?_) fun z => absurd ((ofN_ltL (m := 300) (by omega) (by decide)).mpr (by omega)) z
 refine qOk.ite (fun z => absurd z (qok (Q1.to (p + 13)))) fun _ => ?_
 refine qOk.eq (qka (Q1.to (p + 13)).1 (p + 13) (by omega)) ?_
 rw [k13]
 refine qOk.ite (fun _ => ?_) fun z => absurd rfl z
 refine qOk.ite (fun z => absurd z (by decide)) fun _ => ?_
 refine qOk.ite (fun _ => ?_) fun z => absurd rfl z
 refine qOk.let ?_
 refine qOk.rA (f := 15) (Q1.to (p + 13)).1.1 0 (by decide) (by decide) ?_
 rw [show qA (qto s1 (p + 13)) 15 0 = Int32.ofNat p by show qA s1 15 0 = _; rw [A1, qu0]]
 refine qOk.wA (f := 13) (Q1.to (p + 13)).1.1 p (ofN_int (by omega)) (show p < 256 by omega) fun s2 m2 => ?_
 have e2 : gI s2 11 = Int32.ofNat (p + 13) := m2.2.1 11
 refine qOk.wA (f := 14) m2.1 (p + 13) (by rw [e2]; exact ofN_int (by omega)) (show p + 13 < 256 by omega) fun s3 m3 => ?_
 have e3 : gI s3 11 = Int32.ofNat (p + 13) := (m3.2.1 11).trans e2
 refine qOk.let ?_
 rw [qnx e3]
 refine qOk.let ?_
 rw [ofN_succ]
 have A3 : qA s3 = qu (qu (qu (qA s) 15 0 (Int32.ofNat p)) 13 p (Int32.ofNat (p + 13))) 14 (p + 13) (Int32.ofNat p) := by
  rw [m3.2.2, m2.2.2]
  show qu (qu (qA s1) 13 p (Int32.ofNat (p + 13))) 14 (p + 13) (Int32.ofNat p) = _
  rw [A1]
 have I3 : ∀ j, j ≠ 11 → gI s3 j = gI s j := fun j hj => by
  rw [m3.2.1, m2.2.1]
  unfold qto
  rw [gI_sI, if_neg hj]; exact I1 j hj
 have fr : ∀ j k, j ≠ 13 → j ≠ 14 → j ≠ 15 → qA s3 j k = qA s j k := fun j k a b c => by
  rw [A3, qu1 _ _ _ _ b, qu1 _ _ _ _ a, qu1 _ _ _ _ c]
 refine nx (qto s3 (p + 13 + 1)) ⟨⟨⟨m3.1, hQ.1.2.1, ?_, fun k hk => ?_⟩, ?_⟩, ⟨?_, ?_, ?_, ?_⟩, rfl, ⟨fun k hk => ?_, fun k hk => ?_, fun k hk ek => ?_⟩, fun j k a b c => ?_, fun j hj => ?_⟩
 ·exact (I3 2 (by decide)).trans hQ.1.2.2.1
 ·show qA s3 0 k = _ ∧ qA s3 1 k = _
  rw [fr 0 k (by decide) (by decide) (by decide), fr 1 k (by decide) (by decide) (by decide)]; exact hQ.1.2.2.2 k hk
 ·exact (I3 12 (by decide)).trans hQ.2
 ·exact (I3 13 (by decide)).trans hN.1
 ·show qA s3 9 0 = _
  rw [fr 9 0 (by decide) (by decide) (by decide)]; exact hN.2.1
 ·show qA s3 9 1 = _
  rw [fr 9 1 (by decide) (by decide) (by decide)]; exact hN.2.2.1
 ·show qA s3 10 0 = _
  rw [fr 10 0 (by decide) (by decide) (by decide)]; exact hN.2.2.2
 ·show qA s3 13 k = _
  rw [A3, qu1 _ _ _ _ (by decide)]
  by_cases c : k = p
  ·subst c
   rw [qu0, if_pos ⟨k0, by omega⟩]
  ·rw [qu2 _ _ _ _ c, qu1 _ _ _ _ (by decide), hW.1 k hk]
   by_cases d : qkd TL k = 7 ∧ k < p
   ·rw [if_pos d, if_pos ⟨d.1, by omega⟩]
   ·rw [if_neg d, if_neg (fun z => ?_)]
    by_cases y : k < p
    ·exact d ⟨z.1, y⟩
    ·exact no k (by omega) z.2 z.1
 ·show qA s3 14 k = _
  rw [A3]
  by_cases c : k = p + 13
  ·subst c
   rw [qu0, if_pos ⟨by omega, by rw [Nat.add_sub_cancel]; exact k0, by omega⟩, Nat.add_sub_cancel]
  ·rw [qu2 _ _ _ _ c, qu1 _ _ _ _ (by decide), qu1 _ _ _ _ (by decide), hW.2.1 k hk]
   by_cases d : 13 ≤ k ∧ qkd TL (k - 13) = 7 ∧ k - 13 < p
   ·rw [if_pos d, if_pos ⟨d.1, d.2.1, by omega⟩]
   ·rw [if_neg d, if_neg (fun z => ?_)]
    by_cases y : k - 13 < p
    ·exact d ⟨z.1, z.2.1, y⟩
    ·exact no (k - 13) (by omega) z.2.2 z.2.1
 ·by_cases y : k < p
  ·have := hW.2.2 k y ek; omega
  ·by_cases c : k = p
   ·omega
   ·exact absurd ek (no k (by omega) hk)
 ·show qA s3 j k = _
  rw [fr j k a b c]; exact hF.1 j k a b c
 ·unfold qto
  rw [gI_sI, if_neg hj, I3 j hj]; exact hF.2 j hj
def qfl (ss : List (Nat × Int32 × Int32)) : List (Int32 × Int32) := ss.flatMap fun st => qsT st.1 st.2.1 st.2.2
theorem qbody {TL : List (Int32 × Int32)} {s0 : St} (hT : TL.length ≤ 256) : ∀ (ss : List (Nat × Int32 × Int32)) (A : List (Int32 × Int32)) (p g : Nat) (s : St), (∀ st, st ∈ ss → st.1 ≤ 7) → TL = A ++ (qfl ss ++ qtl) → A.length = p → qBd TL s0 p s → g + 3 * ss.length ≤ 200 → qOk (fun N => f_parseBody_4 N 0 (Int32.ofNat g) s) (qBd TL s0 TL.length) := by
 intro ss
 induction ss with
 | nil =>
  intro A p g s _ hTL hA hb hg
  have hTL : TL = A ++ (qtl ++ []) := by rw [List.append_nil]; exact hTL
  have at4 := qat hTL hA
  have hl : TL.length = p + 4 := by rw [hTL, List.length_append, hA]; rfl
  have t1 := at4 1 (by decide)
  have k0 : qkd TL p = 9 := (at4 0 (by decide)).1
  have k1 : qkd TL (p + 1) = 2 := t1.1
  have k2 : qkd TL (p + 2) = 17 := (at4 2 (by decide)).1
  have k3 : qkd TL (p + 3) = 14 := (at4 3 (by decide)).1
  obtain ⟨hQ, hN, e, hW, hF⟩ := id hb
  have st := qs130 (TL := TL) (p := p) (q := p + 2) (by omega) (by omega) (.inr k0) (qex1 (by omega) (qsu1 (by omega) (qopV (p := p + 1) (v := 0) (by omega) k1 t1.2 (by decide) (by rw [k2]; decide)) (by rw [k2]; decide) (by rw [k2]; decide) (by rw [k2]; decide)) (by rw [k2]; decide) (by rw [k2]; decide)) k2 hQ hN e
  have no : ∀ k, p ≤ k → k < p + 4 → ¬ qkd TL k = 7 := fun k h1 h2 => by
   rcases (by omega : k = p ∨ k = p + 1 ∨ k = p + 2 ∨ k = p + 3) with rfl | rfl | rfl | rfl
   ·rw [k0]; decide
   ·rw [k1]; decide
   ·rw [k2]; decide
   ·rw [k3]; decide
  refine qitn (v := 0) (p := p) (q := p + 3) (by omega) (by decide) (by omega) hQ e (by rw [k0]; decide) st ?_
  have b3 := hb.to (q := p + 3) (by omega) fun k h1 h2 => no k h1 (by omega)
  refine qOk.step (g := fun N => g_parseBody_4 (f_parseBody_4 N) N (Int32.ofNat 0) (Int32.ofNat (g + 1)) (qto s (p + 3))) (fun N => rfl) ?_
  unfold g_parseBody_4
  refine qOk.ite (fun _ => ?_) fun z => absurd ((ofN_ltL (m := 300) (by omega) (by decide)).mpr (by omega)) z
  refine qOk.ite (fun z => absurd z (qok b3.1)) fun _ => ?_
  refine qOk.eq (qka b3.1.1 (p + 3) (by omega)) ?_
  rw [k3]
  refine qOk.ite (fun _ => ?_) fun z => absurd rfl z
  refine qOk.ite (fun _ => ?_) fun z => absurd rfl z
  refine qOk.wA (f := 14) b3.1.1.1 (p + 3) (ofN_int (by omega)) (show p + 3 < 256 by omega) fun s1 m1 => ?_
  have e1 : gI s1 11 = Int32.ofNat (p + 3) := m1.2.1 11
  refine qOk.let ?_
  rw [qnx e1]
  have b4 := b3.to (q := p + 4) (by omega) fun k h1 h2 => no k (by omega) h2
  obtain ⟨q1, q2, q3, q4, q5⟩ := b4
  have A1 : qA s1 = qA s := by
   rw [m1.2.2]
   funext j k
   by_cases c : j = 14 ∧ k = p + 3
   ·obtain ⟨rfl, rfl⟩ := c
    rw [qu0]
    have := q4.2.1 (p + 3) (by omega)
    rw [if_neg (fun z => by have := hW.2.2 (p + 3 - 13) (by
     by_cases y : p + 3 - 13 < p
     ·exact y
     ·exact absurd z.2.1 (no _ (by omega) z.2.2)) z.2.1; omega)] at this
    exact this.symm
   ·unfold qu
    rw [if_neg c]; rfl
  have I1 : ∀ j, j ≠ 11 → gI s1 j = gI s j := fun j hj => by
   rw [m1.2.1]
   unfold qto
   rw [gI_sI, if_neg hj]
  refine qOk.ret ?_
  rw [hl]
  refine ⟨⟨⟨m1.1, hQ.1.2.1, (I1 2 (by decide)).trans hQ.1.2.2.1, fun k hk => ?_⟩, (I1 12 (by decide)).trans hQ.2⟩, ⟨(I1 13 (by decide)).trans hN.1, ?_, ?_, ?_⟩, rfl, ⟨fun k hk => ?_, fun k hk => ?_, q4.2.2⟩, fun j k a b c => ?_, fun j hj => ?_⟩
  ·show qA s1 0 k = _ ∧ qA s1 1 k = _
   rw [A1]; exact hQ.1.2.2.2 k hk
  ·show qA s1 9 0 = _
   rw [A1]; exact hN.2.1
  ·show qA s1 9 1 = _
   rw [A1]; exact hN.2.2.1
  ·show qA s1 10 0 = _
   rw [A1]; exact hN.2.2.2
  ·show qA s1 13 k = _
   rw [A1]; exact q4.1 k hk
  ·show qA s1 14 k = _
   rw [A1]; exact q4.2.1 k hk
  ·show qA s1 j k = _
   rw [A1]; exact hF.1 j k a b c
  ·unfold qto
   rw [gI_sI, if_neg hj, I1 j hj]; exact hF.2 j hj
 | cons st ss ih =>
  intro A p g s hs hTL hA hb hg
  obtain ⟨op, x, c⟩ := st
  have ho : op ≤ 7 := hs (op, x, c) (List.mem_cons_self ..)
  have hs' : ∀ st, st ∈ ss → st.1 ≤ 7 := fun st h => hs st (List.mem_cons_of_mem _ h)
  have hTL1 : TL = A ++ (qsT op x c ++ (qfl ss ++ qtl)) := by
   rw [hTL]
   show A ++ ((qsT op x c ++ qfl ss) ++ qtl) = _
   rw [List.append_assoc]
  have hTL2 : TL = (A ++ qsT op x c) ++ (qfl ss ++ qtl) := by rw [hTL1, List.append_assoc]
  have hl2 : (A ++ qsT op x c).length = p + qln op := by rw [List.length_append, hA, qsl op ho]
  have hg' : g + 3 * (ss.length + 1) ≤ 200 := hg
  have tot : p + qln op ≤ 256 := by
   have := congrArg List.length hTL2
   rw [List.length_append, hl2] at this
   omega
  have at' := qat hTL1 hA
  by_cases n5 : op = 5
  ·subst n5
   have l14 : qln 5 = 14 := rfl
   rw [l14] at hl2 tot
   exact qitw (by omega) (by omega) at' hb fun u hu => ih _ (p + 14) (g + 3) u hs' hTL2 hl2 hu (by omega)
  ·obtain ⟨o1, o2, o3⟩ := qone (by omega) ho n5 at'
   refine qitn (v := 0) (p := p) (q := p + qln op) (by omega) (by decide) (by omega) hb.1 hb.2.2.1 (by rcases o2 with e | e | e <;> (rw [e]; decide)) (o1 s hb.1 hb.2.1 hb.2.2.1) ?_
   refine ih _ (p + qln op) (g + 1) _ hs' hTL2 hl2 (hb.to (by omega) fun k h1 h2 => ?_) (by omega)
   have := o3 (k - p) (by omega)
   rw [show p + (k - p) = k by omega] at this
   exact this

/-! the compiler -/
def qhd (n : Nat) : List (Int32 × Int32) := [(4, 0), (3, 0), (11, 0), (12, 0), (13, 0), (5, 0), (2, 0), (17, 0), (6, 0), (2, 1), (15, 0), (1, Int32.ofNat n), (16, 0), (17, 0)]
theorem qpp2 {P : Int32 × St → Prop} (s : St) (nx : ∀ t, qL t → (∀ j, gI t j = gI s j) → (∀ j k, qA t j k = if (3 ≤ j ∧ j ≤ 8) ∧ k < 4 then 0 else qA s j k) → qOk (fun N => f_parseProgram_57 N 0 t) P) : ∀ (m c : Nat) (t : St), c + m = 4 → qL t → (∀ j, gI t j = gI s j) → (∀ j k, qA t j k = if (3 ≤ j ∧ j ≤ 8) ∧ k < c then 0 else qA s j k) → qOk (fun N => f_parseProgram_2 N (Int32.ofNat c) t) P := by
 intro m
 induction m with
 | zero =>
  intro c t hc hL hI hA
  obtain rfl : c = 4 := by omega
  refine qOk.step (g := fun N => g_parseProgram_2 (f_parseProgram_2 N) N (Int32.ofNat 4) t) (fun N => rfl) ?_
  unfold g_parseProgram_2
  exact qOk.ite (fun z => absurd z (by decide)) fun _ => nx t hL hI hA
 | succ m ih =>
  intro c t hc hL hI hA
  refine qOk.step (g := fun N => g_parseProgram_2 (f_parseProgram_2 N) N (Int32.ofNat c) t) (fun N => rfl) ?_
  unfold g_parseProgram_2
  refine qOk.ite (fun _ => ?_) fun z => absurd ((ofN_ltL (m := 4) (by omega) (by decide)).mpr (by omega)) z
  refine qOk.wA (f := 3) hL c (ofN_int (by omega)) (show c < 4 by omega) fun t1 m1 => ?_
  refine qOk.wA (f := 5) m1.1 c (ofN_int (by omega)) (show c < 4 by omega) fun t2 m2 => ?_
  refine qOk.wA (f := 6) m2.1 c (ofN_int (by omega)) (show c < 4 by omega) fun t3 m3 => ?_
  refine qOk.wA (f := 7) m3.1 c (ofN_int (by omega)) (show c < 4 by omega) fun t4 m4 => ?_
  refine qOk.wA (f := 8) m4.1 c (ofN_int (by omega)) (show c < 4 by omega) fun t5 m5 => ?_
  refine qOk.wA (f := 4) m5.1 c (ofN_int (by omega)) (show c < 4 by omega) fun t6 m6 => ?_
  refine qOk.let ?_
  rw [ofN_succ]
  refine ih (c + 1) t6 (by omega) m6.1 (fun j => by rw [m6.2.1, m5.2.1, m4.2.1, m3.2.1, m2.2.1, m1.2.1, hI]) fun j k => ?_
  rw [m6.2.2, m5.2.2, m4.2.2, m3.2.2, m2.2.2, m1.2.2]
  unfold qu
  rw [hA]
  by_cases cj : 3 ≤ j ∧ j ≤ 8
  ·by_cases ck : k = c
   ·subst ck
    rw [if_pos (show (3 ≤ j ∧ j ≤ 8) ∧ k < k + 1 from ⟨cj, by omega⟩)]
    rcases (by omega : j = 3 ∨ j = 4 ∨ j = 5 ∨ j = 6 ∨ j = 7 ∨ j = 8) with rfl | rfl | rfl | rfl | rfl | rfl <;> simp
   ·rw [if_neg (fun z => ck z.2), if_neg (fun z => ck z.2), if_neg (fun z => ck z.2), if_neg (fun z => ck z.2), if_neg (fun z => ck z.2), if_neg (fun z => ck z.2)]
    by_cases d : k < c
    ·rw [if_pos ⟨cj, d⟩, if_pos ⟨cj, by omega⟩]
    ·rw [if_neg (fun z => d z.2), if_neg (fun z => by omega)]
  ·rw [if_neg (fun z => by omega), if_neg (fun z => by omega), if_neg (fun z => by omega), if_neg (fun z => by omega), if_neg (fun z => by omega), if_neg (fun z => by omega), if_neg (fun z => cj z.1), if_neg (fun z => cj z.1)]
theorem qpp57 {P : Int32 × St → Prop} (s : St) (h2 : 0 < gI s 2) (nx : ∀ t, qL t → (∀ j, gI t j = gI s j) → (∀ j k, qA t j k = if (12 ≤ j ∧ j ≤ 14) ∧ k < 256 then -1 else qA s j k) → qOk (fun N => f_parseProgram_104 N 1 t) P) : ∀ (m c : Nat) (t : St), c + m = 256 → qL t → (∀ j, gI t j = gI s j) → (∀ j k, qA t j k = if (12 ≤ j ∧ j ≤ 14) ∧ k < c then -1 else qA s j k) → qOk (fun N => f_parseProgram_57 N (Int32.ofNat c) t) P := by
 intro m
 induction m with
 | zero =>
  intro c t hc hL hI hA
  obtain rfl : c = 256 := by omega
  refine qOk.step (g := fun N => g_parseProgram_57 (f_parseProgram_57 N) N (Int32.ofNat 256) t) (fun N => rfl) ?_
  unfold g_parseProgram_57
  refine qOk.ite (fun z => absurd z (by decide)) fun _ => ?_
  exact qOk.ite (fun _ => nx t hL hI hA) fun z => absurd (by rw [hI]; exact h2) z
 | succ m ih =>
  intro c t hc hL hI hA
  refine qOk.step (g := fun N => g_parseProgram_57 (f_parseProgram_57 N) N (Int32.ofNat c) t) (fun N => rfl) ?_
  unfold g_parseProgram_57
  refine qOk.ite (fun _ => ?_) fun z => absurd ((ofN_ltL (m := 256) (by omega) (by decide)).mpr (by omega)) z
  refine qOk.wA (f := 12) hL c (ofN_int (by omega)) (show c < 256 by omega) fun t1 m1 => ?_
  refine qOk.wA (f := 13) m1.1 c (ofN_int (by omega)) (show c < 256 by omega) fun t2 m2 => ?_
  refine qOk.wA (f := 14) m2.1 c (ofN_int (by omega)) (show c < 256 by omega) fun t3 m3 => ?_
  refine qOk.let ?_
  rw [ofN_succ]
  refine ih (c + 1) t3 (by omega) m3.1 (fun j => by rw [m3.2.1, m2.2.1, m1.2.1, hI]) fun j k => ?_
  rw [m3.2.2, m2.2.2, m1.2.2]
  unfold qu
  rw [hA]
  by_cases cj : 12 ≤ j ∧ j ≤ 14
  ·by_cases ck : k = c
   ·subst ck
    rw [if_pos (show (12 ≤ j ∧ j ≤ 14) ∧ k < k + 1 from ⟨cj, by omega⟩)]
    rcases (by omega : j = 12 ∨ j = 13 ∨ j = 14) with rfl | rfl | rfl <;> simp
   ·rw [if_neg (fun z => ck z.2), if_neg (fun z => ck z.2), if_neg (fun z => ck z.2)]
    by_cases d : k < c
    ·rw [if_pos ⟨cj, d⟩, if_pos ⟨cj, by omega⟩]
    ·rw [if_neg (fun z => d z.2), if_neg (fun z => by omega)]
  ·rw [if_neg (fun z => by omega), if_neg (fun z => by omega), if_neg (fun z => by omega), if_neg (fun z => cj z.1), if_neg (fun z => cj z.1)]
/-- a new name -/
theorem qan {TL : List (Int32 × Int32)} {s : St} (h : qQ TL s) (h13 : gI s 13 = 0) {v : Nat} (hv : v < 2) (h6 : qA s 6 0 = Int32.ofNat v) (h9 : qA s 9 v = -1) (sz ar : Int32) (ha : ar = 0 ∨ ar = 1) : qOk (fun _ => f_addName (Int32.ofNat v) sz ar s) (fun t => qL t ∧ (∀ j, gI t j = gI s j) ∧ qA t = qu (qu (qu (qu (qu (qA s) 9 v (Int32.ofNat v)) 10 v ar) 11 v sz) 6 0 (Int32.ofNat (v + 1))) 7 0 (qA s 7 0 + sz)) := by
 have ev : Int32.ofNat v &&& 7 = Int32.ofNat v := by
  rcases (by omega : v = 0 ∨ v = 1) with rfl | rfl <;> decide
 have ei : ((0 : Int32) * 8 + Int32.ofNat v).toInt = v := by
  rcases (by omega : v = 0 ∨ v = 1) with rfl | rfl <;> decide
 have ea : ar &&& 1 = ar := by rcases ha with rfl | rfl <;> decide
 unfold f_addName
 refine qOk.ite (fun z => absurd z (qok h)) fun _ => ?_
 rw [h13, ev, ea]
 refine qOk.let ?_
 refine qOk.rA (f := 6) h.1.1 0 rfl (by decide) ?_
 rw [h6]
 refine qOk.rA (f := 9) h.1.1 v ei (show v < 32 by omega) ?_
 rw [h9]
 refine qOk.ite (fun _ => ?_) fun z => absurd (by decide) z
 refine qOk.ite (fun _ => ?_) fun z => absurd ((ofN_ltL (m := 8) (by omega) (by decide)).mpr (by omega)) z
 refine qOk.wA (f := 9) h.1.1 v ei (show v < 32 by omega) fun t1 m1 => ?_
 refine qOk.wA (f := 10) m1.1 v ei (show v < 32 by omega) fun t2 m2 => ?_
 have i2 : gI t2 13 = 0 := by rw [m2.2.1, m1.2.1]; exact h13
 rw [i2]
 refine qOk.wA (f := 11) m2.1 v ei (show v < 32 by omega) fun t3 m3 => ?_
 have i3 : gI t3 13 = 0 := by rw [m3.2.1]; exact i2
 rw [i3, ofN_succ]
 refine qOk.wA (f := 6) m3.1 0 rfl (by decide) fun t4 m4 => ?_
 have i4 : gI t4 13 = 0 := by rw [m4.2.1]; exact i3
 rw [i4]
 refine qOk.rA (f := 7) m4.1 0 rfl (by decide) ?_
 have a7 : qA t4 7 0 = qA s 7 0 := by
  rw [m4.2.2, qu1 _ _ _ _ (by decide), m3.2.2, qu1 _ _ _ _ (by decide), m2.2.2, qu1 _ _ _ _ (by decide), m1.2.2, qu1 _ _ _ _ (by decide)]
 rw [a7]
 refine qOk.wA (f := 7) m4.1 0 rfl (by decide) fun t5 m5 => ?_
 refine qOk.ret ⟨m5.1, fun j => by rw [m5.2.1, m4.2.1, m3.2.1, m2.2.1, m1.2.1], ?_⟩
 rw [m5.2.2, m4.2.2, m3.2.2, m2.2.2, m1.2.2]
theorem qQ.of {TL : List (Int32 × Int32)} {s t : St} (h : qQ TL s) (hL : qL t) (h2 : gI t 2 = gI s 2) (h12 : gI t 12 = gI s 12) (hA : ∀ j k, j < 2 → qA t j k = qA s j k) : qQ TL t := by
 refine ⟨⟨hL, h.1.2.1, h2.trans h.1.2.2.1, fun k hk => ?_⟩, h12.trans h.2⟩
 rw [hA 0 k (by decide), hA 1 k (by decide)]; exact h.1.2.2.2 k hk
theorem qdnm {TL : List (Int32 × Int32)} {s : St} (h : qQ TL s) {p : Nat} (hp : p ≤ 1000) (e : gI s 11 = Int32.ofNat p) (hk : qkd TL p = 2) {v : Nat} (hv : qvl TL p = Int32.ofNat v) (v2 : v < 2) : f_declName s = some (Int32.ofNat v, qto s (p + 1)) := by
 have ev : Int32.ofNat v &&& 7 = Int32.ofNat v := by
  rcases (by omega : v = 0 ∨ v = 1) with rfl | rfl <;> decide
 unfold f_declName
 rw [if_neg (qok h), e, qka h.1 p (by omega), Option.bind_some, if_pos hk, qva h.1 p (by omega), Option.bind_some, hv, ev]
 show some (Int32.ofNat v, sI s 11 (Int32.ofNat p + 1)) = _
 rw [ofN_succ]; rfl
/-- the declarations: the state behind them -/
theorem qdec {TL : List (Int32 × Int32)} {n : Nat} (hn : 1 ≤ n ∧ n ≤ 16) (hH : qAt TL 0 (qhd n)) (k14 : ¬ qkd TL 14 = 5 ∧ ¬ qkd TL 14 = 6) {s : St} (h : qQ TL s) (e : gI s 11 = Int32.ofNat 5) (h13 : gI s 13 = 0) (h6 : qA s 6 0 = 0) (h7 : qA s 7 0 = 0) (h90 : qA s 9 0 = -1) (h91 : qA s 9 1 = -1) : qOk (fun N => f_parseDecls N s) (fun t => qL t ∧ gI t 11 = Int32.ofNat 14 ∧ (∀ j, j ≠ 11 → gI t j = gI s j) ∧ qA t = qu (qu (qu (qu (qu (qu (qu (qu (qu (qu (qA s) 9 0 (Int32.ofNat 0)) 10 0 0) 11 0 1) 6 0 (Int32.ofNat (0 + 1))) 7 0 1) 9 1 (Int32.ofNat 1)) 10 1 1) 11 1 (Int32.ofNat n)) 6 0 (Int32.ofNat (1 + 1))) 7 0 (Int32.ofNat (1 + n))) := by
 have k : ∀ i, i < 14 → qkd TL i = ((qhd n).getD i (0, 0)).1 ∧ qvl TL i = ((qhd n).getD i (0, 0)).2 := fun i hi => by
  have := hH i hi
  rw [Nat.zero_add] at this
  exact this
 have k5 : qkd TL 5 = 5 := (k 5 (by decide)).1
 have k6 : qkd TL 6 = 2 := (k 6 (by decide)).1
 have k7 : qkd TL 7 = 17 := (k 7 (by decide)).1
 have k8 : qkd TL 8 = 6 := (k 8 (by decide)).1
 have k9 : qkd TL 9 = 2 := (k 9 (by decide)).1
 have k10 : qkd TL 10 = 15 := (k 10 (by decide)).1
 have k11 : qkd TL 11 = 1 := (k 11 (by decide)).1
 have k12 : qkd TL 12 = 16 := (k 12 (by decide)).1
 have k13 : qkd TL 13 = 17 := (k 13 (by decide)).1
 unfold f_parseDecls
 refine qOk.step (g := fun N => g_parseDecls_2 (f_parseDecls_2 N) N 0 s) (fun N => rfl) ?_
 unfold g_parseDecls_2 f_parseDecls_117
 rw [qnx e, e]
 refine qOk.ite (fun _ => ?_) fun z => absurd (by decide) z
 refine qOk.ite (fun z => absurd z (qok h)) fun _ => ?_
 refine qOk.eq (qka h.1 5 (by omega)) ?_
 rw [k5]
 refine qOk.ite (fun _ => ?_) fun z => absurd rfl z
 refine qOk.let ?_
 refine qOk.eq (qdnm (h.to 6) (p := 6) (by omega) rfl k6 (v := 0) (k 6 (by decide)).2 (by decide)) ?_
 rw [qtoto]
 refine qOk.bind (qan (h.to 7) h13 (v := 0) (by decide) h6 h90 1 0 (.inl rfl)) fun t1 m1 => ?_
 have A1 : qA t1 = qu (qu (qu (qu (qu (qA s) 9 0 (Int32.ofNat 0)) 10 0 0) 11 0 1) 6 0 (Int32.ofNat (0 + 1))) 7 0 1 := by
  rw [m1.2.2]
  show qu _ 7 0 (qA s 7 0 + 1) = _
  rw [h7]; rfl
 have I1 : ∀ j, j ≠ 11 → gI t1 j = gI s j := fun j hj => by
  rw [m1.2.1]
  unfold qto
  rw [gI_sI, if_neg hj]
 have Q1 : qQ TL t1 := h.of m1.1 (I1 2 (by decide)) (I1 12 (by decide)) fun j i hj => by
  rw [A1, qu1 _ _ _ _ (by omega), qu1 _ _ _ _ (by omega), qu1 _ _ _ _ (by omega), qu1 _ _ _ _ (by omega), qu1 _ _ _ _ (by omega)]
 have e1 : gI t1 11 = Int32.ofNat 7 := m1.2.1 11
 refine qOk.eq (qexp Q1 (p := 7) (by omega) e1 k7) ?_
 refine qOk.let ?_
 -- the array
 refine qOk.step (g := fun N => g_parseDecls_2 (f_parseDecls_2 N) N (0 + 1) (qto t1 8)) (fun N => rfl) ?_
 unfold g_parseDecls_2 f_parseDecls_117
 rw [qnx (s := qto t1 8) (p := 8) rfl, qtoto]
 refine qOk.ite (fun _ => ?_) fun z => absurd (by decide) z
 refine qOk.ite (fun z => absurd z (qok (Q1.to 8))) fun _ => ?_
 refine qOk.eq (qka (Q1.to 8).1 8 (by omega)) ?_
 rw [k8]
 refine qOk.ite (fun z => absurd z (by decide)) fun _ => ?_
 refine qOk.ite (fun _ => ?_) fun z => absurd rfl z
 refine qOk.let ?_
 refine qOk.eq (qdnm (Q1.to 9) (p := 9) (by omega) rfl k9 (v := 1) (k 9 (by decide)).2 (by decide)) ?_
 rw [qtoto]
 refine qOk.eq (qexp (Q1.to 10) (p := 10) (by omega) rfl k10) ?_
 rw [qtoto]
 have as : f_arrSize (qto t1 11) = some (Int32.ofNat n, qto t1 12) := by
  unfold f_arrSize
  rw [if_neg (qok (Q1.to 11)), show gI (qto t1 11) 11 = Int32.ofNat 11 from rfl, qka (Q1.to 11).1 11 (by omega), Option.bind_some, if_pos k11, qva (Q1.to 11).1 11 (by omega), Option.bind_some, show qvl TL 11 = Int32.ofNat n from (k 11 (by decide)).2, if_neg (fun z => by have := (ofN_ltL (m := 1) (by omega) (by decide)).mp z; omega), if_neg (fun z => by have := (ofN_gtL (m := 16) (by omega) (by decide)).mp z; omega)]
  show some (Int32.ofNat n, sI (qto t1 11) 11 (Int32.ofNat 11 + 1)) = _
  rw [ofN_succ]
  exact congrArg (fun z => some (Int32.ofNat n, z)) (qtoto t1 11 12)
 refine qOk.eq as ?_
 have a6 : qA t1 6 0 = Int32.ofNat 1 := by rw [A1, qu1 _ _ _ _ (by decide), qu0]
 have a9 : qA t1 9 1 = -1 := by rw [A1, qu1 _ _ _ _ (by decide), qu1 _ _ _ _ (by decide), qu1 _ _ _ _ (by decide), qu1 _ _ _ _ (by decide), qu2 _ _ _ _ (by decide)]; exact h91
 have a7 : qA t1 7 0 = 1 := by rw [A1, qu0]
 refine qOk.bind (qan (Q1.to 12) ((I1 13 (by decide)).trans h13) (v := 1) (by decide) a6 a9 (Int32.ofNat n) 1 (.inr rfl)) fun t2 m2 => ?_
 have A2 : qA t2 = qu (qu (qu (qu (qu (qu (qu (qu (qu (qu (qA s) 9 0 (Int32.ofNat 0)) 10 0 0) 11 0 1) 6 0 (Int32.ofNat (0 + 1))) 7 0 1) 9 1 (Int32.ofNat 1)) 10 1 1) 11 1 (Int32.ofNat n)) 6 0 (Int32.ofNat (1 + 1))) 7 0 (Int32.ofNat (1 + n)) := by
  rw [m2.2.2]
  show qu (qu (qu (qu (qu (qA t1) 9 1 (Int32.ofNat 1)) 10 1 1) 11 1 (Int32.ofNat n)) 6 0 (Int32.ofNat (1 + 1))) 7 0 (qA t1 7 0 + Int32.ofNat n) = _
  rw [a7, A1, show (1 : Int32) + Int32.ofNat n = Int32.ofNat (1 + n) from (Int32.ofNat_add 1 n).symm]
 have I2 : ∀ j, j ≠ 11 → gI t2 j = gI s j := fun j hj => by
  rw [m2.2.1]
  unfold qto
  rw [gI_sI, if_neg hj]; exact I1 j hj
 have Q2 : qQ TL t2 := Q1.of m2.1 ((I2 2 (by decide)).trans (I1 2 (by decide)).symm) ((I2 12 (by decide)).trans (I1 12 (by decide)).symm) fun j i hj => by
  rw [m2.2.2, qu1 _ _ _ _ (by omega), qu1 _ _ _ _ (by omega), qu1 _ _ _ _ (by omega), qu1 _ _ _ _ (by omega), qu1 _ _ _ _ (by omega)]; rfl
 have e2 : gI t2 11 = Int32.ofNat 12 := m2.2.1 11
 refine qOk.eq (qexp Q2 (p := 12) (by omega) e2 k12) ?_
 refine qOk.eq (qexp (Q2.to 13) (p := 13) (by omega) rfl k13) ?_
 rw [qtoto]
 refine qOk.let ?_
 refine qOk.step (g := fun N => g_parseDecls_2 (f_parseDecls_2 N) N (0 + 1 + 1) (qto t2 14)) (fun N => rfl) ?_
 unfold g_parseDecls_2
 refine qOk.ite (fun _ => ?_) fun z => absurd (by decide) z
 refine qOk.ite (fun z => absurd z (qok (Q2.to 14))) fun _ => ?_
 refine qOk.eq (qka (Q2.to 14).1 14 (by omega)) ?_
 refine qOk.ite (fun z => absurd z k14.1) fun _ => ?_
 refine qOk.ite (fun z => absurd z k14.2) fun _ => ?_
 refine qOk.ret ⟨m2.1, rfl, fun j hj => ?_, A2⟩
 unfold qto
 rw [gI_sI, if_neg hj]; exact I2 j hj

def qn9 (a : Nat → Nat → Int32) (c j k : Nat) : Int32 := if j = 9 ∧ k < c then -1 else if j = 10 ∧ k < c then 0 else a j k
def qtail (N : Nat) (s : St) : Option St :=
  (f_expect (11 : Int32) s).bind fun c5 =>
  (f_parseParams N c5).bind fun c6 =>
  (f_expect (12 : Int32) c6).bind fun c7 =>
  (f_expect (13 : Int32) c7).bind fun c8 =>
  (f_parseDecls N c8).bind fun c9 =>
  (wrA c9 8 0 (gI c9 11)).bind fun s10 =>
  (f_parseBody N s10).bind fun c11 =>
  some c11
theorem qp90 {P : St → Prop} (s : St) (nx : ∀ t, qL t → (∀ j, gI t j = gI s j) → (∀ j k, qA t j k = qn9 (qA s) 8 j k) → qOk (fun N => qtail N t) P) : ∀ (m c : Nat) (t : St), c + m = 8 → qL t → (∀ j, gI t j = gI s j) → (∀ j k, qA t j k = qn9 (qA s) c j k) → qOk (fun N => f_parseFunc_90 N 0 (Int32.ofNat c) t) P := by
 intro m
 induction m with
 | zero =>
  intro c t hc hL hI hA
  obtain rfl : c = 8 := by omega
  refine qOk.step (g := fun N => g_parseFunc_90 (f_parseFunc_90 N) N 0 (Int32.ofNat 8) t) (fun N => rfl) ?_
  unfold g_parseFunc_90
  exact qOk.ite (fun z => absurd z (by decide)) fun _ => nx t hL hI hA
 | succ m ih =>
  intro c t hc hL hI hA
  refine qOk.step (g := fun N => g_parseFunc_90 (f_parseFunc_90 N) N 0 (Int32.ofNat c) t) (fun N => rfl) ?_
  unfold g_parseFunc_90
  have z : (0 : Int32) * 8 + Int32.ofNat c = Int32.ofNat c := by rw [show (0 : Int32) * 8 = 0 from rfl, Int32.zero_add]
  rw [z]
  refine qOk.ite (fun _ => ?_) fun z => absurd ((ofN_ltL (m := 8) (by omega) (by decide)).mpr (by omega)) z
  refine qOk.wA (f := 9) hL c (ofN_int (by omega)) (show c < 32 by omega) fun t1 m1 => ?_
  refine qOk.wA (f := 10) m1.1 c (ofN_int (by omega)) (show c < 32 by omega) fun t2 m2 => ?_
  refine qOk.let ?_
  rw [ofN_succ]
  refine ih (c + 1) t2 (by omega) m2.1 (fun j => by rw [m2.2.1, m1.2.1, hI]) fun j k => ?_
  rw [m2.2.2, m1.2.2]
  unfold qu
  rw [hA]
  unfold qn9
  by_cases c9 : j = 9
  ·subst c9
   rw [if_neg (fun z => absurd z.1 (by decide))]
   by_cases d : k = c
   ·rw [if_pos ⟨rfl, d⟩, if_pos ⟨rfl, by omega⟩]
   ·rw [if_neg (fun z => d z.2)]
    by_cases y : k < c
    ·rw [if_pos ⟨rfl, y⟩, if_pos ⟨rfl, by omega⟩]
    ·rw [if_neg (fun z => y z.2), if_neg (fun z => absurd z.1 (by decide)), if_neg (fun z => by omega), if_neg (fun z => absurd z.1 (by decide))]
  ·rw [if_neg (c := j = 9 ∧ k = c) (fun z => c9 z.1), if_neg (c := j = 9 ∧ k < c) (fun z => c9 z.1), if_neg (c := j = 9 ∧ k < c + 1) (fun z => c9 z.1)]
   by_cases c10 : j = 10
   ·subst c10
    by_cases d : k = c
    ·rw [if_pos ⟨rfl, d⟩, if_pos ⟨rfl, by omega⟩]
    ·rw [if_neg (fun z => d z.2)]
     by_cases y : k < c
     ·rw [if_pos ⟨rfl, y⟩, if_pos ⟨rfl, by omega⟩]
     ·rw [if_neg (fun z => y z.2), if_neg (fun z => by omega)]
   ·rw [if_neg (fun z => c10 z.1), if_neg (fun z => c10 z.1), if_neg (fun z => c10 z.1)]
/-- the tables ahead of the body -/
def qE (n : Nat) (a : Nat → Nat → Int32) : Nat → Nat → Int32 := qu (qu (qu (qu (qu (qu (qu (qu (qu (qu (qu (qn9 (qu (qu a 3 0 1) 4 0 1) 8) 9 0 (Int32.ofNat 0)) 10 0 0) 11 0 1) 6 0 (Int32.ofNat (0 + 1))) 7 0 1) 9 1 (Int32.ofNat 1)) 10 1 1) 11 1 (Int32.ofNat n)) 6 0 (Int32.ofNat (1 + 1))) 7 0 (Int32.ofNat (1 + n))) 8 0 (Int32.ofNat 14)
theorem qpfn {TL : List (Int32 × Int32)} {n : Nat} (hn : 1 ≤ n ∧ n ≤ 16) {ss : List (Nat × Int32 × Int32)} (hs : ∀ st, st ∈ ss → st.1 ≤ 7) (hss : ss.length ≤ 16) (hTL : TL = qhd n ++ (qfl ss ++ qtl)) (k14 : ¬ qkd TL 14 = 5 ∧ ¬ qkd TL 14 = 6) {s : St} (h : qQ TL s) (e : gI s 11 = Int32.ofNat 0) (h3 : qA s 3 0 = 0) (h6 : qA s 6 0 = 0) (h7 : qA s 7 0 = 0) (h13 : ∀ k, k < 256 → qA s 13 k = -1) (h14 : ∀ k, k < 256 → qA s 14 k = -1) : qOk (fun N => f_parseFunc N s) (fun u => qQ TL u ∧ gI u 11 = Int32.ofNat TL.length ∧ qWh TL TL.length u ∧ (∀ j k, j ≠ 13 → j ≠ 14 → j ≠ 15 → qA u j k = qE n (qA s) j k) ∧ gI u 13 = 0 ∧ ∀ j, j ≠ 11 → j ≠ 13 → gI u j = gI s j) := by
 have hH : qAt TL 0 (qhd n) := qat (A := []) (B := qfl ss ++ qtl) hTL rfl
 have k : ∀ i, i < 14 → qkd TL i = ((qhd n).getD i (0, 0)).1 ∧ qvl TL i = ((qhd n).getD i (0, 0)).2 := fun i hi => by
  have := hH i hi
  rw [Nat.zero_add] at this
  exact this
 have k0 : qkd TL 0 = 4 := (k 0 (by decide)).1
 have k1 : qkd TL 1 = 3 := (k 1 (by decide)).1
 have k2 : qkd TL 2 = 11 := (k 2 (by decide)).1
 have k3 : qkd TL 3 = 12 := (k 3 (by decide)).1
 have k4 : qkd TL 4 = 13 := (k 4 (by decide)).1
 have no7 : ∀ i, i < 14 → ¬ qkd TL i = 7 := fun i hi => by
  rw [(k i hi).1]
  rcases (by omega : i = 0 ∨ i = 1 ∨ i = 2 ∨ i = 3 ∨ i = 4 ∨ i = 5 ∨ i = 6 ∨ i = 7 ∨ i = 8 ∨ i = 9 ∨ i = 10 ∨ i = 11 ∨ i = 12 ∨ i = 13) with rfl | rfl | rfl | rfl | rfl | rfl | rfl | rfl | rfl | rfl | rfl | rfl | rfl | rfl
  ·show ¬ (4 : Int32) = 7; decide
  ·show ¬ (3 : Int32) = 7; decide
  ·show ¬ (11 : Int32) = 7; decide
  ·show ¬ (12 : Int32) = 7; decide
  ·show ¬ (13 : Int32) = 7; decide
  ·show ¬ (5 : Int32) = 7; decide
  ·show ¬ (2 : Int32) = 7; decide
  ·show ¬ (17 : Int32) = 7; decide
  ·show ¬ (6 : Int32) = 7; decide
  ·show ¬ (2 : Int32) = 7; decide
  ·show ¬ (15 : Int32) = 7; decide
  ·show ¬ (1 : Int32) = 7; decide
  ·show ¬ (16 : Int32) = 7; decide
  ·show ¬ (17 : Int32) = 7; decide
 unfold f_parseFunc
 refine qOk.eq (qexp h (by omega) e k0) ?_
 refine qOk.ite (fun z => absurd z (qok (h.to 1))) fun _ => ?_
 refine qOk.eq (qka (h.to 1).1 1 (by omega)) ?_
 refine qOk.ite (fun _ => ?_) fun z => absurd k1 z
 refine qOk.eq (qva (h.to 1).1 1 (by omega)) ?_
 rw [show qvl TL 1 = 0 from (k 1 (by decide)).2]
 refine qOk.let ?_
 refine qOk.rA (f := 3) (h.to 1).1.1 0 (by decide) (by decide) ?_
 refine qOk.ite (fun _ => ?_) fun z => absurd h3 z
 refine qOk.wA (f := 3) (h.to 1).1.1 0 (by decide) (by decide) fun s1 m1 => ?_
 have e1 : gI s1 11 = Int32.ofNat 1 := m1.2.1 11
 refine qOk.wA (f := 4) m1.1 0 (by decide) (by decide) fun s2 m2 => ?_
 have e2 : gI s2 11 = Int32.ofNat 1 := (m2.2.1 11).trans e1
 refine qOk.let (qOk.let ?_)
 rw [qnx (s := sI s2 13 (0 &&& 3)) (p := 1) e2]
 have A2 : ∀ j i, qA (qto (sI s2 13 (0 &&& 3)) 2) j i = qu (qu (qA s) 3 0 1) 4 0 1 j i := fun j i => by
  show qA s2 j i = _
  rw [m2.2.2, m1.2.2, e1]; rfl
 have I2 : ∀ j, j ≠ 11 → j ≠ 13 → gI (qto (sI s2 13 (0 &&& 3)) 2) j = gI s j := fun j a b => by
  unfold qto
  rw [gI_sI, if_neg a, gI_sI, if_neg b, m2.2.1, m1.2.1]
  unfold qto
  rw [gI_sI, if_neg a]
 refine qp90 (qto (sI s2 13 (0 &&& 3)) 2) (fun t hL hI hA => ?_) 8 0 _ rfl m2.1 (fun _ => rfl) fun j i => by unfold qn9; rw [if_neg (fun z => by omega), if_neg (fun z => by omega)]
 have At : ∀ j i, qA t j i = qn9 (qu (qu (qA s) 3 0 1) 4 0 1) 8 j i := fun j i => by
  rw [hA]
  unfold qn9
  rw [A2]
 have It : ∀ j, j ≠ 11 → j ≠ 13 → gI t j = gI s j := fun j a b => (hI j).trans (I2 j a b)
 have Qt : qQ TL t := h.of hL (It 2 (by decide) (by decide)) (It 12 (by decide) (by decide)) fun j i hj => by
  rw [At]
  unfold qn9
  rw [if_neg (fun z => by omega), if_neg (fun z => by omega), qu1 _ _ _ _ (by omega), qu1 _ _ _ _ (by omega)]
 have et : gI t 11 = Int32.ofNat 2 := hI 11
 have t13 : gI t 13 = 0 := hI 13
 unfold qtail
 refine qOk.eq (qexp Qt (by omega) et k2) ?_
 have pp : ∀ N, f_parseParams N (qto t 3) = some (qto t 3) := fun N => by
  unfold f_parseParams f_parseParams_19
  rw [if_neg (qok (Qt.to 3)), show gI (qto t 3) 11 = Int32.ofNat 3 from rfl, qka (Qt.to 3).1 3 (by omega), Option.bind_some, if_neg (by rw [k3]; decide)]
 refine qOk.congr (g := fun N => (f_expect (12 : Int32) (qto t 3)).bind fun c7 => (f_expect (13 : Int32) c7).bind fun c8 => (f_parseDecls N c8).bind fun c9 => (wrA c9 8 0 (gI c9 11)).bind fun s10 => (f_parseBody N s10).bind fun c11 => some c11) (fun N => by rw [pp N]; rfl) ?_
 refine qOk.eq (qexp (Qt.to 3) (p := 3) (by omega) rfl k3) ?_
 rw [qtoto]
 refine qOk.eq (qexp (Qt.to 4) (p := 4) (by omega) rfl k4) ?_
 rw [qtoto]
 have g6 : qA t 6 0 = 0 := by rw [At]; unfold qn9; rw [if_neg (by decide), if_neg (by decide), qu1 _ _ _ _ (by decide), qu1 _ _ _ _ (by decide)]; exact h6
 have g7 : qA t 7 0 = 0 := by rw [At]; unfold qn9; rw [if_neg (by decide), if_neg (by decide), qu1 _ _ _ _ (by decide), qu1 _ _ _ _ (by decide)]; exact h7
 have g90 : qA t 9 0 = -1 := by rw [At]; unfold qn9; rw [if_pos (by decide)]
 have g91 : qA t 9 1 = -1 := by rw [At]; unfold qn9; rw [if_pos (by decide)]
 refine qOk.bind (qdec hn hH k14 (Qt.to 5) rfl t13 g6 g7 g90 g91) fun v mv => ?_
 obtain ⟨vL, v11, vI, vA⟩ := mv
 refine qOk.wA (f := 8) vL 0 rfl (by decide) fun w mw => ?_
 have Aw : qA w = qE n (qA s) := by
  rw [mw.2.2, vA, v11]
  have : qA (qto t 5) = qn9 (qu (qu (qA s) 3 0 1) 4 0 1) 8 := by
   funext j i
   exact At j i
  rw [this]; rfl
 have Iw : ∀ j, j ≠ 11 → j ≠ 13 → gI w j = gI s j := fun j a b => by
  rw [mw.2.1, vI j a]
  unfold qto
  rw [gI_sI, if_neg a]; exact It j a b
 have w13 : gI w 13 = 0 := by
  rw [mw.2.1, vI 13 (by decide)]; exact t13
 have E01 : ∀ j i, j < 2 → qE n (qA s) j i = qA s j i := fun j i hj => by
  unfold qE qn9
  rw [qu1 _ _ _ _ (by omega), qu1 _ _ _ _ (by omega), qu1 _ _ _ _ (by omega), qu1 _ _ _ _ (by omega), qu1 _ _ _ _ (by omega), qu1 _ _ _ _ (by omega), qu1 _ _ _ _ (by omega), qu1 _ _ _ _ (by omega), qu1 _ _ _ _ (by omega), qu1 _ _ _ _ (by omega), qu1 _ _ _ _ (by omega), if_neg (fun z => by omega), if_neg (fun z => by omega), qu1 _ _ _ _ (by omega), qu1 _ _ _ _ (by omega)]
 have E12 : ∀ j i, 12 ≤ j → qE n (qA s) j i = qA s j i := fun j i hj => by
  unfold qE qn9
  rw [qu1 _ _ _ _ (by omega), qu1 _ _ _ _ (by omega), qu1 _ _ _ _ (by omega), qu1 _ _ _ _ (by omega), qu1 _ _ _ _ (by omega), qu1 _ _ _ _ (by omega), qu1 _ _ _ _ (by omega), qu1 _ _ _ _ (by omega), qu1 _ _ _ _ (by omega), qu1 _ _ _ _ (by omega), qu1 _ _ _ _ (by omega), if_neg (fun z => by omega), if_neg (fun z => by omega), qu1 _ _ _ _ (by omega), qu1 _ _ _ _ (by omega)]
 have Qw : qQ TL w := h.of mw.1 (Iw 2 (by decide) (by decide)) (Iw 12 (by decide) (by decide)) fun j i hj => by rw [Aw]; exact E01 j i hj
 have w11 : gI w 11 = Int32.ofNat 14 := (mw.2.1 11).trans v11
 have Nw : qNm w := ⟨w13, by rw [Aw]; rfl, by rw [Aw]; rfl, by rw [Aw]; rfl⟩
 have Ww : qWh TL 14 w := by
  refine ⟨fun i hi => ?_, fun i hi => ?_, fun i hi ei => absurd ei (no7 i hi)⟩
  ·rw [Aw, E12 13 i (by decide), h13 i hi, if_neg (fun z => no7 i z.2 z.1)]
  ·rw [Aw, E12 14 i (by decide), h14 i hi, if_neg (fun z => no7 _ z.2.2 z.2.1)]
 unfold f_parseBody
 refine qOk.bind (qbody (s0 := w) h.1.2.1 ss (qhd n) 14 0 w hs hTL rfl ⟨Qw, Nw, w11, Ww, fun _ _ _ _ _ => rfl, fun _ _ => rfl⟩ (by omega)) fun u hu => qOk.ret ?_
 obtain ⟨u1, u2, u3, u4, u5⟩ := hu
 refine ⟨u1, u3, u4, fun j i a b c => ?_, u2.1, fun j a b => (u5.2 j a).trans (Iw j a b)⟩
 rw [u5.1 j i a b c, Aw]
/-! the tables in the end -/
def qtf (TL : List (Int32 × Int32)) (n j k : Nat) : Int32 :=
 if j = 0 then qkd TL k else if j = 1 then qvl TL k else if j = 3 then (if k = 0 then 1 else 0) else if j = 4 then (if k = 0 then 1 else 0) else if j = 5 then 0 else if j = 6 then (if k = 0 then 2 else 0) else if j = 7 then (if k = 0 then Int32.ofNat (1 + n) else 0) else if j = 8 then (if k = 0 then 14 else 0) else if j = 9 then (if k = 0 then 0 else if k = 1 then 1 else if k < 8 then -1 else 0) else if j = 10 then (if k = 1 then 1 else 0) else if j = 11 then (if k = 0 then 1 else if k = 1 then Int32.ofNat n else 0) else if j = 12 then -1 else if j = 13 then (if qkd TL k = 7 then Int32.ofNat (k + 13) else -1) else (if 13 ≤ k ∧ qkd TL (k - 13) = 7 then Int32.ofNat (k - 13) else -1)
def qT (TL : List (Int32 × Int32)) (n j : Nat) : List Int32 := (List.range (qlens.getD j 0)).map (qtf TL n j)
def qcc (TL : List (Int32 × Int32)) (j : Nat) : Int32 := if j = 0 then 16 else if j = 1 then 2 else if j = 2 then Int32.ofNat TL.length else if j = 3 then 1 else if j = 11 then Int32.ofNat TL.length else if j = 12 then 1 else 0
theorem qTg (TL : List (Int32 × Int32)) (n : Nat) {j k : Nat} (hk : k < qlens.getD j 0) : (qT TL n j)[k]? = some (qtf TL n j k) := by
 unfold qT
 rw [List.getElem?_map, List.getElem?_range hk]; rfl
def qPc (TL : List (Int32 × Int32)) (n : Nat) (s : St) : Prop := qTk TL s ∧ gI s 0 = 16 ∧ gI s 1 = 2 ∧ qZt n s ∧ (∀ k, 8 ≤ k → k < 32 → qA s 9 k = 0 ∧ qA s 10 k = 0) ∧ ∀ k, 2 ≤ k → k < 32 → qA s 11 k = 0
theorem qAT {s : St} {x : Int32} {j k : Nat} (h : (gA s j)[k]? = some x) : qA s j k = x := by
 unfold qA
 rw [List.getD_eq_getElem?_getD, h]; rfl
theorem qCs.pc {TL : List (Int32 × Int32)} {n : Nat} {s : St} (hl : TL.length ≤ 256) (h : qCs n (qT TL n) (qcc TL) s) : qPc TL n s := by
 obtain ⟨h1, h2, h3, h4⟩ := h
 have g : ∀ j k, j < 15 → j ≠ 2 → k < qlens.getD j 0 → qA s j k = qtf TL n j k := fun j k a b c => qAT (by rw [h2 j a b]; exact qTg TL n c)
 refine ⟨⟨h1, hl, h3 2 (by decide), fun k hk => ⟨g 0 k (by decide) (by decide) hk, g 1 k (by decide) (by decide) hk⟩⟩, h3 0 (by decide), h3 1 (by decide), h4, fun k a b => ⟨?_, ?_⟩, fun k a b => ?_⟩
 ·rw [g 9 k (by decide) (by decide) b]
  show (if k = 0 then (0 : Int32) else if k = 1 then 1 else if k < 8 then -1 else 0) = 0
  rw [if_neg (by omega), if_neg (by omega), if_neg (by omega)]
 ·rw [g 10 k (by decide) (by decide) b]
  show (if k = 1 then (1 : Int32) else 0) = 0
  rw [if_neg (by omega)]
 ·rw [g 11 k (by decide) (by decide) b]
  show (if k = 0 then (1 : Int32) else if k = 1 then Int32.ofNat n else 0) = 0
  rw [if_neg (by omega), if_neg (by omega)]
theorem qTt' (TL : List (Int32 × Int32)) {n : Nat} (hn : 1 ≤ n ∧ n ≤ 16) : qTt n (qT TL n) (qcc TL) := ⟨hn, rfl, rfl, qTg TL n (by decide), qTg TL n (by decide), qTg TL n (by decide), qTg TL n (by decide), qTg TL n (by decide), qTg TL n (by decide), qTg TL n (by decide)⟩

theorem qhd7 (op : Nat) (x c : Int32) : ¬ ((qsT op x c).getD 0 (0, 0)).1 = 5 ∧ ¬ ((qsT op x c).getD 0 (0, 0)).1 = 6 := by
 unfold qsT
 split
 ·show ¬ (10 : Int32) = 5 ∧ ¬ (10 : Int32) = 6; decide
 ·show ¬ (2 : Int32) = 5 ∧ ¬ (2 : Int32) = 6; decide
 ·show ¬ (2 : Int32) = 5 ∧ ¬ (2 : Int32) = 6; decide
 ·show ¬ (10 : Int32) = 5 ∧ ¬ (10 : Int32) = 6; decide
 ·show ¬ (2 : Int32) = 5 ∧ ¬ (2 : Int32) = 6; decide
 ·show ¬ (7 : Int32) = 5 ∧ ¬ (7 : Int32) = 6; decide
 ·show ¬ (22 : Int32) = 5 ∧ ¬ (22 : Int32) = 6; decide
 ·show ¬ (10 : Int32) = 5 ∧ ¬ (10 : Int32) = 6; decide
theorem qk14 {TL : List (Int32 × Int32)} {n : Nat} {ss : List (Nat × Int32 × Int32)} (hs : ∀ st, st ∈ ss → st.1 ≤ 7) (hTL : TL = qhd n ++ (qfl ss ++ qtl)) : ¬ qkd TL 14 = 5 ∧ ¬ qkd TL 14 = 6 := by
 subst hTL
 unfold qkd
 have e : (qhd n ++ (qfl ss ++ qtl)).getD 14 (0, 0) = (qfl ss ++ qtl).getD 0 (0, 0) := qgr (qhd n) _ 0 _
 rw [e]
 cases ss with
 | nil => exact ⟨by show ¬ (9 : Int32) = 5; decide, by show ¬ (9 : Int32) = 6; decide⟩
 | cons st ss =>
  obtain ⟨op, x, c⟩ := st
  have e2 : (qfl ((op, x, c) :: ss) ++ qtl).getD 0 (0, 0) = (qsT op x c).getD 0 (0, 0) := by
   show ((qsT op x c ++ qfl ss) ++ qtl).getD 0 (0, 0) = _
   rw [List.append_assoc]
   have ho : op ≤ 7 := hs (op, x, c) (List.mem_cons_self ..)
   refine qgl _ _ ?_ _
   rw [qsl op ho]
   unfold qln
   split
   ·decide
   split
   ·decide
   split
   ·decide
   split
   ·decide
   split
   ·decide
   split
   ·decide
   split <;> decide
  rw [e2]
  exact qhd7 op x c
theorem qcmp {TL : List (Int32 × Int32)} {n : Nat} (hn : 1 ≤ n ∧ n ≤ 16) {ss : List (Nat × Int32 × Int32)} (hs : ∀ st, st ∈ ss → st.1 ≤ 7) (hss : ss.length ≤ 16) (hTL : TL = qhd n ++ (qfl ss ++ qtl)) {s : St} (h : qPc TL n s) : qOk (fun N => f_compile N s) (fun r => r.1 = 1 ∧ qCs n (qT TL n) (qcc TL) r.2 ∧ gI r.2 4 = -1 ∧ ∀ k, qkd TL k = 7 → k + 14 ≤ TL.length) := by
 obtain ⟨hTk, h0, h1, hZ, ht9, ht11⟩ := h
 obtain ⟨hL, hlen, h2, hA⟩ := id hTk
 have len1 : 14 ≤ TL.length := by rw [hTL, List.length_append]; exact Nat.le_add_right 14 _
 unfold f_compile
 refine qOk.eq (c := qcl s) rfl ?_
 refine qOk.bind (Q := fun r => r.1 = 1 ∧ qCs n (qT TL n) (qcc TL) (sI r.2 3 1) ∧ gI r.2 4 = -1 ∧ ∀ k, qkd TL k = 7 → k + 14 ≤ TL.length) ?_ fun r hr => ?_
 rotate_left
 ·obtain ⟨r1, r2, r3, r4⟩ := hr
  refine qOk.let (qOk.ret ⟨?_, ?_, r3, r4⟩)
  ·show (r.1 &&& 1) &&& 1 = 1
   rw [r1]; decide
  ·show qCs n (qT TL n) (qcc TL) (sI r.2 3 (r.1 &&& 1))
   rw [r1]; exact r2
 unfold f_parseProgram
 have clI : ∀ j, j < 4 ∨ 11 ≤ j → gI (qcl s) j = gI s j := fun j hj => by
  unfold qcl
  rw [gI_sI, if_neg (by omega), gI_sI, if_neg (by omega), gI_sI, if_neg (by omega), gI_sI, if_neg (by omega), gI_sI, if_neg (by omega), gI_sI, if_neg (by omega), gI_sI, if_neg (by omega)]
 refine qpp2 (qcl s) (fun t1 L1 I1 A1 => ?_) 4 0 (qcl s) rfl hL (fun _ => rfl) fun j k => by rw [if_neg (fun z => by omega)]
 refine qpp57 t1 ?_ (fun t2 L2 I2 A2 => ?_) 256 0 t1 rfl L1 (fun _ => rfl) fun j k => by rw [if_neg (fun z => by omega)]
 ·rw [I1, clI 2 (by decide), h2]
  exact (ofN_gtL (m := 0) (by omega) (by decide)).mpr (by omega)
 have Ao : ∀ j k, qA t2 j k = if (12 ≤ j ∧ j ≤ 14) ∧ k < 256 then -1 else if (3 ≤ j ∧ j ≤ 8) ∧ k < 4 then 0 else qA s j k := fun j k => by rw [A2, A1]; rfl
 have Io : ∀ j, j < 4 ∨ 11 ≤ j → gI t2 j = gI s j := fun j hj => by rw [I2, I1, clI j hj]
 unfold f_parseProgram_104
 refine qOk.let (qOk.let ?_)
 have e12 : (1 : Int32) &&& 1 = 1 := by decide
 rw [e12]
 have Q3 : qQ TL (sI (sI t2 12 1) 11 0) := by
  refine ⟨⟨L2, hlen, (Io 2 (by decide)).trans h2, fun k hk => ?_⟩, rfl⟩
  show qA t2 0 k = _ ∧ qA t2 1 k = _
  rw [Ao, Ao, if_neg (fun z => by omega), if_neg (fun z => by omega), if_neg (fun z => by omega), if_neg (fun z => by omega)]
  exact hA k hk
 have I3 : ∀ j, j ≠ 11 → j ≠ 12 → (j < 4 ∨ 11 ≤ j) → gI (sI (sI t2 12 1) 11 0) j = gI s j := fun j a b c => by rw [gI_sI, if_neg a, gI_sI, if_neg b]; exact Io j c
 refine qOk.step (g := fun N => g_parseProgram_114 (f_parseProgram_114 N) N 0 (sI (sI t2 12 1) 11 0)) (fun N => rfl) ?_
 unfold g_parseProgram_114
 refine qOk.ite (fun _ => ?_) fun z => absurd (by decide) z
 refine qOk.ite (fun z => absurd z (qok Q3)) fun _ => ?_
 refine qOk.ite (fun _ => ?_) fun z => absurd (by rw [Q3.1.2.2.1]; exact (ofN_gtL (m := 0) (by omega) (by decide)).mpr (by omega)) z
 refine qOk.bind (qpfn hn hs hss hTL (qk14 hs hTL) Q3 rfl ?_ ?_ ?_ (fun k hk => ?_) fun k hk => ?_) fun u hu => ?_
 ·show qA t2 3 0 = 0
  rw [Ao]; rfl
 ·show qA t2 6 0 = 0
  rw [Ao]; rfl
 ·show qA t2 7 0 = 0
  rw [Ao]; rfl
 ·show qA t2 13 k = -1
  rw [Ao, if_pos ⟨by decide, hk⟩]
 ·show qA t2 14 k = -1
  rw [Ao, if_pos ⟨by decide, hk⟩]
 obtain ⟨uQ, u11, uW, uA, u13, uI⟩ := hu
 have uA : ∀ j k, j ≠ 13 → j ≠ 14 → j ≠ 15 → qA u j k = qE n (qA t2) j k := uA
 refine qOk.let ?_
 refine qOk.step (g := fun N => g_parseProgram_114 (f_parseProgram_114 N) N (0 + 1) u) (fun N => rfl) ?_
 unfold g_parseProgram_114 f_parseProgram_148
 refine qOk.ite (fun _ => ?_) fun z => absurd (by decide) z
 refine qOk.ite (fun z => absurd z (qok uQ)) fun _ => ?_
 refine qOk.ite (fun z => by rw [u11, uQ.1.2.2.1, x32_lt] at z; omega) fun _ => ?_
 refine qOk.ite (fun z => absurd z (qok uQ)) fun _ => ?_
 refine qOk.ite (fun _ => ?_) fun z => absurd (u11.trans uQ.1.2.2.1.symm) z
 refine qOk.rA (f := 3) uQ.1.1 0 rfl (by decide) ?_
 refine qOk.ite (fun z => by rw [uA 3 0 (by decide) (by decide) (by decide)] at z; exact absurd (show (1 : Int32) = 0 from z) (by decide)) fun _ => ?_
 refine qOk.rA (f := 5) uQ.1.1 0 rfl (by decide) ?_
 have v5 : qA u 5 0 = 0 := by
  rw [uA 5 0 (by decide) (by decide) (by decide)]
  show qA t2 5 0 = 0
  rw [Ao]; rfl
 refine qOk.ite (fun _ => ?_) fun z => absurd v5 z
 have cc : ∀ (m k : Nat), k + m = TL.length → qOk (fun N => f_checkCalls_2 N (Int32.ofNat k) u) (· = 1) := by
  intro m
  induction m with
  | zero =>
   intro k hk
   refine qOk.step (g := fun N => g_checkCalls_2 (f_checkCalls_2 N) N (Int32.ofNat k) u) (fun N => rfl) ?_
   unfold g_checkCalls_2
   rw [uQ.1.2.2.1]
   exact qOk.ite (fun z => by have := (ofN_lt (by omega) (by omega)).mp z; omega) fun _ => qOk.ret rfl
  | succ m ih =>
   intro k hk
   refine qOk.step (g := fun N => g_checkCalls_2 (f_checkCalls_2 N) N (Int32.ofNat k) u) (fun N => rfl) ?_
   unfold g_checkCalls_2 f_checkCalls_54
   rw [uQ.1.2.2.1]
   refine qOk.ite (fun _ => ?_) fun z => absurd ((ofN_lt (by omega) (by omega)).mpr (by omega)) z
   refine qOk.rA (f := 12) uQ.1.1 k (ofN_int (by omega)) (show k < 256 by omega) ?_
   have v12 : qA u 12 k = -1 := by
    rw [uA 12 k (by decide) (by decide) (by decide)]
    show qA t2 12 k = -1
    rw [Ao, if_pos ⟨by decide, by omega⟩]
   rw [v12]
   refine qOk.ite (fun _ => qOk.let ?_) fun z => absurd (by decide) z
   rw [ofN_succ]
   exact ih (k + 1) (by omega)
 refine qOk.bind (Q := (· = 1)) ?_ fun c hc => ?_
 ·unfold f_checkCalls
  exact cc TL.length 0 (by omega)
 subst hc
 have w7 : ∀ k, qkd TL k = 7 → k < TL.length := fun k e => by
  by_cases c : k < TL.length
  ·exact c
  ·rw [(qkz (by omega)).1] at e
   exact absurd e (by decide)
 refine qOk.ret ⟨by show (1 : Int32) &&& 1 = 1; decide, ⟨uQ.1.1, fun j a b => ?_, fun j hj => ?_, fun j k a b c d => ?_, fun j k a b c d => ?_, fun j k a b c d => ?_⟩, ?_, fun k e => uW.2.2 k (w7 k e) e⟩
 ·show gA u j = qT TL n j
  refine (qext (m := qlens.getD j 0) (uQ.1.1 j) (by unfold qT; rw [List.length_map, List.length_range]) fun k hk => ?_).symm
  rw [qTg TL n hk, qAg uQ.1.1 hk]
  congr 1
  rcases (by omega : j = 0 ∨ j = 1 ∨ j = 3 ∨ j = 4 ∨ j = 5 ∨ j = 6 ∨ j = 7 ∨ j = 8 ∨ j = 9 ∨ j = 10 ∨ j = 11 ∨ j = 12 ∨ j = 13 ∨ j = 14) with rfl | rfl | rfl | rfl | rfl | rfl | rfl | rfl | rfl | rfl | rfl | rfl | rfl | rfl
  ·exact (uQ.1.2.2.2 k hk).1.symm
  ·exact (uQ.1.2.2.2 k hk).2.symm
  ·have hk : k < 4 := hk
   rw [uA 3 k (by decide) (by decide) (by decide)]
   rcases (by omega : k = 0 ∨ k = 1 ∨ k = 2 ∨ k = 3) with rfl | rfl | rfl | rfl
   ·rfl
   ·show (0 : Int32) = qA t2 3 1; rw [Ao]; rfl
   ·show (0 : Int32) = qA t2 3 2; rw [Ao]; rfl
   ·show (0 : Int32) = qA t2 3 3; rw [Ao]; rfl
  ·have hk : k < 4 := hk
   rw [uA 4 k (by decide) (by decide) (by decide)]
   rcases (by omega : k = 0 ∨ k = 1 ∨ k = 2 ∨ k = 3) with rfl | rfl | rfl | rfl
   ·rfl
   ·show (0 : Int32) = qA t2 4 1; rw [Ao]; rfl
   ·show (0 : Int32) = qA t2 4 2; rw [Ao]; rfl
   ·show (0 : Int32) = qA t2 4 3; rw [Ao]; rfl
  ·have hk : k < 4 := hk
   rw [uA 5 k (by decide) (by decide) (by decide)]
   rcases (by omega : k = 0 ∨ k = 1 ∨ k = 2 ∨ k = 3) with rfl | rfl | rfl | rfl
   ·show (0 : Int32) = qA t2 5 0; rw [Ao]; rfl
   ·show (0 : Int32) = qA t2 5 1; rw [Ao]; rfl
   ·show (0 : Int32) = qA t2 5 2; rw [Ao]; rfl
   ·show (0 : Int32) = qA t2 5 3; rw [Ao]; rfl
  ·have hk : k < 4 := hk
   rw [uA 6 k (by decide) (by decide) (by decide)]
   rcases (by omega : k = 0 ∨ k = 1 ∨ k = 2 ∨ k = 3) with rfl | rfl | rfl | rfl
   ·rfl
   ·show (0 : Int32) = qA t2 6 1; rw [Ao]; rfl
   ·show (0 : Int32) = qA t2 6 2; rw [Ao]; rfl
   ·show (0 : Int32) = qA t2 6 3; rw [Ao]; rfl
  ·have hk : k < 4 := hk
   rw [uA 7 k (by decide) (by decide) (by decide)]
   rcases (by omega : k = 0 ∨ k = 1 ∨ k = 2 ∨ k = 3) with rfl | rfl | rfl | rfl
   ·rfl
   ·show (0 : Int32) = qA t2 7 1; rw [Ao]; rfl
   ·show (0 : Int32) = qA t2 7 2; rw [Ao]; rfl
   ·show (0 : Int32) = qA t2 7 3; rw [Ao]; rfl
  ·have hk : k < 4 := hk
   rw [uA 8 k (by decide) (by decide) (by decide)]
   rcases (by omega : k = 0 ∨ k = 1 ∨ k = 2 ∨ k = 3) with rfl | rfl | rfl | rfl
   ·rfl
   ·show (0 : Int32) = qA t2 8 1; rw [Ao]; rfl
   ·show (0 : Int32) = qA t2 8 2; rw [Ao]; rfl
   ·show (0 : Int32) = qA t2 8 3; rw [Ao]; rfl
  ·have hk : k < 32 := hk
   rw [uA 9 k (by decide) (by decide) (by decide)]
   show (if k = 0 then (0 : Int32) else if k = 1 then 1 else if k < 8 then -1 else 0) = _
   by_cases c0 : k = 0
   ·subst c0; rfl
   by_cases c1 : k = 1
   ·subst c1; rfl
   rw [if_neg c0, if_neg c1]
   unfold qE
   rw [qu1 _ _ _ _ (by decide), qu1 _ _ _ _ (by decide), qu1 _ _ _ _ (by decide), qu1 _ _ _ _ (by decide), qu1 _ _ _ _ (by decide), qu2 _ _ _ _ c1, qu1 _ _ _ _ (by decide), qu1 _ _ _ _ (by decide), qu1 _ _ _ _ (by decide), qu1 _ _ _ _ (by decide), qu2 _ _ _ _ c0]
   unfold qn9
   by_cases c8 : k < 8
   ·rw [if_pos c8, if_pos ⟨rfl, c8⟩]
   ·rw [if_neg c8, if_neg (fun z => c8 z.2), if_neg (fun z => c8 z.2), qu1 _ _ _ _ (by decide), qu1 _ _ _ _ (by decide), Ao, if_neg (by omega), if_neg (by omega)]
    exact (ht9 k (by omega) hk).1.symm
  ·have hk : k < 32 := hk
   rw [uA 10 k (by decide) (by decide) (by decide)]
   show (if k = 1 then (1 : Int32) else 0) = _
   by_cases c0 : k = 0
   ·subst c0; rfl
   by_cases c1 : k = 1
   ·subst c1; rfl
   rw [if_neg c1]
   unfold qE
   rw [qu1 _ _ _ _ (by decide), qu1 _ _ _ _ (by decide), qu1 _ _ _ _ (by decide), qu1 _ _ _ _ (by decide), qu2 _ _ _ _ c1, qu1 _ _ _ _ (by decide), qu1 _ _ _ _ (by decide), qu1 _ _ _ _ (by decide), qu1 _ _ _ _ (by decide), qu2 _ _ _ _ c0, qu1 _ _ _ _ (by decide)]
   unfold qn9
   rw [if_neg (by omega)]
   by_cases c8 : k < 8
   ·rw [if_pos ⟨rfl, c8⟩]
   ·rw [if_neg (fun z => c8 z.2), qu1 _ _ _ _ (by decide), qu1 _ _ _ _ (by decide), Ao, if_neg (by omega), if_neg (by omega)]
    exact (ht9 k (by omega) hk).2.symm
  ·have hk : k < 32 := hk
   rw [uA 11 k (by decide) (by decide) (by decide)]
   show (if k = 0 then (1 : Int32) else if k = 1 then Int32.ofNat n else 0) = _
   by_cases c0 : k = 0
   ·subst c0; rfl
   by_cases c1 : k = 1
   ·subst c1; rfl
   rw [if_neg c0, if_neg c1]
   unfold qE
   rw [qu1 _ _ _ _ (by decide), qu1 _ _ _ _ (by decide), qu1 _ _ _ _ (by decide), qu2 _ _ _ _ c1, qu1 _ _ _ _ (by decide), qu1 _ _ _ _ (by decide), qu1 _ _ _ _ (by decide), qu1 _ _ _ _ (by decide), qu2 _ _ _ _ c0, qu1 _ _ _ _ (by decide), qu1 _ _ _ _ (by decide)]
   unfold qn9
   rw [if_neg (by omega), if_neg (by omega), qu1 _ _ _ _ (by decide), qu1 _ _ _ _ (by decide), Ao, if_neg (by omega), if_neg (by omega)]
   exact (ht11 k (by omega) hk).symm
  ·have hk : k < 256 := hk
   rw [uA 12 k (by decide) (by decide) (by decide)]
   show (-1 : Int32) = qA t2 12 k
   rw [Ao, if_pos ⟨by decide, hk⟩]
  ·have hk : k < 256 := hk
   rw [uW.1 k hk]
   show (if qkd TL k = 7 then Int32.ofNat (k + 13) else (-1 : Int32)) = _
   by_cases c : qkd TL k = 7
   ·rw [if_pos c, if_pos ⟨c, w7 k c⟩]
   ·rw [if_neg c, if_neg (fun z => c z.1)]
  ·have hk : k < 256 := hk
   rw [uW.2.1 k hk]
   show (if 13 ≤ k ∧ qkd TL (k - 13) = 7 then Int32.ofNat (k - 13) else (-1 : Int32)) = _
   by_cases c : 13 ≤ k ∧ qkd TL (k - 13) = 7
   ·rw [if_pos c, if_pos ⟨c.1, c.2, w7 _ c.2⟩]
   ·rw [if_neg c, if_neg (fun z => c ⟨z.1, z.2.1⟩)]
 ·rcases (by omega : j = 0 ∨ j = 1 ∨ j = 2 ∨ j = 3 ∨ j = 11 ∨ j = 12 ∨ j = 13) with rfl | rfl | rfl | rfl | rfl | rfl | rfl
  ·exact (uI 0 (by decide) (by decide)).trans ((I3 0 (by decide) (by decide) (by decide)).trans h0)
  ·exact (uI 1 (by decide) (by decide)).trans ((I3 1 (by decide) (by decide) (by decide)).trans h1)
  ·exact uQ.1.2.2.1
  ·rfl
  ·exact u11
  ·exact uQ.2
  ·exact u13
 ·show (gA u j)[k]? = some 0
  have hk : k < qlens.getD j 0 := by
   rcases (by omega : j = 16 ∨ j = 17 ∨ j = 18) with rfl | rfl | rfl <;> exact d
  rw [qAg uQ.1.1 hk, uA j k (by omega) (by omega) (by omega)]
  congr 1
  unfold qE qn9
  rw [qu1 _ _ _ _ (by omega), qu1 _ _ _ _ (by omega), qu1 _ _ _ _ (by omega), qu1 _ _ _ _ (by omega), qu1 _ _ _ _ (by omega), qu1 _ _ _ _ (by omega), qu1 _ _ _ _ (by omega), qu1 _ _ _ _ (by omega), qu1 _ _ _ _ (by omega), qu1 _ _ _ _ (by omega), qu1 _ _ _ _ (by omega), if_neg (fun z => by omega), if_neg (fun z => by omega), qu1 _ _ _ _ (by omega), qu1 _ _ _ _ (by omega), Ao, if_neg (by omega), if_neg (by omega)]
  exact qAT (hZ.1 j k a b c d)
 ·show (gA u j)[k]? = some 0
  have hk : k < qlens.getD j 0 := by
   rcases (by omega : j = 19 ∨ j = 20 ∨ j = 21) with rfl | rfl | rfl <;> exact d
  rw [qAg uQ.1.1 hk, uA j k (by omega) (by omega) (by omega)]
  congr 1
  unfold qE qn9
  rw [qu1 _ _ _ _ (by omega), qu1 _ _ _ _ (by omega), qu1 _ _ _ _ (by omega), qu1 _ _ _ _ (by omega), qu1 _ _ _ _ (by omega), qu1 _ _ _ _ (by omega), qu1 _ _ _ _ (by omega), qu1 _ _ _ _ (by omega), qu1 _ _ _ _ (by omega), qu1 _ _ _ _ (by omega), qu1 _ _ _ _ (by omega), if_neg (fun z => by omega), if_neg (fun z => by omega), qu1 _ _ _ _ (by omega), qu1 _ _ _ _ (by omega), Ao, if_neg (by omega), if_neg (by omega)]
  exact qAT (hZ.2.1 j k a b c d)
 ·show (gA u j)[k]? = some 0
  have hk : k < qlens.getD j 0 := by
   rcases (by omega : j = 22 ∨ j = 23 ∨ j = 24 ∨ j = 25 ∨ j = 26) with rfl | rfl | rfl | rfl | rfl <;> exact d
  rw [qAg uQ.1.1 hk, uA j k (by omega) (by omega) (by omega)]
  congr 1
  unfold qE qn9
  rw [qu1 _ _ _ _ (by omega), qu1 _ _ _ _ (by omega), qu1 _ _ _ _ (by omega), qu1 _ _ _ _ (by omega), qu1 _ _ _ _ (by omega), qu1 _ _ _ _ (by omega), qu1 _ _ _ _ (by omega), qu1 _ _ _ _ (by omega), qu1 _ _ _ _ (by omega), qu1 _ _ _ _ (by omega), qu1 _ _ _ _ (by omega), if_neg (fun z => by omega), if_neg (fun z => by omega), qu1 _ _ _ _ (by omega), qu1 _ _ _ _ (by omega), Ao, if_neg (by omega), if_neg (by omega)]
  exact qAT (hZ.2.2 j k a b c d)
 ·show gI u 4 = -1
  rw [uI 4 (by decide) (by decide)]
  show gI t2 4 = -1
  rw [I2, I1]; rfl

/-! the law -/
theorem qm3 (op : Nat) (x c : Int32) : (qsT op x c).all (fun t => decide (¬ t.1 = 3)) = true := by
 unfold qsT
 split <;> rfl
theorem qf3 : ∀ ss : List (Nat × Int32 × Int32), ∀ t, t ∈ qfl ss ++ qtl → ¬ t.1 = 3
 | [], t, h => by
  have : qtl.all (fun t => decide (¬ t.1 = 3)) = true := rfl
  exact of_decide_eq_true (List.all_eq_true.mp this t h)
 | (op, x, c) :: ss, t, h => by
  have h : t ∈ (qsT op x c ++ qfl ss) ++ qtl := h
  rw [List.append_assoc] at h
  rcases List.mem_append.mp h with h | h
  ·exact of_decide_eq_true (List.all_eq_true.mp (qm3 op x c) t h)
  ·exact qf3 ss t h
theorem qno3 {TL : List (Int32 × Int32)} {n : Nat} {ss : List (Nat × Int32 × Int32)} (hTL : TL = qhd n ++ (qfl ss ++ qtl)) (k : Nat) (hk : k ≠ 1) : ¬ qkd TL k = 3 := by
 by_cases c : k < 14
 ·have hH : qAt TL 0 (qhd n) := qat (A := []) (B := qfl ss ++ qtl) hTL rfl
  have := (hH k c).1
  rw [Nat.zero_add] at this
  rw [this]
  rcases (by omega : k = 0 ∨ k = 2 ∨ k = 3 ∨ k = 4 ∨ k = 5 ∨ k = 6 ∨ k = 7 ∨ k = 8 ∨ k = 9 ∨ k = 10 ∨ k = 11 ∨ k = 12 ∨ k = 13) with rfl | rfl | rfl | rfl | rfl | rfl | rfl | rfl | rfl | rfl | rfl | rfl | rfl
  ·show ¬ (4 : Int32) = 3; decide
  ·show ¬ (11 : Int32) = 3; decide
  ·show ¬ (12 : Int32) = 3; decide
  ·show ¬ (13 : Int32) = 3; decide
  ·show ¬ (5 : Int32) = 3; decide
  ·show ¬ (2 : Int32) = 3; decide
  ·show ¬ (17 : Int32) = 3; decide
  ·show ¬ (6 : Int32) = 3; decide
  ·show ¬ (2 : Int32) = 3; decide
  ·show ¬ (15 : Int32) = 3; decide
  ·show ¬ (1 : Int32) = 3; decide
  ·show ¬ (16 : Int32) = 3; decide
  ·show ¬ (17 : Int32) = 3; decide
 ·obtain ⟨i, rfl⟩ : ∃ i, k = 14 + i := ⟨k - 14, by omega⟩
  have e : qkd TL (14 + i) = ((qfl ss ++ qtl).getD i (0, 0)).1 := by
   subst hTL
   unfold qkd
   rw [show 14 + i = (qhd n).length + i from rfl, qgr]
  rw [e]
  by_cases d : i < (qfl ss ++ qtl).length
  ·rw [List.getD_eq_getElem?_getD, List.getElem?_eq_getElem d]
   exact qf3 ss _ (List.getElem_mem d)
  ·rw [List.getD_eq_getElem?_getD, List.getElem?_eq_none (by omega)]
   show ¬ (0 : Int32) = 3
   decide
theorem qTx' {TL : List (Int32 × Int32)} {n : Nat} {ss : List (Nat × Int32 × Int32)} (hTL : TL = qhd n ++ (qfl ss ++ qtl)) (hl : TL.length ≤ 256) (w : ∀ k, qkd TL k = 7 → k + 14 ≤ TL.length) : qTx (qT TL n) (qcc TL) := by
 have hH : qAt TL 0 (qhd n) := qat (A := []) (B := qfl ss ++ qtl) hTL rfl
 have k0 : qkd TL 0 = 4 := (hH 0 (by show 0 < 14; decide)).1
 have k1 : qkd TL 1 = 3 := (hH 1 (by show 1 < 14; decide)).1
 refine ⟨⟨TL.length, hl, rfl⟩, fun k hk e => ?_, fun k hk => ⟨_, qTg TL n hk, ?_⟩, fun k hk => ⟨_, qTg TL n hk, ?_⟩, fun k hk => ⟨_, qTg TL n (show k < 32 by omega), ?_⟩, fun e => ?_⟩
 ·by_cases c : k < 256
  ·rw [qTg TL n (show k < qlens.getD 0 0 from c)] at e
   exact qno3 hTL k hk (Option.some.inj e)
  ·unfold qT at e
   rw [List.getElem?_eq_none (by rw [List.length_map, List.length_range]; show 256 ≤ k; omega)] at e
   cases e
 ·show (if qkd TL k = 7 then Int32.ofNat (k + 13) else (-1 : Int32)) = -1 ∨ ∃ l, 2 ≤ l ∧ l < 256 ∧ (if qkd TL k = 7 then Int32.ofNat (k + 13) else (-1 : Int32)) = Int32.ofNat l
  by_cases c : qkd TL k = 7
  ·have := w k c
   rw [if_pos c]
   exact .inr ⟨k + 13, by omega, by omega, rfl⟩
  ·rw [if_neg c]; exact .inl rfl
 ·show (if 13 ≤ k ∧ qkd TL (k - 13) = 7 then Int32.ofNat (k - 13) else (-1 : Int32)) = -1 ∨ ∃ l, 2 ≤ l ∧ l < 256 ∧ (if 13 ≤ k ∧ qkd TL (k - 13) = 7 then Int32.ofNat (k - 13) else (-1 : Int32)) = Int32.ofNat l
  by_cases c : 13 ≤ k ∧ qkd TL (k - 13) = 7
  ·rw [if_pos c]
   refine .inr ⟨k - 13, ?_, by omega, rfl⟩
   by_cases d : 2 ≤ k - 13
   ·exact d
   ·rcases (by omega : k - 13 = 0 ∨ k - 13 = 1) with e | e
    ·rw [e, k0] at c; exact absurd c.2 (by decide)
    ·rw [e, k1] at c; exact absurd c.2 (by decide)
  ·rw [if_neg c]; exact .inl rfl
 ·show (if k = 0 then (0 : Int32) else if k = 1 then 1 else if k < 8 then -1 else 0) < 0 ∨ (if k = 0 then (0 : Int32) else if k = 1 then 1 else if k < 8 then -1 else 0) = 0 ∨ (if k = 0 then (0 : Int32) else if k = 1 then 1 else if k < 8 then -1 else 0) = 1
  by_cases c0 : k = 0
  ·rw [if_pos c0]; exact .inr (.inl rfl)
  ·rw [if_neg c0]
   by_cases c1 : k = 1
   ·rw [if_pos c1]; exact .inr (.inr rfl)
   ·rw [if_neg c1, if_pos hk]; exact .inl (by decide)
 ·rw [qTg TL n (show 0 < qlens.getD 0 0 by decide)] at e
  have : qkd TL 0 = 14 := Option.some.inj e
  rw [k0] at this
  exact absurd this (by decide)
def qIn (s : St) : Prop := (∀ j, 2 ≤ j → gA s j = gA st0 j) ∧ gI s 0 = 16 ∧ gI s 1 = 2
theorem qOk.tk {α : Type} {TL : List (Int32 × Int32)} {s : St} (h : qTk TL s ∧ qIn s) (hl : TL.length < 256) {k v v' : Int32} (hv : qvk k v v') {G : Nat → St → Option α} {P : α → Prop} (q : ∀ t, qTk (TL ++ [(k, v')]) t ∧ qIn t → qOk (fun n => G n t) P) : qOk (fun n => (f_L_k k v s).bind (G n)) P :=
 qOk.tok h.1 hl hv fun t h1 h2 h3 => q t ⟨h1, fun j hj => (h2 j hj).trans (h.2.1 j hj), (h3 0 (by decide)).trans h.2.2.1, (h3 1 (by decide)).trans h.2.2.2⟩
theorem qIn.zt {s : St} (h : qIn s) (n : Nat) : qZt n s := by
 have z : ∀ j k m, 2 ≤ j → gA st0 j = List.replicate m 0 → k < m → (gA s j)[k]? = some 0 := fun j k m a b c => by rw [h.1 j a, b]; exact rep_get 0 c
 refine ⟨fun j k a b c d => ?_, fun j k a b c d => ?_, fun j k a b c d => ?_⟩
 ·rcases (by omega : j = 16 ∨ j = 17 ∨ j = 18) with rfl | rfl | rfl <;> exact z _ k 64 (by decide) rfl d
 ·rcases (by omega : j = 19 ∨ j = 20 ∨ j = 21) with rfl | rfl | rfl <;> exact z _ k 4096 (by decide) rfl d
 ·rcases (by omega : j = 22 ∨ j = 23 ∨ j = 24 ∨ j = 25 ∨ j = 26) with rfl | rfl | rfl | rfl | rfl <;> exact z _ k 8 (by decide) rfl d
theorem qIn.pc {TL : List (Int32 × Int32)} {s : St} (ht : qTk TL s) (h : qIn s) (n : Nat) : qPc TL n s := by
 have z : ∀ j k, 2 ≤ j → gA st0 j = List.replicate 32 0 → k < 32 → qA s j k = 0 := fun j k a b c => qAT (by rw [h.1 j a, b]; exact rep_get 0 c)
 exact ⟨ht, h.2.1, h.2.2, h.zt n, fun k _ b => ⟨z 9 k (by decide) rfl b, z 10 k (by decide) rfl b⟩, fun k _ b => z 11 k (by decide) rfl b⟩
theorem qOb.refl {n : Nat} {T : Nat → List Int32} {c : Nat → Int32} {a a' : Int32 × St} (h : qRr n T c a a') : qOb a.2 a.2 := by
 obtain ⟨o, h1, h2, -⟩ := h.2.2.2.2.2.2
 exact ⟨fun _ _ _ => rfl, o, h1, h2, fun _ _ => rfl⟩
theorem qevB {α β : Type} {f : Nat → Option β} {c : β} (e : Ev f c) {G : Nat → β → Option α} {P : α → Prop} (h : qOk (fun n => G n c) P) : qOk (fun n => (f n).bind (G n)) P := by
 obtain ⟨r, h1, h2⟩ := h
 exact ⟨r, Ev.bind e h1, h2⟩
/-- the program is whole -/
theorem q540 (a : List Int32) {n : Nat} (hn : 1 ≤ n ∧ n ≤ 16) {ss : List (Nat × Int32 × Int32)} (hs : ∀ st, st ∈ ss → st.1 ≤ 7) (hss : ss.length ≤ 16) {s : St} (h : qTk (qhd n ++ qfl ss) s ∧ qIn s) (hl : (qhd n ++ qfl ss).length ≤ 14 + 14 * ss.length) : qOk (fun N => f_law_540 N a s) (· = 1) := by
 generalize hX : qhd n ++ qfl ss = X at h hl
 unfold f_law_540
 refine qOk.tk h (by first | omega | (simp only [List.length_append, List.length_singleton]; omega)) (qvO 9 (by decide)) fun s1 h1 => ?_
 refine qOk.tk h1 (by first | omega | (simp only [List.length_append, List.length_singleton]; omega)) (qvV 0 (by decide)) fun s2 h2 => ?_
 refine qOk.tk h2 (by first | omega | (simp only [List.length_append, List.length_singleton]; omega)) (qvO 17 (by decide)) fun s3 h3 => ?_
 refine qOk.tk h3 (by first | omega | (simp only [List.length_append, List.length_singleton]; omega)) (qvO 14 (by decide)) fun s4 h4 => ?_
 have hTL : X ++ [(9, 0)] ++ [(2, 0)] ++ [(17, 0)] ++ [(14, 0)] = qhd n ++ (qfl ss ++ qtl) := by
  rw [← hX]
  simp only [List.append_assoc]; rfl
 obtain ⟨hT, hI⟩ := h4
 generalize X ++ [(9, 0)] ++ [(2, 0)] ++ [(17, 0)] ++ [(14, 0)] = TL at hTL hT
 have hlen := hT.2.1
 unfold f_tokenCount f_status
 refine qOk.some_bind ?_
 obtain ⟨c6, e6, r1, C6, g4, w7⟩ := qcmp hn hs hss hTL (hI.pc hT n)
 have Tt := qTt' TL hn
 have Tx := qTx' hTL hlen w7
 refine qevB e6 ?_
 refine qOk.ite (fun z => by rw [r1] at z; exact absurd z (by decide)) fun _ => ?_
 refine qOk.some_bind ?_
 refine qOk.ite (fun _ => ?_) fun z => absurd g4 z
 obtain ⟨x, x', ex, -, X1⟩ := qrn2 Tt Tx C6 C6
 obtain ⟨-, x4, xn, Cx, -, -⟩ := id X1
 have Ox := qOb.refl X1
 have cnt : ∀ u : St, qCs n (qT TL n) (qcc TL) u → gI u 2 = gI s4 2 := fun u hu => (hu.2.2.1 2 (by decide)).trans hT.2.2.1.symm
 refine qevB ex ?_
 refine qOk.ite (fun z => absurd z xn) fun _ => ?_
 refine qOk.some_bind ?_
 refine qOk.ite (fun _ => ?_) fun z => absurd x4 z
 obtain ⟨v, v', ev, -, V⟩ := qsnap Ox Cx.1
 refine qevB ev ?_
 have tk : f_tok 0 0 x.2 = some (0, x.2) := by
  unfold f_tok f_tok_23
  by_cases c : gI x.2 2 = 256
  ·rw [if_pos c]
  ·rw [if_neg c, if_pos (by decide)]
 refine qOk.eq tk ?_
 refine qOk.ite (fun _ => ?_) fun z => absurd rfl z
 refine qOk.some_bind ?_
 refine qOk.ite (fun _ => ?_) fun z => absurd (cnt x.2 Cx) z
 refine qevB ev ?_
 refine qOk.ite (fun _ => ?_) fun z => absurd rfl z
 obtain ⟨y0, y, ey0, ey, Y⟩ := qrn2 Tt Tx C6 Cx
 obtain rfl : y0 = x := Ev.uniq ey0 ex
 obtain ⟨y1, -, -, -, Cy, Oy⟩ := Y
 refine qevB ey ?_
 refine qOk.ite (fun _ => ?_) fun z => absurd y1 z
 obtain ⟨v0, v1, ev0, ev1, V1⟩ := qsnap Oy Cx.1
 obtain rfl : v0 = v := Ev.uniq ev0 ev
 subst V1
 refine qevB ev1 ?_
 refine qOk.ite (fun _ => ?_) fun z => absurd rfl z
 obtain ⟨d, ed, d1, Cd, g4d, -⟩ := qcmp hn hs hss hTL (Cy.pc hlen)
 refine qevB ed ?_
 refine qOk.ite (fun z => by rw [d1] at z; exact absurd z (by decide)) fun _ => ?_
 refine qOk.some_bind ?_
 refine qOk.ite (fun _ => ?_) fun z => absurd g4d z
 obtain ⟨z0, z, ez0, ez, Z⟩ := qrn2 Tt Tx C6 Cd
 obtain rfl : z0 = y0 := Ev.uniq ez0 ex
 obtain ⟨z1, -, -, -, Cz, Oz⟩ := Z
 refine qevB ez ?_
 refine qOk.ite (fun _ => ?_) fun z => absurd z1 z
 obtain ⟨v2, v3, ev2, ev3, V3⟩ := qsnap Oz Cx.1
 obtain rfl : v2 = v1 := Ev.uniq ev2 ev
 subst V3
 refine qevB ev3 ?_
 refine qOk.ite (fun _ => ?_) fun z => absurd rfl z
 refine qOk.some_bind ?_
 refine qOk.ite (fun _ => qOk.ret rfl) fun q => absurd (cnt z.2 Cz) q
theorem qfla (ss : List (Nat × Int32 × Int32)) (op : Nat) (x c : Int32) : qfl (ss ++ [(op, x, c)]) = qfl ss ++ qsT op x c := by
 unfold qfl
 rw [List.flatMap_append]
 congr 1
 exact List.append_nil _
theorem ql14 {op : Nat} (ho : op ≤ 7) (x c : Int32) : (qsT op x c).length ≤ 14 := by
 rw [qsl op ho]
 rcases (by omega : op = 0 ∨ op = 1 ∨ op = 2 ∨ op = 3 ∨ op = 4 ∨ op = 5 ∨ op = 6 ∨ op = 7) with rfl | rfl | rfl | rfl | rfl | rfl | rfl | rfl <;> decide
theorem qOk.rda {α : Type} {a : List Int32} {i : Int32} {k : Nat} {G : Nat → Int32 → Option α} {P : α → Prop} (hi : i.toInt = k) (hk : k < a.length) (h : ∀ x, qOk (fun n => G n x) P) : qOk (fun n => (Jvm.Own.rd a i).bind (G n)) P := by
 have hx : a[k]? = some (a[k]'hk) := List.getElem?_eq_getElem _
 refine qOk.congr (fun n => ?_) (h (a[k]'hk))
 rw [rd_of hi hx]; rfl
theorem qofa (a b : Nat) (h : a + b < 2147483648) : (Int32.ofNat a + Int32.ofNat b).toInt = ((a + b : Nat) : Int) := by
 rw [← Int32.ofNat_add]; exact ofN_int h
theorem qloop {a : List Int32} (ha : a.length ≤ 260) {n : Nat} (hn : 1 ≤ n ∧ n ≤ 16) : ∀ (m i : Nat) (ss : List (Nat × Int32 × Int32)) (s : St), 300 ≤ i + m → i ≤ 400 → (∀ st, st ∈ ss → st.1 ≤ 7) → ss.length ≤ 16 → qTk (qhd n ++ qfl ss) s ∧ qIn s → (qhd n ++ qfl ss).length ≤ 14 + 14 * ss.length → qOk (fun N => f_law_124 N (Int32.ofNat ss.length) (Int32.ofNat i) a s) (· = 1) := by
 have el : a.length.toInt32 = Int32.ofNat a.length := rfl
 intro m
 induction m with
 | zero =>
  intro i ss s hm hi hs hss h hl
  refine qOk.step (g := fun N => g_law_124 (f_law_124 N) N (Int32.ofNat ss.length) (Int32.ofNat i) a s) (fun N => rfl) ?_
  unfold g_law_124
  rw [el]
  refine qOk.ite (fun z => ?_) fun _ => q540 a hn hs hss h hl
  rw [x32_lt, show (Int32.ofNat i + 2).toInt = ((i + 2 : Nat) : Int) from qofa i 2 (by omega), ofN_int (by omega)] at z
  omega
 | succ m ih =>
  intro i ss s hm hi hs hss h hl
  refine qOk.step (g := fun N => g_law_124 (f_law_124 N) N (Int32.ofNat ss.length) (Int32.ofNat i) a s) (fun N => rfl) ?_
  unfold g_law_124
  rw [el]
  refine qOk.ite (fun z => ?_) fun _ => q540 a hn hs hss h hl
  rw [x32_lt, show (Int32.ofNat i + 2).toInt = ((i + 2 : Nat) : Int) from qofa i 2 (by omega), ofN_int (by omega)] at z
  refine qOk.ite (fun z16 => ?_) fun _ => q540 a hn hs hss h hl
  have z16 : ss.length < 16 := (ofN_ltL (m := 16) (by omega) (by decide)).mp z16
  refine qOk.let ?_
  rw [ofN_succ ss.length]
  refine qOk.rda (ofN_int (k := i) (by omega)) (by omega) fun x4 => ?_
  obtain ⟨w, hw, ew⟩ := and_natL x4 7 (by decide)
  have hw : w ≤ 7 := hw
  have ew : x4 &&& 7 = Int32.ofNat w := ew
  rw [ew]
  refine qOk.let ?_
  refine qOk.rda (qofa i 1 (by omega)) (by omega) fun x6 => ?_
  refine qOk.let ?_
  generalize (x6 &&& 31) - 8 = X
  refine qOk.rda (qofa i 2 (by omega)) (by omega) fun C => ?_
  have go : ∀ op t, op ≤ 7 → qTk (qhd n ++ qfl ss ++ qsT op X C) t ∧ qIn t → qOk (fun N => f_law_534 (f_law_124 N) N (Int32.ofNat (ss.length + 1)) (Int32.ofNat i) a t) (· = 1) := fun op t ho ht => by
   unfold f_law_534
   refine qOk.let ?_
   rw [show Int32.ofNat i + 3 = Int32.ofNat (i + 3) from (Int32.ofNat_add i 3).symm]
   have el : (ss ++ [(op, X, C)]).length = ss.length + 1 := by rw [List.length_append]; rfl
   have := ih (i + 3) (ss ++ [(op, X, C)]) t (by omega) (by omega) (fun st hst => ?_) (by rw [el]; omega) (by rw [qfla, ← List.append_assoc]; exact ht) ?_
   ·rw [el] at this; exact this
   ·rcases List.mem_append.mp hst with q | q
    ·exact hs st q
    ·rw [List.mem_singleton.mp q]; exact ho
   ·rw [qfla, ← List.append_assoc, List.length_append, el]
    have := ql14 ho X C
    omega
  generalize hH : qhd n ++ qfl ss = H at h hl go
  have semi : ∀ op t (T : List (Int32 × Int32)), op ≤ 7 → T.length < 256 → qTk T t ∧ qIn t → T ++ [(17, 0)] = H ++ qsT op X C → qOk (fun N => (f_L_k 17 0 t).bind fun c2 => f_law_534 (f_law_124 N) N (Int32.ofNat (ss.length + 1)) (Int32.ofNat i) a c2) (· = 1) := fun op t T ho hT ht e => by
   refine qOk.tk ht hT (qvO 17 (by decide)) fun u hu => ?_
   rw [e] at hu
   exact go op u ho hu
  unfold f_law_521
  refine qOk.ite (fun zq => ?_) fun zn0 => ?_
  ·have zw : w = 0 := (ofN_eqL (m := 0) (by omega) (by decide)).mp zq
   subst zw
   refine qOk.tk h (by first | omega | (simp only [List.length_append, List.length_singleton]; omega)) (qvO 10 (by decide)) fun s1 h1 => ?_
   refine qOk.tk h1 (by first | omega | (simp only [List.length_append, List.length_singleton]; omega)) (qvV 1 (by decide)) fun s2 h2 => ?_
   refine qOk.tk h2 (by first | omega | (simp only [List.length_append, List.length_singleton]; omega)) (qvO 15 (by decide)) fun s3 h3 => ?_
   refine qOk.tk h3 (by first | omega | (simp only [List.length_append, List.length_singleton]; omega)) (qvN X) fun s4 h4 => ?_
   refine qOk.tk h4 (by first | omega | (simp only [List.length_append, List.length_singleton]; omega)) (qvO 16 (by decide)) fun s5 h5 => ?_
   refine qOk.ite (fun z => absurd z (by decide)) fun _ => ?_
   exact semi 0 _ _ (by decide) (by first | omega | (simp only [List.length_append, List.length_singleton]; omega)) h5 (by simp only [List.append_assoc]; rfl)
  refine qOk.ite (fun zq => ?_) fun zn1 => ?_
  ·have zw : w = 1 := (ofN_eqL (m := 1) (by omega) (by decide)).mp zq
   subst zw
   refine qOk.tk h (by first | omega | (simp only [List.length_append, List.length_singleton]; omega)) (qvV 1 (by decide)) fun s1 h1 => ?_
   refine qOk.tk h1 (by first | omega | (simp only [List.length_append, List.length_singleton]; omega)) (qvO 15 (by decide)) fun s2 h2 => ?_
   refine qOk.tk h2 (by first | omega | (simp only [List.length_append, List.length_singleton]; omega)) (qvN X) fun s3 h3 => ?_
   refine qOk.tk h3 (by first | omega | (simp only [List.length_append, List.length_singleton]; omega)) (qvO 16 (by decide)) fun s4 h4 => ?_
   refine qOk.tk h4 (by first | omega | (simp only [List.length_append, List.length_singleton]; omega)) (qvO 19 (by decide)) fun s5 h5 => ?_
   refine qOk.tk h5 (by first | omega | (simp only [List.length_append, List.length_singleton]; omega)) (qvN C) fun s6 h6 => ?_
   refine qOk.ite (fun z => absurd z (by decide)) fun _ => ?_
   exact semi 1 _ _ (by decide) (by first | omega | (simp only [List.length_append, List.length_singleton]; omega)) h6 (by simp only [List.append_assoc]; rfl)
  refine qOk.ite (fun zq => ?_) fun zn2 => ?_
  ·have zw : w = 2 := (ofN_eqL (m := 2) (by omega) (by decide)).mp zq
   subst zw
   refine qOk.tk h (by first | omega | (simp only [List.length_append, List.length_singleton]; omega)) (qvV 0 (by decide)) fun s1 h1 => ?_
   refine qOk.tk h1 (by first | omega | (simp only [List.length_append, List.length_singleton]; omega)) (qvO 19 (by decide)) fun s2 h2 => ?_
   refine qOk.tk h2 (by first | omega | (simp only [List.length_append, List.length_singleton]; omega)) (qvV 1 (by decide)) fun s3 h3 => ?_
   refine qOk.tk h3 (by first | omega | (simp only [List.length_append, List.length_singleton]; omega)) (qvO 20 (by decide)) fun s4 h4 => ?_
   refine qOk.tk h4 (by first | omega | (simp only [List.length_append, List.length_singleton]; omega)) (qvN X) fun s5 h5 => ?_
   refine qOk.ite (fun z => absurd z (by decide)) fun _ => ?_
   exact semi 2 _ _ (by decide) (by first | omega | (simp only [List.length_append, List.length_singleton]; omega)) h5 (by simp only [List.append_assoc]; rfl)
  refine qOk.ite (fun zq => ?_) fun zn3 => ?_
  ·have zw : w = 3 := (ofN_eqL (m := 3) (by omega) (by decide)).mp zq
   subst zw
   refine qOk.tk h (by first | omega | (simp only [List.length_append, List.length_singleton]; omega)) (qvO 10 (by decide)) fun s1 h1 => ?_
   refine qOk.tk h1 (by first | omega | (simp only [List.length_append, List.length_singleton]; omega)) (qvO 22 (by decide)) fun s2 h2 => ?_
   refine qOk.tk h2 (by first | omega | (simp only [List.length_append, List.length_singleton]; omega)) (qvV 0 (by decide)) fun s3 h3 => ?_
   refine qOk.ite (fun z => absurd z (by decide)) fun _ => ?_
   exact semi 3 _ _ (by decide) (by first | omega | (simp only [List.length_append, List.length_singleton]; omega)) h3 (by simp only [List.append_assoc]; rfl)
  refine qOk.ite (fun zq => ?_) fun zn4 => ?_
  ·have zw : w = 4 := (ofN_eqL (m := 4) (by omega) (by decide)).mp zq
   subst zw
   refine qOk.tk h (by first | omega | (simp only [List.length_append, List.length_singleton]; omega)) (qvV 0 (by decide)) fun s1 h1 => ?_
   refine qOk.tk h1 (by first | omega | (simp only [List.length_append, List.length_singleton]; omega)) (qvO 19 (by decide)) fun s2 h2 => ?_
   refine qOk.tk h2 (by first | omega | (simp only [List.length_append, List.length_singleton]; omega)) (qvN C) fun s3 h3 => ?_
   refine qOk.ite (fun z => absurd z (by decide)) fun _ => ?_
   exact semi 4 _ _ (by decide) (by first | omega | (simp only [List.length_append, List.length_singleton]; omega)) h3 (by simp only [List.append_assoc]; rfl)
  refine qOk.ite (fun zq => ?_) fun zn5 => ?_
  ·have zw : w = 5 := (ofN_eqL (m := 5) (by omega) (by decide)).mp zq
   subst zw
   refine qOk.tk h (by first | omega | (simp only [List.length_append, List.length_singleton]; omega)) (qvO 7 (by decide)) fun s1 h1 => ?_
   refine qOk.tk h1 (by first | omega | (simp only [List.length_append, List.length_singleton]; omega)) (qvO 11 (by decide)) fun s2 h2 => ?_
   refine qOk.tk h2 (by first | omega | (simp only [List.length_append, List.length_singleton]; omega)) (qvV 0 (by decide)) fun s3 h3 => ?_
   refine qOk.tk h3 (by first | omega | (simp only [List.length_append, List.length_singleton]; omega)) (qvO 24 (by decide)) fun s4 h4 => ?_
   refine qOk.tk h4 (by first | omega | (simp only [List.length_append, List.length_singleton]; omega)) (qvN (X * 16)) fun s5 h5 => ?_
   refine qOk.tk h5 (by first | omega | (simp only [List.length_append, List.length_singleton]; omega)) (qvO 12 (by decide)) fun s6 h6 => ?_
   refine qOk.tk h6 (by first | omega | (simp only [List.length_append, List.length_singleton]; omega)) (qvO 13 (by decide)) fun s7 h7 => ?_
   refine qOk.tk h7 (by first | omega | (simp only [List.length_append, List.length_singleton]; omega)) (qvV 0 (by decide)) fun s8 h8 => ?_
   refine qOk.tk h8 (by first | omega | (simp only [List.length_append, List.length_singleton]; omega)) (qvO 19 (by decide)) fun s9 h9 => ?_
   refine qOk.tk h9 (by first | omega | (simp only [List.length_append, List.length_singleton]; omega)) (qvV 0 (by decide)) fun s10 h10 => ?_
   refine qOk.tk h10 (by first | omega | (simp only [List.length_append, List.length_singleton]; omega)) (qvO 20 (by decide)) fun s11 h11 => ?_
   refine qOk.tk h11 (by first | omega | (simp only [List.length_append, List.length_singleton]; omega)) (qvN 1) fun s12 h12 => ?_
   refine qOk.tk h12 (by first | omega | (simp only [List.length_append, List.length_singleton]; omega)) (qvO 17 (by decide)) fun s13 h13 => ?_
   refine qOk.tk h13 (by first | omega | (simp only [List.length_append, List.length_singleton]; omega)) (qvO 14 (by decide)) fun s14 h14 => ?_
   refine qOk.ite (fun _ => ?_) fun z => absurd rfl z
   refine go 5 _ (by decide) ?_
   rw [show H ++ qsT 5 X C = H ++ [(7, 0)] ++ [(11, 0)] ++ [(2, 0)] ++ [(24, 0)] ++ [(1, (X * 16))] ++ [(12, 0)] ++ [(13, 0)] ++ [(2, 0)] ++ [(19, 0)] ++ [(2, 0)] ++ [(20, 0)] ++ [(1, 1)] ++ [(17, 0)] ++ [(14, 0)] from by simp only [List.append_assoc]; rfl]
   exact h14
  refine qOk.ite (fun zq => ?_) fun zn6 => ?_
  ·have zw : w = 6 := (ofN_eqL (m := 6) (by omega) (by decide)).mp zq
   subst zw
   refine qOk.tk h (by first | omega | (simp only [List.length_append, List.length_singleton]; omega)) (qvO 22 (by decide)) fun s1 h1 => ?_
   refine qOk.tk h1 (by first | omega | (simp only [List.length_append, List.length_singleton]; omega)) (qvV 0 (by decide)) fun s2 h2 => ?_
   refine qOk.tk h2 (by first | omega | (simp only [List.length_append, List.length_singleton]; omega)) (qvO 19 (by decide)) fun s3 h3 => ?_
   refine qOk.tk h3 (by first | omega | (simp only [List.length_append, List.length_singleton]; omega)) (qvN C) fun s4 h4 => ?_
   refine qOk.ite (fun z => absurd z (by decide)) fun _ => ?_
   exact semi 6 _ _ (by decide) (by first | omega | (simp only [List.length_append, List.length_singleton]; omega)) h4 (by simp only [List.append_assoc]; rfl)
  refine qOk.tk h (by first | omega | (simp only [List.length_append, List.length_singleton]; omega)) (qvO 10 (by decide)) fun s1 h1 => ?_
  refine qOk.tk h1 (by first | omega | (simp only [List.length_append, List.length_singleton]; omega)) (qvV 0 (by decide)) fun s2 h2 => ?_
  have zw : w = 7 := by
   have y0 : ¬ w = 0 := fun e => zn0 (by rw [e]; rfl)
   have y1 : ¬ w = 1 := fun e => zn1 (by rw [e]; rfl)
   have y2 : ¬ w = 2 := fun e => zn2 (by rw [e]; rfl)
   have y3 : ¬ w = 3 := fun e => zn3 (by rw [e]; rfl)
   have y4 : ¬ w = 4 := fun e => zn4 (by rw [e]; rfl)
   have y5 : ¬ w = 5 := fun e => zn5 (by rw [e]; rfl)
   have y6 : ¬ w = 6 := fun e => zn6 (by rw [e]; rfl)
   omega
  subst zw
  refine qOk.ite (fun z => absurd z (by decide)) fun _ => ?_
  exact semi 7 _ _ (by decide) (by first | omega | (simp only [List.length_append, List.length_singleton]; omega)) h2 (by simp only [List.append_assoc]; rfl)
theorem q27 {a : List Int32} (ha : a.length ≤ 260) {n : Nat} (hn : 1 ≤ n ∧ n ≤ 16) {s : St} (h : qTk [] s ∧ qIn s) : qOk (fun N => f_law_27 N (Int32.ofNat n) a s) (· = 1) := by
 unfold f_law_27
 refine qOk.tk h (by first | decide | (simp only [List.length_append, List.length_singleton, List.length_nil]; decide)) (qvO 4 (by decide)) fun s1 h1 => ?_
 refine qOk.tk h1 (by first | decide | (simp only [List.length_append, List.length_singleton, List.length_nil]; decide)) qvF fun s2 h2 => ?_
 refine qOk.tk h2 (by first | decide | (simp only [List.length_append, List.length_singleton, List.length_nil]; decide)) (qvO 11 (by decide)) fun s3 h3 => ?_
 refine qOk.tk h3 (by first | decide | (simp only [List.length_append, List.length_singleton, List.length_nil]; decide)) (qvO 12 (by decide)) fun s4 h4 => ?_
 refine qOk.tk h4 (by first | decide | (simp only [List.length_append, List.length_singleton, List.length_nil]; decide)) (qvO 13 (by decide)) fun s5 h5 => ?_
 refine qOk.tk h5 (by first | decide | (simp only [List.length_append, List.length_singleton, List.length_nil]; decide)) (qvO 5 (by decide)) fun s6 h6 => ?_
 refine qOk.tk h6 (by first | decide | (simp only [List.length_append, List.length_singleton, List.length_nil]; decide)) (qvV 0 (by decide)) fun s7 h7 => ?_
 refine qOk.tk h7 (by first | decide | (simp only [List.length_append, List.length_singleton, List.length_nil]; decide)) (qvO 17 (by decide)) fun s8 h8 => ?_
 refine qOk.tk h8 (by first | decide | (simp only [List.length_append, List.length_singleton, List.length_nil]; decide)) (qvO 6 (by decide)) fun s9 h9 => ?_
 refine qOk.tk h9 (by first | decide | (simp only [List.length_append, List.length_singleton, List.length_nil]; decide)) (qvV 1 (by decide)) fun s10 h10 => ?_
 refine qOk.tk h10 (by first | decide | (simp only [List.length_append, List.length_singleton, List.length_nil]; decide)) (qvO 15 (by decide)) fun s11 h11 => ?_
 refine qOk.tk h11 (by first | decide | (simp only [List.length_append, List.length_singleton, List.length_nil]; decide)) (qvN (Int32.ofNat n)) fun s12 h12 => ?_
 refine qOk.tk h12 (by first | decide | (simp only [List.length_append, List.length_singleton, List.length_nil]; decide)) (qvO 16 (by decide)) fun s13 h13 => ?_
 refine qOk.tk h13 (by first | decide | (simp only [List.length_append, List.length_singleton, List.length_nil]; decide)) (qvO 17 (by decide)) fun s14 h14 => ?_
 refine qloop ha hn 300 1 [] _ (by decide) (by decide) (fun st q => absurd q (List.not_mem_nil)) (by decide) ?_ (by show (qhd n ++ []).length ≤ 14; rw [List.append_nil]; exact Nat.le_refl 14)
 rw [show qhd n ++ qfl [] = [] ++ [(4, 0)] ++ [(3, 0)] ++ [(11, 0)] ++ [(12, 0)] ++ [(13, 0)] ++ [(5, 0)] ++ [(2, 0)] ++ [(17, 0)] ++ [(6, 0)] ++ [(2, 1)] ++ [(15, 0)] ++ [(1, (Int32.ofNat n))] ++ [(16, 0)] ++ [(17, 0)] from rfl]
 exact h14
theorem owed (a : List Int32) (hl : a.length ≤ 260) : ∃ fu, f_law fu a = some 1 := by
 suffices h : qOk (fun n => f_law n a) (· = 1) by
  obtain ⟨r, h1, rfl⟩ := h
  exact h1.get
 have el : a.length.toInt32 = Int32.ofNat a.length := rfl
 unfold f_law
 have e : f_init 16 2 = some (qcl (sI (sI st0 0 16) 1 2)) := rfl
 refine qOk.eq e ?_
 have L0 : qL (qcl (sI (sI st0 0 16) 1 2)) := fun j => by
  show (gA st0 j).length = _
  by_cases c : j < 33
  ·rcases (by omega : j = 0 ∨ j = 1 ∨ j = 2 ∨ j = 3 ∨ j = 4 ∨ j = 5 ∨ j = 6 ∨ j = 7 ∨ j = 8 ∨ j = 9 ∨ j = 10 ∨ j = 11 ∨ j = 12 ∨ j = 13 ∨ j = 14 ∨ j = 15 ∨ j = 16 ∨ j = 17 ∨ j = 18 ∨ j = 19 ∨ j = 20 ∨ j = 21 ∨ j = 22 ∨ j = 23 ∨ j = 24 ∨ j = 25 ∨ j = 26 ∨ j = 27 ∨ j = 28 ∨ j = 29 ∨ j = 30 ∨ j = 31 ∨ j = 32) with rfl | rfl | rfl | rfl | rfl | rfl | rfl | rfl | rfl | rfl | rfl | rfl | rfl | rfl | rfl | rfl | rfl | rfl | rfl | rfl | rfl | rfl | rfl | rfl | rfl | rfl | rfl | rfl | rfl | rfl | rfl | rfl | rfl <;> (show List.length (List.replicate _ _) = _; rw [List.length_replicate]; rfl)
  ·show (List.getD _ j []).length = qlens.getD j 0
   rw [List.getD_eq_getElem?_getD, List.getElem?_eq_none (by show 33 ≤ j; omega), List.getD_eq_getElem?_getD, List.getElem?_eq_none (by show 33 ≤ j; omega)]; rfl
 have h0 : qTk [] (qcl (sI (sI st0 0 16) 1 2)) ∧ qIn (qcl (sI (sI st0 0 16) 1 2)) := by
  refine ⟨⟨L0, by decide, rfl, fun k hk => ⟨qAT ?_, qAT ?_⟩⟩, fun j _ => rfl, rfl, rfl⟩
  ·show (List.replicate 256 (0 : Int32))[k]? = _
   rw [rep_get 0 hk]; rfl
  ·show (List.replicate 256 (0 : Int32))[k]? = _
   rw [rep_get 0 hk]; rfl
 rw [el]
 refine qOk.ite (fun z => ?_) fun _ => q27 hl (n := 1) (by decide) h0
 have z := (ofN_gtL (m := 0) (by omega) (by decide)).mp z
 refine qOk.rda (k := 0) rfl (by omega) fun x3 => ?_
 obtain ⟨w, hw, ew⟩ := and_natL x3 15 (by decide)
 have hw : w ≤ 15 := hw
 have ew : x3 &&& 15 = Int32.ofNat w := ew
 rw [ew, ofN_succ]
 exact qOk.let (q27 hl (n := w + 1) (by omega) h0)

set_option maxRecDepth 65536 in
set_option maxHeartbeats 40000000 in
theorem comes_1 {Post : Tables → Env → Array Value → State → Outcome → State → Prop} (hpost : ∀ tb e args s v u, (limb_1_1.after args s (.returned v) u = true ∧ limb_1_2.after args s (.returned v) u = true ∧ True) → FrameEnd s (.returned v) u (Jvm.fieldLocs frame_1_writes args s ++ Jvm.arrayLocs frame_1_arrays args s ++ Jvm.staticLocs frame_1_statics s) 80 28160 → Post tb e args s (.returned v) u) :
  ArmFor flags0 classFile x code maxLocals ret World_1 tables_1 room_1 Calls_1 rest_1 Pre_1 Post := by
 intro l hfl _ _ p e ha hc hk s m args below hf hA hF happ hP
 obtain ⟨hcalls, hrest, hpre⟩ := hP
 obtain ⟨-, -, -, hnamed, -, -, -, hat⟩ := (Spec.applies_iff hf).mp happ
 obtain ⟨hg, hn⟩ := and_e (Cond.before_iff.mp (show (Jvm.Cond.and given_1 narrow_1).before args s = true from hpre))
 obtain ⟨g0, q0⟩ := and_e hg
 obtain ⟨w0, rfl⟩ : ∃ w0 : Value, args = #[w0] := by
  have hs : args.size = 1 := by simpa [Cond.value, given_1] using g0
  obtain ⟨L⟩ := args
  match L, hs with
  | [w0], _ => exact ⟨w0, rfl⟩
 have hw := fun d (hd : d ∈ tables_1) => atoms_spec (ws := Jvm.Cond.code x code maxLocals ret :: tables_1) hat d (List.mem_cons_of_mem _ hd)
 have hfit : Fit s := fun {y c} hc i hi => by
  obtain ⟨ha, rfl⟩ := Array.getElem?_eq_some_iff.mp hc
  have q := List.all_eq_true.mp ((Array.all_eq_true_iff_forall_mem.mp hF) _ (Array.getElem_mem ha)) i (List.mem_range.mpr hi)
  simpa [Array.getElem?_eq_getElem hi] using q
 obtain ⟨v0, e0, r0⟩ := isR_v q0
 obtain rfl : w0 = v0 := Option.some.inj e0
 obtain ⟨n1, n2⟩ := and_e hn
 obtain ⟨ra, rfl⟩ : ∃ ra, w0 = .ref ra := by
  rcases ref_cases r0 with rfl | ⟨ra, rfl⟩
  ·exfalso
   simp only [Cond.value, e0] at n1
   split at n1 <;> cases n1
  ·exact ⟨ra, rfl⟩
 obtain ⟨cl, Ar⟩ := Arr.start e0 n1
 obtain ⟨xs, hxs⟩ := script_ints hfit Ar
 have hlen : xs.length ≤ 260 := by
  have e1 : cl.slots.size = xs.length := by rw [← Array.length_toList, hxs, List.length_map]
  exact script_len e0 Ar e1 n2
 obtain ⟨fu, hfu⟩ := owed xs hlen
 obtain ⟨n, o, h1, h2, h3, _, L, rfl, ⟨w, H', rfl, hv, -, -, N⟩, hq⟩ := okLAW (l := l) hw fu xs 1 hfu tables_1 s.heap.size (ad1 ra s.heap.size) s.heap (HR.start1 CN lay Ar hxs) p e ha hc hk s m _ below hf ((Spec.applies_iff_loose hf).mp happ).1 ⟨rfl, State.Warmed39.refl s, rfl⟩ trivial
 obtain rfl : w = some (.int 1) := hv
 refine ⟨n, _, h1, h2, h3, hpost _ _ _ _ _ _ ⟨Cond.after_iff.mpr rfl, Cond.after_iff.mpr (eq_i res_at (Term.int_eval (1)) rfl), trivial⟩ ⟨hq.1, hq.2.1, (hq.2.2.sift fun y hy => Or.inr (N y hy)).mono (by decide) (by decide)⟩⟩
theorem main_1_1 : Claimed_1_1 := comes_1 fun _ _ _ _ _ _ h hF => ⟨h.1, hF⟩
theorem main_1_2 : Claimed_1_2 := comes_1 fun _ _ _ _ _ _ h hF => ⟨h.2.1, hF⟩

end Jvm.Pilot.@@N@@
namespace Jvm.Pilot.@@N@@
open Jvm Jvm.ClassFile Sem Op Lib Jvm.Free Jvm.Stand Jvm.Pilot.@@N@@.Jvm.D
/-! MADE BY PROGRAM (witnessworld.py) out of the Statement's table words and the real class files: 11 classes; the members and pool entries that the words name. The judged class is class 1, her method 3. -/
namespace start1
open Jvm.ClassFile
def u (s : String) : CpInfo := .utf8 (stringToUtf16 s)
/-- a pool by its gaps: so many unusable entries, then the entry; so many at the end -/
def gap : Nat → List CpInfo → List CpInfo
  | 0, r => r
  | n + 1, r => .unusable :: gap n r
def poolList (es : List (Nat × CpInfo)) (last : Nat) : List CpInfo := es.foldr (fun e r => gap e.1 (e.2 :: r)) (gap last [])
def pool (es : List (Nat × CpInfo)) (last : Nat) : Array CpInfo := ⟨poolList es last⟩
def fileOf (pool : Array CpInfo) (this : Nat) (attrs : Array Attribute := #[]) (ms : Array MethodInfo := #[]) (fl : Nat := 33) (sup : Nat := 0) (ifs : Array Nat := #[]) (fds : Array FieldInfo := #[]) : ClassFile where
  minorVersion := 0
  majorVersion := 65
  constantPool := pool
  accessFlags := fl
  thisClass := this
  superClass := sup
  interfaces := ifs
  fields := fds
  methods := ms
  attributes := attrs
def plain (name : String) (sup : Option ClassId) : Class where
  name := name
  kind := .ordinary
  loader := none
  accessFlags := 33
  super := sup
  interfaces := #[]
  cf := none
  fields := #[]
  methods := #[]
  instanceTypes := #[]
  staticTypes := #[]
  resolved := #[]
  callSites := []
  init := .initialized
  statics := none
  mirror := none

def pool0 : Array CpInfo := pool [(5, u "<init>"), (0, u "()V"), (1, .class_ 10), (1, u "java/lang/Object")] 113

def k0c0 : Code := { maxStack := 0, maxLocals := 1, code := object_method_1_code, exceptionTable := #[], attributes := #[] }
def k0m0 : Method := { name := "<init>", desc := "()V", sig := { parameters := [], returnType := none }, accessFlags := 1, code := some k0c0 }
/-- java/lang/Object -/
def k0 : Class := { plain "java/lang/Object" none with
  accessFlags := 33
  interfaces := #[]
  cf := some (fileOf pool0 8 #[] #[{ accessFlags := 1, nameIndex := 5, descriptorIndex := 6, attributes := #[] }] 33 0 #[] #[])
  fields := #[]
  methods := #[k0m0]
  instanceTypes := #[]
  staticTypes := #[]
  resolved := Array.replicate 124 none
  statics := none }

def pool1 : Array CpInfo := pool [(2, .class_ 4), (1, u "java/lang/Object"), (0, u "<init>"), (0, u "()V"), (0, .methodref 8 9), (0, .class_ 10), (0, .nameAndType 11 12), (0, u "FatPointerC"), (0, u "tok"), (0, u "(II)Z"), (0, .methodref 8 14), (0, .nameAndType 15 16), (0, u "status"), (0, u "()I"), (0, .long 1000003), (1, .methodref 8 20), (0, .nameAndType 21 16), (0, u "trapSite"), (0, .methodref 8 23), (0, .nameAndType 24 16), (0, u "frames"), (0, .methodref 8 26), (0, .nameAndType 27 16), (0, u "resultKind"), (0, .methodref 8 29), (0, .nameAndType 30 16), (0, u "resultValue"), (0, .methodref 8 32), (0, .nameAndType 33 16), (0, u "resultSize"), (0, .methodref 8 35), (0, .nameAndType 36 16), (0, u "outCount"), (0, .methodref 8 38), (0, .nameAndType 39 40), (0, u "outValue"), (0, u "(I)I"), (0, .methodref 8 42), (0, .nameAndType 5 43), (0, u "(II)V"), (0, .methodref 45 46), (0, .class_ 47), (0, .nameAndType 48 49), (0, u "FatPointerCL7"), (0, u "k"), (0, u "(LFatPointerC;II)V"), (0, .methodref 8 51), (0, .nameAndType 52 16), (0, u "tokenCount"), (0, .methodref 8 54), (0, .nameAndType 55 56), (0, u "compile"), (0, u "()Z"), (0, .methodref 8 58), (0, .nameAndType 59 16), (0, u "run"), (0, .methodref 45 61), (0, .nameAndType 62 63), (0, u "snap"), (0, u "(LFatPointerC;)J"), (3, u "law"), (0, u "([I)Z")] 2

def k1m0 : Method := { name := "<init>", desc := "()V", sig := { parameters := [], returnType := none }, accessFlags := 1, code := none }
def k1c1 : Code := { maxStack := 3, maxLocals := 3, code := method_2_code, exceptionTable := #[], attributes := #[] }
def k1m1 : Method := { name := "k", desc := "(LFatPointerC;II)V", sig := { parameters := [(.object "FatPointerC"), .int, .int], returnType := none }, accessFlags := 10, code := some k1c1 }
def k1c2 : Code := { maxStack := 4, maxLocals := 4, code := method_3_code, exceptionTable := #[], attributes := #[] }
def k1m2 : Method := { name := "snap", desc := "(LFatPointerC;)J", sig := { parameters := [(.object "FatPointerC")], returnType := some .long }, accessFlags := 10, code := some k1c2 }
def k1c3 : Code := { maxStack := 4, maxLocals := 8, code := code, exceptionTable := #[], attributes := #[] }
def k1m3 : Method := { name := "law", desc := "([I)Z", sig := { parameters := [(.array .int)], returnType := some .boolean }, accessFlags := 9, code := some k1c3 }
/-- FatPointerCL7 -/
def k1 : Class := { plain "FatPointerCL7" (some 0) with
  accessFlags := 33
  interfaces := #[]
  cf := some (fileOf pool1 45 #[] #[{ accessFlags := 1, nameIndex := 5, descriptorIndex := 6, attributes := #[] }, { accessFlags := 10, nameIndex := 48, descriptorIndex := 49, attributes := #[] }, { accessFlags := 10, nameIndex := 62, descriptorIndex := 63, attributes := #[] }, { accessFlags := 9, nameIndex := 67, descriptorIndex := 68, attributes := #[] }] 33 2 #[] #[])
  fields := #[]
  methods := #[k1m0, k1m1, k1m2, k1m3]
  instanceTypes := #[]
  staticTypes := #[]
  resolved := Array.replicate 71 none
  statics := none }

def pool2 : Array CpInfo := pool [(1, .methodref 2 3), (0, .class_ 4), (0, .nameAndType 5 6), (0, u "java/lang/Object"), (0, u "<init>"), (0, u "()V"), (0, .fieldref 8 9), (0, .class_ 10), (0, .nameAndType 11 12), (0, u "FatPointerC"), (0, u "tokK"), (0, u "[I"), (0, .fieldref 8 14), (0, .nameAndType 15 12), (0, u "tokV"), (0, .fieldref 8 17), (0, .nameAndType 18 12), (0, u "outVals"), (0, .fieldref 8 20), (0, .nameAndType 21 22), (0, u "fnDef"), (0, u "[Z"), (0, .fieldref 8 24), (0, .nameAndType 25 12), (0, u "fnTok"), (0, .fieldref 8 27), (0, .nameAndType 28 12), (0, u "fnParams"), (0, .fieldref 8 30), (0, .nameAndType 31 12), (0, u "fnObjCount"), (0, .fieldref 8 33), (0, .nameAndType 34 12), (0, u "fnFrame"), (0, .fieldref 8 36), (0, .nameAndType 37 12), (0, u "fnBody"), (0, .fieldref 8 39), (0, .nameAndType 40 12), (0, u "nameIdx"), (0, .fieldref 8 42), (0, .nameAndType 43 22), (0, u "nameArr"), (0, .fieldref 8 45), (0, .nameAndType 46 12), (0, u "fnObjSize"), (0, .fieldref 8 48), (0, .nameAndType 49 12), (0, u "callArgs"), (0, .fieldref 8 51), (0, .nameAndType 52 12), (0, u "matchEnd"), (0, .fieldref 8 54), (0, .nameAndType 55 12), (0, u "braceOwner"), (0, .fieldref 8 57), (0, .nameAndType 58 12), (0, u "openStack"), (0, .fieldref 8 60), (0, .nameAndType 61 12), (0, u "cellK"), (0, .fieldref 8 63), (0, .nameAndType 64 12), (0, u "cellV"), (0, .fieldref 8 66), (0, .nameAndType 67 12), (0, u "cellO"), (0, .fieldref 8 69), (0, .nameAndType 70 12), (0, u "objBase"), (0, .fieldref 8 72), (0, .nameAndType 73 12), (0, u "objSize"), (0, .fieldref 8 75), (0, .nameAndType 76 22), (0, u "objAlive"), (0, .fieldref 8 78), (0, .nameAndType 79 12), (0, u "frFunc"), (0, .fieldref 8 81), (0, .nameAndType 82 12), (0, u "frFirst"), (0, .fieldref 8 84), (0, .nameAndType 85 12), (0, u "frBase"), (0, .fieldref 8 87), (0, .nameAndType 88 12), (0, u "frRetPc"), (0, .fieldref 8 90), (0, .nameAndType 91 12), (0, u "frTarget"), (0, .fieldref 8 93), (0, .nameAndType 94 12), (0, u "regK"), (0, .fieldref 8 96), (0, .nameAndType 97 12), (0, u "regV"), (0, .fieldref 8 99), (0, .nameAndType 100 12), (0, u "regO"), (0, .fieldref 8 102), (0, .nameAndType 103 12), (0, u "argK"), (0, .fieldref 8 105), (0, .nameAndType 106 12), (0, u "argV"), (0, .fieldref 8 108), (0, .nameAndType 109 12), (0, u "argO"), (0, .fieldref 8 111), (0, .nameAndType 112 113), (0, u "memCells"), (0, u "I"), (0, .fieldref 8 115), (0, .nameAndType 116 113), (0, u "maxDepth"), (0, .methodref 8 118), (0, .nameAndType 119 6), (0, u "clearResults"), (0, .fieldref 8 121), (0, .nameAndType 122 113), (0, u "nTok"), (0, .fieldref 8 124), (0, .nameAndType 125 126), (0, u "compiled"), (0, u "Z"), (0, .methodref 8 128), (0, .nameAndType 129 130), (0, u "parseProgram"), (0, u "()Z"), (0, .fieldref 8 132), (0, .nameAndType 133 113), (0, u "depth"), (0, .fieldref 8 135), (0, .nameAndType 136 113), (0, u "liveCells"), (0, .fieldref 8 138), (0, .nameAndType 139 113), (0, u "nextObj"), (0, .fieldref 8 141), (0, .nameAndType 142 113), (0, u "fuel"), (0, .fieldref 8 144), (0, .nameAndType 145 126), (0, u "running"), (0, .methodref 8 147), (0, .nameAndType 148 149), (0, u "trap"), (0, u "(II)V"), (0, .fieldref 8 151), (0, .nameAndType 152 113), (0, u "status"), (0, .methodref 8 154), (0, .nameAndType 155 156), (0, u "pushFrame"), (0, u "(III)V"), (0, .integer 1048576), (0, .methodref 8 159), (0, .nameAndType 160 161), (0, u "step"), (0, u "(I)I"), (0, .fieldref 8 163), (0, .nameAndType 164 113), (0, u "trapSite"), (0, .fieldref 8 166), (0, .nameAndType 167 113), (0, u "framesAt"), (0, .fieldref 8 169), (0, .nameAndType 170 113), (0, u "resKind"), (0, .fieldref 8 172), (0, .nameAndType 173 113), (0, u "resVal"), (0, .fieldref 8 175), (0, .nameAndType 176 113), (0, u "resSize"), (0, .fieldref 8 178), (0, .nameAndType 179 113), (0, u "outN"), (0, .fieldref 8 181), (0, .nameAndType 182 126), (0, u "pok"), (0, .fieldref 8 184), (0, .nameAndType 185 113), (0, u "pp"), (0, .methodref 8 187), (0, .nameAndType 188 6), (0, u "parseFunc"), (0, .methodref 8 190), (0, .nameAndType 191 130), (0, u "checkCalls"), (0, .methodref 8 193), (0, .nameAndType 194 161), (0, u "kindAt"), (0, .methodref 8 196), (0, .nameAndType 197 198), (0, u "expect"), (0, u "(I)V"), (0, .methodref 8 200), (0, .nameAndType 201 161), (0, u "valAt"), (0, .fieldref 8 203), (0, .nameAndType 204 113), (0, u "curFn"), (0, .methodref 8 206), (0, .nameAndType 207 6), (0, u "parseParams"), (0, .methodref 8 209), (0, .nameAndType 210 6), (0, u "parseDecls"), (0, .methodref 8 212), (0, .nameAndType 213 6), (0, u "parseBody"), (0, .methodref 8 215), (0, .nameAndType 216 217), (0, u "addName"), (0, u "(IIZ)V"), (0, .methodref 8 219), (0, .nameAndType 220 221), (0, u "declName"), (0, u "()I"), (0, .methodref 8 223), (0, .nameAndType 224 221), (0, u "arrSize"), (0, .methodref 8 226), (0, .nameAndType 227 6), (0, u "parseStmt"), (0, .methodref 8 229), (0, .nameAndType 230 6), (0, u "parseExpr"), (0, .methodref 8 232), (0, .nameAndType 233 6), (0, u "parseVarStmt"), (0, .methodref 8 235), (0, .nameAndType 236 221), (0, u "useVar"), (3, .methodref 8 241), (0, .nameAndType 242 6), (0, u "parseAtom"), (0, .methodref 8 244), (0, .nameAndType 245 6), (0, u "parseSum"), (0, .methodref 8 247), (0, .nameAndType 248 6), (0, u "parseTerm"), (0, .methodref 8 250), (0, .nameAndType 251 6), (0, u "parseOperand"), (0, .methodref 8 253), (0, .nameAndType 254 255), (0, u "setReg"), (0, u "(IIII)V"), (0, .methodref 8 257), (0, .nameAndType 258 161), (0, u "objOf"), (0, .methodref 8 260), (0, .nameAndType 261 262), (0, u "isArr"), (0, u "(I)Z"), (0, .methodref 8 264), (0, .nameAndType 265 149), (0, u "readCell"), (0, .methodref 8 267), (0, .nameAndType 268 149), (0, u "loadVar"), (0, .methodref 8 270), (0, .nameAndType 271 161), (0, u "evalSum"), (0, .methodref 8 273), (0, .nameAndType 274 149), (0, u "copyReg"), (0, .methodref 8 276), (0, .nameAndType 277 278), (0, u "binary"), (0, u "(IIII)Z"), (0, .methodref 8 280), (0, .nameAndType 281 161), (0, u "evalTerm"), (0, .methodref 8 283), (0, .nameAndType 284 161), (0, u "evalOperand"), (0, .methodref 8 286), (0, .nameAndType 287 288), (0, u "check"), (0, u "(IIIIII)I"), (0, .methodref 8 290), (0, .nameAndType 291 149), (0, u "loadAtom"), (0, .methodref 8 293), (0, .nameAndType 294 295), (0, u "intOp"), (0, u "(III)I"), (0, .methodref 8 297), (0, .nameAndType 298 299), (0, u "movePtr"), (0, u "(IIJI)Z"), (0, .methodref 8 301), (0, .nameAndType 302 161), (0, u "execVarStmt"), (0, .methodref 8 304), (0, .nameAndType 305 161), (0, u "execStarStore"), (4, .methodref 8 311), (0, .nameAndType 312 161), (0, u "execOut"), (0, .methodref 8 314), (0, .nameAndType 315 161), (0, u "execReturn"), (0, .methodref 8 317), (0, .nameAndType 318 319), (0, u "execCond"), (0, u "(IZ)I"), (0, .methodref 8 321), (0, .nameAndType 322 161), (0, u "execRbrace"), (0, .methodref 8 324), (0, .nameAndType 325 161), (0, u "execIndexStore"), (0, .methodref 8 327), (0, .nameAndType 328 161), (0, u "evalExpr"), (0, .methodref 8 330), (0, .nameAndType 331 255), (0, u "storeVar"), (0, .methodref 8 333), (0, .nameAndType 334 149), (0, u "writeCell"), (0, .methodref 8 336), (0, .nameAndType 337 295), (0, u "doReturn"), (0, .methodref 8 339), (0, .nameAndType 340 262), (0, u "tick"), (0, u "K_NUM"), (2, u "K_VAR"), (1, u "K_FUNC"), (1, u "K_FN"), (1, u "K_VARKW"), (1, u "K_ARR"), (1, u "K_WHILE"), (1, u "K_IF"), (1, u "K_RETURN"), (1, u "K_OUT"), (1, u "K_LPAR"), (1, u "K_RPAR"), (1, u "K_LBRACE"), (1, u "K_RBRACE"), (1, u "K_LBRACK"), (1, u "K_RBRACK"), (1, u "K_SEMI"), (1, u "K_COMMA"), (1, u "K_ASSIGN"), (1, u "K_PLUS"), (1, u "K_MINUS"), (1, u "K_STAR"), (1, u "K_AMP"), (1, u "K_LT"), (1, u "K_EQ"), (1, u "R_NONE"), (1, u "R_DONE"), (1, u "T_TYPE"), (0, u "T_BOUNDS"), (0, u "T_DANGLING"), (0, u "T_ARITH"), (0, u "T_STACK"), (0, u "T_OUTPUT"), (0, u "T_FUEL"), (0, u "RK_NONE"), (0, u "RK_INT"), (0, u "RK_PTR"), (0, u "MAX_TOKENS"), (1, u "MAX_OUT"), (0, u "FUEL"), (4, u "tok"), (0, u "(II)Z"), (0, u "tokenCount"), (0, u "compile"), (0, u "run"), (0, u "frames"), (0, u "resultKind"), (0, u "resultValue"), (0, u "resultSize"), (0, u "outCount"), (0, u "outValue")] 2

def k2c0 : Code := { maxStack := 2, maxLocals := 5, code := prog_1_method_1_code, exceptionTable := #[], attributes := #[] }
def k2m0 : Method := { name := "<init>", desc := "(II)V", sig := { parameters := [.int, .int], returnType := none }, accessFlags := 1, code := some k2c0 }
def k2c1 : Code := { maxStack := 3, maxLocals := 4, code := prog_1_method_3_code, exceptionTable := #[], attributes := #[] }
def k2m1 : Method := { name := "tok", desc := "(II)Z", sig := { parameters := [.int, .int], returnType := some .boolean }, accessFlags := 1, code := some k2c1 }
def k2c2 : Code := { maxStack := 1, maxLocals := 1, code := prog_1_method_4_code, exceptionTable := #[], attributes := #[] }
def k2m2 : Method := { name := "tokenCount", desc := "()I", sig := { parameters := [], returnType := some .int }, accessFlags := 1, code := some k2c2 }
def k2c3 : Code := { maxStack := 2, maxLocals := 1, code := prog_1_method_5_code, exceptionTable := #[], attributes := #[] }
def k2m3 : Method := { name := "compile", desc := "()Z", sig := { parameters := [], returnType := some .boolean }, accessFlags := 1, code := some k2c3 }
def k2c4 : Code := { maxStack := 4, maxLocals := 3, code := prog_1_method_6_code, exceptionTable := #[], attributes := #[] }
def k2m4 : Method := { name := "run", desc := "()I", sig := { parameters := [], returnType := some .int }, accessFlags := 1, code := some k2c4 }
def k2c5 : Code := { maxStack := 1, maxLocals := 1, code := prog_1_method_7_code, exceptionTable := #[], attributes := #[] }
def k2m5 : Method := { name := "status", desc := "()I", sig := { parameters := [], returnType := some .int }, accessFlags := 1, code := some k2c5 }
def k2c6 : Code := { maxStack := 1, maxLocals := 1, code := prog_1_method_8_code, exceptionTable := #[], attributes := #[] }
def k2m6 : Method := { name := "trapSite", desc := "()I", sig := { parameters := [], returnType := some .int }, accessFlags := 1, code := some k2c6 }
def k2c7 : Code := { maxStack := 1, maxLocals := 1, code := prog_1_method_9_code, exceptionTable := #[], attributes := #[] }
def k2m7 : Method := { name := "frames", desc := "()I", sig := { parameters := [], returnType := some .int }, accessFlags := 1, code := some k2c7 }
def k2c8 : Code := { maxStack := 1, maxLocals := 1, code := prog_1_method_10_code, exceptionTable := #[], attributes := #[] }
def k2m8 : Method := { name := "resultKind", desc := "()I", sig := { parameters := [], returnType := some .int }, accessFlags := 1, code := some k2c8 }
def k2c9 : Code := { maxStack := 1, maxLocals := 1, code := prog_1_method_11_code, exceptionTable := #[], attributes := #[] }
def k2m9 : Method := { name := "resultValue", desc := "()I", sig := { parameters := [], returnType := some .int }, accessFlags := 1, code := some k2c9 }
def k2c10 : Code := { maxStack := 1, maxLocals := 1, code := prog_1_method_12_code, exceptionTable := #[], attributes := #[] }
def k2m10 : Method := { name := "resultSize", desc := "()I", sig := { parameters := [], returnType := some .int }, accessFlags := 1, code := some k2c10 }
def k2c11 : Code := { maxStack := 1, maxLocals := 1, code := prog_1_method_13_code, exceptionTable := #[], attributes := #[] }
def k2m11 : Method := { name := "outCount", desc := "()I", sig := { parameters := [], returnType := some .int }, accessFlags := 1, code := some k2c11 }
def k2c12 : Code := { maxStack := 2, maxLocals := 2, code := prog_1_method_14_code, exceptionTable := #[], attributes := #[] }
def k2m12 : Method := { name := "outValue", desc := "(I)I", sig := { parameters := [.int], returnType := some .int }, accessFlags := 1, code := some k2c12 }
def k2c13 : Code := { maxStack := 2, maxLocals := 1, code := prog_1_method_15_code, exceptionTable := #[], attributes := #[] }
def k2m13 : Method := { name := "clearResults", desc := "()V", sig := { parameters := [], returnType := none }, accessFlags := 2, code := some k2c13 }
def k2c14 : Code := { maxStack := 2, maxLocals := 2, code := prog_1_method_16_code, exceptionTable := #[], attributes := #[] }
def k2m14 : Method := { name := "kindAt", desc := "(I)I", sig := { parameters := [.int], returnType := some .int }, accessFlags := 2, code := some k2c14 }
def k2c15 : Code := { maxStack := 2, maxLocals := 2, code := prog_1_method_17_code, exceptionTable := #[], attributes := #[] }
def k2m15 : Method := { name := "valAt", desc := "(I)I", sig := { parameters := [.int], returnType := some .int }, accessFlags := 2, code := some k2c15 }
def k2c16 : Code := { maxStack := 3, maxLocals := 2, code := prog_1_method_18_code, exceptionTable := #[], attributes := #[] }
def k2m16 : Method := { name := "parseProgram", desc := "()Z", sig := { parameters := [], returnType := some .boolean }, accessFlags := 2, code := some k2c16 }
def k2c17 : Code := { maxStack := 2, maxLocals := 4, code := prog_1_method_19_code, exceptionTable := #[], attributes := #[] }
def k2m17 : Method := { name := "checkCalls", desc := "()Z", sig := { parameters := [], returnType := some .boolean }, accessFlags := 2, code := some k2c17 }
def k2c18 : Code := { maxStack := 3, maxLocals := 2, code := prog_1_method_20_code, exceptionTable := #[], attributes := #[] }
def k2m18 : Method := { name := "expect", desc := "(I)V", sig := { parameters := [.int], returnType := none }, accessFlags := 2, code := some k2c18 }
def k2c19 : Code := { maxStack := 3, maxLocals := 3, code := prog_1_method_21_code, exceptionTable := #[], attributes := #[] }
def k2m19 : Method := { name := "parseFunc", desc := "()V", sig := { parameters := [], returnType := none }, accessFlags := 2, code := some k2c19 }
def k2c20 : Code := { maxStack := 4, maxLocals := 2, code := prog_1_method_22_code, exceptionTable := #[], attributes := #[] }
def k2m20 : Method := { name := "parseParams", desc := "()V", sig := { parameters := [], returnType := none }, accessFlags := 2, code := some k2c20 }
def k2c21 : Code := { maxStack := 4, maxLocals := 5, code := prog_1_method_23_code, exceptionTable := #[], attributes := #[] }
def k2m21 : Method := { name := "parseDecls", desc := "()V", sig := { parameters := [], returnType := none }, accessFlags := 2, code := some k2c21 }
def k2c22 : Code := { maxStack := 3, maxLocals := 2, code := prog_1_method_24_code, exceptionTable := #[], attributes := #[] }
def k2m22 : Method := { name := "declName", desc := "()I", sig := { parameters := [], returnType := some .int }, accessFlags := 2, code := some k2c22 }
def k2c23 : Code := { maxStack := 3, maxLocals := 2, code := prog_1_method_25_code, exceptionTable := #[], attributes := #[] }
def k2m23 : Method := { name := "arrSize", desc := "()I", sig := { parameters := [], returnType := some .int }, accessFlags := 2, code := some k2c23 }
def k2c24 : Code := { maxStack := 4, maxLocals := 6, code := prog_1_method_26_code, exceptionTable := #[], attributes := #[] }
def k2m24 : Method := { name := "addName", desc := "(IIZ)V", sig := { parameters := [.int, .int, .boolean], returnType := none }, accessFlags := 2, code := some k2c24 }
def k2c25 : Code := { maxStack := 3, maxLocals := 5, code := prog_1_method_27_code, exceptionTable := #[], attributes := #[] }
def k2m25 : Method := { name := "parseBody", desc := "()V", sig := { parameters := [], returnType := none }, accessFlags := 2, code := some k2c25 }
def k2c26 : Code := { maxStack := 3, maxLocals := 2, code := prog_1_method_28_code, exceptionTable := #[], attributes := #[] }
def k2m26 : Method := { name := "parseStmt", desc := "()V", sig := { parameters := [], returnType := none }, accessFlags := 2, code := some k2c26 }
def k2c27 : Code := { maxStack := 3, maxLocals := 2, code := prog_1_method_29_code, exceptionTable := #[], attributes := #[] }
def k2m27 : Method := { name := "parseVarStmt", desc := "()V", sig := { parameters := [], returnType := none }, accessFlags := 2, code := some k2c27 }
def k2c28 : Code := { maxStack := 3, maxLocals := 2, code := prog_1_method_30_code, exceptionTable := #[], attributes := #[] }
def k2m28 : Method := { name := "useVar", desc := "()I", sig := { parameters := [], returnType := some .int }, accessFlags := 2, code := some k2c28 }
def k2c29 : Code := { maxStack := 3, maxLocals := 2, code := prog_1_method_32_code, exceptionTable := #[], attributes := #[] }
def k2m29 : Method := { name := "parseExpr", desc := "()V", sig := { parameters := [], returnType := none }, accessFlags := 2, code := some k2c29 }
def k2c30 : Code := { maxStack := 3, maxLocals := 3, code := prog_1_method_33_code, exceptionTable := #[], attributes := #[] }
def k2m30 : Method := { name := "parseSum", desc := "()V", sig := { parameters := [], returnType := none }, accessFlags := 2, code := some k2c30 }
def k2c31 : Code := { maxStack := 3, maxLocals := 2, code := prog_1_method_34_code, exceptionTable := #[], attributes := #[] }
def k2m31 : Method := { name := "parseTerm", desc := "()V", sig := { parameters := [], returnType := none }, accessFlags := 2, code := some k2c31 }
def k2c32 : Code := { maxStack := 3, maxLocals := 2, code := prog_1_method_35_code, exceptionTable := #[], attributes := #[] }
def k2m32 : Method := { name := "parseOperand", desc := "()V", sig := { parameters := [], returnType := none }, accessFlags := 2, code := some k2c32 }
def k2c33 : Code := { maxStack := 3, maxLocals := 1, code := prog_1_method_36_code, exceptionTable := #[], attributes := #[] }
def k2m33 : Method := { name := "parseAtom", desc := "()V", sig := { parameters := [], returnType := none }, accessFlags := 2, code := some k2c33 }
def k2c34 : Code := { maxStack := 2, maxLocals := 3, code := prog_1_method_37_code, exceptionTable := #[], attributes := #[] }
def k2m34 : Method := { name := "trap", desc := "(II)V", sig := { parameters := [.int, .int], returnType := none }, accessFlags := 2, code := some k2c34 }
def k2c35 : Code := { maxStack := 3, maxLocals := 2, code := prog_1_method_38_code, exceptionTable := #[], attributes := #[] }
def k2m35 : Method := { name := "tick", desc := "(I)Z", sig := { parameters := [.int], returnType := some .boolean }, accessFlags := 2, code := some k2c35 }
def k2c36 : Code := { maxStack := 3, maxLocals := 5, code := prog_1_method_39_code, exceptionTable := #[], attributes := #[] }
def k2m36 : Method := { name := "setReg", desc := "(IIII)V", sig := { parameters := [.int, .int, .int, .int], returnType := none }, accessFlags := 2, code := some k2c36 }
def k2c37 : Code := { maxStack := 6, maxLocals := 3, code := prog_1_method_40_code, exceptionTable := #[], attributes := #[] }
def k2m37 : Method := { name := "copyReg", desc := "(II)V", sig := { parameters := [.int, .int], returnType := none }, accessFlags := 2, code := some k2c37 }
def k2c38 : Code := { maxStack := 4, maxLocals := 4, code := prog_1_method_41_code, exceptionTable := #[], attributes := #[] }
def k2m38 : Method := { name := "objOf", desc := "(I)I", sig := { parameters := [.int], returnType := some .int }, accessFlags := 2, code := some k2c38 }
def k2c39 : Code := { maxStack := 4, maxLocals := 3, code := prog_1_method_42_code, exceptionTable := #[], attributes := #[] }
def k2m39 : Method := { name := "isArr", desc := "(I)Z", sig := { parameters := [.int], returnType := some .boolean }, accessFlags := 2, code := some k2c39 }
def k2c40 : Code := { maxStack := 5, maxLocals := 4, code := prog_1_method_43_code, exceptionTable := #[], attributes := #[] }
def k2m40 : Method := { name := "loadVar", desc := "(II)V", sig := { parameters := [.int, .int], returnType := none }, accessFlags := 2, code := some k2c40 }
def k2c41 : Code := { maxStack := 5, maxLocals := 3, code := prog_1_method_44_code, exceptionTable := #[], attributes := #[] }
def k2m41 : Method := { name := "loadAtom", desc := "(II)V", sig := { parameters := [.int, .int], returnType := none }, accessFlags := 2, code := some k2c41 }
def k2c42 : Code := { maxStack := 3, maxLocals := 6, code := prog_1_method_45_code, exceptionTable := #[], attributes := #[] }
def k2m42 : Method := { name := "storeVar", desc := "(IIII)V", sig := { parameters := [.int, .int, .int, .int], returnType := none }, accessFlags := 2, code := some k2c42 }
def k2c43 : Code := { maxStack := 7, maxLocals := 3, code := prog_1_method_46_code, exceptionTable := #[], attributes := #[] }
def k2m43 : Method := { name := "readCell", desc := "(II)V", sig := { parameters := [.int, .int], returnType := none }, accessFlags := 2, code := some k2c43 }
def k2c44 : Code := { maxStack := 4, maxLocals := 3, code := prog_1_method_47_code, exceptionTable := #[], attributes := #[] }
def k2m44 : Method := { name := "writeCell", desc := "(II)V", sig := { parameters := [.int, .int], returnType := none }, accessFlags := 2, code := some k2c44 }
def k2c45 : Code := { maxStack := 4, maxLocals := 10, code := prog_1_method_48_code, exceptionTable := #[], attributes := #[] }
def k2m45 : Method := { name := "check", desc := "(IIIIII)I", sig := { parameters := [.int, .int, .int, .int, .int, .int], returnType := some .int }, accessFlags := 2, code := some k2c45 }
def k2c46 : Code := { maxStack := 5, maxLocals := 5, code := prog_1_method_49_code, exceptionTable := #[], attributes := #[] }
def k2m46 : Method := { name := "evalExpr", desc := "(I)I", sig := { parameters := [.int], returnType := some .int }, accessFlags := 2, code := some k2c46 }
def k2c47 : Code := { maxStack := 5, maxLocals := 6, code := prog_1_method_50_code, exceptionTable := #[], attributes := #[] }
def k2m47 : Method := { name := "evalSum", desc := "(I)I", sig := { parameters := [.int], returnType := some .int }, accessFlags := 2, code := some k2c47 }
def k2c48 : Code := { maxStack := 5, maxLocals := 5, code := prog_1_method_51_code, exceptionTable := #[], attributes := #[] }
def k2m48 : Method := { name := "evalTerm", desc := "(I)I", sig := { parameters := [.int], returnType := some .int }, accessFlags := 2, code := some k2c48 }
def k2c49 : Code := { maxStack := 8, maxLocals := 7, code := prog_1_method_52_code, exceptionTable := #[], attributes := #[] }
def k2m49 : Method := { name := "evalOperand", desc := "(I)I", sig := { parameters := [.int], returnType := some .int }, accessFlags := 2, code := some k2c49 }
def k2c50 : Code := { maxStack := 7, maxLocals := 11, code := prog_1_method_53_code, exceptionTable := #[], attributes := #[] }
def k2m50 : Method := { name := "binary", desc := "(IIII)Z", sig := { parameters := [.int, .int, .int, .int], returnType := some .boolean }, accessFlags := 2, code := some k2c50 }
def k2c51 : Code := { maxStack := 2, maxLocals := 4, code := prog_1_method_54_code, exceptionTable := #[], attributes := #[] }
def k2m51 : Method := { name := "intOp", desc := "(III)I", sig := { parameters := [.int, .int, .int], returnType := some .int }, accessFlags := 2, code := some k2c51 }
def k2c52 : Code := { maxStack := 5, maxLocals := 7, code := prog_1_method_55_code, exceptionTable := #[], attributes := #[] }
def k2m52 : Method := { name := "movePtr", desc := "(IIJI)Z", sig := { parameters := [.int, .int, .long, .int], returnType := some .boolean }, accessFlags := 2, code := some k2c52 }
def k2c53 : Code := { maxStack := 3, maxLocals := 3, code := prog_1_method_56_code, exceptionTable := #[], attributes := #[] }
def k2m53 : Method := { name := "step", desc := "(I)I", sig := { parameters := [.int], returnType := some .int }, accessFlags := 2, code := some k2c53 }
def k2c54 : Code := { maxStack := 6, maxLocals := 4, code := prog_1_method_57_code, exceptionTable := #[], attributes := #[] }
def k2m54 : Method := { name := "execVarStmt", desc := "(I)I", sig := { parameters := [.int], returnType := some .int }, accessFlags := 2, code := some k2c54 }
def k2c55 : Code := { maxStack := 8, maxLocals := 9, code := prog_1_method_58_code, exceptionTable := #[], attributes := #[] }
def k2m55 : Method := { name := "execIndexStore", desc := "(I)I", sig := { parameters := [.int], returnType := some .int }, accessFlags := 2, code := some k2c55 }
def k2c56 : Code := { maxStack := 7, maxLocals := 7, code := prog_1_method_59_code, exceptionTable := #[], attributes := #[] }
def k2m56 : Method := { name := "execStarStore", desc := "(I)I", sig := { parameters := [.int], returnType := some .int }, accessFlags := 2, code := some k2c56 }
def k2c57 : Code := { maxStack := 4, maxLocals := 3, code := prog_1_method_60_code, exceptionTable := #[], attributes := #[] }
def k2m57 : Method := { name := "execOut", desc := "(I)I", sig := { parameters := [.int], returnType := some .int }, accessFlags := 2, code := some k2c57 }
def k2c58 : Code := { maxStack := 5, maxLocals := 3, code := prog_1_method_61_code, exceptionTable := #[], attributes := #[] }
def k2m58 : Method := { name := "execReturn", desc := "(I)I", sig := { parameters := [.int], returnType := some .int }, accessFlags := 2, code := some k2c58 }
def k2c59 : Code := { maxStack := 3, maxLocals := 4, code := prog_1_method_62_code, exceptionTable := #[], attributes := #[] }
def k2m59 : Method := { name := "execCond", desc := "(IZ)I", sig := { parameters := [.int, .boolean], returnType := some .int }, accessFlags := 2, code := some k2c59 }
def k2c60 : Code := { maxStack := 4, maxLocals := 3, code := prog_1_method_63_code, exceptionTable := #[], attributes := #[] }
def k2m60 : Method := { name := "execRbrace", desc := "(I)I", sig := { parameters := [.int], returnType := some .int }, accessFlags := 2, code := some k2c60 }
def k2c61 : Code := { maxStack := 4, maxLocals := 12, code := prog_1_method_65_code, exceptionTable := #[], attributes := #[] }
def k2m61 : Method := { name := "pushFrame", desc := "(III)V", sig := { parameters := [.int, .int, .int], returnType := none }, accessFlags := 2, code := some k2c61 }
def k2c62 : Code := { maxStack := 5, maxLocals := 7, code := prog_1_method_66_code, exceptionTable := #[], attributes := #[] }
def k2m62 : Method := { name := "doReturn", desc := "(III)I", sig := { parameters := [.int, .int, .int], returnType := some .int }, accessFlags := 2, code := some k2c62 }
/-- FatPointerC -/
def k2 : Class := { plain "FatPointerC" (some 0) with
  accessFlags := 49
  interfaces := #[]
  cf := some (fileOf pool2 8 #[] #[{ accessFlags := 1, nameIndex := 5, descriptorIndex := 149, attributes := #[] }, { accessFlags := 1, nameIndex := 414, descriptorIndex := 415, attributes := #[] }, { accessFlags := 1, nameIndex := 416, descriptorIndex := 221, attributes := #[] }, { accessFlags := 1, nameIndex := 417, descriptorIndex := 130, attributes := #[] }, { accessFlags := 1, nameIndex := 418, descriptorIndex := 221, attributes := #[] }, { accessFlags := 1, nameIndex := 152, descriptorIndex := 221, attributes := #[] }, { accessFlags := 1, nameIndex := 164, descriptorIndex := 221, attributes := #[] }, { accessFlags := 1, nameIndex := 419, descriptorIndex := 221, attributes := #[] }, { accessFlags := 1, nameIndex := 420, descriptorIndex := 221, attributes := #[] }, { accessFlags := 1, nameIndex := 421, descriptorIndex := 221, attributes := #[] }, { accessFlags := 1, nameIndex := 422, descriptorIndex := 221, attributes := #[] }, { accessFlags := 1, nameIndex := 423, descriptorIndex := 221, attributes := #[] }, { accessFlags := 1, nameIndex := 424, descriptorIndex := 161, attributes := #[] }, { accessFlags := 2, nameIndex := 119, descriptorIndex := 6, attributes := #[] }, { accessFlags := 2, nameIndex := 194, descriptorIndex := 161, attributes := #[] }, { accessFlags := 2, nameIndex := 201, descriptorIndex := 161, attributes := #[] }, { accessFlags := 2, nameIndex := 129, descriptorIndex := 130, attributes := #[] }, { accessFlags := 2, nameIndex := 191, descriptorIndex := 130, attributes := #[] }, { accessFlags := 2, nameIndex := 197, descriptorIndex := 198, attributes := #[] }, { accessFlags := 2, nameIndex := 188, descriptorIndex := 6, attributes := #[] }, { accessFlags := 2, nameIndex := 207, descriptorIndex := 6, attributes := #[] }, { accessFlags := 2, nameIndex := 210, descriptorIndex := 6, attributes := #[] }, { accessFlags := 2, nameIndex := 220, descriptorIndex := 221, attributes := #[] }, { accessFlags := 2, nameIndex := 224, descriptorIndex := 221, attributes := #[] }, { accessFlags := 2, nameIndex := 216, descriptorIndex := 217, attributes := #[] }, { accessFlags := 2, nameIndex := 213, descriptorIndex := 6, attributes := #[] }, { accessFlags := 2, nameIndex := 227, descriptorIndex := 6, attributes := #[] }, { accessFlags := 2, nameIndex := 233, descriptorIndex := 6, attributes := #[] }, { accessFlags := 2, nameIndex := 236, descriptorIndex := 221, attributes := #[] }, { accessFlags := 2, nameIndex := 230, descriptorIndex := 6, attributes := #[] }, { accessFlags := 2, nameIndex := 245, descriptorIndex := 6, attributes := #[] }, { accessFlags := 2, nameIndex := 248, descriptorIndex := 6, attributes := #[] }, { accessFlags := 2, nameIndex := 251, descriptorIndex := 6, attributes := #[] }, { accessFlags := 2, nameIndex := 242, descriptorIndex := 6, attributes := #[] }, { accessFlags := 2, nameIndex := 148, descriptorIndex := 149, attributes := #[] }, { accessFlags := 2, nameIndex := 340, descriptorIndex := 262, attributes := #[] }, { accessFlags := 2, nameIndex := 254, descriptorIndex := 255, attributes := #[] }, { accessFlags := 2, nameIndex := 274, descriptorIndex := 149, attributes := #[] }, { accessFlags := 2, nameIndex := 258, descriptorIndex := 161, attributes := #[] }, { accessFlags := 2, nameIndex := 261, descriptorIndex := 262, attributes := #[] }, { accessFlags := 2, nameIndex := 268, descriptorIndex := 149, attributes := #[] }, { accessFlags := 2, nameIndex := 291, descriptorIndex := 149, attributes := #[] }, { accessFlags := 2, nameIndex := 331, descriptorIndex := 255, attributes := #[] }, { accessFlags := 2, nameIndex := 265, descriptorIndex := 149, attributes := #[] }, { accessFlags := 2, nameIndex := 334, descriptorIndex := 149, attributes := #[] }, { accessFlags := 2, nameIndex := 287, descriptorIndex := 288, attributes := #[] }, { accessFlags := 2, nameIndex := 328, descriptorIndex := 161, attributes := #[] }, { accessFlags := 2, nameIndex := 271, descriptorIndex := 161, attributes := #[] }, { accessFlags := 2, nameIndex := 281, descriptorIndex := 161, attributes := #[] }, { accessFlags := 2, nameIndex := 284, descriptorIndex := 161, attributes := #[] }, { accessFlags := 2, nameIndex := 277, descriptorIndex := 278, attributes := #[] }, { accessFlags := 2, nameIndex := 294, descriptorIndex := 295, attributes := #[] }, { accessFlags := 2, nameIndex := 298, descriptorIndex := 299, attributes := #[] }, { accessFlags := 2, nameIndex := 160, descriptorIndex := 161, attributes := #[] }, { accessFlags := 2, nameIndex := 302, descriptorIndex := 161, attributes := #[] }, { accessFlags := 2, nameIndex := 325, descriptorIndex := 161, attributes := #[] }, { accessFlags := 2, nameIndex := 305, descriptorIndex := 161, attributes := #[] }, { accessFlags := 2, nameIndex := 312, descriptorIndex := 161, attributes := #[] }, { accessFlags := 2, nameIndex := 315, descriptorIndex := 161, attributes := #[] }, { accessFlags := 2, nameIndex := 318, descriptorIndex := 319, attributes := #[] }, { accessFlags := 2, nameIndex := 322, descriptorIndex := 161, attributes := #[] }, { accessFlags := 2, nameIndex := 155, descriptorIndex := 156, attributes := #[] }, { accessFlags := 2, nameIndex := 337, descriptorIndex := 295, attributes := #[] }] 49 2 #[] #[{ accessFlags := 25, nameIndex := 341, descriptorIndex := 113, attributes := #[] }, { accessFlags := 25, nameIndex := 344, descriptorIndex := 113, attributes := #[] }, { accessFlags := 25, nameIndex := 346, descriptorIndex := 113, attributes := #[] }, { accessFlags := 25, nameIndex := 348, descriptorIndex := 113, attributes := #[] }, { accessFlags := 25, nameIndex := 350, descriptorIndex := 113, attributes := #[] }, { accessFlags := 25, nameIndex := 352, descriptorIndex := 113, attributes := #[] }, { accessFlags := 25, nameIndex := 354, descriptorIndex := 113, attributes := #[] }, { accessFlags := 25, nameIndex := 356, descriptorIndex := 113, attributes := #[] }, { accessFlags := 25, nameIndex := 358, descriptorIndex := 113, attributes := #[] }, { accessFlags := 25, nameIndex := 360, descriptorIndex := 113, attributes := #[] }, { accessFlags := 25, nameIndex := 362, descriptorIndex := 113, attributes := #[] }, { accessFlags := 25, nameIndex := 364, descriptorIndex := 113, attributes := #[] }, { accessFlags := 25, nameIndex := 366, descriptorIndex := 113, attributes := #[] }, { accessFlags := 25, nameIndex := 368, descriptorIndex := 113, attributes := #[] }, { accessFlags := 25, nameIndex := 370, descriptorIndex := 113, attributes := #[] }, { accessFlags := 25, nameIndex := 372, descriptorIndex := 113, attributes := #[] }, { accessFlags := 25, nameIndex := 374, descriptorIndex := 113, attributes := #[] }, { accessFlags := 25, nameIndex := 376, descriptorIndex := 113, attributes := #[] }, { accessFlags := 25, nameIndex := 378, descriptorIndex := 113, attributes := #[] }, { accessFlags := 25, nameIndex := 380, descriptorIndex := 113, attributes := #[] }, { accessFlags := 25, nameIndex := 382, descriptorIndex := 113, attributes := #[] }, { accessFlags := 25, nameIndex := 384, descriptorIndex := 113, attributes := #[] }, { accessFlags := 25, nameIndex := 386, descriptorIndex := 113, attributes := #[] }, { accessFlags := 25, nameIndex := 388, descriptorIndex := 113, attributes := #[] }, { accessFlags := 25, nameIndex := 390, descriptorIndex := 113, attributes := #[] }, { accessFlags := 25, nameIndex := 392, descriptorIndex := 113, attributes := #[] }, { accessFlags := 25, nameIndex := 394, descriptorIndex := 113, attributes := #[] }, { accessFlags := 25, nameIndex := 396, descriptorIndex := 113, attributes := #[] }, { accessFlags := 25, nameIndex := 397, descriptorIndex := 113, attributes := #[] }, { accessFlags := 25, nameIndex := 398, descriptorIndex := 113, attributes := #[] }, { accessFlags := 25, nameIndex := 399, descriptorIndex := 113, attributes := #[] }, { accessFlags := 25, nameIndex := 400, descriptorIndex := 113, attributes := #[] }, { accessFlags := 25, nameIndex := 401, descriptorIndex := 113, attributes := #[] }, { accessFlags := 25, nameIndex := 402, descriptorIndex := 113, attributes := #[] }, { accessFlags := 25, nameIndex := 403, descriptorIndex := 113, attributes := #[] }, { accessFlags := 25, nameIndex := 404, descriptorIndex := 113, attributes := #[] }, { accessFlags := 25, nameIndex := 405, descriptorIndex := 113, attributes := #[] }, { accessFlags := 25, nameIndex := 406, descriptorIndex := 113, attributes := #[] }, { accessFlags := 25, nameIndex := 408, descriptorIndex := 113, attributes := #[] }, { accessFlags := 25, nameIndex := 409, descriptorIndex := 113, attributes := #[] }, { accessFlags := 2, nameIndex := 112, descriptorIndex := 113, attributes := #[] }, { accessFlags := 2, nameIndex := 116, descriptorIndex := 113, attributes := #[] }, { accessFlags := 2, nameIndex := 122, descriptorIndex := 113, attributes := #[] }, { accessFlags := 2, nameIndex := 11, descriptorIndex := 12, attributes := #[] }, { accessFlags := 2, nameIndex := 15, descriptorIndex := 12, attributes := #[] }, { accessFlags := 2, nameIndex := 125, descriptorIndex := 126, attributes := #[] }, { accessFlags := 2, nameIndex := 152, descriptorIndex := 113, attributes := #[] }, { accessFlags := 2, nameIndex := 164, descriptorIndex := 113, attributes := #[] }, { accessFlags := 2, nameIndex := 167, descriptorIndex := 113, attributes := #[] }, { accessFlags := 2, nameIndex := 170, descriptorIndex := 113, attributes := #[] }, { accessFlags := 2, nameIndex := 173, descriptorIndex := 113, attributes := #[] }, { accessFlags := 2, nameIndex := 176, descriptorIndex := 113, attributes := #[] }, { accessFlags := 2, nameIndex := 179, descriptorIndex := 113, attributes := #[] }, { accessFlags := 2, nameIndex := 18, descriptorIndex := 12, attributes := #[] }, { accessFlags := 2, nameIndex := 21, descriptorIndex := 22, attributes := #[] }, { accessFlags := 2, nameIndex := 25, descriptorIndex := 12, attributes := #[] }, { accessFlags := 2, nameIndex := 28, descriptorIndex := 12, attributes := #[] }, { accessFlags := 2, nameIndex := 31, descriptorIndex := 12, attributes := #[] }, { accessFlags := 2, nameIndex := 34, descriptorIndex := 12, attributes := #[] }, { accessFlags := 2, nameIndex := 37, descriptorIndex := 12, attributes := #[] }, { accessFlags := 2, nameIndex := 40, descriptorIndex := 12, attributes := #[] }, { accessFlags := 2, nameIndex := 43, descriptorIndex := 22, attributes := #[] }, { accessFlags := 2, nameIndex := 46, descriptorIndex := 12, attributes := #[] }, { accessFlags := 2, nameIndex := 49, descriptorIndex := 12, attributes := #[] }, { accessFlags := 2, nameIndex := 52, descriptorIndex := 12, attributes := #[] }, { accessFlags := 2, nameIndex := 55, descriptorIndex := 12, attributes := #[] }, { accessFlags := 2, nameIndex := 185, descriptorIndex := 113, attributes := #[] }, { accessFlags := 2, nameIndex := 182, descriptorIndex := 126, attributes := #[] }, { accessFlags := 2, nameIndex := 204, descriptorIndex := 113, attributes := #[] }, { accessFlags := 2, nameIndex := 58, descriptorIndex := 12, attributes := #[] }, { accessFlags := 2, nameIndex := 61, descriptorIndex := 12, attributes := #[] }, { accessFlags := 2, nameIndex := 64, descriptorIndex := 12, attributes := #[] }, { accessFlags := 2, nameIndex := 67, descriptorIndex := 12, attributes := #[] }, { accessFlags := 2, nameIndex := 70, descriptorIndex := 12, attributes := #[] }, { accessFlags := 2, nameIndex := 73, descriptorIndex := 12, attributes := #[] }, { accessFlags := 2, nameIndex := 76, descriptorIndex := 22, attributes := #[] }, { accessFlags := 2, nameIndex := 139, descriptorIndex := 113, attributes := #[] }, { accessFlags := 2, nameIndex := 79, descriptorIndex := 12, attributes := #[] }, { accessFlags := 2, nameIndex := 82, descriptorIndex := 12, attributes := #[] }, { accessFlags := 2, nameIndex := 85, descriptorIndex := 12, attributes := #[] }, { accessFlags := 2, nameIndex := 88, descriptorIndex := 12, attributes := #[] }, { accessFlags := 2, nameIndex := 91, descriptorIndex := 12, attributes := #[] }, { accessFlags := 2, nameIndex := 133, descriptorIndex := 113, attributes := #[] }, { accessFlags := 2, nameIndex := 136, descriptorIndex := 113, attributes := #[] }, { accessFlags := 2, nameIndex := 142, descriptorIndex := 113, attributes := #[] }, { accessFlags := 2, nameIndex := 145, descriptorIndex := 126, attributes := #[] }, { accessFlags := 2, nameIndex := 94, descriptorIndex := 12, attributes := #[] }, { accessFlags := 2, nameIndex := 97, descriptorIndex := 12, attributes := #[] }, { accessFlags := 2, nameIndex := 100, descriptorIndex := 12, attributes := #[] }, { accessFlags := 2, nameIndex := 103, descriptorIndex := 12, attributes := #[] }, { accessFlags := 2, nameIndex := 106, descriptorIndex := 12, attributes := #[] }, { accessFlags := 2, nameIndex := 109, descriptorIndex := 12, attributes := #[] }])
  fields := #[{ name := "K_NUM", type := .int, accessFlags := 25, slot := 0, constantValue := 0 }, { name := "K_VAR", type := .int, accessFlags := 25, slot := 1, constantValue := 0 }, { name := "K_FUNC", type := .int, accessFlags := 25, slot := 2, constantValue := 0 }, { name := "K_FN", type := .int, accessFlags := 25, slot := 3, constantValue := 0 }, { name := "K_VARKW", type := .int, accessFlags := 25, slot := 4, constantValue := 0 }, { name := "K_ARR", type := .int, accessFlags := 25, slot := 5, constantValue := 0 }, { name := "K_WHILE", type := .int, accessFlags := 25, slot := 6, constantValue := 0 }, { name := "K_IF", type := .int, accessFlags := 25, slot := 7, constantValue := 0 }, { name := "K_RETURN", type := .int, accessFlags := 25, slot := 8, constantValue := 0 }, { name := "K_OUT", type := .int, accessFlags := 25, slot := 9, constantValue := 0 }, { name := "K_LPAR", type := .int, accessFlags := 25, slot := 10, constantValue := 0 }, { name := "K_RPAR", type := .int, accessFlags := 25, slot := 11, constantValue := 0 }, { name := "K_LBRACE", type := .int, accessFlags := 25, slot := 12, constantValue := 0 }, { name := "K_RBRACE", type := .int, accessFlags := 25, slot := 13, constantValue := 0 }, { name := "K_LBRACK", type := .int, accessFlags := 25, slot := 14, constantValue := 0 }, { name := "K_RBRACK", type := .int, accessFlags := 25, slot := 15, constantValue := 0 }, { name := "K_SEMI", type := .int, accessFlags := 25, slot := 16, constantValue := 0 }, { name := "K_COMMA", type := .int, accessFlags := 25, slot := 17, constantValue := 0 }, { name := "K_ASSIGN", type := .int, accessFlags := 25, slot := 18, constantValue := 0 }, { name := "K_PLUS", type := .int, accessFlags := 25, slot := 19, constantValue := 0 }, { name := "K_MINUS", type := .int, accessFlags := 25, slot := 20, constantValue := 0 }, { name := "K_STAR", type := .int, accessFlags := 25, slot := 21, constantValue := 0 }, { name := "K_AMP", type := .int, accessFlags := 25, slot := 22, constantValue := 0 }, { name := "K_LT", type := .int, accessFlags := 25, slot := 23, constantValue := 0 }, { name := "K_EQ", type := .int, accessFlags := 25, slot := 24, constantValue := 0 }, { name := "R_NONE", type := .int, accessFlags := 25, slot := 25, constantValue := 0 }, { name := "R_DONE", type := .int, accessFlags := 25, slot := 26, constantValue := 0 }, { name := "T_TYPE", type := .int, accessFlags := 25, slot := 27, constantValue := 0 }, { name := "T_BOUNDS", type := .int, accessFlags := 25, slot := 28, constantValue := 0 }, { name := "T_DANGLING", type := .int, accessFlags := 25, slot := 29, constantValue := 0 }, { name := "T_ARITH", type := .int, accessFlags := 25, slot := 30, constantValue := 0 }, { name := "T_STACK", type := .int, accessFlags := 25, slot := 31, constantValue := 0 }, { name := "T_OUTPUT", type := .int, accessFlags := 25, slot := 32, constantValue := 0 }, { name := "T_FUEL", type := .int, accessFlags := 25, slot := 33, constantValue := 0 }, { name := "RK_NONE", type := .int, accessFlags := 25, slot := 34, constantValue := 0 }, { name := "RK_INT", type := .int, accessFlags := 25, slot := 35, constantValue := 0 }, { name := "RK_PTR", type := .int, accessFlags := 25, slot := 36, constantValue := 0 }, { name := "MAX_TOKENS", type := .int, accessFlags := 25, slot := 37, constantValue := 0 }, { name := "MAX_OUT", type := .int, accessFlags := 25, slot := 38, constantValue := 0 }, { name := "FUEL", type := .int, accessFlags := 25, slot := 39, constantValue := 0 }, { name := "memCells", type := .int, accessFlags := 2, slot := 0, constantValue := 0 }, { name := "maxDepth", type := .int, accessFlags := 2, slot := 1, constantValue := 0 }, { name := "nTok", type := .int, accessFlags := 2, slot := 2, constantValue := 0 }, { name := "tokK", type := (.array .int), accessFlags := 2, slot := 3, constantValue := 0 }, { name := "tokV", type := (.array .int), accessFlags := 2, slot := 4, constantValue := 0 }, { name := "compiled", type := .boolean, accessFlags := 2, slot := 5, constantValue := 0 }, { name := "status", type := .int, accessFlags := 2, slot := 6, constantValue := 0 }, { name := "trapSite", type := .int, accessFlags := 2, slot := 7, constantValue := 0 }, { name := "framesAt", type := .int, accessFlags := 2, slot := 8, constantValue := 0 }, { name := "resKind", type := .int, accessFlags := 2, slot := 9, constantValue := 0 }, { name := "resVal", type := .int, accessFlags := 2, slot := 10, constantValue := 0 }, { name := "resSize", type := .int, accessFlags := 2, slot := 11, constantValue := 0 }, { name := "outN", type := .int, accessFlags := 2, slot := 12, constantValue := 0 }, { name := "outVals", type := (.array .int), accessFlags := 2, slot := 13, constantValue := 0 }, { name := "fnDef", type := (.array .boolean), accessFlags := 2, slot := 14, constantValue := 0 }, { name := "fnTok", type := (.array .int), accessFlags := 2, slot := 15, constantValue := 0 }, { name := "fnParams", type := (.array .int), accessFlags := 2, slot := 16, constantValue := 0 }, { name := "fnObjCount", type := (.array .int), accessFlags := 2, slot := 17, constantValue := 0 }, { name := "fnFrame", type := (.array .int), accessFlags := 2, slot := 18, constantValue := 0 }, { name := "fnBody", type := (.array .int), accessFlags := 2, slot := 19, constantValue := 0 }, { name := "nameIdx", type := (.array .int), accessFlags := 2, slot := 20, constantValue := 0 }, { name := "nameArr", type := (.array .boolean), accessFlags := 2, slot := 21, constantValue := 0 }, { name := "fnObjSize", type := (.array .int), accessFlags := 2, slot := 22, constantValue := 0 }, { name := "callArgs", type := (.array .int), accessFlags := 2, slot := 23, constantValue := 0 }, { name := "matchEnd", type := (.array .int), accessFlags := 2, slot := 24, constantValue := 0 }, { name := "braceOwner", type := (.array .int), accessFlags := 2, slot := 25, constantValue := 0 }, { name := "pp", type := .int, accessFlags := 2, slot := 26, constantValue := 0 }, { name := "pok", type := .boolean, accessFlags := 2, slot := 27, constantValue := 0 }, { name := "curFn", type := .int, accessFlags := 2, slot := 28, constantValue := 0 }, { name := "openStack", type := (.array .int), accessFlags := 2, slot := 29, constantValue := 0 }, { name := "cellK", type := (.array .int), accessFlags := 2, slot := 30, constantValue := 0 }, { name := "cellV", type := (.array .int), accessFlags := 2, slot := 31, constantValue := 0 }, { name := "cellO", type := (.array .int), accessFlags := 2, slot := 32, constantValue := 0 }, { name := "objBase", type := (.array .int), accessFlags := 2, slot := 33, constantValue := 0 }, { name := "objSize", type := (.array .int), accessFlags := 2, slot := 34, constantValue := 0 }, { name := "objAlive", type := (.array .boolean), accessFlags := 2, slot := 35, constantValue := 0 }, { name := "nextObj", type := .int, accessFlags := 2, slot := 36, constantValue := 0 }, { name := "frFunc", type := (.array .int), accessFlags := 2, slot := 37, constantValue := 0 }, { name := "frFirst", type := (.array .int), accessFlags := 2, slot := 38, constantValue := 0 }, { name := "frBase", type := (.array .int), accessFlags := 2, slot := 39, constantValue := 0 }, { name := "frRetPc", type := (.array .int), accessFlags := 2, slot := 40, constantValue := 0 }, { name := "frTarget", type := (.array .int), accessFlags := 2, slot := 41, constantValue := 0 }, { name := "depth", type := .int, accessFlags := 2, slot := 42, constantValue := 0 }, { name := "liveCells", type := .int, accessFlags := 2, slot := 43, constantValue := 0 }, { name := "fuel", type := .int, accessFlags := 2, slot := 44, constantValue := 0 }, { name := "running", type := .boolean, accessFlags := 2, slot := 45, constantValue := 0 }, { name := "regK", type := (.array .int), accessFlags := 2, slot := 46, constantValue := 0 }, { name := "regV", type := (.array .int), accessFlags := 2, slot := 47, constantValue := 0 }, { name := "regO", type := (.array .int), accessFlags := 2, slot := 48, constantValue := 0 }, { name := "argK", type := (.array .int), accessFlags := 2, slot := 49, constantValue := 0 }, { name := "argV", type := (.array .int), accessFlags := 2, slot := 50, constantValue := 0 }, { name := "argO", type := (.array .int), accessFlags := 2, slot := 51, constantValue := 0 }]
  methods := #[k2m0, k2m1, k2m2, k2m3, k2m4, k2m5, k2m6, k2m7, k2m8, k2m9, k2m10, k2m11, k2m12, k2m13, k2m14, k2m15, k2m16, k2m17, k2m18, k2m19, k2m20, k2m21, k2m22, k2m23, k2m24, k2m25, k2m26, k2m27, k2m28, k2m29, k2m30, k2m31, k2m32, k2m33, k2m34, k2m35, k2m36, k2m37, k2m38, k2m39, k2m40, k2m41, k2m42, k2m43, k2m44, k2m45, k2m46, k2m47, k2m48, k2m49, k2m50, k2m51, k2m52, k2m53, k2m54, k2m55, k2m56, k2m57, k2m58, k2m59, k2m60, k2m61, k2m62]
  instanceTypes := #[.int, .int, .int, (.array .int), (.array .int), .boolean, .int, .int, .int, .int, .int, .int, .int, (.array .int), (.array .boolean), (.array .int), (.array .int), (.array .int), (.array .int), (.array .int), (.array .int), (.array .boolean), (.array .int), (.array .int), (.array .int), (.array .int), .int, .boolean, .int, (.array .int), (.array .int), (.array .int), (.array .int), (.array .int), (.array .int), (.array .boolean), .int, (.array .int), (.array .int), (.array .int), (.array .int), (.array .int), .int, .int, .int, .boolean, (.array .int), (.array .int), (.array .int), (.array .int), (.array .int), (.array .int)]
  staticTypes := #[.int, .int, .int, .int, .int, .int, .int, .int, .int, .int, .int, .int, .int, .int, .int, .int, .int, .int, .int, .int, .int, .int, .int, .int, .int, .int, .int, .int, .int, .int, .int, .int, .int, .int, .int, .int, .int, .int, .int, .int]
  resolved := Array.replicate 427 none
  statics := none }

def pool3 : Array CpInfo := pool [(1, u "java/lang/Cloneable"), (0, .class_ 1), (0, u "java/lang/Object"), (0, .class_ 3)] 3

/-- java/lang/Cloneable -/
def k3 : Class := { plain "java/lang/Cloneable" (some 0) with
  accessFlags := 1537
  interfaces := #[]
  cf := some (fileOf pool3 2 #[] #[] 1537 4 #[] #[])
  fields := #[]
  methods := #[]
  instanceTypes := #[]
  staticTypes := #[]
  resolved := Array.replicate 8 none
  statics := none }

def pool4 : Array CpInfo := pool [(1, u "java/io/Serializable"), (0, .class_ 1), (0, u "java/lang/Object"), (0, .class_ 3)] 3

/-- java/io/Serializable -/
def k4 : Class := { plain "java/io/Serializable" (some 0) with
  accessFlags := 1537
  interfaces := #[]
  cf := some (fileOf pool4 2 #[] #[] 1537 4 #[] #[])
  fields := #[]
  methods := #[]
  instanceTypes := #[]
  staticTypes := #[]
  resolved := Array.replicate 8 none
  statics := none }

/-- the primitive boolean -/
def k5 : Class := { plain "boolean" none with kind := .primitive 'Z', accessFlags := 0x411 }
/-- [Z -/
def k6 : Class := { plain "[Z" (some 0) with kind := .array 5 .boolean, interfaces := #[3, 4], accessFlags := 1041 }

/-- the primitive byte -/
def k7 : Class := { plain "byte" none with kind := .primitive 'B', accessFlags := 0x411 }
/-- [B -/
def k8 : Class := { plain "[B" (some 0) with kind := .array 7 .byte, interfaces := #[3, 4], accessFlags := 1041 }

/-- the primitive int -/
def k9 : Class := { plain "int" none with kind := .primitive 'I', accessFlags := 0x411 }
/-- [I -/
def k10 : Class := { plain "[I" (some 0) with kind := .array 9 .int, interfaces := #[3, 4], accessFlags := 1041 }

def heap : Heap := #[{ cls := 10, slots := #[.int 1, .int 2, .int 3], vm := .none }]
def classes : Array Class := #[k0, k1, k2, k3, k4, k5, k6, k7, k8, k9, k10]
def interned : List (Array UInt16 × Addr) := []
def slotsUsed : Nat := 3
def theMethod : MethodId := ⟨1, 3⟩
def args0 : Array Value := #[.ref 0]
def aboutOver (below : List Frame) : State where
  vm := { classes := classes, interned := interned.toArray }
  heap := heap
  slotsUsed := slotsUsed
  threads := #[{ frames := .invoking theMethod args0 :: below }]
def below0 : List Frame := [.native { method := ⟨0, 0⟩, args := #[] }]
def about1 : State := aboutOver below0
def p0 : Program := .bare "" "" ""
def e0 : Env := launch0.env 0 0 0
theorem w_frames : about1.frames = Frame.invoking theMethod args0 :: below0 := rfl
set_option maxRecDepth 65536 in
theorem w_args : argsFit about1.vm theMethod args0 = true := by decide +kernel
set_option maxRecDepth 65536 in
theorem w_heap : heapFits about1 = true := by decide +kernel
set_option maxRecDepth 65536 in
theorem w_runnable : about1.curStatus? = some .runnable := by decide +kernel
set_option maxRecDepth 65536 in
theorem w_alone : about1.alone = true := by decide +kernel
set_option maxRecDepth 65536 in
theorem w_named : about1.methodNamed? x = some theMethod := by decide +kernel
set_option maxRecDepth 65536 in
theorem w_hears : about1.hears theMethod below0 = true := by decide +kernel
set_option maxRecDepth 65536 in
theorem w_ripe : about1.ripe theMethod args0 below0 = true := by decide +kernel
theorem w_running : about1.status = .running := rfl
set_option maxRecDepth 65536 in
theorem w_room : about1.hasRoom e0.platform room_1 = true :=
  launch0.hasRoom_least _ room_1 (by decide +kernel) (by decide +kernel) (by decide +kernel) (by decide +kernel) (by decide +kernel) (by decide +kernel)
theorem allAtoms_all (ts : List Jvm.Cond) (a : Array Jvm.Value) (st : Jvm.State) : (allAtoms ts).before a st = ts.all (fun c => c.before a st) := by
  induction ts with
  | nil => rfl
  | cons c t ih =>
    show (Jvm.Cond.and c (allAtoms t)).before a st = _
    rw [Jvm.Cond.before_and, ih, List.all_cons]
def words1 : List Jvm.Cond := Jvm.Cond.code x code maxLocals ret :: tables_1
/-- a 'code' word, met by the world's own term for the bytes: nothing is compared byte by byte -/
theorem code_word {y : MethodName} {bytes : ByteArray} {mx : Nat} {rt : Option FieldType} {a : Array Value} {s : State} {m : MethodId} {meth : Method} {c : Code} (h1 : s.methodNamed? y = some m) (h2 : s.vm.method? m = some meth) (h3 : meth.code = some c) (h4 : c.code = bytes)
    (h5 : (c.maxLocals == mx && c.exceptionTable.isEmpty && decide (c.maxStack ≤ mostOperands) && decide (meth.sig.returnType = rt) && !meth.locks && decide (parseMethodDescriptor y.desc = some meth.sig)) = true) : (Jvm.Cond.code y bytes mx rt).before a s = true := by
  simp only [Bool.and_eq_true, beq_iff_eq, Bool.not_eq_true', decide_eq_true_eq] at h5
  obtain ⟨⟨⟨⟨⟨g1, g2⟩, g3⟩, g4⟩, g5⟩, g6⟩ := h5
  simp [Cond.before, Cond.holds, Cond.value, h1, h2, h3, h4, g1, g2, g3, g4, g5, g6]
def isCode : Jvm.Cond → Bool
  | .code _ _ _ _ => true
  | _ => false
theorem all_split {L : List Jvm.Cond} {P : Jvm.Cond → Bool} (h1 : L.all (fun c => isCode c || P c) = true) (h2 : ∀ c ∈ L.filter isCode, P c = true) : L.all P = true := by
  refine List.all_eq_true.mpr fun c hc => ?_
  have h := List.all_eq_true.mp h1 c hc
  rcases Bool.eq_false_or_eq_true (isCode c) with hi | hi
  · exact h2 c (List.mem_filter.mpr ⟨hc, hi⟩)
  · simpa [hi] using h
set_option maxRecDepth 65536 in
theorem w_c0 : (Jvm.Cond.code x code maxLocals ret).before args0 about1 = true := code_word (m := ⟨1, 3⟩) (meth := k1m3) (c := k1c3) (by decide +kernel) rfl rfl rfl (by decide +kernel)
set_option maxRecDepth 65536 in
theorem w_c1 : (Jvm.Cond.code ({ cls := "FatPointerC", name := "<init>", desc := "(II)V" } : Jvm.MethodName) prog_1_method_1_code (5 : Nat) (Option.none : Option Jvm.ClassFile.FieldType)).before args0 about1 = true := code_word (m := ⟨2, 0⟩) (meth := k2m0) (c := k2c0) (by decide +kernel) rfl rfl rfl (by decide +kernel)
set_option maxRecDepth 65536 in
theorem w_c2 : (Jvm.Cond.code ({ cls := "java/lang/Object", name := "<init>", desc := "()V" } : Jvm.MethodName) object_method_1_code (1 : Nat) (Option.none : Option Jvm.ClassFile.FieldType)).before args0 about1 = true := code_word (m := ⟨0, 0⟩) (meth := k0m0) (c := k0c0) (by decide +kernel) rfl rfl rfl (by decide +kernel)
set_option maxRecDepth 65536 in
theorem w_c3 : (Jvm.Cond.code ({ cls := "FatPointerC", name := "clearResults", desc := "()V" } : Jvm.MethodName) prog_1_method_15_code (1 : Nat) (Option.none : Option Jvm.ClassFile.FieldType)).before args0 about1 = true := code_word (m := ⟨2, 13⟩) (meth := k2m13) (c := k2c13) (by decide +kernel) rfl rfl rfl (by decide +kernel)
set_option maxRecDepth 65536 in
theorem w_c4 : (Jvm.Cond.code ({ cls := "FatPointerCL7", name := "k", desc := "(LFatPointerC;II)V" } : Jvm.MethodName) method_2_code (3 : Nat) (Option.none : Option Jvm.ClassFile.FieldType)).before args0 about1 = true := code_word (m := ⟨1, 1⟩) (meth := k1m1) (c := k1c1) (by decide +kernel) rfl rfl rfl (by decide +kernel)
set_option maxRecDepth 65536 in
theorem w_c5 : (Jvm.Cond.code ({ cls := "FatPointerC", name := "tok", desc := "(II)Z" } : Jvm.MethodName) prog_1_method_3_code (4 : Nat) (Option.some Jvm.ClassFile.FieldType.boolean)).before args0 about1 = true := code_word (m := ⟨2, 1⟩) (meth := k2m1) (c := k2c1) (by decide +kernel) rfl rfl rfl (by decide +kernel)
set_option maxRecDepth 65536 in
theorem w_c6 : (Jvm.Cond.code ({ cls := "FatPointerC", name := "tokenCount", desc := "()I" } : Jvm.MethodName) prog_1_method_4_code (1 : Nat) (Option.some Jvm.ClassFile.FieldType.int)).before args0 about1 = true := code_word (m := ⟨2, 2⟩) (meth := k2m2) (c := k2c2) (by decide +kernel) rfl rfl rfl (by decide +kernel)
set_option maxRecDepth 65536 in
theorem w_c7 : (Jvm.Cond.code ({ cls := "FatPointerC", name := "compile", desc := "()Z" } : Jvm.MethodName) prog_1_method_5_code (1 : Nat) (Option.some Jvm.ClassFile.FieldType.boolean)).before args0 about1 = true := code_word (m := ⟨2, 3⟩) (meth := k2m3) (c := k2c3) (by decide +kernel) rfl rfl rfl (by decide +kernel)
set_option maxRecDepth 65536 in
theorem w_c8 : (Jvm.Cond.code ({ cls := "FatPointerC", name := "parseProgram", desc := "()Z" } : Jvm.MethodName) prog_1_method_18_code (2 : Nat) (Option.some Jvm.ClassFile.FieldType.boolean)).before args0 about1 = true := code_word (m := ⟨2, 16⟩) (meth := k2m16) (c := k2c16) (by decide +kernel) rfl rfl rfl (by decide +kernel)
set_option maxRecDepth 65536 in
theorem w_c9 : (Jvm.Cond.code ({ cls := "FatPointerC", name := "parseFunc", desc := "()V" } : Jvm.MethodName) prog_1_method_21_code (3 : Nat) (Option.none : Option Jvm.ClassFile.FieldType)).before args0 about1 = true := code_word (m := ⟨2, 19⟩) (meth := k2m19) (c := k2c19) (by decide +kernel) rfl rfl rfl (by decide +kernel)
set_option maxRecDepth 65536 in
theorem w_c10 : (Jvm.Cond.code ({ cls := "FatPointerC", name := "expect", desc := "(I)V" } : Jvm.MethodName) prog_1_method_20_code (2 : Nat) (Option.none : Option Jvm.ClassFile.FieldType)).before args0 about1 = true := code_word (m := ⟨2, 18⟩) (meth := k2m18) (c := k2c18) (by decide +kernel) rfl rfl rfl (by decide +kernel)
set_option maxRecDepth 65536 in
theorem w_c11 : (Jvm.Cond.code ({ cls := "FatPointerC", name := "kindAt", desc := "(I)I" } : Jvm.MethodName) prog_1_method_16_code (2 : Nat) (Option.some Jvm.ClassFile.FieldType.int)).before args0 about1 = true := code_word (m := ⟨2, 14⟩) (meth := k2m14) (c := k2c14) (by decide +kernel) rfl rfl rfl (by decide +kernel)
set_option maxRecDepth 65536 in
theorem w_c12 : (Jvm.Cond.code ({ cls := "FatPointerC", name := "valAt", desc := "(I)I" } : Jvm.MethodName) prog_1_method_17_code (2 : Nat) (Option.some Jvm.ClassFile.FieldType.int)).before args0 about1 = true := code_word (m := ⟨2, 15⟩) (meth := k2m15) (c := k2c15) (by decide +kernel) rfl rfl rfl (by decide +kernel)
set_option maxRecDepth 65536 in
theorem w_c13 : (Jvm.Cond.code ({ cls := "FatPointerC", name := "parseParams", desc := "()V" } : Jvm.MethodName) prog_1_method_22_code (2 : Nat) (Option.none : Option Jvm.ClassFile.FieldType)).before args0 about1 = true := code_word (m := ⟨2, 20⟩) (meth := k2m20) (c := k2c20) (by decide +kernel) rfl rfl rfl (by decide +kernel)
set_option maxRecDepth 65536 in
theorem w_c14 : (Jvm.Cond.code ({ cls := "FatPointerC", name := "parseDecls", desc := "()V" } : Jvm.MethodName) prog_1_method_23_code (5 : Nat) (Option.none : Option Jvm.ClassFile.FieldType)).before args0 about1 = true := code_word (m := ⟨2, 21⟩) (meth := k2m21) (c := k2c21) (by decide +kernel) rfl rfl rfl (by decide +kernel)
set_option maxRecDepth 65536 in
theorem w_c15 : (Jvm.Cond.code ({ cls := "FatPointerC", name := "declName", desc := "()I" } : Jvm.MethodName) prog_1_method_24_code (2 : Nat) (Option.some Jvm.ClassFile.FieldType.int)).before args0 about1 = true := code_word (m := ⟨2, 22⟩) (meth := k2m22) (c := k2c22) (by decide +kernel) rfl rfl rfl (by decide +kernel)
set_option maxRecDepth 65536 in
theorem w_c16 : (Jvm.Cond.code ({ cls := "FatPointerC", name := "addName", desc := "(IIZ)V" } : Jvm.MethodName) prog_1_method_26_code (6 : Nat) (Option.none : Option Jvm.ClassFile.FieldType)).before args0 about1 = true := code_word (m := ⟨2, 24⟩) (meth := k2m24) (c := k2c24) (by decide +kernel) rfl rfl rfl (by decide +kernel)
set_option maxRecDepth 65536 in
theorem w_c17 : (Jvm.Cond.code ({ cls := "FatPointerC", name := "arrSize", desc := "()I" } : Jvm.MethodName) prog_1_method_25_code (2 : Nat) (Option.some Jvm.ClassFile.FieldType.int)).before args0 about1 = true := code_word (m := ⟨2, 23⟩) (meth := k2m23) (c := k2c23) (by decide +kernel) rfl rfl rfl (by decide +kernel)
set_option maxRecDepth 65536 in
theorem w_c18 : (Jvm.Cond.code ({ cls := "FatPointerC", name := "parseBody", desc := "()V" } : Jvm.MethodName) prog_1_method_27_code (5 : Nat) (Option.none : Option Jvm.ClassFile.FieldType)).before args0 about1 = true := code_word (m := ⟨2, 25⟩) (meth := k2m25) (c := k2c25) (by decide +kernel) rfl rfl rfl (by decide +kernel)
set_option maxRecDepth 65536 in
theorem w_c19 : (Jvm.Cond.code ({ cls := "FatPointerC", name := "parseStmt", desc := "()V" } : Jvm.MethodName) prog_1_method_28_code (2 : Nat) (Option.none : Option Jvm.ClassFile.FieldType)).before args0 about1 = true := code_word (m := ⟨2, 26⟩) (meth := k2m26) (c := k2c26) (by decide +kernel) rfl rfl rfl (by decide +kernel)
set_option maxRecDepth 65536 in
theorem w_c20 : (Jvm.Cond.code ({ cls := "FatPointerC", name := "parseVarStmt", desc := "()V" } : Jvm.MethodName) prog_1_method_29_code (2 : Nat) (Option.none : Option Jvm.ClassFile.FieldType)).before args0 about1 = true := code_word (m := ⟨2, 27⟩) (meth := k2m27) (c := k2c27) (by decide +kernel) rfl rfl rfl (by decide +kernel)
set_option maxRecDepth 65536 in
theorem w_c21 : (Jvm.Cond.code ({ cls := "FatPointerC", name := "useVar", desc := "()I" } : Jvm.MethodName) prog_1_method_30_code (2 : Nat) (Option.some Jvm.ClassFile.FieldType.int)).before args0 about1 = true := code_word (m := ⟨2, 28⟩) (meth := k2m28) (c := k2c28) (by decide +kernel) rfl rfl rfl (by decide +kernel)
set_option maxRecDepth 65536 in
theorem w_c22 : (Jvm.Cond.code ({ cls := "FatPointerC", name := "parseExpr", desc := "()V" } : Jvm.MethodName) prog_1_method_32_code (2 : Nat) (Option.none : Option Jvm.ClassFile.FieldType)).before args0 about1 = true := code_word (m := ⟨2, 29⟩) (meth := k2m29) (c := k2c29) (by decide +kernel) rfl rfl rfl (by decide +kernel)
set_option maxRecDepth 65536 in
theorem w_c23 : (Jvm.Cond.code ({ cls := "FatPointerC", name := "parseSum", desc := "()V" } : Jvm.MethodName) prog_1_method_33_code (3 : Nat) (Option.none : Option Jvm.ClassFile.FieldType)).before args0 about1 = true := code_word (m := ⟨2, 30⟩) (meth := k2m30) (c := k2c30) (by decide +kernel) rfl rfl rfl (by decide +kernel)
set_option maxRecDepth 65536 in
theorem w_c24 : (Jvm.Cond.code ({ cls := "FatPointerC", name := "parseTerm", desc := "()V" } : Jvm.MethodName) prog_1_method_34_code (2 : Nat) (Option.none : Option Jvm.ClassFile.FieldType)).before args0 about1 = true := code_word (m := ⟨2, 31⟩) (meth := k2m31) (c := k2c31) (by decide +kernel) rfl rfl rfl (by decide +kernel)
set_option maxRecDepth 65536 in
theorem w_c25 : (Jvm.Cond.code ({ cls := "FatPointerC", name := "parseOperand", desc := "()V" } : Jvm.MethodName) prog_1_method_35_code (2 : Nat) (Option.none : Option Jvm.ClassFile.FieldType)).before args0 about1 = true := code_word (m := ⟨2, 32⟩) (meth := k2m32) (c := k2c32) (by decide +kernel) rfl rfl rfl (by decide +kernel)
set_option maxRecDepth 65536 in
theorem w_c26 : (Jvm.Cond.code ({ cls := "FatPointerC", name := "parseAtom", desc := "()V" } : Jvm.MethodName) prog_1_method_36_code (1 : Nat) (Option.none : Option Jvm.ClassFile.FieldType)).before args0 about1 = true := code_word (m := ⟨2, 33⟩) (meth := k2m33) (c := k2c33) (by decide +kernel) rfl rfl rfl (by decide +kernel)
set_option maxRecDepth 65536 in
theorem w_c27 : (Jvm.Cond.code ({ cls := "FatPointerC", name := "checkCalls", desc := "()Z" } : Jvm.MethodName) prog_1_method_19_code (4 : Nat) (Option.some Jvm.ClassFile.FieldType.boolean)).before args0 about1 = true := code_word (m := ⟨2, 17⟩) (meth := k2m17) (c := k2c17) (by decide +kernel) rfl rfl rfl (by decide +kernel)
set_option maxRecDepth 65536 in
theorem w_c28 : (Jvm.Cond.code ({ cls := "FatPointerC", name := "status", desc := "()I" } : Jvm.MethodName) prog_1_method_7_code (1 : Nat) (Option.some Jvm.ClassFile.FieldType.int)).before args0 about1 = true := code_word (m := ⟨2, 5⟩) (meth := k2m5) (c := k2c5) (by decide +kernel) rfl rfl rfl (by decide +kernel)
set_option maxRecDepth 65536 in
theorem w_c29 : (Jvm.Cond.code ({ cls := "FatPointerC", name := "run", desc := "()I" } : Jvm.MethodName) prog_1_method_6_code (3 : Nat) (Option.some Jvm.ClassFile.FieldType.int)).before args0 about1 = true := code_word (m := ⟨2, 4⟩) (meth := k2m4) (c := k2c4) (by decide +kernel) rfl rfl rfl (by decide +kernel)
set_option maxRecDepth 65536 in
theorem w_c30 : (Jvm.Cond.code ({ cls := "FatPointerC", name := "pushFrame", desc := "(III)V" } : Jvm.MethodName) prog_1_method_65_code (12 : Nat) (Option.none : Option Jvm.ClassFile.FieldType)).before args0 about1 = true := code_word (m := ⟨2, 61⟩) (meth := k2m61) (c := k2c61) (by decide +kernel) rfl rfl rfl (by decide +kernel)
set_option maxRecDepth 65536 in
theorem w_c31 : (Jvm.Cond.code ({ cls := "FatPointerC", name := "step", desc := "(I)I" } : Jvm.MethodName) prog_1_method_56_code (3 : Nat) (Option.some Jvm.ClassFile.FieldType.int)).before args0 about1 = true := code_word (m := ⟨2, 53⟩) (meth := k2m53) (c := k2c53) (by decide +kernel) rfl rfl rfl (by decide +kernel)
set_option maxRecDepth 65536 in
theorem w_c32 : (Jvm.Cond.code ({ cls := "FatPointerC", name := "execVarStmt", desc := "(I)I" } : Jvm.MethodName) prog_1_method_57_code (4 : Nat) (Option.some Jvm.ClassFile.FieldType.int)).before args0 about1 = true := code_word (m := ⟨2, 54⟩) (meth := k2m54) (c := k2c54) (by decide +kernel) rfl rfl rfl (by decide +kernel)
set_option maxRecDepth 65536 in
theorem w_c33 : (Jvm.Cond.code ({ cls := "FatPointerC", name := "evalExpr", desc := "(I)I" } : Jvm.MethodName) prog_1_method_49_code (5 : Nat) (Option.some Jvm.ClassFile.FieldType.int)).before args0 about1 = true := code_word (m := ⟨2, 46⟩) (meth := k2m46) (c := k2c46) (by decide +kernel) rfl rfl rfl (by decide +kernel)
set_option maxRecDepth 65536 in
theorem w_c34 : (Jvm.Cond.code ({ cls := "FatPointerC", name := "evalSum", desc := "(I)I" } : Jvm.MethodName) prog_1_method_50_code (6 : Nat) (Option.some Jvm.ClassFile.FieldType.int)).before args0 about1 = true := code_word (m := ⟨2, 47⟩) (meth := k2m47) (c := k2c47) (by decide +kernel) rfl rfl rfl (by decide +kernel)
set_option maxRecDepth 65536 in
theorem w_c35 : (Jvm.Cond.code ({ cls := "FatPointerC", name := "evalTerm", desc := "(I)I" } : Jvm.MethodName) prog_1_method_51_code (5 : Nat) (Option.some Jvm.ClassFile.FieldType.int)).before args0 about1 = true := code_word (m := ⟨2, 48⟩) (meth := k2m48) (c := k2c48) (by decide +kernel) rfl rfl rfl (by decide +kernel)
set_option maxRecDepth 65536 in
theorem w_c36 : (Jvm.Cond.code ({ cls := "FatPointerC", name := "evalOperand", desc := "(I)I" } : Jvm.MethodName) prog_1_method_52_code (7 : Nat) (Option.some Jvm.ClassFile.FieldType.int)).before args0 about1 = true := code_word (m := ⟨2, 49⟩) (meth := k2m49) (c := k2c49) (by decide +kernel) rfl rfl rfl (by decide +kernel)
set_option maxRecDepth 65536 in
theorem w_c37 : (Jvm.Cond.code ({ cls := "FatPointerC", name := "loadVar", desc := "(II)V" } : Jvm.MethodName) prog_1_method_43_code (4 : Nat) (Option.none : Option Jvm.ClassFile.FieldType)).before args0 about1 = true := code_word (m := ⟨2, 40⟩) (meth := k2m40) (c := k2c40) (by decide +kernel) rfl rfl rfl (by decide +kernel)
set_option maxRecDepth 65536 in
theorem w_c38 : (Jvm.Cond.code ({ cls := "FatPointerC", name := "objOf", desc := "(I)I" } : Jvm.MethodName) prog_1_method_41_code (4 : Nat) (Option.some Jvm.ClassFile.FieldType.int)).before args0 about1 = true := code_word (m := ⟨2, 38⟩) (meth := k2m38) (c := k2c38) (by decide +kernel) rfl rfl rfl (by decide +kernel)
set_option maxRecDepth 65536 in
theorem w_c39 : (Jvm.Cond.code ({ cls := "FatPointerC", name := "isArr", desc := "(I)Z" } : Jvm.MethodName) prog_1_method_42_code (3 : Nat) (Option.some Jvm.ClassFile.FieldType.boolean)).before args0 about1 = true := code_word (m := ⟨2, 39⟩) (meth := k2m39) (c := k2c39) (by decide +kernel) rfl rfl rfl (by decide +kernel)
set_option maxRecDepth 65536 in
theorem w_c40 : (Jvm.Cond.code ({ cls := "FatPointerC", name := "setReg", desc := "(IIII)V" } : Jvm.MethodName) prog_1_method_39_code (5 : Nat) (Option.none : Option Jvm.ClassFile.FieldType)).before args0 about1 = true := code_word (m := ⟨2, 36⟩) (meth := k2m36) (c := k2c36) (by decide +kernel) rfl rfl rfl (by decide +kernel)
set_option maxRecDepth 65536 in
theorem w_c41 : (Jvm.Cond.code ({ cls := "FatPointerC", name := "copyReg", desc := "(II)V" } : Jvm.MethodName) prog_1_method_40_code (3 : Nat) (Option.none : Option Jvm.ClassFile.FieldType)).before args0 about1 = true := code_word (m := ⟨2, 37⟩) (meth := k2m37) (c := k2c37) (by decide +kernel) rfl rfl rfl (by decide +kernel)
set_option maxRecDepth 65536 in
theorem w_c42 : (Jvm.Cond.code ({ cls := "FatPointerC", name := "binary", desc := "(IIII)Z" } : Jvm.MethodName) prog_1_method_53_code (11 : Nat) (Option.some Jvm.ClassFile.FieldType.boolean)).before args0 about1 = true := code_word (m := ⟨2, 50⟩) (meth := k2m50) (c := k2c50) (by decide +kernel) rfl rfl rfl (by decide +kernel)
set_option maxRecDepth 65536 in
theorem w_c43 : (Jvm.Cond.code ({ cls := "FatPointerC", name := "movePtr", desc := "(IIJI)Z" } : Jvm.MethodName) prog_1_method_55_code (7 : Nat) (Option.some Jvm.ClassFile.FieldType.boolean)).before args0 about1 = true := code_word (m := ⟨2, 52⟩) (meth := k2m52) (c := k2c52) (by decide +kernel) rfl rfl rfl (by decide +kernel)
set_option maxRecDepth 65536 in
theorem w_c44 : (Jvm.Cond.code ({ cls := "FatPointerC", name := "trap", desc := "(II)V" } : Jvm.MethodName) prog_1_method_37_code (3 : Nat) (Option.none : Option Jvm.ClassFile.FieldType)).before args0 about1 = true := code_word (m := ⟨2, 34⟩) (meth := k2m34) (c := k2c34) (by decide +kernel) rfl rfl rfl (by decide +kernel)
set_option maxRecDepth 65536 in
theorem w_c45 : (Jvm.Cond.code ({ cls := "FatPointerCL7", name := "snap", desc := "(LFatPointerC;)J" } : Jvm.MethodName) method_3_code (4 : Nat) (Option.some Jvm.ClassFile.FieldType.long)).before args0 about1 = true := code_word (m := ⟨1, 2⟩) (meth := k1m2) (c := k1c2) (by decide +kernel) rfl rfl rfl (by decide +kernel)
set_option maxRecDepth 65536 in
theorem w_c46 : (Jvm.Cond.code ({ cls := "FatPointerC", name := "trapSite", desc := "()I" } : Jvm.MethodName) prog_1_method_8_code (1 : Nat) (Option.some Jvm.ClassFile.FieldType.int)).before args0 about1 = true := code_word (m := ⟨2, 6⟩) (meth := k2m6) (c := k2c6) (by decide +kernel) rfl rfl rfl (by decide +kernel)
set_option maxRecDepth 65536 in
theorem w_c47 : (Jvm.Cond.code ({ cls := "FatPointerC", name := "frames", desc := "()I" } : Jvm.MethodName) prog_1_method_9_code (1 : Nat) (Option.some Jvm.ClassFile.FieldType.int)).before args0 about1 = true := code_word (m := ⟨2, 7⟩) (meth := k2m7) (c := k2c7) (by decide +kernel) rfl rfl rfl (by decide +kernel)
set_option maxRecDepth 65536 in
theorem w_c48 : (Jvm.Cond.code ({ cls := "FatPointerC", name := "resultKind", desc := "()I" } : Jvm.MethodName) prog_1_method_10_code (1 : Nat) (Option.some Jvm.ClassFile.FieldType.int)).before args0 about1 = true := code_word (m := ⟨2, 8⟩) (meth := k2m8) (c := k2c8) (by decide +kernel) rfl rfl rfl (by decide +kernel)
set_option maxRecDepth 65536 in
theorem w_c49 : (Jvm.Cond.code ({ cls := "FatPointerC", name := "resultValue", desc := "()I" } : Jvm.MethodName) prog_1_method_11_code (1 : Nat) (Option.some Jvm.ClassFile.FieldType.int)).before args0 about1 = true := code_word (m := ⟨2, 9⟩) (meth := k2m9) (c := k2c9) (by decide +kernel) rfl rfl rfl (by decide +kernel)
set_option maxRecDepth 65536 in
theorem w_c50 : (Jvm.Cond.code ({ cls := "FatPointerC", name := "resultSize", desc := "()I" } : Jvm.MethodName) prog_1_method_12_code (1 : Nat) (Option.some Jvm.ClassFile.FieldType.int)).before args0 about1 = true := code_word (m := ⟨2, 10⟩) (meth := k2m10) (c := k2c10) (by decide +kernel) rfl rfl rfl (by decide +kernel)
set_option maxRecDepth 65536 in
theorem w_c51 : (Jvm.Cond.code ({ cls := "FatPointerC", name := "outCount", desc := "()I" } : Jvm.MethodName) prog_1_method_13_code (1 : Nat) (Option.some Jvm.ClassFile.FieldType.int)).before args0 about1 = true := code_word (m := ⟨2, 11⟩) (meth := k2m11) (c := k2c11) (by decide +kernel) rfl rfl rfl (by decide +kernel)
set_option maxRecDepth 65536 in
theorem w_c52 : (Jvm.Cond.code ({ cls := "FatPointerC", name := "outValue", desc := "(I)I" } : Jvm.MethodName) prog_1_method_14_code (2 : Nat) (Option.some Jvm.ClassFile.FieldType.int)).before args0 about1 = true := code_word (m := ⟨2, 12⟩) (meth := k2m12) (c := k2c12) (by decide +kernel) rfl rfl rfl (by decide +kernel)
set_option maxRecDepth 65536 in
theorem w_c53 : (Jvm.Cond.code ({ cls := "FatPointerC", name := "storeVar", desc := "(IIII)V" } : Jvm.MethodName) prog_1_method_45_code (6 : Nat) (Option.none : Option Jvm.ClassFile.FieldType)).before args0 about1 = true := code_word (m := ⟨2, 42⟩) (meth := k2m42) (c := k2c42) (by decide +kernel) rfl rfl rfl (by decide +kernel)
set_option maxRecDepth 65536 in
theorem w_c54 : (Jvm.Cond.code ({ cls := "FatPointerC", name := "execStarStore", desc := "(I)I" } : Jvm.MethodName) prog_1_method_59_code (7 : Nat) (Option.some Jvm.ClassFile.FieldType.int)).before args0 about1 = true := code_word (m := ⟨2, 56⟩) (meth := k2m56) (c := k2c56) (by decide +kernel) rfl rfl rfl (by decide +kernel)
set_option maxRecDepth 65536 in
theorem w_c55 : (Jvm.Cond.code ({ cls := "FatPointerC", name := "readCell", desc := "(II)V" } : Jvm.MethodName) prog_1_method_46_code (3 : Nat) (Option.none : Option Jvm.ClassFile.FieldType)).before args0 about1 = true := code_word (m := ⟨2, 43⟩) (meth := k2m43) (c := k2c43) (by decide +kernel) rfl rfl rfl (by decide +kernel)
set_option maxRecDepth 65536 in
theorem w_c56 : (Jvm.Cond.code ({ cls := "FatPointerC", name := "check", desc := "(IIIIII)I" } : Jvm.MethodName) prog_1_method_48_code (10 : Nat) (Option.some Jvm.ClassFile.FieldType.int)).before args0 about1 = true := code_word (m := ⟨2, 45⟩) (meth := k2m45) (c := k2c45) (by decide +kernel) rfl rfl rfl (by decide +kernel)
set_option maxRecDepth 65536 in
theorem w_c57 : (Jvm.Cond.code ({ cls := "FatPointerC", name := "execCond", desc := "(IZ)I" } : Jvm.MethodName) prog_1_method_62_code (4 : Nat) (Option.some Jvm.ClassFile.FieldType.int)).before args0 about1 = true := code_word (m := ⟨2, 59⟩) (meth := k2m59) (c := k2c59) (by decide +kernel) rfl rfl rfl (by decide +kernel)
set_option maxRecDepth 65536 in
theorem w_c58 : (Jvm.Cond.code ({ cls := "FatPointerC", name := "tick", desc := "(I)Z" } : Jvm.MethodName) prog_1_method_38_code (2 : Nat) (Option.some Jvm.ClassFile.FieldType.boolean)).before args0 about1 = true := code_word (m := ⟨2, 35⟩) (meth := k2m35) (c := k2c35) (by decide +kernel) rfl rfl rfl (by decide +kernel)
set_option maxRecDepth 65536 in
theorem w_c59 : (Jvm.Cond.code ({ cls := "FatPointerC", name := "intOp", desc := "(III)I" } : Jvm.MethodName) prog_1_method_54_code (4 : Nat) (Option.some Jvm.ClassFile.FieldType.int)).before args0 about1 = true := code_word (m := ⟨2, 51⟩) (meth := k2m51) (c := k2c51) (by decide +kernel) rfl rfl rfl (by decide +kernel)
set_option maxRecDepth 65536 in
theorem w_c60 : (Jvm.Cond.code ({ cls := "FatPointerC", name := "execRbrace", desc := "(I)I" } : Jvm.MethodName) prog_1_method_63_code (3 : Nat) (Option.some Jvm.ClassFile.FieldType.int)).before args0 about1 = true := code_word (m := ⟨2, 60⟩) (meth := k2m60) (c := k2c60) (by decide +kernel) rfl rfl rfl (by decide +kernel)
set_option maxRecDepth 65536 in
theorem w_c61 : (Jvm.Cond.code ({ cls := "FatPointerC", name := "execOut", desc := "(I)I" } : Jvm.MethodName) prog_1_method_60_code (3 : Nat) (Option.some Jvm.ClassFile.FieldType.int)).before args0 about1 = true := code_word (m := ⟨2, 57⟩) (meth := k2m57) (c := k2c57) (by decide +kernel) rfl rfl rfl (by decide +kernel)
set_option maxRecDepth 65536 in
theorem w_c62 : (Jvm.Cond.code ({ cls := "FatPointerC", name := "execReturn", desc := "(I)I" } : Jvm.MethodName) prog_1_method_61_code (3 : Nat) (Option.some Jvm.ClassFile.FieldType.int)).before args0 about1 = true := code_word (m := ⟨2, 58⟩) (meth := k2m58) (c := k2c58) (by decide +kernel) rfl rfl rfl (by decide +kernel)
set_option maxRecDepth 65536 in
theorem w_c63 : (Jvm.Cond.code ({ cls := "FatPointerC", name := "doReturn", desc := "(III)I" } : Jvm.MethodName) prog_1_method_66_code (7 : Nat) (Option.some Jvm.ClassFile.FieldType.int)).before args0 about1 = true := code_word (m := ⟨2, 62⟩) (meth := k2m62) (c := k2c62) (by decide +kernel) rfl rfl rfl (by decide +kernel)
set_option maxRecDepth 65536 in
theorem w_c64 : (Jvm.Cond.code ({ cls := "FatPointerC", name := "execIndexStore", desc := "(I)I" } : Jvm.MethodName) prog_1_method_58_code (9 : Nat) (Option.some Jvm.ClassFile.FieldType.int)).before args0 about1 = true := code_word (m := ⟨2, 55⟩) (meth := k2m55) (c := k2c55) (by decide +kernel) rfl rfl rfl (by decide +kernel)
set_option maxRecDepth 65536 in
theorem w_c65 : (Jvm.Cond.code ({ cls := "FatPointerC", name := "loadAtom", desc := "(II)V" } : Jvm.MethodName) prog_1_method_44_code (3 : Nat) (Option.none : Option Jvm.ClassFile.FieldType)).before args0 about1 = true := code_word (m := ⟨2, 41⟩) (meth := k2m41) (c := k2c41) (by decide +kernel) rfl rfl rfl (by decide +kernel)
set_option maxRecDepth 65536 in
theorem w_c66 : (Jvm.Cond.code ({ cls := "FatPointerC", name := "writeCell", desc := "(II)V" } : Jvm.MethodName) prog_1_method_47_code (3 : Nat) (Option.none : Option Jvm.ClassFile.FieldType)).before args0 about1 = true := code_word (m := ⟨2, 44⟩) (meth := k2m44) (c := k2c44) (by decide +kernel) rfl rfl rfl (by decide +kernel)
def codes1 : List Jvm.Cond := [Jvm.Cond.code x code maxLocals ret, Jvm.Cond.code ({ cls := "FatPointerC", name := "<init>", desc := "(II)V" } : Jvm.MethodName) prog_1_method_1_code (5 : Nat) (Option.none : Option Jvm.ClassFile.FieldType), Jvm.Cond.code ({ cls := "java/lang/Object", name := "<init>", desc := "()V" } : Jvm.MethodName) object_method_1_code (1 : Nat) (Option.none : Option Jvm.ClassFile.FieldType), Jvm.Cond.code ({ cls := "FatPointerC", name := "clearResults", desc := "()V" } : Jvm.MethodName) prog_1_method_15_code (1 : Nat) (Option.none : Option Jvm.ClassFile.FieldType), Jvm.Cond.code ({ cls := "FatPointerCL7", name := "k", desc := "(LFatPointerC;II)V" } : Jvm.MethodName) method_2_code (3 : Nat) (Option.none : Option Jvm.ClassFile.FieldType), Jvm.Cond.code ({ cls := "FatPointerC", name := "tok", desc := "(II)Z" } : Jvm.MethodName) prog_1_method_3_code (4 : Nat) (Option.some Jvm.ClassFile.FieldType.boolean), Jvm.Cond.code ({ cls := "FatPointerC", name := "tokenCount", desc := "()I" } : Jvm.MethodName) prog_1_method_4_code (1 : Nat) (Option.some Jvm.ClassFile.FieldType.int), Jvm.Cond.code ({ cls := "FatPointerC", name := "compile", desc := "()Z" } : Jvm.MethodName) prog_1_method_5_code (1 : Nat) (Option.some Jvm.ClassFile.FieldType.boolean), Jvm.Cond.code ({ cls := "FatPointerC", name := "parseProgram", desc := "()Z" } : Jvm.MethodName) prog_1_method_18_code (2 : Nat) (Option.some Jvm.ClassFile.FieldType.boolean), Jvm.Cond.code ({ cls := "FatPointerC", name := "parseFunc", desc := "()V" } : Jvm.MethodName) prog_1_method_21_code (3 : Nat) (Option.none : Option Jvm.ClassFile.FieldType), Jvm.Cond.code ({ cls := "FatPointerC", name := "expect", desc := "(I)V" } : Jvm.MethodName) prog_1_method_20_code (2 : Nat) (Option.none : Option Jvm.ClassFile.FieldType), Jvm.Cond.code ({ cls := "FatPointerC", name := "kindAt", desc := "(I)I" } : Jvm.MethodName) prog_1_method_16_code (2 : Nat) (Option.some Jvm.ClassFile.FieldType.int), Jvm.Cond.code ({ cls := "FatPointerC", name := "valAt", desc := "(I)I" } : Jvm.MethodName) prog_1_method_17_code (2 : Nat) (Option.some Jvm.ClassFile.FieldType.int), Jvm.Cond.code ({ cls := "FatPointerC", name := "parseParams", desc := "()V" } : Jvm.MethodName) prog_1_method_22_code (2 : Nat) (Option.none : Option Jvm.ClassFile.FieldType), Jvm.Cond.code ({ cls := "FatPointerC", name := "parseDecls", desc := "()V" } : Jvm.MethodName) prog_1_method_23_code (5 : Nat) (Option.none : Option Jvm.ClassFile.FieldType), Jvm.Cond.code ({ cls := "FatPointerC", name := "declName", desc := "()I" } : Jvm.MethodName) prog_1_method_24_code (2 : Nat) (Option.some Jvm.ClassFile.FieldType.int), Jvm.Cond.code ({ cls := "FatPointerC", name := "addName", desc := "(IIZ)V" } : Jvm.MethodName) prog_1_method_26_code (6 : Nat) (Option.none : Option Jvm.ClassFile.FieldType), Jvm.Cond.code ({ cls := "FatPointerC", name := "arrSize", desc := "()I" } : Jvm.MethodName) prog_1_method_25_code (2 : Nat) (Option.some Jvm.ClassFile.FieldType.int), Jvm.Cond.code ({ cls := "FatPointerC", name := "parseBody", desc := "()V" } : Jvm.MethodName) prog_1_method_27_code (5 : Nat) (Option.none : Option Jvm.ClassFile.FieldType), Jvm.Cond.code ({ cls := "FatPointerC", name := "parseStmt", desc := "()V" } : Jvm.MethodName) prog_1_method_28_code (2 : Nat) (Option.none : Option Jvm.ClassFile.FieldType), Jvm.Cond.code ({ cls := "FatPointerC", name := "parseVarStmt", desc := "()V" } : Jvm.MethodName) prog_1_method_29_code (2 : Nat) (Option.none : Option Jvm.ClassFile.FieldType), Jvm.Cond.code ({ cls := "FatPointerC", name := "useVar", desc := "()I" } : Jvm.MethodName) prog_1_method_30_code (2 : Nat) (Option.some Jvm.ClassFile.FieldType.int), Jvm.Cond.code ({ cls := "FatPointerC", name := "parseExpr", desc := "()V" } : Jvm.MethodName) prog_1_method_32_code (2 : Nat) (Option.none : Option Jvm.ClassFile.FieldType), Jvm.Cond.code ({ cls := "FatPointerC", name := "parseSum", desc := "()V" } : Jvm.MethodName) prog_1_method_33_code (3 : Nat) (Option.none : Option Jvm.ClassFile.FieldType), Jvm.Cond.code ({ cls := "FatPointerC", name := "parseTerm", desc := "()V" } : Jvm.MethodName) prog_1_method_34_code (2 : Nat) (Option.none : Option Jvm.ClassFile.FieldType), Jvm.Cond.code ({ cls := "FatPointerC", name := "parseOperand", desc := "()V" } : Jvm.MethodName) prog_1_method_35_code (2 : Nat) (Option.none : Option Jvm.ClassFile.FieldType), Jvm.Cond.code ({ cls := "FatPointerC", name := "parseAtom", desc := "()V" } : Jvm.MethodName) prog_1_method_36_code (1 : Nat) (Option.none : Option Jvm.ClassFile.FieldType), Jvm.Cond.code ({ cls := "FatPointerC", name := "checkCalls", desc := "()Z" } : Jvm.MethodName) prog_1_method_19_code (4 : Nat) (Option.some Jvm.ClassFile.FieldType.boolean), Jvm.Cond.code ({ cls := "FatPointerC", name := "status", desc := "()I" } : Jvm.MethodName) prog_1_method_7_code (1 : Nat) (Option.some Jvm.ClassFile.FieldType.int), Jvm.Cond.code ({ cls := "FatPointerC", name := "run", desc := "()I" } : Jvm.MethodName) prog_1_method_6_code (3 : Nat) (Option.some Jvm.ClassFile.FieldType.int), Jvm.Cond.code ({ cls := "FatPointerC", name := "pushFrame", desc := "(III)V" } : Jvm.MethodName) prog_1_method_65_code (12 : Nat) (Option.none : Option Jvm.ClassFile.FieldType), Jvm.Cond.code ({ cls := "FatPointerC", name := "step", desc := "(I)I" } : Jvm.MethodName) prog_1_method_56_code (3 : Nat) (Option.some Jvm.ClassFile.FieldType.int), Jvm.Cond.code ({ cls := "FatPointerC", name := "execVarStmt", desc := "(I)I" } : Jvm.MethodName) prog_1_method_57_code (4 : Nat) (Option.some Jvm.ClassFile.FieldType.int), Jvm.Cond.code ({ cls := "FatPointerC", name := "evalExpr", desc := "(I)I" } : Jvm.MethodName) prog_1_method_49_code (5 : Nat) (Option.some Jvm.ClassFile.FieldType.int), Jvm.Cond.code ({ cls := "FatPointerC", name := "evalSum", desc := "(I)I" } : Jvm.MethodName) prog_1_method_50_code (6 : Nat) (Option.some Jvm.ClassFile.FieldType.int), Jvm.Cond.code ({ cls := "FatPointerC", name := "evalTerm", desc := "(I)I" } : Jvm.MethodName) prog_1_method_51_code (5 : Nat) (Option.some Jvm.ClassFile.FieldType.int), Jvm.Cond.code ({ cls := "FatPointerC", name := "evalOperand", desc := "(I)I" } : Jvm.MethodName) prog_1_method_52_code (7 : Nat) (Option.some Jvm.ClassFile.FieldType.int), Jvm.Cond.code ({ cls := "FatPointerC", name := "loadVar", desc := "(II)V" } : Jvm.MethodName) prog_1_method_43_code (4 : Nat) (Option.none : Option Jvm.ClassFile.FieldType), Jvm.Cond.code ({ cls := "FatPointerC", name := "objOf", desc := "(I)I" } : Jvm.MethodName) prog_1_method_41_code (4 : Nat) (Option.some Jvm.ClassFile.FieldType.int), Jvm.Cond.code ({ cls := "FatPointerC", name := "isArr", desc := "(I)Z" } : Jvm.MethodName) prog_1_method_42_code (3 : Nat) (Option.some Jvm.ClassFile.FieldType.boolean), Jvm.Cond.code ({ cls := "FatPointerC", name := "setReg", desc := "(IIII)V" } : Jvm.MethodName) prog_1_method_39_code (5 : Nat) (Option.none : Option Jvm.ClassFile.FieldType), Jvm.Cond.code ({ cls := "FatPointerC", name := "copyReg", desc := "(II)V" } : Jvm.MethodName) prog_1_method_40_code (3 : Nat) (Option.none : Option Jvm.ClassFile.FieldType), Jvm.Cond.code ({ cls := "FatPointerC", name := "binary", desc := "(IIII)Z" } : Jvm.MethodName) prog_1_method_53_code (11 : Nat) (Option.some Jvm.ClassFile.FieldType.boolean), Jvm.Cond.code ({ cls := "FatPointerC", name := "movePtr", desc := "(IIJI)Z" } : Jvm.MethodName) prog_1_method_55_code (7 : Nat) (Option.some Jvm.ClassFile.FieldType.boolean), Jvm.Cond.code ({ cls := "FatPointerC", name := "trap", desc := "(II)V" } : Jvm.MethodName) prog_1_method_37_code (3 : Nat) (Option.none : Option Jvm.ClassFile.FieldType), Jvm.Cond.code ({ cls := "FatPointerCL7", name := "snap", desc := "(LFatPointerC;)J" } : Jvm.MethodName) method_3_code (4 : Nat) (Option.some Jvm.ClassFile.FieldType.long), Jvm.Cond.code ({ cls := "FatPointerC", name := "trapSite", desc := "()I" } : Jvm.MethodName) prog_1_method_8_code (1 : Nat) (Option.some Jvm.ClassFile.FieldType.int), Jvm.Cond.code ({ cls := "FatPointerC", name := "frames", desc := "()I" } : Jvm.MethodName) prog_1_method_9_code (1 : Nat) (Option.some Jvm.ClassFile.FieldType.int), Jvm.Cond.code ({ cls := "FatPointerC", name := "resultKind", desc := "()I" } : Jvm.MethodName) prog_1_method_10_code (1 : Nat) (Option.some Jvm.ClassFile.FieldType.int), Jvm.Cond.code ({ cls := "FatPointerC", name := "resultValue", desc := "()I" } : Jvm.MethodName) prog_1_method_11_code (1 : Nat) (Option.some Jvm.ClassFile.FieldType.int), Jvm.Cond.code ({ cls := "FatPointerC", name := "resultSize", desc := "()I" } : Jvm.MethodName) prog_1_method_12_code (1 : Nat) (Option.some Jvm.ClassFile.FieldType.int), Jvm.Cond.code ({ cls := "FatPointerC", name := "outCount", desc := "()I" } : Jvm.MethodName) prog_1_method_13_code (1 : Nat) (Option.some Jvm.ClassFile.FieldType.int), Jvm.Cond.code ({ cls := "FatPointerC", name := "outValue", desc := "(I)I" } : Jvm.MethodName) prog_1_method_14_code (2 : Nat) (Option.some Jvm.ClassFile.FieldType.int), Jvm.Cond.code ({ cls := "FatPointerC", name := "storeVar", desc := "(IIII)V" } : Jvm.MethodName) prog_1_method_45_code (6 : Nat) (Option.none : Option Jvm.ClassFile.FieldType), Jvm.Cond.code ({ cls := "FatPointerC", name := "execStarStore", desc := "(I)I" } : Jvm.MethodName) prog_1_method_59_code (7 : Nat) (Option.some Jvm.ClassFile.FieldType.int), Jvm.Cond.code ({ cls := "FatPointerC", name := "readCell", desc := "(II)V" } : Jvm.MethodName) prog_1_method_46_code (3 : Nat) (Option.none : Option Jvm.ClassFile.FieldType), Jvm.Cond.code ({ cls := "FatPointerC", name := "check", desc := "(IIIIII)I" } : Jvm.MethodName) prog_1_method_48_code (10 : Nat) (Option.some Jvm.ClassFile.FieldType.int), Jvm.Cond.code ({ cls := "FatPointerC", name := "execCond", desc := "(IZ)I" } : Jvm.MethodName) prog_1_method_62_code (4 : Nat) (Option.some Jvm.ClassFile.FieldType.int), Jvm.Cond.code ({ cls := "FatPointerC", name := "tick", desc := "(I)Z" } : Jvm.MethodName) prog_1_method_38_code (2 : Nat) (Option.some Jvm.ClassFile.FieldType.boolean), Jvm.Cond.code ({ cls := "FatPointerC", name := "intOp", desc := "(III)I" } : Jvm.MethodName) prog_1_method_54_code (4 : Nat) (Option.some Jvm.ClassFile.FieldType.int), Jvm.Cond.code ({ cls := "FatPointerC", name := "execRbrace", desc := "(I)I" } : Jvm.MethodName) prog_1_method_63_code (3 : Nat) (Option.some Jvm.ClassFile.FieldType.int), Jvm.Cond.code ({ cls := "FatPointerC", name := "execOut", desc := "(I)I" } : Jvm.MethodName) prog_1_method_60_code (3 : Nat) (Option.some Jvm.ClassFile.FieldType.int), Jvm.Cond.code ({ cls := "FatPointerC", name := "execReturn", desc := "(I)I" } : Jvm.MethodName) prog_1_method_61_code (3 : Nat) (Option.some Jvm.ClassFile.FieldType.int), Jvm.Cond.code ({ cls := "FatPointerC", name := "doReturn", desc := "(III)I" } : Jvm.MethodName) prog_1_method_66_code (7 : Nat) (Option.some Jvm.ClassFile.FieldType.int), Jvm.Cond.code ({ cls := "FatPointerC", name := "execIndexStore", desc := "(I)I" } : Jvm.MethodName) prog_1_method_58_code (9 : Nat) (Option.some Jvm.ClassFile.FieldType.int), Jvm.Cond.code ({ cls := "FatPointerC", name := "loadAtom", desc := "(II)V" } : Jvm.MethodName) prog_1_method_44_code (3 : Nat) (Option.none : Option Jvm.ClassFile.FieldType), Jvm.Cond.code ({ cls := "FatPointerC", name := "writeCell", desc := "(II)V" } : Jvm.MethodName) prog_1_method_47_code (3 : Nat) (Option.none : Option Jvm.ClassFile.FieldType)]
set_option maxRecDepth 65536 in
theorem codes_eq : words1.filter isCode = codes1 := rfl
theorem w_codes : ∀ c ∈ words1.filter isCode, c.before args0 about1 = true := by
  rw [codes_eq]
  intro c hc
  simp only [codes1, List.mem_cons, List.not_mem_nil, or_false] at hc
  rcases hc with rfl | rfl | rfl | rfl | rfl | rfl | rfl | rfl | rfl | rfl | rfl | rfl | rfl | rfl | rfl | rfl | rfl | rfl | rfl | rfl | rfl | rfl | rfl | rfl | rfl | rfl | rfl | rfl | rfl | rfl | rfl | rfl | rfl | rfl | rfl | rfl | rfl | rfl | rfl | rfl | rfl | rfl | rfl | rfl | rfl | rfl | rfl | rfl | rfl | rfl | rfl | rfl | rfl | rfl | rfl | rfl | rfl | rfl | rfl | rfl | rfl | rfl | rfl | rfl | rfl | rfl | rfl
  · exact w_c0
  · exact w_c1
  · exact w_c2
  · exact w_c3
  · exact w_c4
  · exact w_c5
  · exact w_c6
  · exact w_c7
  · exact w_c8
  · exact w_c9
  · exact w_c10
  · exact w_c11
  · exact w_c12
  · exact w_c13
  · exact w_c14
  · exact w_c15
  · exact w_c16
  · exact w_c17
  · exact w_c18
  · exact w_c19
  · exact w_c20
  · exact w_c21
  · exact w_c22
  · exact w_c23
  · exact w_c24
  · exact w_c25
  · exact w_c26
  · exact w_c27
  · exact w_c28
  · exact w_c29
  · exact w_c30
  · exact w_c31
  · exact w_c32
  · exact w_c33
  · exact w_c34
  · exact w_c35
  · exact w_c36
  · exact w_c37
  · exact w_c38
  · exact w_c39
  · exact w_c40
  · exact w_c41
  · exact w_c42
  · exact w_c43
  · exact w_c44
  · exact w_c45
  · exact w_c46
  · exact w_c47
  · exact w_c48
  · exact w_c49
  · exact w_c50
  · exact w_c51
  · exact w_c52
  · exact w_c53
  · exact w_c54
  · exact w_c55
  · exact w_c56
  · exact w_c57
  · exact w_c58
  · exact w_c59
  · exact w_c60
  · exact w_c61
  · exact w_c62
  · exact w_c63
  · exact w_c64
  · exact w_c65
  · exact w_c66
set_option maxRecDepth 65536 in
theorem w_t1 : (words1.take 24).all (fun c => isCode c || c.before args0 about1) = true := by decide +kernel
set_option maxRecDepth 65536 in
theorem w_t2 : ((words1.drop 24).take 24).all (fun c => isCode c || c.before args0 about1) = true := by decide +kernel
set_option maxRecDepth 65536 in
theorem w_t3 : (((words1.drop 24).drop 24).take 24).all (fun c => isCode c || c.before args0 about1) = true := by decide +kernel
set_option maxRecDepth 65536 in
theorem w_t4 : ((((words1.drop 24).drop 24).drop 24).take 24).all (fun c => isCode c || c.before args0 about1) = true := by decide +kernel
set_option maxRecDepth 65536 in
theorem w_t5 : (((((words1.drop 24).drop 24).drop 24).drop 24).take 24).all (fun c => isCode c || c.before args0 about1) = true := by decide +kernel
set_option maxRecDepth 65536 in
theorem w_t6 : ((((((words1.drop 24).drop 24).drop 24).drop 24).drop 24).take 24).all (fun c => isCode c || c.before args0 about1) = true := by decide +kernel
set_option maxRecDepth 65536 in
theorem w_t7 : (((((((words1.drop 24).drop 24).drop 24).drop 24).drop 24).drop 24).take 24).all (fun c => isCode c || c.before args0 about1) = true := by decide +kernel
set_option maxRecDepth 65536 in
theorem w_t8 : ((((((((words1.drop 24).drop 24).drop 24).drop 24).drop 24).drop 24).drop 24).take 24).all (fun c => isCode c || c.before args0 about1) = true := by decide +kernel
set_option maxRecDepth 65536 in
theorem w_t9 : (((((((((words1.drop 24).drop 24).drop 24).drop 24).drop 24).drop 24).drop 24).drop 24).take 24).all (fun c => isCode c || c.before args0 about1) = true := by decide +kernel
set_option maxRecDepth 65536 in
theorem w_t10 : ((((((((((words1.drop 24).drop 24).drop 24).drop 24).drop 24).drop 24).drop 24).drop 24).drop 24).take 24).all (fun c => isCode c || c.before args0 about1) = true := by decide +kernel
set_option maxRecDepth 65536 in
theorem w_t11 : (((((((((((words1.drop 24).drop 24).drop 24).drop 24).drop 24).drop 24).drop 24).drop 24).drop 24).drop 24).take 24).all (fun c => isCode c || c.before args0 about1) = true := by decide +kernel
set_option maxRecDepth 65536 in
theorem w_t12 : ((((((((((((words1.drop 24).drop 24).drop 24).drop 24).drop 24).drop 24).drop 24).drop 24).drop 24).drop 24).drop 24).take 24).all (fun c => isCode c || c.before args0 about1) = true := by decide +kernel
set_option maxRecDepth 65536 in
theorem w_t13 : (((((((((((((words1.drop 24).drop 24).drop 24).drop 24).drop 24).drop 24).drop 24).drop 24).drop 24).drop 24).drop 24).drop 24).take 24).all (fun c => isCode c || c.before args0 about1) = true := by decide +kernel
set_option maxRecDepth 65536 in
theorem w_t14 : ((((((((((((((words1.drop 24).drop 24).drop 24).drop 24).drop 24).drop 24).drop 24).drop 24).drop 24).drop 24).drop 24).drop 24).drop 24).take 24).all (fun c => isCode c || c.before args0 about1) = true := by decide +kernel
set_option maxRecDepth 65536 in
theorem w_t15 : (((((((((((((((words1.drop 24).drop 24).drop 24).drop 24).drop 24).drop 24).drop 24).drop 24).drop 24).drop 24).drop 24).drop 24).drop 24).drop 24).take 24).all (fun c => isCode c || c.before args0 about1) = true := by decide +kernel
set_option maxRecDepth 65536 in
theorem w_t16 : ((((((((((((((((words1.drop 24).drop 24).drop 24).drop 24).drop 24).drop 24).drop 24).drop 24).drop 24).drop 24).drop 24).drop 24).drop 24).drop 24).drop 24).take 24).all (fun c => isCode c || c.before args0 about1) = true := by decide +kernel
set_option maxRecDepth 65536 in
theorem w_t17 : ((((((((((((((((words1.drop 24).drop 24).drop 24).drop 24).drop 24).drop 24).drop 24).drop 24).drop 24).drop 24).drop 24).drop 24).drop 24).drop 24).drop 24).drop 24).all (fun c => isCode c || c.before args0 about1) = true := by decide +kernel
theorem w_tables : (allAtoms (Jvm.Cond.code x code maxLocals ret :: tables_1)).before args0 about1 = true := by
  rw [allAtoms_all]
  show words1.all (fun c => c.before args0 about1) = true
  refine all_split ?_ w_codes
  rw [← List.take_append_drop 24 words1, List.all_append, w_t1, ← List.take_append_drop 24 (words1.drop 24), List.all_append, w_t2, ← List.take_append_drop 24 ((words1.drop 24).drop 24), List.all_append, w_t3, ← List.take_append_drop 24 (((words1.drop 24).drop 24).drop 24), List.all_append, w_t4, ← List.take_append_drop 24 ((((words1.drop 24).drop 24).drop 24).drop 24), List.all_append, w_t5, ← List.take_append_drop 24 (((((words1.drop 24).drop 24).drop 24).drop 24).drop 24), List.all_append, w_t6, ← List.take_append_drop 24 ((((((words1.drop 24).drop 24).drop 24).drop 24).drop 24).drop 24), List.all_append, w_t7, ← List.take_append_drop 24 (((((((words1.drop 24).drop 24).drop 24).drop 24).drop 24).drop 24).drop 24), List.all_append, w_t8, ← List.take_append_drop 24 ((((((((words1.drop 24).drop 24).drop 24).drop 24).drop 24).drop 24).drop 24).drop 24), List.all_append, w_t9, ← List.take_append_drop 24 (((((((((words1.drop 24).drop 24).drop 24).drop 24).drop 24).drop 24).drop 24).drop 24).drop 24), List.all_append, w_t10, ← List.take_append_drop 24 ((((((((((words1.drop 24).drop 24).drop 24).drop 24).drop 24).drop 24).drop 24).drop 24).drop 24).drop 24), List.all_append, w_t11, ← List.take_append_drop 24 (((((((((((words1.drop 24).drop 24).drop 24).drop 24).drop 24).drop 24).drop 24).drop 24).drop 24).drop 24).drop 24), List.all_append, w_t12, ← List.take_append_drop 24 ((((((((((((words1.drop 24).drop 24).drop 24).drop 24).drop 24).drop 24).drop 24).drop 24).drop 24).drop 24).drop 24).drop 24), List.all_append, w_t13, ← List.take_append_drop 24 (((((((((((((words1.drop 24).drop 24).drop 24).drop 24).drop 24).drop 24).drop 24).drop 24).drop 24).drop 24).drop 24).drop 24).drop 24), List.all_append, w_t14, ← List.take_append_drop 24 ((((((((((((((words1.drop 24).drop 24).drop 24).drop 24).drop 24).drop 24).drop 24).drop 24).drop 24).drop 24).drop 24).drop 24).drop 24).drop 24), List.all_append, w_t15, ← List.take_append_drop 24 (((((((((((((((words1.drop 24).drop 24).drop 24).drop 24).drop 24).drop 24).drop 24).drop 24).drop 24).drop 24).drop 24).drop 24).drop 24).drop 24).drop 24), List.all_append, w_t16, w_t17]
  rfl
set_option maxRecDepth 65536 in
theorem w_rest : rest_1_c.before args0 about1 = true := by decide +kernel
set_option maxRecDepth 65536 in
theorem w_case : (Jvm.Cond.and given_1 narrow_1).before args0 about1 = true := by decide +kernel
theorem w_applies : (headSpec (Jvm.Cond.code x code maxLocals ret :: tables_1) room_1).applies x e0.platform about1 = true :=
  (Spec.applies_iff w_frames).mpr ⟨w_running, w_runnable, w_alone, w_named, w_hears, w_ripe, w_room, w_tables⟩
theorem atStart : AtStart classFile x code maxLocals ret World_1 tables_1 room_1 Calls_1 rest_1 Pre_1 launch0 p0 e0 about1 theMethod args0 below0 :=
  ⟨lists_1, trivial, launch0.admits_env _ _ _, launch0.least_env, fairChoices_fair.cas, fairChoices_fair.clock, w_frames, w_args, w_heap, w_applies, trivial, w_rest, w_case⟩
end start1
theorem witness_1 : WitnessClaimed_1 := ⟨start1.p0, start1.e0, start1.about1, start1.theMethod, start1.args0, start1.below0, start1.atStart⟩
end Jvm.Pilot.@@N@@
