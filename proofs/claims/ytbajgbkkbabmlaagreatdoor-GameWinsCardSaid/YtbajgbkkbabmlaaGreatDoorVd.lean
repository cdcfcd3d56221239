/- Data: how the program's lists lie in memory, and what the document's words mean of them. -/
import Derived.Test.YtbajgbkkbabmlaaGreatDoorVm
set_option linter.unusedVariables false
namespace Go.Vc

/-- A block of one's own is read as a row. -/
theorem ints_lit {h : Heap} {g : Nat} {t : TypeId} {xs : List Int} (hb : Blk h g (xs.map (Value.int .i64)).toArray t) (hl : xs.length ≤ 140737488351232 := by simp) : Row1 h (some ⟨g, 0, none⟩) (Value.int .i64) 0 xs xs.length :=
  ⟨hl, Nat.le_refl _, fun _ => ⟨g, 0, rfl, fun h' E j h0 h1 => by
    rw [Nat.zero_add]
    refine hb.at E j.toNat ?_
    rw [List.getElem?_toArray, List.getElem?_map, List.getElem?_eq_getElem (by omega), List.getD_eq_getElem?_getD, List.getElem?_eq_getElem (by omega)]
    rfl⟩⟩
/-- An edge: from, label, to. -/
abbrev Ed := Int × Int × Int
def encE (e : Ed) : List Value := [.int .i64 e.1, .int .i64 e.2.1, .int .i64 e.2.2]
def rd (xs : List Int) (i : Int) : Int := xs.getD i.toNat 0
def sd (ls : List ByteArray) (i : Int) : ByteArray := ls.getD i.toNat ByteArray.empty
def ed (es : List Ed) (i : Int) : Ed := es.getD i.toNat (0, 0, 0)
abbrev Ints (h : Heap) (A : Option Addr) (xs : List Int) (c : Nat) := Row1 h A (Value.int .i64) 0 xs c
abbrev Strs (h : Heap) (A : Option Addr) (xs : List ByteArray) (c : Nat) := Row1 h A Value.string ByteArray.empty xs c
abbrev Bools (h : Heap) (A : Option Addr) (xs : List Bool) (c : Nat) := Row1 h A Value.bool false xs c
abbrev Edges (h : Heap) (A : Option Addr) (es : List Ed) (c : Nat) := RowK h A 3 encE (0, 0, 0) es c
/-- A system: nodes, labels, edges. -/
structure Lt where
  n : Int
  ls : List ByteArray
  es : List Ed
/-- Where a system lies. -/
structure LtAt (h : Heap) (l : Lt) (A1 : Option Addr) (c1 : Nat) (A2 : Option Addr) (c2 : Nat) : Prop where
  ls : Strs h A1 l.ls c1
  es : Edges h A2 l.es c2
theorem LtAt.ext {h h' : Heap} {l : Lt} {A1 A2 : Option Addr} {c1 c2 : Nat} (r : LtAt h l A1 c1 A2 c2) (E : Ext h h') : LtAt h' l A1 c1 A2 c2 := ⟨r.ls.ext E, r.es.ext E⟩

theorem mem_iff {α : Type} (d x : α) (xs : List α) : x ∈ xs ↔ ∃ i : Int, 0 ≤ i ∧ i < xs.length ∧ xs.getD i.toNat d = x := by
  constructor
  · intro h
    obtain ⟨i, hi, e⟩ := List.getElem_of_mem h
    exact ⟨i, by omega, by omega, by rw [List.getD_eq_getElem?_getD, Int.toNat_natCast, List.getElem?_eq_getElem hi]; exact e⟩
  · rintro ⟨i, h0, h1, e⟩
    rw [List.getD_eq_getElem?_getD, List.getElem?_eq_getElem (by omega)] at e
    rw [← e]
    exact List.getElem_mem _
theorem list_ext {α : Type} (d : α) {xs ys : List α} (hl : xs.length = ys.length) (h : ∀ i : Int, 0 ≤ i → i < xs.length → xs.getD i.toNat d = ys.getD i.toNat d) : xs = ys := by
  apply List.ext_getElem hl
  intro i h1 h2
  have := h i (by omega) (by omega)
  rw [List.getD_eq_getElem?_getD, List.getD_eq_getElem?_getD, Int.toNat_natCast, List.getElem?_eq_getElem h1, List.getElem?_eq_getElem h2] at this
  exact this
theorem toList_inj {a b : ByteArray} : a.toList = b.toList ↔ a = b := by
  constructor
  · intro h
    rw [ByteArray.toList_eq, ByteArray.toList_eq] at h
    obtain ⟨⟨x⟩⟩ := a
    obtain ⟨⟨y⟩⟩ := b
    have : x = y := h
    rw [this]
  · rintro rfl; rfl

/-! ### Systems -/
/-- Does an edge stand ahead of another one? -/
def aheadB (a b : Ed) : Bool := if a.1 ≠ b.1 then decide (a.1 < b.1) else if a.2.1 ≠ b.2.1 then decide (a.2.1 < b.2.1) else decide (a.2.2 < b.2.2)
/-- May the labels be? -/
def LabelsMay (ls : List ByteArray) : Prop := ls.length ≤ 64 ∧ ∀ i : Int, 0 ≤ i → i < ls.length → (sd ls i).size ≤ 200 ∧ (0 < i → Op.bytesLess (sd ls (i - 1)).toList (sd ls i).toList = true)
/-- May an edge be, of so many nodes and labels? -/
def EdgeMay (n : Int) (m : Nat) (e : Ed) : Prop := 0 ≤ e.1 ∧ e.1 < n ∧ 0 ≤ e.2.2 ∧ e.2.2 < n ∧ 0 ≤ e.2.1 ∧ e.2.1 < m
/-- May a system be? -/
structure May (l : Lt) : Prop where
  n1 : 1 ≤ l.n
  n2 : l.n ≤ 2048
  ls : LabelsMay l.ls
  len : l.es.length ≤ 1000000
  es : ∀ i : Int, 0 ≤ i → i < l.es.length → EdgeMay l.n l.ls.length (ed l.es i) ∧ (0 < i → aheadB (ed l.es (i - 1)) (ed l.es i) = true)
/-- Is a system small? -/
def Light26 (l : Lt) : Prop := (∀ i : Int, 0 ≤ i → i < l.ls.length → i < 70 → (sd l.ls i).size ≤ 300) ∧ l.ls.length < 70 ∧ l.es.length ≤ 200 ∧ (l.n ≤ 60 ∨ 2048 < l.n)
def Light33 (l : Lt) : Prop := Light26 l ∧ (l.n ≤ 16 ∨ 2048 < l.n) ∧ l.es.length ≤ 60 ∧ l.ls.length ≤ 8
noncomputable def mayB (l : Lt) : Bool := tv (May l)
end Go.Vc
