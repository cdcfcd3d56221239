/- May a system be: the program's way of asking and the document's are one. -/
import Derived.Test.YtbajgbkkbabmlaaGreatDoorProg
import Derived.Test.YtbajgbkkbabmlaaGreatDoorL4
import Derived.Sort.Walk0
import Derived.Test.YtbajgbkkbabmlaaGreatDoorPw
set_option linter.unusedVariables false
namespace Go.Proofs.YtbajgbkkbabmlaaGreatDoor
open Go.Vc

/-- The library's compact, in plain words. -/
theorem compact_compL {α : Type} [Inhabited α] [DecidableEq α] (zs : List α) : Lib.compact zs = compL zs := by
  have key : ∀ m, m ≤ zs.length → Lib.compactUpTo zs.toArray m = compL (zs.take m) := by
    intro m
    induction m with
    | zero => intro _; simp [Lib.compactUpTo, compL]
    | succ m ih =>
      intro hm
      rw [Lib.compactUpTo_succ, ih (by omega), List.take_succ_eq_append_getElem (by omega), compL_snoc]
      have hd : zs.toArray[m]! = zs[m] := by rw [getElem!_pos zs.toArray m (by simp; omega)]; simp
      rw [hd]
      rcases Nat.eq_zero_or_pos m with h0 | h0
      · subst h0; simp [Lib.keeps]
      · have hl : (zs.take m).getLast? = some zs[m - 1] := by
          rw [List.getLast?_eq_getElem?, List.length_take, Nat.min_eq_left (by omega), List.getElem?_take, if_pos (by omega), List.getElem?_eq_getElem (by omega)]
        have hd2 : zs.toArray[m - 1]! = zs[m - 1] := by rw [getElem!_pos zs.toArray (m - 1) (by simp; omega)]; simp
        rw [hl]
        by_cases e : zs[m - 1] = zs[m]
        · rw [Lib.keeps_neg h0 (by rw [hd, hd2, e]), if_pos (congrArg some e)]; simp
        · rw [Lib.keeps_pos (by rw [hd, hd2]; exact fun h => e h.symm), if_neg (fun h => e (Option.some.inj h))]; simp
  have := key zs.length (Nat.le_refl _)
  rw [List.take_length] at this
  exact this
def ltS (x y : List UInt8) : Bool := decide (x < y)
theorem stoS : STO ltS where
  irrefl x := by unfold ltS; exact decide_eq_false (List.lt_irrefl x)
  trans x y z h1 h2 := by unfold ltS at *; simp only [decide_eq_true_eq] at *; exact List.lt_trans h1 h2
  tri x y h1 h2 := by
    unfold ltS at *
    simp only [decide_eq_false_iff_not] at *
    exact List.le_antisymm h2 h1
theorem unionL_eq (xs ys : List ByteArray) : unionL xs ys = compL (((xs ++ ys).map bl).mergeSort fun x y => !(ltS y x)) := by
  unfold unionL
  rw [compact_compL]
  congr 2
  funext x y
  unfold ltS
  rw [Bool.eq_iff_iff]
  simp only [decide_eq_true_eq, Bool.not_eq_true', decide_eq_false_iff_not]
  exact Iff.rfl
theorem unionL_sorted (xs ys : List ByteArray) : (unionL xs ys).Pairwise fun x y => ltS x y = true := by
  rw [unionL_eq]; exact compL_sorted stoS _ (sort_sorted stoS _)
theorem mem_unionL {xs ys : List ByteArray} {s : List UInt8} : s ∈ unionL xs ys ↔ s ∈ xs.map bl ∨ s ∈ ys.map bl := by
  rw [unionL_eq, compL_mem, List.mem_mergeSort, List.map_append, List.mem_append]
theorem bl_toList (s : ByteArray) : s.toList = bl s := ByteArray.toList_eq s
theorem less_ltS (a b : ByteArray) : Op.bytesLess a.toList b.toList = ltS (bl a) (bl b) := by
  rw [Go.Proofs.bytesLess_eq, bl_toList, bl_toList]; rfl
theorem ordered_iff (ls : List ByteArray) : Ordered ls ↔ (ls.map bl).Pairwise fun x y => ltS x y = true := by
  unfold Ordered
  constructor
  · intro h; rw [h]; exact unionL_sorted _ _
  · intro h
    refine sorted_ext stoS _ _ h (unionL_sorted _ _) fun x => ?_
    rw [mem_unionL]; simp
theorem sd_nat (ls : List ByteArray) (i : Nat) (h : i < ls.length) : sd ls (i : Int) = ls[i] := by
  unfold sd; rw [List.getD_eq_getElem?_getD, Int.toNat_natCast, List.getElem?_eq_getElem h]; rfl
theorem pair_adj (ls : List ByteArray) : ((ls.map bl).Pairwise fun x y => ltS x y = true) ↔ ∀ i : Int, 0 ≤ i → i < ls.length → 0 < i → Op.bytesLess (sd ls (i - 1)).toList (sd ls i).toList = true := by
  rw [List.pairwise_iff_getElem]
  constructor
  · intro h i h0 h1 h2
    obtain ⟨j, rfl⟩ : ∃ j : Nat, i = ((j + 1 : Nat) : Int) := ⟨(i - 1).toNat, by omega⟩
    have := h j (j + 1) (by simp; omega) (by simp; omega) (by omega)
    rw [show ((j + 1 : Nat) : Int) - 1 = (j : Int) from by omega, sd_nat _ _ (by omega), sd_nat _ _ (by omega), less_ltS]
    simpa using this
  · intro h i j hi hj hij
    simp only [List.length_map] at hi hj
    induction j with
    | zero => omega
    | succ j ih =>
      have h1 := h ((j + 1 : Nat) : Int) (by omega) (by omega) (by omega)
      rw [show ((j + 1 : Nat) : Int) - 1 = (j : Int) from by omega, sd_nat _ _ (by omega), sd_nat _ _ (by omega), less_ltS] at h1
      rcases Nat.lt_or_ge i j with h2 | h2
      · have := ih (by omega) h2 (by omega)
        simp only [List.getElem_map] at this ⊢
        exact stoS.trans _ _ _ this h1
      · obtain rfl : i = j := by omega
        simpa using h1
theorem named_iff (ls : List ByteArray) : NamedB ls ↔ LabelsMay ls := by
  unfold NamedB LabelsMay
  rw [ordered_iff, pair_adj]
  constructor
  · rintro ⟨h1, h2, h3⟩; exact ⟨h1, fun i a b => ⟨h2 i a b, h3 i a b⟩⟩
  · rintro ⟨h1, h2⟩; exact ⟨h1, fun i a b => (h2 i a b).1, fun i a b => (h2 i a b).2⟩
theorem cmpE_lt (a b : Ed) : cmpE a b < 0 ↔ aheadB a b = true := by
  obtain ⟨a1, a2, a3⟩ := a
  obtain ⟨b1, b2, b3⟩ := b
  unfold cmpE aheadB orI orI orI orI cmpI
  simp only
  by_cases h1 : a1 < b1
  · simp [h1, show a1 ≠ b1 by omega]
  · by_cases h2 : b1 < a1
    · simp [h1, h2, show a1 ≠ b1 by omega]
    · obtain rfl : a1 = b1 := by omega
      by_cases h3 : a2 < b2
      · simp [h3, show a2 ≠ b2 by omega]
      · by_cases h4 : b2 < a2
        · simp [h3, h4, show a2 ≠ b2 by omega]
        · obtain rfl : a2 = b2 := by omega
          by_cases h5 : a3 < b3
          · simp [h5]
          · by_cases h6 : b3 < a3
            · simp [h5, h6]
            · simp [h5, h6]
theorem check_iff (l : Lt) : CheckOk l ↔ May l := by
  constructor
  · rintro ⟨h1, h2, h3, h4, h5⟩
    refine ⟨h1, h2, (named_iff _).1 h3, h4, fun i a b => ?_⟩
    obtain ⟨⟨q1, q2⟩, ⟨q3, q4⟩, q5, q6, q7⟩ := h5 i a b
    exact ⟨⟨q1, q2, q3, q4, q5, q6⟩, fun h => (cmpE_lt _ _).1 (q7 h)⟩
  · rintro ⟨h1, h2, h3, h4, h5⟩
    refine ⟨h1, h2, (named_iff _).2 h3, h4, fun i a b => ?_⟩
    obtain ⟨⟨q1, q2, q3, q4, q5, q6⟩, q7⟩ := h5 i a b
    exact ⟨⟨q1, q2⟩, ⟨q3, q4⟩, q5, q6, fun h => (cmpE_lt _ _).2 (q7 h)⟩
/-- lts.Check, in the document's words. -/
theorem CheckM_ct (A1 A2 : Option Addr) (c1 c2 : Nat) (l : Lt) (h : Heap) (hx : LtAt h l A1 c1 A2 c2) (hl : l.ls.length ≤ 100000) :
    Ct Tryz.prog 73 #[.agg #[.int .i64 l.n, .slice A1 l.ls.length c1, .slice A2 l.es.length c2]] h (fun v h' => v = .int .i64 (errB (May l)) ∧ Ext h h') := by
  refine (Check_ct A1 A2 c1 c2 l h hx hl).mono fun v h' ⟨a, b⟩ => ⟨?_, b⟩
  rw [a]; unfold errB
  have : tv (CheckOk l) = tv (May l) := by rw [Bool.eq_iff_iff, tv_iff, tv_iff, check_iff]
  rw [this]
end Go.Proofs.YtbajgbkkbabmlaaGreatDoor
