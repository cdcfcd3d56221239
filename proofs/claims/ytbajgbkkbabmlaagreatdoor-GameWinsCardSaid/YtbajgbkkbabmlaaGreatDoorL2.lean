/- slices.Concat at two lists of texts, names.Union. -/
import Derived.Test.YtbajgbkkbabmlaaGreatDoorProg
import Derived.Test.YtbajgbkkbabmlaaGreatDoorVs
import Derived.Test.YtbajgbkkbabmlaaGreatDoorPp
import Derived.Test.YtbajgbkkbabmlaaGreatDoorShelf
import Derived.Lib.RowBridge
set_option linter.unusedVariables false
namespace Go.Proofs.YtbajgbkkbabmlaaGreatDoor
open Go.Vc

theorem info_str : (Tryz.prog.info? 9).isSome = true := by kernel_rfl
theorem grow_ct (m : Nat) (h : Heap) (hm : m ≤ 1000000) : Ct Tryz.prog 139 #[.slice none 0 0, .int .i64 m] h
    (fun v h' => ∃ A c og, v = .slice A 0 c ∧ Own h' 9 1 (.slice A 0 c) 0 [] og ∧ Ext h h' ∧ ∀ g, og = some g → h.size ≤ g) := by
  refine Ct.enter (args := [.slice none 0 0, .int .i64 (m : Int)]) Tryz.func139 rfl Tryz.ntmps139 (by simp) fun w hw => ?_
  -- at 11010
  refine Run.adv 25 [.dec false] (at_ Tryz.f139 [1,1,0,1,0]) [(0, .slice none 0 0), (1, .int .i64 (m : Int))]
    ((decide ((m : Int) < 0)) = false ∧ (-9223372036854775808 ≤ (0 : Int) ∧ (0 : Int) ≤ 9223372036854775807) ∧ (-9223372036854775808 ≤ (m : Int) - 0 ∧ (m : Int) - 0 ≤ 9223372036854775807))
    (by as_aux_lemma => kernel_rfl) ⟨(by first | assumption | exact decide_eq_false (by first | omega | assumption)), ⟨by omega, by omega⟩, ⟨by omega, by omega⟩⟩ fun s_ => ?_
  by_cases h0 : m = 0
  · -- at 1111
    refine Run.adv 11 [.dec false] (at_ Tryz.f139 [1,1,1,1]) [(4, .slice none 0 0)]
      ((decide ((m : Int) > 0)) = false)
      (by as_aux_lemma => kernel_rfl) (by first | assumption | exact decide_eq_false (by first | omega | assumption)) fun s_ => ?_
    refine Run.ret [] (.slice none 0 0) (True) Tryz.func139 (by as_aux_lemma => kernel_rfl) (by as_aux_lemma => kernel_rfl) trivial ?_
    exact ⟨none, 0, none, rfl, Own.nil _ _ _, (Ext.refl _), by simp⟩
  -- at 11011485
  refine Run.adv 11 [.dec true, .say (.slice none 0 0)] (at_ Tryz.f139 [1,1,0,1,1,4,8,5]) [(0, .slice none 0 0), (1, .int .i64 (m : Int)), (20, .slice none 0 0), (21, .int .i64 (m : Int))]
    ((decide ((m : Int) > 0)) = true ∧ Says Tryz.prog (Instr.sliceAt 22 (.slice none 0 0) none (some (.int .i64 0)) none) (.slice none 0 0) h)
    (by as_aux_lemma => kernel_rfl) ⟨(by first | assumption | exact decide_eq_true (by first | omega | assumption)), (says_to (j := 0) (c := 0) Tryz.underlying22 info_str (Nat.le_refl 0) _)⟩ fun s_ => ?_
  refine Run.appendZ m 9 (.string ⟨#[]⟩) 16 (some 22) (at_ Tryz.f139 [1,1,0,1,1,4,8,6]) (by as_aux_lemma => kernel_rfl) (by as_aux_lemma => kernel_rfl) (by decide) (by omega) (by omega) fun g c h1 hg hO hE => ?_
  -- at 1111
  refine Run.adv 10 [.say (.slice (some ⟨g, 0, none⟩) 0 c)] (at_ Tryz.f139 [1,1,1,1]) [(4, .slice (some ⟨g, 0, none⟩) 0 c)]
    (Says Tryz.prog (Instr.sliceAt 22 (.slice (some ⟨g, 0, none⟩) m c) none (some (.int .i64 0)) none) (.slice (some ⟨g, 0, none⟩) 0 c) h1)
    (by as_aux_lemma => kernel_rfl) (says_to (j := 0) Tryz.underlying22 info_str (Nat.zero_le c) _) fun s_ => ?_
  refine Run.ret [] (.slice (some ⟨g, 0, none⟩) 0 c) (True) Tryz.func139 (by as_aux_lemma => kernel_rfl) (by as_aux_lemma => kernel_rfl) trivial ?_
  exact ⟨_, c, some g, rfl, hO.cut0, hE, fun g' e => by cases e; omega⟩
theorem grow_ct' (x : Int) (h : Heap) (h0 : 0 ≤ x) (h1 : x ≤ 1000000) : Ct Tryz.prog 139 #[.slice none 0 0, .int .i64 x] h
    (fun v h' => ∃ A c og, v = .slice A 0 c ∧ Own h' 9 1 (.slice A 0 c) 0 [] og ∧ Ext h h' ∧ ∀ g, og = some g → h.size ≤ g) := by
  obtain ⟨m, rfl⟩ := Int.eq_ofNat_of_zero_le h0
  exact grow_ct m h (by omega)
theorem concat_ct (g : Nat) (A1 A2 : Option Addr) (c1 c2 : Nat) (xs ys : List ByteArray) (h : Heap) (hB : Blk h g #[.slice A1 xs.length c1, .slice A2 ys.length c2] 22) (hx : Strs h A1 xs c1) (hy : Strs h A2 ys c2)
    (hl : xs.length ≤ 100000) (hm : ys.length ≤ 100000) : Ct Tryz.prog 125 #[.slice (some ⟨g, 0, none⟩) 2 2] h
    (fun v h' => ∃ og, Own h' 9 1 v (xs.length + ys.length) ((xs ++ ys).map Value.string) og ∧ Ext h h' ∧ ∀ g, og = some g → h.size ≤ g) := by
  refine Ct.enter (args := [.slice (some ⟨g, 0, none⟩) 2 2]) Tryz.func125 rfl Tryz.ntmps125 (by simp) fun w hw => ?_
  -- at 111081
  refine Run.adv 99 [.lit, .val (.slice A1 xs.length c1), .dec false, .lit, .val (.slice A2 ys.length c2), .dec false, .lit] (at_ Tryz.f125 [1,1,1,0,8,1]) [(0, .slice (some ⟨g, 0, none⟩) 2 2), (23, .int .i64 (0 + (xs.length : Int) + (ys.length : Int)))]
    ((0 ≤ (0 : Int) ∧ (0 : Int) < 2) ∧ cellH h ⟨g, 0, none⟩ = some (.slice A1 xs.length c1) ∧ (-9223372036854775808 ≤ 0 + (xs.length : Int) ∧ 0 + (xs.length : Int) ≤ 9223372036854775807) ∧ (decide (0 + (xs.length : Int) < 0)) = false ∧ (-9223372036854775808 ≤ (1 : Int) ∧ (1 : Int) ≤ 9223372036854775807) ∧ (0 ≤ (1 : Int) ∧ (1 : Int) < 2) ∧ cellH h ⟨g, 1, none⟩ = some (.slice A2 ys.length c2) ∧ (-9223372036854775808 ≤ 0 + (xs.length : Int) + (ys.length : Int) ∧ 0 + (xs.length : Int) + (ys.length : Int) ≤ 9223372036854775807) ∧ (decide (0 + (xs.length : Int) + (ys.length : Int) < 0)) = false ∧ (-9223372036854775808 ≤ (2 : Int) ∧ (2 : Int) ≤ 9223372036854775807))
    (by as_aux_lemma => kernel_rfl) ⟨⟨by omega, by omega⟩, (hB.at (Ext.refl _) 0 rfl), ⟨by omega, by omega⟩, (by first | assumption | exact decide_eq_false (by first | omega | assumption)), ⟨by omega, by omega⟩, ⟨by omega, by omega⟩, (hB.at (Ext.refl _) 1 rfl), ⟨by omega, by omega⟩, (by first | assumption | exact decide_eq_false (by first | omega | assumption)), ⟨by omega, by omega⟩⟩ fun s_ => ?_
  refine Run.call 139 #[.slice none 0 0, .int .i64 (0 + (xs.length : Int) + (ys.length : Int))] (some 24) (at_ Tryz.f125 [1,1,1,0,8,2]) (by as_aux_lemma => kernel_rfl) (grow_ct' _ _ (by omega) (by omega)) ?_
  rintro _ h1 ⟨A3, c3, og3, rfl, hO, hE, hg3⟩
  -- at 111101231102182
  refine Run.adv 29 [.lit, .val (.slice A1 xs.length c1)] (at_ Tryz.f125 [1,1,1,1,0,1,2,3,1,1,0,2,1,8,2]) [(25, .slice (some ⟨g, 0, none⟩) 2 2), (26, .int .i64 2), (27, .int .i64 0), (31, .slice A3 0 c3), (32, .slice A1 xs.length c1)]
    ((0 ≤ (0 : Int) ∧ (0 : Int) < 2) ∧ cellH h1 ⟨g, 0, none⟩ = some (.slice A1 xs.length c1))
    (by as_aux_lemma => kernel_rfl) ⟨⟨by omega, by omega⟩, (hB.at hE 0 rfl)⟩ fun s_ => ?_
  refine Run.append (.slice A3 0 c3) (.slice A1 xs.length c1) 9 (some 33) (at_ Tryz.f125 [1,1,1,1,0,1,2,3,1,1,0,2,1,8,3]) 1 16 (by as_aux_lemma => kernel_rfl) (by as_aux_lemma => kernel_rfl) (by decide) hO (hx.src hE) (by simp) (all_one (fun _ => rfl) _) (by omega) fun A4 c4 h4 og4 hOA4 hMh4 hgA4 => ?_
  have hEh_h4 := hMh4.ext hE (by exact hg3)
  have hg4 : ∀ g', og4 = some g' → h.size ≤ g' := by
    have := hE.size
    rcases hgA4 with rfl | rfl
    · exact hg3
    · intro g' e; cases e; omega
  -- at 111101231102182
  refine Run.adv 26 [.lit, .val (.slice A2 ys.length c2)] (at_ Tryz.f125 [1,1,1,1,0,1,2,3,1,1,0,2,1,8,2]) [(25, .slice (some ⟨g, 0, none⟩) 2 2), (26, .int .i64 2), (27, .int .i64 1), (31, .slice A4 (0 + xs.length) c4), (32, .slice A2 ys.length c2)]
    ((-9223372036854775808 ≤ (1 : Int) ∧ (1 : Int) ≤ 9223372036854775807) ∧ (0 ≤ (1 : Int) ∧ (1 : Int) < 2) ∧ cellH h4 ⟨g, 1, none⟩ = some (.slice A2 ys.length c2))
    (by as_aux_lemma => kernel_rfl) ⟨⟨by omega, by omega⟩, ⟨by omega, by omega⟩, (hB.at hEh_h4 1 rfl)⟩ fun s_ => ?_
  refine Run.append (.slice A4 (0 + xs.length) c4) (.slice A2 ys.length c2) 9 (some 33) (at_ Tryz.f125 [1,1,1,1,0,1,2,3,1,1,0,2,1,8,3]) 1 16 (by as_aux_lemma => kernel_rfl) (by as_aux_lemma => kernel_rfl) (by decide) hOA4 (hy.src hEh_h4) (by simp) (all_one (fun _ => rfl) _) (by omega) fun A5 c5 h5 og5 hOA5 hMh5 hgA5 => ?_
  have hEh_h5 := hMh5.ext hEh_h4 (by exact hg4)
  have hg5 : ∀ g', og5 = some g' → h.size ≤ g' := by
    have := hEh_h4.size
    rcases hgA5 with rfl | rfl
    · exact hg4
    · intro g' e; cases e; omega
  -- at 111111
  refine Run.adv 20 [.lit] (at_ Tryz.f125 [1,1,1,1,1,1]) [(2, .slice A5 ((0 + xs.length) + ys.length) c5)]
    ((-9223372036854775808 ≤ (2 : Int) ∧ (2 : Int) ≤ 9223372036854775807))
    (by as_aux_lemma => kernel_rfl) ⟨by omega, by omega⟩ fun s_ => ?_
  refine Run.ret [] (.slice A5 ((0 + xs.length) + ys.length) c5) (True) Tryz.func125 (by as_aux_lemma => kernel_rfl) (by as_aux_lemma => kernel_rfl) trivial ?_
  rw [Nat.zero_add] at hOA5
  refine ⟨og5, ?_, hEh_h5, hg5⟩
  rw [List.map_append]
  simpa using hOA5
/-! ### names.Union -/
open Go.Sort in
theorem sortS_ct (g c : Nat) (ls : List (List UInt8)) (h : Heap) (hO : Own h 9 1 (.slice (some ⟨g, 0, none⟩) ls.length c) ls.length (ls.map encStr) (some g)) (hl : ls.length ≤ 1000000) :
    Ct Tryz.prog 126 #[.slice (some ⟨g, 0, none⟩) ls.length c] h
      (fun v h' => v = .tuple #[] ∧ Own h' 9 1 (.slice (some ⟨g, 0, none⟩) ls.length c) ls.length ((ls.mergeSort fun x y => decide (x ≤ y)).map encStr) (some g) ∧ Mod (some g) h h') := by
  rintro w rfl
  refine (Tryz.slices_Sort_string g 0 c ls w (hO.holds (by simp)) (hO.lt rfl) (by omega)).mono ?_
  rintro e w' ⟨rfl, q, os, rfl⟩
  obtain ⟨h1, h2, h3⟩ := putRow_own (enc := encStr) (d := (ls.mergeSort fun x y => decide (x ≤ y)).toArray) (q := q) (os := os) hO (by simp)
  exact ⟨_, rfl, (Same0.refl w false).trans h3, rfl, by simpa using h1, h2⟩
open Go.Sort in
theorem compactS_ct (g c : Nat) (ls : List (List UInt8)) (h : Heap) (hO : Own h 9 1 (.slice (some ⟨g, 0, none⟩) ls.length c) ls.length (ls.map encStr) (some g)) (hl : ls.length ≤ 1000000) :
    Ct Tryz.prog 127 #[.slice (some ⟨g, 0, none⟩) ls.length c] h
      (fun v h' => v = .slice (some ⟨g, 0, none⟩) (Lib.compact ls).length c ∧ Own h' 9 1 (.slice (some ⟨g, 0, none⟩) (Lib.compact ls).length c) (Lib.compact ls).length ((Lib.compact ls).map encStr) (some g) ∧ Mod (some g) h h') := by
  rintro w rfl
  have hcap : ls.length ≤ c := by
    obtain ⟨cap, arr, hv, _, _, _, _, hn, _⟩ := hO
    injection hv with _ _ h3
    omega
  refine (Tryz.slices_Compact_string g 0 c ls w (hO.holds (by simp)) (by omega) hcap).mono ?_
  rintro e w' ⟨rfl, q, rfl⟩
  have hcl : (Lib.compact ls).length ≤ ls.length := Lib.compact_length_le ls
  obtain ⟨h1, h2, h3⟩ := putRow_own (enc := encStr) (d := (Lib.compact ls ++ List.replicate (ls.length - (Lib.compact ls).length) []).toArray) (q := q) (os := #[]) hO (by simp; omega)
  rw [grow_empty] at h1 h2 h3
  refine ⟨_, rfl, (Same0.refl w false).trans h3, rfl, ?_, h2⟩
  have := h1.cut hcl
  simpa using this
/-- A text's bytes. -/
def bl (s : ByteArray) : List UInt8 := s.data.toList
theorem enc_bl (xs : List ByteArray) : xs.map Value.string = (xs.map bl).map encStr := by
  rw [List.map_map]
  exact List.map_congr_left fun x _ => by simp [bl, encStr]
/-- All of two lists, each once, in order. -/
def unionL (xs ys : List ByteArray) : List (List UInt8) := Lib.compact (((xs ++ ys).map bl).mergeSort fun x y => decide (x ≤ y))
theorem union_ct (A1 A2 : Option Addr) (c1 c2 : Nat) (xs ys : List ByteArray) (h : Heap) (hx : Strs h A1 xs c1) (hy : Strs h A2 ys c2) (hl : xs.length ≤ 100000) (hm : ys.length ≤ 100000) :
    Ct Tryz.prog 117 #[.slice A1 xs.length c1, .slice A2 ys.length c2] h
      (fun v h' => ∃ og, Own h' 9 1 v (unionL xs ys).length ((unionL xs ys).map encStr) og ∧ Ext h h' ∧ ∀ g, og = some g → h.size ≤ g) := by
  refine Ct.enter (args := [.slice A1 xs.length c1, .slice A2 ys.length c2]) Tryz.func117 rfl Tryz.ntmps117 (by simp) fun w hw => ?_
  -- at 1082
  refine Run.adv 8 [] (at_ Tryz.f117 [1,0,8,2]) [(0, .slice A1 xs.length c1), (1, .slice A2 ys.length c2), (4, .slice none 0 0), (6, .slice A1 xs.length c1), (7, .slice A2 ys.length c2)]
    (True)
    (by as_aux_lemma => kernel_rfl) trivial fun s_ => ?_
  refine Run.new #[.slice A1 xs.length c1, .slice A2 ys.length c2] 22 (fun g_ => .slice (some ⟨g_, 0, none⟩) 2 2) (some 8) (at_ Tryz.f117 [1,0,8,3]) (by as_aux_lemma => kernel_rfl) fun g1 h1 hng1 hEg1 hBg1 => ?_
  refine Run.call 125 #[.slice (some ⟨g1, 0, none⟩) 2 2] (some 9) (at_ Tryz.f117 [1,0,8,4]) (by as_aux_lemma => kernel_rfl) (concat_ct g1 A1 A2 c1 c2 xs ys _ hBg1 (hx.ext hEg1) (hy.ext hEg1) hl hm) ?_
  rintro v h2 ⟨og, hO, hE2, hg⟩
  have hEE := hEg1.trans hE2
  have hlen : ((xs ++ ys).map bl).length = xs.length + ys.length := by simp
  rw [enc_bl, ← hlen] at hO
  have hms : (((xs ++ ys).map bl).mergeSort fun x y => decide (x ≤ y)).length = ((xs ++ ys).map bl).length := by simp
  obtain ⟨A, c, rfl⟩ := hO.slice
  -- at 11081
  refine Run.adv 5 [] (at_ Tryz.f117 [1,1,0,8,1]) [(5, .slice A (((xs ++ ys).map bl).length) c), (10, .slice A (((xs ++ ys).map bl).length) c)]
    (True)
    (by as_aux_lemma => kernel_rfl) trivial fun s_ => ?_
  cases og with
  | none =>
    obtain ⟨hs, hn, _⟩ := hO
    injection hs with e1 e2 e3
    subst e1 e3
    have hnil : (xs ++ ys).map bl = [] := List.eq_nil_of_length_eq_zero hn
    rw [hn]
    have s0 : Ct Tryz.prog 126 #[.slice none 0 0] h2 (fun v h' => v = .tuple #[] ∧ h' = h2) := by
      rintro w rfl
      refine (Tryz.slices_Sort_string_none none 0 w).mono ?_
      rintro e w' ⟨rfl, rfl⟩
      exact ⟨_, rfl, Same0.refl _ _, rfl, rfl⟩
    have c0 : Ct Tryz.prog 127 #[.slice none 0 0] h2 (fun v h' => v = .slice none 0 0 ∧ h' = h2) := by
      rintro w rfl
      refine (Tryz.slices_Compact_string_empty none 0 w).mono ?_
      rintro e w' ⟨rfl, rfl⟩
      exact ⟨_, rfl, Same0.refl _ _, rfl, rfl⟩
    -- at 1111
    refine Run.adv 8 [.val (.tuple #[]), .val (.slice none 0 0)] (at_ Tryz.f117 [1,1,1,1]) [(4, .slice none 0 0)]
      ((Ct Tryz.prog 126 #[.slice none 0 0] h2 (fun v_ h_ => v_ = .tuple #[] ∧ h_ = h2)) ∧ (Ct Tryz.prog 127 #[.slice none 0 0] h2 (fun v_ h_ => v_ = .slice none 0 0 ∧ h_ = h2)))
      (by as_aux_lemma => kernel_rfl) ⟨s0, c0⟩ fun s_ => ?_
    refine Run.ret [] (.slice none 0 0) (True) Tryz.func117 (by as_aux_lemma => kernel_rfl) (by as_aux_lemma => kernel_rfl) trivial ?_
    refine ⟨none, ?_, hEE, by simp⟩
    have hu : unionL xs ys = [] := by unfold unionL; rw [hnil, List.mergeSort_nil]; rfl
    rw [hu]
    exact Own.nil _ _ _
  | some g =>
    obtain ⟨rfl⟩ : A = some ⟨g, 0, none⟩ := by obtain ⟨cap, arr, hv, _⟩ := hO; injection hv
    refine Run.call 126 #[.slice (some ⟨g, 0, none⟩) (((xs ++ ys).map bl).length) c] (some 11) (at_ Tryz.f117 [1,1,0,8,2]) (by as_aux_lemma => kernel_rfl) (sortS_ct g c _ _ hO (by simp; omega)) ?_
    rintro _ h3 ⟨rfl, hO3, hM3⟩
    rw [← hms] at hO3
    -- at 111081
    refine Run.adv 4 [] (at_ Tryz.f117 [1,1,1,0,8,1]) [(12, .slice (some ⟨g, 0, none⟩) (((xs ++ ys).map bl).length) c)]
      (True)
      (by as_aux_lemma => kernel_rfl) trivial fun s_ => ?_
    rw [← hms]
    refine Run.call 127 #[.slice (some ⟨g, 0, none⟩) ((((xs ++ ys).map bl).mergeSort fun x y => decide (x ≤ y)).length) c] (some 13) (at_ Tryz.f117 [1,1,1,0,8,2]) (by as_aux_lemma => kernel_rfl) (compactS_ct g c _ _ hO3 (by simp; omega)) ?_
    rintro _ h4 ⟨rfl, hO4, hM4⟩
    -- at 1111
    refine Run.adv 2 [] (at_ Tryz.f117 [1,1,1,1]) [(4, .slice (some ⟨g, 0, none⟩) ((unionL xs ys).length) c)]
      (True)
      (by as_aux_lemma => kernel_rfl) trivial fun s_ => ?_
    refine Run.ret [] (.slice (some ⟨g, 0, none⟩) ((unionL xs ys).length) c) (True) Tryz.func117 (by as_aux_lemma => kernel_rfl) (by as_aux_lemma => kernel_rfl) trivial ?_
    refine ⟨some g, hO4, (hM3.trans hM4).ext hEE (fun g' e => ?_), fun g' e => ?_⟩
    · have := hEg1.size; have := hg g' e; omega
    · have := hEg1.size; have := hg g' e; omega
end Go.Proofs.YtbajgbkkbabmlaaGreatDoor
