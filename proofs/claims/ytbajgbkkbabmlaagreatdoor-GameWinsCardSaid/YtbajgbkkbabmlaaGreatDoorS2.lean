/- slices.Compact at ways, walked. -/
import Derived.Test.YtbajgbkkbabmlaaGreatDoorProg
import Derived.Test.YtbajgbkkbabmlaaGreatDoorVn
import Derived.Test.YtbajgbkkbabmlaaGreatDoorPw
set_option linter.unusedVariables false
namespace Go.Proofs.YtbajgbkkbabmlaaGreatDoor
open Go.Vc
theorem lx_109_1101231020 : LexOk (opsAt (at_ Tryz.f109 [1,1,0,1,2,3,1,0,2,0])) := ⟨by kernel_rfl⟩
theorem lx_109_11012310214101231020 : LexOk (opsAt (at_ Tryz.f109 [1,1,0,1,2,3,1,0,2,1,4,1,0,1,2,3,1,0,2,0])) := ⟨by kernel_rfl⟩

theorem info_way : (Tryz.prog.info? 158).map (·.size) = some 2 := by kernel_rfl
theorem info_ways : (Tryz.prog.info? 158).isSome = true := by kernel_rfl
theorem compactW_ct (v : Value) (og : Option Nat) (xs : List Wy) (h : Heap) (hO : Own h 158 2 v xs.length (xs.flatMap encW) og) (hl : xs.length ≤ 1000000) :
    Ct Tryz.prog 109 #[v] h (fun v' h' => Own h' 158 2 v' (compL xs).length ((compL xs).flatMap encW) og ∧ Mod og h h') := by
  obtain ⟨A, c, rfl⟩ := hO.slice
  refine Ct.enter (args := [.slice A xs.length c]) Tryz.func109 rfl Tryz.ntmps109 (by simp) fun w hw => ?_
  by_cases hs : (xs.length : Int) < 2
  · -- at 10141
    refine Run.adv 17 [.dec true] (at_ Tryz.f109 [1,0,1,4,1]) [(2, .slice A xs.length c)]
      ((decide ((xs.length : Int) < 2)) = true)
      (by as_aux_lemma => kernel_rfl) (by first | assumption | exact decide_eq_true (by first | omega | assumption)) fun s_ => ?_
    refine Run.ret [] (.slice A xs.length c) (True) Tryz.func109 (by as_aux_lemma => kernel_rfl) (by as_aux_lemma => kernel_rfl) trivial ?_
    rw [compL_short (by omega)]
    exact ⟨hO, (Ext.refl _).mod _⟩
  cases og with
  | none => obtain ⟨_, hn, _⟩ := hO; omega
  | some g =>
  have hsh : A = some ⟨g, 0, none⟩ ∧ xs.length ≤ c := by obtain ⟨cap, arr, hv, _, _, _, _, hc, _⟩ := hO; injection hv with e1 e2 e3; exact ⟨e1, by omega⟩
  obtain ⟨rfl, hcap⟩ := hsh
  -- at 11012
  refine Run.adv 19 [.dec false] (at_ Tryz.f109 [1,1,0,1,2]) [(0, .slice (some ⟨g, 0, none⟩) xs.length c), (3, .int .i64 1)]
    ((decide ((xs.length : Int) < 2)) = false)
    (by as_aux_lemma => kernel_rfl) (by first | assumption | exact decide_eq_false (by first | omega | assumption)) fun s_ => ?_
  refine Run.loop (at_ Tryz.f109 [1,1,0,1,2,3]) (at_ Tryz.f109 [1,1,0,1,2,7]) (fun k : Nat => [(0, .slice (some ⟨g, 0, none⟩) xs.length c), (3, .int .i64 (k : Int))])
    (fun k h' => h' = h ∧ 1 ≤ k ∧ k ≤ xs.length ∧ compL (xs.take k) = xs.take k) (fun k => xs.length - k) 1 (by as_aux_lemma => kernel_rfl) rfl ?_ ?_
  · exact ⟨rfl, Nat.le_refl _, by omega, compL_short (by simp; omega)⟩
  rintro k s h' ⟨rfl, hk1, hk2, hI⟩ again
  by_cases hlt : (k : Int) < xs.length
  rotate_left
  · -- at 1111
    refine Run.adv 15 [.dec false] (at_ Tryz.f109 [1,1,1,1]) [(2, .slice (some ⟨g, 0, none⟩) xs.length c)]
      ((decide ((k : Int) < (xs.length : Int))) = false)
      (by as_aux_lemma => kernel_rfl) (by first | assumption | exact decide_eq_false (by first | omega | assumption)) fun s_ => ?_
    refine Run.ret [] (.slice (some ⟨g, 0, none⟩) xs.length c) (True) Tryz.func109 (by as_aux_lemma => kernel_rfl) (by as_aux_lemma => kernel_rfl) trivial ?_
    obtain rfl : k = xs.length := by omega
    rw [List.take_length] at hI
    rw [hI]
    exact ⟨hO, (Ext.refl _).mod _⟩
  have hct : compL (xs.take (k + 1)) = if wd xs (k - 1) = wd xs k then compL (xs.take k) else compL (xs.take k) ++ [wd xs k] := compL_take (0, 0) xs k hk1 (by omega)
  by_cases e1 : wd xs k = wd xs (k - 1)
  rotate_left
  · -- at 110127
    refine Run.adv 22 [.dec true, .draw, .val (.agg #[.int .i64 ((wd xs k).1), .int .i64 ((wd xs k).2)]), .val (.agg #[.int .i64 ((wd xs (k - 1)).1), .int .i64 ((wd xs (k - 1)).2)]), .dec false] (at_ Tryz.f109 [1,1,0,1,2,7]) [(0, .slice (some ⟨g, 0, none⟩) xs.length c), (3, .int .i64 ((k + 1 : Nat) : Int))]
      ((decide ((k : Int) < (xs.length : Int))) = true ∧ LexOk (opsAt (at_ Tryz.f109 [1,1,0,1,2,3,1,0,2,0])) ∧ (0 ≤ (k : Int) ∧ (k : Int) < (xs.length : Int)) ∧ cellsAt h' ⟨g, 0 + (k : Int).toNat * 2, none⟩ [.int .i64 ((wd xs k).1), .int .i64 ((wd xs k).2)] 0 ∧ (-9223372036854775808 ≤ (k : Int) - 1 ∧ (k : Int) - 1 ≤ 9223372036854775807) ∧ (0 ≤ (k : Int) - 1 ∧ (k : Int) - 1 < (xs.length : Int)) ∧ cellsAt h' ⟨g, 0 + ((k : Int) - 1).toNat * 2, none⟩ [.int .i64 ((wd xs (k - 1)).1), .int .i64 ((wd xs (k - 1)).2)] 0 ∧ ((((wd xs k).1) == ((wd xs (k - 1)).1)) && ((((wd xs k).2) == ((wd xs (k - 1)).2)) && true)) = false ∧ (-9223372036854775808 ≤ (k : Int) + 1 ∧ (k : Int) + 1 ≤ 9223372036854775807))
      (by as_aux_lemma => kernel_rfl) ⟨(by first | assumption | exact decide_eq_true (by first | omega | assumption)), lx_109_1101231020, ⟨by omega, by omega⟩, (hO.elem encW_len (0, 0) (by omega) (by simp)), ⟨by omega, by omega⟩, ⟨by omega, by omega⟩, (hO.elem encW_len (0, 0) (by omega) (by simp <;> omega)), (by rw [eqWy]; exact decide_eq_false e1), ⟨by omega, by omega⟩⟩ fun s_ => ?_
    refine again (k + 1) _ _ ⟨rfl, by omega, by omega, ?_⟩ (by omega)
    rw [hct, if_neg (fun e => e1 e.symm), hI]
    rw [List.take_succ_eq_append_getElem (by omega), wd, List.getD_eq_getElem?_getD, List.getElem?_eq_getElem (by omega)]
    rfl
  -- at 110123102141012
  refine Run.adv 28 [.dec true, .draw, .val (.agg #[.int .i64 ((wd xs k).1), .int .i64 ((wd xs k).2)]), .val (.agg #[.int .i64 ((wd xs (k - 1)).1), .int .i64 ((wd xs (k - 1)).2)]), .dec true, .say (.slice (some ⟨g, 0 + k * 2, none⟩) (xs.length - k) (c - k))] (at_ Tryz.f109 [1,1,0,1,2,3,1,0,2,1,4,1,0,1,2]) [(0, .slice (some ⟨g, 0, none⟩) xs.length c), (3, .int .i64 (k : Int)), (4, .slice (some ⟨g, 0 + k * 2, none⟩) (xs.length - k) (c - k)), (5, .int .i64 1)]
    ((decide ((k : Int) < (xs.length : Int))) = true ∧ LexOk (opsAt (at_ Tryz.f109 [1,1,0,1,2,3,1,0,2,0])) ∧ (0 ≤ (k : Int) ∧ (k : Int) < (xs.length : Int)) ∧ cellsAt h' ⟨g, 0 + (k : Int).toNat * 2, none⟩ [.int .i64 ((wd xs k).1), .int .i64 ((wd xs k).2)] 0 ∧ (-9223372036854775808 ≤ (k : Int) - 1 ∧ (k : Int) - 1 ≤ 9223372036854775807) ∧ (0 ≤ (k : Int) - 1 ∧ (k : Int) - 1 < (xs.length : Int)) ∧ cellsAt h' ⟨g, 0 + ((k : Int) - 1).toNat * 2, none⟩ [.int .i64 ((wd xs (k - 1)).1), .int .i64 ((wd xs (k - 1)).2)] 0 ∧ ((((wd xs k).1) == ((wd xs (k - 1)).1)) && ((((wd xs k).2) == ((wd xs (k - 1)).2)) && true)) = true ∧ Says Tryz.prog (Instr.sliceAt 130 (.slice (some ⟨g, 0, none⟩) xs.length c) (some (.int .i64 (k : Int))) none none) (.slice (some ⟨g, 0 + k * 2, none⟩) (xs.length - k) (c - k)) h')
    (by as_aux_lemma => kernel_rfl) ⟨(by first | assumption | exact decide_eq_true (by first | omega | assumption)), lx_109_1101231020, ⟨by omega, by omega⟩, (hO.elem encW_len (0, 0) (by omega) (by simp)), ⟨by omega, by omega⟩, ⟨by omega, by omega⟩, (hO.elem encW_len (0, 0) (by omega) (by simp <;> omega)), (by rw [eqWy]; exact decide_eq_true e1), (says_from Tryz.underlying130 info_way (by omega) (by omega) hcap _)⟩ fun s_ => ?_
  refine Run.loop (at_ Tryz.f109 [1,1,0,1,2,3,1,0,2,1,4,1,0,1,2,3]) (at_ Tryz.f109 [1,1,0,1,2,3,1,0,2,1,4,1,0,1,2,7]) (fun (⟨i, j⟩ : Nat × Nat) => [(0, .slice (some ⟨g, 0, none⟩) xs.length c), (3, .int .i64 (j : Int)), (4, .slice (some ⟨g, 0 + k * 2, none⟩) (xs.length - k) (c - k)), (5, .int .i64 (i : Int))])
    (fun ⟨i, j⟩ h'' => ∃ ys : List Wy, ys.length = xs.length ∧ Own h'' 158 2 (.slice (some ⟨g, 0, none⟩) xs.length c) xs.length (ys.flatMap encW) (some g) ∧ Mod (some g) h' h'' ∧ 1 ≤ i ∧ k + i ≤ xs.length ∧ j + 1 ≤ k + i ∧ ys.take j = compL (xs.take (k + i)) ∧ (∀ m, j ≤ m → wd ys m = wd xs m)) (fun ⟨i, j⟩ => xs.length - i) (1, k) (by as_aux_lemma => kernel_rfl) rfl ?_ ?_
  · refine ⟨xs, rfl, hO, (Ext.refl _).mod _, Nat.le_refl _, by omega, by omega, ?_, fun _ _ => rfl⟩
    rw [hct, if_pos e1.symm, hI]
  rintro ⟨i, j⟩ s h'' ⟨ys, hyl, hO2, hM2, hi1, hi2, hj, hT, hR⟩ again2
  simp only at hi1 hi2 hj hT hR hO2 hM2 again2
  rw [← hyl] at hO2
  by_cases hlt2 : (i : Int) < ((xs.length - k : Nat) : Int)
  · have hct2 : compL (xs.take (k + i + 1)) = if wd xs (k + i - 1) = wd xs (k + i) then compL (xs.take (k + i)) else compL (xs.take (k + i)) ++ [wd xs (k + i)] := compL_take (0, 0) xs (k + i) (by omega) (by omega)
    have ha := hR (k + i) (by omega)
    have hb := hR (k + i - 1) (by omega)
    by_cases e2 : wd xs (k + i) = wd xs (k + i - 1)
    · -- at 1101231021410127
      refine Run.adv 22 [.dec true, .draw, .val (.agg #[.int .i64 ((wd xs (k + i)).1), .int .i64 ((wd xs (k + i)).2)]), .val (.agg #[.int .i64 ((wd xs (k + i - 1)).1), .int .i64 ((wd xs (k + i - 1)).2)]), .dec false] (at_ Tryz.f109 [1,1,0,1,2,3,1,0,2,1,4,1,0,1,2,7]) [(0, .slice (some ⟨g, 0, none⟩) xs.length c), (3, .int .i64 (j : Int)), (4, .slice (some ⟨g, 0 + k * 2, none⟩) (xs.length - k) (c - k)), (5, .int .i64 ((i + 1 : Nat) : Int))]
        ((decide ((i : Int) < ((xs.length - k : Nat) : Int))) = true ∧ LexOk (opsAt (at_ Tryz.f109 [1,1,0,1,2,3,1,0,2,1,4,1,0,1,2,3,1,0,2,0])) ∧ (0 ≤ (i : Int) ∧ (i : Int) < ((xs.length - k : Nat) : Int)) ∧ cellsAt h'' ⟨g, 0 + k * 2 + (i : Int).toNat * 2, none⟩ [.int .i64 ((wd xs (k + i)).1), .int .i64 ((wd xs (k + i)).2)] 0 ∧ (-9223372036854775808 ≤ (i : Int) - 1 ∧ (i : Int) - 1 ≤ 9223372036854775807) ∧ (0 ≤ (i : Int) - 1 ∧ (i : Int) - 1 < ((xs.length - k : Nat) : Int)) ∧ cellsAt h'' ⟨g, 0 + k * 2 + ((i : Int) - 1).toNat * 2, none⟩ [.int .i64 ((wd xs (k + i - 1)).1), .int .i64 ((wd xs (k + i - 1)).2)] 0 ∧ (!((((wd xs (k + i)).1) == ((wd xs (k + i - 1)).1)) && ((((wd xs (k + i)).2) == ((wd xs (k + i - 1)).2)) && true))) = false ∧ (-9223372036854775808 ≤ (i : Int) + 1 ∧ (i : Int) + 1 ≤ 9223372036854775807))
        (by as_aux_lemma => kernel_rfl) ⟨(by first | assumption | exact decide_eq_true (by first | omega | assumption)), lx_109_11012310214101231020, ⟨by omega, by omega⟩, (by rw [← ha]; exact hO2.elem encW_len (0, 0) (by omega) (by simp <;> omega)), ⟨by omega, by omega⟩, ⟨by omega, by omega⟩, (by rw [← hb]; exact hO2.elem encW_len (0, 0) (by omega) (by simp <;> omega)), (by rw [show ((wd xs (k + i)).1 == (wd xs (k + i - 1)).1 && ((wd xs (k + i)).2 == (wd xs (k + i - 1)).2 && true)) = _ from eqWy _ _, decide_eq_true e2]; rfl), ⟨by omega, by omega⟩⟩ fun s_ => ?_
      rw [hyl] at hO2
      refine again2 (i + 1, j) _ _ ⟨ys, hyl, hO2, hM2, by omega, by omega, by omega, ?_, hR⟩ (by simp only; omega)
      rw [hT, ← Nat.add_assoc, hct2, if_pos e2.symm]
    · -- at 110123102141012310214087
      refine Run.adv 24 [.dec true, .draw, .val (.agg #[.int .i64 ((wd xs (k + i)).1), .int .i64 ((wd xs (k + i)).2)]), .val (.agg #[.int .i64 ((wd xs (k + i - 1)).1), .int .i64 ((wd xs (k + i - 1)).2)]), .dec true, .val (.agg #[.int .i64 ((wd xs (k + i)).1), .int .i64 ((wd xs (k + i)).2)])] (at_ Tryz.f109 [1,1,0,1,2,3,1,0,2,1,4,1,0,1,2,3,1,0,2,1,4,0,8,7]) [(0, .slice (some ⟨g, 0, none⟩) xs.length c), (3, .int .i64 (j : Int)), (4, .slice (some ⟨g, 0 + k * 2, none⟩) (xs.length - k) (c - k)), (5, .int .i64 (i : Int)), (50, .agg #[.int .i64 ((wd xs (k + i)).1), .int .i64 ((wd xs (k + i)).2)]), (51, .pointer (some ⟨g, 0 + (j : Int).toNat * 2, none⟩))]
        ((decide ((i : Int) < ((xs.length - k : Nat) : Int))) = true ∧ LexOk (opsAt (at_ Tryz.f109 [1,1,0,1,2,3,1,0,2,1,4,1,0,1,2,3,1,0,2,0])) ∧ (0 ≤ (i : Int) ∧ (i : Int) < ((xs.length - k : Nat) : Int)) ∧ cellsAt h'' ⟨g, 0 + k * 2 + (i : Int).toNat * 2, none⟩ [.int .i64 ((wd xs (k + i)).1), .int .i64 ((wd xs (k + i)).2)] 0 ∧ (-9223372036854775808 ≤ (i : Int) - 1 ∧ (i : Int) - 1 ≤ 9223372036854775807) ∧ (0 ≤ (i : Int) - 1 ∧ (i : Int) - 1 < ((xs.length - k : Nat) : Int)) ∧ cellsAt h'' ⟨g, 0 + k * 2 + ((i : Int) - 1).toNat * 2, none⟩ [.int .i64 ((wd xs (k + i - 1)).1), .int .i64 ((wd xs (k + i - 1)).2)] 0 ∧ (!((((wd xs (k + i)).1) == ((wd xs (k + i - 1)).1)) && ((((wd xs (k + i)).2) == ((wd xs (k + i - 1)).2)) && true))) = true ∧ (0 ≤ (i : Int) ∧ (i : Int) < ((xs.length - k : Nat) : Int)) ∧ cellsAt h'' ⟨g, 0 + k * 2 + (i : Int).toNat * 2, none⟩ [.int .i64 ((wd xs (k + i)).1), .int .i64 ((wd xs (k + i)).2)] 0 ∧ (0 ≤ (j : Int) ∧ (j : Int) < (xs.length : Int)))
        (by as_aux_lemma => kernel_rfl) ⟨(by first | assumption | exact decide_eq_true (by first | omega | assumption)), lx_109_11012310214101231020, ⟨by omega, by omega⟩, (by rw [← ha]; exact hO2.elem encW_len (0, 0) (by omega) (by simp <;> omega)), ⟨by omega, by omega⟩, ⟨by omega, by omega⟩, (by rw [← hb]; exact hO2.elem encW_len (0, 0) (by omega) (by simp <;> omega)), (by rw [show ((wd xs (k + i)).1 == (wd xs (k + i - 1)).1 && ((wd xs (k + i)).2 == (wd xs (k + i - 1)).2 && true)) = _ from eqWy _ _, decide_eq_false e2]; rfl), ⟨by omega, by omega⟩, (by rw [← ha]; exact hO2.elem encW_len (0, 0) (by omega) (by simp <;> omega)), ⟨by omega, by omega⟩⟩ fun s_ => ?_
      refine Run.storeOwn g (0 + (j : Int).toNat * 2) [.int .i64 ((wd xs (k + i)).1), .int .i64 ((wd xs (k + i)).2)] (at_ Tryz.f109 [1,1,0,1,2,3,1,0,2,1,4,1,0,1,2,3,1,0,2,1,4,0,8,8]) (by as_aux_lemma => kernel_rfl) hO2 (by (simp; omega)) rfl fun h3 hMh3 hzh3 hOh3 => ?_
      -- at 1101231021410127
      refine Run.adv 12 [] (at_ Tryz.f109 [1,1,0,1,2,3,1,0,2,1,4,1,0,1,2,7]) [(0, .slice (some ⟨g, 0, none⟩) xs.length c), (3, .int .i64 ((j + 1 : Nat) : Int)), (4, .slice (some ⟨g, 0 + k * 2, none⟩) (xs.length - k) (c - k)), (5, .int .i64 ((i + 1 : Nat) : Int))]
        ((-9223372036854775808 ≤ (j : Int) + 1 ∧ (j : Int) + 1 ≤ 9223372036854775807) ∧ (-9223372036854775808 ≤ (i : Int) + 1 ∧ (i : Int) + 1 ≤ 9223372036854775807))
        (by as_aux_lemma => kernel_rfl) ⟨⟨by omega, by omega⟩, ⟨by omega, by omega⟩⟩ fun s_ => ?_
      have hset := setL_flatMap encW_len ys j (wd xs (k + i)) (by omega)
      rw [show 0 + (j : Int).toNat * 2 = j * 2 from by simp, show [Value.int .i64 (wd xs (k + i)).1, .int .i64 (wd xs (k + i)).2] = encW (wd xs (k + i)) from rfl, hset, hyl] at hOh3
      refine again2 (i + 1, j + 1) _ _ ⟨ys.set j (wd xs (k + i)), by simp [hyl], hOh3, hM2.trans hMh3, by omega, by omega, by omega, ?_, fun m hm => ?_⟩ (by simp only; omega)
      · rw [← Nat.add_assoc, hct2, if_neg (fun e => e2 e.symm), ← hT, List.take_succ_eq_append_getElem (by simp; omega), List.take_set_of_le (Nat.le_refl _)]
        simp [wd]
      · unfold wd
        rw [getD_set _ _ _ _ _ (by omega), if_neg (by omega)]
        exact hR m (by omega)
  · have hie : i = xs.length - k := by omega
    rw [show k + i = xs.length from by omega, List.take_length] at hT
    have hjl : (compL xs).length = j := by rw [← hT, List.length_take]; omega
    -- at 1101231021411083
    refine Run.adv 15 [.dec false, .say (.slice (some ⟨g, 0 + j * 2, none⟩) (xs.length - j) (c - j))] (at_ Tryz.f109 [1,1,0,1,2,3,1,0,2,1,4,1,1,0,8,3]) [(0, .slice (some ⟨g, 0, none⟩) xs.length c), (3, .int .i64 (j : Int)), (56, .slice (some ⟨g, 0 + j * 2, none⟩) (xs.length - j) (c - j))]
      ((decide ((i : Int) < ((xs.length - k : Nat) : Int))) = false ∧ Says Tryz.prog (Instr.sliceAt 130 (.slice (some ⟨g, 0, none⟩) xs.length c) (some (.int .i64 (j : Int))) none none) (.slice (some ⟨g, 0 + j * 2, none⟩) (xs.length - j) (c - j)) h'')
      (by as_aux_lemma => kernel_rfl) ⟨(by first | assumption | exact decide_eq_false (by first | omega | assumption)), (says_from Tryz.underlying130 info_way (by omega) (by omega) hcap _)⟩ fun s_ => ?_
    obtain ⟨arr, hBa, hle⟩ := own_arr hO2
    refine Run.clear g (0 + j * 2) (xs.length - j) (c - j) 158 none (at_ Tryz.f109 [1,1,0,1,2,3,1,0,2,1,4,1,1,0,8,4]) (z := #[.int .i64 0, .int .i64 0]) (by as_aux_lemma => kernel_rfl) (by as_aux_lemma => kernel_rfl) hBa (by simp; omega) rfl (by omega) fun h3 zs hzl hM3 hz3 hB3 => ?_
    -- at 110123102141111
    refine Run.adv 8 [.say (.slice (some ⟨g, 0, none⟩) j c)] (at_ Tryz.f109 [1,1,0,1,2,3,1,0,2,1,4,1,1,1,1]) [(2, .slice (some ⟨g, 0, none⟩) j c)]
      (Says Tryz.prog (Instr.sliceAt 130 (.slice (some ⟨g, 0, none⟩) xs.length c) none (some (.int .i64 (j : Int))) none) (.slice (some ⟨g, 0, none⟩) j c) h3)
      (by as_aux_lemma => kernel_rfl) (says_to Tryz.underlying130 info_ways (by omega) _) fun s_ => ?_
    refine Run.ret [] (.slice (some ⟨g, 0, none⟩) j c) (True) Tryz.func109 (by as_aux_lemma => kernel_rfl) (by as_aux_lemma => kernel_rfl) trivial ?_
    refine ⟨?_, hM2.trans hM3⟩
    have hO3 := hO2.put (off := 0 + j * 2) (vs := zs) (h' := h3) (by rw [hzl]; simp; omega) (fun arr' t' hb => by obtain ⟨rfl, rfl⟩ := blk_unique hBa hb; exact hB3)
    have := hO3.cut (m := j) (by omega)
    rw [setL_take, flatMap_take encW_len, hT, hjl.symm] at this
    rw [hjl] at this ⊢
    rw [show setL ((compL xs).flatMap encW) (0 + j * 2) zs = (compL xs).flatMap encW from by
      have key : ∀ (vs cs : List Value) (off : Nat), cs.length ≤ off → setL cs off vs = cs := by
        intro vs
        induction vs with
        | nil => intro cs off _; rfl
        | cons v r ih => intro cs off h; simp only [setL]; rw [List.set_eq_of_length_le h]; exact ih _ _ (by omega)
      exact key _ _ _ (by rw [flatMap_length encW_len, hjl]; omega)] at this
    exact this
end Go.Proofs.YtbajgbkkbabmlaaGreatDoor
