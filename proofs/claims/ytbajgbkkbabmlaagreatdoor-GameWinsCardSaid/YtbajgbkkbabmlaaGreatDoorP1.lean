/- Package part, walked: numbering. -/
import Derived.Test.YtbajgbkkbabmlaaGreatDoorProg
import Derived.Test.YtbajgbkkbabmlaaGreatDoorPp
set_option linter.unusedVariables false
namespace Go.Proofs.YtbajgbkkbabmlaaGreatDoor
open Go.Vc
theorem zero_int : zeroOf Tryz.prog 3 = some (.int .i64 0) := by kernel_rfl
theorem key_int : KeyOk Tryz.prog 3 (Value.int .i64) := KeyOk.int Tryz.underlying3

theorem number_ct (A : Option Addr) (c : Nat) (xs : List Int) (h : Heap) (hx : Ints h A xs c) (hl : xs.length ≤ 1000000) :
    Ct Tryz.prog 106 #[.slice A xs.length c] h (fun v h' => ∃ og, Own h' 3 1 v xs.length ((numF xs).2.map (Value.int .i64)) og ∧ Ext h h' ∧ ∀ g, og = some g → h.size ≤ g) := by
  refine Ct.enter (args := [.slice A xs.length c]) Tryz.func106 rfl Tryz.ntmps106 (by simp) fun w hw => ?_
  -- at 1080
  refine Run.adv 6 [] (at_ Tryz.f106 [1,0,8,0]) [(0, .slice A xs.length c)]
    (True)
    (by as_aux_lemma => kernel_rfl) trivial fun s_ => ?_
  refine Run.makeMap (some 9) (at_ Tryz.f106 [1,0,8,1]) (by as_aux_lemma => kernel_rfl) fun g h1 hng hEg hmg => ?_
  -- at 111012
  refine Run.adv 14 [] (at_ Tryz.f106 [1,1,1,0,1,2]) [(3, .map (some g)), (4, .slice none 0 0), (10, .slice A xs.length c), (11, .int .i64 (xs.length : Int)), (12, .int .i64 0)]
    (True)
    (by as_aux_lemma => kernel_rfl) trivial fun s_ => ?_
  refine Run.loop (at_ Tryz.f106 [1,1,1,0,1,2,3]) (at_ Tryz.f106 [1,1,1,0,1,2,7]) (fun (⟨i, A2, c2⟩ : Nat × Option Addr × Nat) => [(3, .map (some g)), (4, .slice A2 i c2), (10, .slice A xs.length c), (11, .int .i64 (xs.length : Int)), (12, .int .i64 (i : Int))])
    (fun ⟨i, A2, c2⟩ h2 => i ≤ xs.length ∧ ∃ og, Own h2 3 1 (.slice A2 i c2) i ((numF (xs.take i)).2.map (Value.int .i64)) og ∧ MapAt h2 g (Value.int .i64) (Value.int .i64) (nums (numF (xs.take i)).1) ∧ Ext h h2 ∧ ∀ g', og = some g' → h.size ≤ g' ∧ g' ≠ g) (fun ⟨i, A2, c2⟩ => xs.length - i) (0, none, 0) (by as_aux_lemma => kernel_rfl) rfl ?_ ?_
  · exact ⟨Nat.zero_le _, none, Own.nil _ _ _, hmg _ _, hEg, by simp⟩
  rintro ⟨i, A2, c2⟩ s h2 ⟨hi, og, hO, hm, hE, hg⟩ again
  by_cases hlt : i < xs.length
  · obtain ⟨b, off, rfl, hp⟩ := hx.open_ (by omega)
    have hxx := take_snoc 0 xs i hlt
    have hFl := numF_len (xs.take i)
    have hKl := numF_keys (xs.take i)
    rw [List.length_take, Nat.min_eq_left (by omega)] at hFl hKl
    cases hix : idx (rd xs i) (numF (xs.take i)).1 with
    | some j =>
      have hst : numF (xs.take (i + 1)) = ((numF (xs.take i)).1, (numF (xs.take i)).2 ++ [(j : Int)]) := by rw [hxx, numF_snoc]; unfold numStep; rw [show xs.getD (i : Int).toNat 0 = rd xs i from rfl, hix]
      -- at 1110123110211182
      refine Run.adv 37 [.dec true, .val (.int .i64 (rd xs (i : Int))), .say (.tuple #[.int .i64 (j : Int), .bool true]), .lit] (at_ Tryz.f106 [1,1,1,0,1,2,3,1,1,0,2,1,1,1,8,2]) [(3, .map (some g)), (4, .slice A2 i c2), (10, .slice (some ⟨b, off, none⟩) xs.length c), (11, .int .i64 (xs.length : Int)), (12, .int .i64 (i : Int)), (29, .slice A2 i c2), (30, .int .i64 (j : Int))]
        ((decide ((i : Int) < (xs.length : Int))) = true ∧ (0 ≤ (i : Int) ∧ (i : Int) < (xs.length : Int)) ∧ cellH h2 ⟨b, off + (i : Int).toNat, none⟩ = some (.int .i64 (rd xs (i : Int))) ∧ Says Tryz.prog (Instr.lookup 172 (.map (some g)) (.int .i64 (rd xs (i : Int))) true) (.tuple #[.int .i64 (j : Int), .bool true]) h2)
        (by as_aux_lemma => kernel_rfl) ⟨(by first | assumption | exact decide_eq_true (by first | omega | assumption)), ⟨by omega, by omega⟩, (hp _ hE (i : Int) (by omega) (by omega)), (hm.found Tryz.underlying172 key_int zero_int (by rw [mfind_nums, hix]; rfl))⟩ fun s_ => ?_
      refine Run.new #[.int .i64 (j : Int)] 3 (fun g_ => .slice (some ⟨g_, 0, none⟩) 1 1) (some 31) (at_ Tryz.f106 [1,1,1,0,1,2,3,1,1,0,2,1,1,1,8,3]) (by as_aux_lemma => kernel_rfl) fun g3 h3 hng3 hEg3 hBg3 => ?_
      refine Run.append (.slice A2 i c2) (.slice (some ⟨g3, 0, none⟩) 1 1) 3 (some 32) (at_ Tryz.f106 [1,1,1,0,1,2,3,1,1,0,2,1,1,1,8,4]) 1 8 (by as_aux_lemma => kernel_rfl) (by as_aux_lemma => kernel_rfl) (by decide) (hO.ext hEg3) (Src.row (hBg3.all (Ext.refl _)) rfl) (by rfl) rfl (by omega) fun A4 c4 h4 og4 hOA4 hMh4 hgA4 => ?_
      have hEh_h4 := hMh4.ext (hE.trans hEg3) (by exact fun g e => (hg g e).1)
      -- at 1110127
      refine Run.adv 7 [] (at_ Tryz.f106 [1,1,1,0,1,2,7]) [(3, .map (some g)), (4, .slice A4 (i + 1) c4), (10, .slice (some ⟨b, off, none⟩) xs.length c), (11, .int .i64 (xs.length : Int)), (12, .int .i64 ((i + 1 : Nat) : Int))]
        ((-9223372036854775808 ≤ (i : Int) + 1 ∧ (i : Int) + 1 ≤ 9223372036854775807))
        (by as_aux_lemma => kernel_rfl) ⟨by omega, by omega⟩ fun s_ => ?_
      refine again (i + 1, A4, c4) _ _ ⟨by omega, og4, by rw [hst, List.map_append]; exact hOA4, by rw [hst]; exact (hm.ext hEg3).mod hMh4 (fun e => (hg g e.symm).2 rfl), hEh_h4, fun g' e => ?_⟩ (by simp only; omega)
      have hgs := hm.lt
      have := hEg3.size
      have := hE.size
      rcases hgA4 with rfl | rfl
      · exact hg g' e
      · cases e; exact ⟨by omega, by omega⟩
    | none =>
      have hst : numF (xs.take (i + 1)) = ((numF (xs.take i)).1 ++ [rd xs i], (numF (xs.take i)).2 ++ [((numF (xs.take i)).1.length : Int)]) := by rw [hxx, numF_snoc]; unfold numStep; rw [show xs.getD (i : Int).toNat 0 = rd xs i from rfl, hix]
      have hln := hm.len (P := Tryz.prog) (ty := 3) Tryz.underlying172
      rw [nums_length] at hln
      -- at 1110123110211014183
      refine Run.adv 43 [.dec true, .val (.int .i64 (rd xs (i : Int))), .say (.tuple #[.int .i64 0, .bool false]), .lit, .say (.int .i64 ((numF (xs.take i)).1.length : Int))] (at_ Tryz.f106 [1,1,1,0,1,2,3,1,1,0,2,1,1,0,1,4,1,8,3]) [(3, .map (some g)), (4, .slice A2 i c2), (10, .slice (some ⟨b, off, none⟩) xs.length c), (11, .int .i64 (xs.length : Int)), (12, .int .i64 (i : Int)), (7, .int .i64 ((numF (xs.take i)).1.length : Int)), (26, .map (some g)), (27, .int .i64 (rd xs (i : Int))), (28, .int .i64 ((numF (xs.take i)).1.length : Int))]
        ((decide ((i : Int) < (xs.length : Int))) = true ∧ (0 ≤ (i : Int) ∧ (i : Int) < (xs.length : Int)) ∧ cellH h2 ⟨b, off + (i : Int).toNat, none⟩ = some (.int .i64 (rd xs (i : Int))) ∧ Says Tryz.prog (Instr.lookup 172 (.map (some g)) (.int .i64 (rd xs (i : Int))) true) (.tuple #[.int .i64 0, .bool false]) h2 ∧ Says Tryz.prog (Builtin.len_ #[172] 3 #[.map (some g)]) (.int .i64 ((numF (xs.take i)).1.length : Int)) h2)
        (by as_aux_lemma => kernel_rfl) ⟨(by first | assumption | exact decide_eq_true (by first | omega | assumption)), ⟨by omega, by omega⟩, (hp _ hE (i : Int) (by omega) (by omega)), (hm.missing Tryz.underlying172 key_int zero_int (by rw [mfind_nums, hix]; rfl)), hln⟩ fun s_ => ?_
      refine Run.mapUpdate 172 g (Value.int .i64) (Value.int .i64) (rd xs i) ((numF (xs.take i)).1.length : Int) (at_ Tryz.f106 [1,1,1,0,1,2,3,1,1,0,2,1,1,0,1,4,1,8,4]) (by as_aux_lemma => kernel_rfl) Tryz.underlying172 key_int hm fun h5 hMh5 hzh5 hmh5 => ?_
      rw [mput_nums _ _ hix] at hmh5
      have hEh5 : Ext h h5 := hMh5.ext hE (fun g' e => by cases e; rw [hng]; exact Nat.le_refl _)
      -- at 1110123110211182
      refine Run.adv 4 [] (at_ Tryz.f106 [1,1,1,0,1,2,3,1,1,0,2,1,1,1,8,2]) [(3, .map (some g)), (4, .slice A2 i c2), (10, .slice (some ⟨b, off, none⟩) xs.length c), (11, .int .i64 (xs.length : Int)), (12, .int .i64 (i : Int)), (29, .slice A2 i c2), (30, .int .i64 ((numF (xs.take i)).1.length : Int))]
        (True)
        (by as_aux_lemma => kernel_rfl) trivial fun s_ => ?_
      refine Run.new #[.int .i64 ((numF (xs.take i)).1.length : Int)] 3 (fun g_ => .slice (some ⟨g_, 0, none⟩) 1 1) (some 31) (at_ Tryz.f106 [1,1,1,0,1,2,3,1,1,0,2,1,1,1,8,3]) (by as_aux_lemma => kernel_rfl) fun g3 h3 hng3 hEg3 hBg3 => ?_
      refine Run.append (.slice A2 i c2) (.slice (some ⟨g3, 0, none⟩) 1 1) 3 (some 32) (at_ Tryz.f106 [1,1,1,0,1,2,3,1,1,0,2,1,1,1,8,4]) 1 8 (by as_aux_lemma => kernel_rfl) (by as_aux_lemma => kernel_rfl) (by decide) ((hO.mod hMh5 (by rcases og with _ | g'; exact .inl rfl; exact .inr (fun e => (hg g' rfl).2 (by cases e; rfl)))).ext hEg3) (Src.row (hBg3.all (Ext.refl _)) rfl) (by rfl) rfl (by omega) fun A4 c4 h4 og4 hOA4 hMh4 hgA4 => ?_
      have hEh_h4 := hMh4.ext (hEh5.trans hEg3) (by exact fun g e => (hg g e).1)
      -- at 1110127
      refine Run.adv 7 [] (at_ Tryz.f106 [1,1,1,0,1,2,7]) [(3, .map (some g)), (4, .slice A4 (i + 1) c4), (10, .slice (some ⟨b, off, none⟩) xs.length c), (11, .int .i64 (xs.length : Int)), (12, .int .i64 ((i + 1 : Nat) : Int))]
        ((-9223372036854775808 ≤ (i : Int) + 1 ∧ (i : Int) + 1 ≤ 9223372036854775807))
        (by as_aux_lemma => kernel_rfl) ⟨by omega, by omega⟩ fun s_ => ?_
      refine again (i + 1, A4, c4) _ _ ⟨by omega, og4, by rw [hst, List.map_append]; exact hOA4, by rw [hst]; exact (hmh5.ext hEg3).mod hMh4 (fun e => (hg g e.symm).2 rfl), hEh_h4, fun g' e => ?_⟩ (by simp only; omega)
      have hgs := hm.lt
      have := hEg3.size
      have := hE.size
      rcases hgA4 with rfl | rfl
      · exact hg g' e
      · cases e; exact ⟨by omega, by omega⟩
  · -- at 11111
    refine Run.adv 12 [.dec false] (at_ Tryz.f106 [1,1,1,1,1]) [(2, .slice A2 i c2)]
      ((decide ((i : Int) < (xs.length : Int))) = false)
      (by as_aux_lemma => kernel_rfl) (by first | assumption | exact decide_eq_false (by first | omega | assumption)) fun s_ => ?_
    refine Run.ret [] (.slice A2 i c2) (True) Tryz.func106 (by as_aux_lemma => kernel_rfl) (by as_aux_lemma => kernel_rfl) trivial ?_
    obtain rfl : i = xs.length := by omega
    rw [List.take_length] at hO
    exact ⟨og, hO, hE, fun g' e => (hg g' e).1⟩
end Go.Proofs.YtbajgbkkbabmlaaGreatDoor
