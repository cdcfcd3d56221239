/- lts.named and lts.Check, walked. -/
import Derived.Test.YtbajgbkkbabmlaaGreatDoorProg
import Derived.Test.YtbajgbkkbabmlaaGreatDoorL1
import Derived.Test.YtbajgbkkbabmlaaGreatDoorL2
set_option linter.unusedVariables false
namespace Go.Proofs.YtbajgbkkbabmlaaGreatDoor
open Go.Vc

theorem named1_ct (u : ByteArray) (h : Heap) : Ct Tryz.prog 115 #[.string u] h (fun v h' => v = .bool (decide ((u.size : Int) > 200)) ∧ h' = h) := by
  refine Ct.enter (args := [.string u]) Tryz.func115 rfl Tryz.ntmps115 (by simp) fun w hw => ?_
  -- at 11
  refine Run.adv 11 [] (at_ Tryz.f115 [1,1]) [(2, .bool (decide ((u.size : Int) > 200)))]
    (True)
    (by as_aux_lemma => kernel_rfl) trivial fun s_ => ?_
  refine Run.ret [] (.bool (decide ((u.size : Int) > 200))) (True) Tryz.func115 (by as_aux_lemma => kernel_rfl) (by as_aux_lemma => kernel_rfl) trivial ?_
  exact ⟨rfl, rfl⟩
theorem idxLong_ct (A : Option Addr) (c : Nat) (ls : List ByteArray) (h : Heap) (hx : Strs h A ls c) (hl : ls.length ≤ 1000000) :
    Ct Tryz.prog 124 #[.slice A ls.length c, .func (.func 115) #[] #[]] h (fun v h' => ∃ r : Int, v = .int .i64 r ∧ (r ≥ 0 ↔ ¬ ∀ j : Int, 0 ≤ j → j < ls.length → (sd ls j).size ≤ 200) ∧ h' = h) := by
  refine Ct.enter (args := [.slice A ls.length c, .func (.func 115) #[] #[]]) Tryz.func124 rfl Tryz.ntmps124 (by simp) fun w hw => ?_
  -- at 1012
  refine Run.adv 12 [] (at_ Tryz.f124 [1,0,1,2]) [(0, .slice A ls.length c), (1, .func (.func 115) #[] #[]), (6, .slice A ls.length c), (7, .int .i64 (ls.length : Int)), (8, .int .i64 0)]
    (True)
    (by as_aux_lemma => kernel_rfl) trivial fun s_ => ?_
  refine Run.loop (at_ Tryz.f124 [1,0,1,2,3]) (at_ Tryz.f124 [1,0,1,2,7]) (fun i : Int => [(0, .slice A ls.length c), (1, .func (.func 115) #[] #[]), (6, .slice A ls.length c), (7, .int .i64 (ls.length : Int)), (8, .int .i64 i)])
    (fun i h' => h' = h ∧ 0 ≤ i ∧ i ≤ ls.length ∧ ∀ j : Int, 0 ≤ j → j < i → (sd ls j).size ≤ 200) (fun i => (ls.length - i).toNat) 0 (by as_aux_lemma => kernel_rfl) rfl ?_ ?_
  · exact ⟨rfl, by omega, by omega, fun j _ hj => by omega⟩
  rintro i s h' ⟨rfl, hi0, hi, hI⟩ again
  by_cases hlt : i < ls.length
  · obtain ⟨b, off, rfl, hp⟩ := hx.open_ (by omega)
    by_cases e1 : (sd ls i).size > 200
    · -- at 1012311021141
      refine Run.adv 29 [.dec true, .val (.string (sd ls i)), .val (.bool (decide (((sd ls i).size : Int) > 200))), .dec true] (at_ Tryz.f124 [1,0,1,2,3,1,1,0,2,1,1,4,1]) [(4, .int .i64 i)]
        ((decide (i < (ls.length : Int))) = true ∧ (0 ≤ i ∧ i < (ls.length : Int)) ∧ cellH h' ⟨b, off + i.toNat, none⟩ = some (.string (sd ls i)) ∧ (Ct Tryz.prog 115 #[.string (sd ls i)] h' (fun v_ h_ => v_ = .bool (decide (((sd ls i).size : Int) > 200)) ∧ h_ = h')) ∧ (decide (((sd ls i).size : Int) > 200)) = true)
        (by as_aux_lemma => kernel_rfl) ⟨(by first | assumption | exact decide_eq_true (by first | omega | assumption)), ⟨by omega, by omega⟩, (hp _ (Ext.refl _) i (by omega) (by omega)), (named1_ct _ _), (by first | assumption | exact decide_eq_true (by first | omega | assumption))⟩ fun s_ => ?_
      refine Run.ret [] (.int .i64 i) (True) Tryz.func124 (by as_aux_lemma => kernel_rfl) (by as_aux_lemma => kernel_rfl) trivial ?_
      exact ⟨i, rfl, ⟨fun _ hh => by have := hh i hi0 hlt; omega, fun _ => hi0⟩, rfl⟩
    · -- at 10127
      refine Run.adv 30 [.dec true, .val (.string (sd ls i)), .val (.bool (decide (((sd ls i).size : Int) > 200))), .dec false] (at_ Tryz.f124 [1,0,1,2,7]) [(0, .slice (some ⟨b, off, none⟩) ls.length c), (1, .func (.func 115) #[] #[]), (6, .slice (some ⟨b, off, none⟩) ls.length c), (7, .int .i64 (ls.length : Int)), (8, .int .i64 (i + 1))]
        ((decide (i < (ls.length : Int))) = true ∧ (0 ≤ i ∧ i < (ls.length : Int)) ∧ cellH h' ⟨b, off + i.toNat, none⟩ = some (.string (sd ls i)) ∧ (Ct Tryz.prog 115 #[.string (sd ls i)] h' (fun v_ h_ => v_ = .bool (decide (((sd ls i).size : Int) > 200)) ∧ h_ = h')) ∧ (decide (((sd ls i).size : Int) > 200)) = false ∧ (-9223372036854775808 ≤ i + 1 ∧ i + 1 ≤ 9223372036854775807))
        (by as_aux_lemma => kernel_rfl) ⟨(by first | assumption | exact decide_eq_true (by first | omega | assumption)), ⟨by omega, by omega⟩, (hp _ (Ext.refl _) i (by omega) (by omega)), (named1_ct _ _), (by first | assumption | exact decide_eq_false (by first | omega | assumption)), ⟨by omega, by omega⟩⟩ fun s_ => ?_
      refine again (i + 1) _ _ ⟨rfl, by omega, by omega, fun j h0 hj => ?_⟩ (by omega)
      by_cases e2 : j = i
      · subst e2; omega
      · exact hI j h0 (by omega)
  · -- at 111
    refine Run.adv 11 [.dec false] (at_ Tryz.f124 [1,1,1]) [(4, .int .i64 (-1))]
      ((decide (i < (ls.length : Int))) = false)
      (by as_aux_lemma => kernel_rfl) (by first | assumption | exact decide_eq_false (by first | omega | assumption)) fun s_ => ?_
    refine Run.ret [] (.int .i64 (-1)) (True) Tryz.func124 (by as_aux_lemma => kernel_rfl) (by as_aux_lemma => kernel_rfl) trivial ?_
    exact ⟨-1, rfl, ⟨fun hh => by omega, fun hh => absurd (fun j h0 h1 => hI j h0 (by omega)) hh⟩, rfl⟩
theorem hasLong_ct (A : Option Addr) (c : Nat) (ls : List ByteArray) (h : Heap) (hx : Strs h A ls c) (hl : ls.length ≤ 1000000) :
    Ct Tryz.prog 114 #[.slice A ls.length c, .func (.func 115) #[] #[]] h (fun v h' => v = .bool (tv (¬ ∀ j : Int, 0 ≤ j → j < ls.length → (sd ls j).size ≤ 200)) ∧ h' = h) := by
  refine Ct.enter (args := [.slice A ls.length c, .func (.func 115) #[] #[]]) Tryz.func114 rfl Tryz.ntmps114 (by simp) fun w hw => ?_
  -- at 1082
  refine Run.adv 8 [] (at_ Tryz.f114 [1,0,8,2]) [(5, .slice A ls.length c), (6, .func (.func 115) #[] #[])]
    (True)
    (by as_aux_lemma => kernel_rfl) trivial fun s_ => ?_
  refine Run.call 124 #[.slice A ls.length c, .func (.func 115) #[] #[]] (some 7) (at_ Tryz.f114 [1,0,8,3]) (by as_aux_lemma => kernel_rfl) (idxLong_ct A c ls _ hx hl) ?_
  rintro _ _ ⟨r, rfl, hr, rfl⟩
  -- at 11
  refine Run.adv 3 [] (at_ Tryz.f114 [1,1]) [(4, .bool (decide (r ≥ 0)))]
    (True)
    (by as_aux_lemma => kernel_rfl) trivial fun s_ => ?_
  refine Run.ret [] (.bool (decide (r ≥ 0))) (True) Tryz.func114 (by as_aux_lemma => kernel_rfl) (by as_aux_lemma => kernel_rfl) trivial ?_
  refine ⟨?_, rfl⟩
  by_cases h0 : r ≥ 0
  · rw [tv_yes (hr.1 h0), decide_eq_true h0]
  · rw [tv_no (fun hh => h0 (hr.2 hh)), decide_eq_false h0]
/-- Are the labels the same as all of them, each once, in order? -/
def Ordered (ls : List ByteArray) : Prop := ls.map bl = unionL ls []
open Go.Sort in
theorem equalS_ct (A : Option Addr) (c : Nat) (xs : List ByteArray) (v : Value) (ys : List (List UInt8)) (og : Option Nat) (h : Heap) (hx : Strs h A xs c) (hO : Own h 9 1 v ys.length (ys.map encStr) og) (hl : xs.length ≤ 1000000) (hm : ys.length ≤ 1000000) :
    Ct Tryz.prog 116 #[.slice A xs.length c, v] h (fun v h' => v = .bool (tv (xs.map bl = ys)) ∧ h' = h) := by
  obtain ⟨A2, c2, rfl⟩ := hO.slice
  rintro w rfl
  by_cases hn : xs.length = ys.length
  · by_cases h0 : xs.length = 0
    · have e1 : xs = [] := List.eq_nil_of_length_eq_zero h0
      have e2 : ys = [] := List.eq_nil_of_length_eq_zero (by omega)
      subst e1 e2
      refine (Tryz.slices_Equal_string_empty A A2 c 0 c2 w (by omega)).mono ?_
      rintro e w' ⟨rfl, rfl⟩
      exact ⟨_, rfl, Same0.refl _ _, by rw [tv_yes (show List.map bl [] = [] from rfl)]; rfl, rfl⟩
    · obtain ⟨b, off, rfl, hp⟩ := hx.open_ (by omega)
      cases og with
      | none => obtain ⟨_, h2, _⟩ := hO; omega
      | some g =>
        have hO' := hO
        obtain ⟨cap, arr, hv, _⟩ := hO
        injection hv with e1 e2 e3
        subst e1
        have hys : ys.map encStr = (ys.map fun l => (⟨l.toArray⟩ : ByteArray)).map Value.string := by rw [List.map_map]; rfl
        refine (Tryz.slices_Equal_string b off xs.length c g 0 ys.length c2 xs (ys.map fun l => (⟨l.toArray⟩ : ByteArray)) w (Nat.le_refl _) (by simp) (by omega) (by omega) (fun j hj => ?_) (fun j hj => ?_)).mono ?_
        · have := hp _ (Ext.refl _) j (by omega) (by omega)
          simpa [cellH_eq] using this
        · rw [cellH_eq]
          have hj' : j < ys.length := by simpa using hj
          refine hO'.cell (by rw [Nat.zero_add, hys]; simp [List.getD_eq_getElem?_getD, hj'])
        · rintro e w' ⟨rfl, q, rfl⟩
          refine ⟨_, rfl, ⟨rfl, rfl, rfl, fun e => by cases e⟩, ?_, rfl⟩
          rw [List.take_length, List.take_of_length_le (by simp)]
          by_cases he : xs.map bl = ys
          · rw [tv_yes he, decide_eq_true]
            rw [← he, List.map_map]
            exact (List.map_id xs).symm.trans (List.map_congr_left fun x _ => by simp [bl])
          · rw [tv_no he, decide_eq_false]
            intro hh
            apply he
            rw [hh, List.map_map]
            exact (List.map_congr_left fun x _ => by simp [bl]).trans (List.map_id ys)
  · refine (Tryz.slices_Equal_string_lens A A2 xs.length c ys.length c2 w hn).mono ?_
    rintro e w' ⟨rfl, rfl⟩
    exact ⟨_, rfl, Same0.refl _ _, by rw [tv_no (fun hh => hn (by rw [← hh]; simp))], rfl⟩
theorem unionL_len (xs ys : List ByteArray) : (unionL xs ys).length ≤ xs.length + ys.length := by
  unfold unionL
  refine Nat.le_trans (Lib.compact_length_le _) ?_
  simp
/-- May the labels be (in the program's way of asking)? -/
def NamedB (ls : List ByteArray) : Prop := ls.length ≤ 64 ∧ (∀ j : Int, 0 ≤ j → j < ls.length → (sd ls j).size ≤ 200) ∧ Ordered ls
theorem named_ct (A : Option Addr) (c : Nat) (ls : List ByteArray) (h : Heap) (hx : Strs h A ls c) (hl : ls.length ≤ 100000) :
    Ct Tryz.prog 97 #[.slice A ls.length c] h (fun v h' => v = .bool (tv (NamedB ls)) ∧ Ext h h') := by
  refine Ct.enter (args := [.slice A ls.length c]) Tryz.func97 rfl Tryz.ntmps97 (by simp) fun w hw => ?_
  by_cases e1 : 64 < ls.length
  · -- at 10141
    refine Run.adv 20 [.dec true, .lit, .lit] (at_ Tryz.f97 [1,0,1,4,1]) [(2, .bool false)]
      ((decide ((ls.length : Int) > 64)) = true)
      (by as_aux_lemma => kernel_rfl) (by first | assumption | exact decide_eq_true (by first | omega | assumption)) fun s_ => ?_
    refine Run.ret [] (.bool false) (True) Tryz.func97 (by as_aux_lemma => kernel_rfl) (by as_aux_lemma => kernel_rfl) trivial ?_
    exact ⟨by rw [tv_no]; exact fun hh => by have := hh.1; omega, (Ext.refl _)⟩
  by_cases e2 : ∀ j : Int, 0 ≤ j → j < ls.length → (sd ls j).size ≤ 200
  · -- at 11082
    refine Run.adv 21 [.dec false, .lit, .val (.bool (tv (¬ ∀ j : Int, 0 ≤ j → j < ls.length → (sd ls j).size ≤ 200))), .dec false] (at_ Tryz.f97 [1,1,0,8,2]) [(10, .slice A ls.length c), (11, .slice A ls.length c)]
      ((decide ((ls.length : Int) > 64)) = false ∧ (Ct Tryz.prog 114 #[.slice A ls.length c, .func (.func 115) #[] #[]] h (fun v_ h_ => v_ = .bool (tv (¬ ∀ j : Int, 0 ≤ j → j < ls.length → (sd ls j).size ≤ 200)) ∧ h_ = h)) ∧ ((tv (¬ ∀ j : Int, 0 ≤ j → j < ls.length → (sd ls j).size ≤ 200)) = false))
      (by as_aux_lemma => kernel_rfl) ⟨(by first | assumption | exact decide_eq_false (by first | omega | assumption)), (hasLong_ct A c ls _ hx (by omega)), tv_no (fun hh => hh e2)⟩ fun s_ => ?_
    refine Run.call 117 #[.slice A ls.length c, .slice none 0 0] (some 12) (at_ Tryz.f97 [1,1,0,8,3]) (by as_aux_lemma => kernel_rfl) (union_ct A none c 0 ls [] _ hx ⟨by simp, by simp, fun hp => absurd hp (by simp)⟩ hl (by simp)) ?_
    rintro v h1 ⟨og, hO, hE, hg⟩
    obtain ⟨A2, c2, rfl⟩ := hO.slice
    have hul := unionL_len ls []
    simp only [List.length_nil, Nat.add_zero] at hul
    -- at 111
    refine Run.adv 3 [.val (.bool (tv (ls.map bl = unionL ls [])))] (at_ Tryz.f97 [1,1,1]) [(2, .bool (tv (ls.map bl = unionL ls [])))]
      ((Ct Tryz.prog 116 #[.slice A ls.length c, .slice A2 ((unionL ls []).length) c2] h1 (fun v_ h_ => v_ = .bool (tv (ls.map bl = unionL ls [])) ∧ h_ = h1)))
      (by as_aux_lemma => kernel_rfl) (equalS_ct A c ls _ _ og _ (hx.ext hE) hO (by omega) (by omega)) fun s_ => ?_
    refine Run.ret [] (.bool (tv (ls.map bl = unionL ls []))) (True) Tryz.func97 (by as_aux_lemma => kernel_rfl) (by as_aux_lemma => kernel_rfl) trivial ?_
    refine ⟨?_, hE⟩
    by_cases e3 : ls.map bl = unionL ls []
    · rw [tv_yes e3, tv_yes (show NamedB ls from ⟨by omega, e2, e3⟩)]
    · rw [tv_no e3, tv_no (fun hh : NamedB ls => e3 hh.2.2)]
  · -- at 10141
    refine Run.adv 20 [.dec false, .lit, .val (.bool (tv (¬ ∀ j : Int, 0 ≤ j → j < ls.length → (sd ls j).size ≤ 200))), .dec true] (at_ Tryz.f97 [1,0,1,4,1]) [(2, .bool false)]
      ((decide ((ls.length : Int) > 64)) = false ∧ (Ct Tryz.prog 114 #[.slice A ls.length c, .func (.func 115) #[] #[]] h (fun v_ h_ => v_ = .bool (tv (¬ ∀ j : Int, 0 ≤ j → j < ls.length → (sd ls j).size ≤ 200)) ∧ h_ = h)) ∧ ((tv (¬ ∀ j : Int, 0 ≤ j → j < ls.length → (sd ls j).size ≤ 200)) = true))
      (by as_aux_lemma => kernel_rfl) ⟨(by first | assumption | exact decide_eq_false (by first | omega | assumption)), (hasLong_ct A c ls _ hx (by omega)), tv_yes e2⟩ fun s_ => ?_
    refine Run.ret [] (.bool false) (True) Tryz.func97 (by as_aux_lemma => kernel_rfl) (by as_aux_lemma => kernel_rfl) trivial ?_
    exact ⟨by rw [tv_no]; exact fun hh => e2 hh.2.1, (Ext.refl _)⟩
end Go.Proofs.YtbajgbkkbabmlaaGreatDoor
