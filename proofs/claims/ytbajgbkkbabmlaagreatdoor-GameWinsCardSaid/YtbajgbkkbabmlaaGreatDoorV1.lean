/- levels.Apart, slices.Repeat, levels.Of, levels.Last, walked. -/
import Derived.Test.YtbajgbkkbabmlaaGreatDoorProg
import Derived.Test.YtbajgbkkbabmlaaGreatDoorS6
set_option linter.unusedVariables false
namespace Go.Proofs.YtbajgbkkbabmlaaGreatDoor
open Go.Vc
theorem lx_69_10 : LexOk (opsAt (at_ Tryz.f69 [1,0])) := ⟨by kernel_rfl⟩

/-- Are two nodes apart in a list? -/
def ApartIn (xs : List Int) (s t : Int) : Prop := 0 ≤ s ∧ 0 ≤ t ∧ s < xs.length ∧ t < xs.length ∧ rd xs s ≠ rd xs t
/-- The first list in which two nodes are apart; -1: there is none. -/
def IsApart (xss : List (List Int)) (s t r : Int) : Prop :=
  (r = -1 ∧ ∀ i : Nat, i < xss.length → ¬ ApartIn (rd2 xss i) s t) ∨ ∃ i : Nat, r = i ∧ i < xss.length ∧ ApartIn (rd2 xss i) s t ∧ ∀ j : Nat, j < i → ¬ ApartIn (rd2 xss j) s t
theorem IsApart.unique {xss : List (List Int)} {s t r r' : Int} (h : IsApart xss s t r) (h' : IsApart xss s t r') : r = r' := by
  rcases h with ⟨rfl, h1⟩ | ⟨i, rfl, hi, h1, h2⟩ <;> rcases h' with ⟨rfl, h3⟩ | ⟨k, rfl, hk, h3, h4⟩
  · rfl
  · exact absurd h3 (h1 k hk)
  · exact absurd h1 (h3 i hi)
  · rcases Nat.lt_trichotomy i k with h | h | h
    · exact absurd h1 (h4 i h)
    · rw [h]
    · exact absurd h3 (h2 k h)
theorem apart1_ct (A : Option Addr) (c : Nat) (xs : List Int) (s t : Int) (g1 g2 : Nat) (h : Heap) (hx : Ints h A xs c) (h1 : cellH h ⟨g1, 0, none⟩ = some (.int .i64 s)) (h2 : cellH h ⟨g2, 0, none⟩ = some (.int .i64 t)) :
    Ct Tryz.prog 69 #[.slice A xs.length c, .pointer (some ⟨g1, 0, none⟩), .pointer (some ⟨g2, 0, none⟩)] h (fun v h' => v = .bool (tv (ApartIn xs s t)) ∧ h' = h) := by
  refine Ct.enter (args := [.slice A xs.length c, .pointer (some ⟨g1, 0, none⟩), .pointer (some ⟨g2, 0, none⟩)]) Tryz.func69 rfl Tryz.ntmps69 (by simp) fun w hw => ?_
  by_cases e1 : 0 ≤ s ∧ 0 ≤ t
  · have q1 : (if t < s then t else s) ≥ 0 := by split <;> omega
    by_cases e2 : s < xs.length ∧ t < xs.length
    · have q2 : (if t > s then t else s) < (xs.length : Int) := by split <;> omega
      obtain ⟨b, off, rfl, hp⟩ := hx.open_ (by omega)
      by_cases e3 : rd xs s = rd xs t
      · -- at 11
        refine Run.adv 6 [.draw, .val (.int .i64 s), .val (.int .i64 t), .dec true, .val (.int .i64 s), .lit, .val (.int .i64 t), .lit, .lit, .lit, .lit, .dec true, .lit, .val (.int .i64 s), .lit, .lit, .val (.int .i64 (rd xs s)), .lit, .lit, .val (.int .i64 t), .lit, .lit, .val (.int .i64 (rd xs t)), .lit] (at_ Tryz.f69 [1,1]) [(4, .bool ((rd xs s) != (rd xs t)))]
          (LexOk (opsAt (at_ Tryz.f69 [1,0])) ∧ cellH h ⟨g1, 0, none⟩ = some (.int .i64 s) ∧ cellH h ⟨g2, 0, none⟩ = some (.int .i64 t) ∧ (decide ((if t < s then t else s) ≥ 0)) = true ∧ cellH h ⟨g1, 0, none⟩ = some (.int .i64 s) ∧ cellH h ⟨g2, 0, none⟩ = some (.int .i64 t) ∧ (decide ((if t > s then t else s) < (xs.length : Int))) = true ∧ cellH h ⟨g1, 0, none⟩ = some (.int .i64 s) ∧ (0 ≤ s ∧ s < (xs.length : Int)) ∧ cellH h ⟨b, off + s.toNat, none⟩ = some (.int .i64 (rd xs s)) ∧ cellH h ⟨g2, 0, none⟩ = some (.int .i64 t) ∧ (0 ≤ t ∧ t < (xs.length : Int)) ∧ cellH h ⟨b, off + t.toNat, none⟩ = some (.int .i64 (rd xs t)))
          (by as_aux_lemma => kernel_rfl) ⟨lx_69_10, (h1), (h2), (decide_eq_true q1), (h1), (h2), (decide_eq_true q2), (h1), ⟨by omega, by omega⟩, (hp _ (Ext.refl _) s (by omega) (by omega)), (h2), ⟨by omega, by omega⟩, (hp _ (Ext.refl _) t (by omega) (by omega))⟩ fun s_ => ?_
        refine Run.ret [] (.bool ((rd xs s) != (rd xs t))) (True) Tryz.func69 (by as_aux_lemma => kernel_rfl) (by as_aux_lemma => kernel_rfl) trivial ?_
        exact ⟨by rw [tv_no (fun hh => hh.2.2.2.2 e3), bne_eq_false_iff_eq.2 e3], rfl⟩
      · -- at 11
        refine Run.adv 6 [.draw, .val (.int .i64 s), .val (.int .i64 t), .dec true, .val (.int .i64 s), .lit, .val (.int .i64 t), .lit, .lit, .lit, .lit, .dec true, .lit, .val (.int .i64 s), .lit, .lit, .val (.int .i64 (rd xs s)), .lit, .lit, .val (.int .i64 t), .lit, .lit, .val (.int .i64 (rd xs t)), .lit] (at_ Tryz.f69 [1,1]) [(4, .bool ((rd xs s) != (rd xs t)))]
          (LexOk (opsAt (at_ Tryz.f69 [1,0])) ∧ cellH h ⟨g1, 0, none⟩ = some (.int .i64 s) ∧ cellH h ⟨g2, 0, none⟩ = some (.int .i64 t) ∧ (decide ((if t < s then t else s) ≥ 0)) = true ∧ cellH h ⟨g1, 0, none⟩ = some (.int .i64 s) ∧ cellH h ⟨g2, 0, none⟩ = some (.int .i64 t) ∧ (decide ((if t > s then t else s) < (xs.length : Int))) = true ∧ cellH h ⟨g1, 0, none⟩ = some (.int .i64 s) ∧ (0 ≤ s ∧ s < (xs.length : Int)) ∧ cellH h ⟨b, off + s.toNat, none⟩ = some (.int .i64 (rd xs s)) ∧ cellH h ⟨g2, 0, none⟩ = some (.int .i64 t) ∧ (0 ≤ t ∧ t < (xs.length : Int)) ∧ cellH h ⟨b, off + t.toNat, none⟩ = some (.int .i64 (rd xs t)))
          (by as_aux_lemma => kernel_rfl) ⟨lx_69_10, (h1), (h2), (decide_eq_true q1), (h1), (h2), (decide_eq_true q2), (h1), ⟨by omega, by omega⟩, (hp _ (Ext.refl _) s (by omega) (by omega)), (h2), ⟨by omega, by omega⟩, (hp _ (Ext.refl _) t (by omega) (by omega))⟩ fun s_ => ?_
        refine Run.ret [] (.bool ((rd xs s) != (rd xs t))) (True) Tryz.func69 (by as_aux_lemma => kernel_rfl) (by as_aux_lemma => kernel_rfl) trivial ?_
        exact ⟨by rw [tv_yes ⟨e1.1, e1.2, e2.1, e2.2, e3⟩, bne_iff_ne.2 e3], rfl⟩
    · have q2 : ¬ (if t > s then t else s) < (xs.length : Int) := by split <;> omega
      -- at 11
      refine Run.adv 6 [.draw, .val (.int .i64 s), .val (.int .i64 t), .dec true, .val (.int .i64 s), .lit, .val (.int .i64 t), .lit, .lit, .lit, .lit, .dec false, .lit, .lit, .lit, .lit, .lit, .lit, .lit, .lit] (at_ Tryz.f69 [1,1]) [(4, .bool false)]
        (LexOk (opsAt (at_ Tryz.f69 [1,0])) ∧ cellH h ⟨g1, 0, none⟩ = some (.int .i64 s) ∧ cellH h ⟨g2, 0, none⟩ = some (.int .i64 t) ∧ (decide ((if t < s then t else s) ≥ 0)) = true ∧ cellH h ⟨g1, 0, none⟩ = some (.int .i64 s) ∧ cellH h ⟨g2, 0, none⟩ = some (.int .i64 t) ∧ (decide ((if t > s then t else s) < (xs.length : Int))) = false)
        (by as_aux_lemma => kernel_rfl) ⟨lx_69_10, (h1), (h2), (decide_eq_true q1), (h1), (h2), (decide_eq_false q2)⟩ fun s_ => ?_
      refine Run.ret [] (.bool false) (True) Tryz.func69 (by as_aux_lemma => kernel_rfl) (by as_aux_lemma => kernel_rfl) trivial ?_
      exact ⟨by rw [tv_no (fun hh => e2 ⟨hh.2.2.1, hh.2.2.2.1⟩)], rfl⟩
  · have q1 : ¬ (if t < s then t else s) ≥ 0 := by split <;> omega
    -- at 11
    refine Run.adv 6 [.draw, .val (.int .i64 s), .val (.int .i64 t), .dec false, .lit, .lit, .lit, .lit, .lit, .lit, .lit, .lit, .lit, .lit, .lit, .lit, .lit, .lit] (at_ Tryz.f69 [1,1]) [(4, .bool false)]
      (LexOk (opsAt (at_ Tryz.f69 [1,0])) ∧ cellH h ⟨g1, 0, none⟩ = some (.int .i64 s) ∧ cellH h ⟨g2, 0, none⟩ = some (.int .i64 t) ∧ (decide ((if t < s then t else s) ≥ 0)) = false)
      (by as_aux_lemma => kernel_rfl) ⟨lx_69_10, (h1), (h2), (decide_eq_false q1)⟩ fun s_ => ?_
    refine Run.ret [] (.bool false) (True) Tryz.func69 (by as_aux_lemma => kernel_rfl) (by as_aux_lemma => kernel_rfl) trivial ?_
    exact ⟨by rw [tv_no (fun hh => e1 ⟨hh.1, hh.2.1⟩)], rfl⟩
theorem idxApart_ct (A : Option Addr) (c : Nat) (xss : List (List Int)) (s t : Int) (g1 g2 : Nat) (h : Heap) (hx : Rows2 h A xss c) (h1 : cellH h ⟨g1, 0, none⟩ = some (.int .i64 s)) (h2 : cellH h ⟨g2, 0, none⟩ = some (.int .i64 t)) :
    Ct Tryz.prog 68 #[.slice A xss.length c, .func (.func 69) #[] #[.pointer (some ⟨g1, 0, none⟩), .pointer (some ⟨g2, 0, none⟩)]] h (fun v h' => ∃ r : Int, v = .int .i64 r ∧ IsApart xss s t r ∧ h' = h) := by
  have hl := hx.len
  refine Ct.enter (args := [.slice A xss.length c, .func (.func 69) #[] #[.pointer (some ⟨g1, 0, none⟩), .pointer (some ⟨g2, 0, none⟩)]]) Tryz.func68 rfl Tryz.ntmps68 (by simp) fun w hw => ?_
  -- at 1012
  refine Run.adv 12 [] (at_ Tryz.f68 [1,0,1,2]) [(0, .slice A xss.length c), (1, .func (.func 69) #[] #[.pointer (some ⟨g1, 0, none⟩), .pointer (some ⟨g2, 0, none⟩)]), (7, .int .i64 (xss.length : Int)), (8, .int .i64 0)]
    (True)
    (by as_aux_lemma => kernel_rfl) trivial fun s_ => ?_
  obtain ⟨b, off, hA, hc, hAe, hr⟩ := hx.open_
  refine Run.loop (at_ Tryz.f68 [1,0,1,2,3]) (at_ Tryz.f68 [1,0,1,2,7]) (fun i : Nat => [(0, .slice A xss.length c), (1, .func (.func 69) #[] #[.pointer (some ⟨g1, 0, none⟩), .pointer (some ⟨g2, 0, none⟩)]), (7, .int .i64 (xss.length : Int)), (8, .int .i64 (i : Int))])
    (fun i h' => h' = h ∧ i ≤ xss.length ∧ ∀ j : Nat, j < i → ¬ ApartIn (rd2 xss j) s t) (fun i => xss.length - i) 0 (by as_aux_lemma => kernel_rfl) rfl ?_ ?_
  · exact ⟨rfl, Nat.zero_le _, fun j hj => by omega⟩
  rintro i s' h' ⟨rfl, hi, hI⟩ again
  by_cases hlt : i < xss.length
  · obtain rfl := hAe (by omega)
    obtain ⟨r1, r2⟩ := hr _ (Ext.refl _) i (by omega) (by omega)
    by_cases e1 : ApartIn (rd2 xss i) s t
    · -- at 1012311021141
      refine Run.adv 29 [.dec true, .val (.slice (hA (i : Int)) ((rd2 xss (i : Int)).length) (hc (i : Int))), .val (.bool (tv (ApartIn (rd2 xss (i : Int)) s t))), .dec true] (at_ Tryz.f68 [1,0,1,2,3,1,1,0,2,1,1,4,1]) [(4, .int .i64 (i : Int))]
        ((decide ((i : Int) < (xss.length : Int))) = true ∧ (0 ≤ (i : Int) ∧ (i : Int) < (xss.length : Int)) ∧ cellH h' ⟨b, off + (i : Int).toNat, none⟩ = some (.slice (hA (i : Int)) ((rd2 xss (i : Int)).length) (hc (i : Int))) ∧ (Ct Tryz.prog 69 #[.slice (hA (i : Int)) ((rd2 xss (i : Int)).length) (hc (i : Int)), .pointer (some ⟨g1, 0, none⟩), .pointer (some ⟨g2, 0, none⟩)] h' (fun v_ h_ => v_ = .bool (tv (ApartIn (rd2 xss (i : Int)) s t)) ∧ h_ = h')) ∧ (tv (ApartIn (rd2 xss (i : Int)) s t)) = true)
        (by as_aux_lemma => kernel_rfl) ⟨(by first | assumption | exact decide_eq_true (by first | omega | assumption)), ⟨by omega, by omega⟩, (r1), (apart1_ct _ _ _ _ _ _ _ _ r2 h1 h2), (tv_yes e1)⟩ fun s_ => ?_
      refine Run.ret [] (.int .i64 (i : Int)) (True) Tryz.func68 (by as_aux_lemma => kernel_rfl) (by as_aux_lemma => kernel_rfl) trivial ?_
      exact ⟨i, rfl, .inr ⟨i, rfl, hlt, e1, hI⟩, rfl⟩
    · -- at 10127
      refine Run.adv 30 [.dec true, .val (.slice (hA (i : Int)) ((rd2 xss (i : Int)).length) (hc (i : Int))), .val (.bool (tv (ApartIn (rd2 xss (i : Int)) s t))), .dec false] (at_ Tryz.f68 [1,0,1,2,7]) [(0, .slice (some ⟨b, off, none⟩) xss.length c), (1, .func (.func 69) #[] #[.pointer (some ⟨g1, 0, none⟩), .pointer (some ⟨g2, 0, none⟩)]), (7, .int .i64 (xss.length : Int)), (8, .int .i64 ((i + 1 : Nat) : Int))]
        ((decide ((i : Int) < (xss.length : Int))) = true ∧ (0 ≤ (i : Int) ∧ (i : Int) < (xss.length : Int)) ∧ cellH h' ⟨b, off + (i : Int).toNat, none⟩ = some (.slice (hA (i : Int)) ((rd2 xss (i : Int)).length) (hc (i : Int))) ∧ (Ct Tryz.prog 69 #[.slice (hA (i : Int)) ((rd2 xss (i : Int)).length) (hc (i : Int)), .pointer (some ⟨g1, 0, none⟩), .pointer (some ⟨g2, 0, none⟩)] h' (fun v_ h_ => v_ = .bool (tv (ApartIn (rd2 xss (i : Int)) s t)) ∧ h_ = h')) ∧ (tv (ApartIn (rd2 xss (i : Int)) s t)) = false ∧ (-9223372036854775808 ≤ (i : Int) + 1 ∧ (i : Int) + 1 ≤ 9223372036854775807))
        (by as_aux_lemma => kernel_rfl) ⟨(by first | assumption | exact decide_eq_true (by first | omega | assumption)), ⟨by omega, by omega⟩, (r1), (apart1_ct _ _ _ _ _ _ _ _ r2 h1 h2), (tv_no e1), ⟨by omega, by omega⟩⟩ fun s_ => ?_
      refine again (i + 1) _ _ ⟨rfl, by omega, fun j hj => ?_⟩ (by omega)
      by_cases e2 : j = i
      · subst e2; exact e1
      · exact hI j (by omega)
  · -- at 111
    refine Run.adv 11 [.dec false] (at_ Tryz.f68 [1,1,1]) [(4, .int .i64 (-1))]
      ((decide ((i : Int) < (xss.length : Int))) = false)
      (by as_aux_lemma => kernel_rfl) (by first | assumption | exact decide_eq_false (by first | omega | assumption)) fun s_ => ?_
    refine Run.ret [] (.int .i64 (-1)) (True) Tryz.func68 (by as_aux_lemma => kernel_rfl) (by as_aux_lemma => kernel_rfl) trivial ?_
    exact ⟨-1, rfl, .inl ⟨rfl, fun j hj => hI j (by omega)⟩, rfl⟩
theorem apart_ct (A : Option Addr) (c : Nat) (xss : List (List Int)) (s t : Int) (h : Heap) (hx : Rows2 h A xss c) :
    Ct Tryz.prog 42 #[.slice A xss.length c, .int .i64 s, .int .i64 t] h (fun v h' => ∃ r : Int, v = .int .i64 r ∧ IsApart xss s t r ∧ Ext h h') := by
  refine Ct.enter (args := [.slice A xss.length c, .int .i64 s, .int .i64 t]) Tryz.func42 rfl Tryz.ntmps42 (by simp) fun w hw => ?_
  -- at 080
  refine Run.adv 2 [] (at_ Tryz.f42 [0,8,0]) [(0, .slice A xss.length c), (1, .int .i64 s), (2, .int .i64 t)]
    (True)
    (by as_aux_lemma => kernel_rfl) trivial fun s_ => ?_
  refine Run.new #[.int .i64 s] 3 (fun g_ => .pointer (some ⟨g_, 0, none⟩)) (some 4) (at_ Tryz.f42 [0,8,1]) (by as_aux_lemma => kernel_rfl) fun g1 h1 hng1 hEg1 hBg1 => ?_
  refine Run.new #[.int .i64 t] 3 (fun g_ => .pointer (some ⟨g_, 0, none⟩)) (some 5) (at_ Tryz.f42 [0,8,2]) (by as_aux_lemma => kernel_rfl) fun g2 h2 hng2 hEg2 hBg2 => ?_
  -- at 1082
  refine Run.adv 6 [] (at_ Tryz.f42 [1,0,8,2]) [(0, .slice A xss.length c), (1, .int .i64 s), (2, .int .i64 t), (4, .pointer (some ⟨g1, 0, none⟩)), (5, .pointer (some ⟨g2, 0, none⟩)), (6, .int .i64 0), (7, .slice A xss.length c), (8, .func (.func 69) #[] #[.pointer (some ⟨g1, 0, none⟩), .pointer (some ⟨g2, 0, none⟩)])]
    (True)
    (by as_aux_lemma => kernel_rfl) trivial fun s_ => ?_
  refine Run.call 68 #[.slice A xss.length c, .func (.func 69) #[] #[.pointer (some ⟨g1, 0, none⟩), .pointer (some ⟨g2, 0, none⟩)]] (some 9) (at_ Tryz.f42 [1,0,8,3]) (by as_aux_lemma => kernel_rfl) (idxApart_ct A c xss s t g1 g2 _ (hx.ext (hEg1.trans hEg2)) ((hBg1.ext hEg2).at (Ext.refl _) 0 rfl) (hBg2.at (Ext.refl _) 0 rfl)) ?_
  rintro _ _ ⟨r, rfl, hr, rfl⟩
  -- at 11
  refine Run.adv 2 [] (at_ Tryz.f42 [1,1]) [(6, .int .i64 r)]
    (True)
    (by as_aux_lemma => kernel_rfl) trivial fun s_ => ?_
  refine Run.ret [] (.int .i64 r) (True) Tryz.func42 (by as_aux_lemma => kernel_rfl) (by as_aux_lemma => kernel_rfl) trivial ?_
  exact ⟨r, rfl, hr, hEg1.trans hEg2⟩
theorem row_rep {h : Heap} {g m : Nat} {t : TypeId} (hb : Blk h g (Array.replicate m (.int .i64 0)) t) {q : Nat} (hq : q ≤ m) : cellsAt h ⟨g, 0, none⟩ (List.replicate q (.int .i64 0)) 0 :=
  cellsAt_row hb _ _ _ fun j hj => by
    simp only [List.length_replicate] at hj
    have : j < m := by omega
    simp [hj, this]
theorem info_int : (Tryz.prog.info? 3).map (·.size) = some 1 := by kernel_rfl
theorem info_ints : (Tryz.prog.info? 3).isSome = true := by kernel_rfl
theorem mul_ct (x y : Nat) (hx : x < 18446744073709551616) (hy : y < 18446744073709551616) (hxy : x * y < 18446744073709551616) (h : Heap) :
    Ct Tryz.prog 79 #[.int .u64 x, .int .u64 y] h (fun v h' => v = .tuple #[.int .u64 0, .int .u64 (x * y : Nat)] ∧ h' = h) := by
  rintro w rfl
  refine (Tryz.bits_Mul x y hx hy w).mono ?_
  rintro e w' ⟨rfl, rfl⟩
  refine ⟨_, rfl, Same0.refl _ _, ?_, rfl⟩
  rw [Nat.div_eq_of_lt hxy, Nat.mod_eq_of_lt hxy]; rfl
theorem says_u64 (x : Int) (h0 : 0 ≤ x) (h1 : x < 18446744073709551616) (h : Heap) : Says Tryz.prog (convert 3 123 (.int .i64 x)) (.int .u64 x) h := by
  intro w _
  rw [conv_int Tryz.underlying3 Tryz.underlying123]
  simp [IntKind.wrap, IntKind.signed, IntKind.bits]
  omega
theorem says_i64 (x : Int) (h0 : 0 ≤ x) (h1 : x ≤ 9223372036854775807) (h : Heap) : Says Tryz.prog (convert 123 3 (.int .u64 x)) (.int .i64 x) h := by
  intro w _
  rw [conv_int Tryz.underlying123 Tryz.underlying3]
  simp [IntKind.wrap, IntKind.signed, IntKind.bits]
  omega
theorem repeat_ct (gx n : Nat) (h : Heap) (hB : Blk h gx #[.int .i64 0] 3) (hn1 : 1 ≤ n) (hn2 : n ≤ 1000000) :
    Ct Tryz.prog 57 #[.slice (some ⟨gx, 0, none⟩) 1 1, .int .i64 (n : Int)] h (fun v h' => ∃ g, v = .slice (some ⟨g, 0, none⟩) n n ∧ Own h' 3 1 v n ((List.replicate n (0 : Int)).map (Value.int .i64)) (some g) ∧ Ext h h' ∧ h.size ≤ g) := by
  refine Ct.enter (args := [.slice (some ⟨gx, 0, none⟩) 1 1, .int .i64 (n : Int)]) Tryz.func57 rfl Tryz.ntmps57 (by simp) fun w hw => ?_
  -- at 11085
  refine Run.adv 19 [.dec false, .say (.int .u64 1), .say (.int .u64 (n : Int))] (at_ Tryz.f57 [1,1,0,8,5]) [(0, .slice (some ⟨gx, 0, none⟩) 1 1), (1, .int .i64 (n : Int)), (15, .int .u64 1), (17, .int .u64 (n : Int))]
    ((decide ((n : Int) < 0)) = false ∧ Says Tryz.prog (convert 3 123 (.int .i64 1)) (.int .u64 1) h ∧ Says Tryz.prog (convert 3 123 (.int .i64 (n : Int))) (.int .u64 (n : Int)) h)
    (by as_aux_lemma => kernel_rfl) ⟨(by first | assumption | exact decide_eq_false (by first | omega | assumption)), (says_u64 1 (by omega) (by omega) _), (says_u64 n (by omega) (by omega) _)⟩ fun s_ => ?_
  refine Run.call 79 #[.int .u64 1, .int .u64 (n : Int)] (some 18) (at_ Tryz.f57 [1,1,0,8,6]) (by as_aux_lemma => kernel_rfl) (mul_ct 1 n (by omega) (by omega) (by omega) _) ?_
  rintro _ h0 ⟨rfl, he0⟩
  obtain rfl := he0.symm
  rw [Nat.one_mul]
  -- at 1111082
  refine Run.adv 22 [.lit, .lit, .dec false, .say (.int .i64 (n : Int))] (at_ Tryz.f57 [1,1,1,1,0,8,2]) [(0, .slice (some ⟨gx, 0, none⟩) 1 1), (1, .int .i64 (n : Int)), (29, .int .i64 (n : Int))]
    ((decide ((n : Int) > 9223372036854775807)) = false ∧ Says Tryz.prog (convert 123 3 (.int .u64 (n : Int))) (.int .i64 (n : Int)) h)
    (by as_aux_lemma => kernel_rfl) ⟨(by first | assumption | exact decide_eq_false (by first | omega | assumption)), (says_i64 n (by omega) (by omega) _)⟩ fun s_ => ?_
  refine Run.make (n : Int) (.int .i64 0) 3 8 (some 30) (at_ Tryz.f57 [1,1,1,1,0,8,3]) (by as_aux_lemma => kernel_rfl) (by as_aux_lemma => kernel_rfl) (by omega) (by omega) (by omega) fun g h1 hng hEg hBg => ?_
  rw [Int.toNat_natCast] at hBg
  -- at 11111082
  refine Run.adv 6 [] (at_ Tryz.f57 [1,1,1,1,1,0,8,2]) [(0, .slice (some ⟨gx, 0, none⟩) 1 1), (7, .slice (some ⟨g, 0, none⟩) n n), (31, .slice (some ⟨g, 0, none⟩) n n), (32, .slice (some ⟨gx, 0, none⟩) 1 1)]
    (True)
    (by as_aux_lemma => kernel_rfl) trivial fun s_ => ?_
  have hsz := hEg.size
  have hBx := hB.ext hEg
  have hxg : gx < h.size := hB.lt
  have hmin : Nat.min 1 n = 1 := Nat.min_eq_left hn1
  refine Run.copy g 0 n n (.slice (some ⟨gx, 0, none⟩) 1 1) 3 (some 33) (at_ Tryz.f57 [1,1,1,1,1,0,8,3]) (sz := 1) (m := 1) (xs := [.int .i64 0]) (by as_aux_lemma => kernel_rfl) (by as_aux_lemma => kernel_rfl) (SrcN.row (by exact row_rep (m := 1) hBx (q := 1) (Nat.le_refl _)) (by rw [hmin]; rfl)) hBg (by (simp; omega)) (rfl) fun h2 hMh2 hzh2 hBh2 => ?_
  rw [hmin]
  have hrep := setAt_rep n (.int .i64 0) 1 0
  rw [show List.replicate 1 (Value.int .i64 0) = [.int .i64 0] from rfl] at hrep
  rw [hrep] at hBh2
  -- at 11111102
  refine Run.adv 4 [] (at_ Tryz.f57 [1,1,1,1,1,1,0,2]) [(7, .slice (some ⟨g, 0, none⟩) n n), (8, .int .i64 1)]
    (True)
    (by as_aux_lemma => kernel_rfl) trivial fun s_ => ?_
  refine Run.loop (at_ Tryz.f57 [1,1,1,1,1,1,0,2,3]) (at_ Tryz.f57 [1,1,1,1,1,1,0,2,7]) (fun k : Nat => [(7, .slice (some ⟨g, 0, none⟩) n n), (8, .int .i64 (k : Int))])
    (fun k h3 => 1 ≤ k ∧ k ≤ n ∧ Blk h3 g (Array.replicate n (.int .i64 0)) 3 ∧ Mod (some g) h1 h3) (fun k => n - k) 1 (by as_aux_lemma => kernel_rfl) rfl ?_ ?_
  · exact ⟨Nat.le_refl _, hn1, hBh2, hMh2⟩
  rintro k s h3 ⟨hk1, hk2, hB3, hM3⟩ again
  by_cases hlt : k < n
  · -- at 11111102312
    refine Run.adv 11 [.dec true] (at_ Tryz.f57 [1,1,1,1,1,1,0,2,3,1,2]) [(7, .slice (some ⟨g, 0, none⟩) n n), (8, .int .i64 (k : Int))]
      ((decide ((k : Int) < (n : Int))) = true)
      (by as_aux_lemma => kernel_rfl) (by first | assumption | exact decide_eq_true (by first | omega | assumption)) fun s_ => ?_
    obtain ⟨q, hq⟩ : ∃ q, Nat.min k (n - k) = q := ⟨_, rfl⟩
    have hq1 : q ≤ k := by rw [← hq]; exact Nat.min_le_left _ _
    have hq2 : q ≤ n - k := by rw [← hq]; exact Nat.min_le_right _ _
    have hq3 : 1 ≤ q := by rw [← hq]; exact Nat.le_min.2 ⟨hk1, by omega⟩
    refine Run.any (opsAt (at_ Tryz.f57 [1,1,1,1,1,1,0,2,3,1,2])) (at_ Tryz.f57 [1,1,1,1,1,1,0,2,3,1,2]).tail (fun H => Mod (some g) h3 H) [0, 1, 2, 3, 4, 5, 6] [0, 1, 2, 3, 4, 5, 6] [.say (.slice (some ⟨g, 0 + k * 1, none⟩) (n - k) (n - k)), .say (.slice (some ⟨g, 0, none⟩) k n)] #[true, true, true, true, true, true, true, false, false, false] [(7, .slice (some ⟨g, 0, none⟩) n n), (8, .int .i64 (k : Int)), (38, .int .i64 (k : Int)), (39, .slice (some ⟨g, 0, none⟩) n n), (40, .int .i64 (k : Int)), (41, .slice (some ⟨g, 0 + k * 1, none⟩) (n - k) (n - k)), (42, .slice (some ⟨g, 0, none⟩) n n), (43, .int .i64 (k : Int)), (44, .slice (some ⟨g, 0, none⟩) k n)]
      (fun H => Says Tryz.prog (Instr.sliceAt 58 (.slice (some ⟨g, 0, none⟩) n n) (some (.int .i64 (k : Int))) none none) (.slice (some ⟨g, 0 + k * 1, none⟩) (n - k) (n - k)) H ∧ Says Tryz.prog (Instr.sliceAt 58 (.slice (some ⟨g, 0, none⟩) n n) none (some (.int .i64 (k : Int))) none) (.slice (some ⟨g, 0, none⟩) k n) H) 3 (by as_aux_lemma => kernel_rfl) (by as_aux_lemma => kernel_rfl) ((Ext.refl _).mod _)
      (by as_aux_lemma => kernel_rfl) (fun H hC => ⟨(says_from Tryz.underlying58 info_int (by omega) (by omega) (Nat.le_refl n) _), (says_to Tryz.underlying58 info_ints (by omega) _)⟩) fun s_ => ?_
    refine RunA.copy 2 g (0 + k * 1) (n - k) (n - k) (.slice (some ⟨g, 0, none⟩) k n) 3 (some 45) false #[true, true, true, true, true, true, true, true, false, false] (sz := 1) (m := k) (xs := List.replicate q (.int .i64 0)) (by as_aux_lemma => kernel_rfl) (by as_aux_lemma => kernel_rfl) (SrcN.row (row_rep hB3 (by omega)) (by rw [hq]; simp)) hB3 (by (simp; omega)) ((by simp [Vc.one])) fun h4 hMh4 hzh4 hBh4 => ⟨fun _ => (((Ext.refl _).mod _).trans hMh4), ?_⟩
    rw [hq]
    rw [setAt_rep] at hBh4
    refine RunA.solo 1 [] (.int .i64 ((k : Int) + (q : Int))) (some 46) false #[true, true, true, true, true, true, true, true, true, false] ((-9223372036854775808 ≤ (k : Int) + (q : Int) ∧ (k : Int) + (q : Int) ≤ 9223372036854775807)) (by as_aux_lemma => kernel_rfl) ⟨by omega, by omega⟩ (fun _ => (((Ext.refl _).mod _).trans hMh4)) ?_
    refine RunA.solo 0 [] (.int .i64 ((k : Int) + (q : Int))) (some 8) true #[true, true, true, true, true, true, true, true, true, true] (True) (by as_aux_lemma => kernel_rfl) trivial ((fun e => by cases e)) ?_
    refine RunA.done [(7, .slice (some ⟨g, 0, none⟩) n n), (8, .int .i64 ((k : Int) + (q : Int))), (38, .int .i64 (k : Int)), (39, .slice (some ⟨g, 0, none⟩) n n), (40, .int .i64 (k : Int)), (41, .slice (some ⟨g, 0 + k * 1, none⟩) (n - k) (n - k)), (42, .slice (some ⟨g, 0, none⟩) n n), (43, .int .i64 (k : Int)), (44, .slice (some ⟨g, 0, none⟩) k n), (45, .int .i64 (q : Int)), (46, .int .i64 ((k : Int) + (q : Int)))] (by as_aux_lemma => kernel_rfl) (by as_aux_lemma => kernel_rfl) fun s_ => ?_
    -- at 111111027
    refine Run.adv 1 [] (at_ Tryz.f57 [1,1,1,1,1,1,0,2,7]) [(7, .slice (some ⟨g, 0, none⟩) n n), (8, .int .i64 ((k + q : Nat) : Int))]
      (True)
      (by as_aux_lemma => kernel_rfl) trivial fun s_ => ?_
    exact again (k + q) _ _ ⟨by omega, by omega, hBh4, hM3.trans hMh4⟩ (by omega)
  · have hke : k = n := by omega
    -- at 11111111
    refine Run.adv 15 [.dec false] (at_ Tryz.f57 [1,1,1,1,1,1,1,1]) [(4, .slice (some ⟨g, 0, none⟩) n n)]
      ((decide ((k : Int) < (n : Int))) = false)
      (by as_aux_lemma => kernel_rfl) (by first | assumption | exact decide_eq_false (by first | omega | assumption)) fun s_ => ?_
    refine Run.ret [] (.slice (some ⟨g, 0, none⟩) n n) (True) Tryz.func57 (by as_aux_lemma => kernel_rfl) (by as_aux_lemma => kernel_rfl) trivial ?_
    have hE : Ext h h3 := hM3.ext hEg (fun g' e => by cases e; omega)
    refine ⟨g, rfl, ?_, hE, by omega⟩
    have := own_made hB3 (by omega)
    rwa [List.map_replicate]
/-- The nested lists as headers. -/
abbrev encI (xs : List Int) : List Value := xs.map (Value.int .i64)
theorem lofNo_ct (A1 A2 : Option Addr) (c1 c2 : Nat) (l : Lt) (h : Heap) (hx : LtAt h l A1 c1 A2 c2) (hl : l.ls.length ≤ 100000) (hno : ¬ May l) :
    Ct Tryz.prog 33 #[.agg #[.int .i64 l.n, .slice A1 l.ls.length c1, .slice A2 l.es.length c2]] h (fun v h' => v = .tuple #[.slice none 0 0, .int .i64 1] ∧ Ext h h') := by
  refine Ct.enter (args := [.agg #[.int .i64 l.n, .slice A1 l.ls.length c1, .slice A2 l.es.length c2]]) Tryz.func33 rfl Tryz.ntmps33 (by simp) fun w hw => ?_
  -- at 080
  refine Run.adv 2 [] (at_ Tryz.f33 [0,8,0]) [(0, .agg #[.int .i64 l.n, .slice A1 l.ls.length c1, .slice A2 l.es.length c2])]
    (True)
    (by as_aux_lemma => kernel_rfl) trivial fun s_ => ?_
  refine Run.new #[.int .i64 l.n, .slice A1 l.ls.length c1, .slice A2 l.es.length c2] 25 (fun g_ => .pointer (some ⟨g_, 0, none⟩)) (some 1) (at_ Tryz.f33 [0,8,1]) (by as_aux_lemma => kernel_rfl) fun g1 h1 hng1 hEg1 hBg1 => ?_
  by_cases e1 : l.n < 1
  · -- at 10141
    refine Run.adv 21 [.val (.int .i64 l.n), .dec true, .lit, .lit, .lit] (at_ Tryz.f33 [1,0,1,4,1]) [(2, .slice none 0 0), (3, .int .i64 1)]
      (cellH h1 ⟨g1, 0, none⟩ = some (.int .i64 l.n) ∧ (decide (l.n < 1)) = true)
      (by as_aux_lemma => kernel_rfl) ⟨(hBg1.at (Ext.refl _) 0 rfl), (by first | assumption | exact decide_eq_true (by first | omega | assumption))⟩ fun s_ => ?_
    refine Run.ret [] (.tuple #[.slice none 0 0, .int .i64 1]) (True) Tryz.func33 (by as_aux_lemma => kernel_rfl) (by as_aux_lemma => kernel_rfl) trivial ?_
    exact ⟨rfl, hEg1⟩
  by_cases e2 : 2048 < l.n
  · -- at 10141
    refine Run.adv 21 [.val (.int .i64 l.n), .dec false, .lit, .val (.int .i64 l.n), .lit, .dec true] (at_ Tryz.f33 [1,0,1,4,1]) [(2, .slice none 0 0), (3, .int .i64 1)]
      (cellH h1 ⟨g1, 0, none⟩ = some (.int .i64 l.n) ∧ (decide (l.n < 1)) = false ∧ cellH h1 ⟨g1, 0, none⟩ = some (.int .i64 l.n) ∧ (decide (l.n > 2048)) = true)
      (by as_aux_lemma => kernel_rfl) ⟨(hBg1.at (Ext.refl _) 0 rfl), (by first | assumption | exact decide_eq_false (by first | omega | assumption)), (hBg1.at (Ext.refl _) 0 rfl), (by first | assumption | exact decide_eq_true (by first | omega | assumption))⟩ fun s_ => ?_
    refine Run.ret [] (.tuple #[.slice none 0 0, .int .i64 1]) (True) Tryz.func33 (by as_aux_lemma => kernel_rfl) (by as_aux_lemma => kernel_rfl) trivial ?_
    exact ⟨rfl, hEg1⟩
  obtain ⟨n, hn⟩ := Int.eq_ofNat_of_zero_le (show 0 ≤ l.n by omega)
  -- at 11080
  refine Run.adv 19 [.val (.int .i64 l.n), .dec false, .lit, .val (.int .i64 l.n), .lit, .dec false] (at_ Tryz.f33 [1,1,0,8,0]) [(1, .pointer (some ⟨g1, 0, none⟩))]
    (cellH h1 ⟨g1, 0, none⟩ = some (.int .i64 l.n) ∧ (decide (l.n < 1)) = false ∧ cellH h1 ⟨g1, 0, none⟩ = some (.int .i64 l.n) ∧ (decide (l.n > 2048)) = false)
    (by as_aux_lemma => kernel_rfl) ⟨(hBg1.at (Ext.refl _) 0 rfl), (by first | assumption | exact decide_eq_false (by first | omega | assumption)), (hBg1.at (Ext.refl _) 0 rfl), (by first | assumption | exact decide_eq_false (by first | omega | assumption))⟩ fun s_ => ?_
  refine Run.new #[.int .i64 0] 3 (fun g_ => .slice (some ⟨g_, 0, none⟩) 1 1) (some 16) (at_ Tryz.f33 [1,1,0,8,1]) (by as_aux_lemma => kernel_rfl) fun gx h2 hngx hEgx hBgx => ?_
  -- at 11083
  refine Run.adv 2 [.val (.int .i64 l.n)] (at_ Tryz.f33 [1,1,0,8,3]) [(1, .pointer (some ⟨g1, 0, none⟩)), (16, .slice (some ⟨gx, 0, none⟩) 1 1), (18, .int .i64 l.n)]
    (cellH h2 ⟨g1, 0, none⟩ = some (.int .i64 l.n))
    (by as_aux_lemma => kernel_rfl) (hBg1.at hEgx 0 rfl) fun s_ => ?_
  rw [hn]
  refine Run.call 57 #[.slice (some ⟨gx, 0, none⟩) 1 1, .int .i64 (n : Int)] (some 19) (at_ Tryz.f33 [1,1,0,8,4]) (by as_aux_lemma => kernel_rfl) (repeat_ct gx n _ hBgx (by omega) (by omega)) ?_
  rintro _ h3 ⟨g, rfl, hO, hE3, hg⟩
  have hO' : Own h3 3 1 (.slice (some ⟨g, 0, none⟩) n n) (List.replicate n (0 : Int)).length (encI (List.replicate n 0)) (some g) := by rw [List.length_replicate]; exact hO
  obtain ⟨A4, c4, hv4, hr4⟩ := hO'.row1 (d := 0) (by simp; omega)
  rw [hv4]
  have hE := (hEg1.trans hEgx).trans hE3
  -- at 11112
  refine Run.adv 7 [] (at_ Tryz.f33 [1,1,1,1,2]) [(1, .pointer (some ⟨g1, 0, none⟩)), (4, .slice A4 ((List.replicate n (0 : Int)).length) c4), (5, .slice none 0 0)]
    (True)
    (by as_aux_lemma => kernel_rfl) trivial fun s_ => ?_
  refine Run.loop (at_ Tryz.f33 [1,1,1,1,2,3]) (at_ Tryz.f33 [1,1,1,1,2,7]) (fun (_ : Unit) => [(1, .pointer (some ⟨g1, 0, none⟩)), (4, .slice A4 (List.replicate n (0 : Int)).length c4), (5, .slice none 0 0)]) (fun _ h' => h' = h3) (fun _ => 0) () (by as_aux_lemma => kernel_rfl) rfl rfl ?_
  rintro _ s_ h' rfl again
  -- at 1111232082
  refine Run.adv 5 [.val (.agg #[.int .i64 l.n, .slice A1 l.ls.length c1, .slice A2 l.es.length c2])] (at_ Tryz.f33 [1,1,1,1,2,3,2,0,8,2]) [(21, .agg #[.int .i64 l.n, .slice A1 l.ls.length c1, .slice A2 l.es.length c2]), (22, .slice A4 ((List.replicate n (0 : Int)).length) c4)]
    (cellsAt h' ⟨g1, 0, none⟩ [.int .i64 l.n, .slice A1 l.ls.length c1, .slice A2 l.es.length c2] 0)
    (by as_aux_lemma => kernel_rfl) (hBg1.all (hEgx.trans hE3)) fun s_ => ?_
  refine Run.call 58 #[.agg #[.int .i64 l.n, .slice A1 l.ls.length c1, .slice A2 l.es.length c2], .slice A4 ((List.replicate n (0 : Int)).length) c4] (some 23) (at_ Tryz.f33 [1,1,1,1,2,3,2,0,8,3]) (by as_aux_lemma => kernel_rfl) (stepNo_ct A1 A2 A4 c1 c2 c4 l _ _ (hx.ext hE) hl (fun hh => hno hh.1)) ?_
  rintro _ h5 ⟨rfl, hE5⟩
  -- at 111123210141
  refine Run.adv 19 [.lit] (at_ Tryz.f33 [1,1,1,1,2,3,2,1,0,1,4,1]) [(2, .slice none 0 0), (3, .int .i64 1)]
    (True)
    (by as_aux_lemma => kernel_rfl) trivial fun s_ => ?_
  refine Run.ret [] (.tuple #[.slice none 0 0, .int .i64 1]) (True) Tryz.func33 (by as_aux_lemma => kernel_rfl) (by as_aux_lemma => kernel_rfl) trivial ?_
  exact ⟨rfl, hE.trans hE5⟩
set_option maxHeartbeats 1000000 in
theorem lofOk_ct (A1 A2 : Option Addr) (c1 c2 : Nat) (l : Lt) (n : Nat) (h : Heap) (hx : LtAt h l A1 c1 A2 c2) (hm : May l) (hn : l.n = (n : Int)) (hT : Tab h) :
    Ct Tryz.prog 33 #[.agg #[.int .i64 l.n, .slice A1 l.ls.length c1, .slice A2 l.es.length c2]] h
      (fun v h' => ∃ m w og vs, Stop l.es n m ∧ v = .tuple #[w, .int .i64 0] ∧ Own h' 58 1 w (levs l.es n m).length vs og ∧ Nest h' 3 1 encI h.size og vs (levs l.es n m) ∧ Ext h h') := by
  have hn1 := hm.n1
  have hn2 := hm.n2
  have hl := hm.ls.1
  refine Ct.enter (args := [.agg #[.int .i64 l.n, .slice A1 l.ls.length c1, .slice A2 l.es.length c2]]) Tryz.func33 rfl Tryz.ntmps33 (by simp) fun w hw => ?_
  -- at 080
  refine Run.adv 2 [] (at_ Tryz.f33 [0,8,0]) [(0, .agg #[.int .i64 l.n, .slice A1 l.ls.length c1, .slice A2 l.es.length c2])]
    (True)
    (by as_aux_lemma => kernel_rfl) trivial fun s_ => ?_
  refine Run.new #[.int .i64 l.n, .slice A1 l.ls.length c1, .slice A2 l.es.length c2] 25 (fun g_ => .pointer (some ⟨g_, 0, none⟩)) (some 1) (at_ Tryz.f33 [0,8,1]) (by as_aux_lemma => kernel_rfl) fun g1 h1 hng1 hEg1 hBg1 => ?_
  -- at 11080
  refine Run.adv 19 [.val (.int .i64 l.n), .dec false, .lit, .val (.int .i64 l.n), .lit, .dec false] (at_ Tryz.f33 [1,1,0,8,0]) [(1, .pointer (some ⟨g1, 0, none⟩))]
    (cellH h1 ⟨g1, 0, none⟩ = some (.int .i64 l.n) ∧ (decide (l.n < 1)) = false ∧ cellH h1 ⟨g1, 0, none⟩ = some (.int .i64 l.n) ∧ (decide (l.n > 2048)) = false)
    (by as_aux_lemma => kernel_rfl) ⟨(hBg1.at (Ext.refl _) 0 rfl), (by first | assumption | exact decide_eq_false (by first | omega | assumption)), (hBg1.at (Ext.refl _) 0 rfl), (by first | assumption | exact decide_eq_false (by first | omega | assumption))⟩ fun s_ => ?_
  refine Run.new #[.int .i64 0] 3 (fun g_ => .slice (some ⟨g_, 0, none⟩) 1 1) (some 16) (at_ Tryz.f33 [1,1,0,8,1]) (by as_aux_lemma => kernel_rfl) fun gx h2 hngx hEgx hBgx => ?_
  -- at 11083
  refine Run.adv 2 [.val (.int .i64 l.n)] (at_ Tryz.f33 [1,1,0,8,3]) [(1, .pointer (some ⟨g1, 0, none⟩)), (16, .slice (some ⟨gx, 0, none⟩) 1 1), (18, .int .i64 l.n)]
    (cellH h2 ⟨g1, 0, none⟩ = some (.int .i64 l.n))
    (by as_aux_lemma => kernel_rfl) (hBg1.at hEgx 0 rfl) fun s_ => ?_
  rw [show Value.int .i64 l.n = .int .i64 (n : Int) by rw [hn]]
  refine Run.call 57 #[.slice (some ⟨gx, 0, none⟩) 1 1, .int .i64 (n : Int)] (some 19) (at_ Tryz.f33 [1,1,0,8,4]) (by as_aux_lemma => kernel_rfl) (repeat_ct gx n _ hBgx (by omega) (by omega)) ?_
  rintro _ h3 ⟨g, rfl, hO, hE3, hg⟩
  have hE := (hEg1.trans hEgx).trans hE3
  have hE13 := hEgx.trans hE3
  -- at 11112
  refine Run.adv 7 [] (at_ Tryz.f33 [1,1,1,1,2]) [(1, .pointer (some ⟨g1, 0, none⟩)), (4, .slice (some ⟨g, 0, none⟩) n n), (5, .slice none 0 0)]
    (True)
    (by as_aux_lemma => kernel_rfl) trivial fun s_ => ?_
  refine Run.loop (at_ Tryz.f33 [1,1,1,1,2,3]) (at_ Tryz.f33 [1,1,1,1,2,7]) (fun (⟨k, A4, c4, A5, c5⟩ : Nat × Option Addr × Nat × Option Addr × Nat) => [(1, .pointer (some ⟨g1, 0, none⟩)), (4, .slice A4 n c4), (5, .slice A5 k c5)])
    (fun ⟨k, A4, c4, A5, c5⟩ h4 => (∀ j, j < k → cntL (lev l.es n (j + 1)) ≠ cntL (lev l.es n j)) ∧ ∃ og vs, Own h4 58 1 (.slice A5 k c5) k (vs.take k) og ∧ Nest h4 3 1 encI h1.size og vs ((List.range (k + 1)).map (lev l.es n)) ∧ vs.getD k undef = .slice A4 n c4 ∧ Ext h1 h4 ∧ ∀ g', og = some g' → h1.size ≤ g') (fun ⟨k, A4, c4, A5, c5⟩ => n - cntL (lev l.es n k)) (0, some ⟨g, 0, none⟩, n, none, 0) (by as_aux_lemma => kernel_rfl) rfl ?_ ?_
  · refine ⟨fun j hj => by omega, none, [.slice (some ⟨g, 0, none⟩) n n], Own.nil _ _ _, ?_, rfl, hE13, by simp⟩
    have hs := hE13.size
    have hs2 := hEgx.size
    have N1 : Nest h3 3 1 encI h1.size none ([] : List Value) ([] : List (List Int)) := Nest.nil
    have hO' : Own h3 3 1 (.slice (some ⟨g, 0, none⟩) n n) (List.replicate n (0 : Int)).length (encI (List.replicate n 0)) (some g) := by rw [List.length_replicate]; exact hO
    have N0 : Nest h1 3 1 encI h1.size none ([] : List Value) ([] : List (List Int)) := Nest.nil
    have := N0.pushOwn hE13 hO' (fun g' e => by cases e; exact ⟨by omega, by omega, by simp⟩)
    simpa [lev] using this
  rintro ⟨k, A4, c4, A5, c5⟩ s_ h4 ⟨hf, og, vs, hO4, hN4, hv, hE4, hog⟩ again
  simp only at hf hO4 hN4 hv hE4 hog again
  have hE04 := hEg1.trans hE4
  have hgr := lev_grow hf (by omega) k (Nat.le_refl _)
  have hkn := lev_cnt l.es n k
  have hvl := hN4.len
  simp only [List.length_map, List.length_range] at hvl
  obtain ⟨o, hOn, hob, -⟩ := hN4.open_ (j := k) (by simp)
  rw [hv, mapRange_getD _ _ (by omega)] at hOn
  have hll := lev_len l.es n k
  obtain ⟨A4', c4', hv4, hr4⟩ := hOn.row1 (d := 0) (by omega)
  rw [hll] at hv4
  injection hv4 with e1 e2 e3
  subst e1 e3
  -- at 1111232082
  refine Run.adv 5 [.val (.agg #[.int .i64 l.n, .slice A1 l.ls.length c1, .slice A2 l.es.length c2])] (at_ Tryz.f33 [1,1,1,1,2,3,2,0,8,2]) [(1, .pointer (some ⟨g1, 0, none⟩)), (4, .slice A4 n c4), (5, .slice A5 k c5), (21, .agg #[.int .i64 l.n, .slice A1 l.ls.length c1, .slice A2 l.es.length c2]), (22, .slice A4 n c4)]
    (cellsAt h4 ⟨g1, 0, none⟩ [.int .i64 l.n, .slice A1 l.ls.length c1, .slice A2 l.es.length c2] 0)
    (by as_aux_lemma => kernel_rfl) (hBg1.all hE4) fun s_ => ?_
  rw [show Value.slice A4 n c4 = .slice A4 (lev l.es n k).length c4 by rw [hll]]
  refine Run.call 58 #[.agg #[.int .i64 l.n, .slice A1 l.ls.length c1, .slice A2 l.es.length c2], .slice A4 ((lev l.es n k).length) c4] (some 23) (at_ Tryz.f33 [1,1,1,1,2,3,2,0,8,3]) (by as_aux_lemma => kernel_rfl) (stepOk_ct A1 A2 A4 c1 c2 c4 l (lev l.es n k) _ (hx.ext hE04) hr4 hm (by omega) (hT.ext hE04)) ?_
  rintro v h5 ⟨w6, og6, rfl, hO6, hE5, hg6⟩
  have hsl : (stepL l.es (lev l.es n k)).length = n := by rw [stepL_len, hll]
  have hO6n := hO6
  obtain ⟨A6, c6, rfl⟩ := hO6n.slice
  have hs45 := hE5.size
  have hs14 := hE4.size
  have N5 := hN4.pushOwn hE5 (enc := encI) (xs := stepL l.es (lev l.es n k)) hO6 (fun g' e => ⟨hg6 g' e, by have := hg6 g' e; omega, fun e2 => by have := hO4.lt e2; have := hg6 g' e; omega⟩)
  have hxe : (List.range (k + 1)).map (lev l.es n) ++ [stepL l.es (lev l.es n k)] = (List.range (k + 1 + 1)).map (lev l.es n) := by
    rw [List.range_succ (n := k + 1), List.map_append]; rfl
  rw [hxe] at N5
  -- at 111123211082
  refine Run.adv 18 [.lit] (at_ Tryz.f33 [1,1,1,1,2,3,2,1,1,0,8,2]) [(1, .pointer (some ⟨g1, 0, none⟩)), (4, .slice A4 ((lev l.es n k).length) c4), (5, .slice A5 k c5), (6, .slice A6 ((stepL l.es (lev l.es n k)).length) c6), (29, .slice A5 k c5), (30, .slice A4 ((lev l.es n k).length) c4)]
    (True)
    (by as_aux_lemma => kernel_rfl) trivial fun s_ => ?_
  refine Run.new #[.slice A4 ((lev l.es n k).length) c4] 58 (fun g_ => .slice (some ⟨g_, 0, none⟩) 1 1) (some 31) (at_ Tryz.f33 [1,1,1,1,2,3,2,1,1,0,8,3]) (by as_aux_lemma => kernel_rfl) fun g8 h6 hng8 hEg8 hBg8 => ?_
  refine Run.append (.slice A5 k c5) (.slice (some ⟨g8, 0, none⟩) 1 1) 58 (some 32) (at_ Tryz.f33 [1,1,1,1,2,3,2,1,1,0,8,4]) 1 24 (by as_aux_lemma => kernel_rfl) (by as_aux_lemma => kernel_rfl) (by decide) ((hO4.ext hE5).ext hEg8) (Src.row (hBg8.all (Ext.refl _)) rfl) (by rfl) rfl (by omega) fun A9 c9 h7 og9 hOA9 hMh7 hgA9 => ?_
  have hEh1_h7 := hMh7.ext ((hE4.trans hE5).trans hEg8) (by exact hog)
  have N7 := (N5.ext hEg8).outer hMh7 hgA9
  have hE07 := hEg1.trans hEh1_h7
  have hs56 := hEg8.size
  have hog9 : ∀ g', og9 = some g' → h1.size ≤ g' := fun g' e => by
    rcases hgA9 with e2 | e2
    · exact hog g' (e2 ▸ e)
    · rw [e2] at e; cases e; omega
  have hcs : vs.take k ++ [.slice A4 (lev l.es n k).length c4] = (vs ++ [Value.slice A6 (stepL l.es (lev l.es n k)).length c6]).take (k + 1) := by
    rw [List.take_append_of_le_length (by omega), List.take_succ_eq_append_getElem (by omega)]
    congr 2
    rw [List.getD_eq_getElem?_getD, List.getElem?_eq_getElem (by omega)] at hv
    rw [hll]; exact hv.symm
  rw [hcs] at hOA9
  obtain ⟨o7, hO7, -, -⟩ := N7.open_ (j := k + 1) (by simp)
  rw [mapRange_getD _ _ (by omega), getD_snoc, if_pos (by omega)] at hO7
  obtain ⟨A6', c6', hv6, hr6⟩ := hO7.row1 (d := 0) (by rw [lev_len]; omega)
  have hle : lev l.es n (k + 1) = stepL l.es (lev l.es n k) := rfl
  rw [hle] at hv6 hr6
  injection hv6 with e1 e2 e3
  subst e1 e3
  obtain ⟨o7', hO7', -, -⟩ := N7.open_ (j := k) (by simp <;> omega)
  rw [mapRange_getD _ _ (by omega), getD_snoc, if_neg (by omega), hv] at hO7'
  obtain ⟨A4', c4', hv4', hr4'⟩ := hO7'.row1 (d := 0) (by rw [lev_len]; omega)
  rw [hll] at hv4'
  injection hv4' with e1 e2 e3
  subst e1 e3
  -- at 11112321110081
  refine Run.adv 6 [] (at_ Tryz.f33 [1,1,1,1,2,3,2,1,1,1,0,0,8,1]) [(1, .pointer (some ⟨g1, 0, none⟩)), (4, .slice A4 ((lev l.es n k).length) c4), (5, .slice A9 (k + 1) c9), (6, .slice A6 ((stepL l.es (lev l.es n k)).length) c6), (33, .slice A6 ((stepL l.es (lev l.es n k)).length) c6)]
    (True)
    (by as_aux_lemma => kernel_rfl) trivial fun s_ => ?_
  refine Run.call 59 #[.slice A6 ((stepL l.es (lev l.es n k)).length) c6] (some 34) (at_ Tryz.f33 [1,1,1,1,2,3,2,1,1,1,0,0,8,2]) (by as_aux_lemma => kernel_rfl) (count_ct A6 c6 (stepL l.es (lev l.es n k)) _ hr6 (by omega)) ?_
  rintro _ h8 ⟨rfl, hE8⟩
  -- at 11112321110083
  refine Run.adv 1 [] (at_ Tryz.f33 [1,1,1,1,2,3,2,1,1,1,0,0,8,3]) [(1, .pointer (some ⟨g1, 0, none⟩)), (4, .slice A4 ((lev l.es n k).length) c4), (5, .slice A9 (k + 1) c9), (6, .slice A6 ((stepL l.es (lev l.es n k)).length) c6), (34, .int .i64 (cntL (stepL l.es (lev l.es n k)) : Int)), (35, .slice A4 ((lev l.es n k).length) c4)]
    (True)
    (by as_aux_lemma => kernel_rfl) trivial fun s_ => ?_
  refine Run.call 59 #[.slice A4 ((lev l.es n k).length) c4] (some 36) (at_ Tryz.f33 [1,1,1,1,2,3,2,1,1,1,0,0,8,4]) (by as_aux_lemma => kernel_rfl) (count_ct A4 c4 (lev l.es n k) _ (hr4'.ext hE8) (by omega)) ?_
  rintro _ h9 ⟨rfl, hE9⟩
  have hE79 := hE8.trans hE9
  by_cases hst : (cntL (stepL l.es (lev l.es n k)) : Int) = cntL (lev l.es n k)
  · -- at 11112321110141
    refine Run.adv 9 [.dec true] (at_ Tryz.f33 [1,1,1,1,2,3,2,1,1,1,0,1,4,1]) [(2, .slice A9 (k + 1) c9), (3, .int .i64 0)]
      (((cntL (stepL l.es (lev l.es n k)) : Int) == (cntL (lev l.es n k) : Int)) = true)
      (by as_aux_lemma => kernel_rfl) (beq_iff_eq.2 (by first | omega | assumption)) fun s_ => ?_
    refine Run.ret [] (.tuple #[.slice A9 (k + 1) c9, .int .i64 0]) (True) Tryz.func33 (by as_aux_lemma => kernel_rfl) (by as_aux_lemma => kernel_rfl) trivial ?_
    have hS : Stop l.es n k := ⟨by show cntL (stepL l.es (lev l.es n k)) = _; omega, hf⟩
    refine ⟨k, _, og9, vs, hS, rfl, ?_, ?_, hE07.trans hE79⟩
    · rw [levs_len]
      have := hOA9.ext hE79
      rwa [List.take_append_of_le_length (by omega), List.take_of_length_le (by omega)] at this
    · rw [← hxe] at N7
      have N9 := (N7.init).ext hE79
      obtain ⟨ogs, n1, n2, n3, n4⟩ := N9
      have := hEg1.size
      exact ⟨ogs, n1, n2, n3, fun j g' e' => ⟨by have := (n4 j g' e').1; omega, (n4 j g' e').2⟩⟩
  · -- at 111127
    refine Run.adv 9 [.dec false] (at_ Tryz.f33 [1,1,1,1,2,7]) [(1, .pointer (some ⟨g1, 0, none⟩)), (4, .slice A6 ((stepL l.es (lev l.es n k)).length) c6), (5, .slice A9 (k + 1) c9)]
      (((cntL (stepL l.es (lev l.es n k)) : Int) == (cntL (lev l.es n k) : Int)) = false)
      (by as_aux_lemma => kernel_rfl) (beq_eq_false_iff_ne.2 (by first | omega | assumption)) fun s_ => ?_
    have hmono := lev_mono l.es n k
    have hk1 := lev_cnt l.es n (k + 1)
    rw [hle] at hmono hk1
    rw [show Value.slice A6 (stepL l.es (lev l.es n k)).length c6 = .slice A6 n c6 by rw [hsl]]
    refine again (k + 1, A6, c6, A9, c9) _ _ ⟨fun j hj => ?_, og9, _, hOA9.ext hE79, N7.ext hE79, ?_, hEh1_h7.trans hE79, hog9⟩ (by simp only; rw [hle]; omega)
    · by_cases ej : j = k
      · subst ej; rw [hle]; omega
      · exact hf j (by simp only at hj; omega)
    · simp only
      rw [getD_snoc, if_pos (by omega), hsl]
end Go.Proofs.YtbajgbkkbabmlaaGreatDoor
