/- lts.Out, lts.Succ; where nodes are apart; the board of a game; its replies. -/
import Derived.Test.YtbajgbkkbabmlaaGreatDoorProg
import Derived.Test.YtbajgbkkbabmlaaGreatDoorO1
import Derived.Test.YtbajgbkkbabmlaaGreatDoorR4
set_option linter.unusedVariables false
namespace Go.Proofs.YtbajgbkkbabmlaaGreatDoor
open Go.Vc
theorem lx_15_101231020 : LexOk (opsAt (at_ Tryz.f15 [1,0,1,2,3,1,0,2,0])) := ⟨by kernel_rfl⟩
theorem lx_55_110123110210 : LexOk (opsAt (at_ Tryz.f55 [1,1,0,1,2,3,1,1,0,2,1,0])) := ⟨by kernel_rfl⟩

theorem Out_ct (A1 A2 : Option Addr) (c1 c2 : Nat) (l : Lt) (node : Int) (h : Heap) (hx : LtAt h l A1 c1 A2 c2) (hm : May l) :
    Ct Tryz.prog 54 #[.agg #[.int .i64 l.n, .slice A1 l.ls.length c1, .slice A2 l.es.length c2], .int .i64 node] h
      (fun v h' => ∃ A c, v = .slice A (outL l.es node).length c ∧ Edges h' A (outL l.es node) c ∧ Ext h h') := by
  have hl := hm.ls.1
  have hlen := hm.len
  have hol := outL_len l.es node
  refine Ct.enter (args := [.agg #[.int .i64 l.n, .slice A1 l.ls.length c1, .slice A2 l.es.length c2], .int .i64 node]) Tryz.func54 rfl Tryz.ntmps54 (by simp) fun w hw => ?_
  -- at 080
  refine Run.adv 2 [] (at_ Tryz.f54 [0,8,0]) [(0, .agg #[.int .i64 l.n, .slice A1 l.ls.length c1, .slice A2 l.es.length c2]), (1, .int .i64 node)]
    (True)
    (by as_aux_lemma => kernel_rfl) trivial fun s_ => ?_
  refine Run.new #[.int .i64 l.n, .slice A1 l.ls.length c1, .slice A2 l.es.length c2] 25 (fun g_ => .pointer (some ⟨g_, 0, none⟩)) (some 2) (at_ Tryz.f54 [0,8,1]) (by as_aux_lemma => kernel_rfl) fun g1 h1 hng1 hEg1 hBg1 => ?_
  -- at 10081
  refine Run.adv 6 [.val (.agg #[.int .i64 l.n, .slice A1 l.ls.length c1, .slice A2 l.es.length c2])] (at_ Tryz.f54 [1,0,0,8,1]) [(0, .agg #[.int .i64 l.n, .slice A1 l.ls.length c1, .slice A2 l.es.length c2]), (1, .int .i64 node), (2, .pointer (some ⟨g1, 0, none⟩)), (4, .slice none 0 0), (5, .agg #[.int .i64 l.n, .slice A1 l.ls.length c1, .slice A2 l.es.length c2])]
    (cellsAt h1 ⟨g1, 0, none⟩ [.int .i64 l.n, .slice A1 l.ls.length c1, .slice A2 l.es.length c2] 0)
    (by as_aux_lemma => kernel_rfl) (hBg1.all (Ext.refl _)) fun s_ => ?_
  refine Run.call 73 #[.agg #[.int .i64 l.n, .slice A1 l.ls.length c1, .slice A2 l.es.length c2]] (some 6) (at_ Tryz.f54 [1,0,0,8,2]) (by as_aux_lemma => kernel_rfl) (CheckM_ct A1 A2 c1 c2 l _ (hx.ext hEg1) (by omega)) ?_
  rintro _ h2 ⟨rfl, hE2⟩
  rw [errB_yes hm]
  -- at 11082
  refine Run.adv 8 [.lit, .val (.agg #[.int .i64 l.n, .slice A1 l.ls.length c1, .slice A2 l.es.length c2])] (at_ Tryz.f54 [1,1,0,8,2]) [(8, .agg #[.int .i64 l.n, .slice A1 l.ls.length c1, .slice A2 l.es.length c2]), (9, .int .i64 node)]
    (cellsAt h2 ⟨g1, 0, none⟩ [.int .i64 l.n, .slice A1 l.ls.length c1, .slice A2 l.es.length c2] 0)
    (by as_aux_lemma => kernel_rfl) (hBg1.all hE2) fun s_ => ?_
  refine Run.call 75 #[.agg #[.int .i64 l.n, .slice A1 l.ls.length c1, .slice A2 l.es.length c2], .int .i64 node] (some 10) (at_ Tryz.f54 [1,1,0,8,3]) (by as_aux_lemma => kernel_rfl) (out_ct A1 A2 c1 c2 l node _ (hx.ext (hEg1.trans hE2)) hm) ?_
  rintro v h3 ⟨A3, c3, rfl, hr3, hE3⟩
  -- at 11083
  refine Run.adv 0 [] (at_ Tryz.f54 [1,1,0,8,3]) [(8, .agg #[.int .i64 l.n, .slice A1 l.ls.length c1, .slice A2 l.es.length c2]), (9, .int .i64 node), (10, .slice A3 ((outL l.es node).length) c3)]
    (True)
    (by as_aux_lemma => kernel_rfl) trivial fun s_ => ?_
  refine Run.call 74 #[.slice A3 ((outL l.es node).length) c3] (some 11) (at_ Tryz.f54 [1,1,0,8,4]) (by as_aux_lemma => kernel_rfl) (cloneE_ct A3 c3 (outL l.es node) _ hr3 (by omega)) ?_
  rintro v h4 ⟨A4, c4, rfl, hr4, hE4⟩
  -- at 111
  refine Run.adv 2 [] (at_ Tryz.f54 [1,1,1]) [(4, .slice A4 ((outL l.es node).length) c4)]
    (True)
    (by as_aux_lemma => kernel_rfl) trivial fun s_ => ?_
  refine Run.ret [] (.slice A4 ((outL l.es node).length) c4) (True) Tryz.func54 (by as_aux_lemma => kernel_rfl) (by as_aux_lemma => kernel_rfl) trivial ?_
  exact ⟨A4, c4, rfl, hr4, (((hEg1.trans hE2).trans hE3).trans hE4)⟩
theorem Suc_ct (A1 A2 : Option Addr) (c1 c2 : Nat) (l : Lt) (x y : Int) (h : Heap) (hx : LtAt h l A1 c1 A2 c2) (hm : May l) :
    Ct Tryz.prog 76 #[.agg #[.int .i64 l.n, .slice A1 l.ls.length c1, .slice A2 l.es.length c2], .int .i64 x, .int .i64 y] h
      (fun v h' => ∃ A c, v = .slice A (succL l.es x y).length c ∧ Ints h' A (succL l.es x y) c ∧ Ext h h') := by
  have hlen := hm.len
  have hol := outL_len l.es x
  refine Ct.enter (args := [.agg #[.int .i64 l.n, .slice A1 l.ls.length c1, .slice A2 l.es.length c2], .int .i64 x, .int .i64 y]) Tryz.func76 rfl Tryz.ntmps76 (by simp) fun w hw => ?_
  -- at 080
  refine Run.adv 2 [] (at_ Tryz.f76 [0,8,0]) [(0, .agg #[.int .i64 l.n, .slice A1 l.ls.length c1, .slice A2 l.es.length c2]), (1, .int .i64 x), (2, .int .i64 y)]
    (True)
    (by as_aux_lemma => kernel_rfl) trivial fun s_ => ?_
  refine Run.new #[.int .i64 l.n, .slice A1 l.ls.length c1, .slice A2 l.es.length c2] 25 (fun g_ => .pointer (some ⟨g_, 0, none⟩)) (some 3) (at_ Tryz.f76 [0,8,1]) (by as_aux_lemma => kernel_rfl) fun g1 h1 hng1 hEg1 hBg1 => ?_
  -- at 110082
  refine Run.adv 11 [.val (.agg #[.int .i64 l.n, .slice A1 l.ls.length c1, .slice A2 l.es.length c2])] (at_ Tryz.f76 [1,1,0,0,8,2]) [(2, .int .i64 y), (7, .slice none 0 0), (10, .agg #[.int .i64 l.n, .slice A1 l.ls.length c1, .slice A2 l.es.length c2]), (11, .int .i64 x)]
    (cellsAt h1 ⟨g1, 0, none⟩ [.int .i64 l.n, .slice A1 l.ls.length c1, .slice A2 l.es.length c2] 0)
    (by as_aux_lemma => kernel_rfl) (hBg1.all (Ext.refl _)) fun s_ => ?_
  refine Run.call 54 #[.agg #[.int .i64 l.n, .slice A1 l.ls.length c1, .slice A2 l.es.length c2], .int .i64 x] (some 12) (at_ Tryz.f76 [1,1,0,0,8,3]) (by as_aux_lemma => kernel_rfl) (Out_ct A1 A2 c1 c2 l x _ (hx.ext hEg1) hm) ?_
  rintro v h2 ⟨A3, c3, rfl, hr3, hE2⟩
  -- at 11012
  refine Run.adv 4 [] (at_ Tryz.f76 [1,1,0,1,2]) [(2, .int .i64 y), (7, .slice none 0 0), (12, .slice A3 ((outL l.es x).length) c3), (13, .int .i64 ((outL l.es x).length : Int)), (14, .int .i64 0)]
    (True)
    (by as_aux_lemma => kernel_rfl) trivial fun s_ => ?_
  refine Run.loop (at_ Tryz.f76 [1,1,0,1,2,3]) (at_ Tryz.f76 [1,1,0,1,2,7]) (fun (⟨i, A4, m, c4⟩ : Nat × Option Addr × Nat × Nat) => [(2, .int .i64 y), (7, .slice A4 m c4), (12, .slice A3 ((outL l.es x).length) c3), (13, .int .i64 ((outL l.es x).length : Int)), (14, .int .i64 (i : Int))])
    (fun ⟨i, A4, m, c4⟩ h3 => i ≤ (outL l.es x).length ∧ m = (sucB ((outL l.es x).take i) y).length ∧ ∃ og, Own h3 3 1 (.slice A4 m c4) m ((sucB ((outL l.es x).take i) y).map (Value.int .i64)) og ∧ Ext h2 h3 ∧ ∀ g', og = some g' → h2.size ≤ g') (fun ⟨i, A4, m, c4⟩ => (outL l.es x).length - i) (0, none, 0, 0) (by as_aux_lemma => kernel_rfl) rfl ?_ ?_
  · exact ⟨Nat.zero_le _, rfl, none, Own.nil _ _ _, Ext.refl _, by simp⟩
  rintro ⟨i, A4, m, c4⟩ s_ h3 ⟨hi, hmm, og, hO, hE, hg⟩ again
  simp only at hi hmm hO hE hg again
  have hml := sucB_len ((outL l.es x).take i) y
  rw [List.length_take] at hml
  by_cases hlt : i < (outL l.es x).length
  · obtain ⟨b, off, rfl, hp⟩ := hr3.open_ (by omega)
    have hsn := sucB_snoc ((outL l.es x).take i) (ed (outL l.es x) (i : Int)) y
    rw [← take_ed _ i hlt] at hsn
    generalize hed : ed (outL l.es x) (i : Int) = e at hsn
    have hpe := hp _ hE (i : Int) (by omega) (by omega)
    rw [show (outL l.es x).getD (i : Int).toNat (0, 0, 0) = e from hed] at hpe
    -- at 1101231102082
    refine Run.adv 13 [.dec true, .val (.agg #[.int .i64 e.1, .int .i64 e.2.1, .int .i64 e.2.2])] (at_ Tryz.f76 [1,1,0,1,2,3,1,1,0,2,0,8,2]) [(2, .int .i64 y), (7, .slice A4 m c4), (12, .slice (some ⟨b, off, none⟩) ((outL l.es x).length) c3), (13, .int .i64 ((outL l.es x).length : Int)), (14, .int .i64 (i : Int)), (17, .agg #[.int .i64 e.1, .int .i64 e.2.1, .int .i64 e.2.2])]
      ((decide ((i : Int) < ((outL l.es x).length : Int))) = true ∧ (0 ≤ (i : Int) ∧ (i : Int) < ((outL l.es x).length : Int)) ∧ cellsAt h3 ⟨b, off + (i : Int).toNat * 3, none⟩ [.int .i64 e.1, .int .i64 e.2.1, .int .i64 e.2.2] 0)
      (by as_aux_lemma => kernel_rfl) ⟨(by first | assumption | exact decide_eq_true (by first | omega | assumption)), ⟨by omega, by omega⟩, (by exact hpe)⟩ fun s_ => ?_
    refine Run.new #[.int .i64 0, .int .i64 0, .int .i64 0] 64 (fun g_ => .pointer (some ⟨g_, 0, none⟩)) (some 9) (at_ Tryz.f76 [1,1,0,1,2,3,1,1,0,2,0,8,3]) (by as_aux_lemma => kernel_rfl) fun g3 h4 hng3 hEg3 hBg3 => ?_
    refine Run.store g3 0 [.int .i64 e.1, .int .i64 e.2.1, .int .i64 e.2.2] (at_ Tryz.f76 [1,1,0,1,2,3,1,1,0,2,0,8,4]) (by as_aux_lemma => kernel_rfl) (hBg3.ext (Ext.refl _)) (by simp) rfl fun h5 hMh5 hzh5 (hBg3_h5 : Blk h5 g3 #[.int .i64 e.1, .int .i64 e.2.1, .int .i64 e.2.2] 64) => ?_
    have hE25 := (hMh5.ext_new (hE.trans hEg3) hng3 hE)
    have hE35 := (hMh5.ext_new hEg3 hng3 (Ext.refl _))
    by_cases e1 : e.2.1 = y
    · rw [if_pos e1] at hsn
      -- at 110123110211483
      refine Run.adv 13 [.val (.int .i64 e.2.1), .dec true, .val (.int .i64 e.2.2)] (at_ Tryz.f76 [1,1,0,1,2,3,1,1,0,2,1,1,4,8,3]) [(2, .int .i64 y), (7, .slice A4 m c4), (12, .slice (some ⟨b, off, none⟩) ((outL l.es x).length) c3), (13, .int .i64 ((outL l.es x).length : Int)), (14, .int .i64 (i : Int)), (22, .slice A4 m c4), (24, .int .i64 e.2.2)]
        (cellH h5 ⟨g3, 1, none⟩ = some (.int .i64 e.2.1) ∧ (e.2.1 == y) = true ∧ cellH h5 ⟨g3, 2, none⟩ = some (.int .i64 e.2.2))
        (by as_aux_lemma => kernel_rfl) ⟨(hBg3_h5.at (Ext.refl _) 1 rfl), (beq_iff_eq.2 (by first | omega | assumption)), (hBg3_h5.at (Ext.refl _) 2 rfl)⟩ fun s_ => ?_
      refine Run.new #[.int .i64 e.2.2] 3 (fun g_ => .slice (some ⟨g_, 0, none⟩) 1 1) (some 25) (at_ Tryz.f76 [1,1,0,1,2,3,1,1,0,2,1,1,4,8,4]) (by as_aux_lemma => kernel_rfl) fun g4 h6 hng4 hEg4 hBg4 => ?_
      refine Run.append (.slice A4 m c4) (.slice (some ⟨g4, 0, none⟩) 1 1) 3 (some 26) (at_ Tryz.f76 [1,1,0,1,2,3,1,1,0,2,1,1,4,8,5]) 1 8 (by as_aux_lemma => kernel_rfl) (by as_aux_lemma => kernel_rfl) (by decide) (hO.ext (hE35.trans hEg4)) (Src.row (hBg4.all (Ext.refl _)) rfl) (by rfl) rfl (by omega) fun A5 c5 h7 og5 hOA5 hMh7 hgA5 => ?_
      have hEh2_h7 := hMh7.ext ((hMh5.ext_new (hE.trans hEg3) hng3 hE).trans hEg4) (by exact hg)
      -- at 110127
      refine Run.adv 7 [] (at_ Tryz.f76 [1,1,0,1,2,7]) [(2, .int .i64 y), (7, .slice A5 (m + 1) c5), (12, .slice (some ⟨b, off, none⟩) ((outL l.es x).length) c3), (13, .int .i64 ((outL l.es x).length : Int)), (14, .int .i64 ((i + 1 : Nat) : Int))]
        ((-9223372036854775808 ≤ (i : Int) + 1 ∧ (i : Int) + 1 ≤ 9223372036854775807))
        (by as_aux_lemma => kernel_rfl) ⟨by omega, by omega⟩ fun s_ => ?_
      refine again (i + 1, A5, m + 1, c5) _ _ ⟨hlt, ?_, og5, ?_, hEh2_h7, fun g' e => ?_⟩ (by simp only; omega)
      · simp only; rw [hsn]; simp [hmm]
      · simp only; rw [hsn, List.map_append]; exact hOA5
      · have := hE25.size
        have := hEg4.size
        rcases hgA5 with rfl | rfl
        · exact hg g' e
        · cases e; omega
    · rw [if_neg e1] at hsn
      -- at 110127
      refine Run.adv 15 [.val (.int .i64 e.2.1), .dec false] (at_ Tryz.f76 [1,1,0,1,2,7]) [(2, .int .i64 y), (7, .slice A4 m c4), (12, .slice (some ⟨b, off, none⟩) ((outL l.es x).length) c3), (13, .int .i64 ((outL l.es x).length : Int)), (14, .int .i64 ((i + 1 : Nat) : Int))]
        (cellH h5 ⟨g3, 1, none⟩ = some (.int .i64 e.2.1) ∧ (e.2.1 == y) = false ∧ (-9223372036854775808 ≤ (i : Int) + 1 ∧ (i : Int) + 1 ≤ 9223372036854775807))
        (by as_aux_lemma => kernel_rfl) ⟨(hBg3_h5.at (Ext.refl _) 1 rfl), (beq_eq_false_iff_ne.2 (by first | omega | assumption)), ⟨by omega, by omega⟩⟩ fun s_ => ?_
      refine again (i + 1, A4, m, c4) _ _ ⟨hlt, ?_, og, ?_, hE25, hg⟩ (by simp only; omega)
      · simp only; rw [hsn]; exact hmm
      · simp only; rw [hsn]; exact hO.ext hE35
  · have hie : i = (outL l.es x).length := by omega
    -- at 1111
    refine Run.adv 12 [.dec false] (at_ Tryz.f76 [1,1,1,1]) [(6, .slice A4 m c4)]
      ((decide ((i : Int) < ((outL l.es x).length : Int))) = false)
      (by as_aux_lemma => kernel_rfl) (by first | assumption | exact decide_eq_false (by first | omega | assumption)) fun s_ => ?_
    refine Run.ret [] (.slice A4 m c4) (True) Tryz.func76 (by as_aux_lemma => kernel_rfl) (by as_aux_lemma => kernel_rfl) trivial ?_
    rw [hie, List.take_length] at hO hmm
    rw [show sucB (outL l.es x) y = succL l.es x y from (succL_out l.es x y).symm] at hO hmm
    subst hmm
    obtain ⟨A5, c5, hv, hr⟩ := hO.row1 (d := 0) (by rw [succL_out]; have := sucB_len (outL l.es x) y; unfold sucB at this; omega)
    exact ⟨A5, c5, hv, hr, (hEg1.trans hE2).trans hE⟩
theorem exists_apart (xss : List (List Int)) (s t : Int) : ∃ r, IsApart xss s t r := by
  by_cases h : ∃ i : Nat, i < xss.length ∧ ApartIn (rd2 xss i) s t
  · obtain ⟨i, hi, ha⟩ := h
    induction i using Nat.strongRecOn with
    | _ i ih =>
      by_cases h2 : ∃ j : Nat, j < i ∧ ApartIn (rd2 xss j) s t
      · obtain ⟨j, hj, hb⟩ := h2
        exact ih j hj (by omega) hb
      · exact ⟨i, .inr ⟨i, rfl, hi, ha, fun j hj hh => h2 ⟨j, hj, hh⟩⟩⟩
  · exact ⟨-1, .inl ⟨rfl, fun i hi hh => h ⟨i, hi, hh⟩⟩⟩
/-- The first list in which two nodes are apart. -/
noncomputable def apartI (xss : List (List Int)) (s t : Int) : Int := Classical.choose (exists_apart xss s t)
theorem apartI_is (xss : List (List Int)) (s t : Int) : IsApart xss s t (apartI xss s t) := Classical.choose_spec (exists_apart xss s t)
theorem apartI_eq {xss : List (List Int)} {s t r : Int} (h : IsApart xss s t r) : apartI xss s t = r := (apartI_is xss s t).unique h
theorem apartI_lo (xss : List (List Int)) (s t : Int) : -1 ≤ apartI xss s t ∧ apartI xss s t < xss.length := by
  rcases apartI_is xss s t with ⟨h, _⟩ | ⟨i, h, hi, _⟩ <;> omega
/-- When two nodes are first apart; never is latest. -/
noncomputable def lateI (xss : List (List Int)) (s t : Int) : Int := if apartI xss s t ≥ 0 then apartI xss s t else xss.length
theorem apartC (A : Option Addr) (c : Nat) (xss : List (List Int)) (x y : Int) (h : Heap) (hx : Rows2 h A xss c) :
    Ct Tryz.prog 42 #[.slice A xss.length c, .int .i64 x, .int .i64 y] h (fun v h' => v = .int .i64 (apartI xss x y) ∧ Ext h h') :=
  (apart_ct A c xss x y h hx).mono fun v h' ⟨r', a, b, e⟩ => ⟨by rw [a, apartI_eq b], e⟩
theorem refApart_ct (A : Option Addr) (c n : Nat) (xss : List (List Int)) (s t : Int) (h : Heap) (hx : Rows2 h A xss c) (hn : ∀ k : Nat, k < xss.length → (rd2 xss k).length = n) (hs : 0 ≤ s ∧ s < n) (ht : 0 ≤ t ∧ t < n) :
    Ct Tryz.prog 15 #[.slice A xss.length c, .int .i64 s, .int .i64 t] h (fun v h' => v = .int .i64 (apartI xss s t) ∧ h' = h) := by
  have hl := hx.len
  refine Ct.enter (args := [.slice A xss.length c, .int .i64 s, .int .i64 t]) Tryz.func15 rfl Tryz.ntmps15 (by simp) fun w hw => ?_
  -- at 1012
  refine Run.adv 10 [] (at_ Tryz.f15 [1,0,1,2]) [(0, .slice A xss.length c), (1, .int .i64 s), (2, .int .i64 t), (7, .int .i64 0)]
    (True)
    (by as_aux_lemma => kernel_rfl) trivial fun s_ => ?_
  obtain ⟨b, off, hA, hc, hAe, hr⟩ := hx.open_
  refine Run.loop (at_ Tryz.f15 [1,0,1,2,3]) (at_ Tryz.f15 [1,0,1,2,7]) (fun i : Nat => [(0, .slice A xss.length c), (1, .int .i64 s), (2, .int .i64 t), (7, .int .i64 (i : Int))])
    (fun i h' => h' = h ∧ i ≤ xss.length ∧ ∀ j : Nat, j < i → ¬ ApartIn (rd2 xss j) s t) (fun i => xss.length - i) 0 (by as_aux_lemma => kernel_rfl) rfl ?_ ?_
  · exact ⟨rfl, Nat.zero_le _, fun j hj => by omega⟩
  rintro i s_ h' ⟨rfl, hi, hI⟩ again
  by_cases hlt : i < xss.length
  · obtain rfl := hAe (by omega)
    obtain ⟨r1, r2⟩ := hr _ (Ext.refl _) i (by omega) (by omega)
    have hni := hn i hlt
    obtain ⟨b1, o1, hA1, hp1⟩ := r2.open_ (by omega)
    rw [hA1] at r1
    by_cases e5 : rd (rd2 xss (i : Int)) s = rd (rd2 xss (i : Int)) t
    · -- at 10127
      refine Run.adv 22 [.dec true, .draw, .val (.slice (some ⟨b1, o1, none⟩) ((rd2 xss (i : Int)).length) (hc (i : Int))), .val (.int .i64 (rd (rd2 xss (i : Int)) s)), .val (.slice (some ⟨b1, o1, none⟩) ((rd2 xss (i : Int)).length) (hc (i : Int))), .val (.int .i64 (rd (rd2 xss (i : Int)) t)), .dec false] (at_ Tryz.f15 [1,0,1,2,7]) [(0, .slice (some ⟨b, off, none⟩) xss.length c), (1, .int .i64 s), (2, .int .i64 t), (7, .int .i64 ((i + 1 : Nat) : Int))]
        ((decide ((i : Int) < (xss.length : Int))) = true ∧ LexOk (opsAt (at_ Tryz.f15 [1,0,1,2,3,1,0,2,0])) ∧ (0 ≤ (i : Int) ∧ (i : Int) < (xss.length : Int)) ∧ cellH h' ⟨b, off + (i : Int).toNat, none⟩ = some (.slice (some ⟨b1, o1, none⟩) ((rd2 xss (i : Int)).length) (hc (i : Int))) ∧ (0 ≤ s ∧ s < ((rd2 xss (i : Int)).length : Int)) ∧ cellH h' ⟨b1, o1 + s.toNat, none⟩ = some (.int .i64 (rd (rd2 xss (i : Int)) s)) ∧ (0 ≤ (i : Int) ∧ (i : Int) < (xss.length : Int)) ∧ cellH h' ⟨b, off + (i : Int).toNat, none⟩ = some (.slice (some ⟨b1, o1, none⟩) ((rd2 xss (i : Int)).length) (hc (i : Int))) ∧ (0 ≤ t ∧ t < ((rd2 xss (i : Int)).length : Int)) ∧ cellH h' ⟨b1, o1 + t.toNat, none⟩ = some (.int .i64 (rd (rd2 xss (i : Int)) t)) ∧ ((rd (rd2 xss (i : Int)) s) != (rd (rd2 xss (i : Int)) t)) = false ∧ (-9223372036854775808 ≤ (i : Int) + 1 ∧ (i : Int) + 1 ≤ 9223372036854775807))
        (by as_aux_lemma => kernel_rfl) ⟨(by first | assumption | exact decide_eq_true (by first | omega | assumption)), lx_15_101231020, ⟨by omega, by omega⟩, (r1), ⟨by omega, by omega⟩, (hp1 _ (Ext.refl _) s (by omega) (by omega)), ⟨by omega, by omega⟩, (r1), ⟨by omega, by omega⟩, (hp1 _ (Ext.refl _) t (by omega) (by omega)), (bne_eq_false_iff_eq.2 (by first | omega | assumption)), ⟨by omega, by omega⟩⟩ fun s_ => ?_
      refine again (i + 1) _ _ ⟨rfl, by omega, fun j hj => ?_⟩ (by omega)
      by_cases e2 : j = i
      · subst e2; exact fun hh => hh.2.2.2.2 e5
      · exact hI j (by omega)
    · -- at 10123102141
      refine Run.adv 20 [.dec true, .draw, .val (.slice (some ⟨b1, o1, none⟩) ((rd2 xss (i : Int)).length) (hc (i : Int))), .val (.int .i64 (rd (rd2 xss (i : Int)) s)), .val (.slice (some ⟨b1, o1, none⟩) ((rd2 xss (i : Int)).length) (hc (i : Int))), .val (.int .i64 (rd (rd2 xss (i : Int)) t)), .dec true] (at_ Tryz.f15 [1,0,1,2,3,1,0,2,1,4,1]) [(6, .int .i64 (i : Int))]
        ((decide ((i : Int) < (xss.length : Int))) = true ∧ LexOk (opsAt (at_ Tryz.f15 [1,0,1,2,3,1,0,2,0])) ∧ (0 ≤ (i : Int) ∧ (i : Int) < (xss.length : Int)) ∧ cellH h' ⟨b, off + (i : Int).toNat, none⟩ = some (.slice (some ⟨b1, o1, none⟩) ((rd2 xss (i : Int)).length) (hc (i : Int))) ∧ (0 ≤ s ∧ s < ((rd2 xss (i : Int)).length : Int)) ∧ cellH h' ⟨b1, o1 + s.toNat, none⟩ = some (.int .i64 (rd (rd2 xss (i : Int)) s)) ∧ (0 ≤ (i : Int) ∧ (i : Int) < (xss.length : Int)) ∧ cellH h' ⟨b, off + (i : Int).toNat, none⟩ = some (.slice (some ⟨b1, o1, none⟩) ((rd2 xss (i : Int)).length) (hc (i : Int))) ∧ (0 ≤ t ∧ t < ((rd2 xss (i : Int)).length : Int)) ∧ cellH h' ⟨b1, o1 + t.toNat, none⟩ = some (.int .i64 (rd (rd2 xss (i : Int)) t)) ∧ ((rd (rd2 xss (i : Int)) s) != (rd (rd2 xss (i : Int)) t)) = true)
        (by as_aux_lemma => kernel_rfl) ⟨(by first | assumption | exact decide_eq_true (by first | omega | assumption)), lx_15_101231020, ⟨by omega, by omega⟩, (r1), ⟨by omega, by omega⟩, (hp1 _ (Ext.refl _) s (by omega) (by omega)), ⟨by omega, by omega⟩, (r1), ⟨by omega, by omega⟩, (hp1 _ (Ext.refl _) t (by omega) (by omega)), (bne_iff_ne.2 (by first | omega | assumption))⟩ fun s_ => ?_
      refine Run.ret [] (.int .i64 (i : Int)) (True) Tryz.func15 (by as_aux_lemma => kernel_rfl) (by as_aux_lemma => kernel_rfl) trivial ?_
      refine ⟨?_, rfl⟩
      rw [apartI_eq (.inr ⟨i, rfl, hlt, ⟨hs.1, ht.1, by omega, by omega, e5⟩, hI⟩)]
  · -- at 111
    refine Run.adv 14 [.dec false] (at_ Tryz.f15 [1,1,1]) [(6, .int .i64 (-1))]
      ((decide ((i : Int) < (xss.length : Int))) = false)
      (by as_aux_lemma => kernel_rfl) (by first | assumption | exact decide_eq_false (by first | omega | assumption)) fun s_ => ?_
    refine Run.ret [] (.int .i64 (-1)) (True) Tryz.func15 (by as_aux_lemma => kernel_rfl) (by as_aux_lemma => kernel_rfl) trivial ?_
    exact ⟨by rw [apartI_eq (.inl ⟨rfl, fun j hj => hI j (by omega)⟩)], rfl⟩
/-- A board lies there: a system, and lists. -/
structure Board (h : Heap) (g : Nat) (l : Lt) (A1 : Option Addr) (c1 : Nat) (A2 : Option Addr) (c2 : Nat) (A : Option Addr) (c : Nat) (xss : List (List Int)) : Prop where
  blk : Blk h g #[.int .i64 l.n, .slice A1 l.ls.length c1, .slice A2 l.es.length c2, .slice A xss.length c] 86
  at_ : LtAt h l A1 c1 A2 c2
  rows : Rows2 h A xss c
theorem Board.ext {h h' : Heap} {g : Nat} {l : Lt} {A1 A2 A : Option Addr} {c1 c2 c : Nat} {xss : List (List Int)} (b : Board h g l A1 c1 A2 c2 A c xss) (E : Ext h h') : Board h' g l A1 c1 A2 c2 A c xss :=
  ⟨b.blk.ext E, b.at_.ext E, b.rows.ext E⟩
theorem late_ct (g : Nat) (A1 A2 A : Option Addr) (c1 c2 c : Nat) (l : Lt) (xss : List (List Int)) (s t : Int) (h : Heap) (hB : Board h g l A1 c1 A2 c2 A c xss) :
    Ct Tryz.prog 51 #[.pointer (some ⟨g, 0, none⟩), .int .i64 s, .int .i64 t] h (fun v h' => v = .int .i64 (lateI xss s t) ∧ Ext h h') := by
  have hBg := hB.blk
  refine Ct.enter (args := [.pointer (some ⟨g, 0, none⟩), .int .i64 s, .int .i64 t]) Tryz.func51 rfl Tryz.ntmps51 (by simp) fun w hw => ?_
  -- at 10086
  refine Run.adv 13 [.val (.slice A xss.length c)] (at_ Tryz.f51 [1,0,0,8,6]) [(0, .pointer (some ⟨g, 0, none⟩)), (1, .int .i64 s), (2, .int .i64 t), (6, .int .i64 0), (8, .pointer (some ⟨g, 0, none⟩)), (9, .pointer (some ⟨g, 0, none⟩)), (10, .pointer (some ⟨g, 3, none⟩)), (11, .slice A xss.length c), (12, .int .i64 s), (13, .int .i64 t)]
    (cellH h ⟨g, 3, none⟩ = some (.slice A xss.length c))
    (by as_aux_lemma => kernel_rfl) (hBg.at (Ext.refl _) 3 rfl) fun s_ => ?_
  refine Run.call 42 #[.slice A xss.length c, .int .i64 s, .int .i64 t] (some 14) (at_ Tryz.f51 [1,0,0,8,7]) (by as_aux_lemma => kernel_rfl) (apartC A c xss s t _ hB.rows) ?_
  rintro _ h1 ⟨rfl, hE1⟩
  by_cases e : apartI xss s t ≥ 0
  · -- at 101141
    refine Run.adv 13 [.dec true] (at_ Tryz.f51 [1,0,1,1,4,1]) [(6, .int .i64 (apartI xss s t))]
      ((decide (apartI xss s t ≥ 0)) = true)
      (by as_aux_lemma => kernel_rfl) (by first | assumption | exact decide_eq_true (by first | omega | assumption)) fun s_ => ?_
    refine Run.ret [] (.int .i64 (apartI xss s t)) (True) Tryz.func51 (by as_aux_lemma => kernel_rfl) (by as_aux_lemma => kernel_rfl) trivial ?_
    exact ⟨by unfold lateI; rw [if_pos e], hE1⟩
  · -- at 111
    refine Run.adv 18 [.dec false, .val (.slice A xss.length c)] (at_ Tryz.f51 [1,1,1]) [(6, .int .i64 (xss.length : Int))]
      ((decide (apartI xss s t ≥ 0)) = false ∧ cellH h1 ⟨g, 3, none⟩ = some (.slice A xss.length c))
      (by as_aux_lemma => kernel_rfl) ⟨(by first | assumption | exact decide_eq_false (by first | omega | assumption)), (hBg.at hE1 3 rfl)⟩ fun s_ => ?_
    refine Run.ret [] (.int .i64 (xss.length : Int)) (True) Tryz.func51 (by as_aux_lemma => kernel_rfl) (by as_aux_lemma => kernel_rfl) trivial ?_
    exact ⟨by unfold lateI; rw [if_neg e], hE1⟩
/-- The best reply among nodes. -/
noncomputable def bestS (xss : List (List Int)) (to best v : Int) : Int := if best < 0 ∨ lateI xss to best < lateI xss to v then v else best
noncomputable def bestL (xss : List (List Int)) (to : Int) (vs : List Int) : Int := vs.foldl (bestS xss to) (-1)
theorem bestL_snoc (xss : List (List Int)) (to v : Int) (vs : List Int) : bestL xss to (vs ++ [v]) = bestS xss to (bestL xss to vs) v := by
  unfold bestL; rw [List.foldl_append]; rfl
theorem take_rd (xs : List Int) (i : Nat) (hi : i < xs.length) : xs.take (i + 1) = xs.take i ++ [rd xs (i : Int)] := take_snoc 0 xs i hi
theorem reply_ct (g : Nat) (A1 A2 A : Option Addr) (c1 c2 c : Nat) (l : Lt) (xss : List (List Int)) (nd a lb to : Int) (h : Heap) (hB : Board h g l A1 c1 A2 c2 A c xss) (hm : May l) :
    Ct Tryz.prog 55 #[.pointer (some ⟨g, 0, none⟩), .int .i64 nd, .agg #[.int .i64 a, .int .i64 lb, .int .i64 to]] h (fun v h' => v = .int .i64 (bestL xss to (succL l.es nd lb)) ∧ Ext h h') := by
  have hBg := hB.blk
  have hlen := hm.len
  have hsl := succL_len l.es nd lb
  refine Ct.enter (args := [.pointer (some ⟨g, 0, none⟩), .int .i64 nd, .agg #[.int .i64 a, .int .i64 lb, .int .i64 to]]) Tryz.func55 rfl Tryz.ntmps55 (by simp) fun w hw => ?_
  -- at 080
  refine Run.adv 2 [] (at_ Tryz.f55 [0,8,0]) [(0, .pointer (some ⟨g, 0, none⟩)), (1, .int .i64 nd), (2, .agg #[.int .i64 a, .int .i64 lb, .int .i64 to])]
    (True)
    (by as_aux_lemma => kernel_rfl) trivial fun s_ => ?_
  refine Run.new #[.int .i64 a, .int .i64 lb, .int .i64 to] 64 (fun g_ => .pointer (some ⟨g_, 0, none⟩)) (some 5) (at_ Tryz.f55 [0,8,1]) (by as_aux_lemma => kernel_rfl) fun g1 h1 hng1 hEg1 hBg1 => ?_
  -- at 1100
  refine Run.adv 8 [] (at_ Tryz.f55 [1,1,0,0]) [(0, .pointer (some ⟨g, 0, none⟩)), (1, .int .i64 nd), (2, .agg #[.int .i64 a, .int .i64 lb, .int .i64 to]), (5, .pointer (some ⟨g1, 0, none⟩)), (6, .int .i64 0), (7, .int .i64 (-1))]
    (True)
    (by as_aux_lemma => kernel_rfl) trivial fun s_ => ?_
  refine Run.any (opsAt (at_ Tryz.f55 [1,1,0,0])) (at_ Tryz.f55 [1,1,0,1]) (fun H => Mod none h1 H) [0, 1, 2, 3, 4, 5, 6, 8, 9] [0, 1, 2, 3, 4, 5, 6, 9] [.val (.agg #[.int .i64 l.n, .slice A1 l.ls.length c1, .slice A2 l.es.length c2]), .val (.int .i64 lb)] #[true, true, true, true, true, true, true, false, false, true] [(0, .pointer (some ⟨g, 0, none⟩)), (1, .int .i64 nd), (2, .agg #[.int .i64 a, .int .i64 lb, .int .i64 to]), (5, .pointer (some ⟨g1, 0, none⟩)), (6, .int .i64 0), (7, .int .i64 (-1)), (10, .pointer (some ⟨g, 0, none⟩)), (11, .pointer (some ⟨g, 0, none⟩)), (12, .pointer (some ⟨g, 0, none⟩)), (13, .agg #[.int .i64 l.n, .slice A1 l.ls.length c1, .slice A2 l.es.length c2]), (14, .int .i64 nd), (15, .pointer (some ⟨g1, 1, none⟩)), (16, .int .i64 lb), (19, .int .i64 0)]
    (fun H => cellsAt H ⟨g, 0, none⟩ [.int .i64 l.n, .slice A1 l.ls.length c1, .slice A2 l.es.length c2] 0 ∧ cellH H ⟨g1, 1, none⟩ = some (.int .i64 lb)) 2 (by as_aux_lemma => kernel_rfl) (by as_aux_lemma => kernel_rfl) ((Ext.refl _).mod _)
    (by as_aux_lemma => kernel_rfl) (fun H hC => ⟨(cellsAt_row (hBg.ext (hEg1.trans hC.none_ext)) _ _ _ (fun j hj => match j, hj with | 0, _ => rfl | 1, _ => rfl | 2, _ => rfl | _ + 3, hj => absurd hj (by simp only [List.length_cons, List.length_nil]; omega))), (hBg1.at ((Ext.refl _).trans hC.none_ext) 1 rfl)⟩) fun s_ => ?_
  refine RunA.call 1 76 #[.agg #[.int .i64 l.n, .slice A1 l.ls.length c1, .slice A2 l.es.length c2], .int .i64 nd, .int .i64 lb] (some 17) false #[true, true, true, true, true, true, true, true, false, true] (by as_aux_lemma => kernel_rfl) (Suc_ct A1 A2 c1 c2 l nd lb _ (hB.at_.ext hEg1) hm) ?_
  rintro v h2 ⟨A3, c3, rfl, hr3, hE2⟩
  refine ⟨fun _ => (((Ext.refl _).mod _).trans (hE2.mod _)), ?_⟩
  refine RunA.adv [8] [] #[true, true, true, true, true, true, true, true, true, true] [(0, .pointer (some ⟨g, 0, none⟩)), (1, .int .i64 nd), (2, .agg #[.int .i64 a, .int .i64 lb, .int .i64 to]), (5, .pointer (some ⟨g1, 0, none⟩)), (6, .int .i64 0), (7, .int .i64 (-1)), (10, .pointer (some ⟨g, 0, none⟩)), (11, .pointer (some ⟨g, 0, none⟩)), (12, .pointer (some ⟨g, 0, none⟩)), (13, .agg #[.int .i64 l.n, .slice A1 l.ls.length c1, .slice A2 l.es.length c2]), (14, .int .i64 nd), (15, .pointer (some ⟨g1, 1, none⟩)), (16, .int .i64 lb), (17, .slice A3 ((succL l.es nd lb).length) c3), (18, .int .i64 ((succL l.es nd lb).length : Int)), (19, .int .i64 0)]
    (fun H => True) 0 (by as_aux_lemma => kernel_rfl) (((Ext.refl _).mod _).trans (hE2.mod _))
    (by as_aux_lemma => kernel_rfl) (fun H hC => trivial) fun s_ => ?_
  refine RunA.done [(0, .pointer (some ⟨g, 0, none⟩)), (1, .int .i64 nd), (2, .agg #[.int .i64 a, .int .i64 lb, .int .i64 to]), (5, .pointer (some ⟨g1, 0, none⟩)), (6, .int .i64 0), (7, .int .i64 (-1)), (10, .pointer (some ⟨g, 0, none⟩)), (11, .pointer (some ⟨g, 0, none⟩)), (12, .pointer (some ⟨g, 0, none⟩)), (13, .agg #[.int .i64 l.n, .slice A1 l.ls.length c1, .slice A2 l.es.length c2]), (14, .int .i64 nd), (15, .pointer (some ⟨g1, 1, none⟩)), (16, .int .i64 lb), (17, .slice A3 ((succL l.es nd lb).length) c3), (18, .int .i64 ((succL l.es nd lb).length : Int)), (19, .int .i64 0)] (by as_aux_lemma => kernel_rfl) (by as_aux_lemma => kernel_rfl) fun s_ => ?_
  have hE02 := hEg1.trans hE2
  -- at 11012
  refine Run.adv 1 [] (at_ Tryz.f55 [1,1,0,1,2]) [(0, .pointer (some ⟨g, 0, none⟩)), (5, .pointer (some ⟨g1, 0, none⟩)), (7, .int .i64 (-1)), (17, .slice A3 ((succL l.es nd lb).length) c3), (18, .int .i64 ((succL l.es nd lb).length : Int)), (19, .int .i64 0)]
    (True)
    (by as_aux_lemma => kernel_rfl) trivial fun s_ => ?_
  refine Run.loop (at_ Tryz.f55 [1,1,0,1,2,3]) (at_ Tryz.f55 [1,1,0,1,2,7]) (fun i : Nat => [(0, .pointer (some ⟨g, 0, none⟩)), (5, .pointer (some ⟨g1, 0, none⟩)), (7, .int .i64 (bestL xss to ((succL l.es nd lb).take i))), (17, .slice A3 ((succL l.es nd lb).length) c3), (18, .int .i64 ((succL l.es nd lb).length : Int)), (19, .int .i64 (i : Int))])
    (fun i h3 => i ≤ (succL l.es nd lb).length ∧ Ext h2 h3) (fun i => (succL l.es nd lb).length - i) 0 (by as_aux_lemma => kernel_rfl) rfl ?_ ?_
  · exact ⟨Nat.zero_le _, Ext.refl _⟩
  rintro i s_ h3 ⟨hi, hE⟩ again
  by_cases hlt : i < (succL l.es nd lb).length
  · obtain ⟨b, off, rfl, hp⟩ := hr3.open_ (by omega)
    have hsn := bestL_snoc xss to (rd (succL l.es nd lb) (i : Int)) ((succL l.es nd lb).take i)
    rw [← take_rd _ i hlt] at hsn
    generalize hv : rd (succL l.es nd lb) (i : Int) = v at hsn
    generalize bestL xss to ((succL l.es nd lb).take i) = best at hsn
    have hpe := hp _ hE (i : Int) (by omega) (by omega)
    rw [show (succL l.es nd lb).getD (i : Int).toNat 0 = v from hv] at hpe
    have hE03 := hE02.trans hE
    have hE13 := hE2.trans hE
    -- at 110123110210
    refine Run.adv 16 [.dec true, .val (.int .i64 v)] (at_ Tryz.f55 [1,1,0,1,2,3,1,1,0,2,1,0]) [(0, .pointer (some ⟨g, 0, none⟩)), (5, .pointer (some ⟨g1, 0, none⟩)), (7, .int .i64 best), (9, .int .i64 v), (17, .slice (some ⟨b, off, none⟩) ((succL l.es nd lb).length) c3), (18, .int .i64 ((succL l.es nd lb).length : Int)), (19, .int .i64 (i : Int))]
      ((decide ((i : Int) < ((succL l.es nd lb).length : Int))) = true ∧ (0 ≤ (i : Int) ∧ (i : Int) < ((succL l.es nd lb).length : Int)) ∧ cellH h3 ⟨b, off + (i : Int).toNat, none⟩ = some (.int .i64 v))
      (by as_aux_lemma => kernel_rfl) ⟨(by first | assumption | exact decide_eq_true (by first | omega | assumption)), ⟨by omega, by omega⟩, (by exact hpe)⟩ fun s_ => ?_
    by_cases e1 : best < 0
    · refine Run.drawE [.dec true, .lit, .lit, .lit, .lit, .lit, .lit, .lit, .lit, .lit, .lit] (at_ Tryz.f55 [1,1,0,1,2,3,1,1,0,2,1,1]) [(0, .pointer (some ⟨g, 0, none⟩)), (5, .pointer (some ⟨g1, 0, none⟩)), (7, .int .i64 best), (9, .int .i64 v), (17, .slice (some ⟨b, off, none⟩) ((succL l.es nd lb).length) c3), (18, .int .i64 ((succL l.es nd lb).length : Int)), (19, .int .i64 (i : Int)), (37, .bool true)]
        (fun H => LexOk (opsAt (at_ Tryz.f55 [1,1,0,1,2,3,1,1,0,2,1,0])) ∧ (decide (best < 0)) = true)
        (by as_aux_lemma => kernel_rfl) (fun H hH => ⟨lx_55_110123110210, (by first | assumption | exact decide_eq_true (by first | omega | assumption))⟩) fun H s_ hH => ?_
      -- at 110127
      refine Run.adv 10 [.lit] (at_ Tryz.f55 [1,1,0,1,2,7]) [(0, .pointer (some ⟨g, 0, none⟩)), (5, .pointer (some ⟨g1, 0, none⟩)), (7, .int .i64 v), (17, .slice (some ⟨b, off, none⟩) ((succL l.es nd lb).length) c3), (18, .int .i64 ((succL l.es nd lb).length : Int)), (19, .int .i64 ((i + 1 : Nat) : Int))]
        ((-9223372036854775808 ≤ (i : Int) + 1 ∧ (i : Int) + 1 ≤ 9223372036854775807))
        (by as_aux_lemma => kernel_rfl) ⟨by omega, by omega⟩ fun s_ => ?_
      have hb : bestS xss to best v = v := if_pos (.inl e1)
      rw [hb] at hsn
      rw [← hsn]
      exact again (i + 1) _ _ ⟨by omega, hE.trans hH⟩ (by omega)
    · by_cases e2 : lateI xss to best < lateI xss to v
      · refine Run.drawE [.dec false, .lit, .lit, .val (.int .i64 to), .lit, .lit, .val (.int .i64 (lateI xss to v)), .lit, .lit, .lit, .val (.int .i64 to), .lit, .lit, .val (.int .i64 (lateI xss to best)), .lit] (at_ Tryz.f55 [1,1,0,1,2,3,1,1,0,2,1,1]) [(0, .pointer (some ⟨g, 0, none⟩)), (5, .pointer (some ⟨g1, 0, none⟩)), (7, .int .i64 best), (9, .int .i64 v), (17, .slice (some ⟨b, off, none⟩) ((succL l.es nd lb).length) c3), (18, .int .i64 ((succL l.es nd lb).length : Int)), (19, .int .i64 (i : Int)), (37, .bool (decide (lateI xss to v > lateI xss to best)))]
          (fun H => LexOk (opsAt (at_ Tryz.f55 [1,1,0,1,2,3,1,1,0,2,1,0])) ∧ (decide (best < 0)) = false ∧ cellH H ⟨g1, 2, none⟩ = some (.int .i64 to) ∧ (Ct Tryz.prog 51 #[.pointer (some ⟨g, 0, none⟩), .int .i64 to, .int .i64 v] H (fun v_ h_ => v_ = .int .i64 (lateI xss to v) ∧ Ext H h_)) ∧ cellH H ⟨g1, 2, none⟩ = some (.int .i64 to) ∧ (Ct Tryz.prog 51 #[.pointer (some ⟨g, 0, none⟩), .int .i64 to, .int .i64 best] H (fun v_ h_ => v_ = .int .i64 (lateI xss to best) ∧ Ext H h_)))
          (by as_aux_lemma => kernel_rfl) (fun H hH => ⟨lx_55_110123110210, (by first | assumption | exact decide_eq_false (by first | omega | assumption)), (hBg1.at (hE13.trans hH) 2 rfl), (late_ct g A1 A2 A c1 c2 c l xss to v _ (hB.ext (hE03.trans hH))), (hBg1.at (hE13.trans hH) 2 rfl), (late_ct g A1 A2 A c1 c2 c l xss to best _ (hB.ext (hE03.trans hH)))⟩) fun H s_ hH => ?_
        -- at 110127
        refine Run.adv 10 [.dec true] (at_ Tryz.f55 [1,1,0,1,2,7]) [(0, .pointer (some ⟨g, 0, none⟩)), (5, .pointer (some ⟨g1, 0, none⟩)), (7, .int .i64 v), (17, .slice (some ⟨b, off, none⟩) ((succL l.es nd lb).length) c3), (18, .int .i64 ((succL l.es nd lb).length : Int)), (19, .int .i64 ((i + 1 : Nat) : Int))]
          ((decide (lateI xss to v > lateI xss to best)) = true ∧ (-9223372036854775808 ≤ (i : Int) + 1 ∧ (i : Int) + 1 ≤ 9223372036854775807))
          (by as_aux_lemma => kernel_rfl) ⟨(by first | assumption | exact decide_eq_true (by first | omega | assumption)), ⟨by omega, by omega⟩⟩ fun s_ => ?_
        have hb : bestS xss to best v = v := if_pos (.inr e2)
        rw [hb] at hsn
        rw [← hsn]
        exact again (i + 1) _ _ ⟨by omega, hE.trans hH⟩ (by omega)
      · refine Run.drawE [.dec false, .lit, .lit, .val (.int .i64 to), .lit, .lit, .val (.int .i64 (lateI xss to v)), .lit, .lit, .lit, .val (.int .i64 to), .lit, .lit, .val (.int .i64 (lateI xss to best)), .lit] (at_ Tryz.f55 [1,1,0,1,2,3,1,1,0,2,1,1]) [(0, .pointer (some ⟨g, 0, none⟩)), (5, .pointer (some ⟨g1, 0, none⟩)), (7, .int .i64 best), (9, .int .i64 v), (17, .slice (some ⟨b, off, none⟩) ((succL l.es nd lb).length) c3), (18, .int .i64 ((succL l.es nd lb).length : Int)), (19, .int .i64 (i : Int)), (37, .bool (decide (lateI xss to v > lateI xss to best)))]
          (fun H => LexOk (opsAt (at_ Tryz.f55 [1,1,0,1,2,3,1,1,0,2,1,0])) ∧ (decide (best < 0)) = false ∧ cellH H ⟨g1, 2, none⟩ = some (.int .i64 to) ∧ (Ct Tryz.prog 51 #[.pointer (some ⟨g, 0, none⟩), .int .i64 to, .int .i64 v] H (fun v_ h_ => v_ = .int .i64 (lateI xss to v) ∧ Ext H h_)) ∧ cellH H ⟨g1, 2, none⟩ = some (.int .i64 to) ∧ (Ct Tryz.prog 51 #[.pointer (some ⟨g, 0, none⟩), .int .i64 to, .int .i64 best] H (fun v_ h_ => v_ = .int .i64 (lateI xss to best) ∧ Ext H h_)))
          (by as_aux_lemma => kernel_rfl) (fun H hH => ⟨lx_55_110123110210, (by first | assumption | exact decide_eq_false (by first | omega | assumption)), (hBg1.at (hE13.trans hH) 2 rfl), (late_ct g A1 A2 A c1 c2 c l xss to v _ (hB.ext (hE03.trans hH))), (hBg1.at (hE13.trans hH) 2 rfl), (late_ct g A1 A2 A c1 c2 c l xss to best _ (hB.ext (hE03.trans hH)))⟩) fun H s_ hH => ?_
        -- at 110127
        refine Run.adv 7 [.dec false] (at_ Tryz.f55 [1,1,0,1,2,7]) [(0, .pointer (some ⟨g, 0, none⟩)), (5, .pointer (some ⟨g1, 0, none⟩)), (7, .int .i64 best), (17, .slice (some ⟨b, off, none⟩) ((succL l.es nd lb).length) c3), (18, .int .i64 ((succL l.es nd lb).length : Int)), (19, .int .i64 ((i + 1 : Nat) : Int))]
          ((decide (lateI xss to v > lateI xss to best)) = false ∧ (-9223372036854775808 ≤ (i : Int) + 1 ∧ (i : Int) + 1 ≤ 9223372036854775807))
          (by as_aux_lemma => kernel_rfl) ⟨(by first | assumption | exact decide_eq_false (by first | omega | assumption)), ⟨by omega, by omega⟩⟩ fun s_ => ?_
        have hb : bestS xss to best v = best := if_neg (fun hh => hh.elim e1 e2)
        rw [hb] at hsn
        rw [← hsn]
        exact again (i + 1) _ _ ⟨by omega, hE.trans hH⟩ (by omega)
  · have hie : i = (succL l.es nd lb).length := by omega
    -- at 1111
    refine Run.adv 12 [.dec false] (at_ Tryz.f55 [1,1,1,1]) [(6, .int .i64 (bestL xss to ((succL l.es nd lb).take i)))]
      ((decide ((i : Int) < ((succL l.es nd lb).length : Int))) = false)
      (by as_aux_lemma => kernel_rfl) (by first | assumption | exact decide_eq_false (by first | omega | assumption)) fun s_ => ?_
    refine Run.ret [] (.int .i64 (bestL xss to ((succL l.es nd lb).take i))) (True) Tryz.func55 (by as_aux_lemma => kernel_rfl) (by as_aux_lemma => kernel_rfl) trivial ?_
    rw [hie, List.take_length]
    exact ⟨rfl, hE02.trans hE⟩
end Go.Proofs.YtbajgbkkbabmlaaGreatDoor
