/- GameReplies, walked. -/
import Derived.Test.YtbajgbkkbabmlaaGreatDoorProg
import Derived.Test.YtbajgbkkbabmlaaGreatDoorO8
set_option linter.unusedVariables false
namespace Go.Proofs.YtbajgbkkbabmlaaGreatDoor
open Go.Vc

theorem mayB_yes {l : Lt} (h : May l) : mayB l = true := tv_yes h
theorem mayB_no {l : Lt} (h : ¬ May l) : mayB l = false := tv_no h
theorem small33 {l : Lt} (h : Light33 l) (hm : May l) : l.n ≤ 16 := by
  rcases h.2.1 with e | e
  · exact e
  · have := hm.n2; omega
theorem levs_bound {es : List Ed} {n m : Nat} (hn : n ≤ 140737488351232) : ∀ xs ∈ levs es n m, xs.length ≤ 140737488351232 := by
  intro xs h
  unfold levs at h
  obtain ⟨k, -, rfl⟩ := List.mem_map.1 h
  rw [lev_len]; exact hn
theorem levs_rows {es : List Ed} {n m : Nat} : ∀ k : Nat, k < (levs es n m).length → (rd2 (levs es n m) k).length = n := fun k hk => by
  rw [levs_len] at hk
  rw [show rd2 (levs es n m) (k : Int) = lev es n k from levs_at (by omega), lev_len]
theorem inR2 {l : Lt} {s t : Int} (hs : 0 ≤ s ∧ s < l.n) (ht : 0 ≤ t ∧ t < l.n) : InR l [s, t] := fun j hj => by
  match j, hj with
  | 0, _ => exact hs
  | 1, _ => exact ht
theorem inR3 {l : Lt} {s t u : Int} (hs : 0 ≤ s ∧ s < l.n) (ht : 0 ≤ t ∧ t < l.n) (hu : 0 ≤ u ∧ u < l.n) : InR l [s, t, u] := fun j hj => by
  match j, hj with
  | 0, _ => exact hs
  | 1, _ => exact ht
  | 2, _ => exact hu
theorem replyAny_ct (A1 A2 : Option Addr) (c1 c2 : Nat) (l : Lt) (s t lb to : Int) (h : Heap) (hx : LtAt h l A1 c1 A2 c2) (hT : Tab h) (hm : May l) (hs : 0 ≤ s ∧ s < l.n) (ht : 0 ≤ t ∧ t < l.n) (n m : Nat) (hn : l.n = (n : Int)) (hS : Stop l.es n m) :
    Ct Tryz.prog 28 #[.agg #[.int .i64 l.n, .slice A1 l.ls.length c1, .slice A2 l.es.length c2], .int .i64 s, .int .i64 t, .int .i64 lb, .int .i64 to] h
      (fun v h' => v = .int .i64 (replyL l (levs l.es n m) s t lb to) ∧ Ext h h') := by
  by_cases hu : 0 ≤ to ∧ to < l.n
  · exact Reply_ct A1 A2 c1 c2 l s t lb to h hx hT hm (inR3 hs ht hu) n m hn hS
  · have hz : replyL l (levs l.es n m) s t lb to = -1 := by
      unfold replyL
      rw [if_neg]
      intro he
      have := may_edge hm he
      unfold EdgeMay at this
      simp only at this
      exact hu ⟨this.2.2.1, this.2.2.2.1⟩
    rw [hz]
    exact ReplyNo_ct A1 A2 c1 c2 l s t lb to h hx (by have := hm.ls.1; omega) hT (fun hh => hu (hh.2 2 (by simp)))
set_option maxHeartbeats 1000000 in
theorem GameReplies_ct (A1 A2 : Option Addr) (c1 c2 : Nat) (l : Lt) (s t : Int) (h : Heap) (hx : LtAt h l A1 c1 A2 c2) (hT : Tab h) :
    Ct Tryz.prog 6 #[.agg #[.int .i64 l.n, .slice A1 l.ls.length c1, .slice A2 l.es.length c2], .int .i64 s, .int .i64 t] h (fun v h' => v = .bool true ∧ Ext h h') := by
  refine Ct.enter (args := [.agg #[.int .i64 l.n, .slice A1 l.ls.length c1, .slice A2 l.es.length c2], .int .i64 s, .int .i64 t]) Tryz.func6 rfl Tryz.ntmps6 (by simp) fun w hw => ?_
  -- at 080
  refine Run.adv 2 [] (at_ Tryz.f6 [0,8,0]) [(0, .agg #[.int .i64 l.n, .slice A1 l.ls.length c1, .slice A2 l.es.length c2]), (1, .int .i64 s), (2, .int .i64 t)]
    (True)
    (by as_aux_lemma => kernel_rfl) trivial fun s_ => ?_
  refine Run.new #[.int .i64 l.n, .slice A1 l.ls.length c1, .slice A2 l.es.length c2] 25 (fun g_ => .pointer (some ⟨g_, 0, none⟩)) (some 3) (at_ Tryz.f6 [0,8,1]) (by as_aux_lemma => kernel_rfl) fun g1 h1 hng1 hEg1 hBg1 => ?_
  -- at 10081
  refine Run.adv 6 [.val (.agg #[.int .i64 l.n, .slice A1 l.ls.length c1, .slice A2 l.es.length c2])] (at_ Tryz.f6 [1,0,0,8,1]) [(0, .agg #[.int .i64 l.n, .slice A1 l.ls.length c1, .slice A2 l.es.length c2]), (1, .int .i64 s), (2, .int .i64 t), (3, .pointer (some ⟨g1, 0, none⟩)), (6, .bool false), (11, .agg #[.int .i64 l.n, .slice A1 l.ls.length c1, .slice A2 l.es.length c2])]
    (cellsAt h1 ⟨g1, 0, none⟩ [.int .i64 l.n, .slice A1 l.ls.length c1, .slice A2 l.es.length c2] 0)
    (by as_aux_lemma => kernel_rfl) (hBg1.all (Ext.refl _)) fun s_ => ?_
  refine Run.call 23 #[.agg #[.int .i64 l.n, .slice A1 l.ls.length c1, .slice A2 l.es.length c2]] (some 12) (at_ Tryz.f6 [1,0,0,8,2]) (by as_aux_lemma => kernel_rfl) (Light33_ct A1 A2 c1 c2 l _ (hx.ext hEg1)) ?_
  rintro _ h2 ⟨rfl, hE2⟩
  have hE02 := hEg1.trans hE2
  by_cases hS : Light33 l
  rotate_left
  · rw [tv_no hS]
    -- at 1014080
    refine Run.adv 5 [.lit] (at_ Tryz.f6 [1,0,1,4,0,8,0]) [(1, .int .i64 s)]
      (True)
      (by as_aux_lemma => kernel_rfl) trivial fun s_ => ?_
    refine Run.call 24 #[] (some 14) (at_ Tryz.f6 [1,0,1,4,0,8,1]) (by as_aux_lemma => kernel_rfl) (awake58_ct _ (hT.ext hE02)) ?_
    rintro _ h3 ⟨rfl, hE3⟩
    -- at 10141
    refine Run.adv 2 [] (at_ Tryz.f6 [1,0,1,4,1]) [(6, .bool true)]
      (True)
      (by as_aux_lemma => kernel_rfl) trivial fun s_ => ?_
    refine Run.ret [] (.bool true) (True) Tryz.func6 (by as_aux_lemma => kernel_rfl) (by as_aux_lemma => kernel_rfl) trivial ?_
    exact ⟨rfl, ((hEg1.trans hE2).trans hE3)⟩
  rw [tv_yes hS]
  have hl8 := hS.2.2.2
  -- at 110081
  refine Run.adv 8 [.lit, .val (.agg #[.int .i64 l.n, .slice A1 l.ls.length c1, .slice A2 l.es.length c2])] (at_ Tryz.f6 [1,1,0,0,8,1]) [(1, .int .i64 s), (2, .int .i64 t), (3, .pointer (some ⟨g1, 0, none⟩)), (15, .agg #[.int .i64 l.n, .slice A1 l.ls.length c1, .slice A2 l.es.length c2])]
    (cellsAt h2 ⟨g1, 0, none⟩ [.int .i64 l.n, .slice A1 l.ls.length c1, .slice A2 l.es.length c2] 0)
    (by as_aux_lemma => kernel_rfl) (hBg1.all hE2) fun s_ => ?_
  refine Run.call 14 #[.agg #[.int .i64 l.n, .slice A1 l.ls.length c1, .slice A2 l.es.length c2]] (some 16) (at_ Tryz.f6 [1,1,0,0,8,2]) (by as_aux_lemma => kernel_rfl) (May_ct A1 A2 c1 c2 l _ (hx.ext hE02)) ?_
  rintro _ h3 ⟨rfl, hE3⟩
  have hE03 := hE02.trans hE3
  have hE13 := hE2.trans hE3
  have tail : ¬ (May l ∧ (0 ≤ s ∧ s < l.n) ∧ (0 ≤ t ∧ t < l.n)) → ∀ f : Env, Run Tryz.prog 6 102 (at_ Tryz.f6 [1,1,0,1,4,0]) (kn [(1, .int .i64 s), (2, .int .i64 t), (3, .pointer (some ⟨g1, 0, none⟩))] f) h3 (w, false) (fun v h' => v = .bool true ∧ Ext h h') := by
    intro hno f
    -- at 11014083
    refine Run.adv 4 [.val (.agg #[.int .i64 l.n, .slice A1 l.ls.length c1, .slice A2 l.es.length c2])] (at_ Tryz.f6 [1,1,0,1,4,0,8,3]) [(38, .agg #[.int .i64 l.n, .slice A1 l.ls.length c1, .slice A2 l.es.length c2]), (39, .int .i64 s), (40, .int .i64 t)]
      (cellsAt h3 ⟨g1, 0, none⟩ [.int .i64 l.n, .slice A1 l.ls.length c1, .slice A2 l.es.length c2] 0)
      (by as_aux_lemma => kernel_rfl) (hBg1.all hE13) fun s_ => ?_
    refine Run.call 28 #[.agg #[.int .i64 l.n, .slice A1 l.ls.length c1, .slice A2 l.es.length c2], .int .i64 s, .int .i64 t, .int .i64 0, .int .i64 0] (some 41) (at_ Tryz.f6 [1,1,0,1,4,0,8,4]) (by as_aux_lemma => kernel_rfl) (ReplyNo_ct A1 A2 c1 c2 l s t 0 0 _ (hx.ext hE03) (by omega) (hT.ext hE03) (fun hh => hno ⟨hh.1, hh.2 0 (by simp), hh.2 1 (by simp)⟩)) ?_
    rintro _ h4 ⟨rfl, hE4⟩
    -- at 11014086
    refine Run.adv 2 [] (at_ Tryz.f6 [1,1,0,1,4,0,8,6]) [(43, .bool true)]
      (True)
      (by as_aux_lemma => kernel_rfl) trivial fun s_ => ?_
    refine Run.call 24 #[] (some 44) (at_ Tryz.f6 [1,1,0,1,4,0,8,7]) (by as_aux_lemma => kernel_rfl) (awake58_ct _ (hT.ext (hE03.trans hE4))) ?_
    rintro _ h5 ⟨rfl, hE5⟩
    -- at 110141
    refine Run.adv 3 [] (at_ Tryz.f6 [1,1,0,1,4,1]) [(6, .bool true)]
      (True)
      (by as_aux_lemma => kernel_rfl) trivial fun s_ => ?_
    refine Run.ret [] (.bool true) (True) Tryz.func6 (by as_aux_lemma => kernel_rfl) (by as_aux_lemma => kernel_rfl) trivial ?_
    exact ⟨rfl, (hE03.trans hE4).trans hE5⟩
  by_cases hm : May l
  rotate_left
  · rw [mayB_no hm]
    -- at 110140
    refine Run.adv 24 [.lit, .lit, .lit, .lit, .lit, .lit, .lit, .lit, .lit, .lit, .lit, .lit, .lit] (at_ Tryz.f6 [1,1,0,1,4,0]) [(1, .int .i64 s), (2, .int .i64 t), (3, .pointer (some ⟨g1, 0, none⟩))]
      (True)
      (by as_aux_lemma => kernel_rfl) trivial fun s_ => ?_
    exact tail (fun hh => hm hh.1) _
  rw [mayB_yes hm]
  by_cases e1 : s < 0
  · -- at 110140
    refine Run.adv 24 [.lit, .lit, .dec true, .lit, .lit, .lit, .lit, .lit, .lit, .lit, .lit, .lit, .lit] (at_ Tryz.f6 [1,1,0,1,4,0]) [(1, .int .i64 s), (2, .int .i64 t), (3, .pointer (some ⟨g1, 0, none⟩))]
      ((decide (s < 0)) = true)
      (by as_aux_lemma => kernel_rfl) (by first | assumption | exact decide_eq_true (by first | omega | assumption)) fun s_ => ?_
    exact tail (fun hh => by omega) _
  by_cases e2 : s ≥ l.n
  · -- at 110140
    refine Run.adv 24 [.lit, .lit, .dec false, .lit, .lit, .val (.int .i64 l.n), .lit, .dec true, .lit, .lit, .lit, .lit, .lit, .lit] (at_ Tryz.f6 [1,1,0,1,4,0]) [(1, .int .i64 s), (2, .int .i64 t), (3, .pointer (some ⟨g1, 0, none⟩))]
      ((decide (s < 0)) = false ∧ cellH h3 ⟨g1, 0, none⟩ = some (.int .i64 l.n) ∧ (decide (s ≥ l.n)) = true)
      (by as_aux_lemma => kernel_rfl) ⟨(by first | assumption | exact decide_eq_false (by first | omega | assumption)), (hBg1.at (hE2.trans hE3) 0 rfl), (by first | assumption | exact decide_eq_true (by first | omega | assumption))⟩ fun s_ => ?_
    exact tail (fun hh => by omega) _
  by_cases e3 : t < 0
  · -- at 110140
    refine Run.adv 24 [.lit, .lit, .dec false, .lit, .lit, .val (.int .i64 l.n), .lit, .dec false, .lit, .dec true, .lit, .lit, .lit, .lit] (at_ Tryz.f6 [1,1,0,1,4,0]) [(1, .int .i64 s), (2, .int .i64 t), (3, .pointer (some ⟨g1, 0, none⟩))]
      ((decide (s < 0)) = false ∧ cellH h3 ⟨g1, 0, none⟩ = some (.int .i64 l.n) ∧ (decide (s ≥ l.n)) = false ∧ (decide (t < 0)) = true)
      (by as_aux_lemma => kernel_rfl) ⟨(by first | assumption | exact decide_eq_false (by first | omega | assumption)), (hBg1.at (hE2.trans hE3) 0 rfl), (by first | assumption | exact decide_eq_false (by first | omega | assumption)), (by first | assumption | exact decide_eq_true (by first | omega | assumption))⟩ fun s_ => ?_
    exact tail (fun hh => by omega) _
  by_cases e4 : t ≥ l.n
  · -- at 110140
    refine Run.adv 24 [.lit, .lit, .dec false, .lit, .lit, .val (.int .i64 l.n), .lit, .dec false, .lit, .dec false, .lit, .lit, .val (.int .i64 l.n), .lit, .dec true] (at_ Tryz.f6 [1,1,0,1,4,0]) [(1, .int .i64 s), (2, .int .i64 t), (3, .pointer (some ⟨g1, 0, none⟩))]
      ((decide (s < 0)) = false ∧ cellH h3 ⟨g1, 0, none⟩ = some (.int .i64 l.n) ∧ (decide (s ≥ l.n)) = false ∧ (decide (t < 0)) = false ∧ cellH h3 ⟨g1, 0, none⟩ = some (.int .i64 l.n) ∧ (decide (t ≥ l.n)) = true)
      (by as_aux_lemma => kernel_rfl) ⟨(by first | assumption | exact decide_eq_false (by first | omega | assumption)), (hBg1.at (hE2.trans hE3) 0 rfl), (by first | assumption | exact decide_eq_false (by first | omega | assumption)), (by first | assumption | exact decide_eq_false (by first | omega | assumption)), (hBg1.at (hE2.trans hE3) 0 rfl), (by first | assumption | exact decide_eq_true (by first | omega | assumption))⟩ fun s_ => ?_
    exact tail (fun hh => by omega) _
  have hn16 := small33 hS hm
  have hn1 := hm.n1
  obtain ⟨n, hn⟩ := Int.eq_ofNat_of_zero_le (show 0 ≤ l.n by omega)
  have hs : 0 ≤ s ∧ s < l.n := ⟨by omega, by omega⟩
  have ht : 0 ≤ t ∧ t < l.n := ⟨by omega, by omega⟩
  have hlen := hm.len
  -- at 111081
  refine Run.adv 27 [.lit, .lit, .dec false, .lit, .lit, .val (.int .i64 l.n), .lit, .dec false, .lit, .dec false, .lit, .lit, .val (.int .i64 l.n), .lit, .dec false, .val (.agg #[.int .i64 l.n, .slice A1 l.ls.length c1, .slice A2 l.es.length c2])] (at_ Tryz.f6 [1,1,1,0,8,1]) [(1, .int .i64 s), (2, .int .i64 t), (3, .pointer (some ⟨g1, 0, none⟩)), (46, .agg #[.int .i64 l.n, .slice A1 l.ls.length c1, .slice A2 l.es.length c2])]
    ((decide (s < 0)) = false ∧ cellH h3 ⟨g1, 0, none⟩ = some (.int .i64 l.n) ∧ (decide (s ≥ l.n)) = false ∧ (decide (t < 0)) = false ∧ cellH h3 ⟨g1, 0, none⟩ = some (.int .i64 l.n) ∧ (decide (t ≥ l.n)) = false ∧ cellsAt h3 ⟨g1, 0, none⟩ [.int .i64 l.n, .slice A1 l.ls.length c1, .slice A2 l.es.length c2] 0)
    (by as_aux_lemma => kernel_rfl) ⟨(by first | assumption | exact decide_eq_false (by first | omega | assumption)), (hBg1.at (hE2.trans hE3) 0 rfl), (by first | assumption | exact decide_eq_false (by first | omega | assumption)), (by first | assumption | exact decide_eq_false (by first | omega | assumption)), (hBg1.at (hE2.trans hE3) 0 rfl), (by first | assumption | exact decide_eq_false (by first | omega | assumption)), (hBg1.all (hE2.trans hE3))⟩ fun s_ => ?_
  refine Run.call 16 #[.agg #[.int .i64 l.n, .slice A1 l.ls.length c1, .slice A2 l.es.length c2]] (some 47) (at_ Tryz.f6 [1,1,1,0,8,2]) (by as_aux_lemma => kernel_rfl) (lofRef_ct A1 A2 c1 c2 l n _ (hx.ext hE03) hm hn) ?_
  rintro v h4 ⟨m, og4, vs4, hS4, hO4, hN4, hE4⟩
  have hmn := hS4.lt (by omega)
  have hll := levs_len l.es n m
  obtain ⟨A4, c4, rfl, hr4⟩ := hO4.rows2 hN4 (by omega) (levs_bound (by omega))
  have hE04 := hE03.trans hE4
  have hE14 := hE13.trans hE4
  -- at 1111012
  refine Run.adv 8 [] (at_ Tryz.f6 [1,1,1,1,0,1,2]) [(1, .int .i64 s), (2, .int .i64 t), (3, .pointer (some ⟨g1, 0, none⟩)), (7, .slice A4 ((levs l.es n m).length) c4), (8, .int .i64 (-1))]
    (True)
    (by as_aux_lemma => kernel_rfl) trivial fun s_ => ?_
  refine Run.loop (at_ Tryz.f6 [1,1,1,1,0,1,2,3]) (at_ Tryz.f6 [1,1,1,1,0,1,2,7]) (fun lb : Int => [(1, .int .i64 s), (2, .int .i64 t), (3, .pointer (some ⟨g1, 0, none⟩)), (7, .slice A4 ((levs l.es n m).length) c4), (8, .int .i64 lb)])
    (fun lb h5 => -1 ≤ lb ∧ lb ≤ l.ls.length + 1 ∧ Ext h4 h5) (fun lb => ((l.ls.length : Int) + 1 - lb).toNat) (-1) (by as_aux_lemma => kernel_rfl) rfl ?_ ?_
  · exact ⟨by omega, by omega, Ext.refl _⟩
  rintro lb s_ h5 ⟨hb1, hb2, hE5⟩ again
  have hE15 := hE14.trans hE5
  have hE05 := hE04.trans hE5
  by_cases hlt : lb ≤ l.ls.length
  · -- at 1111012310212
    refine Run.adv 18 [.val (.slice A1 l.ls.length c1), .dec true] (at_ Tryz.f6 [1,1,1,1,0,1,2,3,1,0,2,1,2]) [(1, .int .i64 s), (2, .int .i64 t), (3, .pointer (some ⟨g1, 0, none⟩)), (7, .slice A4 ((levs l.es n m).length) c4), (8, .int .i64 lb), (9, .int .i64 (-1))]
      (cellH h5 ⟨g1, 1, none⟩ = some (.slice A1 l.ls.length c1) ∧ (decide (lb ≤ (l.ls.length : Int))) = true)
      (by as_aux_lemma => kernel_rfl) ⟨(hBg1.at hE15 1 rfl), (by first | assumption | exact decide_eq_true (by first | omega | assumption))⟩ fun s_ => ?_
    refine Run.loop (at_ Tryz.f6 [1,1,1,1,0,1,2,3,1,0,2,1,2,3]) (at_ Tryz.f6 [1,1,1,1,0,1,2,3,1,0,2,1,2,7]) (fun to : Int => [(1, .int .i64 s), (2, .int .i64 t), (3, .pointer (some ⟨g1, 0, none⟩)), (7, .slice A4 ((levs l.es n m).length) c4), (8, .int .i64 lb), (9, .int .i64 to)])
      (fun to h6 => -1 ≤ to ∧ to ≤ l.n + 1 ∧ Ext h5 h6) (fun to => (l.n + 1 - to).toNat) (-1) (by as_aux_lemma => kernel_rfl) rfl ?_ ?_
    · exact ⟨by omega, by omega, Ext.refl _⟩
    rintro to s_ h6 ⟨ht1, ht2, hE6⟩ again2
    have hE16 := hE15.trans hE6
    have hE06 := hE05.trans hE6
    by_cases hlt2 : to ≤ l.n
    · -- at 11110123102123102085
      refine Run.adv 19 [.val (.int .i64 l.n), .dec true, .val (.agg #[.int .i64 l.n, .slice A1 l.ls.length c1, .slice A2 l.es.length c2])] (at_ Tryz.f6 [1,1,1,1,0,1,2,3,1,0,2,1,2,3,1,0,2,0,8,5]) [(1, .int .i64 s), (2, .int .i64 t), (3, .pointer (some ⟨g1, 0, none⟩)), (7, .slice A4 ((levs l.es n m).length) c4), (8, .int .i64 lb), (9, .int .i64 to), (61, .agg #[.int .i64 l.n, .slice A1 l.ls.length c1, .slice A2 l.es.length c2]), (62, .int .i64 s), (63, .int .i64 t), (64, .int .i64 lb), (65, .int .i64 to)]
        (cellH h6 ⟨g1, 0, none⟩ = some (.int .i64 l.n) ∧ (decide (to ≤ l.n)) = true ∧ cellsAt h6 ⟨g1, 0, none⟩ [.int .i64 l.n, .slice A1 l.ls.length c1, .slice A2 l.es.length c2] 0)
        (by as_aux_lemma => kernel_rfl) ⟨(hBg1.at hE16 0 rfl), (by first | assumption | exact decide_eq_true (by first | omega | assumption)), (hBg1.all hE16)⟩ fun s_ => ?_
      refine Run.call 28 #[.agg #[.int .i64 l.n, .slice A1 l.ls.length c1, .slice A2 l.es.length c2], .int .i64 s, .int .i64 t, .int .i64 lb, .int .i64 to] (some 66) (at_ Tryz.f6 [1,1,1,1,0,1,2,3,1,0,2,1,2,3,1,0,2,0,8,6]) (by as_aux_lemma => kernel_rfl) (replyAny_ct A1 A2 c1 c2 l s t lb to _ (hx.ext hE06) (hT.ext hE06) hm hs ht n m hn hS4) ?_
      rintro _ h7 ⟨rfl, hE7⟩
      have hE07 := hE06.trans hE7
      obtain ⟨r, hr⟩ : ∃ r, replyL l (levs l.es n m) s t lb to = r := ⟨_, rfl⟩
      rw [hr]
      -- at 1111012310212310210084
      refine Run.adv 9 [.val (.agg #[.int .i64 l.n, .slice A1 l.ls.length c1, .slice A2 l.es.length c2])] (at_ Tryz.f6 [1,1,1,1,0,1,2,3,1,0,2,1,2,3,1,0,2,1,0,0,8,4]) [(1, .int .i64 s), (2, .int .i64 t), (3, .pointer (some ⟨g1, 0, none⟩)), (7, .slice A4 ((levs l.es n m).length) c4), (8, .int .i64 lb), (9, .int .i64 to), (10, .int .i64 r), (61, .agg #[.int .i64 l.n, .slice A1 l.ls.length c1, .slice A2 l.es.length c2]), (62, .int .i64 s), (63, .int .i64 t), (64, .int .i64 lb), (65, .int .i64 to), (66, .int .i64 r), (67, .agg #[.int .i64 l.n, .slice A1 l.ls.length c1, .slice A2 l.es.length c2]), (68, .int .i64 s), (69, .int .i64 lb), (70, .int .i64 to)]
        (cellsAt h7 ⟨g1, 0, none⟩ [.int .i64 l.n, .slice A1 l.ls.length c1, .slice A2 l.es.length c2] 0)
        (by as_aux_lemma => kernel_rfl) (hBg1.all (hE16.trans hE7)) fun s_ => ?_
      refine Run.call 29 #[.agg #[.int .i64 l.n, .slice A1 l.ls.length c1, .slice A2 l.es.length c2], .int .i64 s, .int .i64 lb, .int .i64 to] (some 71) (at_ Tryz.f6 [1,1,1,1,0,1,2,3,1,0,2,1,2,3,1,0,2,1,0,0,8,5]) (by as_aux_lemma => kernel_rfl) (Has_ct A1 A2 c1 c2 l s lb to _ (hx.ext hE07) hlen) ?_
      rintro _ h8 ⟨rfl, hE8⟩
      have hE08 := hE07.trans hE8
      by_cases he : (s, lb, to) ∈ l.es
      rotate_left
      · rw [tv_no he]
        have hr1 : r = -1 := by rw [← hr]; unfold replyL; rw [if_neg he]
        rw [hr1]
        -- at 11110123102127
        refine Run.adv 17 [.lit, .lit] (at_ Tryz.f6 [1,1,1,1,0,1,2,3,1,0,2,1,2,7]) [(1, .int .i64 s), (2, .int .i64 t), (3, .pointer (some ⟨g1, 0, none⟩)), (7, .slice A4 ((levs l.es n m).length) c4), (8, .int .i64 lb), (9, .int .i64 (to + 1))]
          ((-9223372036854775808 ≤ to + 1 ∧ to + 1 ≤ 9223372036854775807))
          (by as_aux_lemma => kernel_rfl) ⟨by omega, by omega⟩ fun s_ => ?_
        exact again2 (to + 1) _ _ ⟨by omega, by omega, (hE6.trans hE7).trans hE8⟩ (by omega)
      rw [tv_yes he]
      have hem := may_edge hm he
      unfold EdgeMay at hem
      simp only at hem
      have hrb : r = bestL (levs l.es n m) to (succL l.es t lb) := by rw [← hr]; unfold replyL; rw [if_pos he]
      -- at 1111012310212310211086
      refine Run.adv 12 [.lit, .val (.agg #[.int .i64 l.n, .slice A1 l.ls.length c1, .slice A2 l.es.length c2])] (at_ Tryz.f6 [1,1,1,1,0,1,2,3,1,0,2,1,2,3,1,0,2,1,1,0,8,6]) [(1, .int .i64 s), (2, .int .i64 t), (3, .pointer (some ⟨g1, 0, none⟩)), (7, .slice A4 ((levs l.es n m).length) c4), (8, .int .i64 lb), (9, .int .i64 to), (10, .int .i64 r), (61, .agg #[.int .i64 l.n, .slice A1 l.ls.length c1, .slice A2 l.es.length c2]), (62, .int .i64 s), (63, .int .i64 t), (64, .int .i64 lb), (65, .int .i64 to), (66, .int .i64 r), (67, .agg #[.int .i64 l.n, .slice A1 l.ls.length c1, .slice A2 l.es.length c2]), (68, .int .i64 s), (69, .int .i64 lb), (70, .int .i64 to), (71, .bool true), (72, .bool false), (75, .int .i64 r), (76, .agg #[.int .i64 l.n, .slice A1 l.ls.length c1, .slice A2 l.es.length c2]), (77, .slice A4 ((levs l.es n m).length) c4), (78, .int .i64 t), (79, .int .i64 lb), (80, .int .i64 to)]
        (cellsAt h8 ⟨g1, 0, none⟩ [.int .i64 l.n, .slice A1 l.ls.length c1, .slice A2 l.es.length c2] 0)
        (by as_aux_lemma => kernel_rfl) (hBg1.all ((hE16.trans hE7).trans hE8)) fun s_ => ?_
      refine Run.call 30 #[.agg #[.int .i64 l.n, .slice A1 l.ls.length c1, .slice A2 l.es.length c2], .slice A4 ((levs l.es n m).length) c4, .int .i64 t, .int .i64 lb, .int .i64 to] (some 81) (at_ Tryz.f6 [1,1,1,1,0,1,2,3,1,0,2,1,2,3,1,0,2,1,1,0,8,7]) (by as_aux_lemma => kernel_rfl) (refReply_ct A1 A2 A4 c1 c2 c4 n l (levs l.es n m) t lb to _ (hx.ext hE08) (hr4.ext (((hE5.trans hE6).trans hE7).trans hE8)) hm hn levs_rows (by omega)) ?_
      rintro _ h9 ⟨rfl, hE9⟩
      rw [← hrb]
      have hE49 := (((hE5.trans hE6).trans hE7).trans hE8).trans hE9
      have hne : (r != r) = false := by simp
      by_cases ha : apartI (levs l.es n m) s t < 0
      · obtain ⟨k1, k2, k3⟩ := reply_keeps hm hn hS4 (by omega) (by omega) ha he
        rw [← hrb] at k1 k2 k3
        -- at 11110123102127
        refine Run.adv 28 [.dec false, .lit, .lit, .lit, .val (.int .i64 (apartI (levs l.es n m) s t)), .lit, .lit, .dec true, .lit, .lit, .dec false, .lit, .lit, .lit, .val (.int .i64 (apartI (levs l.es n m) to r)), .lit, .lit, .lit, .dec false] (at_ Tryz.f6 [1,1,1,1,0,1,2,3,1,0,2,1,2,7]) [(1, .int .i64 s), (2, .int .i64 t), (3, .pointer (some ⟨g1, 0, none⟩)), (7, .slice A4 ((levs l.es n m).length) c4), (8, .int .i64 lb), (9, .int .i64 (to + 1))]
          ((r != r) = false ∧ (Ct Tryz.prog 15 #[.slice A4 ((levs l.es n m).length) c4, .int .i64 s, .int .i64 t] h9 (fun v_ h_ => v_ = .int .i64 (apartI (levs l.es n m) s t) ∧ h_ = h9)) ∧ (decide (apartI (levs l.es n m) s t < 0)) = true ∧ (decide (r < 0)) = false ∧ (Ct Tryz.prog 15 #[.slice A4 ((levs l.es n m).length) c4, .int .i64 to, .int .i64 r] h9 (fun v_ h_ => v_ = .int .i64 (apartI (levs l.es n m) to r) ∧ h_ = h9)) ∧ (decide (apartI (levs l.es n m) to r ≥ 0)) = false ∧ (-9223372036854775808 ≤ to + 1 ∧ to + 1 ≤ 9223372036854775807))
          (by as_aux_lemma => kernel_rfl) ⟨(hne), (refApart_ct A4 c4 n (levs l.es n m) s t _ (hr4.ext hE49) levs_rows (by omega) (by omega)), (by first | assumption | exact decide_eq_true (by first | omega | assumption)), (by first | assumption | exact decide_eq_false (by first | omega | assumption)), (refApart_ct A4 c4 n (levs l.es n m) to r _ (hr4.ext hE49) levs_rows (by omega) (by omega)), (by first | assumption | exact decide_eq_false (by first | omega | assumption)), ⟨by omega, by omega⟩⟩ fun s_ => ?_
        exact again2 (to + 1) _ _ ⟨by omega, by omega, ((hE6.trans hE7).trans hE8).trans hE9⟩ (by omega)
      · -- at 11110123102127
        refine Run.adv 28 [.dec false, .lit, .lit, .lit, .val (.int .i64 (apartI (levs l.es n m) s t)), .lit, .lit, .dec false, .lit, .lit, .off, .off, .off, .off, .off, .lit, .lit, .lit] (at_ Tryz.f6 [1,1,1,1,0,1,2,3,1,0,2,1,2,7]) [(1, .int .i64 s), (2, .int .i64 t), (3, .pointer (some ⟨g1, 0, none⟩)), (7, .slice A4 ((levs l.es n m).length) c4), (8, .int .i64 lb), (9, .int .i64 (to + 1))]
          ((r != r) = false ∧ (Ct Tryz.prog 15 #[.slice A4 ((levs l.es n m).length) c4, .int .i64 s, .int .i64 t] h9 (fun v_ h_ => v_ = .int .i64 (apartI (levs l.es n m) s t) ∧ h_ = h9)) ∧ (decide (apartI (levs l.es n m) s t < 0)) = false ∧ (-9223372036854775808 ≤ to + 1 ∧ to + 1 ≤ 9223372036854775807))
          (by as_aux_lemma => kernel_rfl) ⟨(hne), (refApart_ct A4 c4 n (levs l.es n m) s t _ (hr4.ext hE49) levs_rows (by omega) (by omega)), (by first | assumption | exact decide_eq_false (by first | omega | assumption)), ⟨by omega, by omega⟩⟩ fun s_ => ?_
        exact again2 (to + 1) _ _ ⟨by omega, by omega, ((hE6.trans hE7).trans hE8).trans hE9⟩ (by omega)
    · -- at 11110127
      refine Run.adv 16 [.val (.int .i64 l.n), .dec false] (at_ Tryz.f6 [1,1,1,1,0,1,2,7]) [(1, .int .i64 s), (2, .int .i64 t), (3, .pointer (some ⟨g1, 0, none⟩)), (7, .slice A4 ((levs l.es n m).length) c4), (8, .int .i64 (lb + 1))]
        (cellH h6 ⟨g1, 0, none⟩ = some (.int .i64 l.n) ∧ (decide (to ≤ l.n)) = false ∧ (-9223372036854775808 ≤ lb + 1 ∧ lb + 1 ≤ 9223372036854775807))
        (by as_aux_lemma => kernel_rfl) ⟨(hBg1.at hE16 0 rfl), (by first | assumption | exact decide_eq_false (by first | omega | assumption)), ⟨by omega, by omega⟩⟩ fun s_ => ?_
      exact again (lb + 1) _ _ ⟨by omega, by omega, hE5.trans hE6⟩ (by omega)
  · -- at 11111080
    refine Run.adv 13 [.val (.slice A1 l.ls.length c1), .dec false] (at_ Tryz.f6 [1,1,1,1,1,0,8,0]) [(1, .int .i64 s)]
      (cellH h5 ⟨g1, 1, none⟩ = some (.slice A1 l.ls.length c1) ∧ (decide (lb ≤ (l.ls.length : Int))) = false)
      (by as_aux_lemma => kernel_rfl) ⟨(hBg1.at hE15 1 rfl), (by first | assumption | exact decide_eq_false (by first | omega | assumption))⟩ fun s_ => ?_
    refine Run.call 24 #[] (some 101) (at_ Tryz.f6 [1,1,1,1,1,0,8,1]) (by as_aux_lemma => kernel_rfl) (awake58_ct _ (hT.ext hE05)) ?_
    rintro _ h8 ⟨rfl, hE8⟩
    -- at 111111
    refine Run.adv 2 [] (at_ Tryz.f6 [1,1,1,1,1,1]) [(6, .bool true)]
      (True)
      (by as_aux_lemma => kernel_rfl) trivial fun s_ => ?_
    refine Run.ret [] (.bool true) (True) Tryz.func6 (by as_aux_lemma => kernel_rfl) (by as_aux_lemma => kernel_rfl) trivial ?_
    exact ⟨rfl, hE05.trans hE8⟩
end Go.Proofs.YtbajgbkkbabmlaaGreatDoor
