/- bisim.Has, GameWins, walked. -/
import Derived.Test.YtbajgbkkbabmlaaGreatDoorProg
import Derived.Test.YtbajgbkkbabmlaaGreatDoorO18
set_option linter.unusedVariables false
namespace Go.Proofs.YtbajgbkkbabmlaaGreatDoor
open Go.Vc

theorem HasB_ct (A1 A2 : Option Addr) (c1 c2 n m0 : Nat) (l : Lt) (s t : Int) (h : Heap) (hx : LtAt h l A1 c1 A2 c2) (hm : May l) (hn : l.n = (n : Int)) (hS : Stop l.es n m0) :
    Ct Tryz.prog 39 #[.agg #[.int .i64 l.n, .slice A1 l.ls.length c1, .slice A2 l.es.length c2], .int .i64 s, .int .i64 t] h (fun v h' => v = .bool (tv (Tog l n m0 (s, t))) ∧ Ext h h') := by
  refine Ct.enter (args := [.agg #[.int .i64 l.n, .slice A1 l.ls.length c1, .slice A2 l.es.length c2], .int .i64 s, .int .i64 t]) Tryz.func39 rfl Tryz.ntmps39 (by simp) fun w hw => ?_
  -- at 080
  refine Run.adv 2 [] (at_ Tryz.f39 [0,8,0]) [(0, .agg #[.int .i64 l.n, .slice A1 l.ls.length c1, .slice A2 l.es.length c2]), (1, .int .i64 s), (2, .int .i64 t)]
    (True)
    (by as_aux_lemma => kernel_rfl) trivial fun s_ => ?_
  refine Run.new #[.int .i64 l.n, .slice A1 l.ls.length c1, .slice A2 l.es.length c2] 25 (fun g_ => .pointer (some ⟨g_, 0, none⟩)) (some 3) (at_ Tryz.f39 [0,8,1]) (by as_aux_lemma => kernel_rfl) fun g1 h1 hng1 hEg1 hBg1 => ?_
  -- at 1081
  refine Run.adv 5 [.val (.agg #[.int .i64 l.n, .slice A1 l.ls.length c1, .slice A2 l.es.length c2])] (at_ Tryz.f39 [1,0,8,1]) [(0, .agg #[.int .i64 l.n, .slice A1 l.ls.length c1, .slice A2 l.es.length c2]), (1, .int .i64 s), (2, .int .i64 t), (3, .pointer (some ⟨g1, 0, none⟩)), (6, .bool false), (10, .agg #[.int .i64 l.n, .slice A1 l.ls.length c1, .slice A2 l.es.length c2])]
    (cellsAt h1 ⟨g1, 0, none⟩ [.int .i64 l.n, .slice A1 l.ls.length c1, .slice A2 l.es.length c2] 0)
    (by as_aux_lemma => kernel_rfl) (hBg1.all (Ext.refl _)) fun s_ => ?_
  refine Run.call 62 #[.agg #[.int .i64 l.n, .slice A1 l.ls.length c1, .slice A2 l.es.length c2]] (some 11) (at_ Tryz.f39 [1,0,8,2]) (by as_aux_lemma => kernel_rfl) (Greatest_ct A1 A2 c1 c2 n m0 l _ (hx.ext hEg1) hm hn hS) ?_
  rintro v h2 ⟨A, c, ws, rfl, hw, hwl, hk, hE2⟩
  -- at 11084
  refine Run.adv 12 [] (at_ Tryz.f39 [1,1,0,8,4]) [(0, .agg #[.int .i64 l.n, .slice A1 l.ls.length c1, .slice A2 l.es.length c2]), (1, .int .i64 s), (2, .int .i64 t), (3, .pointer (some ⟨g1, 0, none⟩)), (6, .bool false), (7, .slice A ws.length c), (8, .int .i64 0), (9, .tuple #[.slice A ws.length c, .int .i64 0]), (10, .agg #[.int .i64 l.n, .slice A1 l.ls.length c1, .slice A2 l.es.length c2]), (11, .tuple #[.slice A ws.length c, .int .i64 0]), (12, .slice A ws.length c), (13, .int .i64 0), (14, .slice A ws.length c), (15, .int .i64 s), (16, .int .i64 t), (17, .agg #[.int .i64 s, .int .i64 t])]
    (True)
    (by as_aux_lemma => kernel_rfl) trivial fun s_ => ?_
  refine Run.call 63 #[.slice A ws.length c, .agg #[.int .i64 s, .int .i64 t]] (some 18) (at_ Tryz.f39 [1,1,0,8,5]) (by as_aux_lemma => kernel_rfl) (containsP_ct A c ws s t _ hw hwl) ?_
  rintro _ h3 ⟨rfl, hE3⟩
  -- at 111
  refine Run.adv 2 [] (at_ Tryz.f39 [1,1,1]) [(6, .bool (tv ((s, t) ∈ ws)))]
    (True)
    (by as_aux_lemma => kernel_rfl) trivial fun s_ => ?_
  refine Run.ret [] (.bool (tv ((s, t) ∈ ws))) (True) Tryz.func39 (by as_aux_lemma => kernel_rfl) (by as_aux_lemma => kernel_rfl) trivial ?_
  refine ⟨?_, (hEg1.trans hE2).trans hE3⟩
  congr 1
  rw [Bool.eq_iff_iff, tv_iff, tv_iff, hk]
set_option maxHeartbeats 1000000 in
theorem GameWins_ct (A1 A2 : Option Addr) (c1 c2 : Nat) (l : Lt) (s t : Int) (h : Heap) (hx : LtAt h l A1 c1 A2 c2) (hT : Tab h) :
    Ct Tryz.prog 9 #[.agg #[.int .i64 l.n, .slice A1 l.ls.length c1, .slice A2 l.es.length c2], .int .i64 s, .int .i64 t] h (fun v h' => v = .bool true ∧ Ext h h') := by
  refine Ct.enter (args := [.agg #[.int .i64 l.n, .slice A1 l.ls.length c1, .slice A2 l.es.length c2], .int .i64 s, .int .i64 t]) Tryz.func9 rfl Tryz.ntmps9 (by simp) fun w hw => ?_
  -- at 080
  refine Run.adv 2 [] (at_ Tryz.f9 [0,8,0]) [(0, .agg #[.int .i64 l.n, .slice A1 l.ls.length c1, .slice A2 l.es.length c2]), (1, .int .i64 s), (2, .int .i64 t)]
    (True)
    (by as_aux_lemma => kernel_rfl) trivial fun s_ => ?_
  refine Run.new #[.int .i64 l.n, .slice A1 l.ls.length c1, .slice A2 l.es.length c2] 25 (fun g_ => .pointer (some ⟨g_, 0, none⟩)) (some 3) (at_ Tryz.f9 [0,8,1]) (by as_aux_lemma => kernel_rfl) fun g1 h1 hng1 hEg1 hBg1 => ?_
  -- at 10081
  refine Run.adv 6 [.val (.agg #[.int .i64 l.n, .slice A1 l.ls.length c1, .slice A2 l.es.length c2])] (at_ Tryz.f9 [1,0,0,8,1]) [(0, .agg #[.int .i64 l.n, .slice A1 l.ls.length c1, .slice A2 l.es.length c2]), (1, .int .i64 s), (2, .int .i64 t), (3, .pointer (some ⟨g1, 0, none⟩)), (6, .bool false), (12, .agg #[.int .i64 l.n, .slice A1 l.ls.length c1, .slice A2 l.es.length c2])]
    (cellsAt h1 ⟨g1, 0, none⟩ [.int .i64 l.n, .slice A1 l.ls.length c1, .slice A2 l.es.length c2] 0)
    (by as_aux_lemma => kernel_rfl) (hBg1.all (Ext.refl _)) fun s_ => ?_
  refine Run.call 23 #[.agg #[.int .i64 l.n, .slice A1 l.ls.length c1, .slice A2 l.es.length c2]] (some 13) (at_ Tryz.f9 [1,0,0,8,2]) (by as_aux_lemma => kernel_rfl) (Light33_ct A1 A2 c1 c2 l _ (hx.ext hEg1)) ?_
  rintro _ h2 ⟨rfl, hE2⟩
  have hE02 := hEg1.trans hE2
  by_cases hS : Light33 l
  rotate_left
  · rw [tv_no hS]
    -- at 1014080
    refine Run.adv 5 [.lit] (at_ Tryz.f9 [1,0,1,4,0,8,0]) [(1, .int .i64 s)]
      (True)
      (by as_aux_lemma => kernel_rfl) trivial fun s_ => ?_
    refine Run.call 24 #[] (some 15) (at_ Tryz.f9 [1,0,1,4,0,8,1]) (by as_aux_lemma => kernel_rfl) (awake58_ct _ (hT.ext hE02)) ?_
    rintro _ h3 ⟨rfl, hE3⟩
    -- at 10141
    refine Run.adv 2 [] (at_ Tryz.f9 [1,0,1,4,1]) [(6, .bool true)]
      (True)
      (by as_aux_lemma => kernel_rfl) trivial fun s_ => ?_
    refine Run.ret [] (.bool true) (True) Tryz.func9 (by as_aux_lemma => kernel_rfl) (by as_aux_lemma => kernel_rfl) trivial ?_
    exact ⟨rfl, ((hEg1.trans hE2).trans hE3)⟩
  rw [tv_yes hS]
  have hl8 := hS.2.2.2
  -- at 11083
  refine Run.adv 9 [.lit, .val (.agg #[.int .i64 l.n, .slice A1 l.ls.length c1, .slice A2 l.es.length c2])] (at_ Tryz.f9 [1,1,0,8,3]) [(1, .int .i64 s), (2, .int .i64 t), (3, .pointer (some ⟨g1, 0, none⟩)), (17, .agg #[.int .i64 l.n, .slice A1 l.ls.length c1, .slice A2 l.es.length c2]), (18, .int .i64 s), (19, .int .i64 t)]
    (cellsAt h2 ⟨g1, 0, none⟩ [.int .i64 l.n, .slice A1 l.ls.length c1, .slice A2 l.es.length c2] 0)
    (by as_aux_lemma => kernel_rfl) (hBg1.all hE2) fun s_ => ?_
  by_cases hG : May l ∧ InR l [s, t]
  rotate_left
  · refine Run.call 25 #[.agg #[.int .i64 l.n, .slice A1 l.ls.length c1, .slice A2 l.es.length c2], .int .i64 s, .int .i64 t] (some 20) (at_ Tryz.f9 [1,1,0,8,4]) (by as_aux_lemma => kernel_rfl) (PlayNo_ct A1 A2 c1 c2 l s t _ (hx.ext hE02) (by omega) (hT.ext hE02) hG) ?_
    rintro _ h3 ⟨rfl, hE3⟩
    have hE03 := hE02.trans hE3
    -- at 111014080
    refine Run.adv 15 [.lit] (at_ Tryz.f9 [1,1,1,0,1,4,0,8,0]) [(1, .int .i64 s)]
      (True)
      (by as_aux_lemma => kernel_rfl) trivial fun s_ => ?_
    refine Run.call 24 #[] (some 25) (at_ Tryz.f9 [1,1,1,0,1,4,0,8,1]) (by as_aux_lemma => kernel_rfl) (awake58_ct _ (hT.ext hE03)) ?_
    rintro _ h4 ⟨rfl, hE4⟩
    -- at 1110141
    refine Run.adv 2 [] (at_ Tryz.f9 [1,1,1,0,1,4,1]) [(6, .bool true)]
      (True)
      (by as_aux_lemma => kernel_rfl) trivial fun s_ => ?_
    refine Run.ret [] (.bool true) (True) Tryz.func9 (by as_aux_lemma => kernel_rfl) (by as_aux_lemma => kernel_rfl) trivial ?_
    exact ⟨rfl, hE03.trans hE4⟩
  obtain ⟨hm, hR⟩ := hG
  have hs : 0 ≤ s ∧ s < l.n := hR 0 (by simp)
  have ht : 0 ≤ t ∧ t < l.n := hR 1 (by simp)
  have hn16 := small33 hS hm
  have hn1 := hm.n1
  obtain ⟨n, hn⟩ := Int.eq_ofNat_of_zero_le (show 0 ≤ l.n by omega)
  obtain ⟨m, hSt⟩ := exists_stop l.es n (by omega)
  have hmn := hSt.lt (by omega)
  have hll := levs_len l.es n m
  obtain ⟨sn, rfl⟩ := Int.eq_ofNat_of_zero_le hs.1
  obtain ⟨tn, rfl⟩ := Int.eq_ofNat_of_zero_le ht.1
  obtain ⟨k, b1, b2, b3, b4, b5, b6⟩ := late_nat (l := l) (n := n) (m := m) (s := sn) (t := tn) (by omega) (by omega)
  have htg := tog_apart (m := m) hm hn (s := sn) (t := tn) (by omega) (by omega)
  have hpl : ∃ q : Nat, (playL l (levs l.es n m) (levs l.es n m).length sn tn).length = q ∧ (∀ i : Nat, i < q → (((playL l (levs l.es n m) (levs l.es n m).length sn tn).getD i (0, ByteArray.empty, 0, 0)).2.2.2 < 0 ↔ i = q - 1)) ∧ ((k ≤ m ∧ q = k ∧ apartI (levs l.es n m) sn tn = k ∧ ¬ Tog l n m (sn, tn)) ∨ (q = 0 ∧ apartI (levs l.es n m) sn tn = -1 ∧ Tog l n m (sn, tn))) := by
    by_cases hkm : k ≤ m
    · obtain ⟨p1, p2⟩ := play_rounds hm hn k (levs l.es n m).length sn tn (by omega) (by omega) b1 hkm (by omega)
      rw [if_pos hkm] at b6
      exact ⟨k, p1, p2, .inl ⟨hkm, rfl, b6, fun hh => by have := htg.1 hh; omega⟩⟩
    · rw [if_neg hkm] at b6
      refine ⟨0, ?_, fun i hi => by omega, .inr ⟨rfl, b6, htg.2 (by omega)⟩⟩
      rw [playL_off (fun hh => by have := hh.2.2; omega)]
      rfl
  obtain ⟨q, hq1, hq2, hq3⟩ := hpl
  refine Run.call 25 #[.agg #[.int .i64 l.n, .slice A1 l.ls.length c1, .slice A2 l.es.length c2], .int .i64 (sn : Int), .int .i64 (tn : Int)] (some 20) (at_ Tryz.f9 [1,1,0,8,4]) (by as_aux_lemma => kernel_rfl) (Play_ct A1 A2 c1 c2 l sn tn _ (hx.ext hE02) (hT.ext hE02) hm hR n m hn hSt) ?_
  rintro v h3 ⟨A3, c3, rfl, hr3, hE3⟩
  have hE03 := hE02.trans hE3
  generalize playL l (levs l.es n m) (levs l.es n m).length (sn : Int) (tn : Int) = rs at *
  -- at 1111083
  refine Run.adv 19 [.lit, .val (.agg #[.int .i64 l.n, .slice A1 l.ls.length c1, .slice A2 l.es.length c2])] (at_ Tryz.f9 [1,1,1,1,0,8,3]) [(1, .int .i64 (sn : Int)), (2, .int .i64 (tn : Int)), (3, .pointer (some ⟨g1, 0, none⟩)), (7, .slice A3 rs.length c3), (8, .int .i64 0), (16, .tuple #[.slice A3 rs.length c3, .int .i64 0]), (17, .agg #[.int .i64 l.n, .slice A1 l.ls.length c1, .slice A2 l.es.length c2]), (18, .int .i64 (sn : Int)), (19, .int .i64 (tn : Int)), (20, .tuple #[.slice A3 rs.length c3, .int .i64 0]), (21, .slice A3 rs.length c3), (22, .int .i64 0), (23, .int .i64 0), (24, .bool false), (27, .agg #[.int .i64 l.n, .slice A1 l.ls.length c1, .slice A2 l.es.length c2]), (28, .int .i64 (sn : Int)), (29, .int .i64 (tn : Int))]
    (cellsAt h3 ⟨g1, 0, none⟩ [.int .i64 l.n, .slice A1 l.ls.length c1, .slice A2 l.es.length c2] 0)
    (by as_aux_lemma => kernel_rfl) (hBg1.all (hE2.trans hE3)) fun s_ => ?_
  refine Run.call 26 #[.agg #[.int .i64 l.n, .slice A1 l.ls.length c1, .slice A2 l.es.length c2], .int .i64 (sn : Int), .int .i64 (tn : Int)] (some 30) (at_ Tryz.f9 [1,1,1,1,0,8,4]) (by as_aux_lemma => kernel_rfl) (Rounds_ct A1 A2 c1 c2 l sn tn _ (hx.ext hE03) (hT.ext hE03) hm hR n m hn hSt) ?_
  rintro _ h4 ⟨rfl, hE4⟩
  have hE04 := hE03.trans hE4
  -- at 111110086
  refine Run.adv 15 [.lit, .val (.agg #[.int .i64 l.n, .slice A1 l.ls.length c1, .slice A2 l.es.length c2]), .lit, .lit] (at_ Tryz.f9 [1,1,1,1,1,0,0,8,6]) [(1, .int .i64 (sn : Int)), (2, .int .i64 (tn : Int)), (3, .pointer (some ⟨g1, 0, none⟩)), (7, .slice A3 rs.length c3), (8, .int .i64 0), (9, .int .i64 (apartI (levs l.es n m) (sn : Int) (tn : Int))), (10, .int .i64 0), (16, .tuple #[.slice A3 rs.length c3, .int .i64 0]), (17, .agg #[.int .i64 l.n, .slice A1 l.ls.length c1, .slice A2 l.es.length c2]), (18, .int .i64 (sn : Int)), (19, .int .i64 (tn : Int)), (20, .tuple #[.slice A3 rs.length c3, .int .i64 0]), (21, .slice A3 rs.length c3), (22, .int .i64 0), (23, .int .i64 0), (24, .bool false), (26, .tuple #[.int .i64 (apartI (levs l.es n m) (sn : Int) (tn : Int)), .int .i64 0]), (27, .agg #[.int .i64 l.n, .slice A1 l.ls.length c1, .slice A2 l.es.length c2]), (28, .int .i64 (sn : Int)), (29, .int .i64 (tn : Int)), (30, .tuple #[.int .i64 (apartI (levs l.es n m) (sn : Int) (tn : Int)), .int .i64 0]), (31, .int .i64 (apartI (levs l.es n m) (sn : Int) (tn : Int))), (32, .int .i64 0), (33, .int .i64 0), (34, .bool false), (35, .bool false), (36, .agg #[.int .i64 l.n, .slice A1 l.ls.length c1, .slice A2 l.es.length c2]), (37, .int .i64 (sn : Int)), (38, .int .i64 (tn : Int))]
    (cellsAt h4 ⟨g1, 0, none⟩ [.int .i64 l.n, .slice A1 l.ls.length c1, .slice A2 l.es.length c2] 0)
    (by as_aux_lemma => kernel_rfl) (hBg1.all ((hE2.trans hE3).trans hE4)) fun s_ => ?_
  refine Run.call 39 #[.agg #[.int .i64 l.n, .slice A1 l.ls.length c1, .slice A2 l.es.length c2], .int .i64 (sn : Int), .int .i64 (tn : Int)] (some 39) (at_ Tryz.f9 [1,1,1,1,1,0,0,8,7]) (by as_aux_lemma => kernel_rfl) (HasB_ct A1 A2 c1 c2 n m l sn tn _ (hx.ext hE04) hm hn hSt) ?_
  rintro _ h5 ⟨rfl, hE5⟩
  have hE05 := hE04.trans hE5
  have hr5 := hr3.ext (hE4.trans hE5)
  have hrl : rs.length ≤ 2048 := by omega
  generalize apartI (levs l.es n m) (sn : Int) (tn : Int) = ap at *
  have hgo : (tv (Tog l n m ((sn : Int), (tn : Int))) == ((rs.length : Int) == 0)) = true := by
    rcases hq3 with ⟨h1, h2, h3, h4⟩ | ⟨h1, h2, h3⟩
    · rw [tv_no h4, hq1]; simp; omega
    · rw [tv_yes h3, hq1, h1]; rfl
  have hd : ∀ b : Bool, tv (Tog l n m ((sn : Int), (tn : Int))) = b → (!(b == ((rs.length : Int) == 0))) = false := fun b hb => by rw [← hb, hgo]; rfl
  have loopP : ∀ f : Env, Run Tryz.prog 9 83 (at_ Tryz.f9 [1,1,1,1,1,1,0,1,2]) (kn [(7, .slice A3 rs.length c3), (11, .int .i64 0)] f) h5 (w, false) (fun v h' => v = .bool true ∧ Ext h h') := by
    intro f
    refine Run.loop (at_ Tryz.f9 [1,1,1,1,1,1,0,1,2,3]) (at_ Tryz.f9 [1,1,1,1,1,1,0,1,2,7]) (fun i : Nat => [(7, .slice A3 rs.length c3), (11, .int .i64 (i : Int))])
      (fun i h' => h' = h5 ∧ i ≤ rs.length) (fun i => rs.length - i) 0 (by as_aux_lemma => kernel_rfl) rfl ?_ ?_
    · exact ⟨rfl, Nat.zero_le _⟩
    rintro i s_ h' ⟨rfl, hi⟩ again
    by_cases hlt : i < rs.length
    · obtain ⟨b3, o3, rfl, hp3⟩ := hr5.open_ (by omega)
      have q3 := hp3 _ (Ext.refl _) (i : Int) (by omega) (by omega)
      rw [Int.toNat_natCast] at q3
      have hqi := hq2 i (by omega)
      generalize rs.getD i (0, ByteArray.empty, 0, 0) = r at q3 hqi
      have hz : (decide (r.2.2.2 < 0) == ((i : Int) == (rs.length : Int) - 1)) = true := by
        by_cases e : r.2.2.2 < 0
        · have := hqi.1 e
          rw [decide_eq_true e, beq_iff_eq.2 (show (i : Int) = (rs.length : Int) - 1 by omega)]; rfl
        · have : i ≠ q - 1 := fun hh => e (hqi.2 hh)
          rw [decide_eq_false e, beq_eq_false_iff_ne.2 (show (i : Int) ≠ (rs.length : Int) - 1 by omega)]; rfl
      -- at 1111110127
      refine Run.adv 35 [.dec true, .val (.int .i64 r.2.2.2), .dec false] (at_ Tryz.f9 [1,1,1,1,1,1,0,1,2,7]) [(7, .slice (some ⟨b3, o3, none⟩) rs.length c3), (11, .int .i64 ((i + 1 : Nat) : Int))]
        ((decide ((i : Int) < (rs.length : Int))) = true ∧ (0 ≤ (i : Int) ∧ (i : Int) < (rs.length : Int)) ∧ cellH h' ⟨b3, o3 + (i : Int).toNat * 4 + 3, none⟩ = some (.int .i64 r.2.2.2) ∧ (-9223372036854775808 ≤ (rs.length : Int) - 1 ∧ (rs.length : Int) - 1 ≤ 9223372036854775807) ∧ (!((decide (r.2.2.2 < 0)) == ((i : Int) == ((rs.length : Int) - 1)))) = false ∧ (-9223372036854775808 ≤ (i : Int) + 1 ∧ (i : Int) + 1 ≤ 9223372036854775807))
        (by as_aux_lemma => kernel_rfl) ⟨(by first | assumption | exact decide_eq_true (by first | omega | assumption)), ⟨by omega, by omega⟩, (by rw [Int.toNat_natCast]; have := q3.2.2.2.1; rw [addr_add] at this; exact this), ⟨by omega, by omega⟩, (by rw [hz]; rfl), ⟨by omega, by omega⟩⟩ fun s_ => ?_
      exact again (i + 1) _ _ ⟨rfl, by omega⟩ (by omega)
    · -- at 1111111080
      refine Run.adv 12 [.dec false] (at_ Tryz.f9 [1,1,1,1,1,1,1,0,8,0]) [(11, .int .i64 (i : Int))]
        ((decide ((i : Int) < (rs.length : Int))) = false)
        (by as_aux_lemma => kernel_rfl) (by first | assumption | exact decide_eq_false (by first | omega | assumption)) fun s_ => ?_
      refine Run.call 24 #[] (some 82) (at_ Tryz.f9 [1,1,1,1,1,1,1,0,8,1]) (by as_aux_lemma => kernel_rfl) (awake58_ct _ (hT.ext hE05)) ?_
      rintro _ h8 ⟨rfl, hE8⟩
      -- at 11111111
      refine Run.adv 2 [] (at_ Tryz.f9 [1,1,1,1,1,1,1,1]) [(6, .bool true)]
        (True)
        (by as_aux_lemma => kernel_rfl) trivial fun s_ => ?_
      refine Run.ret [] (.bool true) (True) Tryz.func9 (by as_aux_lemma => kernel_rfl) (by as_aux_lemma => kernel_rfl) trivial ?_
      exact ⟨rfl, hE05.trans hE8⟩
  rcases hq3 with ⟨h1, h2, h3, h4⟩ | ⟨h1, h2, h3⟩
  · have hd' := hd false (tv_no h4)
    rw [tv_no h4]
    -- at 111111012
    refine Run.adv 33 [.lit, .lit, .lit, .lit, .dec false, .lit, .lit, .dec true, .lit, .lit, .lit, .lit, .dec false, .lit, .lit, .dec false, .lit, .lit, .lit, .lit] (at_ Tryz.f9 [1,1,1,1,1,1,0,1,2]) [(7, .slice A3 rs.length c3), (11, .int .i64 0)]
      ((!(false == ((rs.length : Int) == 0))) = false ∧ (decide (ap ≥ 0)) = true ∧ ((rs.length : Int) != ap) = false ∧ (decide (ap < 0)) = false)
      (by as_aux_lemma => kernel_rfl) ⟨(hd'), (by first | assumption | exact decide_eq_true (by first | omega | assumption)), (bne_eq_false_iff_eq.2 (by first | omega | assumption)), (by first | assumption | exact decide_eq_false (by first | omega | assumption))⟩ fun s_ => ?_
    exact loopP _
  · have hd' := hd true (tv_yes h3)
    rw [tv_yes h3]
    -- at 111111012
    refine Run.adv 33 [.lit, .lit, .lit, .lit, .dec false, .lit, .lit, .dec false, .lit, .lit, .lit, .lit, .lit, .lit, .lit, .dec true, .lit, .lit, .lit, .dec false] (at_ Tryz.f9 [1,1,1,1,1,1,0,1,2]) [(7, .slice A3 rs.length c3), (11, .int .i64 0)]
      ((!(true == ((rs.length : Int) == 0))) = false ∧ (decide (ap ≥ 0)) = false ∧ (decide (ap < 0)) = true ∧ ((rs.length : Int) != 0) = false)
      (by as_aux_lemma => kernel_rfl) ⟨(hd'), (by first | assumption | exact decide_eq_false (by first | omega | assumption)), (by first | assumption | exact decide_eq_true (by first | omega | assumption)), (bne_eq_false_iff_eq.2 (by first | omega | assumption))⟩ fun s_ => ?_
    exact loopP _
end Go.Proofs.YtbajgbkkbabmlaaGreatDoor
