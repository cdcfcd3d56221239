/- game.Play, Rounds, Reply, walked. -/
import Derived.Test.YtbajgbkkbabmlaaGreatDoorProg
import Derived.Test.YtbajgbkkbabmlaaGreatDoorO5
set_option linter.unusedVariables false
namespace Go.Proofs.YtbajgbkkbabmlaaGreatDoor
open Go.Vc
theorem lx_25_111102300 : LexOk (opsAt (at_ Tryz.f25 [1,1,1,1,0,2,3,0,0])) := ⟨by kernel_rfl⟩

abbrev Rds (h : Heap) (A : Option Addr) (rs : List Rd) (c : Nat) := Vc.RowK h A 4 encR (0, ByteArray.empty, 0, 0) rs c
theorem playL_len (l : Lt) (xss : List (List Int)) : ∀ (f : Nat) (s t : Int), (playL l xss f s t).length ≤ f
  | 0, _, _ => Nat.le_refl 0
  | f + 1, s, t => by
    unfold playL
    split
    · have := playL_len l xss f (roundL l xss s t).2.1 (roundL l xss s t).2.2
      simp only [List.length_cons]; omega
    · simp
theorem on_or {l : Lt} {n m : Nat} (hm : May l) (hn : l.n = (n : Int)) {s t : Int} (hs : InN n s) (ht : InN n t) (ho : On (levs l.es n m) s t)
    (h1 : attackL l (levs l.es n m) s t (lateI (levs l.es n m) s t) = none) (h2 : attackL l (levs l.es n m) t s (lateI (levs l.es n m) s t) = none) : False := by
  obtain ⟨a0, a1, a2⟩ := ho
  unfold InN at hs ht
  obtain ⟨s, rfl⟩ := Int.eq_ofNat_of_zero_le a0
  obtain ⟨t, rfl⟩ := Int.eq_ofNat_of_zero_le a1
  obtain ⟨k, b1, b2, b3, -⟩ := late_nat (l := l) (n := n) (m := m) (s := s) (t := t) (by omega) (by omega)
  rw [levs_len, b1] at a2
  rw [b1] at h1 h2
  exact attack_or hm hn (by omega) (by omega) b1 (by omega) h1 h2
theorem openOk_ct (A1 A2 A3 : Option Addr) (c1 c2 c3 : Nat) (l : Lt) (ns : List Int) (h : Heap) (hx : LtAt h l A1 c1 A2 c2) (hns : Ints h A3 ns c3) (hk : ns.length ≤ 100) (hT : Tab h) (hm : May l) (hr : InR l ns) (n m : Nat) (hn : l.n = (n : Int)) (hS : Stop l.es n m) :
    Ct Tryz.prog 50 #[.agg #[.int .i64 l.n, .slice A1 l.ls.length c1, .slice A2 l.es.length c2], .slice A3 ns.length c3] h
      (fun v h' => ∃ g A c, v = .tuple #[.pointer (some ⟨g, 0, none⟩), .bool true] ∧ Board h' g l A1 c1 A2 c2 A c (levs l.es n m) ∧ Ext h h') :=
  (open_ct A1 A2 A3 c1 c2 c3 l ns h hx hns (by have := hm.ls.1; omega) hk hT).mono fun v h' hh => by
    rcases hh with ⟨_, _, n', m', g, A, c, hn', hS', hv, hB, hE⟩ | ⟨hno, _⟩
    · obtain rfl : n' = n := by omega
      obtain rfl := hS'.unique hS
      exact ⟨g, A, c, hv, hB, hE⟩
    · exact absurd ⟨hm, hr⟩ hno
theorem openNo_ct (A1 A2 A3 : Option Addr) (c1 c2 c3 : Nat) (l : Lt) (ns : List Int) (h : Heap) (hx : LtAt h l A1 c1 A2 c2) (hns : Ints h A3 ns c3) (hl : l.ls.length ≤ 100000) (hk : ns.length ≤ 100) (hT : Tab h) (hno : ¬ (May l ∧ InR l ns)) :
    Ct Tryz.prog 50 #[.agg #[.int .i64 l.n, .slice A1 l.ls.length c1, .slice A2 l.es.length c2], .slice A3 ns.length c3] h
      (fun v h' => v = .tuple #[.pointer none, .bool false] ∧ Ext h h') :=
  (open_ct A1 A2 A3 c1 c2 c3 l ns h hx hns hl hk hT).mono fun v h' hh => by
    rcases hh with ⟨a, b, _⟩ | ⟨_, hv, hE⟩
    · exact absurd ⟨a, b⟩ hno
    · exact ⟨hv, hE⟩
theorem PlayNo_ct (A1 A2 : Option Addr) (c1 c2 : Nat) (l : Lt) (s t : Int) (h : Heap) (hx : LtAt h l A1 c1 A2 c2) (hl : l.ls.length ≤ 100000) (hT : Tab h) (hno : ¬ (May l ∧ InR l [s, t])) :
    Ct Tryz.prog 25 #[.agg #[.int .i64 l.n, .slice A1 l.ls.length c1, .slice A2 l.es.length c2], .int .i64 s, .int .i64 t] h (fun v h' => v = .tuple #[.slice none 0 0, .int .i64 1] ∧ Ext h h') := by
  refine Ct.enter (args := [.agg #[.int .i64 l.n, .slice A1 l.ls.length c1, .slice A2 l.es.length c2], .int .i64 s, .int .i64 t]) Tryz.func25 rfl Tryz.ntmps25 (by simp) fun w hw => ?_
  -- at 080
  refine Run.adv 2 [] (at_ Tryz.f25 [0,8,0]) [(0, .agg #[.int .i64 l.n, .slice A1 l.ls.length c1, .slice A2 l.es.length c2]), (1, .int .i64 s), (2, .int .i64 t)]
    (True)
    (by as_aux_lemma => kernel_rfl) trivial fun s_ => ?_
  refine Run.new #[.int .i64 l.n, .slice A1 l.ls.length c1, .slice A2 l.es.length c2] 25 (fun g_ => .pointer (some ⟨g_, 0, none⟩)) (some 3) (at_ Tryz.f25 [0,8,1]) (by as_aux_lemma => kernel_rfl) fun g1 h1 hng1 hEg1 hBg1 => ?_
  -- at 1083
  refine Run.adv 8 [.val (.agg #[.int .i64 l.n, .slice A1 l.ls.length c1, .slice A2 l.es.length c2])] (at_ Tryz.f25 [1,0,8,3]) [(0, .agg #[.int .i64 l.n, .slice A1 l.ls.length c1, .slice A2 l.es.length c2]), (1, .int .i64 s), (2, .int .i64 t), (3, .pointer (some ⟨g1, 0, none⟩)), (6, .slice none 0 0), (7, .int .i64 0), (13, .agg #[.int .i64 l.n, .slice A1 l.ls.length c1, .slice A2 l.es.length c2]), (14, .int .i64 s), (15, .int .i64 t)]
    (cellsAt h1 ⟨g1, 0, none⟩ [.int .i64 l.n, .slice A1 l.ls.length c1, .slice A2 l.es.length c2] 0)
    (by as_aux_lemma => kernel_rfl) (hBg1.all (Ext.refl _)) fun s_ => ?_
  refine Run.new #[.int .i64 s, .int .i64 t] 3 (fun g_ => .slice (some ⟨g_, 0, none⟩) 2 2) (some 16) (at_ Tryz.f25 [1,0,8,4]) (by as_aux_lemma => kernel_rfl) fun g2 h2 hng2 hEg2 hBg2 => ?_
  have hE02 := hEg1.trans hEg2
  -- at 1084
  refine Run.adv 0 [] (at_ Tryz.f25 [1,0,8,4]) [(0, .agg #[.int .i64 l.n, .slice A1 l.ls.length c1, .slice A2 l.es.length c2]), (1, .int .i64 s), (2, .int .i64 t), (3, .pointer (some ⟨g1, 0, none⟩)), (6, .slice none 0 0), (7, .int .i64 0), (13, .agg #[.int .i64 l.n, .slice A1 l.ls.length c1, .slice A2 l.es.length c2]), (14, .int .i64 s), (15, .int .i64 t), (16, .slice (some ⟨g2, 0, none⟩) 2 2)]
    (True)
    (by as_aux_lemma => kernel_rfl) trivial fun s_ => ?_
  refine Run.call 50 #[.agg #[.int .i64 l.n, .slice A1 l.ls.length c1, .slice A2 l.es.length c2], .slice (some ⟨g2, 0, none⟩) 2 2] (some 17) (at_ Tryz.f25 [1,0,8,5]) (by as_aux_lemma => kernel_rfl) (openNo_ct A1 A2 (some ⟨g2, 0, none⟩) c1 c2 2 l [s, t] _ (hx.ext hE02) (ints_lit (xs := [s, t]) hBg2) hl (by simp) (hT.ext hE02) hno) ?_
  rintro _ h3 ⟨rfl, hE3⟩
  -- at 110141
  refine Run.adv 18 [.lit] (at_ Tryz.f25 [1,1,0,1,4,1]) [(6, .slice none 0 0), (7, .int .i64 1)]
    (True)
    (by as_aux_lemma => kernel_rfl) trivial fun s_ => ?_
  refine Run.ret [] (.tuple #[.slice none 0 0, .int .i64 1]) (True) Tryz.func25 (by as_aux_lemma => kernel_rfl) (by as_aux_lemma => kernel_rfl) trivial ?_
  exact ⟨rfl, hE02.trans hE3⟩
set_option maxHeartbeats 1000000 in
theorem Play_ct (A1 A2 : Option Addr) (c1 c2 : Nat) (l : Lt) (s t : Int) (h : Heap) (hx : LtAt h l A1 c1 A2 c2) (hT : Tab h) (hm : May l) (hr : InR l [s, t]) (n m : Nat) (hn : l.n = (n : Int)) (hS : Stop l.es n m) :
    Ct Tryz.prog 25 #[.agg #[.int .i64 l.n, .slice A1 l.ls.length c1, .slice A2 l.es.length c2], .int .i64 s, .int .i64 t] h
      (fun v h' => ∃ A c, v = .tuple #[.slice A (playL l (levs l.es n m) (levs l.es n m).length s t).length c, .int .i64 0] ∧ Rds h' A (playL l (levs l.es n m) (levs l.es n m).length s t) c ∧ Ext h h') := by
  have hn1 := hm.n1
  have hn2 := hm.n2
  have hmn := hS.lt (by omega)
  have hll := levs_len l.es n m
  have hs0 : 0 ≤ s ∧ s < l.n := hr 0 (by simp)
  have ht0 : 0 ≤ t ∧ t < l.n := hr 1 (by simp)
  refine Ct.enter (args := [.agg #[.int .i64 l.n, .slice A1 l.ls.length c1, .slice A2 l.es.length c2], .int .i64 s, .int .i64 t]) Tryz.func25 rfl Tryz.ntmps25 (by simp) fun w hw => ?_
  -- at 080
  refine Run.adv 2 [] (at_ Tryz.f25 [0,8,0]) [(0, .agg #[.int .i64 l.n, .slice A1 l.ls.length c1, .slice A2 l.es.length c2]), (1, .int .i64 s), (2, .int .i64 t)]
    (True)
    (by as_aux_lemma => kernel_rfl) trivial fun s_ => ?_
  refine Run.new #[.int .i64 l.n, .slice A1 l.ls.length c1, .slice A2 l.es.length c2] 25 (fun g_ => .pointer (some ⟨g_, 0, none⟩)) (some 3) (at_ Tryz.f25 [0,8,1]) (by as_aux_lemma => kernel_rfl) fun g1 h1 hng1 hEg1 hBg1 => ?_
  -- at 1083
  refine Run.adv 8 [.val (.agg #[.int .i64 l.n, .slice A1 l.ls.length c1, .slice A2 l.es.length c2])] (at_ Tryz.f25 [1,0,8,3]) [(0, .agg #[.int .i64 l.n, .slice A1 l.ls.length c1, .slice A2 l.es.length c2]), (1, .int .i64 s), (2, .int .i64 t), (3, .pointer (some ⟨g1, 0, none⟩)), (6, .slice none 0 0), (7, .int .i64 0), (13, .agg #[.int .i64 l.n, .slice A1 l.ls.length c1, .slice A2 l.es.length c2]), (14, .int .i64 s), (15, .int .i64 t)]
    (cellsAt h1 ⟨g1, 0, none⟩ [.int .i64 l.n, .slice A1 l.ls.length c1, .slice A2 l.es.length c2] 0)
    (by as_aux_lemma => kernel_rfl) (hBg1.all (Ext.refl _)) fun s_ => ?_
  refine Run.new #[.int .i64 s, .int .i64 t] 3 (fun g_ => .slice (some ⟨g_, 0, none⟩) 2 2) (some 16) (at_ Tryz.f25 [1,0,8,4]) (by as_aux_lemma => kernel_rfl) fun g2 h2 hng2 hEg2 hBg2 => ?_
  have hE02 := hEg1.trans hEg2
  -- at 1084
  refine Run.adv 0 [] (at_ Tryz.f25 [1,0,8,4]) [(0, .agg #[.int .i64 l.n, .slice A1 l.ls.length c1, .slice A2 l.es.length c2]), (1, .int .i64 s), (2, .int .i64 t), (3, .pointer (some ⟨g1, 0, none⟩)), (6, .slice none 0 0), (7, .int .i64 0), (13, .agg #[.int .i64 l.n, .slice A1 l.ls.length c1, .slice A2 l.es.length c2]), (14, .int .i64 s), (15, .int .i64 t), (16, .slice (some ⟨g2, 0, none⟩) 2 2)]
    (True)
    (by as_aux_lemma => kernel_rfl) trivial fun s_ => ?_
  refine Run.call 50 #[.agg #[.int .i64 l.n, .slice A1 l.ls.length c1, .slice A2 l.es.length c2], .slice (some ⟨g2, 0, none⟩) 2 2] (some 17) (at_ Tryz.f25 [1,0,8,5]) (by as_aux_lemma => kernel_rfl) (openOk_ct A1 A2 (some ⟨g2, 0, none⟩) c1 c2 2 l [s, t] _ (hx.ext hE02) (ints_lit (xs := [s, t]) hBg2) (by simp) (hT.ext hE02) hm hr n m hn hS) ?_
  rintro v h3 ⟨g, A, c, rfl, hB, hE3⟩
  have hE03 := hE02.trans hE3
  have hlb : ∀ rs f s' t', rs ++ playL l (levs l.es n m) f s' t' = playL l (levs l.es n m) (levs l.es n m).length s t → rs.length ≤ n := fun rs f s' t' e => by
    have h1 := playL_len l (levs l.es n m) (levs l.es n m).length s t
    rw [← e, List.length_append] at h1
    omega
  generalize hxs : levs l.es n m = xss at *
  have hBg := hB.blk
  -- at 111102
  refine Run.adv 20 [.lit] (at_ Tryz.f25 [1,1,1,1,0,2]) [(1, .int .i64 s), (2, .int .i64 t), (8, .pointer (some ⟨g, 0, none⟩)), (10, .slice none 0 0)]
    (True)
    (by as_aux_lemma => kernel_rfl) trivial fun s_ => ?_
  refine Run.loop (at_ Tryz.f25 [1,1,1,1,0,2,3]) (at_ Tryz.f25 [1,1,1,1,0,2,7]) (fun (⟨s', t', rs, A4, c4⟩ : Int × Int × List Rd × Option Addr × Nat) => [(1, .int .i64 s'), (2, .int .i64 t'), (8, .pointer (some ⟨g, 0, none⟩)), (10, .slice A4 rs.length c4)])
    (fun ⟨s', t', rs, A4, c4⟩ h4 => InN n s' ∧ InN n t' ∧ (∃ f, mu xss s' t' ≤ f ∧ rs ++ playL l xss f s' t' = playL l xss xss.length s t) ∧ ∃ og, Own h4 51 4 (.slice A4 rs.length c4) rs.length (rs.flatMap encR) og ∧ Ext h3 h4 ∧ ∀ g', og = some g' → h3.size ≤ g') (fun ⟨s', t', rs, A4, c4⟩ => mu xss s' t') (s, t, [], none, 0) (by as_aux_lemma => kernel_rfl) rfl ?_ ?_
  · refine ⟨by unfold InN; omega, by unfold InN; omega, ⟨xss.length, ?_, rfl⟩, none, Own.nil _ _ _, Ext.refl _, by simp⟩
    rw [← hxs]
    exact mu_le (by unfold InN; omega) (by unfold InN; omega)
  rintro ⟨s', t', rs, A4, c4⟩ s_ h4 ⟨hs, ht, ⟨f, hf, hrs⟩, og, hO, hE, hg⟩ again
  simp only at hs ht hf hrs hO hE hg again
  have hrl := hlb _ _ _ _ hrs
  have hE04 := hE03.trans hE
  have fin : ¬ On xss s' t' → rs = playL l xss xss.length s t := fun ho => by
    rw [playL_off ho, List.append_nil] at hrs; exact hrs
  -- at 111102300
  refine Run.adv 2 [] (at_ Tryz.f25 [1,1,1,1,0,2,3,0,0]) [(1, .int .i64 s'), (2, .int .i64 t'), (8, .pointer (some ⟨g, 0, none⟩)), (10, .slice A4 rs.length c4)]
    (True)
    (by as_aux_lemma => kernel_rfl) trivial fun s_ => ?_
  by_cases e1 : 0 ≤ s' ∧ 0 ≤ t'
  · have q1 : (if t' < s' then t' else s') ≥ 0 := by split <;> omega
    refine Run.drawE [.dec true, .lit, .lit, .lit, .val (.int .i64 (lateI xss s' t')), .lit, .lit, .lit, .lit, .val (.slice A xss.length c), .lit, .lit] (at_ Tryz.f25 [1,1,1,1,0,2,3,0,1]) [(1, .int .i64 s'), (2, .int .i64 t'), (8, .pointer (some ⟨g, 0, none⟩)), (10, .slice A4 rs.length c4), (37, .bool (decide (lateI xss s' t' < (xss.length : Int))))]
      (fun H => LexOk (opsAt (at_ Tryz.f25 [1,1,1,1,0,2,3,0,0])) ∧ (decide ((if t' < s' then t' else s') ≥ 0)) = true ∧ (Ct Tryz.prog 51 #[.pointer (some ⟨g, 0, none⟩), .int .i64 s', .int .i64 t'] H (fun v_ h_ => v_ = .int .i64 (lateI xss s' t') ∧ Ext H h_)) ∧ cellH H ⟨g, 3, none⟩ = some (.slice A xss.length c))
      (by as_aux_lemma => kernel_rfl) (fun H hH => ⟨lx_25_111102300, (decide_eq_true q1), (late_ct g A1 A2 A c1 c2 c l xss s' t' _ (hB.ext (hE.trans hH))), (hBg.at (hE.trans hH) 3 rfl)⟩) fun H s_ hH => ?_
    have hE3H := hE.trans hH
    by_cases e2 : lateI xss s' t' < xss.length
    · have ho : On xss s' t' := ⟨e1.1, e1.2, e2⟩
      obtain ⟨m1, m2, m3, m4⟩ := by rw [← hxs] at ho; exact round_step (l := l) hm hn hs ht ho
      rw [hxs] at m1 m2 m3 m4
      have hor := by rw [← hxs] at ho; exact on_or (l := l) hm hn hs ht ho
      rw [hxs] at hor
      obtain ⟨f, rfl⟩ : ∃ f', f = f' + 1 := ⟨f - 1, by omega⟩
      rw [playL_on ho] at hrs
      obtain ⟨⟨⟨r1, r2, r3, r4⟩, s2, t2⟩, hR⟩ : ∃ x, roundL l xss s' t' = x := ⟨_, rfl⟩
      rw [hR] at m2 m3 m4 hrs
      simp only at m2 m3 m4 hrs
      -- at 111102312080
      refine Run.adv 5 [.dec true] (at_ Tryz.f25 [1,1,1,1,0,2,3,1,2,0,8,0]) [(1, .int .i64 s'), (2, .int .i64 t'), (8, .pointer (some ⟨g, 0, none⟩)), (10, .slice A4 rs.length c4)]
        ((decide (lateI xss s' t' < (xss.length : Int))) = true)
        (by as_aux_lemma => kernel_rfl) (by first | assumption | exact decide_eq_true (by first | omega | assumption)) fun s_ => ?_
      refine Run.new #[.int .i64 0, .string ⟨#[]⟩, .int .i64 0, .int .i64 0] 51 (fun g_ => .pointer (some ⟨g_, 0, none⟩)) (some 11) (at_ Tryz.f25 [1,1,1,1,0,2,3,1,2,0,8,1]) (by as_aux_lemma => kernel_rfl) fun g5 h5 hng5 hEg5 hBg5 => ?_
      have hE35 := (hE3H.trans hEg5)
      -- at 1111023121083
      refine Run.adv 6 [] (at_ Tryz.f25 [1,1,1,1,0,2,3,1,2,1,0,8,3]) [(1, .int .i64 s'), (2, .int .i64 t'), (8, .pointer (some ⟨g, 0, none⟩)), (10, .slice A4 rs.length c4), (11, .pointer (some ⟨g5, 0, none⟩)), (39, .pointer (some ⟨g, 0, none⟩)), (40, .int .i64 s'), (41, .int .i64 t')]
        (True)
        (by as_aux_lemma => kernel_rfl) trivial fun s_ => ?_
      refine Run.call 52 #[.pointer (some ⟨g, 0, none⟩), .int .i64 s', .int .i64 t'] (some 42) (at_ Tryz.f25 [1,1,1,1,0,2,3,1,2,1,0,8,4]) (by as_aux_lemma => kernel_rfl) ((round_ct g A1 A2 A c1 c2 c l xss s' t' _ (hB.ext hE35) hm hor).is (by rw [hR])) ?_
      rintro _ h6 ⟨rfl, hE6⟩
      -- at 1111023121088
      refine Run.adv 4 [] (at_ Tryz.f25 [1,1,1,1,0,2,3,1,2,1,0,8,8]) [(8, .pointer (some ⟨g, 0, none⟩)), (10, .slice A4 rs.length c4), (11, .pointer (some ⟨g5, 0, none⟩)), (43, .agg #[.int .i64 r1, .string r2, .int .i64 r3, .int .i64 r4]), (44, .int .i64 s2), (45, .int .i64 t2)]
        (True)
        (by as_aux_lemma => kernel_rfl) trivial fun s_ => ?_
      have hgl5 := hBg5.lt
      have hgl := hBg.lt
      have hz3 := hE3H.size
      refine Run.store g5 0 [.int .i64 r1, .string r2, .int .i64 r3, .int .i64 r4] (at_ Tryz.f25 [1,1,1,1,0,2,3,1,2,1,0,8,9]) (by as_aux_lemma => kernel_rfl) (hBg5.ext hE6) (by simp) rfl fun h7 hMh7 hzh7 (hBg5_h7 : Blk h7 g5 #[.int .i64 r1, .string r2, .int .i64 r3, .int .i64 r4] 51) => ?_
      have hE47 := hMh7.ext_new ((hH.trans hEg5).trans hE6) hng5 hH
      -- at 1111023121182
      refine Run.adv 6 [.val (.agg #[.int .i64 r1, .string r2, .int .i64 r3, .int .i64 r4])] (at_ Tryz.f25 [1,1,1,1,0,2,3,1,2,1,1,8,2]) [(1, .int .i64 s2), (2, .int .i64 t2), (8, .pointer (some ⟨g, 0, none⟩)), (10, .slice A4 rs.length c4), (11, .pointer (some ⟨g5, 0, none⟩)), (43, .agg #[.int .i64 r1, .string r2, .int .i64 r3, .int .i64 r4]), (44, .int .i64 s2), (45, .int .i64 t2), (46, .slice A4 rs.length c4), (47, .agg #[.int .i64 r1, .string r2, .int .i64 r3, .int .i64 r4])]
        (cellsAt h7 ⟨g5, 0, none⟩ [.int .i64 r1, .string r2, .int .i64 r3, .int .i64 r4] 0)
        (by as_aux_lemma => kernel_rfl) (hBg5_h7.all (Ext.refl _)) fun s_ => ?_
      refine Run.new #[.int .i64 r1, .string r2, .int .i64 r3, .int .i64 r4] 51 (fun g_ => .slice (some ⟨g_, 0, none⟩) 1 1) (some 48) (at_ Tryz.f25 [1,1,1,1,0,2,3,1,2,1,1,8,3]) (by as_aux_lemma => kernel_rfl) fun g8 h8 hng8 hEg8 hBg8 => ?_
      refine Run.append (.slice A4 rs.length c4) (.slice (some ⟨g8, 0, none⟩) 1 1) 51 (some 49) (at_ Tryz.f25 [1,1,1,1,0,2,3,1,2,1,1,8,4]) 4 40 (by as_aux_lemma => kernel_rfl) (by as_aux_lemma => kernel_rfl) (by decide) (hO.ext (hE47.trans hEg8)) (Src.row (hBg8.all (Ext.refl _)) rfl) (by rfl) (by simp [encR, Vc.one]) (by omega) fun A9 c9 h9 og9 hOA9 hMh9 hgA9 => ?_
      have hEh3_h9 := hMh9.ext ((hMh7.ext_new ((hE3H.trans hEg5).trans hE6) hng5 hE3H).trans hEg8) (by exact hg)
      -- at 1111027
      refine Run.adv 3 [] (at_ Tryz.f25 [1,1,1,1,0,2,7]) [(1, .int .i64 s2), (2, .int .i64 t2), (8, .pointer (some ⟨g, 0, none⟩)), (10, .slice A9 (rs.length + 1) c9)]
        (True)
        (by as_aux_lemma => kernel_rfl) trivial fun s_ => ?_
      rw [show Value.slice A9 (rs.length + 1) c9 = .slice A9 (rs ++ [(r1, r2, r3, r4)]).length c9 by simp]
      refine again (s2, t2, rs ++ [(r1, r2, r3, r4)], A9, c9) _ _ ⟨m2, m3, ⟨f, by simp only; omega, ?_⟩, og9, ?_, hEh3_h9, fun g' e => ?_⟩ m4
      · simp only; rw [List.append_assoc]; exact hrs
      · simp only
        rw [List.length_append, List.flatMap_append]
        exact hOA9
      · have := hE.size
        have := hE47.size
        have := hEg8.size
        rcases hgA9 with rfl | rfl
        · exact hg g' e
        · cases e; omega
    · have hfin := fin (fun hh => e2 hh.2.2)
      -- at 111111
      refine Run.adv 8 [.dec false] (at_ Tryz.f25 [1,1,1,1,1,1]) [(6, .slice A4 rs.length c4), (7, .int .i64 0)]
        ((decide (lateI xss s' t' < (xss.length : Int))) = false)
        (by as_aux_lemma => kernel_rfl) (by first | assumption | exact decide_eq_false (by first | omega | assumption)) fun s_ => ?_
      refine Run.ret [] (.tuple #[.slice A4 rs.length c4, .int .i64 0]) (True) Tryz.func25 (by as_aux_lemma => kernel_rfl) (by as_aux_lemma => kernel_rfl) trivial ?_
      obtain ⟨A5, c5, hv, hr5⟩ := hO.rowK (d := (0, ByteArray.empty, 0, 0)) encR_len (by omega)
      subst hfin
      exact ⟨A5, c5, by rw [hv], hr5.ext hH, hE04.trans hH⟩
  · have q1 : ¬ (if t' < s' then t' else s') ≥ 0 := by split <;> omega
    have hfin := fin (fun hh => e1 ⟨hh.1, hh.2.1⟩)
    refine Run.drawE [.dec false, .lit, .lit, .lit, .lit, .lit, .lit, .lit, .lit, .lit] (at_ Tryz.f25 [1,1,1,1,0,2,3,0,1]) [(1, .int .i64 s'), (2, .int .i64 t'), (8, .pointer (some ⟨g, 0, none⟩)), (10, .slice A4 rs.length c4), (37, .bool false)]
      (fun H => LexOk (opsAt (at_ Tryz.f25 [1,1,1,1,0,2,3,0,0])) ∧ (decide ((if t' < s' then t' else s') ≥ 0)) = false)
      (by as_aux_lemma => kernel_rfl) (fun H hH => ⟨lx_25_111102300, (decide_eq_false q1)⟩) fun H s_ hH => ?_
    -- at 111111
    refine Run.adv 8 [.lit] (at_ Tryz.f25 [1,1,1,1,1,1]) [(6, .slice A4 rs.length c4), (7, .int .i64 0)]
      (True)
      (by as_aux_lemma => kernel_rfl) trivial fun s_ => ?_
    refine Run.ret [] (.tuple #[.slice A4 rs.length c4, .int .i64 0]) (True) Tryz.func25 (by as_aux_lemma => kernel_rfl) (by as_aux_lemma => kernel_rfl) trivial ?_
    obtain ⟨A5, c5, hv, hr5⟩ := hO.rowK (d := (0, ByteArray.empty, 0, 0)) encR_len (by omega)
    subst hfin
    exact ⟨A5, c5, by rw [hv], hr5.ext hH, hE04.trans hH⟩
theorem RoundsNo_ct (A1 A2 : Option Addr) (c1 c2 : Nat) (l : Lt) (s t : Int) (h : Heap) (hx : LtAt h l A1 c1 A2 c2) (hl : l.ls.length ≤ 100000) (hT : Tab h) (hno : ¬ (May l ∧ InR l [s, t])) :
    Ct Tryz.prog 26 #[.agg #[.int .i64 l.n, .slice A1 l.ls.length c1, .slice A2 l.es.length c2], .int .i64 s, .int .i64 t] h (fun v h' => v = .tuple #[.int .i64 0, .int .i64 1] ∧ Ext h h') := by
  refine Ct.enter (args := [.agg #[.int .i64 l.n, .slice A1 l.ls.length c1, .slice A2 l.es.length c2], .int .i64 s, .int .i64 t]) Tryz.func26 rfl Tryz.ntmps26 (by simp) fun w hw => ?_
  -- at 080
  refine Run.adv 2 [] (at_ Tryz.f26 [0,8,0]) [(0, .agg #[.int .i64 l.n, .slice A1 l.ls.length c1, .slice A2 l.es.length c2]), (1, .int .i64 s), (2, .int .i64 t)]
    (True)
    (by as_aux_lemma => kernel_rfl) trivial fun s_ => ?_
  refine Run.new #[.int .i64 l.n, .slice A1 l.ls.length c1, .slice A2 l.es.length c2] 25 (fun g_ => .pointer (some ⟨g_, 0, none⟩)) (some 3) (at_ Tryz.f26 [0,8,1]) (by as_aux_lemma => kernel_rfl) fun g1 h1 hng1 hEg1 hBg1 => ?_
  -- at 1083
  refine Run.adv 8 [.val (.agg #[.int .i64 l.n, .slice A1 l.ls.length c1, .slice A2 l.es.length c2])] (at_ Tryz.f26 [1,0,8,3]) [(0, .agg #[.int .i64 l.n, .slice A1 l.ls.length c1, .slice A2 l.es.length c2]), (1, .int .i64 s), (2, .int .i64 t), (3, .pointer (some ⟨g1, 0, none⟩)), (6, .int .i64 0), (7, .int .i64 0), (11, .agg #[.int .i64 l.n, .slice A1 l.ls.length c1, .slice A2 l.es.length c2]), (12, .int .i64 s), (13, .int .i64 t)]
    (cellsAt h1 ⟨g1, 0, none⟩ [.int .i64 l.n, .slice A1 l.ls.length c1, .slice A2 l.es.length c2] 0)
    (by as_aux_lemma => kernel_rfl) (hBg1.all (Ext.refl _)) fun s_ => ?_
  refine Run.new #[.int .i64 s, .int .i64 t] 3 (fun g_ => .slice (some ⟨g_, 0, none⟩) 2 2) (some 14) (at_ Tryz.f26 [1,0,8,4]) (by as_aux_lemma => kernel_rfl) fun g2 h2 hng2 hEg2 hBg2 => ?_
  have hE02 := hEg1.trans hEg2
  -- at 1084
  refine Run.adv 0 [] (at_ Tryz.f26 [1,0,8,4]) [(0, .agg #[.int .i64 l.n, .slice A1 l.ls.length c1, .slice A2 l.es.length c2]), (1, .int .i64 s), (2, .int .i64 t), (3, .pointer (some ⟨g1, 0, none⟩)), (6, .int .i64 0), (7, .int .i64 0), (11, .agg #[.int .i64 l.n, .slice A1 l.ls.length c1, .slice A2 l.es.length c2]), (12, .int .i64 s), (13, .int .i64 t), (14, .slice (some ⟨g2, 0, none⟩) 2 2)]
    (True)
    (by as_aux_lemma => kernel_rfl) trivial fun s_ => ?_
  refine Run.call 50 #[.agg #[.int .i64 l.n, .slice A1 l.ls.length c1, .slice A2 l.es.length c2], .slice (some ⟨g2, 0, none⟩) 2 2] (some 15) (at_ Tryz.f26 [1,0,8,5]) (by as_aux_lemma => kernel_rfl) (openNo_ct A1 A2 (some ⟨g2, 0, none⟩) c1 c2 2 l [s, t] _ (hx.ext hE02) (ints_lit (xs := [s, t]) hBg2) hl (by simp) (hT.ext hE02) hno) ?_
  rintro _ h3 ⟨rfl, hE3⟩
  -- at 110141
  refine Run.adv 18 [.lit] (at_ Tryz.f26 [1,1,0,1,4,1]) [(6, .int .i64 0), (7, .int .i64 1)]
    (True)
    (by as_aux_lemma => kernel_rfl) trivial fun s_ => ?_
  refine Run.ret [] (.tuple #[.int .i64 0, .int .i64 1]) (True) Tryz.func26 (by as_aux_lemma => kernel_rfl) (by as_aux_lemma => kernel_rfl) trivial ?_
  exact ⟨rfl, hE02.trans hE3⟩
theorem Rounds_ct (A1 A2 : Option Addr) (c1 c2 : Nat) (l : Lt) (s t : Int) (h : Heap) (hx : LtAt h l A1 c1 A2 c2) (hT : Tab h) (hm : May l) (hr : InR l [s, t]) (n m : Nat) (hn : l.n = (n : Int)) (hS : Stop l.es n m) :
    Ct Tryz.prog 26 #[.agg #[.int .i64 l.n, .slice A1 l.ls.length c1, .slice A2 l.es.length c2], .int .i64 s, .int .i64 t] h
      (fun v h' => v = .tuple #[.int .i64 (apartI (levs l.es n m) s t), .int .i64 0] ∧ Ext h h') := by
  refine Ct.enter (args := [.agg #[.int .i64 l.n, .slice A1 l.ls.length c1, .slice A2 l.es.length c2], .int .i64 s, .int .i64 t]) Tryz.func26 rfl Tryz.ntmps26 (by simp) fun w hw => ?_
  -- at 080
  refine Run.adv 2 [] (at_ Tryz.f26 [0,8,0]) [(0, .agg #[.int .i64 l.n, .slice A1 l.ls.length c1, .slice A2 l.es.length c2]), (1, .int .i64 s), (2, .int .i64 t)]
    (True)
    (by as_aux_lemma => kernel_rfl) trivial fun s_ => ?_
  refine Run.new #[.int .i64 l.n, .slice A1 l.ls.length c1, .slice A2 l.es.length c2] 25 (fun g_ => .pointer (some ⟨g_, 0, none⟩)) (some 3) (at_ Tryz.f26 [0,8,1]) (by as_aux_lemma => kernel_rfl) fun g1 h1 hng1 hEg1 hBg1 => ?_
  -- at 1083
  refine Run.adv 8 [.val (.agg #[.int .i64 l.n, .slice A1 l.ls.length c1, .slice A2 l.es.length c2])] (at_ Tryz.f26 [1,0,8,3]) [(0, .agg #[.int .i64 l.n, .slice A1 l.ls.length c1, .slice A2 l.es.length c2]), (1, .int .i64 s), (2, .int .i64 t), (3, .pointer (some ⟨g1, 0, none⟩)), (6, .int .i64 0), (7, .int .i64 0), (11, .agg #[.int .i64 l.n, .slice A1 l.ls.length c1, .slice A2 l.es.length c2]), (12, .int .i64 s), (13, .int .i64 t)]
    (cellsAt h1 ⟨g1, 0, none⟩ [.int .i64 l.n, .slice A1 l.ls.length c1, .slice A2 l.es.length c2] 0)
    (by as_aux_lemma => kernel_rfl) (hBg1.all (Ext.refl _)) fun s_ => ?_
  refine Run.new #[.int .i64 s, .int .i64 t] 3 (fun g_ => .slice (some ⟨g_, 0, none⟩) 2 2) (some 14) (at_ Tryz.f26 [1,0,8,4]) (by as_aux_lemma => kernel_rfl) fun g2 h2 hng2 hEg2 hBg2 => ?_
  have hE02 := hEg1.trans hEg2
  -- at 1084
  refine Run.adv 0 [] (at_ Tryz.f26 [1,0,8,4]) [(0, .agg #[.int .i64 l.n, .slice A1 l.ls.length c1, .slice A2 l.es.length c2]), (1, .int .i64 s), (2, .int .i64 t), (3, .pointer (some ⟨g1, 0, none⟩)), (6, .int .i64 0), (7, .int .i64 0), (11, .agg #[.int .i64 l.n, .slice A1 l.ls.length c1, .slice A2 l.es.length c2]), (12, .int .i64 s), (13, .int .i64 t), (14, .slice (some ⟨g2, 0, none⟩) 2 2)]
    (True)
    (by as_aux_lemma => kernel_rfl) trivial fun s_ => ?_
  refine Run.call 50 #[.agg #[.int .i64 l.n, .slice A1 l.ls.length c1, .slice A2 l.es.length c2], .slice (some ⟨g2, 0, none⟩) 2 2] (some 15) (at_ Tryz.f26 [1,0,8,5]) (by as_aux_lemma => kernel_rfl) (openOk_ct A1 A2 (some ⟨g2, 0, none⟩) c1 c2 2 l [s, t] _ (hx.ext hE02) (ints_lit (xs := [s, t]) hBg2) (by simp) (hT.ext hE02) hm hr n m hn hS) ?_
  rintro v h3 ⟨g, A, c, rfl, hB, hE3⟩
  have hE03 := hE02.trans hE3
  have hBg := hB.blk
  -- at 111086
  refine Run.adv 22 [.lit, .val (.slice A ((levs l.es n m).length) c)] (at_ Tryz.f26 [1,1,1,0,8,6]) [(23, .slice A ((levs l.es n m).length) c), (24, .int .i64 s), (25, .int .i64 t)]
    (cellH h3 ⟨g, 3, none⟩ = some (.slice A ((levs l.es n m).length) c))
    (by as_aux_lemma => kernel_rfl) (hBg.at (Ext.refl _) 3 rfl) fun s_ => ?_
  refine Run.call 42 #[.slice A ((levs l.es n m).length) c, .int .i64 s, .int .i64 t] (some 26) (at_ Tryz.f26 [1,1,1,0,8,7]) (by as_aux_lemma => kernel_rfl) (apartC A c (levs l.es n m) s t _ hB.rows) ?_
  rintro _ h4 ⟨rfl, hE4⟩
  -- at 1111
  refine Run.adv 3 [] (at_ Tryz.f26 [1,1,1,1]) [(6, .int .i64 (apartI (levs l.es n m) s t)), (7, .int .i64 0)]
    (True)
    (by as_aux_lemma => kernel_rfl) trivial fun s_ => ?_
  refine Run.ret [] (.tuple #[.int .i64 (apartI (levs l.es n m) s t), .int .i64 0]) (True) Tryz.func26 (by as_aux_lemma => kernel_rfl) (by as_aux_lemma => kernel_rfl) trivial ?_
  exact ⟨rfl, hE03.trans hE4⟩
theorem ReplyNo_ct (A1 A2 : Option Addr) (c1 c2 : Nat) (l : Lt) (s t lb to : Int) (h : Heap) (hx : LtAt h l A1 c1 A2 c2) (hl : l.ls.length ≤ 100000) (hT : Tab h) (hno : ¬ (May l ∧ InR l [s, t, to])) :
    Ct Tryz.prog 28 #[.agg #[.int .i64 l.n, .slice A1 l.ls.length c1, .slice A2 l.es.length c2], .int .i64 s, .int .i64 t, .int .i64 lb, .int .i64 to] h (fun v h' => v = .int .i64 (-1) ∧ Ext h h') := by
  refine Ct.enter (args := [.agg #[.int .i64 l.n, .slice A1 l.ls.length c1, .slice A2 l.es.length c2], .int .i64 s, .int .i64 t, .int .i64 lb, .int .i64 to]) Tryz.func28 rfl Tryz.ntmps28 (by simp) fun w hw => ?_
  -- at 080
  refine Run.adv 2 [] (at_ Tryz.f28 [0,8,0]) [(0, .agg #[.int .i64 l.n, .slice A1 l.ls.length c1, .slice A2 l.es.length c2]), (1, .int .i64 s), (2, .int .i64 t), (3, .int .i64 lb), (4, .int .i64 to)]
    (True)
    (by as_aux_lemma => kernel_rfl) trivial fun s_ => ?_
  refine Run.new #[.int .i64 l.n, .slice A1 l.ls.length c1, .slice A2 l.es.length c2] 25 (fun g_ => .pointer (some ⟨g_, 0, none⟩)) (some 5) (at_ Tryz.f28 [0,8,1]) (by as_aux_lemma => kernel_rfl) fun g1 h1 hng1 hEg1 hBg1 => ?_
  -- at 1084
  refine Run.adv 8 [.val (.agg #[.int .i64 l.n, .slice A1 l.ls.length c1, .slice A2 l.es.length c2])] (at_ Tryz.f28 [1,0,8,4]) [(0, .agg #[.int .i64 l.n, .slice A1 l.ls.length c1, .slice A2 l.es.length c2]), (1, .int .i64 s), (2, .int .i64 t), (3, .int .i64 lb), (4, .int .i64 to), (5, .pointer (some ⟨g1, 0, none⟩)), (10, .int .i64 0), (16, .agg #[.int .i64 l.n, .slice A1 l.ls.length c1, .slice A2 l.es.length c2]), (17, .int .i64 s), (18, .int .i64 t), (19, .int .i64 to)]
    (cellsAt h1 ⟨g1, 0, none⟩ [.int .i64 l.n, .slice A1 l.ls.length c1, .slice A2 l.es.length c2] 0)
    (by as_aux_lemma => kernel_rfl) (hBg1.all (Ext.refl _)) fun s_ => ?_
  refine Run.new #[.int .i64 s, .int .i64 t, .int .i64 to] 3 (fun g_ => .slice (some ⟨g_, 0, none⟩) 3 3) (some 20) (at_ Tryz.f28 [1,0,8,5]) (by as_aux_lemma => kernel_rfl) fun g2 h2 hng2 hEg2 hBg2 => ?_
  have hE02 := hEg1.trans hEg2
  -- at 1085
  refine Run.adv 0 [] (at_ Tryz.f28 [1,0,8,5]) [(0, .agg #[.int .i64 l.n, .slice A1 l.ls.length c1, .slice A2 l.es.length c2]), (1, .int .i64 s), (2, .int .i64 t), (3, .int .i64 lb), (4, .int .i64 to), (5, .pointer (some ⟨g1, 0, none⟩)), (10, .int .i64 0), (16, .agg #[.int .i64 l.n, .slice A1 l.ls.length c1, .slice A2 l.es.length c2]), (17, .int .i64 s), (18, .int .i64 t), (19, .int .i64 to), (20, .slice (some ⟨g2, 0, none⟩) 3 3)]
    (True)
    (by as_aux_lemma => kernel_rfl) trivial fun s_ => ?_
  refine Run.call 50 #[.agg #[.int .i64 l.n, .slice A1 l.ls.length c1, .slice A2 l.es.length c2], .slice (some ⟨g2, 0, none⟩) 3 3] (some 21) (at_ Tryz.f28 [1,0,8,6]) (by as_aux_lemma => kernel_rfl) (openNo_ct A1 A2 (some ⟨g2, 0, none⟩) c1 c2 3 l [s, t, to] _ (hx.ext hE02) (ints_lit (xs := [s, t, to]) hBg2) hl (by simp) (hT.ext hE02) hno) ?_
  rintro _ h3 ⟨rfl, hE3⟩
  -- at 110141
  refine Run.adv 17 [.lit] (at_ Tryz.f28 [1,1,0,1,4,1]) [(10, .int .i64 (-1))]
    (True)
    (by as_aux_lemma => kernel_rfl) trivial fun s_ => ?_
  refine Run.ret [] (.int .i64 (-1)) (True) Tryz.func28 (by as_aux_lemma => kernel_rfl) (by as_aux_lemma => kernel_rfl) trivial ?_
  exact ⟨rfl, hE02.trans hE3⟩
open Classical in
/-- The defender's reply. -/
noncomputable def replyL (l : Lt) (xss : List (List Int)) (s t lb to : Int) : Int := if (s, lb, to) ∈ l.es then bestL xss to (succL l.es t lb) else -1
theorem Reply_ct (A1 A2 : Option Addr) (c1 c2 : Nat) (l : Lt) (s t lb to : Int) (h : Heap) (hx : LtAt h l A1 c1 A2 c2) (hT : Tab h) (hm : May l) (hr : InR l [s, t, to]) (n m : Nat) (hn : l.n = (n : Int)) (hS : Stop l.es n m) :
    Ct Tryz.prog 28 #[.agg #[.int .i64 l.n, .slice A1 l.ls.length c1, .slice A2 l.es.length c2], .int .i64 s, .int .i64 t, .int .i64 lb, .int .i64 to] h
      (fun v h' => v = .int .i64 (replyL l (levs l.es n m) s t lb to) ∧ Ext h h') := by
  have hlen := hm.len
  have hol := outL_len l.es s
  refine Ct.enter (args := [.agg #[.int .i64 l.n, .slice A1 l.ls.length c1, .slice A2 l.es.length c2], .int .i64 s, .int .i64 t, .int .i64 lb, .int .i64 to]) Tryz.func28 rfl Tryz.ntmps28 (by simp) fun w hw => ?_
  -- at 080
  refine Run.adv 2 [] (at_ Tryz.f28 [0,8,0]) [(0, .agg #[.int .i64 l.n, .slice A1 l.ls.length c1, .slice A2 l.es.length c2]), (1, .int .i64 s), (2, .int .i64 t), (3, .int .i64 lb), (4, .int .i64 to)]
    (True)
    (by as_aux_lemma => kernel_rfl) trivial fun s_ => ?_
  refine Run.new #[.int .i64 l.n, .slice A1 l.ls.length c1, .slice A2 l.es.length c2] 25 (fun g_ => .pointer (some ⟨g_, 0, none⟩)) (some 5) (at_ Tryz.f28 [0,8,1]) (by as_aux_lemma => kernel_rfl) fun g1 h1 hng1 hEg1 hBg1 => ?_
  -- at 1084
  refine Run.adv 8 [.val (.agg #[.int .i64 l.n, .slice A1 l.ls.length c1, .slice A2 l.es.length c2])] (at_ Tryz.f28 [1,0,8,4]) [(0, .agg #[.int .i64 l.n, .slice A1 l.ls.length c1, .slice A2 l.es.length c2]), (1, .int .i64 s), (2, .int .i64 t), (3, .int .i64 lb), (4, .int .i64 to), (5, .pointer (some ⟨g1, 0, none⟩)), (10, .int .i64 0), (16, .agg #[.int .i64 l.n, .slice A1 l.ls.length c1, .slice A2 l.es.length c2]), (17, .int .i64 s), (18, .int .i64 t), (19, .int .i64 to)]
    (cellsAt h1 ⟨g1, 0, none⟩ [.int .i64 l.n, .slice A1 l.ls.length c1, .slice A2 l.es.length c2] 0)
    (by as_aux_lemma => kernel_rfl) (hBg1.all (Ext.refl _)) fun s_ => ?_
  refine Run.new #[.int .i64 s, .int .i64 t, .int .i64 to] 3 (fun g_ => .slice (some ⟨g_, 0, none⟩) 3 3) (some 20) (at_ Tryz.f28 [1,0,8,5]) (by as_aux_lemma => kernel_rfl) fun g2 h2 hng2 hEg2 hBg2 => ?_
  have hE02 := hEg1.trans hEg2
  -- at 1085
  refine Run.adv 0 [] (at_ Tryz.f28 [1,0,8,5]) [(0, .agg #[.int .i64 l.n, .slice A1 l.ls.length c1, .slice A2 l.es.length c2]), (1, .int .i64 s), (2, .int .i64 t), (3, .int .i64 lb), (4, .int .i64 to), (5, .pointer (some ⟨g1, 0, none⟩)), (10, .int .i64 0), (16, .agg #[.int .i64 l.n, .slice A1 l.ls.length c1, .slice A2 l.es.length c2]), (17, .int .i64 s), (18, .int .i64 t), (19, .int .i64 to), (20, .slice (some ⟨g2, 0, none⟩) 3 3)]
    (True)
    (by as_aux_lemma => kernel_rfl) trivial fun s_ => ?_
  refine Run.call 50 #[.agg #[.int .i64 l.n, .slice A1 l.ls.length c1, .slice A2 l.es.length c2], .slice (some ⟨g2, 0, none⟩) 3 3] (some 21) (at_ Tryz.f28 [1,0,8,6]) (by as_aux_lemma => kernel_rfl) (openOk_ct A1 A2 (some ⟨g2, 0, none⟩) c1 c2 3 l [s, t, to] _ (hx.ext hE02) (ints_lit (xs := [s, t, to]) hBg2) (by simp) (hT.ext hE02) hm hr n m hn hS) ?_
  rintro v h3 ⟨g, A, c, rfl, hB, hE3⟩
  have hE03 := hE02.trans hE3
  -- at 1110082
  refine Run.adv 19 [.lit, .val (.agg #[.int .i64 l.n, .slice A1 l.ls.length c1, .slice A2 l.es.length c2])] (at_ Tryz.f28 [1,1,1,0,0,8,2]) [(2, .int .i64 t), (3, .int .i64 lb), (4, .int .i64 to), (11, .pointer (some ⟨g, 0, none⟩)), (26, .agg #[.int .i64 l.n, .slice A1 l.ls.length c1, .slice A2 l.es.length c2]), (27, .int .i64 s)]
    (cellsAt h3 ⟨g1, 0, none⟩ [.int .i64 l.n, .slice A1 l.ls.length c1, .slice A2 l.es.length c2] 0)
    (by as_aux_lemma => kernel_rfl) (hBg1.all (hEg2.trans hE3)) fun s_ => ?_
  refine Run.call 54 #[.agg #[.int .i64 l.n, .slice A1 l.ls.length c1, .slice A2 l.es.length c2], .int .i64 s] (some 28) (at_ Tryz.f28 [1,1,1,0,0,8,3]) (by as_aux_lemma => kernel_rfl) (Out_ct A1 A2 c1 c2 l s _ (hx.ext hE03) hm) ?_
  rintro v h4 ⟨A3, c3, rfl, hr3, hE4⟩
  have hE04 := hE03.trans hE4
  generalize hxs : levs l.es n m = xss at *
  -- at 111012
  refine Run.adv 4 [] (at_ Tryz.f28 [1,1,1,0,1,2]) [(2, .int .i64 t), (3, .int .i64 lb), (4, .int .i64 to), (11, .pointer (some ⟨g, 0, none⟩)), (28, .slice A3 ((outL l.es s).length) c3), (29, .int .i64 ((outL l.es s).length : Int)), (30, .int .i64 0)]
    (True)
    (by as_aux_lemma => kernel_rfl) trivial fun s_ => ?_
  refine Run.loop (at_ Tryz.f28 [1,1,1,0,1,2,3]) (at_ Tryz.f28 [1,1,1,0,1,2,7]) (fun i : Nat => [(2, .int .i64 t), (3, .int .i64 lb), (4, .int .i64 to), (11, .pointer (some ⟨g, 0, none⟩)), (28, .slice A3 ((outL l.es s).length) c3), (29, .int .i64 ((outL l.es s).length : Int)), (30, .int .i64 (i : Int))])
    (fun i h5 => i ≤ (outL l.es s).length ∧ (∀ j : Nat, j < i → ¬ ((ed (outL l.es s) j).2.1 = lb ∧ (ed (outL l.es s) j).2.2 = to)) ∧ Ext h4 h5) (fun i => (outL l.es s).length - i) 0 (by as_aux_lemma => kernel_rfl) rfl ?_ ?_
  · exact ⟨Nat.zero_le _, fun j hj => by omega, Ext.refl _⟩
  rintro i s_ h5 ⟨hi, hI, hE⟩ again
  have hE05 := hE04.trans hE
  by_cases hlt : i < (outL l.es s).length
  · obtain ⟨b, off, rfl, hp⟩ := hr3.open_ (by omega)
    have hpe := hp _ hE (i : Int) (by omega) (by omega)
    have hmem : ed (outL l.es s) (i : Int) ∈ outL l.es s := by rw [ed_get _ _ hlt]; exact List.getElem_mem _
    have hse : ed (outL l.es s) (i : Int) ∈ l.es ∧ (ed (outL l.es s) (i : Int)).1 = s := by
      have h2 := hmem
      unfold outL at h2
      rw [List.mem_filter, decide_eq_true_eq] at h2
      exact h2
    rw [show (outL l.es s).getD (i : Int).toNat (0, 0, 0) = ed (outL l.es s) (i : Int) from rfl] at hpe
    generalize hed : ed (outL l.es s) (i : Int) = e at hpe hse
    -- at 11101231102082
    refine Run.adv 13 [.dec true, .val (.agg #[.int .i64 e.1, .int .i64 e.2.1, .int .i64 e.2.2])] (at_ Tryz.f28 [1,1,1,0,1,2,3,1,1,0,2,0,8,2]) [(2, .int .i64 t), (3, .int .i64 lb), (4, .int .i64 to), (11, .pointer (some ⟨g, 0, none⟩)), (28, .slice (some ⟨b, off, none⟩) ((outL l.es s).length) c3), (29, .int .i64 ((outL l.es s).length : Int)), (30, .int .i64 (i : Int)), (33, .agg #[.int .i64 e.1, .int .i64 e.2.1, .int .i64 e.2.2])]
      ((decide ((i : Int) < ((outL l.es s).length : Int))) = true ∧ (0 ≤ (i : Int) ∧ (i : Int) < ((outL l.es s).length : Int)) ∧ cellsAt h5 ⟨b, off + (i : Int).toNat * 3, none⟩ [.int .i64 e.1, .int .i64 e.2.1, .int .i64 e.2.2] 0)
      (by as_aux_lemma => kernel_rfl) ⟨(by first | assumption | exact decide_eq_true (by first | omega | assumption)), ⟨by omega, by omega⟩, (by exact hpe)⟩ fun s_ => ?_
    refine Run.new #[.int .i64 0, .int .i64 0, .int .i64 0] 64 (fun g_ => .pointer (some ⟨g_, 0, none⟩)) (some 14) (at_ Tryz.f28 [1,1,1,0,1,2,3,1,1,0,2,0,8,3]) (by as_aux_lemma => kernel_rfl) fun g6 h6 hng6 hEg6 hBg6 => ?_
    refine Run.store g6 0 [.int .i64 e.1, .int .i64 e.2.1, .int .i64 e.2.2] (at_ Tryz.f28 [1,1,1,0,1,2,3,1,1,0,2,0,8,4]) (by as_aux_lemma => kernel_rfl) (hBg6.ext (Ext.refl _)) (by simp) rfl fun h7 hMh7 hzh7 (hBg6_h7 : Blk h7 g6 #[.int .i64 e.1, .int .i64 e.2.1, .int .i64 e.2.2] 64) => ?_
    have hE57 := (hMh7.ext_new hEg6 hng6 (Ext.refl _))
    have next : ¬ (e.2.1 = lb ∧ e.2.2 = to) → ∀ j : Nat, j < i + 1 → ¬ ((ed (outL l.es s) j).2.1 = lb ∧ (ed (outL l.es s) j).2.2 = to) := fun hno j hj => by
      by_cases e3 : j = i
      · subst e3; rw [hed]; exact hno
      · exact hI j (by omega)
    by_cases e1 : e.2.1 = lb
    · by_cases e2 : e.2.2 = to
      · -- at 11101231102114083
        refine Run.adv 20 [.val (.int .i64 e.2.1), .dec true, .lit, .val (.int .i64 e.2.2), .lit, .lit, .dec true, .val (.agg #[.int .i64 e.1, .int .i64 e.2.1, .int .i64 e.2.2])] (at_ Tryz.f28 [1,1,1,0,1,2,3,1,1,0,2,1,1,4,0,8,3]) [(44, .pointer (some ⟨g, 0, none⟩)), (45, .int .i64 t), (46, .agg #[.int .i64 e.1, .int .i64 e.2.1, .int .i64 e.2.2])]
          (cellH h7 ⟨g6, 1, none⟩ = some (.int .i64 e.2.1) ∧ (e.2.1 == lb) = true ∧ cellH h7 ⟨g6, 2, none⟩ = some (.int .i64 e.2.2) ∧ (e.2.2 == to) = true ∧ cellsAt h7 ⟨g6, 0, none⟩ [.int .i64 e.1, .int .i64 e.2.1, .int .i64 e.2.2] 0)
          (by as_aux_lemma => kernel_rfl) ⟨(hBg6_h7.at (Ext.refl _) 1 rfl), (beq_iff_eq.2 (by first | omega | assumption)), (hBg6_h7.at (Ext.refl _) 2 rfl), (beq_iff_eq.2 (by first | omega | assumption)), (hBg6_h7.all (Ext.refl _))⟩ fun s_ => ?_
        refine Run.call 55 #[.pointer (some ⟨g, 0, none⟩), .int .i64 t, .agg #[.int .i64 e.1, .int .i64 e.2.1, .int .i64 e.2.2]] (some 47) (at_ Tryz.f28 [1,1,1,0,1,2,3,1,1,0,2,1,1,4,0,8,4]) (by as_aux_lemma => kernel_rfl) (reply_ct g A1 A2 A c1 c2 c l xss t e.1 e.2.1 e.2.2 _ (hB.ext ((hE4.trans hE).trans hE57)) hm) ?_
        rintro _ h8 ⟨rfl, hE8⟩
        -- at 111012311021141
        refine Run.adv 2 [] (at_ Tryz.f28 [1,1,1,0,1,2,3,1,1,0,2,1,1,4,1]) [(10, .int .i64 (bestL xss e.2.2 (succL l.es t e.2.1)))]
          (True)
          (by as_aux_lemma => kernel_rfl) trivial fun s_ => ?_
        refine Run.ret [] (.int .i64 (bestL xss e.2.2 (succL l.es t e.2.1))) (True) Tryz.func28 (by as_aux_lemma => kernel_rfl) (by as_aux_lemma => kernel_rfl) trivial ?_
        refine ⟨?_, (hE05.trans hE57).trans hE8⟩
        unfold replyL
        rw [e1, e2, if_pos]
        have h3 := hse.1
        rw [show e = (s, lb, to) from by rw [← hse.2, ← e1, ← e2]] at h3
        exact h3
      · -- at 1110127
        refine Run.adv 21 [.val (.int .i64 e.2.1), .dec true, .lit, .val (.int .i64 e.2.2), .lit, .lit, .dec false] (at_ Tryz.f28 [1,1,1,0,1,2,7]) [(2, .int .i64 t), (3, .int .i64 lb), (4, .int .i64 to), (11, .pointer (some ⟨g, 0, none⟩)), (28, .slice (some ⟨b, off, none⟩) ((outL l.es s).length) c3), (29, .int .i64 ((outL l.es s).length : Int)), (30, .int .i64 ((i + 1 : Nat) : Int))]
          (cellH h7 ⟨g6, 1, none⟩ = some (.int .i64 e.2.1) ∧ (e.2.1 == lb) = true ∧ cellH h7 ⟨g6, 2, none⟩ = some (.int .i64 e.2.2) ∧ (e.2.2 == to) = false ∧ (-9223372036854775808 ≤ (i : Int) + 1 ∧ (i : Int) + 1 ≤ 9223372036854775807))
          (by as_aux_lemma => kernel_rfl) ⟨(hBg6_h7.at (Ext.refl _) 1 rfl), (beq_iff_eq.2 (by first | omega | assumption)), (hBg6_h7.at (Ext.refl _) 2 rfl), (beq_eq_false_iff_ne.2 (by first | omega | assumption)), ⟨by omega, by omega⟩⟩ fun s_ => ?_
        exact again (i + 1) _ _ ⟨by omega, next (fun hh => e2 hh.2), hE.trans hE57⟩ (by omega)
    · -- at 1110127
      refine Run.adv 21 [.val (.int .i64 e.2.1), .dec false, .lit, .lit, .lit, .lit] (at_ Tryz.f28 [1,1,1,0,1,2,7]) [(2, .int .i64 t), (3, .int .i64 lb), (4, .int .i64 to), (11, .pointer (some ⟨g, 0, none⟩)), (28, .slice (some ⟨b, off, none⟩) ((outL l.es s).length) c3), (29, .int .i64 ((outL l.es s).length : Int)), (30, .int .i64 ((i + 1 : Nat) : Int))]
        (cellH h7 ⟨g6, 1, none⟩ = some (.int .i64 e.2.1) ∧ (e.2.1 == lb) = false ∧ (-9223372036854775808 ≤ (i : Int) + 1 ∧ (i : Int) + 1 ≤ 9223372036854775807))
        (by as_aux_lemma => kernel_rfl) ⟨(hBg6_h7.at (Ext.refl _) 1 rfl), (beq_eq_false_iff_ne.2 (by first | omega | assumption)), ⟨by omega, by omega⟩⟩ fun s_ => ?_
      exact again (i + 1) _ _ ⟨by omega, next (fun hh => e1 hh.1), hE.trans hE57⟩ (by omega)
  · -- at 11111
    refine Run.adv 11 [.dec false] (at_ Tryz.f28 [1,1,1,1,1]) [(10, .int .i64 (-1))]
      ((decide ((i : Int) < ((outL l.es s).length : Int))) = false)
      (by as_aux_lemma => kernel_rfl) (by first | assumption | exact decide_eq_false (by first | omega | assumption)) fun s_ => ?_
    refine Run.ret [] (.int .i64 (-1)) (True) Tryz.func28 (by as_aux_lemma => kernel_rfl) (by as_aux_lemma => kernel_rfl) trivial ?_
    refine ⟨?_, hE05⟩
    unfold replyL
    rw [if_neg]
    intro hmem
    have h2 : (s, lb, to) ∈ outL l.es s := by unfold outL; rw [List.mem_filter, decide_eq_true_eq]; exact ⟨hmem, rfl⟩
    obtain ⟨j, hj, h3⟩ := List.mem_iff_getElem.1 h2
    refine hI j (by omega) ?_
    rw [ed_get _ _ hj, h3]
    exact ⟨rfl, rfl⟩
end Go.Proofs.YtbajgbkkbabmlaaGreatDoor
