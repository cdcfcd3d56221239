/- The plain example of layer 58; GameReplies, walked. -/
import Derived.Test.YtbajgbkkbabmlaaGreatDoorProg
import Derived.Test.YtbajgbkkbabmlaaGreatDoorO7
set_option linter.unusedVariables false
namespace Go.Proofs.YtbajgbkkbabmlaaGreatDoor
open Go.Vc

/-- The plain example's system. -/
def l58 : Lt := ⟨2, [⟨#[97]⟩], [(0, 0, 1)]⟩
theorem may58 : May l58 where
  n1 := by decide
  n2 := by decide
  ls := by
    refine ⟨by decide, fun i h0 h1 => ?_⟩
    have : i = 0 := by
      have : l58.ls.length = 1 := rfl
      omega
    subst this
    exact ⟨by decide, fun hh => by omega⟩
  len := by decide
  es := by
    intro i h0 h1
    have : i = 0 := by
      have : l58.es.length = 1 := rfl
      omega
    subst this
    exact ⟨by unfold EdgeMay; decide, fun hh => by omega⟩
theorem at58 {h h' : Heap} {g6 g9 : Nat} {t1 t2 : TypeId} (h6 : Blk h g6 #[.string ⟨#[97]⟩] t1) (h9 : Blk h' g9 #[.int .i64 0, .int .i64 0, .int .i64 1] t2) (E : Ext h h') : LtAt h' l58 (some ⟨g6, 0, none⟩) 1 (some ⟨g9, 0, none⟩) 1 :=
  ⟨row1_lit ByteArray.empty (xs := l58.ls) (h6.ext E) (by decide), rowK_lit (enc := encE) (k := 3) (fun _ => rfl) (0, 0, 0) (xs := l58.es) h9 (by decide)⟩
theorem lev58_0 : lev l58.es 2 0 = [0, 0] := rfl
theorem lev58_1 : lev l58.es 2 1 = [0, 1] := by
  show stepL l58.es [0, 0] = _
  rw [stepL_short (by decide)]; decide
theorem lev58_2 : lev l58.es 2 2 = [0, 1] := by
  show stepL l58.es (lev l58.es 2 1) = _
  rw [lev58_1, stepL_short (by decide)]; decide
theorem stop58 : Stop l58.es 2 1 where
  at_ := by rw [lev58_2, lev58_1]
  first j hj := by
    obtain rfl : j = 0 := by omega
    rw [lev58_1, lev58_0]; decide
theorem levs58 : levs l58.es 2 1 = [[0, 0], [0, 1]] := by
  unfold levs
  rw [show List.range (1 + 1) = [0, 1] from rfl]
  simp only [List.map_cons, List.map_nil, lev58_1]
  rfl
theorem apart58 : apartI (levs l58.es 2 1) 0 1 = 1 := by
  rw [levs58]
  exact apartI_eq (.inr ⟨1, rfl, by decide, by unfold ApartIn; decide, fun j hj => by
    obtain rfl : j = 0 := by omega
    unfold ApartIn; decide⟩)
theorem apart58_11 : apartI (levs l58.es 2 1) 1 1 = -1 := apartI_eq (.inl ⟨rfl, fun j hj hh => hh.2.2.2.2 rfl⟩)
theorem late58 : lateI (levs l58.es 2 1) 1 0 = 1 := by
  rw [lateI_comm]; unfold lateI; rw [apart58]; decide
theorem reply58 : replyL l58 (levs l58.es 2 1) 0 0 0 1 = 1 := by
  unfold replyL
  rw [if_pos (by decide), show succL l58.es 0 0 = [1] by decide]
  show bestS (levs l58.es 2 1) 1 (-1) 1 = 1
  exact if_pos (.inl (by decide))
theorem reply58_n : replyL l58 (levs l58.es 2 1) 0 1 0 1 = -1 := by
  unfold replyL
  rw [if_pos (by decide), show succL l58.es 1 0 = [] by decide]
  rfl
theorem round58 : roundL l58 (levs l58.es 2 1) 1 0 = ((2, ⟨#[97]⟩, 1, -1), -1, 1) := by
  unfold roundL
  rw [late58]
  have h1 : attackL l58 (levs l58.es 2 1) 1 0 1 = none := by
    unfold attackL; rw [show outL l58.es 1 = [] by decide]; rfl
  have h2 : attackL l58 (levs l58.es 2 1) 0 1 1 = some (0, 0, 1) := by
    unfold attackL
    rw [show outL l58.es 0 = [(0, 0, 1)] by decide]
    refine List.find?_cons_of_pos ?_
    unfold hitB
    rw [decide_eq_true_eq]
    left
    rw [show succL l58.es 1 (0, (0 : Int), (1 : Int)).2.1 = [] by decide]
    exact (by decide : (-1 : Int) < 0)
  rw [h1, h2]
  simp only
  rw [show succL l58.es 1 0 = [] by decide]
  rfl
theorem play58 : playL l58 (levs l58.es 2 1) (levs l58.es 2 1).length 1 0 = [(2, ⟨#[97]⟩, 1, -1)] := by
  rw [levs_len, playL_on ⟨by decide, by decide, by rw [late58, levs_len]; decide⟩, round58]
  rw [playL_off (fun hh => by have := hh.1; simp only at this; omega)]
theorem awake58_ct (h : Heap) (hT : Tab h) : Ct Tryz.prog 24 #[] h (fun v h' => v = .bool true ∧ Ext h h') := by
  refine Ct.enter (args := []) Tryz.func24 rfl Tryz.ntmps24 (by simp) fun w hw => ?_
  -- at 1080
  refine Run.adv 6 [] (at_ Tryz.f24 [1,0,8,0]) [(0, .bool false)]
    (True)
    (by as_aux_lemma => kernel_rfl) trivial fun s_ => ?_
  refine Run.new #[.string ⟨#[97]⟩] 9 (fun g_ => .slice (some ⟨g_, 0, none⟩) 1 1) (some 8) (at_ Tryz.f24 [1,0,8,1]) (by as_aux_lemma => kernel_rfl) fun g6 h6 hng6 hEg6 hBg6 => ?_
  -- at 1082
  refine Run.adv 1 [] (at_ Tryz.f24 [1,0,8,2]) [(0, .bool false), (8, .slice (some ⟨g6, 0, none⟩) 1 1), (9, .agg #[.int .i64 0, .int .i64 0, .int .i64 1])]
    (True)
    (by as_aux_lemma => kernel_rfl) trivial fun s_ => ?_
  refine Run.new #[.int .i64 0, .int .i64 0, .int .i64 1] 64 (fun g_ => .slice (some ⟨g_, 0, none⟩) 1 1) (some 10) (at_ Tryz.f24 [1,0,8,3]) (by as_aux_lemma => kernel_rfl) fun g9 h9 hng9 hEg9 hBg9 => ?_
  -- at 1084
  refine Run.adv 1 [] (at_ Tryz.f24 [1,0,8,4]) [(0, .bool false), (8, .slice (some ⟨g6, 0, none⟩) 1 1), (9, .agg #[.int .i64 0, .int .i64 0, .int .i64 1]), (10, .slice (some ⟨g9, 0, none⟩) 1 1), (11, .agg #[.int .i64 2, .slice (some ⟨g6, 0, none⟩) 1 1, .slice (some ⟨g9, 0, none⟩) 1 1])]
    (True)
    (by as_aux_lemma => kernel_rfl) trivial fun s_ => ?_
  refine Run.new #[.int .i64 0, .slice none 0 0, .slice none 0 0] 25 (fun g_ => .pointer (some ⟨g_, 0, none⟩)) (some 1) (at_ Tryz.f24 [1,0,8,5]) (by as_aux_lemma => kernel_rfl) fun g1 h1 hng1 hEg1 hBg1 => ?_
  refine Run.store g1 0 [.int .i64 2, .slice (some ⟨g6, 0, none⟩) 1 1, .slice (some ⟨g9, 0, none⟩) 1 1] (at_ Tryz.f24 [1,0,8,6]) (by as_aux_lemma => kernel_rfl) (hBg1.ext (Ext.refl _)) (by simp) rfl fun h2 hMh2 hzh2 (hBg1_h2 : Blk h2 g1 #[.int .i64 2, .slice (some ⟨g6, 0, none⟩) 1 1, .slice (some ⟨g9, 0, none⟩) 1 1] 25) => ?_
  have hL := (at58 hBg6 hBg9 hEg9).ext (hMh2.ext_new hEg1 hng1 (Ext.refl _))
  have hE02 := (hMh2.ext_new ((hEg6.trans hEg9).trans hEg1) hng1 (hEg6.trans hEg9))
  -- at 11081
  refine Run.adv 4 [.val (.agg #[.int .i64 2, .slice (some ⟨g6, 0, none⟩) 1 1, .slice (some ⟨g9, 0, none⟩) 1 1])] (at_ Tryz.f24 [1,1,0,8,1]) [(1, .pointer (some ⟨g1, 0, none⟩)), (13, .agg #[.int .i64 2, .slice (some ⟨g6, 0, none⟩) 1 1, .slice (some ⟨g9, 0, none⟩) 1 1])]
    (cellsAt h2 ⟨g1, 0, none⟩ [.int .i64 2, .slice (some ⟨g6, 0, none⟩) 1 1, .slice (some ⟨g9, 0, none⟩) 1 1] 0)
    (by as_aux_lemma => kernel_rfl) (hBg1_h2.all (Ext.refl _)) fun s_ => ?_
  refine Run.call 25 #[.agg #[.int .i64 2, .slice (some ⟨g6, 0, none⟩) 1 1, .slice (some ⟨g9, 0, none⟩) 1 1], .int .i64 1, .int .i64 0] (some 14) (at_ Tryz.f24 [1,1,0,8,2]) (by as_aux_lemma => kernel_rfl) (Play_ct _ _ 1 1 l58 1 0 _ hL (hT.ext hE02) may58 (fun j hj => by match j, hj with | 0, _ => exact ⟨by decide, by decide⟩ | 1, _ => exact ⟨by decide, by decide⟩) 2 1 rfl stop58) ?_
  rintro v h3 ⟨A3, c3, rfl, hr3, hE3⟩
  rw [play58] at hr3 ⊢
  obtain ⟨b, off, rfl, hp⟩ := hr3.open_ (by simp)
  have hE03 := hE02.trans hE3
  -- at 111081
  refine Run.adv 9 [.val (.agg #[.int .i64 2, .slice (some ⟨g6, 0, none⟩) 1 1, .slice (some ⟨g9, 0, none⟩) 1 1])] (at_ Tryz.f24 [1,1,1,0,8,1]) [(1, .pointer (some ⟨g1, 0, none⟩)), (2, .slice (some ⟨b, off, none⟩) 1 c3), (3, .int .i64 0), (18, .agg #[.int .i64 2, .slice (some ⟨g6, 0, none⟩) 1 1, .slice (some ⟨g9, 0, none⟩) 1 1])]
    (cellsAt h3 ⟨g1, 0, none⟩ [.int .i64 2, .slice (some ⟨g6, 0, none⟩) 1 1, .slice (some ⟨g9, 0, none⟩) 1 1] 0)
    (by as_aux_lemma => kernel_rfl) (hBg1_h2.all hE3) fun s_ => ?_
  refine Run.call 26 #[.agg #[.int .i64 2, .slice (some ⟨g6, 0, none⟩) 1 1, .slice (some ⟨g9, 0, none⟩) 1 1], .int .i64 0, .int .i64 1] (some 19) (at_ Tryz.f24 [1,1,1,0,8,2]) (by as_aux_lemma => kernel_rfl) (Rounds_ct _ _ 1 1 l58 0 1 _ (hL.ext hE3) (hT.ext hE03) may58 (fun j hj => by match j, hj with | 0, _ => exact ⟨by decide, by decide⟩ | 1, _ => exact ⟨by decide, by decide⟩) 2 1 rfl stop58) ?_
  rintro _ h4 ⟨rfl, hE4⟩
  rw [apart58]
  have hE04 := hE03.trans hE4
  -- at 1111081
  refine Run.adv 9 [.val (.agg #[.int .i64 2, .slice (some ⟨g6, 0, none⟩) 1 1, .slice (some ⟨g9, 0, none⟩) 1 1])] (at_ Tryz.f24 [1,1,1,1,0,8,1]) [(1, .pointer (some ⟨g1, 0, none⟩)), (2, .slice (some ⟨b, off, none⟩) 1 c3), (3, .int .i64 0), (4, .int .i64 1), (5, .int .i64 0), (23, .agg #[.int .i64 2, .slice (some ⟨g6, 0, none⟩) 1 1, .slice (some ⟨g9, 0, none⟩) 1 1])]
    (cellsAt h4 ⟨g1, 0, none⟩ [.int .i64 2, .slice (some ⟨g6, 0, none⟩) 1 1, .slice (some ⟨g9, 0, none⟩) 1 1] 0)
    (by as_aux_lemma => kernel_rfl) (hBg1_h2.all (hE3.trans hE4)) fun s_ => ?_
  refine Run.call 26 #[.agg #[.int .i64 2, .slice (some ⟨g6, 0, none⟩) 1 1, .slice (some ⟨g9, 0, none⟩) 1 1], .int .i64 1, .int .i64 1] (some 24) (at_ Tryz.f24 [1,1,1,1,0,8,2]) (by as_aux_lemma => kernel_rfl) (Rounds_ct _ _ 1 1 l58 1 1 _ (hL.ext (hE3.trans hE4)) (hT.ext hE04) may58 (fun j hj => by match j, hj with | 0, _ => exact ⟨by decide, by decide⟩ | 1, _ => exact ⟨by decide, by decide⟩) 2 1 rfl stop58) ?_
  rintro _ h5 ⟨rfl, hE5⟩
  rw [apart58_11]
  have hE35 := hE4.trans hE5
  have hE05 := hE04.trans hE5
  have hpe := hp _ hE35 0 (by decide) (by simp)
  -- at 111110832
  refine Run.adv 40 [.lit, .lit, .lit, .lit, .lit, .lit, .val (.agg #[.int .i64 2, .string ⟨#[97]⟩, .int .i64 1, .int .i64 (-1)]), .lit, .lit, .dec true, .lit, .lit, .lit, .lit, .lit, .lit, .lit, .lit, .val (.agg #[.int .i64 2, .slice (some ⟨g6, 0, none⟩) 1 1, .slice (some ⟨g9, 0, none⟩) 1 1])] (at_ Tryz.f24 [1,1,1,1,1,0,8,32]) [(1, .pointer (some ⟨g1, 0, none⟩)), (57, .bool true), (58, .agg #[.int .i64 2, .slice (some ⟨g6, 0, none⟩) 1 1, .slice (some ⟨g9, 0, none⟩) 1 1])]
    ((0 ≤ (0 : Int) ∧ (0 : Int) < 1) ∧ cellsAt h5 ⟨b, off, none⟩ [.int .i64 2, .string ⟨#[97]⟩, .int .i64 1, .int .i64 (-1)] 0 ∧ ((2 == 2) && (((⟨#[97]⟩ : ByteArray).toList == (⟨#[97]⟩ : ByteArray).toList) && ((1 == 1) && (((-1) == (-1)) && true)))) = true ∧ cellsAt h5 ⟨g1, 0, none⟩ [.int .i64 2, .slice (some ⟨g6, 0, none⟩) 1 1, .slice (some ⟨g9, 0, none⟩) 1 1] 0)
    (by as_aux_lemma => kernel_rfl) ⟨⟨by omega, by omega⟩, (by exact hpe), (by simp), (hBg1_h2.all ((hE3.trans hE4).trans hE5))⟩ fun s_ => ?_
  refine Run.call 28 #[.agg #[.int .i64 2, .slice (some ⟨g6, 0, none⟩) 1 1, .slice (some ⟨g9, 0, none⟩) 1 1], .int .i64 0, .int .i64 0, .int .i64 0, .int .i64 1] (some 59) (at_ Tryz.f24 [1,1,1,1,1,0,8,33]) (by as_aux_lemma => kernel_rfl) (Reply_ct _ _ 1 1 l58 0 0 0 1 _ (hL.ext (hE3.trans hE35)) (hT.ext hE05) may58 (fun j hj => by match j, hj with | 0, _ => exact ⟨by decide, by decide⟩ | 1, _ => exact ⟨by decide, by decide⟩ | 2, _ => exact ⟨by decide, by decide⟩) 2 1 rfl stop58) ?_
  rintro _ h7 ⟨rfl, hE7⟩
  rw [reply58]
  -- at 111110837
  refine Run.adv 4 [.lit, .lit, .val (.agg #[.int .i64 2, .slice (some ⟨g6, 0, none⟩) 1 1, .slice (some ⟨g9, 0, none⟩) 1 1])] (at_ Tryz.f24 [1,1,1,1,1,0,8,37]) [(1, .pointer (some ⟨g1, 0, none⟩)), (62, .bool true), (63, .agg #[.int .i64 2, .slice (some ⟨g6, 0, none⟩) 1 1, .slice (some ⟨g9, 0, none⟩) 1 1])]
    (cellsAt h7 ⟨g1, 0, none⟩ [.int .i64 2, .slice (some ⟨g6, 0, none⟩) 1 1, .slice (some ⟨g9, 0, none⟩) 1 1] 0)
    (by as_aux_lemma => kernel_rfl) (hBg1_h2.all (((hE3.trans hE4).trans hE5).trans hE7)) fun s_ => ?_
  refine Run.call 28 #[.agg #[.int .i64 2, .slice (some ⟨g6, 0, none⟩) 1 1, .slice (some ⟨g9, 0, none⟩) 1 1], .int .i64 0, .int .i64 1, .int .i64 0, .int .i64 1] (some 64) (at_ Tryz.f24 [1,1,1,1,1,0,8,38]) (by as_aux_lemma => kernel_rfl) (Reply_ct _ _ 1 1 l58 0 1 0 1 _ (hL.ext ((hE3.trans hE35).trans hE7)) (hT.ext (hE05.trans hE7)) may58 (fun j hj => by match j, hj with | 0, _ => exact ⟨by decide, by decide⟩ | 1, _ => exact ⟨by decide, by decide⟩ | 2, _ => exact ⟨by decide, by decide⟩) 2 1 rfl stop58) ?_
  rintro _ h8 ⟨rfl, hE8⟩
  rw [reply58_n]
  -- at 111111
  refine Run.adv 4 [.lit] (at_ Tryz.f24 [1,1,1,1,1,1]) [(0, .bool true)]
    (True)
    (by as_aux_lemma => kernel_rfl) trivial fun s_ => ?_
  refine Run.ret [] (.bool true) (True) Tryz.func24 (by as_aux_lemma => kernel_rfl) (by as_aux_lemma => kernel_rfl) trivial ?_
  exact ⟨rfl, (hE05.trans hE7).trans hE8⟩
end Go.Proofs.YtbajgbkkbabmlaaGreatDoor
