/- sign.key, walked. -/
import Derived.Test.YtbajgbkkbabmlaaGreatDoorProg
import Derived.Test.YtbajgbkkbabmlaaGreatDoorVn
import Derived.Test.YtbajgbkkbabmlaaGreatDoorPw
import Derived.Test.YtbajgbkkbabmlaaGreatDoorShelf
import Derived.Laws.BytesArg
import Derived.Lib.AppendIntMem
import Derived.Lib.ItoaLen
set_option linter.unusedVariables false
namespace Go.Proofs.YtbajgbkkbabmlaaGreatDoor
open Go.Vc
open Go.Lib (itoa byteCells)

/-- The library's table of powers of ten lies in memory. -/
def Tab (h : Heap) : Prop := ∀ w : World, w.heap = h → Lib.TabIs Tryz.prog w "internal/strconv.uint64pow10" .u64 Lib.pow10Tab
theorem Tab.ext {h h' : Heap} (T : Tab h) (E : Ext h h') : Tab h' := fun w hw => by
  have h1 := T { w with heap := h } rfl
  unfold Lib.TabIs World.var? at *
  obtain ⟨g, hg, hc⟩ := Option.bind_eq_some_iff.1 h1
  rw [hg]
  simp only [Option.bind_some] at hc ⊢
  have hlt : g < h.size := by
    rcases Nat.lt_or_ge g h.size with hlt | hge
    · exact hlt
    · rw [Array.getElem?_eq_none hge] at hc; cases hc
  rw [hw, E.keep g hlt]
  exact hc
theorem says_bytes {P : Program} {src dst e : TypeId} (hs : P.underlying src = some (.slice e)) (he : P.underlying e = some (.int .u8)) (hd : P.underlying dst = some .string) {h : Heap} {t : TypeId} {v : Value} {l : List UInt8} {og : Option Nat}
    (o : Own h t 1 v l.length (byteCells l) og) : Says P (convert src dst v) (.string ⟨l.toArray⟩) h := by
  rintro w rfl
  cases og with
  | none =>
    obtain ⟨rfl, hn, _⟩ := o
    have : l = [] := List.eq_nil_of_length_eq_zero hn
    subst this
    exact run_convert_bytes_nil w src e hs he 0 0 dst hd
  | some g =>
    obtain ⟨A, c, rfl⟩ := o.slice
    obtain ⟨rfl, _⟩ := o.addr
    have := run_convert_bytes_arg (P := P) w src e hs he g 0 l.length c (l.map fun b => (b.toNat : Int)) (by simp) (fun i hi => by
      rw [Nat.zero_add, cellH_eq]
      refine o.cell ?_
      simp [byteCells, hi]) dst hd
    rw [this]
    congr 2
    unfold strOfNums
    congr 2
    rw [List.map_map]
    exact (List.map_congr_left fun b _ => by simp).trans (List.map_id l)
theorem appI_ct (h0 h : Heap) (E0 : Ext h0 h) (hT : Tab h0) (v : Value) (m : Nat) (xs : List Value) (og : Option Nat) (hO : Own h 5 1 v m xs og) (hg : ∀ g, og = some g → h0.size ≤ g) (i : Int) (hi : -9223372036854775808 ≤ i) (hi2 : i ≤ 9223372036854775807) (hm : m ≤ 1000000000000) :
    Ct Tryz.prog 110 #[v, .int .i64 i, .int .i64 10] h (fun v' h' => ∃ og' A' c', v' = .slice A' (m + (itoa i).length) c' ∧ Own h' 5 1 (.slice A' (m + (itoa i).length) c') (m + (itoa i).length) (xs ++ byteCells (itoa i)) og' ∧ (∀ g, og' = some g → h0.size ≤ g) ∧ Ext h0 h' ∧
      ∀ b cs t, Blk h b cs t → t ≠ 5 → Blk h' b cs t) := by
  rintro w rfl
  have hT2 : Lib.TabBelow Tryz.prog h0.size w "internal/strconv.uint64pow10" .u64 Lib.pow10Tab := by
    have h1 := Lib.tabBelow_of_tabIs (hT { w with heap := h0 } rfl)
    exact h1.on ⟨rfl, rfl, rfl, E0.size, E0.keep⟩
  refine (Tryz.strconv_AppendInt_10 h0.size m i hi hi2 v xs w (hO.row hg) E0.size (by omega) hT2).mono ?_
  rintro e w' ⟨v', rfl, hO', hB, hK⟩
  obtain ⟨og', hOwn, hge⟩ := own_row hO'
  obtain ⟨A', c', rfl⟩ := hOwn.slice
  refine ⟨_, rfl, ⟨hB.os, hB.tape, hB.output, fun e => by cases e⟩, og', A', c', rfl, hOwn, hge, ⟨Nat.le_trans E0.size hB.size, fun b hb => (hB.block b hb).trans (E0.keep b hb)⟩, fun b cs t hb ht => hK b _ hb (by simp) (fun c fz e => by injection e with _ e2 _; exact ht e2)⟩
theorem byteCells_app (a b : List UInt8) : byteCells (a ++ b) = byteCells a ++ byteCells b := by simp [byteCells]
theorem key_ct (A : Option Addr) (c : Nat) (b0 : Int) (ws : List Wy) (h : Heap) (hx : Wys h A ws c) (hT : Tab h) (hb1 : -9223372036854775808 ≤ b0) (hb2 : b0 ≤ 9223372036854775807) (hw1 : ∀ w ∈ ws, (-9223372036854775808 ≤ w.1 ∧ w.1 ≤ 9223372036854775807) ∧ -9223372036854775808 ≤ w.2 ∧ w.2 ≤ 9223372036854775807) (hl : ws.length ≤ 1000000) :
    Ct Tryz.prog 83 #[.int .i64 b0, .slice A ws.length c] h (fun v h' => v = .string ⟨(keyB b0 ws).toArray⟩ ∧ Ext h h') := by
  refine Ct.enter (args := [.int .i64 b0, .slice A ws.length c]) Tryz.func83 rfl Tryz.ntmps83 (by simp) fun w hw => ?_
  -- at 1081
  refine Run.adv 7 [] (at_ Tryz.f83 [1,0,8,1]) [(0, .int .i64 b0), (1, .slice A ws.length c), (4, .string ⟨#[]⟩), (8, .int .i64 b0)]
    (True)
    (by as_aux_lemma => kernel_rfl) trivial fun s_ => ?_
  refine Run.call 110 #[.slice none 0 0, .int .i64 b0, .int .i64 10] (some 9) (at_ Tryz.f83 [1,0,8,2]) (by as_aux_lemma => kernel_rfl) (appI_ct h _ (Ext.refl _) hT _ 0 [] none (Own.nil _ _ _) (by simp) b0 hb1 hb2 (by omega)) ?_
  rintro _ h1 ⟨og1, A1, c1, rfl, hO1, hg1, hE1, -⟩
  have hbl := Lib.itoa_length_le b0 hb1 hb2
  -- at 11012
  refine Run.adv 10 [] (at_ Tryz.f83 [1,1,0,1,2]) [(5, .slice A1 (0 + (itoa b0).length) c1), (10, .slice A ws.length c), (11, .int .i64 (ws.length : Int)), (12, .int .i64 0)]
    (True)
    (by as_aux_lemma => kernel_rfl) trivial fun s_ => ?_
  refine Run.loop (at_ Tryz.f83 [1,1,0,1,2,3]) (at_ Tryz.f83 [1,1,0,1,2,7]) (fun (⟨i, A2, m, c2⟩ : Nat × Option Addr × Nat × Nat) => [(5, .slice A2 m c2), (10, .slice A ws.length c), (11, .int .i64 (ws.length : Int)), (12, .int .i64 (i : Int))])
    (fun ⟨i, A2, m, c2⟩ h2 => i ≤ ws.length ∧ m = (keyB b0 (ws.take i)).length ∧ m ≤ 21 + 44 * i ∧ ∃ og, Own h2 5 1 (.slice A2 m c2) m (byteCells (keyB b0 (ws.take i))) og ∧ Ext h h2 ∧ ∀ g', og = some g' → h.size ≤ g') (fun ⟨i, A2, m, c2⟩ => ws.length - i) (0, A1, 0 + (itoa b0).length, c1) (by as_aux_lemma => kernel_rfl) rfl ?_ ?_
  · have hk0 : keyB b0 (ws.take 0) = itoa b0 := by simp [keyB]
    dsimp only
    rw [hk0]
    exact ⟨Nat.zero_le _, by simp, by omega, og1, by simpa using hO1, hE1, hg1⟩
  rintro ⟨i, A2, m, c2⟩ s h2 ⟨hi, hm, hml, og, hO, hE, hg⟩ again
  simp only at hi hm hml hO hE hg again
  by_cases hlt : i < ws.length
  · obtain ⟨b, off, rfl, hp⟩ := hx.open_ (by omega)
    have hwm : wd ws i ∈ ws := by
      unfold wd; rw [List.getD_eq_getElem?_getD, List.getElem?_eq_getElem hlt]; exact List.getElem_mem _
    obtain ⟨⟨q1, q2⟩, q3, q4⟩ := hw1 _ hwm
    have hl1 := Lib.itoa_length_le (wd ws i).1 q1 q2
    have hl2 := Lib.itoa_length_le (wd ws i).2 q3 q4
    -- at 1101231102082
    refine Run.adv 13 [.dec true, .val (.agg #[.int .i64 ((wd ws i).1), .int .i64 ((wd ws i).2)])] (at_ Tryz.f83 [1,1,0,1,2,3,1,1,0,2,0,8,2]) [(5, .slice A2 m c2), (10, .slice (some ⟨b, off, none⟩) ws.length c), (11, .int .i64 (ws.length : Int)), (12, .int .i64 (i : Int)), (15, .agg #[.int .i64 ((wd ws i).1), .int .i64 ((wd ws i).2)])]
      ((decide ((i : Int) < (ws.length : Int))) = true ∧ (0 ≤ (i : Int) ∧ (i : Int) < (ws.length : Int)) ∧ cellsAt h2 ⟨b, off + (i : Int).toNat * 2, none⟩ [.int .i64 ((wd ws i).1), .int .i64 ((wd ws i).2)] 0)
      (by as_aux_lemma => kernel_rfl) ⟨(by first | assumption | exact decide_eq_true (by first | omega | assumption)), ⟨by omega, by omega⟩, (by have := hp _ hE (i : Int) (by omega) (by omega); simpa [wd, encW] using this)⟩ fun s_ => ?_
    refine Run.new #[.int .i64 0, .int .i64 0] 158 (fun g_ => .pointer (some ⟨g_, 0, none⟩)) (some 7) (at_ Tryz.f83 [1,1,0,1,2,3,1,1,0,2,0,8,3]) (by as_aux_lemma => kernel_rfl) fun g7 h3 hng7 hEg7 hBg7 => ?_
    refine Run.store g7 0 [.int .i64 ((wd ws i).1), .int .i64 ((wd ws i).2)] (at_ Tryz.f83 [1,1,0,1,2,3,1,1,0,2,0,8,4]) (by as_aux_lemma => kernel_rfl) (hBg7.ext (Ext.refl _)) (by simp) rfl fun h4 hMh4 hzh4 (hBg7_h4 : Blk h4 g7 #[.int .i64 ((wd ws i).1), .int .i64 ((wd ws i).2)] 158) => ?_
    have hE24 := (hMh4.ext_new hEg7 hng7 (Ext.refl _))
    have hE4 := (hMh4.ext_new (hE.trans hEg7) hng7 hE)
    have hO4 := hO.ext hE24
    have hg7 : ∀ g', og = some g' → g' ≠ g7 := fun g' e => by have := hO.lt e; omega
    -- at 110123110210
    refine Run.adv 2 [] (at_ Tryz.f83 [1,1,0,1,2,3,1,1,0,2,1,0]) [(5, .slice A2 m c2), (7, .pointer (some ⟨g7, 0, none⟩)), (10, .slice (some ⟨b, off, none⟩) ws.length c), (11, .int .i64 (ws.length : Int)), (12, .int .i64 (i : Int))]
      (True)
      (by as_aux_lemma => kernel_rfl) trivial fun s_ => ?_
    refine Run.any (opsAt (at_ Tryz.f83 [1,1,0,1,2,3,1,1,0,2,1,0])) (at_ Tryz.f83 [1,1,0,1,2,3,1,1,0,2,1,1]) (fun H => Ext h H ∧ Blk H g7 #[.int .i64 (wd ws i).1, .int .i64 (wd ws i).2] 158) [0, 3, 4, 6] [0, 3, 4] [.val (.int .i64 ((wd ws i).1))] #[true, false, false, true, true, false, false] [(5, .slice A2 m c2), (7, .pointer (some ⟨g7, 0, none⟩)), (10, .slice (some ⟨b, off, none⟩) ws.length c), (11, .int .i64 (ws.length : Int)), (12, .int .i64 (i : Int)), (16, .slice A2 m c2), (19, .pointer (some ⟨g7, 0, none⟩)), (20, .int .i64 ((wd ws i).1))]
      (fun H => cellH H ⟨g7, 0, none⟩ = some (.int .i64 ((wd ws i).1))) 4 (by as_aux_lemma => kernel_rfl) (by as_aux_lemma => kernel_rfl) ⟨hE4, hBg7_h4⟩
      (by as_aux_lemma => kernel_rfl) (fun H hC => (hC.2.at (Ext.refl _) 0 rfl)) fun s_ => ?_
    have hE5 := hE4
    refine RunA.new 3 #[.int .u8 32] 5 (fun g_ => .slice (some ⟨g_, 0, none⟩) 1 1) (some 17) false #[true, true, false, true, true, false, false] (by as_aux_lemma => kernel_rfl) fun g8 h5 hng8 hEg8 hBg8 => ⟨fun _ => ⟨hE4.trans hEg8, hBg7_h4.ext hEg8⟩, ?_⟩
    refine RunA.append 2 (.slice A2 m c2) (.slice (some ⟨g8, 0, none⟩) 1 1) 5 (some 18) false #[true, true, true, true, true, false, false] 1 1 (by as_aux_lemma => kernel_rfl) (by as_aux_lemma => kernel_rfl) (by decide) (hO4.ext hEg8) (Src.row (hBg8.all (Ext.refl _)) rfl) (by rfl) rfl (by omega) fun A6 c6 h6 og6 hOA6 hMh6 hgA6 => ⟨fun _ => ⟨hMh6.ext (hE4.trans hEg8) hg, hMh6.blk (hBg7_h4.ext hEg8) (fun e => hg7 g7 e.symm rfl)⟩, ?_⟩
    have hE6 : Ext h h6 := hMh6.ext (hE4.trans hEg8) hg
    have hB6 := hMh6.blk (hBg7_h4.ext hEg8) (fun e => hg7 g7 e.symm rfl)
    have hg6 : ∀ g', og6 = some g' → h.size ≤ g' := fun g' e => by
      rcases hgA6 with e2 | e2
      · exact hg g' (e2 ▸ e)
      · rw [e2] at e; cases e; have := hE4.size; have := hEg8.size; omega
    refine RunA.call 1 110 #[.slice A6 (m + 1) c6, .int .i64 ((wd ws i).1), .int .i64 10] (some 21) false #[true, true, true, true, true, true, false] (by as_aux_lemma => kernel_rfl) (appI_ct h _ hE6 hT _ _ _ _ hOA6 hg6 _ q1 q2 (by omega)) ?_
    rintro _ h7 ⟨og7, A7, c7, rfl, hO7, hg7', hE7, hK7⟩
    refine ⟨fun _ => ⟨hE7, hK7 _ _ _ hB6 (by decide)⟩, ?_⟩
    have hB7 := hK7 _ _ _ hB6 (by decide)
    refine RunA.adv [6] [] #[true, true, true, true, true, true, true] [(5, .slice A7 (m + 1 + (itoa (wd ws i).1).length) c7), (7, .pointer (some ⟨g7, 0, none⟩)), (10, .slice (some ⟨b, off, none⟩) ws.length c), (11, .int .i64 (ws.length : Int)), (12, .int .i64 (i : Int)), (16, .slice A2 m c2), (17, .slice (some ⟨g8, 0, none⟩) 1 1), (18, .slice A6 (m + 1) c6), (19, .pointer (some ⟨g7, 0, none⟩)), (20, .int .i64 ((wd ws i).1)), (21, .slice A7 (m + 1 + (itoa (wd ws i).1).length) c7)]
      (fun H => True) 0 (by as_aux_lemma => kernel_rfl) ⟨hE7, hK7 _ _ _ hB6 (by decide)⟩
      (by as_aux_lemma => kernel_rfl) (fun H hC => trivial) fun s_ => ?_
    refine RunA.done [(5, .slice A7 (m + 1 + (itoa (wd ws i).1).length) c7), (7, .pointer (some ⟨g7, 0, none⟩)), (10, .slice (some ⟨b, off, none⟩) ws.length c), (11, .int .i64 (ws.length : Int)), (12, .int .i64 (i : Int)), (16, .slice A2 m c2), (17, .slice (some ⟨g8, 0, none⟩) 1 1), (18, .slice A6 (m + 1) c6), (19, .pointer (some ⟨g7, 0, none⟩)), (20, .int .i64 ((wd ws i).1)), (21, .slice A7 (m + 1 + (itoa (wd ws i).1).length) c7)] (by as_aux_lemma => kernel_rfl) (by as_aux_lemma => kernel_rfl) fun s_ => ?_
    have hg7b : ∀ g', og7 = some g' → g' ≠ g7 := fun g' e e2 => by
      subst e e2
      obtain ⟨arr, hb, _⟩ := own_arr hO7
      have := (blk_unique hb hB7).2
      exact absurd this (by decide)
    refine Run.any (opsAt (at_ Tryz.f83 [1,1,0,1,2,3,1,1,0,2,1,1])) (at_ Tryz.f83 [1,1,0,1,2,3,1,1,0,2,1,1]).tail (fun H => Ext h H ∧ Blk H g7 #[.int .i64 (wd ws i).1, .int .i64 (wd ws i).2] 158) [0, 3, 4, 6] [0, 3, 4] [.val (.int .i64 ((wd ws i).2))] #[true, false, false, true, true, false, false] [(5, .slice A7 (m + 1 + (itoa (wd ws i).1).length) c7), (7, .pointer (some ⟨g7, 0, none⟩)), (10, .slice (some ⟨b, off, none⟩) ws.length c), (11, .int .i64 (ws.length : Int)), (12, .int .i64 (i : Int)), (22, .slice A7 (m + 1 + (itoa (wd ws i).1).length) c7), (25, .pointer (some ⟨g7, 1, none⟩)), (26, .int .i64 ((wd ws i).2))]
      (fun H => cellH H ⟨g7, 1, none⟩ = some (.int .i64 ((wd ws i).2))) 4 (by as_aux_lemma => kernel_rfl) (by as_aux_lemma => kernel_rfl) ⟨hE7, hB7⟩
      (by as_aux_lemma => kernel_rfl) (fun H hC => (hC.2.at (Ext.refl _) 1 rfl)) fun s_ => ?_
    refine RunA.new 3 #[.int .u8 32] 5 (fun g_ => .slice (some ⟨g_, 0, none⟩) 1 1) (some 23) false #[true, true, false, true, true, false, false] (by as_aux_lemma => kernel_rfl) fun g9 h8 hng9 hEg9 hBg9 => ⟨fun _ => ⟨hE7.trans hEg9, hB7.ext hEg9⟩, ?_⟩
    refine RunA.append 2 (.slice A7 (m + 1 + (itoa (wd ws i).1).length) c7) (.slice (some ⟨g9, 0, none⟩) 1 1) 5 (some 24) false #[true, true, true, true, true, false, false] 1 1 (by as_aux_lemma => kernel_rfl) (by as_aux_lemma => kernel_rfl) (by decide) (hO7.ext hEg9) (Src.row (hBg9.all (Ext.refl _)) rfl) (by rfl) rfl (by omega) fun A10 c10 h9 og10 hOA10 hMh9 hgA10 => ⟨fun _ => ⟨hMh9.ext (hE7.trans hEg9) hg7', hMh9.blk (hB7.ext hEg9) (fun e => hg7b g7 e.symm rfl)⟩, ?_⟩
    have hE9 : Ext h h9 := hMh9.ext (hE7.trans hEg9) hg7'
    have hB9 := hMh9.blk (hB7.ext hEg9) (fun e => hg7b g7 e.symm rfl)
    have hg10 : ∀ g', og10 = some g' → h.size ≤ g' := fun g' e => by
      rcases hgA10 with e2 | e2
      · exact hg7' g' (e2 ▸ e)
      · rw [e2] at e; cases e; have := hE7.size; have := hEg9.size; omega
    refine RunA.call 1 110 #[.slice A10 ((m + 1 + (itoa (wd ws i).1).length) + 1) c10, .int .i64 ((wd ws i).2), .int .i64 10] (some 27) false #[true, true, true, true, true, true, false] (by as_aux_lemma => kernel_rfl) (appI_ct h _ hE9 hT _ _ _ _ hOA10 hg10 _ q3 q4 (by omega)) ?_
    rintro _ h10 ⟨og11, A11, c11, rfl, hO11, hg11, hE11, hK11⟩
    refine ⟨fun _ => ⟨hE11, hK11 _ _ _ hB9 (by decide)⟩, ?_⟩
    refine RunA.adv [6] [] #[true, true, true, true, true, true, true] [(5, .slice A11 (m + 1 + (itoa (wd ws i).1).length + 1 + (itoa (wd ws i).2).length) c11), (7, .pointer (some ⟨g7, 0, none⟩)), (10, .slice (some ⟨b, off, none⟩) ws.length c), (11, .int .i64 (ws.length : Int)), (12, .int .i64 (i : Int)), (22, .slice A7 (m + 1 + (itoa (wd ws i).1).length) c7), (23, .slice (some ⟨g9, 0, none⟩) 1 1), (24, .slice A10 ((m + 1 + (itoa (wd ws i).1).length) + 1) c10), (25, .pointer (some ⟨g7, 1, none⟩)), (26, .int .i64 ((wd ws i).2)), (27, .slice A11 (m + 1 + (itoa (wd ws i).1).length + 1 + (itoa (wd ws i).2).length) c11)]
      (fun H => True) 0 (by as_aux_lemma => kernel_rfl) ⟨hE11, hK11 _ _ _ hB9 (by decide)⟩
      (by as_aux_lemma => kernel_rfl) (fun H hC => trivial) fun s_ => ?_
    refine RunA.done [(5, .slice A11 (m + 1 + (itoa (wd ws i).1).length + 1 + (itoa (wd ws i).2).length) c11), (7, .pointer (some ⟨g7, 0, none⟩)), (10, .slice (some ⟨b, off, none⟩) ws.length c), (11, .int .i64 (ws.length : Int)), (12, .int .i64 (i : Int)), (22, .slice A7 (m + 1 + (itoa (wd ws i).1).length) c7), (23, .slice (some ⟨g9, 0, none⟩) 1 1), (24, .slice A10 ((m + 1 + (itoa (wd ws i).1).length) + 1) c10), (25, .pointer (some ⟨g7, 1, none⟩)), (26, .int .i64 ((wd ws i).2)), (27, .slice A11 (m + 1 + (itoa (wd ws i).1).length + 1 + (itoa (wd ws i).2).length) c11)] (by as_aux_lemma => kernel_rfl) (by as_aux_lemma => kernel_rfl) fun s_ => ?_
    -- at 110127
    refine Run.adv 5 [] (at_ Tryz.f83 [1,1,0,1,2,7]) [(5, .slice A11 (m + 1 + (itoa (wd ws i).1).length + 1 + (itoa (wd ws i).2).length) c11), (10, .slice (some ⟨b, off, none⟩) ws.length c), (11, .int .i64 (ws.length : Int)), (12, .int .i64 ((i + 1 : Nat) : Int))]
      ((-9223372036854775808 ≤ (i : Int) + 1 ∧ (i : Int) + 1 ≤ 9223372036854775807))
      (by as_aux_lemma => kernel_rfl) ⟨by omega, by omega⟩ fun s_ => ?_
    have htk : ws.take (i + 1) = ws.take i ++ [wd ws i] := take_snoc (0, 0) ws i hlt
    have hks : keyB b0 (ws.take (i + 1)) = keyB b0 (ws.take i) ++ [32] ++ itoa (wd ws i).1 ++ [32] ++ itoa (wd ws i).2 := by rw [htk, keyB_snoc]; simp
    refine again (i + 1, _, _, c11) _ _ ⟨hlt, ?_, by simp only; omega, og11, ?_, hE11, hg11⟩ (by simp only; omega)
    · simp only; rw [hks]; simp only [List.length_append, List.length_cons, List.length_nil]; omega
    · simp only; rw [hks, byteCells_app, byteCells_app, byteCells_app, byteCells_app]; exact hO11
  · have hie : i = ws.length := by omega
    rw [hie, List.take_length] at hO hm
    rw [hm] at hO
    -- at 1111
    refine Run.adv 13 [.dec false, .say (.string ⟨(keyB b0 ws).toArray⟩)] (at_ Tryz.f83 [1,1,1,1]) [(4, .string ⟨(keyB b0 ws).toArray⟩)]
      ((decide ((i : Int) < (ws.length : Int))) = false ∧ Says Tryz.prog (convert 162 9 (.slice A2 m c2)) (.string ⟨(keyB b0 ws).toArray⟩) h2)
      (by as_aux_lemma => kernel_rfl) ⟨(by first | assumption | exact decide_eq_false (by first | omega | assumption)), (hm ▸ says_bytes Tryz.underlying162 Tryz.underlying5 Tryz.underlying9 hO)⟩ fun s_ => ?_
    refine Run.ret [] (.string ⟨(keyB b0 ws).toArray⟩) (True) Tryz.func83 (by as_aux_lemma => kernel_rfl) (by as_aux_lemma => kernel_rfl) trivial ?_
    exact ⟨rfl, hE⟩
end Go.Proofs.YtbajgbkkbabmlaaGreatDoor
