/- Package sign, walked: comparing ways, sorting them. -/
import Derived.Test.YtbajgbkkbabmlaaGreatDoorProg
import Derived.Test.YtbajgbkkbabmlaaGreatDoorL1
import Derived.Test.YtbajgbkkbabmlaaGreatDoorVn
import Derived.Test.YtbajgbkkbabmlaaGreatDoorPw
import Derived.Test.YtbajgbkkbabmlaaGreatDoorShelf
import Derived.Shelf.SlSortCmp.NoneTotal
set_option linter.unusedVariables false
namespace Go.Proofs.YtbajgbkkbabmlaaGreatDoor
open Go.Vc

def cmpW (a b : Wy) : Int := orI [cmpI a.1 b.1, cmpI a.2 b.2]
theorem cmpW_ct {d : Bool} (a b : Wy) (h : Heap) : CtB d Tryz.prog 108 #[.agg #[.int .i64 a.1, .int .i64 a.2], .agg #[.int .i64 b.1, .int .i64 b.2]] h
    (fun v h' => v = .int .i64 (cmpW a b) ∧ Ext h h') := by
  refine Ct.enter (args := [.agg #[.int .i64 a.1, .int .i64 a.2], .agg #[.int .i64 b.1, .int .i64 b.2]]) Tryz.func108 rfl Tryz.ntmps108 (by simp) fun w hw => ?_
  -- at 080
  refine Run.adv 2 [] (at_ Tryz.f108 [0,8,0]) [(0, .agg #[.int .i64 a.1, .int .i64 a.2]), (1, .agg #[.int .i64 b.1, .int .i64 b.2])]
    (True)
    (by as_aux_lemma => kernel_rfl) trivial fun s_ => ?_
  refine Run.new #[.int .i64 a.1, .int .i64 a.2] 158 (fun g_ => .pointer (some ⟨g_, 0, none⟩)) (some 2) (at_ Tryz.f108 [0,8,1]) (by as_aux_lemma => kernel_rfl) fun g1 h1 hng1 hEg1 hBg1 => ?_
  refine Run.new #[.int .i64 b.1, .int .i64 b.2] 158 (fun g_ => .pointer (some ⟨g_, 0, none⟩)) (some 3) (at_ Tryz.f108 [0,8,2]) (by as_aux_lemma => kernel_rfl) fun g2 h2 hng2 hEg2 hBg2 => ?_
  -- at 10
  refine Run.adv 3 [] (at_ Tryz.f108 [1,0]) [(2, .pointer (some ⟨g1, 0, none⟩)), (3, .pointer (some ⟨g2, 0, none⟩))]
    (True)
    (by as_aux_lemma => kernel_rfl) trivial fun s_ => ?_
  refine Run.any (opsAt (at_ Tryz.f108 [1,0])) (at_ Tryz.f108 [1,1]) (fun H => Mod none h2 H) [0, 1, 2, 3, 5, 6, 7, 8, 12] [0, 1, 2, 3, 5, 6, 7, 8] [.val (.int .i64 a.1), .val (.int .i64 b.1), .val (.int .i64 a.2), .val (.int .i64 b.2)] #[true, true, true, true, false, true, true, true, true, false, false, false, false] [(2, .pointer (some ⟨g1, 0, none⟩)), (3, .pointer (some ⟨g2, 0, none⟩)), (5, .pointer (some ⟨g1, 0, none⟩)), (6, .int .i64 a.1), (7, .pointer (some ⟨g2, 0, none⟩)), (8, .int .i64 b.1), (10, .pointer (some ⟨g1, 1, none⟩)), (11, .int .i64 a.2), (12, .pointer (some ⟨g2, 1, none⟩)), (13, .int .i64 b.2)]
    (fun H => cellH H ⟨g1, 0, none⟩ = some (.int .i64 a.1) ∧ cellH H ⟨g2, 0, none⟩ = some (.int .i64 b.1) ∧ cellH H ⟨g1, 1, none⟩ = some (.int .i64 a.2) ∧ cellH H ⟨g2, 1, none⟩ = some (.int .i64 b.2)) 5 (by as_aux_lemma => kernel_rfl) (by as_aux_lemma => kernel_rfl) ((Ext.refl _).mod _)
    (by as_aux_lemma => kernel_rfl) (fun H hC => ⟨(hBg1.at (hEg2.trans hC.none_ext) 0 rfl), (hBg2.at ((Ext.refl _).trans hC.none_ext) 0 rfl), (hBg1.at (hEg2.trans hC.none_ext) 1 rfl), (hBg2.at ((Ext.refl _).trans hC.none_ext) 1 rfl)⟩) fun s_ => ?_
  refine RunA.call 4 101 #[.int .i64 a.1, .int .i64 b.1] (some 9) false #[true, true, true, true, true, true, true, true, true, false, false, false, false] (by as_aux_lemma => kernel_rfl) (cmpI_ct _ _ _) ?_
  rintro _ _ ⟨rfl, rfl⟩
  refine ⟨fun _ => ((Ext.refl _).mod _), ?_⟩
  refine RunA.call 3 101 #[.int .i64 a.2, .int .i64 b.2] (some 14) false #[true, true, true, true, true, true, true, true, true, true, false, false, false] (by as_aux_lemma => kernel_rfl) (cmpI_ct _ _ _) ?_
  rintro _ _ ⟨rfl, rfl⟩
  refine ⟨fun _ => ((Ext.refl _).mod _), ?_⟩
  refine RunA.new 2 #[.int .i64 (cmpI a.1 b.1), .int .i64 (cmpI a.2 b.2)] 3 (fun g_ => .slice (some ⟨g_, 0, none⟩) 2 2) (some 15) false #[true, true, true, true, true, true, true, true, true, true, true, false, false] (by as_aux_lemma => kernel_rfl) fun g3 h3 hng3 hEg3 hBg3 => ⟨fun _ => (((Ext.refl _).mod _).trans (hEg3.mod _)), ?_⟩
  refine RunA.call 1 118 #[.slice (some ⟨g3, 0, none⟩) 2 2] (some 16) false #[true, true, true, true, true, true, true, true, true, true, true, true, false] (by as_aux_lemma => kernel_rfl) (orI_ct _ 2 [cmpI a.1 b.1, cmpI a.2 b.2] _ (ints_lit hBg3) (by simp)) ?_
  rintro _ _ ⟨rfl, rfl⟩
  refine ⟨fun _ => (((Ext.refl _).mod _).trans (hEg3.mod _)), ?_⟩
  refine RunA.adv [12] [] #[true, true, true, true, true, true, true, true, true, true, true, true, true] [(2, .pointer (some ⟨g1, 0, none⟩)), (3, .pointer (some ⟨g2, 0, none⟩)), (4, .int .i64 (cmpW a b)), (5, .pointer (some ⟨g1, 0, none⟩)), (6, .int .i64 a.1), (7, .pointer (some ⟨g2, 0, none⟩)), (8, .int .i64 b.1), (9, .int .i64 (cmpI a.1 b.1)), (10, .pointer (some ⟨g1, 1, none⟩)), (11, .int .i64 a.2), (12, .pointer (some ⟨g2, 1, none⟩)), (13, .int .i64 b.2), (14, .int .i64 (cmpI a.2 b.2)), (15, .slice (some ⟨g3, 0, none⟩) 2 2), (16, .int .i64 (cmpW a b))]
    (fun H => True) 0 (by as_aux_lemma => kernel_rfl) (((Ext.refl _).mod _).trans (hEg3.mod _))
    (by as_aux_lemma => kernel_rfl) (fun H hC => trivial) fun s_ => ?_
  refine RunA.done [(2, .pointer (some ⟨g1, 0, none⟩)), (3, .pointer (some ⟨g2, 0, none⟩)), (4, .int .i64 (cmpW a b)), (5, .pointer (some ⟨g1, 0, none⟩)), (6, .int .i64 a.1), (7, .pointer (some ⟨g2, 0, none⟩)), (8, .int .i64 b.1), (9, .int .i64 (cmpI a.1 b.1)), (10, .pointer (some ⟨g1, 1, none⟩)), (11, .int .i64 a.2), (12, .pointer (some ⟨g2, 1, none⟩)), (13, .int .i64 b.2), (14, .int .i64 (cmpI a.2 b.2)), (15, .slice (some ⟨g3, 0, none⟩) 2 2), (16, .int .i64 (cmpW a b))] (by as_aux_lemma => kernel_rfl) (by as_aux_lemma => kernel_rfl) fun s_ => ?_
  refine Run.ret [] (.int .i64 (cmpW a b)) (True) Tryz.func108 (by as_aux_lemma => kernel_rfl) (by as_aux_lemma => kernel_rfl) trivial ?_
  exact ⟨rfl, ((hEg1.trans hEg2).trans hEg3)⟩
theorem cmpW_lt (a b : Wy) : cmpW a b < 0 ↔ a.1 < b.1 ∨ (a.1 = b.1 ∧ a.2 < b.2) := by
  unfold cmpW orI orI orI cmpI
  split <;> split <;> (try split) <;> (try split) <;> simp_all <;> omega
open Go.Sort in
/-- A contract that lays new blocks alone, and counts draws, in the shelf's words. -/
theorem grown_of {P : Program} {g : FuncId} {args : Array Value} {u : Value} {w : World} (hc : CtB true P g args w.heap (fun v h' => v = u ∧ Ext w.heap h')) :
    Calls P g args w fun e w' => e = .returned u ∧ ∃ q os', w' = grow (w.drewN q) os' := by
  refine (hc w rfl).mono ?_
  rintro e w' ⟨v, rfl, hs, rfl, hE⟩
  refine ⟨rfl, w'.drawn - w.drawn, w'.heap.extract w.heap.size, ?_⟩
  have hd := hs.drawn rfl
  have hh : w.heap ++ w'.heap.extract w.heap.size = w'.heap := by
    apply Array.ext_getElem?
    intro i
    by_cases hi : i < w.heap.size
    · rw [Array.getElem?_append_left hi, hE.keep i hi]
    · rw [Array.getElem?_append_right (by omega), Array.getElem?_extract]
      have := hE.size
      split
      · congr 1; omega
      · rw [Array.getElem?_eq_none (by omega)]
  obtain ⟨hp, tp, dr, os, out⟩ := w'
  obtain ⟨h1, h2, h3, _⟩ := hs
  simp only at h1 h2 h3 hd hh
  subst h1 h2 h3
  show (⟨hp, w.tape, dr, w.os, w.output⟩ : World) = ⟨w.heap ++ hp.extract w.heap.size, w.tape, w.drawn + (dr - w.drawn), w.os, w.output⟩
  rw [hh, show w.drawn + (dr - w.drawn) = dr from by omega]
open Go.Sort in
theorem flatK_list {α : Type} [Inhabited α] {enc : α → List Value} {k : Nat} (hk0 : 0 < k) (hk : ∀ x, (enc x).length = k) (ws : List α) : (flatK enc k ws.toArray).toList = ws.flatMap enc := by
  apply List.ext_getElem
  · rw [flatMap_length hk]; simp [flatK]
  · intro t h1 h2
    have ht : t < ws.length * k := by rw [← flatMap_length hk]; exact h2
    have hj : t / k < ws.length := Nat.div_lt_of_lt_mul (by rw [Nat.mul_comm]; exact ht)
    have hi : t % k < k := Nat.mod_lt _ hk0
    have hx : ws[t / k]? = some ws[t / k] := List.getElem?_eq_getElem hj
    have := getElem?_flatMap hk ws (t / k) (t % k) _ hx hi
    rw [show t / k * k + t % k = t from by rw [Nat.mul_comm]; exact Nat.div_add_mod t k] at this
    rw [List.getElem?_eq_getElem h2, List.getElem?_eq_getElem (by rw [hk]; exact hi)] at this
    have := Option.some.inj this
    rw [this]
    simp [flatK, hj, hk, hi]
open Go.Sort in
theorem ltW_eq (x y : Wy) : ltOf cmpW x y = ltW x y := by
  unfold ltOf ltW
  by_cases h : cmpW x y < 0
  · rw [decide_eq_true h, decide_eq_true ((cmpW_lt x y).1 h)]
  · rw [decide_eq_false h, decide_eq_false (fun hh => h ((cmpW_lt x y).2 hh))]
open Go.Sort in
theorem swoW : SWO (ltOf cmpW) where
  irrefl x := by rw [ltW_eq]; exact stoW.irrefl x
  trans x y z h1 h2 := by rw [ltW_eq] at *; exact stoW.trans _ _ _ h1 h2
  ntrans x y z h1 h2 := by rw [ltW_eq] at *; unfold ltW at *; simp only [decide_eq_false_iff_not] at *; omega
open Go.Sort in
theorem srtW_eq (ws : List Wy) : (ws.mergeSort fun x y => !(ltOf cmpW) y x) = srtW ws := by
  unfold srtW; congr 1; funext x y; rw [ltW_eq]
open Go.Sort in
theorem sortW_ct (g c : Nat) (ws : List Wy) (h : Heap) (hO : Own h 158 2 (.slice (some ⟨g, 0, none⟩) ws.length c) ws.length (ws.flatMap encW) (some g)) (hl : ws.length ≤ 1000000) :
    Ct Tryz.prog 107 #[.slice (some ⟨g, 0, none⟩) ws.length c, .func (.func 108) #[] #[]] h
      (fun v h' => v = .tuple #[] ∧ Own h' 158 2 (.slice (some ⟨g, 0, none⟩) ws.length c) ws.length ((srtW ws).flatMap encW) (some g) ∧ Mod (some g) h h') := by
  rintro w rfl
  have hk : ∀ x : Wy, (encW x).length = 2 := fun _ => rfl
  have hcon := AnyQ.slices_SortFunc_total Tryz.sortWay 2 (fun w => Tryz.isAgg158 w) (fun w => Tryz.sizeOf158 w) encW hk (fun x v hv => by simp [encW] at hv; rcases hv with rfl | rfl <;> rfl) cmpW swoW 108 #[] g 0 c ws.toArray w
    (enters_of Tryz.func108 (by kernel_rfl) rfl) (fun m os dk _ x y => grown_of (cmpW_ct x y _)) (hO.holds (by rw [List.map_id]; exact (flatK_list (by decide) hk ws).symm)) (hO.lt rfl) (by simp; omega) (fun x y h1 h2 => by
      rw [ltW_eq] at h1 h2; exact stoW.tri _ _ h1 h2)
  refine hcon.mono ?_
  rintro e w' ⟨rfl, q, os, rfl⟩
  obtain ⟨h1, h2, h3⟩ := putRow_own (enc := id) (d := flatK encW 2 (ws.mergeSort fun x y => !(ltOf cmpW) y x).toArray) (q := q) (os := os) hO (by simp)
  refine ⟨_, rfl, (Same0.refl w false).trans h3, rfl, ?_, h2⟩
  rw [List.map_id, flatK_list (by decide) hk] at h1
  rw [← srtW_eq]
  exact h1
theorem srtW_len (ws : List Wy) : (srtW ws).length = ws.length := by unfold srtW; rw [List.length_mergeSort]
theorem sortA_ct (v : Value) (og : Option Nat) (ws : List Wy) (h : Heap) (hO : Own h 158 2 v ws.length (ws.flatMap encW) og) (hl : ws.length ≤ 1000000) :
    Ct Tryz.prog 107 #[v, .func (.func 108) #[] #[]] h
      (fun v' h' => v' = .tuple #[] ∧ Own h' 158 2 v (srtW ws).length ((srtW ws).flatMap encW) og ∧ Mod og h h') := by
  rw [srtW_len]
  cases og with
  | none =>
    have hO' := hO
    obtain ⟨rfl, hn, _⟩ := hO
    have hw : ws = [] := List.eq_nil_of_length_eq_zero hn
    subst hw
    rintro w rfl
    refine (AnyF.slices_SortFunc_none Tryz.sortWay none 0 _ w).mono ?_
    rintro e w' ⟨rfl, rfl⟩
    have e : srtW [] = [] := by unfold srtW; exact List.mergeSort_nil
    rw [e]
    exact ⟨_, rfl, Same0.refl _ _, rfl, hO', (Ext.refl _).mod _⟩
  | some g =>
    obtain ⟨A, c, rfl⟩ := hO.slice
    obtain ⟨rfl, _⟩ := hO.addr
    exact sortW_ct g c ws h hO hl
end Go.Proofs.YtbajgbkkbabmlaaGreatDoor
