/- The engine's fourth part: maps. -/
import Derived.Test.YtbajgbkkbabmlaaGreatDoorVa
import Derived.MapKept
set_option linter.unusedVariables false
set_option linter.unusedSimpArgs false
namespace Go.Vc
open Go.MapKept

/-- The place of a key. -/
def idx {κ : Type} [DecidableEq κ] (k : κ) (ks : List κ) : Option Nat := ks.findIdx? (fun x => decide (x = k))
def mfind {κ υ : Type} [DecidableEq κ] (m : List (κ × υ)) (k : κ) : Option υ := (idx k (m.map Prod.fst)).bind fun i => (m[i]?).map Prod.snd
def mput {κ υ : Type} [DecidableEq κ] (m : List (κ × υ)) (k : κ) (v : υ) : List (κ × υ) := match idx k (m.map Prod.fst) with | some i => m.set i (k, v) | none => m ++ [(k, v)]
def mdel {κ υ : Type} [DecidableEq κ] (m : List (κ × υ)) (k : κ) : List (κ × υ) := match idx k (m.map Prod.fst) with | some i => m.eraseIdx i | none => m

/-- Keys of a type, told as data. -/
structure KeyOk (P : Program) (kt : TypeId) {κ : Type} [DecidableEq κ] (f : κ → Value) : Prop where
  check : ∀ (b : Bool) (k : κ) (w : World), (Instr.checkKey b 10000 kt (f k)).run P w = .ok () w
  stays : ∀ (k : κ), Instr.sameBits 10000 (f k) (f k) = true
  find : ∀ (k : κ) (l : List MapEntry) (ks : List κ) (w : World), l.map (·.key) = ks.map f → (Instr.findKey kt (f k) l).run P w = .ok ((idx k ks).bind fun i => (l[i]?).map fun e => (i, e.val)) w

theorem findNow_idx {κ : Type} [DecidableEq κ] {f : κ → Value} {d : TypeDesc} (hs : ∀ a b : κ, Instr.sameNow d (f a) (f b) = some (decide (b = a))) (k : κ) :
    ∀ (l : List MapEntry) (ks : List κ) (j : Nat), l.map (·.key) = ks.map f → Instr.findNow d (f k) l j = some ((idx k ks).bind fun i => (l[i]?).map fun e => (j + i, e.val))
  | [], [], j, _ => rfl
  | [], _ :: _, j, h => by simp at h
  | _ :: _, [], j, h => by simp at h
  | e :: l, x :: ks, j, h => by
    simp only [List.map_cons, List.cons.injEq] at h
    have ih := findNow_idx hs k l ks (j + 1) h.2
    unfold Instr.findNow
    rw [h.1, hs]
    by_cases hx : x = k
    · simp [idx, List.findIdx?_cons, hx]
    · simp only [hx, decide_false]
      rw [ih]
      unfold idx
      rw [List.findIdx?_cons]
      simp only [hx, decide_false, Bool.false_eq_true, if_false]
      cases List.findIdx? (fun x => decide (x = k)) ks with
      | none => rfl
      | some i => simp; simp only [Nat.add_assoc, Nat.add_comm 1 i]

theorem KeyOk.of_now {P : Program} {kt : TypeId} {d : TypeDesc} {κ : Type} [DecidableEq κ] {f : κ → Value} (hd : P.underlying kt = some d) (hk : ∀ k, IsKey d (f k))
    (hs : ∀ a b : κ, Instr.sameNow d (f a) (f b) = some (decide (b = a))) (hb : ∀ k, Instr.sameBits 10000 (f k) (f k) = true) : KeyOk P kt f where
  check b k w := run_checkKey hd (hk k) b 9999
  stays := hb
  find k l ks w h := by
    rw [run_findKey hd (findNow_idx hs k l ks 0 h)]
    simp

theorem KeyOk.int {P : Program} {kt : TypeId} {kd : IntKind} (hd : P.underlying kt = some (.int kd)) : KeyOk P kt (Value.int kd) :=
  KeyOk.of_now hd (fun k => rfl) (fun a b => by simp only [Instr.sameNow, if_true, Option.some.injEq]; exact Bool.eq_iff_iff.2 (by simp only [beq_iff_eq, decide_eq_true_eq]; exact eq_comm)) (fun k => by simp [Instr.sameBits])
theorem KeyOk.str {P : Program} {kt : TypeId} (hd : P.underlying kt = some .string) : KeyOk P kt Value.string :=
  KeyOk.of_now hd (fun k => trivial) (fun a b => by simp only [Instr.sameNow, Option.some.injEq]; exact Bool.eq_iff_iff.2 (by simp only [bytes_beq, decide_eq_true_eq]; exact eq_comm)) (fun k => sameBits_self (d := .string) (k := .string k) trivial _)

/-- Block r is a map that holds m (keys told by f, values by g), in the order in which the keys came in. -/
def MapAt {κ υ : Type} (h : Heap) (r : Nat) (f : κ → Value) (g : υ → Value) (m : List (κ × υ)) : Prop :=
  ∃ (es : Array MapEntry) (clock : Nat), h[r]? = some (.map es clock) ∧ es.toList.map (·.key) = m.map (fun x => f x.1) ∧ es.toList.map (·.val) = m.map (fun x => g x.2) ∧
    (es.toList.map (·.born)).Pairwise (· < ·) ∧ ∀ e ∈ es.toList, e.born < clock
section
variable {κ υ : Type} {h h' : Heap} {r : Nat} {f : κ → Value} {g : υ → Value} {m : List (κ × υ)}
theorem MapAt.lt (hm : MapAt h r f g m) : r < h.size := by obtain ⟨_, _, hb, _⟩ := hm; exact (Array.getElem?_eq_some_iff.1 hb).1
theorem MapAt.ext (hm : MapAt h r f g m) (E : Ext h h') : MapAt h' r f g m := by
  have := E.keep r hm.lt
  obtain ⟨es, c, hb, x⟩ := hm
  exact ⟨es, c, by rw [this]; exact hb, x⟩
theorem MapAt.mod (hm : MapAt h r f g m) {og : Option Nat} (M : Mod og h h') (hn : some r ≠ og) : MapAt h' r f g m := by
  have := M.keep r hm.lt hn
  obtain ⟨es, c, hb, x⟩ := hm
  exact ⟨es, c, by rw [this]; exact hb, x⟩
theorem MapAt.ne_blk (hm : MapAt h r f g m) {b : Nat} {cs : Array Value} {t : TypeId} (hb : Blk h b cs t) : b ≠ r := by
  rintro rfl
  obtain ⟨es, c, hx, _⟩ := hm
  unfold Blk at hb
  rw [hb] at hx
  cases hx
theorem MapAt.len (hm : MapAt h r f g m) {P : Program} {t ty : TypeId} {kt et : TypeId} (ht : P.underlying t = some (.map kt et)) : Says P (Builtin.len_ #[t] ty #[.map (some r)]) (.int .i64 m.length) h := by
  obtain ⟨es, c, hb, hk, _⟩ := hm
  rintro w rfl
  have : es.size = m.length := by have := congrArg List.length hk; simpa using this
  simp [Builtin.len_, run_underlying ht, MapKept.run_getObj_map hb, Result.andThen, goInt, this]
theorem idx_some {κ : Type} [DecidableEq κ] {k : κ} {ks : List κ} {i : Nat} (hi : idx k ks = some i) : ks[i]? = some k := by
  unfold idx at hi
  rw [List.findIdx?_eq_some_iff_getElem] at hi
  obtain ⟨hl, h1, _⟩ := hi
  simp only [decide_eq_true_eq] at h1
  rw [List.getElem?_eq_getElem hl, h1]
theorem MapAt.lookup [DecidableEq κ] (hm : MapAt h r f g m) {P : Program} {t : TypeId} {kt et : TypeId} (ht : P.underlying t = some (.map kt et)) (hk : KeyOk P kt f) (k : κ) {z : Value} {i : TypeInfo} (hi : P.info? et = some i) (hz : i.zero = some z) :
    Says P (Instr.lookup t (.map (some r)) (f k) true) (.tuple #[match mfind m k with | some v => g v | none => z, .bool (mfind m k).isSome]) h := by
  obtain ⟨es, c, hb, h1, h2, _⟩ := hm
  rintro w rfl
  have hf := hk.find k es.toList (m.map Prod.fst) w (by rw [h1]; simp)
  unfold mfind
  have hzr := run_zero (P := P) (w := w) hi hz
  simp only [Instr.lookup, Sem.run_bind, run_underlying ht, Result.andThen, MapKept.run_getObj_map hb, Sem.run_pure, hk.check, hf]
  cases hidx : idx k (m.map Prod.fst) with
  | none => simp [hzr, Result.andThen]
  | some j =>
    have hj := idx_some hidx
    rw [List.getElem?_map] at hj
    obtain ⟨x, hx, hx2⟩ := Option.map_eq_some_iff.1 hj
    have hv := congrArg (fun l => l[j]?) h2
    simp only [List.getElem?_map, hx, Option.map_some] at hv
    obtain ⟨e, he, he2⟩ := Option.map_eq_some_iff.1 hv
    have he' : es[j]? = some e := by simpa using he
    simp [he', hx, he2, Result.andThen]
theorem MapAt.lookup1 [DecidableEq κ] (hm : MapAt h r f g m) {P : Program} {t : TypeId} {kt et : TypeId} (ht : P.underlying t = some (.map kt et)) (hk : KeyOk P kt f) (k : κ) {v : υ} (hv : mfind m k = some v) :
    Says P (Instr.lookup t (.map (some r)) (f k) false) (g v) h := by
  obtain ⟨es, c, hb, h1, h2, _⟩ := hm
  rintro w rfl
  have hf := hk.find k es.toList (m.map Prod.fst) w (by rw [h1]; simp)
  unfold mfind at hv
  simp only [Instr.lookup, Sem.run_bind, run_underlying ht, Result.andThen, MapKept.run_getObj_map hb, Sem.run_pure, hk.check, hf]
  cases hidx : idx k (m.map Prod.fst) with
  | none => rw [hidx] at hv; simp at hv
  | some j =>
    rw [hidx] at hv
    simp only [Option.bind_some, Option.map_eq_some_iff] at hv
    obtain ⟨x, hx, rfl⟩ := hv
    have hv := congrArg (fun l => l[j]?) h2
    simp only [List.getElem?_map, hx, Option.map_some] at hv
    obtain ⟨e, he, he2⟩ := Option.map_eq_some_iff.1 hv
    have he' : es[j]? = some e := by simpa using he
    simp [he', he2, Result.andThen]
def zeroOf (P : Program) (t : TypeId) : Option Value := (P.info? t).bind (·.zero)
theorem MapAt.found [DecidableEq κ] (hm : MapAt h r f g m) {P : Program} {t : TypeId} {kt et : TypeId} {z : Value} (ht : P.underlying t = some (.map kt et)) (hk : KeyOk P kt f) (hz : zeroOf P et = some z) {k : κ} {v : υ} (hv : mfind m k = some v) :
    Says P (Instr.lookup t (.map (some r)) (f k) true) (.tuple #[g v, .bool true]) h := by
  obtain ⟨i, hi, hz⟩ := Option.bind_eq_some_iff.1 hz
  have := hm.lookup ht hk k hi hz
  rw [hv] at this
  exact this
theorem MapAt.missing [DecidableEq κ] (hm : MapAt h r f g m) {P : Program} {t : TypeId} {kt et : TypeId} {z : Value} (ht : P.underlying t = some (.map kt et)) (hk : KeyOk P kt f) (hz : zeroOf P et = some z) {k : κ} (hv : mfind m k = none) :
    Says P (Instr.lookup t (.map (some r)) (f k) true) (.tuple #[z, .bool false]) h := by
  obtain ⟨i, hi, hz⟩ := Option.bind_eq_some_iff.1 hz
  have := hm.lookup ht hk k hi hz
  rw [hv] at this
  exact this
theorem mod_set {h : Heap} {r : Nat} {o : Obj} : Mod (some r) h (h.setIfInBounds r o) := ⟨by simp, fun b hb hn => by rw [Array.getElem?_setIfInBounds_ne (by intro e; exact hn (by rw [e]))]⟩
theorem MapAt.update [DecidableEq κ] (hm : MapAt h r f g m) {P : Program} {t : TypeId} {kt et : TypeId} (ht : P.underlying t = some (.map kt et)) (hk : KeyOk P kt f) (k : κ) (v : υ) (w : World) (hw : w.heap = h) :
    ∃ w', (Instr.mapUpdate t (.map (some r)) (f k) (g v)).run P w = .ok () w' ∧ Same1 w w' ∧ MapAt w'.heap r f g (mput m k v) ∧ Mod (some r) w.heap w'.heap ∧ w'.heap.size = w.heap.size := by
  subst hw
  obtain ⟨es, c, hb, h1, h2, h3, h4⟩ := hm
  have hf := hk.find k es.toList (m.map Prod.fst) w (by rw [h1]; simp)
  have hlt : r < w.heap.size := (Array.getElem?_eq_some_iff.1 hb).1
  unfold mput
  cases hidx : idx k (m.map Prod.fst) with
  | none =>
    refine ⟨{ w with heap := w.heap.setIfInBounds r (.map (es.push ⟨f k, g v, c⟩) (c + 1)) }, ?_, ⟨rfl, rfl, rfl, Nat.le_refl _⟩, ⟨es.push ⟨f k, g v, c⟩, c + 1, ?_, ?_, ?_, ?_, ?_⟩, mod_set, by simp⟩
    · simp [Instr.mapUpdate, run_underlying ht, MapKept.run_getObj_map hb, hk.check, hf, hidx, MapKept.run_setObj_map _ hb, Result.andThen]
    · simp [hlt]
    · simp [h1]
    · simp [h2]
    · simp only [Array.toList_push, List.map_append, List.map_cons, List.map_nil, List.pairwise_append]
      refine ⟨h3, by simp, fun a ha b hb => ?_⟩
      obtain ⟨e, he, rfl⟩ := List.mem_map.1 ha
      simp only [List.mem_singleton] at hb
      subst hb
      exact h4 e he
    · intro e he
      simp only [Array.toList_push, List.mem_append, List.mem_singleton] at he
      rcases he with he | rfl
      · exact Nat.lt_succ_of_lt (h4 e he)
      · exact Nat.lt_succ_self c
  | some j =>
    have hj := idx_some hidx
    rw [List.getElem?_map] at hj
    obtain ⟨x, hx, hx2⟩ := Option.map_eq_some_iff.1 hj
    have hv := congrArg (fun l => l[j]?) h1
    simp only [List.getElem?_map, hx, Option.map_some, hx2] at hv
    obtain ⟨e, he, he2⟩ := Option.map_eq_some_iff.1 hv
    have he' : es[j]? = some e := by simpa using he
    have hjl : j < es.size := (Array.getElem?_eq_some_iff.1 he').1
    have hje : es[j] = e := (Array.getElem?_eq_some_iff.1 he').2
    have hmod : (es.modify j fun e => { e with key := f k, val := g v }).toList = es.toList.set j { e with key := f k, val := g v } := by
      apply List.ext_getElem?
      intro i
      rw [Array.toList_modify, List.getElem?_modify, List.getElem?_set]
      by_cases hij : j = i
      · subst hij; simp [he', hjl, hje]
      · simp [hij]
    have hst : (Instr.keyThatStays (f k) (f k)).run P w = .ok (f k) w := by simp [Instr.keyThatStays, hk.stays k]
    refine ⟨{ w with heap := w.heap.setIfInBounds r (.map (es.modify j fun e => { e with key := f k, val := g v }) c) }, ?_, ⟨rfl, rfl, rfl, Nat.le_refl _⟩, ⟨_, c, by simp [hlt]; rfl, ?_, ?_, ?_, ?_⟩, mod_set, by simp⟩
    · simp [Instr.mapUpdate, run_underlying ht, MapKept.run_getObj_map hb, hk.check, hf, hidx, he', he2, hst, MapKept.run_setObj_map _ hb, Result.andThen]
    · rw [hmod, List.map_set, List.map_set, h1]
    · rw [hmod, List.map_set, List.map_set, h2]
    · rw [hmod, List.map_set]
      have : (es.toList.map (·.born)).set j e.born = es.toList.map (·.born) := by
        apply List.ext_getElem?
        intro i
        rw [List.getElem?_set]
        by_cases hij : j = i
        · subst hij; simp [he', hjl, hje]
        · simp [hij]
      rw [this]; exact h3
    · intro y hy
      rw [hmod] at hy
      rcases List.mem_or_eq_of_mem_set hy with hy | rfl
      · exact h4 y hy
      · exact h4 e (List.mem_of_getElem? he)
end

section
variable {P : Program} {f : FuncId} {n : Nat} {k k1 : List Item} {s : Env} {h : Heap} {w0 : Base} {R : Value → Heap → Prop}
def makeMapOf (o : Oper) : Bool := match o.op with | .makeMap _ none => true | _ => false
theorem OpK.makeMap {o : Oper} {K : Env → Heap → Prop} (hc : makeMapOf o = true) (hr : ∀ g h', g = h.size → Ext h h' → (∀ {κ υ : Type} (f : κ → Value) (q : υ → Value), MapAt h' g f q []) → K (putO s o.dst (.map (some g))) h') : OpK P n s h w0 o K := fun a w ha hwh h0 => by
  obtain ⟨dst, op, type, p, after, guard⟩ := o
  unfold makeMapOf at hc
  simp only at hc
  split at hc
  · rename_i t0
    have hrun : (execOp (evD n s) { dst := dst, op := .makeMap t0 none, type := type, pos := p, after := after, guard := guard }).run P w = .ok (.value (.map (some w.heap.size))) { w with heap := w.heap.push (.map #[] 0) } := by
      simp [execOp, Instr.makeMap, newObj, Sem.run]
    simp only [Oper.wp, eval_eq ha]
    rw [hrun, Oper.upon_value]
    subst hwh
    exact ⟨_, _, ha.put dst _, rfl, h0.heap _, hr _ _ rfl (ext_push _ _) (fun f q => ⟨#[], 0, by simp, rfl, rfl, by simp, by simp⟩)⟩
  · cases hc
theorem Run.makeMap (dst : Option Nat) (k1 : List Item) (he : ((nextOp n s k).map fun x => (makeMapOf x.1, x.1.dst, x.2)) = some (true, dst, k1))
    (hr : ∀ g h', g = h.size → Ext h h' → (∀ {κ υ : Type} (f : κ → Value) (q : υ → Value), MapAt h' g f q []) → Run P f n k1 (putO s dst (.map (some g))) h' w0 R) : Run P f n k s h w0 R := by
  simp only [Option.map_eq_some_iff, Prod.mk.injEq] at he
  obtain ⟨⟨o, k2⟩, hn, hc, rfl, rfl⟩ := he
  obtain ⟨ops, i, rest, k', rfl, rfl, ho, hw⟩ := nextOp_ok hn
  exact Run.op ho hw (OpK.makeMap hc hr)
def mapUpOf (ρ : Operand → Value) (o : Oper) : Option (TypeId × Value × Value × Value) := match o.op with | .mapUpdate t m x v => if o.dst.isNone then some (t, ρ m, ρ x, ρ v) else none | _ => none
theorem OpK.mapUpdate {κ υ : Type} [DecidableEq κ] {o : Oper} {K : Env → Heap → Prop} {t : TypeId} {r : Nat} {fk : κ → Value} {g : υ → Value} {m : List (κ × υ)} {kt et : TypeId} (x : κ) (v : υ) (hc : mapUpOf (evD n s) o = some (t, .map (some r), fk x, g v))
    (ht : P.underlying t = some (.map kt et)) (hk : KeyOk P kt fk) (hm : MapAt h r fk g m) (hr : ∀ h', Mod (some r) h h' → h'.size = h.size → MapAt h' r fk g (mput m x v) → K s h') : OpK P n s h w0 o K := fun a w ha hwh h0 => by
  obtain ⟨dst, op, type, p, after, guard⟩ := o
  unfold mapUpOf at hc
  simp only at hc
  split at hc
  · split at hc
    · rename_i hd
      simp only [Option.some.injEq, Prod.mk.injEq] at hc
      obtain ⟨rfl, hc1, hc2, hc3⟩ := hc
      obtain ⟨w', h1, h2, h3, h4, h5⟩ := hm.update ht hk x v w hwh
      have hd : dst = none := by simpa using hd
      subst hd
      simp only [Oper.wp, eval_eq ha, execOp, hc1, hc2, hc3, Sem.run_bind, h1, Result.andThen, Sem.run_pure, Oper.upon_skip]
      subst hwh
      exact ⟨s, _, ha, rfl, h0.trans h2, hr _ h4 h5 h3⟩
    · cases hc
  · cases hc
theorem Run.mapUpdate {κ υ : Type} [DecidableEq κ] (t : TypeId) (r : Nat) (fk : κ → Value) (g : υ → Value) (x : κ) (v : υ) (k1 : List Item) {m : List (κ × υ)} {kt et : TypeId}
    (he : ((nextOp n s k).bind fun y => (mapUpOf (evD n s) y.1).map fun c => (c.1, c.2.1, c.2.2.1, c.2.2.2, y.2)) = some (t, .map (some r), fk x, g v, k1))
    (ht : P.underlying t = some (.map kt et)) (hk : KeyOk P kt fk) (hm : MapAt h r fk g m) (hr : ∀ h', Mod (some r) h h' → h'.size = h.size → MapAt h' r fk g (mput m x v) → Run P f n k1 s h' w0 R) : Run P f n k s h w0 R := by
  simp only [Option.bind_eq_some_iff, Option.map_eq_some_iff, Prod.mk.injEq] at he
  obtain ⟨⟨o, k2⟩, hn, ⟨t', a1, a2, a3⟩, hc, rfl, rfl, rfl, rfl, rfl⟩ := he
  obtain ⟨ops, i, rest, k', rfl, rfl, ho, hw⟩ := nextOp_ok hn
  exact Run.op ho hw (OpK.mapUpdate x v hc ht hk hm hr)
end
end Go.Vc
