/- Maps whose keys are two numbers; delete; lookups by what is found. -/
import Derived.Test.YtbajgbkkbabmlaaGreatDoorVq
set_option linter.unusedVariables false
namespace Go.Vc
section
variable {P : Program} {w : World}
theorem run_part_int {P : Program} {w : World} {e : TypeId} {kd : IntKind} (he : P.underlying e = some (.int kd)) (cs : Array Value) (off : Nat) (v : Value) (hv : cs[off]? = some v) : (part e cs off).run P w = .ok v w := by
  simp [part, isAgg, run_underlying he, Result.andThen, hv]
theorem check_pair {kt e : TypeId} {kd : IntKind} (hk : P.underlying kt = some (.array 2 e)) (he : P.underlying e = some (.int kd)) (hi : (P.info? e).map (·.size) = some 1) (b : Bool) (x y : Int) (d : Nat) :
    (Instr.checkKey b (d + 2) kt (.agg #[.int kd x, .int kd y])).run P w = .ok () w := by
  obtain ⟨i, hi, hsz⟩ := Option.map_eq_some_iff.1 hi
  have hcell : P.cellsOf e = 1 := by simp [Program.cellsOf, hi, hsz]
  simp [Instr.checkKey, run_underlying hk, run_underlying he, Result.andThen, run_sizeOf_eq hi, hcell, run_part_int he, List.range']
theorem eq_pair {kt e : TypeId} {kd : IntKind} (hk : P.underlying kt = some (.array 2 e)) (he : P.underlying e = some (.int kd)) (hi : (P.info? e).map (·.size) = some 1) (x y x' y' : Int) (d : Nat) :
    (Op.equalIn (d + 2) kt (.agg #[.int kd x, .int kd y]) (.agg #[.int kd x', .int kd y'])).run P w = .ok (decide ((x, y) = (x', y'))) w := by
  obtain ⟨i, hi, hsz⟩ := Option.map_eq_some_iff.1 hi
  have hcell : P.cellsOf e = 1 := by simp [Program.cellsOf, hi, hsz]
  simp [Op.equalIn, run_underlying hk, run_underlying he, Result.andThen, run_sizeOf_eq hi, hcell, run_part_int he, List.range']
  by_cases h1 : x = x' <;> by_cases h2 : y = y' <;> simp [h1, h2, run_underlying he, run_part_int he, Result.andThen]
end
/-- A place in code with scopes. -/
def posS : List Nat → Code → List Item → List Item
  | [], c, k => .code c :: k
  | 0 :: p, .seq a b, k => posS p a (.code b :: k)
  | 1 :: p, .seq _ b, k => posS p b k
  | 2 :: p, .block id c, k => posS p c (.inBlock id :: k)
  | 3 :: p, .loop c, k => posS p c (.inLoop c :: k)
  | 7 :: _, .loop c, k => .inLoop c :: k
  | 4 :: p, .cond _ a _, k => posS p a k
  | 5 :: p, .cond _ _ a, k => posS p a k
  | 9 :: p, .scope c, k => posS p c (.inScope c :: k)
  | [8, i], .region _ ops _, k => .inRegion ops ((List.range ops.size).drop i) :: k
  | _, _, _ => []
def atS (fn : Func) (p : List Nat) : List Item := match fn.body with | some c => posS p c [] | none => []
theorem map_erase {α β : Type} (f : α → β) : ∀ (l : List α) (i : Nat), (l.eraseIdx i).map f = (l.map f).eraseIdx i
  | [], _ => rfl
  | _ :: _, 0 => rfl
  | x :: l, i + 1 => by simp only [List.eraseIdx_cons_succ, List.map_cons, map_erase f l i]
/-- Two numbers as a key. -/
def encP (k : Int × Int) : Value := .agg #[.int .i64 k.1, .int .i64 k.2]
theorem asking_idx {P : Program} {w : World} {kt : TypeId} {κ : Type} [DecidableEq κ] {f : κ → Value} (heq : ∀ a b : κ, (Op.equal kt (f a) (f b)).run P w = .ok (decide (a = b)) w) (k : κ) :
    ∀ (l : List MapEntry) (ks : List κ) (j : Nat), l.map (·.key) = ks.map f → (Instr.findAsking kt (f k) l j).run P w = .ok ((idx k ks).bind fun i => (l[i]?).map fun e => (j + i, e.val)) w
  | [], [], j, _ => by simp [Instr.findAsking, idx]
  | [], _ :: _, j, h => by simp at h
  | _ :: _, [], j, h => by simp at h
  | e :: l, x :: ks, j, h => by
    simp only [List.map_cons, List.cons.injEq] at h
    have ih := asking_idx heq k l ks (j + 1) h.2
    unfold Instr.findAsking
    rw [h.1]
    simp only [Sem.run_bind, heq, Result.andThen]
    by_cases hx : k = x
    · simp [idx, List.findIdx?_cons, hx]
    · have hx' : ¬ x = k := fun e => hx e.symm
      simp only [hx, decide_false, Bool.false_eq_true, if_false]
      rw [ih]
      unfold idx
      rw [List.findIdx?_cons]
      simp only [hx', decide_false, Bool.false_eq_true, if_false]
      cases List.findIdx? (fun x => decide (x = k)) ks with
      | none => rfl
      | some i => simp; simp only [Nat.add_assoc, Nat.add_comm 1 i]
theorem KeyOk.pair {P : Program} {kt e : TypeId} (hk : P.underlying kt = some (.array 2 e)) (he : P.underlying e = some (.int .i64)) (hi : (P.info? e).map (·.size) = some 1) : KeyOk P kt encP where
  check b k w := check_pair hk he hi b k.1 k.2 9998
  stays k := by simp [encP, Instr.sameBits]
  find k l ks w h := by
    have heq : ∀ a b : Int × Int, (Op.equal kt (encP a) (encP b)).run P w = .ok (decide (a = b)) w := fun a b => eq_pair hk he hi a.1 a.2 b.1 b.2 9998
    have := asking_idx heq k l ks 0 h
    simp only [Nat.zero_add] at this
    unfold Instr.findKey
    simp only [Sem.run_bind, run_underlying hk, Result.andThen]
    cases l with
    | nil =>
      cases ks with
      | nil => simp [Instr.findNow, idx]
      | cons x ks => simp at h
    | cons e l =>
      have hs : Instr.sameNow (.array 2 ‹TypeId›) (encP k) e.key = none := by unfold Instr.sameNow; rfl
      simp only [Instr.findNow]
      rw [show Instr.sameNow (.array 2 _) (encP k) e.key = none from rfl]
      exact this
section
variable {κ υ : Type} {h h' : Heap} {r : Nat} {f : κ → Value} {g : υ → Value} {m : List (κ × υ)}
theorem MapAt.del [DecidableEq κ] (hm : MapAt h r f g m) {P : Program} {t ty : TypeId} {kt et : TypeId} (ht : P.underlying t = some (.map kt et)) (hk : KeyOk P kt f) (k : κ) (w : World) (hw : w.heap = h) {ts : Array TypeId} (hts : ts[0]? = some t) :
    ∃ w', (Builtin.delete_ ts ty #[.map (some r), f k]).run P w = .ok (.tuple #[]) w' ∧ Same1 w w' ∧ MapAt w'.heap r f g (mdel m k) ∧ Mod (some r) w.heap w'.heap ∧ w'.heap.size = w.heap.size := by
  subst hw
  obtain ⟨es, c, hb, h1, h2, h3, h4⟩ := hm
  have hf := hk.find k es.toList (m.map Prod.fst) w (by rw [h1]; simp)
  have hlt : r < w.heap.size := (Array.getElem?_eq_some_iff.1 hb).1
  unfold mdel
  cases hidx : idx k (m.map Prod.fst) with
  | none =>
    refine ⟨{ w with heap := w.heap.setIfInBounds r (.map es c) }, ?_, ⟨rfl, rfl, rfl, Nat.le_refl _⟩, ⟨es, c, by simp [hlt], h1, h2, h3, h4⟩, mod_set, by simp⟩
    simp [Builtin.delete_, hts, run_underlying ht, MapKept.run_getObj_map hb, hk.check, hf, hidx, MapKept.run_setObj_map _ hb, Result.andThen]
  | some j =>
    have hj := idx_some hidx
    rw [List.getElem?_map] at hj
    obtain ⟨x, hx, hx2⟩ := Option.map_eq_some_iff.1 hj
    have hv := congrArg (fun l => l[j]?) h1
    simp only [List.getElem?_map, hx, Option.map_some, hx2] at hv
    obtain ⟨e, he, he2⟩ := Option.map_eq_some_iff.1 hv
    have he' : es[j]? = some e := by simpa using he
    have hjl : j < es.size := (Array.getElem?_eq_some_iff.1 he').1
    have her : (es.eraseIdxIfInBounds j).toList = es.toList.eraseIdx j := by
      unfold Array.eraseIdxIfInBounds
      rw [dif_pos hjl, Array.toList_eraseIdx]
    refine ⟨{ w with heap := w.heap.setIfInBounds r (.map (es.eraseIdxIfInBounds j) c) }, ?_, ⟨rfl, rfl, rfl, Nat.le_refl _⟩, ⟨_, c, by simp [hlt]; rfl, ?_, ?_, ?_, ?_⟩, mod_set, by simp⟩
    · simp [Builtin.delete_, hts, run_underlying ht, MapKept.run_getObj_map hb, hk.check, hf, hidx, he', MapKept.run_setObj_map _ hb, Result.andThen]
    · rw [her, map_erase, h1, map_erase]
    · rw [her, map_erase, h2, map_erase]
    · rw [her, map_erase]
      exact h3.sublist (List.eraseIdx_sublist _ _)
    · intro y hy
      rw [her] at hy
      exact h4 y ((List.eraseIdx_sublist _ _).subset hy)
theorem MapAt.missing1 [DecidableEq κ] (hm : MapAt h r f g m) {P : Program} {t : TypeId} {kt et : TypeId} {z : Value} (ht : P.underlying t = some (.map kt et)) (hk : KeyOk P kt f) (hz : zeroOf P et = some z) {k : κ} (hv : mfind m k = none) :
    Says P (Instr.lookup t (.map (some r)) (f k) false) z h := by
  obtain ⟨i, hi, hz⟩ := Option.bind_eq_some_iff.1 hz
  obtain ⟨es, c, hb, h1, h2, _⟩ := hm
  rintro w rfl
  have hf := hk.find k es.toList (m.map Prod.fst) w (by rw [h1]; simp)
  unfold mfind at hv
  have hzr := run_zero (P := P) (w := w) hi hz
  simp only [Instr.lookup, Sem.run_bind, run_underlying ht, Result.andThen, MapKept.run_getObj_map hb, Sem.run_pure, hk.check, hf]
  cases hidx : idx k (m.map Prod.fst) with
  | none => simp [hzr, Result.andThen]
  | some j =>
    rw [hidx] at hv
    have hj := idx_some hidx
    rw [List.getElem?_map] at hj
    obtain ⟨x, hx, hx2⟩ := Option.map_eq_some_iff.1 hj
    simp [hx] at hv
end
section
variable {P : Program} {f : FuncId} {n : Nat} {k k1 : List Item} {s : Env} {h : Heap} {w0 : Base} {R : Value → Heap → Prop} {ops : Array Oper} {C : HP} {qs : List Nat} {fuel : Nat} {L L' : Array Bool}
theorem Run.scope (k1 : List Item) (hk : (match k with | .code (.scope c) :: r => some (.code c :: .inScope c :: r) | _ => none) = some k1) (hr : Run P f n k1 s h w0 R) : Run P f n k s h w0 R := by
  split at hk
  · simp only [Option.some.injEq] at hk
    subst hk
    exact hr.step fun a w cs _ _ _ => step_lone_go (by simp [stepG, stepG.exec, Frame.at])
  · cases hk
/-- A place that a jump may name is passed. -/
theorem Run.label (k1 : List Item) (hk : (match k with | .code (.label _) :: r => some r | _ => none) = some k1) (hr : Run P f n k1 s h w0 R) : Run P f n k s h w0 R := by
  split at hk
  · simp only [Option.some.injEq] at hk
    subst hk
    exact hr.step fun a w cs _ _ _ => step_label
  · cases hk
def delOf (ρ : Operand → Value) (o : Oper) : Option (TypeId × Value × Value) :=
  match o.op with
  | .call { callee := .builtin .delete, args, argTypes } => match args.toList.map ρ, argTypes[0]? with
    | [mv, kv], some t => if o.dst.isNone then some (t, mv, kv) else none
    | _, _ => none
  | _ => none
theorem OpK.del {κ υ : Type} [DecidableEq κ] {o : Oper} {K : Env → Heap → Prop} {t : TypeId} {r : Nat} {fk : κ → Value} {g : υ → Value} {m : List (κ × υ)} {kt et : TypeId} (x : κ) (hc : delOf (evD n s) o = some (t, .map (some r), fk x))
    (ht : P.underlying t = some (.map kt et)) (hk : KeyOk P kt fk) (hm : MapAt h r fk g m) (hr : ∀ h', Mod (some r) h h' → h'.size = h.size → MapAt h' r fk g (mdel m x) → K s h') : OpK P n s h w0 o K := fun a w ha hwh h0 => by
  obtain ⟨dst, op, type, p, after, guard⟩ := o
  unfold delOf at hc
  simp only at hc
  split at hc
  · rename_i args argTypes
    split at hc
    · rename_i mv kv t' hargs hts
      split at hc
      · rename_i hd
        simp only [Option.some.injEq, Prod.mk.injEq] at hc
        obtain ⟨rfl, rfl, rfl⟩ := hc
        have hd : dst = none := by simpa using hd
        subst hd
        obtain ⟨w', h1, h2, h3, h4, h5⟩ := hm.del (ty := type) ht hk x w hwh hts
        have ha1 : args.map (evD n s) = #[.map (some r), fk x] := by
          apply Array.ext'; simpa using hargs
        simp only [Oper.wp, eval_eq ha]
        have hrun : (execOp (evD n s) { dst := none, op := .call { callee := .builtin .delete, args := args, argTypes := argTypes }, type := type, pos := p, after := after, guard := guard }).run P w = .ok (.value (.tuple #[])) w' := by
          simp only [execOp, resolve, Sem.run_bind, Sem.run_pure, Result.andThen, invoke, builtin, ha1, h1]
        rw [hrun, Oper.upon_value]
        subst hwh
        exact ⟨s, _, ha, rfl, h0.trans h2, hr _ h4 h5 h3⟩
      · cases hc
    · cases hc
  · cases hc
theorem RunA.mapUpdate {κ υ : Type} [DecidableEq κ] (fuel : Nat) (t : TypeId) (r : Nat) (fk : κ → Value) (g : υ → Value) (x : κ) (v : υ) (ex : Bool) (L1 : Array Bool) {m : List (κ × υ)} {kt et : TypeId}
    (he : ((nextA n s ops qs L).bind fun y => (mapUpOf (evD n s) y.1).map fun c => (c.1, c.2.1, c.2.2.1, c.2.2.2, y.2.1, y.2.2)) = some (t, .map (some r), fk x, g v, ex, L1))
    (ht : P.underlying t = some (.map kt et)) (hk : KeyOk P kt fk) (hm : MapAt h r fk g m)
    (hr : ∀ h', Mod (some r) h h' → h'.size = h.size → MapAt h' r fk g (mput m x v) → (ex = false → C h') ∧ RunA P f n ops C qs fuel L1 k s h' w0 R) : RunA P f n ops C qs (fuel + 1) L k s h w0 R := by
  simp only [Option.bind_eq_some_iff, Option.map_eq_some_iff, Prod.mk.injEq] at he
  obtain ⟨⟨o, ex', L2⟩, hn, ⟨t', a1, a2, a3⟩, hc, rfl, rfl, rfl, rfl, rfl, rfl⟩ := he
  exact RunA.op hn (OpK.mapUpdate x v hc ht hk hm hr)
theorem RunA.del {κ υ : Type} [DecidableEq κ] (fuel : Nat) (t : TypeId) (r : Nat) (fk : κ → Value) (g : υ → Value) (x : κ) (ex : Bool) (L1 : Array Bool) {m : List (κ × υ)} {kt et : TypeId}
    (he : ((nextA n s ops qs L).bind fun y => (delOf (evD n s) y.1).map fun c => (c.1, c.2.1, c.2.2, y.2.1, y.2.2)) = some (t, .map (some r), fk x, ex, L1))
    (ht : P.underlying t = some (.map kt et)) (hk : KeyOk P kt fk) (hm : MapAt h r fk g m)
    (hr : ∀ h', Mod (some r) h h' → h'.size = h.size → MapAt h' r fk g (mdel m x) → (ex = false → C h') ∧ RunA P f n ops C qs fuel L1 k s h' w0 R) : RunA P f n ops C qs (fuel + 1) L k s h w0 R := by
  simp only [Option.bind_eq_some_iff, Option.map_eq_some_iff, Prod.mk.injEq] at he
  obtain ⟨⟨o, ex', L2⟩, hn, ⟨t', a1, a2⟩, hc, rfl, rfl, rfl, rfl, rfl⟩ := he
  exact RunA.op hn (OpK.del x hc ht hk hm hr)
end
end Go.Vc
