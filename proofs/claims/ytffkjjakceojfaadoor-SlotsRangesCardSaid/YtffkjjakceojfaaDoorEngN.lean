/- The engine, part N: maps. -/
import Derived.Test.YtffkjjakceojfaaDoorEngM
import Derived.MapKept
import Derived.Laws.IdiomRangeMap
namespace Go.Proofs.YtffkjjakceojfaaDoor
open Go
set_option linter.unusedVariables false
set_option linter.unusedSimpArgs false
set_option linter.unusedSectionVars false

/-! ### Rows of keys and values -/
section rows
variable {α : Type} [DecidableEq α]
def atK (k : α) : List (α × Value) → Nat → Option (Nat × Value)
  | [], _ => none
  | p :: l, i => if k = p.1 then some (i, p.2) else atK k l (i + 1)
def getK (k : α) (l : List (α × Value)) : Option Value := (atK k l 0).map (·.2)
def putK (k : α) (v : Value) : List (α × Value) → List (α × Value)
  | [] => [(k, v)]
  | p :: l => if k = p.1 then (k, v) :: l else p :: putK k v l
def delK (k : α) : List (α × Value) → List (α × Value)
  | [] => []
  | p :: l => if k = p.1 then l else p :: delK k l
def encK (K : α → Value) (l : List (α × Value)) : List (Value × Value) := l.map fun p => (K p.1, p.2)
theorem encK_length (K : α → Value) (l : List (α × Value)) : (encK K l).length = l.length := by simp [encK]
theorem encK_nil (K : α → Value) : encK K [] = [] := rfl
theorem atK_none {k : α} {v : Value} : ∀ {l : List (α × Value)} {i : Nat}, atK k l i = none → putK k v l = l ++ [(k, v)] ∧ delK k l = l
  | [], _, _ => ⟨rfl, rfl⟩
  | p :: l, i, h => by
    simp only [atK] at h
    split at h
    · cases h
    · rename_i hne
      have ih := atK_none (v := v) h
      simp only [putK, delK, if_neg hne, ih.1, ih.2, List.cons_append, and_self]
theorem atK_some {k : α} {v u : Value} : ∀ {l : List (α × Value)} {i j : Nat}, atK k l i = some (j, u) → ∃ m, j = i + m ∧ l[m]? = some (k, u) ∧ putK k v l = l.set m (k, v) ∧ delK k l = l.eraseIdx m
  | [], _, _, h => by cases h
  | p :: l, i, j, h => by
    simp only [atK] at h
    split at h
    · rename_i he
      simp only [Option.some.injEq, Prod.mk.injEq] at h
      obtain ⟨rfl, rfl⟩ := h
      refine ⟨0, rfl, ?_, ?_, ?_⟩
      · simp [he]
      · simp only [putK, if_pos he, List.set_cons_zero]
      · simp only [delK, if_pos he, List.eraseIdx_cons_zero]
    · rename_i hne
      obtain ⟨m, h1, h2, h3, h4⟩ := atK_some (v := v) h
      refine ⟨m + 1, by omega, by simpa using h2, ?_, ?_⟩
      · simp only [putK, if_neg hne, h3, List.set_cons_succ]
      · simp only [delK, if_neg hne, h4, List.eraseIdx_cons_succ]
theorem getK_put (k k' : α) (v : Value) : ∀ (l : List (α × Value)) (i : Nat), (atK k' (putK k v l) i).map (·.2) = if k' = k then some v else (atK k' l i).map (·.2)
  | [], i => by
    by_cases h : k' = k <;> simp [putK, atK, h]
  | p :: l, i => by
    by_cases h : k = p.1
    · simp only [putK, if_pos h, atK]
      by_cases h' : k' = k
      · simp [h']
      · rw [if_neg h', if_neg h', if_neg (by rw [← h]; exact h')]
    · simp only [putK, if_neg h, atK]
      by_cases h' : k' = p.1
      · rw [if_pos h', if_pos h', if_neg (by rw [h']; exact fun e => h e.symm)]
      · rw [if_neg h', if_neg h', getK_put k k' v l (i + 1)]
end rows

/-! ### Maps in memory -/
def kvs (es : Array MapEntry) : List (Value × Value) := es.toList.map fun e => (e.key, e.val)
theorem kvs_length (es : Array MapEntry) : (kvs es).length = es.size := by simp [kvs]
/-- A map in block g: keys and values in the order in which they came. -/
def mapR (g : Nat) (l : List (Value × Value)) : Res where
  on w F := (∀ k, F k ↔ k = g) ∧ ∃ es clock, w.heap[g]? = some (.map es clock) ∧ kvs es = l ∧ (∀ x ∈ es.toList, x.born < clock) ∧ (es.toList.map (fun e : MapEntry => e.born)).Nodup
  loc := fun ⟨hF, es, clock, h, r⟩ hk => ⟨hF, es, clock, (hk g ((hF g).2 rfl)).trans h, r⟩
  lt := fun ⟨hF, es, clock, h, _⟩ k hk => by
    rw [(hF k).1 hk]
    exact (Array.getElem?_eq_some_iff.1 h).1
/-- A map in block g that an iterator in block b goes through: what is left. -/
def itR (b g : Nat) (l left : List (Value × Value)) (last : Option (Value × Value)) : Res where
  on w F := (∀ k, F k ↔ k = b ∨ k = g) ∧ b ≠ g ∧ ∃ es clock since c0 seen, w.heap[g]? = some (.map es clock) ∧ w.heap[b]? = some (.mapIter (some g) since seen c0) ∧ kvs es = l ∧ (∀ x ∈ es.toList, x.born < clock) ∧ (es.toList.map (fun e : MapEntry => e.born)).Nodup ∧
    (∀ x ∈ es.toList, x.born < since) ∧ since ≤ c0 ∧ since ≤ clock ∧ kvs (es.filter fun e => !seen.contains e.born) = left ∧ ∀ p, last = some p → c0 = clock ∧ ∃ e, e ∈ es.toList ∧ seen.back? = some e.born ∧ (e.key, e.val) = p
  loc := fun ⟨hF, hne, es, clock, since, c0, seen, h, hb, r⟩ hk => ⟨hF, hne, es, clock, since, c0, seen, (hk g ((hF g).2 (.inr rfl))).trans h, (hk b ((hF b).2 (.inl rfl))).trans hb, r⟩
  lt := fun ⟨hF, _, es, clock, since, c0, seen, h, hb, _⟩ k hk => by
    rcases (hF k).1 hk with rfl | rfl
    · exact (Array.getElem?_eq_some_iff.1 hb).1
    · exact (Array.getElem?_eq_some_iff.1 h).1
/-- Keys of type T that stand for those of α. -/
class KeyT (P : Program) (T : TypeId) {α : Type} [DecidableEq α] (K : α → Value) : Prop where
  check : ∀ (w : World) (b : Bool) (k : α), (Instr.checkKey b 10000 T (K k)).run P w = .ok () w
  find : ∀ (w : World) (k : α) (es : List MapEntry) (l : List (α × Value)), es.map (fun e => (e.key, e.val)) = encK K l → (Instr.findKey T (K k) es).run P w = .ok (atK k l 0) w
  stays : ∀ (w : World) (k : α), (Instr.keyThatStays (K k) (K k)).run P w = .ok (K k) w
theorem findNow_int {ty : TypeDesc} {kd : IntKind} (hty : ty = .int kd) (k : Int) : ∀ (es : List MapEntry) (l : List (Int × Value)) (i : Nat), es.map (fun e => (e.key, e.val)) = encK (Value.int kd) l → Instr.findNow ty (.int kd k) es i = some (atK k l i)
  | [], l, i, h => by
    cases l with
    | nil => rfl
    | cons p l => simp [encK] at h
  | e :: es, l, i, h => by
    cases l with
    | nil => simp [encK] at h
    | cons p l =>
      simp only [encK, List.map_cons, List.cons.injEq, Prod.mk.injEq] at h
      obtain ⟨⟨h1, h2⟩, h3⟩ := h
      subst hty
      simp only [Instr.findNow, h1, Instr.sameNow, if_pos, atK, h2]
      by_cases hk : k = p.1
      · simp [hk]
      · simp only [hk, if_false, beq_eq_false_iff_ne.2 hk]
        exact findNow_int rfl k es l (i + 1) h3
theorem keyT_int {P : Program} {T : TypeId} {kd : IntKind} (h : P.underlying T = some (.int kd)) : KeyT P T (Value.int kd) where
  check w b k := by
    rw [show (10000 : Nat) = 9999 + 1 from rfl]
    exact MapKept.run_checkKey (d := .int kd) h (by rfl) b 9999
  find w k es l he := MapKept.run_findKey h (findNow_int rfl k es l 0 he)
  stays w k := by simp [Instr.keyThatStays, Instr.sameBits]
theorem findAsking_dig {P : Program} {T e : TypeId} (ht : arrT P T = some (16, e)) (he : P.underlying e = some (.int .u8)) (hs : szT P e = some 1) (w : World) (k : Dig) : ∀ (es : List MapEntry) (l : List (Dig × Value)) (i : Nat),
    es.map (fun e => (e.key, e.val)) = encK (fun d => Value.agg (dc d).toArray) l → (Instr.findAsking T (.agg (dc k).toArray) es i).run P w = .ok (atK k l i) w
  | [], l, i, h => by
    cases l with
    | nil => rfl
    | cons p l => simp [encK] at h
  | e' :: es, l, i, h => by
    cases l with
    | nil => simp [encK] at h
    | cons p l =>
      simp only [encK, List.map_cons, List.cons.injEq, Prod.mk.injEq] at h
      obtain ⟨⟨h1, h2⟩, h3⟩ := h
      have hq : (Op.equal T (.agg (dc k).toArray) (.agg (dc p.1).toArray)).run P w = .ok (decide (k = p.1)) w := run_equal_dig ht he hs
      simp only [Instr.findAsking, h1, Sem.run_bind, hq, Result.andThen_ok, atK, h2]
      by_cases hk : k = p.1
      · simp [hk]
      · simp only [hk, decide_false, if_false, Bool.false_eq_true]
        exact findAsking_dig ht he hs w k es l (i + 1) h3
theorem run_forIn_list {P : Program} {w : World} {f : Nat → PUnit → Sem (ForInStep PUnit)} : ∀ (l : List Nat), (∀ i ∈ l, (f i ⟨⟩).run P w = .ok (.yield ⟨⟩) w) → (forIn l ⟨⟩ f).run P w = .ok ⟨⟩ w
  | [], _ => by simp
  | i :: l, h => by
    have h1 := h i (by simp)
    have ih := run_forIn_list (f := f) l fun j hj => h j (by simp [hj])
    simp only [List.forIn_cons, Sem.run_bind, h1, Result.andThen_ok, ih]
theorem sameBits_zip (n : Nat) : ∀ (l : List UInt8), ((l.map B8).zip (l.map B8)).all (fun p => Instr.sameBits (n + 1) p.1 p.2) = true
  | [] => rfl
  | b :: l => by
    simp only [List.map_cons, List.zip_cons_cons, List.all_cons, sameBits_zip n l, Bool.and_true]
    simp [B8, Instr.sameBits]
theorem keyT_dig {P : Program} {T e : TypeId} (ht : arrT P T = some (16, e)) (he : P.underlying e = some (.int .u8)) (hs : szT P e = some 1) : KeyT P T (fun d : Dig => Value.agg (dc d).toArray) where
  check w b k := by
    have hr : rowT P e = some false := by simp [rowT, he]
    have hz : ∀ w, (sizeOf e).run P w = .ok 1 w := fun w => run_sz hs
    show (Instr.checkKey b (9999 + 1) T _).run P w = _
    unfold Instr.checkKey
    simp only [Sem.run_bind, run_underlying (run_arrT ht), Result.andThen_ok]
    simp only [Std.Legacy.Range.forIn_eq_forIn_range', Std.Legacy.Range.size, Nat.sub_zero, Nat.add_one_sub_one, Nat.div_one]
    rw [run_forIn_list]
    · rfl
    intro i hi
    have hi16 : i < (dc k).length := by
      have := List.mem_range'_1.1 hi
      rw [dc_length]; simp at this; omega
    have hv : (dc k)[i * 1]? = some (B8 (k.l.getD i 0)) := by
      have h2 : i < k.l.length := by rw [dc_length] at hi16; rw [k.h]; exact hi16
      simp [dc, List.getD, h2]
    simp only [Sem.run_bind, hz, Result.andThen_ok, run_part1 hr hv]
    unfold Instr.checkKey
    simp [run_underlying he, B8]
  find w k es l h := by
    have hu := run_arrT ht
    cases es with
    | nil =>
      cases l with
      | nil => simp [Instr.findKey, run_underlying hu, Instr.findNow, atK]
      | cons p l => simp [encK] at h
    | cons e1 es =>
      have : Instr.findNow (.array 16 e) (.agg (dc k).toArray) (e1 :: es) 0 = none := by simp [Instr.findNow, Instr.sameNow]
      simp only [Instr.findKey, Sem.run_bind, run_underlying hu, Result.andThen_ok, this]
      exact findAsking_dig ht he hs w k (e1 :: es) l 0 h
  stays w k := by
    have h : Instr.sameBits (9998 + 1 + 1) (.agg (dc k).toArray) (.agg (dc k).toArray) = true := by
      have := sameBits_zip 9998 k.l
      unfold Instr.sameBits
      simpa [dc] using this
    show ((if Instr.sameBits (9998 + 1 + 1) (.agg (dc k).toArray) (.agg (dc k).toArray) = true then _ else _ : Sem Value)).run P w = _
    rw [if_pos h]
    simp
section
variable {P : Program} {w0 : World} {F0 : Nat → Prop} {L : List Res}
theorem St.pushR {w : World} {o : Obj} {r : Res} (hs : St w0 F0 L w) (hr : ∀ w' : World, w'.heap[w.heap.size]? = some o → r.on w' (fun k => k = w.heap.size)) : St w0 F0 (r :: L) { w with heap := w.heap.push o } := by
  obtain ⟨F, hF, hst⟩ := hs
  refine ⟨fun k => k = w.heap.size ∨ F k, ⟨fun k => k = w.heap.size, F, hr _ (by simp), ?_, fun k => Iff.rfl, ?_⟩, ?_⟩
  · exact stars_loc hF fun k hk => by
      have := stars_lt hF k hk
      simp [Array.getElem?_push, Nat.ne_of_lt this]
  · rintro k rfl hk
    exact absurd (stars_lt hF _ hk) (Nat.lt_irrefl _)
  · have hsz := hst.size
    refine ⟨hst.os, hst.tape, hst.output, by simp; omega, fun k hk hn => ?_, ?_⟩
    · rw [← hst.block k hk hn]
      show (w.heap.push _)[k]? = _
      rw [Array.getElem?_push, if_neg (by omega)]
    · rintro k (rfl | hk)
      · exact .inr hsz
      · exact hst.own k hk
theorem St.setR {w : World} {g : Nat} {o' : Obj} {r r' : Res} {L' : List Res} (hs : St w0 F0 L w) (hp : Pick L r L') (hg : ∀ F, r.on w F → F g ∧ g < w.heap.size)
    (hr : ∀ (w' : World) F, r.on w F → w'.heap[g]? = some o' → (∀ k, k ≠ g → w'.heap[k]? = w.heap[k]?) → r'.on w' F) : St w0 F0 (r' :: L') { w with heap := w.heap.setIfInBounds g o' } := by
  obtain ⟨F, hF, hst⟩ := hs
  obtain ⟨F1, F2, h1, h2, hE, hd⟩ := hp.stars hF
  obtain ⟨hg1, hlt⟩ := hg F1 h1
  refine ⟨F, ⟨F1, F2, hr _ F1 h1 (by simp [hlt]) (fun k hk => by simp [Array.getElem?_setIfInBounds, Ne.symm hk]), ?_, hE, hd⟩, ?_⟩
  · refine stars_loc h2 fun k hk => ?_
    have : ¬ g = k := fun e => hd k (e ▸ hg1) hk
    simp [Array.getElem?_setIfInBounds, this]
  · refine ⟨hst.os, hst.tape, hst.output, by simpa using hst.size, fun k hk hn => ?_, hst.own⟩
    rw [← hst.block k hk hn]
    have : ¬ g = k := fun e => (hst.old hk hn).2 ((hE k).2 (.inl (e ▸ hg1)))
    simp [Array.getElem?_setIfInBounds, this]
theorem St.mapAt {w : World} {g : Nat} {l : List (Value × Value)} {L' : List Res} (hs : St w0 F0 L w) (hp : Pick L (mapR g l) L') : ∃ es clock, w.heap[g]? = some (.map es clock) ∧ kvs es = l ∧ (∀ x ∈ es.toList, x.born < clock) ∧ (es.toList.map (·.born)).Nodup := by
  obtain ⟨F, hF, _⟩ := hs
  obtain ⟨F1, h1, _⟩ := stars_pick hp hF
  exact h1.2
variable {Q : Exit → Act → World → Prop} {n : Nat} {env : Env} {ops : Array Oper} {rest : List Oper}
variable {d : Option Tmp} {t : Tmp} {ty : TypeId} {pos : String} {af : Array Edge} {gd : Option (Nat × Bool)}
theorem gl_mkMap {T : TypeId} (hw : Wt ops n env ⟨some t, .makeMap T none, ty, pos, af, gd⟩ true) (k : ∀ g, Gl P w0 F0 (mapR g [] :: L) ops Q rest n ((t, .map (some g)) :: env)) : Gl P w0 F0 L ops Q (⟨some t, .makeMap T none, ty, pos, af, gd⟩ :: rest) n env := by
  refine gl_effx (α := Nat) (L' := fun g => mapR g [] :: L) (v := fun g => .map (some g)) hw (fun w hst => ?_) k
  refine ⟨w.heap.size, { w with heap := w.heap.push (.map #[] 0) }, ?_, hst.pushR fun w' h => ⟨fun k => Iff.rfl, #[], 0, h, rfl, by simp, by simp⟩⟩
  simp [execOp, Instr.makeMap, newObj, Sem.run]
variable {α : Type} [DecidableEq α] {K : α → Value}
theorem r_look {x y : Operand} {T kt e g : Nat} {l : List (α × Value)} {L' : List Res} {z : Value} {key : α} {b : Bool} [KeyT P kt K] (hx : ev n env x = .map (some g)) (hy : ev n env y = K key) (hm : P.underlying T = some (.map kt e)) (hz : zeroT P e = some z) (hp : Pick L (mapR g (encK K l)) L') :
    Runs P w0 F0 L n env ⟨d, .lookup T x y b, ty, pos, af, gd⟩ (if b then .tuple #[(getK key l).getD z, .bool (getK key l).isSome] else (getK key l).getD z) := fun w hst => by
  obtain ⟨es, clock, hh, hk, _⟩ := hst.mapAt hp
  have hf := KeyT.find (P := P) (T := kt) (K := K) w key es.toList l hk
  have hc := KeyT.check (P := P) (T := kt) (K := K) w es.isEmpty key
  simp only [execOp, hx, hy, Instr.lookup, Sem.run_bind, run_underlying hm, Result.andThen_ok, MapKept.run_getObj_map hh, Sem.run_pure, hc, hf, getK]
  cases atK key l 0 with
  | none => simp only [Sem.run_bind, run_zeroT hz, Result.andThen_ok, Sem.run_pure]; cases b <;> rfl
  | some p => simp only [Sem.run_pure, Result.andThen_ok]; cases b <;> rfl
theorem kvs_modify {es : Array MapEntry} {m : Nat} {k v : Value} : kvs (es.modify m fun e => { e with key := k, val := v }) = (kvs es).set m (k, v) := by
  apply List.ext_getElem?
  intro i
  simp only [kvs, List.getElem?_map, Array.getElem?_toList, Array.getElem?_modify, List.getElem?_set, List.length_map, Array.length_toList]
  by_cases h : m = i
  · subst h
    by_cases hi : m < es.size
    · simp [hi]
    · simp [hi]
  · simp [h]
theorem born_modify {es : Array MapEntry} {m : Nat} {k v : Value} : (es.modify m fun e => { e with key := k, val := v }).toList.map (·.born) = es.toList.map (·.born) := by
  apply List.ext_getElem?
  intro i
  simp only [List.getElem?_map, Array.getElem?_toList, Array.getElem?_modify]
  by_cases h : m = i
  · subst h; cases es[m]? <;> simp
  · simp [h]
theorem all_born {es es' : Array MapEntry} {clock : Nat} (h : ∀ x ∈ es.toList, x.born < clock) (e : es'.toList.map (·.born) = es.toList.map (·.born)) : ∀ x ∈ es'.toList, x.born < clock := fun x hx => by
  have : x.born ∈ es.toList.map (·.born) := by rw [← e]; exact List.mem_map.2 ⟨x, hx, rfl⟩
  obtain ⟨y, hy, h2⟩ := List.mem_map.1 this
  rw [← h2]; exact h y hy
theorem encK_set {l : List (α × Value)} {m : Nat} {k : α} {v : Value} : encK K (l.set m (k, v)) = (encK K l).set m (K k, v) := by simp [encK, List.map_set]
theorem encK_append {l : List (α × Value)} {k : α} {v : Value} : encK K (l ++ [(k, v)]) = encK K l ++ [(K k, v)] := by simp [encK]
theorem encK_get {l : List (α × Value)} {m : Nat} {k : α} {v : Value} (h : l[m]? = some (k, v)) : (encK K l)[m]? = some (K k, v) := by simp [encK, h]
theorem gl_put {x y u : Operand} {T kt e g : Nat} {l : List (α × Value)} {L' : List Res} {key : α} {v : Value} [KeyT P kt K] (hw : Wt ops n env ⟨d, .mapUpdate T x y u, ty, pos, af, gd⟩ true) (hx : ev n env x = .map (some g)) (hy : ev n env y = K key) (hu : ev n env u = v)
    (hm : P.underlying T = some (.map kt e)) (hp : Pick L (mapR g (encK K l)) L') (k : Gl P w0 F0 (mapR g (encK K (putK key v l)) :: L') ops Q rest n (pu d undef env)) : Gl P w0 F0 L ops Q (⟨d, .mapUpdate T x y u, ty, pos, af, gd⟩ :: rest) n env :=
  gl_skip hw (fun w hst => by
    obtain ⟨es, clock, hh, hk, hb, hn⟩ := hst.mapAt hp
    have hlt : g < w.heap.size := (Array.getElem?_eq_some_iff.1 hh).1
    have hf := KeyT.find (P := P) (T := kt) (K := K) w key es.toList l hk
    have hc := KeyT.check (P := P) (T := kt) (K := K) w false key
    cases ha : atK key l 0 with
    | none =>
      refine ⟨{ w with heap := w.heap.setIfInBounds g (.map (es.push ⟨K key, v, clock⟩) (clock + 1)) }, ?_, ?_⟩
      · simp only [execOp, hx, hy, hu, Instr.mapUpdate, Sem.run_bind, run_underlying hm, Result.andThen_ok, MapKept.run_getObj_map hh, hc, hf, ha, MapKept.run_setObj_map _ hh]
        rfl
      · refine hst.setR hp (fun F h => ⟨(h.1 g).2 rfl, hlt⟩) (fun w' F h hg' _ => ⟨h.1, _, _, hg', ?_, ?_, ?_⟩)
        · rw [(atK_none (v := v) ha).1, encK_append, ← hk]; simp [kvs]
        · intro z hz
          simp only [Array.toList_push, List.mem_append, List.mem_singleton] at hz
          rcases hz with hz | rfl
          · have := hb z hz; omega
          · exact Nat.lt_succ_self _
        · simp only [Array.toList_push, List.map_append, List.map_cons, List.map_nil]
          refine List.nodup_append.2 ⟨hn, by simp, ?_⟩
          intro a ha' b hb' e
          obtain ⟨z, hz, rfl⟩ := List.mem_map.1 ha'
          simp only [List.mem_singleton] at hb'
          have := hb z hz
          omega
    | some p =>
      obtain ⟨j, u0⟩ := p
      obtain ⟨m, rfl, h2, h3, _⟩ := atK_some (v := v) ha
      rw [Nat.zero_add] at ha
      have hkey : ((es[m]?).map (·.key)).getD (K key) = K key := by
        have := encK_get (K := K) h2
        rw [← hk, kvs, List.getElem?_map, Array.getElem?_toList] at this
        cases he : es[m]? with
        | none => rfl
        | some e' => rw [he] at this; simp at this; simp [this.1]
      refine ⟨{ w with heap := w.heap.setIfInBounds g (.map (es.modify m fun e => { e with key := K key, val := v }) clock) }, ?_, ?_⟩
      · simp only [execOp, hx, hy, hu, Instr.mapUpdate, Sem.run_bind, run_underlying hm, Result.andThen_ok, MapKept.run_getObj_map hh, hc, hf, ha, hkey, KeyT.stays (P := P) (T := kt) (K := K), MapKept.run_setObj_map _ hh]
        rfl
      · refine hst.setR hp (fun F h => ⟨(h.1 g).2 rfl, hlt⟩) (fun w' F h hg' _ => ⟨h.1, _, _, hg', ?_, ?_, ?_⟩)
        · rw [kvs_modify, h3, encK_set, ← hk]
        · exact all_born hb born_modify
        · rw [born_modify]; exact hn) k
/-! ### Length, clearing, going through -/
theorem r_lenm {x : Operand} {T kt e g : Nat} {l : List (Value × Value)} {L' : List Res} (hx : ev n env x = .map (some g)) (hm : P.underlying T = some (.map kt e)) (hp : Pick L (mapR g l) L') :
    Runs P w0 F0 L n env ⟨d, .call ⟨.builtin .len, #[x], #[T]⟩, ty, pos, af, gd⟩ (.int .i64 (l.length : Int)) := fun w hst => by
  obtain ⟨es, clock, hh, hk, _⟩ := hst.mapAt hp
  have hl : es.size = l.length := by rw [← hk, kvs_length]
  simp [execOp, resolve, invoke, builtin, Builtin.len_, hx, run_underlying hm, MapKept.run_getObj_map hh, goInt, hl]
theorem gl_clear {x : Operand} {T kt e g : Nat} {l : List (Value × Value)} {L' : List Res} (hw : Wt ops n env ⟨d, .call ⟨.builtin .clear, #[x], #[T]⟩, ty, pos, af, gd⟩ true) (hx : ev n env x = .map (some g)) (hm : P.underlying T = some (.map kt e)) (hp : Pick L (mapR g l) L')
    (k : Gl P w0 F0 (mapR g [] :: L') ops Q rest n (pu d (.tuple #[]) env)) : Gl P w0 F0 L ops Q (⟨d, .call ⟨.builtin .clear, #[x], #[T]⟩, ty, pos, af, gd⟩ :: rest) n env :=
  gl_eff hw (fun w hst => by
    obtain ⟨es, clock, hh, hk, _⟩ := hst.mapAt hp
    have hlt : g < w.heap.size := (Array.getElem?_eq_some_iff.1 hh).1
    refine ⟨{ w with heap := w.heap.setIfInBounds g (.map #[] clock) }, ?_, hst.setR hp (fun F h => ⟨(h.1 g).2 rfl, hlt⟩) (fun w' F h hg' _ => ⟨h.1, _, _, hg', rfl, by simp, by simp⟩)⟩
    simp only [execOp, resolve, invoke, builtin, Builtin.clear_, hx]
    simp [run_underlying hm, MapKept.run_getObj_map hh, MapKept.run_setObj_map _ hh, hx, Builtin.clear_]) k
theorem St.pushR2 {w : World} {o : Obj} {r r' : Res} {L' : List Res} (hs : St w0 F0 L w) (hp : Pick L r L') (hr : ∀ (w' : World) F, r.on w F → w'.heap[w.heap.size]? = some o → (∀ k, k < w.heap.size → w'.heap[k]? = w.heap[k]?) → r'.on w' (fun k => k = w.heap.size ∨ F k)) :
    St w0 F0 (r' :: L') { w with heap := w.heap.push o } := by
  obtain ⟨F, hF, hst⟩ := hs
  have hlt := stars_lt hF
  obtain ⟨F1, F2, h1, h2, hE, hd⟩ := hp.stars hF
  have hold : ∀ k, k < w.heap.size → (w.heap.push o)[k]? = w.heap[k]? := fun k hk => by rw [Array.getElem?_push, if_neg (by omega)]
  refine ⟨fun k => k = w.heap.size ∨ F k, ⟨fun k => k = w.heap.size ∨ F1 k, F2, hr _ F1 h1 (by simp) hold, stars_loc h2 fun k hk => hold k (hlt k ((hE k).2 (.inr hk))), fun k => ?_, ?_⟩, ?_⟩
  · show (k = w.heap.size ∨ F k) ↔ ((k = w.heap.size ∨ F1 k) ∨ F2 k)
    rw [hE]; exact or_assoc.symm
  · rintro k (rfl | hk) h
    · exact absurd (hlt _ ((hE _).2 (.inr h))) (Nat.lt_irrefl _)
    · exact hd k hk h
  · have hsz := hst.size
    refine ⟨hst.os, hst.tape, hst.output, by simp; omega, fun k hk hn => ?_, ?_⟩
    · rw [← hst.block k hk hn]; exact hold k (by omega)
    · rintro k (rfl | hk)
      · exact .inr hsz
      · exact hst.own k hk
theorem filter_all {es : Array MapEntry} : es.filter (fun e => !(#[] : Array Nat).contains e.born) = es := by simp
theorem gl_range {x : Operand} {T kt e g : Nat} {l : List (Value × Value)} {L' : List Res} (hw : Wt ops n env ⟨some t, .range T x, ty, pos, af, gd⟩ true) (hx : ev n env x = .map (some g)) (hm : P.underlying T = some (.map kt e)) (hp : Pick L (mapR g l) L')
    (k : ∀ b, Gl P w0 F0 (itR b g l l none :: L') ops Q rest n ((t, .pointer (some ⟨b, 0, none⟩)) :: env)) : Gl P w0 F0 L ops Q (⟨some t, .range T x, ty, pos, af, gd⟩ :: rest) n env := by
  refine gl_effx (α := Nat) (L' := fun b => itR b g l l none :: L') (v := fun b => .pointer (some ⟨b, 0, none⟩)) hw (fun w hst => ?_) k
  obtain ⟨es, clock, hh, hk, hb, hn⟩ := hst.mapAt hp
  have hlt : g < w.heap.size := (Array.getElem?_eq_some_iff.1 hh).1
  refine ⟨w.heap.size, { w with heap := w.heap.push (.mapIter (some g) clock #[] clock) }, ?_, hst.pushR2 hp fun w' F h hnew hold => ⟨fun k => ?_, by omega, es, clock, clock, clock, #[], (hold g hlt).trans hh, hnew, hk, hb, hn, hb, Nat.le_refl _, Nat.le_refl _, by rw [filter_all]; exact hk, fun p hp => by cases hp⟩⟩
  · simp only [execOp, hx, Instr.range, Sem.run_bind, run_underlying hm, Result.andThen_ok, MapKept.run_getObj_map hh, Sem.run_pure]
    simp [newObj, Sem.run]
  · show (k = w.heap.size ∨ F k) ↔ _
    rw [h.1 k]
theorem St.drewR {w : World} (hs : St w0 F0 L w) : St w0 F0 L w.drew := by
  obtain ⟨F, hF, hst⟩ := hs
  exact ⟨F, stars_loc hF fun _ _ => rfl, ⟨hst.os, hst.tape, hst.output, hst.size, hst.block, hst.own⟩⟩
theorem choose_next (w : World) (m : Nat) (hm : 0 < m) : ∃ j w1, j < m ∧ (w1 = w ∨ w1 = w.drew) ∧ (choose (Question.mapNext m)).run P w = .ok j w1 := by
  by_cases hf : m ≤ 1
  · exact ⟨0, w, hm, .inl rfl, by simp [choose, Sem.run, Question.forced, hf]⟩
  · exact ⟨_, w.drew, Nat.mod_lt _ (by omega), .inr rfl, by
      simp only [choose, Sem.run, Question.forced, decide_eq_true_eq, hf, if_false, Question.cut]
      rfl⟩
theorem getObj_it {w : World} {r : Nat} {a : Option Nat} {b c : Nat} {s : Array Nat} (hb : w.heap[r]? = some (.mapIter a b s c)) : (getObj r).run P w = .ok (.mapIter a b s c) w := by simp [getObj, Sem.run, hb]
theorem setObj_it {w : World} {r : Nat} {a : Option Nat} {b c : Nat} {s : Array Nat} (o : Obj) (hb : w.heap[r]? = some (.mapIter a b s c)) : (setObj r o).run P w = .ok () { w with heap := w.heap.setIfInBounds r o } := by simp [setObj, Sem.run, hb]
theorem filter_split {p : MapEntry → Bool} {e : MapEntry} {A B l : List MapEntry} (hn : (l.map (fun e : MapEntry => e.born)).Nodup) (h : l.filter p = A ++ e :: B) : l.filter (fun x => p x && !(x.born == e.born)) = A ++ B := by
  have hs : (l.filter p).filter (fun x => !(x.born == e.born)) = A ++ B := by
    have hnf : ((l.filter p).map (fun e : MapEntry => e.born)).Nodup := hn.sublist ((List.filter_sublist).map _)
    rw [h] at hnf ⊢
    rw [List.map_append, List.map_cons] at hnf
    have h1 := List.nodup_append.1 hnf
    have h2 := List.nodup_cons.1 h1.2.1
    have hA : A.filter (fun x => !(x.born == e.born)) = A := List.filter_eq_self.2 fun x hx => by
      have := h1.2.2 x.born (List.mem_map.2 ⟨x, hx, rfl⟩) e.born (by simp)
      simpa using this
    have hB : B.filter (fun x => !(x.born == e.born)) = B := List.filter_eq_self.2 fun x hx => by
      have : x.born ≠ e.born := fun he => h2.1 (by rw [← he]; exact List.mem_map.2 ⟨x, hx, rfl⟩)
      simpa using this
    rw [List.filter_append, List.filter_cons, hA, hB]
    simp
  rw [← hs, List.filter_filter]
  congr 1
  funext x
  exact Bool.and_comm _ _
theorem gl_next {x : Operand} {b g : Nat} {l left : List (Value × Value)} {last : Option (Value × Value)} {L' : List Res} (hw : Wt ops n env ⟨some t, .next x false, ty, pos, af, gd⟩ true) (hx : ev n env x = .pointer (some ⟨b, 0, none⟩)) (hp : Pick L (itR b g l left last) L')
    (k0 : left = [] → Gl P w0 F0 L ops Q rest n ((t, .tuple #[.bool false]) :: env))
    (k1 : ∀ A p B, left = A ++ p :: B → Gl P w0 F0 (itR b g l (A ++ B) (some p) :: L') ops Q rest n ((t, .tuple #[.bool true, p.1, p.2]) :: env)) : Gl P w0 F0 L ops Q (⟨some t, .next x false, ty, pos, af, gd⟩ :: rest) n env := by
  intro w hst
  have hst0 := hst
  obtain ⟨F, hF, hstp⟩ := hst0
  obtain ⟨F1, F2, ⟨hFk, hne, es, clock, since, c0, seen, hh, hb, hk, hbn, hn, hold, hsc, hscl, hleft, _⟩, h2, hE, hd⟩ := hp.stars hF
  have hltb : b < w.heap.size := (Array.getElem?_eq_some_iff.1 hb).1
  have t1 := next_test_false seen es since c0 hold hsc
  have hmem : ∀ x ∈ (es.filter fun e => !seen.contains e.born), x.born < since := fun x hx => hold x (by simp at hx ⊢; exact hx.1)
  have e1 : (es.filter fun e => !seen.contains e.born).filter (fun x => decide (x.born < since)) = es.filter fun e => !seen.contains e.born := Array.filter_eq_self.2 (fun x hx => by simpa using hmem x hx)
  have e2 : (es.filter fun e => !seen.contains e.born).filter (fun x => decide (x.born ≥ since)) = #[] := by
    rw [Array.filter_eq_empty_iff]
    intro x hx
    have := hmem x hx
    simp; omega
  have fin : ∀ (v : Value) (w' : World), (execOp (ev n env) ⟨some t, .next x false, ty, pos, af, gd⟩).run P w = .ok (.value v) w' → wpList P ops Q rest (fr n ((t, v) :: env)) w' → wpList P ops Q (⟨some t, .next x false, ty, pos, af, gd⟩ :: rest) (fr n env) w := fun v w' hr hk' => by
    unfold wpList
    rw [if_pos (show Region.wanted _ _ = true from hw)]
    refine .inl ?_
    unfold Oper.wp
    rw [fr_eval, hr, Oper.upon_value, fr_put]
    exact hk'
  by_cases h0 : (es.filter fun e => !seen.contains e.born).size = 0
  · have hem : (es.filter fun e => !seen.contains e.born) = #[] := Array.eq_empty_of_size_eq_zero h0
    have hl : left = [] := by rw [← hleft, hem]; rfl
    refine fin _ w ?_ (k0 hl w hst)
    simp only [execOp, hx, Instr.next, Sem.run_bind, getObj_it hb, Result.andThen_ok, MapKept.run_getObj_map hh, t1, Bool.false_eq_true, if_false, e1, e2, hem]
    simp [choose, Sem.run, Question.forced]
  · obtain ⟨j, w1, hj, hw1, hrun⟩ := choose_next (P := P) w (es.filter fun e => !seen.contains e.born).size (by omega)
    have hemp : (es.filter fun e => !seen.contains e.born).isEmpty = false := by unfold Array.isEmpty; exact decide_eq_false h0
    obtain ⟨e, he⟩ : ∃ e, (es.filter fun e => !seen.contains e.born)[j]? = some e := ⟨_, Array.getElem?_eq_getElem hj⟩
    have hsplit : (es.toList.filter fun e => !seen.contains e.born) = ((es.toList.filter fun e => !seen.contains e.born).take j) ++ e :: (es.toList.filter fun e => !seen.contains e.born).drop (j + 1) := by
      have h3 : (es.toList.filter fun e => !seen.contains e.born)[j]? = some e := by rw [← Array.toList_filter, Array.getElem?_toList]; exact he
      have h4 := (List.getElem?_eq_some_iff.1 h3)
      obtain ⟨h5, h6⟩ := h4
      rw [← h6, List.getElem_cons_drop, List.take_append_drop]
    have hkv : left = ((es.toList.filter fun e => !seen.contains e.born).take j).map (fun e => (e.key, e.val)) ++ (e.key, e.val) :: ((es.toList.filter fun e => !seen.contains e.born).drop (j + 1)).map (fun e => (e.key, e.val)) := by
      rw [← hleft, kvs, Array.toList_filter]
      conv => lhs; rw [hsplit]
      rw [List.map_append, List.map_cons]
    have hh1 : w1.heap[g]? = some (.map es clock) := by rcases hw1 with rfl | rfl <;> exact hh
    have hb1 : w1.heap[b]? = some (.mapIter (some g) since seen c0) := by rcases hw1 with rfl | rfl <;> exact hb
    have hs1 : St w0 F0 L w1 := by rcases hw1 with rfl | rfl; exact hst; exact hst.drewR
    refine fin (.tuple #[.bool true, e.key, e.val]) { w1 with heap := w1.heap.setIfInBounds b (.mapIter (some g) since (seen.push e.born) clock) } ?_ (k1 _ _ _ hkv _ (hs1.setR hp (fun F h => ⟨(h.1 b).2 (.inl rfl), (Array.getElem?_eq_some_iff.1 hb1).1⟩) (fun w' F h hb' hoth => ⟨h.1, h.2.1, es, clock, since, clock, seen.push e.born, (hoth g (Ne.symm h.2.1)).trans hh1, hb', hk, hbn, hn, hold, hscl, hscl, ?_, fun p hp => ⟨rfl, e, ?_, by simp, Option.some.inj hp⟩⟩)))
    · simp only [execOp, hx, Instr.next, Sem.run_bind, getObj_it hb, Result.andThen_ok, MapKept.run_getObj_map hh, t1, Bool.false_eq_true, if_false, e1, e2, hemp, Array.empty_append, Array.append_empty, Array.size_map, hrun, Array.getElem?_map, he, Option.map_some, setObj_it _ hb1, Sem.run_pure]
    · have h7 := filter_split (p := fun e => !seen.contains e.born) hn hsplit
      rw [kvs, Array.toList_filter, ← List.map_append, ← h7]
      congr 1
      congr 1
      funext x
      rw [Array.contains_push]
      cases seen.contains x.born <;> simp
    · have h3 : e ∈ (es.toList.filter fun e => !seen.contains e.born) := by rw [hsplit]; simp
      exact (List.mem_filter.1 h3).1
theorem r_entry {x : Operand} {b g : Nat} {l left : List (Value × Value)} {p : Value × Value} {L' : List Res} (hx : ev n env x = .pointer (some ⟨b, 0, none⟩)) (hp : Pick L (itR b g l left (some p)) L') :
    Runs P w0 F0 L n env ⟨d, .entry x, ty, pos, af, gd⟩ (.tuple #[p.1, p.2]) := fun w hst => by
  obtain ⟨F, hF, hstp⟩ := hst
  obtain ⟨F1, F2, ⟨hFk, hne, es, clock, since, c0, seen, hh, hb, hk, hbn, hn, hold, hsc, hscl, hleft, hlast⟩, h2, hE, hd⟩ := hp.stars hF
  obtain ⟨rfl, e, he, hbk, rfl⟩ := hlast p rfl
  have hf : es.find? (·.born == e.born) = some e := by rw [← Array.find?_toList]; exact find_born e es.toList hn he
  simp only [execOp, hx, Instr.entry, Sem.run_bind, getObj_it hb, Result.andThen_ok, hbk, MapKept.run_getObj_map hh, bne_self_eq_false, Bool.false_eq_true, if_false, hf, Sem.run_pure]
theorem St.itMap {w : World} {b g : Nat} {l left : List (Value × Value)} {last : Option (Value × Value)} (hs : St w0 F0 (itR b g l left last :: L) w) : St w0 F0 (mapR g l :: L) w := by
  obtain ⟨F, ⟨F1, F2, ⟨hFk, hne, es, clock, since, c0, seen, hh, hb, hk, hbn, hn, _⟩, h2, hE, hd⟩, hst⟩ := hs
  refine ⟨fun k => k = g ∨ F2 k, ⟨fun k => k = g, F2, ⟨fun k => Iff.rfl, es, clock, hh, hk, hbn, hn⟩, h2, fun k => Iff.rfl, fun k hk h => hd k ((hFk k).2 (.inr hk)) h⟩, hst.weak fun k hk => (hE k).2 ?_⟩
  rcases hk with rfl | hk
  · exact .inl ((hFk _).2 (.inr rfl))
  · exact .inr hk
end
end Go.Proofs.YtffkjjakceojfaaDoor
