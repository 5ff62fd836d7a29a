/- The engine, part O: make of a slice of rows; a map's iterator in one rule; sectors. -/
import Derived.Test.YtffkjjakceojfaaDoorEngN
import Derived.Test.YtffkjjakceojfaaDoorPlD
namespace Go.Proofs.YtffkjjakceojfaaDoor
open Go
set_option linter.unusedVariables false
set_option linter.unusedSimpArgs false
theorem madeCells_rep (v : Value) (s n : Nat) (hs : 0 < s) : (madeCells (List.replicate s v).toArray n).toList = List.replicate n v := by
  apply List.ext_getElem?
  intro i
  simp only [madeCells, Array.toList_map, Array.toList_range, List.getElem?_map, List.getElem?_replicate]
  by_cases h : i < n
  · have h2 : i % (List.replicate s v).toArray.size < (List.replicate s v).toArray.size := Nat.mod_lt _ (by simpa using hs)
    rw [List.getElem?_range h, Option.map_some, if_pos h]
    rw [getElem!_pos (List.replicate s v).toArray _ h2]
    simp
  · rw [if_neg h, List.getElem?_eq_none (l := List.range n) (by simp; omega)]; rfl
theorem madeCells_secs (m : Nat) : (madeCells (List.replicate 64 (Value.int .u8 0)).toArray (m * 64)).toList = secs m fun _ => sec0 := by
  rw [madeCells_rep _ _ _ (by decide), secs]
  have e : sc sec0 = List.replicate 64 (Value.int .u8 0) := by simp [sc, sec0, B8]
  rw [e]
  generalize Value.int .u8 0 = v
  induction m with
  | zero => simp
  | succ m ih =>
    rw [List.range_succ, List.map_append, List.flatten_append, ← ih, Nat.add_mul, Nat.one_mul, ← List.replicate_append_replicate]
    simp only [List.map_cons, List.map_nil, List.flatten_cons, List.flatten_nil, List.append_nil]
def updB (f : Nat → Bool) (i : Nat) (v : Bool) : Nat → Bool := fun j => if j = i then v else f j
section
variable {P : Program} {w0 : World} {F0 : Nat → Prop} {L : List Res} {Q : Exit → Act → World → Prop} {n : Nat} {env : Env} {ops : Array Oper} {rest : List Oper} {ty : TypeId} {pos : String} {af : Array Edge} {gd : Option (Nat × Bool)} {d : Option Tmp}
theorem gl_mkN {t : Tmp} {T e bytes m s : Nat} {x y : Operand} {z : Value} {k k' : IntKind} (hw : Wt ops n env ⟨some t, .makeSlice T x y, ty, pos, af, gd⟩ true) (ht : ElemT P T e s bytes) (hz : (P.info? e).map (·.zero) = some (some z))
    (hx : ev n env x = .int k (m : Int)) (hy : ev n env y = .int k' (m : Int)) (hb : bytes * m ≤ 16777216) (hm : m * s ≤ 16777216) (hm' : m ≤ 16777216)
    (K : ∀ b, Gl P w0 F0 (blk b e (madeCells z.cells (m * s)).toList :: L) ops Q rest n ((t, .slice (some ⟨b, 0, none⟩) m m) :: env)) : Gl P w0 F0 L ops Q (⟨some t, .makeSlice T x y, ty, pos, af, gd⟩ :: rest) n env := by
  refine gl_effx (α := Nat) (L' := fun b => blk b e (madeCells z.cells (m * s)).toList :: L) (v := fun b => .slice (some ⟨b, 0, none⟩) m m) hw (fun w hst => ?_) K
  obtain ⟨i, z', hi, hz', hs, hby, _⟩ := ht.info
  have hzz : z' = z := by rw [hi] at hz; simp only [Option.map_some, Option.some.injEq] at hz; rw [hz'] at hz; exact Option.some.inj hz
  subst hzz
  refine ⟨w.heap.size, { w with heap := w.heap.push (.cells (madeCells z'.cells (m * s)).toList.toArray e) }, ?_, hst.new⟩
  have hbb : (i.bytes : Int) * (m : Int) ≤ 281474976710656 := by
    rw [hby, ← Int.natCast_mul]; omega
  have hr := run_makeSlice (P := P) (w := w) T e i z' ht.sl hi hz' k k' (m : Int) (m : Int) (by omega) (Int.le_refl _) (by simp [hs]; omega) hbb (by omega)
  simp only [execOp, hx, hy, Sem.run_bind, hr, Result.andThen_ok, Sem.run_pure]
  simp only [Int.toNat_natCast, hs]
  first | rfl | simp [World.alloc]
theorem St.pick {w : World} {r : Res} {L' : List Res} (hw : St w0 F0 L w) (h : Pick L r L') : St w0 F0 (r :: L') w := hw.mapL0 fun F hF => h.stars hF
theorem gl_nextO {t : Tmp} {x : Operand} {b g : Nat} {l left : List (Value × Value)} {last : Option (Value × Value)} {L' : List Res} (hw : Wt ops n env ⟨some t, .next x false, ty, pos, af, gd⟩ true) (hx : ev n env x = .pointer (some ⟨b, 0, none⟩)) (hp : Pick L (itR b g l left last) L')
    (k : ∀ o : Option (List (Value × Value) × (Value × Value) × List (Value × Value)), (match o with | none => left = [] | some q => left = q.1 ++ q.2.1 :: q.2.2) →
      Gl P w0 F0 (itR b g l (match o with | none => left | some q => q.1 ++ q.2.2) (match o with | none => last | some q => some q.2.1) :: L') ops Q rest n ((t, match o with | none => .tuple #[.bool false] | some q => .tuple #[.bool true, q.2.1.1, q.2.1.2]) :: env)) :
    Gl P w0 F0 L ops Q (⟨some t, .next x false, ty, pos, af, gd⟩ :: rest) n env :=
  gl_next hw hx hp (fun h w hw => k none h w (hw.pick hp)) fun A p B h => k (some (A, p, B)) h
theorem gl_itMap {b g : Nat} {l left : List (Value × Value)} {last : Option (Value × Value)} {L' : List Res} (hp : Pick L (itR b g l left last) L') (k : Gl P w0 F0 (mapR g l :: L') ops Q rest n env) : Gl P w0 F0 L ops Q rest n env := fun w hw =>
  k w (hw.pick hp).itMap
theorem r_ldS {x : Operand} {T g m o : Nat} {f : Nat → Sec} {L' : List Res} {T' : Nat} [RA P T] [SZ P T 64] (i : Nat) (hi : i < m) (hx : ev n env x = .pointer (some ⟨g, o, none⟩) := by exact rfl) (ho : o = i * 64 := by omega) (hp : Pick L (blk g T' (secs m f)) L' := by repeat (first | exact Pick.here | apply Pick.there)) :
    Runs P w0 F0 L n env ⟨d, .load T x, ty, pos, af, gd⟩ (scV (f i)) := r_ldN hx RA.h SZ.h hp (secs_get hi ho) (sc_length _)
theorem gl_stS {x y : Operand} {T g m o : Nat} {f : Nat → Sec} {v : Sec} {L' : List Res} {T' : Nat} [SZ P T 64] (i : Nat) (hi : i < m) (k : Gl P w0 F0 (blk g T' (secs m (updS f i v)) :: L') ops Q rest n env) (hx : ev n env x = .pointer (some ⟨g, o, none⟩) := by exact rfl) (hy : ev n env y = scV v := by exact rfl) (ho : o = i * 64 := by omega)
    (hp : Pick L (blk g T' (secs m f)) L' := by repeat (first | exact Pick.here | apply Pick.there)) (hw : Wt ops n env ⟨none, .store T x y, ty, pos, af, gd⟩ true := by first | exact wt0 rfl | exact wtgT rfl rfl rfl rfl) :
    Gl P w0 F0 L ops Q (⟨none, .store T x y, ty, pos, af, gd⟩ :: rest) n env :=
  gl_storeN hw hx hy SZ.h (sc_length v) hp (by rw [secs_len]; omega) (sc_one v) (secs_set hi ho) k
theorem r_min {x y : Operand} {T1 T2 : TypeId} {k : IntKind} {i j : Int} (hx : ev n env x = .int k i := by exact rfl) (hy : ev n env y = .int k j := by exact rfl) :
    Runs P w0 F0 L n env ⟨d, .call ⟨.builtin .min, #[x, y], #[T1, T2]⟩, ty, pos, af, gd⟩ (.int k (if j < i then j else i)) := fun w _ => by
  simp only [execOp, resolve, invoke, builtin]
  simp [hx, hy, Builtin.min_, Builtin.min2]
theorem r_neq_bool {x y : Operand} {T T' : TypeId} {a b : Bool} (hx : ev n env x = .bool a := by exact rfl) (hy : ev n env y = .bool b := by exact rfl) (ht : P.underlying T = some .bool) :
    Runs P w0 F0 L n env ⟨d, .binOp .neq T x y T', ty, pos, af, gd⟩ (.bool (!(a == b))) := fun w _ => by
  have h := run_equalIn_bool' (P := P) w 9999 T a b ht
  simp only [execOp, hx, hy]
  simp [eqGuard, binOp, Op.equal, Op.maxDepth, h]
theorem r_eqpn {x : Operand} {T T' e : TypeId} {a : Option Addr} (hx : ev n env x = .pointer a := by exact rfl) (ht : P.underlying T = some (.pointer e)) :
    Runs P w0 F0 L n env ⟨d, .binOp .eql T x (.const (.pointer none)) T', ty, pos, af, gd⟩ (.bool a.isNone) := fun w _ => by
  have h : ∀ d : Nat, (Op.equalIn (d + 1) T (.pointer a) (.pointer none)).run P w = .ok a.isNone w := fun d => by
    cases a <;> simp [Op.equalIn, run_underlying ht]
  have h9 := h 9999
  have hc : ev n env (.const (.pointer none)) = .pointer none := rfl
  simp only [execOp, hx, hc]
  simp [eqGuard, binOp, Op.equal, Op.maxDepth, h9]
theorem RdRow.cellV {w : World} {A : Nat → Prop} {g o m : Nat} {α : Type} {V : α → Value} {l : List α} (h : RdRow w A 1 (some ⟨g, o, none⟩) m (l.map V)) {i : Nat} (hi : i < m) (z : α) : w.cell? ⟨g, o + i * 1, none⟩ = some (V (l.getD i z)) ∧ A g := by
  have hl : m = l.length := by have := h.1; simp at this; omega
  obtain ⟨g', o', ha, hA, _, hr⟩ := h.elem hi
  injection ha with ha
  injection ha with h1 h2
  subst h1; subst h2
  refine ⟨hr 0 _ ?_, hA⟩
  simp [List.getD, show i < l.length by omega]
instance : DecidableEq Sec := fun a b => decidable_of_iff (a.l = b.l) ⟨Sec.ext', fun h => h ▸ rfl⟩
theorem run_equal_sec {T e : TypeId} {w : World} {a b : Sec} (ht : arrT P T = some (64, e)) (he : P.underlying e = some (.int .u8)) (hs : szT P e = some 1) : (Op.equalIn 10000 T (scV a) (scV b)).run P w = .ok (decide (a = b)) w := by
  cases hi : P.info? e with
  | none => simp [szT, hi] at hs
  | some i =>
    have hz : i.size = 1 := by simpa [szT, hi] using hs
    have hc : P.cellsOf e = 1 := by simp [Program.cellsOf, hi, hz]
    have hd : decide (a.l = b.l) = decide (a = b) := by
      by_cases h : a = b
      · simp [h]
      · simp [h]; exact fun e => h (Sec.ext' e)
    rw [show scV a = .agg (sc a).toArray from rfl, show scV b = .agg (sc b).toArray from rfl, run_equalIn_array w 9999 _ _ (run_arrT ht) hi, hc]
    rw [show sc a = a.l.map B8 from rfl, show sc b = b.l.map B8 from rfl, run_eqItems8 (d := 9998) he a.l b.l w _ (fun i hi => by have := List.mem_range.1 hi; rw [a.h, b.h]; omega), all_range_eq a.h b.h, hd]
theorem r_eql_sec {x y : Operand} {T T' e : TypeId} {a b : Sec} (ht : arrT P T = some (64, e)) (he : P.underlying e = some (.int .u8)) (hs : szT P e = some 1) (hg : P.eqGuardType P.depth T = false) (hx : ev n env x = scV a := by exact rfl) (hy : ev n env y = scV b := by exact rfl) :
    Runs P w0 F0 L n env ⟨d, .binOp .eql T x y T', ty, pos, af, gd⟩ (.bool (decide (a = b))) := fun w _ => by
  have h := run_equal_sec (P := P) (w := w) (a := a) (b := b) ht he hs
  simp only [scV] at hx hy h
  simp only [execOp, hx, hy, Sem.run_bind, run_eqGuard_agg w _ _ _ _ _ _ hg, Result.andThen_ok, run_eql_struct, h, Sem.run_pure]
theorem r_neq_sec {x y : Operand} {T T' e : TypeId} {a b : Sec} (ht : arrT P T = some (64, e)) (he : P.underlying e = some (.int .u8)) (hs : szT P e = some 1) (hg : P.eqGuardType P.depth T = false) (hx : ev n env x = scV a := by exact rfl) (hy : ev n env y = scV b := by exact rfl) :
    Runs P w0 F0 L n env ⟨d, .binOp .neq T x y T', ty, pos, af, gd⟩ (.bool (!decide (a = b))) := fun w _ => by
  have h := run_equal_sec (P := P) (w := w) (a := a) (b := b) ht he hs
  simp only [scV] at hx hy h
  simp only [execOp, hx, hy, Sem.run_bind, run_eqGuard_agg w _ _ _ _ _ _ hg, Result.andThen_ok, run_neq_struct, h, Sem.run_pure]
/-- Bools in a row. -/
theorem r_ldB {x : Operand} {T g m o : Nat} {f : Nat → Bool} {L' : List Res} {T' : Nat} [RO P T] (i : Nat) (hi : i < m) (hx : ev n env x = .pointer (some ⟨g, o, none⟩) := by exact rfl) (ho : o = i := by omega) (hp : Pick L (blk g T' (fnc Value.bool m f)) L' := by repeat (first | exact Pick.here | apply Pick.there)) :
    Runs P w0 F0 L n env ⟨d, .load T x, ty, pos, af, gd⟩ (.bool (f i)) := r_ld1 hx RO.h hp (by subst ho; exact fnc_get hi)
theorem gl_stB {x y : Operand} {T g m o : Nat} {f f' : Nat → Bool} {v : Bool} {L' : List Res} {T' : Nat} [SZ P T 1] (i : Nat) (hi : i < m) (hf : f' = updB f i v) (k : Gl P w0 F0 (blk g T' (fnc Value.bool m f') :: L') ops Q rest n env) (hx : ev n env x = .pointer (some ⟨g, o, none⟩) := by exact rfl) (hy : ev n env y = .bool v := by exact rfl) (ho : o = i := by omega)
    (hp : Pick L (blk g T' (fnc Value.bool m f)) L' := by repeat (first | exact Pick.here | apply Pick.there)) (hw : Wt ops n env ⟨none, .store T x y, ty, pos, af, gd⟩ true := by first | exact wt0 rfl | exact wtgT rfl rfl rfl rfl) :
    Gl P w0 F0 L ops Q (⟨none, .store T x y, ty, pos, af, gd⟩ :: rest) n env := by
  subst ho
  refine gl_store1 hw hx hy rfl SZ.h hp (by rw [fnc_length]; omega) ?_ k
  have e : v = f' o := by rw [hf, updB, if_pos rfl]
  rw [e]
  exact fnc_upd hi fun j _ hj => by rw [hf, updB, if_neg hj]
theorem fnc_rep {α : Type} (V : α → Value) (v : α) (m : Nat) : List.replicate m (V v) = fnc V m fun _ => v := by
  apply List.ext_getElem?
  intro i
  by_cases h : i < m
  · rw [fnc_get h]; simp [h]
  · rw [List.getElem?_eq_none (by simp; omega), List.getElem?_eq_none (by rw [fnc_length]; omega)]
def Sec.b (s : Sec) : UInt8 := s.l.getD 0 0
theorem sc_zero (s : Sec) : (sc s)[0]? = some (B8 s.b) := by
  obtain ⟨l, h⟩ := s
  cases l with
  | nil => simp at h
  | cons y l => rfl
end
section three
variable {P : Program} {w0 : World} {F0 : Nat → Prop} {K L : List Res} {Q : Exit → Act → World → Prop} {n : Nat} {env : Env} {ops : Array Oper} {listed : Array Bool} {fuel z : Nat}
/-- One of three comes. -/
theorem yo3s (i j l : Nat) {oi oj ol : Oper} (hi : ops[i]? = some oi) (hj : ops[j]? = some oj) (hl : ops[l]? = some ol)
    (ki : Gl P w0 F0 L ops (Exit.then (NextT P w0 F0 K ops Q z fuel (listed.setIfInBounds i true)) Q) [oi] n env) (kj : Gl P w0 F0 L ops (Exit.then (NextT P w0 F0 K ops Q z fuel (listed.setIfInBounds j true)) Q) [oj] n env)
    (kl : Gl P w0 F0 L ops (Exit.then (NextT P w0 F0 K ops Q z fuel (listed.setIfInBounds l true)) Q) [ol] n env)
    (hr : Region.ready .any ops listed = [i, j, l] := by kernel_rfl) : Gt P w0 F0 K L ops Q z (fuel + 1) listed n env := fun w hst =>
  ⟨fun h => (by rw [hr] at h; cases h), by rw [hr]; simp, fun x hx _ => by
    rw [hr] at hx
    rcases List.mem_cons.1 hx with rfl | hx
    · exact wpOp_of_list hi (ki w hst)
    · rcases List.mem_cons.1 hx with rfl | hx
      · exact wpOp_of_list hj (kj w hst)
      · obtain rfl : x = l := by simpa using hx
        exact wpOp_of_list hl (kl w hst)⟩
end three
end Go.Proofs.YtffkjjakceojfaaDoor
