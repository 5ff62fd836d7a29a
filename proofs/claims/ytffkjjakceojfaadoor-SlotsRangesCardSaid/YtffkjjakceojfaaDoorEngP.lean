/- The engine, part P: bytes in a row of one's own. -/
import Derived.Test.YtffkjjakceojfaaDoorEngO
import Derived.Test.YtffkjjakceojfaaDoorEngH
import Derived.Test.YtffkjjakceojfaaDoorEngN
import Derived.Test.YtffkjjakceojfaaDoorEngG
namespace Go.Proofs.YtffkjjakceojfaaDoor
open Go
set_option linter.unusedVariables false
set_option linter.unusedSimpArgs false
theorem updL_set {α : Type} {V : α → Value} {l : List α} {i : Nat} {y : α} (h : i < l.length) : updL (l.map V) i [V y] = (l.set i y).map V := by
  apply List.ext_getElem?
  intro j
  simp only [updL, List.length_singleton]
  rw [List.getElem?_map, List.getElem?_set]
  by_cases h1 : j < i
  · rw [List.getElem?_append_left (by simp; omega), List.getElem?_take, if_pos h1, List.getElem?_map, if_neg (by omega)]
  · by_cases h2 : j = i
    · subst h2
      rw [List.getElem?_append_right (by simp; omega)]
      simp [show min j l.length = j by omega, h]
    · rw [List.getElem?_append_right (by simp; omega), List.getElem?_append_right (by simp; omega), List.getElem?_drop, List.getElem?_map, if_neg (fun e => h2 e.symm)]
      congr 2
      simp; omega
def updY (o : Nat) (m l : List UInt8) : List UInt8 := l.take o ++ (m ++ l.drop (o + m.length))
theorem updL_updY (o : Nat) (m l : List UInt8) : updL (l.map B8) o (m.map B8) = (updY o m l).map B8 := by
  simp [updL, updY, List.map_take, List.map_drop]
/-- One fresh cell in a block of its own, no mark on it. -/
def rowZ (g e : Nat) (v : Value) : Res where
  on w F := (∀ k, F k ↔ k = g) ∧ w.heap[g]? = some (.cells #[v] e (0, 0))
  loc := fun ⟨hF, h⟩ hk => ⟨hF, (hk g ((hF g).2 rfl)).trans h⟩
  lt := fun ⟨hF, h⟩ k hk => by
    rw [(hF k).1 hk]
    exact (Array.getElem?_eq_some_iff.1 h).1
section
variable {P : Program} {w0 : World} {F0 : Nat → Prop} {L : List Res} {Q : Exit → Act → World → Prop} {n : Nat} {env : Env} {ops : Array Oper} {rest : List Oper} {ty : TypeId} {pos : String} {af : Array Edge} {gd : Option (Nat × Bool)} {d : Option Tmp}
theorem r_ldY {x : Operand} {T g o : Nat} {l : List UInt8} {L' : List Res} {T' : Nat} [RO P T] (i : Nat) (hi : i < l.length) (hx : ev n env x = .pointer (some ⟨g, o, none⟩) := by exact rfl) (ho : o = i := by omega) (hp : Pick L (blk g T' (l.map B8)) L' := by repeat (first | exact Pick.here | apply Pick.there)) :
    Runs P w0 F0 L n env ⟨d, .load T x, ty, pos, af, gd⟩ (B8 (l.getD i 0)) := r_ld1 hx RO.h hp (by subst ho; simp [List.getD, hi])
theorem gl_stY {x y : Operand} {T g o : Nat} {l l' : List UInt8} {v : UInt8} {L' : List Res} {T' : Nat} [SZ P T 1] (i : Nat) (hi : i < l.length) (hf : l.set i v = l') (k : Gl P w0 F0 (blk g T' (l'.map B8) :: L') ops Q rest n env) (hx : ev n env x = .pointer (some ⟨g, o, none⟩) := by exact rfl) (hy : ev n env y = B8 v := by exact rfl) (ho : o = i := by omega)
    (hp : Pick L (blk g T' (l.map B8)) L' := by repeat (first | exact Pick.here | apply Pick.there)) (hw : Wt ops n env ⟨none, .store T x y, ty, pos, af, gd⟩ true := by first | exact wt0 rfl | exact wtgT rfl rfl rfl rfl) :
    Gl P w0 F0 L ops Q (⟨none, .store T x y, ty, pos, af, gd⟩ :: rest) n env := by
  subst ho; subst hf
  exact gl_store1 hw hx hy rfl SZ.h hp (by rw [List.length_map]; omega) (updL_set hi) k
theorem r_max {x y : Operand} {T1 T2 : TypeId} {k : IntKind} {i j : Int} (hx : ev n env x = .int k i := by exact rfl) (hy : ev n env y = .int k j := by exact rfl) :
    Runs P w0 F0 L n env ⟨d, .call ⟨.builtin .max, #[x, y], #[T1, T2]⟩, ty, pos, af, gd⟩ (.int k (if i < j then j else i)) := fun w _ => by
  simp only [execOp, resolve, invoke, builtin]
  simp [hx, hy, Builtin.max_, Builtin.max2]
theorem r_nepn {x : Operand} {T T' e : TypeId} {a : Option Addr} (hx : ev n env x = .pointer a := by exact rfl) (ht : P.underlying T = some (.pointer e)) :
    Runs P w0 F0 L n env ⟨d, .binOp .neq T x (.const (.pointer none)) T', ty, pos, af, gd⟩ (.bool (!a.isNone)) := fun w _ => by
  have h : ∀ d : Nat, (Op.equalIn (d + 1) T (.pointer a) (.pointer none)).run P w = .ok a.isNone w := fun d => by
    cases a <;> simp [Op.equalIn, run_underlying ht]
  have h9 := h 9999
  have hc : ev n env (.const (.pointer none)) = .pointer none := rfl
  simp only [execOp, hx, hc]
  simp [eqGuard, binOp, Op.equal, Op.maxDepth, h9]
theorem gl_bs1Z {t : Tmp} {T e : Nat} {x : Operand} {v : Value} {z : List Value} (hw : Wt ops n env ⟨some t, .buildSlice T 1 #[(0, x)], ty, pos, af, gd⟩ true) (ht : sliceT P T = some e) (hs : szT P e = some 1) (hz : zcT P e = some z) (hx : ev n env x = v) (h1 : v.oneCell' = true)
    (k : ∀ b, Gl P w0 F0 (rowZ b e v :: L) ops Q rest n ((t, .slice (some ⟨b, 0, none⟩) 1 1) :: env)) : Gl P w0 F0 L ops Q (⟨some t, .buildSlice T 1 #[(0, x)], ty, pos, af, gd⟩ :: rest) n env := by
  refine gl_effx (α := Nat) (L' := fun b => rowZ b e v :: L) (v := fun b => .slice (some ⟨b, 0, none⟩) 1 1) hw (fun w hst => ?_) k
  obtain ⟨zv, hz', hc⟩ := zcT_some hz
  have hfill : Instr.fill (fun i => some (i * 1, 1)) ((Array.range (1 * 1)).map fun i => zv.cells[i % zv.cells.size]!) [(0, v)] = some #[v] := by
    have hv : v.cells = #[v] := by cases v <;> first | rfl | (simp [Value.oneCell'] at h1)
    have := fill_of (fun i => some (i * 1, 1)) [(0, v)] ((Array.range (1 * 1)).map fun i => zv.cells[i % zv.cells.size]!) [v] (by
      have h2 := fillL_row 1 [v] [[v]] 0 [] ((List.range (1 * 1)).map fun i => zv.cells[i % zv.cells.size]!) (by simp) (by simp) (by simp [hv]) (by simp)
      simpa using h2)
    simpa using this
  refine ⟨w.heap.size, { w with heap := w.heap.push (.cells #[v] e) }, ?_, hst.pushR fun w' h => ⟨fun k => Iff.rfl, h⟩⟩
  simp only [execOp, Instr.buildSlice, Sem.run_bind, run_underlying (run_sliceT ht), Result.andThen_ok, run_sz hs]
  rw [if_neg (by omega), if_neg (by omega)]
  have hcomp : ((#[(0, x)] : Array (Nat × Operand)).map fun (i, x) => (i, ev n env x)).toList = [(0, v)] := by simp [hx]
  simp only [Sem.run_bind, run_zeroT hz', Result.andThen_ok, Sem.run_pure, hcomp, hfill, newRow, newObj, Sem.run, Sem.run_map]
theorem gl_cvZ {t : Tmp} {T e g : Nat} {x : Operand} {v : Value} {L' : List Res} (hw : Wt ops n env ⟨some t, .convert T T x, ty, pos, af, gd⟩ true) (hx : ev n env x = .slice (some ⟨g, 0, none⟩) 1 1) (ht : sliceT P T = some e) (he : P.underlying e = some (.int .u8)) (hp : Pick L (rowZ g e v) L')
    (k : Gl P w0 F0 (rowR e 1 (some ⟨g, 0, none⟩) 1 1 [v] :: L') ops Q rest n ((t, .slice (some ⟨g, 0, none⟩) 1 1) :: env)) : Gl P w0 F0 L ops Q (⟨some t, .convert T T x, ty, pos, af, gd⟩ :: rest) n env := by
  refine gl_eff (L' := rowR e 1 (some ⟨g, 0, none⟩) 1 1 [v] :: L') (v := .slice (some ⟨g, 0, none⟩) 1 1) hw (fun w hst => ?_) k
  have hst0 := hst
  obtain ⟨F, hF, _⟩ := hst0
  obtain ⟨F1, F2, ⟨hF1, hh⟩, _, hE, _⟩ := hp.stars hF
  have hlt : g < w.heap.size := (Array.getElem?_eq_some_iff.1 hh).1
  have hsh : w.shape? g = some (e, 1) := by unfold World.shape?; rw [hh]; rfl
  have hfz : w.freeze ⟨g, 1, none⟩ 1 = { w with heap := w.heap.setIfInBounds g (.cells #[v] e (1, 2)) } := by
    unfold World.freeze
    rw [if_neg (by decide)]
    congr 1
    apply Array.ext_getElem?
    intro i
    rw [Array.getElem?_modify, Array.getElem?_setIfInBounds]
    by_cases hi : g = i
    · subst hi; rw [if_pos rfl, if_pos rfl, if_pos hlt, hh]; rfl
    · rw [if_neg hi, if_neg hi]
  refine ⟨{ w with heap := w.heap.setIfInBounds g (.cells #[v] e (1, 2)) }, ?_, hst.setR hp (fun F h => ⟨(h.1 g).2 rfl, hlt⟩) (fun w' F h hg' _ => ⟨rfl, Nat.le_refl _, by decide, .inr ⟨g, 0, #[v], (1, 2), rfl, h.1, hg', fun i hi h => (by simp at hi; omega), by simp, by simp⟩⟩)⟩
  simp [execOp, hx, convert, run_underlying (run_sliceT ht), run_underlying he, markStringish, shape, freeze, Sem.run, hsh, hfz]
/-- What a block of one's own reads as, seen from a call that has other things. -/
theorem rd_blkY {L L' : List Res} {w : World} {F1 F2 : Nat → Prop} {g T o m : Nat} {l : List UInt8} (h2 : stars L w F2) (hd : ∀ k, F1 k → ¬ F2 k) (hp : Pick L (blk g T (l.map B8)) L') (hl : o + m ≤ l.length) (hm : m ≤ maxLen) :
    RdRow w (fun k => ¬ F1 k) 1 (some ⟨g, o, none⟩) m (((l.drop o).take m).map B8) := by
  obtain ⟨F', h', hs⟩ := stars_pick hp h2
  exact (RdRow.of_blk h' (n := m) (size := 1) (o := o) (by rw [Nat.mul_one, List.map_take, List.map_drop]) (by simp; omega) hm).mv fun k _ hk => ⟨rfl, fun h1 => hd k h1 (hs k hk)⟩
theorem St.rdBlkY {w : World} {g T o m : Nat} {l : List UInt8} {L' : List Res} (hs : St w0 F0 L w) (hp : Pick L (blk g T (l.map B8)) L') (hl : o + m ≤ l.length) (hm : m ≤ maxLen) : RdRow w (fun _ => True) 1 (some ⟨g, o, none⟩) m (((l.drop o).take m).map B8) := by
  obtain ⟨F, hF, _⟩ := hs
  obtain ⟨F', h', _⟩ := stars_pick hp hF
  exact (RdRow.of_blk h' (n := m) (size := 1) (o := o) (by rw [Nat.mul_one, List.map_take, List.map_drop]) (by simp; omega) hm).mv fun k _ hk => ⟨rfl, trivial⟩
theorem RdRow.cutY {w : World} {A : Nat → Prop} {n c h : Nat} {a : Option Addr} {xs : List UInt8} (hr : RdRow w A 1 a n (xs.map B8)) (h2 : h ≤ n) (h3 : n ≤ c) : RdRow w A 1 (if c = 0 then a else a.map (·.add (0 * 1))) h ((xs.take h).map B8) := by
  have := hr.cut8 (l := 0) (h := h) (Nat.zero_le _) h2 h3
  rwa [List.drop_zero, Nat.sub_zero] at this
end
end Go.Proofs.YtffkjjakceojfaaDoor
