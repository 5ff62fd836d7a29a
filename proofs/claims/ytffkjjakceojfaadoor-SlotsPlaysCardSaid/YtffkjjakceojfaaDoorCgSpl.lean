/- Part 4. What is proved: see the last part: for every input the law returns true, and the input reads as it did. -/
import Derived.Test.YtffkjjakceojfaaDoorCg3
import Derived.Test.YtffkjjakceojfaaDoorCards
import Derived.Test.YtffkjjakceojfaaDoorTie
import Derived.Deep.DeepHandedRow
import Derived.Deep.DeepWitnessRowRef
/- Plain words on slots, part 4: records, wherever the power goes. -/
namespace Go.Proofs.YtffkjjakceojfaaDoor
open Go
set_option linter.unusedVariables false
set_option linter.unusedSimpArgs false
/-! ### Records, wherever the power goes -/
/-- What is on a disk of two sectors whose record is s; t: what was being put, if tried. -/
structure PInv7 (d : DS) (s : SL) (t : List UInt8) (tried : Bool) (k : Nat) : Prop where
  ok : DOk d
  n : d.n = 2
  base : s.base = 0
  cnt : s.count ≤ k
  good : GoodAt d.ss s.count s.rec'
  ws : d.ws = [] ∨ (tried = true ∧ d.ws = [((((s.count + 1) % 2 : Nat) : Int), slotS ((s.count + 1 : Nat) : Int) t)] ∧ t.length ≤ 31)
  off : tried = true → d.off = true
theorem pinv_start : PInv7 (dZ (fmtF fun _ => sec0)) ⟨0, 0, []⟩ [] false 0 := ⟨dZ_ok _, rfl, rfl, Nat.le_refl 0, good_fmt _, .inl rfl, fun h => by cases h⟩
theorem PInv7.next {d : DS} {s : SL} {t : List UInt8} {tried : Bool} {k : Nat} (h : PInv7 d s t tried k) : PInv7 d s t tried (k + 1) := ⟨h.ok, h.n, h.base, Nat.le_succ_of_le h.cnt, h.good, h.ws, h.off⟩
theorem put_long {d : DS} {s : SL} {r : List UInt8} (h : 31 < r.length) : put d s r = (1, d, s) := by rw [put, if_pos h]
/-- A record is put: done, or the power is gone. -/
theorem pinv_put {d : DS} {s : SL} {t : List UInt8} {tried : Bool} {k : Nat} {r : List UInt8} (h : PInv7 d s t tried k) (hk : k ≤ 60) (hr : r.length ≤ 31) :
    (∃ d', put d s r = (0, d', ⟨0, s.count + 1, r⟩) ∧ PInv7 d' ⟨0, s.count + 1, r⟩ t false (k + 1)) ∨ (∃ d', put d s r = (6, d', s) ∧ (if tried = true then PInv7 d' s t true (k + 1) else PInv7 d' s r true (k + 1))) := by
  have hc := h.cnt
  have hg := h.good
  have hmx : ¬ s.count = 9223372036854775807 := by omega
  have hb : s.base + (((s.count + 1) % 2 : Nat) : Int) = (((s.count + 1) % 2 : Nat) : Int) := by rw [h.base]; omega
  have hh : d.has (((s.count + 1) % 2 : Nat) : Int) = true := has_iff.2 ⟨by omega, by rw [h.n]; omega⟩
  cases ho : (oper d).off with
  | true =>
    refine .inr ⟨oper d, ?_, ?_⟩
    · rw [put, if_neg (by omega), if_neg hmx, hb, wr_off hh ho, if_neg (show ¬ (6 : Nat) = 0 by decide)]
    · have hp : ∀ t', (t' = t ∨ tried = false) → PInv7 (oper d) s t' true (k + 1) := fun t' ht => by
        refine ⟨oper_ok h.ok, by rw [oper_n]; exact h.n, h.base, by omega, by rw [oper_ss]; exact hg, ?_, fun _ => ho⟩
        rw [oper_ws]
        rcases h.ws with hw | ⟨h1, h2, h3⟩
        · exact .inl hw
        · rcases ht with rfl | ht
          · exact .inr ⟨rfl, h2, h3⟩
          · rw [ht] at h1; cases h1
      cases tried with
      | true => rw [if_pos rfl]; exact hp t (.inl rfl)
      | false => rw [if_neg (by decide)]; exact hp r (.inr rfl)
  | false =>
    have hoff : d.off = false := by
      cases hd : d.off with
      | false => rfl
      | true => rw [oper_no (.inr hd), hd] at ho; cases ho
    have htr : tried = false := by
      cases tried with
      | false => rfl
      | true => have := h.off rfl; rw [hoff] at this; cases this
    have hws : d.ws = [] := by
      rcases h.ws with hw | ⟨h1, _⟩
      · exact hw
      · rw [htr] at h1; cases h1
    have hw1 := wr_on (v := slotS ((s.count + 1 : Nat) : Int) r) hh ho
    have hk1 : DOk ((oper d).write (((s.count + 1) % 2 : Nat) : Int) (slotS ((s.count + 1 : Nat) : Int) r)) := by
      have := wr_ok (i := (((s.count + 1) % 2 : Nat) : Int)) (v := slotS ((s.count + 1 : Nat) : Int) r) h.ok
      rwa [hw1] at this
    generalize hd1 : (oper d).write (((s.count + 1) % 2 : Nat) : Int) (slotS ((s.count + 1 : Nat) : Int) r) = d1 at *
    have e1 : d1.ss = d.ss := by rw [← hd1]; exact oper_ss d
    have e2 : d1.ws = [((((s.count + 1) % 2 : Nat) : Int), slotS ((s.count + 1 : Nat) : Int) r)] := by rw [← hd1]; show putW _ _ (oper d).ws = _; rw [oper_ws, hws]; rfl
    have e3 : d1.n = 2 := by rw [← hd1]; show (oper d).n = 2; rw [oper_n]; exact h.n
    cases ho1 : (oper d1).off with
    | true =>
      refine .inr ⟨oper d1, ?_, ?_⟩
      · rw [put, if_neg (by omega), if_neg hmx, hb, hw1]
        simp only [if_true, ho1, DS.syncd]
      · rw [if_neg (by rw [htr]; decide)]
        exact ⟨oper_ok hk1, by rw [oper_n]; exact e3, h.base, by omega, by rw [oper_ss, e1]; exact hg, .inr ⟨rfl, by rw [oper_ws]; exact e2, hr⟩, fun _ => ho1⟩
    | false =>
      refine .inl ⟨(oper d1).sync, ?_, ?_⟩
      · rw [put, if_neg (by omega), if_neg hmx, hb, hw1]
        simp only [if_true, ho1, DS.syncd, Bool.false_eq_true, if_false, h.base]
      · have hat : (oper d1).sync.ss = updS d.ss ((s.count + 1) % 2) (slotS ((s.count + 1 : Nat) : Int) r) := by
          funext i
          show (oper d1).at i = _
          simp only [DS.at, oper_ws, oper_ss, e1, e2, lookW, updS]
          by_cases hi : i = (s.count + 1) % 2
          · subst hi; simp
          · rw [if_neg (by omega), if_neg hi]; rfl
        exact ⟨sync_ok (oper_ok hk1), by show (oper d1).n = 2; rw [oper_n]; exact e3, rfl, by simp only; omega, by rw [hat]; exact good_put hg (by omega) hr, .inl rfl, fun hx => by cases hx⟩
/-- A crash: the record is there, or what was being put. -/
theorem pinv_crash {d : DS} {s : SL} {t : List UInt8} {tried : Bool} {k : Nat} (h : PInv7 d s t tried k) (hk : k ≤ 60) (kb : List Bool) :
    ∃ s', opn (d.crash kb) 0 = some s' ∧ PInv7 (d.crash kb) s' t false (k + 1) ∧ (s'.rec' = s.rec' ∨ (tried = true ∧ s'.rec' = t)) := by
  have hc := h.cnt
  have hg := h.good
  have hn : (d.crash kb).n = 2 := h.n
  have hws : (d.crash kb).ws = [] := rfl
  have hat : (d.crash kb).at = (d.crash kb).ss := rfl
  have keep : (d.crash kb).ss = d.ss → ∃ s', opn (d.crash kb) 0 = some s' ∧ PInv7 (d.crash kb) s' t false (k + 1) ∧ (s'.rec' = s.rec' ∨ (tried = true ∧ s'.rec' = t)) := fun e =>
    ⟨⟨0, s.count, s.rec'⟩, opn_good (by rw [hat, e]; exact hg), ⟨crash_ok h.ok, hn, rfl, by simp only; omega, by rw [e]; exact hg, .inl hws, fun hx => by cases hx⟩, .inl rfl⟩
  rcases h.ws with hw | ⟨h1, h2, h3⟩
  · exact keep (by rw [crash_idle hw])
  · have hks : sortZ (keysW d.ws) = [(((s.count + 1) % 2 : Nat) : Int)] := by rw [h2]; simp [keysW, sortZ]
    have hss : (d.crash kb).ss = keepF [(((s.count + 1) % 2 : Nat) : Int)] kb d.ws d.ss 1 := by
      show keepF (sortZ (keysW d.ws)) kb d.ws d.ss (sortZ (keysW d.ws)).length = _
      rw [hks]; rfl
    cases hkb : kb.getD 0 false with
    | false => exact keep (by rw [hss, keepF_no hkb]; rfl)
    | true =>
      have hup : (d.crash kb).ss = updS d.ss ((s.count + 1) % 2) (slotS ((s.count + 1 : Nat) : Int) t) := by
        rw [hss, keepF_yes hkb, h2]
        have e : lookW (((s.count + 1) % 2 : Nat) : Int) [((((s.count + 1) % 2 : Nat) : Int), slotS ((s.count + 1 : Nat) : Int) t)] = some (slotS ((s.count + 1 : Nat) : Int) t) := by simp only [lookW, if_true]
        show updS d.ss (((s.count + 1) % 2 : Nat) : Int).toNat ((lookW (((s.count + 1) % 2 : Nat) : Int) [((((s.count + 1) % 2 : Nat) : Int), slotS ((s.count + 1 : Nat) : Int) t)]).getD sec0) = _
        rw [e, Int.toNat_natCast]; rfl
      have hg2 := good_put hg (by omega) h3
      exact ⟨⟨0, s.count + 1, t⟩, opn_good (by rw [hat, hup]; exact hg2), ⟨crash_ok h.ok, hn, rfl, by simp only; omega, by rw [hup]; exact hg2, .inl hws, fun hx => by cases hx⟩, .inr ⟨h1, rfl⟩⟩
theorem pinv_arm {d : DS} {s : SL} {t : List UInt8} {tried : Bool} {k : Nat} {n : Int} (h : PInv7 d s t tried k) (ho : d.off = false) (hn : -9223372036854775808 ≤ n ∧ n ≤ 9223372036854775807) : PInv7 { d with armed := decide (0 ≤ n), left := n } s t tried (k + 1) :=
  ⟨⟨h.ok.n, h.ok.nd, h.ok.ks, fun h1 _ => by simpa using h1, hn⟩, h.n, h.base, Nat.le_succ_of_le h.cnt, h.good, h.ws, fun hx => by have := h.off hx; rw [ho] at this; cases this⟩
/-- The record is put, or the power is gone: by the error. -/
theorem pinv_put0 {d : DS} {s : SL} {t : List UInt8} {tried : Bool} {k : Nat} {r : List UInt8} (h : PInv7 d s t tried k) (hk : k ≤ 60) (hr : r.length ≤ 31) (h0 : (put d s r).1 = 0) :
    ∃ d', put d s r = (0, d', ⟨0, s.count + 1, r⟩) ∧ PInv7 d' ⟨0, s.count + 1, r⟩ t false (k + 1) := by
  rcases pinv_put h hk hr with ⟨d', e, hi⟩ | ⟨d', e, _⟩
  · exact ⟨d', e, hi⟩
  · rw [e] at h0; cases h0
theorem pinv_put6 {d : DS} {s : SL} {t : List UInt8} {tried : Bool} {k : Nat} {r : List UInt8} (h : PInv7 d s t tried k) (hk : k ≤ 60) (hr : r.length ≤ 31) (h0 : ¬ (put d s r).1 = 0) :
    ∃ d', put d s r = (6, d', s) ∧ (tried = true → PInv7 d' s t true (k + 1)) ∧ (tried = false → PInv7 d' s r true (k + 1)) := by
  rcases pinv_put h hk hr with ⟨d', e, _⟩ | ⟨d', e, hi⟩
  · rw [e] at h0; exact absurd rfl h0
  · refine ⟨d', e, fun ht => ?_, fun ht => ?_⟩
    · rw [if_pos ht] at hi; exact hi
    · rw [if_neg (by rw [ht]; decide)] at hi; exact hi
theorem PInv7.len {d : DS} {s : SL} {t : List UInt8} {tried : Bool} {k : Nat} (h : PInv7 d s t tried k) : s.rec'.length ≤ 31 := h.good.rl
end Go.Proofs.YtffkjjakceojfaaDoor

/- Walks, by program (wg.py) out of a spec. -/
namespace Go.Proofs.YtffkjjakceojfaaDoor
open Go
set_option linter.unusedVariables false
set_option linter.unusedSimpArgs false

theorem St.pureI {w0 w : World} {F0 : Nat → Prop} {p : Prop} {L : List Res} (hp : p) (h : St w0 F0 L w) : St w0 F0 (pureR p :: L) w := by
  obtain ⟨F, hF, hst⟩ := h
  exact ⟨F, stars_pure_mk hp hF, hst⟩
theorem RdRow.pre {w : World} {A : Nat → Prop} {a : Option Addr} {n m : Nat} {xs ys : List Value} (h : RdRow w A 1 a m (xs ++ ys)) (hn : n ≤ m) (hx : xs.length = n) : RdRow w A 1 a n xs := by
  refine ⟨by omega, Nat.le_trans hn h.2.1, fun h0 => ?_⟩
  obtain ⟨g, o, ha, hA, hg, hr⟩ := h.2.2 (by omega)
  exact ⟨g, o, ha, hA, hg, fun j v hj => hr j v (by rw [List.getElem?_append_left (List.getElem?_eq_some_iff.1 hj).1]; exact hj)⟩
theorem stars_blk_row0 {w : World} {F : Nat → Prop} {L : List Res} {b e n : Nat} {cs : List Value} (h : stars (blk b e cs :: L) w F) (hl : cs.length = n) (hn : n ≤ maxLen) : stars (rowR e 1 (some ⟨b, 0, none⟩) 0 n [] :: L) w F := by
  obtain ⟨F1, F2, ⟨hF1, fz, h1, hz⟩, h2, hF, hd⟩ := h
  exact ⟨F1, F2, ⟨rfl, Nat.zero_le _, hn, .inr ⟨b, 0, cs.toArray, fz, rfl, hF1, h1, by simpa using hz, by simp; omega, by simp⟩⟩, h2, hF, hd⟩
section
variable {P : Program} {w0 : World} {F0 : Nat → Prop} {L : List Res} {Q : Exit → Act → World → Prop} {n : Nat} {env : Env} {ops : Array Oper} {rest : List Oper} {ty : TypeId} {pos : String} {af : Array Edge} {gd : Option (Nat × Bool)}
theorem gl_mk0 {t : Tmp} {T e bytes m : Nat} {x y : Operand} {z : Value} {k k' : IntKind} (hw : Wt ops n env ⟨some t, .makeSlice T x y, ty, pos, af, gd⟩ true) (ht : ElemT P T e 1 bytes) (hz : (P.info? e).map (·.zero) = some (some z)) (hzc : z.cells = #[z])
    (hx : ev n env x = .int k 0) (hy : ev n env y = .int k' (m : Int)) (hb : bytes * m ≤ 16777216) (hm : m ≤ 16777216)
    (K : ∀ b, Gl P w0 F0 (rowR e 1 (some ⟨b, 0, none⟩) 0 m [] :: L) ops Q rest n ((t, .slice (some ⟨b, 0, none⟩) 0 m) :: env)) : Gl P w0 F0 L ops Q (⟨some t, .makeSlice T x y, ty, pos, af, gd⟩ :: rest) n env := by
  refine gl_effx (α := Nat) (L' := fun b => rowR e 1 (some ⟨b, 0, none⟩) 0 m [] :: L) (v := fun b => .slice (some ⟨b, 0, none⟩) 0 m) hw (fun w hst => ?_) K
  obtain ⟨i, z', hi, hz', hs, hby, _⟩ := ht.info
  have hzz : z' = z := by rw [hi] at hz; simp only [Option.map_some, Option.some.injEq] at hz; rw [hz'] at hz; exact Option.some.inj hz
  subst hzz
  refine ⟨w.heap.size, { w with heap := w.heap.push (.cells (List.replicate m z').toArray e) }, ?_, (hst.new (T := e) (cs := List.replicate m z')).mapL0 fun F hF => stars_blk_row0 hF (by simp) (by simp only [maxLen]; omega)⟩
  have hbb : (i.bytes : Int) * (m : Int) ≤ 281474976710656 := by
    rw [hby, ← Int.natCast_mul]; omega
  have hr := run_makeSlice (P := P) (w := w) T e i z' ht.sl hi hz' k k' 0 (m : Int) (Int.le_refl 0) (by omega) (by simp [hs]; omega) hbb (by omega)
  simp only [execOp, hx, hy, Sem.run_bind, hr, Result.andThen_ok, Sem.run_pure]
  simp only [Int.toNat_natCast, hs, Nat.mul_one, hzc]
  have e1 : madeCells #[z'] m = (List.replicate m z').toArray := by rw [← madeCells_one]
  rw [e1]
  first | rfl | simp [World.alloc]
theorem r_cap_slice {d : Option Tmp} {x : Operand} {T e : TypeId} {a : Option Addr} {m c : Nat} (hx : ev n env x = .slice a m c) (ht : sliceT P T = some e) :
    Runs P w0 F0 L n env ⟨d, .call ⟨.builtin .cap, #[x], #[T]⟩, ty, pos, af, gd⟩ (.int .i64 c) := fun w _ => by
  simp [execOp, resolve, invoke, builtin, Builtin.cap_, hx, run_underlying (run_sliceT ht), goInt]
end
def marks : List UInt8 := [201, 202, 203, 204, 205, 206]

attribute [local irreducible] Gl Gc Gx Gs Runs Wt

set_option maxHeartbeats 400000 in
theorem nbytes_ok {w : World} {F : Nat → Prop} {a : Option Addr} {c : Nat} {B : List UInt8} (h : stars [] w F) (hB : RdRow w (fun k => ¬ F k) 1 a B.length (B.map B8)) (hl : B.length ≤ 40000) :
    Calls Tryd.prog 23 #[.slice a B.length c] w (Post w F (fun r : Option Addr × Nat => .slice r.1 B.length r.2) (fun r => [pureR (B.length + 6 ≤ r.2), rowR 5 1 r.1 (B.length + 6) r.2 (B.map B8 ++ (marks.map B8))])) := by
  refine g_enter (env := [(0, .slice a B.length c)]) Tryd.func23 rfl h Tryd.ntmps23 rfl rfl ?_
  refine gsr ?_
  refine gp zas ?_
  refine gnt ?_
  refine gsr ?_
  refine gp zmv ?_
  refine gp zln ?_
  refine gp (r_int (j := ((B.length + 6 : Nat) : Int)) zad (by omega)) ?_
  refine gl_mk0 (z := .int .u8 0) (m := B.length + 6) (wt0 rfl) ELT.h (by kernel_rfl) rfl rfl rfl (by omega) (by omega) (fun b7 => ?_)
  refine gp zmv ?_
  refine gl_append (xs := []) (news := B.map B8) (wt0 rfl) rfl rfl (by repeat (first | exact Pick.here | apply Pick.there)) ELT.h (fun w hw => hw.rdOld hB) (one_B8 _) (by simp only [maxLen]; omega) (by omega) (fun a9 c9 => ?_)
  rw [Nat.zero_add, List.nil_append]
  refine gl_bslice (s := 1) (e := 5) (len := 6) (cs := (marks.map B8)) (z := [.int .u8 0]) (wt0 rfl) Ty.sl_32 (by kernel_rfl) (by decide) (by decide) (by decide) (by kernel_rfl) (by kernel_rfl) rfl (fun b10 => ?_)
  refine zapo (a2 := some ⟨b10, 0, none⟩) (c2 := 6) (news := (marks.map B8)) (fun a11 c11 => ?_) (h1 := one_B8 _)
  refine gl_fact (p := ∃ g o, a11 = some ⟨g, o, none⟩) (fun w hw => (by obtain ⟨g, o, e, _⟩ := (hw.row (a := a11) (m := B.length + 6) (c := c11) (xs := B.map B8 ++ (marks.map B8)) (by repeat (first | exact Pick.here | apply Pick.there))).2.2 (by omega); exact ⟨g, o, e⟩)) (fun ha => ?_)
  obtain ⟨g11, o11, rfl⟩ := ha
  refine gl_fact (p := B.length + 6 ≤ c11) (fun w hw => (hw.rowLe (e := 5) (size := 1) (a := some ⟨g11, o11, none⟩) (m := B.length + 6) (c := c11) (xs := B.map B8 ++ (marks.map B8)) (by repeat (first | exact Pick.here | apply Pick.there))).1) (fun hle => ?_)
  refine gp zas ?_
  refine gnt ?_
  refine gsr ?_
  refine gp zmv ?_
  refine gp zmv ?_
  refine gp zln ?_
  refine gp (r_val (r_slice_slice (a := some ⟨g11, o11, none⟩) (m := B.length + 6) (c := c11) (l := 0) (h := B.length) rfl Ty.sl_32 Ty.sz_5 rfl ⟨_, rfl⟩ (by omega) (by omega)) (by rw [if_neg (by omega), Nat.sub_zero, Nat.sub_zero] <;> rfl)) ?_
  refine gp zas ?_
  refine gnt ?_
  refine gc_ret ?_
  refine gx_ret1 rfl (by conv => lhs; whnf) ?_
  exact fun w' hw => ⟨(some ⟨g11, o11, none⟩, c11), rfl, St.pureI hle (hw.sel (by repeat (first | exact Sel.nil | (apply Sel.cons; · (repeat (first | exact Pick.here | apply Pick.there))))))⟩

end Go.Proofs.YtffkjjakceojfaaDoor

/- Walks, by program (wg.py) out of a spec. -/
namespace Go.Proofs.YtffkjjakceojfaaDoor
open Go
set_option linter.unusedVariables false
set_option linter.unusedSimpArgs false


structure Op7 where
  kind : Int
  at' : Int
  rc : List UInt8
  keep : List Bool
def RdOp7 (w : World) (A : Nat → Prop) (cs : List Value) (o : Op7) : Prop := Int64 o.at' ∧ ∃ a n c b m e, cs = [.int .i64 o.kind, .int .i64 o.at', .slice a n c, .slice b m e] ∧ n ≤ c ∧ RdRow w A 1 a n (o.rc.map B8) ∧ m ≤ e ∧ RdRow w A 1 b m (o.keep.map Value.bool)
theorem RdOp7.mv {w w' : World} {A A' : Nat → Prop} {cs : List Value} {o : Op7} (h : RdOp7 w A cs o) (k : Still w A w' A') : RdOp7 w' A' cs o := by
  obtain ⟨h1, a, n, c, b, m, e, h2, h3, h4, h5, h6⟩ := h
  exact ⟨h1, a, n, c, b, m, e, h2, h3, h4.mv k, h5, h6.mv k⟩

attribute [local irreducible] Gl Gc Gx Gs Runs Wt

set_option maxHeartbeats 800000 in
theorem slotsPlays_ok {w : World} {F : Nat → Prop} {nl cl : Nat} {al : Option Addr} {l : List Op7} {ea : Nat → Addr} (h : stars [] w F) (hN : NErr w (fun k => ¬ F k) ea) (hK : KR w (fun k => ¬ F k)) (hl : RdList (RdOp7 w (fun k => ¬ F k)) w (fun k => ¬ F k) 4 al nl l) :
    Calls Tryd.prog 8 #[.slice al nl cl] w (Post w F (fun _ : Unit => .bool true) (fun _ => [])) := by
  have hE := hN.g
  refine g_enter (env := [(0, .slice al nl cl)]) Tryd.func8 rfl h Tryd.ntmps8 rfl rfl ?_
  refine gsr ?_
  refine gp zas ?_
  refine gnt ?_
  refine gc_seq ?_
  refine gsr ?_
  refine zc (fun _ => ?_) (c := fun w1 F1 F2 h1 h2 hd hst => alive07_ok h1 (hE.mv hst.still) (hK.mv hst.still))
  refine gp znt ?_
  refine gnt ?_
  refine gc_condF rfl rfl ?_
  refine gc_skip ?_
  refine gx_then ?_
  refine gc_seq ?_
  refine gsr ?_
  refine gp zmv ?_
  refine gp zln ?_
  refine gp zgt ?_
  refine gnt ?_
  refine gif rfl (fun hc17 => ?_) (fun hc17 => ?_)
  · refine gsr ?_
    refine gp zas ?_
    refine gnt ?_
    refine gc_ret ?_
    refine gx_then_ret ?_
    refine gx_ret1 rfl (by conv => lhs; whnf) ?_
    exact ze ()
  · try simp only at hc17
    have hn60 : nl ≤ 60 := by omega
    refine gc_skip ?_
    refine gx_then ?_
    refine gsr ?_
    refine zc (fun gd => ?_) (c := fun w1 F1 F2 h1 h2 hd hst => new_ok (n := 2) (ea := ea) h1 (by decide) (by decide))
    refine gp zmv ?_
    refine gp zex ?_
    refine gp zex ?_
    refine gp zas ?_
    refine gp zas ?_
    refine gnt ?_
    refine gc_seq ?_
    refine gsr ?_
    refine gp zmv ?_
    refine gp (r_bool (c := false) (r_nenil rfl (by kernel_rfl)) rfl) ?_
    refine gnt ?_
    refine gc_condF rfl rfl ?_
    refine gc_skip ?_
    refine gx_then ?_
    refine gsr ?_
    refine gp zmv ?_
    refine zc (fun g26 => ?_) (c := fun w1 F1 F2 h1 h2 hd hst => format_G (fmt_Z fun _ => sec0) h1 (dZ_ok _) (hE.mv hst.still) (hK.mv hst.still))
    refine gp zmv ?_
    refine gp zex ?_
    refine gp zex ?_
    refine gp zas ?_
    refine gp zas ?_
    refine gnt ?_
    refine gc_seq ?_
    refine gsr ?_
    refine gp zmv ?_
    refine gp (r_bool (c := false) (r_nenil rfl (by kernel_rfl)) rfl) ?_
    refine gnt ?_
    refine gc_condF rfl rfl ?_
    refine gc_skip ?_
    refine gx_then ?_
    refine gsr ?_
    refine gp zas ?_
    refine gp zas ?_
    refine gnt ?_
    refine gsr ?_
    refine gp zas ?_
    refine gnt ?_
    refine gc_seq ?_
    refine gsr ?_
    refine gp zmv ?_
    refine gp zln ?_
    refine gp zmv ?_
    refine gnt ?_
    refine gc_block ?_
    refine gc_loop (α := Nat × Nat × DS × SL × List UInt8 × Bool) (fun q => [pureR (q.1 ≤ nl ∧ PInv7 q.2.2.1 q.2.2.2.1 q.2.2.2.2.1 q.2.2.2.2.2 q.1), SlR q.2.1 gd q.2.2.2.1, DiskR gd q.2.2.1]) (fun q => [(33, .int .i64 (q.1 : Int)), (5, .pointer (some ⟨q.2.1, 0, none⟩)), (6, .string (str q.2.2.2.1.rec')), (7, .string (str q.2.2.2.2.1)), (8, .bool q.2.2.2.2.2)]) [2, 4, 10, 11, 12, 34, 35, 36, 37, 38, 39, 40, 41, 42, 43, 44, 45, 46, 47, 48, 49, 50, 51, 52, 53, 54, 55, 56, 57, 58, 59, 60, 61, 62, 63, 64, 65, 66, 67, 68, 69, 70, 71, 72, 73, 74, 75, 76, 77, 78, 79, 80, 81, 82, 83, 84, 85, 86, 87, 88, 89, 90, 91, 92, 93, 94, 95, 96, 97, 98, 99, 100, 101, 102, 103, 104, 105, 106, 107, 108, 109, 110, 111, 112, 113, 114, 115, 116, 117, 118, 119, 120, 121, 122, 123, 124, 125, 126, 127] (fun q => nl - q.1) (0, g26, dZ (fmtF fun _ => sec0), ⟨0, 0, []⟩, [], false) ?_ ?_ ?_
    · refine env_start (by kernel_rfl)
    · exact zlp ⟨Nat.zero_le _, pinv_start⟩
    · intro q u
      obtain ⟨k, g, d, s, t, y⟩ := q
      refine gc_pureR (fun hq => ?_)
      obtain ⟨hk, hI⟩ := hq
      replace hk : k ≤ nl := hk
      replace hI : PInv7 d s t y k := hI
      have hcnt := hI.cnt
      refine gsr ?_
      refine gp zlt ?_
      refine gnt ?_
      refine gc_seq ?_
      refine gif rfl (fun hc34 => ?_) (fun hc34 => ?_)
      · try simp only at hc34
        have hk' : k < nl := by omega
        obtain ⟨ga, o, cs, op, ha, hA, hg, hra, hcl, hly, hrd⟩ := hl.elem (by decide) hk'
        subst ha
        obtain ⟨hat, ar, nr, cr, ak, nk, ck, hcs, hnr, hrb, hnk, hkb⟩ := hrd
        subst hcs
        have hlr : nr = op.rc.length := by have := hrb.1; simp at this; omega
        subst hlr
        refine gc_skip ?_
        refine gx_then ?_
        refine gc_seq ?_
        refine gc_block ?_
        refine gsr ?_
        refine gp (zia) ?_
        refine gp (r_ldNo rfl Ty.row_53 Ty.sz_53 hra rfl (by decide) hA) ?_
        refine zal fun b10 => ?_
        refine zsN ?_
        refine gnt ?_
        refine gc_seq ?_
        refine gc_seq ?_
        by_cases hg1 : 100 < op.rc.length
        · refine gc_region ?_
          refine gp zfa ?_
          refine gp zl ?_
          refine gp zln ?_
          refine gp (r_bool (c := true) zgt (decide_eq_true (by omega))) ?_
          refine gp zmv ?_
          refine gn ?_
          refine gn ?_
          refine gn ?_
          refine gn ?_
          refine gp zpk ?_
          refine gnt ?_
          refine gc_condT rfl rfl ?_
          refine gsr ?_
          refine gp zas ?_
          refine gnt ?_
          refine gc_ret ?_
          refine gx_then_ret ?_
          refine gx_block_ret ?_
          refine gx_then_ret ?_
          refine gx_round_ret ?_
          refine gx_block_ret ?_
          refine gx_then_ret ?_
          refine gx_ret1 rfl (by conv => lhs; whnf) ?_
          exact ze ()
        · refine gc_region ?_
          refine gp zfa ?_
          refine gp zl ?_
          refine gp zln ?_
          refine gp (r_bool (c := false) zgt (decide_eq_false (by omega))) ?_
          refine gp zmv ?_
          refine gq zfa ?_
          refine gq zl ?_
          refine gq zln ?_
          refine gq zgt ?_
          refine gp zpk ?_
          refine gnt ?_
          refine gif rfl (fun hc46 => ?_) (fun hc46 => ?_)
          · refine gsr ?_
            refine gp zas ?_
            refine gnt ?_
            refine gc_ret ?_
            refine gx_then_ret ?_
            refine gx_block_ret ?_
            refine gx_then_ret ?_
            refine gx_round_ret ?_
            refine gx_block_ret ?_
            refine gx_then_ret ?_
            refine gx_ret1 rfl (by conv => lhs; whnf) ?_
            exact ze ()
          · refine gc_skip ?_
            refine gx_then ?_
            refine gc_join (α := Nat × DS × SL × List UInt8 × Bool) (fun p => [pureR (PInv7 p.2.1 p.2.2.1 p.2.2.2.1 p.2.2.2.2 (k + 1)), SlR p.1 gd p.2.2.1, DiskR gd p.2.1]) (fun p => [(5, .pointer (some ⟨p.1, 0, none⟩)), (6, .string (str p.2.2.1.rec')), (7, .string (str p.2.2.2.1)), (8, .bool p.2.2.2.2)]) [2, 4, 11, 12, 47, 48, 49, 50, 51, 52, 53, 54, 55, 56, 57, 58, 59, 60, 61, 62, 63, 64, 65, 66, 67, 68, 69, 70, 71, 72, 73, 74, 75, 76, 77, 78, 79, 80, 81, 82, 83, 84, 85, 86, 87, 88, 89, 90, 91, 92, 93, 94, 95, 96, 97, 98, 99, 100, 101, 102, 103, 104, 105, 106, 107, 108, 109, 110, 111, 112, 113, 114, 115, 116, 117, 118, 119, 120, 121] ?_ ?_
            · refine gsr ?_
              refine gp zfa ?_
              refine gp zl ?_
              refine gnt ?_
              refine gc_block ?_
              refine gsr ?_
              refine gp zei ?_
              refine gp zas ?_
              refine gnt ?_
              refine gif rfl (fun hc49 => ?_) (fun hc49 => ?_)
              · refine gc_seq ?_
                by_cases h31 : 31 < op.rc.length
                · refine gc_region ?_
                  refine gp zmv ?_
                  refine gp zfa ?_
                  refine gp zl ?_
                  refine zc ?_ (c := fun w1 F1 F2 h1 h2 hd hst => nbytes_ok (B := op.rc) h1 (hrb.mv hst.still) (by omega))
                  rintro ⟨a54, c54⟩
                  refine gl_pureR (fun hc54 => ?_)
                  replace hc54 : op.rc.length + 6 ≤ c54 := hc54
                  refine zc (fun _ => ?_) (c := fun w1 F1 F2 h1 h2 hd hst => put_S (g := g) (gd := gd) (s := s) (d := d) (r := op.rc) (put_long h31) h1 hI.ok (hE.mv hst.still) (hK.mv hst.still) ⟨by rw [hI.base]; decide, by rw [hI.base]; decide⟩ (by omega) ((rd_row (e := 5) (size := 1) (a := a54) (n := op.rc.length + 6) (c := c54) (xs := op.rc.map B8 ++ (marks.map B8)) h2 hd (by repeat (first | exact Pick.here | apply Pick.there))).pre (by omega) (by simp)) (by omega))
                  refine gp zas ?_
                  refine gnt ?_
                  refine gc_block ?_
                  refine gsr ?_
                  refine gp zfa ?_
                  refine gp zl ?_
                  refine gp zln ?_
                  refine gp (r_bool (c := true) zgt (decide_eq_true (by omega))) ?_
                  refine gp zas ?_
                  refine gnt ?_
                  refine gc_condT rfl rfl ?_
                  refine gsr ?_
                  refine gp zmv ?_
                  refine zc (fun _ => ?_) (c := fun w1 F1 F2 h1 h2 hd hst => errNum_ok (n := 1) h1 (hN.mv hst.still) (by decide))
                  refine gp (r_bool (c := false) zni rfl) ?_
                  refine gnt ?_
                  refine gc_condF rfl rfl ?_
                  refine gc_skip ?_
                  refine gx_block_normal ?_
                  refine gx_block_normal ?_
                  refine zjn ((g, d, s, t, y)) ?_
                  · exact zlp hI.next
                · have hr31 : op.rc.length ≤ 31 := by omega
                  by_cases hp0 : (put d s op.rc).1 = 0
                  · obtain ⟨d', hpe, hI'⟩ := pinv_put0 hI (by omega) hr31 hp0
                    refine gc_region ?_
                    refine gp zmv ?_
                    refine gp zfa ?_
                    refine gp zl ?_
                    refine zc ?_ (c := fun w1 F1 F2 h1 h2 hd hst => nbytes_ok (B := op.rc) h1 (hrb.mv hst.still) (by omega))
                    rintro ⟨a54, c54⟩
                    refine gl_pureR (fun hc54 => ?_)
                    replace hc54 : op.rc.length + 6 ≤ c54 := hc54
                    refine zc (fun _ => ?_) (c := fun w1 F1 F2 h1 h2 hd hst => put_S (g := g) (gd := gd) (s := s) (d := d) (r := op.rc) hpe h1 hI.ok (hE.mv hst.still) (hK.mv hst.still) ⟨by rw [hI.base]; decide, by rw [hI.base]; decide⟩ (by omega) ((rd_row (e := 5) (size := 1) (a := a54) (n := op.rc.length + 6) (c := c54) (xs := op.rc.map B8 ++ (marks.map B8)) h2 hd (by repeat (first | exact Pick.here | apply Pick.there))).pre (by omega) (by simp)) (by omega))
                    refine gp zas ?_
                    refine gnt ?_
                    refine gc_block ?_
                    refine gsr ?_
                    refine gp zfa ?_
                    refine gp zl ?_
                    refine gp zln ?_
                    refine gp (r_bool (c := false) zgt (decide_eq_false (by omega))) ?_
                    refine gp zas ?_
                    refine gnt ?_
                    refine gc_condF rfl rfl ?_
                    refine gsr ?_
                    refine gp zmv ?_
                    refine gp (r_bool (c := true) (r_eqnil rfl (by kernel_rfl)) rfl) ?_
                    refine gp zas ?_
                    refine gnt ?_
                    refine gc_condT rfl rfl ?_
                    refine gc_region ?_
                    refine gp zfa ?_
                    refine gp zl ?_
                    refine gp (r_str (b := op.rc) rfl Ty.sl_32 Ty.un_5 Ty.un_9 (fun w' hw => hw.rdOld hrb)) ?_
                    refine gp zas ?_
                    refine gp zas ?_
                    refine gl_nil ?_
                    refine gx_block_normal ?_
                    refine gx_block_normal ?_
                    refine zjn ((g, d', ⟨0, s.count + 1, op.rc⟩, t, false)) ?_
                    · exact zlp hI'
                  · obtain ⟨d', hpe, hIt, hIf⟩ := pinv_put6 hI (by omega) hr31 hp0
                    refine gc_region ?_
                    refine gp zmv ?_
                    refine gp zfa ?_
                    refine gp zl ?_
                    refine zc ?_ (c := fun w1 F1 F2 h1 h2 hd hst => nbytes_ok (B := op.rc) h1 (hrb.mv hst.still) (by omega))
                    rintro ⟨a54, c54⟩
                    refine gl_pureR (fun hc54 => ?_)
                    replace hc54 : op.rc.length + 6 ≤ c54 := hc54
                    refine zc (fun _ => ?_) (c := fun w1 F1 F2 h1 h2 hd hst => put_S (g := g) (gd := gd) (s := s) (d := d) (r := op.rc) hpe h1 hI.ok (hE.mv hst.still) (hK.mv hst.still) ⟨by rw [hI.base]; decide, by rw [hI.base]; decide⟩ (by omega) ((rd_row (e := 5) (size := 1) (a := a54) (n := op.rc.length + 6) (c := c54) (xs := op.rc.map B8 ++ (marks.map B8)) h2 hd (by repeat (first | exact Pick.here | apply Pick.there))).pre (by omega) (by simp)) (by omega))
                    refine gp zas ?_
                    refine gnt ?_
                    refine gc_block ?_
                    refine gsr ?_
                    refine gp zfa ?_
                    refine gp zl ?_
                    refine gp zln ?_
                    refine gp (r_bool (c := false) zgt (decide_eq_false (by omega))) ?_
                    refine gp zas ?_
                    refine gnt ?_
                    refine gc_condF rfl rfl ?_
                    refine gsr ?_
                    refine gp zmv ?_
                    refine gp (r_bool (c := false) (r_eqnil rfl (by kernel_rfl)) rfl) ?_
                    refine gp zas ?_
                    refine gnt ?_
                    refine gc_condF rfl rfl ?_
                    refine gsr ?_
                    refine gp zmv ?_
                    refine zc (fun _ => ?_) (c := fun w1 F1 F2 h1 h2 hd hst => errNum_ok (n := 6) h1 (hN.mv hst.still) (by decide))
                    refine gp (r_bool (c := false) zni rfl) ?_
                    refine gp zas ?_
                    refine gnt ?_
                    refine gc_condF rfl rfl ?_
                    refine gsr ?_
                    refine gp zmv ?_
                    refine gp znt ?_
                    refine gp zas ?_
                    refine gnt ?_
                    refine gif rfl (fun hc74 => ?_) (fun hc74 => ?_)
                    · refine gc_region ?_
                      refine gp zfa ?_
                      refine gp zl ?_
                      refine gp (r_str (b := op.rc) rfl Ty.sl_32 Ty.un_5 Ty.un_9 (fun w' hw => hw.rdOld hrb)) ?_
                      refine gp zas ?_
                      refine gp zas ?_
                      refine gl_nil ?_
                      refine gx_block_normal ?_
                      refine gx_block_normal ?_
                      have hy : y = false := by simpa using hc74
                      subst hy
                      refine zjn ((g, d', s, op.rc, true)) ?_
                      · exact zlp (hIf rfl)
                    · refine gc_skip ?_
                      refine gx_block_normal ?_
                      refine gx_block_normal ?_
                      have hy : y = true := by simpa using hc74
                      subst hy
                      refine zjn ((g, d', s, t, true)) ?_
                      · exact zlp (hIt rfl)
              · refine gsr ?_
                refine gp zei ?_
                refine gp zas ?_
                refine gnt ?_
                refine gif rfl (fun hc80 => ?_) (fun hc80 => ?_)
                · refine gsr ?_
                  refine gp zmv ?_
                  refine zc (fun _ => ?_) (c := fun w1 F1 F2 h1 h2 hd hst => off_ok h1)
                  refine gp znt ?_
                  refine gnt ?_
                  refine gif rfl (fun hc84 => ?_) (fun hc84 => ?_)
                  · refine gc_region ?_
                    refine gp zmv ?_
                    refine gp zfa ?_
                    refine gp zl ?_
                    refine zc (fun _ => ?_) (c := fun w1 F1 F2 h1 h2 hd hst => arm_ok (n := op.at') h1)
                    refine gl_nil ?_
                    refine gx_block_normal ?_
                    refine zjn ((g, { d with armed := decide (0 ≤ op.at'), left := op.at' }, s, t, y)) ?_
                    · exact zlp (pinv_arm hI (by simpa using hc84) hat)
                  · refine gc_skip ?_
                    refine gx_block_normal ?_
                    refine zjn ((g, d, s, t, y)) ?_
                    · exact zlp hI.next
                · refine gsr ?_
                  refine gp zei ?_
                  refine gp zas ?_
                  refine gnt ?_
                  refine gif rfl (fun hc89 => ?_) (fun hc89 => ?_)
                  · try simp only at hc89
                    obtain ⟨s', ho', hI', hg'⟩ := pinv_crash hI (by omega) op.keep
                    have hl' := hI'.len
                    have hrt : (d.crash op.keep).right 0 = true := right_iff.2 ⟨Int.le_refl 0, by rw [hI'.n]; decide⟩
                    refine gsr ?_
                    refine gp zmv ?_
                    refine gp zfa ?_
                    refine gp zl ?_
                    refine zc (fun _ => ?_) (c := fun w1 F1 F2 h1 h2 hd hst => crash_ok' (kb := op.keep) h1 hI.ok (hkb.mv hst.still))
                    refine gnt ?_
                    refine gc_seq ?_
                    refine gsr ?_
                    refine gp zmv ?_
                    refine zc (fun g97 => ?_) (c := fun w1 F1 F2 h1 h2 hd hst => open_S (b := 0) ho' h1 hI'.ok rfl (hE.mv hst.still) (hK.mv hst.still) hrt)
                    refine gp zmv ?_
                    refine gp zex ?_
                    refine gp zex ?_
                    refine gp zas ?_
                    refine gp zas ?_
                    refine gnt ?_
                    refine gsr ?_
                    refine gp zmv ?_
                    refine gp (r_bool (c := false) (r_nenil rfl (by kernel_rfl)) rfl) ?_
                    refine gp zmv ?_
                    refine gq zmv ?_
                    refine gq (r_bool (c := false) (r_eqpn rfl Ty.un_29) rfl) ?_
                    refine gp zpk ?_
                    refine gnt ?_
                    refine gc_condF rfl rfl ?_
                    refine gc_skip ?_
                    refine gx_then ?_
                    refine gsr ?_
                    refine gp zmv ?_
                    refine zc (fun x107 => ?_) (c := fun w1 F1 F2 h1 h2 hd hst => record_ok (s := s') h1 hl')
                    refine gp zso ?_
                    refine gp zas ?_
                    refine gnt ?_
                    refine gc_seq ?_
                    refine gc_seq ?_
                    by_cases hsame : s'.rec' = s.rec'
                    · refine gc_region ?_
                      refine gp zmv ?_
                      refine gp zmv ?_
                      refine gp (r_bool (c := false) zns (by simp [hsame])) ?_
                      refine gp zmv ?_
                      refine gn ?_
                      refine gn ?_
                      refine gn ?_
                      refine gn ?_
                      refine gn ?_
                      refine gn ?_
                      refine gn ?_
                      refine gp zpk ?_
                      refine gnt ?_
                      refine gc_condF rfl rfl ?_
                      refine gc_skip ?_
                      refine gx_then ?_
                      refine gc_region ?_
                      refine gp zmv ?_
                      refine gp zas ?_
                      refine gp zas ?_
                      refine gl_nil ?_
                      refine gx_block_normal ?_
                      refine zjn ((g97, d.crash op.keep, s', t, false)) ?_
                      · exact zlp hI'
                    · have hyt := hg'.resolve_left hsame
                      refine gc_region ?_
                      refine gp zmv ?_
                      refine gp zmv ?_
                      refine gp (r_bool (c := true) zns (by simp [hsame])) ?_
                      refine gp zmv ?_
                      refine gq (r_bool (c := true) (zmv rfl) hyt.1) ?_
                      refine gq zmv ?_
                      refine gq zmv ?_
                      refine gq zmv ?_
                      refine gq (r_bool (c := true) zes (by simp [hyt.2])) ?_
                      refine gq zpk ?_
                      refine gq znt ?_
                      refine gp zpk ?_
                      refine gnt ?_
                      refine gc_condF rfl rfl ?_
                      refine gc_skip ?_
                      refine gx_then ?_
                      refine gc_region ?_
                      refine gp zmv ?_
                      refine gp zas ?_
                      refine gp zas ?_
                      refine gl_nil ?_
                      refine gx_block_normal ?_
                      refine zjn ((g97, d.crash op.keep, s', t, false)) ?_
                      · exact zlp hI'
                  · refine gc_skip ?_
                    refine gx_block_normal ?_
                    refine zjn ((g, d, s, t, y)) ?_
                    · exact zlp hI.next
            · intro p u
              obtain ⟨g2, d2, s2, t2, y2⟩ := p
              refine gc_pureR (fun hI2 => ?_)
              replace hI2 : PInv7 d2 s2 t2 y2 (k + 1) := hI2
              have hl2 := hI2.len
              refine gsr ?_
              refine gp zmv ?_
              refine zc (fun x123 => ?_) (c := fun w1 F1 F2 h1 h2 hd hst => record_ok (s := s2) h1 hl2)
              refine gp zso ?_
              refine gp zmv ?_
              refine gp (r_bool (c := false) zns (by simp)) ?_
              refine gnt ?_
              refine gc_condF rfl rfl ?_
              refine gc_skip ?_
              refine gx_block_normal ?_
              refine gx_then ?_
              refine gc_region ?_
              refine gp zad ?_
              refine gp zmv ?_
              refine gl_nil ?_
              refine zrd ((k + 1, g2, d2, s2, t2, y2)) ?_ ?_
              · show nl - (k + 1) < nl - k
                omega
              · exact zlp (show k + 1 ≤ nl ∧ PInv7 d2 s2 t2 y2 (k + 1) from ⟨by omega, hI2⟩)
      · refine gc_exit ?_
        refine gx_then_exit ?_
        refine gx_round_exit ?_
        refine gx_block_hit ?_
        refine gx_then ?_
        refine gsr ?_
        refine gp zas ?_
        refine gnt ?_
        refine gc_ret ?_
        refine gx_ret1 rfl (by conv => lhs; whnf) ?_
        exact ze ()

end Go.Proofs.YtffkjjakceojfaaDoor

/- The shell, part K: the ops of layer 7. -/
namespace Go.Proofs.YtffkjjakceojfaaDoor
open Go
set_option linter.unusedVariables false
section
variable {H : Type} {enc : TypeId × Value → H} {w : World} {base : Nat} {sp : Nat → Bool} {held : Bool}
theorem o_op7 : Opens enc Tryd.prog w base sp held 53 (RdOp7 w TT) := fun fuel cs x h => by
  have hl := opens_lenT (i := 0) (f := 3) (o := 0) (s := 4) (by kernel_rfl) (by kernel_rfl) h
  obtain ⟨n0, h0⟩ := opens_fieldT (i := 0) (f := 3) (o := 0) (s := 1) (by kernel_rfl) (by kernel_rfl) (opens_int Ty.un_3) h
  obtain ⟨n1, h1, i1⟩ := opens_fieldT (i := 1) (f := 3) (o := 1) (s := 1) (by kernel_rfl) (by kernel_rfl) (opens_i64 Ty.un_3) h
  obtain ⟨l2, a2, m2, c2, h2, k2, r2⟩ := opens_fieldT (i := 2) (f := 32) (o := 2) (s := 1) (by kernel_rfl) (by kernel_rfl) o_rbytes h
  obtain ⟨l3, a3, m3, c3, h3, k3, r3⟩ := opens_fieldT (i := 3) (f := 51) (o := 3) (s := 1) (by kernel_rfl) (by kernel_rfl) o_rbools h
  have e0 := seg cs 0 1
  have e1 := seg cs 1 1
  have e2 := seg cs 2 1
  have e3 := seg cs 3 1
  have ee := drop_all hl
  have e : cs = _ := (List.drop_zero (l := cs)).symm.trans e0
  simp only [Nat.reduceAdd, Nat.zero_add] at e e1 e2 e3
  rw [h0, e1, h1, e2, h2, e3, h3, ee] at e
  exact ⟨⟨n0, n1, l2, l3⟩, i1, a2, m2, c2, a3, m3, c3, e, k2, r2, k3, r3⟩
def RdOps7 (w : World) (A : Nat → Prop) (cs : List Value) (l : List Op7) : Prop := ∃ a n c, cs = [.slice a n c] ∧ n ≤ c ∧ RdList (RdOp7 w A) w A 4 a n l
theorem o_ops7 : Opens enc Tryd.prog w base sp held 50 (RdOps7 w TT) := opens_slice (s := 4) Ty.sl_50 Ty.sz_53 (by decide) o_op7
theorem ops7_list {a : Option Addr} {n c : Nat} {l : List Op7} (h : RdOps7 w TT [.slice a n c] l) : RdList (RdOp7 w TT) w TT 4 a n l := by
  obtain ⟨a', n', c', e, _, hr⟩ := h
  injection e with e _
  injection e with e1 e2 e3
  subst e1; subst e2
  exact hr
end
end Go.Proofs.YtffkjjakceojfaaDoor

/- SlotsPlays: for every input the law returns true, and the input reads as it did: the row and its card. -/
namespace Go.Proofs.YtffkjjakceojfaaDoor
open Go
open Go.ChangeShapes Go.WideShapes Go.ChangeAt Go.RowKit
set_option linter.unusedVariables false

/-- One world that fits: the settled one, the listed variables as their initialisers lay them. -/
noncomputable def slotsPlays_world (os : Os) : World :=
  let w0 := World.holding Tryd.prog os ⟨#[.cells #[.string ⟨#[113, 117, 111, 114, 97, 116, 101, 58, 32, 114, 97, 110, 103, 101]⟩] 163, .cells #[.string ⟨#[113, 117, 111, 114, 97, 116, 101, 58, 32, 115, 104, 111, 114, 116]⟩] 163, .cells #[.string ⟨#[113, 117, 111, 114, 97, 116, 101, 58, 32, 108, 111, 110, 103]⟩] 163, .cells #[.string ⟨#[113, 117, 111, 114, 97, 116, 101, 58, 32, 102, 111, 114, 109]⟩] 163, .cells #[.string ⟨#[113, 117, 111, 114, 97, 116, 101, 58, 32, 115, 112, 101, 110, 116]⟩] 163, .cells #[.string ⟨#[113, 117, 111, 114, 97, 116, 101, 58, 32, 112, 111, 119, 101, 114]⟩] 163, .cells #[.string ⟨#[113, 117, 111, 114, 97, 116, 101, 58, 32, 100, 105, 115, 107]⟩] 163, .cells #[.string ⟨#[113, 117, 111, 114, 97, 116, 101, 58, 32, 102, 117, 108, 108]⟩] 163, .cells #[.string ⟨#[113, 117, 111, 114, 97, 116, 101, 58, 32, 110, 111, 110, 101]⟩] 163, .cells #[.string ⟨#[113, 117, 111, 114, 97, 116, 101, 58, 32, 111, 108, 100]⟩] 163, .cells #[.string ⟨#[113, 117, 111, 114, 97, 116, 101, 58, 32, 115, 101, 116]⟩] 163, .cells #[.string ⟨#[113, 117, 111, 114, 97, 116, 101, 58, 32, 112, 114, 111, 111, 102]⟩] 163, .cells #[.string ⟨#[113, 117, 111, 114, 97, 116, 101, 58, 32, 108, 101, 97, 100, 101, 114]⟩] 163, .cells #[.string ⟨#[113, 117, 111, 114, 97, 116, 101, 58, 32, 114, 111, 117, 110, 100]⟩] 163, .cells #[.string ⟨#[113, 117, 111, 114, 97, 116, 101, 58, 32, 117, 110, 115, 97, 102, 101]⟩] 163, .cells #[.string ⟨#[113, 117, 111, 114, 97, 116, 101, 58, 32, 112, 97, 114, 101, 110, 116]⟩] 163, .cells #[.string ⟨#[113, 117, 111, 114, 97, 116, 101, 58, 32, 116, 119, 105, 99, 101]⟩] 163, .cells #[.string ⟨#[113, 117, 111, 114, 97, 116, 101, 58, 32, 101, 112, 111, 99, 104]⟩] 163], #[], []⟩
  { w0 with heap := ((((((((((((((((((w0.heap.modify 0 fun
      | .cells _ t fz => .cells #[.iface 139 (.pointer (some ⟨lowB + 0, 0, none⟩))] t fz
      | o => o).modify 3 fun
      | .cells _ t fz => .cells #[.iface 139 (.pointer (some ⟨lowB + 1, 0, none⟩))] t fz
      | o => o).modify 4 fun
      | .cells _ t fz => .cells #[.iface 139 (.pointer (some ⟨lowB + 2, 0, none⟩))] t fz
      | o => o).modify 5 fun
      | .cells _ t fz => .cells #[.iface 139 (.pointer (some ⟨lowB + 3, 0, none⟩))] t fz
      | o => o).modify 6 fun
      | .cells _ t fz => .cells #[.iface 139 (.pointer (some ⟨lowB + 4, 0, none⟩))] t fz
      | o => o).modify 7 fun
      | .cells _ t fz => .cells #[.iface 139 (.pointer (some ⟨lowB + 5, 0, none⟩))] t fz
      | o => o).modify 2 fun
      | .cells _ t fz => .cells #[.iface 139 (.pointer (some ⟨lowB + 6, 0, none⟩))] t fz
      | o => o).modify 1 fun
      | .cells _ t fz => .cells #[.iface 139 (.pointer (some ⟨lowB + 7, 0, none⟩))] t fz
      | o => o).modify 8 fun
      | .cells _ t fz => .cells #[.iface 139 (.pointer (some ⟨lowB + 8, 0, none⟩))] t fz
      | o => o).modify 9 fun
      | .cells _ t fz => .cells #[.iface 139 (.pointer (some ⟨lowB + 9, 0, none⟩))] t fz
      | o => o).modify 10 fun
      | .cells _ t fz => .cells #[.iface 139 (.pointer (some ⟨lowB + 10, 0, none⟩))] t fz
      | o => o).modify 11 fun
      | .cells _ t fz => .cells #[.iface 139 (.pointer (some ⟨lowB + 11, 0, none⟩))] t fz
      | o => o).modify 12 fun
      | .cells _ t fz => .cells #[.iface 139 (.pointer (some ⟨lowB + 12, 0, none⟩))] t fz
      | o => o).modify 13 fun
      | .cells _ t fz => .cells #[.iface 139 (.pointer (some ⟨lowB + 13, 0, none⟩))] t fz
      | o => o).modify 14 fun
      | .cells _ t fz => .cells #[.iface 139 (.pointer (some ⟨lowB + 14, 0, none⟩))] t fz
      | o => o).modify 15 fun
      | .cells _ t fz => .cells #[.iface 139 (.pointer (some ⟨lowB + 15, 0, none⟩))] t fz
      | o => o).modify 16 fun
      | .cells _ t fz => .cells #[.iface 139 (.pointer (some ⟨lowB + 16, 0, none⟩))] t fz
      | o => o).modify 17 fun
      | .cells _ t fz => .cells #[.iface 139 (.pointer (some ⟨lowB + 17, 0, none⟩))] t fz
      | o => o).modify 18 fun
      | .cells _ t fz => .cells (kc.map W32).toArray t fz
      | o => o }
def slotsPlays_args : Array Value := #[.slice none 0 0]
theorem slotsPlays_laid (os : Os) (args : Array Value) : laidMet Tryd.prog Rows.slotsPlaysRow.laid ((slotsPlays_world os).forCall (fun _ _ => 0) ⟨#[], args, []⟩).memory :=
  laidMet_of_run' 8 (by kernel_rfl) (by kernel_rfl)
theorem slotsPlays_reads (os : Os) {H : Type} (enc : TypeId × Value → H) : ∃ places, DataW.whole enc Tryd.prog ((slotsPlays_world os).forCall (fun _ _ => 0) ⟨#[], slotsPlays_args, []⟩).memory Tryd.f8.params.toList Rows.slotsPlaysSpec.vars false slotsPlays_args.toList 8 = some ([.nil], [], places) :=
  ⟨[], by kernel_rfl⟩
set_option maxRecDepth 20000 in
theorem slotsPlays_contract (H : Type) (enc : TypeId × Value → H) (W : World) (base : Nat) (args : Array Value) (ds gs : List (DataW H)) (before : List MemPlace)
    (hval : ∀ (j : Nat) t v, Tryd.f8.params[j]? = some t → args[j]? = some v → Value.okWide Tryd.prog W .any base t v)
    (hW : DataW.Whole enc Tryd.prog Tryd.f8.params.toList Rows.slotsPlaysSpec.vars false W args.toList ds gs before) (hL : laidMetH Tryd.prog Rows.slotsPlaysRow.laid W) :
    Calls Tryd.prog 8 args W fun e W' => ∃ v, e = .returned v ∧ Rows.slotsPlaysSpec.post enc Tryd.prog Tryd.f8 false true false false W args v W' := by
  have hW' := hW
  have hlt : ∀ p ∈ before, p.block < W.heap.size := fun p hp => hW.lt p hp
  obtain ⟨p, q, hA0, hV, rfl, hfz, hnd⟩ := hW
  have hA : DataW.TrodAll enc Tryd.prog W 0 (fun _ => true) true Tryd.f8.params.toList args.toList ds p := hA0
  rw [Tryd.params8] at hA hval
  obtain ⟨v0, vs0, d0, ds0, p0, q0, hargs, rfl, rfl, h0, r0⟩ := trodAll_cons hA
  obtain ⟨rfl, rfl, rfl⟩ := trodAll_nil r0
  obtain rfl : args = #[v0] := by cases args; simp_all
  obtain ⟨rfl, rfl⟩ := trodVars_none hV
  obtain ⟨a0, m0, c0, rfl⟩ := okWide_slice (run_sliceT Ty.sl_50) (hval 0 50 v0 rfl rfl)
  obtain ⟨x0, hx0⟩ : ∃ x, RdOps7 W TT [.slice a0 m0 c0] x := by obtain ⟨fuel, hf⟩ := h0; exact o_ops7 fuel _ _ hf
  have hL' : laidMet Tryd.prog Rows.slotsPlaysRow.laid W := hL
  obtain ⟨ea, hN⟩ := laid_nerr (r := [("quorate/hash.constants", Rows.laid_quorate_hash_constants)]) (show laidMet Tryd.prog (errNames.map errRow ++ [("quorate/hash.constants", Rows.laid_quorate_hash_constants)]) W from hL')
  have hK := laid_kr hL'.tail.tail.tail.tail.tail.tail.tail.tail.tail.tail.tail.tail.tail.tail.tail.tail.tail.tail
  have walk := slotsPlays_ok (cl := c0) no_res hN hK ((ops7_list hx0).mv still_id fun c x h => h.mv still_id)
  refine Calls.mono (show Calls Tryd.prog 8 #[.slice a0 m0 c0] W _ from walk) fun e W' ⟨_, he, hs⟩ => ?_
  subst he
  have bel := below_of hs
  have eF : Rows.slotsPlaysSpec.fn H ([d0] ++ []) = { results := [.lit (.bool true)], args := [d0] } := rfl
  have l0 : ∀ z ∈ p0, z.block < W.heap.size := fun z hz => hlt z (by simp [hz])
  refine ⟨_, rfl, _, _, _, [], p0 ++ ([]), [], hW', ?_, ?_, ?_, bel.frame _, fun h => by cases h⟩
  · rw [eF]; exact trodAll_cons_mk (shut_bool Tryd.underlying4 _) trodAll_mk0
  · rw [eF, Tryd.params8]
    exact trodAll_cons_mk (Below.trod laidOut (by kernel_rfl) (of_decide_eq_true (by kernel_rfl)) h0 bel l0) (trodAll_mk0)
  · rw [eF]; rfl

set_option maxRecDepth 100000 in
theorem slotsPlays_lifted (os : Os) (started : os.Started) (H : Type) (enc : TypeId × Value → H) (F : Stop.Interp) :
    ReturnsInHanded {} Tryd.checked os 8 .any ((OpenSpec.ofChange Rows.slotsPlaysSpec).preRow enc Tryd.prog Tryd.f8 Rows.slotsPlaysRow.domain false Rows.slotsPlaysRow.laid) (((OpenSpec.ofChange Rows.slotsPlaysSpec).at F).post enc Tryd.prog Tryd.f8 false true false false) := by
  obtain ⟨places, hx⟩ := slotsPlays_reads os enc
  refine returnsInHanded_of_row (C := Tryd.checked) (s := OpenSpec.ofChange Rows.slotsPlaysSpec) own started (by kernel_rfl) Tryd.func8
    (witness_row_atRef (enc := enc) (C := Tryd.checked) false (slotsPlays_world os) slotsPlays_args rfl (by kernel_rfl) (by kernel_rfl) (by kernel_rfl)
      (OpenSpec.preRow_of_cond 8 hx (by kernel_rfl) (fun k hk => by cases hk) (by kernel_rfl) (slotsPlays_laid os _))) ?_
  intro W base args ds gs before hval hW _ _ _ hL _ _
  exact slotsPlays_contract H enc W base args ds gs before hval hW hL

theorem slotsPlays_said : Rows.SlotsPlaysSaid :=
  OpenClaim.holds_of_cond 8 Tryd.f8 rfl rfl rfl rfl rfl rfl rfl ⟨rfl, rfl, rfl, rfl, rfl⟩ rfl rfl rfl rfl rfl (by kernel_rfl) Tryd.func8 (by kernel_rfl)
    (of_decide_eq_true (by kernel_rfl)) (by unfold Func.isWrapper; first | (rw [if_pos (by decide +kernel)]; kernel_rfl) | (rw [if_neg (by decide +kernel)]; exact ⟨rfl, rfl⟩))
    (fun os started H enc _ F => by rw [OpenClaim.pre_eq_preRow]; exact slotsPlays_lifted os started H enc F)
theorem slotsPlays_plain (f : FuncId) (fn : Func) (hf : Tryd.pinned.checked.prog.funcNamed "quorate/quoratelaw07.SlotsPlays" = some f) (hfn : Tryd.pinned.checked.prog.funcs[f]? = some fn) :
    true = Tryd.pinned.checked.prog.looks [] ∧ ∀ (j : Nat) t, fn.params[j]? = some t → Tryd.pinned.checked.prog.wantsStandIn t = false := by
  obtain rfl : f = 8 := Option.some.inj ((show Tryd.prog.funcNamed "quorate/quoratelaw07.SlotsPlays" = some 8 by kernel_rfl).symm.trans hf) |>.symm
  obtain rfl : fn = Tryd.f8 := (Option.some.inj (Tryd.func8.symm.trans hfn)).symm
  refine ⟨by kernel_rfl, fun j t ht => ?_⟩
  rw [Tryd.params8] at ht
  have hm := Array.mem_of_getElem? ht
  have h : t = 50 := by simpa using hm
  subst h
  exact (show Tryd.prog.wantsStandIn 50 = false by kernel_rfl)
theorem slotsPlays_holds : Rows.SlotsPlaysCardSaid :=
  Claim7.holds_tied_plain_at .later [] _ _ _ _ slotsPlays_said (fun _ h => by cases h) (by kernel_rfl) (fun _ h => by cases h) slotsPlays_row_tie rfl ⟨rfl, rfl⟩ (by kernel_rfl) rfl slotsPlays_plain (by kernel_rfl)
#print axioms slotsPlays_holds
end Go.Proofs.YtffkjjakceojfaaDoor

