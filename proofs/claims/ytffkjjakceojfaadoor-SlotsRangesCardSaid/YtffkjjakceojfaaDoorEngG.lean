/- The engine, part G: short forms of the rules that walks use most. -/
import Derived.Test.YtffkjjakceojfaaDoorEngF
namespace Go.Proofs.YtffkjjakceojfaaDoor
open Go
set_option linter.unusedVariables false
set_option linter.unusedSimpArgs false

theorem updL_all {cs vs : List Value} (h : cs.length = vs.length) : updL cs 0 vs = vs := by
  simp [updL, h]
theorem updL_mid {xs0 cs vs : List Value} (h : vs.length ≤ cs.length) : updL (xs0 ++ cs) xs0.length vs = xs0 ++ vs ++ cs.drop vs.length := by
  simp only [updL]
  rw [List.take_left' rfl, ← List.append_assoc, List.drop_append, List.drop_eq_nil_of_le (by omega), List.nil_append]
  congr 2; omega
/-- Elements laid in a row, one behind the other. -/
theorem fillL_row (s : Nat) : ∀ (vs : List Value) (css : List (List Value)) (k : Nat) (done base : List Value), done.length = k * s → base.length = vs.length * s → vs.map (fun v => v.cells.toList) = css → (∀ c ∈ css, c.length = s) →
    fillL (fun i => some (i * s, s)) (done ++ base) ((List.range' k vs.length).zip vs) = some (done ++ css.flatten)
  | [], css, k, done, base, _, hb, hc, _ => by
    simp at hc; subst hc
    have : base = [] := List.eq_nil_of_length_eq_zero (by simpa using hb)
    subst this
    simp [fillL]
  | v :: r, css, k, done, base, hd, hb, hc, hs => by
    cases css with
    | nil => simp at hc
    | cons c css =>
      simp only [List.map_cons, List.cons.injEq] at hc
      obtain ⟨h1, h2⟩ := hc
      have hcs : c.length = s := hs c (by simp)
      simp only [List.length_cons, Nat.add_mul, Nat.one_mul] at hb
      simp only [List.length_cons, List.range'_succ, List.zip_cons_cons, fillL]
      rw [if_pos ⟨by rw [h1]; exact hcs, by rw [h1, List.length_append, hd, hcs]; omega⟩, h1, ← hd, updL_mid (by omega)]
      have ih := fillL_row s r css (k + 1) (done ++ c) (base.drop c.length) (by rw [List.length_append, hd, hcs, Nat.add_mul, Nat.one_mul]) (by rw [List.length_drop]; omega) h2 (fun c' hc' => hs c' (by simp [hc']))
      rw [ih]
      simp

theorem drop_q {q r : List Value} {m k : Nat} (hq : q.length = m) (h : m ≤ k) : List.drop k (q ++ r) = List.drop (k - m) r := by
  rw [List.drop_append, List.drop_eq_nil_of_le (by omega), hq]; rfl
theorem drop_q' {q : List Value} {m k : Nat} (hq : q.length = m) (h : m ≤ k) : List.drop k q = [] := List.drop_eq_nil_of_le (by omega)
theorem take_q {q r : List Value} {m k : Nat} (hq : q.length = m) (h : m ≤ k) : List.take k (q ++ r) = q ++ List.take (k - m) r := by
  rw [List.take_append, List.take_of_length_le (by omega), hq]
theorem take_q' {q : List Value} {m k : Nat} (hq : q.length = m) (h : m ≤ k) : List.take k q = q := List.take_of_length_le (by omega)
theorem get_q {q r : List Value} {m k : Nat} (hq : q.length = m) (h : m ≤ k) : (q ++ r)[k]? = r[k - m]? := by
  rw [List.getElem?_append_right (by omega), hq]
theorem seg_all {cs : List Value} {m : Nat} (h : cs.length = m) : (cs.drop 0).take m = cs := by rw [List.drop_zero, ← h, List.take_length]

section short
variable {P : Program} {w0 : World} {F0 : Nat → Prop} {L : List Res} {Q : Exit → Act → World → Prop} {n : Nat} {env : Env} {ops : Array Oper} {rest : List Oper}
variable {d : Option Tmp} {ty : TypeId} {pos : String} {af : Array Edge} {gd : Option (Nat × Bool)}

theorem r_val {o : Oper} {v v' : Value} (h : Runs P w0 F0 L n env o v) (e : v = v') : Runs P w0 F0 L n env o v' := e ▸ h
theorem r_bool {o : Oper} {b c : Bool} (h : Runs P w0 F0 L n env o (.bool b)) (e : b = c) : Runs P w0 F0 L n env o (.bool c) := e ▸ h
theorem r_makeF {f : Fn} {cs : List Operand} {us : List Value} (hc : cs.map (ev n env) = us) : Runs P w0 F0 L n env ⟨d, .makeFunc f #[] cs.toArray, ty, pos, af, gd⟩ (.func f #[] us.toArray) := fun w _ => by
  subst hc; simp [execOp, Instr.makeFunc]
theorem r_int {o : Oper} {k : IntKind} {i j : Int} (h : Runs P w0 F0 L n env o (.int k i)) (e : i = j) : Runs P w0 F0 L n env o (.int k j) := e ▸ h
theorem wtgT {o : Oper} {j t : Nat} {b : Bool} (h : o.guard = some (j, b)) (hd : (ops[j]?).bind (·.dst) = some t) (ht : Nat.blt t n = true) (hv : Env.get env t = .bool b) : Wt ops n env o true := by
  have := wtg h hd ht hv; rwa [beq_self_eq_true] at this
theorem wtgF {o : Oper} {j t : Nat} {b c : Bool} (h : o.guard = some (j, b)) (hd : (ops[j]?).bind (·.dst) = some t) (ht : Nat.blt t n = true) (hv : Env.get env t = .bool c) (hne : (c == b) = false) : Wt ops n env o false := by
  have := wtg h hd ht hv; rwa [hne] at this
theorem wtu {o : Oper} {j t : Nat} {b : Bool} (h : o.guard = some (j, b)) (hd : (ops[j]?).bind (·.dst) = some t) (ht : Nat.blt t n = true) (hv : Env.get env t = undef) : Wt ops n env o false := by
  simp [Wt, Region.wanted, h, yielded, hd, fr_get? ht hv, undef]

theorem gl_bsl {t : Tmp} {T e s len : Nat} {parts : Array (Nat × Operand)} {vs : List Value} {css : List (List Value)} {cs : List Value} {z : List Value} (hw : Wt ops n env ⟨some t, .buildSlice T len parts, ty, pos, af, gd⟩ true)
    (ht : sliceT P T = some e) (hs : szT P e = some s) (hz : zcT P e = some z) (hp : parts.toList.map (fun p => (p.1, ev n env p.2)) = (List.range' 0 vs.length).zip vs) (hlen : vs.length = len) (hl : Nat.ble (len * s) 16777216 = true) (hl0 : Nat.ble len 16777216 = true) (hpos : Nat.blt 0 (len * s) = true)
    (hv : vs.map (fun v => v.cells.toList) = css) (hc : ∀ c ∈ css, c.length = s) (hcs : css.flatten = cs)
    (k : ∀ b, Gl P w0 F0 (rowR e s (some ⟨b, 0, none⟩) len len cs :: L) ops Q rest n ((t, .slice (some ⟨b, 0, none⟩) len len) :: env)) : Gl P w0 F0 L ops Q (⟨some t, .buildSlice T len parts, ty, pos, af, gd⟩ :: rest) n env := by
  have hflat : css.flatten.length = len * s := by
    have : ∀ (l : List (List Value)), (∀ c ∈ l, c.length = s) → l.flatten.length = l.length * s := by
      intro l
      induction l with
      | nil => simp
      | cons c l ih =>
        intro h
        rw [List.flatten_cons, List.length_append, ih (fun c' hc' => h c' (by simp [hc'])), h c (by simp), List.length_cons, Nat.add_mul, Nat.one_mul, Nat.add_comm]
    rw [this css hc, ← hlen, ← hv, List.length_map]
  rw [Nat.blt_eq] at hpos
  refine gl_bslice (cs := cs) hw ht hs (Nat.le_of_ble_eq_true hl) (Nat.le_of_ble_eq_true hl0) hpos hz ?_ (by rw [← hcs]; exact hflat) k
  rw [hp, ← hcs]
  have := fillL_row s vs css 0 [] ((List.range (len * s)).map fun i => z.toArray[i % z.length]!) (by simp) (by simp [hlen]) hv hc
  simpa using this
/-- One element of one cell. -/
theorem gl_bsl1 {t : Tmp} {T e : Nat} {x : Operand} {v : Value} {z : List Value} (hw : Wt ops n env ⟨some t, .buildSlice T 1 #[(0, x)], ty, pos, af, gd⟩ true) (ht : sliceT P T = some e) (hs : szT P e = some 1) (hz : zcT P e = some z)
    (hx : ev n env x = v) (h1 : v.oneCell' = true)
    (k : ∀ b, Gl P w0 F0 (rowR e 1 (some ⟨b, 0, none⟩) 1 1 [v] :: L) ops Q rest n ((t, .slice (some ⟨b, 0, none⟩) 1 1) :: env)) : Gl P w0 F0 L ops Q (⟨some t, .buildSlice T 1 #[(0, x)], ty, pos, af, gd⟩ :: rest) n env :=
  gl_bsl (vs := [v]) (css := [[v]]) hw ht hs hz (by simp [hx]) rfl rfl rfl rfl (by cases v <;> first | rfl | (simp [Value.oneCell'] at h1)) (by simp) (by simp) k
/-- One element of several cells. -/
theorem gl_bslN {t : Tmp} {T e s : Nat} {x : Operand} {cs : List Value} {z : List Value} (hw : Wt ops n env ⟨some t, .buildSlice T 1 #[(0, x)], ty, pos, af, gd⟩ true) (ht : sliceT P T = some e) (hs : szT P e = some s) (hz : zcT P e = some z)
    (hx : ev n env x = .agg cs.toArray) (hl : cs.length = s) (hb : Nat.ble (1 * s) 16777216 = true) (hp : Nat.blt 0 (1 * s) = true)
    (k : ∀ b, Gl P w0 F0 (rowR e s (some ⟨b, 0, none⟩) 1 1 cs :: L) ops Q rest n ((t, .slice (some ⟨b, 0, none⟩) 1 1) :: env)) : Gl P w0 F0 L ops Q (⟨some t, .buildSlice T 1 #[(0, x)], ty, pos, af, gd⟩ :: rest) n env :=
  gl_bsl (vs := [.agg cs.toArray]) (css := [cs]) hw ht hs hz (by simp [hx]) rfl hb rfl hp (by simp [Value.cells]) (by simpa using hl) (by simp) k
/-- Several elements of one cell each. -/
theorem gl_bsls {t : Tmp} {T e len : Nat} {parts : Array (Nat × Operand)} {vs : List Value} {z : List Value} (hw : Wt ops n env ⟨some t, .buildSlice T len parts, ty, pos, af, gd⟩ true) (ht : sliceT P T = some e) (hs : szT P e = some 1) (hz : zcT P e = some z)
    (hp : parts.toList.map (fun p => (p.1, ev n env p.2)) = (List.range' 0 vs.length).zip vs) (hlen : vs.length = len) (h1 : ∀ v ∈ vs, v.oneCell' = true) (hb : Nat.ble (len * 1) 16777216 = true) (hb' : Nat.ble len 16777216 = true) (hpos : Nat.blt 0 (len * 1) = true)
    (k : ∀ b, Gl P w0 F0 (rowR e 1 (some ⟨b, 0, none⟩) len len vs :: L) ops Q rest n ((t, .slice (some ⟨b, 0, none⟩) len len) :: env)) : Gl P w0 F0 L ops Q (⟨some t, .buildSlice T len parts, ty, pos, af, gd⟩ :: rest) n env :=
  gl_bsl (vs := vs) (css := vs.map fun v => [v]) hw ht hs hz hp hlen hb hb' hpos (List.map_congr_left fun v hv => by have := h1 v hv; cases v <;> first | rfl | (simp [Value.oneCell'] at this)) (by simp) (by
    clear hp hlen h1 k
    induction vs with
    | nil => rfl
    | cons v r ih => simp [ih]) k
theorem r_ldNo {x : Operand} {T g o m : Nat} {seg : List Value} (hx : ev n env x = .pointer (some ⟨g, o, none⟩)) (hr : rowT P T = some true) (hs : szT P T = some m) (hg : w0.rangeAt g o seg) (hl : seg.length = m) (hp : 0 < m) (hn : ¬ F0 g) :
    Runs P w0 F0 L n env ⟨d, .load T x, ty, pos, af, gd⟩ (.agg seg.toArray) := r_load hx fun w ⟨F, hF, hst⟩ => by
  refine run_loadVar_agg hr hs hl fun j v hj => ?_
  have h0 := hg j v hj
  rw [World.cell?_of_block (hst.old (World.block_lt_of_cell? w0 _ h0) hn).1]; exact h0
theorem r_eqnil_sl {x : Operand} {T T' e : TypeId} {a : Option Addr} {m c : Nat} (hx : ev n env x = .slice a m c) (ht : sliceT P T = some e) : Runs P w0 F0 L n env ⟨d, .binOp .eql T x (.const (.slice none 0 0)) T', ty, pos, af, gd⟩ (.bool a.isNone) := fun w _ => by
  have h : ∀ k : Nat, (Op.equalIn (k + 1) T (.slice a m c) (.slice none 0 0)).run P w = .ok a.isNone w := fun k => by
    cases a <;> simp [Op.equalIn, run_underlying (run_sliceT ht)]
  have hc : ev n env (.const (.slice none 0 0)) = .slice none 0 0 := rfl
  simp [execOp, hx, hc, eqGuard, binOp, Op.equal, Op.maxDepth, h 9999]
theorem gc_pure1 {c : Code} {p : Prop} {L' : List Res} (hp : Pick L (pureR p) L') (k : p → Gc P w0 F0 L c Q n env) : Gc P w0 F0 L c Q n env := fun w hw => by
  have hw' := hw
  obtain ⟨F, hF, _⟩ := hw'
  obtain ⟨F1, h1, _⟩ := stars_pick hp hF
  exact k h1.2 w hw
theorem gc_regionS {id : Nat} {l : List Oper} (hm : P.follows .mixedOrders = true) (hB : Region.lexB .any l.toArray = true)
    (h : Gs P w0 F0 L l.toArray l n env (fun env' => Gx w0 F0 L Q .normal n env')) : Gc P w0 F0 L (.region id l.toArray true) Q n env := fun w hw => by
  refine wp_region_still_lit hm hB ?_
  have hw' := hw.drawn (w.drawn + 1)
  refine wpStill_mono' (fun a ⟨env', ha, hC⟩ => ?_) (h _ hw')
  subst ha
  exact hC _ hw'
end short
end Go.Proofs.YtffkjjakceojfaaDoor
