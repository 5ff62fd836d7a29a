/- The engine, part F: what a callee may read; literals of slices and structs; calls of function values. -/
import Derived.Test.YtffkjjakceojfaaDoorEngE
namespace Go.Proofs.YtffkjjakceojfaaDoor
open Go
set_option linter.unusedVariables false
set_option linter.unusedSimpArgs false

/-! ### What a callee may read beside what it owns -/
theorem Stp.rd {w0 w : World} {F0 F1 F2 : Nat → Prop} (h : Stp w0 F0 w (fun k => F1 k ∨ F2 k)) : ∀ k, k < w0.heap.size → ¬ F0 k → w.heap[k]? = w0.heap[k]? ∧ ¬ F1 k :=
  fun k hk hn => ⟨(h.old hk hn).1, fun hf => (h.old hk hn).2 (.inl hf)⟩
theorem rd_row {L L' : List Res} {w : World} {F1 F2 : Nat → Prop} {e size n c : Nat} {a : Option Addr} {xs : List Value} (h2 : stars L w F2) (hd : ∀ k, F1 k → ¬ F2 k) (hp : Pick L (rowR e size a n c xs) L') :
    RdRow w (fun k => ¬ F1 k) size a n xs := by
  obtain ⟨F', h', hs⟩ := stars_pick hp h2
  exact (rowR.rd h').mv fun k _ hk => ⟨rfl, fun h1 => hd k h1 (hs k hk)⟩
theorem RdRow.of_blk {w : World} {F : Nat → Prop} {g T o n size : Nat} {cs xs : List Value} (h : (blk g T cs).on w F) (hx : (cs.drop o).take (n * size) = xs) (hl : xs.length = n * size) (hn : n ≤ maxLen) : RdRow w F size (some ⟨g, o, none⟩) n xs := by
  refine ⟨hl, hn, fun _ => ⟨g, o, rfl, (h.1 g).2 rfl, (blk g T cs).lt h g ((h.1 g).2 rfl), fun j v hj => ?_⟩⟩
  rw [cell_blk h]
  rw [← hx, List.getElem?_take] at hj
  split at hj
  · rwa [List.getElem?_drop] at hj
  · cases hj
theorem rd_blk {L L' : List Res} {w : World} {F1 F2 : Nat → Prop} {g T o n size : Nat} {cs xs : List Value} (h2 : stars L w F2) (hd : ∀ k, F1 k → ¬ F2 k) (hp : Pick L (blk g T cs) L') (hx : (cs.drop o).take (n * size) = xs) (hl : xs.length = n * size) (hn : n ≤ maxLen) :
    RdRow w (fun k => ¬ F1 k) size (some ⟨g, o, none⟩) n xs := by
  obtain ⟨F', h', hs⟩ := stars_pick hp h2
  exact (RdRow.of_blk h' hx hl hn).mv fun k _ hk => ⟨rfl, fun h1 => hd k h1 (hs k hk)⟩

/-! ### Literals -/
def fillL (place : Nat → Option (Nat × Nat)) : List Value → List (Nat × Value) → Option (List Value)
  | cs, [] => some cs
  | cs, (i, v) :: r => match place i with
    | none => none
    | some (o, s) => if v.cells.toList.length = s ∧ o + v.cells.toList.length ≤ cs.length then fillL place (updL cs o v.cells.toList) r else none
theorem foldl_set (cs : Array Value) (o : Nat) : ∀ (l : List Value) (k : Nat) (m : Array Value), o + k + l.length ≤ m.size →
    ((l.zipIdx k).foldl (fun m p => m.setIfInBounds (o + p.2) p.1) m).toList = updL m.toList (o + k) l
  | [], k, m, _ => by simp [updL]
  | v :: r, k, m, h => by
    simp only [List.length_cons] at h
    simp only [List.zipIdx_cons, List.foldl_cons]
    rw [foldl_set cs o r (k + 1) _ (by simp; omega), updL_cons (by simp; omega)]
    simp [Nat.add_assoc]
theorem fill_of (place : Nat → Option (Nat × Nat)) : ∀ (parts : List (Nat × Value)) (cs : Array Value) (out : List Value), fillL place cs.toList parts = some out → Instr.fill place cs parts = some out.toArray
  | [], cs, out, h => by simp [fillL] at h; subst h; simp [Instr.fill]
  | (i, v) :: r, cs, out, h => by
    simp only [fillL] at h
    cases hp : place i with
    | none => simp [hp] at h
    | some p =>
      obtain ⟨o, s⟩ := p
      simp only [hp] at h
      split at h
      · rename_i hh
        obtain ⟨h1, h2⟩ := hh
        have hs : v.cells.size = s := by simpa using h1
        have hl : ¬ (o + v.cells.size > cs.size) := by simp at h2 ⊢; omega
        have := foldl_set cs o v.cells.toList 0 cs (by simp at h2 ⊢; omega)
        simp only [Nat.add_zero] at this
        simp only [Instr.fill, hp, hs, ne_eq, not_true_eq_false, false_or]
        rw [if_neg (by simp at hl ⊢; omega)]
        refine fill_of place r _ out ?_
        rw [← h]
        congr 1
        rw [← this, ← Array.foldl_toList, Array.toList_zipIdx]
      · cases h
theorem run_mapM_places {P : Program} {w : World} : ∀ (fs : List Field) (pl : List (Nat × Nat)), (fs.mapM fun f => (szT P f.type).map fun s => (f.offset, s)) = some pl →
    (fs.mapM (m := Sem) fun f => (fun s => (f.offset, s)) <$> sizeOf f.type).run P w = .ok pl w
  | [], pl, h => by simp at h; subst h; simp
  | f :: r, pl, h => by
    simp only [List.mapM_cons, Option.bind_eq_bind, Option.pure_def] at h
    cases hs : szT P f.type with
    | none => simp [hs] at h
    | some s =>
      cases hr : (r.mapM fun f => (szT P f.type).map fun s => (f.offset, s)) with
      | none => simp [hs, hr] at h
      | some q =>
        simp [hs, hr] at h
        subst h
        have ih := run_mapM_places (P := P) (w := w) r q hr
        simp only [List.mapM_cons, Sem.run_bind, Sem.run_map, run_sz hs, Result.andThen_ok, ih, Sem.run_pure]

section lits
variable {P : Program} {w0 : World} {F0 : Nat → Prop} {L : List Res} {Q : Exit → Act → World → Prop} {n : Nat} {env : Env} {ops : Array Oper} {rest : List Oper}
variable {d : Option Tmp} {ty : TypeId} {pos : String} {af : Array Edge} {gd : Option (Nat × Bool)}

theorem r_build {T : TypeId} {parts : Array (Nat × Operand)} {zs cs : List Value} {pl : List (Nat × Nat)} (hz : zcT P T = some zs) (hp : placesT P T = some pl)
    (hf : fillL (pl[·]?) zs (parts.toList.map fun p => (p.1, ev n env p.2)) = some cs) : Runs P w0 F0 L n env ⟨d, .build T parts, ty, pos, af, gd⟩ (.agg cs.toArray) := fun w _ => by
  obtain ⟨z, hz', hc⟩ := zcT_some hz
  unfold placesT at hp
  cases hu : P.underlying T with
  | none => simp [hu] at hp
  | some dsc =>
    cases dsc <;> simp [hu] at hp
    rename_i fs
    have hm := run_mapM_places (P := P) (w := w) fs.toList pl hp
    have hf' : Instr.fill (pl.toArray[·]?) z.cells (parts.toList.map fun p => (p.1, ev n env p.2)) = some cs.toArray := fill_of _ _ _ _ (by rw [hc]; simpa using hf)
    simp only [execOp, Instr.build, Sem.run_bind, run_zeroT hz', Result.andThen_ok, run_underlying hu]
    rw [show (fs.mapM (m := Sem) fun f => do pure (f.offset, ← sizeOf f.type)) = List.toArray <$> (fs.toList.mapM (m := Sem) fun f => (fun s => (f.offset, s)) <$> sizeOf f.type) from by
      rw [Array.mapM_eq_mapM_toList]; simp]
    have hcomp : (parts.map fun (i, x) => (i, ev n env x)).toList = parts.toList.map fun p => (p.1, ev n env p.2) := by simp
    simp only [Sem.run_map, hm, Result.andThen_ok, hcomp, hf']
    rfl
theorem gl_bslice {t : Tmp} {T e s len : Nat} {parts : Array (Nat × Operand)} {z : List Value} {cs : List Value} (hw : Wt ops n env ⟨some t, .buildSlice T len parts, ty, pos, af, gd⟩ true)
    (ht : sliceT P T = some e) (hs : szT P e = some s) (hl : len * s ≤ 16777216) (hl0 : len ≤ 16777216) (hpos : 0 < len * s) (hz : zcT P e = some z)
    (hf : fillL (fun i => some (i * s, s)) ((List.range (len * s)).map fun i => z.toArray[i % z.length]!) (parts.toList.map fun p => (p.1, ev n env p.2)) = some cs) (hcl : cs.length = len * s)
    (k : ∀ b, Gl P w0 F0 (rowR e s (some ⟨b, 0, none⟩) len len cs :: L) ops Q rest n ((t, .slice (some ⟨b, 0, none⟩) len len) :: env)) : Gl P w0 F0 L ops Q (⟨some t, .buildSlice T len parts, ty, pos, af, gd⟩ :: rest) n env := by
  refine gl_effx (α := Nat) (L' := fun b => rowR e s (some ⟨b, 0, none⟩) len len cs :: L) (v := fun b => .slice (some ⟨b, 0, none⟩) len len) hw (fun w hst => ?_) k
  obtain ⟨zv, hz', hc⟩ := zcT_some hz
  have hfill : Instr.fill (fun i => some (i * s, s)) ((Array.range (len * s)).map fun i => zv.cells[i % zv.cells.size]!) (parts.toList.map fun p => (p.1, ev n env p.2)) = some cs.toArray := by
    refine fill_of _ _ _ _ ?_
    rw [← hf]
    congr 1
    subst hc
    simp
  refine ⟨w.heap.size, { w with heap := w.heap.push (.cells cs.toArray e) }, ?_, ?_⟩
  · simp only [execOp, Instr.buildSlice, Sem.run_bind, run_underlying (run_sliceT ht), Result.andThen_ok, run_sz hs]
    have hlim : ¬ (16777216 < len * s) := by omega
    have h0 : ¬ (len * s = 0) := by omega
    have hcomp : (parts.map fun (i, x) => (i, ev n env x)).toList = parts.toList.map fun p => (p.1, ev n env p.2) := by simp
    rw [if_neg (by omega), if_neg h0]
    simp only [Sem.run_bind, run_zeroT hz', Result.andThen_ok, Sem.run_pure, hcomp, hfill, newRow, newObj, Sem.run, Sem.run_map]
  · refine hst.newRow (w' := { w with heap := w.heap.push (.cells cs.toArray e) }) (fz := (0, 0)) rfl rfl rfl rfl (fun j _ h => by simp at h) (by rw [← hcl]; simp) (Nat.le_refl _) ?_ (by simp; omega)
    simp only [maxLen]; omega
theorem gl_bslice0 {t : Tmp} {T e s : Nat} (hw : Wt ops n env ⟨some t, .buildSlice T 0 #[], ty, pos, af, gd⟩ true) (ht : sliceT P T = some e) (hs : szT P e = some s)
    (k : ∀ b, Gl P w0 F0 (rowR e s (some ⟨b, 0, none⟩) 0 0 [] :: L) ops Q rest n ((t, .slice (some ⟨b, 0, none⟩) 0 0) :: env)) : Gl P w0 F0 L ops Q (⟨some t, .buildSlice T 0 #[], ty, pos, af, gd⟩ :: rest) n env := by
  refine gl_effx (α := Nat) (L' := fun b => rowR e s (some ⟨b, 0, none⟩) 0 0 [] :: L) (v := fun b => .slice (some ⟨b, 0, none⟩) 0 0) hw (fun w hst => ?_) k
  refine ⟨w.heap.size, { w with heap := w.heap.push (.cells #[] e) }, ?_, hst.newRow (w' := { w with heap := w.heap.push (.cells #[] e) }) (fz := (0, 0)) rfl rfl rfl rfl (fun j _ h => by simp at h) (by simp) (Nat.le_refl _) (by simp [maxLen]) (by simp)⟩
  simp [execOp, Instr.buildSlice, run_underlying (run_sliceT ht), run_sz hs, Instr.fill, newRow, newObj, Sem.run]
  rw [show Array.map (fun _ : Nat => (default : Value)) (Array.range 0) = #[] from Array.eq_empty_of_size_eq_zero (by simp)]

/-! ### Calls of function values -/
theorem e_callv {x : Operand} {f : FuncId} {xs : List Operand} {ts : Array TypeId} {vs us : List Value} (hx : ev n env x = .func (.func f) #[] us.toArray) (hf : okCall P f = true) (hv : xs.map (ev n env) ++ us = vs) (w : World) :
    (execOp (ev n env) ⟨d, .call ⟨.value x, xs.toArray, ts⟩, ty, pos, af, gd⟩).run P w = .ok (.enter f vs.toArray) w := by
  subst hv
  unfold okCall at hf
  cases hp : P.funcs[f]? with
  | none => simp [hp] at hf
  | some fn =>
    cases hb : fn.body with
    | none => simp [hp, hb] at hf
    | some c =>
      have hn : ¬ fn.name = "runtime.NumGoroutine" := by simpa [hp, hb] using hf
      simp [execOp, resolve, hx, Deferred.ofValue, invoke, callFunc, program, Sem.run, hp, hb, hn]
end lits
end Go.Proofs.YtffkjjakceojfaaDoor
