/- The engine, part B: the judgements over code and operations, and the rules of straight code. -/
import Derived.Test.YtffkjjakceojfaaDoorEngA
import Derived.Test.YtffkjjakceojfaaDoorEngT
namespace Go.Proofs.YtffkjjakceojfaaDoor
open Go
set_option linter.unusedVariables false
set_option linter.unusedSimpArgs false

section types
variable {P : Program} {T : TypeId} {w : World}
theorem run_sz {n : Nat} (h : szT P T = some n) : (sizeOf T).run P w = .ok n w := by
  unfold szT at h
  cases hi : P.info? T with
  | none => simp [hi] at h
  | some i => simp [hi] at h; simp [sizeOf, typeInfo, hi, h]
theorem run_rowT {b : Bool} (h : rowT P T = some b) : (isAgg T).run P w = .ok b w := by
  unfold rowT at h
  cases hu : P.underlying T with
  | none => simp [hu] at h
  | some d =>
    simp only [hu, Option.map_some, Option.some.injEq] at h
    unfold isAgg
    rw [Sem.run_bind, run_underlying hu w]
    subst h
    cases d <;> rfl
theorem run_zeroT {z : Value} (h : zeroT P T = some z) : (zeroValue T).run P w = .ok z w := by
  unfold zeroT at h
  cases hi : P.info? T with
  | none => simp [hi] at h
  | some i => simp [hi] at h; simp [zeroValue, typeInfo, hi, h]
theorem run_sliceT {e : TypeId} (h : sliceT P T = some e) : P.underlying T = some (.slice e) := by
  unfold sliceT at h
  cases hu : P.underlying T with
  | none => simp [hu] at h
  | some d => cases d <;> simp [hu] at h ⊢; exact h
theorem run_arrT {n e : Nat} (h : arrT P T = some (n, e)) : P.underlying T = some (.array n e) := by
  unfold arrT at h
  cases hu : P.underlying T with
  | none => simp [hu] at h
  | some d => cases d <;> simp [hu] at h ⊢; exact h
end types

/-! ### The judgements -/
def Gl (P : Program) (w0 : World) (F0 : Nat → Prop) (L : List Res) (ops : Array Oper) (Q : Exit → Act → World → Prop) (rest : List Oper) (n : Nat) (env : Env) : Prop :=
  ∀ w, St w0 F0 L w → wpList P ops Q rest (fr n env) w
def Gc (P : Program) (w0 : World) (F0 : Nat → Prop) (L : List Res) (c : Code) (Q : Exit → Act → World → Prop) (n : Nat) (env : Env) : Prop :=
  ∀ w, St w0 F0 L w → c.wp P Q (fr n env) w
def Gx (w0 : World) (F0 : Nat → Prop) (L : List Res) (Q : Exit → Act → World → Prop) (e : Exit) (n : Nat) (env : Env) : Prop :=
  ∀ w, St w0 F0 L w → Q e (fr n env) w
/-- The operation leaves v, and the world as it is. -/
def Runs (P : Program) (w0 : World) (F0 : Nat → Prop) (L : List Res) (n : Nat) (env : Env) (o : Oper) (v : Value) : Prop :=
  ∀ w, St w0 F0 L w → (execOp (ev n env) o).run P w = .ok (.value v) w

section code
variable {P : Program} {w0 : World} {F0 : Nat → Prop} {L : List Res} {Q Q' : Exit → Act → World → Prop} {n : Nat} {env : Env} {ops : Array Oper} {rest : List Oper}

theorem gc_seq {x y : Code} (h : Gc P w0 F0 L x (Exit.then (y.wp P Q) Q) n env) : Gc P w0 F0 L (.seq x y) Q n env := fun w hw => wp_seq (h w hw)
theorem gc_region {id : Nat} {l : List Oper} (h : Gl P w0 F0 L l.toArray Q l n env) : Gc P w0 F0 L (.region id l.toArray false) Q n env := fun w hw => wp_region_lit (h w hw)
theorem gc_cond {c : Operand} {x y : Code} {b : Bool} (hc : ev n env c = .bool b) (ht : b = true → Gc P w0 F0 L x Q n env) (hf : b = false → Gc P w0 F0 L y Q n env) : Gc P w0 F0 L (.cond c x y) Q n env :=
  fun w hw => wp_cond_split (by rw [fr_eval]; exact hc) (fun h => ht h w hw) (fun h => hf h w hw)
theorem gc_block {id : Nat} {c : Code} (h : Gc P w0 F0 L c (Exit.inBlock id Q) n env) : Gc P w0 F0 L (.block id c) Q n env := fun w hw => wp_block (h w hw)
theorem gc_skip (h : Gx w0 F0 L Q .normal n env) : Gc P w0 F0 L .skip Q n env := fun w hw => wp_skip (h w hw)
theorem gc_exit {id : Nat} (h : Gx w0 F0 L Q (.exit id) n env) : Gc P w0 F0 L (.exit id) Q n env := fun w hw => wp_exit (h w hw)
theorem gc_ret (h : Gx w0 F0 L Q .ret n env) : Gc P w0 F0 L .ret Q n env := fun w hw => wp_ret (h w hw)
theorem gl_nil (h : Gx w0 F0 L Q .normal n env) : Gl P w0 F0 L ops Q [] n env := fun w hw => wpList_nil (h w hw)
theorem gx_then {y : Code} (h : Gc P w0 F0 L y Q n env) : Gx w0 F0 L (Exit.then (y.wp P Q) Q') .normal n env := h
theorem gx_then_exit {K : Act → World → Prop} {id : Nat} (h : Gx w0 F0 L Q (.exit id) n env) : Gx w0 F0 L (Exit.then K Q) (.exit id) n env := h
theorem gx_then_ret {K : Act → World → Prop} (h : Gx w0 F0 L Q .ret n env) : Gx w0 F0 L (Exit.then K Q) .ret n env := h
theorem gx_block_ret {id : Nat} (h : Gx w0 F0 L Q .ret n env) : Gx w0 F0 L (Exit.inBlock id Q) .ret n env := h
theorem gx_block_normal {id : Nat} (h : Gx w0 F0 L Q .normal n env) : Gx w0 F0 L (Exit.inBlock id Q) .normal n env := h
theorem gx_block_hit {id : Nat} (h : Gx w0 F0 L Q .normal n env) : Gx w0 F0 L (Exit.inBlock id Q) (.exit id) n env := fun w hw => by
  simp only [Exit.inBlock, if_true]; exact h w hw
theorem gx_block_miss {id id' : Nat} (hne : Nat.beq id' id = false) (h : Gx w0 F0 L Q (.exit id') n env) : Gx w0 F0 L (Exit.inBlock id Q) (.exit id') n env := fun w hw => by
  have : ¬ id' = id := fun e => by subst e; simp at hne
  simp only [Exit.inBlock, if_neg this]; exact h w hw

theorem g_enter {f : FuncId} {fn : Func} {c : Code} {args : Array Value} {w : World} {F : Nat → Prop} {R : Ending → World → Prop} (hf : P.funcs[f]? = some fn) (hb : fn.body = some c)
    (hs : stars L w F) (hnt : fn.ntmps = n) (hn : Nat.ble args.size n = true) (henv : enumE 0 args.toList = env) (h : Gc P w F L c (bodyPost P fn R) n env) : Calls P f args w R :=
  calls_of_wp hf hb (by subst hnt; subst henv; rw [fr_init _ _ (by exact Nat.le_of_ble_eq_true hn)]; exact h w (St.init hs))

theorem gx_end {fn : Func} {R : Ending → World → Prop} {v : Value} (h : ∀ w, St w0 F0 L w → (results fn (fr n env).tmps).run P w = .ok v w)
    (hR : ∀ w, St w0 F0 L w → R (.returned v) w) : Gx w0 F0 L (bodyPost P fn R) .ret n env := fun w hw => ⟨rfl, v, h w hw, hR w hw⟩
theorem gx_end' {fn : Func} {R : Ending → World → Prop} {v : Value} (h : ∀ w, St w0 F0 L w → (results fn (fr n env).tmps).run P w = .ok v w)
    (hR : ∀ w, St w0 F0 L w → R (.returned v) w) : Gx w0 F0 L (bodyPost P fn R) .normal n env := fun w hw => ⟨rfl, v, h w hw, hR w hw⟩
theorem gx_ret0 {fn : Func} {R : Ending → World → Prop} (hr : fn.results = #[]) (hR : ∀ w, St w0 F0 L w → R (.returned (.tuple #[])) w) : Gx w0 F0 L (bodyPost P fn R) .ret n env :=
  gx_end (fun w _ => results_none hr _ _ _) hR
theorem gx_ret0' {fn : Func} {R : Ending → World → Prop} (hr : fn.results = #[]) (hR : ∀ w, St w0 F0 L w → R (.returned (.tuple #[])) w) : Gx w0 F0 L (bodyPost P fn R) .normal n env :=
  gx_end' (fun w _ => results_none hr _ _ _) hR
theorem fr_tmp {t : Nat} {v : Value} (hv : ev n env (.tmp t) = v) : (fr n env).tmps.getD t undef = v := by rw [← hv, ← fr_eval]; rfl
theorem fr_tmp' {t : Nat} {v : Value} (hv : ev n env (.tmp t) = v) : ((fr n env).tmps[t]?).getD undef = v := by
  have := fr_tmp hv
  rwa [Array.getD_eq_getD_getElem?] at this
theorem gx_ret1 {fn : Func} {R : Ending → World → Prop} {t : Tmp} {v : Value} (hr : fn.results = #[.tmp t]) (hv : ev n env (.tmp t) = v) (hR : ∀ w, St w0 F0 L w → R (.returned v) w) : Gx w0 F0 L (bodyPost P fn R) .ret n env :=
  gx_end (fun w _ => by rw [results_tmp hr, fr_tmp hv]) hR
theorem gx_ret2 {fn : Func} {R : Ending → World → Prop} {t u : Tmp} {v x : Value} (hr : fn.results = #[.tmp t, .tmp u]) (hv : ev n env (.tmp t) = v) (hx : ev n env (.tmp u) = x)
    (hR : ∀ w, St w0 F0 L w → R (.returned (.tuple #[v, x])) w) : Gx w0 F0 L (bodyPost P fn R) .ret n env :=
  gx_end (fun w _ => by rw [results_tmp2 hr, fr_tmp hv, fr_tmp hx]) hR
/-- A result that lies in a variable of its own. -/
theorem gx_retc {fn : Func} {R : Ending → World → Prop} {t : Tmp} {T : TypeId} {a : Addr} {v : Value} (hr : fn.results = #[.cell t T]) (ht : ev n env (.tmp t) = .pointer (some a))
    (hl : ∀ w, St w0 F0 L w → (loadVar T a).run P w = .ok v w) (hR : ∀ w, St w0 F0 L w → R (.returned v) w) : Gx w0 F0 L (bodyPost P fn R) .ret n env :=
  gx_end (fun w hw => by simp [results, hr, fr_tmp' ht, asAddr, hl w hw]) hR
theorem gx_retct {fn : Func} {R : Ending → World → Prop} {t u : Tmp} {T : TypeId} {a : Addr} {v x : Value} (hr : fn.results = #[.cell t T, .tmp u]) (ht : ev n env (.tmp t) = .pointer (some a)) (hx : ev n env (.tmp u) = x)
    (hl : ∀ w, St w0 F0 L w → (loadVar T a).run P w = .ok v w) (hR : ∀ w, St w0 F0 L w → R (.returned (.tuple #[v, x])) w) : Gx w0 F0 L (bodyPost P fn R) .ret n env :=
  gx_end (fun w hw => by simp [results, hr, fr_tmp' ht, fr_tmp' hx, asAddr, hl w hw]) hR
theorem gx_rettc {fn : Func} {R : Ending → World → Prop} {t u : Tmp} {T : TypeId} {a : Addr} {v x : Value} (hr : fn.results = #[.tmp u, .cell t T]) (hx : ev n env (.tmp u) = x) (ht : ev n env (.tmp t) = .pointer (some a))
    (hl : ∀ w, St w0 F0 L w → (loadVar T a).run P w = .ok v w) (hR : ∀ w, St w0 F0 L w → R (.returned (.tuple #[x, v])) w) : Gx w0 F0 L (bodyPost P fn R) .ret n env :=
  gx_end (fun w hw => by simp [results, hr, fr_tmp' ht, fr_tmp' hx, asAddr, hl w hw]) hR
theorem gx_retcc {fn : Func} {R : Ending → World → Prop} {t u : Tmp} {T U : TypeId} {a b : Addr} {v x : Value} (hr : fn.results = #[.cell t T, .cell u U]) (ht : ev n env (.tmp t) = .pointer (some a)) (hx : ev n env (.tmp u) = .pointer (some b))
    (hl : ∀ w, St w0 F0 L w → (loadVar T a).run P w = .ok v w) (hl2 : ∀ w, St w0 F0 L w → (loadVar U b).run P w = .ok x w) (hR : ∀ w, St w0 F0 L w → R (.returned (.tuple #[v, x])) w) : Gx w0 F0 L (bodyPost P fn R) .ret n env :=
  gx_end (fun w hw => by simp [results, hr, fr_tmp' ht, fr_tmp' hx, asAddr, hl w hw, hl2 w hw]) hR

/-! ### One operation -/
/-- The operation is carried out (its guard, if it has one, says so). -/
def Wt (ops : Array Oper) (n : Nat) (env : Env) (o : Oper) (b : Bool) : Prop := Region.wanted o (yielded ops (fr n env).tmps) = b
theorem wt0 {o : Oper} (h : o.guard = none) : Wt ops n env o true := by simp [Wt, Region.wanted, h]
theorem fr_get? {t : Nat} {v : Value} (ht : Nat.blt t n = true) (hv : Env.get env t = v) : (fr n env).tmps[t]? = some v := by
  rw [Nat.blt_eq] at ht
  simp [fr, Array.getElem?_ofFn, ht, hv]
theorem wtg {o : Oper} {j d : Nat} {b c : Bool} (h : o.guard = some (j, b)) (hd : (ops[j]?).bind (·.dst) = some d) (ht : Nat.blt d n = true) (hv : Env.get env d = .bool c) : Wt ops n env o (c == b) := by
  simp [Wt, Region.wanted, h, yielded, hd, fr_get? ht hv]

theorem gl_pure0 {o : Oper} {v : Value} (hw : Wt ops n env o true) (h : Runs P w0 F0 L n env o v) (k : Gl P w0 F0 L ops Q rest n (pu o.dst v env)) : Gl P w0 F0 L ops Q (o :: rest) n env := by
  intro w hs
  unfold wpList
  rw [if_pos (show Region.wanted o _ = true from hw)]
  refine .inl ?_
  unfold Oper.wp
  rw [fr_eval, h w hs, Oper.upon_value, fr_put]
  exact k w hs
theorem gl_pure {d : Tmp} {op : Op} {ty : TypeId} {pos : String} {af : Array Edge} {gd : Option (Nat × Bool)} {v : Value} (hw : Wt ops n env ⟨some d, op, ty, pos, af, gd⟩ true) (h : Runs P w0 F0 L n env ⟨some d, op, ty, pos, af, gd⟩ v)
    (k : Gl P w0 F0 L ops Q rest n ((d, v) :: env)) : Gl P w0 F0 L ops Q (⟨some d, op, ty, pos, af, gd⟩ :: rest) n env := gl_pure0 hw h k
theorem gl_passD {d : Tmp} {op : Op} {ty : TypeId} {pos : String} {af : Array Edge} {gd : Option (Nat × Bool)} (hw : Wt ops n env ⟨some d, op, ty, pos, af, gd⟩ false)
    (k : Gl P w0 F0 L ops Q rest n ((d, undef) :: env)) : Gl P w0 F0 L ops Q (⟨some d, op, ty, pos, af, gd⟩ :: rest) n env := by
  intro w hs
  unfold wpList
  rw [if_neg (by rw [show Region.wanted _ _ = false from hw]; simp), fr_put]
  exact k w hs
theorem gl_pass {o : Oper} (hw : Wt ops n env o false) (k : Gl P w0 F0 L ops Q rest n (pu o.dst undef env)) : Gl P w0 F0 L ops Q (o :: rest) n env := by
  intro w hs
  unfold wpList
  rw [if_neg (by rw [show Region.wanted o _ = false from hw]; simp), fr_put]
  exact k w hs
/-- An operation that leaves v and turns the world. -/
theorem gl_eff {o : Oper} {L' : List Res} {v : Value} (hw : Wt ops n env o true) (h : ∀ w, St w0 F0 L w → ∃ w', (execOp (ev n env) o).run P w = .ok (.value v) w' ∧ St w0 F0 L' w')
    (k : Gl P w0 F0 L' ops Q rest n (pu o.dst v env)) : Gl P w0 F0 L ops Q (o :: rest) n env := by
  intro w hs
  obtain ⟨w', hr, hs'⟩ := h w hs
  unfold wpList
  rw [if_pos (show Region.wanted o _ = true from hw)]
  refine .inl ?_
  unfold Oper.wp
  rw [fr_eval, hr, Oper.upon_value, fr_put]
  exact k w' hs'
/-- The same, where what it leaves is known of but not named. -/
theorem gl_effx {o : Oper} {α : Type} {L' : α → List Res} {v : α → Value} (hw : Wt ops n env o true) (h : ∀ w, St w0 F0 L w → ∃ x w', (execOp (ev n env) o).run P w = .ok (.value (v x)) w' ∧ St w0 F0 (L' x) w')
    (k : ∀ x, Gl P w0 F0 (L' x) ops Q rest n (pu o.dst (v x) env)) : Gl P w0 F0 L ops Q (o :: rest) n env := by
  intro w hs
  obtain ⟨x, w', hr, hs'⟩ := h w hs
  unfold wpList
  rw [if_pos (show Region.wanted o _ = true from hw)]
  refine .inl ?_
  unfold Oper.wp
  rw [fr_eval, hr, Oper.upon_value, fr_put]
  exact k x w' hs'
theorem gl_skip {o : Oper} {L' : List Res} (hw : Wt ops n env o true) (h : ∀ w, St w0 F0 L w → ∃ w', (execOp (ev n env) o).run P w = .ok .skip w' ∧ St w0 F0 L' w')
    (k : Gl P w0 F0 L' ops Q rest n (pu o.dst undef env)) : Gl P w0 F0 L ops Q (o :: rest) n env := by
  intro w hs
  obtain ⟨w', hr, hs'⟩ := h w hs
  unfold wpList
  rw [if_pos (show Region.wanted o _ = true from hw)]
  refine .inl ?_
  unfold Oper.wp
  rw [fr_eval, hr, Oper.upon_skip, fr_put]
  exact k w' hs'
/-- A call: the callee owns M of L. -/
def Post {α : Type} (w : World) (F : Nat → Prop) (V : α → Value) (N : α → List Res) : Ending → World → Prop := fun e w' => ∃ x, e = .returned (V x) ∧ St w F (N x) w'
theorem gl_call0 {o : Oper} {L' M : List Res} {α : Type} {V : α → Value} {N : α → List Res} {f : FuncId} {args : Array Value} (hw : Wt ops n env o true)
    (he : ∀ w, (execOp (ev n env) o).run P w = .ok (.enter f args) w) (hsel : Sel L M L')
    (hc : ∀ w F1 F2, stars M w F1 → stars L' w F2 → (∀ k, F1 k → ¬ F2 k) → Stp w0 F0 w (fun k => F1 k ∨ F2 k) → Calls P f args w (Post w F1 V N))
    (k : ∀ x, Gl P w0 F0 (N x ++ L') ops Q rest n (pu o.dst (V x) env)) : Gl P w0 F0 L ops Q (o :: rest) n env := by
  intro w hs
  obtain ⟨F, hF, hst⟩ := hs
  obtain ⟨F1, F2, h1, h2, hE, hd⟩ := hsel.split hF
  have hst' : Stp w0 F0 w (fun k => F1 k ∨ F2 k) := by rw [← fp_eq hE]; exact hst
  unfold wpList
  rw [if_pos (show Region.wanted o _ = true from hw)]
  refine .inl ?_
  unfold Oper.wp
  rw [fr_eval, he w, Oper.upon_enter]
  refine (hc w F1 F2 h1 h2 hd hst').mono ?_
  rintro e w' ⟨x, rfl, hx⟩
  show wpList P ops Q rest ((fr n env).put o.dst (V x)) w'
  rw [fr_put]
  exact k x w' (St.call hst h2 hE hd hx)

theorem gl_call {d : Tmp} {op : Op} {ty : TypeId} {pos : String} {af : Array Edge} {gd : Option (Nat × Bool)} {L' M : List Res} {α : Type} {V : α → Value} {N : α → List Res} {f : FuncId} {args : Array Value} (hw : Wt ops n env ⟨some d, op, ty, pos, af, gd⟩ true)
    (he : ∀ w, (execOp (ev n env) ⟨some d, op, ty, pos, af, gd⟩).run P w = .ok (.enter f args) w) (hsel : Sel L M L')
    (hc : ∀ w F1 F2, stars M w F1 → stars L' w F2 → (∀ k, F1 k → ¬ F2 k) → Stp w0 F0 w (fun k => F1 k ∨ F2 k) → Calls P f args w (Post w F1 V N))
    (k : ∀ x, Gl P w0 F0 (N x ++ L') ops Q rest n ((d, V x) :: env)) : Gl P w0 F0 L ops Q (⟨some d, op, ty, pos, af, gd⟩ :: rest) n env := gl_call0 hw he hsel hc k

/-! ### Facts and resources between the operations -/
theorem gl_conv {L' M N : List Res} (hs : Sel L M L') (hc : ∀ w F, stars M w F → stars N w F) (k : Gl P w0 F0 (N ++ L') ops Q rest n env) : Gl P w0 F0 L ops Q rest n env := fun w hw => k w (hw.conv hs hc)
theorem gl_pureR {p : Prop} (k : p → Gl P w0 F0 L ops Q rest n env) : Gl P w0 F0 (pureR p :: L) ops Q rest n env := fun w ⟨F, hF, hst⟩ => k (stars_pure hF).1 w ⟨F, (stars_pure hF).2, hst⟩
theorem gl_exR {α : Type} {f : α → Res} (k : ∀ x, Gl P w0 F0 (f x :: L) ops Q rest n env) : Gl P w0 F0 (exR f :: L) ops Q rest n env := fun w ⟨F, hF, hst⟩ => by
  obtain ⟨x, hx⟩ := stars_ex hF
  exact k x w ⟨F, hx, hst⟩
theorem gl_allR {M : List Res} (k : Gl P w0 F0 (M ++ L) ops Q rest n env) : Gl P w0 F0 (allR M :: L) ops Q rest n env := fun w ⟨F, hF, hst⟩ => k w ⟨F, stars_all hF, hst⟩
theorem gl_sel {L' M : List Res} (hs : Sel L M L') (k : Gl P w0 F0 M ops Q rest n env) : Gl P w0 F0 L ops Q rest n env := fun w hw => k w (hw.sel hs)
/-- A fact that the state shows. -/
theorem gl_fact {p : Prop} (h : ∀ w, St w0 F0 L w → p) (k : p → Gl P w0 F0 L ops Q rest n env) : Gl P w0 F0 L ops Q rest n env := fun w hw => k (h w hw) w hw
theorem gc_conv {c : Code} {L' M N : List Res} (hs : Sel L M L') (hc : ∀ w F, stars M w F → stars N w F) (k : Gc P w0 F0 (N ++ L') c Q n env) : Gc P w0 F0 L c Q n env := fun w hw => k w (hw.conv hs hc)
theorem gc_pureR {c : Code} {p : Prop} (k : p → Gc P w0 F0 L c Q n env) : Gc P w0 F0 (pureR p :: L) c Q n env := fun w ⟨F, hF, hst⟩ => k (stars_pure hF).1 w ⟨F, (stars_pure hF).2, hst⟩
theorem gc_exR {c : Code} {α : Type} {f : α → Res} (k : ∀ x, Gc P w0 F0 (f x :: L) c Q n env) : Gc P w0 F0 (exR f :: L) c Q n env := fun w ⟨F, hF, hst⟩ => by
  obtain ⟨x, hx⟩ := stars_ex hF
  exact k x w ⟨F, hx, hst⟩
theorem gc_allR {c : Code} {M : List Res} (k : Gc P w0 F0 (M ++ L) c Q n env) : Gc P w0 F0 (allR M :: L) c Q n env := fun w ⟨F, hF, hst⟩ => k w ⟨F, stars_all hF, hst⟩
theorem gc_sel {c : Code} {L' M : List Res} (hs : Sel L M L') (k : Gc P w0 F0 M c Q n env) : Gc P w0 F0 L c Q n env := fun w hw => k w (hw.sel hs)
theorem gc_fact {c : Code} {p : Prop} (h : ∀ w, St w0 F0 L w → p) (k : p → Gc P w0 F0 L c Q n env) : Gc P w0 F0 L c Q n env := fun w hw => k (h w hw) w hw
end code
end Go.Proofs.YtffkjjakceojfaaDoor
