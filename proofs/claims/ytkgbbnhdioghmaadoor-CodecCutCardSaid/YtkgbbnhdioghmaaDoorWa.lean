/- Walks, by program (wg.py) out of a spec. -/
import Derived.Test.YtkgbbnhdioghmaaDoorTy
import Derived.Test.YtkgbbnhdioghmaaDoorEngZ
import Derived.Test.YtkgbbnhdioghmaaDoorPlW
namespace Go.Proofs.YtkgbbnhdioghmaaDoor
open Go
set_option linter.unusedVariables false
set_option linter.unusedSimpArgs false


/-- An error by its number (0: none): a pointer to the number's own text. -/
@[irreducible] def eV (TE : TypeId) (ea : Nat → Addr) : Nat → Value
  | 0 => .nilIface
  | k + 1 => .iface TE (.pointer (some (ea (k + 1))))
theorem eV_one (TE : TypeId) (ea : Nat → Addr) (k : Nat) : (eV TE ea k).oneCell' = true := by cases k <;> (unfold eV; rfl)
instance {TE : TypeId} {ea : Nat → Addr} {k : Nat} : One1 (eV TE ea k) := ⟨eV_one TE ea k⟩
theorem eV_cells (TE : TypeId) (ea : Nat → Addr) (k : Nat) : (eV TE ea k).cells.toList = [eV TE ea k] := by cases k <;> (unfold eV; rfl)
theorem eV_zero (TE : TypeId) (ea : Nat → Addr) : eV TE ea 0 = .nilIface := by unfold eV; rfl

theorem run_equal_nil {P : Program} {T TE k : Nat} {ea : Nat → Addr} (ht : ifcT P T = true) (w : World) : (Op.equal T (eV TE ea k) .nilIface).run P w = .ok (decide (k = 0)) w := by
  obtain ⟨ms, hu⟩ := run_ifcT ht
  cases k with
  | zero =>
    have h : ∀ d : Nat, (Op.equalIn (d + 1) T .nilIface .nilIface).run P w = .ok true w := fun d => by simp [Op.equalIn, run_underlying hu]
    unfold eV
    simp [Op.equal, Op.maxDepth, h 9999]
  | succ k =>
    have h : ∀ d : Nat, (Op.equalIn (d + 1) T (.iface TE (.pointer (some (ea (k + 1))))) .nilIface).run P w = .ok false w := fun d => by simp [Op.equalIn, run_underlying hu]
    unfold eV
    simp [Op.equal, Op.maxDepth, h 9999]
section
variable {P : Program} {w0 : World} {F0 : Nat → Prop} {L : List Res} {n : Nat} {env : Env} {d : Option Tmp} {ty : TypeId} {pos : String} {af : Array Edge} {gd : Option (Nat × Bool)} {T T' : TypeId} {x : Operand} {TE k : Nat} {ea : Nat → Addr}
theorem r_eqnil (hx : ev n env x = eV TE ea k) (ht : ifcT P T = true) : Runs P w0 F0 L n env ⟨d, .binOp .eql T x (.const .nilIface) T', ty, pos, af, gd⟩ (.bool (decide (k = 0))) := fun w _ => by
  have h := run_equal_nil (P := P) (TE := TE) (k := k) (ea := ea) ht w
  have hg : (eqGuard .eql T x (.const .nilIface) (ev n env x) .nilIface).run P w = .ok () w := by
    rw [hx]; cases k <;> (unfold eV; simp [eqGuard])
  have hb : (binOp .eql T (ev n env x) .nilIface).run P w = .ok (.bool (decide (k = 0))) w := by
    rw [hx]; cases k <;> (unfold eV at h ⊢; simp only [binOp]; simp [h])
  simp only [execOp, Sem.run_bind]
  rw [show ev n env (.const .nilIface) = .nilIface from rfl, hg, Result.andThen_ok, hb]
  rfl
theorem r_nenil (hx : ev n env x = eV TE ea k) (ht : ifcT P T = true) : Runs P w0 F0 L n env ⟨d, .binOp .neq T x (.const .nilIface) T', ty, pos, af, gd⟩ (.bool (!decide (k = 0))) := fun w _ => by
  have h := run_equal_nil (P := P) (TE := TE) (k := k) (ea := ea) ht w
  have hg : (eqGuard .neq T x (.const .nilIface) (ev n env x) .nilIface).run P w = .ok () w := by
    rw [hx]; cases k <;> (unfold eV; simp [eqGuard])
  have hb : (binOp .neq T (ev n env x) .nilIface).run P w = .ok (.bool (!decide (k = 0))) w := by
    rw [hx]; cases k <;> (unfold eV at h ⊢; simp only [binOp]; simp [h])
  simp only [execOp, Sem.run_bind]
  rw [show ev n env (.const .nilIface) = .nilIface from rfl, hg, Result.andThen_ok, hb]
  rfl
end

/-- A writer that lies in block g. -/
def WrR (TE : TypeId) (ea : Nat → Addr) (g : Nat) (s : WS) : Res := exR fun p : Option Addr × Nat => allR [blk g 183 [eV TE ea s.err, .slice p.1 s.bs.length p.2], rowR 5 1 p.1 s.bs.length p.2 (s.bs.map B8)]
theorem wr_open {TE : TypeId} {ea : Nat → Addr} {g : Nat} {s : WS} {L : List Res} {w : World} {F : Nat → Prop} (h : stars (WrR TE ea g s :: L) w F) :
    ∃ a c, stars (blk g 183 [eV TE ea s.err, .slice a s.bs.length c] :: rowR 5 1 a s.bs.length c (s.bs.map B8) :: L) w F := by
  obtain ⟨⟨a, c⟩, h⟩ := stars_ex h
  exact ⟨a, c, stars_all h⟩
theorem wr_shut {TE : TypeId} {ea : Nat → Addr} {g m c k : Nat} {a : Option Addr} {xs : List Value} {s : WS} {L : List Res} {w : World} {F : Nat → Prop}
    (h : stars (blk g 183 [eV TE ea k, .slice a m c] :: rowR 5 1 a m c xs :: L) w F) (hk : k = s.err) (hm : m = s.bs.length) (hx : xs = s.bs.map B8) : stars (WrR TE ea g s :: L) w F := by
  subst hk; subst hm; subst hx
  exact stars_ex_mk (a, c) (stars_all_mk h)
theorem St.wr {w0 w : World} {F0 : Nat → Prop} {TE : TypeId} {ea : Nat → Addr} {g m c k : Nat} {a : Option Addr} {xs : List Value} {s : WS} {L : List Res}
    (h : St w0 F0 (blk g 183 [eV TE ea k, .slice a m c] :: rowR 5 1 a m c xs :: L) w) (hk : k = s.err) (hm : m = s.bs.length) (hx : xs = s.bs.map B8) : St w0 F0 (WrR TE ea g s :: L) w := by
  obtain ⟨F, hF, hst⟩ := h
  exact ⟨F, wr_shut hF hk hm hx, hst⟩

attribute [local irreducible] Gl Gc Gx Gs Runs Wt

set_option maxHeartbeats 400000 in
theorem fail_ok {w : World} {F : Nat → Prop} {g T k j TE : Nat} {ea : Nat → Addr} {cs : List Value} (h : stars [blk g T (eV TE ea k :: cs)] w F) :
    Calls Tryd.prog 100 #[.pointer (some ⟨g, 0, none⟩), eV TE ea j] w (Post w F (fun _ : Unit => .tuple #[]) (fun _ => [blk g T (eV TE ea (if k = 0 then j else k) :: cs)])) := by
  refine g_enter (env := [(0, .pointer (some ⟨g, 0, none⟩)), (1, eV TE ea j)]) Tryd.func100 rfl h Tryd.ntmps100 rfl rfl ?_
  refine gsr ?_
  refine gp zmv ?_
  refine gp znc ?_
  refine gp zfa ?_
  refine gp zl ?_
  refine gp (r_eqnil rfl (by kernel_rfl)) ?_
  refine gnt ?_
  refine gif rfl (fun hc8 => ?_) (fun hc8 => ?_)
  · refine gc_region ?_
    refine gp zmv ?_
    refine gp zmv ?_
    refine gp znc ?_
    refine gp zfa ?_
    refine zs1 ?_
    refine gl_nil ?_
    refine gx_ret0' rfl ?_
    rw [if_pos hc8]
    exact ze ()
  · refine gc_skip ?_
    refine gx_ret0' rfl ?_
    rw [if_neg hc8]
    exact ze ()

set_option maxHeartbeats 400000 in
theorem fixed_ok {w : World} {F : Nat → Prop} {g TE : Nat} {ea : Nat → Addr} {s : WS} {n c : Nat} {a : Option Addr} {b : List UInt8} (h : stars [WrR TE ea g s] w F) (hb : RdRow w (fun k => ¬ F k) 1 a n (b.map B8)) (hl : s.bs.length + n ≤ 1099511627776) :
    Calls Tryd.prog 101 #[.pointer (some ⟨g, 0, none⟩), .slice a n c] w (Post w F (fun _ : Unit => .tuple #[]) (fun _ => [WrR TE ea g (wFix b s)])) := by
  obtain ⟨a0, c0, h'⟩ := wr_open h
  have hn : n = b.length := by have := hb.1; simp at this; omega
  refine g_enter (env := [(0, .pointer (some ⟨g, 0, none⟩)), (1, .slice a n c)]) Tryd.func101 rfl h' Tryd.ntmps101 rfl rfl ?_
  refine gsr ?_
  refine gp zmv ?_
  refine gp znc ?_
  refine gp zfa ?_
  refine gp zfa ?_
  refine gp zl ?_
  refine gp (r_eqnil rfl (by kernel_rfl)) ?_
  refine gnt ?_
  refine gif rfl (fun hc9 => ?_) (fun hc9 => ?_)
  · refine gc_region ?_
    refine gp zmv ?_
    refine gp zmv ?_
    refine gp znc ?_
    refine gp zfa ?_
    refine gp zl ?_
    refine gp zmv ?_
    refine gl_append (wt0 rfl) rfl rfl (by repeat (first | exact Pick.here | apply Pick.there)) Ty.el_33 (fun w' hw => hw.rdOld hb) (one_B8 _) (by simp only [maxLen]; omega) (by omega) ?_
    intro a1 c1
    refine gp znc ?_
    refine gp zfa ?_
    refine zs1 ?_
    refine gl_nil ?_
    refine gx_ret0' rfl ?_
    exact fun w' hw => ⟨(), rfl, by rw [wFix, if_pos hc9]; exact St.wr (hw.sel (by repeat (first | exact Sel.nil | (apply Sel.cons; · (repeat (first | exact Pick.here | apply Pick.there)))))) rfl (by simp [hn]) (by simp)⟩
  · refine gc_skip ?_
    refine gx_ret0' rfl ?_
    exact fun w' hw => ⟨(), rfl, by rw [wFix, if_neg hc9]; exact St.wr (hw.sel (by repeat (first | exact Sel.nil | (apply Sel.cons; · (repeat (first | exact Pick.here | apply Pick.there)))))) rfl rfl rfl⟩

end Go.Proofs.YtkgbbnhdioghmaaDoor
