/- Walks, by program (wg.py) out of a spec. -/
import Derived.Test.YtffkjjakceojfaaDoorWa
import Derived.Test.YtffkjjakceojfaaDoorSrt
import Derived.Test.YtffkjjakceojfaaDoorEngO
import Derived.Test.YtffkjjakceojfaaDoorPlD
namespace Go.Proofs.YtffkjjakceojfaaDoor
open Go
set_option linter.unusedVariables false
set_option linter.unusedSimpArgs false


instance : KeyT Tryd.prog 3 (Value.int .i64) := keyT_int Ty.un_3
/-- A disk that lies in block g. -/
def DiskR (g : Nat) (d : DS) : Res := exR fun p : Nat × Nat => allR [blk g 60 [.slice (some ⟨p.1, 0, none⟩) d.n d.n, .map (some p.2), .bool d.off, .bool d.armed, .int .i64 d.left], blk p.1 37 (secs d.n d.ss), mapR p.2 (encK (Value.int .i64) (encW d.ws))]
section
variable {w0 w : World} {F F0 : Nat → Prop} {g : Nat} {d : DS} {L : List Res} {Q : Exit → Act → World → Prop} {n : Nat} {env : Env} {ops : Array Oper} {rest : List Oper}
theorem dk_open (h : stars (DiskR g d :: L) w F) : ∃ b m, stars (blk g 60 [.slice (some ⟨b, 0, none⟩) d.n d.n, .map (some m), .bool d.off, .bool d.armed, .int .i64 d.left] :: blk b 37 (secs d.n d.ss) :: mapR m (encK (Value.int .i64) (encW d.ws)) :: L) w F := by
  obtain ⟨⟨a, c⟩, h⟩ := stars_ex h
  exact ⟨a, c, stars_all h⟩
theorem St.dk {b m n : Nat} {off armed : Bool} {left : Int} {cs : List Value} {l : List (Value × Value)} (h : St w0 F0 (blk g 60 [.slice (some ⟨b, 0, none⟩) n n, .map (some m), .bool off, .bool armed, .int .i64 left] :: blk b 37 cs :: mapR m l :: L) w)
    (h1 : n = d.n) (h2 : off = d.off) (h3 : armed = d.armed) (h4 : left = d.left) (h5 : cs = secs d.n d.ss) (h6 : l = encK (Value.int .i64) (encW d.ws)) : St w0 F0 (DiskR g d :: L) w := by
  subst h1; subst h2; subst h3; subst h4; subst h5; subst h6
  obtain ⟨F, hF, hst⟩ := h
  exact ⟨F, stars_ex_mk (b, m) (stars_all_mk hF), hst⟩
theorem gc_dk {c : Code} {L' : List Res} (hp : Pick L (DiskR g d) L') (k : ∀ b m, Gc Tryd.prog w0 F0 (blk g 60 [.slice (some ⟨b, 0, none⟩) d.n d.n, .map (some m), .bool d.off, .bool d.armed, .int .i64 d.left] :: blk b 37 (secs d.n d.ss) :: mapR m (encK (Value.int .i64) (encW d.ws)) :: L') c Q n env) : Gc Tryd.prog w0 F0 L c Q n env := fun w hw => by
  obtain ⟨F, hF, hst⟩ := hw.pick hp
  obtain ⟨b, m, h⟩ := dk_open hF
  exact k b m w ⟨F, h, hst⟩
theorem gl_dk {L' : List Res} (hp : Pick L (DiskR g d) L') (k : ∀ b m, Gl Tryd.prog w0 F0 (blk g 60 [.slice (some ⟨b, 0, none⟩) d.n d.n, .map (some m), .bool d.off, .bool d.armed, .int .i64 d.left] :: blk b 37 (secs d.n d.ss) :: mapR m (encK (Value.int .i64) (encW d.ws)) :: L') ops Q rest n env) : Gl Tryd.prog w0 F0 L ops Q rest n env := fun w hw => by
  obtain ⟨F, hF, hst⟩ := hw.pick hp
  obtain ⟨b, m, h⟩ := dk_open hF
  exact k b m w ⟨F, h, hst⟩
variable {dd : Option Tmp} {ty : TypeId} {pos : String} {af : Array Edge} {gd : Option (Nat × Bool)}
theorem r_lookW {x y : Operand} {m : Nat} {ws : List (Int × Sec)} {L' : List Res} {i : Int} (hx : ev n env x = .map (some m)) (hy : ev n env y = .int .i64 i) (hp : Pick L (mapR m (encK (Value.int .i64) (encW ws))) L') :
    Runs Tryd.prog w0 F0 L n env ⟨dd, .lookup 58 x y true, ty, pos, af, gd⟩ (.tuple #[scV ((lookW i ws).getD sec0), .bool (lookW i ws).isSome]) :=
  r_val (r_look (K := Value.int .i64) (z := scV sec0) (key := i) hx hy Ty.un_58 (by kernel_rfl) hp) (by rw [encW_get]; cases lookW i ws <;> rfl)
theorem r_lookW1 {x y : Operand} {m : Nat} {ws : List (Int × Sec)} {L' : List Res} {i : Int} (hx : ev n env x = .map (some m)) (hy : ev n env y = .int .i64 i) (hp : Pick L (mapR m (encK (Value.int .i64) (encW ws))) L') :
    Runs Tryd.prog w0 F0 L n env ⟨dd, .lookup 58 x y false, ty, pos, af, gd⟩ (scV ((lookW i ws).getD sec0)) :=
  r_val (r_look (K := Value.int .i64) (z := scV sec0) (key := i) hx hy Ty.un_58 (by kernel_rfl) hp) (by rw [encW_get]; cases lookW i ws <;> rfl)
end

attribute [local irreducible] Gl Gc Gx Gs Runs Wt

set_option maxHeartbeats 400000 in
theorem new_ok {w : World} {F : Nat → Prop} {n : Nat} {ea : Nat → Addr} (h : stars [] w F) (h1 : 1 ≤ n) (h2 : n ≤ 4096) :
    Calls Tryd.prog 10 #[.int .i64 (n : Int)] w (Post w F (fun g : Nat => .tuple #[.pointer (some ⟨g, 0, none⟩), eV 139 ea 0]) (fun g => [DiskR g ⟨n, fun _ => sec0, [], false, false, 0⟩])) := by
  refine g_enter (env := [(0, .int .i64 (n : Int))]) Tryd.func10 rfl h Tryd.ntmps10 rfl rfl ?_
  refine gsr ?_
  refine gp zas ?_
  refine gp zas ?_
  refine gnt ?_
  refine gc_seq ?_
  refine gsr ?_
  refine gp zmv ?_
  refine gp (r_bool (c := false) zlt (decide_eq_false (by omega))) ?_
  refine gp zmv ?_
  refine gq zmv ?_
  refine gq (r_bool (c := false) zgt (decide_eq_false (by omega))) ?_
  refine gp zpk ?_
  refine gnt ?_
  refine gc_condF rfl rfl ?_
  refine gc_skip ?_
  refine gx_then ?_
  refine gsr ?_
  refine gp zmv ?_
  refine gl_mkN (m := n) (z := .agg (List.replicate 64 (Value.int .u8 0)).toArray) (wt0 rfl) ELT.h (by kernel_rfl) rfl rfl (by omega) (by omega) (by omega) (fun b12 => ?_)
  refine gl_eqc (cs' := secs n fun _ => sec0) (by repeat (first | exact Pick.here | apply Pick.there)) (madeCells_secs n) ?_
  refine gl_mkMap (wt0 rfl) (fun m13 => ?_)
  refine gp zbu ?_
  refine zbN fun b15 => ?_
  refine gp zas ?_
  refine gp zas ?_
  refine gnt ?_
  refine gc_ret ?_
  refine gx_ret2 rfl (by conv => lhs; whnf) (by conv => lhs; whnf) ?_
  exact fun w' hw => ⟨b15, by rw [eV_zero], St.dk (n := n) (b := b12) (m := m13) (hw.sel (by repeat (first | exact Sel.nil | (apply Sel.cons; · (repeat (first | exact Pick.here | apply Pick.there)))))) rfl rfl rfl rfl rfl rfl⟩

set_option maxHeartbeats 400000 in
theorem new_bad {w : World} {F : Nat → Prop} {n : Int} (h : stars [] w F) {ea : Nat → Addr} {es : List Nat} [Has es 1] [Has es 6] (hE : GErr es w (fun k => ¬ F k) 139 ea) (hn : n < 1 ∨ 4096 < n) :
    Calls Tryd.prog 10 #[.int .i64 n] w (Post w F (fun _ : Unit => .tuple #[.pointer none, eV 139 ea 1]) (fun _ => [])) := by
  refine g_enter (env := [(0, .int .i64 n)]) Tryd.func10 rfl h Tryd.ntmps10 rfl rfl ?_
  refine gsr ?_
  refine gp zas ?_
  refine gp zas ?_
  refine gnt ?_
  refine gc_seq ?_
  refine gc_seq ?_
  by_cases hn1 : n < 1
  · refine gc_region ?_
    refine gp zmv ?_
    refine gp (r_bool (c := true) zlt (decide_eq_true hn1)) ?_
    refine gp zmv ?_
    refine gn ?_
    refine gn ?_
    refine gp zpk ?_
    refine gnt ?_
    refine gc_condT rfl rfl ?_
    refine gc_seq ?_
    refine gc_regionS (by kernel_rfl) (by kernel_rfl) ?_
    refine sp (r_ld1o rfl Ty.row_26 (hE.c 1 Has.h) (hE.n 1 Has.h)) ?_
    refine sp zas ?_
    refine sp zas ?_
    refine gs_nil ?_
    refine gx_then ?_
    refine gc_ret ?_
    refine gx_then_ret ?_
    refine gx_ret2 rfl (by conv => lhs; whnf) (by conv => lhs; whnf) ?_
    exact ze ()
  · refine gc_region ?_
    refine gp zmv ?_
    refine gp (r_bool (c := false) zlt (decide_eq_false hn1)) ?_
    refine gp zmv ?_
    refine gq zmv ?_
    refine gq (r_bool (c := true) zgt (decide_eq_true (by omega))) ?_
    refine gp zpk ?_
    refine gnt ?_
    refine gc_condT rfl rfl ?_
    refine gc_seq ?_
    refine gc_regionS (by kernel_rfl) (by kernel_rfl) ?_
    refine sp (r_ld1o rfl Ty.row_26 (hE.c 1 Has.h) (hE.n 1 Has.h)) ?_
    refine sp zas ?_
    refine sp zas ?_
    refine gs_nil ?_
    refine gx_then ?_
    refine gc_ret ?_
    refine gx_then_ret ?_
    refine gx_ret2 rfl (by conv => lhs; whnf) (by conv => lhs; whnf) ?_
    exact ze ()

set_option maxHeartbeats 400000 in
theorem has_ok {w : World} {F : Nat → Prop} {g : Nat} {d : DS} (h : stars [DiskR g d] w F) {i : Int} :
    Calls Tryd.prog 29 #[.pointer (some ⟨g, 0, none⟩), .int .i64 i] w (Post w F (fun _ : Unit => .bool (d.has i)) (fun _ => [DiskR g d])) := by
  obtain ⟨b, m, h⟩ := dk_open h
  refine g_enter (env := [(0, .pointer (some ⟨g, 0, none⟩)), (1, .int .i64 i)]) Tryd.func29 rfl h Tryd.ntmps29 rfl rfl ?_
  refine gsr ?_
  refine gp zas ?_
  refine gnt ?_
  refine gc_seq ?_
  by_cases hi : 0 ≤ i
  · refine gc_region ?_
    refine gp zmv ?_
    refine gp (r_bool (c := true) zge (decide_eq_true hi)) ?_
    refine gp zmv ?_
    refine gq zmv ?_
    refine gq zmv ?_
    refine gq znc ?_
    refine gq zfa ?_
    refine gq zl ?_
    refine gq zln ?_
    refine gq zlt ?_
    refine gp zpk ?_
    refine gp zas ?_
    refine gnt ?_
    refine gc_ret ?_
    refine gx_ret1 rfl (by conv => lhs; whnf) ?_
    exact fun w' hw => ⟨(), by rw [DS.has, decide_eq_true hi, Bool.true_and], St.dk (hw.sel (by repeat (first | exact Sel.nil | (apply Sel.cons; · (repeat (first | exact Pick.here | apply Pick.there)))))) rfl rfl rfl rfl rfl rfl⟩
  · refine gc_region ?_
    refine gp zmv ?_
    refine gp (r_bool (c := false) zge (decide_eq_false hi)) ?_
    refine gp zmv ?_
    refine gn ?_
    refine gn ?_
    refine gn ?_
    refine gn ?_
    refine gn ?_
    refine gn ?_
    refine gn ?_
    refine gp zpk ?_
    refine gp zas ?_
    refine gnt ?_
    refine gc_ret ?_
    refine gx_ret1 rfl (by conv => lhs; whnf) ?_
    exact fun w' hw => ⟨(), by rw [DS.has, decide_eq_false hi, Bool.false_and], St.dk (hw.sel (by repeat (first | exact Sel.nil | (apply Sel.cons; · (repeat (first | exact Pick.here | apply Pick.there)))))) rfl rfl rfl rfl rfl rfl⟩

set_option maxHeartbeats 400000 in
theorem operate_ok {w : World} {F : Nat → Prop} {g : Nat} {d : DS} (h : stars [DiskR g d] w F) (hk : DOk d) {ea : Nat → Addr} {es : List Nat} [Has es 1] [Has es 6] (hE : GErr es w (fun k => ¬ F k) 139 ea) :
    Calls Tryd.prog 30 #[.pointer (some ⟨g, 0, none⟩)] w (Post w F (fun _ : Unit => eV 139 ea (if (oper d).off then 6 else 0)) (fun _ => [DiskR g (oper d)])) := by
  obtain ⟨b, m, h⟩ := dk_open h
  refine g_enter (env := [(0, .pointer (some ⟨g, 0, none⟩))]) Tryd.func30 rfl h Tryd.ntmps30 rfl rfl ?_
  refine gsr ?_
  refine gp zas ?_
  refine gnt ?_
  refine gc_join (α := Unit) (fun z => [blk g 60 [.slice (some ⟨b, 0, none⟩) d.n d.n, .map (some m), .bool (oper d).off, .bool (oper d).armed, .int .i64 (oper d).left], blk b 37 (secs d.n d.ss), mapR m (encK (Value.int .i64) (encW d.ws))]) (fun z => []) [3, 4, 5, 6, 7, 8, 9, 10, 11, 12, 13, 14, 15, 16, 17, 18, 19, 20, 21, 22, 23, 24, 25, 26, 27, 28] ?_ ?_
  · refine gc_seq ?_
    by_cases hA : d.armed = true
    · refine gc_region ?_
      refine gp zmv ?_
      refine gp znc ?_
      refine gp zfa ?_
      refine gp (r_bool (c := true) zl hA) ?_
      refine gp zmv ?_
      refine gq zmv ?_
      refine gq znc ?_
      refine gq zfa ?_
      refine gq zl ?_
      refine gq znt ?_
      refine gp zpk ?_
      refine gnt ?_
      refine gif rfl (fun hc13 => ?_) (fun hc13 => ?_)
      · try simp only at hc13
        have ho : d.off = false := by simpa using hc13
        have hl := hk.lf hA ho
        have hrg := hk.rg
        refine gsr ?_
        refine gp zmv ?_
        refine gp zmv ?_
        refine gp znc ?_
        refine gp zfa ?_
        refine gp zl ?_
        refine gp zei ?_
        refine gp znc ?_
        refine gp zfa ?_
        refine zs1 ?_
        refine gnt ?_
        refine gc_region ?_
        refine gp zmv ?_
        refine gp znc ?_
        refine gp zfa ?_
        refine gp zl ?_
        refine gp zsb ?_
        refine gp znc ?_
        refine gp zfa ?_
        refine zs1 ?_
        refine gl_nil ?_
        refine zjn (()) ?_
        · rw [(oper_yes hA ho).1, (oper_yes hA ho).2.1, (oper_yes hA ho).2.2]
          exact zsel
      · try simp only at hc13
        have ho : d.off = true := by simpa using hc13
        refine gc_skip ?_
        refine zjn (()) ?_
        · rw [oper_no (.inr ho)]
          exact zsel
    · refine gc_region ?_
      refine gp zmv ?_
      refine gp znc ?_
      refine gp zfa ?_
      refine gp (r_bool (c := false) zl (by simpa using hA)) ?_
      refine gp zmv ?_
      refine gn ?_
      refine gn ?_
      refine gn ?_
      refine gn ?_
      refine gn ?_
      refine gp zpk ?_
      refine gnt ?_
      refine gc_condF rfl rfl ?_
      refine gc_skip ?_
      refine zjn (()) ?_
      · rw [oper_no (.inl (by simpa using hA))]
        exact zsel
  · intro z u
    refine gc_seq ?_
    refine gsr ?_
    refine gp zmv ?_
    refine gp znc ?_
    refine gp zfa ?_
    refine gp zl ?_
    refine gnt ?_
    refine gif rfl (fun hc32 => ?_) (fun hc32 => ?_)
    · refine gsr ?_
      refine gp (r_ld1o rfl Ty.row_26 (hE.c 6 Has.h) (hE.n 6 Has.h)) ?_
      refine gp zas ?_
      refine gnt ?_
      refine gc_ret ?_
      refine gx_then_ret ?_
      refine gx_ret1 rfl (by conv => lhs; whnf) ?_
      exact fun w' hw => ⟨(), by rw [if_pos hc32], St.dk (n := d.n) (hw.sel (by repeat (first | exact Sel.nil | (apply Sel.cons; · (repeat (first | exact Pick.here | apply Pick.there)))))) (oper_n d).symm rfl rfl rfl (by rw [oper_n, oper_ss]) (by rw [oper_ws])⟩
    · refine gc_skip ?_
      refine gx_then ?_
      refine gsr ?_
      refine gp zas ?_
      refine gnt ?_
      refine gc_ret ?_
      refine gx_ret1 rfl (by conv => lhs; whnf) ?_
      exact fun w' hw => ⟨(), by rw [if_neg (by simpa using hc32), eV_zero], St.dk (n := d.n) (hw.sel (by repeat (first | exact Sel.nil | (apply Sel.cons; · (repeat (first | exact Pick.here | apply Pick.there)))))) (oper_n d).symm rfl rfl rfl (by rw [oper_n, oper_ss]) (by rw [oper_ws])⟩

set_option maxHeartbeats 400000 in
theorem write_ok' {w : World} {F : Nat → Prop} {g : Nat} {d : DS} (h : stars [DiskR g d] w F) (hk : DOk d) {ea : Nat → Addr} {es : List Nat} [Has es 1] [Has es 6] (hE : GErr es w (fun k => ¬ F k) 139 ea) {i : Int} {v : Sec} :
    Calls Tryd.prog 15 #[.pointer (some ⟨g, 0, none⟩), .int .i64 i, scV v] w (Post w F (fun _ : Unit => eV 139 ea (d.wr i v).1) (fun _ => [DiskR g (d.wr i v).2])) := by
  refine g_enter (env := [(0, .pointer (some ⟨g, 0, none⟩)), (1, .int .i64 i), (2, scV v)]) Tryd.func15 rfl h Tryd.ntmps15 rfl rfl ?_
  refine gsr ?_
  refine zbN fun b5 => ?_
  refine gp zas ?_
  refine gnt ?_
  refine gc_seq ?_
  refine gsr ?_
  refine gp zmv ?_
  refine gp zmv ?_
  refine zc (fun _ => ?_) (c := fun w1 F1 F2 h1 h2 hd hst => has_ok (i := i) h1)
  refine gp znt ?_
  refine gnt ?_
  refine gif rfl (fun hc11 => ?_) (fun hc11 => ?_)
  · try simp only at hc11
    have hi : d.has i = false := hc11
    have e := wr_out (v := v) hi
    refine gsr ?_
    refine gp (r_ld1o rfl Ty.row_26 (hE.c 1 Has.h) (hE.n 1 Has.h)) ?_
    refine gp zas ?_
    refine gnt ?_
    refine gc_ret ?_
    refine gx_then_ret ?_
    refine gx_ret1 rfl (by conv => lhs; whnf) ?_
    exact fun w' hw => ⟨(), by rw [e], by rw [e]; exact hw.sel (by repeat (first | exact Sel.nil | (apply Sel.cons; · (repeat (first | exact Pick.here | apply Pick.there)))))⟩
  · try simp only at hc11
    have hi : d.has i = true := hc11
    refine gc_skip ?_
    refine gx_then ?_
    refine gc_seq ?_
    refine gsr ?_
    refine gp zmv ?_
    refine zc (fun _ => ?_) (c := fun w1 F1 F2 h1 h2 hd hst => operate_ok h1 hk (hE.mv hst.still))
    refine gp zas ?_
    refine gnt ?_
    refine gsr ?_
    refine gp zmv ?_
    refine gp (r_bool (c := (oper d).off) (r_nenil rfl (by kernel_rfl)) (by cases (oper d).off <;> rfl)) ?_
    refine gnt ?_
    refine gif rfl (fun hc16 => ?_) (fun hc16 => ?_)
    · try simp only at hc16
      have e := wr_off (v := v) hi hc16
      refine gsr ?_
      refine gp zmv ?_
      refine gp zas ?_
      refine gnt ?_
      refine gc_ret ?_
      refine gx_then_ret ?_
      refine gx_ret1 rfl (by conv => lhs; whnf) ?_
      exact fun w' hw => ⟨(), by rw [e, if_pos hc16], by rw [e]; exact hw.sel (by repeat (first | exact Sel.nil | (apply Sel.cons; · (repeat (first | exact Pick.here | apply Pick.there)))))⟩
    · try simp only at hc16
      have e := wr_on (v := v) hi hc16
      refine gc_dk (by repeat (first | exact Pick.here | apply Pick.there)) (fun b m => ?_)
      refine gc_skip ?_
      refine gx_then ?_
      refine gc_seq ?_
      refine gc_regionT 6 (by kernel_rfl) (by kernel_rfl) ?_
      refine sp zmv ?_
      refine sp znc ?_
      refine sp zfa ?_
      refine sp zl ?_
      refine sp zmv ?_
      refine sp zL ?_
      refine gs_nil ?_
      refine gl_put (K := Value.int .i64) (v := scV v) (wt0 rfl) rfl rfl rfl Ty.un_58 (by repeat (first | exact Pick.here | apply Pick.there)) ?_
      refine gnt ?_
      refine gsr ?_
      refine gp zas ?_
      refine gnt ?_
      refine gc_ret ?_
      refine gx_ret1 rfl (by conv => lhs; whnf) ?_
      exact fun w' hw => ⟨(), by rw [e, eV_zero], by rw [e]; exact St.dk (d := (oper d).write i v) (hw.sel (by repeat (first | exact Sel.nil | (apply Sel.cons; · (repeat (first | exact Pick.here | apply Pick.there)))))) rfl rfl rfl rfl rfl (by rw [encW_put]; rfl)⟩

set_option maxHeartbeats 400000 in
theorem read_ok {w : World} {F : Nat → Prop} {g : Nat} {d : DS} (h : stars [DiskR g d] w F) {ea : Nat → Addr} {es : List Nat} [Has es 1] [Has es 6] (hE : GErr es w (fun k => ¬ F k) 139 ea) {i : Int} :
    Calls Tryd.prog 31 #[.pointer (some ⟨g, 0, none⟩), .int .i64 i] w (Post w F (fun _ : Unit => .tuple #[scV (d.rd i).2, eV 139 ea (d.rd i).1]) (fun _ => [DiskR g d])) := by
  refine g_enter (env := [(0, .pointer (some ⟨g, 0, none⟩)), (1, .int .i64 i)]) Tryd.func31 rfl h Tryd.ntmps31 rfl rfl ?_
  refine gsr ?_
  refine zal fun b4 => ?_
  refine gp zas ?_
  refine gnt ?_
  refine gc_seq ?_
  refine gc_block ?_
  refine gsr ?_
  refine gp zmv ?_
  refine gp zmv ?_
  refine zc (fun _ => ?_) (c := fun w1 F1 F2 h1 h2 hd hst => has_ok (i := i) h1)
  refine gp znt ?_
  refine gp zas ?_
  refine gnt ?_
  refine gif rfl (fun hc8 => ?_) (fun hc8 => ?_)
  · try simp only at hc8
    have e := rd_out (i := i) hc8
    refine gc_seq ?_
    refine gc_regionZ 3 [] ?_
    refine yps 0 rfl zba ?_
    refine yps 1 rfl (r_ld1o rfl Ty.row_26 (hE.c 1 Has.h) (hE.n 1 Has.h)) ?_
    refine yos 2 rfl ?_
    refine zsA (new := sc (sec0)) (sc_length _) (sc_one _) ?_
    refine yxs ?_
    refine yzs rfl ?_
    refine gp zas ?_
    refine gnt ?_
    refine gc_ret ?_
    refine gx_block_ret ?_
    refine gx_then_ret ?_
    refine gx_retct rfl rfl (by conv => lhs; whnf) (ld_aggS Ty.row_37 Ty.sz_37 (by repeat (first | exact Pick.here | apply Pick.there)) (by (simp only [List.drop_succ_cons, List.drop_zero, List.take_succ_cons, List.take_zero, List.cons_append, List.nil_append, List.append_assoc, drop_dc, drop_dc', take_dc, take_dc', drop_L, drop_L', take_L, take_L', len_L, Nat.reduceLeDiff, Nat.reduceSub, Nat.reduceAdd, Nat.le_refl, List.length_cons, List.length_append, List.length_nil, dc_length, List.drop_nil, List.take_nil, List.append_nil, List.length_map, List.length_replicate]; first | done | rfl)) (by first | rfl | (simp only [List.drop_succ_cons, List.drop_zero, List.take_succ_cons, List.take_zero, List.cons_append, List.nil_append, List.append_assoc, drop_dc, drop_dc', take_dc, take_dc', drop_L, drop_L', take_L, take_L', len_L, Nat.reduceLeDiff, Nat.reduceSub, Nat.reduceAdd, Nat.le_refl, List.length_cons, List.length_append, List.length_nil, dc_length, List.drop_nil, List.take_nil, List.append_nil, List.length_map, List.length_replicate]; first | done | omega))) ?_
    exact fun w' hw => ⟨(), by rw [e]; rfl, hw.sel (by repeat (first | exact Sel.nil | (apply Sel.cons; · (repeat (first | exact Pick.here | apply Pick.there)))))⟩
  · try simp only at hc8
    have hi : d.has i = true := hc8
    obtain ⟨hi0, hi1⟩ := has_iff.1 hi
    refine gc_dk (by repeat (first | exact Pick.here | apply Pick.there)) (fun b m => ?_)
    refine gsr ?_
    refine gp zmv ?_
    refine gp znc ?_
    refine gp zfa ?_
    refine gp zl ?_
    refine gp zas ?_
    refine gnt ?_
    refine gif rfl (fun hc15 => ?_) (fun hc15 => ?_)
    · try simp only at hc15
      have e := rd_off hi hc15
      refine gc_seq ?_
      refine gc_regionZ 3 [] ?_
      refine yps 0 rfl zba ?_
      refine yps 1 rfl (r_ld1o rfl Ty.row_26 (hE.c 6 Has.h) (hE.n 6 Has.h)) ?_
      refine yos 2 rfl ?_
      refine zsA (new := sc (sec0)) (sc_length _) (sc_one _) ?_
      refine yxs ?_
      refine yzs rfl ?_
      refine gp zas ?_
      refine gnt ?_
      refine gc_ret ?_
      refine gx_block_ret ?_
      refine gx_then_ret ?_
      refine gx_retct rfl rfl (by conv => lhs; whnf) (ld_aggS Ty.row_37 Ty.sz_37 (by repeat (first | exact Pick.here | apply Pick.there)) (by (simp only [List.drop_succ_cons, List.drop_zero, List.take_succ_cons, List.take_zero, List.cons_append, List.nil_append, List.append_assoc, drop_dc, drop_dc', take_dc, take_dc', drop_L, drop_L', take_L, take_L', len_L, Nat.reduceLeDiff, Nat.reduceSub, Nat.reduceAdd, Nat.le_refl, List.length_cons, List.length_append, List.length_nil, dc_length, List.drop_nil, List.take_nil, List.append_nil, List.length_map, List.length_replicate]; first | done | rfl)) (by first | rfl | (simp only [List.drop_succ_cons, List.drop_zero, List.take_succ_cons, List.take_zero, List.cons_append, List.nil_append, List.append_assoc, drop_dc, drop_dc', take_dc, take_dc', drop_L, drop_L', take_L, take_L', len_L, Nat.reduceLeDiff, Nat.reduceSub, Nat.reduceAdd, Nat.le_refl, List.length_cons, List.length_append, List.length_nil, dc_length, List.drop_nil, List.take_nil, List.append_nil, List.length_map, List.length_replicate]; first | done | omega))) ?_
      exact fun w' hw => ⟨(), by rw [e]; rfl, St.dk (hw.sel (by repeat (first | exact Sel.nil | (apply Sel.cons; · (repeat (first | exact Pick.here | apply Pick.there)))))) rfl rfl rfl rfl rfl rfl⟩
    · refine gc_skip ?_
      refine gx_block_normal ?_
      refine gx_then ?_
      refine gc_seq ?_
      refine gsr ?_
      refine gp zmv ?_
      refine gp znc ?_
      refine gp zfa ?_
      refine gp zl ?_
      refine gp zmv ?_
      refine gp (r_lookW rfl rfl (by repeat (first | exact Pick.here | apply Pick.there))) ?_
      refine gp zmv ?_
      refine gp zex ?_
      refine gp zex ?_
      refine zal fun b6 => ?_
      refine zsA (new := sc ((lookW i d.ws).getD sec0)) (sc_length _) (sc_one _) ?_
      refine gp zas ?_
      refine gnt ?_
      refine gsr ?_
      refine gp zmv ?_
      refine gnt ?_
      refine gif rfl (fun hc31 => ?_) (fun hc31 => ?_)
      · try simp only at hc31
        have e := rd_some hi hc15 hc31
        refine gsr ?_
        refine gp zL ?_
        refine zsA (new := sc ((lookW i d.ws).getD sec0)) (sc_length _) (sc_one _) ?_
        refine gp zas ?_
        refine gnt ?_
        refine gc_ret ?_
        refine gx_then_ret ?_
        refine gx_retct rfl rfl (by conv => lhs; whnf) (ld_aggS Ty.row_37 Ty.sz_37 (by repeat (first | exact Pick.here | apply Pick.there)) (by (simp only [List.drop_succ_cons, List.drop_zero, List.take_succ_cons, List.take_zero, List.cons_append, List.nil_append, List.append_assoc, drop_dc, drop_dc', take_dc, take_dc', drop_L, drop_L', take_L, take_L', len_L, Nat.reduceLeDiff, Nat.reduceSub, Nat.reduceAdd, Nat.le_refl, List.length_cons, List.length_append, List.length_nil, dc_length, List.drop_nil, List.take_nil, List.append_nil, List.length_map, List.length_replicate]; first | done | rfl)) (by first | rfl | (simp only [List.drop_succ_cons, List.drop_zero, List.take_succ_cons, List.take_zero, List.cons_append, List.nil_append, List.append_assoc, drop_dc, drop_dc', take_dc, take_dc', drop_L, drop_L', take_L, take_L', len_L, Nat.reduceLeDiff, Nat.reduceSub, Nat.reduceAdd, Nat.le_refl, List.length_cons, List.length_append, List.length_nil, dc_length, List.drop_nil, List.take_nil, List.append_nil, List.length_map, List.length_replicate]; first | done | omega))) ?_
        exact fun w' hw => ⟨(), by rw [e, eV_zero]; rfl, St.dk (hw.sel (by repeat (first | exact Sel.nil | (apply Sel.cons; · (repeat (first | exact Pick.here | apply Pick.there)))))) rfl rfl rfl rfl rfl rfl⟩
      · try simp only at hc31
        have e := rd_none hi hc15 hc31
        refine gc_skip ?_
        refine gx_then ?_
        refine gsr ?_
        refine gp zmv ?_
        refine gp znc ?_
        refine gp zfa ?_
        refine gp zl ?_
        refine gp zmv ?_
        refine gp zia ?_
        refine gp (r_ldS (m := d.n) (f := d.ss) i.toNat (by omega)) ?_
        refine zsA (new := sc (d.ss i.toNat)) (sc_length _) (sc_one _) ?_
        refine gp zas ?_
        refine gnt ?_
        refine gc_ret ?_
        refine gx_retct rfl rfl (by conv => lhs; whnf) (ld_aggS Ty.row_37 Ty.sz_37 (by repeat (first | exact Pick.here | apply Pick.there)) (by (simp only [List.drop_succ_cons, List.drop_zero, List.take_succ_cons, List.take_zero, List.cons_append, List.nil_append, List.append_assoc, drop_dc, drop_dc', take_dc, take_dc', drop_L, drop_L', take_L, take_L', len_L, Nat.reduceLeDiff, Nat.reduceSub, Nat.reduceAdd, Nat.le_refl, List.length_cons, List.length_append, List.length_nil, dc_length, List.drop_nil, List.take_nil, List.append_nil, List.length_map, List.length_replicate]; first | done | rfl)) (by first | rfl | (simp only [List.drop_succ_cons, List.drop_zero, List.take_succ_cons, List.take_zero, List.cons_append, List.nil_append, List.append_assoc, drop_dc, drop_dc', take_dc, take_dc', drop_L, drop_L', take_L, take_L', len_L, Nat.reduceLeDiff, Nat.reduceSub, Nat.reduceAdd, Nat.le_refl, List.length_cons, List.length_append, List.length_nil, dc_length, List.drop_nil, List.take_nil, List.append_nil, List.length_map, List.length_replicate]; first | done | omega))) ?_
        exact fun w' hw => ⟨(), by rw [e, eV_zero]; rfl, St.dk (hw.sel (by repeat (first | exact Sel.nil | (apply Sel.cons; · (repeat (first | exact Pick.here | apply Pick.there)))))) rfl rfl rfl rfl rfl rfl⟩

set_option maxHeartbeats 400000 in
theorem arm_ok {w : World} {F : Nat → Prop} {g : Nat} {d : DS} (h : stars [DiskR g d] w F) {n : Int} :
    Calls Tryd.prog 22 #[.pointer (some ⟨g, 0, none⟩), .int .i64 n] w (Post w F (fun _ : Unit => .tuple #[]) (fun _ => [DiskR g { d with armed := decide (0 ≤ n), left := n }])) := by
  obtain ⟨b, m, h⟩ := dk_open h
  refine g_enter (env := [(0, .pointer (some ⟨g, 0, none⟩)), (1, .int .i64 n)]) Tryd.func22 rfl h Tryd.ntmps22 rfl rfl ?_
  refine gc_region ?_
  refine gp zmv ?_
  refine gp zmv ?_
  refine gp zmv ?_
  refine gp zge ?_
  refine gp zmv ?_
  refine gp znc ?_
  refine gp zfa ?_
  refine zs1 ?_
  refine gp znc ?_
  refine gp zfa ?_
  refine zs1 ?_
  refine gl_nil ?_
  refine gx_ret0' rfl ?_
  exact fun w' hw => ⟨(), rfl, St.dk (hw.sel (by repeat (first | exact Sel.nil | (apply Sel.cons; · (repeat (first | exact Pick.here | apply Pick.there)))))) rfl rfl rfl rfl rfl rfl⟩

set_option maxHeartbeats 400000 in
theorem off_ok {w : World} {F : Nat → Prop} {g : Nat} {d : DS} (h : stars [DiskR g d] w F) :
    Calls Tryd.prog 24 #[.pointer (some ⟨g, 0, none⟩)] w (Post w F (fun _ : Unit => .bool d.off) (fun _ => [DiskR g d])) := by
  obtain ⟨b, m, h⟩ := dk_open h
  refine g_enter (env := [(0, .pointer (some ⟨g, 0, none⟩))]) Tryd.func24 rfl h Tryd.ntmps24 rfl rfl ?_
  refine gsr ?_
  refine gp zas ?_
  refine gnt ?_
  refine gsr ?_
  refine gp zmv ?_
  refine gp znc ?_
  refine gp zfa ?_
  refine gp zl ?_
  refine gp zas ?_
  refine gnt ?_
  refine gc_ret ?_
  refine gx_ret1 rfl (by conv => lhs; whnf) ?_
  exact fun w' hw => ⟨(), rfl, St.dk (hw.sel (by repeat (first | exact Sel.nil | (apply Sel.cons; · (repeat (first | exact Pick.here | apply Pick.there)))))) rfl rfl rfl rfl rfl rfl⟩

set_option maxHeartbeats 400000 in
theorem size_ok {w : World} {F : Nat → Prop} {g : Nat} {d : DS} (h : stars [DiskR g d] w F) :
    Calls Tryd.prog 37 #[.pointer (some ⟨g, 0, none⟩)] w (Post w F (fun _ : Unit => .int .i64 d.n) (fun _ => [DiskR g d])) := by
  obtain ⟨b, m, h⟩ := dk_open h
  refine g_enter (env := [(0, .pointer (some ⟨g, 0, none⟩))]) Tryd.func37 rfl h Tryd.ntmps37 rfl rfl ?_
  refine gsr ?_
  refine gp zas ?_
  refine gnt ?_
  refine gsr ?_
  refine gp zmv ?_
  refine gp znc ?_
  refine gp zfa ?_
  refine gp zl ?_
  refine gp zln ?_
  refine gp zas ?_
  refine gnt ?_
  refine gc_ret ?_
  refine gx_ret1 rfl (by conv => lhs; whnf) ?_
  exact fun w' hw => ⟨(), rfl, St.dk (hw.sel (by repeat (first | exact Sel.nil | (apply Sel.cons; · (repeat (first | exact Pick.here | apply Pick.there)))))) rfl rfl rfl rfl rfl rfl⟩

end Go.Proofs.YtffkjjakceojfaaDoor
