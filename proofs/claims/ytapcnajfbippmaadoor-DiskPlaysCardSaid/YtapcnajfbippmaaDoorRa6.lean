/- Walks, by program (wg.py) out of a spec. -/
import Derived.Test.YtapcnajfbippmaaDoorDb
import Derived.Test.YtapcnajfbippmaaDoorPlG
namespace Go.Proofs.YtapcnajfbippmaaDoor
open Go
set_option linter.unusedVariables false
set_option linter.unusedSimpArgs false


/-- The document's disk in block g. -/
def refC (m : MS) (b c e : Nat) : List Value := [.slice (some ⟨b, 0, none⟩) m.n m.n, .slice (some ⟨c, 0, none⟩) m.n m.n, .slice (some ⟨e, 0, none⟩) m.n m.n, .bool m.off, .int .i64 m.left]
def RefR (g : Nat) (m : MS) : Res := exR fun p : Nat × Nat × Nat => allR [blk g 57 [.slice (some ⟨p.1, 0, none⟩) m.n m.n, .slice (some ⟨p.2.1, 0, none⟩) m.n m.n, .slice (some ⟨p.2.2, 0, none⟩) m.n m.n, .bool m.off, .int .i64 m.left], blk p.1 31 (secs m.n m.ss), blk p.2.1 31 (secs m.n m.wr), blk p.2.2 4 (fnc Value.bool m.n m.dt)]
section
variable {w0 w : World} {F F0 : Nat → Prop} {g : Nat} {m : MS} {L : List Res} {Q : Exit → Act → World → Prop} {n : Nat} {env : Env} {ops : Array Oper} {rest : List Oper}
theorem rf_open (h : stars (RefR g m :: L) w F) : ∃ b c e, stars (blk g 57 [.slice (some ⟨b, 0, none⟩) m.n m.n, .slice (some ⟨c, 0, none⟩) m.n m.n, .slice (some ⟨e, 0, none⟩) m.n m.n, .bool m.off, .int .i64 m.left] :: blk b 31 (secs m.n m.ss) :: blk c 31 (secs m.n m.wr) :: blk e 4 (fnc Value.bool m.n m.dt) :: L) w F := by
  obtain ⟨⟨b, c, e⟩, h⟩ := stars_ex h
  exact ⟨b, c, e, stars_all h⟩
theorem St.rf {b c e n : Nat} {off : Bool} {left : Int} {x y z : List Value} (h : St w0 F0 (blk g 57 [.slice (some ⟨b, 0, none⟩) n n, .slice (some ⟨c, 0, none⟩) n n, .slice (some ⟨e, 0, none⟩) n n, .bool off, .int .i64 left] :: blk b 31 x :: blk c 31 y :: blk e 4 z :: L) w)
    (h1 : n = m.n) (h2 : off = m.off) (h3 : left = m.left) (h4 : x = secs m.n m.ss) (h5 : y = secs m.n m.wr) (h6 : z = fnc Value.bool m.n m.dt) : St w0 F0 (RefR g m :: L) w := by
  subst h1; subst h2; subst h3; subst h4; subst h5; subst h6
  obtain ⟨F, hF, hst⟩ := h
  exact ⟨F, stars_ex_mk (b, c, e) (stars_all_mk hF), hst⟩
theorem gc_rf {k : Code} {L' : List Res} (hp : Pick L (RefR g m) L') (K : ∀ b c e, Gc Tryd.prog w0 F0 (blk g 57 [.slice (some ⟨b, 0, none⟩) m.n m.n, .slice (some ⟨c, 0, none⟩) m.n m.n, .slice (some ⟨e, 0, none⟩) m.n m.n, .bool m.off, .int .i64 m.left] :: blk b 31 (secs m.n m.ss) :: blk c 31 (secs m.n m.wr) :: blk e 4 (fnc Value.bool m.n m.dt) :: L') k Q n env) : Gc Tryd.prog w0 F0 L k Q n env := fun w hw => by
  obtain ⟨F, hF, hst⟩ := hw.pick hp
  obtain ⟨b, c, e, h⟩ := rf_open hF
  exact K b c e w ⟨F, h, hst⟩
theorem gl_rf {L' : List Res} (hp : Pick L (RefR g m) L') (K : ∀ b c e, Gl Tryd.prog w0 F0 (blk g 57 [.slice (some ⟨b, 0, none⟩) m.n m.n, .slice (some ⟨c, 0, none⟩) m.n m.n, .slice (some ⟨e, 0, none⟩) m.n m.n, .bool m.off, .int .i64 m.left] :: blk b 31 (secs m.n m.ss) :: blk c 31 (secs m.n m.wr) :: blk e 4 (fnc Value.bool m.n m.dt) :: L') ops Q rest n env) : Gl Tryd.prog w0 F0 L ops Q rest n env := fun w hw => by
  obtain ⟨F, hF, hst⟩ := hw.pick hp
  obtain ⟨b, c, e, h⟩ := rf_open hF
  exact K b c e w ⟨F, h, hst⟩
end

attribute [local irreducible] Gl Gc Gx Gs Runs Wt

set_option maxHeartbeats 400000 in
theorem rnew_ok {w : World} {F : Nat → Prop} {n : Nat} (h : stars [] w F) (h1 : 1 ≤ n) (h2 : n ≤ 4096) :
    Calls Tryd.prog 19 #[.int .i64 (n : Int)] w (Post w F (fun g : Nat => .pointer (some ⟨g, 0, none⟩)) (fun g => [RefR g (MS.new n)])) := by
  refine g_enter (env := [(0, .int .i64 (n : Int))]) Tryd.func19 rfl h Tryd.ntmps19 rfl rfl ?_
  refine gsr ?_
  refine gp zas ?_
  refine gnt ?_
  refine gc_seq ?_
  refine gc_regionZ 8 [] ?_
  refine yps 0 rfl zmv ?_
  refine yps 2 rfl zmv ?_
  refine yps 4 rfl zmv ?_
  refine yo3s 1 3 5 rfl rfl rfl ?_ ?_ ?_
  · refine gl_mkN (m := n) (z := .agg (List.replicate 64 (Value.int .u8 0)).toArray) (wt0 rfl) ELT.h (by kernel_rfl) rfl rfl (by omega) (by omega) (by omega) (fun b4 => ?_)
    refine gl_eqc (cs' := secs n fun _ => sec0) (by repeat (first | exact Pick.here | apply Pick.there)) (madeCells_secs n) ?_
    refine yxs ?_
    refine yo2s 3 5 rfl rfl ?_ ?_
    · refine gl_mkN (m := n) (z := .agg (List.replicate 64 (Value.int .u8 0)).toArray) (wt0 rfl) ELT.h (by kernel_rfl) rfl rfl (by omega) (by omega) (by omega) (fun b6 => ?_)
      refine gl_eqc (cs' := secs n fun _ => sec0) (by repeat (first | exact Pick.here | apply Pick.there)) (madeCells_secs n) ?_
      refine yxs ?_
      refine yos 5 rfl ?_
      refine gl_mk1 (m := n) (z := .bool false) (wt0 rfl) ELT.h (by kernel_rfl) rfl rfl rfl (by omega) (by omega) (fun b8 => ?_)
      refine gl_eqc (cs' := fnc Value.bool n fun _ => false) (by repeat (first | exact Pick.here | apply Pick.there)) (fnc_rep Value.bool false n) ?_
      refine yxs ?_
      refine yps 6 rfl zbu ?_
      refine yos 7 rfl ?_
      refine zbN fun b10 => ?_
      refine yxs ?_
      refine yzs rfl ?_
      refine gp zas ?_
      refine gnt ?_
      refine gc_ret ?_
      refine gx_ret1 rfl (by conv => lhs; whnf) ?_
      exact fun w' hw => ⟨b10, rfl, St.rf (m := MS.new n) (b := b4) (c := b6) (e := b8) (n := n) (hw.sel (by repeat (first | exact Sel.nil | (apply Sel.cons; · (repeat (first | exact Pick.here | apply Pick.there)))))) rfl rfl rfl rfl rfl rfl⟩
    · refine gl_mk1 (m := n) (z := .bool false) (wt0 rfl) ELT.h (by kernel_rfl) rfl rfl rfl (by omega) (by omega) (fun b8 => ?_)
      refine gl_eqc (cs' := fnc Value.bool n fun _ => false) (by repeat (first | exact Pick.here | apply Pick.there)) (fnc_rep Value.bool false n) ?_
      refine yxs ?_
      refine yos 3 rfl ?_
      refine gl_mkN (m := n) (z := .agg (List.replicate 64 (Value.int .u8 0)).toArray) (wt0 rfl) ELT.h (by kernel_rfl) rfl rfl (by omega) (by omega) (by omega) (fun b6 => ?_)
      refine gl_eqc (cs' := secs n fun _ => sec0) (by repeat (first | exact Pick.here | apply Pick.there)) (madeCells_secs n) ?_
      refine yxs ?_
      refine yps 6 rfl zbu ?_
      refine yos 7 rfl ?_
      refine zbN fun b10 => ?_
      refine yxs ?_
      refine yzs rfl ?_
      refine gp zas ?_
      refine gnt ?_
      refine gc_ret ?_
      refine gx_ret1 rfl (by conv => lhs; whnf) ?_
      exact fun w' hw => ⟨b10, rfl, St.rf (m := MS.new n) (b := b4) (c := b6) (e := b8) (n := n) (hw.sel (by repeat (first | exact Sel.nil | (apply Sel.cons; · (repeat (first | exact Pick.here | apply Pick.there)))))) rfl rfl rfl rfl rfl rfl⟩
  · refine gl_mkN (m := n) (z := .agg (List.replicate 64 (Value.int .u8 0)).toArray) (wt0 rfl) ELT.h (by kernel_rfl) rfl rfl (by omega) (by omega) (by omega) (fun b6 => ?_)
    refine gl_eqc (cs' := secs n fun _ => sec0) (by repeat (first | exact Pick.here | apply Pick.there)) (madeCells_secs n) ?_
    refine yxs ?_
    refine yo2s 1 5 rfl rfl ?_ ?_
    · refine gl_mkN (m := n) (z := .agg (List.replicate 64 (Value.int .u8 0)).toArray) (wt0 rfl) ELT.h (by kernel_rfl) rfl rfl (by omega) (by omega) (by omega) (fun b4 => ?_)
      refine gl_eqc (cs' := secs n fun _ => sec0) (by repeat (first | exact Pick.here | apply Pick.there)) (madeCells_secs n) ?_
      refine yxs ?_
      refine yos 5 rfl ?_
      refine gl_mk1 (m := n) (z := .bool false) (wt0 rfl) ELT.h (by kernel_rfl) rfl rfl rfl (by omega) (by omega) (fun b8 => ?_)
      refine gl_eqc (cs' := fnc Value.bool n fun _ => false) (by repeat (first | exact Pick.here | apply Pick.there)) (fnc_rep Value.bool false n) ?_
      refine yxs ?_
      refine yps 6 rfl zbu ?_
      refine yos 7 rfl ?_
      refine zbN fun b10 => ?_
      refine yxs ?_
      refine yzs rfl ?_
      refine gp zas ?_
      refine gnt ?_
      refine gc_ret ?_
      refine gx_ret1 rfl (by conv => lhs; whnf) ?_
      exact fun w' hw => ⟨b10, rfl, St.rf (m := MS.new n) (b := b4) (c := b6) (e := b8) (n := n) (hw.sel (by repeat (first | exact Sel.nil | (apply Sel.cons; · (repeat (first | exact Pick.here | apply Pick.there)))))) rfl rfl rfl rfl rfl rfl⟩
    · refine gl_mk1 (m := n) (z := .bool false) (wt0 rfl) ELT.h (by kernel_rfl) rfl rfl rfl (by omega) (by omega) (fun b8 => ?_)
      refine gl_eqc (cs' := fnc Value.bool n fun _ => false) (by repeat (first | exact Pick.here | apply Pick.there)) (fnc_rep Value.bool false n) ?_
      refine yxs ?_
      refine yos 1 rfl ?_
      refine gl_mkN (m := n) (z := .agg (List.replicate 64 (Value.int .u8 0)).toArray) (wt0 rfl) ELT.h (by kernel_rfl) rfl rfl (by omega) (by omega) (by omega) (fun b4 => ?_)
      refine gl_eqc (cs' := secs n fun _ => sec0) (by repeat (first | exact Pick.here | apply Pick.there)) (madeCells_secs n) ?_
      refine yxs ?_
      refine yps 6 rfl zbu ?_
      refine yos 7 rfl ?_
      refine zbN fun b10 => ?_
      refine yxs ?_
      refine yzs rfl ?_
      refine gp zas ?_
      refine gnt ?_
      refine gc_ret ?_
      refine gx_ret1 rfl (by conv => lhs; whnf) ?_
      exact fun w' hw => ⟨b10, rfl, St.rf (m := MS.new n) (b := b4) (c := b6) (e := b8) (n := n) (hw.sel (by repeat (first | exact Sel.nil | (apply Sel.cons; · (repeat (first | exact Pick.here | apply Pick.there)))))) rfl rfl rfl rfl rfl rfl⟩
  · refine gl_mk1 (m := n) (z := .bool false) (wt0 rfl) ELT.h (by kernel_rfl) rfl rfl rfl (by omega) (by omega) (fun b8 => ?_)
    refine gl_eqc (cs' := fnc Value.bool n fun _ => false) (by repeat (first | exact Pick.here | apply Pick.there)) (fnc_rep Value.bool false n) ?_
    refine yxs ?_
    refine yo2s 1 3 rfl rfl ?_ ?_
    · refine gl_mkN (m := n) (z := .agg (List.replicate 64 (Value.int .u8 0)).toArray) (wt0 rfl) ELT.h (by kernel_rfl) rfl rfl (by omega) (by omega) (by omega) (fun b4 => ?_)
      refine gl_eqc (cs' := secs n fun _ => sec0) (by repeat (first | exact Pick.here | apply Pick.there)) (madeCells_secs n) ?_
      refine yxs ?_
      refine yos 3 rfl ?_
      refine gl_mkN (m := n) (z := .agg (List.replicate 64 (Value.int .u8 0)).toArray) (wt0 rfl) ELT.h (by kernel_rfl) rfl rfl (by omega) (by omega) (by omega) (fun b6 => ?_)
      refine gl_eqc (cs' := secs n fun _ => sec0) (by repeat (first | exact Pick.here | apply Pick.there)) (madeCells_secs n) ?_
      refine yxs ?_
      refine yps 6 rfl zbu ?_
      refine yos 7 rfl ?_
      refine zbN fun b10 => ?_
      refine yxs ?_
      refine yzs rfl ?_
      refine gp zas ?_
      refine gnt ?_
      refine gc_ret ?_
      refine gx_ret1 rfl (by conv => lhs; whnf) ?_
      exact fun w' hw => ⟨b10, rfl, St.rf (m := MS.new n) (b := b4) (c := b6) (e := b8) (n := n) (hw.sel (by repeat (first | exact Sel.nil | (apply Sel.cons; · (repeat (first | exact Pick.here | apply Pick.there)))))) rfl rfl rfl rfl rfl rfl⟩
    · refine gl_mkN (m := n) (z := .agg (List.replicate 64 (Value.int .u8 0)).toArray) (wt0 rfl) ELT.h (by kernel_rfl) rfl rfl (by omega) (by omega) (by omega) (fun b6 => ?_)
      refine gl_eqc (cs' := secs n fun _ => sec0) (by repeat (first | exact Pick.here | apply Pick.there)) (madeCells_secs n) ?_
      refine yxs ?_
      refine yos 1 rfl ?_
      refine gl_mkN (m := n) (z := .agg (List.replicate 64 (Value.int .u8 0)).toArray) (wt0 rfl) ELT.h (by kernel_rfl) rfl rfl (by omega) (by omega) (by omega) (fun b4 => ?_)
      refine gl_eqc (cs' := secs n fun _ => sec0) (by repeat (first | exact Pick.here | apply Pick.there)) (madeCells_secs n) ?_
      refine yxs ?_
      refine yps 6 rfl zbu ?_
      refine yos 7 rfl ?_
      refine zbN fun b10 => ?_
      refine yxs ?_
      refine yzs rfl ?_
      refine gp zas ?_
      refine gnt ?_
      refine gc_ret ?_
      refine gx_ret1 rfl (by conv => lhs; whnf) ?_
      exact fun w' hw => ⟨b10, rfl, St.rf (m := MS.new n) (b := b4) (c := b6) (e := b8) (n := n) (hw.sel (by repeat (first | exact Sel.nil | (apply Sel.cons; · (repeat (first | exact Pick.here | apply Pick.there)))))) rfl rfl rfl rfl rfl rfl⟩

set_option maxHeartbeats 400000 in
theorem rhas_ok {w : World} {F : Nat → Prop} {g : Nat} {m : MS} (h : stars [RefR g m] w F) {i : Int} :
    Calls Tryd.prog 32 #[.pointer (some ⟨g, 0, none⟩), .int .i64 i] w (Post w F (fun _ : Unit => .bool (m.has i)) (fun _ => [RefR g m])) := by
  obtain ⟨b, c, e, h⟩ := rf_open h
  refine g_enter (env := [(0, .pointer (some ⟨g, 0, none⟩)), (1, .int .i64 i)]) Tryd.func32 rfl h Tryd.ntmps32 rfl rfl ?_
  refine gsr ?_
  refine gp zas ?_
  refine gnt ?_
  refine gc_seq ?_
  by_cases hi : 0 ≤ i
  · refine gc_region ?_
    refine gp zmv ?_
    refine gp (r_bool (c := true) zge (decide_eq_true hi)) ?_
    refine gp zmv ?_
    refine gq zmv ?_
    refine gq zmv ?_
    refine gq znc ?_
    refine gq zfa ?_
    refine gq zl ?_
    refine gq zln ?_
    refine gq zlt ?_
    refine gp zpk ?_
    refine gp zas ?_
    refine gnt ?_
    refine gc_ret ?_
    refine gx_ret1 rfl (by conv => lhs; whnf) ?_
    exact fun w' hw => ⟨(), by rw [MS.has, decide_eq_true hi, Bool.true_and], St.rf (m := m) (hw.sel (by repeat (first | exact Sel.nil | (apply Sel.cons; · (repeat (first | exact Pick.here | apply Pick.there)))))) rfl rfl rfl rfl rfl rfl⟩
  · refine gc_region ?_
    refine gp zmv ?_
    refine gp (r_bool (c := false) zge (decide_eq_false hi)) ?_
    refine gp zmv ?_
    refine gn ?_
    refine gn ?_
    refine gn ?_
    refine gn ?_
    refine gn ?_
    refine gn ?_
    refine gn ?_
    refine gp zpk ?_
    refine gp zas ?_
    refine gnt ?_
    refine gc_ret ?_
    refine gx_ret1 rfl (by conv => lhs; whnf) ?_
    exact fun w' hw => ⟨(), by rw [MS.has, decide_eq_false hi, Bool.false_and], St.rf (m := m) (hw.sel (by repeat (first | exact Sel.nil | (apply Sel.cons; · (repeat (first | exact Pick.here | apply Pick.there)))))) rfl rfl rfl rfl rfl rfl⟩

set_option maxHeartbeats 400000 in
theorem rbeg_ok {w : World} {F : Nat → Prop} {g : Nat} {m : MS} (h : stars [RefR g m] w F) (hk : MOk m) :
    Calls Tryd.prog 33 #[.pointer (some ⟨g, 0, none⟩)] w (Post w F (fun _ : Unit => .int .i64 (m.beg.1 : Int)) (fun _ => [RefR g m.beg.2])) := by
  obtain ⟨b, c, e, h⟩ := rf_open h
  have hrg := hk.rg
  refine g_enter (env := [(0, .pointer (some ⟨g, 0, none⟩))]) Tryd.func33 rfl h Tryd.ntmps33 rfl rfl ?_
  refine gsr ?_
  refine gp zas ?_
  refine gnt ?_
  refine gc_join (α := Unit) (fun z => [blk g 57 [.slice (some ⟨b, 0, none⟩) m.n m.n, .slice (some ⟨c, 0, none⟩) m.n m.n, .slice (some ⟨e, 0, none⟩) m.n m.n, .bool (if m.left = 0 then true else m.off), .int .i64 m.left], blk b 31 (secs m.n m.ss), blk c 31 (secs m.n m.wr), blk e 4 (fnc Value.bool m.n m.dt)]) (fun z => []) [3, 4, 5, 6, 7, 8, 9, 10] ?_ ?_
  · refine gsr ?_
    refine gp zmv ?_
    refine gp znc ?_
    refine gp zfa ?_
    refine gp zl ?_
    refine gp zei ?_
    refine gnt ?_
    refine gif rfl (fun hc7 => ?_) (fun hc7 => ?_)
    · refine gc_region ?_
      refine gp zmv ?_
      refine gp znc ?_
      refine gp zfa ?_
      refine zs1 ?_
      refine gl_nil ?_
      refine zjn (()) ?_
      · simp only [if_pos hc7]
        exact zsel
    · refine gc_skip ?_
      refine zjn (()) ?_
      · simp only [if_neg hc7]
        exact zsel
  · intro z u
    refine gc_seq ?_
    refine gsr ?_
    refine gp zmv ?_
    refine gp znc ?_
    refine gp zfa ?_
    refine gp zl ?_
    refine gnt ?_
    refine gif rfl (fun hc14 => ?_) (fun hc14 => ?_)
    · try simp only at hc14
      have eb : m.beg = (6, { m with off := true }) := by rw [MS.beg, if_pos (by by_cases h0 : m.left = 0; exact .inl h0; rw [if_neg h0] at hc14; exact .inr hc14)]
      refine gsr ?_
      refine gp zas ?_
      refine gnt ?_
      refine gc_ret ?_
      refine gx_then_ret ?_
      refine gx_ret1 rfl (by conv => lhs; whnf) ?_
      exact fun w' hw => ⟨(), by rw [eb]; rfl, by rw [eb]; exact St.rf (m := { m with off := true }) (hw.sel (by repeat (first | exact Sel.nil | (apply Sel.cons; · (repeat (first | exact Pick.here | apply Pick.there)))))) rfl hc14 rfl rfl rfl rfl⟩
    · try simp only at hc14
      have h0 : ¬ m.left = 0 := fun h0 => by rw [if_pos h0] at hc14; cases hc14
      have ho : m.off = false := by rw [if_neg h0] at hc14; exact hc14
      refine gc_skip ?_
      refine gx_then ?_
      refine gc_seq ?_
      refine gsr ?_
      refine gp zmv ?_
      refine gp znc ?_
      refine gp zfa ?_
      refine gp zl ?_
      refine gp zgt ?_
      refine gnt ?_
      refine gif rfl (fun hc19 => ?_) (fun hc19 => ?_)
      · refine gc_region ?_
        refine gp zmv ?_
        refine gp znc ?_
        refine gp zfa ?_
        refine gp zl ?_
        refine gp zsb ?_
        refine gp znc ?_
        refine gp zfa ?_
        refine zs1 ?_
        refine gnt ?_
        refine gsr ?_
        refine gp zas ?_
        refine gnt ?_
        refine gc_ret ?_
        refine gx_ret1 rfl (by conv => lhs; whnf) ?_
        exact fun w' hw => ⟨(), by rw [MS.beg, if_neg (by rw [ho]; simp [h0])]; rfl, by rw [MS.beg, if_neg (by rw [ho]; simp [h0]), if_pos hc19]; exact St.rf (m := { m with left := m.left - 1 }) (hw.sel (by repeat (first | exact Sel.nil | (apply Sel.cons; · (repeat (first | exact Pick.here | apply Pick.there)))))) rfl (by rw [if_neg h0]) rfl rfl rfl rfl⟩
      · refine gc_skip ?_
        refine gx_then ?_
        refine gsr ?_
        refine gp zas ?_
        refine gnt ?_
        refine gc_ret ?_
        refine gx_ret1 rfl (by conv => lhs; whnf) ?_
        exact fun w' hw => ⟨(), by rw [MS.beg, if_neg (by rw [ho]; simp [h0])]; rfl, by rw [MS.beg, if_neg (by rw [ho]; simp [h0]), if_neg (by omega)]; exact St.rf (m := m) (hw.sel (by repeat (first | exact Sel.nil | (apply Sel.cons; · (repeat (first | exact Pick.here | apply Pick.there)))))) rfl (by rw [if_neg h0]) rfl rfl rfl rfl⟩

set_option maxHeartbeats 400000 in
theorem rwrite_ok {w : World} {F : Nat → Prop} {g : Nat} {m : MS} (h : stars [RefR g m] w F) (hk : MOk m) {i : Int} {v : Sec} :
    Calls Tryd.prog 20 #[.pointer (some ⟨g, 0, none⟩), .int .i64 i, scV v] w (Post w F (fun _ : Unit => .int .i64 ((m.wrt i v).1 : Int)) (fun _ => [RefR g (m.wrt i v).2])) := by
  refine g_enter (env := [(0, .pointer (some ⟨g, 0, none⟩)), (1, .int .i64 i), (2, scV v)]) Tryd.func20 rfl h Tryd.ntmps20 rfl rfl ?_
  refine gsr ?_
  refine zbN fun b5 => ?_
  refine gp zas ?_
  refine gnt ?_
  refine gc_seq ?_
  refine gsr ?_
  refine gp zmv ?_
  refine gp zmv ?_
  refine zc (fun _ => ?_) (c := fun w1 F1 F2 h1 h2 hd hst => rhas_ok (i := i) h1)
  refine gp znt ?_
  refine gnt ?_
  refine gif rfl (fun hc11 => ?_) (fun hc11 => ?_)
  · try simp only at hc11
    have hi : m.has i = false := hc11
    have ew : m.wrt i v = (1, m) := by simp [MS.wrt, hi]
    refine gsr ?_
    refine gp zas ?_
    refine gnt ?_
    refine gc_ret ?_
    refine gx_then_ret ?_
    refine gx_ret1 rfl (by conv => lhs; whnf) ?_
    exact fun w' hw => ⟨(), by rw [ew]; rfl, by rw [ew]; exact hw.sel (by repeat (first | exact Sel.nil | (apply Sel.cons; · (repeat (first | exact Pick.here | apply Pick.there)))))⟩
  · try simp only at hc11
    have hi : m.has i = true := hc11
    have hin : 0 ≤ i ∧ i < m.n := by simpa [MS.has] using hi
    refine gc_skip ?_
    refine gx_then ?_
    refine gsr ?_
    refine gp zmv ?_
    refine zc (fun _ => ?_) (c := fun w1 F1 F2 h1 h2 hd hst => rbeg_ok h1 hk)
    refine gp zas ?_
    refine gnt ?_
    refine gc_seq ?_
    refine gsr ?_
    refine gp zmv ?_
    refine gp zei ?_
    refine gnt ?_
    refine gif rfl (fun hc15 => ?_) (fun hc15 => ?_)
    · try simp only at hc15
      have h0 : m.beg.1 = 0 := by omega
      have ew : m.wrt i v = (0, { m.beg.2 with wr := updS m.beg.2.wr i.toNat v, dt := updB m.beg.2.dt i.toNat true }) := by simp [MS.wrt, hi, h0]
      have en := beg_n m
      generalize hd2 : m.beg.2 = d2 at *
      refine gc_rf (by repeat (first | exact Pick.here | apply Pick.there)) (fun b c e => ?_)
      refine gc_regionZ 14 ([blk g 57 [.slice (some ⟨b, 0, none⟩) d2.n d2.n, .slice (some ⟨c, 0, none⟩) d2.n d2.n, .slice (some ⟨e, 0, none⟩) d2.n d2.n, .bool d2.off, .int .i64 d2.left], blk b5 31 (sc v)]) ?_
      refine yps 0 rfl zmv ?_
      refine yps 1 rfl znc ?_
      refine yps 2 rfl zfa ?_
      refine yps 3 rfl zl ?_
      refine yps 4 rfl zmv ?_
      refine yps 5 rfl zmv ?_
      refine yps 6 rfl znc ?_
      refine yps 7 rfl zfa ?_
      refine yps 8 rfl zl ?_
      refine yps 9 rfl zmv ?_
      refine yps 10 rfl zL ?_
      refine yps 11 rfl zia ?_
      refine yos 12 rfl ?_
      refine gl_stS (m := d2.n) (f := d2.wr) (v := v) i.toNat (by omega) ?_
      refine yxs ?_
      refine yps 13 rfl zia ?_
      refine yzs rfl ?_
      refine gl_stB (m := d2.n) (f := d2.dt) i.toNat (by omega) rfl ?_
      refine gnt ?_
      refine gsr ?_
      refine gp zmv ?_
      refine gp zas ?_
      refine gnt ?_
      refine gc_ret ?_
      refine gx_ret1 rfl (by conv => lhs; whnf) ?_
      exact fun w' hw => ⟨(), by rw [ew, h0], by rw [ew]; exact St.rf (m := { d2 with wr := updS d2.wr i.toNat v, dt := updB d2.dt i.toNat true }) (hw.sel (by repeat (first | exact Sel.nil | (apply Sel.cons; · (repeat (first | exact Pick.here | apply Pick.there)))))) rfl rfl rfl rfl rfl rfl⟩
    · try simp only at hc15
      have h0 : m.beg.1 ≠ 0 := by omega
      have ew : m.wrt i v = m.beg := by simp [MS.wrt, hi, h0]
      refine gc_skip ?_
      refine gx_then ?_
      refine gsr ?_
      refine gp zmv ?_
      refine gp zas ?_
      refine gnt ?_
      refine gc_ret ?_
      refine gx_ret1 rfl (by conv => lhs; whnf) ?_
      exact fun w' hw => ⟨(), by rw [ew], by rw [ew]; exact hw.sel (by repeat (first | exact Sel.nil | (apply Sel.cons; · (repeat (first | exact Pick.here | apply Pick.there)))))⟩

set_option maxHeartbeats 400000 in
theorem rread_ok {w : World} {F : Nat → Prop} {g : Nat} {m : MS} (h : stars [RefR g m] w F) {i : Int} :
    Calls Tryd.prog 24 #[.pointer (some ⟨g, 0, none⟩), .int .i64 i] w (Post w F (fun _ : Unit => .tuple #[scV (m.red i).2, .int .i64 ((m.red i).1 : Int)]) (fun _ => [RefR g m])) := by
  refine g_enter (env := [(0, .pointer (some ⟨g, 0, none⟩)), (1, .int .i64 i)]) Tryd.func24 rfl h Tryd.ntmps24 rfl rfl ?_
  refine gsr ?_
  refine zal fun b4 => ?_
  refine gp zas ?_
  refine gnt ?_
  refine gc_seq ?_
  refine gsr ?_
  refine gp zmv ?_
  refine gp zmv ?_
  refine zc (fun _ => ?_) (c := fun w1 F1 F2 h1 h2 hd hst => rhas_ok (i := i) h1)
  refine gp znt ?_
  refine gnt ?_
  refine gif rfl (fun hc9 => ?_) (fun hc9 => ?_)
  · try simp only at hc9
    have hi : m.has i = false := hc9
    have er : m.red i = (1, sec0) := by simp [MS.red, hi]
    refine gsr ?_
    refine gp zba ?_
    refine zsA (new := sc (sec0)) (sc_length _) (sc_one _) ?_
    refine gp zas ?_
    refine gnt ?_
    refine gc_ret ?_
    refine gx_then_ret ?_
    refine gx_retct rfl rfl (by conv => lhs; whnf) (ld_aggS Ty.row_31 Ty.sz_31 (by repeat (first | exact Pick.here | apply Pick.there)) (by (simp only [List.drop_succ_cons, List.drop_zero, List.take_succ_cons, List.take_zero, List.cons_append, List.nil_append, List.append_assoc, drop_dc, drop_dc', take_dc, take_dc', drop_L, drop_L', take_L, take_L', len_L, Nat.reduceLeDiff, Nat.reduceSub, Nat.reduceAdd, Nat.le_refl, List.length_cons, List.length_append, List.length_nil, dc_length, List.drop_nil, List.take_nil, List.append_nil, List.length_map, List.length_replicate]; first | done | rfl)) (by first | rfl | (simp only [List.drop_succ_cons, List.drop_zero, List.take_succ_cons, List.take_zero, List.cons_append, List.nil_append, List.append_assoc, drop_dc, drop_dc', take_dc, take_dc', drop_L, drop_L', take_L, take_L', len_L, Nat.reduceLeDiff, Nat.reduceSub, Nat.reduceAdd, Nat.le_refl, List.length_cons, List.length_append, List.length_nil, dc_length, List.drop_nil, List.take_nil, List.append_nil, List.length_map, List.length_replicate]; first | done | omega))) ?_
    exact fun w' hw => ⟨(), by rw [er]; rfl, hw.sel (by repeat (first | exact Sel.nil | (apply Sel.cons; · (repeat (first | exact Pick.here | apply Pick.there)))))⟩
  · try simp only at hc9
    have hi : m.has i = true := hc9
    have hin : 0 ≤ i ∧ i < m.n := by simpa [MS.has] using hi
    refine gc_rf (by repeat (first | exact Pick.here | apply Pick.there)) (fun b c e => ?_)
    refine gc_skip ?_
    refine gx_then ?_
    refine gc_seq ?_
    refine gsr ?_
    refine gp zmv ?_
    refine gp znc ?_
    refine gp zfa ?_
    refine gp zl ?_
    refine gnt ?_
    refine gif rfl (fun hc14 => ?_) (fun hc14 => ?_)
    · try simp only at hc14
      have er : m.red i = (6, sec0) := by simp [MS.red, hi, hc14]
      refine gsr ?_
      refine gp zba ?_
      refine zsA (new := sc (sec0)) (sc_length _) (sc_one _) ?_
      refine gp zas ?_
      refine gnt ?_
      refine gc_ret ?_
      refine gx_then_ret ?_
      refine gx_retct rfl rfl (by conv => lhs; whnf) (ld_aggS Ty.row_31 Ty.sz_31 (by repeat (first | exact Pick.here | apply Pick.there)) (by (simp only [List.drop_succ_cons, List.drop_zero, List.take_succ_cons, List.take_zero, List.cons_append, List.nil_append, List.append_assoc, drop_dc, drop_dc', take_dc, take_dc', drop_L, drop_L', take_L, take_L', len_L, Nat.reduceLeDiff, Nat.reduceSub, Nat.reduceAdd, Nat.le_refl, List.length_cons, List.length_append, List.length_nil, dc_length, List.drop_nil, List.take_nil, List.append_nil, List.length_map, List.length_replicate]; first | done | rfl)) (by first | rfl | (simp only [List.drop_succ_cons, List.drop_zero, List.take_succ_cons, List.take_zero, List.cons_append, List.nil_append, List.append_assoc, drop_dc, drop_dc', take_dc, take_dc', drop_L, drop_L', take_L, take_L', len_L, Nat.reduceLeDiff, Nat.reduceSub, Nat.reduceAdd, Nat.le_refl, List.length_cons, List.length_append, List.length_nil, dc_length, List.drop_nil, List.take_nil, List.append_nil, List.length_map, List.length_replicate]; first | done | omega))) ?_
      exact fun w' hw => ⟨(), by rw [er]; rfl, St.rf (m := m) (hw.sel (by repeat (first | exact Sel.nil | (apply Sel.cons; · (repeat (first | exact Pick.here | apply Pick.there)))))) rfl rfl rfl rfl rfl rfl⟩
    · refine gc_skip ?_
      refine gx_then ?_
      refine gc_seq ?_
      refine gsr ?_
      refine gp zmv ?_
      refine gp znc ?_
      refine gp zfa ?_
      refine gp zl ?_
      refine gp zmv ?_
      refine gp zia ?_
      refine gp (r_ldB (m := m.n) (f := m.dt) i.toNat (by omega)) ?_
      refine gnt ?_
      refine gif rfl (fun hc22 => ?_) (fun hc22 => ?_)
      · try simp only at hc22
        have er : m.red i = (0, m.wr i.toNat) := by simp [MS.red, hi, hc14, hc22]
        refine gsr ?_
        refine gp zmv ?_
        refine gp znc ?_
        refine gp zfa ?_
        refine gp zl ?_
        refine gp zmv ?_
        refine gp zia ?_
        refine gp (r_ldS (m := m.n) (f := m.wr) i.toNat (by omega)) ?_
        refine zsA (new := sc (m.wr i.toNat)) (sc_length _) (sc_one _) ?_
        refine gp zas ?_
        refine gnt ?_
        refine gc_ret ?_
        refine gx_then_ret ?_
        refine gx_retct rfl rfl (by conv => lhs; whnf) (ld_aggS Ty.row_31 Ty.sz_31 (by repeat (first | exact Pick.here | apply Pick.there)) (by (simp only [List.drop_succ_cons, List.drop_zero, List.take_succ_cons, List.take_zero, List.cons_append, List.nil_append, List.append_assoc, drop_dc, drop_dc', take_dc, take_dc', drop_L, drop_L', take_L, take_L', len_L, Nat.reduceLeDiff, Nat.reduceSub, Nat.reduceAdd, Nat.le_refl, List.length_cons, List.length_append, List.length_nil, dc_length, List.drop_nil, List.take_nil, List.append_nil, List.length_map, List.length_replicate]; first | done | rfl)) (by first | rfl | (simp only [List.drop_succ_cons, List.drop_zero, List.take_succ_cons, List.take_zero, List.cons_append, List.nil_append, List.append_assoc, drop_dc, drop_dc', take_dc, take_dc', drop_L, drop_L', take_L, take_L', len_L, Nat.reduceLeDiff, Nat.reduceSub, Nat.reduceAdd, Nat.le_refl, List.length_cons, List.length_append, List.length_nil, dc_length, List.drop_nil, List.take_nil, List.append_nil, List.length_map, List.length_replicate]; first | done | omega))) ?_
        exact fun w' hw => ⟨(), by rw [er]; rfl, St.rf (m := m) (hw.sel (by repeat (first | exact Sel.nil | (apply Sel.cons; · (repeat (first | exact Pick.here | apply Pick.there)))))) rfl rfl rfl rfl rfl rfl⟩
      · try simp only at hc22
        have er : m.red i = (0, m.ss i.toNat) := by simp [MS.red, hi, hc14, hc22]
        refine gc_skip ?_
        refine gx_then ?_
        refine gsr ?_
        refine gp zmv ?_
        refine gp znc ?_
        refine gp zfa ?_
        refine gp zl ?_
        refine gp zmv ?_
        refine gp zia ?_
        refine gp (r_ldS (m := m.n) (f := m.ss) i.toNat (by omega)) ?_
        refine zsA (new := sc (m.ss i.toNat)) (sc_length _) (sc_one _) ?_
        refine gp zas ?_
        refine gnt ?_
        refine gc_ret ?_
        refine gx_retct rfl rfl (by conv => lhs; whnf) (ld_aggS Ty.row_31 Ty.sz_31 (by repeat (first | exact Pick.here | apply Pick.there)) (by (simp only [List.drop_succ_cons, List.drop_zero, List.take_succ_cons, List.take_zero, List.cons_append, List.nil_append, List.append_assoc, drop_dc, drop_dc', take_dc, take_dc', drop_L, drop_L', take_L, take_L', len_L, Nat.reduceLeDiff, Nat.reduceSub, Nat.reduceAdd, Nat.le_refl, List.length_cons, List.length_append, List.length_nil, dc_length, List.drop_nil, List.take_nil, List.append_nil, List.length_map, List.length_replicate]; first | done | rfl)) (by first | rfl | (simp only [List.drop_succ_cons, List.drop_zero, List.take_succ_cons, List.take_zero, List.cons_append, List.nil_append, List.append_assoc, drop_dc, drop_dc', take_dc, take_dc', drop_L, drop_L', take_L, take_L', len_L, Nat.reduceLeDiff, Nat.reduceSub, Nat.reduceAdd, Nat.le_refl, List.length_cons, List.length_append, List.length_nil, dc_length, List.drop_nil, List.take_nil, List.append_nil, List.length_map, List.length_replicate]; first | done | omega))) ?_
        exact fun w' hw => ⟨(), by rw [er]; rfl, St.rf (m := m) (hw.sel (by repeat (first | exact Sel.nil | (apply Sel.cons; · (repeat (first | exact Pick.here | apply Pick.there)))))) rfl rfl rfl rfl rfl rfl⟩

set_option maxHeartbeats 400000 in
theorem rarm_ok {w : World} {F : Nat → Prop} {g : Nat} {m : MS} (h : stars [RefR g m] w F) {n : Int} :
    Calls Tryd.prog 22 #[.pointer (some ⟨g, 0, none⟩), .int .i64 n] w (Post w F (fun _ : Unit => .tuple #[]) (fun _ => [RefR g (m.arm n)])) := by
  obtain ⟨b, c, e, h⟩ := rf_open h
  refine g_enter (env := [(0, .pointer (some ⟨g, 0, none⟩)), (1, .int .i64 n)]) Tryd.func22 rfl h Tryd.ntmps22 rfl rfl ?_
  refine gsr ?_
  refine gp zmv ?_
  refine gp zmv ?_
  refine gp znc ?_
  refine gp zfa ?_
  refine zs1 ?_
  refine gnt ?_
  refine gsr ?_
  refine gp zmv ?_
  refine gp zlt ?_
  refine gnt ?_
  refine gif rfl (fun hc9 => ?_) (fun hc9 => ?_)
  · refine gc_region ?_
    refine gp zmv ?_
    refine gp znc ?_
    refine gp zfa ?_
    refine zs1 ?_
    refine gl_nil ?_
    refine gx_ret0' rfl ?_
    exact fun w' hw => ⟨(), rfl, St.rf (m := m.arm n) (hw.sel (by repeat (first | exact Sel.nil | (apply Sel.cons; · (repeat (first | exact Pick.here | apply Pick.there)))))) rfl rfl (by rw [MS.arm]; simp only [if_pos hc9]) rfl rfl rfl⟩
  · refine gc_skip ?_
    refine gx_ret0' rfl ?_
    exact fun w' hw => ⟨(), rfl, St.rf (m := m.arm n) (hw.sel (by repeat (first | exact Sel.nil | (apply Sel.cons; · (repeat (first | exact Pick.here | apply Pick.there)))))) rfl rfl (by rw [MS.arm]; simp only [if_neg (show ¬ n < 0 by omega)]) rfl rfl rfl⟩

end Go.Proofs.YtapcnajfbippmaaDoor
