/- Walks, by program (wg.py) out of a spec. -/
import Derived.Test.YtffkjjakceojfaaDoorZb
import Derived.Test.YtffkjjakceojfaaDoorPlV
namespace Go.Proofs.YtffkjjakceojfaaDoor
open Go
set_option linter.unusedVariables false
set_option linter.unusedSimpArgs false


/-- A slots' record in block g, over a disk in block gd. -/
def SlR (g gd : Nat) (s : SL) : Res := exR fun p : Option Addr × Nat => allR [blk g 64 [.pointer (some ⟨gd, 0, none⟩), .int .i64 s.base, .int .i64 (s.count : Int), .slice p.1 s.rec'.length p.2], rowR 5 1 p.1 s.rec'.length p.2 (s.rec'.map B8)]
def OutR (g : Option Nat) (gd : Nat) (o : Option SL) : Res := match g, o with
  | none, none => pureR True
  | some g, some s => SlR g gd s
  | _, _ => pureR False
section
variable {w0 w : World} {F F0 : Nat → Prop} {g gd : Nat} {s : SL} {L : List Res} {Q : Exit → Act → World → Prop} {n : Nat} {env : Env} {ops : Array Oper} {rest : List Oper}
theorem sl_open (h : stars (SlR g gd s :: L) w F) : ∃ a c, stars (blk g 64 [.pointer (some ⟨gd, 0, none⟩), .int .i64 s.base, .int .i64 (s.count : Int), .slice a s.rec'.length c] :: rowR 5 1 a s.rec'.length c (s.rec'.map B8) :: L) w F := by
  obtain ⟨⟨a, c⟩, h⟩ := stars_ex h
  exact ⟨a, c, stars_all h⟩
theorem St.sl {a : Option Addr} {m c : Nat} {base count : Int} {xs : List Value} (h : St w0 F0 (blk g 64 [.pointer (some ⟨gd, 0, none⟩), .int .i64 base, .int .i64 count, .slice a m c] :: rowR 5 1 a m c xs :: L) w)
    (h1 : base = s.base) (h2 : count = (s.count : Int)) (h3 : m = s.rec'.length) (h4 : xs = s.rec'.map B8) : St w0 F0 (SlR g gd s :: L) w := by
  subst h1; subst h2; subst h3; subst h4
  obtain ⟨F, hF, hst⟩ := h
  exact ⟨F, stars_ex_mk (a, c) (stars_all_mk hF), hst⟩
theorem gc_sl {k : Code} {L' : List Res} (hp : Pick L (SlR g gd s) L') (K : ∀ a c, Gc Tryd.prog w0 F0 (blk g 64 [.pointer (some ⟨gd, 0, none⟩), .int .i64 s.base, .int .i64 (s.count : Int), .slice a s.rec'.length c] :: rowR 5 1 a s.rec'.length c (s.rec'.map B8) :: L') k Q n env) : Gc Tryd.prog w0 F0 L k Q n env := fun w hw => by
  obtain ⟨F, hF, hst⟩ := hw.pick hp
  obtain ⟨a, c, h⟩ := sl_open hF
  exact K a c w ⟨F, h, hst⟩
theorem gl_sl {L' : List Res} (hp : Pick L (SlR g gd s) L') (K : ∀ a c, Gl Tryd.prog w0 F0 (blk g 64 [.pointer (some ⟨gd, 0, none⟩), .int .i64 s.base, .int .i64 (s.count : Int), .slice a s.rec'.length c] :: rowR 5 1 a s.rec'.length c (s.rec'.map B8) :: L') ops Q rest n env) : Gl Tryd.prog w0 F0 L ops Q rest n env := fun w hw => by
  obtain ⟨F, hF, hst⟩ := hw.pick hp
  obtain ⟨a, c, h⟩ := sl_open hF
  exact K a c w ⟨F, h, hst⟩
theorem gc_out0 {k : Code} {o : Option SL} {L' : List Res} (hp : Pick L (OutR none gd o) L') (K : o = none → Gc Tryd.prog w0 F0 L' k Q n env) : Gc Tryd.prog w0 F0 L k Q n env := fun w hw => by
  obtain ⟨F, hF, hst⟩ := hw.pick hp
  cases o with
  | none => exact K rfl w ⟨F, (stars_pure hF).2, hst⟩
  | some s => exact (stars_pure hF).1.elim
theorem gc_out1 {k : Code} {o : Option SL} {L' : List Res} (hp : Pick L (OutR (some g) gd o) L') (K : ∀ s, o = some s → Gc Tryd.prog w0 F0 (SlR g gd s :: L') k Q n env) : Gc Tryd.prog w0 F0 L k Q n env := fun w hw => by
  obtain ⟨F, hF, hst⟩ := hw.pick hp
  cases o with
  | none => exact (stars_pure hF).1.elim
  | some s => exact K s rfl w ⟨F, hF, hst⟩
theorem St.out0 {o : Option SL} (e : o = none) (h : St w0 F0 L w) : St w0 F0 (OutR none gd o :: L) w := by
  subst e
  obtain ⟨F, hF, hst⟩ := h
  exact ⟨F, stars_pure_mk trivial hF, hst⟩
theorem St.out1 {o : Option SL} (e : o = some s) (h : St w0 F0 (SlR g gd s :: L) w) : St w0 F0 (OutR (some g) gd o :: L) w := by
  subst e; exact h
end

attribute [local irreducible] Gl Gc Gx Gs Runs Wt

set_option maxHeartbeats 400000 in
theorem format_ok {w : World} {F : Nat → Prop} {g : Nat} {d : DS} (h : stars [DiskR g d] w F) (hk : DOk d) {ea : Nat → Addr} {es : List Nat} [Has es 1] [Has es 6] [Has es 7] [Has es 8] (hE : GErr es w (fun k => ¬ F k) 139 ea) (hK : KR w (fun k => ¬ F k)) {b : Int} :
    Calls Tryd.prog 11 #[.pointer (some ⟨g, 0, none⟩), .int .i64 b] w (Post w F (fun q : Nat => .tuple #[.pointer (if (fmt d b).1 = 0 then some ⟨q, 0, none⟩ else none), eV 139 ea (fmt d b).1]) (fun q => if (fmt d b).1 = 0 then [SlR q g ⟨b, 0, []⟩, DiskR g (fmt d b).2] else [DiskR g (fmt d b).2])) := by
  have hn4 := hk.n
  refine g_enter (env := [(0, .pointer (some ⟨g, 0, none⟩)), (1, .int .i64 b)]) Tryd.func11 rfl h Tryd.ntmps11 rfl rfl ?_
  refine gsr ?_
  refine gp zas ?_
  refine gp zas ?_
  refine gnt ?_
  refine gc_seq ?_
  refine gsr ?_
  refine gp zmv ?_
  refine gp zmv ?_
  refine zc (fun _ => ?_) (c := fun w1 F1 F2 h1 h2 hd hst => right_ok (i := b) h1 hk)
  rw [show (decide (0 ≤ b) && decide (b < (d.n : Int) - 1)) = d.right b from rfl]
  refine gp znt ?_
  refine gnt ?_
  refine gif rfl (fun hc12 => ?_) (fun hc12 => ?_)
  · try simp only at hc12
    have hr : d.right b = false := hc12
    have e : fmt d b = (1, d) := by rw [fmt, if_neg (by rw [hr]; decide)]
    refine gc_seq ?_
    refine gc_regionS (by kernel_rfl) (by kernel_rfl) ?_
    refine sp (r_ld1o rfl Ty.row_26 (hE.c 1 Has.h) (hE.n 1 Has.h)) ?_
    refine sp zas ?_
    refine sp zas ?_
    refine gs_nil ?_
    refine gx_then ?_
    refine gc_ret ?_
    refine gx_then_ret ?_
    refine gx_ret2 rfl (by conv => lhs; whnf) (by conv => lhs; whnf) ?_
    exact fun w' hw => ⟨0, by rw [e]; rfl, by simp only [e, if_neg (show ¬ (1 : Nat) = 0 by decide)]; exact hw.sel (by repeat (first | exact Sel.nil | (apply Sel.cons; · (repeat (first | exact Pick.here | apply Pick.there)))))⟩
  · try simp only at hc12
    have hr : d.right b = true := hc12
    obtain ⟨hb0, hb1⟩ := right_iff.1 hr
    obtain ⟨w1, hw1⟩ : ∃ w1, w1 = d.wr b (slotS 0 []) := ⟨_, rfl⟩
    have hk1 : DOk w1.2 := by rw [hw1]; exact wr_ok hk
    refine gc_skip ?_
    refine gx_then ?_
    refine gc_seq ?_
    refine gsr ?_
    refine gp zmv ?_
    refine gp zmv ?_
    refine zc (fun _ => ?_) (c := fun w1 F1 F2 h1 h2 hd hst => slot_ok (c := 0) (r := []) h1 (hK.mv hst.still) RdRow.nil (Nat.le_refl 0))
    refine zc (fun _ => ?_) (c := fun w1 F1 F2 h1 h2 hd hst => write_ok' (i := b) (v := slotS 0 []) h1 hk (hE.mv hst.still))
    rw [← hw1]
    refine gp zas ?_
    refine gnt ?_
    refine gsr ?_
    refine gp zmv ?_
    refine gp (r_bool (c := decide (¬ w1.1 = 0)) (r_nenil rfl (by kernel_rfl)) (by simp)) ?_
    refine gnt ?_
    refine gif rfl (fun hc19 => ?_) (fun hc19 => ?_)
    · try simp only at hc19
      have e : fmt d b = w1 := by rw [fmt, if_pos hr, ← hw1, if_neg hc19]
      refine gsr ?_
      refine gp zmv ?_
      refine gp zas ?_
      refine gp zas ?_
      refine gnt ?_
      refine gc_ret ?_
      refine gx_then_ret ?_
      refine gx_ret2 rfl (by conv => lhs; whnf) (by conv => lhs; whnf) ?_
      exact fun w' hw => ⟨0, by simp only [e, if_neg hc19], by simp only [e, if_neg hc19]; exact hw.sel (by repeat (first | exact Sel.nil | (apply Sel.cons; · (repeat (first | exact Pick.here | apply Pick.there)))))⟩
    · try simp only at hc19
      have h10 : w1.1 = 0 := by simpa using hc19
      obtain ⟨w2, hw2⟩ : ∃ w2, w2 = w1.2.wr (b + 1) sec0 := ⟨_, rfl⟩
      have hk2 : DOk w2.2 := by rw [hw2]; exact wr_ok hk1
      refine gc_skip ?_
      refine gx_then ?_
      refine gc_seq ?_
      refine gsr ?_
      refine gp zmv ?_
      refine gp zmv ?_
      refine gp zad ?_
      refine gp (zba (cs := sc sec0) (by exact rfl)) ?_
      refine zc (fun _ => ?_) (c := fun w1 F1 F2 h1 h2 hd hst => write_ok' (i := b + 1) (v := sec0) h1 hk1 (hE.mv hst.still))
      rw [← hw2]
      refine gp zas ?_
      refine gnt ?_
      refine gsr ?_
      refine gp zmv ?_
      refine gp (r_bool (c := decide (¬ w2.1 = 0)) (r_nenil rfl (by kernel_rfl)) (by simp)) ?_
      refine gnt ?_
      refine gif rfl (fun hc27 => ?_) (fun hc27 => ?_)
      · try simp only at hc27
        have e : fmt d b = w2 := by rw [fmt, if_pos hr, ← hw1, if_pos h10, ← hw2, if_neg hc27]
        refine gsr ?_
        refine gp zmv ?_
        refine gp zas ?_
        refine gp zas ?_
        refine gnt ?_
        refine gc_ret ?_
        refine gx_then_ret ?_
        refine gx_ret2 rfl (by conv => lhs; whnf) (by conv => lhs; whnf) ?_
        exact fun w' hw => ⟨0, by simp only [e, if_neg hc27], by simp only [e, if_neg hc27]; exact hw.sel (by repeat (first | exact Sel.nil | (apply Sel.cons; · (repeat (first | exact Pick.here | apply Pick.there)))))⟩
      · try simp only at hc27
        have h20 : w2.1 = 0 := by simpa using hc27
        have e : fmt d b = (if (oper w2.2).off = true then 6 else 0, w2.2.syncd) := by rw [fmt, if_pos hr, ← hw1, if_pos h10, ← hw2, if_pos h20]
        refine gc_skip ?_
        refine gx_then ?_
        refine gc_seq ?_
        refine gsr ?_
        refine gp zmv ?_
        refine zc (fun _ => ?_) (c := fun w1 F1 F2 h1 h2 hd hst => sync_ok' h1 hk2 (hE.mv hst.still))
        refine gp zas ?_
        refine gnt ?_
        refine gsr ?_
        refine gp zmv ?_
        refine gp (r_bool (c := (oper w2.2).off) (r_nenil rfl (by kernel_rfl)) (by cases (oper w2.2).off <;> rfl)) ?_
        refine gnt ?_
        refine gif rfl (fun hc32 => ?_) (fun hc32 => ?_)
        · refine gsr ?_
          refine gp zmv ?_
          refine gp zas ?_
          refine gp zas ?_
          refine gnt ?_
          refine gc_ret ?_
          refine gx_then_ret ?_
          refine gx_ret2 rfl (by conv => lhs; whnf) (by conv => lhs; whnf) ?_
          exact fun w' hw => ⟨0, by simp only [e, if_pos hc32, if_neg (show ¬ (6 : Nat) = 0 by decide)], by simp only [e, if_pos hc32, if_neg (show ¬ (6 : Nat) = 0 by decide)]; exact hw.sel (by repeat (first | exact Sel.nil | (apply Sel.cons; · (repeat (first | exact Pick.here | apply Pick.there)))))⟩
        · refine gc_skip ?_
          refine gx_then ?_
          refine gsr ?_
          refine gp zmv ?_
          refine gp zmv ?_
          refine gp zbu ?_
          refine zbN fun b37 => ?_
          refine gp zas ?_
          refine gp zas ?_
          refine gnt ?_
          refine gc_ret ?_
          refine gx_ret2 rfl (by conv => lhs; whnf) (by conv => lhs; whnf) ?_
          have ho : (oper w2.2).off = false := hc32
          have e2 : fmt d b = (0, w2.2.syncd) := by rw [e, if_neg (by rw [ho]; decide)]
          exact fun w' hw => ⟨b37, by rw [e2, eV_zero]; rfl, by simp only [e2, if_pos (show (0 : Nat) = 0 from rfl)]; exact St.sl (s := ⟨b, 0, []⟩) (a := none) (m := 0) (c := 0) (hw.rowNil.sel (by repeat (first | exact Sel.nil | (apply Sel.cons; · (repeat (first | exact Pick.here | apply Pick.there)))))) rfl rfl rfl rfl⟩

set_option maxHeartbeats 400000 in
theorem open_no {w : World} {F : Nat → Prop} {g : Nat} {d : DS} (h : stars [DiskR g d] w F) (hk : DOk d) {ea : Nat → Addr} {es : List Nat} [Has es 1] [Has es 6] [Has es 7] [Has es 8] (hE : GErr es w (fun k => ¬ F k) 139 ea) {b : Int} (hrt : d.right b = false) :
    Calls Tryd.prog 16 #[.pointer (some ⟨g, 0, none⟩), .int .i64 b] w (Post w F (fun _ : Unit => .tuple #[.pointer none, eV 139 ea 1]) (fun _ => [DiskR g d])) := by
  refine g_enter (env := [(0, .pointer (some ⟨g, 0, none⟩)), (1, .int .i64 b)]) Tryd.func16 rfl h Tryd.ntmps16 rfl rfl ?_
  refine gsr ?_
  refine gp zas ?_
  refine gp zas ?_
  refine gnt ?_
  refine gc_seq ?_
  refine gsr ?_
  refine gp zmv ?_
  refine gp zmv ?_
  refine zc (fun _ => ?_) (c := fun w1 F1 F2 h1 h2 hd hst => right_ok (i := b) h1 hk)
  rw [show (decide (0 ≤ b) && decide (b < (d.n : Int) - 1)) = false from hrt]
  refine gp znt ?_
  refine gnt ?_
  refine gc_condT rfl rfl ?_
  refine gc_seq ?_
  refine gc_regionS (by kernel_rfl) (by kernel_rfl) ?_
  refine sp (r_ld1o rfl Ty.row_26 (hE.c 1 Has.h) (hE.n 1 Has.h)) ?_
  refine sp zas ?_
  refine sp zas ?_
  refine gs_nil ?_
  refine gx_then ?_
  refine gc_ret ?_
  refine gx_then_ret ?_
  refine gx_ret2 rfl (by conv => lhs; whnf) (by conv => lhs; whnf) ?_
  exact ze ()

set_option maxHeartbeats 400000 in
theorem record_ok {w : World} {F : Nat → Prop} {g gd : Nat} {s : SL} (h : stars [SlR g gd s] w F) (hs : s.rec'.length ≤ 31) :
    Calls Tryd.prog 12 #[.pointer (some ⟨g, 0, none⟩)] w (Post w F (fun x : Option Addr × Nat => .slice x.1 s.rec'.length x.2) (fun x => [rowR 5 1 x.1 s.rec'.length x.2 (s.rec'.map B8), SlR g gd s])) := by
  obtain ⟨a, c, h⟩ := sl_open h
  refine g_enter (env := [(0, .pointer (some ⟨g, 0, none⟩))]) Tryd.func12 rfl h Tryd.ntmps12 rfl rfl ?_
  refine gsr ?_
  refine gp zas ?_
  refine gnt ?_
  refine gsr ?_
  refine gp zmv ?_
  refine gp znc ?_
  refine gp zfa ?_
  refine gp zl ?_
  refine zc (fun x7 => ?_) (c := fun w1 F1 F2 h1 h2 hd hst => cloneBytes_ok (xs := s.rec'.map B8) h1 (rd_row h2 hd (by repeat (first | exact Pick.here | apply Pick.there))) (one_B8 _) (by omega))
  refine gp zas ?_
  refine gnt ?_
  refine gc_ret ?_
  refine gx_ret1 rfl (by conv => lhs; whnf) ?_
  exact fun w' hw => ⟨x7, rfl, (St.sl (s := s) (gd := gd) (L := [rowR 5 1 x7.1 s.rec'.length x7.2 (s.rec'.map B8)]) (a := a) (hw.sel (by repeat (first | exact Sel.nil | (apply Sel.cons; · (repeat (first | exact Pick.here | apply Pick.there)))))) rfl rfl rfl rfl).sel (by repeat (first | exact Sel.nil | (apply Sel.cons; · (repeat (first | exact Pick.here | apply Pick.there)))))⟩

set_option maxHeartbeats 400000 in
theorem count_ok {w : World} {F : Nat → Prop} {g gd : Nat} {s : SL} (h : stars [SlR g gd s] w F) :
    Calls Tryd.prog 14 #[.pointer (some ⟨g, 0, none⟩)] w (Post w F (fun _ : Unit => .int .i64 (s.count : Int)) (fun _ => [SlR g gd s])) := by
  obtain ⟨a, c, h⟩ := sl_open h
  refine g_enter (env := [(0, .pointer (some ⟨g, 0, none⟩))]) Tryd.func14 rfl h Tryd.ntmps14 rfl rfl ?_
  refine gsr ?_
  refine gp zas ?_
  refine gnt ?_
  refine gsr ?_
  refine gp zmv ?_
  refine gp znc ?_
  refine gp zfa ?_
  refine gp zl ?_
  refine gp zas ?_
  refine gnt ?_
  refine gc_ret ?_
  refine gx_ret1 rfl (by conv => lhs; whnf) ?_
  exact fun w' hw => ⟨(), rfl, St.sl (s := s) (hw.sel (by repeat (first | exact Sel.nil | (apply Sel.cons; · (repeat (first | exact Pick.here | apply Pick.there)))))) rfl rfl rfl rfl⟩

end Go.Proofs.YtffkjjakceojfaaDoor
