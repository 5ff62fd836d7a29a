/- Walks, by program (wg.py) out of a spec. -/
import Derived.Test.YtkgbbnhdioghmaaDoorWd
namespace Go.Proofs.YtkgbbnhdioghmaaDoor
open Go
set_option linter.unusedVariables false
set_option linter.unusedSimpArgs false


def wOut (s : WS) : List UInt8 := if s.err = 0 then s.bs else []
theorem wr_new {w0 w : World} {F0 : Nat → Prop} {TE : TypeId} {ea : Nat → Addr} {g : Nat}
    (h : St w0 F0 [blk g 183 [.nilIface, .slice none 0 0]] w) : St w0 F0 [WrR TE ea g ⟨0, []⟩] w := by
  obtain ⟨F, hF, hst⟩ := h
  have h1 : St w0 F0 [rowR 5 1 none 0 0 [], blk g 183 [.nilIface, .slice none 0 0]] w := ⟨F, stars_row_nil hF, hst⟩
  obtain ⟨F', hF', hst'⟩ := h1.sel (M := [blk g 183 [.nilIface, .slice none 0 0], rowR 5 1 none 0 0 []]) (by repeat (first | exact Sel.nil | (apply Sel.cons; · (repeat (first | exact Pick.here | apply Pick.there)))))
  refine ⟨F', wr_shut (k := 0) (m := 0) (c := 0) (a := none) (xs := []) ?_ rfl rfl rfl, hst'⟩
  rw [eV_zero]; exact hF'
theorem St.rowNil {w0 w : World} {F0 : Nat → Prop} {e size : Nat} {L : List Res} (h : St w0 F0 L w) : St w0 F0 (rowR e size none 0 0 [] :: L) w := by
  obtain ⟨F, hF, hst⟩ := h; exact ⟨F, stars_row_nil hF, hst⟩
theorem RdRow.none {w : World} {A : Nat → Prop} {size n : Nat} {xs : List Value} (h : RdRow w A size none n xs) : n = 0 ∧ xs = [] := by
  have h0 : n = 0 := by
    rcases Nat.eq_zero_or_pos n with h0 | h0
    · exact h0
    · obtain ⟨_, _, ha, _⟩ := h.2.2 h0; cases ha
  subst h0
  exact ⟨rfl, List.length_eq_zero_iff.1 (by simpa using h.1)⟩

attribute [local irreducible] Gl Gc Gx Gs Runs Wt

set_option maxHeartbeats 400000 in
theorem newwriter_ok {w : World} {F : Nat → Prop} {TE : Nat} {ea : Nat → Addr} (h : stars [] w F) :
    Calls Tryd.prog 84 #[] w (Post w F (fun g : Nat => .pointer (some ⟨g, 0, none⟩)) (fun g => [WrR TE ea g ⟨0, []⟩])) := by
  refine g_enter (env := []) Tryd.func84 rfl h Tryd.ntmps84 rfl rfl ?_
  refine gsr ?_
  refine gp zas ?_
  refine gnt ?_
  refine gsr ?_
  refine gp zbu ?_
  refine zbN fun b2 => ?_
  refine gp zas ?_
  refine gnt ?_
  refine gc_ret ?_
  refine gx_ret1 rfl (by conv => lhs; whnf) ?_
  exact fun w' hw => ⟨b2, rfl, wr_new (hw.sel (by repeat (first | exact Sel.nil | (apply Sel.cons; · (repeat (first | exact Pick.here | apply Pick.there))))))⟩

set_option maxHeartbeats 400000 in
theorem cloneBytes_ok {w : World} {F : Nat → Prop} {n c : Nat} {a : Option Addr} {xs : List Value} (h : stars [] w F) (hx : RdRow w (fun k => ¬ F k) 1 a n xs) (h1 : ∀ u ∈ xs, u.oneCell' = true) (hb : n ≤ 1099511627776) :
    Calls Tryd.prog 117 #[.slice a n c] w (Post w F (fun r : Option Addr × Nat => .slice r.1 n r.2) (fun r => [rowR 5 1 r.1 n r.2 xs])) := by
  refine g_enter (env := [(0, .slice a n c)]) Tryd.func117 rfl h Tryd.ntmps117 rfl rfl ?_
  refine gsr ?_
  refine gp zas ?_
  refine gnt ?_
  refine gc_seq ?_
  refine gsr ?_
  refine gp zmv ?_
  refine gp zen ?_
  refine gnt ?_
  refine gif rfl (fun hc4 => ?_) (fun hc4 => ?_)
  · refine gsr ?_
    refine gp zas ?_
    refine gnt ?_
    refine gc_ret ?_
    refine gx_then_ret ?_
    refine gx_ret1 rfl (by conv => lhs; whnf) ?_
    have ha : a = none := by cases a <;> simp_all
    subst ha
    obtain ⟨rfl, rfl⟩ := hx.none
    exact fun w' hw => ⟨(none, 0), rfl, hw.rowNil.sel (by repeat (first | exact Sel.nil | (apply Sel.cons; · (repeat (first | exact Pick.here | apply Pick.there)))))⟩
  · refine gc_skip ?_
    refine gx_then ?_
    refine gsr ?_
    refine ze0 fun b5 => ?_
    refine gp zmv ?_
    refine gl_append (wt0 rfl) rfl rfl (by repeat (first | exact Pick.here | apply Pick.there)) Ty.el_33 (fun w' hw => hw.rdOld hx) h1 (by simp only [maxLen]; omega) (by omega) ?_
    intro a1 c1
    refine gp zas ?_
    refine gnt ?_
    refine gc_ret ?_
    refine gx_ret1 rfl (by conv => lhs; whnf) ?_
    rw [Nat.zero_add]
    exact fun w' hw => ⟨(a1, c1), rfl, hw.sel (by repeat (first | exact Sel.nil | (apply Sel.cons; · (repeat (first | exact Pick.here | apply Pick.there)))))⟩

set_option maxHeartbeats 400000 in
theorem done_ok {w : World} {F : Nat → Prop} {g TE : Nat} {ea : Nat → Addr} {s : WS} (h : stars [WrR TE ea g s] w F) (hb : s.bs.length ≤ 1099511627776) :
    Calls Tryd.prog 85 #[.pointer (some ⟨g, 0, none⟩)] w (Post w F (fun r : Option Addr × Nat => .tuple #[.slice r.1 (wOut (s)).length r.2, eV TE ea (s).err]) (fun r => [rowR 5 1 r.1 (wOut (s)).length r.2 ((wOut (s)).map B8)])) := by
  obtain ⟨a0, c0, h'⟩ := wr_open h
  refine g_enter (env := [(0, .pointer (some ⟨g, 0, none⟩))]) Tryd.func85 rfl h' Tryd.ntmps85 rfl rfl ?_
  refine gsr ?_
  refine gp zas ?_
  refine gp zas ?_
  refine gnt ?_
  refine gc_seq ?_
  refine gsr ?_
  refine gp zmv ?_
  refine gp znc ?_
  refine gp zfa ?_
  refine gp zfa ?_
  refine gp zl ?_
  refine gp (r_nenil rfl (by kernel_rfl)) ?_
  refine gnt ?_
  refine gif rfl (fun hc9 => ?_) (fun hc9 => ?_)
  · refine gc_seq ?_
    refine gc_regionS (by kernel_rfl) (by kernel_rfl) ?_
    refine sp zmv ?_
    refine sp znc ?_
    refine sp zfa ?_
    refine sp zfa ?_
    refine sp zl ?_
    refine sp zas ?_
    refine sp zas ?_
    refine gs_nil ?_
    refine gx_then ?_
    refine gc_ret ?_
    refine gx_then_ret ?_
    refine gx_ret2 rfl (by conv => lhs; whnf) (by conv => lhs; whnf) ?_
    exact fun w' hw => ⟨(none, 0), by simp [wOut, hc9], by simpa [wOut, hc9] using hw.rowNil.sel (by repeat (first | exact Sel.nil | (apply Sel.cons; · (repeat (first | exact Pick.here | apply Pick.there)))))⟩
  · refine gc_skip ?_
    refine gx_then ?_
    refine gsr ?_
    refine gp zmv ?_
    refine gp znc ?_
    refine gp zfa ?_
    refine gp zl ?_
    refine zc (fun r19 => ?_) (c := fun w1 F1 F2 h1 h2 hd hst => cloneBytes_ok (xs := s.bs.map B8) h1 (rd_row h2 hd (by repeat (first | exact Pick.here | apply Pick.there))) (one_B8 _) (by omega))
    refine gp zas ?_
    refine gp zas ?_
    refine gnt ?_
    refine gc_ret ?_
    refine gx_ret2 rfl (by conv => lhs; whnf) (by conv => lhs; whnf) ?_
    have e : wOut s = s.bs := by simp [wOut, hc9]
    rw [e]
    exact fun w' hw => ⟨r19, by rw [hc9, eV_zero], hw.sel (by repeat (first | exact Sel.nil | (apply Sel.cons; · (repeat (first | exact Pick.here | apply Pick.there)))))⟩

set_option maxHeartbeats 400000 in
theorem written_ok {w : World} {F : Nat → Prop} {b T k TE : Nat} {ea : Nat → Addr} {cs : List Value} {fw : WS → WS} (h : stars [blk b T cs] w F) (hok : okCall Tryd.prog k = true) (hk : ∀ g w1 F1, stars [WrR TE ea g ⟨0, []⟩, blk b T cs] w1 F1 → Still w (fun k => ¬ F k) w1 (fun k => ¬ F1 k) → Calls Tryd.prog k #[.agg (List.toArray [.pointer (some ⟨g, 0, none⟩)]), .pointer (some ⟨b, 0, none⟩)] w1 (Post w1 F1 (fun _ : Unit => .tuple #[]) (fun _ => [WrR TE ea g (fw ⟨0, []⟩), blk b T cs]))) (hb : (fw ⟨0, []⟩).bs.length ≤ 1099511627776) :
    Calls Tryd.prog 43 #[.func (.func k) #[] (List.toArray [.pointer (some ⟨b, 0, none⟩)])] w (Post w F (fun r : Option Addr × Nat => .tuple #[.slice r.1 (wOut (fw ⟨0, []⟩)).length r.2, eV TE ea (fw ⟨0, []⟩).err]) (fun r => [rowR 5 1 r.1 (wOut (fw ⟨0, []⟩)).length r.2 ((wOut (fw ⟨0, []⟩)).map B8)])) := by
  refine g_enter (env := [(0, .func (.func k) #[] (List.toArray [.pointer (some ⟨b, 0, none⟩)]))]) Tryd.func43 rfl h Tryd.ntmps43 rfl rfl ?_
  refine gsr ?_
  refine gp zas ?_
  refine gp zas ?_
  refine gnt ?_
  refine gsr ?_
  refine zc (fun g => ?_) (c := fun w1 F1 F2 h1 h2 hd hst => newwriter_ok (TE := TE) (ea := ea) h1)
  refine gp zbu ?_
  refine zal fun b4 => ?_
  refine zsN ?_
  refine gnt ?_
  refine gsr ?_
  refine gp zmv ?_
  refine gp zL ?_
  refine gl_call (wt0 rfl) (e_callv (us := [.pointer (some ⟨b, 0, none⟩)]) rfl hok rfl) (by repeat (first | exact Sel.nil | (apply Sel.cons; · (repeat (first | exact Pick.here | apply Pick.there))))) (fun w1 F1 F2 h1 h2 hd hst => hk _ _ _ h1 hst.still) ?_
  intro _
  refine gnt ?_
  refine gsr ?_
  refine gp zfa ?_
  refine gp zl ?_
  refine zc (fun r12 => ?_) (c := fun w1 F1 F2 h1 h2 hd hst => done_ok h1 hb)
  refine gp zex ?_
  refine gp zex ?_
  refine gp zas ?_
  refine gp zas ?_
  refine gnt ?_
  refine gc_ret ?_
  refine gx_ret2 rfl (by conv => lhs; whnf) (by conv => lhs; whnf) ?_
  exact ze r12

set_option maxHeartbeats 400000 in
theorem bytes1_ok {w : World} {F : Nat → Prop} {g TE : Nat} {ea : Nat → Addr} {s : WS} {b : Nat} {cs : List Value} {x : Block} (h : stars [WrR TE ea g s, blk b 30 cs] w F) {es : List Nat} [Has es 1] (hE : GErr es w (fun k => ¬ F k) TE ea) (hx : RdBlock w (fun k => ¬ F k) cs x) (hb : s.bs.length + 8485 ≤ 1099511627776) :
    Calls Tryd.prog 44 #[.agg (List.toArray [.pointer (some ⟨g, 0, none⟩)]), .pointer (some ⟨b, 0, none⟩)] w (Post w F (fun _ : Unit => .tuple #[]) (fun _ => [WrR TE ea g (wBlock x s), blk b 30 cs])) := by
  have hl := hx.len
  refine g_enter (env := [(0, .agg (List.toArray [.pointer (some ⟨g, 0, none⟩)])), (1, .pointer (some ⟨b, 0, none⟩))]) Tryd.func44 rfl h Tryd.ntmps44 rfl rfl ?_
  refine gsr ?_
  refine zbN fun b2 => ?_
  refine gnt ?_
  refine gc_region ?_
  refine gp zL ?_
  refine gp (r_ldN rfl Ty.row_30 Ty.sz_30 (by repeat (first | exact Pick.here | apply Pick.there)) (seg_all hl) hl) ?_
  refine zc (fun _ => ?_) (c := fun w1 F1 F2 h1 h2 hd hst => block_ok h1 (hE.mv hst.still) (hx.mv hst.still) hb)
  refine gl_nil ?_
  refine gx_ret0' rfl ?_
  exact ze ()

set_option maxHeartbeats 400000 in
theorem bytes_ok {w : World} {F : Nat → Prop} {TE : Nat} {ea : Nat → Addr} {cs : List Value} {x : Block} (h : stars [] w F) {es : List Nat} [Has es 1] (hE : GErr es w (fun k => ¬ F k) TE ea) (hx : RdBlock w (fun k => ¬ F k) cs x) :
    Calls Tryd.prog 13 #[.agg cs.toArray] w (Post w F (fun r : Option Addr × Nat => .tuple #[.slice r.1 (wOut (wBlock x ⟨0, []⟩)).length r.2, eV TE ea (wBlock x ⟨0, []⟩).err]) (fun r => [rowR 5 1 r.1 (wOut (wBlock x ⟨0, []⟩)).length r.2 ((wOut (wBlock x ⟨0, []⟩)).map B8)])) := by
  refine g_enter (env := [(0, .agg cs.toArray)]) Tryd.func13 rfl h Tryd.ntmps13 rfl rfl ?_
  refine gsr ?_
  refine zbN fun b1 => ?_
  refine gp zas ?_
  refine gp zas ?_
  refine gnt ?_
  refine gsr ?_
  refine gp zmf ?_
  refine zc (fun r5 => ?_) (c := fun w1 F1 F2 h1 h2 hd hst => written_ok (fw := wBlock x) h1 Ty.call_44 (fun g w2 F3 h2 hs2 => bytes1_ok h2 ((hE.mv hst.still).mv hs2) ((hx.mv hst.still).mv hs2) (by simp)) (by have e0 := wBlock_len x ⟨0, []⟩; simp at e0 ⊢; omega))
  refine gp zex ?_
  refine gp zex ?_
  refine gp zas ?_
  refine gp zas ?_
  refine gnt ?_
  refine gc_ret ?_
  refine gx_ret2 rfl (by conv => lhs; whnf) (by conv => lhs; whnf) ?_
  exact ze r5

end Go.Proofs.YtkgbbnhdioghmaaDoor
