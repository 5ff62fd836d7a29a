/- Walks, by program (wg.py) out of a spec. -/
import Derived.Test.YtffkjjakceojfaaDoorZc
namespace Go.Proofs.YtffkjjakceojfaaDoor
open Go
set_option linter.unusedVariables false
set_option linter.unusedSimpArgs false

attribute [local irreducible] Gl Gc Gx Gs Runs Wt

set_option maxHeartbeats 400000 in
theorem open_ok {w : World} {F : Nat → Prop} {g : Nat} {d : DS} (h : stars [DiskR g d] w F) (hk : DOk d) (hoff : d.off = false) {ea : Nat → Addr} {es : List Nat} [Has es 1] [Has es 6] [Has es 7] [Has es 8] (hE : GErr es w (fun k => ¬ F k) 139 ea) (hK : KR w (fun k => ¬ F k)) {b : Int} (hrt : d.right b = true) :
    Calls Tryd.prog 16 #[.pointer (some ⟨g, 0, none⟩), .int .i64 b] w (Post w F (fun q : Nat => .tuple #[.pointer ((opn d b).map fun _ => ⟨q, 0, none⟩), eV 139 ea (if (opn d b).isSome then 0 else 7)]) (fun q => match opn d b with | none => [DiskR g d] | some s => [SlR q g s, DiskR g d])) := by
  have hn4 := hk.n
  obtain ⟨hb0, hb1⟩ := right_iff.1 hrt
  refine g_enter (env := [(0, .pointer (some ⟨g, 0, none⟩)), (1, .int .i64 b)]) Tryd.func16 rfl h Tryd.ntmps16 rfl rfl ?_
  refine gsr ?_
  refine gp zas ?_
  refine gp zas ?_
  refine gnt ?_
  refine gc_seq ?_
  refine gsr ?_
  refine gp zmv ?_
  refine gp zmv ?_
  refine zc (fun _ => ?_) (c := fun w1 F1 F2 h1 h2 hd hst => right_ok (i := b) h1 hk)
  rw [show (decide (0 ≤ b) && decide (b < (d.n : Int) - 1)) = true from hrt]
  refine gp znt ?_
  refine gnt ?_
  refine gc_condF rfl rfl ?_
  refine gc_skip ?_
  refine gx_then ?_
  refine gsr ?_
  refine gp zas ?_
  refine gnt ?_
  refine gc_seq ?_
  refine gsr ?_
  refine gp zmv ?_
  refine gnt ?_
  refine gc_block ?_
  refine gc_loop (α := Nat × Option Nat) (fun q => [pureR (q.1 ≤ 2), OutR q.2 g (opnAt d b q.1), DiskR g d]) (fun q => [(18, .int .i64 (q.1 : Int)), (6, .pointer (q.2.map fun x => ⟨x, 0, none⟩))]) [4, 5, 7, 8, 9, 10, 11, 12, 19, 20, 21, 22, 23, 24, 25, 26, 27, 28, 29, 30, 31, 32, 33, 34, 35, 36, 37, 38, 39, 40, 41, 42, 43, 44, 45, 46, 47, 48, 49, 50, 51, 52, 53, 54, 55, 56, 57, 58] (fun q => 2 - q.1) (0, none) ?_ ?_ ?_
  · refine env_start (by kernel_rfl)
  · exact fun w' hw => zlp (Nat.zero_le _) (by repeat (first | exact Sel.nil | (apply Sel.cons; · (repeat (first | exact Pick.here | apply Pick.there))))) w' (St.out0 (gd := g) (o := opnAt d b 0) (L := [DiskR g d]) rfl (hw.sel (by repeat (first | exact Sel.nil | (apply Sel.cons; · (repeat (first | exact Pick.here | apply Pick.there)))))))
  · intro q u
    obtain ⟨p, go⟩ := q
    refine gc_pureR (fun hp => ?_)
    replace hp : p ≤ 2 := hp
    refine gc_seq ?_
    by_cases hgo : go = none
    · subst hgo
      refine gc_out0 (o := opnAt d b p) (by repeat (first | exact Pick.here | apply Pick.there)) (fun ho => ?_)
      refine gc_region ?_
      refine gp zlt ?_
      refine gnt ?_
      refine gc_seq ?_
      refine gif rfl (fun hc19 => ?_) (fun hc19 => ?_)
      · try simp only at hc19
        have hp' : p < 2 := by omega
        have erd : d.rd (b + (p : Int)) = (0, (d.at (b + (p : Int)).toNat)) := rd_at (has_iff.2 ⟨by omega, by omega⟩) hoff
        refine gc_skip ?_
        refine gx_then ?_
        refine gc_seq ?_
        refine gc_block ?_
        refine gsr ?_
        refine gp zmv ?_
        refine gp zas ?_
        refine gnt ?_
        refine gsr ?_
        refine gp zmv ?_
        refine gp zmv ?_
        refine gp zmv ?_
        refine gp zad ?_
        refine zc (fun _ => ?_) (c := fun w1 F1 F2 h1 h2 hd hst => read_ok (i := b + (p : Int)) h1 (hE.mv hst.still))
        rw [erd]
        refine gp zmv ?_
        refine gp zex ?_
        refine gp zex ?_
        refine zal fun b8 => ?_
        refine zsA (new := sc ((d.at (b + (p : Int)).toNat))) (sc_length _) (sc_one _) ?_
        refine gp zas ?_
        refine gnt ?_
        refine gc_seq ?_
        refine gsr ?_
        refine gp zmv ?_
        refine gp (r_bool (c := false) (r_nenil rfl (by kernel_rfl)) rfl) ?_
        refine gnt ?_
        refine gc_condF rfl rfl ?_
        refine gc_skip ?_
        refine gx_then ?_
        refine gc_seq ?_
        by_cases hS : rdSlot (d.at (b + (p : Int)).toNat) p = none
        · refine gc_region ?_
          refine gp (zL (sg := sc (d.at (b + (p : Int)).toNat))) ?_
          refine gp zmv ?_
          refine zc (fun _ => ?_) (c := fun w1 F1 F2 h1 h2 hd hst => read_none (s := (d.at (b + (p : Int)).toNat)) (p := p) h1 (hK.mv hst.still) hS)
          refine gp zmv ?_
          refine gp zex ?_
          refine gp zex ?_
          refine gp zex ?_
          refine gp zas ?_
          refine gp zas ?_
          refine gp zas ?_
          refine gnt ?_
          refine gsr ?_
          refine gp zmv ?_
          refine gp zmv ?_
          refine gn ?_
          refine gn ?_
          refine gn ?_
          refine gn ?_
          refine gn ?_
          refine gn ?_
          refine gn ?_
          refine gn ?_
          refine gn ?_
          refine gn ?_
          refine gp zpk ?_
          refine gnt ?_
          refine gc_condF rfl rfl ?_
          refine gc_skip ?_
          refine gx_block_normal ?_
          refine gx_then ?_
          refine gc_region ?_
          refine gp zad ?_
          refine gp zmv ?_
          refine gl_nil ?_
          refine zrd ((p + 1, none)) ?_ ?_
          · show 2 - (p + 1) < 2 - p
            omega
          · exact fun w' hw => zlp (show p + 1 ≤ 2 by omega) (by repeat (first | exact Sel.nil | (apply Sel.cons; · (repeat (first | exact Pick.here | apply Pick.there))))) w' (St.out0 (gd := g) (L := [DiskR g d]) (opn_skip ho hS) (hw.sel (by repeat (first | exact Sel.nil | (apply Sel.cons; · (repeat (first | exact Pick.here | apply Pick.there)))))))
        · obtain ⟨⟨c, r⟩, hS⟩ := Option.ne_none_iff_exists'.1 hS
          refine gc_region ?_
          refine gp (zL (sg := sc (d.at (b + (p : Int)).toNat))) ?_
          refine gp zmv ?_
          refine zc (fun x35 => ?_) (c := fun w1 F1 F2 h1 h2 hd hst => read_some (s := (d.at (b + (p : Int)).toNat)) (p := p) (c := c) (r := r) h1 (hK.mv hst.still) hS)
          refine gp zmv ?_
          refine gp zex ?_
          refine gp zex ?_
          refine gp zex ?_
          refine gp zas ?_
          refine gp zas ?_
          refine gp zas ?_
          refine gnt ?_
          refine gsr ?_
          refine gp zmv ?_
          refine gp zmv ?_
          refine gq zmv ?_
          refine gq (r_bool (c := true) (r_eqpn rfl Ty.un_29) rfl) ?_
          refine gq zmv ?_
          refine gn ?_
          refine gn ?_
          refine gn ?_
          refine gn ?_
          refine gn ?_
          refine gn ?_
          refine gq zpk ?_
          refine gp zpk ?_
          refine gnt ?_
          refine gc_condT rfl rfl ?_
          refine gc_region ?_
          refine gp zmv ?_
          refine gp zmv ?_
          refine gp zmv ?_
          refine gp zmv ?_
          refine gp zbu ?_
          refine zbN fun b57 => ?_
          refine gp zas ?_
          refine gl_nil ?_
          refine gx_block_normal ?_
          refine gx_then ?_
          refine gc_region ?_
          refine gp zad ?_
          refine gp zmv ?_
          refine gl_nil ?_
          refine zrd ((p + 1, some b57)) ?_ ?_
          · show 2 - (p + 1) < 2 - p
            omega
          · exact fun w' hw => zlp (show p + 1 ≤ 2 by omega) (by repeat (first | exact Sel.nil | (apply Sel.cons; · (repeat (first | exact Pick.here | apply Pick.there))))) w' (St.out1 (L := [DiskR g d]) (opn_new ho hS) (St.sl (s := ⟨b, c, r⟩) (hw.sel (by repeat (first | exact Sel.nil | (apply Sel.cons; · (repeat (first | exact Pick.here | apply Pick.there)))))) rfl rfl rfl rfl))
      · try simp only at hc19
        have hp' : p = 2 := by omega
        subst hp'
        refine gc_exit ?_
        refine gx_then_exit ?_
        refine gx_round_exit ?_
        refine gx_block_hit ?_
        refine gx_then ?_
        refine gc_seq ?_
        refine gsr ?_
        refine gp zmv ?_
        refine gp (r_bool (c := true) (r_eqpn rfl Ty.un_29) rfl) ?_
        refine gnt ?_
        refine gc_condT rfl rfl ?_
        refine gc_seq ?_
        refine gc_regionS (by kernel_rfl) (by kernel_rfl) ?_
        refine sp (r_ld1o rfl Ty.row_26 (hE.c 7 Has.h) (hE.n 7 Has.h)) ?_
        refine sp zas ?_
        refine sp zas ?_
        refine gs_nil ?_
        refine gx_then ?_
        refine gc_ret ?_
        refine gx_then_ret ?_
        refine gx_ret2 rfl (by conv => lhs; whnf) (by conv => lhs; whnf) ?_
        exact fun w' hw => ⟨0, by rw [show opn d b = none from ho]; rfl, by simp only [show opn d b = none from ho]; exact hw.sel (by repeat (first | exact Sel.nil | (apply Sel.cons; · (repeat (first | exact Pick.here | apply Pick.there)))))⟩
    · obtain ⟨g6, rfl⟩ : ∃ g6, go = some g6 := Option.ne_none_iff_exists'.1 hgo
      refine gc_out1 (o := opnAt d b p) (by repeat (first | exact Pick.here | apply Pick.there)) (fun s6 ho => ?_)
      refine gc_region ?_
      refine gp zlt ?_
      refine gnt ?_
      refine gc_seq ?_
      refine gif rfl (fun hc19 => ?_) (fun hc19 => ?_)
      · try simp only at hc19
        have hp' : p < 2 := by omega
        have erd : d.rd (b + (p : Int)) = (0, (d.at (b + (p : Int)).toNat)) := rd_at (has_iff.2 ⟨by omega, by omega⟩) hoff
        refine gc_skip ?_
        refine gx_then ?_
        refine gc_seq ?_
        refine gc_block ?_
        refine gsr ?_
        refine gp zmv ?_
        refine gp zas ?_
        refine gnt ?_
        refine gsr ?_
        refine gp zmv ?_
        refine gp zmv ?_
        refine gp zmv ?_
        refine gp zad ?_
        refine zc (fun _ => ?_) (c := fun w1 F1 F2 h1 h2 hd hst => read_ok (i := b + (p : Int)) h1 (hE.mv hst.still))
        rw [erd]
        refine gp zmv ?_
        refine gp zex ?_
        refine gp zex ?_
        refine zal fun b8 => ?_
        refine zsA (new := sc ((d.at (b + (p : Int)).toNat))) (sc_length _) (sc_one _) ?_
        refine gp zas ?_
        refine gnt ?_
        refine gc_seq ?_
        refine gsr ?_
        refine gp zmv ?_
        refine gp (r_bool (c := false) (r_nenil rfl (by kernel_rfl)) rfl) ?_
        refine gnt ?_
        refine gc_condF rfl rfl ?_
        refine gc_skip ?_
        refine gx_then ?_
        refine gc_seq ?_
        by_cases hS : rdSlot (d.at (b + (p : Int)).toNat) p = none
        · refine gc_region ?_
          refine gp (zL (sg := sc (d.at (b + (p : Int)).toNat))) ?_
          refine gp zmv ?_
          refine zc (fun _ => ?_) (c := fun w1 F1 F2 h1 h2 hd hst => read_none (s := (d.at (b + (p : Int)).toNat)) (p := p) h1 (hK.mv hst.still) hS)
          refine gp zmv ?_
          refine gp zex ?_
          refine gp zex ?_
          refine gp zex ?_
          refine gp zas ?_
          refine gp zas ?_
          refine gp zas ?_
          refine gnt ?_
          refine gsr ?_
          refine gp zmv ?_
          refine gp zmv ?_
          refine gn ?_
          refine gn ?_
          refine gn ?_
          refine gn ?_
          refine gn ?_
          refine gn ?_
          refine gn ?_
          refine gn ?_
          refine gn ?_
          refine gn ?_
          refine gp zpk ?_
          refine gnt ?_
          refine gc_condF rfl rfl ?_
          refine gc_skip ?_
          refine gx_block_normal ?_
          refine gx_then ?_
          refine gc_region ?_
          refine gp zad ?_
          refine gp zmv ?_
          refine gl_nil ?_
          refine zrd ((p + 1, some g6)) ?_ ?_
          · show 2 - (p + 1) < 2 - p
            omega
          · exact fun w' hw => zlp (show p + 1 ≤ 2 by omega) (by repeat (first | exact Sel.nil | (apply Sel.cons; · (repeat (first | exact Pick.here | apply Pick.there))))) w' (St.out1 (L := [DiskR g d]) (opn_skip ho hS) (hw.sel (by repeat (first | exact Sel.nil | (apply Sel.cons; · (repeat (first | exact Pick.here | apply Pick.there)))))))
        · obtain ⟨⟨c, r⟩, hS⟩ := Option.ne_none_iff_exists'.1 hS
          refine gc_region ?_
          refine gp (zL (sg := sc (d.at (b + (p : Int)).toNat))) ?_
          refine gp zmv ?_
          refine zc (fun x35 => ?_) (c := fun w1 F1 F2 h1 h2 hd hst => read_some (s := (d.at (b + (p : Int)).toNat)) (p := p) (c := c) (r := r) h1 (hK.mv hst.still) hS)
          refine gp zmv ?_
          refine gp zex ?_
          refine gp zex ?_
          refine gp zex ?_
          refine gp zas ?_
          refine gp zas ?_
          refine gp zas ?_
          refine gnt ?_
          refine gc_seq ?_
          by_cases hcnt : s6.count < c
          · refine gc_sl (s := s6) (by repeat (first | exact Pick.here | apply Pick.there)) (fun a6 c6 => ?_)
            refine gc_region ?_
            refine gp zmv ?_
            refine gp zmv ?_
            refine gq zmv ?_
            refine gq (r_bool (c := false) (r_eqpn rfl Ty.un_29) rfl) ?_
            refine gq zmv ?_
            refine gq zmv ?_
            refine gq zmv ?_
            refine gq znc ?_
            refine gq zfa ?_
            refine gq zl ?_
            refine gq (r_bool (c := true) zgt (decide_eq_true (by omega))) ?_
            refine gq zpk ?_
            refine gp zpk ?_
            refine gnt ?_
            refine gc_condT rfl rfl ?_
            refine gc_region ?_
            refine gp zmv ?_
            refine gp zmv ?_
            refine gp zmv ?_
            refine gp zmv ?_
            refine gp zbu ?_
            refine zbN fun b57 => ?_
            refine gp zas ?_
            refine gl_nil ?_
            refine gx_block_normal ?_
            refine gx_then ?_
            refine gc_region ?_
            refine gp zad ?_
            refine gp zmv ?_
            refine gl_nil ?_
            refine zrd ((p + 1, some b57)) ?_ ?_
            · show 2 - (p + 1) < 2 - p
              omega
            · exact fun w' hw => zlp (show p + 1 ≤ 2 by omega) (by repeat (first | exact Sel.nil | (apply Sel.cons; · (repeat (first | exact Pick.here | apply Pick.there))))) w' (St.out1 (L := [DiskR g d]) (opn_more ho hS hcnt) (St.sl (s := ⟨b, c, r⟩) (hw.sel (by repeat (first | exact Sel.nil | (apply Sel.cons; · (repeat (first | exact Pick.here | apply Pick.there)))))) rfl rfl rfl rfl))
          · refine gc_sl (s := s6) (by repeat (first | exact Pick.here | apply Pick.there)) (fun a6 c6 => ?_)
            refine gc_region ?_
            refine gp zmv ?_
            refine gp zmv ?_
            refine gq zmv ?_
            refine gq (r_bool (c := false) (r_eqpn rfl Ty.un_29) rfl) ?_
            refine gq zmv ?_
            refine gq zmv ?_
            refine gq zmv ?_
            refine gq znc ?_
            refine gq zfa ?_
            refine gq zl ?_
            refine gq (r_bool (c := false) zgt (decide_eq_false (by omega))) ?_
            refine gq zpk ?_
            refine gp zpk ?_
            refine gnt ?_
            refine gc_condF rfl rfl ?_
            refine gc_skip ?_
            refine gx_block_normal ?_
            refine gx_then ?_
            refine gc_region ?_
            refine gp zad ?_
            refine gp zmv ?_
            refine gl_nil ?_
            refine zrd ((p + 1, some g6)) ?_ ?_
            · show 2 - (p + 1) < 2 - p
              omega
            · exact fun w' hw => zlp (show p + 1 ≤ 2 by omega) (by repeat (first | exact Sel.nil | (apply Sel.cons; · (repeat (first | exact Pick.here | apply Pick.there))))) w' (St.out1 (L := [DiskR g d]) (opn_less ho hS hcnt) (St.sl (s := s6) (hw.sel (by repeat (first | exact Sel.nil | (apply Sel.cons; · (repeat (first | exact Pick.here | apply Pick.there)))))) rfl rfl rfl rfl))
      · try simp only at hc19
        have hp' : p = 2 := by omega
        subst hp'
        refine gc_exit ?_
        refine gx_then_exit ?_
        refine gx_round_exit ?_
        refine gx_block_hit ?_
        refine gx_then ?_
        refine gc_seq ?_
        refine gsr ?_
        refine gp zmv ?_
        refine gp (r_bool (c := false) (r_eqpn rfl Ty.un_29) rfl) ?_
        refine gnt ?_
        refine gc_condF rfl rfl ?_
        refine gc_skip ?_
        refine gx_then ?_
        refine gsr ?_
        refine gp zmv ?_
        refine gp zas ?_
        refine gp zas ?_
        refine gnt ?_
        refine gc_ret ?_
        refine gx_ret2 rfl (by conv => lhs; whnf) (by conv => lhs; whnf) ?_
        exact fun w' hw => ⟨g6, by rw [show opn d b = some s6 from ho]; simp only [Option.map_some, Option.isSome_some, if_true]; rw [eV_zero], by simp only [show opn d b = some s6 from ho]; exact hw.sel (by repeat (first | exact Sel.nil | (apply Sel.cons; · (repeat (first | exact Pick.here | apply Pick.there)))))⟩

set_option maxHeartbeats 400000 in
theorem put_ok' {w : World} {F : Nat → Prop} {g gd : Nat} {d : DS} {s : SL} (h : stars [SlR g gd s, DiskR gd d] w F) (hk : DOk d) {ea : Nat → Addr} {es : List Nat} [Has es 1] [Has es 6] [Has es 7] [Has es 8] (hE : GErr es w (fun k => ¬ F k) 139 ea) (hK : KR w (fun k => ¬ F k)) (hb : 0 ≤ s.base ∧ s.base ≤ 4096) (hc : s.count < 9223372036854775808) {r : List UInt8} {a : Option Addr} {n cc : Nat} (hr : RdRow w (fun k => ¬ F k) 1 a n (r.map B8)) (hcc : n ≤ cc) :
    Calls Tryd.prog 13 #[.pointer (some ⟨g, 0, none⟩), .slice a n cc] w (Post w F (fun _ : Unit => eV 139 ea (put d s r).1) (fun _ => [SlR g gd (put d s r).2.2, DiskR gd (put d s r).2.1])) := by
  obtain ⟨hb0, hb1⟩ := hb
  have hn : n = r.length := by have := hr.1; simp at this; omega
  have hmx := hr.2.1
  simp only [maxLen] at hmx
  obtain ⟨a0, c0, h⟩ := sl_open h
  refine g_enter (env := [(0, .pointer (some ⟨g, 0, none⟩)), (1, .slice a n cc)]) Tryd.func13 rfl h Tryd.ntmps13 rfl rfl ?_
  refine gsr ?_
  refine gp zas ?_
  refine gnt ?_
  refine gc_seq ?_
  refine gc_block ?_
  refine gsr ?_
  refine gp zmv ?_
  refine gp zln ?_
  refine gp zgt ?_
  refine gp zas ?_
  refine gnt ?_
  refine gif rfl (fun hc8 => ?_) (fun hc8 => ?_)
  · try simp only at hc8
    have e : put d s r = (1, d, s) := by rw [put, if_pos (by omega)]
    refine gsr ?_
    refine gp (r_ld1o rfl Ty.row_26 (hE.c 1 Has.h) (hE.n 1 Has.h)) ?_
    refine gp zas ?_
    refine gnt ?_
    refine gc_ret ?_
    refine gx_block_ret ?_
    refine gx_then_ret ?_
    refine gx_ret1 rfl (by conv => lhs; whnf) ?_
    exact fun w' hw => ⟨(), by rw [e], by rw [e]; exact St.sl (s := s) (L := [DiskR gd d]) (hw.sel (by repeat (first | exact Sel.nil | (apply Sel.cons; · (repeat (first | exact Pick.here | apply Pick.there)))))) rfl rfl rfl rfl⟩
  · try simp only at hc8
    have h31 : ¬ 31 < r.length := by omega
    refine gsr ?_
    refine gp zmv ?_
    refine gp znc ?_
    refine gp zfa ?_
    refine gp zl ?_
    refine gp zei ?_
    refine gp zas ?_
    refine gnt ?_
    refine gif rfl (fun hc13 => ?_) (fun hc13 => ?_)
    · try simp only at hc13
      have e : put d s r = (8, d, s) := by rw [put, if_neg h31, if_pos (by omega)]
      refine gsr ?_
      refine gp (r_ld1o rfl Ty.row_26 (hE.c 8 Has.h) (hE.n 8 Has.h)) ?_
      refine gp zas ?_
      refine gnt ?_
      refine gc_ret ?_
      refine gx_block_ret ?_
      refine gx_then_ret ?_
      refine gx_ret1 rfl (by conv => lhs; whnf) ?_
      exact fun w' hw => ⟨(), by rw [e], by rw [e]; exact St.sl (s := s) (L := [DiskR gd d]) (hw.sel (by repeat (first | exact Sel.nil | (apply Sel.cons; · (repeat (first | exact Pick.here | apply Pick.there)))))) rfl rfl rfl rfl⟩
    · try simp only at hc13
      have hmx1 : ¬ s.count = 9223372036854775807 := by omega
      obtain ⟨w1, hw1⟩ : ∃ w1, w1 = (d.wr (s.base + (((s.count + 1) % 2 : Nat) : Int)) (slotS ((s.count + 1 : Nat) : Int) r)) := ⟨_, rfl⟩
      have hk1 : DOk w1.2 := by rw [hw1]; exact wr_ok hk
      refine gc_skip ?_
      refine gx_block_normal ?_
      refine gx_then ?_
      refine gsr ?_
      refine gp zmv ?_
      refine gp znc ?_
      refine gp zfa ?_
      refine gp zl ?_
      refine gp (r_int (j := ((s.count + 1 : Nat) : Int)) zad (by omega)) ?_
      refine gp zas ?_
      refine gnt ?_
      refine gc_seq ?_
      refine gc_seq ?_
      refine gc_regionZ 15 ([blk g 64 [.pointer (some ⟨gd, 0, none⟩), .int .i64 s.base, .int .i64 (s.count : Int), .slice a0 s.rec'.length c0]]) ?_
      refine yps 0 rfl zmv ?_
      refine yps 1 rfl znc ?_
      refine yps 2 rfl zfa ?_
      refine yps 3 rfl zl ?_
      refine yps 4 rfl zmv ?_
      refine yps 5 rfl znc ?_
      refine yps 6 rfl zfa ?_
      refine yps 7 rfl zl ?_
      refine yps 8 rfl zmv ?_
      refine yps 9 rfl (r_int (j := (((s.count + 1) % 2 : Nat) : Int)) zrm rfl) ?_
      refine yps 10 rfl zad ?_
      refine yps 11 rfl zmv ?_
      refine yps 12 rfl zmv ?_
      refine yos 13 rfl ?_
      refine zc (fun _ => ?_) (c := fun w1 F1 F2 h1 h2 hd hst => slot_ok (c := ((s.count + 1 : Nat) : Int)) (r := r) h1 (hK.mv hst.still) (hr.mv hst.still) hcc)
      refine yxs ?_
      refine yos 14 rfl ?_
      refine zc (fun _ => ?_) (c := fun w1 F1 F2 h1 h2 hd hst => write_ok' (d := d) (i := s.base + (((s.count + 1) % 2 : Nat) : Int)) (v := slotS ((s.count + 1 : Nat) : Int) r) h1 hk (hE.mv hst.still))
      rw [← hw1]
      refine yxs ?_
      refine yzs rfl ?_
      refine gp zas ?_
      refine gnt ?_
      refine gsr ?_
      refine gp zmv ?_
      refine gp (r_bool (c := decide (¬ w1.1 = 0)) (r_nenil rfl (by kernel_rfl)) (by simp)) ?_
      refine gnt ?_
      refine gif rfl (fun hc41 => ?_) (fun hc41 => ?_)
      · try simp only at hc41
        have e : put d s r = (w1.1, w1.2, s) := by rw [put, if_neg h31, if_neg hmx1, ← hw1, if_neg hc41]
        refine gsr ?_
        refine gp zmv ?_
        refine gp zas ?_
        refine gnt ?_
        refine gc_ret ?_
        refine gx_then_ret ?_
        refine gx_ret1 rfl (by conv => lhs; whnf) ?_
        exact fun w' hw => ⟨(), by rw [e], by rw [e]; exact St.sl (s := s) (L := [DiskR gd w1.2]) (hw.sel (by repeat (first | exact Sel.nil | (apply Sel.cons; · (repeat (first | exact Pick.here | apply Pick.there)))))) rfl rfl rfl rfl⟩
      · try simp only at hc41
        have h10 : w1.1 = 0 := by simpa using hc41
        refine gc_skip ?_
        refine gx_then ?_
        refine gc_seq ?_
        refine gsr ?_
        refine gp zmv ?_
        refine gp znc ?_
        refine gp zfa ?_
        refine gp zl ?_
        refine zc (fun _ => ?_) (c := fun w1 F1 F2 h1 h2 hd hst => sync_ok' h1 hk1 (hE.mv hst.still))
        refine gp zas ?_
        refine gnt ?_
        refine gsr ?_
        refine gp zmv ?_
        refine gp (r_bool (c := (oper w1.2).off) (r_nenil rfl (by kernel_rfl)) (by cases (oper w1.2).off <;> rfl)) ?_
        refine gnt ?_
        refine gif rfl (fun hc49 => ?_) (fun hc49 => ?_)
        · try simp only at hc49
          have e : put d s r = (6, w1.2.syncd, s) := by rw [put, if_neg h31, if_neg hmx1, ← hw1, if_pos h10, if_pos hc49]
          refine gsr ?_
          refine gp zmv ?_
          refine gp zas ?_
          refine gnt ?_
          refine gc_ret ?_
          refine gx_then_ret ?_
          refine gx_ret1 rfl (by conv => lhs; whnf) ?_
          exact fun w' hw => ⟨(), by rw [e, if_pos hc49], by rw [e]; exact St.sl (s := s) (L := [DiskR gd w1.2.syncd]) (hw.sel (by repeat (first | exact Sel.nil | (apply Sel.cons; · (repeat (first | exact Pick.here | apply Pick.there)))))) rfl rfl rfl rfl⟩
        · try simp only at hc49
          have e : put d s r = (0, w1.2.syncd, ⟨s.base, s.count + 1, r⟩) := by rw [put, if_neg h31, if_neg hmx1, ← hw1, if_pos h10, if_neg (by rw [hc49]; decide)]
          refine gc_skip ?_
          refine gx_then ?_
          refine gsr ?_
          refine gp zmv ?_
          refine gp zmv ?_
          refine gp zmv ?_
          refine gp zmv ?_
          refine zc (fun x55 => ?_) (c := fun w1 F1 F2 h1 h2 hd hst => cloneBytes_ok (xs := r.map B8) h1 (hr.mv hst.still) (one_B8 _) (by omega))
          refine gp znc ?_
          refine gp zfa ?_
          refine zs1 ?_
          refine gp znc ?_
          refine gp zfa ?_
          refine zs1 ?_
          refine gnt ?_
          refine gsr ?_
          refine gp zas ?_
          refine gnt ?_
          refine gc_ret ?_
          refine gx_ret1 rfl (by conv => lhs; whnf) ?_
          exact fun w' hw => ⟨(), by rw [e, eV_zero], by rw [e]; exact St.sl (s := ⟨s.base, s.count + 1, r⟩) (L := [DiskR gd w1.2.syncd]) (hw.sel (by repeat (first | exact Sel.nil | (apply Sel.cons; · (repeat (first | exact Pick.here | apply Pick.there)))))) rfl rfl hn rfl⟩

end Go.Proofs.YtffkjjakceojfaaDoor
