/- Walks, by program (wg.py) out of a spec. -/
import Derived.Test.YtffkjjakceojfaaDoorZd
import Derived.Test.YtffkjjakceojfaaDoorPlV
namespace Go.Proofs.YtffkjjakceojfaaDoor
open Go
set_option linter.unusedVariables false
set_option linter.unusedSimpArgs false


section
variable {w : World} {F : Nat → Prop} {g gd e : Nat} {d d' : DS} {s s' : SL} {ea : Nat → Addr} {es : List Nat} [Has es 1] [Has es 6] [Has es 7] [Has es 8] {f : Nat → Sec} {b : Int} {r : List UInt8} {a : Option Addr} {n cc : Nat}
theorem format_E (he : fmt d b = (e, d')) (hne : e ≠ 0) (h : stars [DiskR g d] w F) (hk : DOk d) (hE : GErr es w (fun k => ¬ F k) 139 ea) (hK : KR w (fun k => ¬ F k)) :
    Calls Tryd.prog 11 #[.pointer (some ⟨g, 0, none⟩), .int .i64 b] w (Post w F (fun _ : Unit => .tuple #[.pointer none, eV 139 ea e]) (fun _ => [DiskR g d'])) :=
  Calls.mono (format_ok (b := b) h hk hE hK) fun x w' ⟨q, h1, h2⟩ => ⟨(), by rw [h1, he]; simp only [if_neg hne], by rw [he] at h2; simp only [if_neg hne] at h2; exact h2⟩
theorem format_G (he : fmt d b = (0, d')) (h : stars [DiskR g d] w F) (hk : DOk d) (hE : GErr es w (fun k => ¬ F k) 139 ea) (hK : KR w (fun k => ¬ F k)) :
    Calls Tryd.prog 11 #[.pointer (some ⟨g, 0, none⟩), .int .i64 b] w (Post w F (fun q : Nat => .tuple #[.pointer (some ⟨q, 0, none⟩), eV 139 ea 0]) (fun q => [SlR q g ⟨b, 0, []⟩, DiskR g d'])) :=
  Calls.mono (format_ok (b := b) h hk hE hK) fun x w' ⟨q, h1, h2⟩ => ⟨q, by rw [h1, he]; rfl, by rw [he] at h2; exact h2⟩
theorem open_S (he : opn d b = some s) (h : stars [DiskR g d] w F) (hk : DOk d) (hoff : d.off = false) (hE : GErr es w (fun k => ¬ F k) 139 ea) (hK : KR w (fun k => ¬ F k)) (hrt : d.right b = true) :
    Calls Tryd.prog 16 #[.pointer (some ⟨g, 0, none⟩), .int .i64 b] w (Post w F (fun q : Nat => .tuple #[.pointer (some ⟨q, 0, none⟩), eV 139 ea 0]) (fun q => [SlR q g s, DiskR g d])) :=
  Calls.mono (open_ok (b := b) h hk hoff hE hK hrt) fun x w' ⟨q, h1, h2⟩ => ⟨q, by rw [h1, he]; rfl, by rw [he] at h2; exact h2⟩
theorem open_Z (he : opn d b = none) (h : stars [DiskR g d] w F) (hk : DOk d) (hoff : d.off = false) (hE : GErr es w (fun k => ¬ F k) 139 ea) (hK : KR w (fun k => ¬ F k)) (hrt : d.right b = true) :
    Calls Tryd.prog 16 #[.pointer (some ⟨g, 0, none⟩), .int .i64 b] w (Post w F (fun _ : Unit => .tuple #[.pointer none, eV 139 ea 7]) (fun _ => [DiskR g d])) :=
  Calls.mono (open_ok (b := b) h hk hoff hE hK hrt) fun x w' ⟨q, h1, h2⟩ => ⟨(), by rw [h1, he]; rfl, by rw [he] at h2; exact h2⟩
theorem put_S (he : put d s r = (e, d', s')) (h : stars [SlR g gd s, DiskR gd d] w F) (hk : DOk d) (hE : GErr es w (fun k => ¬ F k) 139 ea) (hK : KR w (fun k => ¬ F k)) (hb : 0 ≤ s.base ∧ s.base ≤ 4096) (hc : s.count < 9223372036854775808) (hr : RdRow w (fun k => ¬ F k) 1 a n (r.map B8)) (hcc : n ≤ cc) :
    Calls Tryd.prog 13 #[.pointer (some ⟨g, 0, none⟩), .slice a n cc] w (Post w F (fun _ : Unit => eV 139 ea e) (fun _ => [SlR g gd s', DiskR gd d'])) := by
  have := put_ok' h hk hE hK hb hc hr hcc
  rw [he] at this
  exact this
end

attribute [local irreducible] Gl Gc Gx Gs Runs Wt

set_option maxHeartbeats 400000 in
theorem alive07_ok {w : World} {F : Nat → Prop} (h : stars [] w F) {ea : Nat → Addr} {es : List Nat} [Has es 1] [Has es 6] [Has es 7] [Has es 8] (hE : GErr es w (fun k => ¬ F k) 139 ea) (hK : KR w (fun k => ¬ F k)) :
    Calls Tryd.prog 9 #[] w (Post w F (fun _ : Unit => .bool true) (fun _ => [])) := by
  refine g_enter (env := []) Tryd.func9 rfl h Tryd.ntmps9 rfl rfl ?_
  refine gsr ?_
  refine gp zas ?_
  refine gnt ?_
  refine gsr ?_
  refine zc (fun g5 => ?_) (c := fun w1 F1 F2 h1 h2 hd hst => new_ok (n := 2) (ea := ea) h1 (by decide) (by decide))
  refine gp zmv ?_
  refine gp zex ?_
  refine gp zex ?_
  refine gp zas ?_
  refine gp zas ?_
  refine gnt ?_
  refine gc_seq ?_
  refine gsr ?_
  refine gp zmv ?_
  refine gp (r_bool (c := false) (r_nenil rfl (by kernel_rfl)) rfl) ?_
  refine gp zmv ?_
  refine gq zmv ?_
  refine gq (r_bool (c := false) (r_eqpn rfl Ty.un_24) rfl) ?_
  refine gp zpk ?_
  refine gnt ?_
  refine gc_condF rfl rfl ?_
  refine gc_skip ?_
  refine gx_then ?_
  refine gsr ?_
  refine gp zmv ?_
  refine zc (fun g16 => ?_) (c := fun w1 F1 F2 h1 h2 hd hst => format_G (fmt_Z fun _ => sec0) h1 (dZ_ok _) (hE.mv hst.still) (hK.mv hst.still))
  refine gp zmv ?_
  refine gp zex ?_
  refine gp zex ?_
  refine gp zas ?_
  refine gp zas ?_
  refine gnt ?_
  refine gc_seq ?_
  refine gsr ?_
  refine gp zmv ?_
  refine gp (r_bool (c := false) (r_nenil rfl (by kernel_rfl)) rfl) ?_
  refine gp zmv ?_
  refine gq zmv ?_
  refine gq (r_bool (c := false) (r_eqpn rfl Ty.un_29) rfl) ?_
  refine gp zpk ?_
  refine gp zmv ?_
  refine gq zmv ?_
  refine gl_bs1Z (v := B8 97) (by first | exact wt0 rfl | exact wtgT rfl rfl rfl rfl) Ty.sl_32 Ty.sz_5 Ty.zc_5 rfl rfl (fun b27 => ?_)
  refine gl_cvZ (v := B8 97) (by first | exact wt0 rfl | exact wtgT rfl rfl rfl rfl) rfl Ty.sl_32 Ty.un_5 (by repeat (first | exact Pick.here | apply Pick.there)) ?_
  refine zc (fun _ => ?_) (c := fun w1 F1 F2 h1 h2 hd hst => put_S (r := [97]) aF1_put h1 (dZ_ok _) (hE.mv hst.still) (hK.mv hst.still) ⟨Int.le_refl 0, show (0 : Int) ≤ 4096 by decide⟩ (by decide) (rd_row (xs := [B8 97]) h2 hd (by repeat (first | exact Pick.here | apply Pick.there))) (Nat.le_refl 1))
  refine gq (r_bool (c := false) (r_nenil rfl (by kernel_rfl)) rfl) ?_
  refine gp zpk ?_
  refine gp zmv ?_
  refine gq zmv ?_
  refine gl_bs1Z (v := B8 98) (by first | exact wt0 rfl | exact wtgT rfl rfl rfl rfl) Ty.sl_32 Ty.sz_5 Ty.zc_5 rfl rfl (fun b34 => ?_)
  refine gl_cvZ (v := B8 98) (by first | exact wt0 rfl | exact wtgT rfl rfl rfl rfl) rfl Ty.sl_32 Ty.un_5 (by repeat (first | exact Pick.here | apply Pick.there)) ?_
  refine zc (fun _ => ?_) (c := fun w1 F1 F2 h1 h2 hd hst => put_S (r := [98]) aF2_put h1 (dZ_ok _) (hE.mv hst.still) (hK.mv hst.still) ⟨Int.le_refl 0, show (0 : Int) ≤ 4096 by decide⟩ (by decide) (rd_row (xs := [B8 98]) h2 hd (by repeat (first | exact Pick.here | apply Pick.there))) (Nat.le_refl 1))
  refine gq (r_bool (c := false) (r_nenil rfl (by kernel_rfl)) rfl) ?_
  refine gp zpk ?_
  refine gnt ?_
  refine gc_condF rfl rfl ?_
  refine gc_skip ?_
  refine gx_then ?_
  refine gsr ?_
  refine gp zmv ?_
  refine zc (fun _ => ?_) (c := fun w1 F1 F2 h1 h2 hd hst => crash_ok' (d := dZ aF2) (kb := []) h1 (dZ_ok _) RdRow.nil)
  rw [crash_Z]
  refine gnt ?_
  refine gsr ?_
  refine gp zmv ?_
  refine zc (fun g43 => ?_) (c := fun w1 F1 F2 h1 h2 hd hst => open_S (b := 0) aF2_opn h1 (dZ_ok _) rfl (hE.mv hst.still) (hK.mv hst.still) rfl)
  refine gp zmv ?_
  refine gp zex ?_
  refine gp zex ?_
  refine gp zas ?_
  refine gp zas ?_
  refine gnt ?_
  refine gsr ?_
  refine gp zmv ?_
  refine gp (r_bool (c := true) (r_eqnil rfl (by kernel_rfl)) rfl) ?_
  refine gp zmv ?_
  refine gq zmv ?_
  refine gq (r_bool (c := true) (r_nepn rfl Ty.un_29) rfl) ?_
  refine gp zpk ?_
  refine gp zmv ?_
  refine gq zmv ?_
  refine zc (fun x54 => ?_) (c := fun w1 F1 F2 h1 h2 hd hst => record_ok (s := ⟨0, 2, [98]⟩) h1 (by decide))
  refine gq zso ?_
  refine gq (r_bool (c := true) zes (decide_eq_true rfl)) ?_
  refine gp zpk ?_
  refine gp zmv ?_
  refine gq zmv ?_
  refine zc (fun _ => ?_) (c := fun w1 F1 F2 h1 h2 hd hst => count_ok h1)
  refine gq (r_bool (c := true) zei (decide_eq_true rfl)) ?_
  refine gp zpk ?_
  refine gp zas ?_
  refine gnt ?_
  refine gc_ret ?_
  refine gx_ret1 rfl (by conv => lhs; whnf) ?_
  exact ze ()

end Go.Proofs.YtffkjjakceojfaaDoor
