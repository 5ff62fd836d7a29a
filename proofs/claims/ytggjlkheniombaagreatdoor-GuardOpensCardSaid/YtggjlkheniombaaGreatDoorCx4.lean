/- Part 4. What is proved: see the last part: for every input the law returns true, and the input reads as it did. -/
import Derived.Test.YtggjlkheniombaaGreatDoorCx3
namespace Go.Proofs.YtggjlkheniombaaGreatDoor
open Go
set_option linter.unusedVariables false
set_option linter.unusedSimpArgs false
set_option linter.unusedSectionVars false
set_option maxHeartbeats 400000
section
theorem gstep_e {d : DS} {sl : SL} {s : VSt} {r : VSt × Nat} (h : ¬ r.2 = 0) : gstep d sl s r = (r.2, d, sl, s) := if_neg h
theorem gstep_0 {d : DS} {sl : SL} {s : VSt} {r : VSt × Nat} (h : r.2 = 0) : gstep d sl s r = gput d sl s r.1 := if_pos h
attribute [local irreducible] Gl Gc Gx Gs Runs Wt
theorem gvote_ok {w : World} {F : Nat → Prop} {g qk qs gd : Nat} {s : VSt} {sl : SL} {d : DS} {seed : Dig} {e r q gr : Int} {D : Dig} (h : stars [GdR g qk qs gd s sl, DiskR gd d, KeyR qk seed] w F) (hs : s.ok = true) (hk : DOk d) (hb : 0 ≤ sl.base ∧ sl.base ≤ 4096) (hc : sl.count < 9223372036854775808) {ea : Nat → Addr} {es : List Nat} [Has es 1] [Has es 4] [Has es 5] [Has es 6] [Has es 7] [Has es 8] [Has es 10] [Has es 14] [Has es 15] [Has es 18] (hE : GErr es w (fun k => ¬ F k) 241 ea) (hK : KR w (fun k => ¬ F k))  :
    Calls Tryz.prog 21 #[.pointer (some ⟨g, 0, none⟩), .int .i64 e, .int .i64 r, .int .i64 q, .int .i64 gr, .agg (dc D).toArray] w (Post w F (fun x : (Option Addr × Nat) × (Option Addr × Nat) => .tuple #[.agg (sgV ((gstep d sl s (voteV s e r q gr)).1) (s.lf.toNat) x).toArray, eV 241 ea ((gstep d sl s (voteV s e r q gr)).1)]) (fun x => [SgR ((gstep d sl s (voteV s e r q gr)).1) x seed (s.lf.toNat) (dOf Kc 7 [beN e 8, beN r 8, D.l]), GdR g qk qs gd (gstep d sl s (voteV s e r q gr)).2.2.2 (gstep d sl s (voteV s e r q gr)).2.2.1, DiskR gd (gstep d sl s (voteV s e r q gr)).2.1, KeyR qk seed])) := by
 have h' := gd_open h
 refine g_enter (env := [(0, .pointer (some ⟨g, 0, none⟩)), (1, .int .i64 e), (2, .int .i64 r), (3, .int .i64 q), (4, .int .i64 gr), (5, .agg (dc D).toArray)]) Tryz.func21 rfl h' Tryz.ntmps21 rfl rfl ?_; refine gsr (zbN fun b11 => ?_); refine zal fun b12 => ?_; refine zxa ?_; refine zxs ?_; refine zxm ?_; refine gp znc ?_; refine gp zfa ?_; refine gp zL ?_; refine zxm ?_; refine zxm ?_; refine zxm ?_; refine zxm ?_; refine zc (fun _ => ?_) (c := fun w1 F1 F2 h1 h2 hd hst => vvote_ok (s := s) (e := e) (r := r) (q := q) (g := gr) h1 (hE.mv hst.still))
 refine zxm ?_; refine gp zex ?_; refine gp zex ?_; refine zal fun b14 => ?_; refine zsN ?_; refine zxa ?_; refine gnt (gc_seq (gsr (zxm ?_))); refine gp (r_bool (c := decide (¬ (voteV s e r q gr).2 = 0)) (r_nenil rfl (by kernel_rfl)) (by simp)) ?_; refine gnt (gif rfl (fun hc29 => ?_) (fun hc29 => ?_))
 ·try simp only at hc29
  have hne : ¬ (voteV s e r q gr).2 = 0 := by simpa using hc29
  refine gsr (gp (zbu (cs := sgZ)) ?_); refine zxm ?_; refine zsA (new := sgZ) (m := 3) rfl (sgV_one 1 0 xn) ?_; refine zxa ?_; refine gnt (gc_ret (gx_then_ret (gx_retct rfl rfl (by conv => lhs; whnf) (ldA Ty.row_63 Ty.sz_63) ?_))); have hne2 := hne
  exact fun w' hw => ⟨xn, by dsimp only; rw [gstep_e hne, sgV_n hne2]; rfl, by dsimp only; rw [gstep_e hne]; exact St.sgN hne2 (St.gu (hw.sel (M := [blk g 50 (.pointer (some ⟨qk, 0, none⟩) :: .pointer (some ⟨qs, 0, none⟩) :: stC s), SlR qs gd sl, DiskR gd d, KeyR qk seed]) (by repeat (first | exact Sel.nil | (apply Sel.cons; · (repeat (first | exact Pick.here | apply Pick.there)))))))⟩
 ·try simp only at hc29
  have h20 : (voteV s e r q gr).2 = 0 := by simpa using hc29
  have hVt := voteV_ok (show voteV s e r q gr = ((voteV s e r q gr).1, 0) from Prod.ext rfl h20)
  have hlf := nat_lf hs hVt.1 hVt.2
  refine gc_skip (gx_then (gc_seq (gc_turn (L2 := [GdR g qk qs gd s sl, DiskR gd d, KeyR qk seed, blk b14 45 (stC (voteV s e r q gr).1), blk b11 32 (dc D), blk b12 63 sgZ]) (fun w' hw => St.gu (hw.z)) ?_))); refine gc_regionZ 10 ([blk b14 45 (stC (voteV s e r q gr).1), blk b11 32 (dc D)]) ?_; refine yps 0 rfl zmv ?_; refine yps 1 rfl zL ?_; refine yps 2 rfl zmv ?_; refine yps 3 rfl zmv ?_; refine yps 4 rfl zL ?_; refine yos 5 rfl ?_; refine zc (fun _ => ?_) (c := fun w1 F1 F2 h1 h2 hd hst => forVote_ok (epoch := e) (round := r) (high := 0) (d := D) h1 (hK.mv hst.still))
  refine yxs ?_; refine yos 6 rfl ?_; refine zc (fun x38 => ?_) (c := fun w1 F1 F2 h1 h2 hd hst => gsign_ok (t := (voteV s e r q gr).1) (leaf := s.lf.toNat) (D := dOf Kc 7 [beN e 8, beN r 8, D.l]) h1 hVt.1 hlf.1 hlf.2 hk hb hc (hE.mv hst.still) (hK.mv hst.still))
  refine yxs ?_; refine yps 7 rfl zex ?_; refine yps 8 rfl zex ?_; refine yos 9 rfl ?_; refine zsA (sgV_len _ _ _) (sgV_one _ _ _) ?_; refine yxs ?_; refine yzs rfl ?_; refine zxa ?_; refine gnt (gc_ret (gx_retct rfl rfl (by conv => lhs; whnf) (ldA Ty.row_63 Ty.sz_63) ?_)); exact fun w' hw => ⟨x38, by rw [gstep_0 h20], by dsimp only; rw [gstep_0 h20]; exact hw.z⟩
end
section
attribute [local irreducible] Gl Gc Gx Gs Runs Wt
theorem gstate_ok {w : World} {F : Nat → Prop} {g qk qs gd : Nat} {s : VSt} {sl : SL} {d : DS} (h : stars [GdR g qk qs gd s sl] w F) :
    Calls Tryz.prog 16 #[.pointer (some ⟨g, 0, none⟩)] w (Post w F (fun _ : Unit => .agg (stC s).toArray) (fun _ => [GdR g qk qs gd s sl])) := by
 have h' := gd_open h
 refine g_enter (env := [(0, .pointer (some ⟨g, 0, none⟩))]) Tryz.func16 rfl h' Tryz.ntmps16 rfl rfl ?_; refine gsr (zal fun b2 => ?_); refine zxs ?_; refine zxm ?_; refine gp znc ?_; refine gp zfa ?_; refine gp zL ?_; refine zsA (stC_len _) (stC_one _) ?_; refine gnt (gc_ret (gx_retc rfl rfl (ldA Ty.row_45 Ty.sz_45) ?_)); exact fun w' hw => ⟨(), rfl, St.gu (hw.z)⟩
end
section
section
variable {w : World} {F : Nat → Prop} {g gd e : Nat} {d d' : DS} {s s' : SL} {ea : Nat → Addr} {es : List Nat} [Has es 1] [Has es 6] [Has es 7] [Has es 8] {f : Nat → Sec} {b : Int} {r : List UInt8} {a : Option Addr} {n cc : Nat}
theorem format_E (he : fmt d b = (e, d')) (hne : e ≠ 0) (h : stars [DiskR g d] w F) (hk : DOk d) (hE : GErr es w (fun k => ¬ F k) 241 ea) (hK : KR w (fun k => ¬ F k)) :
    Calls Tryz.prog 13 #[.pointer (some ⟨g, 0, none⟩), .int .i64 b] w (Post w F (fun _ : Unit => .tuple #[.pointer none, eV 241 ea e]) (fun _ => [DiskR g d'])) :=
  Calls.mono (format_ok (b := b) h hk hE hK) fun x w' ⟨q, h1, h2⟩ => ⟨(), by rw [h1, he]; simp only [if_neg hne], by rw [he] at h2; simp only [if_neg hne] at h2; exact h2⟩
theorem format_G (he : fmt d b = (0, d')) (h : stars [DiskR g d] w F) (hk : DOk d) (hE : GErr es w (fun k => ¬ F k) 241 ea) (hK : KR w (fun k => ¬ F k)) :
    Calls Tryz.prog 13 #[.pointer (some ⟨g, 0, none⟩), .int .i64 b] w (Post w F (fun q : Nat => .tuple #[.pointer (some ⟨q, 0, none⟩), eV 241 ea 0]) (fun q => [SlR q g ⟨b, 0, []⟩, DiskR g d'])) :=
  Calls.mono (format_ok (b := b) h hk hE hK) fun x w' ⟨q, h1, h2⟩ => ⟨q, by rw [h1, he]; rfl, by rw [he] at h2; exact h2⟩
theorem open_S (he : opn d b = some s) (h : stars [DiskR g d] w F) (hk : DOk d) (hoff : d.off = false) (hE : GErr es w (fun k => ¬ F k) 241 ea) (hK : KR w (fun k => ¬ F k)) (hrt : d.right b = true) :
    Calls Tryz.prog 32 #[.pointer (some ⟨g, 0, none⟩), .int .i64 b] w (Post w F (fun q : Nat => .tuple #[.pointer (some ⟨q, 0, none⟩), eV 241 ea 0]) (fun q => [SlR q g s, DiskR g d])) :=
  Calls.mono (open_ok (b := b) h hk hoff hE hK hrt) fun x w' ⟨q, h1, h2⟩ => ⟨q, by rw [h1, he]; rfl, by rw [he] at h2; exact h2⟩
theorem open_Z (he : opn d b = none) (h : stars [DiskR g d] w F) (hk : DOk d) (hoff : d.off = false) (hE : GErr es w (fun k => ¬ F k) 241 ea) (hK : KR w (fun k => ¬ F k)) (hrt : d.right b = true) :
    Calls Tryz.prog 32 #[.pointer (some ⟨g, 0, none⟩), .int .i64 b] w (Post w F (fun _ : Unit => .tuple #[.pointer none, eV 241 ea 7]) (fun _ => [DiskR g d])) :=
  Calls.mono (open_ok (b := b) h hk hoff hE hK hrt) fun x w' ⟨q, h1, h2⟩ => ⟨(), by rw [h1, he]; rfl, by rw [he] at h2; exact h2⟩
theorem put_S (he : put d s r = (e, d', s')) (h : stars [SlR g gd s, DiskR gd d] w F) (hk : DOk d) (hE : GErr es w (fun k => ¬ F k) 241 ea) (hK : KR w (fun k => ¬ F k)) (hb : 0 ≤ s.base ∧ s.base ≤ 4096) (hc : s.count < 9223372036854775808) (hr : RdRow w (fun k => ¬ F k) 1 a n (r.map B8)) (hcc : n ≤ cc) :
    Calls Tryz.prog 14 #[.pointer (some ⟨g, 0, none⟩), .slice a n cc] w (Post w F (fun _ : Unit => eV 241 ea e) (fun _ => [SlR g gd s', DiskR gd d'])) := by
  have := put_ok' h hk hE hK hb hc hr hcc
  rw [he] at this
  exact this
end
theorem gput_fin {d d' : DS} {sl sl' : SL} {s t : VSt} (ht : t.ok = true) (hp : put d sl (bytV t) = (0, d', sl')) : gput d sl s t = (0, d', sl', t) := by rw [gput_0 ht (by rw [hp]), hp]
attribute [local irreducible] Gl Gc Gx Gs Runs Wt
theorem gopen_S {w : World} {F : Nat → Prop} {gd qk : Nat} {d : DS} {b : Int} (h : stars [DiskR gd d] w F) (hk : DOk d) {sl : SL} {s : VSt} (hoff : d.off = false) (hrt : d.right b = true) (ho : opn d b = some sl) (hlen : sl.rec'.length ≤ 31) (hv : readV sl.rec' = (0, s)) {ea : Nat → Addr} {es : List Nat} [Has es 1] [Has es 2] [Has es 3] [Has es 4] [Has es 6] [Has es 7] [Has es 8] (hE : GErr es w (fun k => ¬ F k) 241 ea) (hK : KR w (fun k => ¬ F k))  :
    Calls Tryz.prog 11 #[.pointer (some ⟨gd, 0, none⟩), .int .i64 b, .pointer (some ⟨qk, 0, none⟩)] w (Post w F (fun x : Nat × Nat => .tuple #[.pointer (some ⟨x.1, 0, none⟩), eV 241 ea 0]) (fun x => [GdR x.1 qk x.2 gd s (sl), DiskR gd d])) := by
 refine g_enter (env := [(0, .pointer (some ⟨gd, 0, none⟩)), (1, .int .i64 b), (2, .pointer (some ⟨qk, 0, none⟩))]) Tryz.func11 rfl h Tryz.ntmps11 rfl rfl ?_; refine gsr (zxa ?_); refine zxa ?_; refine zxs ?_; refine zxm ?_; refine zxm ?_; refine zc (fun q14 => ?_) (c := fun w1 F1 F2 h1 h2 hd hst => open_S (b := b) ho h1 hk hoff (hE.mv hst.still) (hK.mv hst.still) hrt)
 refine zxm ?_; refine gp zex ?_; refine gp zex ?_; refine zxa ?_; refine zxa ?_; refine gnt (gc_seq (gsr (zxm ?_))); refine gp (r_bool (c := false) (r_nenil (k := 0) rfl (by kernel_rfl)) rfl) ?_; refine gnt (gc_condF rfl rfl ?_); refine gc_skip (gx_then (gsr (zxm ?_))); refine zc (fun x22 => ?_) (c := fun w1 F1 F2 h1 h2 hd hst => record_ok (s := sl) h1 hlen)
 refine zc (fun _ => ?_) (c := fun w1 F1 F2 h1 h2 hd hst => vread_ok (b := sl.rec') h1 (hE.mv hst.still) (rd_row h2 hd (by repeat (first | exact Pick.here | apply Pick.there))) (by omega))
 rw [hv]; refine zxm ?_; refine gp zex ?_; refine gp zex ?_; refine zal fun b10 => ?_; refine zsA (stC_len _) (stC_one _) ?_; refine zxa ?_; refine gnt (gc_seq (gsr (zxm ?_))); refine gp (r_bool (c := false) (r_nenil (k := 0) rfl (by kernel_rfl)) rfl) ?_; refine gnt (gc_condF rfl rfl ?_); refine gc_skip (gx_then (gsr (zxm ?_))); refine zxm ?_; refine gp zL ?_; refine gp (zbu (cs := .pointer (some ⟨qk, 0, none⟩) :: .pointer (some ⟨q14, 0, none⟩) :: stC s)) ?_; refine zbN fun b33 => ?_; refine zxa ?_; refine zxa ?_; refine gnt (gc_ret (gx_ret2 rfl (by conv => lhs; whnf) (by conv => lhs; whnf) ?_)); exact fun w' hw => ⟨(b33, q14), by rw [eV_zero], St.gu (hw.z)⟩
theorem gopen_N {w : World} {F : Nat → Prop} {gd qk : Nat} {d : DS} {b : Int} (h : stars [DiskR gd d] w F) (hk : DOk d) (hoff : d.off = false) (hrt : d.right b = true) (ho : opn d b = none) {ea : Nat → Addr} {es : List Nat} [Has es 1] [Has es 2] [Has es 3] [Has es 4] [Has es 6] [Has es 7] [Has es 8] (hE : GErr es w (fun k => ¬ F k) 241 ea) (hK : KR w (fun k => ¬ F k))  :
    Calls Tryz.prog 11 #[.pointer (some ⟨gd, 0, none⟩), .int .i64 b, .pointer (some ⟨qk, 0, none⟩)] w (Post w F (fun _ : Unit => .tuple #[.pointer none, eV 241 ea 7]) (fun _ => [DiskR gd d])) := by
 refine g_enter (env := [(0, .pointer (some ⟨gd, 0, none⟩)), (1, .int .i64 b), (2, .pointer (some ⟨qk, 0, none⟩))]) Tryz.func11 rfl h Tryz.ntmps11 rfl rfl ?_; refine gsr (zxa ?_); refine zxa ?_; refine zxs ?_; refine zxm ?_; refine zxm ?_; refine zc (fun _ => ?_) (c := fun w1 F1 F2 h1 h2 hd hst => open_Z (b := b) ho h1 hk hoff (hE.mv hst.still) (hK.mv hst.still) hrt)
 refine zxm ?_; refine gp zex ?_; refine gp zex ?_; refine zxa ?_; refine zxa ?_; refine gnt (gc_seq (gsr (zxm ?_))); refine gp (r_bool (c := true) (r_nenil rfl (by kernel_rfl)) rfl) ?_; refine gnt (gc_condT rfl rfl ?_); refine gsr (zxm ?_); refine zxa ?_; refine zxa ?_; refine gnt (gc_ret (gx_then_ret (gx_ret2 rfl (by conv => lhs; whnf) (by conv => lhs; whnf) ?_))); exact ze ()
theorem gopen_B {w : World} {F : Nat → Prop} {gd qk : Nat} {d : DS} {b : Int} (h : stars [DiskR gd d] w F) (hk : DOk d) {sl : SL} (hoff : d.off = false) (hrt : d.right b = true) (ho : opn d b = some sl) (hlen : sl.rec'.length ≤ 31) (hv : ¬ (readV sl.rec').1 = 0) {ea : Nat → Addr} {es : List Nat} [Has es 1] [Has es 2] [Has es 3] [Has es 4] [Has es 6] [Has es 7] [Has es 8] (hE : GErr es w (fun k => ¬ F k) 241 ea) (hK : KR w (fun k => ¬ F k))  :
    Calls Tryz.prog 11 #[.pointer (some ⟨gd, 0, none⟩), .int .i64 b, .pointer (some ⟨qk, 0, none⟩)] w (Post w F (fun _ : Unit => .tuple #[.pointer none, eV 241 ea 7]) (fun _ => [DiskR gd d])) := by
 refine g_enter (env := [(0, .pointer (some ⟨gd, 0, none⟩)), (1, .int .i64 b), (2, .pointer (some ⟨qk, 0, none⟩))]) Tryz.func11 rfl h Tryz.ntmps11 rfl rfl ?_; refine gsr (zxa ?_); refine zxa ?_; refine zxs ?_; refine zxm ?_; refine zxm ?_; refine zc (fun q14 => ?_) (c := fun w1 F1 F2 h1 h2 hd hst => open_S (b := b) ho h1 hk hoff (hE.mv hst.still) (hK.mv hst.still) hrt)
 refine zxm ?_; refine gp zex ?_; refine gp zex ?_; refine zxa ?_; refine zxa ?_; refine gnt (gc_seq (gsr (zxm ?_))); refine gp (r_bool (c := false) (r_nenil (k := 0) rfl (by kernel_rfl)) rfl) ?_; refine gnt (gc_condF rfl rfl ?_); refine gc_skip (gx_then (gsr (zxm ?_))); refine zc (fun x22 => ?_) (c := fun w1 F1 F2 h1 h2 hd hst => record_ok (s := sl) h1 hlen)
 refine zc (fun _ => ?_) (c := fun w1 F1 F2 h1 h2 hd hst => vread_ok (b := sl.rec') h1 (hE.mv hst.still) (rd_row h2 hd (by repeat (first | exact Pick.here | apply Pick.there))) (by omega))
 refine zxm ?_; refine gp zex ?_; refine gp zex ?_; refine zal fun b10 => ?_; refine zsA (stC_len _) (stC_one _) ?_; refine zxa ?_; refine gnt (gc_seq (gsr (zxm ?_))); refine gp (r_bool (c := true) (r_nenil rfl (by kernel_rfl)) (by simp [hv])) ?_; refine gnt (gc_condT rfl rfl ?_); refine gc_seq (gc_regionS (by kernel_rfl) (by kernel_rfl) ?_); refine sp (r_ld1o rfl Ty.row_26 (hE.c 7 Has.h) (hE.n 7 Has.h)) ?_; refine sp zas ?_; refine sp zas ?_; refine gs_nil ?_; refine gx_then (gc_ret (gx_then_ret (gx_ret2 rfl (by conv => lhs; whnf) (by conv => lhs; whnf) ?_))); exact ze ()
theorem gform_S {w : World} {F : Nat → Prop} {gd qk : Nat} {d : DS} {b : Int} (h : stars [DiskR gd d] w F) (hk : DOk d) {d' d2 : DS} {sl' : SL} {e : Int} (hrt : d.right b = true) (hok : (⟨e, 0, 0, 0, 0⟩ : VSt).ok = true) (he : fmt d b = (0, d')) (hk' : DOk d') (hp : put d' ⟨b, 0, []⟩ (bytV (⟨e, 0, 0, 0, 0⟩ : VSt)) = (0, d2, sl')) (hb : 0 ≤ b ∧ b ≤ 4096) {ea : Nat → Addr} {es : List Nat} [Has es 1] [Has es 4] [Has es 6] [Has es 7] [Has es 8] (hE : GErr es w (fun k => ¬ F k) 241 ea) (hK : KR w (fun k => ¬ F k))  :
    Calls Tryz.prog 17 #[.pointer (some ⟨gd, 0, none⟩), .int .i64 b, .pointer (some ⟨qk, 0, none⟩), .int .i64 e] w (Post w F (fun x : Nat × Nat => .tuple #[.pointer (some ⟨x.1, 0, none⟩), eV 241 ea 0]) (fun x => [GdR x.1 qk x.2 gd (⟨e, 0, 0, 0, 0⟩ : VSt) (sl'), DiskR gd d2])) := by
 have hgp := gput_fin (s := z13) hok hp
 refine g_enter (env := [(0, .pointer (some ⟨gd, 0, none⟩)), (1, .int .i64 b), (2, .pointer (some ⟨qk, 0, none⟩)), (3, .int .i64 e)]) Tryz.func17 rfl h Tryz.ntmps17 rfl rfl ?_; refine gsr (zxa ?_); refine zxa ?_; refine zxs ?_; refine zxm ?_; refine gp (zbu (cs := stC (⟨e, 0, 0, 0, 0⟩ : VSt))) ?_; refine zal fun b10 => ?_; refine zsA (stC_len _) (stC_one _) ?_; refine gnt (gc_seq (gsr (gp (zLa (cs := stC (⟨e, 0, 0, 0, 0⟩ : VSt))) ?_))); refine zc (fun _ => ?_) (c := fun w1 F1 F2 h1 h2 hd hst => vright_ok (s := (⟨e, 0, 0, 0, 0⟩ : VSt)) h1)
 refine gp (r_bool (c := false) znt (by rw [hok]; rfl)) ?_; refine gnt (gc_condF rfl rfl ?_); refine gc_skip (gx_then (gsr (zxm ?_))); refine zxm ?_; refine zc (fun q24 => ?_) (c := fun w1 F1 F2 h1 h2 hd hst => format_G he h1 hk (hE.mv hst.still) (hK.mv hst.still))
 refine zxm ?_; refine gp zex ?_; refine gp zex ?_; refine zxa ?_; refine zxa ?_; refine gnt (gc_seq (gsr (zxm ?_))); refine gp (r_bool (c := false) (r_nenil (k := 0) rfl (by kernel_rfl)) rfl) ?_; refine gnt (gc_condF rfl rfl ?_); refine gc_skip (gx_then (gsr (zxm ?_))); refine zxm ?_; refine gp (zbu (cs := .pointer (some ⟨qk, 0, none⟩) :: .pointer (some ⟨q24, 0, none⟩) :: stC z13)) ?_; refine zbN fun b33 => ?_; refine zxa ?_; refine gnt (gc_seq (gc_seq (gc_turn (L2 := [GdR b33 qk q24 gd z13 ⟨b, 0, []⟩, DiskR gd d', blk b10 45 (stC (⟨e, 0, 0, 0, 0⟩ : VSt))]) (fun w' hw => St.gu (hw.z)) ?_))); refine gc_region (zxm ?_); refine gp (zLa (cs := stC (⟨e, 0, 0, 0, 0⟩ : VSt))) ?_; refine zc (fun _ => ?_) (c := fun w1 F1 F2 h1 h2 hd hst => gput_ok' (s := z13) (t := (⟨e, 0, 0, 0, 0⟩ : VSt)) (sl := ⟨b, 0, []⟩) (d := d') h1 hok hk' hb (by show (0 : Nat) < _; decide) (hE.mv hst.still) (hK.mv hst.still))
 rw [hgp]; refine zxa ?_; refine zxs ?_; refine zxm ?_; refine gp (r_bool (c := false) (r_nenil (k := 0) rfl (by kernel_rfl)) rfl) ?_; refine gnt (gc_condF rfl rfl ?_); refine gc_skip (gx_then (gsr (zxm ?_))); refine zxa ?_; refine zxa ?_; refine gnt (gc_ret (gx_ret2 rfl (by conv => lhs; whnf) (by conv => lhs; whnf) ?_)); exact fun w' hw => ⟨(b33, q24), by rw [eV_zero], hw.z⟩
theorem gform_4 {w : World} {F : Nat → Prop} {gd qk : Nat} {d : DS} {b : Int} (h : stars [DiskR gd d] w F) (hk : DOk d) {e : Int} (hok : ¬ (⟨e, 0, 0, 0, 0⟩ : VSt).ok = true) {ea : Nat → Addr} {es : List Nat} [Has es 1] [Has es 4] [Has es 6] [Has es 7] [Has es 8] (hE : GErr es w (fun k => ¬ F k) 241 ea)  :
    Calls Tryz.prog 17 #[.pointer (some ⟨gd, 0, none⟩), .int .i64 b, .pointer (some ⟨qk, 0, none⟩), .int .i64 e] w (Post w F (fun _ : Unit => .tuple #[.pointer none, eV 241 ea 4]) (fun _ => [DiskR gd d])) := by
 refine g_enter (env := [(0, .pointer (some ⟨gd, 0, none⟩)), (1, .int .i64 b), (2, .pointer (some ⟨qk, 0, none⟩)), (3, .int .i64 e)]) Tryz.func17 rfl h Tryz.ntmps17 rfl rfl ?_; refine gsr (zxa ?_); refine zxa ?_; refine zxs ?_; refine zxm ?_; refine gp (zbu (cs := stC (⟨e, 0, 0, 0, 0⟩ : VSt))) ?_; refine zal fun b10 => ?_; refine zsA (stC_len _) (stC_one _) ?_; refine gnt (gc_seq (gsr (gp (zLa (cs := stC (⟨e, 0, 0, 0, 0⟩ : VSt))) ?_))); refine zc (fun _ => ?_) (c := fun w1 F1 F2 h1 h2 hd hst => vright_ok (s := (⟨e, 0, 0, 0, 0⟩ : VSt)) h1)
 refine gp (r_bool (c := true) znt (by simp [hok])) ?_; refine gnt (gc_condT rfl rfl ?_); refine gc_seq (gc_regionS (by kernel_rfl) (by kernel_rfl) ?_); refine sp (r_ld1o rfl Ty.row_26 (hE.c 4 Has.h) (hE.n 4 Has.h)) ?_; refine sp zas ?_; refine sp zas ?_; refine gs_nil ?_; refine gx_then (gc_ret (gx_then_ret (gx_ret2 rfl (by conv => lhs; whnf) (by conv => lhs; whnf) ?_))); exact ze ()
theorem gform_1 {w : World} {F : Nat → Prop} {gd qk : Nat} {d : DS} {b : Int} (h : stars [DiskR gd d] w F) (hk : DOk d) {e : Int} (hok : (⟨e, 0, 0, 0, 0⟩ : VSt).ok = true) (hrt : d.right b = false) {ea : Nat → Addr} {es : List Nat} [Has es 1] [Has es 4] [Has es 6] [Has es 7] [Has es 8] (hE : GErr es w (fun k => ¬ F k) 241 ea) (hK : KR w (fun k => ¬ F k))  :
    Calls Tryz.prog 17 #[.pointer (some ⟨gd, 0, none⟩), .int .i64 b, .pointer (some ⟨qk, 0, none⟩), .int .i64 e] w (Post w F (fun _ : Unit => .tuple #[.pointer none, eV 241 ea 1]) (fun _ => [DiskR gd d])) := by
 refine g_enter (env := [(0, .pointer (some ⟨gd, 0, none⟩)), (1, .int .i64 b), (2, .pointer (some ⟨qk, 0, none⟩)), (3, .int .i64 e)]) Tryz.func17 rfl h Tryz.ntmps17 rfl rfl ?_; refine gsr (zxa ?_); refine zxa ?_; refine zxs ?_; refine zxm ?_; refine gp (zbu (cs := stC (⟨e, 0, 0, 0, 0⟩ : VSt))) ?_; refine zal fun b10 => ?_; refine zsA (stC_len _) (stC_one _) ?_; refine gnt (gc_seq (gsr (gp (zLa (cs := stC (⟨e, 0, 0, 0, 0⟩ : VSt))) ?_))); refine zc (fun _ => ?_) (c := fun w1 F1 F2 h1 h2 hd hst => vright_ok (s := (⟨e, 0, 0, 0, 0⟩ : VSt)) h1)
 refine gp (r_bool (c := false) znt (by rw [hok]; rfl)) ?_; refine gnt (gc_condF rfl rfl ?_); refine gc_skip (gx_then (gsr (zxm ?_))); refine zxm ?_; refine zc (fun _ => ?_) (c := fun w1 F1 F2 h1 h2 hd hst => format_E (fmt_N hrt) (by decide) h1 hk (hE.mv hst.still) (hK.mv hst.still))
 refine zxm ?_; refine gp zex ?_; refine gp zex ?_; refine zxa ?_; refine zxa ?_; refine gnt (gc_seq (gsr (zxm ?_))); refine gp (r_bool (c := true) (r_nenil rfl (by kernel_rfl)) rfl) ?_; refine gnt (gc_condT rfl rfl ?_); refine gsr (zxm ?_); refine zxa ?_; refine zxa ?_; refine gnt (gc_ret (gx_then_ret (gx_ret2 rfl (by conv => lhs; whnf) (by conv => lhs; whnf) ?_))); exact ze ()
end
section
section
variable {w : World} {F : Nat → Prop} {g qk qs gd er : Nat} {s s' : VSt} {sl sl' : SL} {d d' : DS} {seed D : Dig} {e r q gr hi : Int} {ea : Nat → Addr} {es : List Nat} [Has es 1] [Has es 4] [Has es 5] [Has es 6] [Has es 7] [Has es 8] [Has es 10] [Has es 14] [Has es 15] [Has es 18]
theorem gvote_S (he : gstep d sl s (voteV s e r q gr) = (er, d', sl', s')) (h : stars [GdR g qk qs gd s sl, DiskR gd d, KeyR qk seed] w F) (hs : s.ok = true) (hk : DOk d) (hb : 0 ≤ sl.base ∧ sl.base ≤ 4096) (hc : sl.count < 9223372036854775808) (hE : GErr es w (fun k => ¬ F k) 241 ea) (hK : KR w (fun k => ¬ F k)) :
    Calls Tryz.prog 21 #[.pointer (some ⟨g, 0, none⟩), .int .i64 e, .int .i64 r, .int .i64 q, .int .i64 gr, .agg (dc D).toArray] w (Post w F (fun x : (Option Addr × Nat) × (Option Addr × Nat) => .tuple #[.agg (sgV er s.lf.toNat x).toArray, eV 241 ea er]) (fun x => [SgR er x seed s.lf.toNat (dOf Kc 7 [beN e 8, beN r 8, D.l]), GdR g qk qs gd s' sl', DiskR gd d', KeyR qk seed])) := by
  have h1 := gvote_ok (D := D) (seed := seed) (e := e) (r := r) (q := q) (gr := gr) h hs hk hb hc hE hK
  rw [he] at h1
  exact h1
end
theorem gstep_T {f : Nat → Sec} {c : Nat} {q : List UInt8} {s t : VSt} {r : VSt × Nat} (h : r = (t, 0)) (ht : t.ok = true) (hc : c < 1000000) : gstep (dZ f) ⟨0, c, q⟩ s r = (0, dZ (gF f c t), ⟨0, c + 1, bytV t⟩, t) := by subst h; rw [gstep_0 rfl, gput_Z ht hc]
theorem gstep_N {d : DS} {sl : SL} {s t : VSt} {r : VSt × Nat} {e : Nat} (h : r = (t, e)) (he : ¬ e = 0) : gstep d sl s r = (e, d, sl, s) := by subst h; exact gstep_e he
theorem put_B {f : Nat → Sec} {c : Nat} {q : List UInt8} {t : VSt} (hc : c < 1000000) : put (dZ f) ⟨0, c, q⟩ (bytV t) = (0, dZ (gF f c t), ⟨0, c + 1, bytV t⟩) := put_Z (by omega) (by rw [bytV_len]; omega)
end
section
def digO (n : UInt8) : Dig := ⟨n :: List.replicate 15 0, rfl⟩
def sE (e : Int) : VSt := ⟨e, 0, 0, 0, 0⟩
def fE1 (e : Int) : Nat → Sec := gF (fmtF fun _ => sec0) 0 (sE e)
theorem sE_ok {e : Int} (h : 0 ≤ e ∧ e ≤ 1073741824) : (sE e).ok = true := VSt.okM (by simp [sE]; exact h)
theorem fE1_gk {e : Int} (h : 0 ≤ e ∧ e ≤ 1073741824) : GK (fE1 e) 1 (sE e) := gk_put (good_fmt _) (sE_ok h) (by decide)
structure PX where
  p : Nat
  gd : Nat
  qk : Nat
  qs : Nat
  g : Nat
  mp : Nat
theorem al_v1 : voteV (sE 1) 1 1 0 0 = (⟨1, 1, 0, 0, 1⟩, 0) := by decide
theorem al_v2 : voteV ⟨1, 1, 0, 0, 1⟩ 1 1 0 0 = (⟨1, 1, 0, 0, 1⟩, 10) := by decide
def sA1 : VSt := ⟨1, 1, 0, 0, 1⟩
def fA1 : Nat → Sec := gF (fE1 1) 1 sA1
theorem fA1_gk : GK fA1 2 sA1 := gk_put (fE1_gk (by decide)).good (by decide) (by decide)
theorem nat0 : 0 ≤ (0 : Int) ∧ (0 : Int) ≤ 4096 := by decide
attribute [local irreducible] Gl Gc Gx Gs Runs Wt
theorem alive14_ok {w : World} {F : Nat → Prop} (h : stars [] w F) {ea : Nat → Addr} (hN : NErr w (fun k => ¬ F k) ea) (hK : KR w (fun k => ¬ F k))  :
    Calls Tryz.prog 8 #[] w (Post w F (fun _ : Unit => .bool true) (fun _ => [])) := by
 have hE := hN.g
 refine g_enter (env := []) Tryz.func8 rfl h Tryz.ntmps8 rfl rfl ?_; refine gsr (zxa ?_); refine zxs ?_; refine zc (fun g8 => ?_) (c := fun w1 F1 F2 h1 h2 hd hst => new_ok (n := 2) (ea := ea) h1 (by decide) (by decide))
 refine zxm ?_; refine gp zex ?_; refine gp zex ?_; refine zxa ?_; refine zxa ?_; refine gnt (gc_seq (gsr (zxm ?_))); refine gp (r_bool (c := false) (r_nenil rfl (by kernel_rfl)) rfl) ?_; refine zxm ?_; refine gq zmv ?_; refine gq (r_bool (c := false) (r_eqpn rfl Ty.un_24) rfl) ?_; refine gp zpk ?_; refine gnt (gc_condF rfl rfl ?_); refine gc_skip (gx_then (gsr (gp (zba (cs := dc (digO 5)) (hf := by kernel_rfl)) ?_))); refine zc (fun q18 => ?_) (c := fun w1 F1 F2 h1 h2 hd hst => knew_ok (ea := ea) (seed := digO 5) h1 (hK.mv hst.still))
 refine zxa ?_; refine zxs ?_; refine zxm ?_; refine zxm ?_; refine zc ?_ (c := fun w1 F1 F2 h1 h2 hd hst => gform_S (b := 0) (e := 1) (d := dZ fun _ => sec0) h1 (dZ_ok _) rfl (sE_ok (e := 1) (by decide)) (fmt_Z fun _ => sec0) (dZ_ok _) (put_B (by decide)) nat0 (hE.mv hst.still) (hK.mv hst.still))
 rintro ⟨g22, q22⟩
 refine zxm ?_; refine gp zex ?_; refine gp zex ?_; refine zxa ?_; refine zxa ?_; refine gnt (gc_seq (gsr (zxm ?_))); refine gp (r_bool (c := false) (r_nenil rfl (by kernel_rfl)) rfl) ?_; refine zxm ?_; refine gq zmv ?_; refine gq (r_bool (c := false) (r_eqpn rfl Ty.un_33) rfl) ?_; refine gp zpk ?_; refine gnt (gc_condF rfl rfl ?_); refine gc_skip (gx_then (gc_seq (gsr (zxm ?_)))); refine gp (zba (cs := dc (digO 1)) (hf := by kernel_rfl)) ?_; refine zc (fun x34 => ?_) (c := fun w1 F1 F2 h1 h2 hd hst => gvote_S (s := sE 1) (sl := ⟨0, 1, bytV (sE 1)⟩) (seed := digO 5) (D := digO 1) (e := 1) (r := 1) (q := 0) (gr := 0) (gstep_T (f := fE1 1) al_v1 (by decide) (by decide)) h1 (by decide) (dZ_ok _) nat0 (by show (1 : Nat) < _; decide) (hE.mv hst.still) (hK.mv hst.still))
 refine zxm ?_; refine gp zex ?_; refine gp zex ?_; refine zal fun b5 => ?_; refine zsA (sgV_len _ _ _) (sgV_one _ _ _) ?_; refine zxa ?_; refine zxs ?_; refine zxm ?_; refine gp (r_bool (c := false) (r_nenil rfl (by kernel_rfl)) rfl) ?_; refine gnt (gc_condF rfl rfl ?_); refine gc_skip (gx_then (gsr (zxm ?_))); refine zc (fun _ => ?_) (c := fun w1 F1 F2 h1 h2 hd hst => crash_ok' (d := dZ fA1) (kb := []) h1 (dZ_ok _) RdRow.nil)
 rw [crash_Z]; refine zxs ?_; refine zxm ?_; refine zxm ?_; refine zc ?_ (c := fun w1 F1 F2 h1 h2 hd hst => gopen_S (b := 0) (d := dZ fA1) (sl := ⟨0, 2, bytV sA1⟩) (s := sA1) h1 (dZ_ok _) rfl rfl (gk_opn fA1_gk) (by rw [bytV_len]; decide) (readV_byt (by decide)) (hE.mv hst.still) (hK.mv hst.still))
 rintro ⟨g44, q44⟩
 refine zxm ?_; refine gp zex ?_; refine gp zex ?_; refine zxa ?_; refine zxa ?_; refine gnt (gc_seq (gsr (zxm ?_))); refine gp (r_bool (c := false) (r_nenil rfl (by kernel_rfl)) rfl) ?_; refine zxm ?_; refine gq zmv ?_; refine gq (r_bool (c := false) (r_eqpn rfl Ty.un_33) rfl) ?_; refine gp zpk ?_; refine gnt (gc_condF rfl rfl ?_); refine gc_skip (gx_then (gsr (zxm ?_))); refine gp (zba (cs := dc (digO 2)) (hf := by kernel_rfl)) ?_; refine zc (fun x56 => ?_) (c := fun w1 F1 F2 h1 h2 hd hst => gvote_S (s := sA1) (sl := ⟨0, 2, bytV sA1⟩) (seed := digO 5) (D := digO 2) (e := 1) (r := 1) (q := 0) (gr := 0) (gstep_N (d := dZ fA1) al_v2 (by decide)) h1 (by decide) (dZ_ok _) nat0 (by show (2 : Nat) < _; decide) (hE.mv hst.still) (hK.mv hst.still))
 refine zxm ?_; refine gp zex ?_; refine gp zex ?_; refine zxa ?_; refine zxs ?_; refine zxm ?_; refine zc (fun _ => ?_) (c := fun w1 F1 F2 h1 h2 hd hst => errNum_ok (n := 10) h1 (hN.mv hst.still) (by decide))
 refine gp (r_bool (c := true) zei (decide_eq_true rfl)) ?_; refine zxa ?_; refine gnt (gc_ret (gx_ret1 rfl (by conv => lhs; whnf) ?_)); exact ze ()
end
section
structure AskV where
  kind : Int
  e : Int
  r : Int
  q : Int
  g : Int
  d : Dig
def askC (a : AskV) : List Value := .int .i64 a.kind :: .int .i64 a.e :: .int .i64 a.r :: .int .i64 a.q :: .int .i64 a.g :: dc a.d
theorem askC_len (a : AskV) : (askC a).length = 21 := by simp [askC, dc_length]
theorem askC_one (a : AskV) : ∀ v ∈ askC a, v.oneCell' = true := all_cons' rfl (all_cons' rfl (all_cons' rfl (all_cons' rfl (all_cons' rfl (dc_one _)))))
instance {a : AskV} : Len (askC a) 21 := ⟨askC_len a⟩
instance {a : AskV} : One (askC a) := One.of (askC_one a)
def vI (cs : List Value) (i : Nat) : Int := match cs[i]? with | some (.int _ a) => a | _ => 0
theorem run_eqFieldsI {P : Program} {I : TypeId} (hI : P.underlying I = some (.int .i64)) (a b : VSt) (w : World) (d : Nat) : ∀ (fs : List Field), (∀ f ∈ fs, f.name ≠ "_" ∧ f.type = I ∧ f.offset < 5) →
    (Go.Op.eqFields (d + 1) (stC a).toArray (stC b).toArray fs).run P w = .ok (fs.all fun f => decide (vI (stC a) f.offset = vI (stC b) f.offset)) w
  | [], _ => by simp [Go.Op.eqFields]
  | f :: fs, h => by
    obtain ⟨h1, h2, h3⟩ := h f (by simp)
    have ih := run_eqFieldsI hI a b w d fs (fun g hg => h g (by simp [hg]))
    have hr : rowT P f.type = some false := by rw [h2]; simp [rowT, hI]
    have hv : ∀ s : VSt, (stC s)[f.offset]? = some (.int .i64 (vI (stC s) f.offset)) := fun s => by
      have h' : f.offset = 0 ∨ f.offset = 1 ∨ f.offset = 2 ∨ f.offset = 3 ∨ f.offset = 4 := by omega
      rcases h' with e | e | e | e | e <;> rw [e] <;> rfl
    have p1 := run_part1 (P := P) (T := f.type) (off := f.offset) (cs := stC a) hr (hv a) w
    have p2 := run_part1 (P := P) (T := f.type) (off := f.offset) (cs := stC b) hr (hv b) w
    have p3 := run_equalIn_int (P := P) w d f.type .i64 .i64 (vI (stC a) f.offset) (vI (stC b) f.offset) (by rw [h2]; exact hI)
    simp only [Go.Op.eqFields, if_pos h1, Sem.run_bind, p1, p2, p3, Result.andThen_ok, Sem.run_ite]
    by_cases hab : vI (stC a) f.offset = vI (stC b) f.offset
    · simp [hab, ih]
    · simp [hab]
theorem st_dec (a b : VSt) : ([0, 1, 2, 3, 4].all fun i => decide (vI (stC a) i = vI (stC b) i)) = decide (a = b) := by
  cases a; cases b
  simp [vI, stC]
section
variable {P : Program} {w0 : World} {F0 : Nat → Prop} {L : List Res} {n : Fm} {env : Env} {d : Option Tmp} {ty : TypeId} {pos : String} {af : Array Edge} {gd : Option (Nat × Bool)}
theorem run_eqSt {T I : TypeId} (w : World) (a b : VSt) (hu : P.underlying T = some (.struct (P.fieldsOf T))) (hp : P.stoodInHeld T = false) (hI : P.underlying I = some (.int .i64)) (h1 : (P.fieldsOf T).toList.map (fun f => f.offset) = [0, 1, 2, 3, 4]) (h2 : ((P.fieldsOf T).toList.all fun f => !(f.name == "_") && f.type == I) = true) :
    (Go.Op.equalIn 10000 T (.agg (stC a).toArray) (.agg (stC b).toArray)).run P w = .ok (decide (a = b)) w := by
  have hf : ∀ f ∈ (P.fieldsOf T).toList, f.name ≠ "_" ∧ f.type = I ∧ f.offset < 5 := fun f hf => by
    have h3 := List.all_eq_true.1 h2 f hf
    simp only [Bool.and_eq_true, Bool.not_eq_true', beq_eq_false_iff_ne, beq_iff_eq] at h3
    have h4 : f.offset ∈ [0, 1, 2, 3, 4] := by rw [← h1]; exact List.mem_map.2 ⟨f, hf, rfl⟩
    refine ⟨h3.1, h3.2, ?_⟩
    simp at h4; omega
  rw [run_equalIn_struct w 9999 T _ _ hu hp, run_eqFieldsI (d := 9998) hI a b w _ hf, ← st_dec, ← h1, List.all_map]
  rfl
theorem r_eqst {x y : Operand} {T T' I : TypeId} {a b : VSt} (hu : P.underlying T = some (.struct (P.fieldsOf T))) (hp : P.stoodInHeld T = false) (hI : P.underlying I = some (.int .i64)) (h1 : (P.fieldsOf T).toList.map (fun f => f.offset) = [0, 1, 2, 3, 4]) (h2 : ((P.fieldsOf T).toList.all fun f => !(f.name == "_") && f.type == I) = true) (hg : P.eqGuardType P.depth T = false) (hx : ev n env x = .agg (stC a).toArray := by exact rfl) (hy : ev n env y = .agg (stC b).toArray := by exact rfl) :
    Runs P w0 F0 L n env ⟨d, .binOp .eql T x y T', ty, pos, af, gd⟩ (.bool (decide (a = b))) := fun w _ => by
  simp only [execOp, hx, hy, Sem.run_bind, run_eqGuard_agg w _ _ _ _ _ _ hg, Result.andThen_ok, run_eql_struct, run_eqSt w a b hu hp hI h1 h2, Sem.run_pure]
theorem r_nest {x y : Operand} {T T' I : TypeId} {a b : VSt} (hu : P.underlying T = some (.struct (P.fieldsOf T))) (hp : P.stoodInHeld T = false) (hI : P.underlying I = some (.int .i64)) (h1 : (P.fieldsOf T).toList.map (fun f => f.offset) = [0, 1, 2, 3, 4]) (h2 : ((P.fieldsOf T).toList.all fun f => !(f.name == "_") && f.type == I) = true) (hg : P.eqGuardType P.depth T = false) (hx : ev n env x = .agg (stC a).toArray := by exact rfl) (hy : ev n env y = .agg (stC b).toArray := by exact rfl) :
    Runs P w0 F0 L n env ⟨d, .binOp .neq T x y T', ty, pos, af, gd⟩ (.bool (!decide (a = b))) := fun w _ => by
  simp only [execOp, hx, hy, Sem.run_bind, run_eqGuard_agg w _ _ _ _ _ _ hg, Result.andThen_ok, run_neq_struct, run_eqSt w a b hu hp hI h1 h2, Sem.run_pure]
end
theorem vn3_ok {s : VSt} {k : Nat} (hk : k < 3) (h : s.ok = true) : 0 ≤ vn3 s k ∧ vn3 s k ≤ 1099511627776 := by
  have hi := VSt.okI h
  have h' : k = 0 ∨ k = 1 ∨ k = 2 := by omega
  rcases h' with rfl | rfl | rfl <;> simp [vn3] <;> omega
theorem rok_T {s : VSt} (h : ∀ j, j < 3 → 0 ≤ vn3 s j ∧ vn3 s j ≤ 1099511627776) (h1 : 0 ≤ s.e) (h2 : s.e ≤ 1073741824) (h3 : 0 ≤ s.lf) : s.ok = decide (s.lf ≤ 32) := by
  have g0 := h 0 (by decide); have g1 := h 1 (by decide); have g2 := h 2 (by decide)
  simp [vn3] at g0 g1 g2
  rw [Bool.eq_iff_iff, decide_eq_true_eq]
  exact ⟨fun h0 => (VSt.okI h0).2.2.2.2.2, fun h4 => VSt.okM ⟨⟨h1, h2⟩, g0, g1, g2, h3, h4⟩⟩
theorem rok_F {s : VSt} (h : s.ok = true → False) : s.ok = false := by cases h0 : s.ok with
  | false => rfl
  | true => exact (h h0).elim
attribute [local irreducible] Gl Gc Gx Gs Runs Wt
theorem rvright_ok {w : World} {F : Nat → Prop} {s : VSt} (h : stars [] w F) :
    Calls Tryz.prog 24 #[.agg (stC s).toArray] w (Post w F (fun _ : Unit => .bool s.ok) (fun _ => [])) := by
 refine g_enter (env := [(0, .agg (stC s).toArray)]) Tryz.func24 rfl h Tryz.ntmps24 rfl rfl ?_; refine gsr (zbN fun b1 => ?_); refine zxa ?_; refine gnt (gc_seq (gsr (gp zfa ?_))); refine gp zl ?_; refine gp zfa ?_; refine gp zl ?_; refine gp zfa ?_; refine gp zl ?_; refine gl_bsls (vs := [.int .i64 s.v, .int .i64 s.l, .int .i64 s.p]) (wt0 rfl) Ty.sl_52 Ty.sz_3 Ty.zc_3 rfl rfl (all_cons' rfl (all_cons' rfl (all_cons' rfl all_nil'))) rfl rfl rfl ?_; intro b11; refine gp zln ?_; refine zxm ?_; refine gnt (gc_block (gc_loop (α := Nat) (fun k => [pureR (k ≤ 3 ∧ ∀ j, j < k → 0 ≤ vn3 s j ∧ vn3 s j ≤ 1099511627776), rowR 3 1 (some ⟨b11, 0, none⟩) 3 3 [.int .i64 s.v, .int .i64 s.l, .int .i64 s.p], blk b1 42 (stC s)]) (fun k => [(13, .int .i64 (k : Int))]) [2, 4, 14, 15, 16, 17, 18, 19, 20, 21, 22, 23] (fun k => 3 - k) 0 ?_ ?_ ?_))
 ·refine env_start (by kernel_rfl)
 ·exact zlp ⟨Nat.zero_le _, fun j hj => absurd hj (Nat.not_lt_zero _)⟩
 ·intro k u; refine gc_pureR (fun hk => ?_)
  obtain ⟨hk, hall⟩ := hk; replace hk : k ≤ 3 := hk
  refine gsr (gp zlt ?_); refine gnt (gc_seq (gif rfl (fun hc14 => ?_) (fun hc14 => ?_)))
  ·try simp only at hc14
   have hk' : k < 3 := by omega
   refine gc_skip (gx_then (gc_seq (gc_block (gsr (gp (r_val (v' := .pointer (some ⟨b11, 0 + k, none⟩)) zia (by simp)) ?_))))); refine gp (r_ld1r (v := .int .i64 (vn3 s k)) rfl Ty.row_3 (by repeat (first | exact Pick.here | apply Pick.there)) (by have h' : k = 0 ∨ k = 1 ∨ k = 2 := (by omega); rcases h' with rfl | rfl | rfl <;> rfl)) ?_; refine zxa ?_; refine gnt (gc_seq ?_); by_cases hn : vn3 s k < 0
   ·refine gc_region (zxm ?_); refine gp (r_bool (c := true) zlt (decide_eq_true hn)) ?_; refine zxm ?_; refine gn ?_; refine gn ?_; refine gp zpk ?_; refine gnt (gc_condT rfl rfl ?_); refine gsr (zxa ?_); refine gnt (gc_ret (gx_block_ret ?_)); refine gx_then_ret (gx_round_ret ?_); refine gx_block_ret ?_; refine gx_then_ret (gx_ret1 rfl (by conv => lhs; whnf) ?_); have e0 : s.ok = false := rok_F (fun h0 => by have := vn3_ok hk' h0; omega)
    exact fun w' hw => ⟨(), by rw [e0], hw.z⟩
   ·refine gc_region (zxm ?_); refine gp (r_bool (c := false) zlt (decide_eq_false hn)) ?_; refine zxm ?_; refine gq zmv ?_; refine gq zgt ?_; refine gp zpk ?_; refine gnt (gif rfl (fun hc22 => ?_) (fun hc22 => ?_))
    ·try simp only at hc22
     have hb : 1099511627776 < vn3 s k := by simpa using hc22
     refine gsr (zxa ?_); refine gnt (gc_ret (gx_block_ret ?_)); refine gx_then_ret (gx_round_ret ?_); refine gx_block_ret ?_; refine gx_then_ret (gx_ret1 rfl (by conv => lhs; whnf) ?_); have e0 : s.ok = false := rok_F (fun h0 => by have := vn3_ok hk' h0; omega)
     exact fun w' hw => ⟨(), by rw [e0], hw.z⟩
    ·try simp only at hc22
     have hb : ¬ 1099511627776 < vn3 s k := by simpa using hc22
     refine gc_skip (gx_block_normal (gx_then (gc_region (gp zad ?_)))); refine zxm ?_; refine gl_nil (zrd (k + 1) ?_ ?_)
     ·show 3 - (k + 1) < 3 - k
      omega
     ·exact zlp (show k + 1 ≤ 3 ∧ ∀ j, j < k + 1 → 0 ≤ vn3 s j ∧ vn3 s j ≤ 1099511627776 from ⟨by omega, fun j hj => (by by_cases h' : j < k; exact hall j h'; (obtain rfl : j = k := by omega); omega)⟩)
  ·try simp only at hc14
   have hk' : k = 3 := by omega
   subst hk'; refine gc_exit ?_; refine gx_then_exit ?_; refine gx_round_exit ?_; refine gx_block_hit ?_; refine gx_then (gc_seq ?_); by_cases he0 : 0 ≤ s.e
   ·by_cases he1 : s.e ≤ 1073741824
    ·by_cases hl0 : 0 ≤ s.lf
     ·refine gc_region (gp zfa ?_); refine gp zl ?_; refine gp (r_bool (c := true) zge (decide_eq_true he0)) ?_; refine zxm ?_; refine gq zfa ?_; refine gq zl ?_; refine gq (r_bool (c := true) zle (decide_eq_true he1)) ?_; refine gp zpk ?_; refine zxm ?_; refine gq zfa ?_; refine gq zl ?_; refine gq (r_bool (c := true) zge (decide_eq_true hl0)) ?_; refine gp zpk ?_; refine zxm ?_; refine gq zfa ?_; refine gq zl ?_; refine gq zle ?_; refine gp zpk ?_; refine zxa ?_; refine gnt (gc_ret (gx_ret1 rfl (by conv => lhs; whnf) ?_)); exact fun w' hw => ⟨(), by rw [rok_T hall he0 he1 hl0], hw.z⟩
     ·refine gc_region (gp zfa ?_); refine gp zl ?_; refine gp (r_bool (c := true) zge (decide_eq_true he0)) ?_; refine zxm ?_; refine gq zfa ?_; refine gq zl ?_; refine gq (r_bool (c := true) zle (decide_eq_true he1)) ?_; refine gp zpk ?_; refine zxm ?_; refine gq zfa ?_; refine gq zl ?_; refine gq (r_bool (c := false) zge (decide_eq_false hl0)) ?_; refine gp zpk ?_; refine zxm ?_; refine gn ?_; refine gn ?_; refine gn ?_; refine gp zpk ?_; refine zxa ?_; refine gnt (gc_ret (gx_ret1 rfl (by conv => lhs; whnf) ?_)); have e0 : s.ok = false := rok_F (fun h0 => by have := VSt.okI h0; omega)
      exact fun w' hw => ⟨(), by rw [e0], hw.z⟩
    ·refine gc_region (gp zfa ?_); refine gp zl ?_; refine gp (r_bool (c := true) zge (decide_eq_true he0)) ?_; refine zxm ?_; refine gq zfa ?_; refine gq zl ?_; refine gq (r_bool (c := false) zle (decide_eq_false he1)) ?_; refine gp zpk ?_; refine zxm ?_; refine gn ?_; refine gn ?_; refine gn ?_; refine gp zpk ?_; refine zxm ?_; refine gn ?_; refine gn ?_; refine gn ?_; refine gp zpk ?_; refine zxa ?_; refine gnt (gc_ret (gx_ret1 rfl (by conv => lhs; whnf) ?_)); have e0 : s.ok = false := rok_F (fun h0 => by have := VSt.okI h0; omega)
     exact fun w' hw => ⟨(), by rw [e0], hw.z⟩
   ·refine gc_region (gp zfa ?_); refine gp zl ?_; refine gp (r_bool (c := false) zge (decide_eq_false he0)) ?_; refine zxm ?_; refine gn ?_; refine gn ?_; refine gn ?_; refine gp zpk ?_; refine zxm ?_; refine gn ?_; refine gn ?_; refine gn ?_; refine gp zpk ?_; refine zxm ?_; refine gn ?_; refine gn ?_; refine gn ?_; refine gp zpk ?_; refine zxa ?_; refine gnt (gc_ret (gx_ret1 rfl (by conv => lhs; whnf) ?_)); have e0 : s.ok = false := rok_F (fun h0 => by have := VSt.okI h0; omega)
    exact fun w' hw => ⟨(), by rw [e0], hw.z⟩
theorem gstateB_ok {w : World} {F : Nat → Prop} {g qk qs : Nat} {s : VSt} (h : stars [blk g 50 (.pointer (some ⟨qk, 0, none⟩) :: .pointer (some ⟨qs, 0, none⟩) :: stC s)] w F) :
    Calls Tryz.prog 16 #[.pointer (some ⟨g, 0, none⟩)] w (Post w F (fun _ : Unit => .agg (stC s).toArray) (fun _ => [blk g 50 (.pointer (some ⟨qk, 0, none⟩) :: .pointer (some ⟨qs, 0, none⟩) :: stC s)])) := by
 refine g_enter (env := [(0, .pointer (some ⟨g, 0, none⟩))]) Tryz.func16 rfl h Tryz.ntmps16 rfl rfl ?_; refine gsr (zal fun b2 => ?_); refine zxs ?_; refine zxm ?_; refine gp znc ?_; refine gp zfa ?_; refine gp zL ?_; refine zsA (stC_len _) (stC_one _) ?_; refine gnt (gc_ret (gx_retc rfl rfl (ldA Ty.row_45 Ty.sz_45) ?_)); exact ze ()
end
section
theorem valN_step {l : List UInt8} {k : Nat} (h : k < l.length) : valN (l.take (k + 1)) = valN (l.take k) * 256 + (l.getD k 0).toNat := by
  rw [take_snoc h]; unfold valN; rw [List.foldl_append]; rfl
structure RS where
  pos : Nat
  err : Nat
def RS.st (B : List UInt8) (r : RS) : RSt := if r.err = 0 then .ok (B.drop r.pos) else .error r.err
def InR (g : Nat) (a : Option Addr) (c : Nat) (B : List UInt8) (σ : RSt) : Res := exR fun r : RS => allR [pureR (r.st B = σ ∧ r.pos ≤ B.length), blk g 106 [.slice a B.length c, .int .i64 (r.pos : Int), .int .i64 (r.err : Int)]]
section
variable {g c : Nat} {a : Option Addr} {B : List UInt8} {σ : RSt} {w : World} {F : Nat → Prop} {L : List Res}
theorem in_open (h : stars (InR g a c B σ :: L) w F) : ∃ r : RS, r.st B = σ ∧ r.pos ≤ B.length ∧ stars (blk g 106 [.slice a B.length c, .int .i64 (r.pos : Int), .int .i64 (r.err : Int)] :: L) w F := by
  obtain ⟨r, h⟩ := stars_ex h
  obtain ⟨⟨h1, h2⟩, h3⟩ := stars_pure (stars_all h)
  exact ⟨r, h1, h2, h3⟩
theorem in_mk {r : RS} {i k : Int} (h : stars (blk g 106 [.slice a B.length c, .int .i64 i, .int .i64 k] :: L) w F) (hi : i = (r.pos : Int)) (hk : k = (r.err : Int)) (hs : r.st B = σ) (hp : r.pos ≤ B.length) : stars (InR g a c B σ :: L) w F := by
  subst hi; subst hk
  exact stars_ex_mk r (stars_all_mk (stars_pure_mk ⟨hs, hp⟩ h))
theorem St.inr {w0 : World} {F0 : Nat → Prop} (r : RS) {i k : Int} (h : St w0 F0 (blk g 106 [.slice a B.length c, .int .i64 i, .int .i64 k] :: L) w) (hi : i = (r.pos : Int)) (hk : k = (r.err : Int)) (hs : r.st B = σ) (hp : r.pos ≤ B.length) : St w0 F0 (InR g a c B σ :: L) w :=
  h.mapL fun F hF => in_mk hF hi hk hs hp
end
theorem take_short {n : Nat} {b : List UInt8} (h : b.length < n) : pTake n b = .error 2 := by unfold pTake; rw [if_pos h]
theorem take_long {n : Nat} {b : List UInt8} (h : ¬ b.length < n) : pTake n b = .ok (b.take n, b.drop n) := by unfold pTake; rw [if_neg h]
theorem num_short {n : Nat} {b : List UInt8} (h : b.length < n) : pNum n b = .error 2 := by unfold pNum; exact pBind_err (take_short h)
theorem num_long {n : Nat} {b : List UInt8} (h : ¬ b.length < n) : pNum n b = .ok ((valN (b.take n) : Int), b.drop n) := by unfold pNum; rw [pBind_eq (take_long h)]; rfl
attribute [local irreducible] Gl Gc Gx Gs Runs Wt
theorem ofail_ok {w : World} {F : Nat → Prop} {g : Nat} {v u : Value} {k e : Int} (h : stars [blk g 106 [v, u, .int .i64 k]] w F) :
    Calls Tryz.prog 74 #[.pointer (some ⟨g, 0, none⟩), .int .i64 e] w (Post w F (fun _ : Unit => .tuple #[]) (fun _ => [blk g 106 [v, u, .int .i64 (if k = 0 then e else k)]])) := by
 refine g_enter (env := [(0, .pointer (some ⟨g, 0, none⟩)), (1, .int .i64 e)]) Tryz.func74 rfl h Tryz.ntmps74 rfl rfl ?_; refine gc_seq ?_; by_cases he : k = 0
 ·refine gc_region (zxm ?_); refine gp znc ?_; refine gp zfa ?_; refine gp zl ?_; refine gp (r_bool (c := true) zei (decide_eq_true he)) ?_; refine gnt (gc_condT rfl rfl ?_); refine gc_region (zxm ?_); refine zxm ?_; refine gp znc ?_; refine gp zfa ?_; refine zs1 ?_; refine gl_nil (gx_ret0' rfl ?_); rw [if_pos he]; exact ze ()
 ·refine gc_region (zxm ?_); refine gp znc ?_; refine gp zfa ?_; refine gp zl ?_; refine gp (r_bool (c := false) zei (decide_eq_false he)) ?_; refine gnt (gc_condF rfl rfl ?_); refine gc_skip (gx_ret0' rfl ?_); rw [if_neg he]; exact ze ()
theorem oleft_ok {w : World} {F : Nat → Prop} {g c n p : Nat} {a : Option Addr} {k : Int} (h : stars [blk g 106 [.slice a n c, .int .i64 (p : Int), .int .i64 k]] w F) (hp : p ≤ n) (hn : n ≤ 40000) :
    Calls Tryz.prog 75 #[.pointer (some ⟨g, 0, none⟩)] w (Post w F (fun _ : Unit => .int .i64 ((n - p : Nat) : Int)) (fun _ => [blk g 106 [.slice a n c, .int .i64 (p : Int), .int .i64 k]])) := by
 refine g_enter (env := [(0, .pointer (some ⟨g, 0, none⟩))]) Tryz.func75 rfl h Tryz.ntmps75 rfl rfl ?_; refine gsr (zxa ?_); refine gnt (gc_seq (gc_regionS (by kernel_rfl) (by kernel_rfl) ?_)); refine sp zmv ?_; refine sp znc ?_; refine sp zfa ?_; refine sp zl ?_; refine sp zln ?_; refine sp zmv ?_; refine sp znc ?_; refine sp zfa ?_; refine sp zl ?_; refine sp (r_int (j := ((n - p : Nat) : Int)) zsb (by omega)) ?_; refine sp zas ?_; refine gs_nil ?_; refine gx_then (gc_ret (gx_ret1 rfl (by conv => lhs; whnf) ?_)); exact ze ()
theorem inum_ok {w : World} {F : Nat → Prop} {g c : Nat} {a : Option Addr} {B : List UInt8} {σ : RSt} (h : stars [InR g a c B σ] w F) (hB : RdRow w (fun k => ¬ F k) 1 a B.length (B.map B8)) (hc : B.length ≤ c) (hl : B.length ≤ 40000) {wd : Nat} (h1 : 1 ≤ wd) (h7 : wd ≤ 6) :
    Calls Tryz.prog 41 #[.pointer (some ⟨g, 0, none⟩), .int .i64 (wd : Int)] w (Post w F (fun x : Nat => .int .i64 (x : Int)) (fun x => [pureR (Ag (pNum wd) σ (x : Int) ∧ x < 256 ^ wd), InR g a c B (rstep (pNum wd) σ)])) := by
 obtain ⟨r, hs, hat, h'⟩ := in_open h; have hpow : 0 < 256 ^ wd := Nat.pow_pos (by decide)
 refine g_enter (env := [(0, .pointer (some ⟨g, 0, none⟩)), (1, .int .i64 (wd : Int))]) Tryz.func41 rfl h' Tryz.ntmps41 rfl rfl ?_; refine gsr (zxa ?_); refine gnt (gc_seq (gsr (zxm ?_))); refine gp (r_bool (c := false) zlt (decide_eq_false (by omega))) ?_; refine zxm ?_; refine gq zmv ?_; refine gq (r_bool (c := false) zgt (decide_eq_false (by omega))) ?_; refine gp zpk ?_; refine gnt (gc_condF rfl rfl ?_); refine gc_skip (gx_then (gc_seq (gc_seq ?_))); by_cases he : r.err = 0
 ·by_cases hq : B.length - r.pos < wd
  ·refine gc_region (zxm ?_); refine gp znc ?_; refine gp zfa ?_; refine gp zl ?_; refine gp (r_bool (c := true) zei (decide_eq_true (by omega))) ?_; refine zxm ?_; refine gq zmv ?_; refine zc (fun _ => ?_) (c := fun w1 F1 F2 h1 h2 hd hst => oleft_ok h1 hat hl)
   refine gq zmv ?_; refine gq (r_bool (c := true) zlt (decide_eq_true (by omega))) ?_; refine gp zpk ?_; refine gnt (gc_condT rfl rfl ?_); refine gc_region (zxm ?_); refine zc (fun _ => ?_) (c := fun w1 F1 F2 h1 h2 hd hst => ofail_ok h1)
   rw [if_pos (show (r.err : Int) = 0 by omega)]; refine gnt (gc_seq (gc_seq (gc_regionS (by kernel_rfl) (by kernel_rfl) ?_))); refine sp zmv ?_; refine sp znc ?_; refine sp zfa ?_; refine sp zl ?_; refine sp (r_bool (c := false) zei rfl) ?_; refine sp zmv ?_; refine sn ?_; refine sn ?_; refine sp zpk ?_; refine sp zmv ?_; refine sn ?_; refine sn ?_; refine sn ?_; refine sn ?_; refine sn ?_; refine sn ?_; refine sn ?_; refine sn ?_; refine sn ?_; refine sn ?_; refine sn ?_; refine sp zpk ?_; refine gs_nil ?_; refine gx_then (gc_condF rfl rfl ?_); refine gc_skip (gx_then (gc_seq (gsr (zxm ?_)))); refine gp znc ?_; refine gp zfa ?_; refine gp zl ?_; refine gp (r_bool (c := true) zni rfl) ?_; refine gnt (gc_condT rfl rfl ?_); refine gsr (zxa ?_); refine gnt (gc_ret (gx_then_ret (gx_ret1 rfl (by conv => lhs; whnf) ?_))); have e1 : σ = .ok (B.drop r.pos) := by rw [← hs, RS.st, if_pos he]
   subst e1; have hsh : pNum wd (B.drop r.pos) = .error 2 := num_short (by rw [List.length_drop]; exact hq)
   exact fun w' hw => ⟨0, rfl, St.pureI ⟨Ag.ne hsh _, hpow⟩ (St.inr ⟨r.pos, 2⟩ (hw.z) rfl rfl (by rw [RS.st, if_neg (by simp)]; simp only [rstep, hsh]) hat)⟩
  ·refine gc_region (zxm ?_); refine gp znc ?_; refine gp zfa ?_; refine gp zl ?_; refine gp (r_bool (c := true) zei (decide_eq_true (by omega))) ?_; refine zxm ?_; refine gq zmv ?_; refine zc (fun _ => ?_) (c := fun w1 F1 F2 h1 h2 hd hst => oleft_ok h1 hat hl)
   refine gq zmv ?_; refine gq (r_bool (c := false) zlt (decide_eq_false (by omega))) ?_; refine gp zpk ?_; refine gnt (gc_condF rfl rfl ?_); refine gc_skip (gx_then (gc_seq (gc_seq (gc_regionS (by kernel_rfl) (by kernel_rfl) ?_)))); refine sp zmv ?_; refine sp znc ?_; refine sp zfa ?_; refine sp zl ?_; refine sp (r_bool (c := true) zei (decide_eq_true (by omega))) ?_; refine sp zmv ?_; refine sq zmv ?_; refine sq (r_bool (c := false) zei (decide_eq_false (by omega))) ?_; refine sp zpk ?_; refine sp zmv ?_; refine sn ?_; refine sn ?_; refine sn ?_; refine sn ?_; refine sn ?_; refine sn ?_; refine sn ?_; refine sn ?_; refine sn ?_; refine sn ?_; refine sn ?_; refine sp zpk ?_; refine gs_nil ?_; refine gx_then (gc_condF rfl rfl ?_); refine gc_skip (gx_then (gc_seq (gsr (zxm ?_)))); refine gp znc ?_; refine gp zfa ?_; refine gp zl ?_; refine gp (r_bool (c := false) zni (by simp [he])) ?_; refine gnt (gc_condF rfl rfl ?_); refine gc_skip (gx_then (gsr (zxa ?_))); refine gnt (gc_seq (gsr (zxa ?_))); refine gnt (gc_block (gc_loop (α := Nat) (fun k => [pureR (k ≤ wd), blk g 106 [.slice a B.length c, .int .i64 ((r.pos + k : Nat) : Int), .int .i64 (r.err : Int)]]) (fun k => [(6, .int .i64 (k : Int)), (5, .int .i64 ((valN ((B.drop r.pos).take k) : Nat) : Int))]) [57, 58, 59, 60, 61, 62, 63, 64, 65, 66, 67, 68, 69, 70, 71, 72, 73, 74, 75, 76, 77, 78, 79, 80, 81, 82] (fun k => wd - k) 0 ?_ ?_ ?_))
   ·refine env_start (by kernel_rfl)
   ·exact zlp (Nat.zero_le _)
   ·intro k u; refine gc_pureR (fun hk => ?_)
    replace hk : k ≤ wd := hk
    refine gc_seq (gsr (zxm ?_)); refine zxm ?_; refine gp zlt ?_; refine gnt (gif rfl (fun hc59 => ?_) (fun hc59 => ?_))
    ·try simp only at hc59
     have hk' : k < wd := by omega
     obtain ⟨ga, o, ha, hA, hg, hra⟩ := hB.2.2 (by omega); subst ha; have hb8 := (B.getD (r.pos + k) 0).toNat_lt
     have hlk : ((B.drop r.pos).take k).length = k := by rw [List.length_take, List.length_drop]; omega
     have hv1 := valN_lt ((B.drop r.pos).take k)
     rw [hlk] at hv1; have hv2 : 256 ^ k ≤ 256 ^ 5 := Nat.pow_le_pow_right (by decide) (by omega)
     have hv3 : (256 : Nat) ^ 5 = 1099511627776 := by decide
     have hst : valN ((B.drop r.pos).take (k + 1)) = valN ((B.drop r.pos).take k) * 256 + (B.getD (r.pos + k) 0).toNat := by rw [valN_step (by rw [List.length_drop]; omega)]; simp [List.getD, List.getElem?_drop]
     refine gc_skip (gx_then (gc_seq (gc_block (gc_seq (gc_regionS (by kernel_rfl) (by kernel_rfl) ?_))))); refine sp zmv ?_; refine sp zml ?_; refine sp zmv ?_; refine sp znc ?_; refine sp zfa ?_; refine sp zl ?_; refine sp zmv ?_; refine sp znc ?_; refine sp zfa ?_; refine sp zl ?_; refine sp (r_indexAddr_slice rfl rfl Ty.sl_22 Ty.sz_5 (by omega) (by omega)) ?_; refine sp (r_ld1o (v := B8 (B.getD (r.pos + k) 0)) rfl Ty.row_5 (cellb hra (j := r.pos + k) (by omega) (by omega)) hA) ?_; refine sp (r_int (j := ((B.getD (r.pos + k) 0).toNat : Int)) zci (wrap_i64 (by omega) (by omega))) ?_; refine sp (r_int (j := ((valN ((B.drop r.pos).take (k + 1)) : Nat) : Int)) zad (by omega)) ?_; refine sp zas ?_; refine gs_nil ?_; refine gx_then (gc_region (zxm ?_)); refine gp znc ?_; refine gp zfa ?_; refine gp zl ?_; refine gp (r_int (j := ((r.pos + (k + 1) : Nat) : Int)) zad (by omega)) ?_; refine gp znc ?_; refine gp zfa ?_; refine zs1 ?_; refine gl_nil (gx_block_normal (gx_then (gc_region (zxm ?_)))); refine gp zad ?_; refine zxa ?_; refine gl_nil (zrd (k + 1) ?_ ?_)
     ·show wd - (k + 1) < wd - k
      omega
     ·exact zlp (show k + 1 ≤ wd by omega)
    ·try simp only at hc59
     have hk' : k = wd := by omega
     subst hk'; refine gc_exit ?_; refine gx_then_exit ?_; refine gx_round_exit ?_; refine gx_block_hit ?_; refine gx_then (gsr (zxm ?_)); refine zxa ?_; refine gnt (gc_ret (gx_ret1 rfl (by conv => lhs; whnf) ?_)); have e1 : σ = .ok (B.drop r.pos) := by rw [← hs, RS.st, if_pos he]
     subst e1; have hlg : pNum k (B.drop r.pos) = .ok ((valN ((B.drop r.pos).take k) : Int), (B.drop r.pos).drop k) := num_long (by rw [List.length_drop]; exact hq)
     have hvl := valN_lt ((B.drop r.pos).take k)
     rw [show ((B.drop r.pos).take k).length = k by rw [List.length_take, List.length_drop]; omega] at hvl; exact fun w' hw => ⟨valN ((B.drop r.pos).take k), rfl, St.pureI ⟨Ag.of hlg, hvl⟩ (St.inr ⟨r.pos + k, r.err⟩ (hw.z) rfl rfl (by rw [RS.st, if_pos he]; simp only [rstep, hlg, List.drop_drop]) (by show r.pos + k ≤ B.length; omega))⟩
 ·refine gc_region (zxm ?_); refine gp znc ?_; refine gp zfa ?_; refine gp zl ?_; refine gp (r_bool (c := false) zei (decide_eq_false (by omega))) ?_; refine zxm ?_; refine gn ?_; refine gn ?_; refine gn ?_; refine gn ?_; refine gp zpk ?_; refine gnt (gc_condF rfl rfl ?_); refine gc_skip (gx_then (gc_seq (gc_seq (gc_regionS (by kernel_rfl) (by kernel_rfl) ?_)))); refine sp zmv ?_; refine sp znc ?_; refine sp zfa ?_; refine sp zl ?_; refine sp (r_bool (c := false) zei (decide_eq_false (by omega))) ?_; refine sp zmv ?_; refine sn ?_; refine sn ?_; refine sp zpk ?_; refine sp zmv ?_; refine sn ?_; refine sn ?_; refine sn ?_; refine sn ?_; refine sn ?_; refine sn ?_; refine sn ?_; refine sn ?_; refine sn ?_; refine sn ?_; refine sn ?_; refine sp zpk ?_; refine gs_nil ?_; refine gx_then (gc_condF rfl rfl ?_); refine gc_skip (gx_then (gc_seq (gsr (zxm ?_)))); refine gp znc ?_; refine gp zfa ?_; refine gp zl ?_; refine gp (r_bool (c := true) zni (by simp [he])) ?_; refine gnt (gc_condT rfl rfl ?_); refine gsr (zxa ?_); refine gnt (gc_ret (gx_then_ret (gx_ret1 rfl (by conv => lhs; whnf) ?_))); have e1 : σ = .error r.err := by rw [← hs, RS.st, if_neg he]
  subst e1; exact fun w' hw => ⟨0, rfl, St.pureI ⟨Ag.error _, hpow⟩ (St.inr r (hw.z) rfl rfl (by rw [RS.st, if_neg he]; rfl) hat)⟩
theorem done_ok0 {B : List UInt8} {p : Nat} (h : B.length ≤ p) : doneE (.ok (B.drop p)) = 0 := by rw [List.drop_eq_nil_of_le h]; rfl
theorem done_ok3 {B : List UInt8} {p : Nat} (h : p < B.length) : doneE (.ok (B.drop p)) = 3 := by
  cases hd : B.drop p with
  | nil => have := congrArg List.length hd; rw [List.length_drop] at this; simp at this; omega
  | cons x l => rfl
theorem idone_ok {w : World} {F : Nat → Prop} {g c : Nat} {a : Option Addr} {B : List UInt8} {σ : RSt} (h : stars [InR g a c B σ] w F) (hB : RdRow w (fun k => ¬ F k) 1 a B.length (B.map B8)) (hc : B.length ≤ c) (hl : B.length ≤ 40000)  :
    Calls Tryz.prog 42 #[.pointer (some ⟨g, 0, none⟩)] w (Post w F (fun _ : Unit => .int .i64 (doneE σ : Int)) (fun _ => [InR g a c B σ])) := by
 obtain ⟨r, hs, hat, h'⟩ := in_open h; refine g_enter (env := [(0, .pointer (some ⟨g, 0, none⟩))]) Tryz.func42 rfl h' Tryz.ntmps42 rfl rfl ?_; refine gsr (zxa ?_); refine gnt (gc_seq (gc_seq ?_)); by_cases he : r.err = 0
 ·by_cases hq : r.pos < B.length
  ·refine gc_region (zxm ?_); refine gp znc ?_; refine gp zfa ?_; refine gp zl ?_; refine gp (r_bool (c := true) zei (decide_eq_true (by omega))) ?_; refine zxm ?_; refine gq zmv ?_; refine zc (fun _ => ?_) (c := fun w1 F1 F2 h1 h2 hd hst => oleft_ok h1 hat hl)
   refine gq (r_bool (c := true) zgt (decide_eq_true (by omega))) ?_; refine gp zpk ?_; refine gnt (gc_condT rfl rfl ?_); refine gsr (zxa ?_); refine gnt (gc_ret (gx_then_ret (gx_ret1 rfl (by conv => lhs; whnf) ?_))); have e1 : σ = .ok (B.drop r.pos) := by rw [← hs, RS.st, if_pos he]
   have e2 : doneE σ = 3 := by rw [e1]; exact done_ok3 hq
   rw [e2]; exact fun w' hw => ⟨(), rfl, St.inr r (hw.z) rfl rfl hs hat⟩
  ·refine gc_region (zxm ?_); refine gp znc ?_; refine gp zfa ?_; refine gp zl ?_; refine gp (r_bool (c := true) zei (decide_eq_true (by omega))) ?_; refine zxm ?_; refine gq zmv ?_; refine zc (fun _ => ?_) (c := fun w1 F1 F2 h1 h2 hd hst => oleft_ok h1 hat hl)
   refine gq (r_bool (c := false) zgt (decide_eq_false (by omega))) ?_; refine gp zpk ?_; refine gnt (gc_condF rfl rfl ?_); refine gc_skip (gx_then (gsr (zxm ?_))); refine gp znc ?_; refine gp zfa ?_; refine gp zl ?_; refine zxa ?_; refine gnt (gc_ret (gx_ret1 rfl (by conv => lhs; whnf) ?_)); have e1 : σ = .ok (B.drop r.pos) := by rw [← hs, RS.st, if_pos he]
   have e2 : doneE σ = r.err := by rw [e1, he]; exact done_ok0 (by omega)
   rw [e2]; exact fun w' hw => ⟨(), rfl, St.inr r (hw.z) rfl rfl hs hat⟩
 ·refine gc_region (zxm ?_); refine gp znc ?_; refine gp zfa ?_; refine gp zl ?_; refine gp (r_bool (c := false) zei (decide_eq_false (by omega))) ?_; refine zxm ?_; refine gn ?_; refine gn ?_; refine gn ?_; refine gp zpk ?_; refine gnt (gc_condF rfl rfl ?_); refine gc_skip (gx_then (gsr (zxm ?_))); refine gp znc ?_; refine gp zfa ?_; refine gp zl ?_; refine zxa ?_; refine gnt (gc_ret (gx_ret1 rfl (by conv => lhs; whnf) ?_)); have e1 : σ = .error r.err := by rw [← hs, RS.st, if_neg he]
  subst e1; exact fun w' hw => ⟨(), rfl, St.inr r (hw.z) rfl rfl hs hat⟩
theorem rread13_ok {w : World} {F : Nat → Prop} {a : Option Addr} {c : Nat} {b : List UInt8} (h : stars [] w F) (hB : RdRow w (fun k => ¬ F k) 1 a b.length (b.map B8)) (hc : b.length ≤ c) (hl : b.length ≤ 40000) :
    Calls Tryz.prog 15 #[.slice a b.length c] w (Post w F (fun _ : Unit => .tuple #[.agg (stC (readV b).2).toArray, .int .i64 ((readV b).1 : Int)]) (fun _ => [])) := by
 refine g_enter (env := [(0, .slice a b.length c)]) Tryz.func15 rfl h Tryz.ntmps15 rfl rfl ?_; refine gsr (zal fun b2 => ?_); refine zxa ?_; refine zxs ?_; refine zxm ?_; refine gp (zbu (cs := [.slice a b.length c, .int .i64 0, .int .i64 0])) ?_; refine zbN fun b9 => ?_; refine zxa ?_; refine gnt (gc_seq (gc_turn (L2 := [InR b9 a c b (.ok b), blk b2 42 (stC z13)]) (fun w' hw => St.inr ⟨0, 0⟩ (hw.sel (M := [blk b9 106 [.slice a b.length c, .int .i64 0, .int .i64 0], blk b2 42 (stC z13)]) (by repeat (first | exact Sel.nil | (apply Sel.cons; · (repeat (first | exact Pick.here | apply Pick.there)))))) rfl rfl (by rw [RS.st, if_pos rfl, List.drop_zero]) (Nat.zero_le _)) ?_)); refine gc_region (gp (zbu (cs := stC z13)) ?_); refine zal fun b5 => ?_; refine zsA (stC_len _) (stC_one _) ?_; refine zxs ?_; refine zxm ?_; refine zc (fun x12 => ?_) (c := fun w1 F1 F2 h1 h2 hd hst => inum_ok (wd := 4) h1 (hB.mv hst.still) hc hl (by decide) (by decide))
 refine gl_pureR (fun hxx12 => ?_)
 obtain ⟨gx12, _⟩ := hxx12; refine gp zfa ?_; refine gl_stI (l' := stC ⟨(x12 : Int), 0, 0, 0, 0⟩) (i := 0) (by repeat (first | exact Pick.here | apply Pick.there)) (by show 0 < 5; omega) rfl ?_; refine zxs ?_; refine zxm ?_; refine zc (fun x15 => ?_) (c := fun w1 F1 F2 h1 h2 hd hst => inum_ok (wd := 6) h1 (hB.mv hst.still) hc hl (by decide) (by decide))
 refine gl_pureR (fun hxx15 => ?_)
 obtain ⟨gx15, _⟩ := hxx15; refine gp zfa ?_; refine gl_stI (l' := stC ⟨(x12 : Int), (x15 : Int), 0, 0, 0⟩) (i := 1) (by repeat (first | exact Pick.here | apply Pick.there)) (by show 1 < 5; omega) rfl ?_; refine zxs ?_; refine zxm ?_; refine zc (fun x18 => ?_) (c := fun w1 F1 F2 h1 h2 hd hst => inum_ok (wd := 6) h1 (hB.mv hst.still) hc hl (by decide) (by decide))
 refine gl_pureR (fun hxx18 => ?_)
 obtain ⟨gx18, _⟩ := hxx18; refine gp zfa ?_; refine gl_stI (l' := stC ⟨(x12 : Int), (x15 : Int), (x18 : Int), 0, 0⟩) (i := 2) (by repeat (first | exact Pick.here | apply Pick.there)) (by show 2 < 5; omega) rfl ?_; refine zxs ?_; refine zxm ?_; refine zc (fun x21 => ?_) (c := fun w1 F1 F2 h1 h2 hd hst => inum_ok (wd := 6) h1 (hB.mv hst.still) hc hl (by decide) (by decide))
 refine gl_pureR (fun hxx21 => ?_)
 obtain ⟨gx21, _⟩ := hxx21; refine gp zfa ?_; refine gl_stI (l' := stC ⟨(x12 : Int), (x15 : Int), (x18 : Int), (x21 : Int), 0⟩) (i := 3) (by repeat (first | exact Pick.here | apply Pick.there)) (by show 3 < 5; omega) rfl ?_; refine zxs ?_; refine zxm ?_; refine zc (fun x24 => ?_) (c := fun w1 F1 F2 h1 h2 hd hst => inum_ok (wd := 1) h1 (hB.mv hst.still) hc hl (by decide) (by decide))
 refine gl_pureR (fun hxx24 => ?_)
 obtain ⟨gx24, _⟩ := hxx24; refine gp zfa ?_; refine gl_stI (l' := stC ⟨(x12 : Int), (x15 : Int), (x18 : Int), (x21 : Int), (x24 : Int)⟩) (i := 4) (by repeat (first | exact Pick.here | apply Pick.there)) (by show 4 < 5; omega) rfl ?_; refine gnt (gc_seq (gsr (zxm ?_))); refine zc (fun _ => ?_) (c := fun w1 F1 F2 h1 h2 hd hst => idone_ok h1 (hB.mv hst.still) hc hl)
 have hfin := st_fin (b := b) (s := ⟨(x12 : Int), (x15 : Int), (x18 : Int), (x21 : Int), 0⟩) (lf := (x24 : Int)) gx12 (fun j hj => (by have h' : j = 0 ∨ j = 1 ∨ j = 2 := (by omega); rcases h' with rfl | rfl | rfl; exact gx15; exact gx18; exact gx21)) gx24
 have hal := allE_fin (z := z13) noz_st hfin.1
 have hf2 : rstep pSt (.ok b) = rstep (pNum 1) (rstep (pNum 6) (rstep (pNum 6) (rstep (pNum 6) (rstep (pNum 4) (.ok b))))) := hfin.2
 rw [← hf2]; refine zxa ?_; refine zxs ?_; refine zxm ?_; refine gp zni ?_; refine gnt (gif rfl (fun hc29 => ?_) (fun hc29 => ?_))
 ·try simp only at hc29
  have h0 : ¬ doneE (rstep pSt (.ok b)) = 0 := by omega
  have hne : ¬ (allE pSt z13 b).1 = 0 := by rw [← hal.1]; exact h0
  refine gsr (gp (zbu (cs := stC z13)) ?_); refine zxm ?_; refine zsA (stC_len _) (stC_one _) ?_; refine zxa ?_; refine gnt (gc_ret (gx_then_ret (gx_retct rfl rfl (by conv => lhs; whnf) (ldA Ty.row_42 Ty.sz_42) ?_))); exact fun w' hw => ⟨(), by rw [readV, if_neg hne, ← hal.1], hw.z⟩
 ·try simp only at hc29
  have h0 : doneE (rstep pSt (.ok b)) = 0 := by omega
  have he0 : (allE pSt z13 b).1 = 0 := by rw [← hal.1]; exact h0
  have hv := hal.2.1 h0
  refine gc_skip (gx_then (gc_seq (gsr (gp (zLa (cs := stC (⟨(x12 : Int), (x15 : Int), (x18 : Int), (x21 : Int), (x24 : Int)⟩ : VSt))) ?_)))); refine zc (fun _ => ?_) (c := fun w1 F1 F2 h1 h2 hd hst => rvright_ok (s := (⟨(x12 : Int), (x15 : Int), (x18 : Int), (x21 : Int), (x24 : Int)⟩ : VSt)) h1)
  refine gp znt ?_; refine gnt (gif rfl (fun hc34 => ?_) (fun hc34 => ?_))
  ·try simp only at hc34
   have hk : ¬ ((⟨(x12 : Int), (x15 : Int), (x18 : Int), (x21 : Int), (x24 : Int)⟩ : VSt)).ok = true := by simpa using hc34
   have e0 : readV b = (4, z13) := by rw [readV, if_pos he0, hv, if_neg hk]
   refine gsr (gp (zbu (cs := stC z13)) ?_); refine zsA (stC_len _) (stC_one _) ?_; refine zxa ?_; refine gnt (gc_ret (gx_then_ret (gx_retct rfl rfl (by conv => lhs; whnf) (ldA Ty.row_42 Ty.sz_42) ?_))); exact fun w' hw => ⟨(), by rw [e0]; rfl, hw.z⟩
  ·try simp only at hc34
   have hk : ((⟨(x12 : Int), (x15 : Int), (x18 : Int), (x21 : Int), (x24 : Int)⟩ : VSt)).ok = true := by simpa using hc34
   have e0 : readV b = (0, (⟨(x12 : Int), (x15 : Int), (x18 : Int), (x21 : Int), (x24 : Int)⟩ : VSt)) := by rw [readV, if_pos he0, hv, if_pos hk]
   refine gc_skip (gx_then (gsr (gp (zLa (cs := stC (⟨(x12 : Int), (x15 : Int), (x18 : Int), (x21 : Int), (x24 : Int)⟩ : VSt))) ?_))); refine zsN ?_; refine zxa ?_; refine gnt (gc_ret (gx_retct rfl rfl (by conv => lhs; whnf) (ldA Ty.row_42 Ty.sz_42) ?_)); exact fun w' hw => ⟨(), by rw [e0]; rfl, hw.z⟩
end
section
def dW (n : Nat) (f : Nat → Sec) : DS := ⟨n, f, [], false, false, 0⟩
theorem dW_ok {n : Nat} (h : n ≤ 4096) (f : Nat → Sec) : DOk (dW n f) := ⟨h, by simp [dW, keysW], by simp [dW, keysW], (fun h => by cases h), show (-9223372036854775808 : Int) ≤ 0 ∧ (0 : Int) ≤ 9223372036854775807 by decide⟩
theorem dW_sync {n : Nat} {f : Nat → Sec} {k : Nat} {v : Sec} : ((dW n f).write k v).syncd = dW n (updS f k v) := by
  rw [syncd_calm rfl rfl]
  simp only [DS.sync, DS.write, dW, putW, DS.mk.injEq, true_and, and_true]
  funext i
  simp only [DS.at, lookW, updS]
  by_cases h : i = k
  · subst h; simp
  · rw [if_neg (by omega), if_neg h]; rfl
theorem dW_wr {n : Nat} {f : Nat → Sec} {k : Nat} {v : Sec} (h : k < n) : (dW n f).wr k v = (0, (dW n f).write k v) := wr_calm rfl rfl (has_iff.2 ⟨by omega, by show (k : Int) < (n : Nat); omega⟩)
def fmtW (f : Nat → Sec) (b : Nat) : Nat → Sec := updS (updS f b (slotS 0 [])) (b + 1) sec0
theorem fmt_W {n : Nat} {f : Nat → Sec} {b : Nat} (h : b + 1 < n) : fmt (dW n f) (b : Int) = (0, dW n (fmtW f b)) := by
  have h0 : (dW n f).right (b : Int) = true := right_iff.2 ⟨by omega, by show (b : Int) < (n : Int) - 1; omega⟩
  have h1 : (dW n f).wr (b : Int) (slotS 0 []) = (0, (dW n f).write (b : Int) (slotS 0 [])) := dW_wr (by omega)
  have h2 : ((dW n f).write (b : Int) (slotS 0 [])).wr ((b : Int) + 1) sec0 = (0, ((dW n f).write (b : Int) (slotS 0 [])).write ((b : Int) + 1) sec0) := wr_calm rfl rfl (has_iff.2 ⟨by omega, by show (b : Int) + 1 < (n : Int); omega⟩)
  rw [fmt, if_pos h0, h1, if_pos rfl]
  simp only [h2, if_true]
  rw [oper_calm rfl, syncd_calm rfl rfl]
  have e : (((dW n f).write (b : Int) (slotS 0 [])).write ((b : Int) + 1) sec0).sync = dW n (fmtW f b) := by
    simp only [DS.sync, DS.write, dW, DS.mk.injEq, true_and, and_true]
    funext i
    simp only [DS.at, putW, lookW, fmtW, updS, show ¬ ((b : Int) + 1) = (b : Int) by omega, if_false]
    by_cases h0 : i = b
    · subst h0; simp [show ¬ ((i : Int) = (i : Int) + 1) by omega]
    · by_cases h1 : i = b + 1
      · subst h1; simp [show ¬ ((b : Int) + 1 = (b : Int)) by omega]
      · simp [show ¬ ((i : Int) = (b : Int)) by omega, show ¬ ((i : Int) = (b : Int) + 1) by omega, h0, h1]
  rw [e]; rfl
theorem put_W {n : Nat} {f : Nat → Sec} {b c : Nat} {q r : List UInt8} (hb : b + 1 < n) (hc : c < 9223372036854775807) (hr : r.length ≤ 31) : put (dW n f) ⟨(b : Int), c, q⟩ r = (0, dW n (updS f (b + (c + 1) % 2) (slotS ((c + 1 : Nat) : Int) r)), ⟨(b : Int), c + 1, r⟩) := by
  have hk : b + (c + 1) % 2 < n := by omega
  have hw := dW_wr (f := f) (v := slotS ((c + 1 : Nat) : Int) r) hk
  rw [put, if_neg (by omega), if_neg (by simp only; omega)]
  simp only [show (b : Int) + (((c + 1) % 2 : Nat) : Int) = ((b + (c + 1) % 2 : Nat) : Int) by omega, hw, if_true]
  rw [oper_calm rfl, if_neg (by show ¬ false = true; decide), dW_sync]
theorem dW_none (n : Nat) (b : Int) : opn (dW n fun _ => sec0) b = none := dF_opn n b
theorem goodW_fmt (f : Nat → Sec) : GoodAt (fmtW f 0) 0 [] := good_fmt f
theorem fmt_no {n : Nat} {f : Nat → Sec} {b : Nat} (h : ¬ b + 1 < n) : (dW n f).right (b : Int) = false := by
  cases hr : (dW n f).right (b : Int) with
  | false => rfl
  | true => have h2 := (right_iff.1 hr).2; exfalso; have : (b : Int) < (n : Int) - 1 := h2; omega
end
end Go.Proofs.YtggjlkheniombaaGreatDoor
