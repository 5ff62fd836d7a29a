/- Part 4. What is proved: see the last part: for every input the law returns true, and the input reads as it did. -/
import Derived.Test.YtggjlkheniombaaGreatDoorCw3
namespace Go.Proofs.YtggjlkheniombaaGreatDoor
open Go
set_option linter.unusedVariables false
set_option linter.unusedSimpArgs false
set_option linter.unusedSectionVars false
set_option maxHeartbeats 400000
section
theorem gstep_e {d : DS} {sl : SL} {s : VSt} {r : VSt × Nat} (h : ¬ r.2 = 0) : gstep d sl s r = (r.2, d, sl, s) := if_neg h
theorem gstep_0 {d : DS} {sl : SL} {s : VSt} {r : VSt × Nat} (h : r.2 = 0) : gstep d sl s r = gput d sl s r.1 := if_pos h
attribute [local irreducible] Gl Gc Gx Gs Runs Wt
theorem gvote_ok {w : World} {F : Nat → Prop} {g qk qs gd : Nat} {s : VSt} {sl : SL} {d : DS} {seed : Dig} {e r q gr : Int} {D : Dig} (h : stars [GdR g qk qs gd s sl, DiskR gd d, KeyR qk seed] w F) (hs : s.ok = true) (hk : DOk d) (hb : 0 ≤ sl.base ∧ sl.base ≤ 4096) (hc : sl.count < 9223372036854775808) {ea : Nat → Addr} {es : List Nat} [Has es 1] [Has es 4] [Has es 5] [Has es 6] [Has es 7] [Has es 8] [Has es 10] [Has es 14] [Has es 15] [Has es 18] (hE : GErr es w (fun k => ¬ F k) 241 ea) (hK : KR w (fun k => ¬ F k))  :
    Calls Tryz.prog 21 #[.pointer (some ⟨g, 0, none⟩), .int .i64 e, .int .i64 r, .int .i64 q, .int .i64 gr, .agg (dc D).toArray] w (Post w F (fun x : (Option Addr × Nat) × (Option Addr × Nat) => .tuple #[.agg (sgV ((gstep d sl s (voteV s e r q gr)).1) (s.lf.toNat) x).toArray, eV 241 ea ((gstep d sl s (voteV s e r q gr)).1)]) (fun x => [SgR ((gstep d sl s (voteV s e r q gr)).1) x seed (s.lf.toNat) (dOf Kc 7 [beN e 8, beN r 8, D.l]), GdR g qk qs gd (gstep d sl s (voteV s e r q gr)).2.2.2 (gstep d sl s (voteV s e r q gr)).2.2.1, DiskR gd (gstep d sl s (voteV s e r q gr)).2.1, KeyR qk seed])) := by
 have h' := gd_open h
 refine g_enter (env := [(0, .pointer (some ⟨g, 0, none⟩)), (1, .int .i64 e), (2, .int .i64 r), (3, .int .i64 q), (4, .int .i64 gr), (5, .agg (dc D).toArray)]) Tryz.func21 rfl h' Tryz.ntmps21 rfl rfl ?_; refine gsr (zbN fun b11 => ?_); refine zal fun b12 => ?_; refine zxa ?_; refine zxs ?_; refine zxm ?_; refine gp znc ?_; refine gp zfa ?_; refine gp zL ?_; refine zxm ?_; refine zxm ?_; refine zxm ?_; refine zxm ?_; refine zc (fun _ => ?_) (c := fun w1 F1 F2 h1 h2 hd hst => vvote_ok (s := s) (e := e) (r := r) (q := q) (g := gr) h1 (hE.mv hst.still))
 refine zxm ?_; refine gp zex ?_; refine gp zex ?_; refine zal fun b14 => ?_; refine zsN ?_; refine zxa ?_; refine gnt (gc_seq (gsr (zxm ?_))); refine gp (r_bool (c := decide (¬ (voteV s e r q gr).2 = 0)) (r_nenil rfl (by kernel_rfl)) (by simp)) ?_; refine gnt (gif rfl (fun hc29 => ?_) (fun hc29 => ?_))
 ·try simp only at hc29
  have hne : ¬ (voteV s e r q gr).2 = 0 := by simpa using hc29
  refine gsr (gp (zbu (cs := sgZ)) ?_); refine zxm ?_; refine zsA (new := sgZ) (m := 3) rfl (sgV_one 1 0 xn) ?_; refine zxa ?_; refine gnt (gc_ret (gx_then_ret (gx_retct rfl rfl (by conv => lhs; whnf) (ldA Ty.row_63 Ty.sz_63) ?_))); have hne2 := hne
  exact fun w' hw => ⟨xn, by dsimp only; rw [gstep_e hne, sgV_n hne2]; rfl, by dsimp only; rw [gstep_e hne]; exact St.sgN hne2 (St.gu (hw.sel (M := [blk g 50 (.pointer (some ⟨qk, 0, none⟩) :: .pointer (some ⟨qs, 0, none⟩) :: stC s), SlR qs gd sl, DiskR gd d, KeyR qk seed]) (by repeat (first | exact Sel.nil | (apply Sel.cons; · (repeat (first | exact Pick.here | apply Pick.there)))))))⟩
 ·try simp only at hc29
  have h20 : (voteV s e r q gr).2 = 0 := by simpa using hc29
  have hVt := voteV_ok (show voteV s e r q gr = ((voteV s e r q gr).1, 0) from Prod.ext rfl h20)
  have hlf := nat_lf hs hVt.1 hVt.2
  refine gc_skip (gx_then (gc_seq (gc_turn (L2 := [GdR g qk qs gd s sl, DiskR gd d, KeyR qk seed, blk b14 45 (stC (voteV s e r q gr).1), blk b11 32 (dc D), blk b12 63 sgZ]) (fun w' hw => St.gu (hw.z)) ?_))); refine gc_regionZ 10 ([blk b14 45 (stC (voteV s e r q gr).1), blk b11 32 (dc D)]) ?_; refine yps 0 rfl zmv ?_; refine yps 1 rfl zL ?_; refine yps 2 rfl zmv ?_; refine yps 3 rfl zmv ?_; refine yps 4 rfl zL ?_; refine yos 5 rfl ?_; refine zc (fun _ => ?_) (c := fun w1 F1 F2 h1 h2 hd hst => forVote_ok (epoch := e) (round := r) (high := 0) (d := D) h1 (hK.mv hst.still))
  refine yxs ?_; refine yos 6 rfl ?_; refine zc (fun x38 => ?_) (c := fun w1 F1 F2 h1 h2 hd hst => gsign_ok (t := (voteV s e r q gr).1) (leaf := s.lf.toNat) (D := dOf Kc 7 [beN e 8, beN r 8, D.l]) h1 hVt.1 hlf.1 hlf.2 hk hb hc (hE.mv hst.still) (hK.mv hst.still))
  refine yxs ?_; refine yps 7 rfl zex ?_; refine yps 8 rfl zex ?_; refine yos 9 rfl ?_; refine zsA (sgV_len _ _ _) (sgV_one _ _ _) ?_; refine yxs ?_; refine yzs rfl ?_; refine zxa ?_; refine gnt (gc_ret (gx_retct rfl rfl (by conv => lhs; whnf) (ldA Ty.row_63 Ty.sz_63) ?_)); exact fun w' hw => ⟨x38, by rw [gstep_0 h20], by dsimp only; rw [gstep_0 h20]; exact hw.z⟩
end
section
attribute [local irreducible] Gl Gc Gx Gs Runs Wt
theorem genter_ok {w : World} {F : Nat → Prop} {g qk qs gd : Nat} {s : VSt} {sl : SL} {d : DS} {e : Int} (h : stars [GdR g qk qs gd s sl, DiskR gd d] w F) (hs : s.ok = true) (hk : DOk d) (hb : 0 ≤ sl.base ∧ sl.base ≤ 4096) (hc : sl.count < 9223372036854775808) {ea : Nat → Addr} {es : List Nat} [Has es 1] [Has es 4] [Has es 6] [Has es 7] [Has es 8] [Has es 18] (hE : GErr es w (fun k => ¬ F k) 241 ea) (hK : KR w (fun k => ¬ F k))  :
    Calls Tryz.prog 20 #[.pointer (some ⟨g, 0, none⟩), .int .i64 e] w (Post w F (fun _ : Unit => eV 241 ea (gstep d sl s (enterV s e)).1) (fun _ => [GdR g qk qs gd (gstep d sl s (enterV s e)).2.2.2 (gstep d sl s (enterV s e)).2.2.1, DiskR gd (gstep d sl s (enterV s e)).2.1])) := by
 have h' := gd_open h
 refine g_enter (env := [(0, .pointer (some ⟨g, 0, none⟩)), (1, .int .i64 e)]) Tryz.func20 rfl h' Tryz.ntmps20 rfl rfl ?_; refine gsr (zxa ?_); refine zxs ?_; refine zxm ?_; refine gp znc ?_; refine gp zfa ?_; refine gp zL ?_; refine zxm ?_; refine zc (fun _ => ?_) (c := fun w1 F1 F2 h1 h2 hd hst => venter_ok (s := s) (e := e) h1 (hE.mv hst.still))
 refine zxm ?_; refine gp zex ?_; refine gp zex ?_; refine zal fun b5 => ?_; refine zsN ?_; refine zxa ?_; refine gnt (gc_seq (gsr (zxm ?_))); refine gp (r_bool (c := decide (¬ (enterV s e).2 = 0)) (r_nenil rfl (by kernel_rfl)) (by simp)) ?_; refine gnt (gif rfl (fun hc17 => ?_) (fun hc17 => ?_))
 ·try simp only at hc17
  have hne : ¬ (enterV s e).2 = 0 := by simpa using hc17
  refine gsr (zxm ?_); refine zxa ?_; refine gnt (gc_ret (gx_then_ret (gx_ret1 rfl (by conv => lhs; whnf) ?_))); exact fun w' hw => ⟨(), by rw [gstep_e hne], by dsimp only; rw [gstep_e hne]; exact St.gu (hw.sel (M := [blk g 50 (.pointer (some ⟨qk, 0, none⟩) :: .pointer (some ⟨qs, 0, none⟩) :: stC s), SlR qs gd sl, DiskR gd d]) (by repeat (first | exact Sel.nil | (apply Sel.cons; · (repeat (first | exact Pick.here | apply Pick.there))))))⟩
 ·try simp only at hc17
  have h20 : (enterV s e).2 = 0 := by simpa using hc17
  have hVt := enterV_ok (show enterV s e = ((enterV s e).1, 0) from Prod.ext rfl h20)
  refine gc_skip (gx_then (gc_seq (gc_turn (L2 := [GdR g qk qs gd s sl, DiskR gd d, blk b5 45 (stC (enterV s e).1)]) (fun w' hw => St.gu (hw.z)) ?_))); refine gc_region (zxm ?_); refine gp zL ?_; refine zc (fun _ => ?_) (c := fun w1 F1 F2 h1 h2 hd hst => gput_ok' (t := (enterV s e).1) h1 hVt.2.1 hk hb hc (hE.mv hst.still) (hK.mv hst.still))
  refine zxa ?_; refine gnt (gc_ret (gx_ret1 rfl (by conv => lhs; whnf) ?_)); exact fun w' hw => ⟨(), by rw [gstep_0 h20], by dsimp only; rw [gstep_0 h20]; exact hw.z⟩
theorem gstate_ok {w : World} {F : Nat → Prop} {g qk qs gd : Nat} {s : VSt} {sl : SL} {d : DS} (h : stars [GdR g qk qs gd s sl] w F) :
    Calls Tryz.prog 16 #[.pointer (some ⟨g, 0, none⟩)] w (Post w F (fun _ : Unit => .agg (stC s).toArray) (fun _ => [GdR g qk qs gd s sl])) := by
 have h' := gd_open h
 refine g_enter (env := [(0, .pointer (some ⟨g, 0, none⟩))]) Tryz.func16 rfl h' Tryz.ntmps16 rfl rfl ?_; refine gsr (zal fun b2 => ?_); refine zxs ?_; refine zxm ?_; refine gp znc ?_; refine gp zfa ?_; refine gp zL ?_; refine zsA (stC_len _) (stC_one _) ?_; refine gnt (gc_ret (gx_retc rfl rfl (ldA Ty.row_45 Ty.sz_45) ?_)); exact fun w' hw => ⟨(), rfl, St.gu (hw.z)⟩
end
section
section
variable {w : World} {F : Nat → Prop} {g gd e : Nat} {d d' : DS} {s s' : SL} {ea : Nat → Addr} {es : List Nat} [Has es 1] [Has es 6] [Has es 7] [Has es 8] {f : Nat → Sec} {b : Int} {r : List UInt8} {a : Option Addr} {n cc : Nat}
theorem format_G (he : fmt d b = (0, d')) (h : stars [DiskR g d] w F) (hk : DOk d) (hE : GErr es w (fun k => ¬ F k) 241 ea) (hK : KR w (fun k => ¬ F k)) :
    Calls Tryz.prog 13 #[.pointer (some ⟨g, 0, none⟩), .int .i64 b] w (Post w F (fun q : Nat => .tuple #[.pointer (some ⟨q, 0, none⟩), eV 241 ea 0]) (fun q => [SlR q g ⟨b, 0, []⟩, DiskR g d'])) :=
  Calls.mono (format_ok (b := b) h hk hE hK) fun x w' ⟨q, h1, h2⟩ => ⟨q, by rw [h1, he]; rfl, by rw [he] at h2; exact h2⟩
theorem open_S (he : opn d b = some s) (h : stars [DiskR g d] w F) (hk : DOk d) (hoff : d.off = false) (hE : GErr es w (fun k => ¬ F k) 241 ea) (hK : KR w (fun k => ¬ F k)) (hrt : d.right b = true) :
    Calls Tryz.prog 32 #[.pointer (some ⟨g, 0, none⟩), .int .i64 b] w (Post w F (fun q : Nat => .tuple #[.pointer (some ⟨q, 0, none⟩), eV 241 ea 0]) (fun q => [SlR q g s, DiskR g d])) :=
  Calls.mono (open_ok (b := b) h hk hoff hE hK hrt) fun x w' ⟨q, h1, h2⟩ => ⟨q, by rw [h1, he]; rfl, by rw [he] at h2; exact h2⟩
end
theorem gput_fin {d d' : DS} {sl sl' : SL} {s t : VSt} (ht : t.ok = true) (hp : put d sl (bytV t) = (0, d', sl')) : gput d sl s t = (0, d', sl', t) := by rw [gput_0 ht (by rw [hp]), hp]
attribute [local irreducible] Gl Gc Gx Gs Runs Wt
theorem gopen_S {w : World} {F : Nat → Prop} {gd qk : Nat} {d : DS} {b : Int} (h : stars [DiskR gd d] w F) (hk : DOk d) {sl : SL} {s : VSt} (hoff : d.off = false) (hrt : d.right b = true) (ho : opn d b = some sl) (hlen : sl.rec'.length ≤ 31) (hv : readV sl.rec' = (0, s)) {ea : Nat → Addr} {es : List Nat} [Has es 1] [Has es 2] [Has es 3] [Has es 4] [Has es 6] [Has es 7] [Has es 8] (hE : GErr es w (fun k => ¬ F k) 241 ea) (hK : KR w (fun k => ¬ F k))  :
    Calls Tryz.prog 11 #[.pointer (some ⟨gd, 0, none⟩), .int .i64 b, .pointer (some ⟨qk, 0, none⟩)] w (Post w F (fun x : Nat × Nat => .tuple #[.pointer (some ⟨x.1, 0, none⟩), eV 241 ea 0]) (fun x => [GdR x.1 qk x.2 gd s (sl), DiskR gd d])) := by
 refine g_enter (env := [(0, .pointer (some ⟨gd, 0, none⟩)), (1, .int .i64 b), (2, .pointer (some ⟨qk, 0, none⟩))]) Tryz.func11 rfl h Tryz.ntmps11 rfl rfl ?_; refine gsr (zxa ?_); refine zxa ?_; refine zxs ?_; refine zxm ?_; refine zxm ?_; refine zc (fun q14 => ?_) (c := fun w1 F1 F2 h1 h2 hd hst => open_S (b := b) ho h1 hk hoff (hE.mv hst.still) (hK.mv hst.still) hrt)
 refine zxm ?_; refine gp zex ?_; refine gp zex ?_; refine zxa ?_; refine zxa ?_; refine gnt (gc_seq (gsr (zxm ?_))); refine gp (r_bool (c := false) (r_nenil (k := 0) rfl (by kernel_rfl)) rfl) ?_; refine gnt (gc_condF rfl rfl ?_); refine gc_skip (gx_then (gsr (zxm ?_))); refine zc (fun x22 => ?_) (c := fun w1 F1 F2 h1 h2 hd hst => record_ok (s := sl) h1 hlen)
 refine zc (fun _ => ?_) (c := fun w1 F1 F2 h1 h2 hd hst => vread_ok (b := sl.rec') h1 (hE.mv hst.still) (rd_row h2 hd (by repeat (first | exact Pick.here | apply Pick.there))) (by omega))
 rw [hv]; refine zxm ?_; refine gp zex ?_; refine gp zex ?_; refine zal fun b10 => ?_; refine zsA (stC_len _) (stC_one _) ?_; refine zxa ?_; refine gnt (gc_seq (gsr (zxm ?_))); refine gp (r_bool (c := false) (r_nenil (k := 0) rfl (by kernel_rfl)) rfl) ?_; refine gnt (gc_condF rfl rfl ?_); refine gc_skip (gx_then (gsr (zxm ?_))); refine zxm ?_; refine gp zL ?_; refine gp (zbu (cs := .pointer (some ⟨qk, 0, none⟩) :: .pointer (some ⟨q14, 0, none⟩) :: stC s)) ?_; refine zbN fun b33 => ?_; refine zxa ?_; refine zxa ?_; refine gnt (gc_ret (gx_ret2 rfl (by conv => lhs; whnf) (by conv => lhs; whnf) ?_)); exact fun w' hw => ⟨(b33, q14), by rw [eV_zero], St.gu (hw.z)⟩
theorem gform_S {w : World} {F : Nat → Prop} {gd qk : Nat} {d : DS} {b : Int} (h : stars [DiskR gd d] w F) (hk : DOk d) {d' d2 : DS} {sl' : SL} {e : Int} (hrt : d.right b = true) (hok : (⟨e, 0, 0, 0, 0⟩ : VSt).ok = true) (he : fmt d b = (0, d')) (hk' : DOk d') (hp : put d' ⟨b, 0, []⟩ (bytV (⟨e, 0, 0, 0, 0⟩ : VSt)) = (0, d2, sl')) (hb : 0 ≤ b ∧ b ≤ 4096) {ea : Nat → Addr} {es : List Nat} [Has es 1] [Has es 4] [Has es 6] [Has es 7] [Has es 8] (hE : GErr es w (fun k => ¬ F k) 241 ea) (hK : KR w (fun k => ¬ F k))  :
    Calls Tryz.prog 17 #[.pointer (some ⟨gd, 0, none⟩), .int .i64 b, .pointer (some ⟨qk, 0, none⟩), .int .i64 e] w (Post w F (fun x : Nat × Nat => .tuple #[.pointer (some ⟨x.1, 0, none⟩), eV 241 ea 0]) (fun x => [GdR x.1 qk x.2 gd (⟨e, 0, 0, 0, 0⟩ : VSt) (sl'), DiskR gd d2])) := by
 have hgp := gput_fin (s := z13) hok hp
 refine g_enter (env := [(0, .pointer (some ⟨gd, 0, none⟩)), (1, .int .i64 b), (2, .pointer (some ⟨qk, 0, none⟩)), (3, .int .i64 e)]) Tryz.func17 rfl h Tryz.ntmps17 rfl rfl ?_; refine gsr (zxa ?_); refine zxa ?_; refine zxs ?_; refine zxm ?_; refine gp (zbu (cs := stC (⟨e, 0, 0, 0, 0⟩ : VSt))) ?_; refine zal fun b10 => ?_; refine zsA (stC_len _) (stC_one _) ?_; refine gnt (gc_seq (gsr (gp (zLa (cs := stC (⟨e, 0, 0, 0, 0⟩ : VSt))) ?_))); refine zc (fun _ => ?_) (c := fun w1 F1 F2 h1 h2 hd hst => vright_ok (s := (⟨e, 0, 0, 0, 0⟩ : VSt)) h1)
 refine gp (r_bool (c := false) znt (by rw [hok]; rfl)) ?_; refine gnt (gc_condF rfl rfl ?_); refine gc_skip (gx_then (gsr (zxm ?_))); refine zxm ?_; refine zc (fun q24 => ?_) (c := fun w1 F1 F2 h1 h2 hd hst => format_G he h1 hk (hE.mv hst.still) (hK.mv hst.still))
 refine zxm ?_; refine gp zex ?_; refine gp zex ?_; refine zxa ?_; refine zxa ?_; refine gnt (gc_seq (gsr (zxm ?_))); refine gp (r_bool (c := false) (r_nenil (k := 0) rfl (by kernel_rfl)) rfl) ?_; refine gnt (gc_condF rfl rfl ?_); refine gc_skip (gx_then (gsr (zxm ?_))); refine zxm ?_; refine gp (zbu (cs := .pointer (some ⟨qk, 0, none⟩) :: .pointer (some ⟨q24, 0, none⟩) :: stC z13)) ?_; refine zbN fun b33 => ?_; refine zxa ?_; refine gnt (gc_seq (gc_seq (gc_turn (L2 := [GdR b33 qk q24 gd z13 ⟨b, 0, []⟩, DiskR gd d', blk b10 45 (stC (⟨e, 0, 0, 0, 0⟩ : VSt))]) (fun w' hw => St.gu (hw.z)) ?_))); refine gc_region (zxm ?_); refine gp (zLa (cs := stC (⟨e, 0, 0, 0, 0⟩ : VSt))) ?_; refine zc (fun _ => ?_) (c := fun w1 F1 F2 h1 h2 hd hst => gput_ok' (s := z13) (t := (⟨e, 0, 0, 0, 0⟩ : VSt)) (sl := ⟨b, 0, []⟩) (d := d') h1 hok hk' hb (by show (0 : Nat) < _; decide) (hE.mv hst.still) (hK.mv hst.still))
 rw [hgp]; refine zxa ?_; refine zxs ?_; refine zxm ?_; refine gp (r_bool (c := false) (r_nenil (k := 0) rfl (by kernel_rfl)) rfl) ?_; refine gnt (gc_condF rfl rfl ?_); refine gc_skip (gx_then (gsr (zxm ?_))); refine zxa ?_; refine zxa ?_; refine gnt (gc_ret (gx_ret2 rfl (by conv => lhs; whnf) (by conv => lhs; whnf) ?_)); exact fun w' hw => ⟨(b33, q24), by rw [eV_zero], hw.z⟩
end
section
section
variable {w : World} {F : Nat → Prop} {g qk qs gd er : Nat} {s s' : VSt} {sl sl' : SL} {d d' : DS} {seed D : Dig} {e r q gr hi : Int} {ea : Nat → Addr} {es : List Nat} [Has es 1] [Has es 4] [Has es 5] [Has es 6] [Has es 7] [Has es 8] [Has es 10] [Has es 14] [Has es 15] [Has es 18]
theorem gvote_S (he : gstep d sl s (voteV s e r q gr) = (er, d', sl', s')) (h : stars [GdR g qk qs gd s sl, DiskR gd d, KeyR qk seed] w F) (hs : s.ok = true) (hk : DOk d) (hb : 0 ≤ sl.base ∧ sl.base ≤ 4096) (hc : sl.count < 9223372036854775808) (hE : GErr es w (fun k => ¬ F k) 241 ea) (hK : KR w (fun k => ¬ F k)) :
    Calls Tryz.prog 21 #[.pointer (some ⟨g, 0, none⟩), .int .i64 e, .int .i64 r, .int .i64 q, .int .i64 gr, .agg (dc D).toArray] w (Post w F (fun x : (Option Addr × Nat) × (Option Addr × Nat) => .tuple #[.agg (sgV er s.lf.toNat x).toArray, eV 241 ea er]) (fun x => [SgR er x seed s.lf.toNat (dOf Kc 7 [beN e 8, beN r 8, D.l]), GdR g qk qs gd s' sl', DiskR gd d', KeyR qk seed])) := by
  have h1 := gvote_ok (D := D) (seed := seed) (e := e) (r := r) (q := q) (gr := gr) h hs hk hb hc hE hK
  rw [he] at h1
  exact h1
theorem genter_S (he : gstep d sl s (enterV s e) = (er, d', sl', s')) (h : stars [GdR g qk qs gd s sl, DiskR gd d] w F) (hs : s.ok = true) (hk : DOk d) (hb : 0 ≤ sl.base ∧ sl.base ≤ 4096) (hc : sl.count < 9223372036854775808) (hE : GErr es w (fun k => ¬ F k) 241 ea) (hK : KR w (fun k => ¬ F k)) :
    Calls Tryz.prog 20 #[.pointer (some ⟨g, 0, none⟩), .int .i64 e] w (Post w F (fun _ : Unit => eV 241 ea er) (fun _ => [GdR g qk qs gd s' sl', DiskR gd d'])) := by
  have h1 := genter_ok (e := e) h hs hk hb hc hE hK
  rw [he] at h1
  exact h1
end
theorem gstep_T {f : Nat → Sec} {c : Nat} {q : List UInt8} {s t : VSt} {r : VSt × Nat} (h : r = (t, 0)) (ht : t.ok = true) (hc : c < 1000000) : gstep (dZ f) ⟨0, c, q⟩ s r = (0, dZ (gF f c t), ⟨0, c + 1, bytV t⟩, t) := by subst h; rw [gstep_0 rfl, gput_Z ht hc]
theorem gstep_N {d : DS} {sl : SL} {s t : VSt} {r : VSt × Nat} {e : Nat} (h : r = (t, e)) (he : ¬ e = 0) : gstep d sl s r = (e, d, sl, s) := by subst h; exact gstep_e he
theorem put_B {f : Nat → Sec} {c : Nat} {q : List UInt8} {t : VSt} (hc : c < 1000000) : put (dZ f) ⟨0, c, q⟩ (bytV t) = (0, dZ (gF f c t), ⟨0, c + 1, bytV t⟩) := put_Z (by omega) (by rw [bytV_len]; omega)
end
section
def digO (n : UInt8) : Dig := ⟨n :: List.replicate 15 0, rfl⟩
def sE (e : Int) : VSt := ⟨e, 0, 0, 0, 0⟩
def fE1 (e : Int) : Nat → Sec := gF (fmtF fun _ => sec0) 0 (sE e)
theorem sE_ok {e : Int} (h : 0 ≤ e ∧ e ≤ 1073741824) : (sE e).ok = true := VSt.okM (by simp [sE]; exact h)
theorem fE1_gk {e : Int} (h : 0 ≤ e ∧ e ≤ 1073741824) : GK (fE1 e) 1 (sE e) := gk_put (good_fmt _) (sE_ok h) (by decide)
structure PX where
  p : Nat
  gd : Nat
  qk : Nat
  qs : Nat
  g : Nat
  mp : Nat
def plC (x : PX) (s : VSt) (may high : Value) : List Value := [.pointer (some ⟨x.gd, 0, none⟩), .pointer (some ⟨x.qk, 0, none⟩), .pointer (some ⟨x.g, 0, none⟩), .int .i64 s.e, .int .i64 s.v, .int .i64 s.l, .int .i64 s.p, .int .i64 s.lf, may, .map (some x.mp), high]
theorem al_v1 : voteV (sE 1) 1 1 0 0 = (⟨1, 1, 0, 0, 1⟩, 0) := by decide
theorem al_v2 : voteV ⟨1, 1, 0, 0, 1⟩ 1 1 0 0 = (⟨1, 1, 0, 0, 1⟩, 10) := by decide
def sA1 : VSt := ⟨1, 1, 0, 0, 1⟩
def fA1 : Nat → Sec := gF (fE1 1) 1 sA1
theorem fA1_gk : GK fA1 2 sA1 := gk_put (fE1_gk (by decide)).good (by decide) (by decide)
theorem nat0 : 0 ≤ (0 : Int) ∧ (0 : Int) ≤ 4096 := by decide
attribute [local irreducible] Gl Gc Gx Gs Runs Wt
theorem alive14_ok {w : World} {F : Nat → Prop} (h : stars [] w F) {ea : Nat → Addr} (hN : NErr w (fun k => ¬ F k) ea) (hK : KR w (fun k => ¬ F k))  :
    Calls Tryz.prog 8 #[] w (Post w F (fun _ : Unit => .bool true) (fun _ => [])) := by
 have hE := hN.g
 refine g_enter (env := []) Tryz.func8 rfl h Tryz.ntmps8 rfl rfl ?_; refine gsr (zxa ?_); refine zxs ?_; refine zc (fun g8 => ?_) (c := fun w1 F1 F2 h1 h2 hd hst => new_ok (n := 2) (ea := ea) h1 (by decide) (by decide))
 refine zxm ?_; refine gp zex ?_; refine gp zex ?_; refine zxa ?_; refine zxa ?_; refine gnt (gc_seq (gsr (zxm ?_))); refine gp (r_bool (c := false) (r_nenil rfl (by kernel_rfl)) rfl) ?_; refine zxm ?_; refine gq zmv ?_; refine gq (r_bool (c := false) (r_eqpn rfl Ty.un_24) rfl) ?_; refine gp zpk ?_; refine gnt (gc_condF rfl rfl ?_); refine gc_skip (gx_then (gsr (gp (zba (cs := dc (digO 5)) (hf := by kernel_rfl)) ?_))); refine zc (fun q18 => ?_) (c := fun w1 F1 F2 h1 h2 hd hst => knew_ok (ea := ea) (seed := digO 5) h1 (hK.mv hst.still))
 refine zxa ?_; refine zxs ?_; refine zxm ?_; refine zxm ?_; refine zc ?_ (c := fun w1 F1 F2 h1 h2 hd hst => gform_S (b := 0) (e := 1) (d := dZ fun _ => sec0) h1 (dZ_ok _) rfl (sE_ok (e := 1) (by decide)) (fmt_Z fun _ => sec0) (dZ_ok _) (put_B (by decide)) nat0 (hE.mv hst.still) (hK.mv hst.still))
 rintro ⟨g22, q22⟩
 refine zxm ?_; refine gp zex ?_; refine gp zex ?_; refine zxa ?_; refine zxa ?_; refine gnt (gc_seq (gsr (zxm ?_))); refine gp (r_bool (c := false) (r_nenil rfl (by kernel_rfl)) rfl) ?_; refine zxm ?_; refine gq zmv ?_; refine gq (r_bool (c := false) (r_eqpn rfl Ty.un_33) rfl) ?_; refine gp zpk ?_; refine gnt (gc_condF rfl rfl ?_); refine gc_skip (gx_then (gc_seq (gsr (zxm ?_)))); refine gp (zba (cs := dc (digO 1)) (hf := by kernel_rfl)) ?_; refine zc (fun x34 => ?_) (c := fun w1 F1 F2 h1 h2 hd hst => gvote_S (s := sE 1) (sl := ⟨0, 1, bytV (sE 1)⟩) (seed := digO 5) (D := digO 1) (e := 1) (r := 1) (q := 0) (gr := 0) (gstep_T (f := fE1 1) al_v1 (by decide) (by decide)) h1 (by decide) (dZ_ok _) nat0 (by show (1 : Nat) < _; decide) (hE.mv hst.still) (hK.mv hst.still))
 refine zxm ?_; refine gp zex ?_; refine gp zex ?_; refine zal fun b5 => ?_; refine zsA (sgV_len _ _ _) (sgV_one _ _ _) ?_; refine zxa ?_; refine zxs ?_; refine zxm ?_; refine gp (r_bool (c := false) (r_nenil rfl (by kernel_rfl)) rfl) ?_; refine gnt (gc_condF rfl rfl ?_); refine gc_skip (gx_then (gsr (zxm ?_))); refine zc (fun _ => ?_) (c := fun w1 F1 F2 h1 h2 hd hst => crash_ok' (d := dZ fA1) (kb := []) h1 (dZ_ok _) RdRow.nil)
 rw [crash_Z]; refine zxs ?_; refine zxm ?_; refine zxm ?_; refine zc ?_ (c := fun w1 F1 F2 h1 h2 hd hst => gopen_S (b := 0) (d := dZ fA1) (sl := ⟨0, 2, bytV sA1⟩) (s := sA1) h1 (dZ_ok _) rfl rfl (gk_opn fA1_gk) (by rw [bytV_len]; decide) (readV_byt (by decide)) (hE.mv hst.still) (hK.mv hst.still))
 rintro ⟨g44, q44⟩
 refine zxm ?_; refine gp zex ?_; refine gp zex ?_; refine zxa ?_; refine zxa ?_; refine gnt (gc_seq (gsr (zxm ?_))); refine gp (r_bool (c := false) (r_nenil rfl (by kernel_rfl)) rfl) ?_; refine zxm ?_; refine gq zmv ?_; refine gq (r_bool (c := false) (r_eqpn rfl Ty.un_33) rfl) ?_; refine gp zpk ?_; refine gnt (gc_condF rfl rfl ?_); refine gc_skip (gx_then (gsr (zxm ?_))); refine gp (zba (cs := dc (digO 2)) (hf := by kernel_rfl)) ?_; refine zc (fun x56 => ?_) (c := fun w1 F1 F2 h1 h2 hd hst => gvote_S (s := sA1) (sl := ⟨0, 2, bytV sA1⟩) (seed := digO 5) (D := digO 2) (e := 1) (r := 1) (q := 0) (gr := 0) (gstep_N (d := dZ fA1) al_v2 (by decide)) h1 (by decide) (dZ_ok _) nat0 (by show (2 : Nat) < _; decide) (hE.mv hst.still) (hK.mv hst.still))
 refine zxm ?_; refine gp zex ?_; refine gp zex ?_; refine zxa ?_; refine zxs ?_; refine zxm ?_; refine zc (fun _ => ?_) (c := fun w1 F1 F2 h1 h2 hd hst => errNum_ok (n := 10) h1 (hN.mv hst.still) (by decide))
 refine gp (r_bool (c := true) zei (decide_eq_true rfl)) ?_; refine zxa ?_; refine gnt (gc_ret (gx_ret1 rfl (by conv => lhs; whnf) ?_)); exact ze ()
theorem begin14_ok {w : World} {F : Nat → Prop} {seed : Dig} {e : Int} (h : stars [] w F) (he : 0 ≤ e ∧ e ≤ 1073741824) {ea : Nat → Addr} {es : List Nat} [Has es 1] [Has es 4] [Has es 6] [Has es 7] [Has es 8] (hE : GErr es w (fun k => ¬ F k) 241 ea) (hK : KR w (fun k => ¬ F k))  :
    Calls Tryz.prog 19 #[.agg (dc seed).toArray, .int .i64 e] w (Post w F (fun x : PX => .tuple #[.pointer (some ⟨x.p, 0, none⟩), .bool true]) (fun x => [blk x.p 59 (plC x (sE e) (.slice none 0 0) (.slice none 0 0)), GdR x.g x.qk x.qs x.gd (sE e) ⟨0, 1, bytV (sE e)⟩, DiskR x.gd (dZ (fE1 e)), KeyR x.qk seed, mapR x.mp []])) := by
 refine g_enter (env := [(0, .agg (dc seed).toArray), (1, .int .i64 e)]) Tryz.func19 rfl h Tryz.ntmps19 rfl rfl ?_; refine gsr (zbN fun b2 => ?_); refine zxa ?_; refine zxa ?_; refine zxs ?_; refine zc (fun g10 => ?_) (c := fun w1 F1 F2 h1 h2 hd hst => new_ok (n := 2) (ea := ea) h1 (by decide) (by decide))
 refine zxm ?_; refine gp zex ?_; refine gp zex ?_; refine zxa ?_; refine zxa ?_; refine gnt (gc_seq (gsr (zxm ?_))); refine gp (r_bool (c := false) (r_nenil rfl (by kernel_rfl)) rfl) ?_; refine gnt (gc_condF rfl rfl ?_); refine gc_skip (gx_then (gsr (zxm ?_))); refine gp zL ?_; refine zc (fun q17 => ?_) (c := fun w1 F1 F2 h1 h2 hd hst => knew_ok (ea := ea) (seed := seed) h1 (hK.mv hst.still))
 refine gl_mkMap (wt0 rfl) (fun g18 => ?_)
 refine zxm ?_; refine gp (zbu (cs := stC (sE e))) ?_; refine gp (zbu (cs := [.pointer (some ⟨g10, 0, none⟩), .pointer (some ⟨q17, 0, none⟩), .pointer none, .int .i64 e, .int .i64 0, .int .i64 0, .int .i64 0, .int .i64 0, .slice none 0 0, .map (some g18), .slice none 0 0])) ?_; refine zbN fun b22 => ?_; refine zxa ?_; refine zxs ?_; refine zxm ?_; refine zxm ?_; refine zxm ?_; refine gp znc ?_; refine gp zfa ?_; refine gp zl ?_; refine zxm ?_; refine zc ?_ (c := fun w1 F1 F2 h1 h2 hd hst => gform_S (b := 0) (e := e) (d := dZ fun _ => sec0) h1 (dZ_ok _) rfl (sE_ok he) (fmt_Z fun _ => sec0) (dZ_ok _) (put_B (by decide)) nat0 (hE.mv hst.still) (hK.mv hst.still))
 rintro ⟨g31, q31⟩
 refine zxm ?_; refine gp zex ?_; refine gp zex ?_; refine gp znc ?_; refine gp zfa ?_; refine zs1 ?_; refine zxa ?_; refine gnt (gc_seq (gc_regionS (by kernel_rfl) (by kernel_rfl) ?_)); refine sp zmv ?_; refine sp zmv ?_; refine sp (r_bool (c := true) (r_eqnil (k := 0) rfl (by kernel_rfl)) rfl) ?_; refine sp zmv ?_; refine sq zmv ?_; refine sq znc ?_; refine sq zfa ?_; refine sq zl ?_; refine sq (r_bool (c := true) (r_nepn rfl Ty.un_33) rfl) ?_; refine sp zpk ?_; refine sp zas ?_; refine sp zas ?_; refine gs_nil ?_; refine gx_then (gc_ret (gx_ret2 rfl (by conv => lhs; whnf) (by conv => lhs; whnf) ?_)); exact fun w' hw => ⟨(⟨b22, g10, q17, q31, g31, g18⟩ : PX), rfl, hw.z⟩
end
end Go.Proofs.YtggjlkheniombaaGreatDoor
