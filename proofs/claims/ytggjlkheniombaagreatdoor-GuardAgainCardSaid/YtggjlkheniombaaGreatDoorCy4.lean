/- Part 4. What is proved: see the last part: for every input the law returns true, and the input reads as it did. -/
import Derived.Test.YtggjlkheniombaaGreatDoorCy3
namespace Go.Proofs.YtggjlkheniombaaGreatDoor
open Go
set_option linter.unusedVariables false
set_option linter.unusedSimpArgs false
set_option linter.unusedSectionVars false
set_option maxHeartbeats 400000
section
attribute [local irreducible] Gl Gc Gx Gs Runs Wt
theorem vprop_ok {w : World} {F : Nat → Prop} {s : VSt} {e r : Int} (h : stars [] w F) {ea : Nat → Addr} {es : List Nat} [Has es 4] [Has es 5] [Has es 10] [Has es 14] [Has es 15] [Has es 18] (hE : GErr es w (fun k => ¬ F k) 241 ea)  :
    Calls Tryz.prog 82 #[.agg (stC s).toArray, .int .i64 e, .int .i64 r] w (Post w F (fun _ : Unit => .tuple #[.agg (stC (propV s e r).1).toArray, eV 241 ea (propV s e r).2]) (fun _ => [])) := by
 refine g_enter (env := [(0, .agg (stC s).toArray), (1, .int .i64 e), (2, .int .i64 r)]) Tryz.func82 rfl h Tryz.ntmps82 rfl rfl ?_; refine gsr (zbN fun b3 => ?_); refine zal fun b6 => ?_; refine zxa ?_; refine gnt (gc_seq (gsr (gp zL ?_))); refine zxm ?_; refine zxm ?_; refine zc (fun _ => ?_) (c := fun w1 F1 F2 h1 h2 hd hst => begin13_ok (e := e) (r := r) h1 (hE.mv hst.still))
 refine zxa ?_; refine zxs ?_; refine zxm ?_; refine gp (r_bool (c := decide (¬ beginV s e r = 0)) (r_nenil rfl (by kernel_rfl)) (by simp)) ?_; refine gnt (gif rfl (fun hc16 => ?_) (fun hc16 => ?_))
 ·try simp only at hc16
  have hb : ¬ beginV s e r = 0 := by simpa using hc16
  refine gsr (gp zL ?_); refine zxm ?_; refine zsN ?_; refine zxa ?_; refine gnt (gc_ret (gx_then_ret (gx_retct rfl rfl (by conv => lhs; whnf) (ldA Ty.row_45 Ty.sz_45) ?_))); exact fun w' hw => ⟨(), by rw [propV, if_neg hb]; try rfl, hw.z⟩
 ·try simp only at hc16
  have hb : beginV s e r = 0 := by simpa using hc16
  obtain ⟨hok, he, hr1, hr2⟩ := beginV_ok hb; have hi := VSt.okI hok
  refine gc_skip (gx_then (gc_seq ?_)); by_cases hp : r ≤ s.p
  ·have ee : endV s (decide (r ≤ s.p)) = (s, 10) := by rw [endV, if_pos (decide_eq_true hp)]
   refine gc_region (gp zL ?_); refine zxm ?_; refine gp zfa ?_; refine gp zl ?_; refine gp zle ?_; refine zc (fun _ => ?_) (c := fun w1 F1 F2 h1 h2 hd hst => end13_ok (old := decide (r ≤ s.p)) h1 (by omega) (hE.mv hst.still))
   rw [ee]; refine zxm ?_; refine gp zex ?_; refine gp zex ?_; refine zal fun b9 => ?_; refine zsN ?_; refine zxa ?_; refine gnt (gc_seq (gsr (zxm ?_))); refine gp (r_bool (c := true) (r_nenil rfl (by kernel_rfl)) (by simp)) ?_; refine gnt (gc_condT rfl rfl ?_); refine gsr (gp zL ?_); refine zxm ?_; refine zsN ?_; refine zxa ?_; refine gnt (gc_ret (gx_then_ret (gx_retct rfl rfl (by conv => lhs; whnf) (ldA Ty.row_45 Ty.sz_45) ?_))); exact fun w' hw => ⟨(), by rw [propV, if_pos hb, if_pos hp]; try rfl, hw.z⟩
  ·by_cases h32 : 32 ≤ s.lf
   ·have ee : endV s (decide (r ≤ s.p)) = (s, 5) := by rw [endV, if_neg (by simpa using hp), if_pos h32]
    refine gc_region (gp zL ?_); refine zxm ?_; refine gp zfa ?_; refine gp zl ?_; refine gp zle ?_; refine zc (fun _ => ?_) (c := fun w1 F1 F2 h1 h2 hd hst => end13_ok (old := decide (r ≤ s.p)) h1 (by omega) (hE.mv hst.still))
    rw [ee]; refine zxm ?_; refine gp zex ?_; refine gp zex ?_; refine zal fun b9 => ?_; refine zsN ?_; refine zxa ?_; refine gnt (gc_seq (gsr (zxm ?_))); refine gp (r_bool (c := true) (r_nenil rfl (by kernel_rfl)) (by simp)) ?_; refine gnt (gc_condT rfl rfl ?_); refine gsr (gp zL ?_); refine zxm ?_; refine zsN ?_; refine zxa ?_; refine gnt (gc_ret (gx_then_ret (gx_retct rfl rfl (by conv => lhs; whnf) (ldA Ty.row_45 Ty.sz_45) ?_))); exact fun w' hw => ⟨(), by rw [propV, if_pos hb, if_neg hp, if_pos h32]; try rfl, hw.z⟩
   ·have ee : endV s (decide (r ≤ s.p)) = ({ s with lf := s.lf + 1 }, 0) := by rw [endV, if_neg (by simpa using hp), if_neg h32]
    refine gc_region (gp zL ?_); refine zxm ?_; refine gp zfa ?_; refine gp zl ?_; refine gp zle ?_; refine zc (fun _ => ?_) (c := fun w1 F1 F2 h1 h2 hd hst => end13_ok (old := decide (r ≤ s.p)) h1 (by omega) (hE.mv hst.still))
    rw [ee]; refine zxm ?_; refine gp zex ?_; refine gp zex ?_; refine zal fun b9 => ?_; refine zsN ?_; refine zxa ?_; refine gnt (gc_seq (gsr (zxm ?_))); refine gp (r_bool (c := false) (r_nenil rfl (by kernel_rfl)) (by simp)) ?_; refine gnt (gc_condF rfl rfl ?_); refine gc_skip (gx_then (gsr (zxm ?_))); refine gp zfa ?_; refine zs1 ?_; refine zxs ?_; refine gp zL ?_; refine zsN ?_; refine zxa ?_; refine gnt (gc_ret (gx_retct rfl rfl (by conv => lhs; whnf) (ldA Ty.row_45 Ty.sz_45) ?_)); exact fun w' hw => ⟨(), by rw [propV, if_pos hb, if_neg hp, if_neg h32]; simp only [eV_zero]; try rfl, hw.z⟩
theorem venter_ok {w : World} {F : Nat → Prop} {s : VSt} {e : Int} (h : stars [] w F) {ea : Nat → Addr} {es : List Nat} [Has es 4] [Has es 18] (hE : GErr es w (fun k => ¬ F k) 241 ea)  :
    Calls Tryz.prog 45 #[.agg (stC s).toArray, .int .i64 e] w (Post w F (fun _ : Unit => .tuple #[.agg (stC (enterV s e).1).toArray, eV 241 ea (enterV s e).2]) (fun _ => [])) := by
 refine g_enter (env := [(0, .agg (stC s).toArray), (1, .int .i64 e)]) Tryz.func45 rfl h Tryz.ntmps45 rfl rfl ?_; refine gsr (zbN fun b2 => ?_); refine zal fun b4 => ?_; refine zxa ?_; refine gnt (gc_seq (gc_block (gsr (gp zL ?_)))); refine zc (fun _ => ?_) (c := fun w1 F1 F2 h1 h2 hd hst => vright_ok h1)
 refine gp znt ?_; refine zxa ?_; refine gnt (gif rfl (fun hc6 => ?_) (fun hc6 => ?_))
 ·try simp only at hc6
  have hk : ¬ s.ok = true := by simpa using hc6
  refine gc_seq (gc_regionZ 3 ([blk b2 45 (stC s)]) ?_); refine yps 0 rfl zL ?_; refine yps 1 rfl (r_ld1o rfl Ty.row_26 (hE.c 4 Has.h) (hE.n 4 Has.h)) ?_; refine yos 2 rfl ?_; refine zsN ?_; refine yxs ?_; refine yzs rfl ?_; refine zxa ?_; refine gnt (gc_ret (gx_block_ret ?_)); refine gx_then_ret (gx_retct rfl rfl (by conv => lhs; whnf) (ldA Ty.row_45 Ty.sz_45) ?_); exact fun w' hw => ⟨(), by rw [enterV, if_neg hk]; try rfl, hw.z⟩
 ·try simp only at hc6
  have hk : s.ok = true := by simpa using hc6
  refine gc_seq ?_; by_cases he : e ≤ s.e
  ·refine gc_region (zxm ?_); refine gp zfa ?_; refine gp zl ?_; refine gp (r_bool (c := true) zle (decide_eq_true he)) ?_; refine zxm ?_; refine gn ?_; refine gn ?_; refine gp zpk ?_; refine zxa ?_; refine gnt (gc_condT rfl rfl ?_); refine gc_seq (gc_regionZ 3 ([blk b2 45 (stC s)]) ?_); refine yps 0 rfl zL ?_; refine yps 1 rfl (r_ld1o rfl Ty.row_26 (hE.c 18 Has.h) (hE.n 18 Has.h)) ?_; refine yos 2 rfl ?_; refine zsN ?_; refine yxs ?_; refine yzs rfl ?_; refine zxa ?_; refine gnt (gc_ret (gx_block_ret ?_)); refine gx_then_ret (gx_retct rfl rfl (by conv => lhs; whnf) (ldA Ty.row_45 Ty.sz_45) ?_); exact fun w' hw => ⟨(), by rw [enterV, if_pos hk, if_pos (.inl he)]; try rfl, hw.z⟩
  ·refine gc_region (zxm ?_); refine gp zfa ?_; refine gp zl ?_; refine gp (r_bool (c := false) zle (decide_eq_false he)) ?_; refine zxm ?_; refine gq zmv ?_; refine gq zgt ?_; refine gp zpk ?_; refine zxa ?_; refine gnt (gif rfl (fun hc12 => ?_) (fun hc12 => ?_))
   ·try simp only at hc12
    have he2 : 1073741824 < e := by simpa using hc12
    refine gc_seq (gc_regionZ 3 ([blk b2 45 (stC s)]) ?_); refine yps 0 rfl zL ?_; refine yps 1 rfl (r_ld1o rfl Ty.row_26 (hE.c 18 Has.h) (hE.n 18 Has.h)) ?_; refine yos 2 rfl ?_; refine zsN ?_; refine yxs ?_; refine yzs rfl ?_; refine zxa ?_; refine gnt (gc_ret (gx_block_ret ?_)); refine gx_then_ret (gx_retct rfl rfl (by conv => lhs; whnf) (ldA Ty.row_45 Ty.sz_45) ?_); exact fun w' hw => ⟨(), by rw [enterV, if_pos hk, if_pos (.inr he2)]; try rfl, hw.z⟩
   ·try simp only at hc12
    have he2 : ¬ 1073741824 < e := by simpa using hc12
    refine gc_skip (gx_block_normal (gx_then (gsr (zxm ?_)))); refine gp zfa ?_; refine gp zl ?_; refine gp (zbu (cs := stC ⟨e, 0, 0, 0, s.lf⟩)) ?_; refine zsA (stC_len _) (stC_one _) ?_; refine zxa ?_; refine gnt (gc_ret (gx_retct rfl rfl (by conv => lhs; whnf) (ldA Ty.row_45 Ty.sz_45) ?_)); exact fun w' hw => ⟨(), by rw [enterV, if_pos hk, if_neg (by omega)]; simp only [eV_zero]; try rfl, hw.z⟩
end
section
theorem gput_e {d : DS} {sl : SL} {s t : VSt} (ht : t.ok = true) (h : ¬ (put d sl (bytV t)).1 = 0) : gput d sl s t = ((put d sl (bytV t)).1, (put d sl (bytV t)).2.1, (put d sl (bytV t)).2.2, s) := by rw [gput, if_pos ht, if_neg h]
theorem gput_0 {d : DS} {sl : SL} {s t : VSt} (ht : t.ok = true) (h : (put d sl (bytV t)).1 = 0) : gput d sl s t = (0, (put d sl (bytV t)).2.1, (put d sl (bytV t)).2.2, t) := by rw [gput, if_pos ht, if_pos h, h]
theorem nat_lf {s t : VSt} (hs : s.ok = true) (ht : t.ok = true) (h : t.lf = s.lf + 1) : s.lf = ((s.lf.toNat : Nat) : Int) ∧ s.lf.toNat < 32 := by
  have h1 := VSt.okI hs; have h2 := VSt.okI ht
  omega
attribute [local irreducible] Gl Gc Gx Gs Runs Wt
theorem gput_ok' {w : World} {F : Nat → Prop} {g qk qs gd : Nat} {s : VSt} {sl : SL} {d : DS} {t : VSt} (h : stars [GdR g qk qs gd s sl, DiskR gd d] w F) (ht : t.ok = true) (hk : DOk d) (hb : 0 ≤ sl.base ∧ sl.base ≤ 4096) (hc : sl.count < 9223372036854775808) {ea : Nat → Addr} {es : List Nat} [Has es 1] [Has es 6] [Has es 7] [Has es 8] (hE : GErr es w (fun k => ¬ F k) 241 ea) (hK : KR w (fun k => ¬ F k))  :
    Calls Tryz.prog 44 #[.pointer (some ⟨g, 0, none⟩), .agg (stC t).toArray] w (Post w F (fun _ : Unit => eV 241 ea (gput d sl s t).1) (fun _ => [GdR g qk qs gd (gput d sl s t).2.2.2 (gput d sl s t).2.2.1, DiskR gd (gput d sl s t).2.1])) := by
 have h' := gd_open h
 refine g_enter (env := [(0, .pointer (some ⟨g, 0, none⟩)), (1, .agg (stC t).toArray)]) Tryz.func44 rfl h' Tryz.ntmps44 rfl rfl ?_; refine gsr (zbN fun b3 => ?_); refine zxa ?_; refine zxs ?_; refine gp zL ?_; refine zc ?_ (c := fun w1 F1 F2 h1 h2 hd hst => vbytes_ok (s := t) h1 ht (hE.mv hst.still))
 rintro ⟨a10, c10⟩
 refine zxm ?_; refine gp zex ?_; refine gp zex ?_; refine zxa ?_; refine zxa ?_; refine gnt (gc_seq (gsr (zxm ?_))); refine gp (r_bool (c := false) (r_nenil (k := 0) rfl (by kernel_rfl)) rfl) ?_; refine gnt (gc_condF rfl rfl ?_); refine gc_skip (gx_then (gc_seq (gsr (zxm ?_)))); refine gp znc ?_; refine gp zfa ?_; refine gp zl ?_; refine zxm ?_; refine zc (fun _ => ?_) (c := fun w1 F1 F2 h1 h2 hd hst => put_ok' (s := sl) (r := bytV t) h1 hk (hE.mv hst.still) (hK.mv hst.still) hb hc (rd_row h2 hd (by repeat (first | exact Pick.here | apply Pick.there))) (rd_le h2 (by repeat (first | exact Pick.here | apply Pick.there))))
 refine zxa ?_; refine zxs ?_; refine zxm ?_; refine gp (r_bool (c := decide (¬ (put d sl (bytV t)).1 = 0)) (r_nenil rfl (by kernel_rfl)) (by simp)) ?_; refine gnt (gif rfl (fun hc23 => ?_) (fun hc23 => ?_))
 ·try simp only at hc23
  have e := gput_e (s := s) ht (show ¬ (put d sl (bytV t)).1 = 0 from hc23)
  refine gsr (zxm ?_); refine zxa ?_; refine gnt (gc_ret (gx_then_ret (gx_ret1 rfl (by conv => lhs; whnf) ?_))); exact fun w' hw => ⟨(), by rw [e], by rw [e]; exact (St.gu (hw.sel (M := [blk g 50 (.pointer (some ⟨qk, 0, none⟩) :: .pointer (some ⟨qs, 0, none⟩) :: stC s), SlR qs gd (put d sl (bytV t)).2.2, DiskR gd (put d sl (bytV t)).2.1]) (by repeat (first | exact Sel.nil | (apply Sel.cons; · (repeat (first | exact Pick.here | apply Pick.there)))))))⟩
 ·try simp only at hc23
  have h0 : (put d sl (bytV t)).1 = 0 := by simpa using hc23
  have e := gput_0 (s := s) ht h0
  refine gc_skip (gx_then (gsr (zxm ?_))); refine gp zL ?_; refine gp znc ?_; refine gp zfa ?_; refine zsN ?_; refine zxs ?_; refine zxa ?_; refine gnt (gc_ret (gx_ret1 rfl (by conv => lhs; whnf) ?_)); exact fun w' hw => ⟨(), by rw [e, eV_zero], by rw [e]; exact (St.gu (hw.sel (M := [blk g 50 (.pointer (some ⟨qk, 0, none⟩) :: .pointer (some ⟨qs, 0, none⟩) :: stC t), SlR qs gd (put d sl (bytV t)).2.2, DiskR gd (put d sl (bytV t)).2.1]) (by repeat (first | exact Sel.nil | (apply Sel.cons; · (repeat (first | exact Pick.here | apply Pick.there)))))))⟩
theorem gsign_ok {w : World} {F : Nat → Prop} {g qk qs gd : Nat} {s : VSt} {sl : SL} {d : DS} {t : VSt} {leaf : Nat} {seed D : Dig} (h : stars [GdR g qk qs gd s sl, DiskR gd d, KeyR qk seed] w F) (ht : t.ok = true) (hlf : s.lf = (leaf : Int)) (hl : leaf < 32) (hk : DOk d) (hb : 0 ≤ sl.base ∧ sl.base ≤ 4096) (hc : sl.count < 9223372036854775808) {ea : Nat → Addr} {es : List Nat} [Has es 1] [Has es 6] [Has es 7] [Has es 8] (hE : GErr es w (fun k => ¬ F k) 241 ea) (hK : KR w (fun k => ¬ F k))  :
    Calls Tryz.prog 47 #[.pointer (some ⟨g, 0, none⟩), .agg (stC t).toArray, .agg (dc D).toArray] w (Post w F (fun x : (Option Addr × Nat) × (Option Addr × Nat) => .tuple #[.agg (sgV ((gput d sl s t).1) (leaf) x).toArray, eV 241 ea ((gput d sl s t).1)]) (fun x => [SgR ((gput d sl s t).1) x seed (leaf) (D), GdR g qk qs gd (gput d sl s t).2.2.2 (gput d sl s t).2.2.1, DiskR gd (gput d sl s t).2.1, KeyR qk seed])) := by
 have h' := gd_open h
 have hl0 : (stC s)[4]? = some (.int .i64 (leaf : Int)) := by rw [← hlf]; rfl
 refine g_enter (env := [(0, .pointer (some ⟨g, 0, none⟩)), (1, .agg (stC t).toArray), (2, .agg (dc D).toArray)]) Tryz.func47 rfl h' Tryz.ntmps47 rfl rfl ?_; refine gsr (zbN fun b4 => ?_); refine zbN fun b5 => ?_; refine zal fun b6 => ?_; refine zxa ?_; refine zxs ?_; refine zxm ?_; refine gp znc ?_; refine gp zfa ?_; refine gp zfa ?_; refine gp (r_int (j := (leaf : Int)) zl (by rw [hlf])) ?_; refine zxa ?_; refine gnt (gc_seq (gc_seq (gc_turn (L2 := [GdR g qk qs gd s sl, DiskR gd d, KeyR qk seed, blk b4 45 (stC t), blk b5 32 (dc D), blk b6 63 sgZ]) (fun w' hw => St.gu (hw.z)) ?_))); refine gc_region (zxm ?_); refine gp zL ?_; refine zc (fun _ => ?_) (c := fun w1 F1 F2 h1 h2 hd hst => gput_ok' (t := t) h1 ht hk hb hc (hE.mv hst.still) (hK.mv hst.still))
 refine zxa ?_; refine zxs ?_; refine zxm ?_; refine gp (r_bool (c := decide (¬ (gput d sl s t).1 = 0)) (r_nenil rfl (by kernel_rfl)) (by simp)) ?_; refine gnt (gif rfl (fun hc19 => ?_) (fun hc19 => ?_))
 ·try simp only at hc19
  have hne : ¬ (gput d sl s t).1 = 0 := hc19
  refine gsr (gp (zbu (cs := sgZ)) ?_); refine zxm ?_; refine zsA (new := sgZ) (m := 3) rfl (sgV_one 1 0 xn) ?_; refine zxa ?_; refine gnt (gc_ret (gx_then_ret (gx_retct rfl rfl (by conv => lhs; whnf) (ldA Ty.row_63 Ty.sz_63) ?_))); exact fun w' hw => ⟨xn, by dsimp only; rw [sgV_n hne]; rfl, St.sgN hne (hw.z)⟩
 ·try simp only at hc19
  have h0 : (gput d sl s t).1 = 0 := by simpa using hc19
  refine gc_skip (gx_then (gc_seq (gc_gd (by repeat (first | exact Pick.here | apply Pick.there)) ?_))); refine gc_regionZ 10 ([blk g 50 (.pointer (some ⟨qk, 0, none⟩) :: .pointer (some ⟨qs, 0, none⟩) :: stC (gput d sl s t).2.2.2), blk b5 32 (dc D)]) ?_; refine yps 0 rfl zmv ?_; refine yps 1 rfl znc ?_; refine yps 2 rfl zfa ?_; refine yps 3 rfl zl ?_; refine yps 4 rfl zmv ?_; refine yps 5 rfl zL ?_; refine yos 6 rfl ?_; refine zc (fun x28 => ?_) (c := fun w1 F1 F2 h1 h2 hd hst => ksign_ok (ea := ea) (d := D) (leaf := leaf) h1 hl (hK.mv hst.still))
  refine yxs ?_; refine yps 7 rfl zex ?_; refine yps 8 rfl zex ?_; refine yos 9 rfl ?_; refine zsA (sgC_len _ _) One.h ?_; refine yxs ?_; refine yzs rfl ?_; refine zxa ?_; refine gnt (gc_ret (gx_retct rfl rfl (by conv => lhs; whnf) (ldA Ty.row_63 Ty.sz_63) ?_)); exact fun w' hw => ⟨x28, by dsimp only; rw [h0, sgV_0 rfl], by dsimp only; rw [h0]; exact (St.gu (hw.sel (M := [blk g 50 (.pointer (some ⟨qk, 0, none⟩) :: .pointer (some ⟨qs, 0, none⟩) :: stC (gput d sl s t).2.2.2), SlR qs gd (gput d sl s t).2.2.1, SgR 0 x28 seed leaf D, DiskR gd (gput d sl s t).2.1, KeyR qk seed]) (by repeat (first | exact Sel.nil | (apply Sel.cons; · (repeat (first | exact Pick.here | apply Pick.there))))))).z⟩
end
section
theorem gstep_e {d : DS} {sl : SL} {s : VSt} {r : VSt × Nat} (h : ¬ r.2 = 0) : gstep d sl s r = (r.2, d, sl, s) := if_neg h
theorem gstep_0 {d : DS} {sl : SL} {s : VSt} {r : VSt × Nat} (h : r.2 = 0) : gstep d sl s r = gput d sl s r.1 := if_pos h
theorem lateG_e1 {s : VSt} {e r h : Int} (hh : ¬ (lateV s e r).2 = 0) : lateG s e r h = (s, (lateV s e r).2) := if_neg hh
theorem lateG_e2 {s : VSt} {e r h : Int} (hh : (lateV s e r).2 = 0) (h2 : h < 0 ∨ r ≤ h) : lateG s e r h = (s, 14) := by rw [lateG, if_pos hh, if_pos h2]
theorem lateG_0 {s : VSt} {e r h : Int} (hh : (lateV s e r).2 = 0) (h2 : ¬ (h < 0 ∨ r ≤ h)) : lateG s e r h = lateV s e r := by rw [lateG, if_pos hh, if_neg h2]
attribute [local irreducible] Gl Gc Gx Gs Runs Wt
theorem gvote_ok {w : World} {F : Nat → Prop} {g qk qs gd : Nat} {s : VSt} {sl : SL} {d : DS} {seed : Dig} {e r q gr : Int} {D : Dig} (h : stars [GdR g qk qs gd s sl, DiskR gd d, KeyR qk seed] w F) (hs : s.ok = true) (hk : DOk d) (hb : 0 ≤ sl.base ∧ sl.base ≤ 4096) (hc : sl.count < 9223372036854775808) {ea : Nat → Addr} {es : List Nat} [Has es 1] [Has es 4] [Has es 5] [Has es 6] [Has es 7] [Has es 8] [Has es 10] [Has es 14] [Has es 15] [Has es 18] (hE : GErr es w (fun k => ¬ F k) 241 ea) (hK : KR w (fun k => ¬ F k))  :
    Calls Tryz.prog 21 #[.pointer (some ⟨g, 0, none⟩), .int .i64 e, .int .i64 r, .int .i64 q, .int .i64 gr, .agg (dc D).toArray] w (Post w F (fun x : (Option Addr × Nat) × (Option Addr × Nat) => .tuple #[.agg (sgV ((gstep d sl s (voteV s e r q gr)).1) (s.lf.toNat) x).toArray, eV 241 ea ((gstep d sl s (voteV s e r q gr)).1)]) (fun x => [SgR ((gstep d sl s (voteV s e r q gr)).1) x seed (s.lf.toNat) (dOf Kc 7 [beN e 8, beN r 8, D.l]), GdR g qk qs gd (gstep d sl s (voteV s e r q gr)).2.2.2 (gstep d sl s (voteV s e r q gr)).2.2.1, DiskR gd (gstep d sl s (voteV s e r q gr)).2.1, KeyR qk seed])) := by
 have h' := gd_open h
 refine g_enter (env := [(0, .pointer (some ⟨g, 0, none⟩)), (1, .int .i64 e), (2, .int .i64 r), (3, .int .i64 q), (4, .int .i64 gr), (5, .agg (dc D).toArray)]) Tryz.func21 rfl h' Tryz.ntmps21 rfl rfl ?_; refine gsr (zbN fun b11 => ?_); refine zal fun b12 => ?_; refine zxa ?_; refine zxs ?_; refine zxm ?_; refine gp znc ?_; refine gp zfa ?_; refine gp zL ?_; refine zxm ?_; refine zxm ?_; refine zxm ?_; refine zxm ?_; refine zc (fun _ => ?_) (c := fun w1 F1 F2 h1 h2 hd hst => vvote_ok (s := s) (e := e) (r := r) (q := q) (g := gr) h1 (hE.mv hst.still))
 refine zxm ?_; refine gp zex ?_; refine gp zex ?_; refine zal fun b14 => ?_; refine zsN ?_; refine zxa ?_; refine gnt (gc_seq (gsr (zxm ?_))); refine gp (r_bool (c := decide (¬ (voteV s e r q gr).2 = 0)) (r_nenil rfl (by kernel_rfl)) (by simp)) ?_; refine gnt (gif rfl (fun hc29 => ?_) (fun hc29 => ?_))
 ·try simp only at hc29
  have hne : ¬ (voteV s e r q gr).2 = 0 := by simpa using hc29
  refine gsr (gp (zbu (cs := sgZ)) ?_); refine zxm ?_; refine zsA (new := sgZ) (m := 3) rfl (sgV_one 1 0 xn) ?_; refine zxa ?_; refine gnt (gc_ret (gx_then_ret (gx_retct rfl rfl (by conv => lhs; whnf) (ldA Ty.row_63 Ty.sz_63) ?_))); have hne2 := hne
  exact fun w' hw => ⟨xn, by dsimp only; rw [gstep_e hne, sgV_n hne2]; rfl, by dsimp only; rw [gstep_e hne]; exact St.sgN hne2 (St.gu (hw.sel (M := [blk g 50 (.pointer (some ⟨qk, 0, none⟩) :: .pointer (some ⟨qs, 0, none⟩) :: stC s), SlR qs gd sl, DiskR gd d, KeyR qk seed]) (by repeat (first | exact Sel.nil | (apply Sel.cons; · (repeat (first | exact Pick.here | apply Pick.there)))))))⟩
 ·try simp only at hc29
  have h20 : (voteV s e r q gr).2 = 0 := by simpa using hc29
  have hVt := voteV_ok (show voteV s e r q gr = ((voteV s e r q gr).1, 0) from Prod.ext rfl h20)
  have hlf := nat_lf hs hVt.1 hVt.2
  refine gc_skip (gx_then (gc_seq (gc_turn (L2 := [GdR g qk qs gd s sl, DiskR gd d, KeyR qk seed, blk b14 45 (stC (voteV s e r q gr).1), blk b11 32 (dc D), blk b12 63 sgZ]) (fun w' hw => St.gu (hw.z)) ?_))); refine gc_regionZ 10 ([blk b14 45 (stC (voteV s e r q gr).1), blk b11 32 (dc D)]) ?_; refine yps 0 rfl zmv ?_; refine yps 1 rfl zL ?_; refine yps 2 rfl zmv ?_; refine yps 3 rfl zmv ?_; refine yps 4 rfl zL ?_; refine yos 5 rfl ?_; refine zc (fun _ => ?_) (c := fun w1 F1 F2 h1 h2 hd hst => forVote_ok (epoch := e) (round := r) (high := 0) (d := D) h1 (hK.mv hst.still))
  refine yxs ?_; refine yos 6 rfl ?_; refine zc (fun x38 => ?_) (c := fun w1 F1 F2 h1 h2 hd hst => gsign_ok (t := (voteV s e r q gr).1) (leaf := s.lf.toNat) (D := dOf Kc 7 [beN e 8, beN r 8, D.l]) h1 hVt.1 hlf.1 hlf.2 hk hb hc (hE.mv hst.still) (hK.mv hst.still))
  refine yxs ?_; refine yps 7 rfl zex ?_; refine yps 8 rfl zex ?_; refine yos 9 rfl ?_; refine zsA (sgV_len _ _ _) (sgV_one _ _ _) ?_; refine yxs ?_; refine yzs rfl ?_; refine zxa ?_; refine gnt (gc_ret (gx_retct rfl rfl (by conv => lhs; whnf) (ldA Ty.row_63 Ty.sz_63) ?_)); exact fun w' hw => ⟨x38, by rw [gstep_0 h20], by dsimp only; rw [gstep_0 h20]; exact hw.z⟩
theorem gprop_ok {w : World} {F : Nat → Prop} {g qk qs gd : Nat} {s : VSt} {sl : SL} {d : DS} {seed : Dig} {e r : Int} {D : Dig} (h : stars [GdR g qk qs gd s sl, DiskR gd d, KeyR qk seed] w F) (hs : s.ok = true) (hk : DOk d) (hb : 0 ≤ sl.base ∧ sl.base ≤ 4096) (hc : sl.count < 9223372036854775808) {ea : Nat → Addr} {es : List Nat} [Has es 1] [Has es 4] [Has es 5] [Has es 6] [Has es 7] [Has es 8] [Has es 10] [Has es 14] [Has es 15] [Has es 18] (hE : GErr es w (fun k => ¬ F k) 241 ea) (hK : KR w (fun k => ¬ F k))  :
    Calls Tryz.prog 51 #[.pointer (some ⟨g, 0, none⟩), .int .i64 e, .int .i64 r, .agg (dc D).toArray] w (Post w F (fun x : (Option Addr × Nat) × (Option Addr × Nat) => .tuple #[.agg (sgV ((gstep d sl s (propV s e r)).1) (s.lf.toNat) x).toArray, eV 241 ea ((gstep d sl s (propV s e r)).1)]) (fun x => [SgR ((gstep d sl s (propV s e r)).1) x seed (s.lf.toNat) (dOf Kc 9 [D.l]), GdR g qk qs gd (gstep d sl s (propV s e r)).2.2.2 (gstep d sl s (propV s e r)).2.2.1, DiskR gd (gstep d sl s (propV s e r)).2.1, KeyR qk seed])) := by
 have h' := gd_open h
 refine g_enter (env := [(0, .pointer (some ⟨g, 0, none⟩)), (1, .int .i64 e), (2, .int .i64 r), (3, .agg (dc D).toArray)]) Tryz.func51 rfl h' Tryz.ntmps51 rfl rfl ?_; refine gsr (zbN fun b7 => ?_); refine zal fun b8 => ?_; refine zxa ?_; refine zxs ?_; refine zxm ?_; refine gp znc ?_; refine gp zfa ?_; refine gp zL ?_; refine zxm ?_; refine zxm ?_; refine zc (fun _ => ?_) (c := fun w1 F1 F2 h1 h2 hd hst => vprop_ok (s := s) (e := e) (r := r) h1 (hE.mv hst.still))
 refine zxm ?_; refine gp zex ?_; refine gp zex ?_; refine zal fun b10 => ?_; refine zsN ?_; refine zxa ?_; refine gnt (gc_seq (gsr (zxm ?_))); refine gp (r_bool (c := decide (¬ (propV s e r).2 = 0)) (r_nenil rfl (by kernel_rfl)) (by simp)) ?_; refine gnt (gif rfl (fun hc23 => ?_) (fun hc23 => ?_))
 ·try simp only at hc23
  have hne : ¬ (propV s e r).2 = 0 := by simpa using hc23
  refine gsr (gp (zbu (cs := sgZ)) ?_); refine zxm ?_; refine zsA (new := sgZ) (m := 3) rfl (sgV_one 1 0 xn) ?_; refine zxa ?_; refine gnt (gc_ret (gx_then_ret (gx_retct rfl rfl (by conv => lhs; whnf) (ldA Ty.row_63 Ty.sz_63) ?_))); have hne2 := hne
  exact fun w' hw => ⟨xn, by dsimp only; rw [gstep_e hne, sgV_n hne2]; rfl, by dsimp only; rw [gstep_e hne]; exact St.sgN hne2 (St.gu (hw.sel (M := [blk g 50 (.pointer (some ⟨qk, 0, none⟩) :: .pointer (some ⟨qs, 0, none⟩) :: stC s), SlR qs gd sl, DiskR gd d, KeyR qk seed]) (by repeat (first | exact Sel.nil | (apply Sel.cons; · (repeat (first | exact Pick.here | apply Pick.there)))))))⟩
 ·try simp only at hc23
  have h20 : (propV s e r).2 = 0 := by simpa using hc23
  have hVt := propV_ok (show propV s e r = ((propV s e r).1, 0) from Prod.ext rfl h20)
  have hlf := nat_lf hs hVt.1 hVt.2
  refine gc_skip (gx_then (gc_seq (gc_turn (L2 := [GdR g qk qs gd s sl, DiskR gd d, KeyR qk seed, blk b10 45 (stC (propV s e r).1), blk b7 32 (dc D), blk b8 63 sgZ]) (fun w' hw => St.gu (hw.z)) ?_))); refine gc_regionZ 8 ([blk b10 45 (stC (propV s e r).1), blk b7 32 (dc D)]) ?_; refine yps 0 rfl zmv ?_; refine yps 1 rfl zL ?_; refine yps 2 rfl zL ?_; refine yos 3 rfl ?_; refine zc (fun _ => ?_) (c := fun w1 F1 F2 h1 h2 hd hst => forProposal_ok (epoch := 0) (round := 0) (high := 0) (d := D) h1 (hK.mv hst.still))
  refine yxs ?_; refine yos 4 rfl ?_; refine zc (fun x30 => ?_) (c := fun w1 F1 F2 h1 h2 hd hst => gsign_ok (t := (propV s e r).1) (leaf := s.lf.toNat) (D := dOf Kc 9 [D.l]) h1 hVt.1 hlf.1 hlf.2 hk hb hc (hE.mv hst.still) (hK.mv hst.still))
  refine yxs ?_; refine yps 5 rfl zex ?_; refine yps 6 rfl zex ?_; refine yos 7 rfl ?_; refine zsA (sgV_len _ _ _) (sgV_one _ _ _) ?_; refine yxs ?_; refine yzs rfl ?_; refine zxa ?_; refine gnt (gc_ret (gx_retct rfl rfl (by conv => lhs; whnf) (ldA Ty.row_63 Ty.sz_63) ?_)); exact fun w' hw => ⟨x30, by rw [gstep_0 h20], by dsimp only; rw [gstep_0 h20]; exact hw.z⟩
end
section
attribute [local irreducible] Gl Gc Gx Gs Runs Wt
theorem glate_ok {w : World} {F : Nat → Prop} {g qk qs gd : Nat} {s : VSt} {sl : SL} {d : DS} {seed : Dig} {e r hi : Int} {D : Dig} (h : stars [GdR g qk qs gd s sl, DiskR gd d, KeyR qk seed] w F) (hs : s.ok = true) (hk : DOk d) (hb : 0 ≤ sl.base ∧ sl.base ≤ 4096) (hc : sl.count < 9223372036854775808) {ea : Nat → Addr} {es : List Nat} [Has es 1] [Has es 4] [Has es 5] [Has es 6] [Has es 7] [Has es 8] [Has es 10] [Has es 14] [Has es 15] [Has es 18] (hE : GErr es w (fun k => ¬ F k) 241 ea) (hK : KR w (fun k => ¬ F k))  :
    Calls Tryz.prog 22 #[.pointer (some ⟨g, 0, none⟩), .int .i64 e, .int .i64 r, .int .i64 hi] w (Post w F (fun x : (Option Addr × Nat) × (Option Addr × Nat) => .tuple #[.agg (sgV ((gstep d sl s (lateG s e r hi)).1) (s.lf.toNat) x).toArray, eV 241 ea ((gstep d sl s (lateG s e r hi)).1)]) (fun x => [SgR ((gstep d sl s (lateG s e r hi)).1) x seed (s.lf.toNat) (dOf Kc 8 [beN e 8, beN r 8, beN hi 8]), GdR g qk qs gd (gstep d sl s (lateG s e r hi)).2.2.2 (gstep d sl s (lateG s e r hi)).2.2.1, DiskR gd (gstep d sl s (lateG s e r hi)).2.1, KeyR qk seed])) := by
 have h' := gd_open h
 refine g_enter (env := [(0, .pointer (some ⟨g, 0, none⟩)), (1, .int .i64 e), (2, .int .i64 r), (3, .int .i64 hi)]) Tryz.func22 rfl h' Tryz.ntmps22 rfl rfl ?_; refine gsr (zal fun b8 => ?_); refine zxa ?_; refine zxs ?_; refine zxm ?_; refine gp znc ?_; refine gp zfa ?_; refine gp zL ?_; refine zxm ?_; refine zxm ?_; refine zc (fun _ => ?_) (c := fun w1 F1 F2 h1 h2 hd hst => vlate_ok (s := s) (e := e) (r := r) h1 (hE.mv hst.still))
 refine zxm ?_; refine gp zex ?_; refine gp zex ?_; refine zal fun b10 => ?_; refine zsN ?_; refine zxa ?_; refine gnt (gc_seq (gc_block (gsr (zxm ?_)))); refine gp (r_bool (c := decide (¬ (lateV s e r).2 = 0)) (r_nenil rfl (by kernel_rfl)) (by simp)) ?_; refine zxa ?_; refine gnt (gif rfl (fun hc22 => ?_) (fun hc22 => ?_))
 ·try simp only at hc22
  have hne : ¬ (lateV s e r).2 = 0 := by simpa using hc22
  refine gsr (gp (zbu (cs := sgZ)) ?_); refine zxm ?_; refine zsA (new := sgZ) (m := 3) rfl (sgV_one 1 0 xn) ?_; refine zxa ?_; refine gnt (gc_ret (gx_block_ret ?_)); refine gx_then_ret (gx_retct rfl rfl (by conv => lhs; whnf) (ldA Ty.row_63 Ty.sz_63) ?_); have hne2 := hne
  have hG := lateG_e1 (h := hi) hne
  have hG2 : gstep d sl s (lateG s e r hi) = ((lateV s e r).2, d, sl, s) := by rw [hG]; exact gstep_e hne
  exact fun w' hw => ⟨xn, by dsimp only; rw [hG2, sgV_n hne2]; rfl, by dsimp only; rw [hG2]; exact St.sgN hne2 (St.gu (hw.sel (M := [blk g 50 (.pointer (some ⟨qk, 0, none⟩) :: .pointer (some ⟨qs, 0, none⟩) :: stC s), SlR qs gd sl, DiskR gd d, KeyR qk seed]) (by repeat (first | exact Sel.nil | (apply Sel.cons; · (repeat (first | exact Pick.here | apply Pick.there)))))))⟩
 ·try simp only at hc22
  have h20 : (lateV s e r).2 = 0 := by simpa using hc22
  have hVt := lateV_ok (show lateV s e r = ((lateV s e r).1, 0) from Prod.ext rfl h20)
  have hlf := nat_lf hs hVt.1 hVt.2
  refine gc_seq ?_; by_cases hh : hi < 0
  ·refine gc_region (zxm ?_); refine gp (r_bool (c := true) zlt (decide_eq_true hh)) ?_; refine zxm ?_; refine gn ?_; refine gn ?_; refine gn ?_; refine gp zpk ?_; refine zxa ?_; refine gnt (gc_condT rfl rfl ?_); refine gc_seq (gc_regionZ 3 [] ?_); refine yps 0 rfl (zbu (cs := sgZ)) ?_; refine yps 1 rfl (r_ld1o rfl Ty.row_26 (hE.c 14 Has.h) (hE.n 14 Has.h)) ?_; refine yos 2 rfl ?_; refine zsA (new := sgZ) (m := 3) rfl (sgV_one 1 0 xn) ?_; refine yxs ?_; refine yzs rfl ?_; refine zxa ?_; refine gnt (gc_ret (gx_block_ret ?_)); refine gx_then_ret (gx_retct rfl rfl (by conv => lhs; whnf) (ldA Ty.row_63 Ty.sz_63) ?_); have hbad : hi < 0 ∨ r ≤ hi := .inl hh
   have hne2 : ¬ (14 : Nat) = 0 := by decide
   have hG := lateG_e2 (s := s) (e := e) (r := r) (h := hi) h20 hbad
   have hG2 : gstep d sl s (lateG s e r hi) = (14, d, sl, s) := by rw [hG]; rfl
   exact fun w' hw => ⟨xn, by dsimp only; rw [hG2, sgV_n hne2]; rfl, by dsimp only; rw [hG2]; exact St.sgN hne2 (St.gu (hw.sel (M := [blk g 50 (.pointer (some ⟨qk, 0, none⟩) :: .pointer (some ⟨qs, 0, none⟩) :: stC s), SlR qs gd sl, DiskR gd d, KeyR qk seed]) (by repeat (first | exact Sel.nil | (apply Sel.cons; · (repeat (first | exact Pick.here | apply Pick.there)))))))⟩
  ·refine gc_region (zxm ?_); refine gp (r_bool (c := false) zlt (decide_eq_false hh)) ?_; refine zxm ?_; refine gq zmv ?_; refine gq zmv ?_; refine gq zge ?_; refine gp zpk ?_; refine zxa ?_; refine gnt (gif rfl (fun hc27 => ?_) (fun hc27 => ?_))
   ·try simp only at hc27
    have hbad : hi < 0 ∨ r ≤ hi := .inr (by simpa using hc27)
    refine gc_seq (gc_regionZ 3 [] ?_); refine yps 0 rfl (zbu (cs := sgZ)) ?_; refine yps 1 rfl (r_ld1o rfl Ty.row_26 (hE.c 14 Has.h) (hE.n 14 Has.h)) ?_; refine yos 2 rfl ?_; refine zsA (new := sgZ) (m := 3) rfl (sgV_one 1 0 xn) ?_; refine yxs ?_; refine yzs rfl ?_; refine zxa ?_; refine gnt (gc_ret (gx_block_ret ?_)); refine gx_then_ret (gx_retct rfl rfl (by conv => lhs; whnf) (ldA Ty.row_63 Ty.sz_63) ?_); have hne2 : ¬ (14 : Nat) = 0 := by decide
    have hG := lateG_e2 (s := s) (e := e) (r := r) (h := hi) h20 hbad
    have hG2 : gstep d sl s (lateG s e r hi) = (14, d, sl, s) := by rw [hG]; rfl
    exact fun w' hw => ⟨xn, by dsimp only; rw [hG2, sgV_n hne2]; rfl, by dsimp only; rw [hG2]; exact St.sgN hne2 (St.gu (hw.sel (M := [blk g 50 (.pointer (some ⟨qk, 0, none⟩) :: .pointer (some ⟨qs, 0, none⟩) :: stC s), SlR qs gd sl, DiskR gd d, KeyR qk seed]) (by repeat (first | exact Sel.nil | (apply Sel.cons; · (repeat (first | exact Pick.here | apply Pick.there)))))))⟩
   ·try simp only at hc27
    have hgood : ¬ (hi < 0 ∨ r ≤ hi) := by omega
    have hG := lateG_0 h20 hgood
    refine gc_skip (gx_block_normal (gx_then (gc_seq (gc_turn (L2 := [GdR g qk qs gd s sl, DiskR gd d, KeyR qk seed, blk b10 45 (stC (lateV s e r).1), blk b8 63 sgZ]) (fun w' hw => St.gu (hw.z)) ?_)))); refine gc_regionZ 10 ([blk b10 45 (stC (lateV s e r).1)]) ?_; refine yps 0 rfl zmv ?_; refine yps 1 rfl zL ?_; refine yps 2 rfl zmv ?_; refine yps 3 rfl zmv ?_; refine yps 4 rfl zmv ?_; refine yos 5 rfl ?_; refine zc (fun _ => ?_) (c := fun w1 F1 F2 h1 h2 hd hst => forLate_ok (epoch := e) (round := r) (high := hi) (d := dig0) h1 (hK.mv hst.still))
    refine yxs ?_; refine yos 6 rfl ?_; refine zc (fun x43 => ?_) (c := fun w1 F1 F2 h1 h2 hd hst => gsign_ok (t := (lateV s e r).1) (leaf := s.lf.toNat) (D := dOf Kc 8 [beN e 8, beN r 8, beN hi 8]) h1 hVt.1 hlf.1 hlf.2 hk hb hc (hE.mv hst.still) (hK.mv hst.still))
    refine yxs ?_; refine yps 7 rfl zex ?_; refine yps 8 rfl zex ?_; refine yos 9 rfl ?_; refine zsA (sgV_len _ _ _) (sgV_one _ _ _) ?_; refine yxs ?_; refine yzs rfl ?_; refine zxa ?_; refine gnt (gc_ret (gx_retct rfl rfl (by conv => lhs; whnf) (ldA Ty.row_63 Ty.sz_63) ?_)); exact fun w' hw => ⟨x43, by rw [hG, gstep_0 h20], by dsimp only; rw [hG, gstep_0 h20]; exact hw.z⟩
theorem genter_ok {w : World} {F : Nat → Prop} {g qk qs gd : Nat} {s : VSt} {sl : SL} {d : DS} {e : Int} (h : stars [GdR g qk qs gd s sl, DiskR gd d] w F) (hs : s.ok = true) (hk : DOk d) (hb : 0 ≤ sl.base ∧ sl.base ≤ 4096) (hc : sl.count < 9223372036854775808) {ea : Nat → Addr} {es : List Nat} [Has es 1] [Has es 4] [Has es 6] [Has es 7] [Has es 8] [Has es 18] (hE : GErr es w (fun k => ¬ F k) 241 ea) (hK : KR w (fun k => ¬ F k))  :
    Calls Tryz.prog 20 #[.pointer (some ⟨g, 0, none⟩), .int .i64 e] w (Post w F (fun _ : Unit => eV 241 ea (gstep d sl s (enterV s e)).1) (fun _ => [GdR g qk qs gd (gstep d sl s (enterV s e)).2.2.2 (gstep d sl s (enterV s e)).2.2.1, DiskR gd (gstep d sl s (enterV s e)).2.1])) := by
 have h' := gd_open h
 refine g_enter (env := [(0, .pointer (some ⟨g, 0, none⟩)), (1, .int .i64 e)]) Tryz.func20 rfl h' Tryz.ntmps20 rfl rfl ?_; refine gsr (zxa ?_); refine zxs ?_; refine zxm ?_; refine gp znc ?_; refine gp zfa ?_; refine gp zL ?_; refine zxm ?_; refine zc (fun _ => ?_) (c := fun w1 F1 F2 h1 h2 hd hst => venter_ok (s := s) (e := e) h1 (hE.mv hst.still))
 refine zxm ?_; refine gp zex ?_; refine gp zex ?_; refine zal fun b5 => ?_; refine zsN ?_; refine zxa ?_; refine gnt (gc_seq (gsr (zxm ?_))); refine gp (r_bool (c := decide (¬ (enterV s e).2 = 0)) (r_nenil rfl (by kernel_rfl)) (by simp)) ?_; refine gnt (gif rfl (fun hc17 => ?_) (fun hc17 => ?_))
 ·try simp only at hc17
  have hne : ¬ (enterV s e).2 = 0 := by simpa using hc17
  refine gsr (zxm ?_); refine zxa ?_; refine gnt (gc_ret (gx_then_ret (gx_ret1 rfl (by conv => lhs; whnf) ?_))); exact fun w' hw => ⟨(), by rw [gstep_e hne], by dsimp only; rw [gstep_e hne]; exact St.gu (hw.sel (M := [blk g 50 (.pointer (some ⟨qk, 0, none⟩) :: .pointer (some ⟨qs, 0, none⟩) :: stC s), SlR qs gd sl, DiskR gd d]) (by repeat (first | exact Sel.nil | (apply Sel.cons; · (repeat (first | exact Pick.here | apply Pick.there))))))⟩
 ·try simp only at hc17
  have h20 : (enterV s e).2 = 0 := by simpa using hc17
  have hVt := enterV_ok (show enterV s e = ((enterV s e).1, 0) from Prod.ext rfl h20)
  refine gc_skip (gx_then (gc_seq (gc_turn (L2 := [GdR g qk qs gd s sl, DiskR gd d, blk b5 45 (stC (enterV s e).1)]) (fun w' hw => St.gu (hw.z)) ?_))); refine gc_region (zxm ?_); refine gp zL ?_; refine zc (fun _ => ?_) (c := fun w1 F1 F2 h1 h2 hd hst => gput_ok' (t := (enterV s e).1) h1 hVt.2.1 hk hb hc (hE.mv hst.still) (hK.mv hst.still))
  refine zxa ?_; refine gnt (gc_ret (gx_ret1 rfl (by conv => lhs; whnf) ?_)); exact fun w' hw => ⟨(), by rw [gstep_0 h20], by dsimp only; rw [gstep_0 h20]; exact hw.z⟩
end
section
section
variable {w : World} {F : Nat → Prop} {g gd e : Nat} {d d' : DS} {s s' : SL} {ea : Nat → Addr} {es : List Nat} [Has es 1] [Has es 6] [Has es 7] [Has es 8] {f : Nat → Sec} {b : Int} {r : List UInt8} {a : Option Addr} {n cc : Nat}
theorem format_G (he : fmt d b = (0, d')) (h : stars [DiskR g d] w F) (hk : DOk d) (hE : GErr es w (fun k => ¬ F k) 241 ea) (hK : KR w (fun k => ¬ F k)) :
    Calls Tryz.prog 13 #[.pointer (some ⟨g, 0, none⟩), .int .i64 b] w (Post w F (fun q : Nat => .tuple #[.pointer (some ⟨q, 0, none⟩), eV 241 ea 0]) (fun q => [SlR q g ⟨b, 0, []⟩, DiskR g d'])) :=
  Calls.mono (format_ok (b := b) h hk hE hK) fun x w' ⟨q, h1, h2⟩ => ⟨q, by rw [h1, he]; rfl, by rw [he] at h2; exact h2⟩
theorem open_S (he : opn d b = some s) (h : stars [DiskR g d] w F) (hk : DOk d) (hoff : d.off = false) (hE : GErr es w (fun k => ¬ F k) 241 ea) (hK : KR w (fun k => ¬ F k)) (hrt : d.right b = true) :
    Calls Tryz.prog 32 #[.pointer (some ⟨g, 0, none⟩), .int .i64 b] w (Post w F (fun q : Nat => .tuple #[.pointer (some ⟨q, 0, none⟩), eV 241 ea 0]) (fun q => [SlR q g s, DiskR g d])) :=
  Calls.mono (open_ok (b := b) h hk hoff hE hK hrt) fun x w' ⟨q, h1, h2⟩ => ⟨q, by rw [h1, he]; rfl, by rw [he] at h2; exact h2⟩
end
theorem gput_fin {d d' : DS} {sl sl' : SL} {s t : VSt} (ht : t.ok = true) (hp : put d sl (bytV t) = (0, d', sl')) : gput d sl s t = (0, d', sl', t) := by rw [gput_0 ht (by rw [hp]), hp]
attribute [local irreducible] Gl Gc Gx Gs Runs Wt
theorem gopen_S {w : World} {F : Nat → Prop} {gd qk : Nat} {d : DS} {b : Int} (h : stars [DiskR gd d] w F) (hk : DOk d) {sl : SL} {s : VSt} (hoff : d.off = false) (hrt : d.right b = true) (ho : opn d b = some sl) (hlen : sl.rec'.length ≤ 31) (hv : readV sl.rec' = (0, s)) {ea : Nat → Addr} {es : List Nat} [Has es 1] [Has es 2] [Has es 3] [Has es 4] [Has es 6] [Has es 7] [Has es 8] (hE : GErr es w (fun k => ¬ F k) 241 ea) (hK : KR w (fun k => ¬ F k))  :
    Calls Tryz.prog 11 #[.pointer (some ⟨gd, 0, none⟩), .int .i64 b, .pointer (some ⟨qk, 0, none⟩)] w (Post w F (fun x : Nat × Nat => .tuple #[.pointer (some ⟨x.1, 0, none⟩), eV 241 ea 0]) (fun x => [GdR x.1 qk x.2 gd s (sl), DiskR gd d])) := by
 refine g_enter (env := [(0, .pointer (some ⟨gd, 0, none⟩)), (1, .int .i64 b), (2, .pointer (some ⟨qk, 0, none⟩))]) Tryz.func11 rfl h Tryz.ntmps11 rfl rfl ?_; refine gsr (zxa ?_); refine zxa ?_; refine zxs ?_; refine zxm ?_; refine zxm ?_; refine zc (fun q14 => ?_) (c := fun w1 F1 F2 h1 h2 hd hst => open_S (b := b) ho h1 hk hoff (hE.mv hst.still) (hK.mv hst.still) hrt)
 refine zxm ?_; refine gp zex ?_; refine gp zex ?_; refine zxa ?_; refine zxa ?_; refine gnt (gc_seq (gsr (zxm ?_))); refine gp (r_bool (c := false) (r_nenil (k := 0) rfl (by kernel_rfl)) rfl) ?_; refine gnt (gc_condF rfl rfl ?_); refine gc_skip (gx_then (gsr (zxm ?_))); refine zc (fun x22 => ?_) (c := fun w1 F1 F2 h1 h2 hd hst => record_ok (s := sl) h1 hlen)
 refine zc (fun _ => ?_) (c := fun w1 F1 F2 h1 h2 hd hst => vread_ok (b := sl.rec') h1 (hE.mv hst.still) (rd_row h2 hd (by repeat (first | exact Pick.here | apply Pick.there))) (by omega))
 rw [hv]; refine zxm ?_; refine gp zex ?_; refine gp zex ?_; refine zal fun b10 => ?_; refine zsA (stC_len _) (stC_one _) ?_; refine zxa ?_; refine gnt (gc_seq (gsr (zxm ?_))); refine gp (r_bool (c := false) (r_nenil (k := 0) rfl (by kernel_rfl)) rfl) ?_; refine gnt (gc_condF rfl rfl ?_); refine gc_skip (gx_then (gsr (zxm ?_))); refine zxm ?_; refine gp zL ?_; refine gp (zbu (cs := .pointer (some ⟨qk, 0, none⟩) :: .pointer (some ⟨q14, 0, none⟩) :: stC s)) ?_; refine zbN fun b33 => ?_; refine zxa ?_; refine zxa ?_; refine gnt (gc_ret (gx_ret2 rfl (by conv => lhs; whnf) (by conv => lhs; whnf) ?_)); exact fun w' hw => ⟨(b33, q14), by rw [eV_zero], St.gu (hw.z)⟩
theorem gform_S {w : World} {F : Nat → Prop} {gd qk : Nat} {d : DS} {b : Int} (h : stars [DiskR gd d] w F) (hk : DOk d) {d' d2 : DS} {sl' : SL} {e : Int} (hrt : d.right b = true) (hok : (⟨e, 0, 0, 0, 0⟩ : VSt).ok = true) (he : fmt d b = (0, d')) (hk' : DOk d') (hp : put d' ⟨b, 0, []⟩ (bytV (⟨e, 0, 0, 0, 0⟩ : VSt)) = (0, d2, sl')) (hb : 0 ≤ b ∧ b ≤ 4096) {ea : Nat → Addr} {es : List Nat} [Has es 1] [Has es 4] [Has es 6] [Has es 7] [Has es 8] (hE : GErr es w (fun k => ¬ F k) 241 ea) (hK : KR w (fun k => ¬ F k))  :
    Calls Tryz.prog 17 #[.pointer (some ⟨gd, 0, none⟩), .int .i64 b, .pointer (some ⟨qk, 0, none⟩), .int .i64 e] w (Post w F (fun x : Nat × Nat => .tuple #[.pointer (some ⟨x.1, 0, none⟩), eV 241 ea 0]) (fun x => [GdR x.1 qk x.2 gd (⟨e, 0, 0, 0, 0⟩ : VSt) (sl'), DiskR gd d2])) := by
 have hgp := gput_fin (s := z13) hok hp
 refine g_enter (env := [(0, .pointer (some ⟨gd, 0, none⟩)), (1, .int .i64 b), (2, .pointer (some ⟨qk, 0, none⟩)), (3, .int .i64 e)]) Tryz.func17 rfl h Tryz.ntmps17 rfl rfl ?_; refine gsr (zxa ?_); refine zxa ?_; refine zxs ?_; refine zxm ?_; refine gp (zbu (cs := stC (⟨e, 0, 0, 0, 0⟩ : VSt))) ?_; refine zal fun b10 => ?_; refine zsA (stC_len _) (stC_one _) ?_; refine gnt (gc_seq (gsr (gp (zLa (cs := stC (⟨e, 0, 0, 0, 0⟩ : VSt))) ?_))); refine zc (fun _ => ?_) (c := fun w1 F1 F2 h1 h2 hd hst => vright_ok (s := (⟨e, 0, 0, 0, 0⟩ : VSt)) h1)
 refine gp (r_bool (c := false) znt (by rw [hok]; rfl)) ?_; refine gnt (gc_condF rfl rfl ?_); refine gc_skip (gx_then (gsr (zxm ?_))); refine zxm ?_; refine zc (fun q24 => ?_) (c := fun w1 F1 F2 h1 h2 hd hst => format_G he h1 hk (hE.mv hst.still) (hK.mv hst.still))
 refine zxm ?_; refine gp zex ?_; refine gp zex ?_; refine zxa ?_; refine zxa ?_; refine gnt (gc_seq (gsr (zxm ?_))); refine gp (r_bool (c := false) (r_nenil (k := 0) rfl (by kernel_rfl)) rfl) ?_; refine gnt (gc_condF rfl rfl ?_); refine gc_skip (gx_then (gsr (zxm ?_))); refine zxm ?_; refine gp (zbu (cs := .pointer (some ⟨qk, 0, none⟩) :: .pointer (some ⟨q24, 0, none⟩) :: stC z13)) ?_; refine zbN fun b33 => ?_; refine zxa ?_; refine gnt (gc_seq (gc_seq (gc_turn (L2 := [GdR b33 qk q24 gd z13 ⟨b, 0, []⟩, DiskR gd d', blk b10 45 (stC (⟨e, 0, 0, 0, 0⟩ : VSt))]) (fun w' hw => St.gu (hw.z)) ?_))); refine gc_region (zxm ?_); refine gp (zLa (cs := stC (⟨e, 0, 0, 0, 0⟩ : VSt))) ?_; refine zc (fun _ => ?_) (c := fun w1 F1 F2 h1 h2 hd hst => gput_ok' (s := z13) (t := (⟨e, 0, 0, 0, 0⟩ : VSt)) (sl := ⟨b, 0, []⟩) (d := d') h1 hok hk' hb (by show (0 : Nat) < _; decide) (hE.mv hst.still) (hK.mv hst.still))
 rw [hgp]; refine zxa ?_; refine zxs ?_; refine zxm ?_; refine gp (r_bool (c := false) (r_nenil (k := 0) rfl (by kernel_rfl)) rfl) ?_; refine gnt (gc_condF rfl rfl ?_); refine gc_skip (gx_then (gsr (zxm ?_))); refine zxa ?_; refine zxa ?_; refine gnt (gc_ret (gx_ret2 rfl (by conv => lhs; whnf) (by conv => lhs; whnf) ?_)); exact fun w' hw => ⟨(b33, q24), by rw [eV_zero], hw.z⟩
end
section
section
variable {w : World} {F : Nat → Prop} {g qk qs gd er : Nat} {s s' : VSt} {sl sl' : SL} {d d' : DS} {seed D : Dig} {e r q gr hi : Int} {ea : Nat → Addr} {es : List Nat} [Has es 1] [Has es 4] [Has es 5] [Has es 6] [Has es 7] [Has es 8] [Has es 10] [Has es 14] [Has es 15] [Has es 18]
theorem gvote_S (he : gstep d sl s (voteV s e r q gr) = (er, d', sl', s')) (h : stars [GdR g qk qs gd s sl, DiskR gd d, KeyR qk seed] w F) (hs : s.ok = true) (hk : DOk d) (hb : 0 ≤ sl.base ∧ sl.base ≤ 4096) (hc : sl.count < 9223372036854775808) (hE : GErr es w (fun k => ¬ F k) 241 ea) (hK : KR w (fun k => ¬ F k)) :
    Calls Tryz.prog 21 #[.pointer (some ⟨g, 0, none⟩), .int .i64 e, .int .i64 r, .int .i64 q, .int .i64 gr, .agg (dc D).toArray] w (Post w F (fun x : (Option Addr × Nat) × (Option Addr × Nat) => .tuple #[.agg (sgV er s.lf.toNat x).toArray, eV 241 ea er]) (fun x => [SgR er x seed s.lf.toNat (dOf Kc 7 [beN e 8, beN r 8, D.l]), GdR g qk qs gd s' sl', DiskR gd d', KeyR qk seed])) := by
  have h1 := gvote_ok (D := D) (seed := seed) (e := e) (r := r) (q := q) (gr := gr) h hs hk hb hc hE hK
  rw [he] at h1
  exact h1
theorem gprop_S (he : gstep d sl s (propV s e r) = (er, d', sl', s')) (h : stars [GdR g qk qs gd s sl, DiskR gd d, KeyR qk seed] w F) (hs : s.ok = true) (hk : DOk d) (hb : 0 ≤ sl.base ∧ sl.base ≤ 4096) (hc : sl.count < 9223372036854775808) (hE : GErr es w (fun k => ¬ F k) 241 ea) (hK : KR w (fun k => ¬ F k)) :
    Calls Tryz.prog 51 #[.pointer (some ⟨g, 0, none⟩), .int .i64 e, .int .i64 r, .agg (dc D).toArray] w (Post w F (fun x : (Option Addr × Nat) × (Option Addr × Nat) => .tuple #[.agg (sgV er s.lf.toNat x).toArray, eV 241 ea er]) (fun x => [SgR er x seed s.lf.toNat (dOf Kc 9 [D.l]), GdR g qk qs gd s' sl', DiskR gd d', KeyR qk seed])) := by
  have h1 := gprop_ok (D := D) (seed := seed) (e := e) (r := r) h hs hk hb hc hE hK
  rw [he] at h1
  exact h1
theorem glate_S (he : gstep d sl s (lateG s e r hi) = (er, d', sl', s')) (h : stars [GdR g qk qs gd s sl, DiskR gd d, KeyR qk seed] w F) (hs : s.ok = true) (hk : DOk d) (hb : 0 ≤ sl.base ∧ sl.base ≤ 4096) (hc : sl.count < 9223372036854775808) (hE : GErr es w (fun k => ¬ F k) 241 ea) (hK : KR w (fun k => ¬ F k)) :
    Calls Tryz.prog 22 #[.pointer (some ⟨g, 0, none⟩), .int .i64 e, .int .i64 r, .int .i64 hi] w (Post w F (fun x : (Option Addr × Nat) × (Option Addr × Nat) => .tuple #[.agg (sgV er s.lf.toNat x).toArray, eV 241 ea er]) (fun x => [SgR er x seed s.lf.toNat (dOf Kc 8 [beN e 8, beN r 8, beN hi 8]), GdR g qk qs gd s' sl', DiskR gd d', KeyR qk seed])) := by
  have h1 := glate_ok (D := dig0) (seed := seed) (e := e) (r := r) (hi := hi) h hs hk hb hc hE hK
  rw [he] at h1
  exact h1
theorem genter_S (he : gstep d sl s (enterV s e) = (er, d', sl', s')) (h : stars [GdR g qk qs gd s sl, DiskR gd d] w F) (hs : s.ok = true) (hk : DOk d) (hb : 0 ≤ sl.base ∧ sl.base ≤ 4096) (hc : sl.count < 9223372036854775808) (hE : GErr es w (fun k => ¬ F k) 241 ea) (hK : KR w (fun k => ¬ F k)) :
    Calls Tryz.prog 20 #[.pointer (some ⟨g, 0, none⟩), .int .i64 e] w (Post w F (fun _ : Unit => eV 241 ea er) (fun _ => [GdR g qk qs gd s' sl', DiskR gd d'])) := by
  have h1 := genter_ok (e := e) h hs hk hb hc hE hK
  rw [he] at h1
  exact h1
end
theorem gstep_T {f : Nat → Sec} {c : Nat} {q : List UInt8} {s t : VSt} {r : VSt × Nat} (h : r = (t, 0)) (ht : t.ok = true) (hc : c < 1000000) : gstep (dZ f) ⟨0, c, q⟩ s r = (0, dZ (gF f c t), ⟨0, c + 1, bytV t⟩, t) := by subst h; rw [gstep_0 rfl, gput_Z ht hc]
theorem gstep_N {d : DS} {sl : SL} {s t : VSt} {r : VSt × Nat} {e : Nat} (h : r = (t, e)) (he : ¬ e = 0) : gstep d sl s r = (e, d, sl, s) := by subst h; exact gstep_e he
theorem put_B {f : Nat → Sec} {c : Nat} {q : List UInt8} {t : VSt} (hc : c < 1000000) : put (dZ f) ⟨0, c, q⟩ (bytV t) = (0, dZ (gF f c t), ⟨0, c + 1, bytV t⟩) := put_Z (by omega) (by rw [bytV_len]; omega)
theorem gstep_Z {f : Nat → Sec} {c : Nat} {q : List UInt8} {s : VSt} {r : VSt × Nat} (h : r.2 = 0) (ht : r.1.ok = true) (hc : c < 1000000) : gstep (dZ f) ⟨0, c, q⟩ s r = (0, dZ (gF f c r.1), ⟨0, c + 1, bytV r.1⟩, r.1) := by rw [gstep_0 h, gput_Z ht hc]
end
section
def digO (n : UInt8) : Dig := ⟨n :: List.replicate 15 0, rfl⟩
def sE (e : Int) : VSt := ⟨e, 0, 0, 0, 0⟩
def fE1 (e : Int) : Nat → Sec := gF (fmtF fun _ => sec0) 0 (sE e)
theorem sE_ok {e : Int} (h : 0 ≤ e ∧ e ≤ 1073741824) : (sE e).ok = true := VSt.okM (by simp [sE]; exact h)
theorem fE1_gk {e : Int} (h : 0 ≤ e ∧ e ≤ 1073741824) : GK (fE1 e) 1 (sE e) := gk_put (good_fmt _) (sE_ok h) (by decide)
structure PX where
  p : Nat
  gd : Nat
  qk : Nat
  qs : Nat
  g : Nat
  mp : Nat
def plC (x : PX) (s : VSt) (may high : Value) : List Value := [.pointer (some ⟨x.gd, 0, none⟩), .pointer (some ⟨x.qk, 0, none⟩), .pointer (some ⟨x.g, 0, none⟩), .int .i64 s.e, .int .i64 s.v, .int .i64 s.l, .int .i64 s.p, .int .i64 s.lf, may, .map (some x.mp), high]
theorem al_v1 : voteV (sE 1) 1 1 0 0 = (⟨1, 1, 0, 0, 1⟩, 0) := by decide
theorem al_v2 : voteV ⟨1, 1, 0, 0, 1⟩ 1 1 0 0 = (⟨1, 1, 0, 0, 1⟩, 10) := by decide
def sA1 : VSt := ⟨1, 1, 0, 0, 1⟩
def fA1 : Nat → Sec := gF (fE1 1) 1 sA1
theorem fA1_gk : GK fA1 2 sA1 := gk_put (fE1_gk (by decide)).good (by decide) (by decide)
theorem nat0 : 0 ≤ (0 : Int) ∧ (0 : Int) ≤ 4096 := by decide
attribute [local irreducible] Gl Gc Gx Gs Runs Wt
theorem alive14_ok {w : World} {F : Nat → Prop} (h : stars [] w F) {ea : Nat → Addr} (hN : NErr w (fun k => ¬ F k) ea) (hK : KR w (fun k => ¬ F k))  :
    Calls Tryz.prog 8 #[] w (Post w F (fun _ : Unit => .bool true) (fun _ => [])) := by
 have hE := hN.g
 refine g_enter (env := []) Tryz.func8 rfl h Tryz.ntmps8 rfl rfl ?_; refine gsr (zxa ?_); refine zxs ?_; refine zc (fun g8 => ?_) (c := fun w1 F1 F2 h1 h2 hd hst => new_ok (n := 2) (ea := ea) h1 (by decide) (by decide))
 refine zxm ?_; refine gp zex ?_; refine gp zex ?_; refine zxa ?_; refine zxa ?_; refine gnt (gc_seq (gsr (zxm ?_))); refine gp (r_bool (c := false) (r_nenil rfl (by kernel_rfl)) rfl) ?_; refine zxm ?_; refine gq zmv ?_; refine gq (r_bool (c := false) (r_eqpn rfl Ty.un_24) rfl) ?_; refine gp zpk ?_; refine gnt (gc_condF rfl rfl ?_); refine gc_skip (gx_then (gsr (gp (zba (cs := dc (digO 5)) (hf := by kernel_rfl)) ?_))); refine zc (fun q18 => ?_) (c := fun w1 F1 F2 h1 h2 hd hst => knew_ok (ea := ea) (seed := digO 5) h1 (hK.mv hst.still))
 refine zxa ?_; refine zxs ?_; refine zxm ?_; refine zxm ?_; refine zc ?_ (c := fun w1 F1 F2 h1 h2 hd hst => gform_S (b := 0) (e := 1) (d := dZ fun _ => sec0) h1 (dZ_ok _) rfl (sE_ok (e := 1) (by decide)) (fmt_Z fun _ => sec0) (dZ_ok _) (put_B (by decide)) nat0 (hE.mv hst.still) (hK.mv hst.still))
 rintro ⟨g22, q22⟩
 refine zxm ?_; refine gp zex ?_; refine gp zex ?_; refine zxa ?_; refine zxa ?_; refine gnt (gc_seq (gsr (zxm ?_))); refine gp (r_bool (c := false) (r_nenil rfl (by kernel_rfl)) rfl) ?_; refine zxm ?_; refine gq zmv ?_; refine gq (r_bool (c := false) (r_eqpn rfl Ty.un_33) rfl) ?_; refine gp zpk ?_; refine gnt (gc_condF rfl rfl ?_); refine gc_skip (gx_then (gc_seq (gsr (zxm ?_)))); refine gp (zba (cs := dc (digO 1)) (hf := by kernel_rfl)) ?_; refine zc (fun x34 => ?_) (c := fun w1 F1 F2 h1 h2 hd hst => gvote_S (s := sE 1) (sl := ⟨0, 1, bytV (sE 1)⟩) (seed := digO 5) (D := digO 1) (e := 1) (r := 1) (q := 0) (gr := 0) (gstep_T (f := fE1 1) al_v1 (by decide) (by decide)) h1 (by decide) (dZ_ok _) nat0 (by show (1 : Nat) < _; decide) (hE.mv hst.still) (hK.mv hst.still))
 refine zxm ?_; refine gp zex ?_; refine gp zex ?_; refine zal fun b5 => ?_; refine zsA (sgV_len _ _ _) (sgV_one _ _ _) ?_; refine zxa ?_; refine zxs ?_; refine zxm ?_; refine gp (r_bool (c := false) (r_nenil rfl (by kernel_rfl)) rfl) ?_; refine gnt (gc_condF rfl rfl ?_); refine gc_skip (gx_then (gsr (zxm ?_))); refine zc (fun _ => ?_) (c := fun w1 F1 F2 h1 h2 hd hst => crash_ok' (d := dZ fA1) (kb := []) h1 (dZ_ok _) RdRow.nil)
 rw [crash_Z]; refine zxs ?_; refine zxm ?_; refine zxm ?_; refine zc ?_ (c := fun w1 F1 F2 h1 h2 hd hst => gopen_S (b := 0) (d := dZ fA1) (sl := ⟨0, 2, bytV sA1⟩) (s := sA1) h1 (dZ_ok _) rfl rfl (gk_opn fA1_gk) (by rw [bytV_len]; decide) (readV_byt (by decide)) (hE.mv hst.still) (hK.mv hst.still))
 rintro ⟨g44, q44⟩
 refine zxm ?_; refine gp zex ?_; refine gp zex ?_; refine zxa ?_; refine zxa ?_; refine gnt (gc_seq (gsr (zxm ?_))); refine gp (r_bool (c := false) (r_nenil rfl (by kernel_rfl)) rfl) ?_; refine zxm ?_; refine gq zmv ?_; refine gq (r_bool (c := false) (r_eqpn rfl Ty.un_33) rfl) ?_; refine gp zpk ?_; refine gnt (gc_condF rfl rfl ?_); refine gc_skip (gx_then (gsr (zxm ?_))); refine gp (zba (cs := dc (digO 2)) (hf := by kernel_rfl)) ?_; refine zc (fun x56 => ?_) (c := fun w1 F1 F2 h1 h2 hd hst => gvote_S (s := sA1) (sl := ⟨0, 2, bytV sA1⟩) (seed := digO 5) (D := digO 2) (e := 1) (r := 1) (q := 0) (gr := 0) (gstep_N (d := dZ fA1) al_v2 (by decide)) h1 (by decide) (dZ_ok _) nat0 (by show (2 : Nat) < _; decide) (hE.mv hst.still) (hK.mv hst.still))
 refine zxm ?_; refine gp zex ?_; refine gp zex ?_; refine zxa ?_; refine zxs ?_; refine zxm ?_; refine zc (fun _ => ?_) (c := fun w1 F1 F2 h1 h2 hd hst => errNum_ok (n := 10) h1 (hN.mv hst.still) (by decide))
 refine gp (r_bool (c := true) zei (decide_eq_true rfl)) ?_; refine zxa ?_; refine gnt (gc_ret (gx_ret1 rfl (by conv => lhs; whnf) ?_)); exact ze ()
theorem begin14_ok {w : World} {F : Nat → Prop} {seed : Dig} {e : Int} (h : stars [] w F) (he : 0 ≤ e ∧ e ≤ 1073741824) {ea : Nat → Addr} {es : List Nat} [Has es 1] [Has es 4] [Has es 6] [Has es 7] [Has es 8] (hE : GErr es w (fun k => ¬ F k) 241 ea) (hK : KR w (fun k => ¬ F k))  :
    Calls Tryz.prog 19 #[.agg (dc seed).toArray, .int .i64 e] w (Post w F (fun x : PX => .tuple #[.pointer (some ⟨x.p, 0, none⟩), .bool true]) (fun x => [blk x.p 59 (plC x (sE e) (.slice none 0 0) (.slice none 0 0)), GdR x.g x.qk x.qs x.gd (sE e) ⟨0, 1, bytV (sE e)⟩, DiskR x.gd (dZ (fE1 e)), KeyR x.qk seed, mapR x.mp []])) := by
 refine g_enter (env := [(0, .agg (dc seed).toArray), (1, .int .i64 e)]) Tryz.func19 rfl h Tryz.ntmps19 rfl rfl ?_; refine gsr (zbN fun b2 => ?_); refine zxa ?_; refine zxa ?_; refine zxs ?_; refine zc (fun g10 => ?_) (c := fun w1 F1 F2 h1 h2 hd hst => new_ok (n := 2) (ea := ea) h1 (by decide) (by decide))
 refine zxm ?_; refine gp zex ?_; refine gp zex ?_; refine zxa ?_; refine zxa ?_; refine gnt (gc_seq (gsr (zxm ?_))); refine gp (r_bool (c := false) (r_nenil rfl (by kernel_rfl)) rfl) ?_; refine gnt (gc_condF rfl rfl ?_); refine gc_skip (gx_then (gsr (zxm ?_))); refine gp zL ?_; refine zc (fun q17 => ?_) (c := fun w1 F1 F2 h1 h2 hd hst => knew_ok (ea := ea) (seed := seed) h1 (hK.mv hst.still))
 refine gl_mkMap (wt0 rfl) (fun g18 => ?_)
 refine zxm ?_; refine gp (zbu (cs := stC (sE e))) ?_; refine gp (zbu (cs := [.pointer (some ⟨g10, 0, none⟩), .pointer (some ⟨q17, 0, none⟩), .pointer none, .int .i64 e, .int .i64 0, .int .i64 0, .int .i64 0, .int .i64 0, .slice none 0 0, .map (some g18), .slice none 0 0])) ?_; refine zbN fun b22 => ?_; refine zxa ?_; refine zxs ?_; refine zxm ?_; refine zxm ?_; refine zxm ?_; refine gp znc ?_; refine gp zfa ?_; refine gp zl ?_; refine zxm ?_; refine zc ?_ (c := fun w1 F1 F2 h1 h2 hd hst => gform_S (b := 0) (e := e) (d := dZ fun _ => sec0) h1 (dZ_ok _) rfl (sE_ok he) (fmt_Z fun _ => sec0) (dZ_ok _) (put_B (by decide)) nat0 (hE.mv hst.still) (hK.mv hst.still))
 rintro ⟨g31, q31⟩
 refine zxm ?_; refine gp zex ?_; refine gp zex ?_; refine gp znc ?_; refine gp zfa ?_; refine zs1 ?_; refine zxa ?_; refine gnt (gc_seq (gc_regionS (by kernel_rfl) (by kernel_rfl) ?_)); refine sp zmv ?_; refine sp zmv ?_; refine sp (r_bool (c := true) (r_eqnil (k := 0) rfl (by kernel_rfl)) rfl) ?_; refine sp zmv ?_; refine sq zmv ?_; refine sq znc ?_; refine sq zfa ?_; refine sq zl ?_; refine sq (r_bool (c := true) (r_nepn rfl Ty.un_33) rfl) ?_; refine sp zpk ?_; refine sp zas ?_; refine sp zas ?_; refine gs_nil ?_; refine gx_then (gc_ret (gx_ret2 rfl (by conv => lhs; whnf) (by conv => lhs; whnf) ?_)); exact fun w' hw => ⟨(⟨b22, g10, q17, q31, g31, g18⟩ : PX), rfl, hw.z⟩
end
section
structure AskV where
  kind : Int
  e : Int
  r : Int
  q : Int
  g : Int
  d : Dig
def askC (a : AskV) : List Value := .int .i64 a.kind :: .int .i64 a.e :: .int .i64 a.r :: .int .i64 a.q :: .int .i64 a.g :: dc a.d
theorem askC_len (a : AskV) : (askC a).length = 21 := by simp [askC, dc_length]
theorem askC_dig (a : AskV) : ((askC a).drop 5).take 16 = dc a.d := List.take_of_length_le (by simp [askC, dc_length])
theorem askC_one (a : AskV) : ∀ v ∈ askC a, v.oneCell' = true := all_cons' rfl (all_cons' rfl (all_cons' rfl (all_cons' rfl (all_cons' rfl (dc_one _)))))
instance {a : AskV} : Len (askC a) 21 := ⟨askC_len a⟩
instance {a : AskV} : One (askC a) := One.of (askC_one a)
def askV (s : VSt) (a : AskV) : VSt × Nat := if a.kind = 1 then voteV s a.e a.r a.q a.g else if a.kind = 2 then lateG s a.e a.r a.q else if a.kind = 3 then propV s a.e a.r else enterV s a.e
def signedV (a : AskV) : Dig := if a.kind = 1 then dOf Kc 7 [beN a.e 8, beN a.r 8, a.d.l] else if a.kind = 2 then dOf Kc 8 [beN a.e 8, beN a.r 8, beN a.q 8] else dOf Kc 9 [a.d.l]
def sgE (a : AskV) (er : Nat) : Nat := if a.kind = 1 ∨ a.kind = 2 ∨ a.kind = 3 then er else 1
theorem askV_ok {s t : VSt} {a : AskV} (hs : s.ok = true) (h : askV s a = (t, 0)) : t.ok = true := by
  unfold askV at h
  split at h
  · exact (voteV_ok h).1
  · split at h
    · exact (lateG_ok h).1
    · split at h
      · exact (propV_ok h).1
      · exact (enterV_ok h).2.1
theorem ask_gk {f : Nat → Sec} {c : Nat} {s : VSt} {a : AskV} (h : GK f c s) (hc : c + 1 < 1000000) :
    ∃ er f' c' s', gstep (dZ f) ⟨0, c, bytV s⟩ s (askV s a) = (er, dZ f', ⟨0, c', bytV s'⟩, s') ∧ GK f' c' s' ∧ c' ≤ c + 1 := by
  by_cases h0 : (askV s a).2 = 0
  · have hr : askV s a = ((askV s a).1, 0) := Prod.ext rfl h0
    have hok := askV_ok h.ok hr
    exact ⟨0, _, c + 1, _, gstep_Z h0 hok h.lt, gk_put h.good hok hc, Nat.le_refl _⟩
  · exact ⟨(askV s a).2, f, c, s, gstep_e h0, h, by omega⟩
def vI (cs : List Value) (i : Nat) : Int := match cs[i]? with | some (.int _ a) => a | _ => 0
theorem run_eqFieldsI {P : Program} {I : TypeId} (hI : P.underlying I = some (.int .i64)) (a b : VSt) (w : World) (d : Nat) : ∀ (fs : List Field), (∀ f ∈ fs, f.name ≠ "_" ∧ f.type = I ∧ f.offset < 5) →
    (Go.Op.eqFields (d + 1) (stC a).toArray (stC b).toArray fs).run P w = .ok (fs.all fun f => decide (vI (stC a) f.offset = vI (stC b) f.offset)) w
  | [], _ => by simp [Go.Op.eqFields]
  | f :: fs, h => by
    obtain ⟨h1, h2, h3⟩ := h f (by simp)
    have ih := run_eqFieldsI hI a b w d fs (fun g hg => h g (by simp [hg]))
    have hr : rowT P f.type = some false := by rw [h2]; simp [rowT, hI]
    have hv : ∀ s : VSt, (stC s)[f.offset]? = some (.int .i64 (vI (stC s) f.offset)) := fun s => by
      have h' : f.offset = 0 ∨ f.offset = 1 ∨ f.offset = 2 ∨ f.offset = 3 ∨ f.offset = 4 := by omega
      rcases h' with e | e | e | e | e <;> rw [e] <;> rfl
    have p1 := run_part1 (P := P) (T := f.type) (off := f.offset) (cs := stC a) hr (hv a) w
    have p2 := run_part1 (P := P) (T := f.type) (off := f.offset) (cs := stC b) hr (hv b) w
    have p3 := run_equalIn_int (P := P) w d f.type .i64 .i64 (vI (stC a) f.offset) (vI (stC b) f.offset) (by rw [h2]; exact hI)
    simp only [Go.Op.eqFields, if_pos h1, Sem.run_bind, p1, p2, p3, Result.andThen_ok, Sem.run_ite]
    by_cases hab : vI (stC a) f.offset = vI (stC b) f.offset
    · simp [hab, ih]
    · simp [hab]
theorem st_dec (a b : VSt) : ([0, 1, 2, 3, 4].all fun i => decide (vI (stC a) i = vI (stC b) i)) = decide (a = b) := by
  cases a; cases b
  simp [vI, stC]
section
variable {P : Program} {w0 : World} {F0 : Nat → Prop} {L : List Res} {n : Fm} {env : Env} {d : Option Tmp} {ty : TypeId} {pos : String} {af : Array Edge} {gd : Option (Nat × Bool)}
theorem run_eqSt {T I : TypeId} (w : World) (a b : VSt) (hu : P.underlying T = some (.struct (P.fieldsOf T))) (hp : P.stoodInHeld T = false) (hI : P.underlying I = some (.int .i64)) (h1 : (P.fieldsOf T).toList.map (fun f => f.offset) = [0, 1, 2, 3, 4]) (h2 : ((P.fieldsOf T).toList.all fun f => !(f.name == "_") && f.type == I) = true) :
    (Go.Op.equalIn 10000 T (.agg (stC a).toArray) (.agg (stC b).toArray)).run P w = .ok (decide (a = b)) w := by
  have hf : ∀ f ∈ (P.fieldsOf T).toList, f.name ≠ "_" ∧ f.type = I ∧ f.offset < 5 := fun f hf => by
    have h3 := List.all_eq_true.1 h2 f hf
    simp only [Bool.and_eq_true, Bool.not_eq_true', beq_eq_false_iff_ne, beq_iff_eq] at h3
    have h4 : f.offset ∈ [0, 1, 2, 3, 4] := by rw [← h1]; exact List.mem_map.2 ⟨f, hf, rfl⟩
    refine ⟨h3.1, h3.2, ?_⟩
    simp at h4; omega
  rw [run_equalIn_struct w 9999 T _ _ hu hp, run_eqFieldsI (d := 9998) hI a b w _ hf, ← st_dec, ← h1, List.all_map]
  rfl
theorem r_eqst {x y : Operand} {T T' I : TypeId} {a b : VSt} (hu : P.underlying T = some (.struct (P.fieldsOf T))) (hp : P.stoodInHeld T = false) (hI : P.underlying I = some (.int .i64)) (h1 : (P.fieldsOf T).toList.map (fun f => f.offset) = [0, 1, 2, 3, 4]) (h2 : ((P.fieldsOf T).toList.all fun f => !(f.name == "_") && f.type == I) = true) (hg : P.eqGuardType P.depth T = false) (hx : ev n env x = .agg (stC a).toArray := by exact rfl) (hy : ev n env y = .agg (stC b).toArray := by exact rfl) :
    Runs P w0 F0 L n env ⟨d, .binOp .eql T x y T', ty, pos, af, gd⟩ (.bool (decide (a = b))) := fun w _ => by
  simp only [execOp, hx, hy, Sem.run_bind, run_eqGuard_agg w _ _ _ _ _ _ hg, Result.andThen_ok, run_eql_struct, run_eqSt w a b hu hp hI h1 h2, Sem.run_pure]
end
theorem vn3_ok {s : VSt} {k : Nat} (hk : k < 3) (h : s.ok = true) : 0 ≤ vn3 s k ∧ vn3 s k ≤ 1099511627776 := by
  have hi := VSt.okI h
  have h' : k = 0 ∨ k = 1 ∨ k = 2 := by omega
  rcases h' with rfl | rfl | rfl <;> simp [vn3] <;> omega
theorem rok_T {s : VSt} (h : ∀ j, j < 3 → 0 ≤ vn3 s j ∧ vn3 s j ≤ 1099511627776) (h1 : 0 ≤ s.e) (h2 : s.e ≤ 1073741824) (h3 : 0 ≤ s.lf) : s.ok = decide (s.lf ≤ 32) := by
  have g0 := h 0 (by decide); have g1 := h 1 (by decide); have g2 := h 2 (by decide)
  simp [vn3] at g0 g1 g2
  rw [Bool.eq_iff_iff, decide_eq_true_eq]
  exact ⟨fun h0 => (VSt.okI h0).2.2.2.2.2, fun h4 => VSt.okM ⟨⟨h1, h2⟩, g0, g1, g2, h3, h4⟩⟩
theorem rok_F {s : VSt} (h : s.ok = true → False) : s.ok = false := by cases h0 : s.ok with
  | false => rfl
  | true => exact (h h0).elim
attribute [local irreducible] Gl Gc Gx Gs Runs Wt
theorem rvright_ok {w : World} {F : Nat → Prop} {s : VSt} (h : stars [] w F) :
    Calls Tryz.prog 24 #[.agg (stC s).toArray] w (Post w F (fun _ : Unit => .bool s.ok) (fun _ => [])) := by
 refine g_enter (env := [(0, .agg (stC s).toArray)]) Tryz.func24 rfl h Tryz.ntmps24 rfl rfl ?_; refine gsr (zbN fun b1 => ?_); refine zxa ?_; refine gnt (gc_seq (gsr (gp zfa ?_))); refine gp zl ?_; refine gp zfa ?_; refine gp zl ?_; refine gp zfa ?_; refine gp zl ?_; refine gl_bsls (vs := [.int .i64 s.v, .int .i64 s.l, .int .i64 s.p]) (wt0 rfl) Ty.sl_52 Ty.sz_3 Ty.zc_3 rfl rfl (all_cons' rfl (all_cons' rfl (all_cons' rfl all_nil'))) rfl rfl rfl ?_; intro b11; refine gp zln ?_; refine zxm ?_; refine gnt (gc_block (gc_loop (α := Nat) (fun k => [pureR (k ≤ 3 ∧ ∀ j, j < k → 0 ≤ vn3 s j ∧ vn3 s j ≤ 1099511627776), rowR 3 1 (some ⟨b11, 0, none⟩) 3 3 [.int .i64 s.v, .int .i64 s.l, .int .i64 s.p], blk b1 42 (stC s)]) (fun k => [(13, .int .i64 (k : Int))]) [2, 4, 14, 15, 16, 17, 18, 19, 20, 21, 22, 23] (fun k => 3 - k) 0 ?_ ?_ ?_))
 ·refine env_start (by kernel_rfl)
 ·exact zlp ⟨Nat.zero_le _, fun j hj => absurd hj (Nat.not_lt_zero _)⟩
 ·intro k u; refine gc_pureR (fun hk => ?_)
  obtain ⟨hk, hall⟩ := hk; replace hk : k ≤ 3 := hk
  refine gsr (gp zlt ?_); refine gnt (gc_seq (gif rfl (fun hc14 => ?_) (fun hc14 => ?_)))
  ·try simp only at hc14
   have hk' : k < 3 := by omega
   refine gc_skip (gx_then (gc_seq (gc_block (gsr (gp (r_val (v' := .pointer (some ⟨b11, 0 + k, none⟩)) zia (by simp)) ?_))))); refine gp (r_ld1r (v := .int .i64 (vn3 s k)) rfl Ty.row_3 (by repeat (first | exact Pick.here | apply Pick.there)) (by have h' : k = 0 ∨ k = 1 ∨ k = 2 := (by omega); rcases h' with rfl | rfl | rfl <;> rfl)) ?_; refine zxa ?_; refine gnt (gc_seq ?_); by_cases hn : vn3 s k < 0
   ·refine gc_region (zxm ?_); refine gp (r_bool (c := true) zlt (decide_eq_true hn)) ?_; refine zxm ?_; refine gn ?_; refine gn ?_; refine gp zpk ?_; refine gnt (gc_condT rfl rfl ?_); refine gsr (zxa ?_); refine gnt (gc_ret (gx_block_ret ?_)); refine gx_then_ret (gx_round_ret ?_); refine gx_block_ret ?_; refine gx_then_ret (gx_ret1 rfl (by conv => lhs; whnf) ?_); have e0 : s.ok = false := rok_F (fun h0 => by have := vn3_ok hk' h0; omega)
    exact fun w' hw => ⟨(), by rw [e0], hw.z⟩
   ·refine gc_region (zxm ?_); refine gp (r_bool (c := false) zlt (decide_eq_false hn)) ?_; refine zxm ?_; refine gq zmv ?_; refine gq zgt ?_; refine gp zpk ?_; refine gnt (gif rfl (fun hc22 => ?_) (fun hc22 => ?_))
    ·try simp only at hc22
     have hb : 1099511627776 < vn3 s k := by simpa using hc22
     refine gsr (zxa ?_); refine gnt (gc_ret (gx_block_ret ?_)); refine gx_then_ret (gx_round_ret ?_); refine gx_block_ret ?_; refine gx_then_ret (gx_ret1 rfl (by conv => lhs; whnf) ?_); have e0 : s.ok = false := rok_F (fun h0 => by have := vn3_ok hk' h0; omega)
     exact fun w' hw => ⟨(), by rw [e0], hw.z⟩
    ·try simp only at hc22
     have hb : ¬ 1099511627776 < vn3 s k := by simpa using hc22
     refine gc_skip (gx_block_normal (gx_then (gc_region (gp zad ?_)))); refine zxm ?_; refine gl_nil (zrd (k + 1) ?_ ?_)
     ·show 3 - (k + 1) < 3 - k
      omega
     ·exact zlp (show k + 1 ≤ 3 ∧ ∀ j, j < k + 1 → 0 ≤ vn3 s j ∧ vn3 s j ≤ 1099511627776 from ⟨by omega, fun j hj => (by by_cases h' : j < k; exact hall j h'; (obtain rfl : j = k := by omega); omega)⟩)
  ·try simp only at hc14
   have hk' : k = 3 := by omega
   subst hk'; refine gc_exit ?_; refine gx_then_exit ?_; refine gx_round_exit ?_; refine gx_block_hit ?_; refine gx_then (gc_seq ?_); by_cases he0 : 0 ≤ s.e
   ·by_cases he1 : s.e ≤ 1073741824
    ·by_cases hl0 : 0 ≤ s.lf
     ·refine gc_region (gp zfa ?_); refine gp zl ?_; refine gp (r_bool (c := true) zge (decide_eq_true he0)) ?_; refine zxm ?_; refine gq zfa ?_; refine gq zl ?_; refine gq (r_bool (c := true) zle (decide_eq_true he1)) ?_; refine gp zpk ?_; refine zxm ?_; refine gq zfa ?_; refine gq zl ?_; refine gq (r_bool (c := true) zge (decide_eq_true hl0)) ?_; refine gp zpk ?_; refine zxm ?_; refine gq zfa ?_; refine gq zl ?_; refine gq zle ?_; refine gp zpk ?_; refine zxa ?_; refine gnt (gc_ret (gx_ret1 rfl (by conv => lhs; whnf) ?_)); exact fun w' hw => ⟨(), by rw [rok_T hall he0 he1 hl0], hw.z⟩
     ·refine gc_region (gp zfa ?_); refine gp zl ?_; refine gp (r_bool (c := true) zge (decide_eq_true he0)) ?_; refine zxm ?_; refine gq zfa ?_; refine gq zl ?_; refine gq (r_bool (c := true) zle (decide_eq_true he1)) ?_; refine gp zpk ?_; refine zxm ?_; refine gq zfa ?_; refine gq zl ?_; refine gq (r_bool (c := false) zge (decide_eq_false hl0)) ?_; refine gp zpk ?_; refine zxm ?_; refine gn ?_; refine gn ?_; refine gn ?_; refine gp zpk ?_; refine zxa ?_; refine gnt (gc_ret (gx_ret1 rfl (by conv => lhs; whnf) ?_)); have e0 : s.ok = false := rok_F (fun h0 => by have := VSt.okI h0; omega)
      exact fun w' hw => ⟨(), by rw [e0], hw.z⟩
    ·refine gc_region (gp zfa ?_); refine gp zl ?_; refine gp (r_bool (c := true) zge (decide_eq_true he0)) ?_; refine zxm ?_; refine gq zfa ?_; refine gq zl ?_; refine gq (r_bool (c := false) zle (decide_eq_false he1)) ?_; refine gp zpk ?_; refine zxm ?_; refine gn ?_; refine gn ?_; refine gn ?_; refine gp zpk ?_; refine zxm ?_; refine gn ?_; refine gn ?_; refine gn ?_; refine gp zpk ?_; refine zxa ?_; refine gnt (gc_ret (gx_ret1 rfl (by conv => lhs; whnf) ?_)); have e0 : s.ok = false := rok_F (fun h0 => by have := VSt.okI h0; omega)
     exact fun w' hw => ⟨(), by rw [e0], hw.z⟩
   ·refine gc_region (gp zfa ?_); refine gp zl ?_; refine gp (r_bool (c := false) zge (decide_eq_false he0)) ?_; refine zxm ?_; refine gn ?_; refine gn ?_; refine gn ?_; refine gp zpk ?_; refine zxm ?_; refine gn ?_; refine gn ?_; refine gn ?_; refine gp zpk ?_; refine zxm ?_; refine gn ?_; refine gn ?_; refine gn ?_; refine gp zpk ?_; refine zxa ?_; refine gnt (gc_ret (gx_ret1 rfl (by conv => lhs; whnf) ?_)); have e0 : s.ok = false := rok_F (fun h0 => by have := VSt.okI h0; omega)
    exact fun w' hw => ⟨(), by rw [e0], hw.z⟩
theorem gstateB_ok {w : World} {F : Nat → Prop} {g qk qs : Nat} {s : VSt} (h : stars [blk g 50 (.pointer (some ⟨qk, 0, none⟩) :: .pointer (some ⟨qs, 0, none⟩) :: stC s)] w F) :
    Calls Tryz.prog 16 #[.pointer (some ⟨g, 0, none⟩)] w (Post w F (fun _ : Unit => .agg (stC s).toArray) (fun _ => [blk g 50 (.pointer (some ⟨qk, 0, none⟩) :: .pointer (some ⟨qs, 0, none⟩) :: stC s)])) := by
 refine g_enter (env := [(0, .pointer (some ⟨g, 0, none⟩))]) Tryz.func16 rfl h Tryz.ntmps16 rfl rfl ?_; refine gsr (zal fun b2 => ?_); refine zxs ?_; refine zxm ?_; refine gp znc ?_; refine gp zfa ?_; refine gp zL ?_; refine zsA (stC_len _) (stC_one _) ?_; refine gnt (gc_ret (gx_retc rfl rfl (ldA Ty.row_45 Ty.sz_45) ?_)); exact ze ()
theorem ask14_ok {w : World} {F : Nat → Prop} {g qk qs gd : Nat} {s : VSt} {sl : SL} {d : DS} {seed : Dig} {a : AskV} {er : Nat} {d' : DS} {sl' : SL} {s' : VSt} (h : stars [GdR g qk qs gd s sl, DiskR gd d, KeyR qk seed] w F) (hg : gstep d sl s (askV s a) = (er, d', sl', s')) (hs : s.ok = true) (hk : DOk d) (hb : 0 ≤ sl.base ∧ sl.base ≤ 4096) (hc : sl.count < 9223372036854775808) {ea : Nat → Addr} {es : List Nat} [Has es 1] [Has es 4] [Has es 5] [Has es 6] [Has es 7] [Has es 8] [Has es 10] [Has es 14] [Has es 15] [Has es 18] (hE : GErr es w (fun k => ¬ F k) 241 ea) (hK : KR w (fun k => ¬ F k))  :
    Calls Tryz.prog 23 #[.pointer (some ⟨g, 0, none⟩), .agg (askC a).toArray] w (Post w F (fun x : (Option Addr × Nat) × (Option Addr × Nat) => .tuple #[.agg (sgV (sgE a er) s.lf.toNat x).toArray, eV 241 ea er]) (fun x => [SgR (sgE a er) x seed s.lf.toNat (signedV a), GdR g qk qs gd s' sl', DiskR gd d', KeyR qk seed])) := by
 refine g_enter (env := [(0, .pointer (some ⟨g, 0, none⟩)), (1, _)]) Tryz.func23 rfl h Tryz.ntmps23 rfl rfl ?_; refine gsr (zbN fun b3 => ?_); refine zal fun b4 => ?_; refine zxa ?_; refine gnt (gc_seq (gsr (gp zfa ?_))); refine gp zl ?_; refine gnt (gc_block (gsr (gp zei ?_))); refine zxa ?_; refine gnt (gif rfl (fun hc8 => ?_) (fun hc8 => ?_))
 ·try simp only at hc8
  have hk1 : a.kind = 1 := by simpa using hc8
  have hv : askV s a = voteV s a.e a.r a.q a.g := if_pos hk1
  rw [hv] at hg; have hge : sgE a er = er := if_pos (.inl hk1)
  have hsg : signedV a = dOf Kc 7 [beN a.e 8, beN a.r 8, a.d.l] := if_pos hk1
  refine gsr (zxm ?_); refine gp zfa ?_; refine gp zl ?_; refine gp zfa ?_; refine gp zl ?_; refine gp zfa ?_; refine gp zl ?_; refine gp zfa ?_; refine gp zl ?_; refine gp zfa ?_; refine gp (zL (sg := dc a.d) (hg := askC_dig a) (hl := dc_length _)) ?_; refine zc (fun x21 => ?_) (c := fun w1 F1 F2 h1 h2 hd hst => gvote_S (D := a.d) (seed := seed) hg h1 hs hk hb hc (hE.mv hst.still) (hK.mv hst.still))
  refine gp zex ?_; refine gp zex ?_; refine zsA (sgV_len _ _ _) (sgV_one _ _ _) ?_; refine zxa ?_; refine gnt (gc_ret (gx_block_ret ?_)); refine gx_then_ret (gx_retct rfl rfl (by conv => lhs; whnf) (ldA Ty.row_63 Ty.sz_63) ?_); exact fun w' hw => ⟨x21, by rw [hge], by dsimp only; rw [hge, hsg]; exact hw.z⟩
 ·try simp only at hc8
  have hk1 : ¬ a.kind = 1 := by simpa using hc8
  refine gsr (gp zei ?_); refine zxa ?_; refine gnt (gif rfl (fun hc24 => ?_) (fun hc24 => ?_))
  ·try simp only at hc24
   have hk2 : a.kind = 2 := by simpa using hc24
   have hv : askV s a = lateG s a.e a.r a.q := by rw [askV, if_neg hk1, if_pos hk2]
   rw [hv] at hg; have hge : sgE a er = er := if_pos (.inr (.inl hk2))
   have hsg : signedV a = dOf Kc 8 [beN a.e 8, beN a.r 8, beN a.q 8] := by rw [signedV, if_neg hk1, if_pos hk2]
   refine gsr (zxm ?_); refine gp zfa ?_; refine gp zl ?_; refine gp zfa ?_; refine gp zl ?_; refine gp zfa ?_; refine gp zl ?_; refine zc (fun x33 => ?_) (c := fun w1 F1 F2 h1 h2 hd hst => glate_S (seed := seed) hg h1 hs hk hb hc (hE.mv hst.still) (hK.mv hst.still))
   refine gp zex ?_; refine gp zex ?_; refine zsA (sgV_len _ _ _) (sgV_one _ _ _) ?_; refine zxa ?_; refine gnt (gc_ret (gx_block_ret ?_)); refine gx_then_ret (gx_retct rfl rfl (by conv => lhs; whnf) (ldA Ty.row_63 Ty.sz_63) ?_); exact fun w' hw => ⟨x33, by rw [hge], by dsimp only; rw [hge, hsg]; exact hw.z⟩
  ·try simp only at hc24
   have hk2 : ¬ a.kind = 2 := by simpa using hc24
   refine gsr (gp zei ?_); refine zxa ?_; refine gnt (gif rfl (fun hc36 => ?_) (fun hc36 => ?_))
   ·try simp only at hc36
    have hk3 : a.kind = 3 := by simpa using hc36
    have hv : askV s a = propV s a.e a.r := by rw [askV, if_neg hk1, if_neg hk2, if_pos hk3]
    rw [hv] at hg; have hge : sgE a er = er := if_pos (.inr (.inr hk3))
    have hsg : signedV a = dOf Kc 9 [a.d.l] := by rw [signedV, if_neg hk1, if_neg hk2]
    refine gsr (zxm ?_); refine gp zfa ?_; refine gp zl ?_; refine gp zfa ?_; refine gp zl ?_; refine gp zfa ?_; refine gp (zL (sg := dc a.d) (hg := askC_dig a) (hl := dc_length _)) ?_; refine zc (fun x45 => ?_) (c := fun w1 F1 F2 h1 h2 hd hst => gprop_S (D := a.d) (seed := seed) hg h1 hs hk hb hc (hE.mv hst.still) (hK.mv hst.still))
    refine gp zex ?_; refine gp zex ?_; refine zsA (sgV_len _ _ _) (sgV_one _ _ _) ?_; refine zxa ?_; refine gnt (gc_ret (gx_block_ret ?_)); refine gx_then_ret (gx_retct rfl rfl (by conv => lhs; whnf) (ldA Ty.row_63 Ty.sz_63) ?_); exact fun w' hw => ⟨x45, by rw [hge], by dsimp only; rw [hge, hsg]; exact hw.z⟩
   ·try simp only at hc36
    have hk3 : ¬ a.kind = 3 := by simpa using hc36
    have hv : askV s a = enterV s a.e := by rw [askV, if_neg hk1, if_neg hk2, if_neg hk3]
    rw [hv] at hg; have hge : sgE a er = 1 := if_neg (by omega)
    refine gc_skip (gx_block_normal (gx_then (gsr (gp (zbu (cs := sgZ)) ?_)))); refine zxm ?_; refine gp zfa ?_; refine gp zl ?_; refine zc (fun _ => ?_) (c := fun w1 F1 F2 h1 h2 hd hst => genter_S hg h1 hs hk hb hc (hE.mv hst.still) (hK.mv hst.still))
    refine zsA (new := sgZ) (m := 3) rfl (sgV_one 1 0 xn) ?_; refine zxa ?_; refine gnt (gc_ret (gx_retct rfl rfl (by conv => lhs; whnf) (ldA Ty.row_63 Ty.sz_63) ?_)); exact fun w' hw => ⟨xn, by dsimp only; rw [hge, sgV_n (by decide)]; rfl, by dsimp only; rw [hge]; exact St.sgN (by decide) (hw.z)⟩
end
end Go.Proofs.YtggjlkheniombaaGreatDoor
