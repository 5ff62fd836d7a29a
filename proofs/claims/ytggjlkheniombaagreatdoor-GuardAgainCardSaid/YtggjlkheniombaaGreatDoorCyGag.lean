/- Part 5. What is proved: see the last part: for every input the law returns true, and the input reads as it did. -/
import Derived.Test.YtggjlkheniombaaGreatDoorCy4
import Derived.Test.YtggjlkheniombaaGreatDoorCards
import Derived.Test.YtggjlkheniombaaGreatDoorTie
import Derived.Deep.DeepHandedRow
import Derived.Deep.DeepWitnessRowRef
namespace Go.Proofs.YtggjlkheniombaaGreatDoor
open Go
set_option linter.unusedVariables false
set_option linter.unusedSimpArgs false
set_option linter.unusedSectionVars false
section
def i64N (n : Int) : Prop := -9223372036854775808 ≤ n ∧ n ≤ 9223372036854775807
structure OpV where
  a : AskV
  kind : Int
  n : Int
  keep : List Bool
def opC (o : OpV) (ak : Option Addr) (nk ck : Nat) : List Value := askC o.a ++ [.int .i64 o.kind, .int .i64 o.n, .slice ak nk ck]
theorem opC_len (o : OpV) (ak : Option Addr) (nk ck : Nat) : (opC o ak nk ck).length = 24 := by rw [opC, List.length_append, askC_len]; rfl
theorem opC_one (o : OpV) (ak : Option Addr) (nk ck : Nat) : ∀ v ∈ opC o ak nk ck, v.oneCell' = true := all_app' (askC_one _) (all_cons' rfl (all_cons' rfl (all_cons' rfl all_nil')))
theorem opC_ask (o : OpV) (ak : Option Addr) (nk ck : Nat) : ((opC o ak nk ck).drop 0).take 21 = askC o.a := by rw [List.drop_zero, opC, List.take_left' (askC_len _)]
def RdOp14 (w : World) (A : Nat → Prop) (cs : List Value) (o : OpV) : Prop := ∃ ak nk ck, cs = opC o ak nk ck ∧ (i64N o.a.kind ∧ i64N o.a.e ∧ i64N o.a.r ∧ i64N o.a.q ∧ i64N o.a.g ∧ i64N o.kind ∧ i64N o.n) ∧ nk ≤ ck ∧ RdRow w A 1 ak nk (o.keep.map Value.bool)
theorem RdOp14.mv {w w' : World} {A A' : Nat → Prop} {cs : List Value} {o : OpV} (h : RdOp14 w A cs o) (hk : Still w A w' A') : RdOp14 w' A' cs o := by
  obtain ⟨a, n, c, h1, h2, h3, h4⟩ := h; exact ⟨a, n, c, h1, h2, h3, h4.mv hk⟩
structure AgS where
  i : Nat
  f : Nat → Sec
  c : Nat
  s : VSt
attribute [local irreducible] Gl Gc Gx Gs Runs Wt
set_option maxHeartbeats 1000000 in
set_option maxRecDepth 20000 in
theorem guardAgain_ok {w : World} {F : Nat → Prop} {seed : Dig} {al : Option Addr} {nl cl : Nat} {xs : List OpV} (h : stars [] w F) {ea : Nat → Addr} (hN : NErr w (fun k => ¬ F k) ea) (hK : KR w (fun k => ¬ F k)) (hl : RdList (RdOp14 w fun k => ¬ F k) w (fun k => ¬ F k) 24 al nl xs) :
    Calls Tryz.prog 6 #[.agg (dc seed).toArray, .slice al nl cl] w (Post w F (fun _ : Unit => .bool true) (fun _ => [])) := by
 have hE := hN.g
 refine g_enter (env := [(0, .agg (dc seed).toArray), (1, .slice al nl cl)]) Tryz.func6 rfl h Tryz.ntmps6 rfl rfl ?_; refine gsr (zbN fun b2 => ?_); refine zxa ?_; refine gnt (gc_seq (gsr (zc (fun _ => ?_) (c := fun w1 F1 F2 h1 h2 hd hst => alive14_ok h1 (hN.mv hst.still) (hK.mv hst.still)))))
 refine gp (r_bool (c := false) znt (rfl)) ?_; refine gnt (gc_condF rfl rfl ?_); refine gc_skip (gx_then (gc_seq (gsr (zxm ?_)))); refine gp zln ?_; refine gp zgt ?_; refine gnt (gif rfl (fun hc17 => ?_) (fun hc17 => ?_))
 ·refine gsr (zxa ?_); refine gnt (gc_ret (gx_then_ret (gx_ret1 rfl (by conv => lhs; whnf) ?_))); exact ze ()
 ·try simp only at hc17
  have hn20 : nl ≤ 20 := by omega
  refine gc_skip (gx_then (gsr (gp zL ?_))); refine zc (fun x => ?_) (c := fun w1 F1 F2 h1 h2 hd hst => begin14_ok (seed := seed) (e := 1) h1 (by decide) (hE.mv hst.still) (hK.mv hst.still))
  refine zxm ?_; refine gp zex ?_; refine gp zex ?_; refine zxa ?_; refine zxa ?_; refine gnt (gc_seq (gsr (zxm ?_))); refine gp (r_bool (c := false) znt (rfl)) ?_; refine gnt (gc_condF rfl rfl ?_); refine gc_skip (gx_then (gc_seq (gsr (zxm ?_)))); refine gp zln ?_; refine zxm ?_; refine gnt (gc_block (gc_loop (α := AgS) (fun y => [pureR (y.i ≤ nl ∧ GK y.f y.c y.s ∧ y.c ≤ y.i + 1), GdR x.g x.qk x.qs x.gd y.s ⟨0, y.c, bytV y.s⟩, DiskR x.gd (dZ y.f), KeyR x.qk seed, blk x.p 59 (plC x (sE 1) (.slice none 0 0) (.slice none 0 0))]) (fun y => [(27, .int .i64 (y.i : Int))]) [8, 28, 29, 30, 31, 32, 33, 34, 35, 36, 37, 38, 39, 40, 41] (fun y => nl - y.i) ⟨0, fE1 1, 1, sE 1⟩ ?_ ?_ ?_))
  ·refine env_start (by kernel_rfl)
  ·exact zlp ⟨Nat.zero_le _, fE1_gk (by decide), Nat.le_refl _⟩
  ·intro y u; obtain ⟨i, f, c, s⟩ := y; refine gc_pureR (fun hk => ?_)
   obtain ⟨hk, hgk, hci⟩ := hk; replace hk : i ≤ nl := hk
   replace hgk : GK f c s := hgk
   replace hci : c ≤ i + 1 := hci
   refine gsr (gp zlt ?_); refine gnt (gc_seq (gif rfl (fun hc28 => ?_) (fun hc28 => ?_)))
   ·try simp only at hc28
    have hk' : i < nl := by omega
    obtain ⟨ga, o, cs, op, ha, hA, _, hra, hcl, hly, hrd⟩ := hl.elem (by decide) hk'; subst ha; obtain ⟨ak, nk, ck, rfl, _, _, _⟩ := hrd; obtain ⟨er, f2, c2, s2, hge, hgk2, hc2⟩ := ask_gk (a := op.a) hgk (by omega); refine gc_skip (gx_then (gc_seq (gc_block (gsr (gp (r_val (v' := .pointer (some ⟨ga, o + i * 24, none⟩)) zia (by simp)) ?_))))); refine gp (r_ldNo (seg := opC op ak nk ck) rfl Ty.row_74 Ty.sz_74 hra hcl (by decide) hA) ?_; refine zal fun b8 => ?_; refine zsA (opC_len _ _ _ _) (opC_one _ _ _ _) ?_; refine gnt (gc_regionH ([blk x.p 59 (plC x (sE 1) (.slice none 0 0) (.slice none 0 0)), blk b8 74 (opC op ak nk ck)]) ?_); refine yp 0 rfl zmv ?_; refine yp 1 rfl znc ?_; refine yp 2 rfl zfa ?_; refine yp 3 rfl zl ?_; refine yp 4 rfl zfa ?_; refine yp 5 rfl (zL (sg := askC op.a) (hg := opC_ask _ _ _ _) (hl := askC_len _)) ?_; refine yo 6 rfl ?_; refine zc (fun x38 => ?_) (c := fun w1 F1 F2 h1 h2 hd hst => ask14_ok (seed := seed) (a := op.a) h1 hge hgk.ok (dZ_ok _) nat0 (by simp only; omega) (hE.mv hst.still) (hK.mv hst.still))
    refine yx ?_; refine yp 7 rfl zmv ?_; refine yp 8 rfl zex ?_; refine yp 9 rfl zex ?_; refine yd ?_; refine gx_block_normal (gx_then (gc_region (gp (r_int (j := ((i + 1 : Nat) : Int)) (zad (i := (i : Int)) (j := 1) (h := wrap_i64 (by omega) (by omega))) (by omega)) ?_))); refine zxm ?_; refine gl_nil (zrd (⟨i + 1, f2, c2, s2⟩) ?_ ?_)
    ·show nl - (i + 1) < nl - i
     omega
    ·exact zlp (show i + 1 ≤ nl ∧ GK f2 c2 s2 ∧ c2 ≤ i + 1 + 1 from ⟨by omega, hgk2, by omega⟩)
   ·refine gc_exit ?_; refine gx_then_exit ?_; refine gx_round_exit ?_; refine gx_block_hit ?_; refine gx_then (gc_seq (gc_regionZ 13 ([blk x.p 59 (plC x (sE 1) (.slice none 0 0) (.slice none 0 0))]) ?_)); refine yps 0 rfl zmv ?_; refine yps 1 rfl znc ?_; refine yps 2 rfl zfa ?_; refine yps 3 rfl zl ?_; refine yps 4 rfl zmv ?_; refine yps 5 rfl znc ?_; refine yps 6 rfl zfa ?_; refine yps 7 rfl zl ?_; refine yos 8 rfl ?_; refine zc ?_ (c := fun w1 F1 F2 h1 h2 hd hst => gopen_S (b := 0) (d := dZ f) (sl := ⟨0, c, bytV s⟩) (s := s) h1 (dZ_ok _) rfl rfl (gk_opn hgk) (by show (bytV s).length ≤ 31; rw [bytV_len]; decide) (readV_byt hgk.ok) (hE.mv hst.still) (hK.mv hst.still))
    rintro ⟨g51, q51⟩
    refine yxs ?_; refine yps 9 rfl zmv ?_; refine yps 10 rfl zex ?_; refine yps 11 rfl zex ?_; refine yps 12 rfl zas ?_; refine yzs rfl ?_; refine zxa ?_; refine gnt (gc_seq (gc_regionZ 13 ([blk x.p 59 (plC x (sE 1) (.slice none 0 0) (.slice none 0 0))]) ?_)); refine yps 0 rfl zmv ?_; refine yps 1 rfl znc ?_; refine yps 2 rfl zfa ?_; refine yps 3 rfl zl ?_; refine yps 4 rfl zmv ?_; refine yps 5 rfl znc ?_; refine yps 6 rfl zfa ?_; refine yps 7 rfl zl ?_; refine yos 8 rfl ?_; refine zc ?_ (c := fun w1 F1 F2 h1 h2 hd hst => gopen_S (b := 0) (d := dZ f) (sl := ⟨0, c, bytV s⟩) (s := s) h1 (dZ_ok _) rfl rfl (gk_opn hgk) (by show (bytV s).length ≤ 31; rw [bytV_len]; decide) (readV_byt hgk.ok) (hE.mv hst.still) (hK.mv hst.still))
    rintro ⟨g63, q63⟩
    refine yxs ?_; refine yps 9 rfl zmv ?_; refine yps 10 rfl zex ?_; refine yps 11 rfl zex ?_; refine yps 12 rfl zas ?_; refine yzs rfl ?_; refine zxa ?_; refine gnt (gc_seq (gc_gd (by repeat (first | exact Pick.here | apply Pick.there)) ?_)); refine gc_gd (by repeat (first | exact Pick.here | apply Pick.there)) ?_; refine gc_gd (by repeat (first | exact Pick.here | apply Pick.there)) ?_; refine gc_regionZ 47 ([blk x.p 59 (plC x (sE 1) (.slice none 0 0) (.slice none 0 0)), blk x.g 50 (.pointer (some ⟨x.qk, 0, none⟩) :: .pointer (some ⟨x.qs, 0, none⟩) :: stC s), blk g51 50 (.pointer (some ⟨x.qk, 0, none⟩) :: .pointer (some ⟨q51, 0, none⟩) :: stC s), blk g63 50 (.pointer (some ⟨x.qk, 0, none⟩) :: .pointer (some ⟨q63, 0, none⟩) :: stC s)]) ?_; refine yps 0 rfl zmv ?_; refine yps 1 rfl (r_bool (c := true) (r_eqnil (k := 0) rfl (by kernel_rfl)) rfl) ?_; refine yps 2 rfl zmv ?_; refine yps 3 rfl zmv ?_; refine yps 4 rfl (r_bool (c := true) (r_eqnil (k := 0) rfl (by kernel_rfl)) rfl) ?_; refine yps 5 rfl zpk ?_; refine yps 6 rfl zmv ?_; refine yps 7 rfl zmv ?_; refine yps 9 rfl zmv ?_; refine yps 10 rfl znc ?_; refine yps 11 rfl zfa ?_; refine yps 12 rfl zl ?_; refine yos 8 rfl ?_; refine zc (fun _ => ?_) (c := fun w1 F1 F2 h1 h2 hd hst => gstateB_ok h1)
    refine yxs ?_; refine yos 13 rfl ?_; refine zc (fun _ => ?_) (c := fun w1 F1 F2 h1 h2 hd hst => gstateB_ok h1)
    refine yxs ?_; refine yps 14 rfl (r_bool (c := true) (r_eqst (Tryz.underlying45) (by kernel_rfl) (I := 3) Ty.un_3 (by kernel_rfl) (by kernel_rfl) (by kernel_rfl)) (decide_eq_true rfl)) ?_; refine yps 15 rfl zpk ?_; refine yps 16 rfl zmv ?_; refine yps 17 rfl zmv ?_; refine yps 19 rfl zmv ?_; refine yps 20 rfl znc ?_; refine yps 21 rfl zfa ?_; refine yps 22 rfl zl ?_; refine yos 18 rfl ?_; refine zc (fun _ => ?_) (c := fun w1 F1 F2 h1 h2 hd hst => gstateB_ok h1)
    refine yxs ?_; refine yos 23 rfl ?_; refine zc (fun _ => ?_) (c := fun w1 F1 F2 h1 h2 hd hst => gstateB_ok h1)
    refine yxs ?_; refine yps 24 rfl (r_bool (c := true) (r_eqst (Tryz.underlying45) (by kernel_rfl) (I := 3) Ty.un_3 (by kernel_rfl) (by kernel_rfl) (by kernel_rfl)) (decide_eq_true rfl)) ?_; refine yps 25 rfl zpk ?_; refine yps 26 rfl zmv ?_; refine yps 27 rfl zmv ?_; refine yps 28 rfl znc ?_; refine yps 29 rfl zfa ?_; refine yps 30 rfl zl ?_; refine yps 32 rfl zmv ?_; refine yps 33 rfl znc ?_; refine yps 34 rfl zfa ?_; refine yps 35 rfl zl ?_; refine yps 36 rfl znc ?_; refine yps 37 rfl zfa ?_; refine yps 38 rfl zl ?_; refine yos 31 rfl ?_; refine zc (fun _ => ?_) (c := fun w1 F1 F2 h1 h2 hd hst => kroot_ok h1)
    refine yxs ?_; refine yos 39 rfl ?_; refine zc (fun _ => ?_) (c := fun w1 F1 F2 h1 h2 hd hst => kroot_ok h1)
    refine yxs ?_; refine yps 40 rfl (r_bool (c := true) zed (decide_eq_true rfl)) ?_; refine yps 41 rfl zpk ?_; refine yps 42 rfl zmv ?_; refine yps 43 rfl zmv ?_; refine yos 44 rfl ?_; refine zc (fun _ => ?_) (c := fun w1 F1 F2 h1 h2 hd hst => gstateB_ok h1)
    refine yxs ?_; refine yos 45 rfl ?_; refine zc (fun _ => ?_) (c := fun w1 F1 F2 h1 h2 hd hst => rvright_ok (s := s) h1)
    rw [hgk.ok]; refine yxs ?_; refine yps 46 rfl zpk ?_; refine yzs rfl ?_; refine zxa ?_; refine gnt (gc_ret (gx_ret1 rfl (by conv => lhs; whnf) ?_)); exact ze ()
end
section
section
variable {H : Type} {enc : TypeId × Value → H} {w : World} {base : Nat} {sp : Nat → Bool} {held : Bool}
def RdAsk14 (cs : List Value) (a : AskV) : Prop := cs = askC a ∧ (i64N a.kind ∧ i64N a.e ∧ i64N a.r ∧ i64N a.q ∧ i64N a.g)
theorem o_ask14 : Opens enc Tryz.prog w base sp held 72 RdAsk14 := fun fuel cs x h => by
  have hl := opens_lenT (i := 0) (f := 3) (o := 0) (s := 21) (by kernel_rfl) (by kernel_rfl) h
  obtain ⟨n0, h0, i0⟩ := opens_fieldT (i := 0) (f := 3) (o := 0) (s := 1) (by kernel_rfl) (by kernel_rfl) (opens_i64 Ty.un_3) h
  obtain ⟨n1, h1, i1⟩ := opens_fieldT (i := 1) (f := 3) (o := 1) (s := 1) (by kernel_rfl) (by kernel_rfl) (opens_i64 Ty.un_3) h
  obtain ⟨n2, h2, i2⟩ := opens_fieldT (i := 2) (f := 3) (o := 2) (s := 1) (by kernel_rfl) (by kernel_rfl) (opens_i64 Ty.un_3) h
  obtain ⟨n3, h3, i3⟩ := opens_fieldT (i := 3) (f := 3) (o := 3) (s := 1) (by kernel_rfl) (by kernel_rfl) (opens_i64 Ty.un_3) h
  obtain ⟨n4, h4, i4⟩ := opens_fieldT (i := 4) (f := 3) (o := 4) (s := 1) (by kernel_rfl) (by kernel_rfl) (opens_i64 Ty.un_3) h
  obtain ⟨d5, h5⟩ := opens_fieldT (i := 5) (f := 32) (o := 5) (s := 16) (by kernel_rfl) (by kernel_rfl) o_dig h
  have e0 := seg cs 0 1
  have e1 := seg cs 1 1
  have e2 := seg cs 2 1
  have e3 := seg cs 3 1
  have e4 := seg cs 4 1
  have e5 := seg cs 5 16
  have ee := drop_all hl
  have e : cs = _ := (List.drop_zero (l := cs)).symm.trans e0
  simp only [Nat.reduceAdd, Nat.zero_add] at e e1 e2 e3 e4 e5
  rw [h0, e1, h1, e2, h2, e3, h3, e4, h4, e5, show (List.take 16 (List.drop 5 cs)) = dc d5 from h5, ee] at e
  exact ⟨⟨n0, n1, n2, n3, n4, d5⟩, by rw [e]; simp [askC], i0, i1, i2, i3, i4⟩
theorem o_op14 : Opens enc Tryz.prog w base sp held 74 (RdOp14 w TT) := fun fuel cs x h => by
  have hl := opens_lenT (i := 0) (f := 72) (o := 0) (s := 24) (by kernel_rfl) (by kernel_rfl) h
  obtain ⟨a, h0, j0, j1, j2, j3, j4⟩ := opens_fieldT (i := 0) (f := 72) (o := 0) (s := 21) (by kernel_rfl) (by kernel_rfl) o_ask14 h
  obtain ⟨n1, h1, i1⟩ := opens_fieldT (i := 1) (f := 3) (o := 21) (s := 1) (by kernel_rfl) (by kernel_rfl) (opens_i64 Ty.un_3) h
  obtain ⟨n2, h2, i2⟩ := opens_fieldT (i := 2) (f := 3) (o := 22) (s := 1) (by kernel_rfl) (by kernel_rfl) (opens_i64 Ty.un_3) h
  obtain ⟨l3, a3, m3, c3, h3, k3, r3⟩ := opens_fieldT (i := 3) (f := 67) (o := 23) (s := 1) (by kernel_rfl) (by kernel_rfl) o_rbools h
  have e0 := seg cs 0 21
  have e1 := seg cs 21 1
  have e2 := seg cs 22 1
  have e3 := seg cs 23 1
  have ee := drop_all hl
  have e : cs = _ := (List.drop_zero (l := cs)).symm.trans e0
  simp only [Nat.reduceAdd, Nat.zero_add] at e e1 e2 e3
  rw [h0, e1, h1, e2, h2, e3, h3, ee] at e
  exact ⟨⟨a, n1, n2, l3⟩, a3, m3, c3, by rw [e]; simp [opC], ⟨j0, j1, j2, j3, j4, i1, i2⟩, k3, r3⟩
def RdOps14 (w : World) (A : Nat → Prop) (cs : List Value) (l : List OpV) : Prop := ∃ a n c, cs = [.slice a n c] ∧ n ≤ c ∧ RdList (RdOp14 w A) w A 24 a n l
theorem o_ops14 : Opens enc Tryz.prog w base sp held 70 (RdOps14 w TT) := opens_slice (s := 24) Ty.sl_70 Ty.sz_74 (by decide) o_op14
theorem ops14_list {a : Option Addr} {n c : Nat} {l : List OpV} (h : RdOps14 w TT [.slice a n c] l) : RdList (RdOp14 w TT) w TT 24 a n l := by
  obtain ⟨a', n', c', e, _, hr⟩ := h
  injection e with e _
  injection e with e1 e2 e3
  subst e1; subst e2
  exact hr
end
end
section
open Go.ChangeShapes Go.WideShapes Go.ChangeAt Go.RowKit
noncomputable def guardAgain_world (os : Os) : World :=
  let w0 := World.holding Tryz.prog os ⟨#[.cells #[.string ⟨#[113, 117, 111, 114, 97, 116, 101, 58, 32, 114, 97, 110, 103, 101]⟩] 266, .cells #[.string ⟨#[113, 117, 111, 114, 97, 116, 101, 58, 32, 115, 104, 111, 114, 116]⟩] 266, .cells #[.string ⟨#[113, 117, 111, 114, 97, 116, 101, 58, 32, 108, 111, 110, 103]⟩] 266, .cells #[.string ⟨#[113, 117, 111, 114, 97, 116, 101, 58, 32, 102, 111, 114, 109]⟩] 266, .cells #[.string ⟨#[113, 117, 111, 114, 97, 116, 101, 58, 32, 115, 112, 101, 110, 116]⟩] 266, .cells #[.string ⟨#[113, 117, 111, 114, 97, 116, 101, 58, 32, 112, 111, 119, 101, 114]⟩] 266, .cells #[.string ⟨#[113, 117, 111, 114, 97, 116, 101, 58, 32, 100, 105, 115, 107]⟩] 266, .cells #[.string ⟨#[113, 117, 111, 114, 97, 116, 101, 58, 32, 102, 117, 108, 108]⟩] 266, .cells #[.string ⟨#[113, 117, 111, 114, 97, 116, 101, 58, 32, 110, 111, 110, 101]⟩] 266, .cells #[.string ⟨#[113, 117, 111, 114, 97, 116, 101, 58, 32, 111, 108, 100]⟩] 266, .cells #[.string ⟨#[113, 117, 111, 114, 97, 116, 101, 58, 32, 115, 101, 116]⟩] 266, .cells #[.string ⟨#[113, 117, 111, 114, 97, 116, 101, 58, 32, 112, 114, 111, 111, 102]⟩] 266, .cells #[.string ⟨#[113, 117, 111, 114, 97, 116, 101, 58, 32, 108, 101, 97, 100, 101, 114]⟩] 266, .cells #[.string ⟨#[113, 117, 111, 114, 97, 116, 101, 58, 32, 114, 111, 117, 110, 100]⟩] 266, .cells #[.string ⟨#[113, 117, 111, 114, 97, 116, 101, 58, 32, 117, 110, 115, 97, 102, 101]⟩] 266, .cells #[.string ⟨#[113, 117, 111, 114, 97, 116, 101, 58, 32, 112, 97, 114, 101, 110, 116]⟩] 266, .cells #[.string ⟨#[113, 117, 111, 114, 97, 116, 101, 58, 32, 116, 119, 105, 99, 101]⟩] 266, .cells #[.string ⟨#[113, 117, 111, 114, 97, 116, 101, 58, 32, 101, 112, 111, 99, 104]⟩] 266], #[], []⟩
  { w0 with heap := ((((((((((((((((((w0.heap.modify 0 fun
      | .cells _ t fz => .cells #[.iface 241 (.pointer (some ⟨lowB + 0, 0, none⟩))] t fz
      | o => o).modify 2 fun
      | .cells _ t fz => .cells #[.iface 241 (.pointer (some ⟨lowB + 1, 0, none⟩))] t fz
      | o => o).modify 3 fun
      | .cells _ t fz => .cells #[.iface 241 (.pointer (some ⟨lowB + 2, 0, none⟩))] t fz
      | o => o).modify 4 fun
      | .cells _ t fz => .cells #[.iface 241 (.pointer (some ⟨lowB + 3, 0, none⟩))] t fz
      | o => o).modify 5 fun
      | .cells _ t fz => .cells #[.iface 241 (.pointer (some ⟨lowB + 4, 0, none⟩))] t fz
      | o => o).modify 6 fun
      | .cells _ t fz => .cells #[.iface 241 (.pointer (some ⟨lowB + 5, 0, none⟩))] t fz
      | o => o).modify 1 fun
      | .cells _ t fz => .cells #[.iface 241 (.pointer (some ⟨lowB + 6, 0, none⟩))] t fz
      | o => o).modify 7 fun
      | .cells _ t fz => .cells #[.iface 241 (.pointer (some ⟨lowB + 7, 0, none⟩))] t fz
      | o => o).modify 8 fun
      | .cells _ t fz => .cells #[.iface 241 (.pointer (some ⟨lowB + 8, 0, none⟩))] t fz
      | o => o).modify 9 fun
      | .cells _ t fz => .cells #[.iface 241 (.pointer (some ⟨lowB + 9, 0, none⟩))] t fz
      | o => o).modify 10 fun
      | .cells _ t fz => .cells #[.iface 241 (.pointer (some ⟨lowB + 10, 0, none⟩))] t fz
      | o => o).modify 11 fun
      | .cells _ t fz => .cells #[.iface 241 (.pointer (some ⟨lowB + 11, 0, none⟩))] t fz
      | o => o).modify 12 fun
      | .cells _ t fz => .cells #[.iface 241 (.pointer (some ⟨lowB + 12, 0, none⟩))] t fz
      | o => o).modify 13 fun
      | .cells _ t fz => .cells #[.iface 241 (.pointer (some ⟨lowB + 13, 0, none⟩))] t fz
      | o => o).modify 14 fun
      | .cells _ t fz => .cells #[.iface 241 (.pointer (some ⟨lowB + 14, 0, none⟩))] t fz
      | o => o).modify 15 fun
      | .cells _ t fz => .cells #[.iface 241 (.pointer (some ⟨lowB + 15, 0, none⟩))] t fz
      | o => o).modify 16 fun
      | .cells _ t fz => .cells #[.iface 241 (.pointer (some ⟨lowB + 16, 0, none⟩))] t fz
      | o => o).modify 17 fun
      | .cells _ t fz => .cells #[.iface 241 (.pointer (some ⟨lowB + 17, 0, none⟩))] t fz
      | o => o).modify 18 fun
      | .cells _ t fz => .cells (kc.map W32).toArray t fz
      | o => o }
def guardAgain_args : Array Value := #[.agg (dc dig0).toArray, .slice none 0 0]
theorem guardAgain_laid (os : Os) (args : Array Value) : laidMet Tryz.prog Rows.guardAgainRow.laid ((guardAgain_world os).forCall (fun _ _ => 0) ⟨#[], args, []⟩).memory :=
  laidMet_of_run' 8 (by kernel_rfl) (by kernel_rfl)
theorem guardAgain_reads (os : Os) {H : Type} (enc : TypeId × Value → H) : ∃ places, DataW.whole enc Tryz.prog ((guardAgain_world os).forCall (fun _ _ => 0) ⟨#[], guardAgain_args, []⟩).memory Tryz.f6.params.toList Rows.guardAgainSpec.vars false guardAgain_args.toList 8 = some ([digD, .nil], [], places) :=
  ⟨[], by kernel_rfl⟩
set_option maxRecDepth 20000 in
theorem guardAgain_contract (H : Type) (enc : TypeId × Value → H) (W : World) (base : Nat) (args : Array Value) (ds gs : List (DataW H)) (before : List MemPlace)
    (hval : ∀ (j : Nat) t v, Tryz.f6.params[j]? = some t → args[j]? = some v → Value.okWide Tryz.prog W .any base t v)
    (hW : DataW.Whole enc Tryz.prog Tryz.f6.params.toList Rows.guardAgainSpec.vars false W args.toList ds gs before) (hL : laidMetH Tryz.prog Rows.guardAgainRow.laid W) :
    Calls Tryz.prog 6 args W fun e W' => ∃ v, e = .returned v ∧ Rows.guardAgainSpec.post enc Tryz.prog Tryz.f6 false true false false W args v W' := by
  have hW' := hW
  have hlt : ∀ p ∈ before, p.block < W.heap.size := fun p hp => hW.lt p hp
  obtain ⟨p, q, hA0, hV, rfl, hfz, hnd⟩ := hW
  have hA : DataW.TrodAll enc Tryz.prog W 0 (fun _ => true) true Tryz.f6.params.toList args.toList ds p := hA0
  rw [Tryz.params6] at hA hval
  obtain ⟨v0, vs0, d0, ds0, p0, q0, hargs, rfl, rfl, h0, r0⟩ := trodAll_cons hA
  obtain ⟨v1, vs1, d1, ds1, p1, q1, rfl, rfl, rfl, h1, r1⟩ := trodAll_cons r0
  obtain ⟨rfl, rfl, rfl⟩ := trodAll_nil r1
  obtain rfl : args = #[v0, v1] := by cases args; simp_all
  obtain ⟨rfl, rfl⟩ := trodVars_none hV
  obtain ⟨x0, hx0⟩ : ∃ x, RdDig v0.cells.toList x := by obtain ⟨fuel, hf⟩ := h0; exact o_dig fuel _ _ hf
  have e0 := agg_of_len (n := 16) (by rw [show v0.cells.toList = dc x0 from hx0]; exact dc_length _) (by decide)
  rw [show v0.cells.toList = dc x0 from hx0] at e0
  obtain ⟨a1, m1, c1, rfl⟩ := okWide_slice (run_sliceT Ty.sl_70) (hval 1 70 v1 rfl rfl)
  obtain ⟨x1, hx1⟩ : ∃ x, RdOps14 W TT [.slice a1 m1 c1] x := by obtain ⟨fuel, hf⟩ := h1; exact o_ops14 fuel _ _ hf
  have hL' : laidMet Tryz.prog Rows.guardAgainRow.laid W := hL
  obtain ⟨ea, hN⟩ := laid_nerr (r := [("quorate/hash.constants", Rows.laid_quorate_hash_constants)]) (show laidMet Tryz.prog (errNames.map errRow ++ [("quorate/hash.constants", Rows.laid_quorate_hash_constants)]) W from hL')
  have hK := laid_kr hL'.tail.tail.tail.tail.tail.tail.tail.tail.tail.tail.tail.tail.tail.tail.tail.tail.tail.tail
  have walk := guardAgain_ok (seed := x0) (cl := c1) no_res hN hK (RdList.mv (ops14_list hx1) still_id fun _ _ h => h.mv still_id)
  rw [← e0] at walk
  refine Calls.mono (show Calls Tryz.prog 6 #[v0, .slice a1 m1 c1] W _ from walk) fun e W' ⟨_, he, hs⟩ => ?_
  subst he
  have bel := below_of hs
  have eF : Rows.guardAgainSpec.fn H ([d0, d1] ++ []) = { results := [.lit (.bool true)], args := [d0, d1] } := rfl
  have l0 : ∀ z ∈ p0, z.block < W.heap.size := fun z hz => hlt z (by simp [hz])
  have l1 : ∀ z ∈ p1, z.block < W.heap.size := fun z hz => hlt z (by simp [hz])
  refine ⟨_, rfl, _, _, _, [], p0 ++ (p1 ++ ([])), [], hW', ?_, ?_, ?_, bel.frame _, fun h => by cases h⟩
  · rw [eF]; exact trodAll_cons_mk (shut_bool Tryz.underlying4 _) trodAll_mk0
  · rw [eF, Tryz.params6]
    exact trodAll_cons_mk (Below.trod laidOut (by kernel_rfl) (of_decide_eq_true (by kernel_rfl)) h0 bel l0) (trodAll_cons_mk (Below.trod laidOut (by kernel_rfl) (of_decide_eq_true (by kernel_rfl)) h1 bel l1) (trodAll_mk0))
  · rw [eF]; rfl
set_option maxRecDepth 100000 in
theorem guardAgain_lifted (os : Os) (started : os.Started) (H : Type) (enc : TypeId × Value → H) (F : Stop.Interp) :
    ReturnsInHanded {} Tryz.checked os 6 .any ((OpenSpec.ofChange Rows.guardAgainSpec).preRow enc Tryz.prog Tryz.f6 Rows.guardAgainRow.domain false Rows.guardAgainRow.laid) (((OpenSpec.ofChange Rows.guardAgainSpec).at F).post enc Tryz.prog Tryz.f6 false true false false) := by
  obtain ⟨places, hx⟩ := guardAgain_reads os enc
  refine returnsInHanded_of_row (C := Tryz.checked) (s := OpenSpec.ofChange Rows.guardAgainSpec) own started (by kernel_rfl) Tryz.func6
    (witness_row_atRef (enc := enc) (C := Tryz.checked) false (guardAgain_world os) guardAgain_args rfl (by kernel_rfl) (by kernel_rfl) (by kernel_rfl)
      (OpenSpec.preRow_of_cond 8 hx (by kernel_rfl) (fun k hk => by cases hk) (by kernel_rfl) (guardAgain_laid os _))) ?_
  intro W base args ds gs before hval hW _ _ _ hL _ _
  exact guardAgain_contract H enc W base args ds gs before hval hW hL
theorem and_tt {a b : Bool} (h : a = true) (k : b = true) : (a && b) = true := by rw [h, k]; rfl
theorem guardAgain_k0 : (Rows.guardAgainRow.wf (OpenSpec.ofChange (OpenSpec.ofChange Rows.guardAgainSpec).bare)) = true := by kernel_rfl
theorem guardAgain_k1 : (laidOutB Tryz.pinned.checked.prog) = true := by kernel_rfl
theorem guardAgain_k2 : (mapsRowed Tryz.pinned.checked.prog) = true := by kernel_rfl
theorem guardAgain_k3 : (Tryz.f6.params.all (Tryz.pinned.checked.prog.readableRec ·)) = true := by kernel_rfl
theorem guardAgain_k4 : (namedTie Tryz.pinned.checked.prog Rows.guardAgainRow.named (OpenSpec.ofChange Rows.guardAgainSpec).bare.vars) = true := by kernel_rfl
theorem guardAgain_k5 : ((Rows.guardAgainRow.stops == [])) = true := by kernel_rfl
theorem guardAgain_k6 : ((Tryz.pinned.checked.prog.stops == [])) = true := by kernel_rfl
theorem guardAgain_k7 : ((Rows.guardAgainRow.knobs == [])) = true := by kernel_rfl
theorem guardAgain_k8 : ((Tryz.pinned.checked.prog.stopKnobs == [])) = true := by kernel_rfl
theorem guardAgain_k9 : ((Rows.guardAgainRow.inPlace == Tryz.pinned.checked.prog.inPlace 6)) = true := by kernel_rfl
theorem guardAgain_k10 : ((Rows.guardAgainRow.unfollowed == Tryz.pinned.checked.prog.unfollowed 6)) = true := by kernel_rfl
theorem guardAgain_k11 : ((Rows.guardAgainRow.recurses == Tryz.pinned.checked.prog.recurses 6)) = true := by kernel_rfl
theorem guardAgain_k12 : ((Rows.guardAgainRow.named == Tryz.pinned.checked.prog.varsNamed 6)) = true := by kernel_rfl
theorem guardAgain_k13 : ((Rows.guardAgainRow.maps == (Tryz.f6.params.toList ++ (OpenSpec.ofChange Rows.guardAgainSpec).bare.plain.varTypes Tryz.pinned.checked.prog).any (Tryz.pinned.checked.prog.mapsRec ·))) = true := by kernel_rfl
theorem guardAgain_k14 : ((Rows.guardAgainRow.ifaces == (Tryz.f6.params.toList ++ (OpenSpec.ofChange Rows.guardAgainSpec).bare.plain.varTypes Tryz.pinned.checked.prog).any (Tryz.pinned.checked.prog.ifacesRec ·))) = true := by kernel_rfl
theorem guardAgain_k15 : ((Rows.guardAgainRow.mapsOut == Tryz.pinned.checked.prog.mapsAmong Tryz.f6.resultTypes.toList)) = true := by kernel_rfl
theorem guardAgain_k16 : ((Rows.guardAgainRow.loops == (Tryz.f6.params.toList ++ (OpenSpec.ofChange Rows.guardAgainSpec).bare.plain.varTypes Tryz.pinned.checked.prog).any (Tryz.pinned.checked.prog.loopsFrom ·))) = true := by kernel_rfl
theorem guardAgain_k17 : ((Rows.guardAgainRow.wideKeys == (Tryz.f6.params.toList ++ (OpenSpec.ofChange Rows.guardAgainSpec).bare.plain.varTypes Tryz.pinned.checked.prog ++ Tryz.f6.resultTypes.toList).any (Tryz.pinned.checked.prog.wideKeysFrom ·))) = true := by kernel_rfl
theorem guardAgain_k18 : ((OpenSpec.ofChange Rows.guardAgainSpec).bare.vars.all (Tryz.pinned.checked.prog.varReadable ·)) = true := by kernel_rfl
theorem guardAgain_k19 : (Tryz.f6.resultTypes.all (fun t => Tryz.pinned.checked.prog.readableRec t && decide (t < Tryz.pinned.checked.prog.types.size))) = true := by kernel_rfl
theorem guardAgain_k20 : ((Rows.guardAgainRow.ifacesOut == Tryz.f6.resultTypes.toList.any (Tryz.pinned.checked.prog.ifacesRec ·))) = true := by kernel_rfl
theorem guardAgain_k21 : ((Rows.guardAgainRow.loopsOut == Tryz.f6.resultTypes.toList.any (Tryz.pinned.checked.prog.loopsFrom ·))) = true := by kernel_rfl
theorem guardAgain_k22 : ((Rows.guardAgainRow.plainKeys == Tryz.pinned.checked.prog.plainKeys)) = true := by kernel_rfl
theorem guardAgain_k23 : (Rows.guardAgainRow.shortTexts.isNone) = true := by kernel_rfl
theorem guardAgain_k24 : (Tryz.pinned.checked.prog.stopsHeard) = true := by kernel_rfl
theorem guardAgain_k25 : (Tryz.pinned.checked.prog.mayEnter) = true := by kernel_rfl
theorem guardAgain_k26 : ((Rows.guardAgainRow.lifted == Tryz.pinned.checked.prog.liftsFinal)) = true := by kernel_rfl
theorem guardAgain_k27 : ((Tryz.pinned.checked.prog.make == some Rows.guardAgainRow.make)) = true := by kernel_rfl
theorem guardAgain_k28 : ((Rows.guardAgainRow.kinds == (if Rows.guardAgainRow.domain.isEmpty then [] else Tryz.f6.params.toList.map fun t => match Tryz.pinned.checked.prog.underlying t with | some (.int k) => some k | _ => none))) = true := by kernel_rfl
theorem guardAgain_k29 : ((Rows.guardAgainRow.pinned == Rows.guardAgainRow.pinnedBy)) = true := by kernel_rfl
theorem guardAgain_k30 : ((Rows.guardAgainRow.veiled == (Tryz.f6.params.toList ++ (OpenSpec.ofChange Rows.guardAgainSpec).bare.plain.varTypes Tryz.pinned.checked.prog ++ Tryz.f6.resultTypes.toList).any (Tryz.pinned.checked.prog.veiledRec ·))) = true := by kernel_rfl
theorem guardAgain_k31 : (Rows.guardAgainRow.veiledFits Tryz.pinned.checked.prog Tryz.f6.params.toList (Tryz.f6.params.toList ++ (OpenSpec.ofChange Rows.guardAgainSpec).bare.plain.varTypes Tryz.pinned.checked.prog ++ Tryz.f6.resultTypes.toList)) = true := by kernel_rfl
set_option maxRecDepth 100000 in
theorem guardAgain_facts : joinedFacts Tryz.pinned.checked.prog 6 Tryz.f6 (OpenSpec.ofChange Rows.guardAgainSpec).bare Rows.guardAgainRow = true := (and_tt (and_tt (and_tt (and_tt (and_tt (and_tt (and_tt (and_tt (and_tt (and_tt (and_tt (and_tt (and_tt (and_tt (and_tt (and_tt (and_tt (and_tt (and_tt (and_tt (and_tt (and_tt (and_tt (and_tt (and_tt (and_tt (and_tt (and_tt (and_tt (and_tt (and_tt guardAgain_k0 guardAgain_k1) guardAgain_k2) guardAgain_k3) guardAgain_k4) guardAgain_k5) guardAgain_k6) guardAgain_k7) guardAgain_k8) guardAgain_k9) guardAgain_k10) guardAgain_k11) guardAgain_k12) guardAgain_k13) guardAgain_k14) guardAgain_k15) guardAgain_k16) guardAgain_k17) guardAgain_k18) guardAgain_k19) guardAgain_k20) guardAgain_k21) guardAgain_k22) guardAgain_k23) guardAgain_k24) guardAgain_k25) guardAgain_k26) guardAgain_k27) guardAgain_k28) guardAgain_k29) guardAgain_k30) guardAgain_k31)
theorem guardAgain_said : Rows.GuardAgainSaid :=
  OpenClaim.holds_of_cond 6 Tryz.f6 rfl rfl rfl rfl rfl rfl rfl ⟨rfl, rfl, rfl, rfl, rfl⟩ rfl rfl rfl rfl rfl (by kernel_rfl) Tryz.func6 guardAgain_facts
    (of_decide_eq_true (by kernel_rfl)) (by unfold Func.isWrapper; first | (rw [if_pos (by decide +kernel)]; kernel_rfl) | (rw [if_neg (by decide +kernel)]; exact ⟨rfl, rfl⟩))
    (fun os started H enc _ F => by rw [OpenClaim.pre_eq_preRow]; exact guardAgain_lifted os started H enc F)
theorem guardAgain_plain (f : FuncId) (fn : Func) (hf : Tryz.pinned.checked.prog.funcNamed "quorate/quoratelaw14.GuardAgain" = some f) (hfn : Tryz.pinned.checked.prog.funcs[f]? = some fn) :
    true = Tryz.pinned.checked.prog.looks [] ∧ ∀ (j : Nat) t, fn.params[j]? = some t → Tryz.pinned.checked.prog.wantsStandIn t = false := by
  obtain rfl : f = 6 := Option.some.inj ((show Tryz.prog.funcNamed "quorate/quoratelaw14.GuardAgain" = some 6 by kernel_rfl).symm.trans hf) |>.symm
  obtain rfl : fn = Tryz.f6 := (Option.some.inj (Tryz.func6.symm.trans hfn)).symm
  refine ⟨by kernel_rfl, fun j t ht => ?_⟩
  rw [Tryz.params6] at ht
  have hm := Array.mem_of_getElem? ht
  have h : t = 32 ∨ t = 70 := by simpa using hm
  rcases h with rfl | rfl
  · exact (show Tryz.prog.wantsStandIn 32 = false by kernel_rfl)
  · exact (show Tryz.prog.wantsStandIn 70 = false by kernel_rfl)
theorem guardAgain_holds : Rows.GuardAgainCardSaid :=
  Claim7.holds_tied_plain_at .later [] _ _ _ _ guardAgain_said (fun _ h => by cases h) (by kernel_rfl) (fun _ h => by cases h) guardAgain_row_tie rfl ⟨rfl, rfl⟩ (by kernel_rfl) rfl guardAgain_plain (by kernel_rfl)
#print axioms guardAgain_holds
end
end Go.Proofs.YtggjlkheniombaaGreatDoor
