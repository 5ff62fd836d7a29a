/- Part 4. What is proved: see the last part: for every input the law returns true, and the input reads as it did. -/
import Derived.Test.YtomdanlljfikaaaGreatDoorCe3
import Derived.RangeFuncLeaves
import Derived.RangeFuncRecord
import Derived.RangeFuncSeq
namespace Go.Proofs.YtomdanlljfikaaaGreatDoor
open Go
set_option linter.unusedVariables false
set_option linter.unusedSimpArgs false
set_option linter.unusedSectionVars false
set_option maxHeartbeats 400000
section
instance : KeyT Tryz.prog 3 (Value.int .i64) := keyT_int Ty.un_3
def DiskR (g : Nat) (d : DS) : Res := exR fun p : Nat × Nat => allR [blk g 78 [.slice (some ⟨p.1, 0, none⟩) d.n d.n, .map (some p.2), .bool d.off, .bool d.armed, .int .i64 d.left], blk p.1 54 (secs d.n d.ss), mapR p.2 (encK (Value.int .i64) (encW d.ws))]
section
variable {w0 w : World} {F F0 : Nat → Prop} {g : Nat} {d : DS} {L : List Res} {Q : Exit → Act → World → Prop} {n : Fm} {env : Env} {ops : Array Oper} {rest : List Oper}
theorem dk_open (h : stars (DiskR g d :: L) w F) : ∃ b m, stars (blk g 78 [.slice (some ⟨b, 0, none⟩) d.n d.n, .map (some m), .bool d.off, .bool d.armed, .int .i64 d.left] :: blk b 54 (secs d.n d.ss) :: mapR m (encK (Value.int .i64) (encW d.ws)) :: L) w F := by
  obtain ⟨⟨a, c⟩, h⟩ := stars_ex h
  exact ⟨a, c, stars_all h⟩
theorem St.dk {b m n : Nat} {off armed : Bool} {left : Int} {cs : List Value} {l : List (Value × Value)} (h : St w0 F0 (blk g 78 [.slice (some ⟨b, 0, none⟩) n n, .map (some m), .bool off, .bool armed, .int .i64 left] :: blk b 54 cs :: mapR m l :: L) w)
    (h1 : n = d.n) (h2 : off = d.off) (h3 : armed = d.armed) (h4 : left = d.left) (h5 : cs = secs d.n d.ss) (h6 : l = encK (Value.int .i64) (encW d.ws)) : St w0 F0 (DiskR g d :: L) w := by
  subst h1; subst h2; subst h3; subst h4; subst h5; subst h6
  obtain ⟨F, hF, hst⟩ := h
  exact ⟨F, stars_ex_mk (b, m) (stars_all_mk hF), hst⟩
theorem gc_dk {c : Code} {L' : List Res} (hp : Pick L (DiskR g d) L') (k : ∀ b m, Gc Tryz.prog w0 F0 (blk g 78 [.slice (some ⟨b, 0, none⟩) d.n d.n, .map (some m), .bool d.off, .bool d.armed, .int .i64 d.left] :: blk b 54 (secs d.n d.ss) :: mapR m (encK (Value.int .i64) (encW d.ws)) :: L') c Q n env) : Gc Tryz.prog w0 F0 L c Q n env := fun w hw => by
  obtain ⟨F, hF, hst⟩ := hw.pick hp
  obtain ⟨b, m, h⟩ := dk_open hF
  exact k b m w ⟨F, h, hst⟩
theorem gl_dk {L' : List Res} (hp : Pick L (DiskR g d) L') (k : ∀ b m, Gl Tryz.prog w0 F0 (blk g 78 [.slice (some ⟨b, 0, none⟩) d.n d.n, .map (some m), .bool d.off, .bool d.armed, .int .i64 d.left] :: blk b 54 (secs d.n d.ss) :: mapR m (encK (Value.int .i64) (encW d.ws)) :: L') ops Q rest n env) : Gl Tryz.prog w0 F0 L ops Q rest n env := fun w hw => by
  obtain ⟨F, hF, hst⟩ := hw.pick hp
  obtain ⟨b, m, h⟩ := dk_open hF
  exact k b m w ⟨F, h, hst⟩
variable {dd : Option Tmp} {ty : TypeId} {pos : String} {af : Array Edge} {gd : Option (Nat × Bool)}
theorem r_lookW {x y : Operand} {m : Nat} {ws : List (Int × Sec)} {L' : List Res} {i : Int} (hx : ev n env x = .map (some m)) (hy : ev n env y = .int .i64 i) (hp : Pick L (mapR m (encK (Value.int .i64) (encW ws))) L') :
    Runs Tryz.prog w0 F0 L n env ⟨dd, .lookup 76 x y true, ty, pos, af, gd⟩ (.tuple #[scV ((lookW i ws).getD sec0), .bool (lookW i ws).isSome]) :=
  r_val (r_look (K := Value.int .i64) (z := scV sec0) (key := i) hx hy Ty.un_76 (by kernel_rfl) hp) (by rw [encW_get]; cases lookW i ws <;> rfl)
theorem r_lookW1 {x y : Operand} {m : Nat} {ws : List (Int × Sec)} {L' : List Res} {i : Int} (hx : ev n env x = .map (some m)) (hy : ev n env y = .int .i64 i) (hp : Pick L (mapR m (encK (Value.int .i64) (encW ws))) L') :
    Runs Tryz.prog w0 F0 L n env ⟨dd, .lookup 76 x y false, ty, pos, af, gd⟩ (scV ((lookW i ws).getD sec0)) :=
  r_val (r_look (K := Value.int .i64) (z := scV sec0) (key := i) hx hy Ty.un_76 (by kernel_rfl) hp) (by rw [encW_get]; cases lookW i ws <;> rfl)
end
attribute [local irreducible] Gl Gc Gx Gs Runs Wt
theorem new_ok {w : World} {F : Nat → Prop} {n : Nat} {ea : Nat → Addr} (h : stars [] w F) (h1 : 1 ≤ n) (h2 : n ≤ 4096) :
    Calls Tryz.prog 6 #[.int .i64 (n : Int)] w (Post w F (fun g : Nat => .tuple #[.pointer (some ⟨g, 0, none⟩), eV 261 ea 0]) (fun g => [DiskR g ⟨n, fun _ => sec0, [], false, false, 0⟩])) := by
 refine g_enter (env := [(0, .int .i64 (n : Int))]) Tryz.func6 rfl h Tryz.ntmps6 rfl rfl ?_; refine gsr (zxa ?_); refine zxa ?_; refine gnt (gc_seq (gsr (zxm ?_))); refine gp (r_bool (c := false) zlt (decide_eq_false (by omega))) ?_; refine zxm ?_; refine gq zmv ?_; refine gq (r_bool (c := false) zgt (decide_eq_false (by omega))) ?_; refine gp zpk ?_; refine gnt (gc_condF rfl rfl ?_); refine gc_skip (gx_then (gsr (zxm ?_))); refine gl_mkN (m := n) (z := .agg (List.replicate 64 (Value.int .u8 0)).toArray) (wt0 rfl) ELT.h (by kernel_rfl) rfl rfl (by omega) (by omega) (by omega) (fun b12 => ?_)
 refine gl_eqc (cs' := secs n fun _ => sec0) (by repeat (first | exact Pick.here | apply Pick.there)) (madeCells_secs n) ?_; refine gl_mkMap (wt0 rfl) (fun m13 => ?_)
 refine gp zbu ?_; refine zbN fun b15 => ?_; refine zxa ?_; refine zxa ?_; refine gnt (gc_ret (gx_ret2 rfl (by conv => lhs; whnf) (by conv => lhs; whnf) ?_)); exact fun w' hw => ⟨b15, by rw [eV_zero], St.dk (n := n) (b := b12) (m := m13) (hw.z) rfl rfl rfl rfl rfl rfl⟩
theorem has_ok {w : World} {F : Nat → Prop} {g : Nat} {d : DS} (h : stars [DiskR g d] w F) {i : Int} :
    Calls Tryz.prog 38 #[.pointer (some ⟨g, 0, none⟩), .int .i64 i] w (Post w F (fun _ : Unit => .bool (d.has i)) (fun _ => [DiskR g d])) := by
 obtain ⟨b, m, h⟩ := dk_open h; refine g_enter (env := [(0, .pointer (some ⟨g, 0, none⟩)), (1, .int .i64 i)]) Tryz.func38 rfl h Tryz.ntmps38 rfl rfl ?_; refine gsr (zxa ?_); refine gnt (gc_seq ?_); by_cases hi : 0 ≤ i
 ·refine gc_region (zxm ?_); refine gp (r_bool (c := true) zge (decide_eq_true hi)) ?_; refine zxm ?_; refine gq zmv ?_; refine gq zmv ?_; refine gq znc ?_; refine gq zfa ?_; refine gq zl ?_; refine gq zln ?_; refine gq zlt ?_; refine gp zpk ?_; refine zxa ?_; refine gnt (gc_ret (gx_ret1 rfl (by conv => lhs; whnf) ?_)); exact fun w' hw => ⟨(), by rw [DS.has, decide_eq_true hi, Bool.true_and], St.dk (hw.z) rfl rfl rfl rfl rfl rfl⟩
 ·refine gc_region (zxm ?_); refine gp (r_bool (c := false) zge (decide_eq_false hi)) ?_; refine zxm ?_; refine gn ?_; refine gn ?_; refine gn ?_; refine gn ?_; refine gn ?_; refine gn ?_; refine gn ?_; refine gp zpk ?_; refine zxa ?_; refine gnt (gc_ret (gx_ret1 rfl (by conv => lhs; whnf) ?_)); exact fun w' hw => ⟨(), by rw [DS.has, decide_eq_false hi, Bool.false_and], St.dk (hw.z) rfl rfl rfl rfl rfl rfl⟩
theorem operate_ok {w : World} {F : Nat → Prop} {g : Nat} {d : DS} (h : stars [DiskR g d] w F) (hk : DOk d) {ea : Nat → Addr} {es : List Nat} [Has es 1] [Has es 6] (hE : GErr es w (fun k => ¬ F k) 261 ea) :
    Calls Tryz.prog 39 #[.pointer (some ⟨g, 0, none⟩)] w (Post w F (fun _ : Unit => eV 261 ea (if (oper d).off then 6 else 0)) (fun _ => [DiskR g (oper d)])) := by
 obtain ⟨b, m, h⟩ := dk_open h; refine g_enter (env := [(0, .pointer (some ⟨g, 0, none⟩))]) Tryz.func39 rfl h Tryz.ntmps39 rfl rfl ?_; refine gsr (zxa ?_); refine gnt (gc_join (α := Unit) (fun z => [blk g 78 [.slice (some ⟨b, 0, none⟩) d.n d.n, .map (some m), .bool (oper d).off, .bool (oper d).armed, .int .i64 (oper d).left], blk b 54 (secs d.n d.ss), mapR m (encK (Value.int .i64) (encW d.ws))]) (fun z => []) [3, 4, 5, 6, 7, 8, 9, 10, 11, 12, 13, 14, 15, 16, 17, 18, 19, 20, 21, 22, 23, 24, 25, 26, 27, 28] ?_ ?_)
 ·refine gc_seq ?_; by_cases hA : d.armed = true
  ·refine gc_region (zxm ?_); refine gp znc ?_; refine gp zfa ?_; refine gp (r_bool (c := true) zl hA) ?_; refine zxm ?_; refine gq zmv ?_; refine gq znc ?_; refine gq zfa ?_; refine gq zl ?_; refine gq znt ?_; refine gp zpk ?_; refine gnt (gif rfl (fun hc13 => ?_) (fun hc13 => ?_))
   ·try simp only at hc13
    have ho : d.off = false := by simpa using hc13
    have hl := hk.lf hA ho
    have hrg := hk.rg
    refine gsr (zxm ?_); refine zxm ?_; refine gp znc ?_; refine gp zfa ?_; refine gp zl ?_; refine gp zei ?_; refine gp znc ?_; refine gp zfa ?_; refine zs1 ?_; refine gnt (gc_region (zxm ?_)); refine gp znc ?_; refine gp zfa ?_; refine gp zl ?_; refine gp zsb ?_; refine gp znc ?_; refine gp zfa ?_; refine zs1 ?_; refine gl_nil (zjn (()) ?_)
    ·rw [(oper_yes hA ho).1, (oper_yes hA ho).2.1, (oper_yes hA ho).2.2]; exact zsel
   ·try simp only at hc13
    have ho : d.off = true := by simpa using hc13
    refine gc_skip (zjn (()) ?_)
    ·rw [oper_no (.inr ho)]; exact zsel
  ·refine gc_region (zxm ?_); refine gp znc ?_; refine gp zfa ?_; refine gp (r_bool (c := false) zl (by simpa using hA)) ?_; refine zxm ?_; refine gn ?_; refine gn ?_; refine gn ?_; refine gn ?_; refine gn ?_; refine gp zpk ?_; refine gnt (gc_condF rfl rfl ?_); refine gc_skip (zjn (()) ?_)
   ·rw [oper_no (.inl (by simpa using hA))]; exact zsel
 ·intro z u; refine gc_seq (gsr (zxm ?_)); refine gp znc ?_; refine gp zfa ?_; refine gp zl ?_; refine gnt (gif rfl (fun hc32 => ?_) (fun hc32 => ?_))
  ·refine gsr (gp (r_ld1o rfl Ty.row_27 (hE.c 6 Has.h) (hE.n 6 Has.h)) ?_); refine zxa ?_; refine gnt (gc_ret (gx_then_ret (gx_ret1 rfl (by conv => lhs; whnf) ?_))); exact fun w' hw => ⟨(), by rw [if_pos hc32], St.dk (n := d.n) (hw.z) (oper_n d).symm rfl rfl rfl (by rw [oper_n, oper_ss]) (by rw [oper_ws])⟩
  ·refine gc_skip (gx_then (gsr (zxa ?_))); refine gnt (gc_ret (gx_ret1 rfl (by conv => lhs; whnf) ?_)); exact fun w' hw => ⟨(), by rw [if_neg (by simpa using hc32), eV_zero], St.dk (n := d.n) (hw.z) (oper_n d).symm rfl rfl rfl (by rw [oper_n, oper_ss]) (by rw [oper_ws])⟩
theorem write_ok' {w : World} {F : Nat → Prop} {g : Nat} {d : DS} (h : stars [DiskR g d] w F) (hk : DOk d) {ea : Nat → Addr} {es : List Nat} [Has es 1] [Has es 6] (hE : GErr es w (fun k => ¬ F k) 261 ea) {i : Int} {v : Sec} :
    Calls Tryz.prog 13 #[.pointer (some ⟨g, 0, none⟩), .int .i64 i, scV v] w (Post w F (fun _ : Unit => eV 261 ea (d.wr i v).1) (fun _ => [DiskR g (d.wr i v).2])) := by
 refine g_enter (env := [(0, .pointer (some ⟨g, 0, none⟩)), (1, .int .i64 i), (2, scV v)]) Tryz.func13 rfl h Tryz.ntmps13 rfl rfl ?_; refine gsr (zbN fun b5 => ?_); refine zxa ?_; refine gnt (gc_seq (gsr (zxm ?_))); refine zxm ?_; refine zc (fun _ => ?_) (c := fun w1 F1 F2 h1 h2 hd hst => has_ok (i := i) h1)
 refine gp znt ?_; refine gnt (gif rfl (fun hc11 => ?_) (fun hc11 => ?_))
 ·try simp only at hc11
  have hi : d.has i = false := hc11
  have e := wr_out (v := v) hi
  refine gsr (gp (r_ld1o rfl Ty.row_27 (hE.c 1 Has.h) (hE.n 1 Has.h)) ?_); refine zxa ?_; refine gnt (gc_ret (gx_then_ret (gx_ret1 rfl (by conv => lhs; whnf) ?_))); exact fun w' hw => ⟨(), by rw [e], by rw [e]; exact hw.z⟩
 ·try simp only at hc11
  have hi : d.has i = true := hc11
  refine gc_skip (gx_then (gc_seq (gsr (zxm ?_)))); refine zc (fun _ => ?_) (c := fun w1 F1 F2 h1 h2 hd hst => operate_ok h1 hk (hE.mv hst.still))
  refine zxa ?_; refine zxs ?_; refine zxm ?_; refine gp (r_bool (c := (oper d).off) (r_nenil rfl (by kernel_rfl)) (by cases (oper d).off <;> rfl)) ?_; refine gnt (gif rfl (fun hc16 => ?_) (fun hc16 => ?_))
  ·try simp only at hc16
   have e := wr_off (v := v) hi hc16
   refine gsr (zxm ?_); refine zxa ?_; refine gnt (gc_ret (gx_then_ret (gx_ret1 rfl (by conv => lhs; whnf) ?_))); exact fun w' hw => ⟨(), by rw [e, if_pos hc16], by rw [e]; exact hw.z⟩
  ·try simp only at hc16
   have e := wr_on (v := v) hi hc16
   refine gc_dk (by repeat (first | exact Pick.here | apply Pick.there)) (fun b m => ?_)
   refine gc_skip (gx_then (gc_seq (gc_regionT 6 (by kernel_rfl) (by kernel_rfl) ?_))); refine sp zmv ?_; refine sp znc ?_; refine sp zfa ?_; refine sp zl ?_; refine sp zmv ?_; refine sp zL ?_; refine gs_nil ?_; refine gl_put (K := Value.int .i64) (v := scV v) (wt0 rfl) rfl rfl rfl Ty.un_76 (by repeat (first | exact Pick.here | apply Pick.there)) ?_; refine zxs ?_; refine zxa ?_; refine gnt (gc_ret (gx_ret1 rfl (by conv => lhs; whnf) ?_)); exact fun w' hw => ⟨(), by rw [e, eV_zero], by rw [e]; exact St.dk (d := (oper d).write i v) (hw.z) rfl rfl rfl rfl rfl (by rw [encW_put]; rfl)⟩
theorem read_ok {w : World} {F : Nat → Prop} {g : Nat} {d : DS} (h : stars [DiskR g d] w F) {ea : Nat → Addr} {es : List Nat} [Has es 1] [Has es 6] (hE : GErr es w (fun k => ¬ F k) 261 ea) {i : Int} :
    Calls Tryz.prog 12 #[.pointer (some ⟨g, 0, none⟩), .int .i64 i] w (Post w F (fun _ : Unit => .tuple #[scV (d.rd i).2, eV 261 ea (d.rd i).1]) (fun _ => [DiskR g d])) := by
 refine g_enter (env := [(0, .pointer (some ⟨g, 0, none⟩)), (1, .int .i64 i)]) Tryz.func12 rfl h Tryz.ntmps12 rfl rfl ?_; refine gsr (zal fun b4 => ?_); refine zxa ?_; refine gnt (gc_seq (gc_block (gsr (zxm ?_)))); refine zxm ?_; refine zc (fun _ => ?_) (c := fun w1 F1 F2 h1 h2 hd hst => has_ok (i := i) h1)
 refine gp znt ?_; refine zxa ?_; refine gnt (gif rfl (fun hc8 => ?_) (fun hc8 => ?_))
 ·try simp only at hc8
  have e := rd_out (i := i) hc8
  refine gc_seq (gc_regionZ 3 [] ?_); refine yps 0 rfl zba ?_; refine yps 1 rfl (r_ld1o rfl Ty.row_27 (hE.c 1 Has.h) (hE.n 1 Has.h)) ?_; refine yos 2 rfl ?_; refine zsA (new := sc (sec0)) (sc_length _) (sc_one _) ?_; refine yxs ?_; refine yzs rfl ?_; refine zxa ?_; refine gnt (gc_ret (gx_block_ret ?_)); refine gx_then_ret (gx_retct rfl rfl (by conv => lhs; whnf) (ldA Ty.row_54 Ty.sz_54) ?_); exact fun w' hw => ⟨(), by rw [e]; rfl, hw.z⟩
 ·try simp only at hc8
  have hi : d.has i = true := hc8
  obtain ⟨hi0, hi1⟩ := has_iff.1 hi; refine gc_dk (by repeat (first | exact Pick.here | apply Pick.there)) (fun b m => ?_)
  refine gsr (zxm ?_); refine gp znc ?_; refine gp zfa ?_; refine gp zl ?_; refine zxa ?_; refine gnt (gif rfl (fun hc15 => ?_) (fun hc15 => ?_))
  ·try simp only at hc15
   have e := rd_off hi hc15
   refine gc_seq (gc_regionZ 3 [] ?_); refine yps 0 rfl zba ?_; refine yps 1 rfl (r_ld1o rfl Ty.row_27 (hE.c 6 Has.h) (hE.n 6 Has.h)) ?_; refine yos 2 rfl ?_; refine zsA (new := sc (sec0)) (sc_length _) (sc_one _) ?_; refine yxs ?_; refine yzs rfl ?_; refine zxa ?_; refine gnt (gc_ret (gx_block_ret ?_)); refine gx_then_ret (gx_retct rfl rfl (by conv => lhs; whnf) (ldA Ty.row_54 Ty.sz_54) ?_); exact fun w' hw => ⟨(), by rw [e]; rfl, St.dk (hw.z) rfl rfl rfl rfl rfl rfl⟩
  ·refine gc_skip (gx_block_normal (gx_then (gc_seq (gsr (zxm ?_))))); refine gp znc ?_; refine gp zfa ?_; refine gp zl ?_; refine zxm ?_; refine gp (r_lookW rfl rfl (by repeat (first | exact Pick.here | apply Pick.there))) ?_; refine zxm ?_; refine gp zex ?_; refine gp zex ?_; refine zal fun b6 => ?_; refine zsA (new := sc ((lookW i d.ws).getD sec0)) (sc_length _) (sc_one _) ?_; refine zxa ?_; refine zxs ?_; refine zxm ?_; refine gnt (gif rfl (fun hc31 => ?_) (fun hc31 => ?_))
   ·try simp only at hc31
    have e := rd_some hi hc15 hc31
    refine gsr (gp zL ?_); refine zsA (new := sc ((lookW i d.ws).getD sec0)) (sc_length _) (sc_one _) ?_; refine zxa ?_; refine gnt (gc_ret (gx_then_ret (gx_retct rfl rfl (by conv => lhs; whnf) (ldA Ty.row_54 Ty.sz_54) ?_))); exact fun w' hw => ⟨(), by rw [e, eV_zero]; rfl, St.dk (hw.z) rfl rfl rfl rfl rfl rfl⟩
   ·try simp only at hc31
    have e := rd_none hi hc15 hc31
    refine gc_skip (gx_then (gsr (zxm ?_))); refine gp znc ?_; refine gp zfa ?_; refine gp zl ?_; refine zxm ?_; refine gp zia ?_; refine gp (r_ldS (m := d.n) (f := d.ss) i.toNat (by omega)) ?_; refine zsA (new := sc (d.ss i.toNat)) (sc_length _) (sc_one _) ?_; refine zxa ?_; refine gnt (gc_ret (gx_retct rfl rfl (by conv => lhs; whnf) (ldA Ty.row_54 Ty.sz_54) ?_)); exact fun w' hw => ⟨(), by rw [e, eV_zero]; rfl, St.dk (hw.z) rfl rfl rfl rfl rfl rfl⟩
theorem arm_ok {w : World} {F : Nat → Prop} {g : Nat} {d : DS} (h : stars [DiskR g d] w F) {n : Int} :
    Calls Tryz.prog 22 #[.pointer (some ⟨g, 0, none⟩), .int .i64 n] w (Post w F (fun _ : Unit => .tuple #[]) (fun _ => [DiskR g { d with armed := decide (0 ≤ n), left := n }])) := by
 obtain ⟨b, m, h⟩ := dk_open h; refine g_enter (env := [(0, .pointer (some ⟨g, 0, none⟩)), (1, .int .i64 n)]) Tryz.func22 rfl h Tryz.ntmps22 rfl rfl ?_; refine gc_region (zxm ?_); refine zxm ?_; refine zxm ?_; refine gp zge ?_; refine zxm ?_; refine gp znc ?_; refine gp zfa ?_; refine zs1 ?_; refine gp znc ?_; refine gp zfa ?_; refine zs1 ?_; refine gl_nil (gx_ret0' rfl ?_); exact fun w' hw => ⟨(), rfl, St.dk (hw.z) rfl rfl rfl rfl rfl rfl⟩
theorem off_ok {w : World} {F : Nat → Prop} {g : Nat} {d : DS} (h : stars [DiskR g d] w F) :
    Calls Tryz.prog 21 #[.pointer (some ⟨g, 0, none⟩)] w (Post w F (fun _ : Unit => .bool d.off) (fun _ => [DiskR g d])) := by
 obtain ⟨b, m, h⟩ := dk_open h; refine g_enter (env := [(0, .pointer (some ⟨g, 0, none⟩))]) Tryz.func21 rfl h Tryz.ntmps21 rfl rfl ?_; refine gsr (zxa ?_); refine zxs ?_; refine zxm ?_; refine gp znc ?_; refine gp zfa ?_; refine gp zl ?_; refine zxa ?_; refine gnt (gc_ret (gx_ret1 rfl (by conv => lhs; whnf) ?_)); exact fun w' hw => ⟨(), rfl, St.dk (hw.z) rfl rfl rfl rfl rfl rfl⟩
theorem size_ok {w : World} {F : Nat → Prop} {g : Nat} {d : DS} (h : stars [DiskR g d] w F) :
    Calls Tryz.prog 48 #[.pointer (some ⟨g, 0, none⟩)] w (Post w F (fun _ : Unit => .int .i64 d.n) (fun _ => [DiskR g d])) := by
 obtain ⟨b, m, h⟩ := dk_open h; refine g_enter (env := [(0, .pointer (some ⟨g, 0, none⟩))]) Tryz.func48 rfl h Tryz.ntmps48 rfl rfl ?_; refine gsr (zxa ?_); refine zxs ?_; refine zxm ?_; refine gp znc ?_; refine gp zfa ?_; refine gp zl ?_; refine gp zln ?_; refine zxa ?_; refine gnt (gc_ret (gx_ret1 rfl (by conv => lhs; whnf) ?_)); exact fun w' hw => ⟨(), rfl, St.dk (hw.z) rfl rfl rfl rfl rfl rfl⟩
end
section
attribute [local irreducible] Gl Gc Gx Gs Runs Wt
theorem unsynced_ok {w : World} {F : Nat → Prop} {g : Nat} {d : DS} (h : stars [DiskR g d] w F) (hk : DOk d) :
    Calls Tryz.prog 52 #[.pointer (some ⟨g, 0, none⟩)] w (Post w F (fun r : Option Addr × Nat => .slice r.1 d.ws.length r.2) (fun r => [rowR 3 1 r.1 d.ws.length r.2 ((sortZ (keysW d.ws)).map (Value.int .i64)), DiskR g d])) := by
 obtain ⟨b, m, h⟩ := dk_open h; refine g_enter (env := [(0, .pointer (some ⟨g, 0, none⟩))]) Tryz.func52 rfl h Tryz.ntmps52 rfl rfl ?_; refine gsr (zxa ?_); refine zxs ?_; refine zxm ?_; refine gp znc ?_; refine gp zfa ?_; refine gp zl ?_; refine zc (fun b7 => ?_) (c := fun w1 F1 F2 h1 h2 hd hst => keys_ok (m := m) h1)
 refine zc ?_ (c := fun w1 F1 F2 h1 h2 hd hst => sortedK_ok (l := encW d.ws) h1 (by rw [encW_keys]; exact hk.nd) (encW_range hk) (encW_len hk))
 rintro ⟨a8, c8⟩
 rw [encW_keys]; rw [show (encW d.ws).length = d.ws.length from List.length_map _]; refine zxa ?_; refine gnt (gc_ret (gx_ret1 rfl (by conv => lhs; whnf) ?_)); exact fun w' hw => ⟨(a8, c8), rfl, (St.dk (L := [rowR 3 1 a8 d.ws.length c8 ((sortZ (keysW d.ws)).map (Value.int .i64))]) (hw.z) rfl rfl rfl rfl rfl rfl).z⟩
theorem sync_ok' {w : World} {F : Nat → Prop} {g : Nat} {d : DS} (h : stars [DiskR g d] w F) (hk : DOk d) {ea : Nat → Addr} {es : List Nat} [Has es 1] [Has es 6] (hE : GErr es w (fun k => ¬ F k) 261 ea) :
    Calls Tryz.prog 27 #[.pointer (some ⟨g, 0, none⟩)] w (Post w F (fun _ : Unit => eV 261 ea (if (oper d).off then 6 else 0)) (fun _ => [DiskR g d.syncd])) := by
 refine g_enter (env := [(0, .pointer (some ⟨g, 0, none⟩))]) Tryz.func27 rfl h Tryz.ntmps27 rfl rfl ?_; refine gsr (zxa ?_); refine gnt (gc_seq (gsr (zxm ?_))); refine zc (fun _ => ?_) (c := fun w1 F1 F2 h1 h2 hd hst => operate_ok h1 hk (hE.mv hst.still))
 refine zxa ?_; refine zxs ?_; refine zxm ?_; refine gp (r_bool (c := (oper d).off) (r_nenil rfl (by kernel_rfl)) (by cases (oper d).off <;> rfl)) ?_; refine gnt (gif rfl (fun hc9 => ?_) (fun hc9 => ?_))
 ·refine gsr (zxm ?_); refine zxa ?_; refine gnt (gc_ret (gx_then_ret (gx_ret1 rfl (by conv => lhs; whnf) ?_))); exact fun w' hw => ⟨(), by rw [if_pos hc9], by rw [DS.syncd, if_pos hc9]; exact hw.z⟩
 ·try simp only at hc9
  have hk2 := oper_ok hk
  have ed : d.syncd = (oper d).sync := by rw [DS.syncd, if_neg (by rw [hc9]; decide)]
  generalize hd2 : oper d = d2 at *
  refine gc_dk (by repeat (first | exact Pick.here | apply Pick.there)) (fun b m => ?_)
  refine gc_skip (gx_then (gc_seq (gsr (zxm ?_)))); refine gp znc ?_; refine gp zfa ?_; refine gp zl ?_; refine gl_range (wt0 rfl) rfl Ty.un_76 (by repeat (first | exact Pick.here | apply Pick.there)) (fun r => ?_)
  refine gnt (gc_block (gc_loop (α := List (Int × Sec) × (Nat → Sec) × Option (Value × Value)) (fun q => [pureR (SyncInv d2 q.1 q.2.1), blk g 78 [.slice (some ⟨b, 0, none⟩) d2.n d2.n, .map (some m), .bool d2.off, .bool d2.armed, .int .i64 d2.left], blk b 54 (secs d2.n q.2.1), itR r m (encK (Value.int .i64) (encW d2.ws)) (encK (Value.int .i64) (encW q.1)) q.2.2]) (fun q => []) [4, 5, 16, 17, 18, 19, 20, 21, 22, 23, 24, 25, 26, 27] (fun q => q.1.length) (d2.ws, d2.ss, none) ?_ ?_ ?_))
  ·refine env_start (by kernel_rfl)
  ·exact zlp (SyncInv.start d2)
  ·intro q u; obtain ⟨lw, f, la⟩ := q; refine gc_pureR (fun hi => ?_)
   replace hi : SyncInv d2 lw f := hi
   refine gsr (gl_nextO (wt0 rfl) rfl (by repeat (first | exact Pick.here | apply Pick.there)) (fun o16 h16 => ?_))
   rcases o16 with _ | ⟨A', p, B'⟩
   ·have h16 : encK (Value.int .i64) (encW lw) = [] := h16
    have hlw := encKW_nil h16
    subst hlw; refine gp zex ?_; refine gnt (gc_seq (gc_condF rfl rfl ?_)); refine gc_exit ?_; refine gx_then_exit ?_; refine gx_round_exit ?_; refine gx_block_hit ?_; refine gx_then (gsr (gl_itMap (by repeat (first | exact Pick.here | apply Pick.there)) ?_)); refine zxm ?_; refine gp znc ?_; refine gp zfa ?_; refine gp zl ?_; refine gl_clear (wt0 rfl) rfl Ty.un_76 (by repeat (first | exact Pick.here | apply Pick.there)) ?_; refine zxs ?_; refine zxa ?_; refine gnt (gc_ret (gx_ret1 rfl (by conv => lhs; whnf) ?_)); exact fun w' hw => ⟨(), by rw [if_neg (by rw [hc9]; decide), eV_zero], by rw [ed]; exact St.dk (d := d2.sync) (hw.z) rfl rfl rfl rfl (secs_ext fun i hi' => hi.done i) rfl⟩
   ·have h16 : encK (Value.int .i64) (encW lw) = A' ++ p :: B' := h16
    obtain ⟨A, kk, v, B, rfl, rfl, rfl, rfl⟩ := encKW_split h16; have hkk := hi.key hk2
    refine gp zex ?_; refine gnt (gc_seq (gc_condT rfl rfl ?_)); refine gc_skip (gx_then (gc_block (gsr (gp (r_entry rfl (by repeat (first | exact Pick.here | apply Pick.there))) ?_)))); refine gp zex ?_; refine gp zex ?_; refine zal fun b5 => ?_; refine zxa ?_; refine zsA (sc_length _) (sc_one _) ?_; refine gnt (gc_regionT 7 (by kernel_rfl) (by kernel_rfl) ?_); refine sp zmv ?_; refine sp znc ?_; refine sp zfa ?_; refine sp (zl) ?_; refine sp zmv ?_; refine sp zL ?_; refine sp (zia) ?_; refine gs_nil ?_; refine gl_stS (m := d2.n) (f := f) (v := v) kk.toNat (by omega) ?_; refine gl_nil (gx_block_normal (zrd ((A ++ B, updS f kk.toNat v, some (Value.int .i64 kk, scV v))) ?_ ?_))
    ·simp
    ·have eAB : encK (Value.int .i64) (encW (A ++ B)) = encK (Value.int .i64) (encW A) ++ encK (Value.int .i64) (encW B) := by simp [encK, encW]
     simp only [eAB]
     exact zlp (hi.step hk2)
theorem crash_ok' {w : World} {F : Nat → Prop} {g : Nat} {d : DS} (h : stars [DiskR g d] w F) (hk : DOk d) {kb : List Bool} {ak : Option Addr} {nk ck : Nat} (hb : RdRow w (fun k => ¬ F k) 1 ak nk (kb.map Value.bool)) :
    Calls Tryz.prog 25 #[.pointer (some ⟨g, 0, none⟩), .slice ak nk ck] w (Post w F (fun _ : Unit => .tuple #[]) (fun _ => [DiskR g (d.crash kb)])) := by
 have hnk : nk = kb.length := by have := hb.1; simp at this; omega
 have hsl := sortZ_len d
 have hwl := ws_len hk
 have hn4 := hk.n
 refine g_enter (env := [(0, .pointer (some ⟨g, 0, none⟩)), (1, .slice ak nk ck)]) Tryz.func25 rfl h Tryz.ntmps25 rfl rfl ?_; refine gc_seq (gsr (zxm ?_)); refine zc ?_ (c := fun w1 F1 F2 h1 h2 hd hst => unsynced_ok h1 hk)
 rintro ⟨a7, c7⟩
 refine gl_dk (by repeat (first | exact Pick.here | apply Pick.there)) (fun b m => ?_)
 refine gp zln ?_; refine zxm ?_; refine gnt (gc_block (gc_loop (α := Nat) (fun j => [pureR (j ≤ d.ws.length), blk g 78 [.slice (some ⟨b, 0, none⟩) d.n d.n, .map (some m), .bool d.off, .bool d.armed, .int .i64 d.left], blk b 54 (secs d.n (keepF (sortZ (keysW d.ws)) kb d.ws d.ss j)), mapR m (encK (Value.int .i64) (encW d.ws)), rowR 3 1 a7 d.ws.length c7 ((sortZ (keysW d.ws)).map (Value.int .i64))]) (fun j => [(9, .int .i64 (j : Int))]) [4, 5, 10, 11, 12, 13, 14, 15, 16, 17, 18, 19, 20, 21, 22, 23, 24, 25, 26, 27, 28, 29, 30, 31, 32, 33, 34, 35, 36] (fun j => d.ws.length - j) 0 ?_ ?_ ?_))
 ·refine env_start (by kernel_rfl)
 ·exact zlp (Nat.zero_le _)
 ·intro j u; refine gc_pureR (fun hj => ?_)
  replace hj : j ≤ d.ws.length := hj
  refine gsr (gp zlt ?_); refine gnt (gc_seq (gif rfl (fun hc10 => ?_) (fun hc10 => ?_)))
  ·try simp only at hc10
   have hj' : j < d.ws.length := by omega
   have hkk := sortZ_key hk (j := j) (by omega)
   refine gc_fact (p := ∃ ga oa, a7 = some ⟨ga, oa, none⟩) (fun w hw => (by obtain ⟨ga, oa, ha, _⟩ := (hw.row (a := a7) (by repeat (first | exact Pick.here | apply Pick.there))).2.2 (by omega); exact ⟨ga, oa, ha⟩)) (fun hx7 => ?_)
   obtain ⟨ga, oa, ha⟩ := hx7; subst ha; refine gc_skip (gx_then (gc_seq (gc_block (gsr (zxm ?_))))); refine gp (zia) ?_; refine gp (r_ld1r (v := .int .i64 ((sortZ (keysW d.ws)).getD j 0)) rfl Ty.row_3 (by repeat (first | exact Pick.here | apply Pick.there)) (by simp [List.getD, hsl, hj'])) ?_; refine zxa ?_; refine zxa ?_; refine gnt (gc_seq ?_); by_cases hjn : j < nk
   ·obtain ⟨gk, ok, hak, hAk, _, hrk⟩ := hb.elem hjn; subst hak; refine gc_region (zxm ?_); refine zxm ?_; refine gp zln ?_; refine gp (r_bool (c := true) zlt (decide_eq_true (by omega))) ?_; refine zxm ?_; refine gq zmv ?_; refine gq zmv ?_; refine gq (zia) ?_; refine gq (r_ld1o (v := .bool (kb.getD j false)) rfl Ty.row_4 (hrk 0 _ (by simp [List.getD, ← hnk, hjn, show j < kb.length by omega])) hAk) ?_; refine gp zpk ?_; refine gnt (gif rfl (fun hc23 => ?_) (fun hc23 => ?_))
    ·refine gc_regionT 12 (by kernel_rfl) (by kernel_rfl) ?_; refine sp zmv ?_; refine sp znc ?_; refine sp zfa ?_; refine sp zl ?_; refine sp zmv ?_; refine sp zmv ?_; refine sp znc ?_; refine sp zfa ?_; refine sp zl ?_; refine sp zmv ?_; refine sp (r_lookW1 rfl rfl (by repeat (first | exact Pick.here | apply Pick.there))) ?_; refine sp (zia) ?_; refine gs_nil ?_; refine gl_stS (m := d.n) ((sortZ (keysW d.ws)).getD j 0).toNat (by omega) ?_; refine gl_nil (gx_block_normal (gx_then (gc_region (gp zad ?_)))); refine zxm ?_; refine gl_nil (zrd (j + 1) ?_ ?_)
     ·show d.ws.length - (j + 1) < d.ws.length - j
      omega
     ·simp only [keepF_yes hc23]
      exact zlp (show j + 1 ≤ d.ws.length by omega)
    ·refine gc_skip (gx_block_normal (gx_then (gc_region (gp zad ?_)))); refine zxm ?_; refine gl_nil (zrd (j + 1) ?_ ?_)
     ·show d.ws.length - (j + 1) < d.ws.length - j
      omega
     ·simp only [keepF_no (show kb.getD j false = false by exact hc23)]
      exact zlp (show j + 1 ≤ d.ws.length by omega)
   ·refine gc_region (zxm ?_); refine zxm ?_; refine gp zln ?_; refine gp (r_bool (c := false) zlt (decide_eq_false (by omega))) ?_; refine zxm ?_; refine gn ?_; refine gn ?_; refine gn ?_; refine gn ?_; refine gp zpk ?_; refine gnt (gc_condF rfl rfl ?_); refine gc_skip (gx_block_normal (gx_then (gc_region (gp zad ?_)))); refine zxm ?_; refine gl_nil (zrd (j + 1) ?_ ?_)
    ·show d.ws.length - (j + 1) < d.ws.length - j
     omega
    ·simp only [keepF_no (show kb.getD j false = false by (have h9 : kb[j]? = none := List.getElem?_eq_none (by omega)); simp only [List.getD, h9, Option.getD_none])]
     exact zlp (show j + 1 ≤ d.ws.length by omega)
  ·try simp only at hc10
   have hj' : j = d.ws.length := by omega
   refine gc_exit ?_; refine gx_then_exit ?_; refine gx_round_exit ?_; refine gx_block_hit ?_; refine gx_then (gsr (zxm ?_)); refine gp znc ?_; refine gp zfa ?_; refine gp zl ?_; refine gl_clear (wt0 rfl) rfl Ty.un_76 (by repeat (first | exact Pick.here | apply Pick.there)) ?_; refine gnt (gc_region (zxm ?_)); refine zxm ?_; refine gp znc ?_; refine gp zfa ?_; refine zs1 ?_; refine gp znc ?_; refine gp zfa ?_; refine zs1 ?_; refine gl_nil (gx_ret0' rfl ?_); exact fun w' hw => ⟨(), rfl, St.dk (d := d.crash kb) (hw.z) rfl rfl rfl rfl (by rw [hj', ← hsl]; rfl) rfl⟩
end
section
theorem oper_calm {d : DS} (h : d.armed = false) : oper d = d := oper_no (.inl h)
theorem wr_calm {d : DS} {i : Int} {v : Sec} (h : d.armed = false) (ho : d.off = false) (hi : d.has i = true) : d.wr i v = (0, d.write i v) := by
  rw [wr_on hi (by rw [oper_calm h]; exact ho), oper_calm h]
theorem syncd_calm {d : DS} (h : d.armed = false) (ho : d.off = false) : d.syncd = d.sync := by rw [DS.syncd, oper_calm h, if_neg (by rw [ho]; decide)]
theorem crash_idle {d : DS} {kb : List Bool} (h : d.ws = []) : d.crash kb = { d with off := false, armed := false } := by
  obtain ⟨n, ss, ws, off, armed, left⟩ := d
  simp only at h
  subst h
  simp [DS.crash, keysW, sortZ, keepF]
theorem rd_at {d : DS} {i : Int} (hi : d.has i = true) (ho : d.off = false) : d.rd i = (0, d.at i.toNat) := by simp [DS.rd, hi, ho]
end
section
def updY (o : Nat) (m l : List UInt8) : List UInt8 := l.take o ++ (m ++ l.drop (o + m.length))
theorem updL_updY (o : Nat) (m l : List UInt8) : updL (l.map B8) o (m.map B8) = (updY o m l).map B8 := by
  simp [updL, updY, List.map_take, List.map_drop]
section
variable {P : Program} {w0 : World} {F0 : Nat → Prop} {L : List Res} {Q : Exit → Act → World → Prop} {n : Fm} {env : Env} {ops : Array Oper} {rest : List Oper} {ty : TypeId} {pos : String} {af : Array Edge} {gd : Option (Nat × Bool)} {d : Option Tmp}
theorem r_nepn {x : Operand} {T T' e : TypeId} {a : Option Addr} (hx : ev n env x = .pointer a := by exact rfl) (ht : P.underlying T = some (.pointer e)) :
    Runs P w0 F0 L n env ⟨d, .binOp .neq T x (.const (.pointer none)) T', ty, pos, af, gd⟩ (.bool (!a.isNone)) := fun w _ => by
  have h : ∀ d : Nat, (Op.equalIn (d + 1) T (.pointer a) (.pointer none)).run P w = .ok a.isNone w := fun d => by
    cases a <;> simp [Op.equalIn, run_underlying ht]
  have h9 := h 9999
  have hc : ev n env (.const (.pointer none)) = .pointer none := rfl
  simp only [execOp, hx, hc]
  simp [eqGuard, binOp, Op.equal, Op.maxDepth, h9]
theorem rd_blkY {L L' : List Res} {w : World} {F1 F2 : Nat → Prop} {g T o m : Nat} {l : List UInt8} (h2 : stars L w F2) (hd : ∀ k, F1 k → ¬ F2 k) (hp : Pick L (blk g T (l.map B8)) L') (hl : o + m ≤ l.length) (hm : m ≤ maxLen) :
    RdRow w (fun k => ¬ F1 k) 1 (some ⟨g, o, none⟩) m (((l.drop o).take m).map B8) := by
  obtain ⟨F', h', hs⟩ := stars_pick hp h2
  exact (RdRow.of_blk h' (n := m) (size := 1) (o := o) (by rw [Nat.mul_one, List.map_take, List.map_drop]) (by simp; omega) hm).mv fun k _ hk => ⟨rfl, fun h1 => hd k h1 (hs k hk)⟩
theorem St.rdBlkY {w : World} {g T o m : Nat} {l : List UInt8} {L' : List Res} (hs : St w0 F0 L w) (hp : Pick L (blk g T (l.map B8)) L') (hl : o + m ≤ l.length) (hm : m ≤ maxLen) : RdRow w (fun _ => True) 1 (some ⟨g, o, none⟩) m (((l.drop o).take m).map B8) := by
  obtain ⟨F, hF, _⟩ := hs
  obtain ⟨F', h', _⟩ := stars_pick hp hF
  exact (RdRow.of_blk h' (n := m) (size := 1) (o := o) (by rw [Nat.mul_one, List.map_take, List.map_drop]) (by simp; omega) hm).mv fun k _ hk => ⟨rfl, trivial⟩
end
end
section
structure LRec where
  b : Block
  c : QC
  deriving DecidableEq
def blkW (b : Block) : WS := wBlock b ⟨0, []⟩
def certB (c : QC) : Block := { blk0 with justify := c }
def LRec.bs (r : LRec) : List UInt8 := (blkW r.b).bs
def LRec.cs (r : LRec) : List UInt8 := (blkW (certB r.c)).bs
structure LRec.Ok (r : LRec) : Prop where
  eb : (blkW r.b).err = 0
  ec : (blkW (certB r.c)).err = 0
  blk : r.c.block = idOf r.b
  ep : r.c.epoch = r.b.epoch
  rd : r.c.round = r.b.round
instance (r : LRec) : Decidable r.Ok := decidable_of_iff ((blkW r.b).err = 0 ∧ (blkW (certB r.c)).err = 0 ∧ r.c.block = idOf r.b ∧ r.c.epoch = r.b.epoch ∧ r.c.round = r.b.round)
  ⟨fun ⟨a, b, c, d, e⟩ => ⟨a, b, c, d, e⟩, fun ⟨a, b, c, d, e⟩ => ⟨a, b, c, d, e⟩⟩
def madeE (b : Block) (c : QC) : Nat := if (blkW b).err ≠ 0 then 4 else if (blkW (certB c)).err ≠ 0 then 4 else if c.block = idOf b ∧ c.epoch = b.epoch ∧ c.round = b.round then 0 else 12
theorem made_ok {b : Block} {c : QC} (h : madeE b c = 0) : (⟨b, c⟩ : LRec).Ok := by
  unfold madeE at h
  split at h
  · cases h
  · split at h
    · cases h
    · split at h
      · rename_i h1 h2 h3
        exact ⟨by simpa using h1, by simpa using h2, h3.1, h3.2.1, h3.2.2⟩
      · cases h
theorem made_zero {r : LRec} (h : r.Ok) : madeE r.b r.c = 0 := by
  unfold madeE; rw [if_neg (by simpa using h.eb), if_neg (by simpa using h.ec), if_pos ⟨h.blk, h.ep, h.rd⟩]
theorem bs_len (r : LRec) : r.bs.length ≤ 8485 := by have := wBlock_len r.b ⟨0, []⟩; simpa [LRec.bs, blkW] using this
theorem cs_len (r : LRec) : r.cs.length ≤ 8485 := by have := wBlock_len (certB r.c) ⟨0, []⟩; simpa [LRec.cs, blkW] using this
def dataL (bs cs : List UInt8) : List UInt8 := beN (bs.length : Int) 2 ++ (bs ++ (beN (cs.length : Int) 2 ++ cs))
def LRec.data (r : LRec) : List UInt8 := dataL r.bs r.cs
theorem dataL_len (bs cs : List UInt8) : (dataL bs cs).length = 4 + bs.length + cs.length := by simp [dataL, beN_length]; omega
theorem data_len (r : LRec) : 4 ≤ r.data.length ∧ r.data.length ≤ 16974 := by
  have h := dataL_len r.bs r.cs
  have := bs_len r; have := cs_len r
  unfold LRec.data; omega
def pRec : PR (List UInt8 × List UInt8) := pBind (pBytes 65535) fun b => pBind (pBytes 65535) fun c => pPure (b, c)
def wRec (bs cs : List UInt8) (s : WS) : WS := wBytes cs 65535 (wBytes bs 65535 s)
theorem wBytes_fit {b : List UInt8} {s : WS} (he : s.err = 0) (h : b.length ≤ 65535) : wBytes b 65535 s = ⟨0, s.bs ++ (beN (b.length : Int) 2 ++ b)⟩ := by
  have p2 : (256 : Nat) ^ 2 = 65536 := by decide
  unfold wBytes
  rw [if_neg (by omega), wNum_of (by omega) he, wFix_of rfl]
  simp
theorem wRec_ok {bs cs : List UInt8} (hb : bs.length ≤ 8485) (hc : cs.length ≤ 8485) : wRec bs cs ⟨0, []⟩ = ⟨0, dataL bs cs⟩ := by
  unfold wRec
  rw [wBytes_fit (b := bs) rfl (by omega), wBytes_fit (b := cs) rfl (by omega)]
  simp [dataL]
theorem pRec_data {bs cs : List UInt8} (hb : bs.length ≤ 8485) (hc : cs.length ≤ 8485) : pAll pRec (dataL bs cs) = .ok (bs, cs) := by
  have h : EncAt (fun s => wBytes cs 65535 (wBytes bs 65535 s)) pRec (bs, cs) := encAt_bind (x := bs) (fun s he => enc_bytes bs s he) (encAt_bind (x := cs) (g := fun s => s) (fun s he => enc_bytes cs s he) (encAt_pure _))
  have h2 := pAll_enc h (by rw [show wBytes cs 65535 (wBytes bs 65535 ⟨0, []⟩) = _ from wRec_ok hb hc])
  rwa [show wBytes cs 65535 (wBytes bs 65535 ⟨0, []⟩) = _ from wRec_ok hb hc] at h2
theorem pRec_ok {d bs cs : List UInt8} (h : pAll pRec d = .ok (bs, cs)) : d = dataL bs cs ∧ bs.length ≤ 65535 ∧ cs.length ≤ 65535 := by
  obtain ⟨x, r1, h1, h2⟩ := pBind_ok (pAll_ok h)
  obtain ⟨y, r2, h3, h4⟩ := pBind_ok h2
  obtain ⟨h5, h6⟩ := pPure_ok h4
  cases h5
  obtain ⟨b1, e1, w1⟩ := dec_bytes _ _ _ h1
  obtain ⟨b2, e2, w2⟩ := dec_bytes _ _ _ h3
  have k : ∀ (b b' : List UInt8), (∀ s : WS, s.err = 0 → wBytes b 65535 s = ⟨0, s.bs ++ b'⟩) → b' = beN (b.length : Int) 2 ++ b ∧ b.length ≤ 65535 := by
    intro b b' hw
    have p2 : (256 : Nat) ^ 2 = 65536 := by decide
    have h := hw ⟨0, []⟩ rfl
    unfold wBytes at h
    split at h
    · simp [wFail] at h
    · rw [wNum_of (by omega) rfl, wFix_of rfl] at h
      simp at h
      exact ⟨h.symm, by omega⟩
  obtain ⟨rfl, l1⟩ := k _ _ w1
  obtain ⟨rfl, l2⟩ := k _ _ w2
  refine ⟨?_, l1, l2⟩
  rw [e1, e2, h6, dataL]; simp
def rdRec (d : List UInt8) : Option LRec := match pAll pRec d with
  | .error _ => none
  | .ok x => match pAll pBlock x.1 with
    | .error _ => none
    | .ok b => match pAll pBlock x.2 with
      | .error _ => none
      | .ok c => if (⟨b, c.justify⟩ : LRec).Ok ∧ (⟨b, c.justify⟩ : LRec).cs = x.2 then some ⟨b, c.justify⟩ else none
theorem block_enc {b : Block} (h : (blkW b).err = 0) : pAll pBlock (blkW b).bs = .ok b := pAll_enc (f := wBlock b) (fun s he => enc_block b s he) h
theorem block_dec {bs : List UInt8} {b : Block} (h : pAll pBlock bs = .ok b) : blkW b = ⟨0, bs⟩ := by
  obtain ⟨b', hb, hw⟩ := dec_block _ _ _ (pAll_ok h)
  rw [List.append_nil] at hb
  subst hb
  show wBlock b ⟨0, []⟩ = _
  simpa using hw ⟨0, []⟩ rfl
theorem rdRec_data {r : LRec} (h : r.Ok) : rdRec r.data = some r := by
  unfold rdRec
  rw [LRec.data, pRec_data (bs_len r) (cs_len r)]
  simp only
  rw [show pAll pBlock r.bs = .ok r.b from block_enc h.eb]
  simp only
  rw [show pAll pBlock r.cs = .ok (certB r.c) from block_enc h.ec]
  simp only
  rw [show (⟨r.b, (certB r.c).justify⟩ : LRec) = r from rfl, if_pos ⟨h, rfl⟩]
theorem rdRec_some {d : List UInt8} {r : LRec} (h : rdRec d = some r) : r.Ok ∧ r.data = d := by
  unfold rdRec at h
  split at h
  · cases h
  · rename_i x hx
    split at h
    · cases h
    · rename_i b hb
      split at h
      · cases h
      · rename_i c hc
        split at h
        · rename_i hok
          cases h
          refine ⟨hok.1, ?_⟩
          rw [(pRec_ok (bs := x.1) (cs := x.2) hx).1, LRec.data, hok.2, LRec.bs]
          have := block_dec hb
          rw [show (blkW (⟨b, c.justify⟩ : LRec).b) = ⟨0, x.1⟩ from this]
        · cases h
def nsec (n : Nat) : Nat := (n + 63) / 64
def secData (d : List UInt8) (i : Nat) : Sec := ⟨(d.drop (64 * i)).take 64 ++ List.replicate (64 - ((d.drop (64 * i)).take 64).length) 0, by simp; omega⟩
def firstL (h : Nat) (d : List UInt8) : List UInt8 := beN (d.length : Int) 4 ++ beN (h : Int) 4
theorem firstL_len (h : Nat) (d : List UInt8) : (firstL h d).length = 8 := by simp [firstL, beN_length]
def headL (h : Nat) (d : List UInt8) : Sec := ⟨firstL h d ++ ((dOf Kc 10 [firstL h d, d]).l ++ List.replicate 40 0), by simp [firstL_len, Dig.h]⟩
def secsR (h : Nat) (r : LRec) : List Sec := headL h r.data :: (List.range (nsec r.data.length)).map (secData r.data)
def secsOf : Nat → List LRec → List Sec
  | _, [] => []
  | h, r :: l => secsR h r ++ secsOf (h + 1) l
def lenR (r : LRec) : Nat := 1 + nsec r.data.length
theorem secsR_len (h : Nat) (r : LRec) : (secsR h r).length = lenR r := by simp [secsR, lenR]; omega
def tot (l : List LRec) : Nat := (l.map lenR).sum
theorem secsOf_len : ∀ (h : Nat) (l : List LRec), (secsOf h l).length = tot l
  | _, [] => rfl
  | h, r :: l => by rw [secsOf, List.length_append, secsR_len, secsOf_len (h + 1) l, tot, tot, List.map_cons, List.sum_cons]
theorem secsOf_app : ∀ (h : Nat) (a b : List LRec), secsOf h (a ++ b) = secsOf h a ++ secsOf (h + a.length) b
  | h, [], b => by simp [secsOf]
  | h, r :: a, b => by rw [List.cons_append, secsOf, secsOf_app (h + 1) a b, secsOf, List.append_assoc, List.length_cons, show h + 1 + a.length = h + (a.length + 1) by omega]
theorem tot_app (a b : List LRec) : tot (a ++ b) = tot a + tot b := by simp [tot]
def catS (f : Nat → Sec) (a k : Nat) : List UInt8 := ((List.range k).map fun i => (f (a + i)).l).flatten
theorem catS_succ (f : Nat → Sec) (a k : Nat) : catS f a (k + 1) = catS f a k ++ (f (a + k)).l := by simp [catS, List.range_succ]
theorem catS_len (f : Nat → Sec) (a : Nat) : ∀ k, (catS f a k).length = 64 * k
  | 0 => rfl
  | k + 1 => by rw [catS_succ, List.length_append, catS_len f a k, (f (a + k)).h]; omega
theorem catS_ext {f g : Nat → Sec} {a b k : Nat} (h : ∀ i, i < k → f (a + i) = g (b + i)) : catS f a k = catS g b k := by
  unfold catS
  congr 1
  exact List.map_congr_left fun i hi => by rw [h i (List.mem_range.1 hi)]
theorem cat_data (d : List UInt8) : ∀ k, catS (secData d) 0 k = d.take (64 * k) ++ List.replicate (64 * k - d.length) 0
  | 0 => by simp [catS]
  | k + 1 => by
    rw [catS_succ, cat_data d k, Nat.zero_add]
    have hl : ((d.drop (64 * k)).take 64).length = min 64 (d.length - 64 * k) := by rw [List.length_take, List.length_drop]
    show d.take (64 * k) ++ List.replicate (64 * k - d.length) 0 ++ ((d.drop (64 * k)).take 64 ++ List.replicate (64 - ((d.drop (64 * k)).take 64).length) 0) = _
    rw [hl]
    by_cases h : 64 * k ≤ d.length
    · rw [show 64 * k - d.length = 0 by omega, List.replicate_zero, List.append_nil, ← List.append_assoc, show 64 * (k + 1) = 64 * k + 64 by omega, List.take_add]
      exact congrArg (_ ++ List.replicate · 0) (by omega)
    · have e1 : d.drop (64 * k) = [] := List.drop_eq_nil_of_le (by omega)
      have e2 : d.take (64 * k) = d := List.take_of_length_le (by omega)
      have e3 : d.take (64 * (k + 1)) = d := List.take_of_length_le (by omega)
      rw [e1, e2, e3, List.take_nil, List.nil_append, List.append_assoc, List.replicate_append_replicate]
      exact congrArg (fun m => d ++ List.replicate m 0) (by omega)
theorem cat_all (d : List UInt8) : catS (secData d) 0 (nsec d.length) = d ++ List.replicate (64 * nsec d.length - d.length) 0 := by
  rw [cat_data, List.take_of_length_le (by unfold nsec; omega)]
def bytesAt (f : Nat → Sec) (a n : Nat) : Option (List UInt8) := if ((catS f a (nsec n)).drop n).all (· == 0) = true then some ((catS f a (nsec n)).take n) else none
theorem bytesAt_data {f : Nat → Sec} {a : Nat} {d : List UInt8} (h : ∀ i, i < nsec d.length → f (a + i) = secData d i) : bytesAt f a d.length = some d := by
  have e : catS f a (nsec d.length) = d ++ List.replicate (64 * nsec d.length - d.length) 0 := by
    rw [← cat_all]; exact catS_ext fun i hi => by rw [h i hi, Nat.zero_add]
  rw [bytesAt, e, List.drop_left', List.take_left', if_pos]
  · simp
  · rfl
  · rfl
def lnext (d : DS) (e h : Nat) : Except Nat (Option LRec) :=
  if d.at e = sec0 then .ok none else
  if valN ((d.at e).l.take 4) < 1 ∨ ¬ nsec (valN ((d.at e).l.take 4)) + 2 ≤ d.n - e then .error 7 else
  match bytesAt d.at (e + 1) (valN ((d.at e).l.take 4)) with
  | none => .error 7
  | some x => if headL h x = d.at e then match rdRec x with
    | none => .error 7
    | some r => .ok (some r) else .error 7
theorem bytesAt_len {f : Nat → Sec} {a n : Nat} {x : List UInt8} (h : bytesAt f a n = some x) : x.length = n := by
  unfold bytesAt at h
  split at h
  · cases h
    rw [List.length_take, catS_len]; unfold nsec; omega
  · cases h
theorem lnext_some {d : DS} {e h : Nat} {r : LRec} (k : lnext d e h = .ok (some r)) : r.Ok ∧ lenR r + 1 ≤ d.n - e := by
  unfold lnext at k
  split at k
  · cases k
  · split at k
    · cases k
    · rename_i _ hn
      split at k
      · cases k
      · rename_i x hx
        split at k
        · split at k
          · cases k
          · rename_i hr
            cases k
            obtain ⟨h1, h2⟩ := rdRec_some hr
            refine ⟨h1, ?_⟩
            have := bytesAt_len hx
            rw [lenR, h2, this]
            omega
        · cases k
def lopen (d : DS) (e : Nat) (rs : List LRec) : Except Nat (List LRec × Nat) :=
  match h : lnext d e rs.length with
  | .error k => .error k
  | .ok none => .ok (rs, e)
  | .ok (some r) => lopen d (e + lenR r) (rs ++ [r])
termination_by d.n - e
decreasing_by
  have h2 := lnext_some h
  have : 1 ≤ lenR r := by unfold lenR; omega
  omega
theorem lopen_err {d : DS} {e k : Nat} {rs : List LRec} (h : lnext d e rs.length = .error k) : lopen d e rs = .error k := by rw [lopen]; split <;> simp_all
theorem lopen_done {d : DS} {e : Nat} {rs : List LRec} (h : lnext d e rs.length = .ok none) : lopen d e rs = .ok (rs, e) := by rw [lopen]; split <;> simp_all
theorem lopen_more {d : DS} {e : Nat} {rs : List LRec} {r : LRec} (h : lnext d e rs.length = .ok (some r)) : lopen d e rs = lopen d (e + lenR r) (rs ++ [r]) := by
  conv => lhs; rw [lopen]
  split <;> simp_all
structure LOk (f : Nat → Sec) (base : Nat) (rs : List LRec) : Prop where
  ok : ∀ r ∈ rs, r.Ok
  at' : ∀ i, i < tot rs → f (base + i) = (secsOf 0 rs).getD i sec0
  fin : f (base + tot rs) = sec0
theorem head_len {h : Nat} {d : List UInt8} (hd : d.length < 4294967296) : valN ((headL h d).l.take 4) = d.length := by
  have p4 : (256 : Nat) ^ 4 = 4294967296 := by decide
  show valN ((firstL h d ++ _).take 4) = _
  rw [firstL, List.append_assoc, List.take_append_of_le_length (by rw [beN_length]; omega), List.take_of_length_le (by rw [beN_length]; omega), valN_beN, p4, Nat.mod_eq_of_lt hd]
theorem head_ne {h : Nat} {d : List UInt8} (h1 : 1 ≤ d.length) (hd : d.length < 4294967296) : headL h d ≠ sec0 := fun e => by
  have := head_len (h := h) hd
  rw [e] at this
  have z : valN (sec0.l.take 4) = 0 := by decide
  omega
theorem secs_at {rs : List LRec} {k i : Nat} {r : LRec} (hk : rs[k]? = some r) (hi : i < lenR r) : (secsOf 0 rs).getD (tot (rs.take k) + i) sec0 = (secsR k r).getD i sec0 := by
  have hlt : k < rs.length := (List.getElem?_eq_some_iff.1 hk).1
  have e : rs = rs.take k ++ r :: rs.drop (k + 1) := by
    rw [← (List.getElem?_eq_some_iff.1 hk).2, List.getElem_cons_drop, List.take_append_drop]
  have hl : (rs.take k).length = k := by rw [List.length_take]; omega
  have h1 : secsOf 0 rs = secsOf 0 (rs.take k) ++ (secsR k r ++ secsOf (k + 1) (rs.drop (k + 1))) := by
    conv => lhs; rw [e]
    rw [secsOf_app, hl, Nat.zero_add, secsOf]
  rw [h1]
  simp only [List.getD]
  rw [List.getElem?_append_right (by rw [secsOf_len]; omega), secsOf_len, Nat.add_sub_cancel_left, List.getElem?_append_left (by rw [secsR_len]; exact hi)]
theorem tot_take {rs : List LRec} {k : Nat} {r : LRec} (hk : rs[k]? = some r) : tot (rs.take (k + 1)) = tot (rs.take k) + lenR r := by
  rw [List.take_add_one, hk, tot_app]; simp [tot]
theorem tot_le {rs : List LRec} (k : Nat) : tot (rs.take k) ≤ tot rs := by
  have : tot rs = tot (rs.take k) + tot (rs.drop k) := by rw [← tot_app, List.take_append_drop]
  omega
theorem lnext_ok {d : DS} {base k : Nat} {rs : List LRec} (h : LOk d.at base rs) (hn : base + tot rs < d.n) {r : LRec} (hk : rs[k]? = some r) : lnext d (base + tot (rs.take k)) k = .ok (some r) := by
  have hr := h.ok r (List.mem_of_getElem? hk)
  have hdl := data_len r
  have ht := tot_take hk
  have hle := tot_le (rs := rs) (k + 1)
  have hl1 : lenR r = 1 + nsec r.data.length := rfl
  have hat : ∀ i, i < lenR r → d.at (base + tot (rs.take k) + i) = (secsR k r).getD i sec0 := fun i hi => by
    rw [← secs_at hk hi, Nat.add_assoc]; exact h.at' _ (by omega)
  have e0 : d.at (base + tot (rs.take k)) = headL k r.data := by have := hat 0 (by omega); simpa [secsR] using this
  have hv := head_len (h := k) (d := r.data) (by omega)
  unfold lnext
  rw [e0, if_neg (head_ne (by omega) (by omega)), hv, if_neg (by omega), bytesAt_data (d := r.data) (fun i hi => by
    have := hat (i + 1) (by omega)
    rw [show base + tot (rs.take k) + 1 + i = base + tot (rs.take k) + (i + 1) by omega, this]
    simp [secsR, List.getD, hi])]
  simp only [if_true]
  rw [rdRec_data hr]
theorem lnext_end {d : DS} {base : Nat} {rs : List LRec} (h : LOk d.at base rs) : lnext d (base + tot rs) rs.length = .ok none := by unfold lnext; rw [if_pos h.fin]
theorem lopen_ok {d : DS} {base : Nat} {rs : List LRec} (h : LOk d.at base rs) (hn : base + tot rs < d.n) : lopen d base [] = .ok (rs, base + tot rs) := by
  have step : ∀ m k, m + k = rs.length → lopen d (base + tot (rs.take k)) (rs.take k) = .ok (rs, base + tot rs) := by
    intro m
    induction m with
    | zero =>
      intro k hk
      have hk : k = rs.length := by omega
      subst hk
      rw [List.take_length]
      exact lopen_done (lnext_end h)
    | succ m ih =>
      intro k hk
      have hlt : k < rs.length := by omega
      have hr : rs[k]? = some rs[k] := List.getElem?_eq_getElem hlt
      have h1 := lnext_ok h hn hr
      have hl : (rs.take k).length = k := by rw [List.length_take]; omega
      have h2 := lopen_more (rs := rs.take k) (by rw [hl]; exact h1)
      have h3 := ih (k + 1) (by omega)
      rw [tot_take hr, List.take_add_one, hr] at h3
      rw [h2]
      simpa [Nat.add_assoc] using h3
  simpa [tot] using step rs.length 0 (by omega)
end
section
def lpR (l : Nat) (r : Loop) : Res where
  on w F := (∀ k, F k ↔ k = l) ∧ w.heap[l]? = some (.loop r)
  loc := fun ⟨hF, h⟩ hk => ⟨hF, (hk l ((hF l).2 rfl)).trans h⟩
  ok := fun ⟨hF, h⟩ k hk => by rw [(hF k).1 hk]; exact ⟨_, h, trivial⟩
def dfR (b : Nat) : Res where
  on w F := (∀ k, F k ↔ k = b) ∧ w.heap[b]? = some (.deferred (some []))
  loc := fun ⟨hF, h⟩ hk => ⟨hF, (hk b ((hF b).2 rfl)).trans h⟩
  ok := fun ⟨hF, h⟩ k hk => by rw [(hF k).1 hk]; exact ⟨_, h, trivial⟩
def mkD (b : Nat) : Deferred := { target := .collected b, args := #[] }
def RoundsAt (P : Program) (l : Nat) {α : Type} (enc : Nat → α → Array Value) (G : Nat → α → List Res) (J : Nat → Res) (Jx : Res) (w0 : World) (F0 : Nat → Prop) : Prop :=
  ∀ i x w (F1 F2 : Nat → Prop), stars (G i x ++ [J i]) w F1 → (∀ k, F1 k → ¬ F2 k) → Stp w0 F0 w (fun k => F1 k ∨ F2 k) →
    YieldAt (FR none) 0 P l (enc i x) w (Post w F1 (fun b : Bool => .bool b) fun b => [bif b then J (i + 1) else Jx])
theorem pick_app {r : Res} {L : List Res} : ∀ (G : List Res), Pick (G ++ r :: L) r (G ++ L)
  | [] => .here
  | _ :: G => .there (pick_app G)
theorem stars_out1 {r : Res} {G L : List Res} {w : World} {F : Nat → Prop} (h : stars (G ++ r :: L) w F) : stars (r :: (G ++ L)) w F := (pick_app G).stars h
theorem stars_in1 {r : Res} : ∀ {G L : List Res} {w : World} {F : Nat → Prop}, stars (r :: (G ++ L)) w F → stars (G ++ r :: L) w F
  | [], _, _, _, h => h
  | g :: G, L, w, F, h => by
    have h2 : stars (g :: (r :: (G ++ L))) w F := (Pick.there (Pick.here)).stars h
    obtain ⟨F1, F2, h1, h2, hF, hd⟩ := h2
    exact ⟨F1, F2, h1, stars_in1 h2, hF, hd⟩
theorem stars_tail {B : List Res} : ∀ {A : List Res} {w : World} {F : Nat → Prop}, stars (A ++ B) w F → stars (A ++ [allR B]) w F
  | [], w, F, h => stars_one h
  | a :: A, w, F, ⟨F1, F2, h1, h2, hF, hd⟩ => ⟨F1, F2, h1, stars_tail h2, hF, hd⟩
theorem stars_untail {B : List Res} : ∀ {A : List Res} {w : World} {F : Nat → Prop}, stars (A ++ [allR B]) w F → stars (A ++ B) w F
  | [], w, F, h => stars_one' h
  | a :: A, w, F, ⟨F1, F2, h1, h2, hF, hd⟩ => ⟨F1, F2, h1, stars_untail h2, hF, hd⟩
theorem Stp.turn {w0 w : World} {F0 F : Nat → Prop} {b : Nat} {o : Obj} (h : Stp w0 F0 w F) (hb : F b) : Stp w0 F0 (w.putObj b o) F :=
  ⟨h.os, h.tape, h.output, by rw [World.putObj_size]; exact h.size, fun k hk hn => by
    rw [World.putObj_heap_other (fun e => by subst e; exact (h.own _ hb).elim hn (fun h' => absurd h' (by omega)))]
    exact h.block k hk hn, h.own⟩
theorem stars_put {L : List Res} {w : World} {F : Nat → Prop} {b : Nat} {o : Obj} (h : stars L w F) (hb : ¬ F b) : stars L (w.putObj b o) F :=
  stars_loc h fun k hk => World.putObj_heap_other (fun e => hb (e ▸ hk))
theorem St.lp {w0 w : World} {F0 : Nat → Prop} {l : Nat} {r r' : Loop} {L : List Res} (h : St w0 F0 (lpR l r :: L) w) : w.heap[l]? = some (.loop r) ∧ St w0 F0 (lpR l r' :: L) (w.putObj l (.loop r')) := by
  obtain ⟨F, ⟨F1, F2, ⟨hF1, h1⟩, h2, hF, hd⟩, hst⟩ := h
  have hl : F l := (hF l).2 (.inl ((hF1 l).2 rfl))
  exact ⟨h1, F, ⟨F1, F2, ⟨hF1, World.putObj_heap_same (Array.getElem?_eq_some_iff.1 h1).1⟩, stars_put h2 (hd l ((hF1 l).2 rfl)), hF, hd⟩, hst.turn hl⟩
theorem St.lp_out {w0 w : World} {F0 : Nat → Prop} {l : Nat} {r : Loop} {o : Obj} {L : List Res} (h : St w0 F0 (lpR l r :: L) w) : w.heap[l]? = some (.loop r) ∧ St w0 F0 L (w.putObj l o) := by
  obtain ⟨F, ⟨F1, F2, ⟨hF1, h1⟩, h2, hF, hd⟩, hst⟩ := h
  have hl : F l := (hF l).2 (.inl ((hF1 l).2 rfl))
  exact ⟨h1, F2, stars_put h2 (hd l ((hF1 l).2 rfl)), (hst.turn hl).weak fun k hk => (hF k).2 (.inr hk)⟩
theorem St.df_out {w0 w : World} {F0 : Nat → Prop} {b : Nat} {o : Obj} {L L' : List Res} (h : St w0 F0 L w) (hp : Pick L (dfR b) L') : w.heap[b]? = some (.deferred (some [])) ∧ St w0 F0 L' (w.putObj b o) := by
  obtain ⟨F, hF0, hst⟩ := h
  obtain ⟨F1, F2, ⟨hF1, h1⟩, h2, hF, hd⟩ := hp.stars hF0
  have hl : F b := (hF b).2 (.inl ((hF1 b).2 rfl))
  exact ⟨h1, F2, stars_put h2 (hd b ((hF1 b).2 rfl)), (hst.turn hl).weak fun k hk => (hF k).2 (.inr hk)⟩
section
variable {P : Program} {w0 : World} {F0 : Nat → Prop} {L : List Res} {Q : Exit → Act → World → Prop} {n : Fm} {env : Env} {ops : Array Oper} {rest : List Oper}
theorem roundIn_FR {ro : Option Nat} {l : Nat} {f : FuncId} {tmps : Array Value} {asg bd : Code} {w : World} {R : Ending → World → Prop} : RoundIn (FR ro) 0 P l f tmps asg bd w R ↔ RoundIn (FR none) 0 P l f tmps asg bd w R := Iff.rfl
theorem gl_yield {o : Oper} {l : Nat} {args : Array Value} {L' M : List Res} {α : Type} {V : α → Value} {N : α → List Res} (hw : Wt ops n env o true)
    (he : ∀ w, (execOp (ev n env) o).run P w = (Instr.yield l args).run P w) (hsel : Sel L M L')
    (hc : ∀ w F1 F2, stars M w F1 → stars L' w F2 → (∀ k, F1 k → ¬ F2 k) → Stp w0 F0 w (fun k => F1 k ∨ F2 k) → YieldAt (FR none) 0 P l args w (Post w F1 V N))
    (k : ∀ x, Gl P w0 F0 (N x ++ L') ops Q rest n (pu o.dst (V x) env)) : Gl P w0 F0 L ops Q (o :: rest) n env := by
  intro w hs
  obtain ⟨F, hF, hst⟩ := hs
  obtain ⟨F1, F2, h1, h2, hE, hd⟩ := hsel.split hF
  have hst' : Stp w0 F0 w (fun k => F1 k ∨ F2 k) := by rw [← fp_eq hE]; exact hst
  unfold wpListIn
  rw [if_pos (show Region.wanted o _ = true from hw)]
  obtain ⟨fn, tmps, asg, bd, hy, hr⟩ := hc w F1 F2 h1 h2 hd hst'
  refine Oper.wpIn_round (by rw [fr_eval, he]; exact hy) (RoundIn.mono (roundIn_FR.2 hr) ?_)
  rintro e w' ⟨x, rfl, hx⟩
  exact ⟨V x, rfl, by rw [fr_put]; exact k x w' (St.call hst h2 hE hd hx)⟩
theorem e_yield {d : Option Tmp} {ty : TypeId} {pos : String} {af : Array Edge} {gd : Option (Nat × Bool)} {y : Operand} {l : Nat} {xs : List Operand} {ts : Array TypeId} {vs : List Value} (hy : ev n env y = .func (.yield l) #[] #[]) (hv : xs.map (ev n env) = vs) (w : World) :
    (execOp (ev n env) ⟨d, .call ⟨.value y, xs.toArray, ts⟩, ty, pos, af, gd⟩).run P w = (Instr.yield l vs.toArray).run P w := by
  simp [execOp, resolve, hy, Deferred.ofValue, invoke, hv]
theorem gyd {t : Tmp} {ty : TypeId} {pos : String} {af : Array Edge} {gd : Option (Nat × Bool)} {y : Operand} {l : Nat} {xs : List Operand} {ts : Array TypeId} {vs : List Value} {α : Type} {enc : Nat → α → Array Value} {G : Nat → α → List Res} {J : Nat → Res} {Jx : Res} {L' : List Res}
    (h : RoundsAt P l enc G J Jx w0 F0) (i : Nat) (x : α) (hv2 : enc i x = vs.toArray) (hsel : Sel L (G i x ++ [J i]) L') (k : ∀ b : Bool, Gl P w0 F0 ((bif b then J (i + 1) else Jx) :: L') ops Q rest n ((t, .bool b) :: env))
    (hy : ev n env y = .func (.yield l) #[] #[] := by exact rfl) (hv : xs.map (ev n env) = vs := by exact rfl)
    (hw : Wt ops n env ⟨some t, .call ⟨.value y, xs.toArray, ts⟩, ty, pos, af, gd⟩ true := by exact wt0 rfl) : Gl P w0 F0 L ops Q (⟨some t, .call ⟨.value y, xs.toArray, ts⟩, ty, pos, af, gd⟩ :: rest) n env :=
  gl_yield hw (e_yield hy hv) hsel (fun w F1 F2 h1 _ hd hst => by rw [← hv2]; exact h i x w F1 F2 h1 hd hst) k
theorem gl_pI {p : Prop} (hp : p) (k : Gl P w0 F0 (pureR p :: L) ops Q rest n env) : Gl P w0 F0 L ops Q rest n env := fun w ⟨F, hF, hst⟩ => k w ⟨F, stars_pure_mk hp hF, hst⟩
theorem gc_pI {c : Code} {p : Prop} (hp : p) (k : Gc P w0 F0 (pureR p :: L) c Q n env) : Gc P w0 F0 L c Q n env := fun w ⟨F, hF, hst⟩ => k w ⟨F, stars_pure_mk hp hF, hst⟩
theorem gx_pure1 {e : Exit} {p : Prop} {L' : List Res} (hp : Pick L (pureR p) L') (k : p → Gx w0 F0 L Q e n env) : Gx w0 F0 L Q e n env := fun w hw => by
  have hw' := hw
  obtain ⟨F, hF, _⟩ := hw'
  obtain ⟨F1, h1, _⟩ := stars_pick hp hF
  exact k h1.2 w hw
theorem r_slice3 {d : Option Tmp} {ty : TypeId} {pos : String} {af : Array Edge} {gd : Option (Nat × Bool)} {x lo hi mx : Operand} {T e : TypeId} {a : Option Addr} {m c s l h u : Nat} {k1 k2 k3 : IntKind} (hx : ev n env x = .slice a m c) (ht : sliceT P T = some e) (hs : szT P e = some s)
    (hlo : ev n env lo = .int k1 l) (hhi : ev n env hi = .int k2 h) (hmx : ev n env mx = .int k3 u) (h1 : l ≤ h) (h2 : h ≤ u) (h3 : u ≤ c) :
    Runs P w0 F0 L n env ⟨d, .slice T x (some lo) (some hi) (some mx), ty, pos, af, gd⟩ (.slice (if u = l then a else a.map (·.add (l * s))) (h - l) (u - l)) := fun w _ => by
  have e1 : (Instr.sliceBounds true m c (some (.int k1 l)) (some (.int k2 h)) (some (.int k3 u))).run P w = .ok (l, h, u) w := by
    unfold Instr.sliceBounds
    have a1 : (0:Int) ≤ l ∧ (l:Int) ≤ h := ⟨by omega, by omega⟩
    have a2 : (0:Int) ≤ h ∧ (h:Int) ≤ u := ⟨by omega, by omega⟩
    have a3 : (0:Int) ≤ u ∧ (u:Int) ≤ c := ⟨by omega, by omega⟩
    simp [Instr.sliceBound, asIntOf, h1, h2, h3, Nat.not_lt.2 h1, Nat.not_lt.2 h2, Nat.not_lt.2 h3]
  simp [execOp, hx, hlo, hhi, hmx, Instr.sliceAt, run_underlying (run_sliceT ht), Instr.slice, e1, run_sz hs]
def zipE : List Tmp → List Value → Env → Env
  | t :: ts, v :: vs, e => zipE ts vs ((t, v) :: e)
  | _, _, e => e
theorem fr_zip {n : Fm} : ∀ (ts : List Tmp) (vs : List Value) (e : Env), { (fr n e) with tmps := (ts.zip vs).foldl (fun tmps (t, a) => tmps.setIfInBounds t a) (fr n e).tmps } = fr n (zipE ts vs e)
  | [], _, _ => by simp [zipE, fr]
  | _ :: _, [], _ => by simp [zipE, fr]
  | t :: ts, v :: vs, e => by
    have h : (fr n e).tmps.setIfInBounds t v = (fr n ((t, v) :: e)).tmps := by
      have := fr_put n e (some t) v
      simp only [Act.put, pu] at this
      exact congrArg Act.tmps this
    simp only [List.zip_cons_cons, List.foldl_cons, zipE]
    rw [h]
    exact fr_zip ts vs ((t, v) :: e)
def RoundP (w : World) (F : Nat → Prop) (l : Nat) (r : Loop) (I : Nat → List Res) (X : Nat → Code → List Res) (i : Nat) : Exit → Act → World → Prop
  | .normal, _, w' => St w F (lpR l r :: I (i + 1)) w'
  | .ret, _, w' => St w F (lpR l r :: X i .ret) w'
  | .exit id, _, w' => St w F (lpR l r :: X i (.exit id)) w'
  | _, _, _ => False
def BegK (P : Program) (w : World) (F : Nat → Prop) (l : Nat) (r r' : Loop) (body : Code) (R : Exit → Act → World → Prop) (n : Fm) (a : Act) (w' : World) : Prop :=
  ∃ L env, a = fr n env ∧ St w F (lpR l r :: L) w' ∧ Gc P w F (lpR l r' :: L) body R n env
theorem gx_begin {l : Nat} {r r' : Loop} {body : Code} {R : Exit → Act → World → Prop} (h : Gc P w0 F0 (lpR l r' :: L) body R n env) : Gx w0 F0 (lpR l r :: L) (Exit.then (BegK P w0 F0 l r r' body R n) (fun _ _ _ => False)) .normal n env :=
  fun w hw => ⟨L, env, rfl, hw, h⟩
theorem gx_rdn {l : Nat} {r : Loop} {I : Nat → List Res} {X : Nat → Code → List Res} {i : Nat} (h : ∀ w, St w0 F0 L w → St w0 F0 (lpR l r :: I (i + 1)) w) : Gx w0 F0 L (RoundP w0 F0 l r I X i) .normal n env := h
theorem gx_rdr {l : Nat} {r : Loop} {I : Nat → List Res} {X : Nat → Code → List Res} {i : Nat} (h : ∀ w, St w0 F0 L w → St w0 F0 (lpR l r :: X i .ret) w) : Gx w0 F0 L (RoundP w0 F0 l r I X i) .ret n env := h
def IterAt (P : Program) {α β : Type} (gf : Nat) (lb : Array Value) (enc : Nat → α → Array Value) (G : Nat → α → List Res) (fin : β → Option Nat) (O : β → List Res) (vv : β → Value) (l : Nat) (J : Nat → Res) (Jx : Res) (w : World) (F : Nat → Prop) : Prop :=
  RoundsAt P l enc G J Jx w F → Calls P gf (#[.func (.yield l) #[] #[]] ++ lb) w (Post w F vv fun y => (match fin y with | some m => J m | none => Jx) :: O y)
theorem gc_range {g : Operand} {ps : Array Tmp} {assign body : Code} {gf : Nat} {lb : Array Value} {α β : Type} {enc : Nat → α → Array Value} {G : Nat → α → List Res}
    {own L' : List Res} {vv : β → Value} {fin : β → Option Nat} {O : β → List Res} (I : Nat → List Res) (X : Nat → Code → List Res) {ds : List Deferred} {nt : Nat}
    (hg : ev ⟨nt, ds, none⟩ env g = .func (.func gf) #[] lb) (eg : okCall P gf = true) (hsel : Sel L (own ++ I 0) L') (hsz : ∀ i x, (enc i x).size = ps.size)
    (hit : ∀ (l : Nat) (J : Nat → Res) (Jx : Res) w F1 F2, stars (own ++ [J 0]) w F1 → stars L' w F2 → (∀ k, F1 k → ¬ F2 k) → Stp w0 F0 w (fun k => F1 k ∨ F2 k) → IterAt P gf lb enc G fin O vv l J Jx w F1)
    (hrd : ∀ (l : Nat) (r r' : Loop) i x w F1 F2, stars (lpR l r :: (G i x ++ I i)) w F1 → stars L' w F2 → (∀ k, F1 k → ¬ F2 k) → Stp w0 F0 w (fun k => F1 k ∨ F2 k) →
      Gc P w F1 (lpR l r :: (G i x ++ I i)) assign (Exit.then (BegK P w F1 l r r' body (RoundP w F1 l r' I X i) ⟨nt, [], some l⟩) (fun _ _ _ => False)) ⟨nt, [], some l⟩ (zipE ps.toList (enc i x).toList env))
    (hdone : ∀ b y m, fin y = some m → Gx w0 F0 (dfR b :: (I m ++ O y) ++ L') Q .normal ⟨nt, mkD b :: ds, none⟩ env)
    (hstop : ∀ b y i c, fin y = none → Gc P w0 F0 (dfR b :: (X i c ++ O y) ++ L') c Q ⟨nt, mkD b :: ds, none⟩ env) : Gc P w0 F0 L (.rangeFunc g ps assign body) Q ⟨nt, ds, none⟩ env := by
  intro w hw
  refine wpIn_rangeFunc fun fn _ => ?_
  have hrun := run_enterLoop_outer (P := P) (w := w) fn (fr ⟨nt, ds, none⟩ env).tmps ps assign body
  have hl0 : ∀ st pe, ∃ r : Loop, r = { state := st, pending := pe, fn, tmps := (fr ⟨nt, ds, none⟩ env).tmps, params := ps, assign, body, defers := w.heap.size } := fun _ _ => ⟨_, rfl⟩
  obtain ⟨rec, hrec⟩ : ∃ rec : LoopState → Option Code → Loop, rec = fun st pe => { state := st, pending := pe, fn, tmps := (fr ⟨nt, ds, none⟩ env).tmps, params := ps, assign, body, defers := w.heap.size } := ⟨_, rfl⟩
  obtain ⟨F, hF, hst⟩ := hw
  obtain ⟨F1, F2, h1, h2, hE, hd⟩ := hsel.split hF
  have hlt1 := stars_lt h1
  have hlt2 := stars_lt h2
  obtain ⟨wa, hwa⟩ : ∃ wa, (w.alloc (.deferred (some []))).alloc (.loop (rec .ready none)) = wa := ⟨_, rfl⟩
  have hsize : wa.heap.size = w.heap.size + 2 := by rw [← hwa]; simp
  have hold : ∀ k, k < w.heap.size → wa.heap[k]? = w.heap[k]? := fun k hk => by
    rw [← hwa]
    exact (RowKit.Below.heap_alloc _ _ k (by simp; omega)).trans (RowKit.Below.heap_alloc w _ k hk)
  have hL1 : wa.heap[w.heap.size + 1]? = some (.loop (rec .ready none)) := by
    rw [← hwa]; have := World.alloc_heap_new (w.alloc (.deferred (some []))) (.loop (rec .ready none)); rwa [World.size_alloc] at this
  have hB1 : wa.heap[w.heap.size]? = some (.deferred (some [])) := by
    rw [← hwa]; exact (RowKit.Below.heap_alloc _ _ _ (by simp)).trans (World.alloc_heap_new w _)
  have hos : wa.os = w.os ∧ wa.tape = w.tape ∧ wa.output = w.output := by rw [← hwa]; exact ⟨rfl, rfl, rfl⟩
  have h1a : stars (own ++ I 0) wa F1 := stars_loc h1 fun k hk => hold k (hlt1 k hk)
  have h2a : stars L' wa F2 := stars_loc h2 fun k hk => hold k (hlt2 k hk)
  -- what the iterator is handed
  let F1a : Nat → Prop := fun k => k = w.heap.size + 1 ∨ F1 k
  have hown : stars (own ++ lpR (w.heap.size + 1) (rec .ready none) :: I 0) wa F1a :=
    stars_in1 ⟨fun k => k = w.heap.size + 1, F1, ⟨fun k => Iff.rfl, hL1⟩, h1a, fun k => Iff.rfl, fun k hk h => by have := hlt1 k h; omega⟩
  have hown := stars_tail hown
  have hda : ∀ k, F1a k → ¬ F2 k := fun k hk h => hk.elim (fun e => by have := hlt2 k h; omega) (fun h' => hd k h' h)
  let F2a : Nat → Prop := fun k => k = w.heap.size ∨ F2 k
  have h2d : stars (dfR w.heap.size :: L') wa F2a := ⟨fun k => k = w.heap.size, F2, ⟨fun k => Iff.rfl, hB1⟩, h2a, fun k => Iff.rfl, fun k hk h => by have := hlt2 k h; omega⟩
  have hda2 : ∀ k, F1a k → ¬ F2a k := fun k hk h => h.elim (fun e => hk.elim (fun e' => by omega) (fun h' => by have := hlt1 k h'; omega)) (hda k hk)
  have hsta : Stp w0 F0 wa (fun k => F1a k ∨ F2a k) :=
    ⟨hos.1.trans hst.os, hos.2.1.trans hst.tape, hos.2.2.trans hst.output, by rw [hsize]; have := hst.size; omega, fun k hk hn => (hold k (Nat.lt_of_lt_of_le hk hst.size)).trans (hst.block k hk hn),
      fun k hk => by
        have : F k ∨ w.heap.size ≤ k := by
          rcases hk with (h | h) | (h | h)
          · right; omega
          · exact .inl ((hE k).2 (.inl h))
          · right; omega
          · exact .inl ((hE k).2 (.inr h))
        rcases this with h | h
        · exact hst.own k h
        · right; have := hst.size; omega⟩
  let J : Nat → Res := fun i => allR (lpR (w.heap.size + 1) (rec .ready none) :: I i)
  let Jx : Res := exR fun i => exR fun c => allR (lpR (w.heap.size + 1) (rec .done (some c)) :: X i c)
  have hrounds : RoundsAt P (w.heap.size + 1) enc G J Jx wa F1a := by
    intro i x W G1 G2 g1 gd gst
    have g1' : stars (lpR (w.heap.size + 1) (rec .ready none) :: (G i x ++ I i)) W G1 := stars_out1 (stars_untail g1)
    have hl : W.heap[w.heap.size + 1]? = some (.loop (rec .ready none)) := by
      obtain ⟨A, B, ⟨_, h⟩, _⟩ := g1'
      exact h
    have hy := run_yield (P := P) (args := enc i x) hl (by rw [hrec]; exact hsz i x)
    rw [hrec] at hy
    have g2 : stars L' W F2 := stars_loc h2a fun k hk => gst.block k (by have := hlt2 k hk; omega) (fun h => hda k h hk)
    have gd2 : ∀ k, G1 k → ¬ F2 k := fun k hk h => (gst.own k (.inl hk)).elim (fun h' => hda k h' h) (fun h' => by have := hlt2 k h; omega)
    have hall : Stp w0 F0 W (fun k => G1 k ∨ F2 k) := (hsta.trans (gst.frame (F2 := F2a))).weak fun k hk => hk.elim (fun h => .inl (.inl h)) (fun h => .inr (.inr h))
    have hb := hrd (w.heap.size + 1) (rec .ready none) (rec .busy none) i x W G1 F2 g1' g2 gd2 hall
    refine ⟨fn, _, assign, body, hy, roundIn_of_wpIn trivial ?_⟩
    have hA : ({ tmps := ((ps.zip (enc i x)).foldl (fun tmps (t, a) => tmps.setIfInBounds t a) (fr ⟨nt, ds, none⟩ env).tmps), defers := [] } : Act) = fr ⟨nt, [], some (w.heap.size + 1)⟩ (zipE ps.toList (enc i x).toList env) := by
      rw [← fr_zip]
      simp only [fr, Act.mk.injEq, and_true]
      rw [← Array.foldl_toList, Array.toList_zip]
    have hb' := hb W (St.init g1')
    rw [← hA] at hb'
    refine wpIn_mono hb' ?_
    intro e a1 w1 hq
    cases e with
    | normal =>
      obtain ⟨L1, env1, rfl, hs1, hbody⟩ := hq
      obtain ⟨hl1, hs2⟩ := hs1.lp (r' := rec .busy none)
      refine ⟨_, run_beginRound hl1 (by rw [hrec]), ?_⟩
      have hbb := hbody _ (by rw [hrec] at hs2 ⊢; exact hs2)
      rw [hrec] at hbb ⊢
      refine wpIn_mono hbb ?_
      intro e2 a2 w2 hq2
      cases e2 with
      | normal =>
        obtain ⟨hl2, hs3⟩ := St.lp (r' := rec .ready none) hq2
        refine ⟨_, _, run_endRound none hl2, true, rfl, ?_⟩
        rw [hrec] at hs3
        simp only [J, hrec]
        obtain ⟨H, hH, hh⟩ := hs3
        exact ⟨H, stars_all_mk (by rw [List.append_nil]; exact hH), hh⟩
      | ret =>
        obtain ⟨hl2, hs3⟩ := St.lp (r' := rec .done (some .ret)) hq2
        refine ⟨_, _, run_endRound (some .ret) hl2, false, rfl, ?_⟩
        rw [hrec] at hs3
        obtain ⟨H, hH, hh⟩ := hs3
        exact ⟨H, stars_ex_mk i (stars_ex_mk Code.ret (stars_all_mk (by rw [List.append_nil, hrec]; exact hH))), hh⟩
      | exit id =>
        obtain ⟨hl2, hs3⟩ := St.lp (r' := rec .done (some (.exit id))) hq2
        refine ⟨_, _, run_endRound (some (.exit id)) hl2, false, rfl, ?_⟩
        rw [hrec] at hs3
        obtain ⟨H, hH, hh⟩ := hs3
        exact ⟨H, stars_ex_mk i (stars_ex_mk (Code.exit id) (stars_all_mk (by rw [List.append_nil, hrec]; exact hH))), hh⟩
      | goto t => exact hq2.elim
      | panic c => exact hq2.elim
      | outgrown => exact hq2.elim
    | exit id => exact hq.elim
    | ret => exact hq.elim
    | goto t => exact hq.elim
    | panic c => exact hq.elim
    | outgrown => exact hq.elim
  have hcall := hit (w.heap.size + 1) J Jx wa F1a F2 hown h2a hda (hsta.weak fun k hk => hk.elim .inl (fun h => .inr (.inr h))) hrounds
  refine ⟨w.heap.size + 1, [mkD w.heap.size], wa, { target := .fn (.func gf) lb, args := #[.func (.yield (w.heap.size + 1)) #[] #[]] }, wa, gf, #[.func (.yield (w.heap.size + 1)) #[] #[]] ++ lb, wa, ?_, ?_, ?_, ?_, ?_, ?_⟩
  · rw [show (FR (⟨nt, ds, none⟩ : Fm).ro).round = none from rfl, ← hwa, hrec]; exact hrun
  · have hg' : (fr ⟨nt, ds, none⟩ env).eval g = .func (.func gf) #[] lb := by rw [fr_eval]; exact hg
    simp only [resolve, hg']
    simp [go_sem]
  · intro f' _; trivial
  · unfold okCall at eg
    cases hp : P.funcs[gf]? with
    | none => simp [hp] at eg
    | some fn' =>
      cases hb : fn'.body with
      | none => simp [hp, hb] at eg
      | some c =>
        have hn : ¬ fn'.name = "runtime.NumGoroutine" := by simpa [hp, hb] using eg
        simp [invoke, callFunc, program, Sem.run, hp, hb, hn]
  · exact deep_FR _
  · refine callsIn_FR.2 (hcall.mono ?_)
    rintro e w2 ⟨y, rfl, hs⟩
    have hs2 := St.call hsta h2d (fun k => Iff.rfl) hda2 hs
    cases hy : fin y with
    | some m =>
      simp only [hy] at hs2
      have hs3 : St w0 F0 (lpR (w.heap.size + 1) (rec .ready none) :: ((I m ++ O y) ++ (dfR w.heap.size :: L'))) w2 := by
        obtain ⟨H, hH, hh⟩ := hs2
        exact ⟨H, by simpa using stars_all hH, hh⟩
      obtain ⟨hl, hs4⟩ := St.lp_out (o := .loop { (rec .ready none) with state := .exhausted }) hs3
      have hpe : (rec .ready none).pending = none := by rw [hrec]
      refine ⟨none, _, (run_endLoop (P := P) hl (by rw [hrec]; simp)).trans (congrArg (fun p => Result.ok p _) hpe), ?_⟩
      exact hdone w.heap.size y m hy _ (by
        obtain ⟨H, hH, hh⟩ := hs4
        exact ⟨H, stars_out1 hH, hh⟩)
    | none =>
      simp only [hy] at hs2
      obtain ⟨H, hH, hh⟩ := hs2
      obtain ⟨i, hH⟩ := stars_ex hH
      obtain ⟨c, hH⟩ := stars_ex hH
      have hH := stars_all hH
      have hs3 : St w0 F0 (lpR (w.heap.size + 1) (rec .done (some c)) :: ((X i c ++ O y) ++ (dfR w.heap.size :: L'))) w2 := ⟨H, by simpa using hH, hh⟩
      obtain ⟨hl, hs4⟩ := St.lp_out (o := .loop { (rec .done (some c)) with state := .exhausted }) hs3
      have hpe : (rec .done (some c)).pending = some c := by rw [hrec]
      refine ⟨some c, _, (run_endLoop (P := P) hl (by rw [hrec]; simp)).trans (congrArg (fun p => Result.ok p _) hpe), ?_⟩
      exact hstop w.heap.size y i c hy _ (by
        obtain ⟨H, hH, hh⟩ := hs4
        exact ⟨H, stars_out1 hH, hh⟩)
theorem gc_noway {c : Code} {b : Nat} {O L' : List Res} : Gc P w0 F0 (dfR b :: ([pureR False] ++ O) ++ L') c Q n env := fun w hw => by
  obtain ⟨F, hF, _⟩ := hw
  obtain ⟨F1, F2, _, h2, _⟩ := hF
  exact (stars_pure h2).1.elim
theorem gx_thenM {n m : Fm} {y : Code} {Q' : Exit → Act → World → Prop} (h : Gc P w0 F0 L y Q n env) (hr : m.ro = n.ro := by rfl) : Gx w0 F0 L (Exit.then (cwp m P y Q) Q') .normal n env := fun w hw => by
  show y.wpIn (FR m.ro) 0 P Q _ w
  rw [hr]; exact h w hw
def bodyPostN (P : Program) (fn : Func) (R : Ending → World → Prop) : Exit → Act → World → Prop
  | .normal, a, w | .ret, a, w => LeavesInM (FR none) 0 P fn a.tmps R a.defers .returning w
  | _, _, _ => False
theorem g_enterM {f : FuncId} {fn : Func} {c : Code} {args : Array Value} {w : World} {F : Nat → Prop} {R : Ending → World → Prop} (hf : P.funcs[f]? = some fn) (hb : fn.body = some c)
    (hs : stars L w F) {nt : Nat} (hnt : fn.ntmps = nt) (hn : Nat.ble args.size nt = true) (henv : enumE 0 args.toList = env) (h : Gc P w F L c (bodyPostN P fn R) ⟨nt, [], none⟩ env) : Calls P f args w R :=
  callsIn_FR.1 (callsIn_of_wp_marks (F := FR none) (n := 0) hf hb trivial (by subst hnt; subst henv; rw [fr_init _ _ (by exact Nat.le_of_ble_eq_true hn)]; exact wpIn_mono (h w (St.init hs)) (fun e a w' hq => by cases e <;> first | exact hq | exact hq.elim)))
theorem gx_mark {fn : Func} {R : Ending → World → Prop} {b nt : Nat} {ds : List Deferred} {ro : Option Nat} {L' : List Res} (hp : Pick L (dfR b) L') (h : Gx w0 F0 L' (bodyPostN P fn R) .ret ⟨nt, ds, ro⟩ env) : Gx w0 F0 L (bodyPostN P fn R) .ret ⟨nt, mkD b :: ds, ro⟩ env := fun w hw => by
  obtain ⟨hb, hs⟩ := hw.df_out (o := .deferred none) hp
  exact ⟨by simp, .inl ⟨b, _, rfl, run_takeDeferred hb, h _ hs⟩⟩
theorem gx_mark0 {fn : Func} {R : Ending → World → Prop} {nt : Nat} {ro : Option Nat} (h : Gx w0 F0 L (bodyPost P fn R) .ret ⟨nt, [], ro⟩ env) : Gx w0 F0 L (bodyPostN P fn R) .ret ⟨nt, [], ro⟩ env := fun w hw => (h w hw).2
end
end
section
def RdRec (w : World) (A : Nat → Prop) (cs : List Value) (r : LRec) : Prop :=
  ∃ a1 n1 c1 a2 n2 c2, cs = dc (idOf r.b) ++ [.slice a1 n1 c1, .slice a2 n2 c2] ∧ n1 ≤ c1 ∧ n2 ≤ c2 ∧ RdRow w A 1 a1 n1 (r.bs.map B8) ∧ RdRow w A 1 a2 n2 (r.cs.map B8)
theorem RdRec.mv {w w' : World} {A A' : Nat → Prop} {cs : List Value} {r : LRec} (h : RdRec w A cs r) (hk : Still w A w' A') : RdRec w' A' cs r := by
  obtain ⟨a1, n1, c1, a2, n2, c2, h1, h2, h3, h4, h5⟩ := h; exact ⟨a1, n1, c1, a2, n2, c2, h1, h2, h3, h4.mv hk, h5.mv hk⟩
instance : RdK RdRec := ⟨fun h k => h.mv k⟩
theorem RdRec.len {w : World} {A : Nat → Prop} {cs : List Value} {r : LRec} (h : RdRec w A cs r) : cs.length = 18 := by obtain ⟨_, _, _, _, _, _, h, _⟩ := h; subst h; simp [dc_length]
theorem RdRec.one {w : World} {A : Nat → Prop} {cs : List Value} {r : LRec} (h : RdRec w A cs r) : ∀ v ∈ cs, v.oneCell' = true := by
  obtain ⟨_, _, _, _, _, _, h, _⟩ := h; subst h; exact all_app' (dc_one _) (all_cons' rfl (all_cons' rfl all_nil'))
theorem zD_one : ∀ v ∈ zD, v.oneCell' = true := fun v hv => by rw [List.eq_of_mem_replicate hv]; rfl
def recZ : List Value := zD ++ [.slice none 0 0, .slice none 0 0]
def RdMade (w : World) (A : Nat → Prop) (cs : List Value) (x : Block × QC) : Prop := if madeE x.1 x.2 = 0 then RdRec w A cs ⟨x.1, x.2⟩ else cs = recZ
instance : RdK RdMade := ⟨fun {w w' A A' cs x} h k => by unfold RdMade at *; split at h <;> rename_i hh; rw [if_pos hh]; exact RdRec.mv h k; rw [if_neg hh]; exact h⟩
theorem RdMade.len {w : World} {A : Nat → Prop} {cs : List Value} {x : Block × QC} (h : RdMade w A cs x) : cs.length = 18 := by
  unfold RdMade at h; split at h
  · exact h.len
  · subst h; rfl
theorem RdMade.one {w : World} {A : Nat → Prop} {cs : List Value} {x : Block × QC} (h : RdMade w A cs x) : ∀ v ∈ cs, v.oneCell' = true := by
  unfold RdMade at h; split at h
  · exact h.one
  · subst h; exact all_app' zD_one (all_cons' rfl (all_cons' rfl all_nil'))
theorem made_none {b : Block} {c : QC} (h : madeE b c ≠ 0) {w : World} {A : Nat → Prop} : RdMade w A recZ (b, c) := by unfold RdMade; rw [if_neg h]
theorem rd_cert {w : World} {A : Nat → Prop} {q : List Value} {c : QC} (h : RdQC w A q c) {cs : List Value} (hc : cs = .int .i64 0 :: .int .i64 0 :: (zD ++ (q ++ [.slice none 0 0, .slice none 0 0]))) : RdBlock w A cs (certB c) :=
  ⟨q, none, 0, 0, none, 0, 0, hc.trans (by rw [show zD = dc dig0 from rfl]; rfl), h, Nat.le_refl 0, RdList.nil, Nat.le_refl 0, RdList.nil⟩
theorem vl_rec {b : Block} {c : QC} {w : World} {F : Nat → Prop} {a1 a2 : Option Addr} {c1 c2 e1 e2 n1 n2 : Nat} {l1 l2 : List UInt8} {cs : List Value} (hm : madeE b c = 0) (h : stars [rowR e1 1 a1 n1 c1 (l1.map B8), rowR e2 1 a2 n2 c2 (l2.map B8)] w F)
    (hb : l1 = (⟨b, c⟩ : LRec).bs) (hc : l2 = (⟨b, c⟩ : LRec).cs) (hcs : cs = dc (idOf b) ++ [.slice a1 n1 c1, .slice a2 n2 c2]) : stars [VlR RdMade cs (b, c)] w F := by
  subst hb; subst hc
  obtain ⟨F1, F2, h1, h2, hF⟩ := stars_two h
  refine rdR_mk ?_ h
  unfold RdMade
  rw [if_pos hm]
  exact ⟨a1, n1, c1, a2, n2, c2, hcs, h1.2.1, h2.2.1, (rowR.rd h1).mv (still_sub fun k hk => (hF k).2 (.inl hk)), (rowR.rd h2).mv (still_sub fun k hk => (hF k).2 (.inr hk))⟩
instance : One recZ := One.of (all_app' zD_one (all_cons' rfl (all_cons' rfl all_nil')))
instance : Len recZ 18 := ⟨rfl⟩
attribute [local irreducible] Gl Gc Gx Gs Runs Wt
attribute [local irreducible] dc
theorem sectors_ok {w : World} {F : Nat → Prop} {n : Nat} (h : stars [] w F) (hn : n ≤ 1099511627776) :
    Calls Tryz.prog 60 #[.int .i64 (n : Int)] w (Post w F (fun _ : Unit => .int .i64 (nsec n : Int)) (fun _ => [])) := by
 refine g_enter (env := [(0, .int .i64 (n : Int))]) Tryz.func60 rfl h Tryz.ntmps60 rfl rfl ?_; refine gsr (zxa ?_); refine zxs ?_; refine zxm ?_; refine gp zad ?_; refine gp zsb ?_; refine gp (r_int (j := (nsec n : Int)) (zqu (i := (n : Int) + 64 - 1) (j := 64)) (by rw [Int.tdiv_eq_ediv_of_nonneg (by omega), wrap_i64 (by omega) (by omega)]; unfold nsec; omega)) ?_; refine zxa ?_; refine gnt (gc_ret (gx_ret1 rfl (by conv => lhs; whnf) ?_)); exact ze ()
theorem made_ok' {w : World} {F : Nat → Prop} {TE : Nat} {ea : Nat → Addr} {cs qs : List Value} {b : Block} {c : QC} (h : stars [] w F) {es : List Nat} [Has es 1] [Has es 4] [Has es 12] (hE : GErr es w (fun k => ¬ F k) TE ea) (hK : KR w (fun k => ¬ F k)) (hx : RdBlock w (fun k => ¬ F k) cs b) (hq : RdQC w (fun k => ¬ F k) qs c) :
    Calls Tryz.prog 32 #[.agg cs.toArray, .agg qs.toArray] w (Post w F (fun r : List Value => .tuple #[.agg r.toArray, eV TE ea (madeE b c)]) (fun r => [pureR (r.length = 18 ∧ ∀ v ∈ r, v.oneCell' = true), VlR RdMade r (b, c)])) := by
 have hx' := hx
 have hq' := hq
 obtain ⟨av, nv, kv, rfl, hq1, hq2⟩ := hq'; obtain ⟨q, a1, n1, c1, a2, n2, c2, rfl, hx1, hx2, hx3, hx4, hx5⟩ := hx'; have hl2 := hx1.len
 have il2 := Len.of hl2
 have jl2 := One.of hx1.one
 refine g_enter (env := [(0, _), (1, _)]) Tryz.func32 rfl h Tryz.ntmps32 rfl rfl ?_; refine gsr (zbN fun b2 => ?_); refine zbN fun b3 => ?_; refine zal fun b4 => ?_; refine gl_eqc (cs' := recZ) (by repeat (first | exact Pick.here | apply Pick.there)) (by kernel_rfl) ?_; refine zxa ?_; refine zxs ?_; refine gp zL ?_; refine zc (fun _ => ?_) (c := fun w1 F1 F2 h1 h2 hd hst => id_ok h1 (hE.mv hst.still) (hK.mv hst.still) (hx.mv hst.still))
 refine zxm ?_; refine gp zex ?_; refine gp zex ?_; refine zal fun b6 => ?_; refine zsN ?_; refine zxa ?_; refine gnt (gc_seq (gsr (zxm ?_))); refine gp (r_nenil rfl (by kernel_rfl)) ?_; refine gnt (gif rfl (fun hc16 => ?_) (fun hc16 => ?_))
 ·try simp only at hc16
  have e1 : (wBlock b ⟨0, []⟩).err ≠ 0 := by simpa using hc16
  refine gc_seq (gc_regionZ 3 [] ?_); refine yps 0 rfl zbu ?_; refine yps 1 rfl (r_ld1o rfl Ty.row_27 (hE.c 4 Has.h) (hE.n 4 Has.h)) ?_; refine yos 2 rfl ?_; refine zsN ?_; refine yxs ?_; refine yzs rfl ?_; refine zxa ?_; refine gnt (gc_ret (gx_then_ret (gx_retct rfl rfl (by conv => lhs; whnf) (ldA Ty.row_92 Ty.sz_92) ?_))); intro w' hw; have he : madeE b c = 4 := by unfold madeE blkW; rw [if_pos e1]
  exact ⟨recZ, by rw [he]; rfl, St.pureI ⟨rfl, One.h⟩ (St.vl (hw.z) (made_none (by rw [he]; decide)))⟩
 ·try simp only at hc16
  have e1 : (wBlock b ⟨0, []⟩).err = 0 := by simpa using hc16
  refine gc_skip (gx_then (gsr (gp zL ?_))); refine zc ?_ (c := fun w1 F1 F2 h1 h2 hd hst => bytes_ok h1 (hE.mv hst.still) (hx.mv hst.still))
  rintro ⟨a21, c21⟩
  refine zxm ?_; refine gp zex ?_; refine gp zex ?_; refine zxa ?_; refine zxa ?_; refine gnt (gc_seq (gsr (zxm ?_))); refine gp (r_nenil rfl (by kernel_rfl)) ?_; refine gnt (gif rfl (fun hc25 => ?_) (fun hc25 => ?_))
  ·try simp only at hc25
   exfalso; simp [e1] at hc25
  ·refine gc_skip (gx_then (gsr (gp zL ?_))); refine gp zbu ?_; refine zc ?_ (c := fun w1 F1 F2 h1 h2 hd hst => bytes_ok (x := certB c) h1 (hE.mv hst.still) (rd_cert (cs := .int .i64 0 :: .int .i64 0 :: (zD ++ (.int .i64 c.epoch :: .int .i64 c.round :: (dc c.block ++ [.slice av nv kv, .slice none 0 0, .slice none 0 0])))) (hq.mv hst.still) (by simp)))
   rintro ⟨a31, c31⟩
   refine zxm ?_; refine gp zex ?_; refine gp zex ?_; refine zxa ?_; refine zxa ?_; refine gnt (gc_seq (gsr (zxm ?_))); refine gp (r_nenil rfl (by kernel_rfl)) ?_; refine gnt (gif rfl (fun hc35 => ?_) (fun hc35 => ?_))
   ·try simp only at hc35
    have e2 : (wBlock (certB c) ⟨0, []⟩).err ≠ 0 := by simpa using hc35
    refine gc_seq (gc_regionZ 3 [] ?_); refine yps 0 rfl zbu ?_; refine yps 1 rfl (r_ld1o rfl Ty.row_27 (hE.c 4 Has.h) (hE.n 4 Has.h)) ?_; refine yos 2 rfl ?_; refine zsN ?_; refine yxs ?_; refine yzs rfl ?_; refine zxa ?_; refine gnt (gc_ret (gx_then_ret (gx_retct rfl rfl (by conv => lhs; whnf) (ldA Ty.row_92 Ty.sz_92) ?_))); intro w' hw; have he : madeE b c = 4 := by unfold madeE blkW; rw [if_neg (by simpa using e1), if_pos e2]
    exact ⟨recZ, by rw [he]; rfl, St.pureI ⟨rfl, One.h⟩ (St.vl (hw.z) (made_none (by rw [he]; decide)))⟩
   ·try simp only at hc35
    have e2 : (wBlock (certB c) ⟨0, []⟩).err = 0 := by simpa using hc35
    refine gc_skip (gx_then (gc_seq (gc_seq ?_))); by_cases hS1 : c.block = idOf b
    ·by_cases hS2 : c.epoch = b.epoch
     ·by_cases hS3 : c.round = b.round
      ·refine gc_region (gp zfa ?_); refine gp zL ?_; refine gp zL ?_; refine gp (r_bool (c := false) znd (by simp [hS1])) ?_; refine zxm ?_; refine gq zfa ?_; refine gq zl ?_; refine gq zfa ?_; refine gq zl ?_; refine gq (r_bool (c := false) zni (by simp [hS2])) ?_; refine gp zpk ?_; refine zxm ?_; refine gq zfa ?_; refine gq zl ?_; refine gq zfa ?_; refine gq zl ?_; refine gq (r_bool (c := false) zni (by simp [hS3])) ?_; refine gp zpk ?_; refine gnt (gc_condF rfl rfl ?_); refine gc_skip (gx_then (gsr (gp zL ?_))); refine zxm ?_; refine zxm ?_; refine gp zbu ?_; refine zsN ?_; refine zxa ?_; refine gnt (gc_ret (gx_retct rfl rfl (by conv => lhs; whnf) (ldA Ty.row_92 Ty.sz_92) ?_)); intro w' hw; have he : madeE b c = 0 := by unfold madeE blkW; rw [if_neg (by simpa using e1), if_neg (by simpa using e2), if_pos ⟨hS1, hS2, hS3⟩]
       have hw := hw.conv (M := [rowR 5 1 a21 (wOut (wBlock b ⟨0, []⟩)).length c21 ((wOut (wBlock b ⟨0, []⟩)).map B8), rowR 5 1 a31 (wOut (wBlock (certB c) ⟨0, []⟩)).length c31 ((wOut (wBlock (certB c) ⟨0, []⟩)).map B8)]) (by repeat (first | exact Sel.nil | (apply Sel.cons; · (repeat (first | exact Pick.here | apply Pick.there))))) (fun _ _ h => vl_rec he h (by rw [wOut, if_pos e1]; rfl) (by rw [wOut, if_pos e2]; rfl) rfl)
       exact ⟨_, by rw [he, eV_zero], St.pureI ⟨by simp [dc_length], all_app' (dc_one _) (all_cons' rfl (all_cons' rfl all_nil'))⟩ (hw.z)⟩
      ·refine gc_region (gp zfa ?_); refine gp zL ?_; refine gp zL ?_; refine gp (r_bool (c := false) znd (by simp [hS1])) ?_; refine zxm ?_; refine gq zfa ?_; refine gq zl ?_; refine gq zfa ?_; refine gq zl ?_; refine gq (r_bool (c := false) zni (by simp [hS2])) ?_; refine gp zpk ?_; refine zxm ?_; refine gq zfa ?_; refine gq zl ?_; refine gq zfa ?_; refine gq zl ?_; refine gq (r_bool (c := true) zni (by simp [hS3])) ?_; refine gp zpk ?_; refine gnt (gc_condT rfl rfl ?_); refine gc_seq (gc_regionZ 3 [] ?_); refine yps 0 rfl zbu ?_; refine yps 1 rfl (r_ld1o rfl Ty.row_27 (hE.c 12 Has.h) (hE.n 12 Has.h)) ?_; refine yos 2 rfl ?_; refine zsN ?_; refine yxs ?_; refine yzs rfl ?_; refine zxa ?_; refine gnt (gc_ret (gx_then_ret (gx_retct rfl rfl (by conv => lhs; whnf) (ldA Ty.row_92 Ty.sz_92) ?_))); intro w' hw; have he : madeE b c = 12 := by unfold madeE blkW; rw [if_neg (by simpa using e1), if_neg (by simpa using e2), if_neg (fun h => by simp_all)]
       exact ⟨recZ, by rw [he]; rfl, St.pureI ⟨rfl, One.h⟩ (St.vl (hw.z) (made_none (by rw [he]; decide)))⟩
     ·refine gc_region (gp zfa ?_); refine gp zL ?_; refine gp zL ?_; refine gp (r_bool (c := false) znd (by simp [hS1])) ?_; refine zxm ?_; refine gq zfa ?_; refine gq zl ?_; refine gq zfa ?_; refine gq zl ?_; refine gq (r_bool (c := true) zni (by simp [hS2])) ?_; refine gp zpk ?_; refine zxm ?_; refine gn ?_; refine gn ?_; refine gn ?_; refine gn ?_; refine gn ?_; refine gp zpk ?_; refine gnt (gc_condT rfl rfl ?_); refine gc_seq (gc_regionZ 3 [] ?_); refine yps 0 rfl zbu ?_; refine yps 1 rfl (r_ld1o rfl Ty.row_27 (hE.c 12 Has.h) (hE.n 12 Has.h)) ?_; refine yos 2 rfl ?_; refine zsN ?_; refine yxs ?_; refine yzs rfl ?_; refine zxa ?_; refine gnt (gc_ret (gx_then_ret (gx_retct rfl rfl (by conv => lhs; whnf) (ldA Ty.row_92 Ty.sz_92) ?_))); intro w' hw; have he : madeE b c = 12 := by unfold madeE blkW; rw [if_neg (by simpa using e1), if_neg (by simpa using e2), if_neg (fun h => by simp_all)]
      exact ⟨recZ, by rw [he]; rfl, St.pureI ⟨rfl, One.h⟩ (St.vl (hw.z) (made_none (by rw [he]; decide)))⟩
    ·refine gc_region (gp zfa ?_); refine gp zL ?_; refine gp zL ?_; refine gp (r_bool (c := true) znd (by simp [hS1])) ?_; refine zxm ?_; refine gn ?_; refine gn ?_; refine gn ?_; refine gn ?_; refine gn ?_; refine gp zpk ?_; refine zxm ?_; refine gn ?_; refine gn ?_; refine gn ?_; refine gn ?_; refine gn ?_; refine gp zpk ?_; refine gnt (gc_condT rfl rfl ?_); refine gc_seq (gc_regionZ 3 [] ?_); refine yps 0 rfl zbu ?_; refine yps 1 rfl (r_ld1o rfl Ty.row_27 (hE.c 12 Has.h) (hE.n 12 Has.h)) ?_; refine yos 2 rfl ?_; refine zsN ?_; refine yxs ?_; refine yzs rfl ?_; refine zxa ?_; refine gnt (gc_ret (gx_then_ret (gx_retct rfl rfl (by conv => lhs; whnf) (ldA Ty.row_92 Ty.sz_92) ?_))); intro w' hw; have he : madeE b c = 12 := by unfold madeE blkW; rw [if_neg (by simpa using e1), if_neg (by simpa using e2), if_neg (fun h => by simp_all)]
     exact ⟨recZ, by rw [he]; rfl, St.pureI ⟨rfl, One.h⟩ (St.vl (hw.z) (made_none (by rw [he]; decide)))⟩
end
section
theorem list_two {w : World} {A : Nat → Prop} {a a1 a2 : Option Addr} {n1 c1 n2 c2 : Nat} {l1 l2 : List UInt8} (hr : RdRow w A 1 a 2 [.slice a1 n1 c1, .slice a2 n2 c2]) (k1 : n1 ≤ c1) (k2 : n2 ≤ c2) (h1 : RdRow w A 1 a1 n1 (l1.map B8)) (h2 : RdRow w A 1 a2 n2 (l2.map B8)) :
    RdList (RdBytes w A) w A 1 a 2 [l1, l2] :=
  ⟨[[.slice a1 n1 c1], [.slice a2 n2 c2]], hr, by simp, rfl, fun i c x hc hx => by
    match i with
    | 0 => simp at hc hx; subst hc; subst hx; exact ⟨_, _, _, rfl, k1, h1⟩
    | 1 => simp at hc hx; subst hc; subst hx; exact ⟨_, _, _, rfl, k2, h2⟩
    | i + 2 => simp at hc⟩
theorem head_cells (k : Nat) (d : List UInt8) : updL (((firstL k d) ++ List.replicate 56 0).map B8) 8 (dc (dOf Kc 10 [firstL k d, d])) = sc (headL k d) := by
  have h8 : (firstL k d).length = 8 := firstL_len k d
  rw [show dc (dOf Kc 10 [firstL k d, d]) = (dOf Kc 10 [firstL k d, d]).l.map B8 from rfl, updL_updY]
  simp only [updY, sc, headL]
  rw [List.take_left' h8, List.drop_append, List.drop_eq_nil_of_le (by rw [h8, Dig.h]; omega), h8, Dig.h]
  simp
theorem first_cells (k : Nat) (d : List UInt8) : updL ((List.replicate 64 (0 : UInt8)).map B8) 0 ((firstL k d).map B8) = ((firstL k d) ++ List.replicate 56 0).map B8 := by
  have h8 : (firstL k d).length = 8 := firstL_len k d
  rw [updL_updY]; simp [updY, h8]
theorem wfirst {k n : Nat} (hk : k < 4294967296) (hn : n < 4294967296) : wNum (k : Int) 4 (wNum (n : Int) 4 ⟨0, []⟩) = ⟨0, beN (n : Int) 4 ++ beN (k : Int) 4⟩ := by
  have p4 : (256 : Nat) ^ 4 = 4294967296 := by decide
  rw [wNum_of (n := n) (by omega) rfl, wNum_of (n := k) (by omega) rfl]; simp
theorem wfirst1 {n : Nat} (hn : n < 4294967296) : (wNum (n : Int) 4 ⟨0, []⟩).bs.length ≤ 4 := by
  have p4 : (256 : Nat) ^ 4 = 4294967296 := by decide
  rw [wNum_of (by omega) rfl]; simp [beN_length]
structure LS where
  base : Int
  rs : List LRec
  e : Nat
def LedR (q g : Nat) (l : LS) : Res := exR fun x : (Option Addr × Nat) × List (List Value) => allR [pureR (∀ c ∈ x.2, c.length = 18), blk q 99 [.pointer (some ⟨g, 0, none⟩), .int .i64 l.base, .int .i64 l.e, .slice x.1.1 l.rs.length x.1.2], rowR 92 18 x.1.1 l.rs.length x.1.2 x.2.flatten, ElR RdRec x.2 l.rs]
section
variable {w0 w : World} {F F0 : Nat → Prop} {q g : Nat} {l : LS} {L : List Res} {Q : Exit → Act → World → Prop} {n : Fm} {env : Env} {ops : Array Oper} {rest : List Oper}
abbrev ledL (q g : Nat) (b e : Int) (a : Option Addr) (m c : Nat) (css : List (List Value)) (rs : List LRec) (L : List Res) : List Res := blk q 99 [.pointer (some ⟨g, 0, none⟩), .int .i64 b, .int .i64 e, .slice a m c] :: rowR 92 18 a m c css.flatten :: ElR RdRec css rs :: L
theorem led_open (h : stars (LedR q g l :: L) w F) : ∃ a c css, (∀ c ∈ css, List.length c = 18) ∧ stars (ledL q g l.base l.e a l.rs.length c css l.rs L) w F := by
  obtain ⟨⟨⟨a, c⟩, css⟩, h⟩ := stars_ex h
  obtain ⟨h1, h2⟩ := stars_pure (stars_all h)
  exact ⟨a, c, css, h1, h2⟩
theorem St.led {b e : Int} {a : Option Addr} {m c : Nat} {css : List (List Value)} {rs : List LRec} (h : St w0 F0 (ledL q g b e a m c css rs L) w) (h18 : ∀ c ∈ css, List.length c = 18) (hb : b = l.base) (he : e = l.e) (hrs : rs = l.rs) (hm : m = l.rs.length) : St w0 F0 (LedR q g l :: L) w := by
  subst hb; subst he; subst hrs; subst hm
  obtain ⟨F, hF, hst⟩ := h
  exact ⟨F, stars_ex_mk ((a, c), css) (stars_all_mk (stars_pure_mk h18 hF)), hst⟩
theorem St.led0 {b e : Int} (h : St w0 F0 (blk q 99 [.pointer (some ⟨g, 0, none⟩), .int .i64 b, .int .i64 e, .slice none 0 0] :: L) w) (hb : b = l.base) (he : e = l.e) (hrs : l.rs = []) : St w0 F0 (LedR q g l :: L) w := by
  have h1 : St w0 F0 (ledL q g b e none 0 0 [] [] L) w := by
    obtain ⟨F, hF, hst⟩ := h
    exact ⟨F, by
      have hr := el_nil (rd := RdRec) hF
      have h2 := stars_row_nil (e := 92) (size := 18) hr
      exact (Pick.there (Pick.there Pick.here)).stars h2 |> fun h3 => h3, hst⟩
  exact h1.led (by simp) hb he hrs.symm (by rw [hrs]; rfl)
theorem gl_led {L' : List Res} (hp : Pick L (LedR q g l) L') (k : ∀ a m css, (∀ c ∈ css, List.length c = 18) → Gl Tryz.prog w0 F0 (ledL q g l.base l.e a l.rs.length m css l.rs L') ops Q rest n env) : Gl Tryz.prog w0 F0 L ops Q rest n env := fun w hw => by
  obtain ⟨F, hF, hst⟩ := hw.pick hp
  obtain ⟨a, m, css, h18, h⟩ := led_open hF
  exact k a m css h18 w ⟨F, h, hst⟩
end
attribute [local irreducible] Gl Gc Gx Gs Runs Wt
theorem data_ok {w : World} {F : Nat → Prop} {TE : Nat} {ea : Nat → Addr} {cs : List Value} {r : LRec} (h : stars [] w F) {es : List Nat} [Has es 1] (hE : GErr es w (fun k => ¬ F k) TE ea) (hx : RdRec w (fun k => ¬ F k) cs r) :
    Calls Tryz.prog 33 #[.agg cs.toArray] w (Post w F (fun a : Option Addr × Nat => .tuple #[.slice a.1 r.data.length a.2, eV TE ea 0]) (fun a => [rowR 5 1 a.1 r.data.length a.2 (r.data.map B8)])) := by
 have hlb := bs_len r
 have hlc := cs_len r
 have hdl := data_len r
 obtain ⟨a1, n1, c1, a2, n2, c2, rfl, hx2, hx3, hx4, hx5⟩ := hx; have hw := wRec_ok hlb hlc
 unfold wRec at hw
 have hd : dataL r.bs r.cs = r.data := rfl
 have hb1 : (wBytes r.bs 65535 ⟨0, []⟩).bs.length ≤ 8487 := by rw [wBytes_fit rfl (by omega)]; simp [beN_length]; omega
 refine g_enter (env := [(0, _)]) Tryz.func33 rfl h Tryz.ntmps33 rfl rfl ?_; refine gsr (zbN fun b1 => ?_); refine zxa ?_; refine zxa ?_; refine zxs ?_; refine zc (fun g => ?_) (c := fun w1 F1 F2 h1 h2 hd hst => newwriter_ok (TE := TE) (ea := ea) h1)
 refine zxa ?_; refine zxs ?_; refine zxm ?_; refine gp zfa ?_; refine gp zl ?_; refine zc (fun _ => ?_) (c := fun w1 F1 F2 h1 h2 hd hst => wbytes_ok (b := r.bs) (most := 65535) h1 (hE.mv hst.still) (hx4.mv hst.still) (by decide) (by simp))
 refine zxs ?_; refine zxm ?_; refine gp zfa ?_; refine gp zl ?_; refine zc (fun _ => ?_) (c := fun w1 F1 F2 h1 h2 hd hst => wbytes_ok (b := r.cs) (most := 65535) h1 (hE.mv hst.still) (hx5.mv hst.still) (by decide) (by omega))
 rw [hw, hd]; refine zxs ?_; refine zxm ?_; refine zc ?_ (c := fun w1 F1 F2 h1 h2 hd hst => done_ok (s := ⟨0, r.data⟩) h1 (by show r.data.length ≤ _; omega))
 rintro ⟨a15, c15⟩
 refine gp zex ?_; refine gp zex ?_; refine zxa ?_; refine zxa ?_; refine gnt (gc_ret (gx_ret2 rfl (by conv => lhs; whnf) (by conv => lhs; whnf) ?_)); exact fun w' hw => ⟨(a15, c15), rfl, hw.z⟩
theorem head_ok {w : World} {F : Nat → Prop} {TE : Nat} {ea : Nat → Addr} {a : Option Addr} {n cc k : Nat} {d : List UInt8} (h : stars [] w F) {es : List Nat} [Has es 1] (hE : GErr es w (fun k => ¬ F k) TE ea) (hK : KR w (fun k => ¬ F k)) (hx : RdRow w (fun k => ¬ F k) 1 a n (d.map B8)) (hc : n ≤ cc) (hk : k < 4294967296) (hd : d.length < 4294967296) :
    Calls Tryz.prog 35 #[.int .i64 (k : Int), .slice a n cc] w (Post w F (fun _ : Unit => .tuple #[scV (headL k d), eV TE ea 0]) (fun _ => [])) := by
 have hn : n = d.length := by have := hx.1; simp at this; omega
 subst hn; have hw := wfirst hk hd
 have h8 := firstL_len k d
 have hl1 := wfirst1 hd
 refine g_enter (env := [(0, _), (1, _)]) Tryz.func35 rfl h Tryz.ntmps35 rfl rfl ?_; refine gsr (zal fun b4 => ?_); refine zxa ?_; refine zxs ?_; refine zal fun b6 => ?_; refine gl_eqc (cs' := (List.replicate 64 (0 : UInt8)).map B8) (by repeat (first | exact Pick.here | apply Pick.there)) (by simp [B8]) ?_; refine zxs ?_; refine zc (fun g => ?_) (c := fun w1 F1 F2 h1 h2 hd hst => newwriter_ok (TE := TE) (ea := ea) h1)
 refine zxa ?_; refine zxs ?_; refine zxm ?_; refine zxm ?_; refine gp zln ?_; refine zc (fun _ => ?_) (c := fun w1 F1 F2 h1 h2 hd hst => number_ok (n := (d.length : Int)) (wd := 4) h1 (hE.mv hst.still) (by decide) (by decide) (by simp))
 refine zxs ?_; refine zxm ?_; refine zxm ?_; refine zc (fun _ => ?_) (c := fun w1 F1 F2 h1 h2 hd hst => number_ok (n := (k : Int)) (wd := 4) h1 (hE.mv hst.still) (by decide) (by decide) (by omega))
 rw [hw, show beN (d.length : Int) 4 ++ beN (k : Int) 4 = firstL k d from rfl]; refine zxs ?_; refine zxm ?_; refine zc ?_ (c := fun w1 F1 F2 h1 h2 hd hst => done_ok (s := ⟨0, firstL k d⟩) h1 (by show (firstL k d).length ≤ _; omega))
 rintro ⟨a21, c21⟩
 rw [show wOut ⟨0, firstL k d⟩ = firstL k d from rfl]; refine zxm ?_; refine gp zex ?_; refine gp zex ?_; refine zxa ?_; refine zxa ?_; refine gnt (gc_seq (gsr (zxm ?_))); refine gp (r_nenil rfl (by kernel_rfl)) ?_; refine gnt (gc_condF rfl rfl ?_); refine gc_skip (gx_then (gsr (zxm ?_))); refine zxm ?_; refine gl_bsls (vs := [.slice a21 (firstL k d).length c21, .slice a d.length cc]) (wt0 rfl) Ty.sl_42 Ty.sz_49 Ty.zc_49 rfl rfl (all_cons' rfl (all_cons' rfl all_nil')) rfl rfl rfl (fun b30 => ?_)
 refine zc (fun _ => ?_) (c := fun w1 F1 F2 h1 h2 hd hst => of_ok (dom := 10) (parts := [firstL k d, d]) h1 (hK.mv hst.still) (list_two (rd_row (xs := [.slice a21 (firstL k d).length c21, .slice a d.length cc]) h2 hd (by repeat (first | exact Pick.here | apply Pick.there))) (rd_le (xs := (firstL k d).map B8) h2 (by repeat (first | exact Pick.here | apply Pick.there))) hc (rd_row (xs := (firstL k d).map B8) h2 hd (by repeat (first | exact Pick.here | apply Pick.there))) (hx.mv hst.still)) (by simp only [pcost, List.map_cons, List.map_nil, List.sum_cons, List.sum_nil]; omega))
 refine zal fun b10 => ?_; refine zsN ?_; refine gnt (gc_seq (gc_regionH [] ?_)); refine yp 0 rfl (r_slice_arr (l := 0) (h := 64) rfl Ty.arr_54 Ty.sz_5 rfl rfl (by omega) (by omega) (by omega)) ?_; refine yp 1 rfl zmv ?_; refine yp 4 rfl (r_slice_arr (l := 0) (h := 16) rfl Ty.arr_38 Ty.sz_5 rfl rfl (by omega) (by omega) (by omega)) ?_; refine yo 2 rfl ?_; refine gl_copy (news := (firstL k d).map B8) (hr := fun w' hw => hw.row (by repeat (first | exact Pick.here | apply Pick.there))) (hj := by omega) (h1 := one_B8 _) (hl := by simp; omega) (k := ?_)
 refine gl_eqc (cs' := (firstL k d ++ List.replicate 56 0).map B8) (by repeat (first | exact Pick.here | apply Pick.there)) (first_cells k d) ?_; refine yx ?_; refine yp 3 rfl (r_slice_arr (l := (firstL k d).length) (h := 64) rfl Ty.arr_54 Ty.sz_5 ⟨_, rfl⟩ rfl (by omega) (by omega) (by omega)) ?_; refine yo 5 rfl ?_; refine gl_copy (news := dc (dOf Kc 10 [firstL k d, d])) (hr := fun w' hw => (by have hx := hw.rdBlkY (l := (dOf Kc 10 [firstL k d, d]).l) (o := 0) (m := 16) (by repeat (first | exact Pick.here | apply Pick.there)) (by rw [Dig.h]; omega) (by decide); rw [List.drop_zero, List.take_of_length_le (by rw [Dig.h]; omega)] at hx; exact hx)) (hj := by omega) (h1 := dc_one _) (hl := by simp [h8]) (k := ?_)
 refine gl_eqc (cs' := sc (headL k d)) (by repeat (first | exact Pick.here | apply Pick.there)) (by simpa [h8] using head_cells k d) ?_; refine yx ?_; refine yd ?_; refine gx_then (gsr (gp (zL (sg := sc (headL k d))) ?_)); refine zsA (new := sc (headL k d)) (sc_length _) (sc_one _) ?_; refine zxa ?_; refine gnt (gc_ret (gx_retct rfl rfl (by conv => lhs; whnf) (ldA Ty.row_54 Ty.sz_54) ?_)); exact fun w' hw => ⟨(), by rw [eV_zero]; rfl, hw.z⟩
end
section
theorem rd_byte {w : World} {A : Nat → Prop} {a : Option Addr} {n i : Nat} {l : List UInt8} (h : RdRow w A 1 a n (l.map B8)) (hi : i < n) : ∃ g o, a = some ⟨g, o, none⟩ ∧ A g ∧ w.cell? ⟨g, o + i, none⟩ = some (B8 (l.getD i 0)) := by
  have hn : n = l.length := by have := h.1; simp at this; omega
  obtain ⟨g, o, ha, hA, _, hr⟩ := h.elem hi
  refine ⟨g, o, ha, hA, ?_⟩
  have := hr 0 (B8 (l.getD i 0)) (by simp [List.getD, show i < l.length by omega])
  simpa using this
theorem eq_step {l1 l2 : List UInt8} {k : Nat} (h1 : k < l1.length) (h2 : k < l2.length) (h : l1.take k = l2.take k) (he : l1.getD k 0 = l2.getD k 0) : l1.take (k + 1) = l2.take (k + 1) := by
  simp only [List.getD, List.getElem?_eq_getElem h1, List.getElem?_eq_getElem h2, Option.getD_some] at he
  rw [List.take_add_one, List.take_add_one, h, List.getElem?_eq_getElem h1, List.getElem?_eq_getElem h2, he]
theorem neq_at {l1 l2 : List UInt8} {k : Nat} (he : l1.getD k 0 ≠ l2.getD k 0) : l1 ≠ l2 := fun e => he (by rw [e])
def fmtL (d : DS) (b : Int) : Nat × DS := if d.has b = true then (if (d.wr b sec0).1 = 0 then (if (oper (d.wr b sec0).2).off = true then 6 else 0, (d.wr b sec0).2.syncd) else d.wr b sec0) else (1, d)
def bytesE (f : Nat → Sec) (a n : Nat) : Nat × List UInt8 := match bytesAt f a n with | none => (7, []) | some x => (0, x)
theorem bytesE_bad {f : Nat → Sec} {a n j : Nat} (hj : n + j < 64 * nsec n) (h : (catS f a (nsec n)).getD (n + j) 0 ≠ 0) : bytesE f a n = (7, []) := by
  have hl := catS_len f a (nsec n)
  unfold bytesE bytesAt
  rw [if_neg]
  intro hall
  have := List.all_eq_true.1 hall ((catS f a (nsec n)).getD (n + j) 0) (by
    rw [List.mem_iff_getElem?]
    exact ⟨j, by rw [List.getElem?_drop]; simp [List.getD, show n + j < (catS f a (nsec n)).length by omega]⟩)
  simp at this; exact h this
theorem bytesE_good {f : Nat → Sec} {a n : Nat} (h : ∀ j, n + j < 64 * nsec n → (catS f a (nsec n)).getD (n + j) 0 = 0) : bytesE f a n = (0, (catS f a (nsec n)).take n) := by
  have hl := catS_len f a (nsec n)
  unfold bytesE bytesAt
  rw [if_pos]
  refine List.all_eq_true.2 fun x hx => ?_
  obtain ⟨j, hj⟩ := List.mem_iff_getElem?.1 hx
  rw [List.getElem?_drop] at hj
  have hlt := (List.getElem?_eq_some_iff.1 hj).1
  have := h j (by omega)
  simp [List.getD, hj] at this
  simp [this]
attribute [local irreducible] Gl Gc Gx Gs Runs Wt
theorem bytesEq_ok {w : World} {F : Nat → Prop} {a b : Option Addr} {n m c c2 : Nat} {l1 l2 : List UInt8} (h : stars [] w F) (hx : RdRow w (fun k => ¬ F k) 1 a n (l1.map B8)) (hy : RdRow w (fun k => ¬ F k) 1 b m (l2.map B8)) :
    Calls Tryz.prog 106 #[.slice a n c, .slice b m c2] w (Post w F (fun _ : Unit => .bool (decide (l1 = l2))) (fun _ => [])) := by
 have hn : n = l1.length := by have := hx.1; simp at this; omega
 have hm : m = l2.length := by have := hy.1; simp at this; omega
 have hmx := hx.2.1
 simp only [maxLen] at hmx
 refine g_enter (env := [(0, .slice a n c), (1, .slice b m c2)]) Tryz.func106 rfl h Tryz.ntmps106 rfl rfl ?_; refine gsr (zxa ?_); refine gnt (gc_seq (gsr (zxm ?_))); refine gp zln ?_; refine zxm ?_; refine gp zln ?_; refine gp zni ?_; refine gnt (gif rfl (fun hc10 => ?_) (fun hc10 => ?_))
 ·try simp only at hc10
  have hne : l1 ≠ l2 := fun e => hc10 (by rw [hn, hm, e])
  refine gsr (zxa ?_); refine gnt (gc_ret (gx_then_ret (gx_ret1 rfl (by conv => lhs; whnf) ?_))); exact fun w' hw => ⟨(), by rw [decide_eq_false hne], hw.z⟩
 ·try simp only at hc10
  have hnm : n = m := by omega
  refine gc_skip (gx_then (gc_seq (gsr (zxm ?_)))); refine gp zln ?_; refine zxm ?_; refine gnt (gc_block (gc_loop (α := Nat) (fun k => [pureR (k ≤ n ∧ l1.take k = l2.take k)]) (fun k => [(13, .int .i64 (k : Int))]) [4, 5, 14, 15, 16, 17, 18, 19, 20, 21, 22, 23, 24, 25] (fun k => n - k) 0 ?_ ?_ ?_))
  ·refine env_start (by kernel_rfl)
  ·exact zlp ⟨Nat.zero_le _, rfl⟩
  ·intro k u; refine gc_pureR (fun hk => ?_)
   replace hk : k ≤ n ∧ l1.take k = l2.take k := hk
   refine gsr (gp zlt ?_); refine gnt (gc_seq (gif rfl (fun hc14 => ?_) (fun hc14 => ?_)))
   ·try simp only at hc14
    have hk' : k < n := by omega
    obtain ⟨ga, oa, ha, hA, hca⟩ := rd_byte hx hk'; obtain ⟨gb, ob, hb, hB, hcb⟩ := rd_byte hy (i := k) (by omega); subst ha; subst hb; refine gc_skip (gx_then (gc_seq (gc_block (gsr (zxm ?_))))); refine zxa ?_; refine gnt (gc_seq (gc_regionS (by kernel_rfl) (by kernel_rfl) ?_)); refine sp zmv ?_; refine sp zmv ?_; refine sp (r_val (v' := .pointer (some ⟨ga, oa + k, none⟩)) zia (by simp)) ?_; refine sp (r_ld1o (v := B8 (l1.getD k 0)) rfl Ty.row_5 (by simpa using hca) hA) ?_; refine sp zmv ?_; refine sp zmv ?_; refine sp (r_val (v' := .pointer (some ⟨gb, ob + k, none⟩)) zia (by simp)) ?_; refine sp (r_ld1o (v := B8 (l2.getD k 0)) rfl Ty.row_5 (by simpa using hcb) hB) ?_; refine sp (r_bool (c := !decide (l1.getD k 0 = l2.getD k 0)) (r_neq_int rfl rfl) (by rw [Bool.eq_iff_iff]; simp only [Bool.not_eq_true', decide_eq_false_iff_not]; rw [← UInt8.toNat_inj]; omega)) ?_; refine gs_nil ?_; refine gx_then (gif rfl (fun hc24 => ?_) (fun hc24 => ?_))
    ·try simp only at hc24
     have hne : l1 ≠ l2 := neq_at (by simpa using hc24)
     refine gsr (zxa ?_); refine gnt (gc_ret (gx_block_ret ?_)); refine gx_then_ret (gx_round_ret ?_); refine gx_block_ret ?_; refine gx_then_ret (gx_ret1 rfl (by conv => lhs; whnf) ?_); exact fun w' hw => ⟨(), by rw [decide_eq_false hne], hw.z⟩
    ·try simp only at hc24
     replace hc24 : l1.getD k 0 = l2.getD k 0 := by simpa using hc24
     refine gc_skip (gx_block_normal (gx_then (gc_region (gp zad ?_)))); refine zxm ?_; refine gl_nil (zrd (k + 1) ?_ ?_)
     ·show n - (k + 1) < n - k
      omega
     ·exact zlp (show k + 1 ≤ n ∧ l1.take (k + 1) = l2.take (k + 1) from ⟨by omega, eq_step (by omega) (by omega) hk.2 hc24⟩)
   ·try simp only at hc14
    have hk' : k = n := by omega
    have he : l1 = l2 := by have h2 := hk.2; rw [hk', List.take_of_length_le (by omega), List.take_of_length_le (by omega)] at h2; exact h2
    refine gc_exit ?_; refine gx_then_exit ?_; refine gx_round_exit ?_; refine gx_block_hit ?_; refine gx_then (gsr (zxa ?_)); refine gnt (gc_ret (gx_ret1 rfl (by conv => lhs; whnf) ?_)); exact fun w' hw => ⟨(), by rw [decide_eq_true he], hw.z⟩
theorem lbegin_ok {w : World} {F : Nat → Prop} {g : Nat} {d : DS} (h : stars [DiskR g d] w F) {b : Int} {ea : Nat → Addr} (hk : DOk d) (hb : d.has b = true) :
    Calls Tryz.prog 26 #[.pointer (some ⟨g, 0, none⟩), .int .i64 b] w (Post w F (fun q : Nat => .tuple #[.pointer (some ⟨q, 0, none⟩), eV 261 ea 0]) (fun q => [LedR q g ⟨b, [], b.toNat⟩, DiskR g d])) := by
 obtain ⟨hb0, hb1⟩ := has_iff.1 hb; have hn4 := hk.n
 refine g_enter (env := [(0, .pointer (some ⟨g, 0, none⟩)), (1, .int .i64 b)]) Tryz.func26 rfl h Tryz.ntmps26 rfl rfl ?_; refine gsr (zxa ?_); refine zxa ?_; refine gnt (gc_seq (gsr (zxm ?_))); refine gp (r_bool (c := false) zlt (decide_eq_false (by omega))) ?_; refine zxm ?_; refine gq zmv ?_; refine gq zmv ?_; refine zc (fun _ => ?_) (c := fun w1 F1 F2 h1 h2 hd hst => size_ok h1)
 refine gq (r_bool (c := false) zge (decide_eq_false (by omega))) ?_; refine gp zpk ?_; refine gnt (gc_condF rfl rfl ?_); refine gc_skip (gx_then (gsr (zxm ?_))); refine zxm ?_; refine zxm ?_; refine gp zbu ?_; refine zbN fun b19 => ?_; refine zxa ?_; refine zxa ?_; refine gnt (gc_ret (gx_ret2 rfl (by conv => lhs; whnf) (by conv => lhs; whnf) ?_)); exact fun w' hw => ⟨b19, by rw [eV_zero], St.led0 (hw.z) rfl (by show b = ((b.toNat : Nat) : Int); omega) rfl⟩
theorem lbegin_bad {w : World} {F : Nat → Prop} {g : Nat} {d : DS} (h : stars [DiskR g d] w F) {b : Int} (hk : DOk d) {ea : Nat → Addr} {es : List Nat} [Has es 1] (hE : GErr es w (fun k => ¬ F k) 261 ea) (hb : d.has b = false) :
    Calls Tryz.prog 26 #[.pointer (some ⟨g, 0, none⟩), .int .i64 b] w (Post w F (fun _ : Unit => .tuple #[.pointer none, eV 261 ea 1]) (fun _ => [DiskR g d])) := by
 have hb' : ¬ (0 ≤ b ∧ b < d.n) := fun h => (by rw [has_iff.2 h] at hb; cases hb)
 have hn4 := hk.n
 refine g_enter (env := [(0, .pointer (some ⟨g, 0, none⟩)), (1, .int .i64 b)]) Tryz.func26 rfl h Tryz.ntmps26 rfl rfl ?_; refine gsr (zxa ?_); refine zxa ?_; refine gnt (gc_seq (gc_seq ?_)); by_cases hS : b < 0
 ·refine gc_region (zxm ?_); refine gp (r_bool (c := true) zlt (decide_eq_true hS)) ?_; refine zxm ?_; refine gn ?_; refine gn ?_; refine gn ?_; refine gn ?_; refine gp zpk ?_; refine gnt (gc_condT rfl rfl ?_); refine gc_seq (gc_regionS (by kernel_rfl) (by kernel_rfl) ?_); refine sp (r_ld1o rfl Ty.row_27 (hE.c 1 Has.h) (hE.n 1 Has.h)) ?_; refine sp zas ?_; refine sp zas ?_; refine gs_nil ?_; refine gx_then (gc_ret (gx_then_ret (gx_ret2 rfl (by conv => lhs; whnf) (by conv => lhs; whnf) ?_))); exact ze ()
 ·refine gc_region (zxm ?_); refine gp (r_bool (c := false) zlt (decide_eq_false hS)) ?_; refine zxm ?_; refine gq zmv ?_; refine gq zmv ?_; refine zc (fun _ => ?_) (c := fun w1 F1 F2 h1 h2 hd hst => size_ok h1)
  refine gq (r_bool (c := true) zge (decide_eq_true (by omega))) ?_; refine gp zpk ?_; refine gnt (gc_condT rfl rfl ?_); refine gc_seq (gc_regionS (by kernel_rfl) (by kernel_rfl) ?_); refine sp (r_ld1o rfl Ty.row_27 (hE.c 1 Has.h) (hE.n 1 Has.h)) ?_; refine sp zas ?_; refine sp zas ?_; refine gs_nil ?_; refine gx_then (gc_ret (gx_then_ret (gx_ret2 rfl (by conv => lhs; whnf) (by conv => lhs; whnf) ?_))); exact ze ()
theorem formatL_ok {w : World} {F : Nat → Prop} {g : Nat} {d : DS} (h : stars [DiskR g d] w F) {b : Int} (hk : DOk d) {ea : Nat → Addr} {es : List Nat} [Has es 1] [Has es 6] (hE : GErr es w (fun k => ¬ F k) 261 ea)  :
    Calls Tryz.prog 7 #[.pointer (some ⟨g, 0, none⟩), .int .i64 b] w (Post w F (fun q : Nat => .tuple #[.pointer (if (fmtL d b).1 = 0 then some ⟨q, 0, none⟩ else none), eV 261 ea (fmtL d b).1]) (fun q => if (fmtL d b).1 = 0 then [LedR q g ⟨b, [], b.toNat⟩, DiskR g (fmtL d b).2] else [DiskR g (fmtL d b).2])) := by
 refine g_enter (env := [(0, .pointer (some ⟨g, 0, none⟩)), (1, .int .i64 b)]) Tryz.func7 rfl h Tryz.ntmps7 rfl rfl ?_; refine gsr (zxa ?_); refine zxa ?_; refine gnt (gc_seq ?_); by_cases hS : d.has b = true
 ·refine gc_region (zxm ?_); refine zxm ?_; refine zc (fun q => ?_) (c := fun w1 F1 F2 h1 h2 hd hst => lbegin_ok (ea := ea) h1 hk hS)
  refine zxm ?_; refine gp zex ?_; refine gp zex ?_; refine zxa ?_; refine zxa ?_; refine gnt (gc_seq (gsr (zxm ?_))); refine gp (r_nenil rfl (by kernel_rfl)) ?_; refine gnt (gc_condF rfl rfl ?_); refine gc_skip (gx_then (gc_seq (gsr (zxm ?_)))); refine zxm ?_; refine gp (zba (cs := sc sec0) (by exact rfl)) ?_; refine zc (fun _ => ?_) (c := fun w1 F1 F2 h1 h2 hd hst => write_ok' (i := b) (v := sec0) h1 hk (hE.mv hst.still))
  refine zxa ?_; refine zxs ?_; refine zxm ?_; refine gp (r_bool (c := decide (¬ (d.wr b sec0).1 = 0)) (r_nenil rfl (by kernel_rfl)) (by simp)) ?_; refine gnt (gif rfl (fun hc24 => ?_) (fun hc24 => ?_))
  ·try simp only at hc24
   have e : fmtL d b = d.wr b sec0 := by rw [fmtL, if_pos hS, if_neg hc24]
   refine gsr (zxm ?_); refine zxa ?_; refine zxa ?_; refine gnt (gc_ret (gx_then_ret (gx_ret2 rfl (by conv => lhs; whnf) (by conv => lhs; whnf) ?_))); exact fun w' hw => ⟨0, by simp only [e, if_neg hc24], by simp only [e, if_neg hc24]; exact hw.z⟩
  ·try simp only at hc24
   have h0 : (d.wr b sec0).1 = 0 := by simpa using hc24
   have hk2 : DOk (d.wr b sec0).2 := wr_ok hk
   have e : fmtL d b = (if (oper (d.wr b sec0).2).off = true then 6 else 0, (d.wr b sec0).2.syncd) := by rw [fmtL, if_pos hS, if_pos h0]
   refine gc_skip (gx_then (gc_seq (gsr (zxm ?_)))); refine zc (fun _ => ?_) (c := fun w1 F1 F2 h1 h2 hd hst => sync_ok' h1 hk2 (hE.mv hst.still))
   refine zxa ?_; refine zxs ?_; refine zxm ?_; refine gp (r_bool (c := (oper (d.wr b sec0).2).off) (r_nenil rfl (by kernel_rfl)) (by cases (oper (d.wr b sec0).2).off <;> rfl)) ?_; refine gnt (gif rfl (fun hc29 => ?_) (fun hc29 => ?_))
   ·refine gsr (zxm ?_); refine zxa ?_; refine zxa ?_; refine gnt (gc_ret (gx_then_ret (gx_ret2 rfl (by conv => lhs; whnf) (by conv => lhs; whnf) ?_))); exact fun w' hw => ⟨0, by simp only [e, if_pos hc29, if_neg (show ¬ (6 : Nat) = 0 by decide)], by simp only [e, if_pos hc29, if_neg (show ¬ (6 : Nat) = 0 by decide)]; exact hw.z⟩
   ·refine gc_skip (gx_then (gsr (zxm ?_))); refine zxa ?_; refine zxa ?_; refine gnt (gc_ret (gx_ret2 rfl (by conv => lhs; whnf) (by conv => lhs; whnf) ?_)); have ho : (oper (d.wr b sec0).2).off = false := hc29
    have e2 : fmtL d b = (0, (d.wr b sec0).2.syncd) := by rw [e, if_neg (by rw [ho]; decide)]
    exact fun w' hw => ⟨q, by rw [e2, eV_zero]; rfl, by simp only [e2, if_pos (show (0 : Nat) = 0 from rfl)]; exact hw.z⟩
 ·refine gc_region (zxm ?_); refine zxm ?_; refine zc (fun _ => ?_) (c := fun w1 F1 F2 h1 h2 hd hst => lbegin_bad (b := b) h1 hk (hE.mv hst.still) (by simpa using hS))
  refine zxm ?_; refine gp zex ?_; refine gp zex ?_; refine zxa ?_; refine zxa ?_; refine gnt (gc_seq (gsr (zxm ?_))); refine gp (r_nenil rfl (by kernel_rfl)) ?_; refine gnt (gc_condT rfl rfl ?_); refine gsr (zxm ?_); refine zxa ?_; refine zxa ?_; refine gnt (gc_ret (gx_then_ret (gx_ret2 rfl (by conv => lhs; whnf) (by conv => lhs; whnf) ?_))); have e : fmtL d b = (1, d) := by rw [fmtL, if_neg hS]
  exact fun w' hw => ⟨0, by rw [e]; rfl, by simp only [e, if_neg (show ¬ (1 : Nat) = 0 by decide)]; exact hw.z⟩
theorem lenL_ok {w : World} {F : Nat → Prop} {q g : Nat} {l : LS} (h : stars [LedR q g l] w F) :
    Calls Tryz.prog 17 #[.pointer (some ⟨q, 0, none⟩)] w (Post w F (fun _ : Unit => .int .i64 (l.rs.length : Int)) (fun _ => [LedR q g l])) := by
 obtain ⟨a0, m0, css, h18, h⟩ := led_open h; refine g_enter (env := [(0, .pointer (some ⟨q, 0, none⟩))]) Tryz.func17 rfl h Tryz.ntmps17 rfl rfl ?_; refine gsr (zxa ?_); refine zxs ?_; refine zxm ?_; refine gp znc ?_; refine gp zfa ?_; refine gp zl ?_; refine gp zln ?_; refine zxa ?_; refine gnt (gc_ret (gx_ret1 rfl (by conv => lhs; whnf) ?_)); exact fun w' hw => ⟨(), rfl, St.led (hw.z) h18 rfl rfl rfl rfl⟩
theorem free_ok {w : World} {F : Nat → Prop} {q g : Nat} {l : LS} {d : DS} (h : stars [LedR q g l, DiskR g d] w F) (hk : DOk d) (he : l.e ≤ d.n) :
    Calls Tryz.prog 49 #[.pointer (some ⟨q, 0, none⟩)] w (Post w F (fun _ : Unit => .int .i64 ((d.n - l.e : Nat) : Int)) (fun _ => [LedR q g l, DiskR g d])) := by
 obtain ⟨a0, m0, css, h18, h⟩ := led_open h; have hn4 := hk.n
 refine g_enter (env := [(0, .pointer (some ⟨q, 0, none⟩))]) Tryz.func49 rfl h Tryz.ntmps49 rfl rfl ?_; refine gsr (zxa ?_); refine gnt (gc_seq (gc_regionZ 10 ([blk q 99 [.pointer (some ⟨g, 0, none⟩), .int .i64 l.base, .int .i64 l.e, .slice a0 l.rs.length m0]]) ?_)); refine yps 0 rfl zmv ?_; refine yps 1 rfl znc ?_; refine yps 2 rfl zfa ?_; refine yps 3 rfl zl ?_; refine yps 5 rfl zmv ?_; refine yps 6 rfl znc ?_; refine yps 7 rfl zfa ?_; refine yps 8 rfl zl ?_; refine yos 4 rfl ?_; refine zc (fun _ => ?_) (c := fun w1 F1 F2 h1 h2 hd hst => size_ok h1)
 refine yxs ?_; refine yps 9 rfl (r_int (j := ((d.n - l.e : Nat) : Int)) zsb (by omega)) ?_; refine yzs rfl ?_; refine zxa ?_; refine gnt (gc_ret (gx_ret1 rfl (by conv => lhs; whnf) ?_)); exact fun w' hw => ⟨(), rfl, St.led (hw.z) h18 rfl rfl rfl rfl⟩
theorem room_ok {w : World} {F : Nat → Prop} {q g : Nat} {l : LS} {d : DS} (h : stars [LedR q g l, DiskR g d] w F) {n : Nat} (hk : DOk d) (he : l.e ≤ d.n) (hn : n ≤ 1099511627776) :
    Calls Tryz.prog 34 #[.pointer (some ⟨q, 0, none⟩), .int .i64 (n : Int)] w (Post w F (fun _ : Unit => .bool (decide (nsec n + 2 ≤ d.n - l.e))) (fun _ => [LedR q g l, DiskR g d])) := by
 obtain ⟨a0, m0, css, h18, h⟩ := led_open h; have hn4 := hk.n
 have hns : nsec n ≤ 17179869185 := by unfold nsec; omega
 refine g_enter (env := [(0, .pointer (some ⟨q, 0, none⟩)), (1, .int .i64 (n : Int))]) Tryz.func34 rfl h Tryz.ntmps34 rfl rfl ?_; refine gsr (zxa ?_); refine gnt (gc_seq (gc_regionZ 14 ([blk q 99 [.pointer (some ⟨g, 0, none⟩), .int .i64 l.base, .int .i64 l.e, .slice a0 l.rs.length m0]]) ?_)); refine yps 0 rfl zmv ?_; refine yps 3 rfl zmv ?_; refine yps 4 rfl znc ?_; refine yps 5 rfl zfa ?_; refine yps 6 rfl zl ?_; refine yps 8 rfl zmv ?_; refine yps 9 rfl znc ?_; refine yps 10 rfl zfa ?_; refine yps 11 rfl zl ?_; refine yos 1 rfl ?_; refine zc (fun _ => ?_) (c := fun w1 F1 F2 h1 h2 hd hst => sectors_ok h1 hn)
 refine yxs ?_; refine yps 2 rfl zad ?_; refine yos 7 rfl ?_; refine zc (fun _ => ?_) (c := fun w1 F1 F2 h1 h2 hd hst => size_ok h1)
 refine yxs ?_; refine yps 12 rfl (r_int (j := ((d.n - l.e : Nat) : Int)) zsb (by omega)) ?_; refine yps 13 rfl (r_bool (c := decide (nsec n + 2 ≤ d.n - l.e)) zle (by rw [Bool.eq_iff_iff]; simp only [decide_eq_true_eq]; omega)) ?_; refine yzs rfl ?_; refine zxa ?_; refine gnt (gc_ret (gx_ret1 rfl (by conv => lhs; whnf) ?_)); exact fun w' hw => ⟨(), rfl, St.led (hw.z) h18 rfl rfl rfl rfl⟩
end
section
section
variable {w0 w : World} {F F0 : Nat → Prop} {L L' : List Res} {Q : Exit → Act → World → Prop} {n : Fm} {env : Env} {ops : Array Oper} {rest : List Oper} {P : Program}
theorem row_cut {e a c m k} {xs : List Value} (h : stars (rowR e 1 a m c xs :: L) w F) (hk : k ≤ m) : stars (rowR e 1 a k c (xs.take k) :: L) w F := by
  obtain ⟨F1, F2, ⟨h1, h2, h3, h4⟩, hs, hF, hd⟩ := h
  refine ⟨F1, F2, ⟨by rw [List.length_take]; omega, by omega, h3, h4.imp id ?_⟩, hs, hF, hd⟩
  rintro ⟨g, o, cs, fz, ha, hf, hg, hz, hl, hx⟩
  exact ⟨g, o, cs, fz, ha, hf, hg, hz, hl, by rw [← hx, List.take_take]; congr 1; omega⟩
theorem St.rowCut {e a c m k} {xs : List Value} (h : St w0 F0 (rowR e 1 a m c xs :: L) w) (hk : k ≤ m) : St w0 F0 (rowR e 1 a k c (xs.take k) :: L) w := h.mapL fun F hF => row_cut hF hk
theorem St.rowAt {e size a m c} {xs : List Value} (hw : St w0 F0 L w) (hp : Pick L (rowR e size a m c xs) L') (hm : 0 < m) : m ≤ c ∧ ∃ g o, a = some ⟨g, o, none⟩ := by
  obtain ⟨F, hF, _⟩ := hw
  obtain ⟨F1, ⟨h1, h2, h3, h4⟩, _⟩ := stars_pick hp hF
  refine ⟨h2, ?_⟩
  rcases h4 with ⟨_, hc, _⟩ | ⟨g, o, _, _, ha, _⟩
  · omega
  · exact ⟨g, o, ha⟩
end
theorem add_at (g o k : Nat) : (some (⟨g, o, none⟩ : Addr)).map (·.add k) = some ⟨g, o + k, none⟩ := by simp [Addr.add_mid]
attribute [local irreducible] Gl Gc Gx Gs Runs Wt
theorem lbytes_ok {w : World} {F : Nat → Prop} {q g : Nat} {l : LS} {d : DS} (h : stars [LedR q g l, DiskR g d] w F) {i0 n : Nat} (hk : DOk d) {ea : Nat → Addr} {es : List Nat} [Has es 1] [Has es 6] [Has es 7] (hE : GErr es w (fun k => ¬ F k) 261 ea) (ho : d.off = false) (hr : i0 + nsec n ≤ d.n) (hn : 1 ≤ n) :
    Calls Tryz.prog 67 #[.pointer (some ⟨q, 0, none⟩), .int .i64 (i0 : Int), .int .i64 (n : Int)] w (Post w F (fun p : Option Addr × Nat => .tuple #[.slice p.1 (bytesE d.at i0 n).2.length p.2, eV 261 ea (bytesE d.at i0 n).1]) (fun p => [rowR 5 1 p.1 (bytesE d.at i0 n).2.length p.2 ((bytesE d.at i0 n).2.map B8), LedR q g l, DiskR g d])) := by
 obtain ⟨a0, m0, css, h18, h⟩ := led_open h; have hn4 := hk.n
 have hns : n ≤ 64 * nsec n ∧ 64 * nsec n < n + 64 := by unfold nsec; omega
 have hcl := catS_len d.at i0 (nsec n)
 refine g_enter (env := [(0, .pointer (some ⟨q, 0, none⟩)), (1, .int .i64 (i0 : Int)), (2, .int .i64 (n : Int))]) Tryz.func67 rfl h Tryz.ntmps67 rfl rfl ?_; refine gsr (zxa ?_); refine zxa ?_; refine zxs ?_; refine zxa ?_; refine gnt (gc_seq (gsr (zxm ?_))); refine zc (fun _ => ?_) (c := fun w1 F1 F2 h1 h2 hd hst => sectors_ok h1 (by omega))
 refine zxm ?_; refine gnt (gc_block (gc_loop (α := Nat × Option Addr × Nat) (fun y => [pureR (y.1 ≤ nsec n), rowR 5 1 y.2.1 (64 * y.1) y.2.2 ((catS d.at i0 y.1).map B8), blk q 99 [.pointer (some ⟨g, 0, none⟩), .int .i64 l.base, .int .i64 l.e, .slice a0 l.rs.length m0], rowR 92 18 a0 l.rs.length m0 css.flatten, ElR RdRec css l.rs, DiskR g d]) (fun y => [(8, .slice y.2.1 (64 * y.1) y.2.2), (16, .int .i64 (y.1 : Int))]) [6, 7, 9, 10, 11, 17, 18, 19, 20, 21, 22, 23, 24, 25, 26, 27, 28, 29, 30, 31, 32, 33, 34, 35, 36] (fun y => nsec n - y.1) (0, none, 0) ?_ ?_ ?_))
 ·refine env_start (by kernel_rfl)
 ·exact fun w' hw => St.pureI (Nat.zero_le _) (hw.rowNil.z)
 ·intro y u; obtain ⟨k, a, c⟩ := y; refine gc_pureR (fun hk' => ?_)
  replace hk' : k ≤ nsec n := hk'
  refine gsr (gp zlt ?_); refine gnt (gc_seq (gif rfl (fun hc17 => ?_) (fun hc17 => ?_)))
  ·try simp only at hc17
   have hkn : k < nsec n := by omega
   refine gc_skip (gx_then (gc_seq (gc_block (gsr (zxm ?_))))); refine zxa ?_; refine zxs ?_; refine zxm ?_; refine gp znc ?_; refine gp zfa ?_; refine gp zl ?_; refine zxm ?_; refine zxm ?_; refine gp (r_int (j := ((i0 + k : Nat) : Int)) zad (by omega)) ?_; refine zc (fun _ => ?_) (c := fun w1 F1 F2 h1 h2 hd hst => read_ok (i := ((i0 + k : Nat) : Int)) h1 (hE.mv hst.still))
   rw [show d.rd ((i0 + k : Nat) : Int) = (0, d.at (i0 + k)) from rd_at (has_iff.2 ⟨by omega, by omega⟩) ho]; refine zxm ?_; refine gp zex ?_; refine gp zex ?_; refine zal fun b10 => ?_; refine zsA (new := sc (d.at (i0 + k))) (sc_length _) (sc_one _) ?_; refine zxa ?_; refine gnt (gc_seq (gsr (zxm ?_))); refine gp (r_bool (c := false) (r_nenil rfl (by kernel_rfl)) rfl) ?_; refine gnt (gc_condF rfl rfl ?_); refine gc_skip (gx_then (gc_region (zxm ?_))); refine gp (r_slice_arr (l := 0) (h := 64) rfl Ty.arr_54 Ty.sz_5 rfl rfl (by omega) (by omega) (by omega)) ?_; refine gl_append (xs := (catS d.at i0 k).map B8) (news := (d.at (i0 + k)).l.map B8) (wt0 rfl) rfl rfl (by repeat (first | exact Pick.here | apply Pick.there)) Ty.el_49 (fun w' hw => (by have hx := hw.rdBlkY (l := (d.at (i0 + k)).l) (o := 0) (m := 64) (by repeat (first | exact Pick.here | apply Pick.there)) (by rw [Sec.h]; omega) (by decide); rw [List.drop_zero, List.take_of_length_le (by rw [Sec.h]; omega)] at hx; exact hx)) (one_B8 _) (by simp only [maxLen]; omega) (by omega) (fun a35 c35 => ?_)
   rw [show 64 * k + (64 - 0) = 64 * (k + 1) by omega]; refine zxa ?_; refine gl_nil (gx_block_normal (gx_then (gc_region (gp zad ?_)))); refine zxm ?_; refine gl_nil (zrd ((k + 1, a35, c35)) ?_ ?_)
   ·show nsec n - (k + 1) < nsec n - k
    omega
   ·simp only [catS_succ, List.map_append]
    exact zlp (show k + 1 ≤ nsec n by omega)
  ·try simp only at hc17
   have hkn : k = nsec n := by omega
   subst hkn; refine gc_fact (fun w' hw => St.rowAt (hw.sel (M := [rowR 5 1 a (64 * nsec n) c ((catS d.at i0 (nsec n)).map B8)]) (by repeat (first | exact Sel.nil | (apply Sel.cons; · (repeat (first | exact Pick.here | apply Pick.there)))))) .here (by omega)) (fun hra => ?_)
   obtain ⟨hnc, ga, oa, ha⟩ := hra; subst ha; refine gc_exit ?_; refine gx_then_exit ?_; refine gx_round_exit ?_; refine gx_block_hit ?_; refine gx_then (gc_seq (gc_seq ?_)); by_cases hS : n < 64 * nsec n
   ·refine gc_region (zxm ?_); refine zxm ?_; refine gp (r_val (v' := .slice (some ⟨ga, oa + n * 1, none⟩) (64 * nsec n - n) (c - n)) (r_slice_slice (a := some ⟨ga, oa, none⟩) (m := 64 * nsec n) (c := c) (l := n) (h := 64 * nsec n) rfl Ty.sl_49 Ty.sz_5 ⟨_, rfl⟩ rfl (by omega) (by omega)) (by rw [if_neg (by omega), add_at])) ?_; refine gp zln ?_; refine zxm ?_; refine gnt (gc_block (gc_loop (α := Nat) (fun j => [pureR (j ≤ 64 * nsec n - n ∧ ∀ i, i < j → (catS d.at i0 (nsec n)).getD (n + i) 0 = 0), rowR 5 1 (some ⟨ga, oa, none⟩) (64 * nsec n) c ((catS d.at i0 (nsec n)).map B8), blk q 99 [.pointer (some ⟨g, 0, none⟩), .int .i64 l.base, .int .i64 l.e, .slice a0 l.rs.length m0], rowR 92 18 a0 l.rs.length m0 css.flatten, ElR RdRec css l.rs, DiskR g d]) (fun j => [(41, .int .i64 (j : Int))]) [6, 7, 13, 42, 43, 44, 45, 46, 47, 48] (fun j => 64 * nsec n - n - j) 0 ?_ ?_ ?_))
    ·refine env_start (by kernel_rfl)
    ·exact zlp ⟨Nat.zero_le _, fun i hi => absurd hi (Nat.not_lt_zero _)⟩
    ·intro j u; refine gc_pureR (fun hj => ?_)
     replace hj : j ≤ 64 * nsec n - n ∧ ∀ i, i < j → (catS d.at i0 (nsec n)).getD (n + i) 0 = 0 := hj
     refine gsr (gp zlt ?_); refine gnt (gc_seq (gif rfl (fun hc42 => ?_) (fun hc42 => ?_)))
     ·try simp only at hc42
      have hjn : j < 64 * nsec n - n := by omega
      refine gc_skip (gx_then (gc_seq (gc_block (gsr (gp (r_val (v' := .pointer (some ⟨ga, oa + (n + j), none⟩)) zia (by first | (simp; done) | (simp; omega))) ?_))))); refine gp (r_ld1r (v := B8 ((catS d.at i0 (nsec n)).getD (n + j) 0)) rfl Ty.row_5 (by repeat (first | exact Pick.here | apply Pick.there)) (by simp [List.getD, show n + j < (catS d.at i0 (nsec n)).length by omega])) ?_; refine zxa ?_; refine zxs ?_; refine zxm ?_; refine gp (r_bool (c := !decide ((catS d.at i0 (nsec n)).getD (n + j) 0 = 0)) zni (by rw [Bool.eq_iff_iff]; simp only [Bool.not_eq_true', decide_eq_false_iff_not]; rw [← UInt8.toNat_inj]; simp)) ?_; refine gnt (gif rfl (fun hc46 => ?_) (fun hc46 => ?_))
      ·try simp only at hc46
       have hbe : bytesE d.at i0 n = (7, []) := bytesE_bad (j := j) (by omega) (by simpa using hc46)
       refine gc_seq (gc_regionS (by kernel_rfl) (by kernel_rfl) ?_); refine sp (r_ld1o rfl Ty.row_27 (hE.c 7 Has.h) (hE.n 7 Has.h)) ?_; refine sp zas ?_; refine sp zas ?_; refine gs_nil ?_; refine gx_then (gc_ret (gx_block_ret ?_)); refine gx_then_ret (gx_round_ret ?_); refine gx_block_ret ?_; refine gx_then_ret (gx_ret2 rfl (by conv => lhs; whnf) (by conv => lhs; whnf) ?_); exact fun w' hw => ⟨(none, 0), by rw [hbe]; rfl, by rw [hbe]; exact (St.led (L := [rowR 5 1 none 0 0 [], DiskR g d]) (hw.rowNil.z) h18 rfl rfl rfl rfl).z⟩
      ·try simp only at hc46
       replace hc46 : (catS d.at i0 (nsec n)).getD (n + j) 0 = 0 := by simpa using hc46
       refine gc_skip (gx_block_normal (gx_then (gc_region (gp zad ?_)))); refine zxm ?_; refine gl_nil (zrd (j + 1) ?_ ?_)
       ·show 64 * nsec n - n - (j + 1) < 64 * nsec n - n - j
        omega
       ·exact zlp (show j + 1 ≤ 64 * nsec n - n ∧ ∀ i, i < j + 1 → (catS d.at i0 (nsec n)).getD (n + i) 0 = 0 from ⟨by omega, fun i hi => (by by_cases h : i < j; exact hj.2 i h; (obtain rfl : i = j := by omega); exact hc46)⟩)
     ·try simp only at hc42
      have hjn : j = 64 * nsec n - n := by omega
      have hbe : bytesE d.at i0 n = (0, (catS d.at i0 (nsec n)).take n) := bytesE_good (fun i hi => hj.2 i (by omega))
      refine gc_exit ?_; refine gx_then_exit ?_; refine gx_round_exit ?_; refine gx_block_hit ?_; refine gx_then (gsr (zxm ?_)); refine zxm ?_; refine gp (r_val (v' := .slice (some ⟨ga, oa, none⟩) n c) (r_slice_slice (a := some ⟨ga, oa, none⟩) (m := 64 * nsec n) (c := c) (l := 0) (h := n) rfl Ty.sl_49 Ty.sz_5 rfl ⟨_, rfl⟩ (Nat.zero_le _) (by omega)) (by rw [if_neg (by omega), add_at]; simp)) ?_; refine zxa ?_; refine zxa ?_; refine gnt (gc_ret (gx_ret2 rfl (by conv => lhs; whnf) (by conv => lhs; whnf) ?_)); have hl : ((catS d.at i0 (nsec n)).take n).length = n := by rw [List.length_take]; omega
      intro w' hw; have h1 := St.rowCut (k := n) (hw.sel (M := [rowR 5 1 (some ⟨ga, oa, none⟩) (64 * nsec n) c ((catS d.at i0 (nsec n)).map B8), blk q 99 [.pointer (some ⟨g, 0, none⟩), .int .i64 l.base, .int .i64 l.e, .slice a0 l.rs.length m0], rowR 92 18 a0 l.rs.length m0 css.flatten, ElR RdRec css l.rs, DiskR g d]) (by repeat (first | exact Sel.nil | (apply Sel.cons; · (repeat (first | exact Pick.here | apply Pick.there)))))) (by omega)
      rw [← List.map_take] at h1; exact ⟨(some ⟨ga, oa, none⟩, c), by rw [hbe, eV_zero]; simp only [hl], by rw [hbe]; simp only [hl]; exact (St.led (L := [rowR 5 1 (some ⟨ga, oa, none⟩) n c (((catS d.at i0 (nsec n)).take n).map B8), DiskR g d]) (h1.z) h18 rfl rfl rfl rfl).z⟩
   ·refine gc_region (zxm ?_); refine zxm ?_; refine gp (r_slice_slice (a := some ⟨ga, oa, none⟩) (m := 64 * nsec n) (c := c) (l := n) (h := 64 * nsec n) rfl Ty.sl_49 Ty.sz_5 ⟨_, rfl⟩ rfl (by omega) (by omega)) ?_; refine gp zln ?_; refine zxm ?_; refine gnt (gc_block (gc_loop (α := Nat) (fun j => [pureR (j ≤ 64 * nsec n - n ∧ ∀ i, i < j → (catS d.at i0 (nsec n)).getD (n + i) 0 = 0), rowR 5 1 (some ⟨ga, oa, none⟩) (64 * nsec n) c ((catS d.at i0 (nsec n)).map B8), blk q 99 [.pointer (some ⟨g, 0, none⟩), .int .i64 l.base, .int .i64 l.e, .slice a0 l.rs.length m0], rowR 92 18 a0 l.rs.length m0 css.flatten, ElR RdRec css l.rs, DiskR g d]) (fun j => [(41, .int .i64 (j : Int))]) [6, 7, 13, 42, 43, 44, 45, 46, 47, 48] (fun j => 64 * nsec n - n - j) 0 ?_ ?_ ?_))
    ·refine env_start (by kernel_rfl)
    ·exact zlp ⟨Nat.zero_le _, fun i hi => absurd hi (Nat.not_lt_zero _)⟩
    ·intro j u; refine gc_pureR (fun hj => ?_)
     replace hj : j ≤ 64 * nsec n - n ∧ ∀ i, i < j → (catS d.at i0 (nsec n)).getD (n + i) 0 = 0 := hj
     refine gsr (gp zlt ?_); refine gnt (gc_seq (gif rfl (fun hc42 => ?_) (fun hc42 => ?_)))
     ·try simp only at hc42
      exfalso; omega
     ·try simp only at hc42
      have hjn : j = 64 * nsec n - n := by omega
      have hbe : bytesE d.at i0 n = (0, (catS d.at i0 (nsec n)).take n) := bytesE_good (fun i hi => hj.2 i (by omega))
      refine gc_exit ?_; refine gx_then_exit ?_; refine gx_round_exit ?_; refine gx_block_hit ?_; refine gx_then (gsr (zxm ?_)); refine zxm ?_; refine gp (r_val (v' := .slice (some ⟨ga, oa, none⟩) n c) (r_slice_slice (a := some ⟨ga, oa, none⟩) (m := 64 * nsec n) (c := c) (l := 0) (h := n) rfl Ty.sl_49 Ty.sz_5 rfl ⟨_, rfl⟩ (Nat.zero_le _) (by omega)) (by rw [if_neg (by omega), add_at]; simp)) ?_; refine zxa ?_; refine zxa ?_; refine gnt (gc_ret (gx_ret2 rfl (by conv => lhs; whnf) (by conv => lhs; whnf) ?_)); have hl : ((catS d.at i0 (nsec n)).take n).length = n := by rw [List.length_take]; omega
      intro w' hw; have h1 := St.rowCut (k := n) (hw.sel (M := [rowR 5 1 (some ⟨ga, oa, none⟩) (64 * nsec n) c ((catS d.at i0 (nsec n)).map B8), blk q 99 [.pointer (some ⟨g, 0, none⟩), .int .i64 l.base, .int .i64 l.e, .slice a0 l.rs.length m0], rowR 92 18 a0 l.rs.length m0 css.flatten, ElR RdRec css l.rs, DiskR g d]) (by repeat (first | exact Sel.nil | (apply Sel.cons; · (repeat (first | exact Pick.here | apply Pick.there)))))) (by omega)
      rw [← List.map_take] at h1; exact ⟨(some ⟨ga, oa, none⟩, c), by rw [hbe, eV_zero]; simp only [hl], by rw [hbe]; simp only [hl]; exact (St.led (L := [rowR 5 1 (some ⟨ga, oa, none⟩) n c (((catS d.at i0 (nsec n)).take n).map B8), DiskR g d]) (h1.z) h18 rfl rfl rfl rfl).z⟩
end
section
theorem allE_good' {α : Type} {p : PR α} {z : α} {b : List UInt8} (hp : NoZ p) (h : (allE p z b).1 = 0) : pAll p b = .ok (allE p z b).2 := by
  unfold allE at h ⊢; split
  · rename_i m hm; exact hm
  · rename_i k hk
    rw [hk] at h
    replace h : k = 0 := h
    subst h
    exfalso
    unfold pAll at hk
    cases hb : p b with
    | error e =>
      rw [hb] at hk
      cases hk
      exact hp b hb
    | ok x => rw [hb] at hk; obtain ⟨y, r⟩ := x; cases r <;> simp at hk
theorem noz_rec : NoZ pRec := noz_bind (noz_bytes _) fun _ => noz_bind (noz_bytes _) fun _ => noz_pure _
theorem rdRec_n1 {x : List UInt8} {z : List UInt8 × List UInt8} (h : (allE pRec z x).1 ≠ 0) : rdRec x = none := by
  unfold rdRec; unfold allE at h; cases hp : pAll pRec x with
  | error e => rfl
  | ok y => rw [hp] at h; exact absurd rfl h
theorem rdRec_n2 {x l1 l2 : List UInt8} {z : Block} (h : pAll pRec x = .ok (l1, l2)) (h1 : (allE pBlock z l1).1 ≠ 0) : rdRec x = none := by
  unfold rdRec; rw [h]; unfold allE at h1; cases hp : pAll pBlock l1 with
  | error e => simp only [hp]
  | ok y => rw [hp] at h1; exact absurd rfl h1
theorem rdRec_n3 {x l1 l2 : List UInt8} {z b : Block} (h : pAll pRec x = .ok (l1, l2)) (hb : pAll pBlock l1 = .ok b) (h1 : (allE pBlock z l2).1 ≠ 0) : rdRec x = none := by
  unfold rdRec; rw [h]; simp only [hb]; unfold allE at h1; cases hp : pAll pBlock l2 with
  | error e => rfl
  | ok y => rw [hp] at h1; exact absurd rfl h1
theorem rdRec_n4 {x l1 l2 : List UInt8} {b c : Block} (h : pAll pRec x = .ok (l1, l2)) (hb : pAll pBlock l1 = .ok b) (hc : pAll pBlock l2 = .ok c) (h1 : madeE b c.justify ≠ 0) : rdRec x = none := by
  unfold rdRec; rw [h]; simp only [hb, hc]; rw [if_neg (fun hh => h1 (made_zero hh.1))]
theorem rdRec_n5 {x l1 l2 : List UInt8} {b c : Block} (h : pAll pRec x = .ok (l1, l2)) (hb : pAll pBlock l1 = .ok b) (hc : pAll pBlock l2 = .ok c) (h1 : (⟨b, c.justify⟩ : LRec).cs ≠ l2) : rdRec x = none := by
  unfold rdRec; rw [h]; simp only [hb, hc]; rw [if_neg (fun hh => h1 hh.2)]
theorem rdRec_y {x l1 l2 : List UInt8} {b c : Block} (h : pAll pRec x = .ok (l1, l2)) (hb : pAll pBlock l1 = .ok b) (hc : pAll pBlock l2 = .ok c) (h0 : madeE b c.justify = 0) (h1 : (⟨b, c.justify⟩ : LRec).cs = l2) : rdRec x = some ⟨b, c.justify⟩ := by
  unfold rdRec; rw [h]; simp only [hb, hc]; rw [if_pos ⟨made_ok h0, h1⟩]
theorem rd_just {w : World} {A : Nat → Prop} {cs : List Value} {b : Block} (h : RdBlock w A cs b) : RdQC w A ((cs.drop 18).take 19) b.justify := by
  obtain ⟨q, a1, n1, c1, a2, n2, c2, rfl, hq, _⟩ := h
  have e : (List.drop 18 (Value.int .i64 b.epoch :: Value.int .i64 b.round :: (dc b.parent ++ (q ++ [Value.slice a1 n1 c1, Value.slice a2 n2 c2])))) = q ++ [Value.slice a1 n1 c1, Value.slice a2 n2 c2] := by
    show List.drop 16 (dc b.parent ++ _) = _
    rw [List.drop_left' (dc_length _)]
  rw [e, List.take_left' hq.len]; exact hq
theorem rd_rows {w : World} {A : Nat → Prop} {r : LRec} {a1 a2 : Option Addr} {n1 c1 n2 c2 : Nat} (h : RdRec w A (dc (idOf r.b) ++ [.slice a1 n1 c1, .slice a2 n2 c2]) r) : RdRow w A 1 a1 n1 (r.bs.map B8) ∧ RdRow w A 1 a2 n2 (r.cs.map B8) ∧ n1 ≤ c1 ∧ n2 ≤ c2 := by
  obtain ⟨b1, m1, d1, b2, m2, d2, he, k1, k2, h1, h2⟩ := h
  have := List.append_cancel_left he
  simp only [List.cons.injEq, Value.slice.injEq, and_true] at this
  obtain ⟨⟨rfl, rfl, rfl⟩, ⟨rfl, rfl, rfl⟩⟩ := this
  exact ⟨h1, h2, k1, k2⟩
theorem RdMade.rec {w : World} {A : Nat → Prop} {cs : List Value} {b : Block} {c : QC} (h0 : madeE b c = 0) (h : RdMade w A cs (b, c)) : RdRec w A cs ⟨b, c⟩ := by unfold RdMade at h; rwa [if_pos h0] at h
def RdOpt (w : World) (A : Nat → Prop) (cs : List Value) (o : Option LRec) : Prop := match o with | none => cs = recZ | some r => RdRec w A cs r
instance : RdK RdOpt := ⟨fun {w w' A A' cs x} h k => by cases x with | none => exact h | some r => exact RdRec.mv h k⟩
theorem rd_optn {w : World} {A : Nat → Prop} : RdOpt w A recZ none := rfl
theorem rd_opts {w : World} {A : Nat → Prop} {b : Block} {c : QC} {cs : List Value} (h0 : madeE b c = 0) (h : RdMade w A cs (b, c)) : RdOpt w A cs (some ⟨b, c⟩) := RdMade.rec h0 h
theorem St.vlOf {α : Type} {rd : World → (Nat → Prop) → List Value → α → Prop} [RdK rd] {w0 w : World} {F0 : Nat → Prop} {L L' : List Res} {cs : List Value} {x : α} (h : St w0 F0 L w) (hp : Pick L (VlR rd cs x) L') : ∃ w A, rd w A cs x := by
  obtain ⟨F, hF, _⟩ := h
  obtain ⟨F1, h1, _⟩ := stars_pick hp hF
  exact ⟨w, F1, h1.1⟩
attribute [local irreducible] Gl Gc Gx Gs Runs Wt
attribute [local irreducible] dc RdMade RdOpt RdRec RdBlock madeE blkC rdRec allE pAll rstep
theorem lread_ok {w : World} {F : Nat → Prop} {a : Option Addr} {n cc : Nat} {x : List UInt8} (h : stars [] w F) {TE : Nat} {ea : Nat → Addr} {es : List Nat} [Has es 1] [Has es 2] [Has es 3] [Has es 4] [Has es 7] [Has es 12] (hE : GErr es w (fun k => ¬ F k) TE ea) (hK : KR w (fun k => ¬ F k)) (hx : RdRow w (fun k => ¬ F k) 1 a n (x.map B8)) (hb : n ≤ 1099511627776) :
    Calls Tryz.prog 68 #[.slice a n cc] w (Post w F (fun r : List Value => .tuple #[.agg r.toArray, eV TE ea (if (rdRec x).isSome then 0 else 7)]) (fun r => [pureR (r.length = 18 ∧ ∀ v ∈ r, v.oneCell' = true), VlR RdOpt r (rdRec x)])) := by
 refine g_enter (env := [(0, .slice a n cc)]) Tryz.func68 rfl h Tryz.ntmps68 rfl rfl ?_; refine gsr (zal fun b2 => ?_); refine gl_eqc (cs' := recZ) (by repeat (first | exact Pick.here | apply Pick.there)) (by kernel_rfl) ?_; refine zxa ?_; refine zxs ?_; refine zxm ?_; refine zc (fun g => ?_) (c := fun w1 F1 F2 h1 h2 hd hst => newReader_ok (TE := TE) (ea := ea) h1 (hx.mv hst.still) hb)
 refine zxa ?_; refine zxs ?_; refine zxm ?_; refine zc ?_ (c := fun w1 F1 F2 h1 h2 hd hst => rbytes_ok (most := 65535) h1 (hE.mv hst.still) (by decide))
 rintro ⟨a16, c16, l1⟩
 refine gl_pureR (fun hp16 => ?_)
 obtain ⟨g16, k16⟩ := hp16; replace k16 : l1.length ≤ 65535 := k16
 refine zxm ?_; refine zc ?_ (c := fun w1 F1 F2 h1 h2 hd hst => rbytes_ok (most := 65535) h1 (hE.mv hst.still) (by decide))
 rintro ⟨a18, c18, l2⟩
 refine gl_pureR (fun hp18 => ?_)
 obtain ⟨g18, k18⟩ := hp18; replace k18 : l2.length ≤ 65535 := k18
 have ha : Ag pRec (.ok x) (l1, l2) := g16.bind (g18.bind (Ag.pure _))
 have hr : rstep pRec (.ok x) = rstep (pBytes 65535) (rstep (pBytes 65535) (.ok x)) := by rw [pRec, rstep_bind g16, rstep_bind g18, rstep_pure]
 have hfin := allE_fin (z := ([], [])) noz_rec ha
 rw [hr] at hfin; refine zxa ?_; refine zxa ?_; refine gnt (gc_seq (gsr (zxm ?_))); refine zc (fun _ => ?_) (c := fun w1 F1 F2 h1 h2 hd hst => rdone_ok h1 (hE.mv hst.still))
 refine gp (r_bool (c := decide (¬ doneE (rstep (pBytes 65535) (rstep (pBytes 65535) (.ok x))) = 0)) (r_nenil rfl (by kernel_rfl)) (by simp)) ?_; refine gnt (gif rfl (fun hc21 => ?_) (fun hc21 => ?_))
 ·refine gc_seq (gc_regionZ 3 [] ?_); refine yps 0 rfl zbu ?_; refine yps 1 rfl (r_ld1o rfl Ty.row_27 (hE.c 7 Has.h) (hE.n 7 Has.h)) ?_; refine yos 2 rfl ?_; refine zsN ?_; refine yxs ?_; refine yzs rfl ?_; refine zxa ?_; refine gnt (gc_ret (gx_then_ret (gx_retct rfl rfl (by conv => lhs; whnf) (ldA Ty.row_92 Ty.sz_92) ?_))); intro w' hw; have he : rdRec x = none := rdRec_n1 (z := ([], [])) (by rw [← hfin.1]; exact hc21)
  exact ⟨recZ, by rw [he]; rfl, St.pureI ⟨rfl, One.h⟩ (St.vl (hw.z) (by rw [he]; exact rd_optn))⟩
 ·try simp only at hc21
  have hd0 : doneE (rstep (pBytes 65535) (rstep (pBytes 65535) (.ok x))) = 0 := by omega
  have hx0 : pAll pRec x = .ok (l1, l2) := by rw [allE_good' (z := ([], [])) noz_rec (by rw [← hfin.1]; exact hd0), hfin.2.1 hd0]
  refine gc_skip (gx_then (gsr (zxm ?_))); refine zc (fun q26 => ?_) (c := fun w1 F1 F2 h1 h2 hd hst => readBlock_ok (b := l1) h1 (hE.mv hst.still) (rd_row (xs := l1.map B8) h2 hd (by repeat (first | exact Pick.here | apply Pick.there))) (by show l1.length ≤ _; omega))
  refine gl_pureR (fun hq26 => ?_)
  obtain ⟨hl26, ho26⟩ := hq26; replace hl26 : q26.length = 39 := hl26
  have i26 := Len.of hl26
  have j26 := One.of (show ∀ v ∈ q26, v.oneCell' = true from ho26)
  refine zxm ?_; refine gp zex ?_; refine gp zex ?_; refine zal fun b7 => ?_; refine zsN ?_; refine zxa ?_; refine zxs ?_; refine zxm ?_; refine zc (fun q31 => ?_) (c := fun w1 F1 F2 h1 h2 hd hst => readBlock_ok (b := l2) h1 (hE.mv hst.still) (rd_row (xs := l2.map B8) h2 hd (by repeat (first | exact Pick.here | apply Pick.there))) (by show l2.length ≤ _; omega))
  refine gl_pureR (fun hq31 => ?_)
  obtain ⟨hl31, ho31⟩ := hq31; replace hl31 : q31.length = 39 := hl31
  have i31 := Len.of hl31
  have j31 := One.of (show ∀ v ∈ q31, v.oneCell' = true from ho31)
  refine zxm ?_; refine gp zex ?_; refine gp zex ?_; refine zal fun b9 => ?_; refine zsN ?_; refine zxa ?_; refine gnt (gc_seq (gc_seq ?_)); by_cases hS1 : (allE pBlock blk0 l1).1 = 0
  ·by_cases hS2 : (allE pBlock blk0 l2).1 = 0
   ·refine gc_region (zxm ?_); refine gp (r_bool (c := false) (r_nenil rfl (by kernel_rfl)) (by simp [hS1])) ?_; refine zxm ?_; refine gq zmv ?_; refine gq (r_bool (c := false) (r_nenil rfl (by kernel_rfl)) (by simp [hS2])) ?_; refine gp zpk ?_; refine gnt (gc_condF rfl rfl ?_); refine gc_skip (gx_then (gsr ?_)); obtain ⟨b, hbk⟩ : ∃ b, pAll pBlock l1 = .ok b := ⟨_, allE_good' noz_block hS1⟩; obtain ⟨c, hck⟩ : ∃ c, pAll pBlock l2 = .ok c := ⟨_, allE_good' noz_block hS2⟩; rw [allE_ok (z := blk0) hbk, allE_ok (z := blk0) hck]; have hbs : (⟨b, c.justify⟩ : LRec).bs = l1 := by rw [LRec.bs, block_dec hbk]
    have i45 := Len.of (show ((q31.drop 18).take 19).length = 19 by rw [List.length_take, List.length_drop]; omega)
    refine gp (zLa (cs := q26)) ?_; refine gp zfa ?_; refine gp (zL (sg := (q31.drop 18).take 19) (hg := rfl)) ?_; refine zc (fun q46 => ?_) (c := fun w1 F1 F2 h1 h2 hd hst => made_ok' (b := b) (c := c.justify) h1 (hE.mv hst.still) (hK.mv hst.still) (vl_rd h2 hd (by repeat (first | exact Pick.here | apply Pick.there))) (rd_just (b := c) (vl_rd h2 hd (by repeat (first | exact Pick.here | apply Pick.there)))))
    refine gl_pureR (fun hq46 => ?_)
    obtain ⟨hl46, ho46⟩ := hq46; replace hl46 : q46.length = 18 := hl46
    have i46 := Len.of hl46
    have j46 := One.of (show ∀ v ∈ q46, v.oneCell' = true from ho46)
    refine zxm ?_; refine gp zex ?_; refine gp zex ?_; refine zal fun b11 => ?_; refine zsN ?_; refine zxa ?_; refine gnt (gc_seq (gc_seq ?_)); by_cases hS3 : madeE b c.justify = 0
    ·refine gc_fact (fun w' hw => St.vlOf (rd := RdMade) (cs := q46) (x := (b, c.justify)) hw (by repeat (first | exact Pick.here | apply Pick.there))) (fun hvl => ?_)
     obtain ⟨wv, A, hvl⟩ := hvl; have hvl := RdMade.rec hS3 hvl
     unfold RdRec at hvl
     obtain ⟨a1, n1, c1, a2, n2, c2, rfl, _⟩ := hvl; refine gc_region (zxm ?_); refine gp (r_bool (c := false) (r_nenil rfl (by kernel_rfl)) (by simp [hS3])) ?_; refine zxm ?_; refine gq zfa ?_; refine gq zl ?_; refine gq zmv ?_; refine zc (fun _ => ?_) (c := fun w1 F1 F2 h1 h2 hd hst => bytesEq_ok (l1 := (⟨b, c.justify⟩ : LRec).bs) (l2 := l1) h1 (rd_rows (r := (⟨b, c.justify⟩ : LRec)) (RdMade.rec hS3 (vl_rd h2 hd (by repeat (first | exact Pick.here | apply Pick.there))))).1 (rd_row (xs := l1.map B8) h2 hd (by repeat (first | exact Pick.here | apply Pick.there))))
     refine gq (r_bool (c := false) znt (by simp [hbs])) ?_; refine gp zpk ?_; refine zxm ?_; refine gq zfa ?_; refine gq zl ?_; refine gq zmv ?_; refine zc (fun _ => ?_) (c := fun w1 F1 F2 h1 h2 hd hst => bytesEq_ok (l1 := (⟨b, c.justify⟩ : LRec).cs) (l2 := l2) h1 (rd_rows (r := (⟨b, c.justify⟩ : LRec)) (RdMade.rec hS3 (vl_rd h2 hd (by repeat (first | exact Pick.here | apply Pick.there))))).2.1 (rd_row (xs := l2.map B8) h2 hd (by repeat (first | exact Pick.here | apply Pick.there))))
     refine gq znt ?_; refine gp zpk ?_; refine gnt (gif rfl (fun hc64 => ?_) (fun hc64 => ?_))
     ·refine gc_seq (gc_regionZ 3 [] ?_); refine yps 0 rfl zbu ?_; refine yps 1 rfl (r_ld1o rfl Ty.row_27 (hE.c 7 Has.h) (hE.n 7 Has.h)) ?_; refine yos 2 rfl ?_; refine zsN ?_; refine yxs ?_; refine yzs rfl ?_; refine zxa ?_; refine gnt (gc_ret (gx_then_ret (gx_retct rfl rfl (by conv => lhs; whnf) (ldA Ty.row_92 Ty.sz_92) ?_))); intro w' hw; have he : rdRec x = none := rdRec_n5 hx0 hbk hck (by simpa using hc64)
      exact ⟨recZ, by rw [he]; rfl, St.pureI ⟨rfl, One.h⟩ (St.vl (hw.z) (by rw [he]; exact rd_optn))⟩
     ·refine gc_skip (gx_then (gsr (gp zL ?_))); refine zsN ?_; refine zxa ?_; refine gnt (gc_ret (gx_retct rfl rfl (by conv => lhs; whnf) (ldA Ty.row_92 Ty.sz_92) ?_)); have hcs : (⟨b, c.justify⟩ : LRec).cs = l2 := by simpa using hc64
      have he := rdRec_y hx0 hbk hck hS3 hcs
      intro w' hw; have hw2 := hw.cz (M := [VlR RdMade (dc (idOf b) ++ [.slice a1 n1 c1, .slice a2 n2 c2]) (b, c.justify)]) (N := [VlR RdOpt (dc (idOf b) ++ [.slice a1 n1 c1, .slice a2 n2 c2]) (some (⟨b, c.justify⟩ : LRec))]) (fun _ _ h => rdR_mk (rd_opts hS3 (stars_one' h).1) h)
      exact ⟨dc (idOf b) ++ [.slice a1 n1 c1, .slice a2 n2 c2], by rw [he]; simp only [Option.isSome_some, if_true, eV_zero], St.pureI ⟨by simp [dc_length], all_app' (dc_one _) (all_cons' rfl (all_cons' rfl all_nil'))⟩ (by rw [he]; exact hw2.z)⟩
    ·refine gc_region (zxm ?_); refine gp (r_bool (c := true) (r_nenil rfl (by kernel_rfl)) (by simp [hS3])) ?_; refine zxm ?_; refine gn ?_; refine gn ?_; refine gn ?_; refine gn ?_; refine gn ?_; refine gp zpk ?_; refine zxm ?_; refine gn ?_; refine gn ?_; refine gn ?_; refine gn ?_; refine gn ?_; refine gp zpk ?_; refine gnt (gc_condT rfl rfl ?_); refine gc_seq (gc_regionZ 3 [] ?_); refine yps 0 rfl zbu ?_; refine yps 1 rfl (r_ld1o rfl Ty.row_27 (hE.c 7 Has.h) (hE.n 7 Has.h)) ?_; refine yos 2 rfl ?_; refine zsN ?_; refine yxs ?_; refine yzs rfl ?_; refine zxa ?_; refine gnt (gc_ret (gx_then_ret (gx_retct rfl rfl (by conv => lhs; whnf) (ldA Ty.row_92 Ty.sz_92) ?_))); intro w' hw; have he : rdRec x = none := rdRec_n4 hx0 hbk hck hS3
     exact ⟨recZ, by rw [he]; rfl, St.pureI ⟨rfl, One.h⟩ (St.vl (hw.z) (by rw [he]; exact rd_optn))⟩
   ·refine gc_region (zxm ?_); refine gp (r_bool (c := false) (r_nenil rfl (by kernel_rfl)) (by simp [hS1])) ?_; refine zxm ?_; refine gq zmv ?_; refine gq (r_bool (c := true) (r_nenil rfl (by kernel_rfl)) (by simp [hS2])) ?_; refine gp zpk ?_; refine gnt (gc_condT rfl rfl ?_); refine gc_seq (gc_regionZ 3 [] ?_); refine yps 0 rfl zbu ?_; refine yps 1 rfl (r_ld1o rfl Ty.row_27 (hE.c 7 Has.h) (hE.n 7 Has.h)) ?_; refine yos 2 rfl ?_; refine zsN ?_; refine yxs ?_; refine yzs rfl ?_; refine zxa ?_; refine gnt (gc_ret (gx_then_ret (gx_retct rfl rfl (by conv => lhs; whnf) (ldA Ty.row_92 Ty.sz_92) ?_))); intro w' hw; have he : rdRec x = none := rdRec_n3 hx0 (allE_good' noz_block hS1) hS2
    exact ⟨recZ, by rw [he]; rfl, St.pureI ⟨rfl, One.h⟩ (St.vl (hw.z) (by rw [he]; exact rd_optn))⟩
  ·refine gc_region (zxm ?_); refine gp (r_bool (c := true) (r_nenil rfl (by kernel_rfl)) (by simp [hS1])) ?_; refine zxm ?_; refine gn ?_; refine gn ?_; refine gp zpk ?_; refine gnt (gc_condT rfl rfl ?_); refine gc_seq (gc_regionZ 3 [] ?_); refine yps 0 rfl zbu ?_; refine yps 1 rfl (r_ld1o rfl Ty.row_27 (hE.c 7 Has.h) (hE.n 7 Has.h)) ?_; refine yos 2 rfl ?_; refine zsN ?_; refine yxs ?_; refine yzs rfl ?_; refine zxa ?_; refine gnt (gc_ret (gx_then_ret (gx_retct rfl rfl (by conv => lhs; whnf) (ldA Ty.row_92 Ty.sz_92) ?_))); intro w' hw; have he : rdRec x = none := rdRec_n2 hx0 hS1
   exact ⟨recZ, by rw [he]; rfl, St.pureI ⟨rfl, One.h⟩ (St.vl (hw.z) (by rw [he]; exact rd_optn))⟩
end
section
section tail
variable {ro : Option Nat} {P : Program} {ops : Array Oper} {Q : Exit → Act → World → Prop} {md : Region.Mode} {S : World → Prop} {z : Nat}
def waitsF (md : Region.Mode) (ops : Array Oper) : Nat → Nat → Nat → Bool
  | 0, _, _ => false
  | f + 1, i, j => match ops[i]? with
    | some o => (o.after.any fun e => Region.binds md e && Nat.beq e.on j) || (o.after.any fun e => Region.binds md e && waitsF md ops f e.on j)
    | none => false
def ClosedL (md : Region.Mode) (ops : Array Oper) (listed : Array Bool) : Prop := ∀ (i : Nat) (o : Oper) (e : Edge), listed.getD i false = true → ops[i]? = some o → e ∈ o.after → Region.binds md e = true → listed.getD e.on false = true
theorem waitsF_listed {listed : Array Bool} (hc : ClosedL md ops listed) {j : Nat} : ∀ {f i : Nat} {o : Oper}, waitsF md ops f i j = true → ops[i]? = some o → (∀ e ∈ o.after, Region.binds md e = true → listed.getD e.on false = true) → listed.getD j false = true
  | 0, _, _, h, _, _ => by cases h
  | f + 1, i, o, h, ho, hall => by
    simp only [waitsF, ho, Bool.or_eq_true] at h
    rcases h with h | h
    · obtain ⟨e, he, hb⟩ := Array.any_eq_true'.1 h
      simp only [Bool.and_eq_true] at hb
      have := hall e he hb.1
      rwa [Nat.eq_of_beq_eq_true hb.2] at this
    · obtain ⟨e, he, hb⟩ := Array.any_eq_true'.1 h
      simp only [Bool.and_eq_true] at hb
      have hl := hall e he hb.1
      cases ho2 : ops[e.on]? with
      | none =>
        have h3 := hb.2
        cases f with
        | zero => cases h3
        | succ f => simp [waitsF, ho2] at h3
      | some o2 => exact waitsF_listed hc hb.2 ho2 fun e2 he2 hb2 => hc e.on o2 e2 hl ho2 he2 hb2
def tailU (md : Region.Mode) (ops : Array Oper) (z : Nat) : Bool := Nat.blt z ops.size && (List.range ops.size).all fun i => Nat.blt i z || match ops[i]? with
  | some o => ((List.range z).all fun j => waitsF md ops 12 i j) && (Nat.beq i z || o.after.any fun e => Region.binds md e && Nat.beq e.on (i - 1))
  | none => false
def listedU (m z : Nat) : Array Bool := ((List.replicate z true) ++ (List.replicate (m - z) false)).toArray
theorem listedU_lo {m z i : Nat} (h : i < z) : (listedU m z)[i]? = some true := by
  simp only [listedU, List.getElem?_toArray]
  rw [List.getElem?_append_left (by simpa using h), List.getElem?_replicate, if_pos h]
theorem listedU_hi {m z i : Nat} (h : z ≤ i) (hm : i < m) : (listedU m z)[i]? = some false := by
  simp only [listedU, List.getElem?_toArray]
  rw [List.getElem?_append_right (by simpa using h), List.getElem?_replicate, if_pos (by simp; omega)]
theorem tailU_at (h : tailU md ops z = true) {i : Nat} (hi : i < ops.size) (hz : z ≤ i) : ∃ o, ops[i]? = some o ∧ (∀ j, j < z → waitsF md ops 12 i j = true) ∧ (i ≠ z → ∃ e ∈ o.after, Region.binds md e = true ∧ e.on = i - 1) := by
  simp only [tailU, Bool.and_eq_true] at h
  have h2 := List.all_eq_true.1 h.2 i (List.mem_range.2 hi)
  cases ho : ops[i]? with
  | none => simp [ho, Nat.not_lt.2 hz] at h2
  | some o =>
    simp only [ho, Bool.or_eq_true, Nat.blt_eq, Bool.and_eq_true] at h2
    rcases h2 with h2 | ⟨h3, h4⟩
    · omega
    · refine ⟨o, rfl, fun j hj => ?_, fun hne => ?_⟩
      · exact List.all_eq_true.1 h3 j (List.mem_range.2 hj)
      · rcases h4 with h4 | h4
        · exact absurd (Nat.eq_of_beq_eq_true h4) hne
        · obtain ⟨e, he, hb⟩ := Array.any_eq_true'.1 h4
          simp only [Bool.and_eq_true] at hb
          exact ⟨e, he, hb.1, Nat.eq_of_beq_eq_true hb.2⟩
def InvU (md : Region.Mode) (ops : Array Oper) (z : Nat) (listed : Array Bool) : Prop := listed.size = ops.size ∧ (∀ i, z ≤ i → i < ops.size → listed[i]? = some false) ∧ ClosedL md ops listed
theorem getD_some {listed : Array Bool} {i : Nat} (hi : i < listed.size) (h : listed.getD i false = true) : listed[i]? = some true := by
  rw [Array.getElem?_eq_getElem hi]
  simpa [hi] using h
theorem tailU_ready (h : tailU md ops z = true) {listed : Array Bool} (hi : InvU md ops z listed) (hz : z ∈ Region.ready md ops listed) : listed = listedU ops.size z := by
  have hlt : z < ops.size := ready_lt hz
  obtain ⟨o, ho, h1, _⟩ := tailU_at h hlt (Nat.le_refl z)
  obtain ⟨_, o', ho', hall⟩ := mem_ready.1 hz
  rw [ho] at ho'
  cases ho'
  apply Array.ext_getElem?
  intro i
  have hs : (listedU ops.size z).size = ops.size := by simp [listedU]; omega
  by_cases hm : i < ops.size
  · by_cases hiz : i < z
    · have := waitsF_listed hi.2.2 (h1 i hiz) ho hall
      rw [getD_some (by rw [hi.1]; exact hm) this, listedU_lo hiz]
    · rw [hi.2.1 i (by omega) hm, listedU_hi (by omega) hm]
  · rw [Array.getElem?_eq_none (by rw [hi.1]; omega), Array.getElem?_eq_none (by rw [hs]; omega)]
theorem tailU_not (h : tailU md ops z = true) {listed : Array Bool} (hi : InvU md ops z listed) {i : Nat} (hr : i ∈ Region.ready md ops listed) (hz : z < i) : False := by
  have hlt := ready_lt hr
  obtain ⟨o, ho, _, h2⟩ := tailU_at h hlt (by omega)
  obtain ⟨_, o', ho', hall⟩ := mem_ready.1 hr
  rw [ho] at ho'
  cases ho'
  obtain ⟨e, he, hb, hon⟩ := h2 (by omega)
  have h3 := hall e he hb
  rw [hon] at h3
  have := getD_some (by rw [hi.1]; omega) h3
  rw [hi.2.1 (i - 1) (by omega) (by omega)] at this
  cases this
theorem wpAnyIn_of_seqU {Q' : Exit → Act → World → Prop} (x : Nat) : ∀ (l : List Oper) (k : Nat) (listed : Array Bool) (a : Act) (w : World), (∀ j, l[j]? = ops[k + j]?) →
    Region.seqB md ops l.length k listed = true → wpListIn (FR ro) 0 P ops Q' l a w → wpAnyIn (FR ro) 0 P md ops Q' (l.length + x) listed a w
  | [], k, listed, a, w, _, hB, h => wpAnyIn_done' (by simpa [Region.seqB] using hB) h _
  | o :: l, k, listed, a, w, hl, hB, h => by
    have h0 : ops[k]? = some o := by simpa using (hl 0).symm
    simp only [List.length_cons, Region.seqB, Bool.and_eq_true, decide_eq_true_eq] at hB
    rw [show (o :: l).length + x = (l.length + x) + 1 by simp; omega]
    refine ⟨fun h1 => (by rw [hB.1] at h1; cases h1), fun i hi => ?_⟩
    rw [hB.1] at hi
    have hik : i = k := by simpa using hi
    subst hik
    have hw : wpOpIn (FR ro) 0 P ops Q' i (wpListIn (FR ro) 0 P ops Q' l) a w := by unfold wpOpIn; simp only [h0]; exact h
    exact wpOpIn_mono (fun a' w' h' => wpAnyIn_of_seqU x l (i + 1) _ a' w' (fun j => by have := hl (j + 1); simpa [Nat.add_assoc, Nat.add_comm 1 j] using this) hB.2 h') hw
theorem wpAnyIn_of_tailU (h : tailU md ops z = true) (hseq : Region.seqB md ops (ops.size - z) z (listedU ops.size z) = true) : ∀ (fuel : Nat) (listed : Array Bool) (a : Act) (w : World), InvU md ops z listed →
    wpAnyT ro P md ops Q S z (wpListIn (FR ro) 0 P ops Q (ops.toList.drop z)) fuel listed a w → wpAnyIn (FR ro) 0 P md ops Q (fuel + (ops.size - z)) listed a w
  | 0, listed, a, w, hi, H => by
    have hz : z ∈ Region.ready md ops listed := by rw [H.1]; simp
    rw [tailU_ready h hi hz, Nat.zero_add]
    have := wpAnyIn_of_seqU (ro := ro) (Q' := Q) 0 (ops.toList.drop z) z (listedU ops.size z) a w (fun j => by simp [List.getElem?_drop]) (by simpa using hseq) H.2
    simpa using this
  | fuel + 1, listed, a, w, hi, H => by
    by_cases hz : z ∈ Region.ready md ops listed
    · have hl := tailU_ready h hi hz
      have hone : Region.ready md ops listed = [z] := by
        have hn := ready_nodup (md := md) (ops := ops) (listed := listed)
        have hall : ∀ i ∈ Region.ready md ops listed, i = z := fun i hr => by
          rcases Nat.lt_trichotomy i z with hlt | he | hgt
          · exfalso
            have h1 := (mem_ready.1 hr).1
            rw [hl] at h1
            have hm := ready_lt hr
            have h2 := listedU_lo (m := ops.size) hlt
            rw [Array.getD_eq_getD_getElem?, h2] at h1
            cases h1
          · exact he
          · exact (tailU_not h hi hr hgt).elim
        generalize Region.ready md ops listed = r at *
        match r with
        | [] => cases hz
        | [y] => rw [hall y (by simp)]
        | y :: y' :: r' =>
          have h1 := hall y (by simp)
          have h2 := hall y' (by simp)
          subst h1; subst h2
          simp at hn
      have hT := H.1 hone
      rw [hl]
      have := wpAnyIn_of_seqU (ro := ro) (Q' := Q) (fuel + 1) (ops.toList.drop z) z (listedU ops.size z) a w (fun j => by simp [List.getElem?_drop]) (by simpa using hseq) hT
      rw [show fuel + 1 + (ops.size - z) = (ops.toList.drop z).length + (fuel + 1) by simp; omega]
      exact this
    · rw [show fuel + 1 + (ops.size - z) = (fuel + (ops.size - z)) + 1 by omega]
      refine ⟨fun h0 => absurd h0 H.2.1, fun i hr => ?_⟩
      have hne : i ≠ z := fun e => hz (e ▸ hr)
      refine wpOpIn_mono (fun a' w' h' => wpAnyIn_of_tailU h hseq fuel _ a' w' ⟨by simpa using hi.1, fun k hk hm => ?_, fun k o e hk ho he hb => ?_⟩ h'.2) (H.2.2 i hr hne)
      · have hik : i ≠ k := fun e => by
          subst e
          rcases Nat.lt_or_ge z i with hgt | hle
          · exact tailU_not h hi hr hgt
          · omega
        rw [Array.getElem?_setIfInBounds_ne hik]
        exact hi.2.1 k hk hm
      · have hup : ∀ j, listed.getD j false = true → (listed.setIfInBounds i true).getD j false = true := fun j hj => by
          rw [Array.getD_eq_getD_getElem?] at hj ⊢
          by_cases hij : i = j
          · subst hij
            rw [Array.getElem?_setIfInBounds_self]
            split
            · rfl
            · rename_i hn
              rw [Array.getElem?_eq_none (by omega)] at hj; cases hj
          · rw [Array.getElem?_setIfInBounds_ne hij]; exact hj
        by_cases hik : i = k
        · subst hik
          obtain ⟨_, o', ho', hall⟩ := mem_ready.1 hr
          rw [ho] at ho'
          cases ho'
          exact hup _ (hall e he hb)
        · refine hup _ (hi.2.2 k o e ?_ ho he hb)
          rw [Array.getD_eq_getD_getElem?, Array.getElem?_setIfInBounds_ne hik] at hk
          rw [Array.getD_eq_getD_getElem?]; exact hk
end tail
def Gu (P : Program) (w0 : World) (F0 : Nat → Prop) (K L : List Res) (ops : Array Oper) (Q : Exit → Act → World → Prop) (z fuel : Nat) (listed : Array Bool) (n : Fm) (env : Env) : Prop :=
  ∀ w, St w0 F0 L w → wpAnyT n.ro P .any ops Q (St w0 F0 K) z (wpListIn (FR n.ro) 0 P ops Q (ops.toList.drop z)) fuel listed (fr n env) w
def NextU (P : Program) (w0 : World) (F0 : Nat → Prop) (K : List Res) (ops : Array Oper) (Q : Exit → Act → World → Prop) (z fuel : Nat) (listed : Array Bool) (n : Fm) (a : Act) (w : World) : Prop :=
  St w0 F0 K w ∧ wpAnyT n.ro P .any ops Q (St w0 F0 K) z (wpListIn (FR n.ro) 0 P ops Q (ops.toList.drop z)) fuel listed a w
section heldu
variable {P : Program} {w0 : World} {F0 : Nat → Prop} {K L : List Res} {Q : Exit → Act → World → Prop} {n : Fm} {env : Env} {ops : Array Oper} {listed : Array Bool} {fuel z : Nat}
theorem gc_regionU {id : Nat} {l : List Oper} (z : Nat) (K : List Res) (h : Gu P w0 F0 K L l.toArray Q z z (Array.replicate l.length false) n env) (hm : P.follows .mixedOrders = true := by kernel_rfl) (hz : tailU .any l.toArray z = true := by kernel_rfl)
    (hs : Region.seqB .any l.toArray (l.length - z) z (listedU l.length z) = true := by kernel_rfl) : Gc P w0 F0 L (.region id l.toArray true) Q n env := fun w hw =>
  wpIn_region_any hm (by
    have hlt : z < l.length := by
      have := hz
      simp only [tailU, Bool.and_eq_true, Nat.blt_eq, List.size_toArray] at this
      exact this.1
    have := wpAnyIn_of_tailU (ops := l.toArray) hz (by simpa using hs) _ (Array.replicate l.length false) _ _ ⟨by simp, fun i _ hi => by simp at hi; simp [hi], fun i o e hi _ _ _ => by
      rw [Array.getD_eq_getD_getElem?, Array.getElem?_replicate] at hi
      split at hi <;> cases hi⟩ (h _ (hw.drawn (w.drawn + 1)))
    rw [show z + (l.toArray.size - z) = l.toArray.size by simp; omega] at this
    simpa using this)
theorem ypu (i : Nat) {t : Tmp} {op : Op} {ty : TypeId} {pos : String} {af : Array Edge} {gd : Option (Nat × Bool)} {v : Value} {L' : List Res} (hi : ops[i]? = some ⟨some t, op, ty, pos, af, gd⟩) (hR : Runs P w0 F0 K n env ⟨some t, op, ty, pos, af, gd⟩ v)
    (k : Gu P w0 F0 K L ops Q z fuel (listed.setIfInBounds i true) n ((t, v) :: env)) (hw : Wt ops n env ⟨some t, op, ty, pos, af, gd⟩ true := by first | exact wt0 rfl | exact wtgT rfl rfl rfl rfl) (hsel : Sel L K L' := by repeat (first | exact Sel.nil | (apply Sel.cons; · (repeat (first | exact Pick.here | apply Pick.there)))))
    (hs : Region.noSelect ops = true := by kernel_rfl) (hd : noDef ops = true := by kernel_rfl) (hf : Region.free .any ops listed i = true := by kernel_rfl) (hr : (Region.ready .any ops listed).contains i = true := by kernel_rfl) (hz : Nat.beq i z = false := by kernel_rfl)
    (hQ : ∀ c a w, Q (.panic c) (a.put (some t) v) w → Q (.panic c) a w := by exact fun _ _ _ h => h) : Gu P w0 F0 K L ops Q z (fuel + 1) listed n env := fun w hst =>
  wpAnyT_first hi (fun e => by subst e; simp at hz) (Region.noSelect_spec hs) hd hQ fuel listed _ _ (Region.free_spec hi hf) (by simpa using hr) (.inl ⟨hw, fun w' hw' => by rw [fr_eval]; exact hR w' hw'⟩) (hst.sel hsel) (by rw [fr_put]; exact k w hst)
theorem you (i : Nat) {o : Oper} (hi : ops[i]? = some o) (k : Gl P w0 F0 L ops (Exit.then (NextU P w0 F0 K ops Q z fuel (listed.setIfInBounds i true) n) Q) [o] n env) (hr : Region.ready .any ops listed = [i] := by kernel_rfl) (hz : Nat.beq i z = false := by kernel_rfl) : Gu P w0 F0 K L ops Q z (fuel + 1) listed n env := fun w hst =>
  ⟨fun h => (by rw [hr] at h; simp only [List.cons.injEq, and_true] at h; subst h; simp at hz), by rw [hr]; simp, fun j hj _ => by
    rw [hr] at hj
    obtain rfl : j = i := by simpa using hj
    exact wpOpIn_of_list hi (k w hst)⟩
theorem you2 (i j : Nat) {o o2 : Oper} (hi : ops[i]? = some o) (hj : ops[j]? = some o2) (k : Gl P w0 F0 L ops (Exit.then (NextU P w0 F0 K ops Q z fuel (listed.setIfInBounds i true) n) Q) [o] n env)
    (k2 : Gl P w0 F0 L ops (Exit.then (NextU P w0 F0 K ops Q z fuel (listed.setIfInBounds j true) n) Q) [o2] n env) (hr : Region.ready .any ops listed = [i, j] := by kernel_rfl) : Gu P w0 F0 K L ops Q z (fuel + 1) listed n env := fun w hst =>
  ⟨fun h => (by rw [hr] at h; simp at h), by rw [hr]; simp, fun x hx _ => by
    rw [hr] at hx
    simp only [List.mem_cons, List.not_mem_nil, or_false] at hx
    rcases hx with rfl | rfl
    · exact wpOpIn_of_list hi (k w hst)
    · exact wpOpIn_of_list hj (k2 w hst)⟩
theorem yxu {L' : List Res} {Q' : Exit → Act → World → Prop} (k : Gu P w0 F0 K L ops Q z fuel listed n env) (hsel : Sel L K L' := by repeat (first | exact Sel.nil | (apply Sel.cons; · (repeat (first | exact Pick.here | apply Pick.there))))) : Gl P w0 F0 L ops (Exit.then (NextU P w0 F0 K ops Q z fuel listed n) Q') [] n env := gl_nil fun w hw => ⟨hw.sel hsel, k w hw⟩
theorem yzu {l : List Oper} (k : Gl P w0 F0 L ops Q l n env) (hl : ops.toList.drop z = l := by rfl) (hr : Region.ready .any ops listed = [z] := by kernel_rfl) : Gu P w0 F0 K L ops Q z 0 listed n env := fun w hst => ⟨hr, by rw [hl]; exact k w hst⟩
end heldu
end
section
def lstep (d : DS) (l : LS) : LS × Bool × Nat := match lnext d l.e l.rs.length with
  | .error k => (l, false, k)
  | .ok none => (l, false, 0)
  | .ok (some r) => (⟨l.base, l.rs ++ [r], l.e + lenR r⟩, true, 0)
section
variable {d : DS} {l : LS} {x : Nat}
theorem lstep_z (h : d.at l.e = sec0) : lstep d l = (l, false, 0) := by unfold lstep lnext; rw [if_pos h]
theorem lstep_1 (h : d.at l.e ≠ sec0) (hx : x = valN ((d.at l.e).l.take 4)) (h1 : x < 1 ∨ ¬ nsec x + 2 ≤ d.n - l.e) : lstep d l = (l, false, 7) := by unfold lstep lnext; rw [if_neg h, if_pos (by rw [← hx]; exact h1)]
theorem bytesE_err {f : Nat → Sec} {a n : Nat} (h : (bytesE f a n).1 ≠ 0) : bytesAt f a n = none ∧ (bytesE f a n).1 = 7 := by
  unfold bytesE at *; split at h
  · rename_i hb; exact ⟨hb, rfl⟩
  · exact absurd rfl h
theorem bytesE_ok {f : Nat → Sec} {a n : Nat} (h : (bytesE f a n).1 = 0) : bytesAt f a n = some (bytesE f a n).2 := by
  unfold bytesE at *; split at h
  · cases h
  · rename_i hb; exact hb
theorem lstep_2 (h : d.at l.e ≠ sec0) (hx : x = valN ((d.at l.e).l.take 4)) (h1 : ¬ x < 1) (h2 : nsec x + 2 ≤ d.n - l.e) (h3 : (bytesE d.at (l.e + 1) x).1 ≠ 0) : lstep d l = (l, false, 7) := by
  unfold lstep lnext; rw [if_neg h, if_neg (by rw [← hx]; exact fun hh => hh.elim h1 (fun h' => h' h2)), ← hx, (bytesE_err h3).1]
theorem lstep_3 (h : d.at l.e ≠ sec0) (hx : x = valN ((d.at l.e).l.take 4)) (h1 : ¬ x < 1) (h2 : nsec x + 2 ≤ d.n - l.e) (h3 : (bytesE d.at (l.e + 1) x).1 = 0) (h4 : headL l.rs.length (bytesE d.at (l.e + 1) x).2 ≠ d.at l.e) : lstep d l = (l, false, 7) := by
  unfold lstep lnext; rw [if_neg h, if_neg (by rw [← hx]; exact fun hh => hh.elim h1 (fun h' => h' h2)), ← hx, bytesE_ok h3]; simp only [if_neg h4]
theorem lstep_4 (h : d.at l.e ≠ sec0) (hx : x = valN ((d.at l.e).l.take 4)) (h1 : ¬ x < 1) (h2 : nsec x + 2 ≤ d.n - l.e) (h3 : (bytesE d.at (l.e + 1) x).1 = 0) (h4 : headL l.rs.length (bytesE d.at (l.e + 1) x).2 = d.at l.e) (h5 : rdRec (bytesE d.at (l.e + 1) x).2 = none) : lstep d l = (l, false, 7) := by
  unfold lstep lnext; rw [if_neg h, if_neg (by rw [← hx]; exact fun hh => hh.elim h1 (fun h' => h' h2)), ← hx, bytesE_ok h3]; simp only [if_pos h4, h5]
theorem lstep_y {r : LRec} (h : d.at l.e ≠ sec0) (hx : x = valN ((d.at l.e).l.take 4)) (h1 : ¬ x < 1) (h2 : nsec x + 2 ≤ d.n - l.e) (h3 : (bytesE d.at (l.e + 1) x).1 = 0) (h4 : headL l.rs.length (bytesE d.at (l.e + 1) x).2 = d.at l.e) (h5 : rdRec (bytesE d.at (l.e + 1) x).2 = some r) :
    lstep d l = (⟨l.base, l.rs ++ [r], l.e + lenR r⟩, true, 0) ∧ lenR r = 1 + nsec x := by
  refine ⟨by unfold lstep lnext; rw [if_neg h, if_neg (by rw [← hx]; exact fun hh => hh.elim h1 (fun h' => h' h2)), ← hx, bytesE_ok h3]; simp only [if_pos h4, h5], ?_⟩
  rw [lenR, (rdRec_some h5).2, bytesAt_len (bytesE_ok h3)]
theorem num4 {v : List UInt8} (h : Ag (pNum 4) (.ok v) (x : Int)) (h4 : 4 ≤ v.length) : x = valN (v.take 4) := by
  have e : pNum 4 v = .ok ((valN (v.take 4) : Int), v.drop 4) := by unfold pNum pBind pTake; rw [if_neg (by omega)]; rfl
  have := h v _ _ rfl e
  omega
theorem vl_opt {cs : List Value} {r : LRec} {w : World} {F : Nat → Prop} (h : stars [VlR RdOpt cs (some r)] w F) : stars [VlR RdRec cs r] w F := rdR_mk (show RdRec w F cs r from (stars_one' h).1) h
end
attribute [local irreducible] Gl Gc Gx Gs Runs Wt
attribute [local irreducible] dc RdMade RdOpt RdRec RdBlock madeE blkC rdRec allE pAll rstep lstep bytesE headL valN
theorem lnext_ok' {w : World} {F : Nat → Prop} {q g : Nat} {l : LS} {d : DS} (h : stars [LedR q g l, DiskR g d] w F) (hk : DOk d) {ea : Nat → Addr} {es : List Nat} [Has es 1] [Has es 2] [Has es 3] [Has es 4] [Has es 6] [Has es 7] [Has es 12] (hE : GErr es w (fun k => ¬ F k) 261 ea) (hK : KR w (fun k => ¬ F k)) (ho : d.off = false) (he : l.e < d.n) (hln : l.rs.length < 4294967296) :
    Calls Tryz.prog 40 #[.pointer (some ⟨q, 0, none⟩)] w (Post w F (fun _ : Unit => .tuple #[.bool (lstep d l).2.1, eV 261 ea (lstep d l).2.2]) (fun _ => [LedR q g (lstep d l).1, DiskR g d])) := by
 obtain ⟨a0, m0, css, h18, h⟩ := led_open h; have hn4 := hk.n
 have hsl := (d.at l.e).h
 refine g_enter (env := [(0, .pointer (some ⟨q, 0, none⟩))]) Tryz.func40 rfl h Tryz.ntmps40 rfl rfl ?_; refine gsr (zxa ?_); refine zxa ?_; refine gnt (gc_join (α := Nat) (fun b => [blk b 54 (sc (d.at l.e)), blk q 99 [.pointer (some ⟨g, 0, none⟩), .int .i64 l.base, .int .i64 l.e, .slice a0 l.rs.length m0], rowR 92 18 a0 l.rs.length m0 css.flatten, ElR RdRec css l.rs, DiskR g d]) (fun b => [(4, .pointer (some ⟨b, 0, none⟩)), (5, eV 261 ea 0), (2, .bool false), (3, .nilIface)]) [11, 12, 13, 14, 15, 16, 17, 18, 19, 20, 21, 22] ?_ ?_)
 ·refine gc_regionZ 14 ([blk q 99 [.pointer (some ⟨g, 0, none⟩), .int .i64 l.base, .int .i64 l.e, .slice a0 l.rs.length m0]]) ?_; refine yps 0 rfl zmv ?_; refine yps 1 rfl znc ?_; refine yps 2 rfl zfa ?_; refine yps 3 rfl zl ?_; refine yps 4 rfl zmv ?_; refine yps 5 rfl znc ?_; refine yps 6 rfl zfa ?_; refine yps 7 rfl zl ?_; refine yo2s 8 12 rfl rfl ?_ ?_
  ·refine zc (fun _ => ?_) (c := fun w1 F1 F2 h1 h2 hd hst => read_ok (i := (l.e : Int)) h1 (hE.mv hst.still))
   rw [show d.rd (l.e : Int) = (0, (d.at l.e)) from rd_at (has_iff.2 ⟨by omega, by omega⟩) ho]; refine yxs ?_; refine yps 9 rfl zmv ?_; refine yps 10 rfl zex ?_; refine yps 11 rfl zex ?_; refine yos 12 rfl ?_; refine zal fun b4 => ?_; refine yxs ?_; refine yos 13 rfl ?_; refine zsA (new := sc ((d.at l.e))) (sc_length _) (sc_one _) ?_; refine yxs ?_; refine yzs rfl ?_; refine zxa ?_; refine gl_nil (zjn (b4) ?_)
   ·exact zsel
  ·refine zal fun b4 => ?_; refine yxs ?_; refine yos 8 rfl ?_; refine zc (fun _ => ?_) (c := fun w1 F1 F2 h1 h2 hd hst => read_ok (i := (l.e : Int)) h1 (hE.mv hst.still))
   rw [show d.rd (l.e : Int) = (0, (d.at l.e)) from rd_at (has_iff.2 ⟨by omega, by omega⟩) ho]; refine yxs ?_; refine yps 9 rfl zmv ?_; refine yps 10 rfl zex ?_; refine yps 11 rfl zex ?_; refine yos 13 rfl ?_; refine zsA (new := sc ((d.at l.e))) (sc_length _) (sc_one _) ?_; refine yxs ?_; refine yzs rfl ?_; refine zxa ?_; refine gl_nil (zjn (b4) ?_)
   ·exact zsel
 ·intro b u; refine gc_seq (gsr (zxm ?_)); refine gp (r_bool (c := false) (r_nenil rfl (by kernel_rfl)) rfl) ?_; refine zxm ?_; refine gq (zL (sg := sc (d.at l.e))) ?_; refine gq (zba (cs := sc sec0) (by exact rfl)) ?_; refine gq (r_bool (c := decide ((d.at l.e) = sec0)) (r_eql_sec (a := (d.at l.e)) (b := sec0) Ty.arr_54 Ty.un_5 Ty.sz_5 (by kernel_rfl)) rfl) ?_; refine gp zpk ?_; refine gnt (gif rfl (fun hc29 => ?_) (fun hc29 => ?_))
  ·try simp only at hc29
   have hz : (d.at l.e) = sec0 := by simpa using hc29
   refine gsr (zxm ?_); refine zxa ?_; refine zxa ?_; refine gnt (gc_ret (gx_then_ret (gx_ret2 rfl (by conv => lhs; whnf) (by conv => lhs; whnf) ?_))); have e := lstep_z hz
   exact fun w' hw => ⟨(), by rw [e], by rw [e]; exact St.led (hw.z) h18 rfl rfl rfl rfl⟩
  ·try simp only at hc29
   have hz : (d.at l.e) ≠ sec0 := by simpa using hc29
   refine gc_skip (gx_then (gsr (gp (r_slice_arr (l := 0) (h := 64) rfl Ty.arr_54 Ty.sz_5 rfl rfl (by omega) (by omega) (by omega)) ?_))); refine zc (fun gr => ?_) (c := fun w1 F1 F2 h1 h2 hd hst => newReader_ok (TE := 261) (ea := ea) (b := (d.at l.e).l) h1 (by have hx := rd_blkY (l := (d.at l.e).l) (o := 0) (m := 64) h2 hd (by repeat (first | exact Pick.here | apply Pick.there)) (by omega) (by decide); rw [List.drop_zero, List.take_of_length_le (by omega)] at hx; exact hx) (by omega))
   refine zc (fun x => ?_) (c := fun w1 F1 F2 h1 h2 hd hst => rnum_ok (wd := 4) h1 (hE.mv hst.still) (by decide) (by decide))
   refine gl_pureR (fun hx => ?_)
   obtain ⟨hxa, hxb⟩ := hx; have hx := num4 hxa (by omega)
   have hx32 : x < 4294967296 := by simpa using hxb
   refine zxa ?_; refine gnt (gc_seq (gc_seq ?_)); by_cases hx1 : x < 1
   ·refine gc_region (zxm ?_); refine gp (r_bool (c := true) zlt (decide_eq_true (by omega))) ?_; refine zxm ?_; refine gn ?_; refine gn ?_; refine gn ?_; refine gn ?_; refine gp zpk ?_; refine gnt (gc_condT rfl rfl ?_); refine gc_seq (gc_regionS (by kernel_rfl) (by kernel_rfl) ?_); refine sp (r_ld1o rfl Ty.row_27 (hE.c 7 Has.h) (hE.n 7 Has.h)) ?_; refine sp zas ?_; refine sp zas ?_; refine gs_nil ?_; refine gx_then (gc_ret (gx_then_ret (gx_ret2 rfl (by conv => lhs; whnf) (by conv => lhs; whnf) ?_))); have e : lstep d l = (l, false, 7) := lstep_1 hz hx (.inl hx1)
    exact fun w' hw => ⟨(), by rw [e], by rw [e]; exact St.led (hw.z) h18 rfl rfl rfl rfl⟩
   ·refine gc_region (zxm ?_); refine gp (r_bool (c := false) zlt (decide_eq_false (by omega))) ?_; refine zxm ?_; refine gq zmv ?_; refine gq zmv ?_; refine gl_cz (M := [blk q 99 [.pointer (some ⟨g, 0, none⟩), .int .i64 l.base, .int .i64 l.e, .slice a0 l.rs.length m0], rowR 92 18 a0 l.rs.length m0 css.flatten, ElR RdRec css l.rs]) (N := [LedR q g l]) (fun w' F' hh => ?_) ?_
    ·exact stars_ex_mk ((a0, m0), css) (stars_all_mk (stars_pure_mk h18 hh))
    refine zc (fun _ => ?_) (c := fun w1 F1 F2 h1 h2 hd hst => room_ok (n := x) h1 hk (by omega) (by omega))
    refine gl_led (by repeat (first | exact Pick.here | apply Pick.there)) (fun a0 m0 css h18 => ?_)
    refine gq znt ?_; refine gp zpk ?_; refine gnt (gif rfl (fun hc41 => ?_) (fun hc41 => ?_))
    ·try simp only at hc41
     have hx2 : ¬ nsec x + 2 ≤ d.n - l.e := by simpa using hc41
     refine gc_seq (gc_regionS (by kernel_rfl) (by kernel_rfl) ?_); refine sp (r_ld1o rfl Ty.row_27 (hE.c 7 Has.h) (hE.n 7 Has.h)) ?_; refine sp zas ?_; refine sp zas ?_; refine gs_nil ?_; refine gx_then (gc_ret (gx_then_ret (gx_ret2 rfl (by conv => lhs; whnf) (by conv => lhs; whnf) ?_))); have e : lstep d l = (l, false, 7) := lstep_1 hz hx (.inr hx2)
     exact fun w' hw => ⟨(), by rw [e], by rw [e]; exact St.led (hw.z) h18 rfl rfl rfl rfl⟩
    ·try simp only at hc41
     have hx2 : nsec x + 2 ≤ d.n - l.e := by simpa using hc41
     have hx64 : x ≤ 64 * nsec x := by unfold nsec; omega
     refine gc_skip (gx_then (gsr (zxm ?_))); refine zxm ?_; refine gp znc ?_; refine gp zfa ?_; refine gp zl ?_; refine gp (r_int (j := ((l.e + 1 : Nat) : Int)) zad (by omega)) ?_; refine zxm ?_; refine gl_cz (M := [blk q 99 [.pointer (some ⟨g, 0, none⟩), .int .i64 l.base, .int .i64 l.e, .slice a0 l.rs.length m0], rowR 92 18 a0 l.rs.length m0 css.flatten, ElR RdRec css l.rs]) (N := [LedR q g l]) (fun w' F' hh => ?_) ?_
     ·exact stars_ex_mk ((a0, m0), css) (stars_all_mk (stars_pure_mk h18 hh))
     refine zc ?_ (c := fun w1 F1 F2 h1 h2 hd hst => lbytes_ok (i0 := l.e + 1) (n := x) h1 hk (hE.mv hst.still) ho (by omega) (by omega))
     rintro ⟨a51, c51⟩
     refine gl_led (by repeat (first | exact Pick.here | apply Pick.there)) (fun a0 m0 css h18 => ?_)
     refine zxm ?_; refine gp zex ?_; refine gp zex ?_; refine zxa ?_; refine zxa ?_; refine gnt (gc_seq (gsr (zxm ?_))); refine gp (r_bool (c := decide (¬ (bytesE d.at (l.e + 1) x).1 = 0)) (r_nenil rfl (by kernel_rfl)) (by simp)) ?_; refine gnt (gif rfl (fun hc55 => ?_) (fun hc55 => ?_))
     ·try simp only at hc55
      have he7 := (bytesE_err hc55).2
      refine gsr (zxm ?_); refine zxa ?_; refine zxa ?_; refine gnt (gc_ret (gx_then_ret (gx_ret2 rfl (by conv => lhs; whnf) (by conv => lhs; whnf) ?_))); have e : lstep d l = (l, false, 7) := lstep_2 hz hx hx1 hx2 hc55
      exact fun w' hw => ⟨(), by rw [e, he7], by rw [e]; exact St.led (hw.z) h18 rfl rfl rfl rfl⟩
     ·try simp only at hc55
      have hb0 : (bytesE d.at (l.e + 1) x).1 = 0 := by simpa using hc55
      have hbl := bytesAt_len (bytesE_ok hb0)
      refine gc_skip (gx_then (gc_seq (gsr (zxm ?_)))); refine gp znc ?_; refine gp zfa ?_; refine gp zl ?_; refine gp zln ?_; refine zxm ?_; refine zc (fun _ => ?_) (c := fun w1 F1 F2 h1 h2 hd hst => head_ok (k := l.rs.length) (d := (bytesE d.at (l.e + 1) x).2) h1 (hE.mv hst.still) (hK.mv hst.still) (rd_row (xs := (bytesE d.at (l.e + 1) x).2.map B8) h2 hd (by repeat (first | exact Pick.here | apply Pick.there))) (rd_le (xs := (bytesE d.at (l.e + 1) x).2.map B8) h2 (by repeat (first | exact Pick.here | apply Pick.there))) hln (by omega))
      refine zxm ?_; refine gp zex ?_; refine gp zex ?_; refine zal fun b8 => ?_; refine zsA (new := sc (headL l.rs.length (bytesE d.at (l.e + 1) x).2)) (sc_length _) (sc_one _) ?_; refine zxa ?_; refine zxs ?_; refine zxm ?_; refine gp (r_bool (c := false) (r_nenil rfl (by kernel_rfl)) rfl) ?_; refine zxm ?_; refine gq (zL (sg := sc (headL l.rs.length (bytesE d.at (l.e + 1) x).2))) ?_; refine gq (zL (sg := sc (d.at l.e))) ?_; refine gq (r_bool (c := !decide (headL l.rs.length (bytesE d.at (l.e + 1) x).2 = (d.at l.e))) (r_neq_sec (a := headL l.rs.length (bytesE d.at (l.e + 1) x).2) (b := (d.at l.e)) Ty.arr_54 Ty.un_5 Ty.sz_5 (by kernel_rfl)) rfl) ?_; refine gp zpk ?_; refine gnt (gif rfl (fun hc73 => ?_) (fun hc73 => ?_))
      ·try simp only at hc73
       have hh : headL l.rs.length (bytesE d.at (l.e + 1) x).2 ≠ (d.at l.e) := by simpa using hc73
       refine gc_seq (gc_regionS (by kernel_rfl) (by kernel_rfl) ?_); refine sp (r_ld1o rfl Ty.row_27 (hE.c 7 Has.h) (hE.n 7 Has.h)) ?_; refine sp zas ?_; refine sp zas ?_; refine gs_nil ?_; refine gx_then (gc_ret (gx_then_ret (gx_ret2 rfl (by conv => lhs; whnf) (by conv => lhs; whnf) ?_))); have e : lstep d l = (l, false, 7) := lstep_3 hz hx hx1 hx2 hb0 hh
       exact fun w' hw => ⟨(), by rw [e], by rw [e]; exact St.led (hw.z) h18 rfl rfl rfl rfl⟩
      ·try simp only at hc73
       have hh : headL l.rs.length (bytesE d.at (l.e + 1) x).2 = (d.at l.e) := by simpa using hc73
       refine gc_skip (gx_then (gsr (zxm ?_))); refine zc (fun q77 => ?_) (c := fun w1 F1 F2 h1 h2 hd hst => lread_ok (x := (bytesE d.at (l.e + 1) x).2) h1 (hE.mv hst.still) (hK.mv hst.still) (rd_row (xs := (bytesE d.at (l.e + 1) x).2.map B8) h2 hd (by repeat (first | exact Pick.here | apply Pick.there))) (by omega))
       refine gl_pureR (fun hq77 => ?_)
       obtain ⟨hl77, ho77⟩ := hq77; replace hl77 : q77.length = 18 := hl77
       have i77 := Len.of hl77
       have j77 := One.of (show ∀ v ∈ q77, v.oneCell' = true from ho77)
       refine zxm ?_; refine gp zex ?_; refine gp zex ?_; refine zal fun b10 => ?_; refine zsN ?_; refine zxa ?_; refine gnt (gc_seq (gsr (zxm ?_))); refine gp (r_bool (c := !(rdRec (bytesE d.at (l.e + 1) x).2).isSome) (r_nenil rfl (by kernel_rfl)) (by cases rdRec (bytesE d.at (l.e + 1) x).2 <;> rfl)) ?_; refine gnt (gif rfl (fun hc81 => ?_) (fun hc81 => ?_))
       ·try simp only at hc81
        have hr : rdRec (bytesE d.at (l.e + 1) x).2 = none := by simpa using hc81
        refine gsr (zxm ?_); refine zxa ?_; refine zxa ?_; refine gnt (gc_ret (gx_then_ret (gx_ret2 rfl (by conv => lhs; whnf) (by conv => lhs; whnf) ?_))); have e := lstep_4 hz hx hx1 hx2 hb0 hh hr
        exact fun w' hw => ⟨(), by rw [e, hr]; rfl, by rw [e]; exact St.led (hw.z) h18 rfl rfl rfl rfl⟩
       ·try simp only at hc81
        obtain ⟨r, hr⟩ : ∃ r, rdRec (bytesE d.at (l.e + 1) x).2 = some r := Option.isSome_iff_exists.1 (by simpa using hc81); obtain ⟨e, hlr⟩ := lstep_y hz hx hx1 hx2 hb0 hh hr; rw [hr]; refine gc_skip (gx_then (gc_seq (gc_regionU 8 ([blk q 99 [.pointer (some ⟨g, 0, none⟩), .int .i64 l.base, .int .i64 l.e, .slice a0 l.rs.length m0], blk b10 92 q77]) ?_))); refine ypu 0 rfl zmv ?_; refine ypu 1 rfl zmv ?_; refine ypu 2 rfl znc ?_; refine ypu 3 rfl zfa ?_; refine ypu 4 rfl zl ?_; refine ypu 5 rfl (zLa (cs := q77)) ?_; refine you 6 rfl ?_; refine zeN fun b89 => ?_; refine yxu ?_; refine you 7 rfl ?_; refine zapo fun a90 c90 => ?_; refine yxu ?_; refine yzu ?_; refine gp znc ?_; refine gp zfa ?_; refine zs1 ?_; refine gnt (gc_seq (gc_regionU 7 ([blk q 99 [.pointer (some ⟨g, 0, none⟩), .int .i64 l.base, .int .i64 l.e, .slice a90 (l.rs.length + 1) c90]]) ?_)); refine ypu 0 rfl zmv ?_; refine ypu 1 rfl znc ?_; refine ypu 2 rfl zfa ?_; refine ypu 3 rfl zl ?_; refine ypu 4 rfl zmv ?_; refine you 5 rfl ?_; refine zc (fun _ => ?_) (c := fun w1 F1 F2 h1 h2 hd hst => sectors_ok (n := x) h1 (by omega))
        refine yxu ?_; refine ypu 6 rfl (r_int (j := ((1 + nsec x : Nat) : Int)) zad (by omega)) ?_; refine yzu ?_; refine gp (r_int (j := ((l.e + (1 + nsec x) : Nat) : Int)) zad (by omega)) ?_; refine gp znc ?_; refine gp zfa ?_; refine zs1 ?_; refine zxs ?_; refine zxa ?_; refine zxa ?_; refine gnt (gc_ret (gx_ret2 rfl (by conv => lhs; whnf) (by conv => lhs; whnf) ?_)); intro w' hw; have hw2 := hw.conv (M := [VlR RdOpt q77 (some r)]) (by repeat (first | exact Sel.nil | (apply Sel.cons; · (repeat (first | exact Pick.here | apply Pick.there))))) (fun _ _ => vl_opt)
        have hw3 := hw2.conv (M := [ElR RdRec css l.rs, VlR RdRec q77 r]) (by repeat (first | exact Sel.nil | (apply Sel.cons; · (repeat (first | exact Pick.here | apply Pick.there))))) (fun _ _ => el_snoc)
        rw [e]; refine ⟨(), by rw [eV_zero], St.led (l := ⟨l.base, l.rs ++ [r], l.e + lenR r⟩) (b := l.base) (e := ((l.e + (1 + nsec x) : Nat) : Int)) (a := a90) (m := l.rs.length + 1) (c := c90) (css := css ++ [q77]) (hw3.sel (M := ledL q g l.base ((l.e + (1 + nsec x) : Nat) : Int) a90 (l.rs.length + 1) c90 (css ++ [q77]) (l.rs ++ [r]) [DiskR g d]) (by rw [ledL, show (css ++ [q77]).flatten = css.flatten ++ q77 by simp]; exact by repeat (first | exact Sel.nil | (apply Sel.cons; · (repeat (first | exact Pick.here | apply Pick.there)))))) (fun c hc => by rcases List.mem_append.1 hc with h | h; exact h18 c h; (simp at h; subst h; exact hl77)) rfl (by rw [hlr]) rfl (by simp)⟩
end
section
theorem lnext_err {d : DS} {e h k : Nat} (hh : lnext d e h = .error k) : k = 7 := by
  unfold lnext at hh
  split at hh
  · cases hh
  · split at hh
    · cases hh; rfl
    · split at hh
      · cases hh; rfl
      · split at hh
        · split at hh
          · cases hh; rfl
          · cases hh
        · cases hh; rfl
def openE (d : DS) (b : Int) : Nat × LS := if d.has b = true then (match lopen d b.toNat [] with | .error k => (k, ⟨b, [], 0⟩) | .ok (rs, e) => (0, ⟨b, rs, e⟩)) else (1, ⟨b, [], 0⟩)
structure OpenInv (d : DS) (b : Int) (l : LS) (m : Bool) : Prop where
  lt : l.e < d.n
  ba : l.base = b
  ln : l.rs.length ≤ l.e
  eq : lopen d b.toNat [] = if m = true then lopen d l.e l.rs else .ok (l.rs, l.e)
section
variable {d : DS} {b : Int} {l : LS}
theorem OpenInv.start (h : d.has b = true) : OpenInv d b ⟨b, [], b.toNat⟩ true := by
  obtain ⟨h0, h1⟩ := has_iff.1 h
  exact ⟨by show b.toNat < d.n; omega, rfl, Nat.zero_le _, by rw [if_pos rfl]⟩
theorem OpenInv.bad (h : OpenInv d b l true) (he : (lstep d l).2.2 ≠ 0) : lopen d b.toNat [] = .error (lstep d l).2.2 := by
  rw [h.eq, if_pos rfl]
  unfold lstep at he ⊢
  cases hn : lnext d l.e l.rs.length with
  | error k => rw [lopen_err hn]
  | ok o => cases o with
    | none => rw [hn] at he; exact absurd rfl he
    | some r => rw [hn] at he; exact absurd rfl he
theorem OpenInv.step (h : OpenInv d b l true) (he : (lstep d l).2.2 = 0) : OpenInv d b (lstep d l).1 (lstep d l).2.1 ∧ 2 * (d.n - (lstep d l).1.e) + (lstep d l).2.1.toNat < 2 * (d.n - l.e) + 1 := by
  have hq := h.eq
  rw [if_pos rfl] at hq
  unfold lstep at he ⊢
  cases hn : lnext d l.e l.rs.length with
  | error k => rw [hn] at he; have := lnext_err hn; simp only at he; omega
  | ok o => cases o with
    | none => exact ⟨⟨h.lt, h.ba, h.ln, by show lopen d b.toNat [] = .ok (l.rs, l.e); rw [hq, lopen_done hn]⟩, by simp⟩
    | some r =>
      obtain ⟨hr, hl⟩ := lnext_some hn
      have h1 : 1 ≤ lenR r := by unfold lenR; omega
      have h2 := h.lt
      have h3 := h.ln
      refine ⟨⟨by show l.e + lenR r < d.n; omega, h.ba, by show (l.rs ++ [r]).length ≤ l.e + lenR r; rw [List.length_append]; simp; omega, by show lopen d b.toNat [] = lopen d (l.e + lenR r) (l.rs ++ [r]); rw [hq, lopen_more hn]⟩, ?_⟩
      show 2 * (d.n - (l.e + lenR r)) + true.toNat < _
      simp; omega
theorem openE_bad {k : Nat} (h : d.has b = true) (hb : lopen d b.toNat [] = .error k) : openE d b = (k, ⟨b, [], 0⟩) := by rw [openE, if_pos h, hb]
theorem OpenInv.done (h : OpenInv d b l false) (hb : d.has b = true) : openE d b = (0, l) := by
  have hq := h.eq
  rw [if_neg (by decide)] at hq
  rw [openE, if_pos hb, hq]
  simp only
  rw [← h.ba]
theorem openE_out (h : ¬ d.has b = true) : openE d b = (1, ⟨b, [], 0⟩) := by rw [openE, if_neg h]
end
attribute [local irreducible] Gl Gc Gx Gs Runs Wt
attribute [local irreducible] lstep
theorem lopen_ok' {w : World} {F : Nat → Prop} {g : Nat} {d : DS} (h : stars [DiskR g d] w F) {b : Int} (hk : DOk d) {ea : Nat → Addr} {es : List Nat} [Has es 1] [Has es 2] [Has es 3] [Has es 4] [Has es 6] [Has es 7] [Has es 12] (hE : GErr es w (fun k => ¬ F k) 261 ea) (hK : KR w (fun k => ¬ F k)) (ho : d.off = false) :
    Calls Tryz.prog 14 #[.pointer (some ⟨g, 0, none⟩), .int .i64 b] w (Post w F (fun q : Nat => .tuple #[.pointer (if (openE d b).1 = 0 then some ⟨q, 0, none⟩ else none), eV 261 ea (openE d b).1]) (fun q => if (openE d b).1 = 0 then [LedR q g (openE d b).2, DiskR g d] else [DiskR g d])) := by
 have hn4 := hk.n
 refine g_enter (env := [(0, .pointer (some ⟨g, 0, none⟩)), (1, .int .i64 b)]) Tryz.func14 rfl h Tryz.ntmps14 rfl rfl ?_; refine gsr (zxa ?_); refine zxa ?_; refine gnt (gc_seq ?_); by_cases hS : d.has b = true
 ·refine gc_region (zxm ?_); refine zxm ?_; refine zc (fun q => ?_) (c := fun w1 F1 F2 h1 h2 hd hst => lbegin_ok (ea := ea) h1 hk hS)
  refine zxm ?_; refine gp zex ?_; refine gp zex ?_; refine zxa ?_; refine zxa ?_; refine gnt (gc_seq (gsr (zxm ?_))); refine gp (r_bool (c := false) (r_nenil rfl (by kernel_rfl)) rfl) ?_; refine gnt (gc_condF rfl rfl ?_); refine gc_skip (gx_then (gc_seq (gsr (zxa ?_)))); refine gnt (gc_block (gc_loop (α := LS × Bool) (fun y => [pureR (OpenInv d b y.1 y.2), LedR q g y.1, DiskR g d]) (fun y => [(8, .bool y.2), (7, eV 261 ea 0)]) [4, 5, 18, 19, 20, 21, 22, 23, 24, 25, 26] (fun y => 2 * (d.n - y.1.e) + y.2.toNat) (⟨b, [], b.toNat⟩, true) ?_ ?_ ?_))
  ·refine env_start (by kernel_rfl)
  ·exact zlp (OpenInv.start hS)
  ·intro y u; obtain ⟨l, m⟩ := y; refine gc_pureR (fun hi => ?_)
   replace hi : OpenInv d b l m := hi
   refine gc_seq (gsr (zxm ?_)); refine gnt (gif rfl (fun hc18 => ?_) (fun hc18 => ?_))
   ·try simp only at hc18
    obtain rfl : m = true := by simpa using hc18
    have hlt := hi.lt
    have hln := hi.ln
    refine gc_skip (gx_then (gc_block (gsr (zxm ?_)))); refine zc (fun _ => ?_) (c := fun w1 F1 F2 h1 h2 hd hst => lnext_ok' (l := l) h1 hk (hE.mv hst.still) (hK.mv hst.still) ho hlt (by omega))
    refine zxm ?_; refine gp zex ?_; refine gp zex ?_; refine zxa ?_; refine zxa ?_; refine zxs ?_; refine zxm ?_; refine gp (r_bool (c := decide (¬ (lstep d l).2.2 = 0)) (r_nenil rfl (by kernel_rfl)) (by simp)) ?_; refine gnt (gif rfl (fun hc25 => ?_) (fun hc25 => ?_))
    ·try simp only at hc25
     have hbad := openE_bad hS (hi.bad hc25)
     refine gsr (zxm ?_); refine zxa ?_; refine zxa ?_; refine gnt (gc_ret (gx_block_ret ?_)); refine gx_round_ret ?_; refine gx_block_ret ?_; refine gx_then_ret (gx_ret2 rfl (by conv => lhs; whnf) (by conv => lhs; whnf) ?_); exact fun w' hw => ⟨0, by rw [hbad]; simp only [if_neg hc25], by rw [hbad]; simp only [if_neg hc25]; exact hw.z⟩
    ·try simp only at hc25
     have he0 : (lstep d l).2.2 = 0 := by simpa using hc25
     have hstp := hi.step he0
     rw [he0]; refine gc_skip (gx_block_normal (zrd (((lstep d l).1, (lstep d l).2.1)) ?_ ?_))
     ·exact hstp.2
     ·exact zlp hstp.1
   ·try simp only at hc18
    obtain rfl : m = false := by simpa using hc18
    refine gc_exit ?_; refine gx_then_exit ?_; refine gx_round_exit ?_; refine gx_block_hit ?_; refine gx_then (gsr (zxm ?_)); refine zxa ?_; refine zxa ?_; refine gnt (gc_ret (gx_ret2 rfl (by conv => lhs; whnf) (by conv => lhs; whnf) ?_)); have e := hi.done hS
    exact fun w' hw => ⟨q, by rw [e, eV_zero]; rfl, by simp only [e, if_pos (show (0 : Nat) = 0 from rfl)]; exact hw.z⟩
 ·refine gc_region (zxm ?_); refine zxm ?_; refine zc (fun _ => ?_) (c := fun w1 F1 F2 h1 h2 hd hst => lbegin_bad (b := b) h1 hk (hE.mv hst.still) (by simpa using hS))
  refine zxm ?_; refine gp zex ?_; refine gp zex ?_; refine zxa ?_; refine zxa ?_; refine gnt (gc_seq (gsr (zxm ?_))); refine gp (r_bool (c := true) (r_nenil rfl (by kernel_rfl)) rfl) ?_; refine gnt (gc_condT rfl rfl ?_); refine gsr (zxm ?_); refine zxa ?_; refine zxa ?_; refine gnt (gc_ret (gx_then_ret (gx_ret2 rfl (by conv => lhs; whnf) (by conv => lhs; whnf) ?_))); have e := openE_out hS
  exact fun w' hw => ⟨0, by rw [e]; rfl, by simp only [e, if_neg (show ¬ (1 : Nat) = 0 by decide)]; exact hw.z⟩
end
section
def pieceE (g o n : Nat) (i : Nat) (_ : Unit) : Array Value := #[.slice (some ⟨g, o + 64 * i, none⟩) (min 64 (n - 64 * i)) (min 64 (n - 64 * i))]
def pieceG (n : Nat) (i : Nat) (_ : Unit) : List Res := [pureR (64 * i < n)]
def allOr (n : Nat) (y : Bool) : Option Nat := if y = true then some n else none
attribute [local irreducible] Gl Gc Gx Gs Runs Wt
theorem chunk_ok {w : World} {F : Nat → Prop} {a : Option Addr} {n c : Nat} (h : stars [] w F) :
    Calls Tryz.prog 36 #[.slice a n c, .int .i64 64] w (Post w F (fun p : Nat × Nat => .func (.func 62) #[] #[.pointer (some ⟨p.1, 0, none⟩), .pointer (some ⟨p.2, 0, none⟩)]) (fun p => [blk p.1 49 [.slice a n c], blk p.2 3 [.int .i64 64]])) := by
 refine g_enter (env := [(0, .slice a n c), (1, .int .i64 64)]) Tryz.func36 rfl h Tryz.ntmps36 rfl rfl ?_; refine gsr (zb1 fun b2 => ?_); refine zb1 fun b3 => ?_; refine zxa ?_; refine gnt (gc_seq (gsr (gp zl ?_))); refine gp (r_bool (c := false) zlt rfl) ?_; refine gnt (gc_condF rfl rfl ?_); refine gc_skip (gx_then (gsr (gp zmf ?_))); refine zxa ?_; refine gnt (gc_ret (gx_ret1 rfl (by conv => lhs; whnf) ?_)); exact ze (b2, b3)
theorem chunk1_ok {w : World} {F : Nat → Prop} {b1 b2 g o n c lp : Nat} {J : Nat → Res} {Jx : Res} (h : stars [blk b1 49 [.slice (some ⟨g, o, none⟩) n c], blk b2 3 [.int .i64 64], J 0] w F) (hc : n ≤ c) (hn : n ≤ 1099511627776) (hy : RoundsAt Tryz.prog lp (pieceE g o n) (pieceG n) J Jx w F) :
    Calls Tryz.prog 62 #[.func (.yield lp) #[] #[], .pointer (some ⟨b1, 0, none⟩), .pointer (some ⟨b2, 0, none⟩)] w (Post w F (fun _ : Bool => .tuple #[]) (fun y => (match allOr (nsec n) y with | some m => J m | none => Jx) :: [])) := by
 have hns : n ≤ 64 * nsec n ∧ 64 * nsec n < n + 64 := by unfold nsec; omega
 refine g_enter (env := [(0, .func (.yield lp) #[] #[]), (1, .pointer (some ⟨b1, 0, none⟩)), (2, .pointer (some ⟨b2, 0, none⟩))]) Tryz.func62 rfl h Tryz.ntmps62 rfl rfl ?_; refine gsr (zxa ?_); refine gnt (gc_block (gc_loop (α := Nat) (fun k => [pureR (k ≤ nsec n), blk b1 49 [.slice (some ⟨g, o, none⟩) n c], blk b2 3 [.int .i64 64], J k]) (fun k => [(4, .int .i64 ((64 * k : Nat) : Int))]) [5, 6, 7, 8, 9, 10, 11, 12, 13, 14, 15, 16, 17, 18, 19, 20, 21, 22, 23, 24, 25, 26, 27, 28, 29, 30] (fun k => nsec n - k) 0 ?_ ?_ ?_))
 ·refine env_start (by kernel_rfl)
 ·exact zlp (Nat.zero_le _)
 ·intro k u; refine gc_pureR (fun hk => ?_)
  replace hk : k ≤ nsec n := hk
  refine gc_seq (gsr (zxm ?_)); refine gp zl ?_; refine gp zln ?_; refine gp zlt ?_; refine gnt (gif rfl (fun hc9 => ?_) (fun hc9 => ?_))
  ·try simp only at hc9
   have hk' : 64 * k < n := by omega
   have hks : k < nsec n := by omega
   refine gc_skip (gx_then (gc_seq (gc_block (gc_seq (gc_regionS (by kernel_rfl) (by kernel_rfl) ?_))))); refine sp zl ?_; refine sp zl ?_; refine sp zmv ?_; refine sp (r_slice_slice (a := some ⟨g, o, none⟩) (m := n) (c := c) (l := 64 * k) (h := n) rfl Ty.sl_49 Ty.sz_5 ⟨_, rfl⟩ rfl (by omega) (by omega)) ?_; refine sp zln ?_; refine sp (r_int (j := ((min 64 (n - 64 * k) : Nat) : Int)) r_min (by split <;> omega)) ?_; refine sp zas ?_; refine gs_nil ?_; refine gx_then (gsr (zxm ?_)); refine gp zl ?_; refine zxm ?_; refine zxm ?_; refine zxm ?_; refine gp (r_int (j := ((64 * k + min 64 (n - 64 * k) : Nat) : Int)) zad (by omega)) ?_; refine zxm ?_; refine zxm ?_; refine gp (r_int (j := ((64 * k + min 64 (n - 64 * k) : Nat) : Int)) zad (by omega)) ?_; refine gp (r_val (v' := .slice (some ⟨g, o + 64 * k, none⟩) (min 64 (n - 64 * k)) (min 64 (n - 64 * k))) (r_slice3 (a := some ⟨g, o, none⟩) (m := n) (c := c) (l := 64 * k) (h := 64 * k + min 64 (n - 64 * k)) (u := 64 * k + min 64 (n - 64 * k)) rfl Ty.sl_49 Ty.sz_5 rfl rfl rfl (by omega) (Nat.le_refl _) (by omega)) (by rw [if_neg (by omega), add_at, Nat.mul_one, Nat.add_sub_cancel_left])) ?_; refine gl_pI (p := 64 * k < n) hk' ?_; refine gyd hy k () rfl (by repeat (first | exact Sel.nil | (apply Sel.cons; · (repeat (first | exact Pick.here | apply Pick.there))))) (fun x29 => ?_)
   rcases x29 with _ | _
   ·refine gp znt ?_; refine gnt (gc_condT rfl rfl ?_); refine gc_ret (gx_block_ret ?_); refine gx_then_ret (gx_round_ret ?_); refine gx_block_ret ?_; refine gx_ret0 rfl ?_; exact ze false
   ·refine gp znt ?_; refine gnt (gc_condF rfl rfl ?_); refine gc_skip (gx_block_normal (gx_then (gc_region (zxm ?_)))); refine gp zl ?_; refine gp (r_int (j := ((64 * (k + 1) : Nat) : Int)) zad (by omega)) ?_; refine zxa ?_; refine gl_nil (zrd (k + 1) ?_ ?_)
    ·show nsec n - (k + 1) < nsec n - k
     omega
    ·exact zlp (show k + 1 ≤ nsec n by omega)
  ·try simp only at hc9
   have hk' : k = nsec n := by omega
   subst hk'; refine gc_exit ?_; refine gx_then_exit ?_; refine gx_round_exit ?_; refine gx_block_hit ?_; refine gx_ret0' rfl ?_; exact ze true
theorem chunk1_it {w : World} {F : Nat → Prop} {b1 b2 g o n c lp : Nat} {J : Nat → Res} {Jx : Res} (h : stars [blk b1 49 [.slice (some ⟨g, o, none⟩) n c], blk b2 3 [.int .i64 64], J 0] w F) (hc : n ≤ c) (hn : n ≤ 1099511627776) :
    IterAt Tryz.prog 62 #[.pointer (some ⟨b1, 0, none⟩), .pointer (some ⟨b2, 0, none⟩)] (pieceE g o n) (pieceG n) (allOr (nsec n)) (fun _ => []) (fun _ : Bool => .tuple #[]) lp J Jx w F := fun hy => by
  have h2 := chunk1_ok h hc hn hy
  exact h2
end
section
def wseq (d : DS) : List (Int × Sec) → Nat × DS
  | [] => (0, d)
  | p :: l => if (d.wr p.1 p.2).1 = 0 then wseq (d.wr p.1 p.2).2 l else d.wr p.1 p.2
theorem wseq_snoc (p : Int × Sec) : ∀ (l : List (Int × Sec)) (d : DS), wseq d (l ++ [p]) = if (wseq d l).1 = 0 then (wseq d l).2.wr p.1 p.2 else wseq d l
  | [], d => by
    simp only [List.nil_append, wseq, if_true]
    split
    · rename_i h; exact Prod.ext h.symm rfl
    · rfl
  | q :: l, d => by
    rw [List.cons_append]
    by_cases h : (d.wr q.1 q.2).1 = 0
    · have e1 : ∀ m, wseq d (q :: m) = wseq (d.wr q.1 q.2).2 m := fun m => by rw [wseq, if_pos h]
      rw [e1, e1, wseq_snoc p l]
    · have e1 : ∀ m, wseq d (q :: m) = d.wr q.1 q.2 := fun m => by rw [wseq, if_neg h]
      rw [e1, e1, if_neg h]
theorem wseq_ok : ∀ (l : List (Int × Sec)) {d : DS}, DOk d → DOk (wseq d l).2
  | [], d, h => h
  | q :: l, d, h => by
    simp only [wseq]; split
    · exact wseq_ok l (wr_ok h)
    · exact wr_ok h
def dataW (e : Nat) (x : List UInt8) (i : Nat) : List (Int × Sec) := (List.range i).map fun j => (((e + 1 + j : Nat) : Int), secData x j)
theorem dataW_succ (e : Nat) (x : List UInt8) (i : Nat) : dataW e x (i + 1) = dataW e x i ++ [(((e + 1 + i : Nat) : Int), secData x i)] := by simp [dataW, List.range_succ]
def wdat (d : DS) (e : Nat) (x : List UInt8) (i : Nat) : Nat × DS := wseq d (dataW e x i)
theorem wdat_zero (d : DS) (e : Nat) (x : List UInt8) : wdat d e x 0 = (0, d) := rfl
theorem wdat_step {d : DS} {e i : Nat} {x : List UInt8} (h : (wdat d e x i).1 = 0) : wdat d e x (i + 1) = (wdat d e x i).2.wr ((e + 1 + i : Nat) : Int) (secData x i) := by
  unfold wdat at *; rw [dataW_succ, wseq_snoc, if_pos h]
theorem wdat_ok {d : DS} {e i : Nat} {x : List UInt8} (h : DOk d) : DOk (wdat d e x i).2 := wseq_ok _ h
theorem wdat_stop {d : DS} {e i : Nat} {x : List UInt8} (h : (wdat d e x i).1 ≠ 0) : ∀ m, wdat d e x (i + m) = wdat d e x i
  | 0 => rfl
  | m + 1 => by
    have ih := wdat_stop h m
    rw [show i + (m + 1) = (i + m) + 1 by omega]
    unfold wdat at *
    rw [dataW_succ, wseq_snoc, if_neg (by rw [ih]; exact h), ih]
def appS (d : DS) (l : LS) (r : LRec) : Nat × DS × LS := if (oper d).off = true then (6, d.syncd, l) else (0, d.syncd, ⟨l.base, l.rs ++ [r], l.e + lenR r⟩)
def appH (d : DS) (l : LS) (r : LRec) : Nat × DS × LS := if (d.wr l.e (headL l.rs.length r.data)).1 = 0 then appS (d.wr l.e (headL l.rs.length r.data)).2 l r else ((d.wr l.e (headL l.rs.length r.data)).1, (d.wr l.e (headL l.rs.length r.data)).2, l)
def appM (d : DS) (l : LS) (r : LRec) : Nat × DS × LS := if (oper d).off = true then (6, d.syncd, l) else appH d.syncd l r
def appE (d : DS) (l : LS) (r : LRec) : Nat × DS × LS := if (d.wr ((l.e + lenR r : Nat) : Int) sec0).1 = 0 then appM (d.wr ((l.e + lenR r : Nat) : Int) sec0).2 l r else ((d.wr ((l.e + lenR r : Nat) : Int) sec0).1, (d.wr ((l.e + lenR r : Nat) : Int) sec0).2, l)
def appD (d : DS) (l : LS) (r : LRec) : Nat × DS × LS := if (wdat d l.e r.data (nsec r.data.length)).1 = 0 then appE (wdat d l.e r.data (nsec r.data.length)).2 l r else ((wdat d l.e r.data (nsec r.data.length)).1, (wdat d l.e r.data (nsec r.data.length)).2, l)
def appL (d : DS) (l : LS) (b : Block) (c : QC) : Nat × DS × LS := if madeE b c = 0 then (if 200 ≤ l.rs.length ∨ ¬ nsec (⟨b, c⟩ : LRec).data.length + 2 ≤ d.n - l.e then (8, d, l) else appD d l ⟨b, c⟩) else (madeE b c, d, l)
theorem sec_cells (x : List UInt8) (i : Nat) : updL ((List.replicate 64 (0 : UInt8)).map B8) 0 (((x.drop (64 * i)).take (min 64 (x.length - 64 * i))).map B8) = sc (secData x i) := by
  have e : (x.drop (64 * i)).take (min 64 (x.length - 64 * i)) = (x.drop (64 * i)).take 64 := by
    by_cases h : 64 ≤ x.length - 64 * i
    · rw [Nat.min_eq_left h]
    · rw [List.take_of_length_le (by simp; omega), List.take_of_length_le (by simp; omega)]
  have hl : ((x.drop (64 * i)).take 64).length ≤ 64 := by simp; omega
  rw [e, updL_updY]
  simp only [updY, sc, secData, List.take_zero, List.nil_append, Nat.zero_add, List.drop_replicate]
theorem vl_mrec {b : Block} {c : QC} {cs : List Value} {w : World} {F : Nat → Prop} (h0 : madeE b c = 0) (h : stars [VlR RdMade cs (b, c)] w F) : stars [VlR RdRec cs ⟨b, c⟩] w F := rdR_mk (show RdRec w F cs ⟨b, c⟩ from RdMade.rec h0 (stars_one' h).1) h
theorem lenR_eq (r : LRec) : lenR r = 1 + nsec r.data.length := rfl
attribute [local irreducible] Gl Gc Gx Gs Runs Wt
attribute [local irreducible] dc RdMade RdOpt RdRec RdBlock RdQC madeE blkC lstep headL wdat secData appL nsec
theorem append_ok {w : World} {F : Nat → Prop} {q g : Nat} {l : LS} {d : DS} (h : stars [LedR q g l, DiskR g d] w F) {cs qs : List Value} {b : Block} {c : QC} (hk : DOk d) {ea : Nat → Addr} {es : List Nat} [Has es 1] [Has es 4] [Has es 6] [Has es 8] [Has es 12] (hE : GErr es w (fun k => ¬ F k) 261 ea) (hK : KR w (fun k => ¬ F k)) (hx : RdBlock w (fun k => ¬ F k) cs b) (hq : RdQC w (fun k => ¬ F k) qs c) (he : l.e < d.n) (hln : l.rs.length < 4294967296) :
    Calls Tryz.prog 10 #[.pointer (some ⟨q, 0, none⟩), .agg cs.toArray, .agg qs.toArray] w (Post w F (fun _ : Unit => eV 261 ea (appL d l b c).1) (fun _ => [LedR q g (appL d l b c).2.2, DiskR g (appL d l b c).2.1])) := by
 have hl := hx.len
 have il := Len.of hl
 have jl := One.of hx.one
 have hl2 := hq.len
 have il2 := Len.of hl2
 have jl2 := One.of hq.one
 have hn4 := hk.n
 have hdl := data_len (⟨b, c⟩ : LRec)
 refine g_enterM (env := [(0, .pointer (some ⟨q, 0, none⟩)), (1, .agg cs.toArray), (2, .agg qs.toArray)]) Tryz.func10 rfl h Tryz.ntmps10 rfl rfl ?_; refine gsr (zb1 fun b3 => ?_); refine zbN fun b4 => ?_; refine zbN fun b5 => ?_; refine zal fun b6 => ?_; refine zxs ?_; refine gp (zLa (cs := cs)) ?_; refine gp (zLa (cs := qs)) ?_; refine zc (fun q22 => ?_) (c := fun w1 F1 F2 h1 h2 hd hst => made_ok' h1 (hE.mv hst.still) (hK.mv hst.still) (hx.mv hst.still) (hq.mv hst.still))
 refine gl_pureR (fun hq22 => ?_)
 obtain ⟨hl22, ho22⟩ := hq22; replace hl22 : q22.length = 18 := hl22
 have i22 := Len.of hl22
 have j22 := One.of (show ∀ v ∈ q22, v.oneCell' = true from ho22)
 refine gl_led (by repeat (first | exact Pick.here | apply Pick.there)) (fun a0 m0 css h18 => ?_)
 refine zxm ?_; refine gp zex ?_; refine gp zex ?_; refine zal fun b7 => ?_; refine zsN ?_; refine zxa ?_; refine gnt (gc_seq (gsr (zxm ?_))); refine gp (r_bool (c := decide (¬ madeE b c = 0)) (r_nenil rfl (by kernel_rfl)) (by simp)) ?_; refine gnt (gif rfl (fun hc26 => ?_) (fun hc26 => ?_))
 ·refine gsr (zxm ?_); refine zs1 ?_; refine gnt (gc_ret (gx_then_ret (gx_mark0 ?_))); refine gx_retc rfl rfl (ldO Ty.row_27) ?_
  have e : appL d l b c = (madeE b c, d, l) := by unfold appL; rw [if_neg hc26]
  exact fun w' hw => ⟨(), by rw [e], by rw [e]; exact St.led (hw.z) h18 rfl rfl rfl rfl⟩
 ·try simp only at hc26
  have hm : madeE b c = 0 := by simpa using hc26
  refine gc_cz (M := [VlR RdMade q22 (b, c)]) (N := [VlR RdRec q22 ⟨b, c⟩]) (fun _ _ h => vl_mrec hm h) ?_; refine gc_skip (gx_then (gsr (gp (zLa (cs := q22)) ?_))); refine zc ?_ (c := fun w1 F1 F2 h1 h2 hd hst => data_ok (r := ⟨b, c⟩) h1 (hE.mv hst.still) (vl_rd h2 hd (by repeat (first | exact Pick.here | apply Pick.there))))
  rintro ⟨a30, c30⟩
  refine zxm ?_; refine gp zex ?_; refine gp zex ?_; refine zxa ?_; refine zxa ?_; refine gnt (gc_seq (gsr (zxm ?_))); refine gp (r_bool (c := false) (r_nenil rfl (by kernel_rfl)) rfl) ?_; refine gnt (gc_condF rfl rfl ?_); refine gc_skip (gx_then (gc_seq (gc_seq ?_))); by_cases hfl : 200 ≤ l.rs.length
  ·refine gc_region (gp zl ?_); refine gp znc ?_; refine gp zfa ?_; refine gp zl ?_; refine gp zln ?_; refine gp (r_bool (c := true) zge (decide_eq_true (by omega))) ?_; refine zxm ?_; refine gn ?_; refine gn ?_; refine gn ?_; refine gn ?_; refine gn ?_; refine gp zpk ?_; refine gnt (gc_condT rfl rfl ?_); refine gsr (gp (r_ld1o rfl Ty.row_27 (hE.c 8 Has.h) (hE.n 8 Has.h)) ?_); refine zs1 ?_; refine gnt (gc_ret (gx_then_ret (gx_mark0 ?_))); refine gx_retc rfl rfl (ldO Ty.row_27) ?_
   have e : appL d l b c = (8, d, l) := by unfold appL; rw [if_pos hm, if_pos (.inl hfl)]
   exact fun w' hw => ⟨(), by rw [e], by rw [e]; exact St.led (hw.z) h18 rfl rfl rfl rfl⟩
  ·refine gc_region (gp zl ?_); refine gp znc ?_; refine gp zfa ?_; refine gp zl ?_; refine gp zln ?_; refine gp (r_bool (c := false) zge (decide_eq_false (by omega))) ?_; refine zxm ?_; refine gq zl ?_; refine gq zmv ?_; refine gq zln ?_; refine gl_cz (M := [blk q 99 [.pointer (some ⟨g, 0, none⟩), .int .i64 l.base, .int .i64 l.e, .slice a0 l.rs.length m0], rowR 92 18 a0 l.rs.length m0 css.flatten, ElR RdRec css l.rs]) (N := [LedR q g l]) (fun w' F' hh => ?_) ?_
   ·exact stars_ex_mk ((a0, m0), css) (stars_all_mk (stars_pure_mk h18 hh))
   refine zc (fun _ => ?_) (c := fun w1 F1 F2 h1 h2 hd hst => room_ok (n := (⟨b, c⟩ : LRec).data.length) h1 hk (by omega) (by omega))
   refine gl_led (by repeat (first | exact Pick.here | apply Pick.there)) (fun a0 m0 css h18 => ?_)
   refine gq znt ?_; refine gp zpk ?_; refine gnt (gif rfl (fun hc48 => ?_) (fun hc48 => ?_))
   ·try simp only at hc48
    have hrm : ¬ nsec (⟨b, c⟩ : LRec).data.length + 2 ≤ d.n - l.e := by simpa using hc48
    refine gsr (gp (r_ld1o rfl Ty.row_27 (hE.c 8 Has.h) (hE.n 8 Has.h)) ?_); refine zs1 ?_; refine gnt (gc_ret (gx_then_ret (gx_mark0 ?_))); refine gx_retc rfl rfl (ldO Ty.row_27) ?_
    have e : appL d l b c = (8, d, l) := by unfold appL; rw [if_pos hm, if_pos (.inr hrm)]
    exact fun w' hw => ⟨(), by rw [e], by rw [e]; exact St.led (hw.z) h18 rfl rfl rfl rfl⟩
   ·try simp only at hc48
    have hrm : nsec (⟨b, c⟩ : LRec).data.length + 2 ≤ d.n - l.e := by simpa using hc48
    have hfit : ¬ (200 ≤ l.rs.length ∨ ¬ nsec (⟨b, c⟩ : LRec).data.length + 2 ≤ d.n - l.e) := fun hh => hh.elim hfl (fun h' => h' hrm)
    refine gc_fact (fun w' hw => St.rowAt (hw.sel (M := [rowR 5 1 a30 (⟨b, c⟩ : LRec).data.length c30 ((⟨b, c⟩ : LRec).data.map B8)]) (by repeat (first | exact Sel.nil | (apply Sel.cons; · (repeat (first | exact Pick.here | apply Pick.there)))))) .here (by omega)) (fun hra => ?_)
    obtain ⟨hnc, ga, oa, ha⟩ := hra; subst ha; refine gc_skip (gx_then (gsr (gp zl ?_))); refine gp znc ?_; refine gp zfa ?_; refine gp zl ?_; refine gp zln ?_; refine zxm ?_; refine zc (fun _ => ?_) (c := fun w1 F1 F2 h1 h2 hd hst => head_ok (k := l.rs.length) (d := (⟨b, c⟩ : LRec).data) h1 (hE.mv hst.still) (hK.mv hst.still) (rd_row (xs := (⟨b, c⟩ : LRec).data.map B8) h2 hd (by repeat (first | exact Pick.here | apply Pick.there))) (rd_le (xs := (⟨b, c⟩ : LRec).data.map B8) h2 (by repeat (first | exact Pick.here | apply Pick.there))) hln (by omega))
    refine zxm ?_; refine gp zex ?_; refine gp zex ?_; refine zal fun b10 => ?_; refine zsA (new := sc (headL l.rs.length (⟨b, c⟩ : LRec).data)) (sc_length _) (sc_one _) ?_; refine zxa ?_; refine gnt (gc_seq (gsr (zxm ?_))); refine gp (r_bool (c := false) (r_nenil rfl (by kernel_rfl)) rfl) ?_; refine gnt (gc_condF rfl rfl ?_); refine gc_skip (gx_then (gsr (gp zl ?_))); refine gp znc ?_; refine gp zfa ?_; refine gp zl ?_; refine gp (r_int (j := ((l.e + 1 + 0 : Nat) : Int)) zad (by omega)) ?_; refine zal fun b11 => ?_; refine zs1 ?_; refine gnt (gc_seq (gsr (zxm ?_))); refine zc ?_ (c := fun w1 F1 F2 h1 h2 hd hst => chunk_ok h1)
    rintro ⟨b69, c69⟩
    refine gnt (gc_block (gc_cz (M := [DiskR g d]) (N := [DiskR g (wdat d l.e (⟨b, c⟩ : LRec).data 0).2]) (fun _ _ h => by rw [wdat_zero]; exact h) ?_)); refine gc_pI (p := 0 ≤ (nsec (⟨b, c⟩ : LRec).data.length) ∧ (wdat d l.e (⟨b, c⟩ : LRec).data 0).1 = 0) ⟨Nat.zero_le _, by rw [wdat_zero]⟩ ?_; refine gc_range (own := [blk b69 49 [.slice (some ⟨ga, oa, none⟩) (⟨b, c⟩ : LRec).data.length c30], blk c69 3 [.int .i64 64]]) (fun i => [pureR (i ≤ (nsec (⟨b, c⟩ : LRec).data.length) ∧ (wdat d l.e (⟨b, c⟩ : LRec).data i).1 = 0), blk b3 30 [.pointer (some ⟨q, 0, none⟩)], blk b11 3 [.int .i64 ((l.e + 1 + i : Nat) : Int)], blk b6 27 [.nilIface], blk q 99 [.pointer (some ⟨g, 0, none⟩), .int .i64 l.base, .int .i64 l.e, .slice a0 l.rs.length m0], DiskR g (wdat d l.e (⟨b, c⟩ : LRec).data i).2]) (fun i cd => [pureR (cd = Code.ret ∧ i < (nsec (⟨b, c⟩ : LRec).data.length) ∧ (wdat d l.e (⟨b, c⟩ : LRec).data (i + 1)).1 ≠ 0), blk b6 27 [eV 261 ea (wdat d l.e (⟨b, c⟩ : LRec).data (i + 1)).1], blk q 99 [.pointer (some ⟨g, 0, none⟩), .int .i64 l.base, .int .i64 l.e, .slice a0 l.rs.length m0], DiskR g (wdat d l.e (⟨b, c⟩ : LRec).data (i + 1)).2]) (by exact rfl) Ty.call_62 (by repeat (first | exact Sel.nil | (apply Sel.cons; · (repeat (first | exact Pick.here | apply Pick.there))))) (by intros; rfl) (fun lp J Jx w1 F1 F2 h1 h2 hd hst => chunk1_it h1 (by omega) (by omega)) ?_ ?_ ?_
    ·intro lp rc rc' i _ w1 F1 F2 h1 h2 hd hst; try dsimp only [List.cons_append, List.nil_append, zipE]
     have hdat := rd_row (xs := (⟨b, c⟩ : LRec).data.map B8) h2 hd (by repeat (first | exact Pick.here | apply Pick.there))
     have hE := hE.mv hst.still
     refine gc_pure1 (p := 64 * i < (⟨b, c⟩ : LRec).data.length) (by repeat (first | exact Pick.here | apply Pick.there)) (fun hi64 => ?_)
     refine gc_pure1 (p := i ≤ (nsec (⟨b, c⟩ : LRec).data.length) ∧ (wdat d l.e (⟨b, c⟩ : LRec).data i).1 = 0) (by repeat (first | exact Pick.here | apply Pick.there)) (fun hi => ?_)
     have hin : i < (nsec (⟨b, c⟩ : LRec).data.length) := by unfold nsec; omega
     have hkk : DOk (wdat d l.e (⟨b, c⟩ : LRec).data i).2 := wdat_ok hk
     have hws := wdat_step hi.2
     refine gc_region (zxa ?_); refine gl_nil (gx_begin ?_); refine gc_block (gsr (zal fun b13 => ?_)); refine gl_eqc (cs' := (List.replicate 64 (0 : UInt8)).map B8) (by repeat (first | exact Pick.here | apply Pick.there)) (by simp [B8]) ?_; refine zxs ?_; refine gp (r_slice_arr (l := 0) (h := 64) rfl Ty.arr_54 Ty.sz_5 rfl rfl (by omega) (by omega) (by omega)) ?_; refine zxm ?_; have hcut := hdat.cut8 (l := 64 * i) (h := 64 * i + min 64 ((⟨b, c⟩ : LRec).data.length - 64 * i)) (by omega) (by omega) hnc
     rw [if_neg (by omega), add_at, Nat.mul_one, Nat.add_sub_cancel_left] at hcut; refine gl_copy (news := (((⟨b, c⟩ : LRec).data.drop (64 * i)).take (min 64 ((⟨b, c⟩ : LRec).data.length - 64 * i))).map B8) (hr := fun w' hw => hw.rdOld hcut) (hj := by omega) (h1 := one_B8 _) (hl := by simp; omega) (k := ?_)
     refine gl_eqc (cs' := sc (secData (⟨b, c⟩ : LRec).data i)) (by repeat (first | exact Pick.here | apply Pick.there)) (sec_cells _ i) ?_; refine gnt (gc_seq (gc_seq (gc_regionT 6 (by kernel_rfl) (by kernel_rfl) ?_))); refine sp zl ?_; refine sp znc ?_; refine sp zfa ?_; refine sp zl ?_; refine sp zl ?_; refine sp (zL (sg := sc (secData (⟨b, c⟩ : LRec).data i))) ?_; refine gs_nil ?_; refine zc (fun _ => ?_) (c := fun w1 F1 F2 h1 h2 hd hst => write_ok' (i := ((l.e + 1 + i : Nat) : Int)) (v := secData (⟨b, c⟩ : LRec).data i) h1 hkk (hE.mv hst.still))
     rw [← hws]; refine zxa ?_; refine zxs ?_; refine zxm ?_; refine gp (r_bool (c := decide (¬ (wdat d l.e (⟨b, c⟩ : LRec).data (i + 1)).1 = 0)) (r_nenil rfl (by kernel_rfl)) (by simp)) ?_; refine gnt (gif rfl (fun hc82 => ?_) (fun hc82 => ?_))
     ·try simp only at hc82
      rw [hws] at hc82; refine gsr (zxm ?_); refine zs1 ?_; refine gnt (gc_ret (gx_then_ret (gx_block_ret ?_))); refine gx_rdr ?_; exact fun w' hw => (St.pureI (p := Code.ret = Code.ret ∧ i < (nsec (⟨b, c⟩ : LRec).data.length) ∧ (wdat d l.e (⟨b, c⟩ : LRec).data (i + 1)).1 ≠ 0) ⟨rfl, hin, by rw [hws]; exact hc82⟩ (hw.sel (M := [lpR lp rc', blk b6 27 [eV 261 ea (wdat d l.e (⟨b, c⟩ : LRec).data (i + 1)).1], blk q 99 [.pointer (some ⟨g, 0, none⟩), .int .i64 l.base, .int .i64 l.e, .slice a0 l.rs.length m0], DiskR g (wdat d l.e (⟨b, c⟩ : LRec).data (i + 1)).2]) (by rw [hws]; exact by repeat (first | exact Sel.nil | (apply Sel.cons; · (repeat (first | exact Pick.here | apply Pick.there))))))).z
     ·try simp only at hc82
      have hw0 : (wdat d l.e (⟨b, c⟩ : LRec).data (i + 1)).1 = 0 := by simpa using hc82
      rw [hws] at hw0; refine gc_skip (gx_then (gc_region (gp zl ?_))); refine gp (r_int (j := ((l.e + 1 + (i + 1) : Nat) : Int)) zad (by omega)) ?_; refine zs1 ?_; refine gl_nil (gx_block_normal (gx_rdn ?_)); exact fun w' hw => (St.pureI (p := i + 1 ≤ (nsec (⟨b, c⟩ : LRec).data.length) ∧ (wdat d l.e (⟨b, c⟩ : LRec).data (i + 1)).1 = 0) ⟨by omega, by rw [hws]; exact hw0⟩ (hw.sel (M := [lpR lp rc', blk b3 30 [.pointer (some ⟨q, 0, none⟩)], blk b11 3 [.int .i64 ((l.e + 1 + (i + 1) : Nat) : Int)], blk b6 27 [.nilIface], blk q 99 [.pointer (some ⟨g, 0, none⟩), .int .i64 l.base, .int .i64 l.e, .slice a0 l.rs.length m0], DiskR g (wdat d l.e (⟨b, c⟩ : LRec).data (i + 1)).2]) (by rw [hws]; exact by repeat (first | exact Sel.nil | (apply Sel.cons; · (repeat (first | exact Pick.here | apply Pick.there))))))).z
    ·intro bU14 y m hy; try dsimp only [List.cons_append, List.nil_append]
     obtain rfl : m = (nsec (⟨b, c⟩ : LRec).data.length) := by cases y <;> simp_all [allOr]
     refine gx_pure1 (p := (nsec (⟨b, c⟩ : LRec).data.length) ≤ (nsec (⟨b, c⟩ : LRec).data.length) ∧ (wdat d l.e (⟨b, c⟩ : LRec).data (nsec (⟨b, c⟩ : LRec).data.length)).1 = 0) (by repeat (first | exact Pick.here | apply Pick.there)) (fun hI => ?_)
     have hk1 : DOk (wdat d l.e (⟨b, c⟩ : LRec).data (nsec (⟨b, c⟩ : LRec).data.length)).2 := wdat_ok hk
     obtain ⟨d1, hd1⟩ : ∃ d1, d1 = (wdat d l.e (⟨b, c⟩ : LRec).data (nsec (⟨b, c⟩ : LRec).data.length)).2 := ⟨_, rfl⟩; rw [← hd1] at hk1 ⊢; have e1 : appL d l b c = appE d1 l (⟨b, c⟩ : LRec) := by unfold appL; rw [if_pos hm, if_neg hfit]; unfold appD; rw [if_pos hI.2, hd1]
     refine gx_block_normal (gx_thenM ?_); refine gc_seq (gc_seq (gc_regionT 6 (by kernel_rfl) (by kernel_rfl) ?_)); refine sp zl ?_; refine sp znc ?_; refine sp zfa ?_; refine sp zl ?_; refine sp zl ?_; refine sp (zba (cs := sc sec0) (by exact rfl)) ?_; refine gs_nil ?_; refine zc (fun _ => ?_) (c := fun w1 F1 F2 h1 h2 hd hst => write_ok' (i := ((l.e + 1 + (nsec (⟨b, c⟩ : LRec).data.length) : Nat) : Int)) (v := sec0) h1 hk1 (hE.mv hst.still))
     obtain ⟨x2, hx2⟩ : ∃ x2, x2 = d1.wr ((l.e + 1 + (nsec (⟨b, c⟩ : LRec).data.length) : Nat) : Int) sec0 := ⟨_, rfl⟩; rw [← hx2]; have hk2 : DOk x2.2 := by rw [hx2]; exact wr_ok hk1
     have hll : l.e + 1 + (nsec (⟨b, c⟩ : LRec).data.length) = l.e + lenR (⟨b, c⟩ : LRec) := by rw [lenR_eq]; omega
     refine zxa ?_; refine zxs ?_; refine zxm ?_; refine gp (r_bool (c := decide (¬ x2.1 = 0)) (r_nenil rfl (by kernel_rfl)) (by simp)) ?_; refine gnt (gif rfl (fun hc94 => ?_) (fun hc94 => ?_))
     ·try simp only at hc94
      have e : appL d l b c = (x2.1, x2.2, l) := by rw [e1]; unfold appE; rw [← hll, ← hx2, if_neg hc94]
      refine gsr (zxm ?_); refine zs1 ?_; refine gnt (gc_ret (gx_then_ret (gx_mark (by repeat (first | exact Pick.here | apply Pick.there)) ?_))); refine gx_mark0 ?_; refine gx_retc rfl rfl (ldO Ty.row_27) ?_
      exact fun w' hw => ⟨(), by rw [e], by rw [e]; exact St.led (hw.z) h18 rfl rfl rfl rfl⟩
     ·try simp only at hc94
      have h20 : x2.1 = 0 := by simpa using hc94
      have e2 : appL d l b c = appM x2.2 l (⟨b, c⟩ : LRec) := by rw [e1]; unfold appE; rw [← hll, ← hx2, if_pos h20]
      refine gc_skip (gx_then (gc_seq (gsr (gp zl ?_)))); refine gp znc ?_; refine gp zfa ?_; refine gp zl ?_; refine zc (fun _ => ?_) (c := fun w1 F1 F2 h1 h2 hd hst => sync_ok' h1 hk2 (hE.mv hst.still))
      refine zxa ?_; refine zxs ?_; refine zxm ?_; refine gp (r_bool (c := (oper x2.2).off) (r_nenil rfl (by kernel_rfl)) (by cases (oper x2.2).off <;> rfl)) ?_; refine gnt (gif rfl (fun hc102 => ?_) (fun hc102 => ?_))
      ·try simp only at hc102
       have e : appL d l b c = (6, x2.2.syncd, l) := by rw [e2]; unfold appM; rw [if_pos hc102]
       refine gsr (zxm ?_); refine zs1 ?_; refine gnt (gc_ret (gx_then_ret (gx_mark (by repeat (first | exact Pick.here | apply Pick.there)) ?_))); refine gx_mark0 ?_; refine gx_retc rfl rfl (ldO Ty.row_27) ?_
       exact fun w' hw => ⟨(), by rw [e]; simp [hc102], by rw [e]; exact St.led (hw.z) h18 rfl rfl rfl rfl⟩
      ·try simp only at hc102
       have e3 : appL d l b c = appH x2.2.syncd l (⟨b, c⟩ : LRec) := by rw [e2]; unfold appM; rw [if_neg (by rw [hc102]; decide)]
       have hk3 : DOk x2.2.syncd := syncd_ok hk2
       obtain ⟨d3, hd3⟩ : ∃ d3, d3 = x2.2.syncd := ⟨_, rfl⟩; rw [← hd3] at hk3 e3 ⊢; refine gc_skip (gx_then (gc_seq (gc_seq (gc_regionT 9 (by kernel_rfl) (by kernel_rfl) ?_)))); refine sp zl ?_; refine sp znc ?_; refine sp zfa ?_; refine sp zl ?_; refine sp zl ?_; refine sp znc ?_; refine sp zfa ?_; refine sp zl ?_; refine sp (zL (sg := sc (headL l.rs.length (⟨b, c⟩ : LRec).data))) ?_; refine gs_nil ?_; refine zc (fun _ => ?_) (c := fun w1 F1 F2 h1 h2 hd hst => write_ok' (i := (l.e : Int)) (v := headL l.rs.length (⟨b, c⟩ : LRec).data) h1 hk3 (hE.mv hst.still))
       obtain ⟨x4, hx4⟩ : ∃ x4, x4 = d3.wr (l.e : Int) (headL l.rs.length (⟨b, c⟩ : LRec).data) := ⟨_, rfl⟩; rw [← hx4]; have hk4 : DOk x4.2 := by rw [hx4]; exact wr_ok hk3
       refine zxa ?_; refine zxs ?_; refine zxm ?_; refine gp (r_bool (c := decide (¬ x4.1 = 0)) (r_nenil rfl (by kernel_rfl)) (by simp)) ?_; refine gnt (gif rfl (fun hc115 => ?_) (fun hc115 => ?_))
       ·try simp only at hc115
        have e : appL d l b c = (x4.1, x4.2, l) := by rw [e3]; unfold appH; rw [← hx4, if_neg hc115]
        refine gsr (zxm ?_); refine zs1 ?_; refine gnt (gc_ret (gx_then_ret (gx_mark (by repeat (first | exact Pick.here | apply Pick.there)) ?_))); refine gx_mark0 ?_; refine gx_retc rfl rfl (ldO Ty.row_27) ?_
        exact fun w' hw => ⟨(), by rw [e], by rw [e]; exact St.led (hw.z) h18 rfl rfl rfl rfl⟩
       ·try simp only at hc115
        have h40 : x4.1 = 0 := by simpa using hc115
        have e4 : appL d l b c = appS x4.2 l (⟨b, c⟩ : LRec) := by rw [e3]; unfold appH; rw [← hx4, if_pos h40]
        refine gc_skip (gx_then (gc_seq (gsr (gp zl ?_)))); refine gp znc ?_; refine gp zfa ?_; refine gp zl ?_; refine zc (fun _ => ?_) (c := fun w1 F1 F2 h1 h2 hd hst => sync_ok' h1 hk4 (hE.mv hst.still))
        refine zxa ?_; refine zxs ?_; refine zxm ?_; refine gp (r_bool (c := (oper x4.2).off) (r_nenil rfl (by kernel_rfl)) (by cases (oper x4.2).off <;> rfl)) ?_; refine gnt (gif rfl (fun hc123 => ?_) (fun hc123 => ?_))
        ·try simp only at hc123
         have e : appL d l b c = (6, x4.2.syncd, l) := by rw [e4]; unfold appS; rw [if_pos hc123]
         refine gsr (zxm ?_); refine zs1 ?_; refine gnt (gc_ret (gx_then_ret (gx_mark (by repeat (first | exact Pick.here | apply Pick.there)) ?_))); refine gx_mark0 ?_; refine gx_retc rfl rfl (ldO Ty.row_27) ?_
         exact fun w' hw => ⟨(), by rw [e]; simp [hc123], by rw [e]; exact St.led (hw.z) h18 rfl rfl rfl rfl⟩
        ·try simp only at hc123
         have e : appL d l b c = (0, x4.2.syncd, ⟨l.base, l.rs ++ [(⟨b, c⟩ : LRec)], l.e + lenR (⟨b, c⟩ : LRec)⟩) := by rw [e4]; unfold appS; rw [if_neg (by rw [hc123]; decide)]
         refine gc_skip (gx_then (gc_seq (gc_regionU 8 ([blk q 99 [.pointer (some ⟨g, 0, none⟩), .int .i64 l.base, .int .i64 l.e, .slice a0 l.rs.length m0], blk b3 30 [.pointer (some ⟨q, 0, none⟩)], blk b7 92 q22]) ?_))); refine ypu 0 rfl zl ?_; refine ypu 1 rfl zl ?_; refine ypu 2 rfl znc ?_; refine ypu 3 rfl zfa ?_; refine ypu 4 rfl zl ?_; refine ypu 5 rfl (zLa (cs := q22)) ?_; refine you 6 rfl ?_; refine zeN fun b131 => ?_; refine yxu ?_; refine you 7 rfl ?_; refine zapo fun a132 c132 => ?_; refine yxu ?_; refine yzu ?_; refine gp znc ?_; refine gp zfa ?_; refine zs1 ?_; refine zxs ?_; refine gp zl ?_; refine gp zl ?_; refine gp znc ?_; refine gp zfa ?_; refine zs1 ?_; refine zxs ?_; refine zs1 ?_; refine gnt (gc_ret (gx_mark (by repeat (first | exact Pick.here | apply Pick.there)) ?_)); refine gx_mark0 ?_; refine gx_retc rfl rfl (ldO Ty.row_27) ?_
         intro w' hw; have hw2 := hw.conv (M := [ElR RdRec css l.rs, VlR RdRec q22 (⟨b, c⟩ : LRec)]) (by repeat (first | exact Sel.nil | (apply Sel.cons; · (repeat (first | exact Pick.here | apply Pick.there))))) (fun _ _ => el_snoc)
         rw [e]; refine ⟨(), by rw [eV_zero], St.led (l := ⟨l.base, l.rs ++ [(⟨b, c⟩ : LRec)], l.e + lenR (⟨b, c⟩ : LRec)⟩) (b := l.base) (e := ((l.e + 1 + (nsec (⟨b, c⟩ : LRec).data.length) : Nat) : Int)) (a := a132) (m := l.rs.length + 1) (c := c132) (css := css ++ [q22]) (hw2.sel (M := ledL q g l.base ((l.e + 1 + (nsec (⟨b, c⟩ : LRec).data.length) : Nat) : Int) a132 (l.rs.length + 1) c132 (css ++ [q22]) (l.rs ++ [(⟨b, c⟩ : LRec)]) [DiskR g x4.2.syncd]) (by rw [ledL, show (css ++ [q22]).flatten = css.flatten ++ q22 by simp]; exact (by repeat (first | exact Sel.nil | (apply Sel.cons; · (repeat (first | exact Pick.here | apply Pick.there))))))) (fun x hc => by rcases List.mem_append.1 hc with h | h; exact h18 x h; (simp at h; subst h; exact hl22)) rfl (by rw [← hll]) rfl (by simp)⟩
    ·intro bU14 y i cd hy; try dsimp only [List.cons_append, List.nil_append]
     refine gc_pure1 (p := cd = Code.ret ∧ i < (nsec (⟨b, c⟩ : LRec).data.length) ∧ (wdat d l.e (⟨b, c⟩ : LRec).data (i + 1)).1 ≠ 0) (by repeat (first | exact Pick.here | apply Pick.there)) (fun hX => ?_)
     obtain ⟨rfl, hin, hw0⟩ := hX; refine gc_ret (gx_block_ret ?_); refine gx_then_ret (gx_mark (by repeat (first | exact Pick.here | apply Pick.there)) ?_); refine gx_mark0 ?_; refine gx_retc rfl rfl (ldO Ty.row_27) ?_
     have e : appL d l b c = ((wdat d l.e (⟨b, c⟩ : LRec).data (i + 1)).1, (wdat d l.e (⟨b, c⟩ : LRec).data (i + 1)).2, l) := by unfold appL; rw [if_pos hm, if_neg hfit]; unfold appD; rw [if_neg (by rw [show (nsec (⟨b, c⟩ : LRec).data.length) = (i + 1) + ((nsec (⟨b, c⟩ : LRec).data.length) - (i + 1)) by omega, wdat_stop hw0]; exact hw0), show (nsec (⟨b, c⟩ : LRec).data.length) = (i + 1) + ((nsec (⟨b, c⟩ : LRec).data.length) - (i + 1)) by omega, wdat_stop hw0]
     exact fun w' hw => ⟨(), by rw [e], by rw [e]; exact St.led (hw.z) h18 rfl rfl rfl rfl⟩
end
end Go.Proofs.YtomdanlljfikaaaGreatDoor
