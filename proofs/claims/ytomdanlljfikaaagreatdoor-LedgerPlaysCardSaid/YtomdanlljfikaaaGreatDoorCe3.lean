/- Part 3. What is proved: see the last part: for every input the law returns true, and the input reads as it did. -/
import Derived.Test.YtomdanlljfikaaaGreatDoorCe2
import Derived.MapKept
import Derived.Laws.IdiomRangeMap
import Derived.Shelf.SlIterI.Nil
import Derived.Shelf.SlIterI.Sorted
import Derived.Shelf.SortM.Plain
import Derived.Shelf.SortM.SortNone
import Derived.Ground.GgzProg
import Derived.Ground.SlgmProg
import Derived.Test.YtomdanlljfikaaaGreatDoorProg
namespace Go.Proofs
open Go.Shelf
def Tryz.keysA_ren : Go.Shelf.Ren := ⟨fun | 7 => 87 | 10 => 119 | n => n, fun | 23 => 76 | 26 => 3 | 3 => 54 | 28 => 169 | 0 => 0 | 27 => 168 | 33 => 100 | 4 => 4 | n => n, fun | n => n⟩
theorem Tryz.keysA : Go.Proofs.SlLaysZI.n7 Tryz.prog Tryz.keysA_ren := {
  mixed := by kernel_rfl
  f7 := ⟨Tryz.f87.name, by decide, Tryz.func87.trans (congrArg some (by kernel_rfl))⟩
  f10 := ⟨Tryz.f119.name, by decide, Tryz.func119.trans (congrArg some (by kernel_rfl))⟩
  t0 := Tryz.underlying0
  a0 := Tryz.isAgg0
  z0 := Tryz.sizeOf0
  v0 := Tryz.zeroValue0
  t4 := Tryz.underlying4
  a4 := Tryz.isAgg4
  z4 := Tryz.sizeOf4
  v4 := Tryz.zeroValue4
  t23 := Tryz.underlying76
  a23 := Tryz.isAgg76
  z23 := Tryz.sizeOf76
  v23 := Tryz.zeroValue76
  t26 := Tryz.underlying3
  a26 := Tryz.isAgg3
  z26 := Tryz.sizeOf3
  v26 := Tryz.zeroValue3
  t27 := Tryz.underlying168
  a27 := Tryz.isAgg168
  z27 := Tryz.sizeOf168
  v27 := Tryz.zeroValue168
  t28 := Tryz.underlying169
  a28 := Tryz.isAgg169
  z28 := Tryz.sizeOf169
  v28 := Tryz.zeroValue169
  t33 := Tryz.underlying100
  a33 := Tryz.isAgg100
  z33 := Tryz.sizeOf100
  v33 := Tryz.zeroValue100 }
def Tryz.sortedA_ren : Go.Shelf.Ren := ⟨fun | 6 => 86 | 8 => 117 | 9 => 118 | 11 => 139 | 13 => 141 | 12 => 140 | 23 => 159 | 24 => 160 | 14 => 150 | 15 => 151 | 16 => 152 | 17 => 153 | 18 => 154 | 19 => 155 | 20 => 156 | 21 => 157 | 22 => 158 | 25 => 163 | 26 => 164 | 27 => 165 | 28 => 166 | 29 => 167 | 30 => 168 | 31 => 170 | n => n, fun | 26 => 3 | 28 => 169 | 24 => 126 | 0 => 0 | 3 => 3 | 37 => 57 | 48 => 188 | 50 => 187 | 4 => 4 | 40 => 243 | 39 => 242 | 45 => 247 | 5 => 5 | 9 => 9 | 51 => 252 | 55 => 256 | 57 => 259 | 58 => 205 | 33 => 100 | n => n, fun | n => n⟩
theorem Tryz.sortedA : Go.Proofs.SlLaysZI.n6 Tryz.prog Tryz.sortedA_ren := {
  mixed := by kernel_rfl
  f6 := ⟨Tryz.f86.name, by decide, Tryz.func86.trans (congrArg some (by kernel_rfl))⟩
  f8 := ⟨Tryz.f117.name, by decide, Tryz.func117.trans (congrArg some (by kernel_rfl))⟩
  f11 := ⟨Tryz.f139.name, by decide, Tryz.func139.trans (congrArg some (by kernel_rfl))⟩
  t0 := Tryz.underlying0
  a0 := Tryz.isAgg0
  z0 := Tryz.sizeOf0
  v0 := Tryz.zeroValue0
  t24 := Tryz.underlying126
  a24 := Tryz.isAgg126
  z24 := Tryz.sizeOf126
  v24 := Tryz.zeroValue126
  t26 := Tryz.underlying3
  a26 := Tryz.isAgg3
  z26 := Tryz.sizeOf3
  v26 := Tryz.zeroValue3
  t28 := Tryz.underlying169
  a28 := Tryz.isAgg169
  z28 := Tryz.sizeOf169
  v28 := Tryz.zeroValue169
  i26 := by kernel_rfl }
def Tryz.sortA_ren : Go.Shelf.Ren := ⟨fun | 5 => 118 | 8 => 141 | 7 => 140 | 19 => 159 | 20 => 160 | 10 => 150 | 11 => 151 | 12 => 152 | 13 => 153 | 14 => 154 | 15 => 155 | 16 => 156 | 17 => 157 | 18 => 158 | 30 => 163 | 31 => 164 | 32 => 165 | 33 => 166 | 34 => 167 | 35 => 168 | 40 => 170 | n => n, fun | 23 => 126 | 25 => 3 | 3 => 3 | 32 => 57 | 22 => 126 | 0 => 0 | 44 => 188 | 46 => 187 | 4 => 4 | 36 => 243 | 35 => 242 | 41 => 247 | 5 => 5 | 9 => 9 | 53 => 252 | 57 => 256 | 63 => 259 | 64 => 205 | n => n, fun | n => n⟩
theorem Tryz.sortA : Go.Proofs.SlLaysM.n5 Tryz.prog Tryz.sortA_ren := {
  mixed := by kernel_rfl
  f5 := ⟨Tryz.f118.name, by decide, Tryz.func118.trans (congrArg some (by kernel_rfl))⟩
  f7 := ⟨Tryz.f140.name, by decide, Tryz.func140.trans (congrArg some (by kernel_rfl))⟩
  f8 := Tryz.func141.trans (congrArg some (by kernel_rfl))
  f10 := ⟨Tryz.f150.name, by decide, Tryz.func150.trans (congrArg some (by kernel_rfl))⟩
  f11 := ⟨Tryz.f151.name, by decide, Tryz.func151.trans (congrArg some (by kernel_rfl))⟩
  f12 := ⟨Tryz.f152.name, by decide, Tryz.func152.trans (congrArg some (by kernel_rfl))⟩
  f13 := ⟨Tryz.f153.name, by decide, Tryz.func153.trans (congrArg some (by kernel_rfl))⟩
  f14 := ⟨Tryz.f154.name, by decide, Tryz.func154.trans (congrArg some (by kernel_rfl))⟩
  f15 := ⟨Tryz.f155.name, by decide, Tryz.func155.trans (congrArg some (by kernel_rfl))⟩
  f16 := ⟨Tryz.f156.name, by decide, Tryz.func156.trans (congrArg some (by kernel_rfl))⟩
  f17 := ⟨Tryz.f157.name, by decide, Tryz.func157.trans (congrArg some (by kernel_rfl))⟩
  f18 := ⟨Tryz.f158.name, by decide, Tryz.func158.trans (congrArg some (by kernel_rfl))⟩
  f19 := Tryz.func159.trans (congrArg some (by kernel_rfl))
  f20 := Tryz.func160.trans (congrArg some (by kernel_rfl))
  f30 := ⟨Tryz.f163.name, by decide, Tryz.func163.trans (congrArg some (by kernel_rfl))⟩
  f31 := Tryz.func164.trans (congrArg some (by kernel_rfl))
  f32 := Tryz.func165.trans (congrArg some (by kernel_rfl))
  f33 := ⟨Tryz.f166.name, by decide, Tryz.func166.trans (congrArg some (by kernel_rfl))⟩
  f34 := ⟨Tryz.f167.name, by decide, Tryz.func167.trans (congrArg some (by kernel_rfl))⟩
  f35 := ⟨Tryz.f168.name, by decide, Tryz.func168.trans (congrArg some (by kernel_rfl))⟩
  f40 := ⟨Tryz.f170.name, by decide, Tryz.func170.trans (congrArg some (by kernel_rfl))⟩
  t0 := Tryz.underlying0
  a0 := Tryz.isAgg0
  z0 := Tryz.sizeOf0
  v0 := Tryz.zeroValue0
  t3 := Tryz.underlying3
  a3 := Tryz.isAgg3
  z3 := Tryz.sizeOf3
  v3 := Tryz.zeroValue3
  t4 := Tryz.underlying4
  a4 := Tryz.isAgg4
  z4 := Tryz.sizeOf4
  v4 := Tryz.zeroValue4
  t5 := Tryz.underlying5
  a5 := Tryz.isAgg5
  z5 := Tryz.sizeOf5
  v5 := Tryz.zeroValue5
  t9 := Tryz.underlying9
  a9 := Tryz.isAgg9
  z9 := Tryz.sizeOf9
  v9 := Tryz.zeroValue9
  t22 := Tryz.underlying126
  a22 := Tryz.isAgg126
  z22 := Tryz.sizeOf126
  v22 := Tryz.zeroValue126
  t23 := Tryz.underlying126
  a23 := Tryz.isAgg126
  z23 := Tryz.sizeOf126
  v23 := Tryz.zeroValue126
  t25 := Tryz.underlying3
  a25 := Tryz.isAgg3
  z25 := Tryz.sizeOf3
  v25 := Tryz.zeroValue3
  t32 := Tryz.underlying57
  a32 := Tryz.isAgg57
  z32 := Tryz.sizeOf57
  v32 := Tryz.zeroValue57
  t35 := Tryz.underlying242
  a35 := Tryz.isAgg242
  z35 := Tryz.sizeOf242
  v35 := Tryz.zeroValue242
  t36 := Tryz.underlying243
  a36 := Tryz.isAgg243
  z36 := Tryz.sizeOf243
  v36 := Tryz.zeroValue243
  t41 := Tryz.underlying247
  a41 := Tryz.isAgg247
  z41 := Tryz.sizeOf247
  v41 := Tryz.zeroValue247
  t44 := Tryz.underlying188
  a44 := Tryz.isAgg188
  z44 := Tryz.sizeOf188
  v44 := Tryz.zeroValue188
  t46 := Tryz.underlying187
  a46 := Tryz.isAgg187
  z46 := Tryz.sizeOf187
  v46 := Tryz.zeroValue187
  t53 := Tryz.underlying252
  a53 := Tryz.isAgg252
  z53 := Tryz.sizeOf252
  v53 := Tryz.zeroValue252
  t57 := Tryz.underlying256
  a57 := Tryz.isAgg256
  z57 := Tryz.sizeOf256
  v57 := Tryz.zeroValue256
  t63 := Tryz.underlying259
  a63 := Tryz.isAgg259
  z63 := Tryz.sizeOf259
  v63 := Tryz.zeroValue259
  t64 := Tryz.underlying205
  a64 := Tryz.isAgg205
  z64 := Tryz.sizeOf205
  v64 := Tryz.zeroValue205 }
end Go.Proofs
namespace Go.Proofs.YtomdanlljfikaaaGreatDoor
open Go
set_option linter.unusedVariables false
set_option linter.unusedSimpArgs false
set_option linter.unusedSectionVars false
set_option maxHeartbeats 400000
section
attribute [local irreducible] Gl Gc Gx Gs Runs Wt
theorem osig_ok {w : World} {F : Nat → Prop} {g : Nat} {s : WS} {cs : List Value} {x : Sig} (h : stars [OutR g s] w F) (hx : RdSig w (fun k => ¬ F k) cs x) (ho : OkSig x) (hb : s.bs.length + 1171 ≤ 1099511627776) :
    Calls Tryz.prog 147 #[.pointer (some ⟨g, 0, none⟩), .agg cs.toArray] w (Post w F (fun _ : Unit => .tuple #[]) (fun _ => [OutR g (wSig x s)])) := by
 obtain ⟨a1, n1, c1, a2, n2, c2, rfl, hk1, hk2, hd1, hd2⟩ := hx; have hm1 := hd1.max
 have hm2 := hd2.max
 simp only [maxLen] at hm1 hm2
 have hn1 := hd1.len (by decide)
 have hn2 := hd2.len (by decide)
 subst hn1; subst hn2; have e0 := wNum_len x.leaf 1 s
 have e1 := wPut_len wDig_len x.chains 68 (wNum x.leaf 1 s)
 refine g_enter (env := [(0, .pointer (some ⟨g, 0, none⟩)), (1, .agg (List.toArray ([.int .i64 x.leaf, .slice a1 x.chains.length c1, .slice a2 x.path.length c2])))]) Tryz.func147 rfl h Tryz.ntmps147 rfl rfl ?_; refine gsr (zbN fun b3 => ?_); refine zxs ?_; refine zxm ?_; refine gp zfa ?_; refine gp zl ?_; refine zc (fun _ => ?_) (c := fun w1 F1 F2 h1 h2 hd hst => onum_ok (wd := 1) h1 (by decide) (by decide) (fun _ => ho) (by omega))
 refine zxs ?_; refine zxm ?_; refine gp zfa ?_; refine gp zl ?_; refine gp zln ?_; refine zc (fun _ => ?_) (c := fun w1 F1 F2 h1 h2 hd hst => omany_ok (most := 68) h1 (by decide) (by omega))
 refine gnt (gc_seq (gsr (gp zfa ?_))); refine gp zl ?_; refine gp zln ?_; refine zxm ?_; refine gnt (gc_block (gc_loop (α := Nat) (fun k => [pureR (k ≤ x.chains.length), blk b3 84 [.int .i64 x.leaf, .slice a1 x.chains.length c1, .slice a2 x.path.length c2], OutR g ((x.chains.take k).foldl (fun s x => wDig x s) (wMany x.chains.length 68 (wNum x.leaf 1 s)))]) (fun k => [(20, .int .i64 (k : Int))]) [5, 21, 22, 23, 24, 25, 26, 27] (fun k => x.chains.length - k) 0 ?_ ?_ ?_))
 ·refine env_start (by kernel_rfl)
 ·exact zlp (Nat.zero_le _)
 ·intro k u; refine gc_pureR (fun hk => ?_)
  replace hk : k ≤ x.chains.length := hk
  refine gsr (gp zlt ?_); refine gnt (gc_seq (gif rfl (fun hc21 => ?_) (fun hc21 => ?_)))
  ·try simp only at hc21
   have hk' : k < x.chains.length := by omega
   obtain ⟨ga, o, cs1, y, ha, hA, hg, hra, hcl, hly, hrd⟩ := hd1.elem (by decide) hk'; subst ha; have hbk := many_bound (k := k) (l := x.chains) (s := (wNum x.leaf 1 s)) (most := 68) (M := 1099511627776) wDig_len wDig_bad hk' (by decide) (by omega)
   unfold RdDig at hrd
   subst hrd; refine gc_skip (gx_then (gc_seq (gc_block (gsr (gp (r_indexAddr_slice rfl rfl Ty.sl_82 Ty.sz_38 (by omega) (by omega)) ?_))))); refine gp (r_ldNo rfl Ty.row_38 Ty.sz_38 hra hcl (by decide) hA) ?_; refine zal fun b5 => ?_; refine gl_storeN (wt0 rfl) rfl rfl Ty.sz_38 hcl (by repeat (first | exact Pick.here | apply Pick.there)) (by first | decide | (rw [zD_length]; decide)) (dc_one _) (updL_all (by rw [hcl]; first | rfl | decide)) ?_; refine gnt (gc_region (zxm ?_)); refine gp (zLa (cs := dc y)) ?_; refine zc (fun _ => ?_) (c := fun w1 F1 F2 h1 h2 hd hst => odigest_ok h1 hbk)
   refine gl_nil (gx_block_normal (gx_then (gc_region (gp zad ?_)))); refine zxm ?_; refine gl_nil (zrd (k + 1) ?_ ?_)
   ·show x.chains.length - (k + 1) < x.chains.length - k
    omega
   ·rintro w' hw
    rw [foldl_take_succ _ _ _ hly]; exact zlp (show k + 1 ≤ x.chains.length by omega) (by repeat (first | exact Sel.nil | (apply Sel.cons; · (repeat (first | exact Pick.here | apply Pick.there))))) w' hw
  ·try simp only at hc21
   have hk' : k = x.chains.length := by omega
   subst hk'; rw [List.take_length, put_many wDig_bad _ (by decide)]; refine gc_exit ?_; refine gx_then_exit ?_; refine gx_round_exit ?_; refine gx_block_hit ?_; refine gx_then (gsr (zxm ?_)); refine gp zfa ?_; refine gp zl ?_; refine gp zln ?_; refine zc (fun _ => ?_) (c := fun w1 F1 F2 h1 h2 hd hst => omany_ok (most := 5) h1 (by decide) (by omega))
   refine zxs ?_; refine gp zfa ?_; refine gp zl ?_; refine gp zln ?_; refine zxm ?_; refine gnt (gc_block (gc_loop (α := Nat) (fun k => [pureR (k ≤ x.path.length), blk b3 84 [.int .i64 x.leaf, .slice a1 x.chains.length c1, .slice a2 x.path.length c2], OutR g ((x.path.take k).foldl (fun s x => wDig x s) (wMany x.path.length 5 (wPut wDig x.chains 68 (wNum x.leaf 1 s))))]) (fun k => [(36, .int .i64 (k : Int))]) [7, 37, 38, 39, 40, 41, 42, 43] (fun k => x.path.length - k) 0 ?_ ?_ ?_))
   ·refine env_start (by kernel_rfl)
   ·exact zlp (Nat.zero_le _)
   ·intro k u; refine gc_pureR (fun hk => ?_)
    replace hk : k ≤ x.path.length := hk
    refine gsr (gp zlt ?_); refine gnt (gc_seq (gif rfl (fun hc37 => ?_) (fun hc37 => ?_)))
    ·try simp only at hc37
     have hk' : k < x.path.length := by omega
     obtain ⟨ga, o, cs1, y, ha, hA, hg, hra, hcl, hly, hrd⟩ := hd2.elem (by decide) hk'; subst ha; have hbk := many_bound (k := k) (l := x.path) (s := (wPut wDig x.chains 68 (wNum x.leaf 1 s))) (most := 5) (M := 1099511627776) wDig_len wDig_bad hk' (by decide) (by omega)
     unfold RdDig at hrd
     subst hrd; refine gc_skip (gx_then (gc_seq (gc_block (gsr (gp (r_indexAddr_slice rfl rfl Ty.sl_82 Ty.sz_38 (by omega) (by omega)) ?_))))); refine gp (r_ldNo rfl Ty.row_38 Ty.sz_38 hra hcl (by decide) hA) ?_; refine zal fun b7 => ?_; refine gl_storeN (wt0 rfl) rfl rfl Ty.sz_38 hcl (by repeat (first | exact Pick.here | apply Pick.there)) (by first | decide | (rw [zD_length]; decide)) (dc_one _) (updL_all (by rw [hcl]; first | rfl | decide)) ?_; refine gnt (gc_region (zxm ?_)); refine gp (zLa (cs := dc y)) ?_; refine zc (fun _ => ?_) (c := fun w1 F1 F2 h1 h2 hd hst => odigest_ok h1 hbk)
     refine gl_nil (gx_block_normal (gx_then (gc_region (gp zad ?_)))); refine zxm ?_; refine gl_nil (zrd (k + 1) ?_ ?_)
     ·show x.path.length - (k + 1) < x.path.length - k
      omega
     ·rintro w' hw
      rw [foldl_take_succ _ _ _ hly]; exact zlp (show k + 1 ≤ x.path.length by omega) (by repeat (first | exact Sel.nil | (apply Sel.cons; · (repeat (first | exact Pick.here | apply Pick.there))))) w' hw
    ·try simp only at hc37
     have hk' : k = x.path.length := by omega
     subst hk'; rw [List.take_length, put_many wDig_bad _ (by decide)]; refine gc_exit ?_; refine gx_then_exit ?_; refine gx_round_exit ?_; refine gx_block_hit ?_; refine gx_ret0' rfl ?_; exact ze ()
theorem osigned_ok {w : World} {F : Nat → Prop} {g : Nat} {s : WS} {cs : List Value} {x : Signed} (h : stars [OutR g s] w F) (hx : RdSigned w (fun k => ¬ F k) cs x) (ho : OkSigned x) (hb : s.bs.length + 1172 ≤ 1099511627776) :
    Calls Tryz.prog 132 #[.pointer (some ⟨g, 0, none⟩), .agg cs.toArray] w (Post w F (fun _ : Unit => .tuple #[]) (fun _ => [OutR g (wSigned x s)])) := by
 obtain ⟨ss, rfl, hs⟩ := hx; have hl := hs.len
 have il := Len.of hl
 have jl := One.of hs.one
 have e0 := wNum_len x.who 1 s
 refine g_enter (env := [(0, .pointer (some ⟨g, 0, none⟩)), (1, .agg (List.toArray (.int .i64 x.who :: ss)))]) Tryz.func132 rfl h Tryz.ntmps132 rfl rfl ?_; refine gsr (zbN fun b3 => ?_); refine zxs ?_; refine zxm ?_; refine gp zfa ?_; refine gp zl ?_; refine zc (fun _ => ?_) (c := fun w1 F1 F2 h1 h2 hd hst => onum_ok (wd := 1) h1 (by decide) (by decide) (fun _ => ho.1) (by omega))
 refine gnt (gc_region (zxm ?_)); refine gp zfa ?_; refine gp (zL (sg := ss)) ?_; refine zc (fun _ => ?_) (c := fun w1 F1 F2 h1 h2 hd hst => osig_ok h1 (hs.mv hst.still) ho.2 (by omega))
 refine gl_nil (gx_ret0' rfl ?_); exact ze ()
theorem oqc_ok {w : World} {F : Nat → Prop} {g : Nat} {s : WS} {cs : List Value} {x : QC} (h : stars [OutR g s] w F) (hx : RdQC w (fun k => ¬ F k) cs x) (ho : OkQC x) (hb : s.bs.length + 8231 ≤ 1099511627776) :
    Calls Tryz.prog 96 #[.pointer (some ⟨g, 0, none⟩), .agg cs.toArray] w (Post w F (fun _ : Unit => .tuple #[]) (fun _ => [OutR g (wQC x s)])) := by
 obtain ⟨a1, n1, c1, rfl, hk1, hd1⟩ := hx; have hm1 := hd1.max
 simp only [maxLen] at hm1
 have hn1 := hd1.len (by decide)
 subst hn1; have e0 := wNum_len x.epoch 4 s
 have e1 := wNum_len x.round 6 (wNum x.epoch 4 s)
 have e2 := wDig_len x.block (wNum x.round 6 (wNum x.epoch 4 s))
 refine g_enter (env := [(0, .pointer (some ⟨g, 0, none⟩)), (1, .agg (List.toArray (.int .i64 x.epoch :: .int .i64 x.round :: (dc x.block ++ [.slice a1 x.votes.length c1]))))]) Tryz.func96 rfl h Tryz.ntmps96 rfl rfl ?_; refine gsr (zbN fun b3 => ?_); refine zxs ?_; refine zxm ?_; refine gp zfa ?_; refine gp zl ?_; refine zc (fun _ => ?_) (c := fun w1 F1 F2 h1 h2 hd hst => onum_ok (wd := 4) h1 (by decide) (by decide) (fun _ => ho.1) (by omega))
 refine zxs ?_; refine zxm ?_; refine gp zfa ?_; refine gp zl ?_; refine zc (fun _ => ?_) (c := fun w1 F1 F2 h1 h2 hd hst => onum_ok (wd := 6) h1 (by decide) (by decide) (fun _ => ho.2.1) (by omega))
 refine zxs ?_; refine zxm ?_; refine gp zfa ?_; refine gp zL ?_; refine zc (fun _ => ?_) (c := fun w1 F1 F2 h1 h2 hd hst => odigest_ok h1 (by omega))
 refine zxs ?_; refine zxm ?_; refine gp zfa ?_; refine gp zl ?_; refine gp zln ?_; refine zc (fun _ => ?_) (c := fun w1 F1 F2 h1 h2 hd hst => omany_ok (most := 7) h1 (by decide) (by omega))
 refine zxs ?_; refine gp zfa ?_; refine gp zl ?_; refine gp zln ?_; refine zxm ?_; refine gnt (gc_block (gc_loop (α := Nat) (fun k => [pureR (k ≤ x.votes.length), blk b3 41 (.int .i64 x.epoch :: .int .i64 x.round :: (dc x.block ++ [.slice a1 x.votes.length c1])), OutR g ((x.votes.take k).foldl (fun s x => wSigned x s) (wMany x.votes.length 7 (wDig x.block (wNum x.round 6 (wNum x.epoch 4 s)))))]) (fun k => [(26, .int .i64 (k : Int))]) [5, 27, 28, 29, 30, 31, 32, 33] (fun k => x.votes.length - k) 0 ?_ ?_ ?_))
 ·refine env_start (by kernel_rfl)
 ·exact zlp (Nat.zero_le _)
 ·intro k u; refine gc_pureR (fun hk => ?_)
  replace hk : k ≤ x.votes.length := hk
  refine gsr (gp zlt ?_); refine gnt (gc_seq (gif rfl (fun hc27 => ?_) (fun hc27 => ?_)))
  ·try simp only at hc27
   have hk' : k < x.votes.length := by omega
   obtain ⟨ga, o, cs1, y, ha, hA, hg, hra, hcl, hly, hrd⟩ := hd1.elem (by decide) hk'; subst ha; have hbk := many_bound (k := k) (l := x.votes) (s := (wDig x.block (wNum x.round 6 (wNum x.epoch 4 s)))) (most := 7) (M := 1099511627776) wSigned_len wSigned_bad hk' (by decide) (by omega)
   have hoy := ho.2.2 y (List.mem_of_getElem? hly)
   have i1 := Len.of hcl
   have j1 := One.of hrd.one
   refine gc_skip (gx_then (gc_seq (gc_block (gsr (gp (r_indexAddr_slice rfl rfl Ty.sl_39 Ty.sz_86 (by omega) (by omega)) ?_))))); refine gp (r_ldNo rfl Ty.row_86 Ty.sz_86 hra hcl (by decide) hA) ?_; refine zal fun b5 => ?_; refine gl_storeN (wt0 rfl) rfl rfl Ty.sz_86 hcl (by repeat (first | exact Pick.here | apply Pick.there)) (by first | decide | (rw [zD_length]; decide)) (hrd.one) (updL_all (by rw [hcl]; first | rfl | decide)) ?_; refine gnt (gc_region (zxm ?_)); refine gp (zL (sg := cs1)) ?_; refine zc (fun _ => ?_) (c := fun w1 F1 F2 h1 h2 hd hst => osigned_ok h1 (hrd.mv hst.still) hoy hbk)
   refine gl_nil (gx_block_normal (gx_then (gc_region (gp zad ?_)))); refine zxm ?_; refine gl_nil (zrd (k + 1) ?_ ?_)
   ·show x.votes.length - (k + 1) < x.votes.length - k
    omega
   ·rintro w' hw
    rw [foldl_take_succ _ _ _ hly]; exact zlp (show k + 1 ≤ x.votes.length by omega) (by repeat (first | exact Sel.nil | (apply Sel.cons; · (repeat (first | exact Pick.here | apply Pick.there))))) w' hw
  ·try simp only at hc27
   have hk' : k = x.votes.length := by omega
   subst hk'; rw [List.take_length, put_many wSigned_bad _ (by decide)]; refine gc_exit ?_; refine gx_then_exit ?_; refine gx_round_exit ?_; refine gx_block_hit ?_; refine gx_ret0' rfl ?_; exact ze ()
end
section
section
variable {P : Program} {w0 : World} {F0 : Nat → Prop} {L L' : List Res} {Q : Exit → Act → World → Prop} {n : Fm} {env : Env} {ops : Array Oper} {rest : List Oper}
theorem gl_out {g : Nat} {s : WS} (hp : Pick L (OutR g s) L') (k : ∀ a c, Gl P w0 F0 (blk g 132 [.slice a s.bs.length c, .int .i64 (s.err : Int)] :: rowR 5 1 a s.bs.length c (s.bs.map B8) :: L') ops Q rest n env) : Gl P w0 F0 L ops Q rest n env := fun w ⟨F, hF, hst⟩ => by
  obtain ⟨a, c, h⟩ := out_open (hp.stars hF)
  exact k a c w ⟨F, h, hst⟩
end
theorem wTx_over {b : List UInt8} {s : WS} (he : s.err = 0) (hn : 16 < b.length) : wBytes b 16 s = ⟨1, s.bs⟩ := by
  unfold wBytes wFail; rw [if_pos (.inl hn), if_pos he]
theorem wTx_fit {b : List UInt8} {s : WS} (he : s.err = 0) (hn : ¬ 16 < b.length) : wBytes b 16 s = ⟨0, s.bs ++ beN (b.length : Int) 2 ++ b⟩ := by
  have h2 : (0 : Int) ≤ (b.length : Int) ∧ (b.length : Int) < 256 ^ 2 := by refine ⟨by omega, ?_⟩; have : (256 : Int) ^ 2 = 65536 := rfl; omega
  unfold wBytes; rw [if_neg (by omega), wNum_fit (by decide) he h2]
  unfold wFix; rw [if_pos rfl]
attribute [local irreducible] Gl Gc Gx Gs Runs Wt
theorem oblock_ok {w : World} {F : Nat → Prop} {g : Nat} {s : WS} {cs : List Value} {x : Block} (h : stars [OutR g s] w F) (hx : RdBlock w (fun k => ¬ F k) cs x) (ho : OkBlock x) (hb : s.bs.length + 8485 ≤ 1099511627776) :
    Calls Tryz.prog 55 #[.pointer (some ⟨g, 0, none⟩), .agg cs.toArray] w (Post w F (fun _ : Unit => .tuple #[]) (fun _ => [OutR g (wBlock x s)])) := by
 obtain ⟨q, a1, n1, c1, a2, n2, c2, rfl, hq0, hk1, hd1, hk2, hd2⟩ := hx; have hm1 := hd1.max
 have hm2 := hd2.max
 simp only [maxLen] at hm1 hm2
 have hn1 := hd1.len (by decide)
 have hn2 := hd2.len (by decide)
 subst hn1; subst hn2; have hlq := hq0.len
 have ilq := Len.of hlq
 have jlq := One.of hq0.one
 have e0 := wNum_len x.epoch 4 s
 have e1 := wNum_len x.round 6 (wNum x.epoch 4 s)
 have e2 := wDig_len x.parent (wNum x.round 6 (wNum x.epoch 4 s))
 have e3 := wQC_len x.justify (wDig x.parent (wNum x.round 6 (wNum x.epoch 4 s)))
 have e4 := wPut_len (wX := fun t => wBytes t 16) (c := 18) (fun x s => wBytes_len x 16 s) x.payload 4 (wQC x.justify (wDig x.parent (wNum x.round 6 (wNum x.epoch 4 s))))
 refine g_enter (env := [(0, .pointer (some ⟨g, 0, none⟩)), (1, .agg (List.toArray (.int .i64 x.epoch :: .int .i64 x.round :: (dc x.parent ++ (q ++ [.slice a1 x.payload.length c1, .slice a2 x.next.length c2])))))]) Tryz.func55 rfl h Tryz.ntmps55 rfl rfl ?_; refine gsr (zbN fun b3 => ?_); refine zxs ?_; refine zxm ?_; refine gp zfa ?_; refine gp zl ?_; refine zc (fun _ => ?_) (c := fun w1 F1 F2 h1 h2 hd hst => onum_ok (wd := 4) h1 (by decide) (by decide) (fun _ => ho.1) (by omega))
 refine zxs ?_; refine zxm ?_; refine gp zfa ?_; refine gp zl ?_; refine zc (fun _ => ?_) (c := fun w1 F1 F2 h1 h2 hd hst => onum_ok (wd := 6) h1 (by decide) (by decide) (fun _ => ho.2.1) (by omega))
 refine zxs ?_; refine zxm ?_; refine gp zfa ?_; refine gp zL ?_; refine zc (fun _ => ?_) (c := fun w1 F1 F2 h1 h2 hd hst => odigest_ok h1 (by omega))
 refine zxs ?_; refine zxm ?_; refine gp zfa ?_; refine gp (zL (sg := q)) ?_; refine zc (fun _ => ?_) (c := fun w1 F1 F2 h1 h2 hd hst => oqc_ok h1 (hq0.mv hst.still) ho.2.2.1 (by omega))
 refine zxs ?_; refine zxm ?_; refine gp zfa ?_; refine gp zl ?_; refine gp zln ?_; refine zc (fun _ => ?_) (c := fun w1 F1 F2 h1 h2 hd hst => omany_ok (most := 4) h1 (by decide) (by omega))
 refine gnt (gc_seq (gsr (gp zfa ?_))); refine gp zl ?_; refine gp zln ?_; refine zxm ?_; refine gnt (gc_block (gc_loop (α := Nat) (fun k => [pureR (k ≤ x.payload.length), blk b3 45 (.int .i64 x.epoch :: .int .i64 x.round :: (dc x.parent ++ (q ++ [.slice a1 x.payload.length c1, .slice a2 x.next.length c2]))), OutR g ((x.payload.take k).foldl (fun s t => wBytes t 16 s) (wMany x.payload.length 4 (wQC x.justify (wDig x.parent (wNum x.round 6 (wNum x.epoch 4 s))))))]) (fun k => [(32, .int .i64 (k : Int))]) [5, 33, 34, 35, 36, 37, 38, 39, 40, 41, 42, 43, 44, 45, 46, 47, 48, 49, 50, 51, 52, 53, 54, 55, 56, 57, 58, 59, 60, 61, 62, 63, 64, 65, 66, 67] (fun k => x.payload.length - k) 0 ?_ ?_ ?_))
 ·refine env_start (by kernel_rfl)
 ·exact zlp (Nat.zero_le _)
 ·intro k u; refine gc_pureR (fun hk => ?_)
  replace hk : k ≤ x.payload.length := hk
  refine gsr (gp zlt ?_); refine gnt (gc_seq (gif rfl (fun hc33 => ?_) (fun hc33 => ?_)))
  ·try simp only at hc33
   have hk' : k < x.payload.length := by omega
   obtain ⟨ga, o, cs1, y, ha, hA, hg, hra, hcl, hly, hrd⟩ := hd1.elem (by decide) hk'; subst ha; obtain ⟨a', n', c', rfl, hn', hrb⟩ := hrd; have hny : n' = y.length := by have := hrb.1; simp at this; omega
   subst hny; have hmy := hrb.2.1
   simp only [maxLen] at hmy
   have hbk := many_bound (k := k) (l := x.payload) (s := (wQC x.justify (wDig x.parent (wNum x.round 6 (wNum x.epoch 4 s))))) (most := 4) (M := 1099511627776) (wX := fun t => wBytes t 16) (c := 18) (fun x s => wBytes_len x 16 s) (fun x s => wBytes_bad x 16 s) hk' (by decide) (by omega)
   obtain ⟨S, hS⟩ : ∃ S, S = ((x.payload.take k).foldl (fun s t => wBytes t 16 s) (wMany x.payload.length 4 (wQC x.justify (wDig x.parent (wNum x.round 6 (wNum x.epoch 4 s)))))) := ⟨_, rfl⟩; rw [← hS] at hbk ⊢; refine gc_skip (gx_then (gc_seq (gc_block (gsr (gp (r_indexAddr_slice rfl rfl Ty.sl_42 Ty.sz_49 (by omega) (by omega)) ?_))))); refine gp (r_ld1o rfl Ty.row_49 (hra 0 _ rfl) hA) ?_; refine zxa ?_; refine gnt (gc_seq (gc_seq ?_)); by_cases he : S.err = 0
   ·by_cases hq : 16 < y.length
    ·refine gc_region (zxm ?_); refine gp znc ?_; refine gp zfa ?_; refine gl_out (s := S) (by repeat (first | exact Pick.here | apply Pick.there)) (fun a39 c39 => ?_)
     refine gp zl ?_; refine gp (r_bool (c := true) zei (decide_eq_true (by omega))) ?_; refine zxm ?_; refine gq zmv ?_; refine gq zln ?_; refine gq (r_bool (c := true) zgt (decide_eq_true (by omega))) ?_; refine gp zpk ?_; refine gnt (gc_condT rfl rfl ?_); refine gc_region (zxm ?_); refine gp znc ?_; refine gp zfa ?_; refine zs1 ?_; refine zxs ?_; refine zxm ?_; refine zxm ?_; refine gp zln ?_; refine gl_cz (M := [blk g 132 [.slice a39 S.bs.length c39, .int .i64 1], rowR 5 1 a39 S.bs.length c39 (S.bs.map B8)]) (N := [OutR g (⟨1, S.bs⟩ : WS)]) (fun w F hF => out_mk hF rfl rfl rfl) ?_; refine zc (fun _ => ?_) (c := fun w1 F1 F2 h1 h2 hd hst => onum_ok (s := ⟨1, S.bs⟩) (wd := 2) h1 (by decide) (by decide) (fun e => absurd e (by simp)) (by simp only; omega))
     rw [wNum_bad (s := ⟨1, S.bs⟩) (by simp)]; refine zxs ?_; refine zxm ?_; refine gp znc ?_; refine gp zfa ?_; refine gl_out (s := ⟨1, S.bs⟩) (by repeat (first | exact Pick.here | apply Pick.there)) (fun a56 c56 => ?_)
     refine gp zl ?_; refine gp (r_bool (c := false) zei rfl) ?_; refine gnt (gc_condF rfl rfl ?_); refine gc_skip (gx_block_normal (gx_then (gc_region (gp zad ?_)))); refine zxm ?_; refine gl_nil (zrd (k + 1) ?_ ?_)
     ·show x.payload.length - (k + 1) < x.payload.length - k
      omega
     ·rintro w' hw
      rw [foldl_take_succ _ _ _ hly, ← hS]; have e : wBytes y 16 S = ⟨1, S.bs⟩ := wTx_over he hq
      rw [e]; have h2 := St.out (s := ⟨1, S.bs⟩) (a := a56) (c := c56) (m := (⟨1, S.bs⟩ : WS).bs.length) (xs := (⟨1, S.bs⟩ : WS).bs.map B8) (hw.sel (M := [_, _, blk b3 _ _]) (by repeat (first | exact Sel.nil | (apply Sel.cons; · (repeat (first | exact Pick.here | apply Pick.there)))))) rfl rfl rfl
      exact zlp (show k + 1 ≤ x.payload.length by omega) (by repeat (first | exact Sel.nil | (apply Sel.cons; · (repeat (first | exact Pick.here | apply Pick.there))))) w' h2
    ·refine gc_region (zxm ?_); refine gp znc ?_; refine gp zfa ?_; refine gl_out (s := S) (by repeat (first | exact Pick.here | apply Pick.there)) (fun a39 c39 => ?_)
     refine gp zl ?_; refine gp (r_bool (c := true) zei (decide_eq_true (by omega))) ?_; refine zxm ?_; refine gq zmv ?_; refine gq zln ?_; refine gq (r_bool (c := false) zgt (decide_eq_false (by omega))) ?_; refine gp zpk ?_; refine gnt (gc_condF rfl rfl ?_); refine gc_skip (gx_then (gsr (zxm ?_))); refine zxm ?_; refine gp zln ?_; refine gl_cz (M := [blk g 132 [.slice a39 S.bs.length c39, .int .i64 (S.err : Int)], rowR 5 1 a39 S.bs.length c39 (S.bs.map B8)]) (N := [OutR g S]) (fun w F hF => out_mk hF rfl rfl rfl) ?_; refine zc (fun _ => ?_) (c := fun w1 F1 F2 h1 h2 hd hst => onum_ok (wd := 2) h1 (by decide) (by decide) (fun _ => by unfold I64; omega) (by omega))
     rw [wNum_fit (by decide) he ⟨by omega, by have : (256 : Int) ^ 2 = 65536 := rfl; omega⟩]; obtain ⟨S2, hS2⟩ : ∃ S2 : WS, S2 = ⟨0, S.bs ++ beN (y.length : Int) 2⟩ := ⟨_, rfl⟩; rw [← hS2]; refine zxs ?_; refine zxm ?_; refine gp znc ?_; refine gp zfa ?_; refine gl_out (s := S2) (by repeat (first | exact Pick.here | apply Pick.there)) (fun a56 c56 => ?_)
     refine gp zl ?_; refine gp (r_bool (c := true) zei (by rw [hS2]; rfl)) ?_; refine gnt (gc_condT rfl rfl ?_); refine gc_region (zxm ?_); refine zxm ?_; refine gp znc ?_; refine gp zfa ?_; refine gp zl ?_; refine zxm ?_; have hl0 : S2.bs.length = S.bs.length + 2 := by rw [hS2]; simp [beN_length]
     refine gl_append (xs := S2.bs.map B8) (news := y.map B8) (wt0 rfl) rfl rfl (by repeat (first | exact Pick.here | apply Pick.there)) ELT.h (fun w hw => hw.rdOld hrb) (one_B8 _) (by simp only [maxLen, List.length_append, beN_length]; omega) (by omega) (fun a64 c64 => ?_)
     refine gp znc ?_; refine gp zfa ?_; refine zs1 ?_; refine gl_nil (gx_block_normal (gx_then (gc_region (gp zad ?_)))); refine zxm ?_; refine gl_nil (zrd (k + 1) ?_ ?_)
     ·show x.payload.length - (k + 1) < x.payload.length - k
      omega
     ·rintro w' hw
      rw [foldl_take_succ _ _ _ hly, ← hS]; have e : wBytes y 16 S = ⟨0, S2.bs ++ y⟩ := by rw [hS2]; exact wTx_fit he hq
      rw [e]; have h2 := St.out (s := ⟨0, S2.bs ++ y⟩) (a := a64) (c := c64) (m := S2.bs.length + y.length) (xs := List.map B8 S2.bs ++ List.map B8 y) (hw.sel (M := [_, _, blk b3 _ _]) (by repeat (first | exact Sel.nil | (apply Sel.cons; · (repeat (first | exact Pick.here | apply Pick.there)))))) (by rw [hS2]) (by simp) (by simp)
      exact zlp (show k + 1 ≤ x.payload.length by omega) (by repeat (first | exact Sel.nil | (apply Sel.cons; · (repeat (first | exact Pick.here | apply Pick.there))))) w' h2
   ·refine gc_region (zxm ?_); refine gp znc ?_; refine gp zfa ?_; refine gl_out (s := S) (by repeat (first | exact Pick.here | apply Pick.there)) (fun a39 c39 => ?_)
    refine gp zl ?_; refine gp (r_bool (c := false) zei (decide_eq_false (by omega))) ?_; refine zxm ?_; refine gn ?_; refine gn ?_; refine gn ?_; refine gp zpk ?_; refine gnt (gc_condF rfl rfl ?_); refine gc_skip (gx_then (gsr (zxm ?_))); refine zxm ?_; refine gp zln ?_; refine gl_cz (M := [blk g 132 [.slice a39 S.bs.length c39, .int .i64 (S.err : Int)], rowR 5 1 a39 S.bs.length c39 (S.bs.map B8)]) (N := [OutR g S]) (fun w F hF => out_mk hF rfl rfl rfl) ?_; refine zc (fun _ => ?_) (c := fun w1 F1 F2 h1 h2 hd hst => onum_ok (wd := 2) h1 (by decide) (by decide) (fun e => absurd e he) (by omega))
    rw [wNum_bad he]; refine zxs ?_; refine zxm ?_; refine gp znc ?_; refine gp zfa ?_; refine gl_out (s := S) (by repeat (first | exact Pick.here | apply Pick.there)) (fun a56 c56 => ?_)
    refine gp zl ?_; refine gp (r_bool (c := false) zei (decide_eq_false (by omega))) ?_; refine gnt (gc_condF rfl rfl ?_); refine gc_skip (gx_block_normal (gx_then (gc_region (gp zad ?_)))); refine zxm ?_; refine gl_nil (zrd (k + 1) ?_ ?_)
    ·show x.payload.length - (k + 1) < x.payload.length - k
     omega
    ·rintro w' hw
     rw [foldl_take_succ _ _ _ hly, ← hS]; have e : wBytes y 16 S = S := wBytes_bad y 16 S he
     rw [e]; have h2 := St.out (s := S) (a := a56) (c := c56) (m := S.bs.length) (xs := S.bs.map B8) (hw.sel (M := [_, _, blk b3 _ _]) (by repeat (first | exact Sel.nil | (apply Sel.cons; · (repeat (first | exact Pick.here | apply Pick.there)))))) rfl rfl rfl
     exact zlp (show k + 1 ≤ x.payload.length by omega) (by repeat (first | exact Sel.nil | (apply Sel.cons; · (repeat (first | exact Pick.here | apply Pick.there))))) w' h2
  ·try simp only at hc33
   have hk' : k = x.payload.length := by omega
   subst hk'; rw [List.take_length, put_many (wX := fun t => wBytes t 16) (fun x s => wBytes_bad x 16 s) _ (by decide)]; refine gc_exit ?_; refine gx_then_exit ?_; refine gx_round_exit ?_; refine gx_block_hit ?_; refine gx_then (gsr (zxm ?_)); refine gp zfa ?_; refine gp zl ?_; refine gp zln ?_; refine zc (fun _ => ?_) (c := fun w1 F1 F2 h1 h2 hd hst => omany_ok (most := 7) h1 (by decide) (by omega))
   refine zxs ?_; refine gp zfa ?_; refine gp zl ?_; refine gp zln ?_; refine zxm ?_; refine gnt (gc_block (gc_loop (α := Nat) (fun k => [pureR (k ≤ x.next.length), blk b3 45 (.int .i64 x.epoch :: .int .i64 x.round :: (dc x.parent ++ (q ++ [.slice a1 x.payload.length c1, .slice a2 x.next.length c2]))), OutR g ((x.next.take k).foldl (fun s x => wVdr x s) (wMany x.next.length 7 (wPut (fun t => wBytes t 16) x.payload 4 (wQC x.justify (wDig x.parent (wNum x.round 6 (wNum x.epoch 4 s)))))))]) (fun k => [(76, .int .i64 (k : Int))]) [7, 77, 78, 79, 80, 81, 82, 83, 84, 85, 86, 87, 88] (fun k => x.next.length - k) 0 ?_ ?_ ?_))
   ·refine env_start (by kernel_rfl)
   ·exact zlp (Nat.zero_le _)
   ·intro k u; refine gc_pureR (fun hk => ?_)
    replace hk : k ≤ x.next.length := hk
    refine gsr (gp zlt ?_); refine gnt (gc_seq (gif rfl (fun hc77 => ?_) (fun hc77 => ?_)))
    ·try simp only at hc77
     have hk' : k < x.next.length := by omega
     obtain ⟨ga, o, cs1, y, ha, hA, hg, hra, hcl, hly, hrd⟩ := hd2.elem (by decide) hk'; subst ha; have hbk := many_bound (k := k) (l := x.next) (s := (wPut (fun t => wBytes t 16) x.payload 4 (wQC x.justify (wDig x.parent (wNum x.round 6 (wNum x.epoch 4 s)))))) (most := 7) (M := 1099511627776) wVdr_len wVdr_bad hk' (by decide) (by omega)
     unfold RdVdr at hrd
     subst hrd; have hoy := ho.2.2.2 y (List.mem_of_getElem? hly)
     have f0 := wDig_len y.key ((x.next.take k).foldl (fun s x => wVdr x s) (wMany x.next.length 7 (wPut (fun t => wBytes t 16) x.payload 4 (wQC x.justify (wDig x.parent (wNum x.round 6 (wNum x.epoch 4 s)))))))
     refine gc_skip (gx_then (gc_seq (gc_block (gsr (gp (r_indexAddr_slice rfl rfl Ty.sl_43 Ty.sz_152 (by omega) (by omega)) ?_))))); refine gp (r_ldNo rfl Ty.row_152 Ty.sz_152 hra hcl (by decide) hA) ?_; refine zal fun b7 => ?_; refine gl_storeN (wt0 rfl) rfl rfl Ty.sz_152 hcl (by repeat (first | exact Pick.here | apply Pick.there)) (by first | decide | (rw [zD_length]; decide)) (all_app' (dc_one _) (all_cons' rfl all_nil')) (updL_all (by rw [hcl]; first | rfl | decide)) ?_; refine zxs ?_; refine zxm ?_; refine gp zfa ?_; refine gp (zL (sg := dc y.key)) ?_; refine zc (fun _ => ?_) (c := fun w1 F1 F2 h1 h2 hd hst => odigest_ok h1 (by omega))
     refine gnt (gc_region (zxm ?_)); refine gp zfa ?_; refine gp zl ?_; refine zc (fun _ => ?_) (c := fun w1 F1 F2 h1 h2 hd hst => onum_ok (wd := 6) h1 (by decide) (by decide) (fun _ => hoy) (by omega))
     refine gl_nil (gx_block_normal (gx_then (gc_region (gp zad ?_)))); refine zxm ?_; refine gl_nil (zrd (k + 1) ?_ ?_)
     ·show x.next.length - (k + 1) < x.next.length - k
      omega
     ·rintro w' hw
      rw [foldl_take_succ _ _ _ hly]; exact zlp (show k + 1 ≤ x.next.length by omega) (by repeat (first | exact Sel.nil | (apply Sel.cons; · (repeat (first | exact Pick.here | apply Pick.there))))) w' hw
    ·try simp only at hc77
     have hk' : k = x.next.length := by omega
     subst hk'; rw [List.take_length, put_many wVdr_bad _ (by decide)]; refine gc_exit ?_; refine gx_then_exit ?_; refine gx_round_exit ?_; refine gx_block_hit ?_; refine gx_ret0' rfl ?_; exact ze ()
end
section
abbrev PR (α : Type) := List UInt8 → Except Nat (α × List UInt8)
def pBind {α β : Type} (p : PR α) (f : α → PR β) : PR β := fun b => match p b with
  | .error e => .error e
  | .ok x => f x.1 x.2
def pPure {α : Type} (x : α) : PR α := fun b => .ok (x, b)
def pErr {α : Type} (e : Nat) : PR α := fun _ => .error e
def pTake (n : Nat) : PR (List UInt8) := fun b => if b.length < n then .error 2 else .ok (b.take n, b.drop n)
def valN (l : List UInt8) : Nat := l.foldl (fun n c => n * 256 + c.toNat) 0
def pNum (wd : Nat) : PR Int := pBind (pTake wd) fun l => pPure (valN l : Int)
def digOf (l : List UInt8) : Dig := if h : l.length = 16 then ⟨l, h⟩ else dig0
def pDig : PR Dig := pBind (pTake 16) fun l => pPure (digOf l)
def pMany {α : Type} (one : PR α) : Nat → PR (List α)
  | 0 => pPure []
  | k + 1 => pBind one fun x => pBind (pMany one k) fun l => pPure (x :: l)
def pList {α : Type} (one : PR α) (most : Nat) : PR (List α) := pBind (pNum 1) fun n => if (most : Int) < n then pErr 1 else pMany one n.toNat
def pBytes (most : Nat) : PR (List UInt8) := pBind (pNum 2) fun n => if (most : Int) < n then pErr 1 else pTake n.toNat
def pSig : PR Sig := pBind (pNum 1) fun l => pBind (pList pDig 68) fun c => pBind (pList pDig 5) fun p => pPure ⟨l, c, p⟩
def pSigned : PR Signed := pBind (pNum 1) fun w => pBind pSig fun s => pPure ⟨w, s⟩
def pAt : PR (Int × Int) := pBind (pNum 4) fun e => pBind (pNum 6) fun r => pPure (e, r)
def pQC : PR QC := pBind pAt fun a => pBind pDig fun d => pBind (pList pSigned 7) fun v => pPure ⟨a.1, a.2, d, v⟩
def pVdr : PR Vdr := pBind pDig fun k => pBind (pNum 6) fun p => pPure ⟨k, p⟩
def pBlock : PR Block := pBind pAt fun a => pBind pDig fun d => pBind pQC fun q => pBind (pList (pBytes 16) 4) fun t => pBind (pList pVdr 7) fun v => pPure ⟨a.1, a.2, d, q, t, v⟩
def qc0 : QC := ⟨0, 0, dig0, []⟩
def blk0 : Block := ⟨0, 0, dig0, qc0, [], []⟩
def chg0 : Chg := ⟨[blk0, blk0, blk0], qc0⟩
def pAll {α : Type} (p : PR α) (b : List UInt8) : Except Nat α := match p b with
  | .error e => .error e
  | .ok x => if x.2 = [] then .ok x.1 else .error 3
theorem valN_go (l : List UInt8) (a : Nat) : l.foldl (fun n c => n * 256 + c.toNat) a = a * 256 ^ l.length + valN l := by
  unfold valN
  induction l generalizing a with
  | nil => simp
  | cons c l ih =>
    rw [List.foldl_cons, ih, List.foldl_cons, ih (0 * 256 + c.toNat), List.length_cons, Nat.pow_succ, Nat.add_mul, Nat.zero_mul, Nat.zero_add, Nat.mul_comm (256 ^ l.length) 256, ← Nat.mul_assoc]
    omega
theorem valN_cons (c : UInt8) (l : List UInt8) : valN (c :: l) = c.toNat * 256 ^ l.length + valN l := by
  conv => lhs; unfold valN
  rw [List.foldl_cons, valN_go, Nat.zero_mul, Nat.zero_add]
theorem valN_lt (l : List UInt8) : valN l < 256 ^ l.length := by
  induction l with
  | nil => simp [valN]
  | cons c l ih =>
    rw [valN_cons, List.length_cons, Nat.pow_succ]
    have := c.toNat_lt
    have h2 : c.toNat * 256 ^ l.length ≤ 255 * 256 ^ l.length := Nat.mul_le_mul_right _ (by omega)
    omega
theorem beN_succ (n : Int) (wd : Nat) : beN n (wd + 1) = byteAt n wd :: beN n wd := by
  simp only [beN, List.range_succ_eq_map, List.map_cons, List.map_map]
  congr 1
  apply List.map_congr_left
  intro j hj
  simp only [Function.comp]
  congr 1
  omega
theorem byteAt_nat (n i : Nat) : byteAt (n : Int) i = UInt8.ofNat (n / 256 ^ i) := by
  unfold byteAt
  have e : (2 : Int) ^ (8 * i) = ((256 ^ i : Nat) : Int) := by
    rw [Int.pow_mul]; simp
  rw [e, ← Int.natCast_ediv, show ((n / 256 ^ i : Nat) : Int) % 256 = ((n / 256 ^ i % 256 : Nat) : Int) by simp, Int.toNat_natCast]
  apply UInt8.toNat_inj.1
  simp
theorem valN_beN (n wd : Nat) : valN (beN (n : Int) wd) = n % 256 ^ wd := by
  induction wd with
  | zero => simp [beN, valN, Nat.mod_one]
  | succ wd ih =>
    have e : n % 256 ^ (wd + 1) = n % 256 ^ wd + 256 ^ wd * (n / 256 ^ wd % 256) := by rw [Nat.pow_succ, Nat.mod_mul]
    rw [beN_succ, valN_cons, ih, beN_length, byteAt_nat, UInt8.toNat_ofNat', e]
    rw [Nat.add_comm, Nat.mul_comm]
theorem beN_mod (c v k j : Nat) (h : j ≤ k) : beN ((c * 256 ^ k + v : Nat) : Int) j = beN (v : Int) j := by
  induction j with
  | zero => rfl
  | succ j ih =>
    rw [beN_succ, beN_succ, ih (by omega), byteAt_nat, byteAt_nat]
    congr 1
    apply UInt8.toNat_inj.1
    obtain ⟨d, rfl⟩ : ∃ d, k = j + 1 + d := ⟨k - (j + 1), by omega⟩
    have e : c * 256 ^ (j + 1 + d) + v = v + 256 ^ j * (256 * (256 ^ d * c)) := by
      rw [Nat.pow_add, Nat.pow_succ]
      rw [Nat.add_comm]; congr 1
      rw [Nat.mul_comm c, Nat.mul_assoc, Nat.mul_assoc]
    rw [e, UInt8.toNat_ofNat', UInt8.toNat_ofNat', Nat.add_mul_div_left _ _ (Nat.pow_pos (by decide))]
    omega
theorem beN_valN (l : List UInt8) : beN (valN l : Int) l.length = l := by
  induction l with
  | nil => rfl
  | cons c l ih =>
    rw [List.length_cons, beN_succ, valN_cons, beN_mod _ _ _ _ (Nat.le_refl _), ih, byteAt_nat]
    congr 1
    apply UInt8.toNat_inj.1
    rw [UInt8.toNat_ofNat', Nat.mul_comm, Nat.mul_add_div (Nat.pow_pos (by decide)), Nat.div_eq_of_lt (valN_lt l)]
    have := c.toNat_lt
    omega
def Enc {α : Type} (W : α → WS → WS) (p : PR α) : Prop := ∀ x s, (W x s).err = 0 → s.err = 0 ∧ ∃ b, (W x s).bs = s.bs ++ b ∧ ∀ r, p (b ++ r) = .ok (x, r)
def Dec {α : Type} (W : α → WS → WS) (p : PR α) : Prop := ∀ b x r, p b = .ok (x, r) → ∃ b', b = b' ++ r ∧ ∀ s, s.err = 0 → W x s = ⟨0, s.bs ++ b'⟩
theorem pBind_ok {α β : Type} {p : PR α} {f : α → PR β} {b r : List UInt8} {y : β} (h : pBind p f b = .ok (y, r)) : ∃ x r1, p b = .ok (x, r1) ∧ f x r1 = .ok (y, r) := by
  unfold pBind at h
  cases hp : p b with
  | error e => rw [hp] at h; cases h
  | ok x => rw [hp] at h; exact ⟨x.1, x.2, rfl, h⟩
theorem pBind_eq {α β : Type} {p : PR α} {f : α → PR β} {b r : List UInt8} {x : α} (h : p b = .ok (x, r)) : pBind p f b = f x r := by
  unfold pBind; rw [h]
theorem pBind_err {α β : Type} {p : PR α} {f : α → PR β} {b : List UInt8} {e : Nat} (h : p b = .error e) : pBind p f b = .error e := by
  unfold pBind; rw [h]
theorem pTake_ok {n : Nat} {b l r : List UInt8} (h : pTake n b = .ok (l, r)) : b = l ++ r ∧ l.length = n := by
  unfold pTake at h
  split at h
  · cases h
  · simp only [Except.ok.injEq, Prod.mk.injEq] at h
    obtain ⟨rfl, rfl⟩ := h
    simp; omega
theorem pTake_app (l r : List UInt8) : pTake l.length (l ++ r) = .ok (l, r) := by
  simp [pTake]
theorem pNum_app {wd n : Nat} (h : n < 256 ^ wd) (r : List UInt8) : pNum wd (beN (n : Int) wd ++ r) = .ok ((n : Int), r) := by
  have := pTake_app (beN (n : Int) wd) r
  rw [beN_length] at this
  rw [pNum, pBind_eq this, valN_beN, Nat.mod_eq_of_lt h]; rfl
theorem pNum_ok {wd : Nat} {b r : List UInt8} {n : Int} (h : pNum wd b = .ok (n, r)) : ∃ m : Nat, n = m ∧ m < 256 ^ wd ∧ b = beN n wd ++ r := by
  obtain ⟨l, r1, h1, h2⟩ := pBind_ok h
  obtain ⟨rfl, rfl⟩ := pTake_ok h1
  simp only [pPure, Except.ok.injEq, Prod.mk.injEq] at h2
  obtain ⟨rfl, rfl⟩ := h2
  exact ⟨valN l, rfl, valN_lt l, by rw [beN_valN]⟩
theorem wNum_ok {n : Int} {wd : Nat} {s : WS} (hw : wd < 8) (h : (wNum n wd s).err = 0) : s.err = 0 ∧ 0 ≤ n ∧ n < 256 ^ wd ∧ wNum n wd s = ⟨0, s.bs ++ beN n wd⟩ := by
  have e : (2 : Int) ^ (8 * wd) = 256 ^ wd := by rw [Int.pow_mul]; rfl
  unfold wNum at h ⊢
  split at h
  · exfalso
    unfold wFail at h
    split at h
    · simp at h
    · contradiction
  · rename_i hn
    rw [if_neg hn]
    have hn' : 0 ≤ n ∧ n < 256 ^ wd := by rw [← e]; omega
    unfold wFix at h ⊢
    split at h
    · rename_i hs
      rw [if_pos hs, hs]
      exact ⟨rfl, hn'.1, hn'.2, rfl⟩
    · contradiction
theorem wNum_of {n wd : Nat} {s : WS} (h : n < 256 ^ wd) (hs : s.err = 0) : wNum (n : Int) wd s = ⟨0, s.bs ++ beN n wd⟩ := by
  have e : (2 : Int) ^ (8 * wd) = ((256 ^ wd : Nat) : Int) := by rw [Int.pow_mul]; simp
  unfold wNum
  rw [e, if_neg (by omega), wFix, if_pos hs, hs]
theorem wFail_err {k : Nat} (hk : k ≠ 0) (s : WS) : (wFail k s).err ≠ 0 := by
  unfold wFail; split
  · exact hk
  · assumption
theorem wFix_ok {b : List UInt8} {s : WS} (h : (wFix b s).err = 0) : s.err = 0 ∧ wFix b s = ⟨0, s.bs ++ b⟩ := by
  unfold wFix at h ⊢
  split at h
  · rename_i hs; rw [if_pos hs, hs]; exact ⟨rfl, rfl⟩
  · contradiction
theorem wFix_of {b : List UInt8} {s : WS} (hs : s.err = 0) : wFix b s = ⟨0, s.bs ++ b⟩ := by rw [wFix, if_pos hs, hs]
theorem enc_num {wd : Nat} (hw : wd < 8) : Enc (fun n s => wNum n wd s) (pNum wd) := fun n s h => by
  obtain ⟨h1, h2, h3, h4⟩ := wNum_ok hw h
  refine ⟨h1, beN n wd, by simp only [h4], fun r => ?_⟩
  obtain ⟨m, rfl⟩ := Int.eq_ofNat_of_zero_le h2
  exact pNum_app (by have : ((m : Nat) : Int) < ((256 ^ wd : Nat) : Int) := by simpa using h3
                     omega) r
theorem dec_num {wd : Nat} : Dec (fun n s => wNum n wd s) (pNum wd) := fun b n r h => by
  obtain ⟨m, rfl, h2, h3⟩ := pNum_ok h
  exact ⟨beN m wd, h3, fun s hs => wNum_of h2 hs⟩
theorem enc_dig : Enc wDig pDig := fun d s h => by
  obtain ⟨h1, h2⟩ := wFix_ok h
  refine ⟨h1, d.l, by simp only [wDig, h2], fun r => ?_⟩
  have := pTake_app d.l r
  rw [d.h] at this
  rw [pDig, pBind_eq this, digOf, dif_pos d.h]; rfl
theorem dec_dig : Dec wDig pDig := fun b d r h => by
  obtain ⟨l, r1, h1, h2⟩ := pBind_ok h
  obtain ⟨rfl, hl⟩ := pTake_ok h1
  simp only [pPure, Except.ok.injEq, Prod.mk.injEq, digOf, dif_pos hl] at h2
  obtain ⟨rfl, rfl⟩ := h2
  exact ⟨l, rfl, fun s hs => wFix_of hs⟩
theorem enc_many {α : Type} {W : α → WS → WS} {p : PR α} (h : Enc W p) : ∀ (l : List α) (s : WS), (l.foldl (fun s x => W x s) s).err = 0 → s.err = 0 ∧ ∃ b, (l.foldl (fun s x => W x s) s).bs = s.bs ++ b ∧ ∀ r, pMany p l.length (b ++ r) = .ok (l, r)
  | [], s, hs => ⟨hs, [], by simp, fun r => rfl⟩
  | x :: l, s, hs => by
    obtain ⟨h1, b2, e2, k2⟩ := enc_many h l (W x s) hs
    obtain ⟨h3, b1, e1, k1⟩ := h _ _ h1
    refine ⟨h3, b1 ++ b2, by rw [List.foldl_cons, e2, e1, List.append_assoc], fun r => ?_⟩
    rw [List.append_assoc, List.length_cons, pMany, pBind_eq (k1 _), pBind_eq (k2 _)]; rfl
theorem dec_many {α : Type} {W : α → WS → WS} {p : PR α} (h : Dec W p) : ∀ (n : Nat) (b : List UInt8) (l : List α) (r : List UInt8), pMany p n b = .ok (l, r) → l.length = n ∧ ∃ b', b = b' ++ r ∧ ∀ s, s.err = 0 → l.foldl (fun s x => W x s) s = ⟨0, s.bs ++ b'⟩
  | 0, b, l, r, hb => by
    simp only [pMany, pPure, Except.ok.injEq, Prod.mk.injEq] at hb
    obtain ⟨rfl, rfl⟩ := hb
    exact ⟨rfl, [], rfl, fun s hs => by rw [← hs]; simp⟩
  | n + 1, b, l, r, hb => by
    obtain ⟨x, r1, h1, h2⟩ := pBind_ok hb
    obtain ⟨l', r2, h3, h4⟩ := pBind_ok h2
    simp only [pPure, Except.ok.injEq, Prod.mk.injEq] at h4
    obtain ⟨rfl, rfl⟩ := h4
    obtain ⟨b1, rfl, k1⟩ := h _ _ _ h1
    obtain ⟨hl, b2, rfl, k2⟩ := dec_many h n _ _ _ h3
    exact ⟨by simp [hl], b1 ++ b2, by rw [List.append_assoc], fun s hs => by rw [List.foldl_cons, k1 s hs, k2 _ rfl, List.append_assoc]⟩
theorem enc_list {α : Type} {W : α → WS → WS} {p : PR α} (h : Enc W p) (most : Nat) : Enc (fun l s => wPut W l most s) (pList p most) := fun l s hs => by
  simp only [wPut] at hs ⊢
  split at hs
  · exact absurd hs (wFail_err (by decide) s)
  · rename_i hn
    rw [if_neg hn]
    obtain ⟨h1, b2, e2, k2⟩ := enc_many h l _ hs
    obtain ⟨h3, b1, e1, k1⟩ := enc_num (wd := 1) (by decide) _ _ h1
    refine ⟨h3, b1 ++ b2, by rw [e2, e1, List.append_assoc], fun r => ?_⟩
    rw [List.append_assoc, pList, pBind_eq (k1 _), if_neg (by omega), Int.toNat_natCast, k2]
theorem dec_list {α : Type} {W : α → WS → WS} {p : PR α} (h : Dec W p) (most : Nat) : Dec (fun l s => wPut W l most s) (pList p most) := fun b l r hb => by
  obtain ⟨n, r1, h1, h2⟩ := pBind_ok hb
  obtain ⟨m, rfl, hm, _⟩ := pNum_ok h1
  obtain ⟨b1, rfl, k1⟩ := dec_num _ _ _ h1
  split at h2
  · cases h2
  · rename_i hn
    rw [Int.toNat_natCast] at h2
    obtain ⟨hl, b2, rfl, k2⟩ := dec_many h _ _ _ _ h2
    refine ⟨b1 ++ b2, by rw [List.append_assoc], fun s hs => ?_⟩
    simp only [wPut]
    rw [if_neg (by omega), hl, show wNum (m : Int) 1 s = _ from k1 s hs, k2 _ rfl, List.append_assoc]
theorem enc_bytes {most : Nat} : Enc (fun b s => wBytes b most s) (pBytes most) := fun l s hs => by
  simp only [wBytes] at hs ⊢
  split at hs
  · exact absurd hs (wFail_err (by decide) s)
  · rename_i hn
    rw [if_neg hn]
    obtain ⟨h1, h2⟩ := wFix_ok hs
    obtain ⟨h3, b1, e1, k1⟩ := enc_num (wd := 2) (by decide) _ _ h1
    refine ⟨h3, b1 ++ l, by simp only [h2, e1, List.append_assoc], fun r => ?_⟩
    rw [List.append_assoc, pBytes, pBind_eq (k1 _), if_neg (by omega), Int.toNat_natCast, pTake_app]
theorem dec_bytes {most : Nat} : Dec (fun b s => wBytes b most s) (pBytes most) := fun b l r hb => by
  obtain ⟨n, r1, h1, h2⟩ := pBind_ok hb
  obtain ⟨m, rfl, hm, _⟩ := pNum_ok h1
  obtain ⟨b1, rfl, k1⟩ := dec_num _ _ _ h1
  split at h2
  · cases h2
  · rename_i hn
    rw [Int.toNat_natCast] at h2
    obtain ⟨rfl, hl⟩ := pTake_ok h2
    refine ⟨b1 ++ l, by rw [List.append_assoc], fun s hs => ?_⟩
    simp only [wBytes]
    rw [if_neg (by omega), hl, show wNum (m : Int) 2 s = _ from k1 s hs, wFix_of rfl, List.append_assoc]
theorem pPure_ok {α : Type} {x y : α} {b r : List UInt8} (h : pPure x b = .ok (y, r)) : x = y ∧ b = r := by
  simpa only [pPure, Except.ok.injEq, Prod.mk.injEq] using h
def EncAt {β : Type} (f : WS → WS) (p : PR β) (y : β) : Prop := ∀ s, (f s).err = 0 → s.err = 0 ∧ ∃ b, (f s).bs = s.bs ++ b ∧ ∀ r, p (b ++ r) = .ok (y, r)
theorem encAt_pure {β : Type} (y : β) : EncAt (fun s => s) (pPure y) y := fun s h => ⟨h, [], by simp, fun r => rfl⟩
theorem encAt_bind {α β : Type} {f g : WS → WS} {p : PR α} {q : α → PR β} {x : α} {y : β} (h : EncAt f p x) (k : EncAt g (q x) y) : EncAt (fun s => g (f s)) (pBind p q) y := fun s hs => by
  obtain ⟨h1, b2, e2, k2⟩ := k _ hs
  obtain ⟨h3, b1, e1, k1⟩ := h _ h1
  refine ⟨h3, b1 ++ b2, by rw [e2, e1, List.append_assoc], fun r => ?_⟩
  rw [List.append_assoc, pBind_eq (k1 _), k2]
def wAtP (x : Int × Int) (s : WS) : WS := wAt x.1 x.2 s
theorem enc_sig : Enc wSig pSig := fun x s hs => by
  simp only [wSig] at hs ⊢
  obtain ⟨h2, b2, e2, k2⟩ := enc_list enc_dig 5 x.path _ hs
  obtain ⟨h1, b1, e1, k1⟩ := enc_list enc_dig 68 x.chains _ h2
  obtain ⟨h0, b0, e0, k0⟩ := enc_num (wd := 1) (by decide) x.leaf _ h1
  simp only at e0 e1 e2
  refine ⟨h0, b0 ++ b1 ++ b2, ?_, fun r => ?_⟩
  · rw [e2, e1, e0]; simp only [List.append_assoc]
  · unfold pSig; simp only [List.append_assoc]; rw [pBind_eq (k0 _), pBind_eq (k1 _), pBind_eq (k2 _)]; rfl
theorem dec_sig : Dec wSig pSig := fun b x r h => by
  obtain ⟨v0, r0, h0, h⟩ := pBind_ok h
  obtain ⟨v1, r1, h1, h⟩ := pBind_ok h
  obtain ⟨v2, r2, h2, h⟩ := pBind_ok h
  obtain ⟨rfl, rfl⟩ := pPure_ok h
  obtain ⟨b0, rfl, k0⟩ := dec_num _ _ _ h0
  obtain ⟨b1, rfl, k1⟩ := dec_list dec_dig 68 _ _ _ h1
  obtain ⟨b2, rfl, k2⟩ := dec_list dec_dig 5 _ _ _ h2
  refine ⟨b0 ++ b1 ++ b2, by simp only [List.append_assoc], fun s hs => ?_⟩
  have g0 := k0 s hs
  have g1 := k1 (⟨0, s.bs ++ b0⟩ : WS) rfl
  have g2 := k2 (⟨0, s.bs ++ b0 ++ b1⟩ : WS) rfl
  simp only [wSig] at g0 g1 g2 ⊢
  rw [g0, g1, g2]
  simp only [List.append_assoc]
theorem enc_signed : Enc wSigned pSigned := fun x s hs => by
  simp only [wSigned] at hs ⊢
  obtain ⟨h1, b1, e1, k1⟩ := enc_sig x.sig _ hs
  obtain ⟨h0, b0, e0, k0⟩ := enc_num (wd := 1) (by decide) x.who _ h1
  simp only at e0 e1
  refine ⟨h0, b0 ++ b1, ?_, fun r => ?_⟩
  · rw [e1, e0]; simp only [List.append_assoc]
  · unfold pSigned; simp only [List.append_assoc]; rw [pBind_eq (k0 _), pBind_eq (k1 _)]; rfl
theorem dec_signed : Dec wSigned pSigned := fun b x r h => by
  obtain ⟨v0, r0, h0, h⟩ := pBind_ok h
  obtain ⟨v1, r1, h1, h⟩ := pBind_ok h
  obtain ⟨rfl, rfl⟩ := pPure_ok h
  obtain ⟨b0, rfl, k0⟩ := dec_num _ _ _ h0
  obtain ⟨b1, rfl, k1⟩ := dec_sig _ _ _ h1
  refine ⟨b0 ++ b1, by simp only [List.append_assoc], fun s hs => ?_⟩
  have g0 := k0 s hs
  have g1 := k1 (⟨0, s.bs ++ b0⟩ : WS) rfl
  simp only [wSigned] at g0 g1 ⊢
  rw [g0, g1]
  simp only [List.append_assoc]
theorem enc_at : Enc wAtP pAt := fun x s hs => by
  simp only [wAtP, wAt] at hs ⊢
  obtain ⟨h1, b1, e1, k1⟩ := enc_num (wd := 6) (by decide) x.2 _ hs
  obtain ⟨h0, b0, e0, k0⟩ := enc_num (wd := 4) (by decide) x.1 _ h1
  simp only at e0 e1
  refine ⟨h0, b0 ++ b1, ?_, fun r => ?_⟩
  · rw [e1, e0]; simp only [List.append_assoc]
  · unfold pAt; simp only [List.append_assoc]; rw [pBind_eq (k0 _), pBind_eq (k1 _)]; rfl
theorem dec_at : Dec wAtP pAt := fun b x r h => by
  obtain ⟨v0, r0, h0, h⟩ := pBind_ok h
  obtain ⟨v1, r1, h1, h⟩ := pBind_ok h
  obtain ⟨rfl, rfl⟩ := pPure_ok h
  obtain ⟨b0, rfl, k0⟩ := dec_num _ _ _ h0
  obtain ⟨b1, rfl, k1⟩ := dec_num _ _ _ h1
  refine ⟨b0 ++ b1, by simp only [List.append_assoc], fun s hs => ?_⟩
  have g0 := k0 s hs
  have g1 := k1 (⟨0, s.bs ++ b0⟩ : WS) rfl
  simp only [wAtP, wAt] at g0 g1 ⊢
  rw [g0, g1]
  simp only [List.append_assoc]
theorem enc_qc : Enc wQC pQC := fun x s hs => by
  simp only [wQC] at hs ⊢
  obtain ⟨h2, b2, e2, k2⟩ := enc_list enc_signed 7 x.votes _ hs
  obtain ⟨h1, b1, e1, k1⟩ := enc_dig x.block _ h2
  obtain ⟨h0, b0, e0, k0⟩ := enc_at (x.epoch, x.round) _ h1
  simp only [wAtP] at e0 e1 e2
  refine ⟨h0, b0 ++ b1 ++ b2, ?_, fun r => ?_⟩
  · rw [e2, e1, e0]; simp only [List.append_assoc]
  · unfold pQC; simp only [List.append_assoc]; rw [pBind_eq (k0 _), pBind_eq (k1 _), pBind_eq (k2 _)]; rfl
theorem dec_qc : Dec wQC pQC := fun b x r h => by
  obtain ⟨v0, r0, h0, h⟩ := pBind_ok h
  obtain ⟨v1, r1, h1, h⟩ := pBind_ok h
  obtain ⟨v2, r2, h2, h⟩ := pBind_ok h
  obtain ⟨rfl, rfl⟩ := pPure_ok h
  obtain ⟨b0, rfl, k0⟩ := dec_at _ _ _ h0
  obtain ⟨b1, rfl, k1⟩ := dec_dig _ _ _ h1
  obtain ⟨b2, rfl, k2⟩ := dec_list dec_signed 7 _ _ _ h2
  refine ⟨b0 ++ b1 ++ b2, by simp only [List.append_assoc], fun s hs => ?_⟩
  have g0 := k0 s hs
  have g1 := k1 (⟨0, s.bs ++ b0⟩ : WS) rfl
  have g2 := k2 (⟨0, s.bs ++ b0 ++ b1⟩ : WS) rfl
  simp only [wQC, wAtP] at g0 g1 g2 ⊢
  rw [g0, g1, g2]
  simp only [List.append_assoc]
theorem enc_vdr : Enc wVdr pVdr := fun x s hs => by
  simp only [wVdr] at hs ⊢
  obtain ⟨h1, b1, e1, k1⟩ := enc_num (wd := 6) (by decide) x.power _ hs
  obtain ⟨h0, b0, e0, k0⟩ := enc_dig x.key _ h1
  simp only at e0 e1
  refine ⟨h0, b0 ++ b1, ?_, fun r => ?_⟩
  · rw [e1, e0]; simp only [List.append_assoc]
  · unfold pVdr; simp only [List.append_assoc]; rw [pBind_eq (k0 _), pBind_eq (k1 _)]; rfl
theorem dec_vdr : Dec wVdr pVdr := fun b x r h => by
  obtain ⟨v0, r0, h0, h⟩ := pBind_ok h
  obtain ⟨v1, r1, h1, h⟩ := pBind_ok h
  obtain ⟨rfl, rfl⟩ := pPure_ok h
  obtain ⟨b0, rfl, k0⟩ := dec_dig _ _ _ h0
  obtain ⟨b1, rfl, k1⟩ := dec_num _ _ _ h1
  refine ⟨b0 ++ b1, by simp only [List.append_assoc], fun s hs => ?_⟩
  have g0 := k0 s hs
  have g1 := k1 (⟨0, s.bs ++ b0⟩ : WS) rfl
  simp only [wVdr] at g0 g1 ⊢
  rw [g0, g1]
  simp only [List.append_assoc]
theorem enc_block : Enc wBlock pBlock := fun x s hs => by
  simp only [wBlock] at hs ⊢
  obtain ⟨h4, b4, e4, k4⟩ := enc_list enc_vdr 7 x.next _ hs
  obtain ⟨h3, b3, e3, k3⟩ := enc_list (enc_bytes (most := 16)) 4 x.payload _ h4
  obtain ⟨h2, b2, e2, k2⟩ := enc_qc x.justify _ h3
  obtain ⟨h1, b1, e1, k1⟩ := enc_dig x.parent _ h2
  obtain ⟨h0, b0, e0, k0⟩ := enc_at (x.epoch, x.round) _ h1
  simp only [wAtP] at e0 e1 e2 e3 e4
  refine ⟨h0, b0 ++ b1 ++ b2 ++ b3 ++ b4, ?_, fun r => ?_⟩
  · rw [e4, e3, e2, e1, e0]; simp only [List.append_assoc]
  · unfold pBlock; simp only [List.append_assoc]; rw [pBind_eq (k0 _), pBind_eq (k1 _), pBind_eq (k2 _), pBind_eq (k3 _), pBind_eq (k4 _)]; rfl
theorem dec_block : Dec wBlock pBlock := fun b x r h => by
  obtain ⟨v0, r0, h0, h⟩ := pBind_ok h
  obtain ⟨v1, r1, h1, h⟩ := pBind_ok h
  obtain ⟨v2, r2, h2, h⟩ := pBind_ok h
  obtain ⟨v3, r3, h3, h⟩ := pBind_ok h
  obtain ⟨v4, r4, h4, h⟩ := pBind_ok h
  obtain ⟨rfl, rfl⟩ := pPure_ok h
  obtain ⟨b0, rfl, k0⟩ := dec_at _ _ _ h0
  obtain ⟨b1, rfl, k1⟩ := dec_dig _ _ _ h1
  obtain ⟨b2, rfl, k2⟩ := dec_qc _ _ _ h2
  obtain ⟨b3, rfl, k3⟩ := dec_list (dec_bytes (most := 16)) 4 _ _ _ h3
  obtain ⟨b4, rfl, k4⟩ := dec_list dec_vdr 7 _ _ _ h4
  refine ⟨b0 ++ b1 ++ b2 ++ b3 ++ b4, by simp only [List.append_assoc], fun s hs => ?_⟩
  have g0 := k0 s hs
  have g1 := k1 (⟨0, s.bs ++ b0⟩ : WS) rfl
  have g2 := k2 (⟨0, s.bs ++ b0 ++ b1⟩ : WS) rfl
  have g3 := k3 (⟨0, s.bs ++ b0 ++ b1 ++ b2⟩ : WS) rfl
  have g4 := k4 (⟨0, s.bs ++ b0 ++ b1 ++ b2 ++ b3⟩ : WS) rfl
  simp only [wBlock, wAtP] at g0 g1 g2 g3 g4 ⊢
  rw [g0, g1, g2, g3, g4]
  simp only [List.append_assoc]
theorem pAll_enc {β : Type} {f : WS → WS} {p : PR β} {y : β} (h : EncAt f p y) (he : (f ⟨0, []⟩).err = 0) : pAll p (f ⟨0, []⟩).bs = .ok y := by
  obtain ⟨_, b, e, k⟩ := h _ he
  have := k []
  rw [List.append_nil] at this
  have e' : (f ⟨0, []⟩).bs = b := e.trans (by simp)
  rw [e', pAll, this]; rfl
theorem pAll_ok {β : Type} {p : PR β} {b : List UInt8} {y : β} (h : pAll p b = .ok y) : p b = .ok (y, []) := by
  unfold pAll at h
  cases hp : p b with
  | error e => rw [hp] at h; cases h
  | ok x =>
    rw [hp] at h
    obtain ⟨a, r⟩ := x
    by_cases hr : r = []
    · simp only [hr, if_true, Except.ok.injEq] at h; rw [h, hr]
    · simp only [hr, if_false] at h; cases h
end
section
abbrev RSt := Except Nat (List UInt8)
def rstep {α : Type} (p : PR α) : RSt → RSt
  | .error e => .error e
  | .ok b => match p b with
    | .error e => .error e
    | .ok x => .ok x.2
def Ag {α : Type} (p : PR α) (σ : RSt) (x : α) : Prop := ∀ b y r, σ = .ok b → p b = .ok (y, r) → x = y
def errOf : RSt → Nat
  | .ok _ => 0
  | .error e => e
def failE (k : Nat) : RSt → RSt
  | .ok _ => .error k
  | .error e => .error e
def WS.st (s : WS) : RSt := if s.err = 0 then .ok s.bs else .error s.err
theorem WS.errOf_st (s : WS) : errOf s.st = s.err := by
  unfold WS.st; split
  · rename_i h; exact h.symm
  · rfl
theorem Ag.bind {α β : Type} {p : PR α} {f : α → PR β} {σ : RSt} {x : α} {y : β} (h : Ag p σ x) (k : Ag (f x) (rstep p σ) y) : Ag (pBind p f) σ y := by
  rintro b y' r rfl hb
  obtain ⟨x', r1, h1, h2⟩ := pBind_ok hb
  obtain rfl := h b x' r1 rfl h1
  refine k r1 y' r ?_ h2
  simp only [rstep, h1]
theorem rstep_bind {α β : Type} {p : PR α} {f : α → PR β} {σ : RSt} {x : α} (h : Ag p σ x) : rstep (pBind p f) σ = rstep (f x) (rstep p σ) := by
  cases σ with
  | error e => rfl
  | ok b =>
    cases hp : p b with
    | error e => simp only [rstep, pBind_err hp, hp]
    | ok x' =>
      obtain ⟨x', r⟩ := x'
      obtain rfl := h b x' r rfl hp
      simp only [rstep, pBind_eq hp, hp]
theorem Ag.pure {α : Type} {σ : RSt} (x : α) : Ag (pPure x) σ x := by
  rintro b y r rfl h
  exact (pPure_ok h).1
theorem rstep_pure {α : Type} {σ : RSt} (x : α) : rstep (pPure x) σ = σ := by cases σ <;> rfl
theorem rstep_err {α : Type} {σ : RSt} (k : Nat) : rstep (pErr (α := α) k) σ = failE k σ := by cases σ <;> rfl
theorem Ag.err {α : Type} {σ : RSt} {k : Nat} (x : α) : Ag (pErr k) σ x := by rintro b y r _ h; cases h
theorem Ag.error {α : Type} {p : PR α} {e : Nat} (x : α) : Ag p (.error e) x := by rintro b y r h _; cases h
theorem Ag.of {α : Type} {p : PR α} {b r : List UInt8} {x : α} (h : p b = .ok (x, r)) : Ag p (.ok b) x := by
  rintro b' y r' he h'
  cases he; rw [h] at h'; cases h'; rfl
theorem Ag.ne {α : Type} {p : PR α} {b : List UInt8} {e : Nat} (h : p b = .error e) (x : α) : Ag p (.ok b) x := by
  rintro b' y r' he h'
  cases he; rw [h] at h'; cases h'
theorem errOf_rstep {α : Type} (p : PR α) {σ : RSt} (h : errOf σ ≠ 0) : rstep p σ = σ := by
  cases σ with
  | error e => rfl
  | ok b => exact absurd rfl h
theorem Ag.bad {α : Type} {p : PR α} {σ : RSt} (h : errOf σ ≠ 0) (x : α) : Ag p σ x := by
  cases σ with
  | error e => exact Ag.error x
  | ok b => exact absurd rfl h
theorem failE_bad {k : Nat} {σ : RSt} (h : errOf σ ≠ 0) : failE k σ = σ := by
  cases σ with
  | error e => rfl
  | ok b => exact absurd rfl h
structure Many {α : Type} (one : PR α) (n : Nat) (σ0 : RSt) (m : Nat) (σ : RSt) (out : List α) : Prop where
  st : rstep (pMany one n) σ0 = rstep (pMany one m) σ
  ag : ∀ l, Ag (pMany one m) σ l → Ag (pMany one n) σ0 (out ++ l)
theorem Many.start {α : Type} {one : PR α} {n : Nat} {σ0 : RSt} : Many one n σ0 n σ0 [] := ⟨rfl, fun l h => h⟩
theorem Many.next {α : Type} {one : PR α} {n m : Nat} {σ0 σ : RSt} {out : List α} {x : α} (h : Many one n σ0 (m + 1) σ out) (hx : Ag one σ x) : Many one n σ0 m (rstep one σ) (out ++ [x]) := by
  refine ⟨?_, fun l hl => ?_⟩
  · rw [h.st, pMany, rstep_bind hx]
    cases hσ : rstep one σ with
    | error e => rfl
    | ok b =>
      cases hm : pMany one m b with
      | error e => simp only [rstep, pBind_err hm, hm]
      | ok y => simp only [rstep, pBind_eq (x := y.1) (r := y.2) hm, hm, pPure]
  · have := h.ag (x :: l) (by rw [pMany]; exact Ag.bind hx (Ag.bind hl (Ag.pure _)))
    simpa using this
theorem Many.done {α : Type} {one : PR α} {n : Nat} {σ0 σ : RSt} {out : List α} (h : Many one n σ0 0 σ out) : rstep (pMany one n) σ0 = σ ∧ Ag (pMany one n) σ0 out := by
  refine ⟨by rw [h.st]; exact rstep_pure _, ?_⟩
  have := h.ag [] (Ag.pure _)
  simpa using this
theorem Many.bad {α : Type} {one : PR α} {n m : Nat} {σ0 σ : RSt} {out : List α} (h : Many one n σ0 m σ out) (he : errOf σ ≠ 0) : rstep (pMany one n) σ0 = σ ∧ ∀ l, Ag (pMany one n) σ0 l := by
  have h1 : rstep (pMany one n) σ0 = σ := by rw [h.st]; exact errOf_rstep _ he
  refine ⟨h1, fun l => ?_⟩
  rintro b y r rfl hb
  exfalso
  apply he
  rw [← h1]
  simp only [rstep, hb]; rfl
theorem sel_fin {β : Type} {q p' : PR β} {most x : Nat} {σ1 σ2 : RSt} (hf : p' = if (most : Int) < (x : Int) then pErr 1 else q) (hc : (if errOf σ1 = 0 ∧ most < x then failE 1 σ1 else σ1) = σ2) : rstep p' σ1 = rstep q σ2 ∧ ∀ l, Ag q σ2 l → Ag p' σ1 l := by
  by_cases hm : most < x
  · rw [if_pos (by omega)] at hf
    subst hf
    refine ⟨?_, fun l _ => Ag.err l⟩
    rw [rstep_err]
    by_cases he : errOf σ1 = 0
    · rw [if_pos ⟨he, hm⟩] at hc
      subst hc
      cases σ1 with
      | error e => rfl
      | ok b => rfl
    · rw [if_neg (fun h => he h.1)] at hc
      subst hc
      rw [failE_bad he, errOf_rstep _ he]
  · rw [if_neg (by omega)] at hf
    rw [if_neg (fun h => hm h.2)] at hc
    subst hf; subst hc
    exact ⟨rfl, fun l h => h⟩
theorem bytes_fin {most x : Nat} {σ σ2 : RSt} {l : List UInt8} (hx : Ag (pNum 2) σ (x : Int)) (hc : (if errOf (rstep (pNum 2) σ) = 0 ∧ most < x then failE 1 (rstep (pNum 2) σ) else rstep (pNum 2) σ) = σ2) (ha : Ag (pTake x) σ2 l) :
    rstep (pBytes most) σ = rstep (pTake x) σ2 ∧ Ag (pBytes most) σ l := by
  have h := sel_fin (q := pTake x) (p' := if (most : Int) < (x : Int) then pErr 1 else pTake (x : Int).toNat) rfl hc
  exact ⟨by rw [pBytes, rstep_bind hx, h.1], hx.bind (h.2 l ha)⟩
theorem list_fin {α : Type} {one : PR α} {most x : Nat} {σ σ2 σ3 : RSt} {l : List α} (hx : Ag (pNum 1) σ (x : Int)) (hc : (if errOf (rstep (pNum 1) σ) = 0 ∧ most < x then failE 1 (rstep (pNum 1) σ) else rstep (pNum 1) σ) = σ2) (ha : rstep (pMany one x) σ2 = σ3 ∧ Ag (pMany one x) σ2 l) :
    rstep (pList one most) σ = σ3 ∧ Ag (pList one most) σ l := by
  have h := sel_fin (q := pMany one x) (p' := if (most : Int) < (x : Int) then pErr 1 else pMany one (x : Int).toNat) rfl hc
  exact ⟨by rw [pList, rstep_bind hx, h.1, ha.1], hx.bind (h.2 l ha.2)⟩
end
section
class RdK {α : Type} (rd : World → (Nat → Prop) → List Value → α → Prop) : Prop where
  mv : ∀ {w w' : World} {A A' : Nat → Prop} {cs : List Value} {x : α}, rd w A cs x → Still w A w' A' → rd w' A' cs x
instance : RdK (fun _ _ => RdDig) := ⟨fun h _ => h⟩
instance : RdK (fun _ _ => RdVdr) := ⟨fun h _ => h⟩
instance : RdK RdBytes := ⟨fun h k => h.mv k⟩
instance : RdK RdSig := ⟨fun h k => h.mv k⟩
instance : RdK RdSigned := ⟨fun h k => h.mv k⟩
instance : RdK RdLate := ⟨fun h k => h.mv k⟩
instance : RdK RdQC := ⟨fun h k => h.mv k⟩
instance : RdK RdTC := ⟨fun h k => h.mv k⟩
instance : RdK RdBlock := ⟨fun h k => h.mv k⟩
instance : RdK RdVote := ⟨fun h k => h.mv k⟩
instance : RdK RdTmo := ⟨fun h k => h.mv k⟩
instance : RdK RdProp := ⟨fun h k => h.mv k⟩
instance : RdK RdChg := ⟨fun h k => h.mv k⟩
instance : RdK RdMsg := ⟨fun h k => h.mv k⟩
theorem still_of {w w' : World} {F : Nat → Prop} (hk : ∀ k, k < w.heap.size → F k → w'.heap[k]? = w.heap[k]?) : Still w F w' F := fun k h hF => ⟨hk k h hF, hF⟩
theorem still_sub {w : World} {F G : Nat → Prop} (h : ∀ k, F k → G k) : Still w F w G := fun k _ hF => ⟨rfl, h k hF⟩
section
variable {α : Type} (rd : World → (Nat → Prop) → List Value → α → Prop) [RdK rd]
def VlR (cs : List Value) (x : α) : Res := rdR (fun w F => rd w F cs x) (fun h hk => RdK.mv h (still_of hk))
def LsR (size : Nat) (a : Option Addr) (n : Nat) (l : List α) : Res := rdR (fun w F => RdList (rd w F) w F size a n l) (fun h hk => RdList.mv h (still_of hk) fun _ _ hc => RdK.mv hc (still_of hk))
def ElR (css : List (List Value)) (l : List α) : Res := rdR (fun w F => css.length = l.length ∧ ∀ (i : Nat) (c : List Value) (x : α), css[i]? = some c → l[i]? = some x → rd w F c x) (fun h hk => ⟨h.1, fun i c x h1 h2 => RdK.mv (h.2 i c x h1 h2) (still_of hk)⟩)
end
theorem stars_two {r s : Res} {w : World} {F : Nat → Prop} (h : stars [r, s] w F) : ∃ F1 F2, r.on w F1 ∧ s.on w F2 ∧ ∀ k, F k ↔ F1 k ∨ F2 k := by
  obtain ⟨F1, F2, h1, h2, hF, _⟩ := h
  exact ⟨F1, F2, h1, stars_one' h2, hF⟩
theorem stars_swap {r s : Res} {L : List Res} {w : World} {F : Nat → Prop} (h : stars (r :: s :: L) w F) : stars (s :: r :: L) w F := Pick.stars (.there .here) h
theorem stars_cons {r : Res} {L : List Res} {w : World} {F : Nat → Prop} (h : stars (r :: L) w F) : ∃ F1 F2, r.on w F1 ∧ stars L w F2 ∧ ∀ k, F k ↔ F1 k ∨ F2 k := by
  obtain ⟨F1, F2, h1, h2, hF, _⟩ := h; exact ⟨F1, F2, h1, h2, hF⟩
theorem rdR_mk {φ : World → (Nat → Prop) → Prop} {hl} {w : World} {F : Nat → Prop} {L : List Res} (h : φ w F) (hs : stars L w F) : stars [rdR φ hl] w F := stars_one ⟨h, stars_ok hs⟩
section
variable {α : Type} {rd : World → (Nat → Prop) → List Value → α → Prop} [RdK rd]
theorem el_nil {L : List Res} {w : World} {F : Nat → Prop} (h : stars L w F) : stars (ElR rd [] [] :: L) w F :=
  ⟨fun _ => False, F, ⟨⟨rfl, fun i c x h1 _ => by simp at h1⟩, fun _ h => h.elim⟩, h, fun k => by simp, fun _ h => h.elim⟩
theorem el_snoc {css : List (List Value)} {l : List α} {c : List Value} {x : α} {w : World} {F : Nat → Prop} (h : stars [ElR rd css l, VlR rd c x] w F) : stars [ElR rd (css ++ [c]) (l ++ [x])] w F := by
  obtain ⟨F1, F2, h1, h2, hF⟩ := stars_two h
  obtain ⟨⟨he, h1⟩, _⟩ := h1
  refine rdR_mk ⟨by simp [he], fun i c' x' hc hx => ?_⟩ h
  by_cases hi : i < css.length
  · rw [List.getElem?_append_left hi] at hc
    rw [List.getElem?_append_left (by omega)] at hx
    exact RdK.mv (h1 i c' x' hc hx) (still_sub fun k hk => (hF k).2 (.inl hk))
  · have hi' : i = css.length := by
      have := (List.getElem?_eq_some_iff.1 hc).1; simp at this; omega
    subst hi'
    rw [List.getElem?_append_right (by omega)] at hc hx
    simp only [Nat.sub_self, List.getElem?_cons_zero, Option.some.injEq] at hc
    simp only [he, Nat.sub_self, List.getElem?_cons_zero, Option.some.injEq] at hx
    subst hc; subst hx
    exact RdK.mv h2.1 (still_sub fun k hk => (hF k).2 (.inr hk))
theorem ls_of {e size n cap : Nat} {a : Option Addr} {css : List (List Value)} {l : List α} {w : World} {F : Nat → Prop} (hsz : ∀ c ∈ css, c.length = size) (h : stars [rowR e size a n cap css.flatten, ElR rd css l] w F) : stars [LsR rd size a n l] w F := by
  obtain ⟨F1, F2, h1, h2, hF⟩ := stars_two h
  obtain ⟨⟨he, h2⟩, _⟩ := h2
  exact rdR_mk ⟨css, (rowR.rd h1).mv (still_sub fun k hk => (hF k).2 (.inl hk)), hsz, he, fun i c x hc hx => RdK.mv (h2 i c x hc hx) (still_sub fun k hk => (hF k).2 (.inr hk))⟩ h
theorem ls_nil {size : Nat} {L : List Res} {w : World} {F : Nat → Prop} (h : stars L w F) : stars (LsR rd size none 0 [] :: L) w F :=
  ⟨fun _ => False, F, ⟨RdList.nil, fun _ h => h.elim⟩, h, fun k => by simp, fun _ h => h.elim⟩
end
theorem St.pureI {w0 w : World} {F0 : Nat → Prop} {L : List Res} {p : Prop} (hp : p) (h : St w0 F0 L w) : St w0 F0 (pureR p :: L) w := by
  obtain ⟨F, hF, hst⟩ := h; exact ⟨F, stars_pure_mk hp hF, hst⟩
theorem St.mapL {w0 w : World} {F0 : Nat → Prop} {L L' : List Res} (h : St w0 F0 L w) (k : ∀ F, stars L w F → stars L' w F) : St w0 F0 L' w := by
  obtain ⟨F, hF, hst⟩ := h; exact ⟨F, k F hF, hst⟩
theorem calls_frame {P : Program} {f : FuncId} {args : Array Value} {w : World} {F F1 F2 : Nat → Prop} {α : Type} {V : α → Value} {N : α → List Res} {L : List Res} (hc : Calls P f args w (Post w F1 V N)) (h2 : stars L w F2) (hF : ∀ k, F k ↔ F1 k ∨ F2 k) (hd : ∀ k, F1 k → ¬ F2 k) :
    Calls P f args w (Post w F V (fun x => N x ++ L)) := Calls.mono hc fun e w' ⟨x, he, hs⟩ => ⟨x, he, St.call (Stp.refl w F) h2 hF hd hs⟩
def BtR (a : Option Addr) (bs : List UInt8) (a2 : Option Addr) (l : List UInt8) : Res :=
  rdR (fun w F => RdRow w F 1 a bs.length (bs.map B8) ∧ RdRow w F 1 a2 l.length (l.map B8)) (fun h hk => ⟨h.1.mv (still_of hk), h.2.mv (still_of hk)⟩)
def RdrB (TE : TypeId) (ea : Nat → Addr) (g : Nat) (σ : RSt) (a2 : Option Addr) (l : List UInt8) : Res := exR fun p : WS × Option Addr × Nat => allR [pureR (p.1.st = σ ∧ p.1.bs.length ≤ p.2.2), blk g 193 [eV TE ea p.1.err, .slice p.2.1 p.1.bs.length p.2.2], BtR p.2.1 p.1.bs a2 l]
abbrev RdrR (TE : TypeId) (ea : Nat → Addr) (g : Nat) (σ : RSt) : Res := RdrB TE ea g σ none []
section
variable {TE : TypeId} {ea : Nat → Addr} {g : Nat} {σ : RSt} {a2 : Option Addr} {l : List UInt8} {L : List Res} {w : World} {F : Nat → Prop}
theorem rr_open (h : stars (RdrB TE ea g σ a2 l :: L) w F) : ∃ s a c, WS.st s = σ ∧ s.bs.length ≤ c ∧ stars (blk g 193 [eV TE ea s.err, .slice a s.bs.length c] :: BtR a s.bs a2 l :: L) w F := by
  obtain ⟨⟨s, a, c⟩, h⟩ := stars_ex h
  obtain ⟨⟨h1, h2⟩, h3⟩ := stars_pure (stars_all h)
  exact ⟨s, a, c, h1, h2, h3⟩
theorem rr_shut {s : WS} {k m c : Nat} {a : Option Addr} (h : stars (blk g 193 [eV TE ea k, .slice a m c] :: BtR a s.bs a2 l :: L) w F) (hk : k = s.err) (hm : m = s.bs.length) (hs : s.st = σ) (hc : m ≤ c) : stars (RdrB TE ea g σ a2 l :: L) w F := by
  subst hk; subst hm
  exact stars_ex_mk (s, a, c) (stars_all_mk (stars_pure_mk ⟨hs, hc⟩ h))
theorem St.rdr {w0 : World} {F0 : Nat → Prop} {s : WS} {k m c : Nat} {a : Option Addr} (h : St w0 F0 (blk g 193 [eV TE ea k, .slice a m c] :: BtR a s.bs a2 l :: L) w) (hk : k = s.err) (hm : m = s.bs.length) (hs : s.st = σ) (hc : m ≤ c) : St w0 F0 (RdrB TE ea g σ a2 l :: L) w :=
  h.mapL fun F hF => rr_shut hF hk hm hs hc
theorem bt_weak {a : Option Addr} {bs : List UInt8} (h : stars (BtR a bs a2 l :: L) w F) : stars (BtR a bs none [] :: L) w F := by
  obtain ⟨F1, F2, ⟨h1, hl⟩, h2, hF, hd⟩ := h
  exact ⟨F1, F2, ⟨⟨h1.1, RdRow.nil⟩, hl⟩, h2, hF, hd⟩
theorem rr_weak (h : stars (RdrB TE ea g σ a2 l :: L) w F) : stars (RdrR TE ea g σ :: L) w F := by
  obtain ⟨s, a, c, h1, h2, F1, F3, g1, g2, hF, hd⟩ := rr_open h
  exact rr_shut ⟨F1, F3, g1, bt_weak g2, hF, hd⟩ rfl rfl h1 h2
theorem St.rrw {w0 : World} {F0 : Nat → Prop} (h : St w0 F0 (RdrB TE ea g σ a2 l :: L) w) : St w0 F0 (RdrR TE ea g σ :: L) w := h.mapL fun F hF => rr_weak hF
theorem bt_cut {a : Option Addr} {bs : List UInt8} {n c : Nat} (h : stars (BtR a bs a2 l :: L) w F) (hn : n ≤ bs.length) (hc : bs.length ≤ c) :
    stars (BtR (if c = n then a else a.map (·.add (n * 1))) (bs.drop n) (if c = 0 then a else a.map (·.add (0 * 1))) (bs.take n) :: L) w F := by
  obtain ⟨F1, F2, ⟨h1, hl⟩, h2, hF, hd⟩ := h
  have e1 := h1.1.cut8 (l := n) (h := bs.length) hn (Nat.le_refl _) hc
  have e2 := h1.1.cut8 (l := 0) (h := n) (Nat.zero_le _) hn hc
  rw [show (bs.drop n).take (bs.length - n) = bs.drop n from List.take_of_length_le (by simp)] at e1
  rw [List.drop_zero, Nat.sub_zero] at e2
  refine ⟨F1, F2, ⟨⟨?_, ?_⟩, hl⟩, h2, hF, hd⟩
  · rw [List.length_drop]; exact e1
  · rw [List.length_take, Nat.min_eq_left hn]; exact e2
theorem rdB_row {L' : List Res} {w : World} {F1 F2 : Nat → Prop} (h2 : stars L w F2) (hd : ∀ k, F1 k → ¬ F2 k) (hp : Pick L (RdrB TE ea g σ a2 l) L') : RdRow w (fun k => ¬ F1 k) 1 a2 l.length (l.map B8) := by
  obtain ⟨s, a, c, _, _, G1, G2, _, ⟨G3, G4, ⟨⟨_, hr⟩, _⟩, _, hG2, _⟩, hG, _⟩ := rr_open (hp.stars h2)
  exact hr.mv fun k _ hk => ⟨rfl, fun h => hd k h ((hG k).2 (.inr ((hG2 k).2 (.inl hk))))⟩
theorem St.rdB {w0 : World} {F0 : Nat → Prop} {L' : List Res} (h : St w0 F0 L w) (hp : Pick L (RdrB TE ea g σ a2 l) L') : RdRow w (fun _ => True) 1 a2 l.length (l.map B8) := by
  obtain ⟨F, hF, _⟩ := h
  exact (rdB_row (F1 := fun _ => False) hF (fun _ h => h.elim) hp).mv fun _ _ _ => ⟨rfl, trivial⟩
end
section
variable {P : Program} {w0 : World} {F0 : Nat → Prop} {L : List Res} {n : Fm} {env : Env} {d : Option Tmp} {ty : TypeId} {pos : String} {af : Array Edge} {gd : Option (Nat × Bool)}
theorem r_lde {x : Operand} {T : TypeId} {TE : TypeId} {ea : Nat → Addr} {g : Nat} {σ : RSt} {a2 : Option Addr} {l : List UInt8} {L' : List Res} [RO P T] (hx : ev n env x = .pointer (some ⟨g, 0, none⟩) := by exact rfl) (hp : Pick L (RdrB TE ea g σ a2 l) L' := by repeat (first | exact Pick.here | apply Pick.there)) :
    Runs P w0 F0 L n env ⟨d, .load T x, ty, pos, af, gd⟩ (eV TE ea (errOf σ)) := r_load hx fun w ⟨F, hF, _⟩ => run_loadVar_one RO.h (by
  obtain ⟨s, a, c, hs, _, G1, G2, hb, _⟩ := rr_open (hp.stars hF)
  rw [cell_blk hb, ← hs, WS.errOf_st]; rfl)
theorem r_ldb {x : Operand} {T : TypeId} {TE : TypeId} {ea : Nat → Addr} {g : Nat} {σ : RSt} {ga o i k : Nat} {l : List UInt8} {L' : List Res} [RO P T] (hx : ev n env x = .pointer (some ⟨ga, o + i, none⟩) := by exact rfl) (hp : Pick L (RdrB TE ea g σ (some ⟨ga, o, none⟩) l) L' := by repeat (first | exact Pick.here | apply Pick.there)) (hi : i = k) (hk : k < l.length) :
    Runs P w0 F0 L n env ⟨d, .load T x, ty, pos, af, gd⟩ (B8 (l.getD k 0)) := r_load hx fun w hw => run_loadVar_one RO.h (by
  obtain ⟨g', o', e, _, _, hr⟩ := (hw.rdB hp).2.2 (by omega)
  cases e
  subst hi
  refine hr i _ ?_
  rw [List.getElem?_map, List.getElem?_eq_getElem hk]; simp [List.getD, List.getElem?_eq_getElem hk])
end
theorem valN_snoc (l : List UInt8) (b : UInt8) : valN (l ++ [b]) = valN l * 256 + b.toNat := by simp [valN, List.foldl_append]
theorem or_byte {m : Nat} {b : UInt8} (h : m * 256 + b.toNat < 9223372036854775808) : bitop .or .i64 ((m * 256 : Nat) : Int) (b.toNat : Int) = ((m * 256 + b.toNat : Nat) : Int) := by
  have hb := b.toNat_lt
  have e : m * 256 ||| b.toNat = m * 256 + b.toNat := by
    have := Nat.shiftLeft_add_eq_or_of_lt (i := 8) (b := b.toNat) (by omega) m
    rw [Nat.shiftLeft_eq] at this
    exact this.symm
  have h1 : (BitVec.ofInt IntKind.i64.bits ((m * 256 : Nat) : Int) ||| BitVec.ofInt IntKind.i64.bits ((b.toNat : Nat) : Int)).toNat = m * 256 + b.toNat := by
    rw [BitVec.ofInt_natCast, BitVec.ofInt_natCast, BitVec.toNat_or, BitVec.toNat_ofNat, BitVec.toNat_ofNat]
    simp only [IntKind.bits]
    have h64 : (2 : Nat) ^ 64 = 18446744073709551616 := by decide
    rw [h64, Nat.mod_eq_of_lt (show m * 256 < 18446744073709551616 from Nat.lt_of_le_of_lt (Nat.le_add_right _ _) (Nat.lt_trans h (by decide))), Nat.mod_eq_of_lt (show b.toNat < 18446744073709551616 from Nat.lt_trans hb (by decide)), e]
  show IntKind.i64.wrap ((BitVec.ofInt IntKind.i64.bits ((m * 256 : Nat) : Int) ||| BitVec.ofInt IntKind.i64.bits ((b.toNat : Nat) : Int)).toNat : Int) = _
  rw [h1, wrap_i64 (by omega) (by omega)]
theorem rstep_num {wd : Nat} {σ : RSt} {l : List UInt8} (h : Ag (pTake wd) σ l) : rstep (pNum wd) σ = rstep (pTake wd) σ := by rw [pNum, rstep_bind h, rstep_pure]
theorem ag_num {wd : Nat} {σ : RSt} {l : List UInt8} (h : Ag (pTake wd) σ l) : Ag (pNum wd) σ (valN l : Int) := h.bind (Ag.pure _)
attribute [local irreducible] Gl Gc Gx Gs Runs Wt
theorem newReader_ok {w : World} {F : Nat → Prop} {TE : Nat} {ea : Nat → Addr} {a : Option Addr} {n c : Nat} {b : List UInt8} (h : stars [] w F) (hx : RdRow w (fun k => ¬ F k) 1 a n (b.map B8)) (hb : n ≤ 1099511627776) :
    Calls Tryz.prog 65 #[.slice a n c] w (Post w F (fun g : Nat => .pointer (some ⟨g, 0, none⟩)) (fun g => [RdrR TE ea g (.ok b)])) := by
 have hnb : n = b.length := by have := hx.1; simp at this; omega
 refine g_enter (env := [(0, .slice a n c)]) Tryz.func65 rfl h Tryz.ntmps65 rfl rfl ?_; refine gsr (zxa ?_); refine zxs ?_; refine zxm ?_; refine zc ?_ (c := fun w1 F1 F2 h1 h2 hd hst => cloneBytes_ok h1 (hx.mv hst.still) (one_B8 _) hb)
 rintro ⟨a4, c4⟩
 refine gp (r_build (cs := [.nilIface, .slice a4 n c4]) Ty.zc_193 Ty.pl_193 rfl) ?_; refine zbN fun b6 => ?_; refine zxa ?_; refine gnt (gc_ret (gx_ret1 rfl (by conv => lhs; whnf) ?_)); intro w' hw; have hle := (hw.rowLe (e := 5) (size := 1) (a := a4) (m := n) (c := c4) (xs := b.map B8) (by repeat (first | exact Pick.here | apply Pick.there))).1
 refine ⟨b6, rfl, St.rdr (s := ⟨0, b⟩) (k := 0) (m := n) (c := c4) (a := a4) ?_ rfl hnb rfl hle⟩
 rw [eV_zero]; refine (hw.sel (M := [blk b6 _ _, rowR 5 1 a4 n c4 _]) (by repeat (first | exact Sel.nil | (apply Sel.cons; · (repeat (first | exact Pick.here | apply Pick.there)))))).mapL fun F' hF' => ?_; obtain ⟨G1, G2, h1, h2, hF, hd⟩ := hF'; refine ⟨G1, G2, h1, ?_, hF, hd⟩
 obtain ⟨G3, G4, g3, g4, hG, _⟩ := h2; have hr := rowR.rd g3
 rw [hnb] at hr; exact rdR_mk (L := [rowR 5 1 a4 n c4 (b.map B8)]) ⟨hr.mv (still_sub fun k hk => (hG k).2 (.inl hk)), RdRow.nil⟩ ⟨G3, G4, g3, g4, hG, by assumption⟩
theorem failR_ok {w : World} {F : Nat → Prop} {TE : Nat} {ea : Nat → Addr} {g : Nat} {σ : RSt} {k : Nat} (hk : k ≠ 0) (h : stars [RdrR TE ea g σ] w F) : Calls Tryz.prog 98 #[.pointer (some ⟨g, 0, none⟩), eV TE ea k] w (Post w F (fun _ : Unit => .tuple #[]) (fun _ => [RdrR TE ea g (failE k σ)])) := by
  obtain ⟨s, a, c, hs, hc, G1, G2, hb, hr, hF, hd⟩ := rr_open h
  refine Calls.mono (calls_frame (fail_ok (j := k) (stars_one hb)) hr hF hd) fun e w' ⟨x, he, hst⟩ => ⟨x, he, ?_⟩
  have hst' : St w F [blk g 193 [eV TE ea (if s.err = 0 then k else s.err), .slice a s.bs.length c], BtR a s.bs none []] w' := hst
  refine St.rdr (s := ⟨if s.err = 0 then k else s.err, s.bs⟩) hst' rfl rfl ?_ hc
  rw [← hs]
  by_cases he : s.err = 0 <;> simp [WS.st, failE, he, hk]
theorem take_ok' {w : World} {F : Nat → Prop} {TE : Nat} {ea : Nat → Addr} {g : Nat} {σ : RSt} (h : stars [RdrR TE ea g σ] w F) {es : List Nat} [Has es 2] (hE : GErr es w (fun k => ¬ F k) TE ea) {n : Nat}  :
    Calls Tryz.prog 103 #[.pointer (some ⟨g, 0, none⟩), .int .i64 (n : Int)] w (Post w F (fun r : Option Addr × Nat × List UInt8 => .slice r.1 r.2.2.length r.2.1) (fun r => [pureR (Ag (pTake n) σ r.2.2 ∧ r.2.2.length ≤ r.2.1 ∧ r.2.2.length ≤ n), RdrB TE ea g (rstep (pTake n) σ) r.1 r.2.2])) := by
 obtain ⟨s, a, c, hs, hc, h'⟩ := rr_open h; refine g_enter (env := [(0, .pointer (some ⟨g, 0, none⟩)), (1, .int .i64 (n : Int))]) Tryz.func103 rfl h' Tryz.ntmps103 rfl rfl ?_; refine gsr (zxa ?_); refine gnt (gc_seq (gsr (zxm ?_))); refine gp znc ?_; refine gp zfa ?_; refine gp zfa ?_; refine gp zl ?_; refine gp (r_nenil rfl (by kernel_rfl)) ?_; refine gnt (gif rfl (fun hc11 => ?_) (fun hc11 => ?_))
 ·try simp only at hc11
  have e1 : errOf σ ≠ 0 := by rw [← hs, WS.errOf_st]; exact hc11
  refine gsr (zxa ?_); refine gnt (gc_ret (gx_then_ret (gx_ret1 rfl (by conv => lhs; whnf) ?_))); exact fun w' hw => ⟨(none, 0, []), rfl, St.pureI ⟨Ag.bad e1 _, Nat.le_refl _, Nat.zero_le _⟩ (St.rdr (hw.sel (M := [blk g 193 [_, .slice a _ c], BtR a s.bs none []]) (by repeat (first | exact Sel.nil | (apply Sel.cons; · (repeat (first | exact Pick.here | apply Pick.there)))))) rfl rfl (by rw [errOf_rstep _ e1]; exact hs) hc)⟩
 ·try simp only at hc11
  have hs' : σ = .ok s.bs := by rw [← hs, WS.st, if_pos hc11]
  refine gc_skip (gx_then (gc_seq (gsr (zxm ?_)))); refine zxm ?_; refine gp znc ?_; refine gp zfa ?_; refine gp zl ?_; refine gp zln ?_; refine gp zgt ?_; refine gnt (gif rfl (fun hc18 => ?_) (fun hc18 => ?_))
  ·try simp only at hc18
   have hn : s.bs.length < n := by omega
   have hp : pTake n s.bs = .error 2 := by rw [pTake, if_pos hn]
   refine gc_seq (gc_regionT 4 (by kernel_rfl) (by kernel_rfl) ?_); refine sp zmv ?_; refine sp znc ?_; refine sp zfa ?_; refine sp (r_ld1o rfl Ty.row_27 (hE.c 2 Has.h) (hE.n 2 Has.h)) ?_; refine gs_nil ?_; refine zc (fun _ => ?_) (c := fun w1 F1 F2 h1 h2 hd hst => fail_ok h1)
   refine zxs ?_; refine zxa ?_; refine gnt (gc_ret (gx_then_ret (gx_ret1 rfl (by conv => lhs; whnf) ?_))); rw [if_pos hc11]; exact fun w' hw => ⟨(none, 0, []), rfl, St.pureI ⟨by rw [hs']; exact Ag.ne hp _, Nat.le_refl _, Nat.zero_le _⟩ (St.rdr (s := ⟨2, s.bs⟩) (hw.sel (M := [blk g 193 [_, .slice a _ c], BtR a s.bs none []]) (by repeat (first | exact Sel.nil | (apply Sel.cons; · (repeat (first | exact Pick.here | apply Pick.there)))))) rfl rfl (by rw [hs']; simp only [rstep, hp]; rfl) hc)⟩
  ·try simp only at hc18
   have hn : n ≤ s.bs.length := by omega
   have hp : pTake n s.bs = .ok (s.bs.take n, s.bs.drop n) := by rw [pTake, if_neg (by omega)]
   refine gc_skip (gx_then (gsr (zxm ?_))); refine gp znc ?_; refine gp zfa ?_; refine gp zl ?_; refine zxm ?_; refine gp (r_slice_slice (a := a) (m := s.bs.length) (c := c) (l := 0) (h := n) rfl Ty.sl_49 Ty.sz_5 rfl ⟨_, rfl⟩ (by omega) (by omega)) ?_; refine zxa ?_; refine zxs ?_; refine zxm ?_; refine zxm ?_; refine gp znc ?_; refine gp zfa ?_; refine gp zl ?_; refine zxm ?_; refine gp (r_slice_slice (a := a) (m := s.bs.length) (c := c) (l := n) (h := s.bs.length) rfl Ty.sl_49 Ty.sz_5 ⟨_, rfl⟩ rfl (by omega) (by omega)) ?_; refine gp znc ?_; refine gp zfa ?_; refine zs1 ?_; refine zxs ?_; refine zxm ?_; refine zxa ?_; refine gnt (gc_ret (gx_ret1 rfl (by conv => lhs; whnf) ?_)); have hdl : (s.bs.drop n).length = s.bs.length - n := List.length_drop
   have htl : (s.bs.take n).length = n := by rw [List.length_take]; omega
   refine fun w' hw => ⟨((if c = 0 then a else a.map (·.add (0 * 1))), c - 0, s.bs.take n), by simp only [htl]; rfl, St.pureI ⟨by rw [hs']; exact Ag.of hp, by simp only [htl]; omega, by simp only [htl]; omega⟩ (St.rdr (s := ⟨0, s.bs.drop n⟩) (k := s.err) (m := s.bs.length - n) (c := c - n) (a := if c = n then a else a.map (·.add (n * 1))) ?_ hc11 hdl.symm (by rw [hs']; simp only [rstep, hp]; rfl) (by omega))⟩
   refine (hw.sel (M := [BtR a s.bs none [], blk g 193 [_, .slice (if c = n then a else a.map (·.add (n * 1))) _ _]]) (by repeat (first | exact Sel.nil | (apply Sel.cons; · (repeat (first | exact Pick.here | apply Pick.there)))))).mapL fun F' hF' => ?_; have := bt_cut (n := n) hF' hn hc
   exact stars_swap this
end
section
attribute [local irreducible] Gl Gc Gx Gs Runs Wt
theorem rnum_ok {w : World} {F : Nat → Prop} {TE : Nat} {ea : Nat → Addr} {g : Nat} {σ : RSt} (h : stars [RdrR TE ea g σ] w F) {es : List Nat} [Has es 1] [Has es 2] (hE : GErr es w (fun k => ¬ F k) TE ea) {wd : Nat} (h1 : 1 ≤ wd) (h7 : wd ≤ 7) :
    Calls Tryz.prog 66 #[.pointer (some ⟨g, 0, none⟩), .int .i64 (wd : Int)] w (Post w F (fun x : Nat => .int .i64 (x : Int)) (fun x => [pureR (Ag (pNum wd) σ (x : Int) ∧ x < 256 ^ wd), RdrR TE ea g (rstep (pNum wd) σ)])) := by
 refine g_enter (env := [(0, .pointer (some ⟨g, 0, none⟩)), (1, .int .i64 (wd : Int))]) Tryz.func66 rfl h Tryz.ntmps66 rfl rfl ?_; refine gsr (zxa ?_); refine gnt (gc_seq (gsr (zxm ?_))); refine gp (r_bool zlt (decide_eq_false (by omega))) ?_; refine zxm ?_; refine gq zmv ?_; refine gq (r_bool zgt (decide_eq_false (by omega))) ?_; refine gp zpk ?_; refine gnt (gc_condF rfl rfl ?_); refine gc_skip (gx_then (gc_seq (gc_join (α := Unit) (fun z => [RdrR TE ea g σ]) (fun z => [(45, .bool false)]) [19, 20, 21, 22, 23, 24, 25, 26, 27, 28, 29, 30, 31, 32, 33, 34, 35, 36, 37, 38, 39, 40, 41, 42, 43, 44] ?_ ?_)))
 ·by_cases he : errOf σ = 0
  ·refine gc_region (zxm ?_); refine gp znc ?_; refine gp zfa ?_; refine gp zfa ?_; refine gp r_lde ?_; refine gp (r_bool (c := true) (r_eqnil rfl (by kernel_rfl)) (decide_eq_true he)) ?_; refine zxm ?_; refine gq zmv ?_; refine gq (r_bool zei (decide_eq_false (by omega))) ?_; refine gp zpk ?_; refine zxm ?_; refine gn ?_; refine gn ?_; refine gn ?_; refine gn ?_; refine gn ?_; refine gn ?_; refine gp zpk ?_; refine zxm ?_; refine gn ?_; refine gn ?_; refine gn ?_; refine gn ?_; refine gn ?_; refine gn ?_; refine gn ?_; refine gp zpk ?_; refine gl_nil (zjn (()) ?_)
   ·exact zsel
  ·refine gc_region (zxm ?_); refine gp znc ?_; refine gp zfa ?_; refine gp zfa ?_; refine gp r_lde ?_; refine gp (r_bool (c := false) (r_eqnil rfl (by kernel_rfl)) (decide_eq_false he)) ?_; refine zxm ?_; refine gn ?_; refine gn ?_; refine gp zpk ?_; refine zxm ?_; refine gn ?_; refine gn ?_; refine gn ?_; refine gn ?_; refine gn ?_; refine gn ?_; refine gp zpk ?_; refine zxm ?_; refine gn ?_; refine gn ?_; refine gn ?_; refine gn ?_; refine gn ?_; refine gn ?_; refine gn ?_; refine gp zpk ?_; refine gl_nil (zjn (()) ?_)
   ·exact zsel
 ·intro z u; refine gc_condF rfl rfl ?_; refine gc_skip (gx_then (gsr (zxa ?_))); refine gnt (gc_seq (gsr (zxm ?_))); refine zxm ?_; refine zc ?_ (c := fun w1 F1 F2 h1 h2 hd hst => take_ok' (n := wd) h1 (hE.mv hst.still))
  rintro ⟨a53, c53, l⟩
  refine gl_pureR (fun h53 => ?_)
  obtain ⟨hag, hlc, hlw⟩ := h53; replace hag : Ag (pTake wd) σ l := hag
  replace hlw : l.length ≤ wd := hlw
  refine gp zln ?_; refine zxm ?_; refine gnt (gc_block (gc_loop (α := Nat) (fun k => [pureR (k ≤ l.length), RdrB TE ea g (rstep (pTake wd) σ) a53 l]) (fun k => [(55, .int .i64 (k : Int)), (5, .int .i64 ((valN (l.take k) : Nat) : Int))]) [7, 56, 57, 58, 59, 60, 61, 62, 63, 64] (fun k => l.length - k) 0 ?_ ?_ ?_))
  ·refine env_start (by kernel_rfl)
  ·exact zlp (by first | exact Nat.zero_le _ | omega)
  ·intro k u; refine gc_pureR (fun hk => ?_)
   replace hk : k ≤ l.length := hk
   refine gsr (gp zlt ?_); refine gnt (gc_seq (gif rfl (fun hc56 => ?_) (fun hc56 => ?_)))
   ·try simp only at hc56
    have hk' : k < l.length := by omega
    refine gc_fact (p := ∃ g o, a53 = some ⟨g, o, none⟩) (fun w hw => (by obtain ⟨g, o, e, _⟩ := (hw.rdB (l := l) (a2 := a53) (by repeat (first | exact Pick.here | apply Pick.there))).2.2 (by omega); exact ⟨g, o, e⟩)) (fun ha => ?_)
    obtain ⟨g6, o6, rfl⟩ := ha; have hv := valN_lt (l.take k)
    have hp : 256 ^ (l.take k).length ≤ 256 ^ 6 := Nat.pow_le_pow_right (by decide) (by rw [List.length_take]; omega)
    have h56 : (256 : Nat) ^ 6 = 281474976710656 := by decide
    have hbl := (l.getD k 0).toNat_lt
    refine gc_skip (gx_then (gc_seq (gc_block (gsr (gp zia ?_))))); refine gp (r_ldb (hi := by omega) (hk := hk')) ?_; refine zxa ?_; refine gnt (gc_region (zxm ?_)); refine gp (r_int zhl (show IntKind.i64.wrap (((valN (l.take k) : Nat) : Int) * 2 ^ (min (8 : Int).toNat IntKind.i64.bits)) = ((valN (l.take k) * 256 : Nat) : Int) by rw [show (2 : Int) ^ (min (8 : Int).toNat IntKind.i64.bits) = 256 from rfl, wrap_i64 (by omega) (by omega)]; omega)) ?_; refine zxm ?_; refine gp (r_int zci (wrap_i64 (by omega) (by omega))) ?_; refine gp (r_int (j := ((valN (l.take (k + 1)) : Nat) : Int)) zbt ((or_byte (by omega)).trans (by rw [take_snoc hk', valN_snoc]))) ?_; refine zxa ?_; refine gl_nil (gx_block_normal (gx_then (gc_region (gp zad ?_)))); refine zxm ?_; refine gl_nil (zrd (k + 1) ?_ ?_)
    ·show l.length - (k + 1) < l.length - k
     omega
    ·exact zlp (show k + 1 ≤ l.length by omega)
   ·try simp only at hc56
    have hk' : k = l.length := by omega
    subst hk'; have hv := valN_lt l
    have hp : 256 ^ l.length ≤ 256 ^ wd := Nat.pow_le_pow_right (by decide) hlw
    refine gc_exit ?_; refine gx_then_exit ?_; refine gx_round_exit ?_; refine gx_block_hit ?_; refine gx_then (gsr (zxm ?_)); refine zxa ?_; refine gnt (gc_ret (gx_ret1 rfl (by conv => lhs; whnf) ?_)); exact fun w' hw => ⟨valN l, congrArg (fun m : List UInt8 => Ending.returned (.int .i64 (valN m : Int))) List.take_length, St.pureI ⟨ag_num hag, Nat.lt_of_lt_of_le hv hp⟩ (by rw [rstep_num hag]; exact (hw.sel (M := [RdrB TE ea g _ _ l]) (by repeat (first | exact Sel.nil | (apply Sel.cons; · (repeat (first | exact Pick.here | apply Pick.there)))))).rrw)⟩
theorem rfixed_ok {w : World} {F : Nat → Prop} {TE : Nat} {ea : Nat → Addr} {g : Nat} {σ : RSt} (h : stars [RdrR TE ea g σ] w F) {es : List Nat} [Has es 1] [Has es 2] (hE : GErr es w (fun k => ¬ F k) TE ea) {n : Nat} (hn : n ≤ 65535) :
    Calls Tryz.prog 133 #[.pointer (some ⟨g, 0, none⟩), .int .i64 (n : Int)] w (Post w F (fun r : Option Addr × Nat × List UInt8 => .slice r.1 r.2.2.length r.2.1) (fun r => [pureR (Ag (pTake n) σ r.2.2 ∧ r.2.2.length ≤ n), rowR 5 1 r.1 r.2.2.length r.2.1 (r.2.2.map B8), RdrR TE ea g (rstep (pTake n) σ)])) := by
 refine g_enter (env := [(0, .pointer (some ⟨g, 0, none⟩)), (1, .int .i64 (n : Int))]) Tryz.func133 rfl h Tryz.ntmps133 rfl rfl ?_; refine gsr (zxa ?_); refine gnt (gc_seq (gsr (zxm ?_))); refine gp (r_bool zlt (decide_eq_false (by omega))) ?_; refine gnt (gc_condF rfl rfl ?_); refine gc_skip (gx_then (gsr (zxm ?_))); refine zxm ?_; refine zc ?_ (c := fun w1 F1 F2 h1 h2 hd hst => take_ok' (n := n) h1 (hE.mv hst.still))
 rintro ⟨a14, c14, l⟩
 refine gl_pureR (fun h14 => ?_)
 obtain ⟨hag, hlc, hlw⟩ := h14; replace hlw : l.length ≤ n := hlw
 refine zc ?_ (c := fun w1 F1 F2 h1 h2 hd hst => cloneBytes_ok (xs := l.map B8) h1 (rdB_row h2 hd (by repeat (first | exact Pick.here | apply Pick.there))) (one_B8 _) (by omega))
 rintro ⟨a15, c15⟩
 refine zxa ?_; refine gnt (gc_ret (gx_ret1 rfl (by conv => lhs; whnf) ?_)); exact fun w' hw => ⟨(a15, c15, l), rfl, St.pureI ⟨hag, hlw⟩ ((hw.sel (M := [RdrB TE ea g _ _ l, rowR 5 1 a15 _ c15 _]) (by repeat (first | exact Sel.nil | (apply Sel.cons; · (repeat (first | exact Pick.here | apply Pick.there)))))).rrw.z)⟩
theorem rbytes_ok {w : World} {F : Nat → Prop} {TE : Nat} {ea : Nat → Addr} {g : Nat} {σ : RSt} (h : stars [RdrR TE ea g σ] w F) {es : List Nat} [Has es 1] [Has es 2] (hE : GErr es w (fun k => ¬ F k) TE ea) {most : Nat} (hm : most ≤ 65535) :
    Calls Tryz.prog 104 #[.pointer (some ⟨g, 0, none⟩), .int .i64 (most : Int)] w (Post w F (fun r : Option Addr × Nat × List UInt8 => .slice r.1 r.2.2.length r.2.1) (fun r => [pureR (Ag (pBytes most) σ r.2.2 ∧ r.2.2.length ≤ 65535), rowR 5 1 r.1 r.2.2.length r.2.1 (r.2.2.map B8), RdrR TE ea g (rstep (pBytes most) σ)])) := by
 refine g_enter (env := [(0, .pointer (some ⟨g, 0, none⟩)), (1, .int .i64 (most : Int))]) Tryz.func104 rfl h Tryz.ntmps104 rfl rfl ?_; refine gsr (zxa ?_); refine zxs ?_; refine zxm ?_; refine zc (fun x => ?_) (c := fun w1 F1 F2 h1 h2 hd hst => rnum_ok (wd := 2) h1 (hE.mv hst.still) (by decide) (by decide))
 refine gl_pureR (fun hx => ?_)
 obtain ⟨hx, hxb⟩ := hx; have hx256 : x < 65536 := by simpa using hxb
 refine zxa ?_; refine gnt (gc_join (α := RSt) (fun σ2 => [pureR ((if errOf (rstep (pNum 2) σ) = 0 ∧ most < x then failE 1 (rstep (pNum 2) σ) else rstep (pNum 2) σ) = σ2), RdrR TE ea g σ2]) (fun σ2 => []) [8, 9, 10, 11, 12, 13, 14, 15, 16, 17, 18, 19, 20, 21, 22, 23] ?_ ?_)
 ·refine gc_join (α := Bool) (fun z => [pureR (z = (decide (errOf (rstep (pNum 2) σ) = 0) && decide (most < x))), RdrR TE ea g (rstep (pNum 2) σ)]) (fun z => [(18, .bool z)]) [8, 9, 10, 11, 12, 13, 14, 15, 16, 17] ?_ ?_
  ·by_cases he : errOf (rstep (pNum 2) σ) = 0
   ·refine gc_region (zxm ?_); refine gp znc ?_; refine gp zfa ?_; refine gp zfa ?_; refine gp r_lde ?_; refine gp (r_bool (c := true) (r_eqnil rfl (by kernel_rfl)) (decide_eq_true he)) ?_; refine zxm ?_; refine gq zmv ?_; refine gq zmv ?_; refine gq (r_bool (b := decide ((most : Int) < (x : Int))) zgt rfl) ?_; refine gp zpk ?_; refine gl_nil (zjn (decide ((most : Int) < (x : Int))) ?_)
    ·exact zlp (by rw [decide_eq_true he, Bool.true_and]; exact decide_eq_decide.2 (by omega))
   ·refine gc_region (zxm ?_); refine gp znc ?_; refine gp zfa ?_; refine gp zfa ?_; refine gp r_lde ?_; refine gp (r_bool (c := false) (r_eqnil rfl (by kernel_rfl)) (decide_eq_false he)) ?_; refine zxm ?_; refine gn ?_; refine gn ?_; refine gn ?_; refine gp zpk ?_; refine gl_nil (zjn (false) ?_)
    ·exact zlp (by rw [decide_eq_false he]; rfl)
  ·intro z u; refine gc_pureR (fun hz => ?_)
   subst hz; refine gif rfl (fun hc18 => ?_) (fun hc18 => ?_)
   ·try simp only at hc18
    have hb : errOf (rstep (pNum 2) σ) = 0 ∧ most < x := by omega
    refine gc_regionT 4 (by kernel_rfl) (by kernel_rfl) ?_; refine sp zmv ?_; refine sp znc ?_; refine sp zfa ?_; refine sp (r_ld1o rfl Ty.row_27 (hE.c 1 Has.h) (hE.n 1 Has.h)) ?_; refine gs_nil ?_; refine zc (fun _ => ?_) (c := fun w1 F1 F2 h1 h2 hd hst => failR_ok (by decide) h1)
    refine gl_nil (zjn (failE 1 (rstep (pNum 2) σ)) ?_)
    ·exact zlp (if_pos hb)
   ·try simp only at hc18
    have hb : ¬ (errOf (rstep (pNum 2) σ) = 0 ∧ most < x) := by omega
    refine gc_skip (zjn ((rstep (pNum 2) σ)) ?_)
    ·exact zlp (if_neg hb)
 ·intro σ2 u; refine gc_pureR (fun hc2 => ?_)
  refine gsr (zxm ?_); refine zxm ?_; refine zc ?_ (c := fun w1 F1 F2 h1 h2 hd hst => rfixed_ok (n := x) h1 (hE.mv hst.still) (by omega))
  rintro ⟨a26, c26, l⟩
  refine gl_pureR (fun h26 => ?_)
  obtain ⟨hag, hlw⟩ := h26; replace hlw : l.length ≤ x := hlw
  have hfin := bytes_fin hx hc2 hag
  refine zxa ?_; refine gnt (gc_ret (gx_ret1 rfl (by conv => lhs; whnf) ?_)); rw [hfin.1]; exact fun w' hw => ⟨(a26, c26, l), rfl, St.pureI ⟨hfin.2, by show l.length ≤ 65535; omega⟩ (hw.z)⟩
end
section
def padDig (l : List UInt8) : Dig := digOf (l ++ List.replicate (16 - l.length) 0)
theorem padDig_cells {l : List UInt8} (h : l.length ≤ 16) : updL zD 0 (l.map B8) = dc (padDig l) := by
  have e : (l ++ List.replicate (16 - l.length) 0).length = 16 := by simp; omega
  rw [padDig, digOf, dif_pos e]
  simp only [dc, updL, List.take_zero, List.nil_append, Nat.zero_add, List.length_map, List.map_append, List.map_replicate]
  rw [zD, List.drop_replicate]
  rfl
theorem ag_dig {σ : RSt} {l : List UInt8} (h : Ag (pTake 16) σ l) : Ag pDig σ (padDig l) := by
  rintro b y r rfl hb
  obtain ⟨l', r1, h1, h2⟩ := pBind_ok hb
  obtain rfl := h b l' r1 rfl h1
  have hl := (pTake_ok h1).2
  obtain ⟨rfl, rfl⟩ := pPure_ok h2
  rw [padDig, hl]; simp
theorem rstep_dig {σ : RSt} {l : List UInt8} (h : Ag (pTake 16) σ l) : rstep pDig σ = rstep (pTake 16) σ := by rw [pDig, rstep_bind h, rstep_pure]
section
variable {w : World} {F : Nat → Prop}
theorem vl_pure {α : Type} {rd : World → (Nat → Prop) → List Value → α → Prop} [RdK rd] {L : List Res} {cs : List Value} {x : α} (h : rd w (fun _ => False) cs x) (hs : stars L w F) : stars (VlR rd cs x :: L) w F :=
  ⟨fun _ => False, F, ⟨h, fun _ h => h.elim⟩, hs, fun k => by simp, fun _ h => h.elim⟩
theorem St.vl {α : Type} {rd : World → (Nat → Prop) → List Value → α → Prop} [RdK rd] {w0 : World} {F0 : Nat → Prop} {L : List Res} {cs : List Value} {x : α} (hs : St w0 F0 L w) (h : rd w (fun _ => False) cs x) : St w0 F0 (VlR rd cs x :: L) w := hs.mapL fun F hF => vl_pure h hF
theorem vl_sig {leaf : Int} {a1 a2 : Option Addr} {n1 c1 n2 c2 : Nat} {l1 l2 : List Dig} (k1 : n1 ≤ c1) (k2 : n2 ≤ c2) (h : stars [LsR (fun _ _ => RdDig) 16 a1 n1 l1, LsR (fun _ _ => RdDig) 16 a2 n2 l2] w F) : stars [VlR RdSig [.int .i64 leaf, .slice a1 n1 c1, .slice a2 n2 c2] ⟨leaf, l1, l2⟩] w F := by
  obtain ⟨F1, F2, h1, h2, hF⟩ := stars_two h
  exact rdR_mk ⟨a1, n1, c1, a2, n2, c2, rfl, k1, k2, RdList.mv h1.1 (still_sub fun k hk => (hF k).2 (.inl hk)) fun _ _ h => h, RdList.mv h2.1 (still_sub fun k hk => (hF k).2 (.inr hk)) fun _ _ h => h⟩ h
theorem vl_signed {who : Int} {ss : List Value} {s : Sig} (h : stars [VlR RdSig ss s] w F) : stars [VlR RdSigned (.int .i64 who :: ss) ⟨who, s⟩] w F := rdR_mk ⟨ss, rfl, (stars_one' h).1⟩ h
theorem vl_qc {e r : Int} {d : Dig} {a : Option Addr} {n c : Nat} {l : List Signed} (k : n ≤ c) (h : stars [LsR RdSigned 4 a n l] w F) : stars [VlR RdQC (.int .i64 e :: .int .i64 r :: (dc d ++ [.slice a n c])) ⟨e, r, d, l⟩] w F := rdR_mk ⟨a, n, c, rfl, k, (stars_one' h).1⟩ h
theorem vl_bytes {e n c : Nat} {a : Option Addr} {b : List UInt8} (h : stars [rowR e 1 a n c (b.map B8)] w F) : stars [VlR RdBytes [.slice a n c] b] w F := by
  have hr := stars_one' h
  exact rdR_mk ⟨a, n, c, rfl, hr.2.1, rowR.rd hr⟩ h
theorem vl_block {e r : Int} {d : Dig} {q : List Value} {x : QC} {a1 a2 : Option Addr} {n1 c1 n2 c2 : Nat} {l1 : List (List UInt8)} {l2 : List Vdr} (k1 : n1 ≤ c1) (k2 : n2 ≤ c2)
    (h : stars [VlR RdQC q x, LsR RdBytes 1 a1 n1 l1, LsR (fun _ _ => RdVdr) 17 a2 n2 l2] w F) : stars [VlR RdBlock (.int .i64 e :: .int .i64 r :: (dc d ++ (q ++ [.slice a1 n1 c1, .slice a2 n2 c2]))) ⟨e, r, d, x, l1, l2⟩] w F := by
  obtain ⟨F1, F2, h1, h2, hF⟩ := stars_cons h
  obtain ⟨F3, F4, h3, h4, hF2⟩ := stars_two h2
  have s3 : ∀ k, F3 k → F k := fun k hk => (hF k).2 (.inr ((hF2 k).2 (.inl hk)))
  exact rdR_mk ⟨q, a1, n1, c1, a2, n2, c2, rfl, h1.1.mv (still_sub fun k hk => (hF k).2 (.inl hk)), k1, RdList.mv h3.1 (still_sub s3) fun _ _ h => h.mv (still_sub s3), k2, RdList.mv h4.1 (still_sub fun k hk => (hF k).2 (.inr ((hF2 k).2 (.inr hk)))) fun _ _ h => h⟩ h
end
attribute [local irreducible] Gl Gc Gx Gs Runs Wt
theorem rdigest_ok {w : World} {F : Nat → Prop} {TE : Nat} {ea : Nat → Addr} {g : Nat} {σ : RSt} (h : stars [RdrR TE ea g σ] w F) {es : List Nat} [Has es 1] [Has es 2] (hE : GErr es w (fun k => ¬ F k) TE ea) :
    Calls Tryz.prog 109 #[.agg (List.toArray [.pointer (some ⟨g, 0, none⟩)])] w (Post w F (fun r : Dig => .agg (dc r).toArray) (fun r => [pureR (Ag pDig σ r), RdrR TE ea g (rstep pDig σ)])) := by
 refine g_enter (env := [(0, .agg (List.toArray [.pointer (some ⟨g, 0, none⟩)]))]) Tryz.func109 rfl h Tryz.ntmps109 rfl rfl ?_; refine gsr (zbN fun b1 => ?_); refine zal fun b2 => ?_; refine zxs ?_; refine zal fun b3 => ?_; refine gnt (gc_seq (gc_regionH ([blk b1 160 [.pointer (some ⟨g, 0, none⟩)]]) ?_)); refine yp 0 rfl (r_slice_arr (l := 0) (h := 16) rfl Ty.arr_38 Ty.sz_5 rfl rfl (by decide) (by decide) (by decide)) ?_; refine yp 1 rfl zfa ?_; refine yp 2 rfl zl ?_; refine yo 3 rfl ?_; refine zc ?_ (c := fun w1 F1 F2 h1 h2 hd hst => rfixed_ok (n := 16) h1 (hE.mv hst.still) (by decide))
 rintro ⟨a7, c7, l⟩
 refine gl_pureR (fun h7 => ?_)
 obtain ⟨hag, hlw⟩ := h7; replace hlw : l.length ≤ 16 := hlw
 replace hag : Ag (pTake 16) σ l := hag
 refine yx ?_; refine yo 4 rfl ?_; refine gl_copy (news := l.map B8) (hr := fun w hw => hw.row (by repeat (first | exact Pick.here | apply Pick.there))) (hj := hlw) (h1 := one_B8 _) (hl := by rw [zD_length]; omega) (k := ?_)
 rw [padDig_cells hlw]; refine yx ?_; refine yd ?_; refine gx_then (gsr (gp (zLa (cs := dc (padDig l))) ?_)); refine zsA (dc_length _) (dc_one _) ?_; refine gnt (gc_ret (gx_retc rfl rfl (ldA Ty.row_38 Ty.sz_38) ?_)); rw [rstep_dig hag]; exact fun w' hw => ⟨padDig l, rfl, St.pureI (ag_dig hag) (hw.z)⟩
theorem takeDigest_ok {w : World} {F : Nat → Prop} {TE : Nat} {ea : Nat → Addr} {g : Nat} {σ : RSt} (h : stars [RdrR TE ea g σ] w F) {es : List Nat} [Has es 1] [Has es 2] (hE : GErr es w (fun k => ¬ F k) TE ea) :
    Calls Tryz.prog 115 #[.pointer (some ⟨g, 0, none⟩)] w (Post w F (fun r : Dig => .agg (dc r).toArray) (fun r => [pureR (Ag pDig σ r), RdrR TE ea g (rstep pDig σ)])) := by
 refine g_enter (env := [(0, .pointer (some ⟨g, 0, none⟩))]) Tryz.func115 rfl h Tryz.ntmps115 rfl rfl ?_; refine gsr (zal fun b2 => ?_); refine zxs ?_; refine zxm ?_; refine gp zbu ?_; refine zc (fun d5 => ?_) (c := fun w1 F1 F2 h1 h2 hd hst => rdigest_ok h1 (hE.mv hst.still))
 refine gl_pureR (fun g5 => ?_)
 refine zsA (dc_length _) (dc_one _) ?_; refine gnt (gc_ret (gx_retc rfl rfl (ldA Ty.row_38 Ty.sz_38) ?_)); exact fun w' hw => ⟨d5, rfl, St.pureI g5 (hw.z)⟩
theorem rat_ok {w : World} {F : Nat → Prop} {TE : Nat} {ea : Nat → Addr} {g : Nat} {σ : RSt} (h : stars [RdrR TE ea g σ] w F) {es : List Nat} [Has es 1] [Has es 2] (hE : GErr es w (fun k => ¬ F k) TE ea) :
    Calls Tryz.prog 108 #[.agg (List.toArray [.pointer (some ⟨g, 0, none⟩)])] w (Post w F (fun r : Nat × Nat => .tuple #[.int .i64 (r.1 : Int), .int .i64 (r.2 : Int)]) (fun r => [pureR (Ag pAt σ ((r.1 : Int), (r.2 : Int))), RdrR TE ea g (rstep pAt σ)])) := by
 refine g_enter (env := [(0, .agg (List.toArray [.pointer (some ⟨g, 0, none⟩)]))]) Tryz.func108 rfl h Tryz.ntmps108 rfl rfl ?_; refine gsr (zbN fun b1 => ?_); refine zxa ?_; refine zxa ?_; refine zxs ?_; refine gp zfa ?_; refine gp zl ?_; refine zc (fun x => ?_) (c := fun w1 F1 F2 h1 h2 hd hst => rnum_ok (wd := 4) h1 (hE.mv hst.still) (by decide) (by decide))
 refine gl_pureR (fun hp7 => ?_)
 obtain ⟨g7, _⟩ := hp7; refine zxa ?_; refine zxs ?_; refine zxm ?_; refine gp zfa ?_; refine gp zl ?_; refine zc (fun y => ?_) (c := fun w1 F1 F2 h1 h2 hd hst => rnum_ok (wd := 6) h1 (hE.mv hst.still) (by decide) (by decide))
 refine gl_pureR (fun hp11 => ?_)
 obtain ⟨g11, _⟩ := hp11; refine zxa ?_; refine zxa ?_; refine gnt (gc_ret (gx_ret2 rfl (by conv => lhs; whnf) (by conv => lhs; whnf) ?_)); have ha : Ag pAt σ ((x : Int), (y : Int)) := g7.bind (g11.bind (Ag.pure _))
 have hr : rstep pAt σ = rstep (pNum 6) (rstep (pNum 4) (σ)) := by rw [pAt, rstep_bind g7, rstep_bind g11, rstep_pure]
 rw [hr]; exact fun w' hw => ⟨(x, y), rfl, St.pureI ha (hw.z)⟩
theorem takeDigs_ok {w : World} {F : Nat → Prop} {TE : Nat} {ea : Nat → Addr} {g : Nat} {σ : RSt} (h : stars [RdrR TE ea g σ] w F) {es : List Nat} [Has es 1] [Has es 2] (hE : GErr es w (fun k => ¬ F k) TE ea) {most : Nat} (hm : most ≤ 255) :
    Calls Tryz.prog 162 #[.pointer (some ⟨g, 0, none⟩), .int .i64 (most : Int), .func (.func 115) #[] #[]] w (Post w F (fun r : Option Addr × Nat × Nat × List Dig => .slice r.1 r.2.1 r.2.2.1) (fun r => [pureR (Ag (pList pDig most) σ r.2.2.2 ∧ r.2.1 ≤ r.2.2.1 ∧ r.2.1 = r.2.2.2.length), LsR (fun _ _ => RdDig) 16 r.1 r.2.1 r.2.2.2, RdrR TE ea g (rstep (pList pDig most) σ)])) := by
 refine g_enter (env := [(0, .pointer (some ⟨g, 0, none⟩)), (1, .int .i64 (most : Int)), (2, .func (.func 115) #[] #[])]) Tryz.func162 rfl h Tryz.ntmps162 rfl rfl ?_; refine gsr (zxa ?_); refine zxs ?_; refine zxm ?_; refine zc (fun x => ?_) (c := fun w1 F1 F2 h1 h2 hd hst => rnum_ok (wd := 1) h1 (hE.mv hst.still) (by decide) (by decide))
 refine gl_pureR (fun hx => ?_)
 obtain ⟨hx, hxb⟩ := hx; have hx256 : x < 256 := by simpa using hxb
 refine zxa ?_; refine gnt (gc_join (α := RSt) (fun σ2 => [pureR ((if errOf (rstep (pNum 1) σ) = 0 ∧ most < x then failE 1 (rstep (pNum 1) σ) else rstep (pNum 1) σ) = σ2), RdrR TE ea g σ2]) (fun σ2 => []) [12, 13, 14, 15, 16, 17, 18, 19, 20, 21, 22, 23, 24, 25, 26, 27] ?_ ?_)
 ·refine gc_join (α := Bool) (fun z => [pureR (z = (decide (errOf (rstep (pNum 1) σ) = 0) && decide (most < x))), RdrR TE ea g (rstep (pNum 1) σ)]) (fun z => [(22, .bool z)]) [12, 13, 14, 15, 16, 17, 18, 19, 20, 21] ?_ ?_
  ·by_cases he : errOf (rstep (pNum 1) σ) = 0
   ·refine gc_region (zxm ?_); refine gp znc ?_; refine gp zfa ?_; refine gp zfa ?_; refine gp r_lde ?_; refine gp (r_bool (c := true) (r_eqnil rfl (by kernel_rfl)) (decide_eq_true he)) ?_; refine zxm ?_; refine gq zmv ?_; refine gq zmv ?_; refine gq (r_bool (b := decide ((most : Int) < (x : Int))) zgt rfl) ?_; refine gp zpk ?_; refine gl_nil (zjn (decide ((most : Int) < (x : Int))) ?_)
    ·exact zlp (by rw [decide_eq_true he, Bool.true_and]; exact decide_eq_decide.2 (by omega))
   ·refine gc_region (zxm ?_); refine gp znc ?_; refine gp zfa ?_; refine gp zfa ?_; refine gp r_lde ?_; refine gp (r_bool (c := false) (r_eqnil rfl (by kernel_rfl)) (decide_eq_false he)) ?_; refine zxm ?_; refine gn ?_; refine gn ?_; refine gn ?_; refine gp zpk ?_; refine gl_nil (zjn (false) ?_)
    ·exact zlp (by rw [decide_eq_false he]; rfl)
  ·intro z u; refine gc_pureR (fun hz => ?_)
   subst hz; refine gif rfl (fun hc22 => ?_) (fun hc22 => ?_)
   ·try simp only at hc22
    have hb : errOf (rstep (pNum 1) σ) = 0 ∧ most < x := by omega
    refine gc_regionT 4 (by kernel_rfl) (by kernel_rfl) ?_; refine sp zmv ?_; refine sp znc ?_; refine sp zfa ?_; refine sp (r_ld1o rfl Ty.row_27 (hE.c 1 Has.h) (hE.n 1 Has.h)) ?_; refine gs_nil ?_; refine zc (fun _ => ?_) (c := fun w1 F1 F2 h1 h2 hd hst => failR_ok (by decide) h1)
    refine gl_nil (zjn (failE 1 (rstep (pNum 1) σ)) ?_)
    ·exact zlp (if_pos hb)
   ·try simp only at hc22
    have hb : ¬ (errOf (rstep (pNum 1) σ) = 0 ∧ most < x) := by omega
    refine gc_skip (zjn ((rstep (pNum 1) σ)) ?_)
    ·exact zlp (if_neg hb)
 ·intro σ2 u; refine gc_pureR (fun hc2 => ?_)
  refine gsr (zxa ?_); refine gnt (gc_seq (gsr (zxa ?_))); refine gnt (gc_block (gc_loop (α := Nat × RSt × Option Addr × Nat × List (List Value) × List Dig) (fun y => [pureR (y.1 ≤ x ∧ Many pDig x σ2 (x - y.1) y.2.1 y.2.2.2.2.2 ∧ (∀ c ∈ y.2.2.2.2.1, c.length = 16) ∧ y.2.2.2.2.2.length = y.1), rowR 38 16 y.2.2.1 y.1 y.2.2.2.1 y.2.2.2.2.1.flatten, ElR (fun _ _ => RdDig) y.2.2.2.2.1 y.2.2.2.2.2, RdrR TE ea g y.2.1]) (fun y => [(8, .slice y.2.2.1 y.1 y.2.2.2.1), (9, .int .i64 (y.1 : Int))]) [28, 29, 30, 31, 32, 33, 34, 35, 36, 37, 38, 39, 40, 41, 42, 43, 44, 45, 46] (fun y => x - y.1) (0, σ2, none, 0, [], []) ?_ ?_ ?_))
  ·refine env_start (by kernel_rfl)
  ·exact fun w' hw => zlp ⟨Nat.zero_le _, Many.start, (by intro c hc; cases hc), rfl⟩ (by repeat (first | exact Sel.nil | (apply Sel.cons; · (repeat (first | exact Pick.here | apply Pick.there))))) w' (hw.mapL fun F' hF' => stars_row_nil (e := 38) (size := 16) (el_nil (rd := fun _ _ => RdDig) hF'))
  ·intro y u; obtain ⟨k, τ, a, c, css, l⟩ := y; refine gc_pureR (fun hk => ?_)
   obtain ⟨hk, hmany, hcss, hll⟩ := hk; replace hk : k ≤ x := hk
   replace hll : l.length = k := hll
   replace hcss : ∀ c ∈ css, c.length = 16 := hcss
   replace hmany : Many pDig x σ2 (x - k) τ l := hmany
   refine gc_seq (gc_seq ?_); by_cases hkx : k < x
   ·refine gc_region (zxm ?_); refine zxm ?_; refine gp (r_bool (c := true) zlt (decide_eq_true (by omega))) ?_; refine zxm ?_; refine gq zmv ?_; refine gq znc ?_; refine gq zfa ?_; refine gq zfa ?_; refine gq r_lde ?_; refine gq (r_eqnil rfl (by kernel_rfl)) ?_; refine gp zpk ?_; refine gnt (gif rfl (fun hc38 => ?_) (fun hc38 => ?_))
    ·try simp only at hc38
     have he2 : errOf τ = 0 := hc38
     refine gc_skip (gx_then (gc_seq (gc_block (gc_region (zxm ?_))))); refine zxm ?_; refine zxm ?_; refine gl_call (wt0 rfl) (e_callv (us := []) rfl Ty.call_115 rfl) (by repeat (first | exact Sel.nil | (apply Sel.cons; · (repeat (first | exact Pick.here | apply Pick.there))))) (fun w1 F1 F2 h1 h2 hd hst => takeDigest_ok h1 (hE.mv hst.still)) ?_; intro v; refine gl_pureR (fun hag => ?_)
     obtain ⟨cs, hcs⟩ : ∃ cs, cs = dc v := ⟨_, rfl⟩; have hcl : cs.length = 16 := by rw [hcs]; exact dc_length _
     rw [← hcs]; have i1 := Len.of hcl
     have i2 := One.of (l := cs) (by rw [hcs]; exact dc_one _)
     refine gl_conv (M := []) (N := [VlR (fun _ _ => RdDig) cs v]) Sel.nil (fun w F hF => vl_pure (show RdDig cs v from hcs) hF) ?_; refine zeN fun b45 => ?_; refine zapo (news := cs) (fun a46 c46 => ?_)
     refine zxa ?_; refine gl_nil (gx_block_normal (gx_then (gc_region (zxm ?_)))); refine gp zad ?_; refine zxa ?_; refine gl_nil (zrd ((k + 1, rstep pDig τ, a46, c46, css ++ [cs], l ++ [v])) ?_ ?_)
     ·show x - (k + 1) < x - k
      omega
     ·rintro w' hw
      have h1 := hw.conv (M := [ElR (fun _ _ => RdDig) css l, VlR (fun _ _ => RdDig) cs v]) (by repeat (first | exact Sel.nil | (apply Sel.cons; · (repeat (first | exact Pick.here | apply Pick.there))))) (fun _ _ => el_snoc)
      refine zlq (M' := [rowR 38 16 a46 (k + 1) c46 (css.flatten ++ cs), ElR (fun _ _ => RdDig) (css ++ [cs]) (l ++ [v]), RdrR TE ea g (rstep pDig τ)]) ⟨?_, ?_, ?_, ?_⟩ (by simp) (by repeat (first | exact Sel.nil | (apply Sel.cons; · (repeat (first | exact Pick.here | apply Pick.there))))) w' h1
      ·show k + 1 ≤ x; omega
      ·rw [show x - k = x - (k + 1) + 1 by omega] at hmany; exact hmany.next hag
      ·intro c' hc'; rcases List.mem_append.1 hc' with h | h; exact hcss c' h; rw [List.mem_singleton.1 h]; exact hcl
      ·simp [hll]
    ·try simp only at hc38
     have he2 : ¬ errOf τ = 0 := hc38
     refine gc_exit ?_; refine gx_then_exit ?_; refine gx_round_exit ?_; refine gx_block_hit ?_; refine gx_then (gc_seq (gsr (zxm ?_))); refine gp znc ?_; refine gp zfa ?_; refine gp zfa ?_; refine gp r_lde ?_; refine gp (r_nenil rfl (by kernel_rfl)) ?_; refine gnt (gif rfl (fun hc52 => ?_) (fun hc52 => ?_))
     ·try simp only at hc52
      have hbad := hmany.bad hc52
      have hfin := list_fin hx hc2 ⟨hbad.1, hbad.2 []⟩
      refine gsr (zxa ?_); refine gnt (gc_ret (gx_then_ret (gx_ret1 rfl (by conv => lhs; whnf) ?_))); rw [hfin.1]; exact fun w' hw => ⟨(none, 0, 0, []), rfl, St.pureI ⟨hfin.2, Nat.le_refl _, rfl⟩ ((hw.sel (M := [RdrR TE ea g τ]) (by repeat (first | exact Sel.nil | (apply Sel.cons; · (repeat (first | exact Pick.here | apply Pick.there)))))).mapL fun F' hF' => ls_nil hF')⟩
     ·try simp only at hc52
      have hm0 : x - k = 0 := by first | omega | exact absurd hc52 he2
      rw [hm0] at hmany; have hfin := list_fin hx hc2 hmany.done
      refine gc_skip (gx_then (gsr (zxm ?_))); refine zxa ?_; refine gnt (gc_ret (gx_ret1 rfl (by conv => lhs; whnf) ?_)); rw [hfin.1]; intro w' hw; have hle := (hw.rowLe (e := 38) (size := 16) (a := a) (m := k) (c := c) (xs := css.flatten) (by repeat (first | exact Pick.here | apply Pick.there))).1
      exact ⟨(a, k, c, l), rfl, St.pureI ⟨hfin.2, hle, hll.symm⟩ ((hw.conv (M := [rowR 38 16 a k c css.flatten, ElR (fun _ _ => RdDig) css l]) (by repeat (first | exact Sel.nil | (apply Sel.cons; · (repeat (first | exact Pick.here | apply Pick.there))))) (fun _ _ => ls_of hcss)).z)⟩
   ·refine gc_region (zxm ?_); refine zxm ?_; refine gp (r_bool (c := false) zlt (decide_eq_false (by omega))) ?_; refine zxm ?_; refine gn ?_; refine gn ?_; refine gn ?_; refine gn ?_; refine gn ?_; refine gn ?_; refine gp zpk ?_; refine gnt (gc_condF rfl rfl ?_); refine gc_exit ?_; refine gx_then_exit ?_; refine gx_round_exit ?_; refine gx_block_hit ?_; refine gx_then (gc_seq (gsr (zxm ?_))); refine gp znc ?_; refine gp zfa ?_; refine gp zfa ?_; refine gp r_lde ?_; refine gp (r_nenil rfl (by kernel_rfl)) ?_; refine gnt (gif rfl (fun hc52 => ?_) (fun hc52 => ?_))
    ·try simp only at hc52
     have hbad := hmany.bad hc52
     have hfin := list_fin hx hc2 ⟨hbad.1, hbad.2 []⟩
     refine gsr (zxa ?_); refine gnt (gc_ret (gx_then_ret (gx_ret1 rfl (by conv => lhs; whnf) ?_))); rw [hfin.1]; exact fun w' hw => ⟨(none, 0, 0, []), rfl, St.pureI ⟨hfin.2, Nat.le_refl _, rfl⟩ ((hw.sel (M := [RdrR TE ea g τ]) (by repeat (first | exact Sel.nil | (apply Sel.cons; · (repeat (first | exact Pick.here | apply Pick.there)))))).mapL fun F' hF' => ls_nil hF')⟩
    ·try simp only at hc52
     have hm0 : x - k = 0 := by first | omega | exact absurd hc52 he2
     rw [hm0] at hmany; have hfin := list_fin hx hc2 hmany.done
     refine gc_skip (gx_then (gsr (zxm ?_))); refine zxa ?_; refine gnt (gc_ret (gx_ret1 rfl (by conv => lhs; whnf) ?_)); rw [hfin.1]; intro w' hw; have hle := (hw.rowLe (e := 38) (size := 16) (a := a) (m := k) (c := c) (xs := css.flatten) (by repeat (first | exact Pick.here | apply Pick.there))).1
     exact ⟨(a, k, c, l), rfl, St.pureI ⟨hfin.2, hle, hll.symm⟩ ((hw.conv (M := [rowR 38 16 a k c css.flatten, ElR (fun _ _ => RdDig) css l]) (by repeat (first | exact Sel.nil | (apply Sel.cons; · (repeat (first | exact Pick.here | apply Pick.there))))) (fun _ _ => ls_of hcss)).z)⟩
theorem rsig_ok {w : World} {F : Nat → Prop} {TE : Nat} {ea : Nat → Addr} {g : Nat} {σ : RSt} (h : stars [RdrR TE ea g σ] w F) {es : List Nat} [Has es 1] [Has es 2] (hE : GErr es w (fun k => ¬ F k) TE ea) :
    Calls Tryz.prog 149 #[.agg (List.toArray [.pointer (some ⟨g, 0, none⟩)])] w (Post w F (fun r : List Value × Sig => .agg r.1.toArray) (fun r => [pureR (Ag pSig σ r.2 ∧ r.1.length = 3 ∧ ∀ v ∈ r.1, v.oneCell' = true), VlR RdSig r.1 r.2, RdrR TE ea g (rstep pSig σ)])) := by
 refine g_enter (env := [(0, .agg (List.toArray [.pointer (some ⟨g, 0, none⟩)]))]) Tryz.func149 rfl h Tryz.ntmps149 rfl rfl ?_; refine gsr (zbN fun b1 => ?_); refine zal fun b2 => ?_; refine zxs ?_; refine gp zfa ?_; refine gp zl ?_; refine zc (fun x => ?_) (c := fun w1 F1 F2 h1 h2 hd hst => rnum_ok (wd := 1) h1 (hE.mv hst.still) (by decide) (by decide))
 refine gl_pureR (fun hp7 => ?_)
 obtain ⟨g7, _⟩ := hp7; refine zxa ?_; refine zxs ?_; refine gp zfa ?_; refine gp zl ?_; refine zc ?_ (c := fun w1 F1 F2 h1 h2 hd hst => takeDigs_ok (most := 68) h1 (hE.mv hst.still) (by decide))
 rintro ⟨a10, n10, c10, l10⟩
 refine gl_pureR (fun hp10 => ?_)
 obtain ⟨g10, k10, e10⟩ := hp10; replace g10 : Ag (pList pDig 68) _ l10 := g10
 replace k10 : n10 ≤ c10 := k10
 refine zxa ?_; refine zxs ?_; refine zxm ?_; refine zxm ?_; refine gp zfa ?_; refine gp zl ?_; refine zc ?_ (c := fun w1 F1 F2 h1 h2 hd hst => takeDigs_ok (most := 5) h1 (hE.mv hst.still) (by decide))
 rintro ⟨a15, n15, c15, l15⟩
 refine gl_pureR (fun hp15 => ?_)
 obtain ⟨g15, k15, e15⟩ := hp15; replace g15 : Ag (pList pDig 5) _ l15 := g15
 replace k15 : n15 ≤ c15 := k15
 refine gp zbu ?_; refine zsN ?_; refine gnt (gc_ret (gx_retc rfl rfl (ldA Ty.row_84 Ty.sz_84) ?_)); have ha : Ag pSig σ ⟨x, l10, l15⟩ := g7.bind (g10.bind (g15.bind (Ag.pure _)))
 have hr : rstep pSig σ = rstep (pList pDig 5) (rstep (pList pDig 68) (rstep (pNum 1) (σ))) := by rw [pSig, rstep_bind g7, rstep_bind g10, rstep_bind g15, rstep_pure]
 rw [hr]; intro w' hw; refine ⟨([.int .i64 x, .slice a10 n10 c10, .slice a15 n15 c15], ⟨x, l10, l15⟩), rfl, St.pureI ⟨ha, by first | rfl | simp only [List.length_cons, List.length_append, List.length_nil, dc_length, len_L] , all_cons' rfl (all_cons' rfl (all_cons' rfl all_nil'))⟩ ?_⟩
 exact (hw.conv (M := [LsR (fun _ _ => RdDig) 16 a10 n10 l10, LsR (fun _ _ => RdDig) 16 a15 n15 l15]) (by repeat (first | exact Sel.nil | (apply Sel.cons; · (repeat (first | exact Pick.here | apply Pick.there))))) (fun _ _ => vl_sig k10 k15)).z
theorem rsigned_ok {w : World} {F : Nat → Prop} {TE : Nat} {ea : Nat → Addr} {g : Nat} {σ : RSt} (h : stars [RdrR TE ea g σ] w F) {es : List Nat} [Has es 1] [Has es 2] (hE : GErr es w (fun k => ¬ F k) TE ea) :
    Calls Tryz.prog 137 #[.agg (List.toArray [.pointer (some ⟨g, 0, none⟩)])] w (Post w F (fun r : List Value × Signed => .agg r.1.toArray) (fun r => [pureR (Ag pSigned σ r.2 ∧ r.1.length = 4 ∧ ∀ v ∈ r.1, v.oneCell' = true), VlR RdSigned r.1 r.2, RdrR TE ea g (rstep pSigned σ)])) := by
 refine g_enter (env := [(0, .agg (List.toArray [.pointer (some ⟨g, 0, none⟩)]))]) Tryz.func137 rfl h Tryz.ntmps137 rfl rfl ?_; refine gsr (zbN fun b1 => ?_); refine zal fun b2 => ?_; refine zxs ?_; refine gp zfa ?_; refine gp zl ?_; refine zc (fun x => ?_) (c := fun w1 F1 F2 h1 h2 hd hst => rnum_ok (wd := 1) h1 (hE.mv hst.still) (by decide) (by decide))
 refine gl_pureR (fun hp6 => ?_)
 obtain ⟨g6, _⟩ := hp6; refine zxa ?_; refine zxs ?_; refine zxm ?_; refine gp zL ?_; refine zc ?_ (c := fun w1 F1 F2 h1 h2 hd hst => rsig_ok h1 (hE.mv hst.still))
 rintro ⟨q9, v9⟩
 refine gl_pureR (fun hp9 => ?_)
 obtain ⟨g9, z9, o9⟩ := hp9; replace z9 : q9.length = _ := z9
 have i9 := Len.of z9
 have j9 := One.of (show ∀ v ∈ q9, v.oneCell' = true from o9)
 refine gp zbu ?_; refine zsN ?_; refine gnt (gc_ret (gx_retc rfl rfl (ldA Ty.row_86 Ty.sz_86) ?_)); have ha : Ag pSigned σ ⟨x, v9⟩ := g6.bind (g9.bind (Ag.pure _))
 have hr : rstep pSigned σ = rstep pSig (rstep (pNum 1) (σ)) := by rw [pSigned, rstep_bind g6, rstep_bind g9, rstep_pure]
 rw [hr]; intro w' hw; refine ⟨(.int .i64 x :: q9, ⟨x, v9⟩), rfl, St.pureI ⟨ha, by first | rfl | simp only [List.length_cons, List.length_append, List.length_nil, dc_length, len_L] , all_cons' rfl o9⟩ ?_⟩
 exact (hw.conv (M := [VlR RdSig q9 v9]) (by repeat (first | exact Sel.nil | (apply Sel.cons; · (repeat (first | exact Pick.here | apply Pick.there))))) (fun _ _ => vl_signed)).z
theorem rqc1_ok {w : World} {F : Nat → Prop} {TE : Nat} {ea : Nat → Addr} {g : Nat} {σ : RSt} (h : stars [RdrR TE ea g σ] w F) {es : List Nat} [Has es 1] [Has es 2] (hE : GErr es w (fun k => ¬ F k) TE ea) :
    Calls Tryz.prog 136 #[.pointer (some ⟨g, 0, none⟩)] w (Post w F (fun r : List Value × Signed => .agg r.1.toArray) (fun r => [pureR (Ag pSigned σ r.2 ∧ r.1.length = 4 ∧ ∀ v ∈ r.1, v.oneCell' = true), VlR RdSigned r.1 r.2, RdrR TE ea g (rstep pSigned σ)])) := by
 refine g_enter (env := [(0, .pointer (some ⟨g, 0, none⟩))]) Tryz.func136 rfl h Tryz.ntmps136 rfl rfl ?_; refine gsr (zal fun b2 => ?_); refine zxs ?_; refine zxm ?_; refine gp zbu ?_; refine zc ?_ (c := fun w1 F1 F2 h1 h2 hd hst => rsigned_ok h1 (hE.mv hst.still))
 rintro ⟨q5, v5⟩
 refine gl_pureR (fun hp5 => ?_)
 obtain ⟨g5, z5, o5⟩ := hp5; replace z5 : q5.length = _ := z5
 have i5 := Len.of z5
 have j5 := One.of (show ∀ v ∈ q5, v.oneCell' = true from o5)
 refine zsN ?_; refine gnt (gc_ret (gx_retc rfl rfl (ldA Ty.row_86 Ty.sz_86) ?_)); exact fun w' hw => ⟨(q5, v5), rfl, St.pureI ⟨g5, z5, o5⟩ (hw.z)⟩
theorem takeSigneds_ok {w : World} {F : Nat → Prop} {TE : Nat} {ea : Nat → Addr} {g : Nat} {σ : RSt} (h : stars [RdrR TE ea g σ] w F) {es : List Nat} [Has es 1] [Has es 2] (hE : GErr es w (fun k => ¬ F k) TE ea) {most : Nat} (hm : most ≤ 255) :
    Calls Tryz.prog 135 #[.pointer (some ⟨g, 0, none⟩), .int .i64 (most : Int), .func (.func 136) #[] #[]] w (Post w F (fun r : Option Addr × Nat × Nat × List Signed => .slice r.1 r.2.1 r.2.2.1) (fun r => [pureR (Ag (pList pSigned most) σ r.2.2.2 ∧ r.2.1 ≤ r.2.2.1 ∧ r.2.1 = r.2.2.2.length), LsR (RdSigned) 4 r.1 r.2.1 r.2.2.2, RdrR TE ea g (rstep (pList pSigned most) σ)])) := by
 refine g_enter (env := [(0, .pointer (some ⟨g, 0, none⟩)), (1, .int .i64 (most : Int)), (2, .func (.func 136) #[] #[])]) Tryz.func135 rfl h Tryz.ntmps135 rfl rfl ?_; refine gsr (zxa ?_); refine zxs ?_; refine zxm ?_; refine zc (fun x => ?_) (c := fun w1 F1 F2 h1 h2 hd hst => rnum_ok (wd := 1) h1 (hE.mv hst.still) (by decide) (by decide))
 refine gl_pureR (fun hx => ?_)
 obtain ⟨hx, hxb⟩ := hx; have hx256 : x < 256 := by simpa using hxb
 refine zxa ?_; refine gnt (gc_join (α := RSt) (fun σ2 => [pureR ((if errOf (rstep (pNum 1) σ) = 0 ∧ most < x then failE 1 (rstep (pNum 1) σ) else rstep (pNum 1) σ) = σ2), RdrR TE ea g σ2]) (fun σ2 => []) [12, 13, 14, 15, 16, 17, 18, 19, 20, 21, 22, 23, 24, 25, 26, 27] ?_ ?_)
 ·refine gc_join (α := Bool) (fun z => [pureR (z = (decide (errOf (rstep (pNum 1) σ) = 0) && decide (most < x))), RdrR TE ea g (rstep (pNum 1) σ)]) (fun z => [(22, .bool z)]) [12, 13, 14, 15, 16, 17, 18, 19, 20, 21] ?_ ?_
  ·by_cases he : errOf (rstep (pNum 1) σ) = 0
   ·refine gc_region (zxm ?_); refine gp znc ?_; refine gp zfa ?_; refine gp zfa ?_; refine gp r_lde ?_; refine gp (r_bool (c := true) (r_eqnil rfl (by kernel_rfl)) (decide_eq_true he)) ?_; refine zxm ?_; refine gq zmv ?_; refine gq zmv ?_; refine gq (r_bool (b := decide ((most : Int) < (x : Int))) zgt rfl) ?_; refine gp zpk ?_; refine gl_nil (zjn (decide ((most : Int) < (x : Int))) ?_)
    ·exact zlp (by rw [decide_eq_true he, Bool.true_and]; exact decide_eq_decide.2 (by omega))
   ·refine gc_region (zxm ?_); refine gp znc ?_; refine gp zfa ?_; refine gp zfa ?_; refine gp r_lde ?_; refine gp (r_bool (c := false) (r_eqnil rfl (by kernel_rfl)) (decide_eq_false he)) ?_; refine zxm ?_; refine gn ?_; refine gn ?_; refine gn ?_; refine gp zpk ?_; refine gl_nil (zjn (false) ?_)
    ·exact zlp (by rw [decide_eq_false he]; rfl)
  ·intro z u; refine gc_pureR (fun hz => ?_)
   subst hz; refine gif rfl (fun hc22 => ?_) (fun hc22 => ?_)
   ·try simp only at hc22
    have hb : errOf (rstep (pNum 1) σ) = 0 ∧ most < x := by omega
    refine gc_regionT 4 (by kernel_rfl) (by kernel_rfl) ?_; refine sp zmv ?_; refine sp znc ?_; refine sp zfa ?_; refine sp (r_ld1o rfl Ty.row_27 (hE.c 1 Has.h) (hE.n 1 Has.h)) ?_; refine gs_nil ?_; refine zc (fun _ => ?_) (c := fun w1 F1 F2 h1 h2 hd hst => failR_ok (by decide) h1)
    refine gl_nil (zjn (failE 1 (rstep (pNum 1) σ)) ?_)
    ·exact zlp (if_pos hb)
   ·try simp only at hc22
    have hb : ¬ (errOf (rstep (pNum 1) σ) = 0 ∧ most < x) := by omega
    refine gc_skip (zjn ((rstep (pNum 1) σ)) ?_)
    ·exact zlp (if_neg hb)
 ·intro σ2 u; refine gc_pureR (fun hc2 => ?_)
  refine gsr (zxa ?_); refine gnt (gc_seq (gsr (zxa ?_))); refine gnt (gc_block (gc_loop (α := Nat × RSt × Option Addr × Nat × List (List Value) × List Signed) (fun y => [pureR (y.1 ≤ x ∧ Many pSigned x σ2 (x - y.1) y.2.1 y.2.2.2.2.2 ∧ (∀ c ∈ y.2.2.2.2.1, c.length = 4) ∧ y.2.2.2.2.2.length = y.1), rowR 86 4 y.2.2.1 y.1 y.2.2.2.1 y.2.2.2.2.1.flatten, ElR (RdSigned) y.2.2.2.2.1 y.2.2.2.2.2, RdrR TE ea g y.2.1]) (fun y => [(8, .slice y.2.2.1 y.1 y.2.2.2.1), (9, .int .i64 (y.1 : Int))]) [28, 29, 30, 31, 32, 33, 34, 35, 36, 37, 38, 39, 40, 41, 42, 43, 44, 45, 46] (fun y => x - y.1) (0, σ2, none, 0, [], []) ?_ ?_ ?_))
  ·refine env_start (by kernel_rfl)
  ·exact fun w' hw => zlp ⟨Nat.zero_le _, Many.start, (by intro c hc; cases hc), rfl⟩ (by repeat (first | exact Sel.nil | (apply Sel.cons; · (repeat (first | exact Pick.here | apply Pick.there))))) w' (hw.mapL fun F' hF' => stars_row_nil (e := 86) (size := 4) (el_nil (rd := RdSigned) hF'))
  ·intro y u; obtain ⟨k, τ, a, c, css, l⟩ := y; refine gc_pureR (fun hk => ?_)
   obtain ⟨hk, hmany, hcss, hll⟩ := hk; replace hk : k ≤ x := hk
   replace hll : l.length = k := hll
   replace hcss : ∀ c ∈ css, c.length = 4 := hcss
   replace hmany : Many pSigned x σ2 (x - k) τ l := hmany
   refine gc_seq (gc_seq ?_); by_cases hkx : k < x
   ·refine gc_region (zxm ?_); refine zxm ?_; refine gp (r_bool (c := true) zlt (decide_eq_true (by omega))) ?_; refine zxm ?_; refine gq zmv ?_; refine gq znc ?_; refine gq zfa ?_; refine gq zfa ?_; refine gq r_lde ?_; refine gq (r_eqnil rfl (by kernel_rfl)) ?_; refine gp zpk ?_; refine gnt (gif rfl (fun hc38 => ?_) (fun hc38 => ?_))
    ·try simp only at hc38
     have he2 : errOf τ = 0 := hc38
     refine gc_skip (gx_then (gc_seq (gc_block (gc_region (zxm ?_))))); refine zxm ?_; refine zxm ?_; refine gl_call (wt0 rfl) (e_callv (us := []) rfl Ty.call_136 rfl) (by repeat (first | exact Sel.nil | (apply Sel.cons; · (repeat (first | exact Pick.here | apply Pick.there))))) (fun w1 F1 F2 h1 h2 hd hst => rqc1_ok h1 (hE.mv hst.still)) ?_; rintro ⟨cs, v⟩
     refine gl_pureR (fun h44 => ?_)
     obtain ⟨hag, hcl, hone⟩ := h44; replace hcl : cs.length = _ := hcl
     have i1 := Len.of hcl
     have i2 := One.of (show ∀ v ∈ cs, v.oneCell' = true from hone)
     refine zeN fun b45 => ?_; refine zapo (news := cs) (fun a46 c46 => ?_)
     refine zxa ?_; refine gl_nil (gx_block_normal (gx_then (gc_region (zxm ?_)))); refine gp zad ?_; refine zxa ?_; refine gl_nil (zrd ((k + 1, rstep pSigned τ, a46, c46, css ++ [cs], l ++ [v])) ?_ ?_)
     ·show x - (k + 1) < x - k
      omega
     ·rintro w' hw
      have h1 := hw.conv (M := [ElR (RdSigned) css l, VlR (RdSigned) cs v]) (by repeat (first | exact Sel.nil | (apply Sel.cons; · (repeat (first | exact Pick.here | apply Pick.there))))) (fun _ _ => el_snoc)
      refine zlq (M' := [rowR 86 4 a46 (k + 1) c46 (css.flatten ++ cs), ElR (RdSigned) (css ++ [cs]) (l ++ [v]), RdrR TE ea g (rstep pSigned τ)]) ⟨?_, ?_, ?_, ?_⟩ (by simp) (by repeat (first | exact Sel.nil | (apply Sel.cons; · (repeat (first | exact Pick.here | apply Pick.there))))) w' h1
      ·show k + 1 ≤ x; omega
      ·rw [show x - k = x - (k + 1) + 1 by omega] at hmany; exact hmany.next hag
      ·intro c' hc'; rcases List.mem_append.1 hc' with h | h; exact hcss c' h; rw [List.mem_singleton.1 h]; exact hcl
      ·simp [hll]
    ·try simp only at hc38
     have he2 : ¬ errOf τ = 0 := hc38
     refine gc_exit ?_; refine gx_then_exit ?_; refine gx_round_exit ?_; refine gx_block_hit ?_; refine gx_then (gc_seq (gsr (zxm ?_))); refine gp znc ?_; refine gp zfa ?_; refine gp zfa ?_; refine gp r_lde ?_; refine gp (r_nenil rfl (by kernel_rfl)) ?_; refine gnt (gif rfl (fun hc52 => ?_) (fun hc52 => ?_))
     ·try simp only at hc52
      have hbad := hmany.bad hc52
      have hfin := list_fin hx hc2 ⟨hbad.1, hbad.2 []⟩
      refine gsr (zxa ?_); refine gnt (gc_ret (gx_then_ret (gx_ret1 rfl (by conv => lhs; whnf) ?_))); rw [hfin.1]; exact fun w' hw => ⟨(none, 0, 0, []), rfl, St.pureI ⟨hfin.2, Nat.le_refl _, rfl⟩ ((hw.sel (M := [RdrR TE ea g τ]) (by repeat (first | exact Sel.nil | (apply Sel.cons; · (repeat (first | exact Pick.here | apply Pick.there)))))).mapL fun F' hF' => ls_nil hF')⟩
     ·try simp only at hc52
      have hm0 : x - k = 0 := by first | omega | exact absurd hc52 he2
      rw [hm0] at hmany; have hfin := list_fin hx hc2 hmany.done
      refine gc_skip (gx_then (gsr (zxm ?_))); refine zxa ?_; refine gnt (gc_ret (gx_ret1 rfl (by conv => lhs; whnf) ?_)); rw [hfin.1]; intro w' hw; have hle := (hw.rowLe (e := 86) (size := 4) (a := a) (m := k) (c := c) (xs := css.flatten) (by repeat (first | exact Pick.here | apply Pick.there))).1
      exact ⟨(a, k, c, l), rfl, St.pureI ⟨hfin.2, hle, hll.symm⟩ ((hw.conv (M := [rowR 86 4 a k c css.flatten, ElR (RdSigned) css l]) (by repeat (first | exact Sel.nil | (apply Sel.cons; · (repeat (first | exact Pick.here | apply Pick.there))))) (fun _ _ => ls_of hcss)).z)⟩
   ·refine gc_region (zxm ?_); refine zxm ?_; refine gp (r_bool (c := false) zlt (decide_eq_false (by omega))) ?_; refine zxm ?_; refine gn ?_; refine gn ?_; refine gn ?_; refine gn ?_; refine gn ?_; refine gn ?_; refine gp zpk ?_; refine gnt (gc_condF rfl rfl ?_); refine gc_exit ?_; refine gx_then_exit ?_; refine gx_round_exit ?_; refine gx_block_hit ?_; refine gx_then (gc_seq (gsr (zxm ?_))); refine gp znc ?_; refine gp zfa ?_; refine gp zfa ?_; refine gp r_lde ?_; refine gp (r_nenil rfl (by kernel_rfl)) ?_; refine gnt (gif rfl (fun hc52 => ?_) (fun hc52 => ?_))
    ·try simp only at hc52
     have hbad := hmany.bad hc52
     have hfin := list_fin hx hc2 ⟨hbad.1, hbad.2 []⟩
     refine gsr (zxa ?_); refine gnt (gc_ret (gx_then_ret (gx_ret1 rfl (by conv => lhs; whnf) ?_))); rw [hfin.1]; exact fun w' hw => ⟨(none, 0, 0, []), rfl, St.pureI ⟨hfin.2, Nat.le_refl _, rfl⟩ ((hw.sel (M := [RdrR TE ea g τ]) (by repeat (first | exact Sel.nil | (apply Sel.cons; · (repeat (first | exact Pick.here | apply Pick.there)))))).mapL fun F' hF' => ls_nil hF')⟩
    ·try simp only at hc52
     have hm0 : x - k = 0 := by first | omega | exact absurd hc52 he2
     rw [hm0] at hmany; have hfin := list_fin hx hc2 hmany.done
     refine gc_skip (gx_then (gsr (zxm ?_))); refine zxa ?_; refine gnt (gc_ret (gx_ret1 rfl (by conv => lhs; whnf) ?_)); rw [hfin.1]; intro w' hw; have hle := (hw.rowLe (e := 86) (size := 4) (a := a) (m := k) (c := c) (xs := css.flatten) (by repeat (first | exact Pick.here | apply Pick.there))).1
     exact ⟨(a, k, c, l), rfl, St.pureI ⟨hfin.2, hle, hll.symm⟩ ((hw.conv (M := [rowR 86 4 a k c css.flatten, ElR (RdSigned) css l]) (by repeat (first | exact Sel.nil | (apply Sel.cons; · (repeat (first | exact Pick.here | apply Pick.there))))) (fun _ _ => ls_of hcss)).z)⟩
theorem rqc_ok {w : World} {F : Nat → Prop} {TE : Nat} {ea : Nat → Addr} {g : Nat} {σ : RSt} (h : stars [RdrR TE ea g σ] w F) {es : List Nat} [Has es 1] [Has es 2] (hE : GErr es w (fun k => ¬ F k) TE ea) :
    Calls Tryz.prog 110 #[.agg (List.toArray [.pointer (some ⟨g, 0, none⟩)])] w (Post w F (fun r : List Value × QC => .agg r.1.toArray) (fun r => [pureR (Ag pQC σ r.2 ∧ r.1.length = 19 ∧ ∀ v ∈ r.1, v.oneCell' = true), VlR RdQC r.1 r.2, RdrR TE ea g (rstep pQC σ)])) := by
 refine g_enter (env := [(0, .agg (List.toArray [.pointer (some ⟨g, 0, none⟩)]))]) Tryz.func110 rfl h Tryz.ntmps110 rfl rfl ?_; refine gsr (zbN fun b1 => ?_); refine zal fun b2 => ?_; refine zxs ?_; refine gp zL ?_; refine zc ?_ (c := fun w1 F1 F2 h1 h2 hd hst => rat_ok h1 (hE.mv hst.still))
 rintro ⟨x5, y5⟩
 refine gl_pureR (fun g5 => ?_)
 replace g5 : Ag pAt _ ((x5 : Int), (y5 : Int)) := g5
 refine zxm ?_; refine gp zex ?_; refine gp zex ?_; refine gp zfa ?_; refine zs1 ?_; refine gp zfa ?_; refine zs1 ?_; refine zxs ?_; refine gp zL ?_; refine zc (fun d11 => ?_) (c := fun w1 F1 F2 h1 h2 hd hst => rdigest_ok h1 (hE.mv hst.still))
 refine gl_pureR (fun g11 => ?_)
 refine gp zfa ?_; refine zsN ?_; refine zxs ?_; refine gp zfa ?_; refine gp zl ?_; refine zc ?_ (c := fun w1 F1 F2 h1 h2 hd hst => takeSigneds_ok (most := 7) h1 (hE.mv hst.still) (by decide))
 rintro ⟨a15, n15, c15, l15⟩
 refine gl_pureR (fun hp15 => ?_)
 obtain ⟨g15, k15, e15⟩ := hp15; replace g15 : Ag (pList pSigned 7) _ l15 := g15
 replace k15 : n15 ≤ c15 := k15
 refine gp zfa ?_; refine zs1 ?_; refine zxs ?_; refine gp zL ?_; refine zsN ?_; refine gnt (gc_ret (gx_retc rfl rfl (ldA Ty.row_41 Ty.sz_41) ?_)); have ha : Ag pQC σ ⟨x5, y5, d11, l15⟩ := g5.bind (g11.bind (g15.bind (Ag.pure _)))
 have hr : rstep pQC σ = rstep (pList pSigned 7) (rstep pDig (rstep pAt (σ))) := by rw [pQC, rstep_bind g5, rstep_bind g11, rstep_bind g15, rstep_pure]
 rw [hr]; intro w' hw; refine ⟨(.int .i64 x5 :: .int .i64 y5 :: (dc d11 ++ [.slice a15 n15 c15]), ⟨x5, y5, d11, l15⟩), rfl, St.pureI ⟨ha, by first | rfl | simp only [List.length_cons, List.length_append, List.length_nil, dc_length, len_L] , all_cons' rfl (all_cons' rfl (all_app' (dc_one _) (all_cons' rfl all_nil')))⟩ ?_⟩
 exact (hw.conv (M := [LsR RdSigned 4 a15 n15 l15]) (by repeat (first | exact Sel.nil | (apply Sel.cons; · (repeat (first | exact Pick.here | apply Pick.there))))) (fun _ _ => vl_qc k15)).z
end
section
attribute [local irreducible] Gl Gc Gx Gs Runs Wt
theorem rblock1_ok {w : World} {F : Nat → Prop} {TE : Nat} {ea : Nat → Addr} {g : Nat} {σ : RSt} (h : stars [RdrR TE ea g σ] w F) {es : List Nat} [Has es 1] [Has es 2] (hE : GErr es w (fun k => ¬ F k) TE ea) :
    Calls Tryz.prog 112 #[.pointer (some ⟨g, 0, none⟩)] w (Post w F (fun r : (Option Addr × Nat × Nat) × List UInt8 => .slice r.1.1 r.1.2.1 r.1.2.2) (fun r => [pureR (Ag (pBytes 16) σ r.2), VlR RdBytes [.slice r.1.1 r.1.2.1 r.1.2.2] r.2, RdrR TE ea g (rstep (pBytes 16) σ)])) := by
 refine g_enter (env := [(0, .pointer (some ⟨g, 0, none⟩))]) Tryz.func112 rfl h Tryz.ntmps112 rfl rfl ?_; refine gsr (zxa ?_); refine zxs ?_; refine zxm ?_; refine zc ?_ (c := fun w1 F1 F2 h1 h2 hd hst => rbytes_ok (most := 16) h1 (hE.mv hst.still) (by decide))
 rintro ⟨a4, c4, l4⟩
 refine gl_pureR (fun hp4 => ?_)
 obtain ⟨g4, b4⟩ := hp4; refine zxa ?_; refine gnt (gc_ret (gx_ret1 rfl (by conv => lhs; whnf) ?_)); exact fun w' hw => ⟨((a4, l4.length, c4), l4), rfl, St.pureI g4 ((hw.conv (M := [rowR 5 1 a4 l4.length c4 (l4.map B8)]) (by repeat (first | exact Sel.nil | (apply Sel.cons; · (repeat (first | exact Pick.here | apply Pick.there))))) (fun _ _ => vl_bytes)).z)⟩
theorem takeTxs_ok {w : World} {F : Nat → Prop} {TE : Nat} {ea : Nat → Addr} {g : Nat} {σ : RSt} (h : stars [RdrR TE ea g σ] w F) {es : List Nat} [Has es 1] [Has es 2] (hE : GErr es w (fun k => ¬ F k) TE ea) {most : Nat} (hm : most ≤ 255) :
    Calls Tryz.prog 111 #[.pointer (some ⟨g, 0, none⟩), .int .i64 (most : Int), .func (.func 112) #[] #[]] w (Post w F (fun r : Option Addr × Nat × Nat × List (List UInt8) => .slice r.1 r.2.1 r.2.2.1) (fun r => [pureR (Ag (pList (pBytes 16) most) σ r.2.2.2 ∧ r.2.1 ≤ r.2.2.1 ∧ r.2.1 = r.2.2.2.length), LsR (RdBytes) 1 r.1 r.2.1 r.2.2.2, RdrR TE ea g (rstep (pList (pBytes 16) most) σ)])) := by
 refine g_enter (env := [(0, .pointer (some ⟨g, 0, none⟩)), (1, .int .i64 (most : Int)), (2, .func (.func 112) #[] #[])]) Tryz.func111 rfl h Tryz.ntmps111 rfl rfl ?_; refine gsr (zxa ?_); refine zxs ?_; refine zxm ?_; refine zc (fun x => ?_) (c := fun w1 F1 F2 h1 h2 hd hst => rnum_ok (wd := 1) h1 (hE.mv hst.still) (by decide) (by decide))
 refine gl_pureR (fun hx => ?_)
 obtain ⟨hx, hxb⟩ := hx; have hx256 : x < 256 := by simpa using hxb
 refine zxa ?_; refine gnt (gc_join (α := RSt) (fun σ2 => [pureR ((if errOf (rstep (pNum 1) σ) = 0 ∧ most < x then failE 1 (rstep (pNum 1) σ) else rstep (pNum 1) σ) = σ2), RdrR TE ea g σ2]) (fun σ2 => []) [12, 13, 14, 15, 16, 17, 18, 19, 20, 21, 22, 23, 24, 25, 26, 27] ?_ ?_)
 ·refine gc_join (α := Bool) (fun z => [pureR (z = (decide (errOf (rstep (pNum 1) σ) = 0) && decide (most < x))), RdrR TE ea g (rstep (pNum 1) σ)]) (fun z => [(22, .bool z)]) [12, 13, 14, 15, 16, 17, 18, 19, 20, 21] ?_ ?_
  ·by_cases he : errOf (rstep (pNum 1) σ) = 0
   ·refine gc_region (zxm ?_); refine gp znc ?_; refine gp zfa ?_; refine gp zfa ?_; refine gp r_lde ?_; refine gp (r_bool (c := true) (r_eqnil rfl (by kernel_rfl)) (decide_eq_true he)) ?_; refine zxm ?_; refine gq zmv ?_; refine gq zmv ?_; refine gq (r_bool (b := decide ((most : Int) < (x : Int))) zgt rfl) ?_; refine gp zpk ?_; refine gl_nil (zjn (decide ((most : Int) < (x : Int))) ?_)
    ·exact zlp (by rw [decide_eq_true he, Bool.true_and]; exact decide_eq_decide.2 (by omega))
   ·refine gc_region (zxm ?_); refine gp znc ?_; refine gp zfa ?_; refine gp zfa ?_; refine gp r_lde ?_; refine gp (r_bool (c := false) (r_eqnil rfl (by kernel_rfl)) (decide_eq_false he)) ?_; refine zxm ?_; refine gn ?_; refine gn ?_; refine gn ?_; refine gp zpk ?_; refine gl_nil (zjn (false) ?_)
    ·exact zlp (by rw [decide_eq_false he]; rfl)
  ·intro z u; refine gc_pureR (fun hz => ?_)
   subst hz; refine gif rfl (fun hc22 => ?_) (fun hc22 => ?_)
   ·try simp only at hc22
    have hb : errOf (rstep (pNum 1) σ) = 0 ∧ most < x := by omega
    refine gc_regionT 4 (by kernel_rfl) (by kernel_rfl) ?_; refine sp zmv ?_; refine sp znc ?_; refine sp zfa ?_; refine sp (r_ld1o rfl Ty.row_27 (hE.c 1 Has.h) (hE.n 1 Has.h)) ?_; refine gs_nil ?_; refine zc (fun _ => ?_) (c := fun w1 F1 F2 h1 h2 hd hst => failR_ok (by decide) h1)
    refine gl_nil (zjn (failE 1 (rstep (pNum 1) σ)) ?_)
    ·exact zlp (if_pos hb)
   ·try simp only at hc22
    have hb : ¬ (errOf (rstep (pNum 1) σ) = 0 ∧ most < x) := by omega
    refine gc_skip (zjn ((rstep (pNum 1) σ)) ?_)
    ·exact zlp (if_neg hb)
 ·intro σ2 u; refine gc_pureR (fun hc2 => ?_)
  refine gsr (zxa ?_); refine gnt (gc_seq (gsr (zxa ?_))); refine gnt (gc_block (gc_loop (α := Nat × RSt × Option Addr × Nat × List (List Value) × List (List UInt8)) (fun y => [pureR (y.1 ≤ x ∧ Many (pBytes 16) x σ2 (x - y.1) y.2.1 y.2.2.2.2.2 ∧ (∀ c ∈ y.2.2.2.2.1, c.length = 1) ∧ y.2.2.2.2.2.length = y.1), rowR 49 1 y.2.2.1 y.1 y.2.2.2.1 y.2.2.2.2.1.flatten, ElR (RdBytes) y.2.2.2.2.1 y.2.2.2.2.2, RdrR TE ea g y.2.1]) (fun y => [(8, .slice y.2.2.1 y.1 y.2.2.2.1), (9, .int .i64 (y.1 : Int))]) [28, 29, 30, 31, 32, 33, 34, 35, 36, 37, 38, 39, 40, 41, 42, 43, 44, 45, 46] (fun y => x - y.1) (0, σ2, none, 0, [], []) ?_ ?_ ?_))
  ·refine env_start (by kernel_rfl)
  ·exact fun w' hw => zlp ⟨Nat.zero_le _, Many.start, (by intro c hc; cases hc), rfl⟩ (by repeat (first | exact Sel.nil | (apply Sel.cons; · (repeat (first | exact Pick.here | apply Pick.there))))) w' (hw.mapL fun F' hF' => stars_row_nil (e := 49) (size := 1) (el_nil (rd := RdBytes) hF'))
  ·intro y u; obtain ⟨k, τ, a, c, css, l⟩ := y; refine gc_pureR (fun hk => ?_)
   obtain ⟨hk, hmany, hcss, hll⟩ := hk; replace hk : k ≤ x := hk
   replace hll : l.length = k := hll
   replace hcss : ∀ c ∈ css, c.length = 1 := hcss
   replace hmany : Many (pBytes 16) x σ2 (x - k) τ l := hmany
   refine gc_seq (gc_seq ?_); by_cases hkx : k < x
   ·refine gc_region (zxm ?_); refine zxm ?_; refine gp (r_bool (c := true) zlt (decide_eq_true (by omega))) ?_; refine zxm ?_; refine gq zmv ?_; refine gq znc ?_; refine gq zfa ?_; refine gq zfa ?_; refine gq r_lde ?_; refine gq (r_eqnil rfl (by kernel_rfl)) ?_; refine gp zpk ?_; refine gnt (gif rfl (fun hc38 => ?_) (fun hc38 => ?_))
    ·try simp only at hc38
     have he2 : errOf τ = 0 := hc38
     refine gc_skip (gx_then (gc_seq (gc_block (gc_region (zxm ?_))))); refine zxm ?_; refine zxm ?_; refine gl_call (wt0 rfl) (e_callv (us := []) rfl Ty.call_112 rfl) (by repeat (first | exact Sel.nil | (apply Sel.cons; · (repeat (first | exact Pick.here | apply Pick.there))))) (fun w1 F1 F2 h1 h2 hd hst => rblock1_ok h1 (hE.mv hst.still)) ?_; rintro ⟨⟨a4, n4, c4⟩, v⟩
     refine gl_pureR (fun hag => ?_)
     obtain ⟨cs, hcs⟩ : ∃ cs : List Value, cs = [.slice a4 n4 c4] := ⟨_, rfl⟩; have hcl : cs.length = 1 := by rw [hcs]; rfl
     have i2 := One.of (l := cs) (by rw [hcs]; exact all_cons' rfl all_nil')
     refine ze1 fun b45 => ?_; rw [← hcs]; refine zapo (news := cs) (fun a46 c46 => ?_)
     refine zxa ?_; refine gl_nil (gx_block_normal (gx_then (gc_region (zxm ?_)))); refine gp zad ?_; refine zxa ?_; refine gl_nil (zrd ((k + 1, rstep (pBytes 16) τ, a46, c46, css ++ [cs], l ++ [v])) ?_ ?_)
     ·show x - (k + 1) < x - k
      omega
     ·rintro w' hw
      have h1 := hw.conv (M := [ElR (RdBytes) css l, VlR (RdBytes) cs v]) (by repeat (first | exact Sel.nil | (apply Sel.cons; · (repeat (first | exact Pick.here | apply Pick.there))))) (fun _ _ => el_snoc)
      refine zlq (M' := [rowR 49 1 a46 (k + 1) c46 (css.flatten ++ cs), ElR (RdBytes) (css ++ [cs]) (l ++ [v]), RdrR TE ea g (rstep (pBytes 16) τ)]) ⟨?_, ?_, ?_, ?_⟩ (by simp) (by repeat (first | exact Sel.nil | (apply Sel.cons; · (repeat (first | exact Pick.here | apply Pick.there))))) w' h1
      ·show k + 1 ≤ x; omega
      ·rw [show x - k = x - (k + 1) + 1 by omega] at hmany; exact hmany.next hag
      ·intro c' hc'; rcases List.mem_append.1 hc' with h | h; exact hcss c' h; rw [List.mem_singleton.1 h]; exact hcl
      ·simp [hll]
    ·try simp only at hc38
     have he2 : ¬ errOf τ = 0 := hc38
     refine gc_exit ?_; refine gx_then_exit ?_; refine gx_round_exit ?_; refine gx_block_hit ?_; refine gx_then (gc_seq (gsr (zxm ?_))); refine gp znc ?_; refine gp zfa ?_; refine gp zfa ?_; refine gp r_lde ?_; refine gp (r_nenil rfl (by kernel_rfl)) ?_; refine gnt (gif rfl (fun hc52 => ?_) (fun hc52 => ?_))
     ·try simp only at hc52
      have hbad := hmany.bad hc52
      have hfin := list_fin hx hc2 ⟨hbad.1, hbad.2 []⟩
      refine gsr (zxa ?_); refine gnt (gc_ret (gx_then_ret (gx_ret1 rfl (by conv => lhs; whnf) ?_))); rw [hfin.1]; exact fun w' hw => ⟨(none, 0, 0, []), rfl, St.pureI ⟨hfin.2, Nat.le_refl _, rfl⟩ ((hw.sel (M := [RdrR TE ea g τ]) (by repeat (first | exact Sel.nil | (apply Sel.cons; · (repeat (first | exact Pick.here | apply Pick.there)))))).mapL fun F' hF' => ls_nil hF')⟩
     ·try simp only at hc52
      have hm0 : x - k = 0 := by first | omega | exact absurd hc52 he2
      rw [hm0] at hmany; have hfin := list_fin hx hc2 hmany.done
      refine gc_skip (gx_then (gsr (zxm ?_))); refine zxa ?_; refine gnt (gc_ret (gx_ret1 rfl (by conv => lhs; whnf) ?_)); rw [hfin.1]; intro w' hw; have hle := (hw.rowLe (e := 49) (size := 1) (a := a) (m := k) (c := c) (xs := css.flatten) (by repeat (first | exact Pick.here | apply Pick.there))).1
      exact ⟨(a, k, c, l), rfl, St.pureI ⟨hfin.2, hle, hll.symm⟩ ((hw.conv (M := [rowR 49 1 a k c css.flatten, ElR (RdBytes) css l]) (by repeat (first | exact Sel.nil | (apply Sel.cons; · (repeat (first | exact Pick.here | apply Pick.there))))) (fun _ _ => ls_of hcss)).z)⟩
   ·refine gc_region (zxm ?_); refine zxm ?_; refine gp (r_bool (c := false) zlt (decide_eq_false (by omega))) ?_; refine zxm ?_; refine gn ?_; refine gn ?_; refine gn ?_; refine gn ?_; refine gn ?_; refine gn ?_; refine gp zpk ?_; refine gnt (gc_condF rfl rfl ?_); refine gc_exit ?_; refine gx_then_exit ?_; refine gx_round_exit ?_; refine gx_block_hit ?_; refine gx_then (gc_seq (gsr (zxm ?_))); refine gp znc ?_; refine gp zfa ?_; refine gp zfa ?_; refine gp r_lde ?_; refine gp (r_nenil rfl (by kernel_rfl)) ?_; refine gnt (gif rfl (fun hc52 => ?_) (fun hc52 => ?_))
    ·try simp only at hc52
     have hbad := hmany.bad hc52
     have hfin := list_fin hx hc2 ⟨hbad.1, hbad.2 []⟩
     refine gsr (zxa ?_); refine gnt (gc_ret (gx_then_ret (gx_ret1 rfl (by conv => lhs; whnf) ?_))); rw [hfin.1]; exact fun w' hw => ⟨(none, 0, 0, []), rfl, St.pureI ⟨hfin.2, Nat.le_refl _, rfl⟩ ((hw.sel (M := [RdrR TE ea g τ]) (by repeat (first | exact Sel.nil | (apply Sel.cons; · (repeat (first | exact Pick.here | apply Pick.there)))))).mapL fun F' hF' => ls_nil hF')⟩
    ·try simp only at hc52
     have hm0 : x - k = 0 := by first | omega | exact absurd hc52 he2
     rw [hm0] at hmany; have hfin := list_fin hx hc2 hmany.done
     refine gc_skip (gx_then (gsr (zxm ?_))); refine zxa ?_; refine gnt (gc_ret (gx_ret1 rfl (by conv => lhs; whnf) ?_)); rw [hfin.1]; intro w' hw; have hle := (hw.rowLe (e := 49) (size := 1) (a := a) (m := k) (c := c) (xs := css.flatten) (by repeat (first | exact Pick.here | apply Pick.there))).1
     exact ⟨(a, k, c, l), rfl, St.pureI ⟨hfin.2, hle, hll.symm⟩ ((hw.conv (M := [rowR 49 1 a k c css.flatten, ElR (RdBytes) css l]) (by repeat (first | exact Sel.nil | (apply Sel.cons; · (repeat (first | exact Pick.here | apply Pick.there))))) (fun _ _ => ls_of hcss)).z)⟩
theorem rblock2_ok {w : World} {F : Nat → Prop} {TE : Nat} {ea : Nat → Addr} {g : Nat} {σ : RSt} (h : stars [RdrR TE ea g σ] w F) {es : List Nat} [Has es 1] [Has es 2] (hE : GErr es w (fun k => ¬ F k) TE ea) :
    Calls Tryz.prog 114 #[.pointer (some ⟨g, 0, none⟩)] w (Post w F (fun r : Vdr => .agg (List.toArray (dc r.key ++ [.int .i64 r.power]))) (fun r => [pureR (Ag pVdr σ r), RdrR TE ea g (rstep pVdr σ)])) := by
 refine g_enter (env := [(0, .pointer (some ⟨g, 0, none⟩))]) Tryz.func114 rfl h Tryz.ntmps114 rfl rfl ?_; refine gsr (zal fun b2 => ?_); refine zxs ?_; refine zxm ?_; refine zc (fun d4 => ?_) (c := fun w1 F1 F2 h1 h2 hd hst => takeDigest_ok h1 (hE.mv hst.still))
 refine gl_pureR (fun g4 => ?_)
 refine gp zfa ?_; refine zsN ?_; refine zxs ?_; refine zxm ?_; refine zc (fun y => ?_) (c := fun w1 F1 F2 h1 h2 hd hst => rnum_ok (wd := 6) h1 (hE.mv hst.still) (by decide) (by decide))
 refine gl_pureR (fun hp7 => ?_)
 obtain ⟨g7, _⟩ := hp7; refine gp zfa ?_; refine zs1 ?_; refine zxs ?_; refine gp zL ?_; refine zsN ?_; refine gnt (gc_ret (gx_retc rfl rfl (ldA Ty.row_152 Ty.sz_152) ?_)); have ha : Ag pVdr σ ⟨d4, y⟩ := g4.bind (g7.bind (Ag.pure _))
 have hr : rstep pVdr σ = rstep (pNum 6) (rstep pDig (σ)) := by rw [pVdr, rstep_bind g4, rstep_bind g7, rstep_pure]
 rw [hr]; exact fun w' hw => ⟨⟨d4, y⟩, rfl, St.pureI ha (hw.z)⟩
theorem takeVdrs_ok {w : World} {F : Nat → Prop} {TE : Nat} {ea : Nat → Addr} {g : Nat} {σ : RSt} (h : stars [RdrR TE ea g σ] w F) {es : List Nat} [Has es 1] [Has es 2] (hE : GErr es w (fun k => ¬ F k) TE ea) {most : Nat} (hm : most ≤ 255) :
    Calls Tryz.prog 113 #[.pointer (some ⟨g, 0, none⟩), .int .i64 (most : Int), .func (.func 114) #[] #[]] w (Post w F (fun r : Option Addr × Nat × Nat × List Vdr => .slice r.1 r.2.1 r.2.2.1) (fun r => [pureR (Ag (pList pVdr most) σ r.2.2.2 ∧ r.2.1 ≤ r.2.2.1 ∧ r.2.1 = r.2.2.2.length), LsR (fun _ _ => RdVdr) 17 r.1 r.2.1 r.2.2.2, RdrR TE ea g (rstep (pList pVdr most) σ)])) := by
 refine g_enter (env := [(0, .pointer (some ⟨g, 0, none⟩)), (1, .int .i64 (most : Int)), (2, .func (.func 114) #[] #[])]) Tryz.func113 rfl h Tryz.ntmps113 rfl rfl ?_; refine gsr (zxa ?_); refine zxs ?_; refine zxm ?_; refine zc (fun x => ?_) (c := fun w1 F1 F2 h1 h2 hd hst => rnum_ok (wd := 1) h1 (hE.mv hst.still) (by decide) (by decide))
 refine gl_pureR (fun hx => ?_)
 obtain ⟨hx, hxb⟩ := hx; have hx256 : x < 256 := by simpa using hxb
 refine zxa ?_; refine gnt (gc_join (α := RSt) (fun σ2 => [pureR ((if errOf (rstep (pNum 1) σ) = 0 ∧ most < x then failE 1 (rstep (pNum 1) σ) else rstep (pNum 1) σ) = σ2), RdrR TE ea g σ2]) (fun σ2 => []) [12, 13, 14, 15, 16, 17, 18, 19, 20, 21, 22, 23, 24, 25, 26, 27] ?_ ?_)
 ·refine gc_join (α := Bool) (fun z => [pureR (z = (decide (errOf (rstep (pNum 1) σ) = 0) && decide (most < x))), RdrR TE ea g (rstep (pNum 1) σ)]) (fun z => [(22, .bool z)]) [12, 13, 14, 15, 16, 17, 18, 19, 20, 21] ?_ ?_
  ·by_cases he : errOf (rstep (pNum 1) σ) = 0
   ·refine gc_region (zxm ?_); refine gp znc ?_; refine gp zfa ?_; refine gp zfa ?_; refine gp r_lde ?_; refine gp (r_bool (c := true) (r_eqnil rfl (by kernel_rfl)) (decide_eq_true he)) ?_; refine zxm ?_; refine gq zmv ?_; refine gq zmv ?_; refine gq (r_bool (b := decide ((most : Int) < (x : Int))) zgt rfl) ?_; refine gp zpk ?_; refine gl_nil (zjn (decide ((most : Int) < (x : Int))) ?_)
    ·exact zlp (by rw [decide_eq_true he, Bool.true_and]; exact decide_eq_decide.2 (by omega))
   ·refine gc_region (zxm ?_); refine gp znc ?_; refine gp zfa ?_; refine gp zfa ?_; refine gp r_lde ?_; refine gp (r_bool (c := false) (r_eqnil rfl (by kernel_rfl)) (decide_eq_false he)) ?_; refine zxm ?_; refine gn ?_; refine gn ?_; refine gn ?_; refine gp zpk ?_; refine gl_nil (zjn (false) ?_)
    ·exact zlp (by rw [decide_eq_false he]; rfl)
  ·intro z u; refine gc_pureR (fun hz => ?_)
   subst hz; refine gif rfl (fun hc22 => ?_) (fun hc22 => ?_)
   ·try simp only at hc22
    have hb : errOf (rstep (pNum 1) σ) = 0 ∧ most < x := by omega
    refine gc_regionT 4 (by kernel_rfl) (by kernel_rfl) ?_; refine sp zmv ?_; refine sp znc ?_; refine sp zfa ?_; refine sp (r_ld1o rfl Ty.row_27 (hE.c 1 Has.h) (hE.n 1 Has.h)) ?_; refine gs_nil ?_; refine zc (fun _ => ?_) (c := fun w1 F1 F2 h1 h2 hd hst => failR_ok (by decide) h1)
    refine gl_nil (zjn (failE 1 (rstep (pNum 1) σ)) ?_)
    ·exact zlp (if_pos hb)
   ·try simp only at hc22
    have hb : ¬ (errOf (rstep (pNum 1) σ) = 0 ∧ most < x) := by omega
    refine gc_skip (zjn ((rstep (pNum 1) σ)) ?_)
    ·exact zlp (if_neg hb)
 ·intro σ2 u; refine gc_pureR (fun hc2 => ?_)
  refine gsr (zxa ?_); refine gnt (gc_seq (gsr (zxa ?_))); refine gnt (gc_block (gc_loop (α := Nat × RSt × Option Addr × Nat × List (List Value) × List Vdr) (fun y => [pureR (y.1 ≤ x ∧ Many pVdr x σ2 (x - y.1) y.2.1 y.2.2.2.2.2 ∧ (∀ c ∈ y.2.2.2.2.1, c.length = 17) ∧ y.2.2.2.2.2.length = y.1), rowR 152 17 y.2.2.1 y.1 y.2.2.2.1 y.2.2.2.2.1.flatten, ElR (fun _ _ => RdVdr) y.2.2.2.2.1 y.2.2.2.2.2, RdrR TE ea g y.2.1]) (fun y => [(8, .slice y.2.2.1 y.1 y.2.2.2.1), (9, .int .i64 (y.1 : Int))]) [28, 29, 30, 31, 32, 33, 34, 35, 36, 37, 38, 39, 40, 41, 42, 43, 44, 45, 46] (fun y => x - y.1) (0, σ2, none, 0, [], []) ?_ ?_ ?_))
  ·refine env_start (by kernel_rfl)
  ·exact fun w' hw => zlp ⟨Nat.zero_le _, Many.start, (by intro c hc; cases hc), rfl⟩ (by repeat (first | exact Sel.nil | (apply Sel.cons; · (repeat (first | exact Pick.here | apply Pick.there))))) w' (hw.mapL fun F' hF' => stars_row_nil (e := 152) (size := 17) (el_nil (rd := fun _ _ => RdVdr) hF'))
  ·intro y u; obtain ⟨k, τ, a, c, css, l⟩ := y; refine gc_pureR (fun hk => ?_)
   obtain ⟨hk, hmany, hcss, hll⟩ := hk; replace hk : k ≤ x := hk
   replace hll : l.length = k := hll
   replace hcss : ∀ c ∈ css, c.length = 17 := hcss
   replace hmany : Many pVdr x σ2 (x - k) τ l := hmany
   refine gc_seq (gc_seq ?_); by_cases hkx : k < x
   ·refine gc_region (zxm ?_); refine zxm ?_; refine gp (r_bool (c := true) zlt (decide_eq_true (by omega))) ?_; refine zxm ?_; refine gq zmv ?_; refine gq znc ?_; refine gq zfa ?_; refine gq zfa ?_; refine gq r_lde ?_; refine gq (r_eqnil rfl (by kernel_rfl)) ?_; refine gp zpk ?_; refine gnt (gif rfl (fun hc38 => ?_) (fun hc38 => ?_))
    ·try simp only at hc38
     have he2 : errOf τ = 0 := hc38
     refine gc_skip (gx_then (gc_seq (gc_block (gc_region (zxm ?_))))); refine zxm ?_; refine zxm ?_; refine gl_call (wt0 rfl) (e_callv (us := []) rfl Ty.call_114 rfl) (by repeat (first | exact Sel.nil | (apply Sel.cons; · (repeat (first | exact Pick.here | apply Pick.there))))) (fun w1 F1 F2 h1 h2 hd hst => rblock2_ok h1 (hE.mv hst.still)) ?_; intro v; refine gl_pureR (fun hag => ?_)
     obtain ⟨cs, hcs⟩ : ∃ cs, cs = dc v.key ++ [.int .i64 v.power] := ⟨_, rfl⟩; have hcl : cs.length = 17 := by rw [hcs]; simp [dc_length]
     rw [← hcs]; have i1 := Len.of hcl
     have i2 := One.of (l := cs) (by rw [hcs]; exact all_app' (dc_one _) (all_cons' rfl all_nil'))
     refine gl_conv (M := []) (N := [VlR (fun _ _ => RdVdr) cs v]) Sel.nil (fun w F hF => vl_pure (show RdVdr cs v from hcs) hF) ?_; refine zeN fun b45 => ?_; refine zapo (news := cs) (fun a46 c46 => ?_)
     refine zxa ?_; refine gl_nil (gx_block_normal (gx_then (gc_region (zxm ?_)))); refine gp zad ?_; refine zxa ?_; refine gl_nil (zrd ((k + 1, rstep pVdr τ, a46, c46, css ++ [cs], l ++ [v])) ?_ ?_)
     ·show x - (k + 1) < x - k
      omega
     ·rintro w' hw
      have h1 := hw.conv (M := [ElR (fun _ _ => RdVdr) css l, VlR (fun _ _ => RdVdr) cs v]) (by repeat (first | exact Sel.nil | (apply Sel.cons; · (repeat (first | exact Pick.here | apply Pick.there))))) (fun _ _ => el_snoc)
      refine zlq (M' := [rowR 152 17 a46 (k + 1) c46 (css.flatten ++ cs), ElR (fun _ _ => RdVdr) (css ++ [cs]) (l ++ [v]), RdrR TE ea g (rstep pVdr τ)]) ⟨?_, ?_, ?_, ?_⟩ (by simp) (by repeat (first | exact Sel.nil | (apply Sel.cons; · (repeat (first | exact Pick.here | apply Pick.there))))) w' h1
      ·show k + 1 ≤ x; omega
      ·rw [show x - k = x - (k + 1) + 1 by omega] at hmany; exact hmany.next hag
      ·intro c' hc'; rcases List.mem_append.1 hc' with h | h; exact hcss c' h; rw [List.mem_singleton.1 h]; exact hcl
      ·simp [hll]
    ·try simp only at hc38
     have he2 : ¬ errOf τ = 0 := hc38
     refine gc_exit ?_; refine gx_then_exit ?_; refine gx_round_exit ?_; refine gx_block_hit ?_; refine gx_then (gc_seq (gsr (zxm ?_))); refine gp znc ?_; refine gp zfa ?_; refine gp zfa ?_; refine gp r_lde ?_; refine gp (r_nenil rfl (by kernel_rfl)) ?_; refine gnt (gif rfl (fun hc52 => ?_) (fun hc52 => ?_))
     ·try simp only at hc52
      have hbad := hmany.bad hc52
      have hfin := list_fin hx hc2 ⟨hbad.1, hbad.2 []⟩
      refine gsr (zxa ?_); refine gnt (gc_ret (gx_then_ret (gx_ret1 rfl (by conv => lhs; whnf) ?_))); rw [hfin.1]; exact fun w' hw => ⟨(none, 0, 0, []), rfl, St.pureI ⟨hfin.2, Nat.le_refl _, rfl⟩ ((hw.sel (M := [RdrR TE ea g τ]) (by repeat (first | exact Sel.nil | (apply Sel.cons; · (repeat (first | exact Pick.here | apply Pick.there)))))).mapL fun F' hF' => ls_nil hF')⟩
     ·try simp only at hc52
      have hm0 : x - k = 0 := by first | omega | exact absurd hc52 he2
      rw [hm0] at hmany; have hfin := list_fin hx hc2 hmany.done
      refine gc_skip (gx_then (gsr (zxm ?_))); refine zxa ?_; refine gnt (gc_ret (gx_ret1 rfl (by conv => lhs; whnf) ?_)); rw [hfin.1]; intro w' hw; have hle := (hw.rowLe (e := 152) (size := 17) (a := a) (m := k) (c := c) (xs := css.flatten) (by repeat (first | exact Pick.here | apply Pick.there))).1
      exact ⟨(a, k, c, l), rfl, St.pureI ⟨hfin.2, hle, hll.symm⟩ ((hw.conv (M := [rowR 152 17 a k c css.flatten, ElR (fun _ _ => RdVdr) css l]) (by repeat (first | exact Sel.nil | (apply Sel.cons; · (repeat (first | exact Pick.here | apply Pick.there))))) (fun _ _ => ls_of hcss)).z)⟩
   ·refine gc_region (zxm ?_); refine zxm ?_; refine gp (r_bool (c := false) zlt (decide_eq_false (by omega))) ?_; refine zxm ?_; refine gn ?_; refine gn ?_; refine gn ?_; refine gn ?_; refine gn ?_; refine gn ?_; refine gp zpk ?_; refine gnt (gc_condF rfl rfl ?_); refine gc_exit ?_; refine gx_then_exit ?_; refine gx_round_exit ?_; refine gx_block_hit ?_; refine gx_then (gc_seq (gsr (zxm ?_))); refine gp znc ?_; refine gp zfa ?_; refine gp zfa ?_; refine gp r_lde ?_; refine gp (r_nenil rfl (by kernel_rfl)) ?_; refine gnt (gif rfl (fun hc52 => ?_) (fun hc52 => ?_))
    ·try simp only at hc52
     have hbad := hmany.bad hc52
     have hfin := list_fin hx hc2 ⟨hbad.1, hbad.2 []⟩
     refine gsr (zxa ?_); refine gnt (gc_ret (gx_then_ret (gx_ret1 rfl (by conv => lhs; whnf) ?_))); rw [hfin.1]; exact fun w' hw => ⟨(none, 0, 0, []), rfl, St.pureI ⟨hfin.2, Nat.le_refl _, rfl⟩ ((hw.sel (M := [RdrR TE ea g τ]) (by repeat (first | exact Sel.nil | (apply Sel.cons; · (repeat (first | exact Pick.here | apply Pick.there)))))).mapL fun F' hF' => ls_nil hF')⟩
    ·try simp only at hc52
     have hm0 : x - k = 0 := by first | omega | exact absurd hc52 he2
     rw [hm0] at hmany; have hfin := list_fin hx hc2 hmany.done
     refine gc_skip (gx_then (gsr (zxm ?_))); refine zxa ?_; refine gnt (gc_ret (gx_ret1 rfl (by conv => lhs; whnf) ?_)); rw [hfin.1]; intro w' hw; have hle := (hw.rowLe (e := 152) (size := 17) (a := a) (m := k) (c := c) (xs := css.flatten) (by repeat (first | exact Pick.here | apply Pick.there))).1
     exact ⟨(a, k, c, l), rfl, St.pureI ⟨hfin.2, hle, hll.symm⟩ ((hw.conv (M := [rowR 152 17 a k c css.flatten, ElR (fun _ _ => RdVdr) css l]) (by repeat (first | exact Sel.nil | (apply Sel.cons; · (repeat (first | exact Pick.here | apply Pick.there))))) (fun _ _ => ls_of hcss)).z)⟩
theorem rblock_ok {w : World} {F : Nat → Prop} {TE : Nat} {ea : Nat → Addr} {g : Nat} {σ : RSt} (h : stars [RdrR TE ea g σ] w F) {es : List Nat} [Has es 1] [Has es 2] (hE : GErr es w (fun k => ¬ F k) TE ea) :
    Calls Tryz.prog 79 #[.agg (List.toArray [.pointer (some ⟨g, 0, none⟩)])] w (Post w F (fun r : List Value × Block => .agg r.1.toArray) (fun r => [pureR (Ag pBlock σ r.2 ∧ r.1.length = 39 ∧ ∀ v ∈ r.1, v.oneCell' = true), VlR RdBlock r.1 r.2, RdrR TE ea g (rstep pBlock σ)])) := by
 refine g_enter (env := [(0, .agg (List.toArray [.pointer (some ⟨g, 0, none⟩)]))]) Tryz.func79 rfl h Tryz.ntmps79 rfl rfl ?_; refine gsr (zbN fun b1 => ?_); refine zal fun b2 => ?_; refine zxs ?_; refine gp zL ?_; refine zc ?_ (c := fun w1 F1 F2 h1 h2 hd hst => rat_ok h1 (hE.mv hst.still))
 rintro ⟨x5, y5⟩
 refine gl_pureR (fun g5 => ?_)
 replace g5 : Ag pAt _ ((x5 : Int), (y5 : Int)) := g5
 refine zxm ?_; refine gp zex ?_; refine gp zex ?_; refine gp zfa ?_; refine zs1 ?_; refine gp zfa ?_; refine zs1 ?_; refine zxs ?_; refine gp zL ?_; refine zc (fun d11 => ?_) (c := fun w1 F1 F2 h1 h2 hd hst => rdigest_ok h1 (hE.mv hst.still))
 refine gl_pureR (fun g11 => ?_)
 refine gp zfa ?_; refine zsN ?_; refine zxs ?_; refine gp zL ?_; refine zc ?_ (c := fun w1 F1 F2 h1 h2 hd hst => rqc_ok h1 (hE.mv hst.still))
 rintro ⟨q14, v14⟩
 refine gl_pureR (fun hp14 => ?_)
 obtain ⟨g14, z14, o14⟩ := hp14; replace z14 : q14.length = _ := z14
 have i14 := Len.of z14
 have j14 := One.of (show ∀ v ∈ q14, v.oneCell' = true from o14)
 refine gp zfa ?_; refine zsN ?_; refine zxs ?_; refine gp zfa ?_; refine gp zl ?_; refine zc ?_ (c := fun w1 F1 F2 h1 h2 hd hst => takeTxs_ok (most := 4) h1 (hE.mv hst.still) (by decide))
 rintro ⟨a18, n18, c18, l18⟩
 refine gl_pureR (fun hp18 => ?_)
 obtain ⟨g18, k18, e18⟩ := hp18; replace g18 : Ag (pList (pBytes 16) 4) _ l18 := g18
 replace k18 : n18 ≤ c18 := k18
 refine gp zfa ?_; refine zs1 ?_; refine zxs ?_; refine gp zfa ?_; refine gp zl ?_; refine zc ?_ (c := fun w1 F1 F2 h1 h2 hd hst => takeVdrs_ok (most := 7) h1 (hE.mv hst.still) (by decide))
 rintro ⟨a22, n22, c22, l22⟩
 refine gl_pureR (fun hp22 => ?_)
 obtain ⟨g22, k22, e22⟩ := hp22; replace g22 : Ag (pList pVdr 7) _ l22 := g22
 replace k22 : n22 ≤ c22 := k22
 refine gp zfa ?_; refine zs1 ?_; refine zxs ?_; refine gp zL ?_; refine zsN ?_; refine gnt (gc_ret (gx_retc rfl rfl (ldA Ty.row_45 Ty.sz_45) ?_)); have ha : Ag pBlock σ ⟨x5, y5, d11, v14, l18, l22⟩ := g5.bind (g11.bind (g14.bind (g18.bind (g22.bind (Ag.pure _)))))
 have hr : rstep pBlock σ = rstep (pList pVdr 7) (rstep (pList (pBytes 16) 4) (rstep pQC (rstep pDig (rstep pAt (σ))))) := by rw [pBlock, rstep_bind g5, rstep_bind g11, rstep_bind g14, rstep_bind g18, rstep_bind g22, rstep_pure]
 rw [hr]; intro w' hw; refine ⟨(.int .i64 x5 :: .int .i64 y5 :: (dc d11 ++ (q14 ++ [.slice a18 n18 c18, .slice a22 n22 c22])), ⟨x5, y5, d11, v14, l18, l22⟩), rfl, St.pureI ⟨ha, by first | rfl | simp only [List.length_cons, List.length_append, List.length_nil, dc_length, len_L] , all_cons' rfl (all_cons' rfl (all_app' (dc_one _) (all_app' o14 (all_cons' rfl (all_cons' rfl all_nil')))))⟩ ?_⟩
 exact (hw.conv (M := [VlR RdQC q14 v14, LsR RdBytes 1 a18 n18 l18, LsR (fun _ _ => RdVdr) 17 a22 n22 l22]) (by repeat (first | exact Sel.nil | (apply Sel.cons; · (repeat (first | exact Pick.here | apply Pick.there))))) (fun _ _ => vl_block k18 k22)).z
end
section
def nilS : Value := .slice none 0 0
def i0 : Value := .int .i64 0
def sigC : List Value := [i0, nilS, nilS]
def sgnC : List Value := i0 :: sigC
def qcC : List Value := i0 :: i0 :: (dc dig0 ++ [nilS])
def tcC : List Value := [i0, i0, nilS]
def blkC : List Value := i0 :: i0 :: (dc dig0 ++ (qcC ++ [nilS, nilS]))
section zero
variable {w : World} {A : Nat → Prop}
theorem rdQC0 : RdQC w A qcC qc0 := ⟨none, 0, 0, rfl, Nat.le_refl _, RdList.nil⟩
theorem rdBlock0 : RdBlock w A blkC blk0 := ⟨qcC, none, 0, 0, none, 0, 0, rfl, rdQC0, Nat.le_refl _, RdList.nil, Nat.le_refl _, RdList.nil⟩
end zero
def voteC : List Value := i0 :: i0 :: (dc dig0 ++ sgnC)
def tmoC : List Value := i0 :: i0 :: (qcC ++ (tcC ++ sgnC))
def propC : List Value := blkC ++ (tcC ++ sgnC)
def chgC : List Value := [blkC, blkC, blkC].flatten ++ qcC
section zero2
variable {w : World} {A : Nat → Prop}
theorem rdChg0 : RdChg w A chgC chg0 := ⟨[blkC, blkC, blkC], qcC, rfl, (by intro x hx; simp only [List.mem_cons, List.not_mem_nil, or_false, or_self] at hx; subst hx; exact (rdBlock0 (w := w) (A := A)).len), rfl, rfl,
    (by intro i x b h1 h2
        have hx : x = blkC := by
          have := List.mem_of_getElem? h1
          simp only [List.mem_cons, List.not_mem_nil, or_false, or_self] at this; exact this
        have hb : b = blk0 := by
          have := List.mem_of_getElem? h2
          simp only [chg0, List.mem_cons, List.not_mem_nil, or_false, or_self] at this; exact this
        subst hx; subst hb; exact rdBlock0), rdQC0⟩
end zero2
def msgC (k : Int) (a b : Dig) : List Value := .int .i64 k :: (voteC ++ (tmoC ++ (propC ++ (dc a ++ (dc b ++ (blkC ++ chgC))))))
end
section
instance : Len voteC 22 := ⟨rfl⟩
instance : Len tmoC 28 := ⟨rfl⟩
instance : Len propC 46 := ⟨rfl⟩
instance : Len blkC 39 := ⟨rfl⟩
instance : Len chgC 136 := ⟨rfl⟩
instance : Len qcC 19 := ⟨rfl⟩
instance : Len sgnC 4 := ⟨rfl⟩
instance : Len tcC 3 := ⟨rfl⟩
theorem one_qcC : ∀ v ∈ qcC, v.oneCell' = true := (rdQC0 (w := default) (A := fun _ => True)).one
section
variable {w : World} {F : Nat → Prop}
end
def doneE : RSt → Nat
  | .error e => e
  | .ok [] => 0
  | .ok _ => 3
attribute [local irreducible] Gl Gc Gx Gs Runs Wt
theorem rdone_ok {w : World} {F : Nat → Prop} {TE : Nat} {ea : Nat → Addr} {g : Nat} {σ : RSt} (h : stars [RdrR TE ea g σ] w F) {es : List Nat} [Has es 3] (hE : GErr es w (fun k => ¬ F k) TE ea) :
    Calls Tryz.prog 105 #[.pointer (some ⟨g, 0, none⟩)] w (Post w F (fun _ : Unit => eV TE ea (doneE σ)) (fun _ => [RdrR TE ea g σ])) := by
 obtain ⟨s, a, c, hs, hc, h'⟩ := rr_open h; refine g_enter (env := [(0, .pointer (some ⟨g, 0, none⟩))]) Tryz.func105 rfl h' Tryz.ntmps105 rfl rfl ?_; refine gsr (zxa ?_); refine gnt (gc_seq (gc_seq ?_)); by_cases he : s.err = 0
 ·refine gc_region (zxm ?_); refine gp znc ?_; refine gp zfa ?_; refine gp zfa ?_; refine gp zl ?_; refine gp (r_bool (c := true) (r_eqnil rfl (by kernel_rfl)) (decide_eq_true he)) ?_; refine zxm ?_; refine gq zmv ?_; refine gq znc ?_; refine gq zfa ?_; refine gq zl ?_; refine gq zln ?_; refine gq zgt ?_; refine gp zpk ?_; refine gnt (gif rfl (fun hc16 => ?_) (fun hc16 => ?_))
  ·try simp only at hc16
   have e : doneE σ = 3 := by rw [← hs, WS.st, if_pos he]; cases hb : s.bs with | nil => (rw [hb] at hc16; simp at hc16) | cons x r => rfl
   refine gsr (gp (r_ld1o rfl Ty.row_27 (hE.c 3 Has.h) (hE.n 3 Has.h)) ?_); refine zxa ?_; refine gnt (gc_ret (gx_then_ret (gx_ret1 rfl (by conv => lhs; whnf) ?_))); rw [e]; exact fun w' hw => ⟨(), rfl, St.rdr (hw.sel (M := [blk g 193 [_, .slice a _ c], BtR a s.bs none []]) (by repeat (first | exact Sel.nil | (apply Sel.cons; · (repeat (first | exact Pick.here | apply Pick.there)))))) rfl rfl hs hc⟩
  ·try simp only at hc16
   have e : doneE σ = s.err := by rw [← hs, WS.st, if_pos he, he]; cases hb : s.bs with | nil => rfl | cons x r => (rw [hb] at hc16; simp at hc16; omega)
   refine gc_skip (gx_then (gsr (zxm ?_))); refine gp znc ?_; refine gp zfa ?_; refine gp zfa ?_; refine gp zl ?_; refine zxa ?_; refine gnt (gc_ret (gx_ret1 rfl (by conv => lhs; whnf) ?_)); rw [e]; exact fun w' hw => ⟨(), rfl, St.rdr (hw.sel (M := [blk g 193 [_, .slice a _ c], BtR a s.bs none []]) (by repeat (first | exact Sel.nil | (apply Sel.cons; · (repeat (first | exact Pick.here | apply Pick.there)))))) rfl rfl hs hc⟩
 ·refine gc_region (zxm ?_); refine gp znc ?_; refine gp zfa ?_; refine gp zfa ?_; refine gp zl ?_; refine gp (r_bool (c := false) (r_eqnil rfl (by kernel_rfl)) (decide_eq_false he)) ?_; refine zxm ?_; refine gn ?_; refine gn ?_; refine gn ?_; refine gn ?_; refine gn ?_; refine gn ?_; refine gp zpk ?_; refine gnt (gc_condF rfl rfl ?_); refine gc_skip (gx_then (gsr (zxm ?_))); refine gp znc ?_; refine gp zfa ?_; refine gp zfa ?_; refine gp zl ?_; refine zxa ?_; refine gnt (gc_ret (gx_ret1 rfl (by conv => lhs; whnf) ?_)); have e : doneE σ = s.err := by rw [← hs, WS.st, if_neg he]; rfl
  rw [e]; exact fun w' hw => ⟨(), rfl, St.rdr (hw.sel (M := [blk g 193 [_, .slice a _ c], BtR a s.bs none []]) (by repeat (first | exact Sel.nil | (apply Sel.cons; · (repeat (first | exact Pick.here | apply Pick.there)))))) rfl rfl hs hc⟩
end
section
instance : One qcC := ⟨one_qcC⟩
instance : One blkC := ⟨(rdBlock0 (w := default) (A := fun _ => True)).one⟩
instance : One sgnC := One.of (by unfold sgnC sigC; repeat (first | exact all_nil' | exact dc_one _ | exact One.h | refine all_cons' rfl ?_ | refine all_app' (dc_one _) ?_ | refine all_app' One.h ?_))
instance : One tcC := One.of (by unfold tcC; repeat (first | exact all_nil' | exact dc_one _ | exact One.h | refine all_cons' rfl ?_ | refine all_app' (dc_one _) ?_ | refine all_app' One.h ?_))
instance : One voteC := One.of (by unfold voteC; repeat (first | exact all_nil' | exact dc_one _ | exact One.h | refine all_cons' rfl ?_ | refine all_app' (dc_one _) ?_ | refine all_app' One.h ?_))
instance : One tmoC := One.of (by unfold tmoC; repeat (first | exact all_nil' | exact dc_one _ | exact One.h | refine all_cons' rfl ?_ | refine all_app' (dc_one _) ?_ | refine all_app' One.h ?_))
instance : One propC := One.of (by unfold propC; repeat (first | exact all_nil' | exact dc_one _ | exact One.h | refine all_cons' rfl ?_ | refine all_app' (dc_one _) ?_ | refine all_app' One.h ?_))
instance : One chgC := One.of (by unfold chgC; simp only [List.flatten_cons, List.flatten_nil, List.append_assoc, List.nil_append]; repeat (first | exact all_nil' | exact dc_one _ | exact One.h | refine all_cons' rfl ?_ | refine all_app' (dc_one _) ?_ | refine all_app' One.h ?_))
attribute [local irreducible] Gl Gc Gx Gs Runs Wt
attribute [local irreducible] voteC tmoC propC blkC chgC sgnC tcC qcC dc
end
section
def NoZ {α : Type} (p : PR α) : Prop := ∀ b, p b ≠ .error 0
theorem noz_pure {α : Type} (x : α) : NoZ (pPure x) := fun b h => by cases h
theorem noz_err {α : Type} {e : Nat} (h : e ≠ 0) : NoZ (pErr (α := α) e) := fun b hh => by injection hh with hh; exact h hh
theorem noz_take (n : Nat) : NoZ (pTake n) := fun b h => by unfold pTake at h; split at h <;> cases h
theorem noz_bind {α β : Type} {p : PR α} {f : α → PR β} (hp : NoZ p) (hf : ∀ x, NoZ (f x)) : NoZ (pBind p f) := fun b h => by
  unfold pBind at h
  split at h
  · rename_i e he; injection h with h; subst h; exact hp b he
  · rename_i x he; exact hf _ _ h
theorem noz_num (wd : Nat) : NoZ (pNum wd) := noz_bind (noz_take wd) fun _ => noz_pure _
theorem noz_dig : NoZ pDig := noz_bind (noz_take 16) fun _ => noz_pure _
theorem noz_many {α : Type} {p : PR α} (h : NoZ p) : ∀ n, NoZ (pMany p n)
  | 0 => noz_pure _
  | n + 1 => noz_bind h fun _ => noz_bind (noz_many h n) fun _ => noz_pure _
theorem noz_ite {α : Type} {c : Prop} [Decidable c] {p q : PR α} (hp : NoZ p) (hq : NoZ q) : NoZ (if c then p else q) := by split <;> assumption
theorem noz_list {α : Type} {p : PR α} (h : NoZ p) (most : Nat) : NoZ (pList p most) := noz_bind (noz_num 1) fun _ => noz_ite (noz_err (by decide)) (noz_many h _)
theorem noz_bytes (most : Nat) : NoZ (pBytes most) := noz_bind (noz_num 2) fun _ => noz_ite (noz_err (by decide)) (noz_take _)
theorem noz_sig : NoZ pSig := noz_bind (noz_num 1) fun _ => noz_bind (noz_list noz_dig 68) fun _ => noz_bind (noz_list noz_dig 5) fun _ => noz_pure _
theorem noz_signed : NoZ pSigned := noz_bind (noz_num 1) fun _ => noz_bind noz_sig fun _ => noz_pure _
theorem noz_at : NoZ pAt := noz_bind (noz_num 4) fun _ => noz_bind (noz_num 6) fun _ => noz_pure _
theorem noz_qc : NoZ pQC := noz_bind noz_at fun _ => noz_bind noz_dig fun _ => noz_bind (noz_list noz_signed 7) fun _ => noz_pure _
theorem noz_vdr : NoZ pVdr := noz_bind noz_dig fun _ => noz_bind (noz_num 6) fun _ => noz_pure _
theorem noz_block : NoZ pBlock := noz_bind noz_at fun _ => noz_bind noz_dig fun _ => noz_bind noz_qc fun _ => noz_bind (noz_list (noz_bytes 16) 4) fun _ => noz_bind (noz_list noz_vdr 7) fun _ => noz_pure _
def allE {α : Type} (p : PR α) (z : α) (b : List UInt8) : Nat × α := match pAll p b with
  | .ok m => (0, m)
  | .error k => (k, z)
theorem allE_fin {α : Type} {p : PR α} {z v : α} {b : List UInt8} (hp : NoZ p) (h : Ag p (.ok b) v) : doneE (rstep p (.ok b)) = (allE p z b).1 ∧ (doneE (rstep p (.ok b)) = 0 → (allE p z b).2 = v) ∧ (doneE (rstep p (.ok b)) ≠ 0 → (allE p z b).2 = z) := by
  unfold allE pAll
  cases hb : p b with
  | error e =>
    have he : e ≠ 0 := fun h0 => hp b (by rw [hb, h0])
    simp only [rstep, hb, doneE]
    exact ⟨trivial, fun h => absurd h he, fun _ => trivial⟩
  | ok x =>
    obtain ⟨y, r⟩ := x
    have hy := h b y r rfl hb
    cases r with
    | nil => simp only [rstep, hb, doneE, if_true]; exact ⟨trivial, fun _ => hy.symm, fun h => absurd rfl h⟩
    | cons c t => simp [rstep, hb, doneE]
instance {k : Int} {a b : Dig} : Len (msgC k a b) 304 := ⟨by rw [msgC]; simp only [List.length_cons, List.length_append, dc_length, len_L]⟩
instance {k : Int} {a b : Dig} : One (msgC k a b) := One.of (by unfold msgC; repeat (first | exact One.h | refine all_app' (dc_one _) ?_ | refine all_app' One.h ?_ | refine all_cons' rfl ?_))
attribute [local irreducible] Gl Gc Gx Gs Runs Wt
attribute [local irreducible] voteC tmoC propC blkC chgC sgnC tcC qcC dc msgC
end
section
theorem RdChg.one {w : World} {A : Nat → Prop} {cs : List Value} {x : Chg} (h : RdChg w A cs x) : ∀ v ∈ cs, v.oneCell' = true := by
  obtain ⟨css, q, rfl, hcl, hc3, hb3, hbs, hq⟩ := h
  refine all_app' (fun v hv => ?_) hq.one
  obtain ⟨c, hc, hvc⟩ := List.mem_flatten.1 hv
  obtain ⟨i, hi, e⟩ := List.getElem_of_mem hc
  exact (hbs i c (x.blocks[i]'(by omega)) (by rw [List.getElem?_eq_getElem hi, e]) (List.getElem?_eq_getElem (by omega))).one v hvc
attribute [local irreducible] Gl Gc Gx Gs Runs Wt
theorem odone_ok {w : World} {F : Nat → Prop} {g : Nat} {s : WS} (h : stars [OutR g s] w F) :
    Calls Tryz.prog 56 #[.pointer (some ⟨g, 0, none⟩)] w (Post w F (fun r : Option Addr × Nat => .tuple #[.slice r.1 (wOut (s)).length r.2, .int .i64 ((s).err : Int)]) (fun r => [rowR 5 1 r.1 (wOut (s)).length r.2 ((wOut (s)).map B8)])) := by
 obtain ⟨a0, c0, h'⟩ := out_open h; refine g_enter (env := [(0, .pointer (some ⟨g, 0, none⟩))]) Tryz.func56 rfl h' Tryz.ntmps56 rfl rfl ?_; refine gsr (zxa ?_); refine zxa ?_; refine gnt (gc_seq (gc_seq ?_)); by_cases he : s.err = 0
 ·refine gc_region (zxm ?_); refine gp znc ?_; refine gp zfa ?_; refine gp zl ?_; refine gp (r_bool (c := false) zni (by simp [he])) ?_; refine gnt (gc_condF rfl rfl ?_); refine gc_skip (gx_then (gsr (zxm ?_))); refine gp znc ?_; refine gp zfa ?_; refine gp zl ?_; refine zxa ?_; refine zxa ?_; refine gnt (gc_ret (gx_ret2 rfl (by conv => lhs; whnf) (by conv => lhs; whnf) ?_)); have e : wOut s = s.bs := by rw [wOut, if_pos he]
  rw [e]; exact fun w' hw => ⟨(a0, c0), by rw [he]; rfl, hw.z⟩
 ·refine gc_region (zxm ?_); refine gp znc ?_; refine gp zfa ?_; refine gp zl ?_; refine gp (r_bool (c := true) zni (by simp [he])) ?_; refine gnt (gc_condT rfl rfl ?_); refine gc_seq (gc_regionS (by kernel_rfl) (by kernel_rfl) ?_); refine sp zmv ?_; refine sp znc ?_; refine sp zfa ?_; refine sp zl ?_; refine sp zas ?_; refine sp zas ?_; refine gs_nil ?_; refine gx_then (gc_ret (gx_then_ret (gx_ret2 rfl (by conv => lhs; whnf) (by conv => lhs; whnf) ?_))); have e : wOut s = [] := by rw [wOut, if_neg he]
  rw [e]; exact fun w' hw => ⟨(none, 0), rfl, hw.rowNil.z⟩
theorem obytes_ok {w : World} {F : Nat → Prop} {cs : List Value} {x : Block} (h : stars [] w F) (hx : RdBlock w (fun k => ¬ F k) cs x) (ho : OkBlock x) :
    Calls Tryz.prog 29 #[.agg cs.toArray] w (Post w F (fun r : Option Addr × Nat => .tuple #[.slice r.1 (wOut (wBlock x ⟨0, []⟩)).length r.2, .int .i64 ((wBlock x ⟨0, []⟩).err : Int)]) (fun r => [rowR 5 1 r.1 (wOut (wBlock x ⟨0, []⟩)).length r.2 ((wOut (wBlock x ⟨0, []⟩)).map B8)])) := by
 have hl := RdBlock.len hx
 have il := Len.of hl
 have jl := One.of (RdBlock.one hx)
 refine g_enter (env := [(0, .agg cs.toArray)]) Tryz.func29 rfl h Tryz.ntmps29 rfl rfl ?_; refine gsr (zbN fun b1 => ?_); refine zxa ?_; refine zxa ?_; refine zxs ?_; refine gp (r_build (cs := [.slice none 0 0, .int .i64 0]) Ty.zc_132 Ty.pl_132 (by kernel_rfl)) ?_; refine zbN fun b6 => ?_; refine zxa ?_; refine zxs ?_; refine zxm ?_; refine gp (zLa (cs := cs)) ?_; refine gl_cz (M := [blk b6 132 [.slice none 0 0, .int .i64 0]]) (N := [OutR b6 ⟨0, []⟩]) (fun w F hF => out_mk (a := none) (c := 0) (xs := []) (by have := stars_row_nil (e := 5) (size := 1) hF; exact stars_swap this) rfl rfl rfl) ?_; refine zc (fun _ => ?_) (c := fun w1 F1 F2 h1 h2 hd hst => oblock_ok h1 (hx.mv hst.still) ho (by simp))
 refine zxs ?_; refine zxm ?_; refine zc (fun r11 => ?_) (c := fun w1 F1 F2 h1 h2 hd hst => odone_ok h1)
 refine gp zex ?_; refine gp zex ?_; refine zxa ?_; refine zxa ?_; refine gnt (gc_ret (gx_ret2 rfl (by conv => lhs; whnf) (by conv => lhs; whnf) ?_)); exact ze r11
end
section
theorem vl_rd {α : Type} {rd : World → (Nat → Prop) → List Value → α → Prop} [RdK rd] {L L' : List Res} {w : World} {F1 F2 : Nat → Prop} {cs : List Value} {x : α} (h2 : stars L w F2) (hd : ∀ k, F1 k → ¬ F2 k) (hp : Pick L (VlR rd cs x) L') : rd w (fun k => ¬ F1 k) cs x := by
  obtain ⟨G1, G2, ⟨h, _⟩, _, hF, _⟩ := hp.stars h2
  exact RdK.mv h fun k _ hk => ⟨rfl, fun h1 => hd k h1 ((hF k).2 (.inl hk))⟩
theorem allE_ok {α : Type} {p : PR α} {z y : α} {b : List UInt8} (h : pAll p b = .ok y) : allE p z b = (0, y) := by unfold allE; rw [h]
theorem RdChg.three {w : World} {A : Nat → Prop} {cs : List Value} {x : Chg} (h : RdChg w A cs x) : x.blocks.length = 3 := by
  obtain ⟨css, q, h1, h2, h3, h4, h5, h6⟩ := h; exact h4
theorem block_max (x : Block) : (wOut (wBlock x ⟨0, []⟩)).length ≤ 8485 := by
  have e0 := wBlock_len x ⟨0, []⟩
  simp only [List.length_nil] at e0
  unfold wOut; split
  · omega
  · simp
instance : One chgC := One.of (rdChg0 (w := default) (A := fun _ => True)).one
attribute [local irreducible] Gl Gc Gx Gs Runs Wt
attribute [local irreducible] voteC tmoC propC blkC chgC sgnC tcC qcC dc msgC
theorem readBlk_ok {w : World} {F : Nat → Prop} {TE : Nat} {ea : Nat → Addr} {es : List Nat} [Has es 1] [Has es 2] [Has es 3] [Has es 4] {a : Option Addr} {n c : Nat} {b : List UInt8} (h : stars [] w F) (hE : GErr es w (fun k => ¬ F k) TE ea) (hx : RdRow w (fun k => ¬ F k) 1 a n (b.map B8)) (hb : n ≤ 1099511627776) :
    Calls Tryz.prog 78 #[.slice a n c, .func (.func 79) #[] #[]] w (Post w F (fun r : List Value => .tuple #[.agg r.toArray, eV TE ea (allE pBlock (blk0) b).1]) (fun r => [pureR (r.length = 39 ∧ ∀ v ∈ r, v.oneCell' = true), VlR RdBlock r (allE pBlock (blk0) b).2])) := by
 refine g_enter (env := [(0, .slice a n c), (1, .func (.func 79) #[] #[])]) Tryz.func78 rfl h Tryz.ntmps78 rfl rfl ?_; refine gsr (zal fun b4 => ?_); refine gl_eqc (cs' := blkC) (by repeat (first | exact Pick.here | apply Pick.there)) (by kernel_rfl) ?_; refine zxa ?_; refine zxs ?_; refine zxm ?_; refine zc (fun g => ?_) (c := fun w1 F1 F2 h1 h2 hd hst => newReader_ok (TE := TE) (ea := ea) h1 (hx.mv hst.still) hb)
 refine gp zbu ?_; refine zal fun b6 => ?_; refine zsN ?_; refine zxs ?_; refine zxm ?_; refine gp zL ?_; refine gl_call (wt0 rfl) (e_callv (us := []) rfl Ty.call_79 rfl) (by repeat (first | exact Sel.nil | (apply Sel.cons; · (repeat (first | exact Pick.here | apply Pick.there))))) (fun w1 F1 F2 h1 h2 hd hst => rblock_ok h1 (hE.mv hst.still)) ?_; rintro ⟨q15, v15⟩
 refine gl_pureR (fun hp15 => ?_)
 obtain ⟨g15, z15, o15⟩ := hp15; replace z15 : q15.length = _ := z15
 have i15 := Len.of z15
 have j15 := One.of (show ∀ v ∈ q15, v.oneCell' = true from o15)
 have hfin := allE_fin (z := blk0) noz_block g15
 refine zal fun b7 => ?_; refine gl_eqc (cs' := blkC) (by repeat (first | exact Pick.here | apply Pick.there)) (by kernel_rfl) ?_; refine zsN ?_; refine gnt (gc_seq (gsr (gp zfa ?_))); refine gp zl ?_; refine zc (fun _ => ?_) (c := fun w1 F1 F2 h1 h2 hd hst => rdone_ok h1 (hE.mv hst.still))
 refine zxa ?_; refine zxs ?_; refine zxm ?_; refine gp (r_bool (c := decide (¬ doneE (rstep pBlock (.ok b)) = 0)) (r_nenil rfl (by kernel_rfl)) (by simp)) ?_; refine gnt (gif rfl (fun hc20 => ?_) (fun hc20 => ?_))
 ·refine gsr (zal fun b9 => ?_); refine gl_eqc (cs' := blkC) (by repeat (first | exact Pick.here | apply Pick.there)) (by kernel_rfl) ?_; refine zxs ?_; refine gp zL ?_; refine zxm ?_; refine zsN ?_; refine zxa ?_; refine gnt (gc_ret (gx_then_ret (gx_retct rfl rfl (by conv => lhs; whnf) (ldA Ty.row_45 Ty.sz_45) ?_))); rw [← hfin.1, hfin.2.2 hc20]; intro w' hw; exact ⟨blkC, rfl, St.pureI ⟨Len.h, One.h⟩ ((hw.mapL fun F' hF' => vl_pure (rd := RdBlock) (show RdBlock _ _ (blkC) (blk0) from rdBlock0) hF').z)⟩
 ·refine gc_skip (gx_then (gsr (gp zL ?_))); refine zsN ?_; refine zxa ?_; refine gnt (gc_ret (gx_retct rfl rfl (by conv => lhs; whnf) (ldA Ty.row_45 Ty.sz_45) ?_)); have hc0 : doneE (rstep pBlock (.ok b)) = 0 := by omega
  rw [← hfin.1, hfin.2.1 hc0, hc0, eV_zero]; intro w' hw; exact ⟨q15, rfl, St.pureI ⟨z15, o15⟩ (hw.z)⟩
theorem readBlock_ok {w : World} {F : Nat → Prop} {TE : Nat} {ea : Nat → Addr} {es : List Nat} [Has es 1] [Has es 2] [Has es 3] [Has es 4] {a : Option Addr} {n c : Nat} {b : List UInt8} (h : stars [] w F) (hE : GErr es w (fun k => ¬ F k) TE ea) (hx : RdRow w (fun k => ¬ F k) 1 a n (b.map B8)) (hb : n ≤ 1099511627776) :
    Calls Tryz.prog 45 #[.slice a n c] w (Post w F (fun r : List Value => .tuple #[.agg r.toArray, eV TE ea (allE pBlock (blk0) b).1]) (fun r => [pureR (r.length = 39 ∧ ∀ v ∈ r, v.oneCell' = true), VlR RdBlock r (allE pBlock (blk0) b).2])) := by
 refine g_enter (env := [(0, .slice a n c)]) Tryz.func45 rfl h Tryz.ntmps45 rfl rfl ?_; refine gsr (zal fun b2 => ?_); refine gl_eqc (cs' := blkC) (by repeat (first | exact Pick.here | apply Pick.there)) (by kernel_rfl) ?_; refine zxa ?_; refine zxs ?_; refine zxm ?_; refine zc (fun q5 => ?_) (c := fun w1 F1 F2 h1 h2 hd hst => readBlk_ok h1 (hE.mv hst.still) (hx.mv hst.still) hb)
 refine gl_pureR (fun hq => ?_)
 have i5 := Len.of hq.1
 have j5 := One.of hq.2
 refine gp zex ?_; refine gp zex ?_; refine zsN ?_; refine zxa ?_; refine gnt (gc_ret (gx_retct rfl rfl (by conv => lhs; whnf) (ldA Ty.row_45 Ty.sz_45) ?_)); exact fun w' hw => ⟨q5, rfl, St.pureI hq (hw.z)⟩
end
section
section rows
variable {α : Type} [DecidableEq α]
def atK (k : α) : List (α × Value) → Nat → Option (Nat × Value)
  | [], _ => none
  | p :: l, i => if k = p.1 then some (i, p.2) else atK k l (i + 1)
def getK (k : α) (l : List (α × Value)) : Option Value := (atK k l 0).map (·.2)
def putK (k : α) (v : Value) : List (α × Value) → List (α × Value)
  | [] => [(k, v)]
  | p :: l => if k = p.1 then (k, v) :: l else p :: putK k v l
def delK (k : α) : List (α × Value) → List (α × Value)
  | [] => []
  | p :: l => if k = p.1 then l else p :: delK k l
def encK (K : α → Value) (l : List (α × Value)) : List (Value × Value) := l.map fun p => (K p.1, p.2)
theorem encK_length (K : α → Value) (l : List (α × Value)) : (encK K l).length = l.length := by simp [encK]
theorem atK_none {k : α} {v : Value} : ∀ {l : List (α × Value)} {i : Nat}, atK k l i = none → putK k v l = l ++ [(k, v)] ∧ delK k l = l
  | [], _, _ => ⟨rfl, rfl⟩
  | p :: l, i, h => by
    simp only [atK] at h
    split at h
    · cases h
    · rename_i hne
      have ih := atK_none (v := v) h
      simp only [putK, delK, if_neg hne, ih.1, ih.2, List.cons_append, and_self]
theorem atK_some {k : α} {v u : Value} : ∀ {l : List (α × Value)} {i j : Nat}, atK k l i = some (j, u) → ∃ m, j = i + m ∧ l[m]? = some (k, u) ∧ putK k v l = l.set m (k, v) ∧ delK k l = l.eraseIdx m
  | [], _, _, h => by cases h
  | p :: l, i, j, h => by
    simp only [atK] at h
    split at h
    · rename_i he
      simp only [Option.some.injEq, Prod.mk.injEq] at h
      obtain ⟨rfl, rfl⟩ := h
      refine ⟨0, rfl, ?_, ?_, ?_⟩
      · simp [he]
      · simp only [putK, if_pos he, List.set_cons_zero]
      · simp only [delK, if_pos he, List.eraseIdx_cons_zero]
    · rename_i hne
      obtain ⟨m, h1, h2, h3, h4⟩ := atK_some (v := v) h
      refine ⟨m + 1, by omega, by simpa using h2, ?_, ?_⟩
      · simp only [putK, if_neg hne, h3, List.set_cons_succ]
      · simp only [delK, if_neg hne, h4, List.eraseIdx_cons_succ]
end rows
def kvs (es : Array MapEntry) : List (Value × Value) := es.toList.map fun e => (e.key, e.val)
theorem kvs_length (es : Array MapEntry) : (kvs es).length = es.size := by simp [kvs]
def mapR (g : Nat) (l : List (Value × Value)) : Res where
  on w F := (∀ k, F k ↔ k = g) ∧ ∃ es clock, w.heap[g]? = some (.map es clock) ∧ kvs es = l ∧ (∀ x ∈ es.toList, x.born < clock) ∧ (es.toList.map (fun e : MapEntry => e.born)).Nodup
  loc := fun ⟨hF, es, clock, h, r⟩ hk => ⟨hF, es, clock, (hk g ((hF g).2 rfl)).trans h, r⟩
  ok := fun ⟨hF, es, clock, h, _⟩ k hk => by
    rw [(hF k).1 hk]
    exact ⟨_, h, trivial⟩
def itR (b g : Nat) (l left : List (Value × Value)) (last : Option (Value × Value)) : Res where
  on w F := (∀ k, F k ↔ k = b ∨ k = g) ∧ b ≠ g ∧ ∃ es clock since c0 seen, w.heap[g]? = some (.map es clock) ∧ w.heap[b]? = some (.mapIter (some g) since seen c0) ∧ kvs es = l ∧ (∀ x ∈ es.toList, x.born < clock) ∧ (es.toList.map (fun e : MapEntry => e.born)).Nodup ∧
    (∀ x ∈ es.toList, x.born < since) ∧ since ≤ c0 ∧ since ≤ clock ∧ kvs (es.filter fun e => !seen.contains e.born) = left ∧ ∀ p, last = some p → c0 = clock ∧ ∃ e, e ∈ es.toList ∧ seen.back? = some e.born ∧ (e.key, e.val) = p
  loc := fun ⟨hF, hne, es, clock, since, c0, seen, h, hb, r⟩ hk => ⟨hF, hne, es, clock, since, c0, seen, (hk g ((hF g).2 (.inr rfl))).trans h, (hk b ((hF b).2 (.inl rfl))).trans hb, r⟩
  ok := fun ⟨hF, _, es, clock, since, c0, seen, h, hb, _⟩ k hk => by
    rcases (hF k).1 hk with rfl | rfl
    · exact ⟨_, hb, trivial⟩
    · exact ⟨_, h, trivial⟩
class KeyT (P : Program) (T : TypeId) {α : Type} [DecidableEq α] (K : α → Value) : Prop where
  check : ∀ (w : World) (b : Bool) (k : α), (Instr.checkKey b 10000 T (K k)).run P w = .ok () w
  find : ∀ (w : World) (k : α) (es : List MapEntry) (l : List (α × Value)), es.map (fun e => (e.key, e.val)) = encK K l → (Instr.findKey T (K k) es).run P w = .ok (atK k l 0) w
  stays : ∀ (w : World) (k : α), (Instr.keyThatStays (K k) (K k)).run P w = .ok (K k) w
theorem findNow_int {ty : TypeDesc} {kd : IntKind} (hty : ty = .int kd) (k : Int) : ∀ (es : List MapEntry) (l : List (Int × Value)) (i : Nat), es.map (fun e => (e.key, e.val)) = encK (Value.int kd) l → Instr.findNow ty (.int kd k) es i = some (atK k l i)
  | [], l, i, h => by
    cases l with
    | nil => rfl
    | cons p l => simp [encK] at h
  | e :: es, l, i, h => by
    cases l with
    | nil => simp [encK] at h
    | cons p l =>
      simp only [encK, List.map_cons, List.cons.injEq, Prod.mk.injEq] at h
      obtain ⟨⟨h1, h2⟩, h3⟩ := h
      subst hty
      simp only [Instr.findNow, h1, Instr.sameNow, if_pos, atK, h2]
      by_cases hk : k = p.1
      · simp [hk]
      · simp only [hk, if_false, beq_eq_false_iff_ne.2 hk]
        exact findNow_int rfl k es l (i + 1) h3
theorem keyT_int {P : Program} {T : TypeId} {kd : IntKind} (h : P.underlying T = some (.int kd)) : KeyT P T (Value.int kd) where
  check w b k := by
    rw [show (10000 : Nat) = 9999 + 1 from rfl]
    exact MapKept.run_checkKey (d := .int kd) h (by rfl) b 9999
  find w k es l he := MapKept.run_findKey h (findNow_int rfl k es l 0 he)
  stays w k := by simp [Instr.keyThatStays, Instr.sameBits]
section
variable {P : Program} {w0 : World} {F0 : Nat → Prop} {L : List Res}
theorem St.pushR {w : World} {o : Obj} {r : Res} (hs : St w0 F0 L w) (hr : ∀ w' : World, w'.heap[w.heap.size]? = some o → r.on w' (fun k => k = w.heap.size)) : St w0 F0 (r :: L) { w with heap := w.heap.push o } := by
  obtain ⟨F, hF, hst⟩ := hs
  refine ⟨fun k => k = w.heap.size ∨ F k, ⟨fun k => k = w.heap.size, F, hr _ (by simp), ?_, fun k => Iff.rfl, ?_⟩, ?_⟩
  · exact stars_loc hF fun k hk => by
      have := stars_lt hF k hk
      simp [Array.getElem?_push, Nat.ne_of_lt this]
  · rintro k rfl hk
    exact absurd (stars_lt hF _ hk) (Nat.lt_irrefl _)
  · have hsz := hst.size
    refine ⟨hst.os, hst.tape, hst.output, by simp; omega, fun k hk hn => ?_, ?_⟩
    · rw [← hst.block k hk hn]
      show (w.heap.push _)[k]? = _
      rw [Array.getElem?_push, if_neg (by omega)]
    · rintro k (rfl | hk)
      · exact .inr hsz
      · exact hst.own k hk
theorem St.setR {w : World} {g : Nat} {o' : Obj} {r r' : Res} {L' : List Res} (hs : St w0 F0 L w) (hp : Pick L r L') (hg : ∀ F, r.on w F → F g ∧ g < w.heap.size)
    (hr : ∀ (w' : World) F, r.on w F → w'.heap[g]? = some o' → (∀ k, k ≠ g → w'.heap[k]? = w.heap[k]?) → r'.on w' F) : St w0 F0 (r' :: L') { w with heap := w.heap.setIfInBounds g o' } := by
  obtain ⟨F, hF, hst⟩ := hs
  obtain ⟨F1, F2, h1, h2, hE, hd⟩ := hp.stars hF
  obtain ⟨hg1, hlt⟩ := hg F1 h1
  refine ⟨F, ⟨F1, F2, hr _ F1 h1 (by simp [hlt]) (fun k hk => by simp [Array.getElem?_setIfInBounds, Ne.symm hk]), ?_, hE, hd⟩, ?_⟩
  · refine stars_loc h2 fun k hk => ?_
    have : ¬ g = k := fun e => hd k (e ▸ hg1) hk
    simp [Array.getElem?_setIfInBounds, this]
  · refine ⟨hst.os, hst.tape, hst.output, by simpa using hst.size, fun k hk hn => ?_, hst.own⟩
    rw [← hst.block k hk hn]
    have : ¬ g = k := fun e => (hst.old hk hn).2 ((hE k).2 (.inl (e ▸ hg1)))
    simp [Array.getElem?_setIfInBounds, this]
theorem St.mapAt {w : World} {g : Nat} {l : List (Value × Value)} {L' : List Res} (hs : St w0 F0 L w) (hp : Pick L (mapR g l) L') : ∃ es clock, w.heap[g]? = some (.map es clock) ∧ kvs es = l ∧ (∀ x ∈ es.toList, x.born < clock) ∧ (es.toList.map (·.born)).Nodup := by
  obtain ⟨F, hF, _⟩ := hs
  obtain ⟨F1, h1, _⟩ := stars_pick hp hF
  exact h1.2
variable {Q : Exit → Act → World → Prop} {n : Fm} {env : Env} {ops : Array Oper} {rest : List Oper}
variable {d : Option Tmp} {t : Tmp} {ty : TypeId} {pos : String} {af : Array Edge} {gd : Option (Nat × Bool)}
theorem gl_mkMap {T : TypeId} (hw : Wt ops n env ⟨some t, .makeMap T none, ty, pos, af, gd⟩ true) (k : ∀ g, Gl P w0 F0 (mapR g [] :: L) ops Q rest n ((t, .map (some g)) :: env)) : Gl P w0 F0 L ops Q (⟨some t, .makeMap T none, ty, pos, af, gd⟩ :: rest) n env := by
  refine gl_effx (α := Nat) (L' := fun g => mapR g [] :: L) (v := fun g => .map (some g)) hw (fun w hst => ?_) k
  refine ⟨w.heap.size, { w with heap := w.heap.push (.map #[] 0) }, ?_, hst.pushR fun w' h => ⟨fun k => Iff.rfl, #[], 0, h, rfl, by simp, by simp⟩⟩
  simp [execOp, Instr.makeMap, newObj, Sem.run]
variable {α : Type} [DecidableEq α] {K : α → Value}
theorem r_look {x y : Operand} {T kt e g : Nat} {l : List (α × Value)} {L' : List Res} {z : Value} {key : α} {b : Bool} [KeyT P kt K] (hx : ev n env x = .map (some g)) (hy : ev n env y = K key) (hm : P.underlying T = some (.map kt e)) (hz : zeroT P e = some z) (hp : Pick L (mapR g (encK K l)) L') :
    Runs P w0 F0 L n env ⟨d, .lookup T x y b, ty, pos, af, gd⟩ (if b then .tuple #[(getK key l).getD z, .bool (getK key l).isSome] else (getK key l).getD z) := fun w hst => by
  obtain ⟨es, clock, hh, hk, _⟩ := hst.mapAt hp
  have hf := KeyT.find (P := P) (T := kt) (K := K) w key es.toList l hk
  have hc := KeyT.check (P := P) (T := kt) (K := K) w es.isEmpty key
  simp only [execOp, hx, hy, Instr.lookup, Sem.run_bind, run_underlying hm, Result.andThen_ok, MapKept.run_getObj_map hh, Sem.run_pure, hc, hf, getK]
  cases atK key l 0 with
  | none => simp only [Sem.run_bind, run_zeroT hz, Result.andThen_ok, Sem.run_pure]; cases b <;> rfl
  | some p => simp only [Sem.run_pure, Result.andThen_ok]; cases b <;> rfl
theorem kvs_modify {es : Array MapEntry} {m : Nat} {k v : Value} : kvs (es.modify m fun e => { e with key := k, val := v }) = (kvs es).set m (k, v) := by
  apply List.ext_getElem?
  intro i
  simp only [kvs, List.getElem?_map, Array.getElem?_toList, Array.getElem?_modify, List.getElem?_set, List.length_map, Array.length_toList]
  by_cases h : m = i
  · subst h
    by_cases hi : m < es.size
    · simp [hi]
    · simp [hi]
  · simp [h]
theorem born_modify {es : Array MapEntry} {m : Nat} {k v : Value} : (es.modify m fun e => { e with key := k, val := v }).toList.map (·.born) = es.toList.map (·.born) := by
  apply List.ext_getElem?
  intro i
  simp only [List.getElem?_map, Array.getElem?_toList, Array.getElem?_modify]
  by_cases h : m = i
  · subst h; cases es[m]? <;> simp
  · simp [h]
theorem all_born {es es' : Array MapEntry} {clock : Nat} (h : ∀ x ∈ es.toList, x.born < clock) (e : es'.toList.map (·.born) = es.toList.map (·.born)) : ∀ x ∈ es'.toList, x.born < clock := fun x hx => by
  have : x.born ∈ es.toList.map (·.born) := by rw [← e]; exact List.mem_map.2 ⟨x, hx, rfl⟩
  obtain ⟨y, hy, h2⟩ := List.mem_map.1 this
  rw [← h2]; exact h y hy
theorem encK_set {l : List (α × Value)} {m : Nat} {k : α} {v : Value} : encK K (l.set m (k, v)) = (encK K l).set m (K k, v) := by simp [encK, List.map_set]
theorem encK_append {l : List (α × Value)} {k : α} {v : Value} : encK K (l ++ [(k, v)]) = encK K l ++ [(K k, v)] := by simp [encK]
theorem encK_get {l : List (α × Value)} {m : Nat} {k : α} {v : Value} (h : l[m]? = some (k, v)) : (encK K l)[m]? = some (K k, v) := by simp [encK, h]
theorem gl_put {x y u : Operand} {T kt e g : Nat} {l : List (α × Value)} {L' : List Res} {key : α} {v : Value} [KeyT P kt K] (hw : Wt ops n env ⟨d, .mapUpdate T x y u, ty, pos, af, gd⟩ true) (hx : ev n env x = .map (some g)) (hy : ev n env y = K key) (hu : ev n env u = v)
    (hm : P.underlying T = some (.map kt e)) (hp : Pick L (mapR g (encK K l)) L') (k : Gl P w0 F0 (mapR g (encK K (putK key v l)) :: L') ops Q rest n (pu d undef env)) : Gl P w0 F0 L ops Q (⟨d, .mapUpdate T x y u, ty, pos, af, gd⟩ :: rest) n env :=
  gl_skip hw (fun w hst => by
    obtain ⟨es, clock, hh, hk, hb, hn⟩ := hst.mapAt hp
    have hlt : g < w.heap.size := (Array.getElem?_eq_some_iff.1 hh).1
    have hf := KeyT.find (P := P) (T := kt) (K := K) w key es.toList l hk
    have hc := KeyT.check (P := P) (T := kt) (K := K) w false key
    cases ha : atK key l 0 with
    | none =>
      refine ⟨{ w with heap := w.heap.setIfInBounds g (.map (es.push ⟨K key, v, clock⟩) (clock + 1)) }, ?_, ?_⟩
      · simp only [execOp, hx, hy, hu, Instr.mapUpdate, Sem.run_bind, run_underlying hm, Result.andThen_ok, MapKept.run_getObj_map hh, hc, hf, ha, MapKept.run_setObj_map _ hh]
        rfl
      · refine hst.setR hp (fun F h => ⟨(h.1 g).2 rfl, hlt⟩) (fun w' F h hg' _ => ⟨h.1, _, _, hg', ?_, ?_, ?_⟩)
        · rw [(atK_none (v := v) ha).1, encK_append, ← hk]; simp [kvs]
        · intro z hz
          simp only [Array.toList_push, List.mem_append, List.mem_singleton] at hz
          rcases hz with hz | rfl
          · have := hb z hz; omega
          · exact Nat.lt_succ_self _
        · simp only [Array.toList_push, List.map_append, List.map_cons, List.map_nil]
          refine List.nodup_append.2 ⟨hn, by simp, ?_⟩
          intro a ha' b hb' e
          obtain ⟨z, hz, rfl⟩ := List.mem_map.1 ha'
          simp only [List.mem_singleton] at hb'
          have := hb z hz
          omega
    | some p =>
      obtain ⟨j, u0⟩ := p
      obtain ⟨m, rfl, h2, h3, _⟩ := atK_some (v := v) ha
      rw [Nat.zero_add] at ha
      have hkey : ((es[m]?).map (·.key)).getD (K key) = K key := by
        have := encK_get (K := K) h2
        rw [← hk, kvs, List.getElem?_map, Array.getElem?_toList] at this
        cases he : es[m]? with
        | none => rfl
        | some e' => rw [he] at this; simp at this; simp [this.1]
      refine ⟨{ w with heap := w.heap.setIfInBounds g (.map (es.modify m fun e => { e with key := K key, val := v }) clock) }, ?_, ?_⟩
      · simp only [execOp, hx, hy, hu, Instr.mapUpdate, Sem.run_bind, run_underlying hm, Result.andThen_ok, MapKept.run_getObj_map hh, hc, hf, ha, hkey, KeyT.stays (P := P) (T := kt) (K := K), MapKept.run_setObj_map _ hh]
        rfl
      · refine hst.setR hp (fun F h => ⟨(h.1 g).2 rfl, hlt⟩) (fun w' F h hg' _ => ⟨h.1, _, _, hg', ?_, ?_, ?_⟩)
        · rw [kvs_modify, h3, encK_set, ← hk]
        · exact all_born hb born_modify
        · rw [born_modify]; exact hn) k
theorem gl_clear {x : Operand} {T kt e g : Nat} {l : List (Value × Value)} {L' : List Res} (hw : Wt ops n env ⟨d, .call ⟨.builtin .clear, #[x], #[T]⟩, ty, pos, af, gd⟩ true) (hx : ev n env x = .map (some g)) (hm : P.underlying T = some (.map kt e)) (hp : Pick L (mapR g l) L')
    (k : Gl P w0 F0 (mapR g [] :: L') ops Q rest n (pu d (.tuple #[]) env)) : Gl P w0 F0 L ops Q (⟨d, .call ⟨.builtin .clear, #[x], #[T]⟩, ty, pos, af, gd⟩ :: rest) n env :=
  gl_eff hw (fun w hst => by
    obtain ⟨es, clock, hh, hk, _⟩ := hst.mapAt hp
    have hlt : g < w.heap.size := (Array.getElem?_eq_some_iff.1 hh).1
    refine ⟨{ w with heap := w.heap.setIfInBounds g (.map #[] clock) }, ?_, hst.setR hp (fun F h => ⟨(h.1 g).2 rfl, hlt⟩) (fun w' F h hg' _ => ⟨h.1, _, _, hg', rfl, by simp, by simp⟩)⟩
    simp only [execOp, resolve, invoke, builtin, Builtin.clear_, hx]
    simp [run_underlying hm, MapKept.run_getObj_map hh, MapKept.run_setObj_map _ hh, hx, Builtin.clear_]) k
theorem St.pushR2 {w : World} {o : Obj} {r r' : Res} {L' : List Res} (hs : St w0 F0 L w) (hp : Pick L r L') (hr : ∀ (w' : World) F, r.on w F → w'.heap[w.heap.size]? = some o → (∀ k, k < w.heap.size → w'.heap[k]? = w.heap[k]?) → r'.on w' (fun k => k = w.heap.size ∨ F k)) :
    St w0 F0 (r' :: L') { w with heap := w.heap.push o } := by
  obtain ⟨F, hF, hst⟩ := hs
  have hlt := stars_lt hF
  obtain ⟨F1, F2, h1, h2, hE, hd⟩ := hp.stars hF
  have hold : ∀ k, k < w.heap.size → (w.heap.push o)[k]? = w.heap[k]? := fun k hk => by rw [Array.getElem?_push, if_neg (by omega)]
  refine ⟨fun k => k = w.heap.size ∨ F k, ⟨fun k => k = w.heap.size ∨ F1 k, F2, hr _ F1 h1 (by simp) hold, stars_loc h2 fun k hk => hold k (hlt k ((hE k).2 (.inr hk))), fun k => ?_, ?_⟩, ?_⟩
  · show (k = w.heap.size ∨ F k) ↔ ((k = w.heap.size ∨ F1 k) ∨ F2 k)
    rw [hE]; exact or_assoc.symm
  · rintro k (rfl | hk) h
    · exact absurd (hlt _ ((hE _).2 (.inr h))) (Nat.lt_irrefl _)
    · exact hd k hk h
  · have hsz := hst.size
    refine ⟨hst.os, hst.tape, hst.output, by simp; omega, fun k hk hn => ?_, ?_⟩
    · rw [← hst.block k hk hn]; exact hold k (by omega)
    · rintro k (rfl | hk)
      · exact .inr hsz
      · exact hst.own k hk
theorem filter_all {es : Array MapEntry} : es.filter (fun e => !(#[] : Array Nat).contains e.born) = es := by simp
theorem gl_range {x : Operand} {T kt e g : Nat} {l : List (Value × Value)} {L' : List Res} (hw : Wt ops n env ⟨some t, .range T x, ty, pos, af, gd⟩ true) (hx : ev n env x = .map (some g)) (hm : P.underlying T = some (.map kt e)) (hp : Pick L (mapR g l) L')
    (k : ∀ b, Gl P w0 F0 (itR b g l l none :: L') ops Q rest n ((t, .pointer (some ⟨b, 0, none⟩)) :: env)) : Gl P w0 F0 L ops Q (⟨some t, .range T x, ty, pos, af, gd⟩ :: rest) n env := by
  refine gl_effx (α := Nat) (L' := fun b => itR b g l l none :: L') (v := fun b => .pointer (some ⟨b, 0, none⟩)) hw (fun w hst => ?_) k
  obtain ⟨es, clock, hh, hk, hb, hn⟩ := hst.mapAt hp
  have hlt : g < w.heap.size := (Array.getElem?_eq_some_iff.1 hh).1
  refine ⟨w.heap.size, { w with heap := w.heap.push (.mapIter (some g) clock #[] clock) }, ?_, hst.pushR2 hp fun w' F h hnew hold => ⟨fun k => ?_, by omega, es, clock, clock, clock, #[], (hold g hlt).trans hh, hnew, hk, hb, hn, hb, Nat.le_refl _, Nat.le_refl _, by rw [filter_all]; exact hk, fun p hp => by cases hp⟩⟩
  · simp only [execOp, hx, Instr.range, Sem.run_bind, run_underlying hm, Result.andThen_ok, MapKept.run_getObj_map hh, Sem.run_pure]
    simp [newObj, Sem.run]
  · show (k = w.heap.size ∨ F k) ↔ _
    rw [h.1 k]
theorem St.drewR {w : World} (hs : St w0 F0 L w) : St w0 F0 L w.drew := by
  obtain ⟨F, hF, hst⟩ := hs
  exact ⟨F, stars_loc hF fun _ _ => rfl, ⟨hst.os, hst.tape, hst.output, hst.size, hst.block, hst.own⟩⟩
theorem choose_next (w : World) (m : Nat) (hm : 0 < m) : ∃ j w1, j < m ∧ (w1 = w ∨ w1 = w.drew) ∧ (choose (Question.mapNext m)).run P w = .ok j w1 := by
  by_cases hf : m ≤ 1
  · exact ⟨0, w, hm, .inl rfl, by simp [choose, Sem.run, Question.forced, hf]⟩
  · exact ⟨_, w.drew, Nat.mod_lt _ (by omega), .inr rfl, by
      simp only [choose, Sem.run, Question.forced, decide_eq_true_eq, hf, if_false, Question.cut]
      rfl⟩
theorem getObj_it {w : World} {r : Nat} {a : Option Nat} {b c : Nat} {s : Array Nat} (hb : w.heap[r]? = some (.mapIter a b s c)) : (getObj r).run P w = .ok (.mapIter a b s c) w := by simp [getObj, Sem.run, hb]
theorem setObj_it {w : World} {r : Nat} {a : Option Nat} {b c : Nat} {s : Array Nat} (o : Obj) (hb : w.heap[r]? = some (.mapIter a b s c)) : (setObj r o).run P w = .ok () { w with heap := w.heap.setIfInBounds r o } := by simp [setObj, Sem.run, hb]
theorem filter_split {p : MapEntry → Bool} {e : MapEntry} {A B l : List MapEntry} (hn : (l.map (fun e : MapEntry => e.born)).Nodup) (h : l.filter p = A ++ e :: B) : l.filter (fun x => p x && !(x.born == e.born)) = A ++ B := by
  have hs : (l.filter p).filter (fun x => !(x.born == e.born)) = A ++ B := by
    have hnf : ((l.filter p).map (fun e : MapEntry => e.born)).Nodup := hn.sublist ((List.filter_sublist).map _)
    rw [h] at hnf ⊢
    rw [List.map_append, List.map_cons] at hnf
    have h1 := List.nodup_append.1 hnf
    have h2 := List.nodup_cons.1 h1.2.1
    have hA : A.filter (fun x => !(x.born == e.born)) = A := List.filter_eq_self.2 fun x hx => by
      have := h1.2.2 x.born (List.mem_map.2 ⟨x, hx, rfl⟩) e.born (by simp)
      simpa using this
    have hB : B.filter (fun x => !(x.born == e.born)) = B := List.filter_eq_self.2 fun x hx => by
      have : x.born ≠ e.born := fun he => h2.1 (by rw [← he]; exact List.mem_map.2 ⟨x, hx, rfl⟩)
      simpa using this
    rw [List.filter_append, List.filter_cons, hA, hB]
    simp
  rw [← hs, List.filter_filter]
  congr 1
  funext x
  exact Bool.and_comm _ _
theorem gl_next {x : Operand} {b g : Nat} {l left : List (Value × Value)} {last : Option (Value × Value)} {L' : List Res} (hw : Wt ops n env ⟨some t, .next x false, ty, pos, af, gd⟩ true) (hx : ev n env x = .pointer (some ⟨b, 0, none⟩)) (hp : Pick L (itR b g l left last) L')
    (k0 : left = [] → Gl P w0 F0 L ops Q rest n ((t, .tuple #[.bool false]) :: env))
    (k1 : ∀ A p B, left = A ++ p :: B → Gl P w0 F0 (itR b g l (A ++ B) (some p) :: L') ops Q rest n ((t, .tuple #[.bool true, p.1, p.2]) :: env)) : Gl P w0 F0 L ops Q (⟨some t, .next x false, ty, pos, af, gd⟩ :: rest) n env := by
  intro w hst
  have hst0 := hst
  obtain ⟨F, hF, hstp⟩ := hst0
  obtain ⟨F1, F2, ⟨hFk, hne, es, clock, since, c0, seen, hh, hb, hk, hbn, hn, hold, hsc, hscl, hleft, _⟩, h2, hE, hd⟩ := hp.stars hF
  have hltb : b < w.heap.size := (Array.getElem?_eq_some_iff.1 hb).1
  have t1 := next_test_false seen es since c0 hold hsc
  have hmem : ∀ x ∈ (es.filter fun e => !seen.contains e.born), x.born < since := fun x hx => hold x (by simp at hx ⊢; exact hx.1)
  have e1 : (es.filter fun e => !seen.contains e.born).filter (fun x => decide (x.born < since)) = es.filter fun e => !seen.contains e.born := Array.filter_eq_self.2 (fun x hx => by simpa using hmem x hx)
  have e2 : (es.filter fun e => !seen.contains e.born).filter (fun x => decide (x.born ≥ since)) = #[] := by
    rw [Array.filter_eq_empty_iff]
    intro x hx
    have := hmem x hx
    simp; omega
  have fin : ∀ (v : Value) (w' : World), (execOp (ev n env) ⟨some t, .next x false, ty, pos, af, gd⟩).run P w = .ok (.value v) w' → wpListIn (FR n.ro) 0 P ops Q rest (fr n ((t, v) :: env)) w' → wpListIn (FR n.ro) 0 P ops Q (⟨some t, .next x false, ty, pos, af, gd⟩ :: rest) (fr n env) w := fun v w' hr hk' => by
    unfold wpListIn
    rw [if_pos (show Region.wanted _ _ = true from hw)]
    exact Oper.wpIn_value (by rw [fr_eval]; exact hr) (by rw [fr_put]; exact hk')
  by_cases h0 : (es.filter fun e => !seen.contains e.born).size = 0
  · have hem : (es.filter fun e => !seen.contains e.born) = #[] := Array.eq_empty_of_size_eq_zero h0
    have hl : left = [] := by rw [← hleft, hem]; rfl
    refine fin _ w ?_ (k0 hl w hst)
    simp only [execOp, hx, Instr.next, Sem.run_bind, getObj_it hb, Result.andThen_ok, MapKept.run_getObj_map hh, t1, Bool.false_eq_true, if_false, e1, e2, hem]
    simp [choose, Sem.run, Question.forced]
  · obtain ⟨j, w1, hj, hw1, hrun⟩ := choose_next (P := P) w (es.filter fun e => !seen.contains e.born).size (by omega)
    have hemp : (es.filter fun e => !seen.contains e.born).isEmpty = false := by unfold Array.isEmpty; exact decide_eq_false h0
    obtain ⟨e, he⟩ : ∃ e, (es.filter fun e => !seen.contains e.born)[j]? = some e := ⟨_, Array.getElem?_eq_getElem hj⟩
    have hsplit : (es.toList.filter fun e => !seen.contains e.born) = ((es.toList.filter fun e => !seen.contains e.born).take j) ++ e :: (es.toList.filter fun e => !seen.contains e.born).drop (j + 1) := by
      have h3 : (es.toList.filter fun e => !seen.contains e.born)[j]? = some e := by rw [← Array.toList_filter, Array.getElem?_toList]; exact he
      have h4 := (List.getElem?_eq_some_iff.1 h3)
      obtain ⟨h5, h6⟩ := h4
      rw [← h6, List.getElem_cons_drop, List.take_append_drop]
    have hkv : left = ((es.toList.filter fun e => !seen.contains e.born).take j).map (fun e => (e.key, e.val)) ++ (e.key, e.val) :: ((es.toList.filter fun e => !seen.contains e.born).drop (j + 1)).map (fun e => (e.key, e.val)) := by
      rw [← hleft, kvs, Array.toList_filter]
      conv => lhs; rw [hsplit]
      rw [List.map_append, List.map_cons]
    have hh1 : w1.heap[g]? = some (.map es clock) := by rcases hw1 with rfl | rfl <;> exact hh
    have hb1 : w1.heap[b]? = some (.mapIter (some g) since seen c0) := by rcases hw1 with rfl | rfl <;> exact hb
    have hs1 : St w0 F0 L w1 := by rcases hw1 with rfl | rfl; exact hst; exact hst.drewR
    refine fin (.tuple #[.bool true, e.key, e.val]) { w1 with heap := w1.heap.setIfInBounds b (.mapIter (some g) since (seen.push e.born) clock) } ?_ (k1 _ _ _ hkv _ (hs1.setR hp (fun F h => ⟨(h.1 b).2 (.inl rfl), (Array.getElem?_eq_some_iff.1 hb1).1⟩) (fun w' F h hb' hoth => ⟨h.1, h.2.1, es, clock, since, clock, seen.push e.born, (hoth g (Ne.symm h.2.1)).trans hh1, hb', hk, hbn, hn, hold, hscl, hscl, ?_, fun p hp => ⟨rfl, e, ?_, by simp, Option.some.inj hp⟩⟩)))
    · simp only [execOp, hx, Instr.next, Sem.run_bind, getObj_it hb, Result.andThen_ok, MapKept.run_getObj_map hh, t1, Bool.false_eq_true, if_false, e1, e2, hemp, Array.empty_append, Array.append_empty, Array.size_map, hrun, Array.getElem?_map, he, Option.map_some, setObj_it _ hb1, Sem.run_pure]
    · have h7 := filter_split (p := fun e => !seen.contains e.born) hn hsplit
      rw [kvs, Array.toList_filter, ← List.map_append, ← h7]
      congr 1
      congr 1
      funext x
      rw [Array.contains_push]
      cases seen.contains x.born <;> simp
    · have h3 : e ∈ (es.toList.filter fun e => !seen.contains e.born) := by rw [hsplit]; simp
      exact (List.mem_filter.1 h3).1
theorem r_entry {x : Operand} {b g : Nat} {l left : List (Value × Value)} {p : Value × Value} {L' : List Res} (hx : ev n env x = .pointer (some ⟨b, 0, none⟩)) (hp : Pick L (itR b g l left (some p)) L') :
    Runs P w0 F0 L n env ⟨d, .entry x, ty, pos, af, gd⟩ (.tuple #[p.1, p.2]) := fun w hst => by
  obtain ⟨F, hF, hstp⟩ := hst
  obtain ⟨F1, F2, ⟨hFk, hne, es, clock, since, c0, seen, hh, hb, hk, hbn, hn, hold, hsc, hscl, hleft, hlast⟩, h2, hE, hd⟩ := hp.stars hF
  obtain ⟨rfl, e, he, hbk, rfl⟩ := hlast p rfl
  have hf : es.find? (·.born == e.born) = some e := by rw [← Array.find?_toList]; exact find_born e es.toList hn he
  simp only [execOp, hx, Instr.entry, Sem.run_bind, getObj_it hb, Result.andThen_ok, hbk, MapKept.run_getObj_map hh, bne_self_eq_false, Bool.false_eq_true, if_false, hf, Sem.run_pure]
theorem St.itMap {w : World} {b g : Nat} {l left : List (Value × Value)} {last : Option (Value × Value)} (hs : St w0 F0 (itR b g l left last :: L) w) : St w0 F0 (mapR g l :: L) w := by
  obtain ⟨F, ⟨F1, F2, ⟨hFk, hne, es, clock, since, c0, seen, hh, hb, hk, hbn, hn, _⟩, h2, hE, hd⟩, hst⟩ := hs
  refine ⟨fun k => k = g ∨ F2 k, ⟨fun k => k = g, F2, ⟨fun k => Iff.rfl, es, clock, hh, hk, hbn, hn⟩, h2, fun k => Iff.rfl, fun k hk h => hd k ((hFk k).2 (.inr hk)) h⟩, hst.weak fun k hk => (hE k).2 ?_⟩
  rcases hk with rfl | hk
  · exact .inl ((hFk _).2 (.inr rfl))
  · exact .inr hk
end
end
section
structure Sec where
  l : List UInt8
  h : l.length = 64
theorem Sec.ext' {a b : Sec} (h : a.l = b.l) : a = b := by cases a; cases b; cases h; rfl
def sec0 : Sec := ⟨List.replicate 64 0, by simp⟩
def sc (s : Sec) : List Value := s.l.map B8
theorem sc_length (s : Sec) : (sc s).length = 64 := by rw [sc, List.length_map, s.h]
theorem sc_one (s : Sec) : ∀ v ∈ sc s, v.oneCell' = true := one_B8 _
instance {s : Sec} : Len (sc s) 64 := ⟨sc_length s⟩
instance {s : Sec} : One (sc s) := One.of (sc_one s)
def scV (s : Sec) : Value := .agg (sc s).toArray
def secs (n : Nat) (f : Nat → Sec) : List Value := ((List.range n).map fun i => sc (f i)).flatten
def updS (f : Nat → Sec) (i : Nat) (v : Sec) : Nat → Sec := fun j => if j = i then v else f j
theorem secs_all {n : Nat} {f : Nat → Sec} : ∀ c ∈ (List.range n).map fun i => sc (f i), c.length = 64 := fun c hc => by
  obtain ⟨i, _, rfl⟩ := List.mem_map.1 hc; exact sc_length _
theorem secs_len (n : Nat) (f : Nat → Sec) : (secs n f).length = n * 64 := by rw [secs, flatten_len secs_all]; simp
theorem secs_get {n i o : Nat} {f : Nat → Sec} (h : i < n) (ho : o = i * 64) : ((secs n f).drop o).take 64 = sc (f i) := by
  subst ho; exact flatten_at secs_all (by simp [h])
theorem secs_ext {n : Nat} {f g : Nat → Sec} (h : ∀ i, i < n → f i = g i) : secs n f = secs n g := by
  unfold secs; congr 1
  exact List.map_congr_left fun i hi => by rw [h i (List.mem_range.1 hi)]
theorem flatten_set {size : Nat} : ∀ {css : List (List Value)} {i : Nat} {c : List Value}, (∀ c ∈ css, c.length = size) → c.length = size → i < css.length → updL css.flatten (i * size) c = (css.set i c).flatten
  | [], i, c, _, _, h => by simp at h
  | d :: l, 0, c, h, hc, _ => by
    have hd := h d (by simp)
    simp only [updL, Nat.zero_mul, List.take_zero, List.nil_append, Nat.zero_add, List.flatten_cons, List.set_cons_zero, hc]
    rw [List.drop_append, List.drop_eq_nil_of_le (by omega), hd, Nat.sub_self, List.drop_zero, List.nil_append]
  | d :: l, i + 1, c, h, hc, hi => by
    have hd := h d (by simp)
    have ih := flatten_set (css := l) (i := i) (fun c' hc' => h c' (by simp [hc'])) hc (by simpa using hi)
    have e : (i + 1) * size = size + i * size := by rw [Nat.add_mul, Nat.one_mul, Nat.add_comm]
    simp only [updL, List.flatten_cons, List.set_cons_succ, hc] at ih ⊢
    rw [← ih, e, List.take_append, List.take_of_length_le (by omega), hd, show size + i * size - size = i * size by omega, List.drop_append, List.drop_eq_nil_of_le (by omega), hd, show size + i * size + size - size = i * size + size by omega]
    simp
theorem secs_set {n i o : Nat} {f : Nat → Sec} {v : Sec} (h : i < n) (ho : o = i * 64) : updL (secs n f) o (sc v) = secs n (updS f i v) := by
  subst ho
  rw [secs, flatten_set secs_all (sc_length v) (by simpa using h), secs]
  congr 1
  apply List.ext_getElem?
  intro j
  rw [List.getElem?_set, List.getElem?_map, List.getElem?_map]
  by_cases hj : j < n
  · by_cases hij : i = j
    · subst hij; simp [hj, updS]
    · simp [hj, hij, updS, Ne.symm hij]
  · rw [List.getElem?_eq_none (l := List.range n) (by simp; omega)]
    by_cases hij : i = j
    · omega
    · simp [hij]
def lookW (i : Int) : List (Int × Sec) → Option Sec
  | [] => none
  | p :: l => if i = p.1 then some p.2 else lookW i l
def putW (i : Int) (v : Sec) : List (Int × Sec) → List (Int × Sec)
  | [] => [(i, v)]
  | p :: l => if i = p.1 then (i, v) :: l else p :: putW i v l
def encW (ws : List (Int × Sec)) : List (Int × Value) := ws.map fun p => (p.1, scV p.2)
theorem encW_at (i : Int) : ∀ (ws : List (Int × Sec)) (k : Nat), (atK i (encW ws) k).map (·.2) = (lookW i ws).map scV
  | [], _ => rfl
  | p :: l, k => by
    simp only [encW, List.map_cons, atK, lookW]
    by_cases h : i = p.1
    · simp [h]
    · rw [if_neg h, if_neg h]; exact encW_at i l (k + 1)
theorem encW_get (i : Int) (ws : List (Int × Sec)) : getK i (encW ws) = (lookW i ws).map scV := encW_at i ws 0
theorem encW_put (i : Int) (v : Sec) : ∀ (ws : List (Int × Sec)), putK i (scV v) (encW ws) = encW (putW i v ws)
  | [] => rfl
  | p :: l => by
    simp only [encW, List.map_cons, putK, putW]
    by_cases h : i = p.1
    · simp [h]
    · rw [if_neg h, if_neg h, List.map_cons]
      have := encW_put i v l
      simp only [encW] at this
      rw [this]
theorem lookW_put (i k : Int) (v : Sec) : ∀ (ws : List (Int × Sec)), lookW i (putW k v ws) = if i = k then some v else lookW i ws
  | [] => by by_cases h : i = k <;> simp [putW, lookW, h]
  | p :: l => by
    by_cases h : k = p.1
    · simp only [putW, if_pos h, lookW]
      by_cases h' : i = k
      · simp [h']
      · rw [if_neg h', if_neg h', if_neg (by rw [← h]; exact h')]
    · simp only [putW, if_neg h, lookW]
      by_cases h' : i = p.1
      · rw [if_pos h', if_pos h', if_neg (by rw [h']; exact fun e => h e.symm)]
      · rw [if_neg h', if_neg h', lookW_put i k v l]
def keysW (ws : List (Int × Sec)) : List Int := ws.map (·.1)
theorem keys_put (k : Int) (v : Sec) : ∀ (ws : List (Int × Sec)), keysW (putW k v ws) = if k ∈ keysW ws then keysW ws else keysW ws ++ [k]
  | [] => by simp [putW, keysW]
  | p :: l => by
    by_cases h : k = p.1
    · simp [putW, h, keysW]
    · have ih := keys_put k v l
      have e1 : keysW (putW k v (p :: l)) = p.1 :: keysW (putW k v l) := by simp [putW, if_neg h, keysW]
      have e2 : keysW (p :: l) = p.1 :: keysW l := rfl
      rw [e1, e2, ih]
      by_cases hk : k ∈ keysW l
      · rw [if_pos hk, if_pos (List.mem_cons_of_mem _ hk)]
      · rw [if_neg hk, if_neg (by simp [h, hk])]; rfl
theorem nodup_put {k : Int} {v : Sec} {ws : List (Int × Sec)} (h : (keysW ws).Nodup) : (keysW (putW k v ws)).Nodup := by
  rw [keys_put]; split
  · exact h
  · rename_i hk
    refine List.nodup_append.2 ⟨h, by simp, fun a ha b hb e => ?_⟩
    simp only [List.mem_singleton] at hb
    exact hk (by rw [← hb, ← e]; exact ha)
theorem lookW_some {i : Int} : ∀ {ws : List (Int × Sec)}, i ∈ keysW ws → ∃ v, lookW i ws = some v ∧ (i, v) ∈ ws
  | p :: l, h => by
    by_cases hi : i = p.1
    · exact ⟨p.2, by simp [lookW, hi], by rw [hi]; simp⟩
    · simp only [keysW, List.map_cons, List.mem_cons, hi, false_or] at h
      obtain ⟨v, h1, h2⟩ := lookW_some (ws := l) h
      exact ⟨v, by simp [lookW, hi, h1], by simp [h2]⟩
  | [], h => by simp [keysW] at h
theorem lookW_none {i : Int} : ∀ {ws : List (Int × Sec)}, i ∉ keysW ws → lookW i ws = none
  | [], _ => rfl
  | p :: l, h => by
    simp only [keysW, List.map_cons, List.mem_cons, not_or] at h
    simp only [lookW, if_neg h.1]; exact lookW_none h.2
theorem lookW_mem {i : Int} {v : Sec} : ∀ {ws : List (Int × Sec)}, (keysW ws).Nodup → (i, v) ∈ ws → lookW i ws = some v
  | p :: l, hn, h => by
    have hn' := List.nodup_cons.1 hn
    rcases List.mem_cons.1 h with rfl | h
    · simp [lookW]
    · have : i ≠ p.1 := fun e => hn'.1 (by show p.1 ∈ l.map (·.1); rw [← e]; exact List.mem_map.2 ⟨_, h, rfl⟩)
      simp only [lookW, if_neg this]; exact lookW_mem hn'.2 h
structure DS where
  n : Nat
  ss : Nat → Sec
  ws : List (Int × Sec)
  off : Bool
  armed : Bool
  left : Int
def DS.at (d : DS) (i : Nat) : Sec := (lookW (i : Int) d.ws).getD (d.ss i)
def oper (d : DS) : DS := if d.armed = true ∧ d.off = false then { d with off := decide (d.left = 0), left := d.left - 1 } else d
structure DOk (d : DS) : Prop where
  n : d.n ≤ 4096
  nd : (keysW d.ws).Nodup
  ks : ∀ k ∈ keysW d.ws, 0 ≤ k ∧ k < d.n
  lf : d.armed = true → d.off = false → 0 ≤ d.left
  rg : -9223372036854775808 ≤ d.left ∧ d.left ≤ 9223372036854775807
theorem oper_ok {d : DS} (h : DOk d) : DOk (oper d) := by
  unfold oper; split
  · rename_i hc
    have hl := h.lf hc.1 hc.2
    refine ⟨h.n, h.nd, h.ks, fun _ h2 => ?_, ?_⟩
    · simp only [decide_eq_false_iff_not] at h2
      show 0 ≤ d.left - 1
      omega
    · have := h.rg
      show -9223372036854775808 ≤ d.left - 1 ∧ d.left - 1 ≤ 9223372036854775807
      omega
  · exact h
def DS.write (d : DS) (i : Int) (v : Sec) : DS := { d with ws := putW i v d.ws }
theorem write_ok {d : DS} {i : Int} {v : Sec} (h : DOk d) (h0 : 0 ≤ i) (h1 : i < d.n) : DOk (d.write i v) :=
  ⟨h.n, nodup_put h.nd, fun k hk => by
    simp only [DS.write, keys_put] at hk
    split at hk
    · exact h.ks k hk
    · rcases List.mem_append.1 hk with hk | hk
      · exact h.ks k hk
      · simp only [List.mem_singleton] at hk; subst hk; exact ⟨h0, h1⟩, h.lf, h.rg⟩
def DS.sync (d : DS) : DS := { d with ss := d.at, ws := [] }
theorem sync_ok {d : DS} (h : DOk d) : DOk d.sync := ⟨h.n, by simp [DS.sync, keysW], by simp [DS.sync, keysW], h.lf, h.rg⟩
def sortZ (l : List Int) : List Int := l.mergeSort (fun x y => decide (x ≤ y))
def keepF (ks : List Int) (keep : List Bool) (ws : List (Int × Sec)) (ss : Nat → Sec) : Nat → Nat → Sec
  | 0 => ss
  | j + 1 => if keep.getD j false = true then updS (keepF ks keep ws ss j) (ks.getD j 0).toNat ((lookW (ks.getD j 0) ws).getD sec0) else keepF ks keep ws ss j
def DS.crash (d : DS) (keep : List Bool) : DS := { d with ss := keepF (sortZ (keysW d.ws)) keep d.ws d.ss (sortZ (keysW d.ws)).length, ws := [], off := false, armed := false }
theorem crash_ok {d : DS} {keep : List Bool} (h : DOk d) : DOk (d.crash keep) := ⟨h.n, by simp [DS.crash, keysW], by simp [DS.crash, keysW], (fun e => by cases e), h.rg⟩
def DS.has (d : DS) (i : Int) : Bool := decide (0 ≤ i) && decide (i < d.n)
theorem has_iff {d : DS} {i : Int} : d.has i = true ↔ 0 ≤ i ∧ i < d.n := by simp [DS.has]
theorem oper_n (d : DS) : (oper d).n = d.n := by unfold oper; split <;> rfl
theorem oper_ss (d : DS) : (oper d).ss = d.ss := by unfold oper; split <;> rfl
theorem oper_ws (d : DS) : (oper d).ws = d.ws := by unfold oper; split <;> rfl
theorem oper_yes {d : DS} (h1 : d.armed = true) (h2 : d.off = false) : (oper d).off = decide (d.left = 0) ∧ (oper d).armed = d.armed ∧ (oper d).left = d.left - 1 := by
  unfold oper; rw [if_pos ⟨h1, h2⟩]; exact ⟨rfl, rfl, rfl⟩
theorem oper_no {d : DS} (h : d.armed = false ∨ d.off = true) : oper d = d := by
  unfold oper; rw [if_neg]; rintro ⟨h1, h2⟩; rcases h with h | h <;> simp_all
def DS.wr (d : DS) (i : Int) (v : Sec) : Nat × DS := if d.has i then (if (oper d).off then 6 else 0, if (oper d).off then oper d else (oper d).write i v) else (1, d)
theorem wr_out {d : DS} {i : Int} {v : Sec} (h : d.has i = false) : d.wr i v = (1, d) := by simp [DS.wr, h]
theorem wr_off {d : DS} {i : Int} {v : Sec} (h : d.has i = true) (ho : (oper d).off = true) : d.wr i v = (6, oper d) := by simp [DS.wr, h, ho]
theorem wr_on {d : DS} {i : Int} {v : Sec} (h : d.has i = true) (ho : (oper d).off = false) : d.wr i v = (0, (oper d).write i v) := by simp [DS.wr, h, ho]
theorem wr_ok {d : DS} {i : Int} {v : Sec} (h : DOk d) : DOk (d.wr i v).2 := by
  unfold DS.wr; split
  · rename_i hi
    have := has_iff.1 hi
    simp only; split
    · exact oper_ok h
    · exact write_ok (oper_ok h) this.1 (by rw [oper_n]; exact this.2)
  · exact h
def DS.rd (d : DS) (i : Int) : Nat × Sec := if d.has i then (if d.off then (6, sec0) else (0, d.at i.toNat)) else (1, sec0)
theorem rd_out {d : DS} {i : Int} (h : d.has i = false) : d.rd i = (1, sec0) := by simp [DS.rd, h]
theorem rd_off {d : DS} {i : Int} (h : d.has i = true) (ho : d.off = true) : d.rd i = (6, sec0) := by simp [DS.rd, h, ho]
theorem rd_some {d : DS} {i : Int} (h : d.has i = true) (ho : d.off = false) (hs : (lookW i d.ws).isSome = true) : d.rd i = (0, (lookW i d.ws).getD sec0) := by
  have h0 := (has_iff.1 h).1
  simp only [DS.rd, h, ho, if_true, Bool.false_eq_true, if_false, DS.at, Int.toNat_of_nonneg h0]
  cases he : lookW i d.ws with
  | none => rw [he] at hs; cases hs
  | some v => rfl
theorem rd_none {d : DS} {i : Int} (h : d.has i = true) (ho : d.off = false) (hs : (lookW i d.ws).isSome = false) : d.rd i = (0, d.ss i.toNat) := by
  have h0 := (has_iff.1 h).1
  simp only [DS.rd, h, ho, if_true, Bool.false_eq_true, if_false, DS.at, Int.toNat_of_nonneg h0]
  cases he : lookW i d.ws with
  | some v => rw [he] at hs; cases hs
  | none => rfl
theorem encW_keys {ws : List (Int × Sec)} : (encW ws).map (·.1) = keysW ws := by simp [encW, keysW, Function.comp_def]
theorem encW_range {d : DS} (h : DOk d) : ∀ p ∈ encW d.ws, 0 ≤ p.1 ∧ p.1 ≤ 4096 := fun p hp => by
  have : p.1 ∈ keysW d.ws := by rw [← encW_keys]; exact List.mem_map.2 ⟨p, hp, rfl⟩
  have h2 := h.ks _ this; have := h.n; omega
theorem nodup_len : ∀ {n : Nat} {l : List Int}, l.Nodup → (∀ k ∈ l, 0 ≤ k ∧ k < n) → l.length ≤ n
  | 0, l, _, h => by
    cases l with
    | nil => simp
    | cons k l => have := h k (by simp); omega
  | n + 1, l, hn, h => by
    have h1 := nodup_len (n := n) (l := l.erase (n : Int)) (hn.erase _) fun k hk => by
      have h2 := hn.mem_erase_iff.1 hk
      have h3 := h k h2.2
      have := h2.1; omega
    have h4 := List.length_erase (a := (n : Int)) (l := l)
    split at h4 <;> omega
theorem ws_len {d : DS} (h : DOk d) : d.ws.length ≤ d.n := by
  have := nodup_len h.nd h.ks
  rwa [keysW, List.length_map] at this
theorem encW_len {d : DS} (h : DOk d) : (encW d.ws).length ≤ 4096 := by
  have := ws_len h; have := h.n; rw [encW, List.length_map]; omega
theorem sortZ_perm (l : List Int) : (sortZ l).Perm l := List.mergeSort_perm _ _
theorem sortZ_len (d : DS) : (sortZ (keysW d.ws)).length = d.ws.length := by rw [(sortZ_perm _).length_eq, keysW, List.length_map]
theorem sortZ_key {d : DS} (h : DOk d) {j : Nat} (hj : j < (sortZ (keysW d.ws)).length) : 0 ≤ (sortZ (keysW d.ws)).getD j 0 ∧ (sortZ (keysW d.ws)).getD j 0 < d.n := by
  have e : (sortZ (keysW d.ws)).getD j 0 = (sortZ (keysW d.ws))[j] := by simp [List.getD, hj]
  rw [e]
  exact h.ks _ ((sortZ_perm _).mem_iff.1 (List.getElem_mem hj))
def DS.syncd (d : DS) : DS := if (oper d).off then oper d else (oper d).sync
theorem syncd_ok {d : DS} (h : DOk d) : DOk d.syncd := by
  unfold DS.syncd; split
  · exact oper_ok h
  · exact sync_ok (oper_ok h)
def SyncInv (d : DS) (lw : List (Int × Sec)) (f : Nat → Sec) : Prop := lw.Sublist d.ws ∧ ∀ i : Nat, f i = if (i : Int) ∈ keysW lw then d.ss i else d.at i
theorem SyncInv.start (d : DS) : SyncInv d d.ws d.ss := ⟨List.Sublist.refl _, fun i => by
  split
  · rfl
  · rename_i h; simp [DS.at, lookW_none h]⟩
theorem SyncInv.done {d : DS} {f : Nat → Sec} (h : SyncInv d [] f) (i : Nat) : f i = d.at i := by
  have := h.2 i; simpa [keysW] using this
theorem SyncInv.key {d : DS} {A B : List (Int × Sec)} {k : Int} {v : Sec} {f : Nat → Sec} (h : SyncInv d (A ++ (k, v) :: B) f) (hk : DOk d) : 0 ≤ k ∧ k < d.n :=
  hk.ks k (List.mem_map.2 ⟨(k, v), h.1.subset (by simp), rfl⟩)
theorem SyncInv.step {d : DS} {A B : List (Int × Sec)} {k : Int} {v : Sec} {f : Nat → Sec} (h : SyncInv d (A ++ (k, v) :: B) f) (hk : DOk d) : SyncInv d (A ++ B) (updS f k.toNat v) := by
  have hsub : (A ++ B).Sublist (A ++ (k, v) :: B) := List.Sublist.append (List.Sublist.refl _) (List.sublist_cons_self _ _)
  have hnd : (keysW (A ++ (k, v) :: B)).Nodup := hk.nd.sublist (h.1.map _)
  have h0 := (h.key hk).1
  have hnot : k ∉ keysW (A ++ B) := by
    simp only [keysW, List.map_append, List.map_cons] at hnd ⊢
    have h1 := List.nodup_append.1 hnd
    intro hm
    rcases List.mem_append.1 hm with hm | hm
    · exact h1.2.2 k hm k (by simp) rfl
    · exact (List.nodup_cons.1 h1.2.1).1 hm
  refine ⟨hsub.trans h.1, fun i => ?_⟩
  simp only [updS]
  by_cases hi : i = k.toNat
  · subst hi
    have e : (k.toNat : Int) = k := Int.toNat_of_nonneg h0
    rw [if_pos rfl, e, if_neg hnot, DS.at, e, lookW_mem (v := v) hk.nd (h.1.subset (by simp))]
    rfl
  · rw [if_neg hi, h.2 i]
    have : (i : Int) ∈ keysW (A ++ (k, v) :: B) ↔ (i : Int) ∈ keysW (A ++ B) := by
      have hne : (i : Int) ≠ k := by omega
      simp [keysW, hne]
    simp only [this]
theorem encKW_nil {lw : List (Int × Sec)} (h : encK (Value.int .i64) (encW lw) = []) : lw = [] := by simpa [encK, encW] using h
theorem encKW_split {lw : List (Int × Sec)} {A' B' : List (Value × Value)} {p : Value × Value} (h : encK (Value.int .i64) (encW lw) = A' ++ p :: B') :
    ∃ A k v B, lw = A ++ (k, v) :: B ∧ A' = encK (Value.int .i64) (encW A) ∧ p = (.int .i64 k, scV v) ∧ B' = encK (Value.int .i64) (encW B) := by
  simp only [encK, encW, List.map_map] at h
  obtain ⟨l1, l2, h1, h2, h3⟩ := List.map_eq_append_iff.1 h
  obtain ⟨q, l3, h4, h5, h6⟩ := List.map_eq_cons_iff.1 h3
  subst h1; subst h4
  exact ⟨l1, q.1, q.2, l3, rfl, by rw [← h2]; simp [encK, encW], by rw [← h5]; rfl, by rw [← h6]; simp [encK, encW]⟩
theorem keepF_yes {ks : List Int} {kb : List Bool} {ws : List (Int × Sec)} {ss : Nat → Sec} {j : Nat} (h : kb.getD j false = true) : keepF ks kb ws ss (j + 1) = updS (keepF ks kb ws ss j) (ks.getD j 0).toNat ((lookW (ks.getD j 0) ws).getD sec0) := by rw [keepF, if_pos h]
theorem keepF_no {ks : List Int} {kb : List Bool} {ws : List (Int × Sec)} {ss : Nat → Sec} {j : Nat} (h : kb.getD j false = false) : keepF ks kb ws ss (j + 1) = keepF ks kb ws ss j := by rw [keepF, if_neg (by rw [h]; decide)]
end
section
open Go Go.RowKit Go.Maps Go.Sort Go.Shelf
theorem sortsA (m : Nat) : AnyZI.SortsIn Tryz.prog Tryz.sortedA_ren Fence.wide m :=
  ⟨fun blk off cap ss W hH hblk hsz => callsIn_wide.2 (AnyM.slices_Sort_int Tryz.sortA blk off cap ss W hH hblk hsz),
   fun p cap W => callsIn_wide.2 (AnyM.slices_Sort_int_none Tryz.sortA p cap W)⟩
theorem keys_ok {w : World} {F : Nat → Prop} {m : Nat} (h : stars [] w F) : Calls Tryz.prog 87 #[.map (some m)] w
    (Post w F (fun b : Nat => .func (.func 119) #[] #[.pointer (some ⟨b, 0, none⟩)]) (fun b => [blk b 76 [.map (some m)]])) :=
  Calls.mono (callsIn_wide.1 (AnyZI.keys_in Tryz.keysA Fence.wide 5 trivial rfl (some m) w)) fun e w' ⟨he, hw⟩ => ⟨w.heap.size, he, by rw [hw]; exact (St.init h).new (T := 76) (cs := [.map (some m)])⟩
theorem keyOf_int {x : Int} (h : 0 ≤ x ∧ x ≤ 4096) : keyOf Tryz.prog 3 (.int .i64 x) = some (.int .i64 x) := by
  have hw : (Lit.int .i64 x).wf = true := by simp [Lit.wf, IntKind.min, IntKind.max, IntKind.signed, IntKind.bits]; omega
  simp [keyOf, Ty.un_3, mapKey, hw]
section
variable {w : World} {F : Nat → Prop} {m b : Nat} {l : List (Int × Value)}
abbrev RZ : Value → Option (DataW Nat × List MemPlace) := fun _ => some (.nil, [])
theorem es_keys {es : Array MapEntry} (hk : kvs es = encK (Value.int .i64) l) : es.toList.map (·.key) = l.map fun p => Value.int .i64 p.1 := by
  have := congrArg (List.map Prod.fst) hk
  simpa [kvs, encK, Function.comp_def] using this
theorem sortedK_ok (h : stars [mapR m (encK (Value.int .i64) l), blk b 76 [.map (some m)]] w F) (hn : (l.map (·.1)).Nodup) (hr : ∀ p ∈ l, 0 ≤ p.1 ∧ p.1 ≤ 4096) (hl : l.length ≤ 4096) :
    Calls Tryz.prog 86 #[.func (.func 119) #[] #[.pointer (some ⟨b, 0, none⟩)]] w
      (Post w F (fun r : Option Addr × Nat => .slice r.1 l.length r.2) (fun r => [rowR 3 1 r.1 l.length r.2 ((sortZ (l.map (·.1))).map (Value.int .i64)), mapR m (encK (Value.int .i64) l), blk b 76 [.map (some m)]])) := by
  have hst := St.init h
  obtain ⟨es, clock, hh, hk, hb, hbn⟩ := hst.mapAt Pick.here
  have hcell := hst.cellOf (Pick.there .here) 0
  have hblt : b < w.heap.size := by
    obtain ⟨F1, F2, _, h2, _⟩ := h
    exact stars_lt h2 b (by obtain ⟨G1, G2, g1, _, hG, _⟩ := h2; exact (hG b).2 (.inl ((g1.1 b).2 rfl)))
  have hkeys := es_keys hk
  have hes : es.size = l.length := by rw [← kvs_length, hk, encK_length]
  have hkey : ∀ x ∈ es.toList, ∃ i : Int, x.key = .int .i64 i ∧ 0 ≤ i ∧ i ≤ 4096 := fun x hx => by
    have : x.key ∈ es.toList.map (·.key) := List.mem_map.2 ⟨x, hx, rfl⟩
    rw [hkeys] at this
    obtain ⟨p, hp, e⟩ := List.mem_map.1 this
    exact ⟨p.1, e.symm, hr p hp⟩
  have hrg : ∀ x ∈ es.toList, ∀ i : Int, x.key = .int .i64 i → WideElems.rd Tryz.prog 3 RZ x = some (.int .i64 i, .nil) := fun x hx i e => by
    obtain ⟨i', e', hi⟩ := hkey x hx
    rw [e'] at e; cases e
    unfold WideElems.rd
    rw [e', keyOf_int hi]; rfl
  let D0 : DataW Nat := .map ((es.toList.map (WideElems.rg Tryz.prog 3 RZ)).foldr DataW.insert [])
  have hperm : (intKeys D0).Perm (l.map (·.1)) := by
    have h1 : (intKeys D0).Perm ((es.toList.map (WideElems.rg Tryz.prog 3 RZ)).map fun p => Go.intOf p.1) := (WideShapes.sorted_perm _).map _
    have h2 : ((es.toList.map (WideElems.rg Tryz.prog 3 RZ)).map fun p => Go.intOf p.1) = l.map (·.1) := by
      have h3 : (es.toList.map (WideElems.rg Tryz.prog 3 RZ)).map (fun p => Go.intOf p.1) = (es.toList.map (·.key)).map fun v => match v with | .int _ i => i | _ => 0 := by
        rw [List.map_map, List.map_map]
        refine List.map_congr_left fun x hx => ?_
        obtain ⟨i, e, _⟩ := hkey x hx
        simp only [Function.comp, WideElems.rg, hrg x hx i e, e, Option.getD_some, Go.intOf]
      rw [h3, hkeys, List.map_map]; rfl
    rw [h2] at h1; exact h1
  have hsize : Maps.size D0 = l.length := by
    have := hperm.length_eq
    have h2 : (intKeys D0).length = Maps.size D0 := by simp [D0, intKeys, Maps.size]
    rw [← h2, this, List.length_map]
  have hown : w.ownsMap Tryz.prog 3 RZ m l.length D0 := ⟨es, clock, hh, ⟨by rw [hes]; simp only [maxLen]; omega, ⟨hb, hbn, by rw [hkeys]; unfold List.Nodup at hn ⊢; rw [List.pairwise_map] at hn ⊢; exact hn.imp fun h e => h (by injection e)⟩, fun x hx => by obtain ⟨i, e, _⟩ := hkey x hx; exact ⟨_, hrg x hx i e⟩⟩, by omega, rfl⟩
  have hseq := AnyZI.keys_gives (ρ := Tryz.keysA_ren) { Tryz.keysA with } Fence.wide 2 trivial rfl (by omega) b m l.length D0 w hblt hcell hown
  have cS := callsIn_wide.1 (AnyZI.sorted_in Tryz.sortedA Fence.wide 5 trivial trivial trivial trivial rfl (by omega) (sortsA _) (enters_of Tryz.func118 (by kernel_rfl) rfl) 119 #[.pointer (some ⟨b, 0, none⟩)] trivial (enters_of Tryz.func119 (by kernel_rfl) rfl) (fun ss => ss.Perm (intKeys D0)) (Maps.size D0) (by rw [hsize]; simp only [maxLen]; omega) (by rw [hsize]; omega) w hseq)
  refine Calls.mono cS fun e w' ⟨v, ss, he, hS, hrow, hnil, hbel⟩ => ?_
  have hss : ss.Perm (l.map (·.1)) := hS.trans hperm
  have hsort : ss.mergeSort (fun x y => decide (x ≤ y)) = sortZ (l.map (·.1)) := mergeSort_of_perm_i hss
  have hlen : ss.length = l.length := by rw [hss.length_eq, List.length_map]
  rw [hsort, hlen] at hrow
  have hst2 := stars_loc h fun k hk => hbel.block k (stars_lt h k hk)
  have hstp : Stp w F w' F := ⟨hbel.os, hbel.tape, hbel.output, hbel.size, fun k hk _ => hbel.block k hk, fun k hk => .inl hk⟩
  rcases hrow.2 with ⟨hv, h0⟩ | ⟨g, cap, cur, hv, hg, hgh, hle, hmax, hcs, htake⟩
  · have hxs : (sortZ (l.map (·.1))).map (Value.int .i64) = [] := List.eq_nil_of_length_eq_zero (by rw [hrow.1, h0])
    refine ⟨(none, 0), by rw [he, hv, h0], ?_⟩
    simp only [hxs, h0]
    exact ⟨F, stars_row_nil hst2, hstp⟩
  · refine ⟨(some ⟨g, 0, none⟩, cap), by rw [he, hv], fun k => k = g ∨ F k, ⟨fun k => k = g, F, ⟨hrow.1, hle, hmax, .inr ⟨g, 0, cur, (0, 0), rfl, fun k => Iff.rfl, hgh, fun i _ h => absurd h.2 (Nat.not_lt_zero _), by simp only [Nat.zero_add, Nat.mul_one]; omega, by simpa using htake⟩⟩, hst2, fun k => Iff.rfl, ?_⟩, ?_⟩
    · rintro k rfl hk
      exact absurd (stars_lt h k hk) (by omega)
    · refine ⟨hbel.os, hbel.tape, hbel.output, hbel.size, fun k hk _ => hbel.block k hk, ?_⟩
      rintro k (rfl | hk)
      · exact .inr hg
      · exact .inl hk
end
end
section
theorem madeCells_rep (v : Value) (s n : Nat) (hs : 0 < s) : (madeCells (List.replicate s v).toArray n).toList = List.replicate n v := by
  apply List.ext_getElem?
  intro i
  simp only [madeCells, Array.toList_map, Array.toList_range, List.getElem?_map, List.getElem?_replicate]
  by_cases h : i < n
  · have h2 : i % (List.replicate s v).toArray.size < (List.replicate s v).toArray.size := Nat.mod_lt _ (by simpa using hs)
    rw [List.getElem?_range h, Option.map_some, if_pos h]
    rw [getElem!_pos (List.replicate s v).toArray _ h2]
    simp
  · rw [if_neg h, List.getElem?_eq_none (l := List.range n) (by simp; omega)]; rfl
theorem madeCells_secs (m : Nat) : (madeCells (List.replicate 64 (Value.int .u8 0)).toArray (m * 64)).toList = secs m fun _ => sec0 := by
  rw [madeCells_rep _ _ _ (by decide), secs]
  have e : sc sec0 = List.replicate 64 (Value.int .u8 0) := by simp [sc, sec0, B8]
  rw [e]
  generalize Value.int .u8 0 = v
  induction m with
  | zero => simp
  | succ m ih =>
    rw [List.range_succ, List.map_append, List.flatten_append, ← ih, Nat.add_mul, Nat.one_mul, ← List.replicate_append_replicate]
    simp only [List.map_cons, List.map_nil, List.flatten_cons, List.flatten_nil, List.append_nil]
section
variable {P : Program} {w0 : World} {F0 : Nat → Prop} {L : List Res} {Q : Exit → Act → World → Prop} {n : Fm} {env : Env} {ops : Array Oper} {rest : List Oper} {ty : TypeId} {pos : String} {af : Array Edge} {gd : Option (Nat × Bool)} {d : Option Tmp}
theorem gl_mkN {t : Tmp} {T e bytes m s : Nat} {x y : Operand} {z : Value} {k k' : IntKind} (hw : Wt ops n env ⟨some t, .makeSlice T x y, ty, pos, af, gd⟩ true) (ht : ElemT P T e s bytes) (hz : (P.info? e).map (·.zero) = some (some z))
    (hx : ev n env x = .int k (m : Int)) (hy : ev n env y = .int k' (m : Int)) (hb : bytes * m ≤ 16777216) (hm : m * s ≤ 16777216) (hm' : m ≤ 16777216)
    (K : ∀ b, Gl P w0 F0 (blk b e (madeCells z.cells (m * s)).toList :: L) ops Q rest n ((t, .slice (some ⟨b, 0, none⟩) m m) :: env)) : Gl P w0 F0 L ops Q (⟨some t, .makeSlice T x y, ty, pos, af, gd⟩ :: rest) n env := by
  refine gl_effx (α := Nat) (L' := fun b => blk b e (madeCells z.cells (m * s)).toList :: L) (v := fun b => .slice (some ⟨b, 0, none⟩) m m) hw (fun w hst => ?_) K
  obtain ⟨i, z', hi, hz', hs, hby, _⟩ := ht.info
  have hzz : z' = z := by rw [hi] at hz; simp only [Option.map_some, Option.some.injEq] at hz; rw [hz'] at hz; exact Option.some.inj hz
  subst hzz
  refine ⟨w.heap.size, { w with heap := w.heap.push (.cells (madeCells z'.cells (m * s)).toList.toArray e) }, ?_, hst.new⟩
  have hbb : (i.bytes : Int) * (m : Int) ≤ 281474976710656 := by
    rw [hby, ← Int.natCast_mul]; omega
  have hr := run_makeSlice (P := P) (w := w) T e i z' ht.sl hi hz' k k' (m : Int) (m : Int) (by omega) (Int.le_refl _) (by simp [hs]; omega) hbb (by omega)
  simp only [execOp, hx, hy, Sem.run_bind, hr, Result.andThen_ok, Sem.run_pure]
  simp only [Int.toNat_natCast, hs]
  first | rfl | simp [World.alloc]
theorem St.pick {w : World} {r : Res} {L' : List Res} (hw : St w0 F0 L w) (h : Pick L r L') : St w0 F0 (r :: L') w := hw.mapL0 fun F hF => h.stars hF
theorem gl_nextO {t : Tmp} {x : Operand} {b g : Nat} {l left : List (Value × Value)} {last : Option (Value × Value)} {L' : List Res} (hw : Wt ops n env ⟨some t, .next x false, ty, pos, af, gd⟩ true) (hx : ev n env x = .pointer (some ⟨b, 0, none⟩)) (hp : Pick L (itR b g l left last) L')
    (k : ∀ o : Option (List (Value × Value) × (Value × Value) × List (Value × Value)), (match o with | none => left = [] | some q => left = q.1 ++ q.2.1 :: q.2.2) →
      Gl P w0 F0 (itR b g l (match o with | none => left | some q => q.1 ++ q.2.2) (match o with | none => last | some q => some q.2.1) :: L') ops Q rest n ((t, match o with | none => .tuple #[.bool false] | some q => .tuple #[.bool true, q.2.1.1, q.2.1.2]) :: env)) :
    Gl P w0 F0 L ops Q (⟨some t, .next x false, ty, pos, af, gd⟩ :: rest) n env :=
  gl_next hw hx hp (fun h w hw => k none h w (hw.pick hp)) fun A p B h => k (some (A, p, B)) h
theorem gl_itMap {b g : Nat} {l left : List (Value × Value)} {last : Option (Value × Value)} {L' : List Res} (hp : Pick L (itR b g l left last) L') (k : Gl P w0 F0 (mapR g l :: L') ops Q rest n env) : Gl P w0 F0 L ops Q rest n env := fun w hw =>
  k w (hw.pick hp).itMap
theorem r_ldS {x : Operand} {T g m o : Nat} {f : Nat → Sec} {L' : List Res} {T' : Nat} [RA P T] [SZ P T 64] (i : Nat) (hi : i < m) (hx : ev n env x = .pointer (some ⟨g, o, none⟩) := by exact rfl) (ho : o = i * 64 := by omega) (hp : Pick L (blk g T' (secs m f)) L' := by repeat (first | exact Pick.here | apply Pick.there)) :
    Runs P w0 F0 L n env ⟨d, .load T x, ty, pos, af, gd⟩ (scV (f i)) := r_ldN hx RA.h SZ.h hp (secs_get hi ho) (sc_length _)
theorem gl_stS {x y : Operand} {T g m o : Nat} {f : Nat → Sec} {v : Sec} {L' : List Res} {T' : Nat} [SZ P T 64] (i : Nat) (hi : i < m) (k : Gl P w0 F0 (blk g T' (secs m (updS f i v)) :: L') ops Q rest n env) (hx : ev n env x = .pointer (some ⟨g, o, none⟩) := by exact rfl) (hy : ev n env y = scV v := by exact rfl) (ho : o = i * 64 := by omega)
    (hp : Pick L (blk g T' (secs m f)) L' := by repeat (first | exact Pick.here | apply Pick.there)) (hw : Wt ops n env ⟨none, .store T x y, ty, pos, af, gd⟩ true := by first | exact wt0 rfl | exact wtgT rfl rfl rfl rfl) :
    Gl P w0 F0 L ops Q (⟨none, .store T x y, ty, pos, af, gd⟩ :: rest) n env :=
  gl_storeN hw hx hy SZ.h (sc_length v) hp (by rw [secs_len]; omega) (sc_one v) (secs_set hi ho) k
theorem r_min {x y : Operand} {T1 T2 : TypeId} {k : IntKind} {i j : Int} (hx : ev n env x = .int k i := by exact rfl) (hy : ev n env y = .int k j := by exact rfl) :
    Runs P w0 F0 L n env ⟨d, .call ⟨.builtin .min, #[x, y], #[T1, T2]⟩, ty, pos, af, gd⟩ (.int k (if j < i then j else i)) := fun w _ => by
  simp only [execOp, resolve, invoke, builtin]
  simp [hx, hy, Builtin.min_, Builtin.min2]
theorem r_eqpn {x : Operand} {T T' e : TypeId} {a : Option Addr} (hx : ev n env x = .pointer a := by exact rfl) (ht : P.underlying T = some (.pointer e)) :
    Runs P w0 F0 L n env ⟨d, .binOp .eql T x (.const (.pointer none)) T', ty, pos, af, gd⟩ (.bool a.isNone) := fun w _ => by
  have h : ∀ d : Nat, (Op.equalIn (d + 1) T (.pointer a) (.pointer none)).run P w = .ok a.isNone w := fun d => by
    cases a <;> simp [Op.equalIn, run_underlying ht]
  have h9 := h 9999
  have hc : ev n env (.const (.pointer none)) = .pointer none := rfl
  simp only [execOp, hx, hc]
  simp [eqGuard, binOp, Op.equal, Op.maxDepth, h9]
instance : DecidableEq Sec := fun a b => decidable_of_iff (a.l = b.l) ⟨Sec.ext', fun h => h ▸ rfl⟩
theorem run_equal_sec {T e : TypeId} {w : World} {a b : Sec} (ht : arrT P T = some (64, e)) (he : P.underlying e = some (.int .u8)) (hs : szT P e = some 1) : (Op.equalIn 10000 T (scV a) (scV b)).run P w = .ok (decide (a = b)) w := by
  cases hi : P.info? e with
  | none => simp [szT, hi] at hs
  | some i =>
    have hz : i.size = 1 := by simpa [szT, hi] using hs
    have hc : P.cellsOf e = 1 := by simp [Program.cellsOf, hi, hz]
    have hd : decide (a.l = b.l) = decide (a = b) := by
      by_cases h : a = b
      · simp [h]
      · simp [h]; exact fun e => h (Sec.ext' e)
    rw [show scV a = .agg (sc a).toArray from rfl, show scV b = .agg (sc b).toArray from rfl, run_equalIn_array w 9999 _ _ (run_arrT ht) hi, hc]
    rw [show sc a = a.l.map B8 from rfl, show sc b = b.l.map B8 from rfl, run_eqItems8 (d := 9998) he a.l b.l w _ (fun i hi => by have := List.mem_range.1 hi; rw [a.h, b.h]; omega), all_range_eq a.h b.h, hd]
theorem r_eql_sec {x y : Operand} {T T' e : TypeId} {a b : Sec} (ht : arrT P T = some (64, e)) (he : P.underlying e = some (.int .u8)) (hs : szT P e = some 1) (hg : P.eqGuardType P.depth T = false) (hx : ev n env x = scV a := by exact rfl) (hy : ev n env y = scV b := by exact rfl) :
    Runs P w0 F0 L n env ⟨d, .binOp .eql T x y T', ty, pos, af, gd⟩ (.bool (decide (a = b))) := fun w _ => by
  have h := run_equal_sec (P := P) (w := w) (a := a) (b := b) ht he hs
  simp only [scV] at hx hy h
  simp only [execOp, hx, hy, Sem.run_bind, run_eqGuard_agg w _ _ _ _ _ _ hg, Result.andThen_ok, run_eql_struct, h, Sem.run_pure]
theorem r_neq_sec {x y : Operand} {T T' e : TypeId} {a b : Sec} (ht : arrT P T = some (64, e)) (he : P.underlying e = some (.int .u8)) (hs : szT P e = some 1) (hg : P.eqGuardType P.depth T = false) (hx : ev n env x = scV a := by exact rfl) (hy : ev n env y = scV b := by exact rfl) :
    Runs P w0 F0 L n env ⟨d, .binOp .neq T x y T', ty, pos, af, gd⟩ (.bool (!decide (a = b))) := fun w _ => by
  have h := run_equal_sec (P := P) (w := w) (a := a) (b := b) ht he hs
  simp only [scV] at hx hy h
  simp only [execOp, hx, hy, Sem.run_bind, run_eqGuard_agg w _ _ _ _ _ _ hg, Result.andThen_ok, run_neq_struct, h, Sem.run_pure]
def Sec.b (s : Sec) : UInt8 := s.l.getD 0 0
end
section three
variable {P : Program} {w0 : World} {F0 : Nat → Prop} {K L : List Res} {Q : Exit → Act → World → Prop} {n : Fm} {env : Env} {ops : Array Oper} {listed : Array Bool} {fuel z : Nat}
end three
end
end Go.Proofs.YtomdanlljfikaaaGreatDoor
