/- Walks, by program (wg.py) out of a spec. -/
import Derived.Test.YtkgbbnhdioghmaaDoorNb
import Derived.Test.YtkgbbnhdioghmaaDoorWg
namespace Go.Proofs.YtkgbbnhdioghmaaDoor
open Go
set_option linter.unusedVariables false
set_option linter.unusedSimpArgs false


def RdStr (cs : List Value) (b : List UInt8) : Prop := cs = [.string (str b)]
/-- Values that read as a list's elements, one by one. -/
inductive All2 {α : Type} (rd : List Value → α → Prop) : List Value → List α → Prop
  | nil : All2 rd [] []
  | cons {v : Value} {x : α} {vs : List Value} {l : List α} : rd [v] x → All2 rd vs l → All2 rd (v :: vs) (x :: l)
theorem All2.len {α : Type} {rd : List Value → α → Prop} {vs : List Value} {l : List α} (h : All2 rd vs l) : vs.length = l.length := by
  induction h with
  | nil => rfl
  | cons _ _ ih => simp [ih]
theorem All2.at {α : Type} {rd : List Value → α → Prop} {vs : List Value} {l : List α} (h : All2 rd vs l) : ∀ (i : Nat) (v : Value) (x : α), vs[i]? = some v → l[i]? = some x → rd [v] x := by
  induction h with
  | nil => intro i v x h1 _; simp at h1
  | cons h1 _ ih =>
    intro i v x hv hx
    cases i with
    | zero => simp at hv hx; subst hv; subst hx; exact h1
    | succ i => exact ih i v x (by simpa using hv) (by simpa using hx)
theorem RdList.of1 {α : Type} {rd : List Value → α → Prop} {w : World} {A : Nat → Prop} {a : Option Addr} {n : Nat} {vs : List Value} {l : List α} (hr : RdRow w A 1 a n vs) (h : All2 rd vs l) : RdList rd w A 1 a n l := by
  refine ⟨vs.map fun v => [v], ?_, by simp, by simp [h.len], fun i c x h1 h2 => ?_⟩
  · have e : (vs.map fun v => [v]).flatten = vs := by
      clear hr h
      induction vs with
      | nil => rfl
      | cons v r ih => simp [ih]
    rw [e]; exact hr
  · rw [List.getElem?_map] at h1
    cases hv : vs[i]? with
    | none => rw [hv] at h1; cases h1
    | some v => rw [hv] at h1; simp at h1; subst h1; exact h.at i v x hv h2
theorem framed_succ (dom : Int) (parts : List (List UInt8)) {k : Nat} {p : List UInt8} (h : parts[k]? = some p) : framed dom (parts.take (k + 1)) = framed dom (parts.take k) ++ (part4 p.length ++ p) := by
  rw [List.take_add_one, h]; simp [framed]
theorem framed_length (dom : Int) (parts : List (List UInt8)) : (framed dom parts).length = 1 + pcost parts := by
  simp only [framed, List.length_cons]
  have : (parts.flatMap fun p => part4 p.length ++ p).length = pcost parts := by
    induction parts with
    | nil => rfl
    | cons p l ih =>
      rw [List.flatMap_cons, List.length_append, ih]
      simp only [List.length_append, pcost, List.map_cons, List.sum_cons, part4, List.length_cons, List.length_nil]; omega
  omega
theorem of_cut (dom : Int) (parts : List (List UInt8)) : fnc B8 16 (outByte (takes Kc v0 (refPad (framed dom parts))).1) = dc (dOf Kc dom parts) := by
  have e : (dOf Kc dom parts).l = (refSum Kc (framed dom parts)).take 16 := hOf_ref Kc dom parts
  rw [dc, e, refSum]
  simp [fnc, ← List.map_take, List.take_range]
theorem RdBytes.row {L L' : List Res} {w : World} {F1 F2 : Nat → Prop} {e n c : Nat} {a : Option Addr} {b : List UInt8} (h2 : stars L w F2) (hd : ∀ k, F1 k → ¬ F2 k) (hp : Pick L (rowR e 1 a n c (b.map B8)) L') : RdBytes w (fun k => ¬ F1 k) [.slice a n c] b :=
  ⟨_, _, _, rfl, rd_le h2 hp, rd_row h2 hd hp⟩
theorem RdBytes.dig {L L' : List Res} {w : World} {F1 F2 : Nat → Prop} {g T : Nat} {d : Dig} (h2 : stars L w F2) (hd : ∀ k, F1 k → ¬ F2 k) (hp : Pick L (blk g T (dc d)) L') : RdBytes w (fun k => ¬ F1 k) [.slice (some ⟨g, 0 + 0 * 1, none⟩) (16 - 0) (16 - 0)] d.l :=
  ⟨_, _, _, rfl, Nat.le_refl _, rd_blk h2 hd hp (by simp only [dc, List.drop_zero]; exact List.take_of_length_le (by simp [d.h])) (by simp [d.h]) (by decide)⟩

attribute [local irreducible] Gl Gc Gx Gs Runs Wt

set_option maxHeartbeats 400000 in
theorem framed_ok {w : World} {F : Nat → Prop} {dom : Int} {parts : List (List UInt8)} {a : Option Addr} {n c : Nat} (h : stars [] w F) (hx : RdList RdStr w (fun k => ¬ F k) 1 a n parts) (hb : 1 + pcost parts ≤ 1099511627776) :
    Calls Tryd.prog 99 #[.int .i64 dom, .slice a n c] w (Post w F (fun _ : Unit => .string (str (framed dom parts))) (fun _ => [])) := by
  have hnl := hx.len (by decide)
  have hm1 := hx.max
  simp only [maxLen] at hm1
  refine g_enter (env := [(0, .int .i64 dom), (1, .slice a n c)]) Tryd.func99 rfl h Tryd.ntmps99 rfl rfl ?_
  refine gsr ?_
  refine gp zas ?_
  refine gnt ?_
  refine gsr ?_
  refine gp zmv ?_
  refine gp (r_val zci byte_int) ?_
  refine ze1 fun b11 => ?_
  refine gp (zso (b := [UInt8.ofNat (dom % 256).toNat])) ?_
  refine gp zas ?_
  refine gnt ?_
  refine gc_seq ?_
  refine gsr ?_
  refine gp zmv ?_
  refine gp zln ?_
  refine gp zmv ?_
  refine gnt ?_
  refine gc_block ?_
  refine gc_loop (α := Nat) (fun k => [pureR (k ≤ n)]) (fun k => [(15, .int .i64 (k : Int)), (5, .string (str (framed dom (parts.take k))))]) [7, 8, 16, 17, 18, 19, 20, 21, 22, 23, 24, 25, 26, 27, 28, 29, 30, 31, 32, 33, 34, 35, 36, 37, 38, 39] (fun k => n - k) 0 ?_ ?_ ?_
  · refine env_start (by kernel_rfl)
  · exact zlp (by first | exact Nat.zero_le _ | omega)
  · intro k u
    refine gc_pureR (fun hk => ?_)
    replace hk : k ≤ n := hk
    refine gsr ?_
    refine gp zlt ?_
    refine gnt ?_
    refine gc_seq ?_
    refine gif rfl (fun hc16 => ?_) (fun hc16 => ?_)
    · try simp only at hc16
      have hk' : k < n := by omega
      obtain ⟨ga, o, cs, y, ha, hA, hg, hra, hcl, hly, hrd⟩ := hx.elem (by decide) hk'
      subst ha
      unfold RdStr at hrd
      subst hrd
      have hpc := pcost_take hly
      have hfl := framed_length dom (parts.take k)
      refine gc_skip ?_
      refine gx_then ?_
      refine gc_seq ?_
      refine gc_block ?_
      refine gsr ?_
      refine gp zia ?_
      refine gp (r_ld1o rfl Ty.row_9 (hra 0 _ rfl) hA) ?_
      refine gp zas ?_
      refine gnt ?_
      refine gsr ?_
      refine gp zmv ?_
      refine gp zlS ?_
      refine gp (r_int zci (wrap_u64 (by omega) (by omega))) ?_
      refine gp zas ?_
      refine gnt ?_
      refine gc_region ?_
      refine gp zmv ?_
      refine gp zmv ?_
      refine gp (r_int zqu ((congrArg IntKind.u64.wrap (quo_nat (m := y.length) (k := 16777216))).trans (wrap_u64 (by omega) (by omega)))) ?_
      refine gp (r_val zci byte_nat) ?_
      refine gp zmv ?_
      refine gp (r_int zqu ((congrArg IntKind.u64.wrap (quo_nat (m := y.length) (k := 65536))).trans (wrap_u64 (by omega) (by omega)))) ?_
      refine gp (r_val zci byte_nat) ?_
      refine gp zmv ?_
      refine gp (r_int zqu ((congrArg IntKind.u64.wrap (quo_nat (m := y.length) (k := 256))).trans (wrap_u64 (by omega) (by omega)))) ?_
      refine gp (r_val zci byte_nat) ?_
      refine gp zmv ?_
      refine gp (r_val zci byte_nat) ?_
      refine gl_bsls (vs := (part4 y.length).map B8) (wt0 rfl) Ty.sl_33 Ty.sz_5 Ty.zc_5 rfl rfl (one_B8 _) rfl rfl rfl ?_
      intro b34
      refine gp (zso (b := part4 y.length)) ?_
      refine gp zmv ?_
      refine gp (zcat (a := part4 y.length) (b := y) (hl := by simp only [part4, List.length_cons, List.length_nil]; omega)) ?_
      refine gp (r_val (zcat (hl := by simp only [part4, List.length_append, List.length_cons, List.length_nil]; omega)) (congrArg (fun l => Value.string (str l)) (framed_succ dom parts hly).symm)) ?_
      refine gp zas ?_
      refine gl_nil ?_
      refine gx_block_normal ?_
      refine gx_then ?_
      refine gc_region ?_
      refine gp zad ?_
      refine gp zmv ?_
      refine gl_nil ?_
      refine zrd (k + 1) ?_ ?_
      · show n - (k + 1) < n - k
        omega
      · exact zlp (show k + 1 ≤ n by omega)
    · try simp only at hc16
      have hk' : k = parts.length := by omega
      subst hk'
      refine gc_exit ?_
      refine gx_then_exit ?_
      refine gx_round_exit ?_
      refine gx_block_hit ?_
      refine gx_then ?_
      refine gsr ?_
      refine gp zmv ?_
      refine gp zas ?_
      refine gnt ?_
      refine gc_ret ?_
      refine gx_ret1 rfl (by conv => lhs; whnf) ?_
      rw [List.take_length]
      exact ze ()

set_option maxHeartbeats 400000 in
theorem of2_ok {w : World} {F : Nat → Prop} {dom : Int} {parts : List (List UInt8)} {a : Option Addr} {n c : Nat} (h : stars [] w F) (hx : RdList RdStr w (fun k => ¬ F k) 1 a n parts) (hb : 1 + pcost parts ≤ 1099511627776) :
    Calls Tryd.prog 51 #[.int .i64 dom, .slice a n c] w (Post w F (fun _ : Unit => .agg (dc (dOf Kc dom parts)).toArray) (fun _ => [])) := by
  refine g_enter (env := [(0, .int .i64 dom), (1, .slice a n c)]) Tryd.func51 rfl h Tryd.ntmps51 rfl rfl ?_
  refine gsr ?_
  refine zal fun b4 => ?_
  refine gnt ?_
  refine gsr ?_
  refine gp zmv ?_
  refine gp zmv ?_
  refine zc (fun _ => ?_) (c := fun w1 F1 F2 h1 h2 hd hst => framed_ok h1 (RdList.mv hx hst.still fun _ _ h => h) hb)
  refine zc (fun _ => ?_) (c := fun w1 F1 F2 h1 h2 hd hst => rsum_ok h1 (by rw [framed_length]; omega))
  generalize hV : (takes Kc v0 (refPad (framed dom parts))).1 = V
  refine zal fun b5 => ?_
  refine zsA fnc_length (fnc_one fun _ => rfl) ?_
  refine gnt ?_
  refine gsr ?_
  refine gp (r_buildA (cs := zD) Ty.zc_23 Ty.arr_23 Ty.sz_5 (by kernel_rfl)) ?_
  refine zal fun b6 => ?_
  refine zsA (new := zD) rfl (dc_one dig0) ?_
  refine gnt ?_
  refine gc_seq ?_
  refine gsr ?_
  refine gp zmv ?_
  refine gnt ?_
  refine gc_block ?_
  refine gc_loop (α := Nat) (fun k => [pureR (k ≤ 16), blk b6 23 (fnc B8 16 (pfx (outByte V) (fun _ => 0) k)), blk b5 171 (fnc B8 32 (outByte V)), blk b4 23 zD]) (fun k => [(13, .int .i64 (k : Int))]) [7, 14, 15, 16, 17, 18, 19, 20, 21] (fun k => 16 - k) 0 ?_ ?_ ?_
  · refine env_start (by kernel_rfl)
  · exact zlq (Nat.zero_le _) (M' := [blk b6 23 zD, blk b5 171 (fnc B8 32 (outByte V)), blk b4 23 zD]) (by rw [pfx_zero, fnc_const] <;> rfl)
  · intro k u
    refine gc_pureR (fun hk => ?_)
    replace hk : k ≤ 16 := hk
    refine gsr ?_
    refine gp zlt ?_
    refine gnt ?_
    refine gc_seq ?_
    refine gif rfl (fun hc14 => ?_) (fun hc14 => ?_)
    · try simp only at hc14
      have hk' : k < 16 := by omega
      refine gc_skip ?_
      refine gx_then ?_
      refine gc_seq ?_
      refine gc_block ?_
      refine gsr ?_
      refine gp zmv ?_
      refine gp zas ?_
      refine gnt ?_
      refine gc_region ?_
      refine gp zmv ?_
      refine gp zmv ?_
      refine gp zib ?_
      refine gp (r_ld1 (v := B8 (outByte V k)) rfl Ty.row_5 (by repeat (first | exact Pick.here | apply Pick.there)) (by rw [show 0 + (k : Int).toNat * 1 = k by omega]; exact fnc_get (V := B8) (f := outByte V) (by omega))) ?_
      refine gp zib ?_
      refine gl_store1 (wt0 rfl) rfl rfl rfl Ty.sz_5 (by repeat (first | exact Pick.here | apply Pick.there)) (by rw [fnc_length]; omega) (pfx_set (k := k) (by omega) (by omega) rfl) ?_
      refine gl_nil ?_
      refine gx_block_normal ?_
      refine gx_then ?_
      refine gc_region ?_
      refine gp zad ?_
      refine gp zmv ?_
      refine gl_nil ?_
      refine zrd (k + 1) ?_ ?_
      · show 16 - (k + 1) < 16 - k
        omega
      · exact zlp (show k + 1 ≤ 16 by omega)
    · try simp only at hc14
      have hk' : k = 16 := by omega
      subst hk'
      have e : fnc B8 16 (pfx (outByte V) (fun _ => 0) 16) = dc (dOf Kc dom parts) := by rw [pfx_full, ← hV]; exact of_cut dom parts
      rw [e]
      refine gc_exit ?_
      refine gx_then_exit ?_
      refine gx_round_exit ?_
      refine gx_block_hit ?_
      refine gx_then ?_
      refine gsr ?_
      refine gp (zLa (cs := dc (dOf Kc dom parts))) ?_
      refine zsA (dc_length _) (dc_one _) ?_
      refine gnt ?_
      refine gc_ret ?_
      refine gx_retc rfl rfl (ld_aggS Ty.row_23 Ty.sz_23 (by repeat (first | exact Pick.here | apply Pick.there)) (by (simp only [List.drop_succ_cons, List.drop_zero, List.take_succ_cons, List.take_zero, List.cons_append, List.nil_append, List.append_assoc, drop_dc, drop_dc', take_dc, take_dc', Nat.reduceLeDiff, Nat.reduceSub, Nat.reduceAdd, Nat.le_refl, List.length_cons, List.length_append, List.length_nil, dc_length, List.drop_nil, List.take_nil, List.append_nil, List.length_map, List.length_replicate]; first | done | rfl)) (by first | rfl | (simp only [List.drop_succ_cons, List.drop_zero, List.take_succ_cons, List.take_zero, List.cons_append, List.nil_append, List.append_assoc, drop_dc, drop_dc', take_dc, take_dc', Nat.reduceLeDiff, Nat.reduceSub, Nat.reduceAdd, Nat.le_refl, List.length_cons, List.length_append, List.length_nil, dc_length, List.drop_nil, List.take_nil, List.append_nil, List.length_map, List.length_replicate]; first | done | omega))) ?_
      exact ze ()

set_option maxHeartbeats 400000 in
theorem forVote_ok {w : World} {F : Nat → Prop} {epoch round high : Int} {d : Dig} (h : stars [] w F) (hK : KR w (fun k => ¬ F k))  :
    Calls Tryd.prog 16 #[.int .i64 epoch, .int .i64 round, .agg (dc d).toArray] w (Post w F (fun _ : Unit => .agg (dc (dOf Kc 7 [beN epoch 8, beN round 8, d.l])).toArray) (fun _ => [])) := by
  refine g_enter (env := [(0, .int .i64 epoch), (1, .int .i64 round), (2, .agg (dc d).toArray)]) Tryd.func16 rfl h Tryd.ntmps16 rfl rfl ?_
  refine gsr ?_
  refine zbN fun b5 => ?_
  refine zal fun b6 => ?_
  refine gnt ?_
  refine gc_seq ?_
  refine gc_regionZ 7 [] ?_
  refine yps 0 rfl zmv ?_
  refine yps 2 rfl zmv ?_
  refine yps 4 rfl (r_slice_arr (l := 0) (h := 16) rfl Ty.arr_23 Ty.sz_5 rfl rfl (by decide) (by decide) (by decide)) ?_
  refine yos 1 rfl ?_
  refine zc (fun r8 => ?_) (c := fun w1 F1 F2 h1 h2 hd hst => number9_ok h1)
  refine yxs ?_
  refine yos 3 rfl ?_
  refine zc (fun r10 => ?_) (c := fun w1 F1 F2 h1 h2 hd hst => number9_ok h1)
  refine yxs ?_
  refine yos 5 rfl ?_
  refine gl_bsls (vs := [.slice r8.1 8 r8.2, .slice r10.1 8 r10.2, .slice (some ⟨b5, 0 + 0 * 1, none⟩) (16 - 0) (16 - 0)]) (wt0 rfl) Ty.sl_27 Ty.sz_33 Ty.zc_33 rfl rfl (all_cons' rfl (all_cons' rfl (all_cons' rfl all_nil'))) rfl rfl rfl ?_
  intro b12
  refine yxs ?_
  refine yos 6 rfl ?_
  refine zc (fun _ => ?_) (c := fun w1 F1 F2 h1 h2 hd hst => of_ok (parts := [beN epoch 8, beN round 8, d.l]) h1 (hK.mv hst.still) (.of1 (rd_row (xs := [.slice r8.1 8 r8.2, .slice r10.1 8 r10.2, .slice (some ⟨b5, 0 + 0 * 1, none⟩) (16 - 0) (16 - 0)]) h2 hd (by repeat (first | exact Pick.here | apply Pick.there))) (.cons (.row h2 hd (by repeat (first | exact Pick.here | apply Pick.there))) (.cons (.row h2 hd (by repeat (first | exact Pick.here | apply Pick.there))) (.cons (.dig h2 hd (by repeat (first | exact Pick.here | apply Pick.there))) .nil)))) (by simp [pcost, beN_length, Dig.h]))
  refine yxs ?_
  refine yzs rfl ?_
  refine zsA (dc_length _) (dc_one _) ?_
  refine gnt ?_
  refine gc_ret ?_
  refine gx_retc rfl rfl (ld_aggS Ty.row_23 Ty.sz_23 (by repeat (first | exact Pick.here | apply Pick.there)) (by (simp only [List.drop_succ_cons, List.drop_zero, List.take_succ_cons, List.take_zero, List.cons_append, List.nil_append, List.append_assoc, drop_dc, drop_dc', take_dc, take_dc', Nat.reduceLeDiff, Nat.reduceSub, Nat.reduceAdd, Nat.le_refl, List.length_cons, List.length_append, List.length_nil, dc_length, List.drop_nil, List.take_nil, List.append_nil, List.length_map, List.length_replicate]; first | done | rfl)) (by first | rfl | (simp only [List.drop_succ_cons, List.drop_zero, List.take_succ_cons, List.take_zero, List.cons_append, List.nil_append, List.append_assoc, drop_dc, drop_dc', take_dc, take_dc', Nat.reduceLeDiff, Nat.reduceSub, Nat.reduceAdd, Nat.le_refl, List.length_cons, List.length_append, List.length_nil, dc_length, List.drop_nil, List.take_nil, List.append_nil, List.length_map, List.length_replicate]; first | done | omega))) ?_
  exact ze ()

set_option maxHeartbeats 400000 in
theorem forLate_ok {w : World} {F : Nat → Prop} {epoch round high : Int} {d : Dig} (h : stars [] w F) (hK : KR w (fun k => ¬ F k))  :
    Calls Tryd.prog 18 #[.int .i64 epoch, .int .i64 round, .int .i64 high] w (Post w F (fun _ : Unit => .agg (dc (dOf Kc 8 [beN epoch 8, beN round 8, beN high 8])).toArray) (fun _ => [])) := by
  refine g_enter (env := [(0, .int .i64 epoch), (1, .int .i64 round), (2, .int .i64 high)]) Tryd.func18 rfl h Tryd.ntmps18 rfl rfl ?_
  refine gsr ?_
  refine zal fun b6 => ?_
  refine gnt ?_
  refine gsr ?_
  refine gp zmv ?_
  refine zc (fun r8 => ?_) (c := fun w1 F1 F2 h1 h2 hd hst => number9_ok h1)
  refine gp zmv ?_
  refine zc (fun r10 => ?_) (c := fun w1 F1 F2 h1 h2 hd hst => number9_ok h1)
  refine gp zmv ?_
  refine zc (fun r12 => ?_) (c := fun w1 F1 F2 h1 h2 hd hst => number9_ok h1)
  refine gl_bsls (vs := [.slice r8.1 8 r8.2, .slice r10.1 8 r10.2, .slice r12.1 8 r12.2]) (wt0 rfl) Ty.sl_27 Ty.sz_33 Ty.zc_33 rfl rfl (all_cons' rfl (all_cons' rfl (all_cons' rfl all_nil'))) rfl rfl rfl ?_
  intro b13
  refine zc (fun _ => ?_) (c := fun w1 F1 F2 h1 h2 hd hst => of_ok (parts := [beN epoch 8, beN round 8, beN high 8]) h1 (hK.mv hst.still) (.of1 (rd_row (xs := [.slice r8.1 8 r8.2, .slice r10.1 8 r10.2, .slice r12.1 8 r12.2]) h2 hd (by repeat (first | exact Pick.here | apply Pick.there))) (.cons (.row h2 hd (by repeat (first | exact Pick.here | apply Pick.there))) (.cons (.row h2 hd (by repeat (first | exact Pick.here | apply Pick.there))) (.cons (.row h2 hd (by repeat (first | exact Pick.here | apply Pick.there))) .nil)))) (by simp [pcost, beN_length, Dig.h]))
  refine zsA (dc_length _) (dc_one _) ?_
  refine gnt ?_
  refine gc_ret ?_
  refine gx_retc rfl rfl (ld_aggS Ty.row_23 Ty.sz_23 (by repeat (first | exact Pick.here | apply Pick.there)) (by (simp only [List.drop_succ_cons, List.drop_zero, List.take_succ_cons, List.take_zero, List.cons_append, List.nil_append, List.append_assoc, drop_dc, drop_dc', take_dc, take_dc', Nat.reduceLeDiff, Nat.reduceSub, Nat.reduceAdd, Nat.le_refl, List.length_cons, List.length_append, List.length_nil, dc_length, List.drop_nil, List.take_nil, List.append_nil, List.length_map, List.length_replicate]; first | done | rfl)) (by first | rfl | (simp only [List.drop_succ_cons, List.drop_zero, List.take_succ_cons, List.take_zero, List.cons_append, List.nil_append, List.append_assoc, drop_dc, drop_dc', take_dc, take_dc', Nat.reduceLeDiff, Nat.reduceSub, Nat.reduceAdd, Nat.le_refl, List.length_cons, List.length_append, List.length_nil, dc_length, List.drop_nil, List.take_nil, List.append_nil, List.length_map, List.length_replicate]; first | done | omega))) ?_
  exact ze ()

set_option maxHeartbeats 400000 in
theorem forProposal_ok {w : World} {F : Nat → Prop} {epoch round high : Int} {d : Dig} (h : stars [] w F) (hK : KR w (fun k => ¬ F k))  :
    Calls Tryd.prog 20 #[.agg (dc d).toArray] w (Post w F (fun _ : Unit => .agg (dc (dOf Kc 9 [d.l])).toArray) (fun _ => [])) := by
  refine g_enter (env := [(0, .agg (dc d).toArray)]) Tryd.func20 rfl h Tryd.ntmps20 rfl rfl ?_
  refine gsr ?_
  refine zbN fun b1 => ?_
  refine zal fun b2 => ?_
  refine gnt ?_
  refine gsr ?_
  refine gp (r_slice_arr (l := 0) (h := 16) rfl Ty.arr_23 Ty.sz_5 rfl rfl (by decide) (by decide) (by decide)) ?_
  refine ze1 fun b4 => ?_
  refine zc (fun _ => ?_) (c := fun w1 F1 F2 h1 h2 hd hst => of_ok (parts := [d.l]) h1 (hK.mv hst.still) (.of1 (rd_row (xs := [.slice (some ⟨b1, 0 + 0 * 1, none⟩) (16 - 0) (16 - 0)]) h2 hd (by repeat (first | exact Pick.here | apply Pick.there))) (.cons (.dig h2 hd (by repeat (first | exact Pick.here | apply Pick.there))) .nil)) (by simp [pcost, beN_length, Dig.h]))
  refine zsA (dc_length _) (dc_one _) ?_
  refine gnt ?_
  refine gc_ret ?_
  refine gx_retc rfl rfl (ld_aggS Ty.row_23 Ty.sz_23 (by repeat (first | exact Pick.here | apply Pick.there)) (by (simp only [List.drop_succ_cons, List.drop_zero, List.take_succ_cons, List.take_zero, List.cons_append, List.nil_append, List.append_assoc, drop_dc, drop_dc', take_dc, take_dc', Nat.reduceLeDiff, Nat.reduceSub, Nat.reduceAdd, Nat.le_refl, List.length_cons, List.length_append, List.length_nil, dc_length, List.drop_nil, List.take_nil, List.append_nil, List.length_map, List.length_replicate]; first | done | rfl)) (by first | rfl | (simp only [List.drop_succ_cons, List.drop_zero, List.take_succ_cons, List.take_zero, List.cons_append, List.nil_append, List.append_assoc, drop_dc, drop_dc', take_dc, take_dc', Nat.reduceLeDiff, Nat.reduceSub, Nat.reduceAdd, Nat.le_refl, List.length_cons, List.length_append, List.length_nil, dc_length, List.drop_nil, List.take_nil, List.append_nil, List.length_map, List.length_replicate]; first | done | omega))) ?_
  exact ze ()

set_option maxHeartbeats 400000 in
theorem rForVote_ok {w : World} {F : Nat → Prop} {epoch round high : Int} {d : Dig} (h : stars [] w F) :
    Calls Tryd.prog 17 #[.int .i64 epoch, .int .i64 round, .agg (dc d).toArray] w (Post w F (fun _ : Unit => .agg (dc (dOf Kc 7 [beN epoch 8, beN round 8, d.l])).toArray) (fun _ => [])) := by
  refine g_enter (env := [(0, .int .i64 epoch), (1, .int .i64 round), (2, .agg (dc d).toArray)]) Tryd.func17 rfl h Tryd.ntmps17 rfl rfl ?_
  refine gsr ?_
  refine zbN fun b5 => ?_
  refine zal fun b6 => ?_
  refine gnt ?_
  refine gc_seq ?_
  refine gc_regionZ 8 ([blk b5 23 (dc d)]) ?_
  refine yps 0 rfl zmv ?_
  refine yps 2 rfl zmv ?_
  refine yps 4 rfl zL ?_
  refine yos 1 rfl ?_
  refine zc (fun _ => ?_) (c := fun w1 F1 F2 h1 h2 hd hst => wide_ok h1)
  refine yxs ?_
  refine yos 3 rfl ?_
  refine zc (fun _ => ?_) (c := fun w1 F1 F2 h1 h2 hd hst => wide_ok h1)
  refine yxs ?_
  refine yos 5 rfl ?_
  refine zc (fun _ => ?_) (c := fun w1 F1 F2 h1 h2 hd hst => text_ok h1)
  refine yxs ?_
  refine yos 6 rfl ?_
  refine gl_bsls (vs := [.string (str (beN epoch 8)), .string (str (beN round 8)), .string (str (d.l))]) (wt0 rfl) Ty.sl_173 Ty.sz_9 Ty.zc_9 rfl rfl (all_cons' rfl (all_cons' rfl (all_cons' rfl all_nil'))) rfl rfl rfl ?_
  intro b13
  refine yxs ?_
  refine yos 7 rfl ?_
  refine zc (fun _ => ?_) (c := fun w1 F1 F2 h1 h2 hd hst => of2_ok (parts := [beN epoch 8, beN round 8, d.l]) h1 (.of1 (rd_row (xs := [.string (str (beN epoch 8)), .string (str (beN round 8)), .string (str (d.l))]) h2 hd (by repeat (first | exact Pick.here | apply Pick.there))) (.cons rfl (.cons rfl (.cons rfl .nil)))) (by simp [pcost, beN_length, Dig.h]))
  refine yxs ?_
  refine yzs rfl ?_
  refine zsA (dc_length _) (dc_one _) ?_
  refine gnt ?_
  refine gc_ret ?_
  refine gx_retc rfl rfl (ld_aggS Ty.row_23 Ty.sz_23 (by repeat (first | exact Pick.here | apply Pick.there)) (by (simp only [List.drop_succ_cons, List.drop_zero, List.take_succ_cons, List.take_zero, List.cons_append, List.nil_append, List.append_assoc, drop_dc, drop_dc', take_dc, take_dc', Nat.reduceLeDiff, Nat.reduceSub, Nat.reduceAdd, Nat.le_refl, List.length_cons, List.length_append, List.length_nil, dc_length, List.drop_nil, List.take_nil, List.append_nil, List.length_map, List.length_replicate]; first | done | rfl)) (by first | rfl | (simp only [List.drop_succ_cons, List.drop_zero, List.take_succ_cons, List.take_zero, List.cons_append, List.nil_append, List.append_assoc, drop_dc, drop_dc', take_dc, take_dc', Nat.reduceLeDiff, Nat.reduceSub, Nat.reduceAdd, Nat.le_refl, List.length_cons, List.length_append, List.length_nil, dc_length, List.drop_nil, List.take_nil, List.append_nil, List.length_map, List.length_replicate]; first | done | omega))) ?_
  exact ze ()

set_option maxHeartbeats 400000 in
theorem rForLate_ok {w : World} {F : Nat → Prop} {epoch round high : Int} {d : Dig} (h : stars [] w F) :
    Calls Tryd.prog 19 #[.int .i64 epoch, .int .i64 round, .int .i64 high] w (Post w F (fun _ : Unit => .agg (dc (dOf Kc 8 [beN epoch 8, beN round 8, beN high 8])).toArray) (fun _ => [])) := by
  refine g_enter (env := [(0, .int .i64 epoch), (1, .int .i64 round), (2, .int .i64 high)]) Tryd.func19 rfl h Tryd.ntmps19 rfl rfl ?_
  refine gsr ?_
  refine zal fun b6 => ?_
  refine gnt ?_
  refine gsr ?_
  refine gp zmv ?_
  refine zc (fun _ => ?_) (c := fun w1 F1 F2 h1 h2 hd hst => wide_ok h1)
  refine gp zmv ?_
  refine zc (fun _ => ?_) (c := fun w1 F1 F2 h1 h2 hd hst => wide_ok h1)
  refine gp zmv ?_
  refine zc (fun _ => ?_) (c := fun w1 F1 F2 h1 h2 hd hst => wide_ok h1)
  refine gl_bsls (vs := [.string (str (beN epoch 8)), .string (str (beN round 8)), .string (str (beN high 8))]) (wt0 rfl) Ty.sl_173 Ty.sz_9 Ty.zc_9 rfl rfl (all_cons' rfl (all_cons' rfl (all_cons' rfl all_nil'))) rfl rfl rfl ?_
  intro b13
  refine zc (fun _ => ?_) (c := fun w1 F1 F2 h1 h2 hd hst => of2_ok (parts := [beN epoch 8, beN round 8, beN high 8]) h1 (.of1 (rd_row (xs := [.string (str (beN epoch 8)), .string (str (beN round 8)), .string (str (beN high 8))]) h2 hd (by repeat (first | exact Pick.here | apply Pick.there))) (.cons rfl (.cons rfl (.cons rfl .nil)))) (by simp [pcost, beN_length, Dig.h]))
  refine zsA (dc_length _) (dc_one _) ?_
  refine gnt ?_
  refine gc_ret ?_
  refine gx_retc rfl rfl (ld_aggS Ty.row_23 Ty.sz_23 (by repeat (first | exact Pick.here | apply Pick.there)) (by (simp only [List.drop_succ_cons, List.drop_zero, List.take_succ_cons, List.take_zero, List.cons_append, List.nil_append, List.append_assoc, drop_dc, drop_dc', take_dc, take_dc', Nat.reduceLeDiff, Nat.reduceSub, Nat.reduceAdd, Nat.le_refl, List.length_cons, List.length_append, List.length_nil, dc_length, List.drop_nil, List.take_nil, List.append_nil, List.length_map, List.length_replicate]; first | done | rfl)) (by first | rfl | (simp only [List.drop_succ_cons, List.drop_zero, List.take_succ_cons, List.take_zero, List.cons_append, List.nil_append, List.append_assoc, drop_dc, drop_dc', take_dc, take_dc', Nat.reduceLeDiff, Nat.reduceSub, Nat.reduceAdd, Nat.le_refl, List.length_cons, List.length_append, List.length_nil, dc_length, List.drop_nil, List.take_nil, List.append_nil, List.length_map, List.length_replicate]; first | done | omega))) ?_
  exact ze ()

set_option maxHeartbeats 400000 in
theorem rForProposal_ok {w : World} {F : Nat → Prop} {epoch round high : Int} {d : Dig} (h : stars [] w F) :
    Calls Tryd.prog 21 #[.agg (dc d).toArray] w (Post w F (fun _ : Unit => .agg (dc (dOf Kc 9 [d.l])).toArray) (fun _ => [])) := by
  refine g_enter (env := [(0, .agg (dc d).toArray)]) Tryd.func21 rfl h Tryd.ntmps21 rfl rfl ?_
  refine gsr ?_
  refine zbN fun b1 => ?_
  refine zal fun b2 => ?_
  refine gnt ?_
  refine gsr ?_
  refine gp zL ?_
  refine zc (fun _ => ?_) (c := fun w1 F1 F2 h1 h2 hd hst => text_ok h1)
  refine ze1 fun b5 => ?_
  refine zc (fun _ => ?_) (c := fun w1 F1 F2 h1 h2 hd hst => of2_ok (parts := [d.l]) h1 (.of1 (rd_row (xs := [.string (str (d.l))]) h2 hd (by repeat (first | exact Pick.here | apply Pick.there))) (.cons rfl .nil)) (by simp [pcost, beN_length, Dig.h]))
  refine zsA (dc_length _) (dc_one _) ?_
  refine gnt ?_
  refine gc_ret ?_
  refine gx_retc rfl rfl (ld_aggS Ty.row_23 Ty.sz_23 (by repeat (first | exact Pick.here | apply Pick.there)) (by (simp only [List.drop_succ_cons, List.drop_zero, List.take_succ_cons, List.take_zero, List.cons_append, List.nil_append, List.append_assoc, drop_dc, drop_dc', take_dc, take_dc', Nat.reduceLeDiff, Nat.reduceSub, Nat.reduceAdd, Nat.le_refl, List.length_cons, List.length_append, List.length_nil, dc_length, List.drop_nil, List.take_nil, List.append_nil, List.length_map, List.length_replicate]; first | done | rfl)) (by first | rfl | (simp only [List.drop_succ_cons, List.drop_zero, List.take_succ_cons, List.take_zero, List.cons_append, List.nil_append, List.append_assoc, drop_dc, drop_dc', take_dc, take_dc', Nat.reduceLeDiff, Nat.reduceSub, Nat.reduceAdd, Nat.le_refl, List.length_cons, List.length_append, List.length_nil, dc_length, List.drop_nil, List.take_nil, List.append_nil, List.length_map, List.length_replicate]; first | done | omega))) ?_
  exact ze ()

end Go.Proofs.YtkgbbnhdioghmaaDoor
