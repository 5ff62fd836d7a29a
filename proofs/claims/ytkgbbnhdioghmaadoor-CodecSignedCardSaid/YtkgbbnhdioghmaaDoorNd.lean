/- Walks, by program (wg.py) out of a spec. -/
import Derived.Test.YtkgbbnhdioghmaaDoorNc
import Derived.Test.YtkgbbnhdioghmaaDoorIa
namespace Go.Proofs.YtkgbbnhdioghmaaDoor
open Go
set_option linter.unusedVariables false
set_option linter.unusedSimpArgs false

attribute [local irreducible] Gl Gc Gx Gs Runs Wt

set_option maxHeartbeats 400000 in
theorem codecSigned_ok {w : World} {F : Nat → Prop} {TE : Nat} {ea : Nat → Addr} {epoch round : Int} {d : Dig} (h : stars [] w F) {es : List Nat} [Has es 1] [Has es 4] (hE : GErr es w (fun k => ¬ F k) TE ea) (hK : KR w (fun k => ¬ F k))  :
    Calls Tryd.prog 4 #[.int .i64 epoch, .int .i64 round, .agg (dc d).toArray] w (Post w F (fun _ : Unit => .bool true) (fun _ => [])) := by
  refine g_enter (env := [(0, .int .i64 epoch), (1, .int .i64 round), (2, .agg (dc d).toArray)]) Tryd.func4 rfl h Tryd.ntmps4 rfl rfl ?_
  refine gsr ?_
  refine zbN fun b5 => ?_
  refine gp zas ?_
  refine gnt ?_
  refine gc_seq ?_
  refine gc_regionZ 32 ([blk b5 23 (dc d)]) ?_
  refine yos 0 rfl ?_
  refine zc (fun _ => ?_) (c := fun w1 F1 F2 h1 h2 hd hst => alive09_ok h1 (hE.mv hst.still))
  refine yxs ?_
  refine yps 1 rfl zmv ?_
  refine yps 2 rfl zmv ?_
  refine yps 3 rfl zmv ?_
  refine yps 4 rfl zL ?_
  refine yps 6 rfl zmv ?_
  refine yps 7 rfl zmv ?_
  refine yps 8 rfl zL ?_
  refine yos 5 rfl ?_
  refine zc (fun _ => ?_) (c := fun w1 F1 F2 h1 h2 hd hst => forVote_ok (high := 0) h1 (hK.mv hst.still))
  refine yxs ?_
  refine yos 9 rfl ?_
  refine zc (fun _ => ?_) (c := fun w1 F1 F2 h1 h2 hd hst => rForVote_ok (high := 0) h1)
  refine yxs ?_
  refine yps 10 rfl (r_bool (c := true) zed (decide_eq_true rfl)) ?_
  refine yps 11 rfl zpk ?_
  refine yps 12 rfl zmv ?_
  refine yps 13 rfl zmv ?_
  refine yps 14 rfl zmv ?_
  refine yps 15 rfl zmv ?_
  refine yps 16 rfl zqu ?_
  refine yps 18 rfl zmv ?_
  refine yps 19 rfl zmv ?_
  refine yps 20 rfl zmv ?_
  refine yps 21 rfl zqu ?_
  refine yos 17 rfl ?_
  refine zc (fun _ => ?_) (c := fun w1 F1 F2 h1 h2 hd hst => forLate_ok (d := d) h1 (hK.mv hst.still))
  refine yxs ?_
  refine yos 22 rfl ?_
  refine zc (fun _ => ?_) (c := fun w1 F1 F2 h1 h2 hd hst => rForLate_ok (d := d) h1)
  refine yxs ?_
  refine yps 23 rfl (r_bool (c := true) zed (decide_eq_true rfl)) ?_
  refine yps 24 rfl zpk ?_
  refine yps 25 rfl zmv ?_
  refine yps 26 rfl zL ?_
  refine yps 28 rfl zL ?_
  refine yos 27 rfl ?_
  refine zc (fun _ => ?_) (c := fun w1 F1 F2 h1 h2 hd hst => forProposal_ok (epoch := 0) (round := 0) (high := 0) h1 (hK.mv hst.still))
  refine yxs ?_
  refine yos 29 rfl ?_
  refine zc (fun _ => ?_) (c := fun w1 F1 F2 h1 h2 hd hst => rForProposal_ok (epoch := 0) (round := 0) (high := 0) h1)
  refine yxs ?_
  refine yps 30 rfl (r_bool (c := true) zed (decide_eq_true rfl)) ?_
  refine yps 31 rfl zpk ?_
  refine yzs rfl ?_
  refine gp zas ?_
  refine gnt ?_
  refine gc_ret ?_
  refine gx_ret1 rfl (by conv => lhs; whnf) ?_
  exact ze ()

end Go.Proofs.YtkgbbnhdioghmaaDoor
