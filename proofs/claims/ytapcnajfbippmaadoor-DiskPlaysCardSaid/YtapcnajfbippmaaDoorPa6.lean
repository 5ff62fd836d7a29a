/- Walks, by program (wg.py) out of a spec. -/
import Derived.Test.YtapcnajfbippmaaDoorRb6
import Derived.Test.YtapcnajfbippmaaDoorDc
import Derived.Test.YtapcnajfbippmaaDoorEb
import Derived.Test.YtapcnajfbippmaaDoorShF
namespace Go.Proofs.YtapcnajfbippmaaDoor
open Go
set_option linter.unusedVariables false
set_option linter.unusedSimpArgs false


structure Op6 where
  kind : Int
  at' : Int
  byte : UInt8
  keep : List Bool
def RdOp6 (w : World) (A : Nat → Prop) (cs : List Value) (o : Op6) : Prop := Int64 o.at' ∧ ∃ a n c, cs = [.int .i64 o.kind, .int .i64 o.at', B8 o.byte, .slice a n c] ∧ n ≤ c ∧ RdRow w A 1 a n (o.keep.map Value.bool)
def sec2 (y : UInt8) : Sec := ⟨y :: 7 :: List.replicate 62 0, by simp⟩
def PInv (nl k : Nat) (d : DS) (m : MS) : Prop := k ≤ nl ∧ RelD d m ∧ DOk d ∧ MOk m
theorem wr_le (d : DS) (i : Int) (v : Sec) : (d.wr i v).1 ≤ 18 := by unfold DS.wr; split <;> (try split) <;> (simp only; omega)
theorem rd_le (d : DS) (i : Int) : (d.rd i).1 ≤ 18 := by unfold DS.rd; split <;> (try split) <;> (simp only; omega)

attribute [local irreducible] Gl Gc Gx Gs Runs Wt

set_option maxHeartbeats 400000 in
theorem sameInts_ok {w : World} {F : Nat → Prop} {a1 a2 : Option Addr} {n1 n2 c1 c2 : Nat} {l : List Int} (h : stars [] w F) (hr1 : RdRow w (fun k => ¬ F k) 1 a1 n1 (l.map (Value.int .i64))) (hr2 : RdRow w (fun k => ¬ F k) 1 a2 n2 (l.map (Value.int .i64))) :
    Calls Tryd.prog 25 #[.slice a1 n1 c1, .slice a2 n2 c2] w (Post w F (fun _ : Unit => .bool true) (fun _ => [])) := by
  have hn1 : n1 = l.length := by have := hr1.1; simp at this; omega
  have hn2 : n2 = l.length := by have := hr2.1; simp at this; omega
  have hmx := hr1.2.1
  simp only [maxLen] at hmx
  refine g_enter (env := [(0, .slice a1 n1 c1), (1, .slice a2 n2 c2)]) Tryd.func25 rfl h Tryd.ntmps25 rfl rfl ?_
  refine gsr ?_
  refine gp zas ?_
  refine gnt ?_
  refine gc_seq ?_
  refine gsr ?_
  refine gp zmv ?_
  refine gp zln ?_
  refine gp zmv ?_
  refine gp zln ?_
  refine gp (r_bool (c := false) zni (by rw [hn1, hn2]; simp)) ?_
  refine gnt ?_
  refine gc_condF rfl rfl ?_
  refine gc_skip ?_
  refine gx_then ?_
  refine gc_seq ?_
  refine gsr ?_
  refine gp zmv ?_
  refine gp zln ?_
  refine gp zmv ?_
  refine gnt ?_
  refine gc_block ?_
  refine gc_loop (α := Nat) (fun k => [pureR (k ≤ n1)]) (fun k => [(13, .int .i64 (k : Int))]) [4, 5, 14, 15, 16, 17, 18, 19, 20, 21, 22, 23, 24, 25] (fun k => n1 - k) 0 ?_ ?_ ?_
  · refine env_start (by kernel_rfl)
  · exact zlp (Nat.zero_le _)
  · intro k u
    refine gc_pureR (fun hk => ?_)
    replace hk : k ≤ n1 := hk
    refine gsr ?_
    refine gp zlt ?_
    refine gnt ?_
    refine gc_seq ?_
    refine gif rfl (fun hc14 => ?_) (fun hc14 => ?_)
    · try simp only at hc14
      have hk' : k < n1 := by omega
      have hk2 : k < n2 := by omega
      obtain ⟨g1, o1, ha1, hA1, _, _⟩ := hr1.2.2 (by omega)
      subst ha1
      obtain ⟨g2, o2, ha2, hA2, _, _⟩ := hr2.2.2 (by omega)
      subst ha2
      refine gc_skip ?_
      refine gx_then ?_
      refine gc_seq ?_
      refine gc_block ?_
      refine gsr ?_
      refine gp zmv ?_
      refine gp zas ?_
      refine gnt ?_
      refine gc_seq ?_
      refine gc_regionS (by kernel_rfl) (by kernel_rfl) ?_
      refine sp zmv ?_
      refine sp zmv ?_
      refine sp zia ?_
      refine sp (r_ld1o rfl Ty.row_3 (hr1.cellV hk' 0).1 hA1) ?_
      refine sp zmv ?_
      refine sp zmv ?_
      refine sp zia ?_
      refine sp (r_ld1o rfl Ty.row_3 (hr2.cellV hk2 0).1 hA2) ?_
      refine sp (r_bool (c := false) zni (by simp)) ?_
      refine gs_nil ?_
      refine gx_then ?_
      refine gc_condF rfl rfl ?_
      refine gc_skip ?_
      refine gx_block_normal ?_
      refine gx_then ?_
      refine gc_region ?_
      refine gp zad ?_
      refine gp zmv ?_
      refine gl_nil ?_
      refine zrd (k + 1) ?_ ?_
      · show n1 - (k + 1) < n1 - k
        omega
      · exact zlp (show k + 1 ≤ n1 by omega)
    · refine gc_exit ?_
      refine gx_then_exit ?_
      refine gx_round_exit ?_
      refine gx_block_hit ?_
      refine gx_then ?_
      refine gsr ?_
      refine gp zas ?_
      refine gnt ?_
      refine gc_ret ?_
      refine gx_ret1 rfl (by conv => lhs; whnf) ?_
      exact ze ()

set_option maxHeartbeats 400000 in
theorem diskPlays_bad {w : World} {F : Nat → Prop} {n0 : Int} {nl cl : Nat} {al : Option Addr} {l : List Op6} {ea : Nat → Addr} (h : stars [] w F) (hN : NErr w (fun k => ¬ F k) ea) (hn : n0 < 1 ∨ 4096 < n0) (hl : RdList (RdOp6 w (fun k => ¬ F k)) w (fun k => ¬ F k) 4 al nl l) :
    Calls Tryd.prog 7 #[.int .i64 n0, .slice al nl cl] w (Post w F (fun _ : Unit => .bool true) (fun _ => [])) := by
  have hE := hN.g
  refine g_enter (env := [(0, .int .i64 n0), (1, .slice al nl cl)]) Tryd.func7 rfl h Tryd.ntmps7 rfl rfl ?_
  refine gsr ?_
  refine gp zas ?_
  refine gnt ?_
  refine gc_seq ?_
  refine gsr ?_
  refine zc (fun _ => ?_) (c := fun w1 F1 F2 h1 h2 hd hst => alive06_ok h1 (hE.mv hst.still))
  refine gp znt ?_
  refine gnt ?_
  refine gc_condF rfl rfl ?_
  refine gc_skip ?_
  refine gx_then ?_
  refine gc_seq ?_
  refine gsr ?_
  refine gp zmv ?_
  refine gp zln ?_
  refine gp zgt ?_
  refine gnt ?_
  refine gif rfl (fun hc20 => ?_) (fun hc20 => ?_)
  · refine gsr ?_
    refine gp zas ?_
    refine gnt ?_
    refine gc_ret ?_
    refine gx_then_ret ?_
    refine gx_ret1 rfl (by conv => lhs; whnf) ?_
    exact ze ()
  · refine gc_skip ?_
    refine gx_then ?_
    refine gsr ?_
    refine gp zmv ?_
    refine zc (fun _ => ?_) (c := fun w1 F1 F2 h1 h2 hd hst => new_bad h1 (hE.mv hst.still) hn)
    refine gp zmv ?_
    refine gp zex ?_
    refine gp zex ?_
    refine gp zas ?_
    refine gp zas ?_
    refine gnt ?_
    refine gc_seq ?_
    refine gc_seq ?_
    by_cases hn1 : n0 < 1
    · refine gc_region ?_
      refine gp zmv ?_
      refine gp (r_bool (c := true) zlt (decide_eq_true hn1)) ?_
      refine gp zmv ?_
      refine gn ?_
      refine gn ?_
      refine gp zpk ?_
      refine gnt ?_
      refine gc_condT rfl rfl ?_
      refine gsr ?_
      refine gp zmv ?_
      refine gp (r_bool (c := true) (r_eqpn rfl Ty.un_25) rfl) ?_
      refine gp zmv ?_
      refine gq zmv ?_
      refine zc (fun _ => ?_) (c := fun w1 F1 F2 h1 h2 hd hst => errNum_ok (n := 1) h1 (hN.mv hst.still) (by decide))
      refine gq (r_bool (c := true) zei rfl) ?_
      refine gp zpk ?_
      refine gp zas ?_
      refine gnt ?_
      refine gc_ret ?_
      refine gx_then_ret ?_
      refine gx_ret1 rfl (by conv => lhs; whnf) ?_
      exact ze ()
    · refine gc_region ?_
      refine gp zmv ?_
      refine gp (r_bool (c := false) zlt (decide_eq_false hn1)) ?_
      refine gp zmv ?_
      refine gq zmv ?_
      refine gq (r_bool (c := true) zgt (decide_eq_true (by omega))) ?_
      refine gp zpk ?_
      refine gnt ?_
      refine gc_condT rfl rfl ?_
      refine gsr ?_
      refine gp zmv ?_
      refine gp (r_bool (c := true) (r_eqpn rfl Ty.un_25) rfl) ?_
      refine gp zmv ?_
      refine gq zmv ?_
      refine zc (fun _ => ?_) (c := fun w1 F1 F2 h1 h2 hd hst => errNum_ok (n := 1) h1 (hN.mv hst.still) (by decide))
      refine gq (r_bool (c := true) zei rfl) ?_
      refine gp zpk ?_
      refine gp zas ?_
      refine gnt ?_
      refine gc_ret ?_
      refine gx_then_ret ?_
      refine gx_ret1 rfl (by conv => lhs; whnf) ?_
      exact ze ()

end Go.Proofs.YtapcnajfbippmaaDoor
