/- Walks, by program (wg.py) out of a spec. -/
import Derived.Test.YtffkjjakceojfaaDoorZa
namespace Go.Proofs.YtffkjjakceojfaaDoor
open Go
set_option linter.unusedVariables false
set_option linter.unusedSimpArgs false

attribute [local irreducible] Gl Gc Gx Gs Runs Wt

set_option maxHeartbeats 400000 in
theorem read_some {w : World} {F : Nat → Prop} {s : Sec} {p : Nat} (h : stars [] w F) (hK : KR w (fun k => ¬ F k)) {c : Nat} {r : List UInt8} (hS : rdSlot s p = some (c, r)) :
    Calls Tryd.prog 32 #[scV s, .int .i64 (p : Int)] w (Post w F (fun x : Option Addr × Nat => .tuple #[.int .i64 (c : Int), .slice x.1 r.length x.2, .bool true]) (fun x => [rowR 5 1 x.1 r.length x.2 (r.map B8)])) := by
  obtain ⟨hcc, hrr, hc63, hpar, hl31, hsl7, hlr⟩ := rdSlot_some hS
  have e9 : 9 + lenS s - 9 = r.length := by omega
  refine g_enter (env := [(0, scV s), (1, .int .i64 (p : Int))]) Tryd.func32 rfl h Tryd.ntmps32 rfl rfl ?_
  refine gsr ?_
  refine zbN fun b2 => ?_
  refine gp zas ?_
  refine gp zas ?_
  refine gp zas ?_
  refine gnt ?_
  refine gsr ?_
  refine gp zas ?_
  refine gnt ?_
  refine gc_seq ?_
  refine gsr ?_
  refine gp (r_slice_arr (l := 0) (h := 8) rfl Ty.arr_37 Ty.sz_5 rfl ⟨_, rfl⟩ (by omega) (by omega) (by omega)) ?_
  refine gp zln ?_
  refine gp zmv ?_
  refine gnt ?_
  refine gc_block ?_
  refine gc_loop (α := Nat) (fun k => [pureR (k ≤ 8), blk b2 37 (sc s)]) (fun k => [(13, .int .i64 (k : Int)), (7, .int .i64 (IntKind.i64.wrap ((valN (s.l.take k) : Nat) : Int)))]) [9, 14, 15, 16, 17, 18, 19, 20, 21, 22] (fun k => 8 - k) 0 ?_ ?_ ?_
  · refine env_start (by kernel_rfl)
  · exact zlp (Nat.zero_le _)
  · intro k u
    refine gc_pureR (fun hk => ?_)
    replace hk : k ≤ 8 := hk
    refine gsr ?_
    refine gp zlt ?_
    refine gnt ?_
    refine gc_seq ?_
    refine gif rfl (fun hc14 => ?_) (fun hc14 => ?_)
    · try simp only at hc14
      have hk' : k < 8 := by omega
      have hb := (s.l.getD k 0).toNat_lt
      have hsl := s.h
      refine gc_skip ?_
      refine gx_then ?_
      refine gc_seq ?_
      refine gc_block ?_
      refine gsr ?_
      refine gp zia ?_
      refine gp (r_ldY (l := s.l) k (by omega)) ?_
      refine gp zas ?_
      refine gnt ?_
      refine gc_region ?_
      refine gp zmv ?_
      refine gp (r_int (j := IntKind.i64.wrap ((valN (s.l.take k) * 256 : Nat) : Int)) zhl shl8) ?_
      refine gp zmv ?_
      refine gp (r_int (j := ((s.l.getD k 0).toNat : Int)) zci (wrap_i64 (by omega) (by omega))) ?_
      refine gp (r_int (j := IntKind.i64.wrap ((valN (s.l.take (k + 1)) : Nat) : Int)) zbt ((orW (valN_lt7 hk')).trans (by rw [take_snoc' (by omega), valN_snoc]))) ?_
      refine gp zas ?_
      refine gl_nil ?_
      refine gx_block_normal ?_
      refine gx_then ?_
      refine gc_region ?_
      refine gp zad ?_
      refine gp zmv ?_
      refine gl_nil ?_
      refine zrd (k + 1) ?_ ?_
      · show 8 - (k + 1) < 8 - k
        omega
      · exact zlp (show k + 1 ≤ 8 by omega)
    · try simp only at hc14
      have hk' : k = 8 := by omega
      subst hk'
      have hsl := s.h
      have hn0 := (s.l.getD 8 0).toNat_lt
      have hl255 : lenS s < 256 := hn0
      have hw8 : IntKind.i64.wrap ((valN (s.l.take 8) : Nat) : Int) = (c : Int) := by rw [show valN (s.l.take 8) = c from hcc.symm]; exact wrap_i64 (by omega) (by omega)
      refine gc_exit ?_
      refine gx_then_exit ?_
      refine gx_round_exit ?_
      refine gx_block_hit ?_
      refine gx_then ?_
      refine gsr ?_
      refine gp zib ?_
      refine gp (r_ldY (l := s.l) 8 (by omega)) ?_
      refine gp (r_int (j := ((lenS s : Nat) : Int)) zci (wrap_i64 (by omega) (by omega))) ?_
      refine gp zas ?_
      refine gnt ?_
      refine gc_seq ?_
      refine gc_seq ?_
      refine gc_regionH ([blk b2 37 (sc s)]) ?_
      refine yp 0 rfl (r_int (j := (c : Int)) (zmv rfl) hw8) ?_
      refine yp 1 rfl (r_bool (c := false) zlt (decide_eq_false (by omega))) ?_
      refine yp 2 rfl zmv ?_
      refine yp 3 rfl (r_int (j := (c : Int)) (zmv rfl) hw8) ?_
      refine yp 4 rfl (r_int (j := ((c % 2 : Nat) : Int)) zrm rfl) ?_
      refine yp 5 rfl zmv ?_
      refine yp 6 rfl (r_bool (c := false) zni (by rw [hpar]; simp)) ?_
      refine yp 7 rfl zpk ?_
      refine yp 8 rfl zmv ?_
      refine yp 9 rfl zmv ?_
      refine yp 10 rfl (r_bool (c := false) zgt (decide_eq_false (by omega))) ?_
      refine yp 11 rfl zpk ?_
      refine yp 12 rfl zmv ?_
      refine yp 13 rfl (r_int (j := (c : Int)) (zmv rfl) hw8) ?_
      refine yp 14 rfl zmv ?_
      refine yp 15 rfl (r_int (j := ((9 + lenS s : Nat) : Int)) zad (by omega)) ?_
      refine yp 16 rfl (r_val (r_slice_arr (l := 9) (h := 9 + lenS s) rfl Ty.arr_37 Ty.sz_5 ⟨_, rfl⟩ ⟨_, rfl⟩ (by omega) (by omega) (by omega)) (by rw [e9])) ?_
      refine yp 18 rfl (zL (sg := sc s)) ?_
      refine yo 17 rfl ?_
      refine zc (fun _ => ?_) (c := fun w1 F1 F2 h1 h2 hd hst => slot_ok (c := (c : Int)) (r := r) (n := (r).length) h1 (hK.mv hst.still) (by have hx := rd_blkY (l := s.l) (o := 9) (m := lenS s) h2 hd (by repeat (first | exact Pick.here | apply Pick.there)) (by omega) (by simp only [maxLen]; omega); rw [show ((s.l.drop 9).take (lenS s)) = recS s from rfl] at hx; rw [← hrr, ← hlr] at hx; exact hx) (by omega))
      refine yx ?_
      refine yp 19 rfl (r_bool (c := false) (r_neq_sec (a := slotS c r) (b := s) Ty.arr_37 Ty.un_5 Ty.sz_5 (by kernel_rfl)) (by rw [hsl7]; simp)) ?_
      refine yp 20 rfl zpk ?_
      refine yd ?_
      refine gx_then ?_
      refine gc_condF rfl rfl ?_
      refine gc_skip ?_
      refine gx_then ?_
      refine gsr ?_
      refine gp (r_int (j := (c : Int)) (zmv rfl) hw8) ?_
      refine gp zmv ?_
      refine gp (r_int (j := ((9 + lenS s : Nat) : Int)) zad (by omega)) ?_
      refine gp (r_val (r_slice_arr (l := 9) (h := 9 + lenS s) rfl Ty.arr_37 Ty.sz_5 ⟨_, rfl⟩ ⟨_, rfl⟩ (by omega) (by omega) (by omega)) (by rw [e9])) ?_
      refine zc (fun x51 => ?_) (c := fun w1 F1 F2 h1 h2 hd hst => cloneBytes_ok (n := r.length) (xs := r.map B8) h1 (by have hx := rd_blkY (l := s.l) (o := 9) (m := lenS s) h2 hd (by repeat (first | exact Pick.here | apply Pick.there)) (by omega) (by simp only [maxLen]; omega); rw [show ((s.l.drop 9).take (lenS s)) = recS s from rfl, ← hrr, ← hlr] at hx; exact hx) (one_B8 _) (by omega))
      refine gp zas ?_
      refine gp zas ?_
      refine gp zas ?_
      refine gnt ?_
      refine gc_ret ?_
      refine gx_ret3 rfl (by conv => lhs; whnf) (by conv => lhs; whnf) (by conv => lhs; whnf) ?_
      exact ze x51

set_option maxHeartbeats 400000 in
theorem read_none {w : World} {F : Nat → Prop} {s : Sec} {p : Nat} (h : stars [] w F) (hK : KR w (fun k => ¬ F k)) (hS : rdSlot s p = none) :
    Calls Tryd.prog 32 #[scV s, .int .i64 (p : Int)] w (Post w F (fun _ : Unit => .tuple #[.int .i64 0, .slice none 0 0, .bool false]) (fun _ => [])) := by
  have hcl := cntS_lt s
  refine g_enter (env := [(0, scV s), (1, .int .i64 (p : Int))]) Tryd.func32 rfl h Tryd.ntmps32 rfl rfl ?_
  refine gsr ?_
  refine zbN fun b2 => ?_
  refine gp zas ?_
  refine gp zas ?_
  refine gp zas ?_
  refine gnt ?_
  refine gsr ?_
  refine gp zas ?_
  refine gnt ?_
  refine gc_seq ?_
  refine gsr ?_
  refine gp (r_slice_arr (l := 0) (h := 8) rfl Ty.arr_37 Ty.sz_5 rfl ⟨_, rfl⟩ (by omega) (by omega) (by omega)) ?_
  refine gp zln ?_
  refine gp zmv ?_
  refine gnt ?_
  refine gc_block ?_
  refine gc_loop (α := Nat) (fun k => [pureR (k ≤ 8), blk b2 37 (sc s)]) (fun k => [(13, .int .i64 (k : Int)), (7, .int .i64 (IntKind.i64.wrap ((valN (s.l.take k) : Nat) : Int)))]) [9, 14, 15, 16, 17, 18, 19, 20, 21, 22] (fun k => 8 - k) 0 ?_ ?_ ?_
  · refine env_start (by kernel_rfl)
  · exact zlp (Nat.zero_le _)
  · intro k u
    refine gc_pureR (fun hk => ?_)
    replace hk : k ≤ 8 := hk
    refine gsr ?_
    refine gp zlt ?_
    refine gnt ?_
    refine gc_seq ?_
    refine gif rfl (fun hc14 => ?_) (fun hc14 => ?_)
    · try simp only at hc14
      have hk' : k < 8 := by omega
      have hb := (s.l.getD k 0).toNat_lt
      have hsl := s.h
      refine gc_skip ?_
      refine gx_then ?_
      refine gc_seq ?_
      refine gc_block ?_
      refine gsr ?_
      refine gp zia ?_
      refine gp (r_ldY (l := s.l) k (by omega)) ?_
      refine gp zas ?_
      refine gnt ?_
      refine gc_region ?_
      refine gp zmv ?_
      refine gp (r_int (j := IntKind.i64.wrap ((valN (s.l.take k) * 256 : Nat) : Int)) zhl shl8) ?_
      refine gp zmv ?_
      refine gp (r_int (j := ((s.l.getD k 0).toNat : Int)) zci (wrap_i64 (by omega) (by omega))) ?_
      refine gp (r_int (j := IntKind.i64.wrap ((valN (s.l.take (k + 1)) : Nat) : Int)) zbt ((orW (valN_lt7 hk')).trans (by rw [take_snoc' (by omega), valN_snoc]))) ?_
      refine gp zas ?_
      refine gl_nil ?_
      refine gx_block_normal ?_
      refine gx_then ?_
      refine gc_region ?_
      refine gp zad ?_
      refine gp zmv ?_
      refine gl_nil ?_
      refine zrd (k + 1) ?_ ?_
      · show 8 - (k + 1) < 8 - k
        omega
      · exact zlp (show k + 1 ≤ 8 by omega)
    · try simp only at hc14
      have hk' : k = 8 := by omega
      subst hk'
      have hsl := s.h
      have hn0 := (s.l.getD 8 0).toNat_lt
      have hl255 : lenS s < 256 := hn0
      refine gc_exit ?_
      refine gx_then_exit ?_
      refine gx_round_exit ?_
      refine gx_block_hit ?_
      refine gx_then ?_
      refine gsr ?_
      refine gp zib ?_
      refine gp (r_ldY (l := s.l) 8 (by omega)) ?_
      refine gp (r_int (j := ((lenS s : Nat) : Int)) zci (wrap_i64 (by omega) (by omega))) ?_
      refine gp zas ?_
      refine gnt ?_
      refine gc_seq ?_
      refine gc_seq ?_
      by_cases h63 : 9223372036854775808 ≤ cntS s
      · refine gc_regionH ([blk b2 37 (sc s)]) ?_
        refine yp 0 rfl zmv ?_
        refine yp 1 rfl (r_bool (c := true) zlt (decide_eq_true (wrap_big (x := cntS s) h63 hcl))) ?_
        refine yp 2 rfl zmv ?_
        refine yn 3 rfl ?_
        refine yn 4 rfl ?_
        refine yn 5 rfl ?_
        refine yn 6 rfl ?_
        refine yp 7 rfl zpk ?_
        refine yp 8 rfl zmv ?_
        refine yn 9 rfl ?_
        refine yn 10 rfl ?_
        refine yp 11 rfl zpk ?_
        refine yp 12 rfl zmv ?_
        refine yn 13 rfl ?_
        refine yn 14 rfl ?_
        refine yn 15 rfl ?_
        refine yn 16 rfl ?_
        refine yn 17 rfl ?_
        refine yn 18 rfl ?_
        refine yn 19 rfl ?_
        refine yp 20 rfl zpk ?_
        refine yd ?_
        refine gx_then ?_
        refine gc_condT rfl rfl ?_
        refine gsr ?_
        refine gp zas ?_
        refine gp zas ?_
        refine gp zas ?_
        refine gnt ?_
        refine gc_ret ?_
        refine gx_then_ret ?_
        refine gx_ret3 rfl (by conv => lhs; whnf) (by conv => lhs; whnf) (by conv => lhs; whnf) ?_
        exact ze ()
      · have hw8 : IntKind.i64.wrap ((valN (s.l.take 8) : Nat) : Int) = (cntS s : Int) := wrap_i64 (by omega) (by have : valN (s.l.take 8) = cntS s := rfl; omega)
        by_cases hpar : cntS s % 2 = p
        · by_cases hl31 : 31 < lenS s
          · refine gc_regionH ([blk b2 37 (sc s)]) ?_
            refine yp 0 rfl (r_int (j := (cntS s : Int)) (zmv rfl) hw8) ?_
            refine yp 1 rfl (r_bool (c := false) zlt (decide_eq_false (by omega))) ?_
            refine yp 2 rfl zmv ?_
            refine yp 3 rfl (r_int (j := (cntS s : Int)) (zmv rfl) hw8) ?_
            refine yp 4 rfl (r_int (j := ((cntS s % 2 : Nat) : Int)) zrm rfl) ?_
            refine yp 5 rfl zmv ?_
            refine yp 6 rfl (r_bool (c := false) zni (by rw [hpar]; simp)) ?_
            refine yp 7 rfl zpk ?_
            refine yp 8 rfl zmv ?_
            refine yp 9 rfl zmv ?_
            refine yp 10 rfl (r_bool (c := true) zgt (decide_eq_true (by omega))) ?_
            refine yp 11 rfl zpk ?_
            refine yp 12 rfl zmv ?_
            refine yn 13 rfl ?_
            refine yn 14 rfl ?_
            refine yn 15 rfl ?_
            refine yn 16 rfl ?_
            refine yn 17 rfl ?_
            refine yn 18 rfl ?_
            refine yn 19 rfl ?_
            refine yp 20 rfl zpk ?_
            refine yd ?_
            refine gx_then ?_
            refine gc_condT rfl rfl ?_
            refine gsr ?_
            refine gp zas ?_
            refine gp zas ?_
            refine gp zas ?_
            refine gnt ?_
            refine gc_ret ?_
            refine gx_then_ret ?_
            refine gx_ret3 rfl (by conv => lhs; whnf) (by conv => lhs; whnf) (by conv => lhs; whnf) ?_
            exact ze ()
          · have hlr := recS_len (s := s) (by omega)
            have e9 : 9 + lenS s - 9 = (recS s).length := by omega
            have hne : slotS (cntS s) (recS s) ≠ s := fun e => by rw [rdSlot, if_pos ⟨by omega, hpar, by omega, e⟩] at hS; cases hS
            refine gc_regionH ([blk b2 37 (sc s)]) ?_
            refine yp 0 rfl (r_int (j := (cntS s : Int)) (zmv rfl) hw8) ?_
            refine yp 1 rfl (r_bool (c := false) zlt (decide_eq_false (by omega))) ?_
            refine yp 2 rfl zmv ?_
            refine yp 3 rfl (r_int (j := (cntS s : Int)) (zmv rfl) hw8) ?_
            refine yp 4 rfl (r_int (j := ((cntS s % 2 : Nat) : Int)) zrm rfl) ?_
            refine yp 5 rfl zmv ?_
            refine yp 6 rfl (r_bool (c := false) zni (by rw [hpar]; simp)) ?_
            refine yp 7 rfl zpk ?_
            refine yp 8 rfl zmv ?_
            refine yp 9 rfl zmv ?_
            refine yp 10 rfl (r_bool (c := false) zgt (decide_eq_false (by omega))) ?_
            refine yp 11 rfl zpk ?_
            refine yp 12 rfl zmv ?_
            refine yp 13 rfl (r_int (j := (cntS s : Int)) (zmv rfl) hw8) ?_
            refine yp 14 rfl zmv ?_
            refine yp 15 rfl (r_int (j := ((9 + lenS s : Nat) : Int)) zad (by omega)) ?_
            refine yp 16 rfl (r_val (r_slice_arr (l := 9) (h := 9 + lenS s) rfl Ty.arr_37 Ty.sz_5 ⟨_, rfl⟩ ⟨_, rfl⟩ (by omega) (by omega) (by omega)) (by rw [e9])) ?_
            refine yp 18 rfl (zL (sg := sc s)) ?_
            refine yo 17 rfl ?_
            refine zc (fun _ => ?_) (c := fun w1 F1 F2 h1 h2 hd hst => slot_ok (c := (cntS s : Int)) (r := recS s) (n := (recS s).length) h1 (hK.mv hst.still) (by have hx := rd_blkY (l := s.l) (o := 9) (m := lenS s) h2 hd (by repeat (first | exact Pick.here | apply Pick.there)) (by omega) (by simp only [maxLen]; omega); rw [show ((s.l.drop 9).take (lenS s)) = recS s from rfl] at hx; rw [← hlr] at hx; exact hx) (by omega))
            refine yx ?_
            refine yp 19 rfl (r_bool (c := true) (r_neq_sec (a := slotS (cntS s) (recS s)) (b := s) Ty.arr_37 Ty.un_5 Ty.sz_5 (by kernel_rfl)) (by simp [hne])) ?_
            refine yp 20 rfl zpk ?_
            refine yd ?_
            refine gx_then ?_
            refine gc_condT rfl rfl ?_
            refine gsr ?_
            refine gp zas ?_
            refine gp zas ?_
            refine gp zas ?_
            refine gnt ?_
            refine gc_ret ?_
            refine gx_then_ret ?_
            refine gx_ret3 rfl (by conv => lhs; whnf) (by conv => lhs; whnf) (by conv => lhs; whnf) ?_
            exact ze ()
        · refine gc_regionH ([blk b2 37 (sc s)]) ?_
          refine yp 0 rfl (r_int (j := (cntS s : Int)) (zmv rfl) hw8) ?_
          refine yp 1 rfl (r_bool (c := false) zlt (decide_eq_false (by omega))) ?_
          refine yp 2 rfl zmv ?_
          refine yp 3 rfl (r_int (j := (cntS s : Int)) (zmv rfl) hw8) ?_
          refine yp 4 rfl (r_int (j := ((cntS s % 2 : Nat) : Int)) zrm rfl) ?_
          refine yp 5 rfl zmv ?_
          refine yp 6 rfl (r_bool (c := true) zni (by simp; omega)) ?_
          refine yp 7 rfl zpk ?_
          refine yp 8 rfl zmv ?_
          refine yn 9 rfl ?_
          refine yn 10 rfl ?_
          refine yp 11 rfl zpk ?_
          refine yp 12 rfl zmv ?_
          refine yn 13 rfl ?_
          refine yn 14 rfl ?_
          refine yn 15 rfl ?_
          refine yn 16 rfl ?_
          refine yn 17 rfl ?_
          refine yn 18 rfl ?_
          refine yn 19 rfl ?_
          refine yp 20 rfl zpk ?_
          refine yd ?_
          refine gx_then ?_
          refine gc_condT rfl rfl ?_
          refine gsr ?_
          refine gp zas ?_
          refine gp zas ?_
          refine gp zas ?_
          refine gnt ?_
          refine gc_ret ?_
          refine gx_then_ret ?_
          refine gx_ret3 rfl (by conv => lhs; whnf) (by conv => lhs; whnf) (by conv => lhs; whnf) ?_
          exact ze ()

end Go.Proofs.YtffkjjakceojfaaDoor
