/- Walks, by program (wg.py) out of a spec. -/
import Derived.Test.YtapcnajfbippmaaDoorPa6
namespace Go.Proofs.YtapcnajfbippmaaDoor
open Go
set_option linter.unusedVariables false
set_option linter.unusedSimpArgs false

attribute [local irreducible] Gl Gc Gx Gs Runs Wt

set_option maxHeartbeats 800000 in
theorem diskPlays_good {w : World} {F : Nat → Prop} {n : Nat} {nl cl : Nat} {al : Option Addr} {l : List Op6} {ea : Nat → Addr} (h : stars [] w F) (hN : NErr w (fun k => ¬ F k) ea) (hs1 : 1 ≤ n) (hs2 : n ≤ 4096) (hl : RdList (RdOp6 w (fun k => ¬ F k)) w (fun k => ¬ F k) 4 al nl l) :
    Calls Tryd.prog 7 #[.int .i64 (n : Int), .slice al nl cl] w (Post w F (fun _ : Unit => .bool true) (fun _ => [])) := by
  have hE := hN.g
  refine g_enter (env := [(0, .int .i64 (n : Int)), (1, .slice al nl cl)]) Tryd.func7 rfl h Tryd.ntmps7 rfl rfl ?_
  refine gsr ?_
  refine gp zas ?_
  refine gnt ?_
  refine gc_seq ?_
  refine gsr ?_
  refine zc (fun _ => ?_) (c := fun w1 F1 F2 h1 h2 hd hst => alive06_ok h1 (hE.mv hst.still))
  refine gp znt ?_
  refine gnt ?_
  refine gc_condF rfl rfl ?_
  refine gc_skip ?_
  refine gx_then ?_
  refine gc_seq ?_
  refine gsr ?_
  refine gp zmv ?_
  refine gp zln ?_
  refine gp zgt ?_
  refine gnt ?_
  refine gif rfl (fun hc20 => ?_) (fun hc20 => ?_)
  · refine gsr ?_
    refine gp zas ?_
    refine gnt ?_
    refine gc_ret ?_
    refine gx_then_ret ?_
    refine gx_ret1 rfl (by conv => lhs; whnf) ?_
    exact ze ()
  · refine gc_skip ?_
    refine gx_then ?_
    refine gsr ?_
    refine gp zmv ?_
    refine zc (fun gd => ?_) (c := fun w1 F1 F2 h1 h2 hd hst => new_ok (n := n) (ea := ea) h1 hs1 hs2)
    refine gp zmv ?_
    refine gp zex ?_
    refine gp zex ?_
    refine gp zas ?_
    refine gp zas ?_
    refine gnt ?_
    refine gc_seq ?_
    refine gsr ?_
    refine gp zmv ?_
    refine gp (r_bool (c := false) zlt (decide_eq_false (by omega))) ?_
    refine gp zmv ?_
    refine gq zmv ?_
    refine gq (r_bool (c := false) zgt (decide_eq_false (by omega))) ?_
    refine gp zpk ?_
    refine gnt ?_
    refine gc_condF rfl rfl ?_
    refine gc_skip ?_
    refine gx_then ?_
    refine gc_seq ?_
    refine gsr ?_
    refine gp zmv ?_
    refine gp (r_bool (c := false) (r_nenil rfl (by kernel_rfl)) rfl) ?_
    refine gp zmv ?_
    refine gq zmv ?_
    refine gq (r_bool (c := false) (r_eqpn rfl Ty.un_25) rfl) ?_
    refine gp zpk ?_
    refine gp zmv ?_
    refine gq zmv ?_
    refine zc (fun _ => ?_) (c := fun w1 F1 F2 h1 h2 hd hst => size_ok h1)
    refine gq zmv ?_
    refine gq (r_bool (c := false) zni (by simp)) ?_
    refine gp zpk ?_
    refine gnt ?_
    refine gc_condF rfl rfl ?_
    refine gc_skip ?_
    refine gx_then ?_
    refine gsr ?_
    refine gp zmv ?_
    refine zc (fun gm => ?_) (c := fun w1 F1 F2 h1 h2 hd hst => rnew_ok (n := n) h1 hs1 hs2)
    refine gp zas ?_
    refine gnt ?_
    refine gc_seq ?_
    refine gsr ?_
    refine gp zmv ?_
    refine gp zln ?_
    refine gp zmv ?_
    refine gnt ?_
    refine gc_block ?_
    refine gc_loop (α := Nat × DS × MS) (fun q => [pureR (PInv nl q.1 q.2.1 q.2.2), DiskR gd q.2.1, RefR gm q.2.2]) (fun q => [(55, .int .i64 (q.1 : Int))]) [4, 9, 10, 11, 12, 13, 14, 15, 56, 57, 58, 59, 60, 61, 62, 63, 64, 65, 66, 67, 68, 69, 70, 71, 72, 73, 74, 75, 76, 77, 78, 79, 80, 81, 82, 83, 84, 85, 86, 87, 88, 89, 90, 91, 92, 93, 94, 95, 96, 97, 98, 99, 100, 101, 102, 103, 104, 105, 106, 107, 108, 109, 110, 111, 112, 113, 114, 115, 116, 117, 118, 119, 120, 121, 122, 123, 124, 125, 126, 127, 128, 129, 130, 131, 132, 133, 134, 135, 136, 137, 138, 139, 140, 141, 142, 143, 144, 145, 146, 147, 148, 149, 150, 151, 152, 153, 154] (fun q => nl - q.1) (0, ⟨n, fun _ => sec0, [], false, false, 0⟩, MS.new n) ?_ ?_ ?_
    · refine env_start (by kernel_rfl)
    · exact zlp ⟨Nat.zero_le _, rel_new n, ⟨hs2, by simp [keysW], by simp [keysW], (fun h => by cases h), show (-9223372036854775808 : Int) ≤ 0 ∧ (0 : Int) ≤ 9223372036854775807 by decide⟩, ⟨hs2, show (-1 : Int) ≤ -1 ∧ (-1 : Int) ≤ 9223372036854775807 by decide⟩⟩
    · intro q u
      obtain ⟨k, d, m⟩ := q
      refine gc_pureR (fun hq => ?_)
      obtain ⟨hk, hr, hdk, hmk⟩ := hq
      replace hk : k ≤ nl := hk
      replace hr : RelD d m := hr
      replace hdk : DOk d := hdk
      replace hmk : MOk m := hmk
      refine gsr ?_
      refine gp zlt ?_
      refine gnt ?_
      refine gc_seq ?_
      refine gif rfl (fun hc56 => ?_) (fun hc56 => ?_)
      · try simp only at hc56
        have hk' : k < nl := by omega
        obtain ⟨ga, o, cs, op, ha, hA, hg, hra, hcl, hly, hrd⟩ := hl.elem (by decide) hk'
        subst ha
        obtain ⟨hat, ak, nk, ck, hcs, hnk, hkb⟩ := hrd
        subst hcs
        refine gc_skip ?_
        refine gx_then ?_
        refine gc_seq ?_
        refine gc_block ?_
        refine gsr ?_
        refine gp (zia) ?_
        refine gp (r_ldNo rfl Ty.row_50 Ty.sz_50 hra rfl (by decide) hA) ?_
        refine zal fun b9 => ?_
        refine zsN ?_
        refine gnt ?_
        refine gc_seq ?_
        refine gsr ?_
        refine gp zfa ?_
        refine gp zl ?_
        refine gp zln ?_
        refine gp zgt ?_
        refine gnt ?_
        refine gif rfl (fun hc62 => ?_) (fun hc62 => ?_)
        · refine gsr ?_
          refine gp zas ?_
          refine gnt ?_
          refine gc_ret ?_
          refine gx_then_ret ?_
          refine gx_block_ret ?_
          refine gx_then_ret ?_
          refine gx_round_ret ?_
          refine gx_block_ret ?_
          refine gx_then_ret ?_
          refine gx_ret1 rfl (by conv => lhs; whnf) ?_
          exact ze ()
        · refine gc_skip ?_
          refine gx_then ?_
          refine gsr ?_
          refine gp zas ?_
          refine gnt ?_
          refine gc_join (α := DS × MS) (fun q2 => [pureR (RelD q2.1 q2.2 ∧ DOk q2.1 ∧ MOk q2.2), DiskR gd q2.1, RefR gm q2.2, blk b9 50 [.int .i64 op.kind, .int .i64 op.at', B8 op.byte, .slice ak nk ck]]) (fun q2 => [(10, .bool true)]) [11, 63, 64, 65, 66, 67, 68, 69, 70, 71, 72, 73, 74, 75, 76, 77, 78, 79, 80, 81, 82, 83, 84, 85, 86, 87, 88, 89, 90, 91, 92, 93, 94, 95, 96, 97, 98, 99, 100, 101, 102, 103, 104, 105, 106, 107, 108, 109] ?_ ?_
          · refine gsr ?_
            refine gp zfa ?_
            refine gp zl ?_
            refine gnt ?_
            refine gc_block ?_
            refine gsr ?_
            refine gp zei ?_
            refine gp zas ?_
            refine gnt ?_
            refine gif rfl (fun hc65 => ?_) (fun hc65 => ?_)
            · refine gsr ?_
              refine gp zfa ?_
              refine gp zl ?_
              refine gp (zba (cs := sc (sec2 op.byte)) (by exact rfl)) ?_
              refine zal fun b11 => ?_
              refine zsA (new := sc (sec2 op.byte)) (sc_length _) (sc_one _) ?_
              refine gnt ?_
              refine gc_regionZ 12 ([blk b9 50 [.int .i64 op.kind, .int .i64 op.at', B8 op.byte, .slice ak nk ck], blk b11 31 (sc (sec2 op.byte))]) ?_
              refine yps 0 rfl zmv ?_
              refine yps 1 rfl zfa ?_
              refine yps 2 rfl zl ?_
              refine yps 3 rfl (zL (sg := sc (sec2 op.byte))) ?_
              refine yps 6 rfl zmv ?_
              refine yps 7 rfl zfa ?_
              refine yps 8 rfl zl ?_
              refine yps 9 rfl (zL (sg := sc (sec2 op.byte))) ?_
              refine yos 4 rfl ?_
              refine zc (fun _ => ?_) (c := fun w1 F1 F2 h1 h2 hd hst => write_ok' (i := op.at') (v := sec2 op.byte) h1 hdk (hE.mv hst.still))
              refine yxs ?_
              refine yos 5 rfl ?_
              refine zc (fun _ => ?_) (c := fun w1 F1 F2 h1 h2 hd hst => errNum_ok (n := (d.wr op.at' (sec2 op.byte)).1) h1 (hN.mv hst.still) (wr_le _ _ _))
              refine yxs ?_
              refine yos 10 rfl ?_
              refine zc (fun _ => ?_) (c := fun w1 F1 F2 h1 h2 hd hst => rwrite_ok (i := op.at') (v := sec2 op.byte) h1 hmk)
              refine yxs ?_
              refine yps 11 rfl (r_bool (c := true) zei (decide_eq_true (by rw [(rel_wr hr hdk _ _).1]))) ?_
              refine yzs rfl ?_
              refine gp zas ?_
              refine gl_nil ?_
              refine gx_block_normal ?_
              refine zjn (((d.wr op.at' (sec2 op.byte)).2, (m.wrt op.at' (sec2 op.byte)).2)) ?_
              · exact zlp ⟨(rel_wr hr hdk _ _).2, wr_ok hdk, wrt_ok hmk⟩
            · refine gsr ?_
              refine gp zei ?_
              refine gp zas ?_
              refine gnt ?_
              refine gif rfl (fun hc82 => ?_) (fun hc82 => ?_)
              · refine gc_region ?_
                refine gp zmv ?_
                refine zc (fun _ => ?_) (c := fun w1 F1 F2 h1 h2 hd hst => sync_ok' h1 hdk (hE.mv hst.still))
                refine zc (fun _ => ?_) (c := fun w1 F1 F2 h1 h2 hd hst => errNum_ok (n := if (oper d).off then 6 else 0) h1 (hN.mv hst.still) (by split <;> decide))
                refine gp zmv ?_
                refine zc (fun _ => ?_) (c := fun w1 F1 F2 h1 h2 hd hst => rsync_ok h1 hmk)
                refine gp (r_bool (c := true) zei (decide_eq_true (by rw [(rel_sync hr hdk).1]))) ?_
                refine gp zas ?_
                refine gl_nil ?_
                refine gx_block_normal ?_
                refine zjn ((d.syncd, m.syn.2)) ?_
                · exact zlp ⟨(rel_sync hr hdk).2, syncd_ok hdk, syn_ok hmk⟩
              · refine gsr ?_
                refine gp zei ?_
                refine gp zas ?_
                refine gnt ?_
                refine gif rfl (fun hc90 => ?_) (fun hc90 => ?_)
                · refine gsr ?_
                  refine gp zmv ?_
                  refine gp zfa ?_
                  refine gp zl ?_
                  refine zc (fun _ => ?_) (c := fun w1 F1 F2 h1 h2 hd hst => arm_ok (n := op.at') h1)
                  refine gnt ?_
                  refine gc_region ?_
                  refine gp zmv ?_
                  refine gp zfa ?_
                  refine gp zl ?_
                  refine zc (fun _ => ?_) (c := fun w1 F1 F2 h1 h2 hd hst => rarm_ok (n := op.at') h1)
                  refine gl_nil ?_
                  refine gx_block_normal ?_
                  refine zjn (({ d with armed := decide (0 ≤ op.at'), left := op.at' }, m.arm op.at')) ?_
                  · exact zlp ⟨rel_arm hr _, arm_okD hdk hat, arm_okM hmk hat.2⟩
                · refine gsr ?_
                  refine gp zei ?_
                  refine gp zas ?_
                  refine gnt ?_
                  refine gif rfl (fun hc100 => ?_) (fun hc100 => ?_)
                  · refine gsr ?_
                    refine gp zmv ?_
                    refine gp zfa ?_
                    refine gp zl ?_
                    refine zc (fun _ => ?_) (c := fun w1 F1 F2 h1 h2 hd hst => crash_ok' (kb := op.keep) h1 hdk (hkb.mv hst.still))
                    refine gnt ?_
                    refine gc_region ?_
                    refine gp zmv ?_
                    refine gp zfa ?_
                    refine gp zl ?_
                    refine zc (fun _ => ?_) (c := fun w1 F1 F2 h1 h2 hd hst => rcrash_ok (kb := op.keep) h1 hmk (hkb.mv hst.still))
                    refine gl_nil ?_
                    refine gx_block_normal ?_
                    refine zjn ((d.crash op.keep, m.cra op.keep)) ?_
                    · exact zlp ⟨rel_crash hr hdk _, crash_ok hdk, cra_ok hmk⟩
                  · refine gc_skip ?_
                    refine gx_block_normal ?_
                    refine zjn ((d, m)) ?_
                    · exact zlp ⟨hr, hdk, hmk⟩
          · intro q2 u
            obtain ⟨d2, m2⟩ := q2
            refine gc_pureR (fun hq2 => ?_)
            obtain ⟨hr2, hdk2, hmk2⟩ := hq2
            replace hr2 : RelD d2 m2 := hr2
            replace hdk2 : DOk d2 := hdk2
            replace hmk2 : MOk m2 := hmk2
            refine gsr ?_
            refine gp zmv ?_
            refine gp zfa ?_
            refine gp zl ?_
            refine zc (fun _ => ?_) (c := fun w1 F1 F2 h1 h2 hd hst => read_ok (i := op.at') h1 (hE.mv hst.still))
            refine gp zmv ?_
            refine gp zex ?_
            refine gp zex ?_
            refine zal fun b12 => ?_
            refine zsA (new := sc ((d2.rd op.at').2)) (sc_length _) (sc_one _) ?_
            refine gp zas ?_
            refine gnt ?_
            refine gsr ?_
            refine gp zmv ?_
            refine gp zfa ?_
            refine gp zl ?_
            refine zc (fun _ => ?_) (c := fun w1 F1 F2 h1 h2 hd hst => rread_ok (i := op.at') h1)
            rw [rel_rd hr2 op.at']
            refine gp zmv ?_
            refine gp zex ?_
            refine gp zex ?_
            refine zal fun b14 => ?_
            refine zsA (new := sc ((d2.rd op.at').2)) (sc_length _) (sc_one _) ?_
            refine gp zas ?_
            refine gl_rf (by repeat (first | exact Pick.here | apply Pick.there)) (fun b c e => ?_)
            refine gnt ?_
            refine gc_seq ?_
            refine gc_regionH ([blk b12 31 (sc (d2.rd op.at').2), blk b14 31 (sc (d2.rd op.at').2), blk gm 57 [.slice (some ⟨b, 0, none⟩) m2.n m2.n, .slice (some ⟨c, 0, none⟩) m2.n m2.n, .slice (some ⟨e, 0, none⟩) m2.n m2.n, .bool m2.off, .int .i64 m2.left]]) ?_
            refine yp 0 rfl zmv ?_
            refine yp 1 rfl znt ?_
            refine yp 2 rfl zmv ?_
            refine yp 3 rfl (zL (sg := sc (d2.rd op.at').2)) ?_
            refine yp 4 rfl (zL (sg := sc (d2.rd op.at').2)) ?_
            refine yp 5 rfl (r_bool (c := false) (r_neq_sec (a := (d2.rd op.at').2) (b := (d2.rd op.at').2) Ty.arr_31 Ty.un_5 Ty.sz_5 (by kernel_rfl)) (by simp)) ?_
            refine yp 6 rfl zpk ?_
            refine yp 7 rfl zmv ?_
            refine yp 8 rfl zmv ?_
            refine yp 10 rfl zmv ?_
            refine yo 9 rfl ?_
            refine zc (fun _ => ?_) (c := fun w1 F1 F2 h1 h2 hd hst => errNum_ok (n := (d2.rd op.at').1) h1 (hN.mv hst.still) (rd_le _ _))
            refine yx ?_
            refine yp 11 rfl (r_bool (c := false) zni (by simp)) ?_
            refine yp 12 rfl zpk ?_
            refine yp 13 rfl zmv ?_
            refine yp 14 rfl zmv ?_
            refine yp 16 rfl zmv ?_
            refine yp 17 rfl znc ?_
            refine yp 18 rfl zfa ?_
            refine yp 19 rfl zl ?_
            refine yo 15 rfl ?_
            refine zc (fun _ => ?_) (c := fun w1 F1 F2 h1 h2 hd hst => off_ok h1)
            refine yx ?_
            refine yp 20 rfl (r_bool (c := false) (r_neq_bool rfl rfl Tryd.underlying4) (by rw [hr2.off]; simp)) ?_
            refine yp 21 rfl zpk ?_
            refine yp 22 rfl zmv ?_
            refine yp 23 rfl zmv ?_
            refine yp 25 rfl zmv ?_
            refine yo 24 rfl ?_
            refine zc ?_ (c := fun w1 F1 F2 h1 h2 hd hst => unsynced_ok h1 hdk2)
            rintro ⟨a148, c148⟩
            refine yx ?_
            refine yo 26 rfl ?_
            refine zc ?_ (c := fun w1 F1 F2 h1 h2 hd hst => runs_ok (dt := m2.dt) h1 hmk2.n)
            rintro ⟨a150, c150⟩
            refine yx ?_
            refine yo 27 rfl ?_
            refine zc (fun _ => ?_) (c := fun w1 F1 F2 h1 h2 hd hst => sameInts_ok (l := m2.uns) h1 (by have hx := rd_row h2 hd (xs := (sortZ (keysW d2.ws)).map (Value.int .i64)) (by repeat (first | exact Pick.here | apply Pick.there)); rw [rel_uns hr2 hdk2] at hx; exact hx) (rd_row h2 hd (xs := (unsN m2.dt m2.n).map (Value.int .i64)) (by repeat (first | exact Pick.here | apply Pick.there))))
            refine yx ?_
            refine yp 28 rfl znt ?_
            refine yp 29 rfl zpk ?_
            refine yd ?_
            refine gx_then ?_
            refine gc_condF rfl rfl ?_
            refine gc_skip ?_
            refine gx_block_normal ?_
            refine gx_then ?_
            refine gc_region ?_
            refine gp zad ?_
            refine gp zmv ?_
            refine gl_nil ?_
            refine zrd ((k + 1, d2, m2)) ?_ ?_
            · show nl - (k + 1) < nl - k
              omega
            · exact fun w' hw => zlp (show PInv nl (k + 1) d2 m2 from ⟨by omega, hr2, hdk2, hmk2⟩) (by repeat (first | exact Sel.nil | (apply Sel.cons; · (repeat (first | exact Pick.here | apply Pick.there))))) w' (St.rf (m := m2) (L := [DiskR gd d2]) (hw.sel (by repeat (first | exact Sel.nil | (apply Sel.cons; · (repeat (first | exact Pick.here | apply Pick.there)))))) rfl rfl rfl rfl rfl rfl)
      · refine gc_exit ?_
        refine gx_then_exit ?_
        refine gx_round_exit ?_
        refine gx_block_hit ?_
        refine gx_then ?_
        refine gsr ?_
        refine gp zas ?_
        refine gnt ?_
        refine gc_ret ?_
        refine gx_ret1 rfl (by conv => lhs; whnf) ?_
        exact ze ()


theorem diskPlays_ok {w : World} {F : Nat → Prop} {n0 : Int} {nl cl : Nat} {al : Option Addr} {l : List Op6} {ea : Nat → Addr} (h : stars [] w F) (hN : NErr w (fun k => ¬ F k) ea) (hl : RdList (RdOp6 w (fun k => ¬ F k)) w (fun k => ¬ F k) 4 al nl l) :
    Calls Tryd.prog 7 #[.int .i64 n0, .slice al nl cl] w (Post w F (fun _ : Unit => .bool true) (fun _ => [])) := by
  by_cases hn : n0 < 1 ∨ 4096 < n0
  · exact diskPlays_bad h hN hn hl
  · have e : ((n0.toNat : Nat) : Int) = n0 := Int.toNat_of_nonneg (by omega)
    have := diskPlays_good (n := n0.toNat) (cl := cl) h hN (by omega) (by omega) hl
    rw [e] at this
    exact this
theorem RdOp6.mv {w w' : World} {A A' : Nat → Prop} {cs : List Value} {o : Op6} (h : RdOp6 w A cs o) (k : Still w A w' A') : RdOp6 w' A' cs o := by
  obtain ⟨h1, a, n, c, h2, h3, h4⟩ := h
  exact ⟨h1, a, n, c, h2, h3, h4.mv k⟩

end Go.Proofs.YtapcnajfbippmaaDoor
