/- Walks, by program (wg.py) out of a spec. -/
import Derived.Test.YtffkjjakceojfaaDoorHa
namespace Go.Proofs.YtffkjjakceojfaaDoor
open Go
set_option linter.unusedVariables false
set_option linter.unusedSimpArgs false


theorem V8.add_get (x y : V8) (k : Nat) : (x.add y).get k = x.get k + y.get k := by
  unfold V8.get V8.add; split <;> rfl
theorem v8c_length (v : V8) : (v8c v).length = 8 := rfl
instance {v : V8} : Len (v8c v) 8 := ⟨v8c_length v⟩
theorem v8c_one (v : V8) : ∀ u ∈ v8c v, u.oneCell' = true := fun u hu => fnc_one (V := W32) (m := 8) (f := v.get) (fun _ => rfl) u hu

attribute [local irreducible] Gl Gc Gx Gs Runs Wt

set_option maxHeartbeats 400000 in
theorem take_ok {w : World} {F : Nat → Prop} {g T : Nat} {v : V8} {tl : List Value} (h : stars [blk g T (v8c v ++ tl)] w F) (hK : KR w (fun k => ¬ F k)) {b : List UInt8} {a : Option Addr} {c : Nat} (hx : RdRow w (fun k => ¬ F k) 1 a 64 (b.map B8))  :
    Calls Tryd.prog 48 #[.pointer (some ⟨g, 0, none⟩), .slice a 64 c] w (Post w F (fun _ : Unit => .tuple #[]) (fun _ => [blk g T (v8c (take64 Kc v b) ++ tl)])) := by
  refine g_enter (env := [(0, .pointer (some ⟨g, 0, none⟩)), (1, .slice a 64 c)]) Tryd.func48 rfl h Tryd.ntmps48 rfl rfl ?_
  refine gsr ?_
  refine gp zmv ?_
  refine zc (fun _ => ?_) (c := fun w1 F1 F2 h1 h2 hd hst => schedule_ok h1 (hx.mv hst.still))
  refine zal fun b4 => ?_
  refine gl_storeN (wt0 rfl) rfl rfl Ty.sz_100 fnc_length (by repeat (first | exact Pick.here | apply Pick.there)) (by simp) (fnc_one fun _ => rfl) (updL_all (by simp [fnc_length])) ?_
  refine gnt ?_
  refine gc_seq ?_
  refine gc_regionS (by kernel_rfl) (by kernel_rfl) ?_
  refine sp zmv ?_
  refine sp znc ?_
  refine sp (r_indexAddr_arr rfl rfl Ty.arr_95 Ty.sz_93 (by decide) (by decide)) ?_
  refine sp zl ?_
  refine sp zmv ?_
  refine sp znc ?_
  refine sp (r_indexAddr_arr rfl rfl Ty.arr_95 Ty.sz_93 (by decide) (by decide)) ?_
  refine sp zl ?_
  refine sp zmv ?_
  refine sp znc ?_
  refine sp (r_indexAddr_arr rfl rfl Ty.arr_95 Ty.sz_93 (by decide) (by decide)) ?_
  refine sp zl ?_
  refine sp zmv ?_
  refine sp znc ?_
  refine sp (r_indexAddr_arr rfl rfl Ty.arr_95 Ty.sz_93 (by decide) (by decide)) ?_
  refine sp zl ?_
  refine sp zas ?_
  refine sp zas ?_
  refine sp zas ?_
  refine sp zas ?_
  refine gs_nil ?_
  refine gx_then ?_
  refine gc_seq ?_
  refine gc_regionS (by kernel_rfl) (by kernel_rfl) ?_
  refine sp zmv ?_
  refine sp znc ?_
  refine sp (r_indexAddr_arr rfl rfl Ty.arr_95 Ty.sz_93 (by decide) (by decide)) ?_
  refine sp zl ?_
  refine sp zmv ?_
  refine sp znc ?_
  refine sp (r_indexAddr_arr rfl rfl Ty.arr_95 Ty.sz_93 (by decide) (by decide)) ?_
  refine sp zl ?_
  refine sp zmv ?_
  refine sp znc ?_
  refine sp (r_indexAddr_arr rfl rfl Ty.arr_95 Ty.sz_93 (by decide) (by decide)) ?_
  refine sp zl ?_
  refine sp zmv ?_
  refine sp znc ?_
  refine sp (r_indexAddr_arr rfl rfl Ty.arr_95 Ty.sz_93 (by decide) (by decide)) ?_
  refine sp zl ?_
  refine sp zas ?_
  refine sp zas ?_
  refine sp zas ?_
  refine sp zas ?_
  refine gs_nil ?_
  refine gx_then ?_
  refine gc_seq ?_
  refine gsr ?_
  refine gp zmv ?_
  refine gnt ?_
  refine gc_block ?_
  refine gc_loop (α := Nat) (fun k => [pureR (k ≤ 64), blk b4 100 (fnc W32 64 (sch b)), blk g T (v8c v ++ tl)]) (fun k => [(54, .int .i64 (k : Int)), (5, W32 (rnds Kc (sch b) v k).a), (9, W32 (rnds Kc (sch b) v k).b), (6, W32 (rnds Kc (sch b) v k).c), (10, W32 (rnds Kc (sch b) v k).d), (7, W32 (rnds Kc (sch b) v k).e), (11, W32 (rnds Kc (sch b) v k).f), (8, W32 (rnds Kc (sch b) v k).g), (12, W32 (rnds Kc (sch b) v k).h)]) [13, 14, 15, 16, 17, 55, 56, 57, 58, 59, 60, 61, 62, 63, 64, 65, 66, 67, 68, 69, 70, 71, 72, 73, 74, 75, 76, 77, 78, 79, 80, 81, 82, 83, 84, 85, 86, 87, 88, 89, 90, 91, 92, 93, 94, 95, 96, 97, 98, 99, 100, 101, 102, 103, 104, 105, 106, 107, 108, 109, 110, 111, 112, 113, 114, 115, 116, 117, 118] (fun k => 64 - k) 0 ?_ ?_ ?_
  · refine env_start (by kernel_rfl)
  · rintro w' hw
    obtain ⟨F', hF', hst'⟩ := hw.sel (M := [blk b4 100 _, blk g T _]) (by repeat (first | exact Sel.nil | (apply Sel.cons; · (repeat (first | exact Pick.here | apply Pick.there)))))
    exact ⟨F', stars_pure_mk (Nat.zero_le _) hF', hst'⟩
  · intro k u
    refine gc_pureR (fun hk => ?_)
    replace hk : k ≤ 64 := hk
    refine gsr ?_
    refine gp zlt ?_
    refine gnt ?_
    refine gc_seq ?_
    refine gif rfl (fun hc55 => ?_) (fun hc55 => ?_)
    · have hk' : k < 64 := by (try simp only at hc55); omega
      refine gc_skip ?_
      refine gx_then ?_
      refine gc_seq ?_
      refine gc_block ?_
      refine gsr ?_
      refine gp zmv ?_
      refine gp zas ?_
      refine gnt ?_
      refine gsr ?_
      refine gp zmv ?_
      refine zc (fun _ => ?_) (c := fun w1 F1 F2 h1 h2 hd hst => rot_ok (n := 6) h1 (by decide) (by decide))
      refine gp zmv ?_
      refine zc (fun _ => ?_) (c := fun w1 F1 F2 h1 h2 hd hst => rot_ok (n := 11) h1 (by decide) (by decide))
      refine gp zwx ?_
      refine gp zmv ?_
      refine zc (fun _ => ?_) (c := fun w1 F1 F2 h1 h2 hd hst => rot_ok (n := 25) h1 (by decide) (by decide))
      refine gp zwx ?_
      refine gp zas ?_
      refine gnt ?_
      refine gc_seq ?_
      refine gc_regionS (by kernel_rfl) (by kernel_rfl) ?_
      refine sp zmv ?_
      refine sp zmv ?_
      refine sp zwa ?_
      refine sp zmv ?_
      refine sp zmv ?_
      refine sp zwn ?_
      refine sp zmv ?_
      refine sp zwc ?_
      refine sp zmv ?_
      refine sp zwn ?_
      refine sp zwx ?_
      refine sp zwa ?_
      refine sp zmv ?_
      refine sp (r_indexAddr_arr rfl rfl Ty.arr_100 Ty.sz_93 (by omega) (by omega)) ?_
      refine sp (r_ld1o rfl Ty.row_93 (hK.at (i := k) (by omega) hk') hK.n) ?_
      refine sp zwa ?_
      refine sp zmv ?_
      refine sp (r_indexAddr_arr rfl rfl Ty.arr_100 Ty.sz_93 (by omega) (by omega)) ?_
      refine sp (r_ld1 (v := W32 (sch b k)) rfl Ty.row_93 (by repeat (first | exact Pick.here | apply Pick.there)) (by rw [show 0 + (k : Int).toNat * 1 = k by omega]; exact fnc_get hk')) ?_
      refine sp zwa ?_
      refine sp zas ?_
      refine gs_nil ?_
      refine gx_then ?_
      refine gsr ?_
      refine gp zmv ?_
      refine zc (fun _ => ?_) (c := fun w1 F1 F2 h1 h2 hd hst => rot_ok (n := 2) h1 (by decide) (by decide))
      refine gp zmv ?_
      refine zc (fun _ => ?_) (c := fun w1 F1 F2 h1 h2 hd hst => rot_ok (n := 13) h1 (by decide) (by decide))
      refine gp zwx ?_
      refine gp zmv ?_
      refine zc (fun _ => ?_) (c := fun w1 F1 F2 h1 h2 hd hst => rot_ok (n := 22) h1 (by decide) (by decide))
      refine gp zwx ?_
      refine gp zas ?_
      refine gnt ?_
      refine gsr ?_
      refine gp zmv ?_
      refine gp zmv ?_
      refine gp zmv ?_
      refine gp zwn ?_
      refine gp zmv ?_
      refine gp zmv ?_
      refine gp zwn ?_
      refine gp zwx ?_
      refine gp zmv ?_
      refine gp zmv ?_
      refine gp zwn ?_
      refine gp zwx ?_
      refine gp zwa ?_
      refine gp zas ?_
      refine gnt ?_
      refine gc_region ?_
      refine gp zmv ?_
      refine gp zmv ?_
      refine gp zmv ?_
      refine gp zmv ?_
      refine gp zmv ?_
      refine gp zwa ?_
      refine gp zmv ?_
      refine gp zmv ?_
      refine gp zmv ?_
      refine gp zmv ?_
      refine gp zmv ?_
      refine gp zwa ?_
      refine gp zas ?_
      refine gp zas ?_
      refine gp zas ?_
      refine gp zas ?_
      refine gp zas ?_
      refine gp zas ?_
      refine gp zas ?_
      refine gp zas ?_
      refine gl_nil ?_
      refine gx_block_normal ?_
      refine gx_then ?_
      refine gc_region ?_
      refine gp zad ?_
      refine gp zmv ?_
      refine gl_nil ?_
      refine zrd (k + 1) ?_ ?_
      · show 64 - (k + 1) < 64 - k
        omega
      · rintro w' hw
        obtain ⟨F', hF', hst'⟩ := hw.sel (M := [blk b4 100 _, blk g T _]) (by repeat (first | exact Sel.nil | (apply Sel.cons; · (repeat (first | exact Pick.here | apply Pick.there)))))
        exact ⟨F', stars_pure_mk (show k + 1 ≤ 64 by omega) hF', hst'⟩
    · have hk' : k = 64 := by (try simp only at hc55); omega
      subst hk'
      refine gc_exit ?_
      refine gx_then_exit ?_
      refine gx_round_exit ?_
      refine gx_block_hit ?_
      refine gx_then ?_
      refine gsr ?_
      refine gp zmv ?_
      refine gp zmv ?_
      refine gp zmv ?_
      refine gp zmv ?_
      refine gp zmv ?_
      refine gp zmv ?_
      refine gp zmv ?_
      refine gp zmv ?_
      refine gp zba ?_
      refine gp zmv ?_
      refine gnt ?_
      refine gc_block ?_
      generalize hV : rnds Kc (sch b) v 64 = V
      refine gc_loop (α := Nat) (fun k => [pureR (k ≤ 8), blk g T (fnc W32 8 (pfx (v.add V).get v.get k) ++ tl)]) (fun k => [(128, .int .i64 (k : Int))]) [18, 19, 129, 130, 131, 132, 133, 134, 135, 136, 137, 138, 139, 140, 141] (fun k => 8 - k) 0 ?_ ?_ ?_
      · refine env_start (by kernel_rfl)
      · rintro w' hw
        obtain ⟨F', hF', hst'⟩ := hw.sel (M := [blk g T _]) (by repeat (first | exact Sel.nil | (apply Sel.cons; · (repeat (first | exact Pick.here | apply Pick.there)))))
        refine ⟨F', stars_pure_mk (Nat.zero_le _) ?_, hst'⟩
        show stars [blk g T (fnc W32 8 (pfx (v.add V).get v.get 0) ++ tl)] w' F'
        rw [pfx_zero]
        exact hF'
      · intro k u
        refine gc_pureR (fun hk => ?_)
        replace hk : k ≤ 8 := hk
        refine gsr ?_
        refine gp zlt ?_
        refine gnt ?_
        refine gc_seq ?_
        refine gif rfl (fun hc129 => ?_) (fun hc129 => ?_)
        · have hk' : k < 8 := by (try simp only at hc129); omega
          refine gc_skip ?_
          refine gx_then ?_
          refine gc_seq ?_
          refine gc_block ?_
          refine gsr ?_
          refine gp zmv ?_
          refine gp (r_index1 (cs := fnc W32 8 V.get) (v := W32 (V.get k)) rfl rfl Ty.arr_94 Ty.sz_93 Ty.row_93 (by omega) (by omega) (by rw [show (k : Int).toNat * 1 = k by omega]; exact fnc_get hk')) ?_
          refine gp zas ?_
          refine gp zas ?_
          refine gnt ?_
          refine gc_regionT 9 (by kernel_rfl) (by kernel_rfl) ?_
          refine sp zmv ?_
          refine sp zmv ?_
          refine sp znc ?_
          refine sp (r_indexAddr_arr rfl rfl Ty.arr_95 Ty.sz_93 (by omega) (by omega)) ?_
          refine sp (r_ld1 (v := W32 (v.get k)) rfl Ty.row_93 (by repeat (first | exact Pick.here | apply Pick.there)) (get_left (pfx_get2 (by omega) (by omega) (by omega)))) ?_
          refine sp zmv ?_
          refine sp zwa ?_
          refine sp znc ?_
          refine sp (r_indexAddr_arr rfl rfl Ty.arr_95 Ty.sz_93 (by omega) (by omega)) ?_
          refine gs_nil ?_
          refine gl_store1 (wt0 rfl) rfl rfl rfl Ty.sz_93 (by repeat (first | exact Pick.here | apply Pick.there)) (by rw [List.length_append, fnc_length]; omega) ((updL_left (by rw [fnc_length]; simp; omega)).trans (congrArg (· ++ tl) (pfx_set (k := k) (by omega) (by omega) (congrArg W32 (V8.add_get _ _ _).symm)))) ?_
          refine gl_nil ?_
          refine gx_block_normal ?_
          refine gx_then ?_
          refine gc_region ?_
          refine gp zad ?_
          refine gp zmv ?_
          refine gl_nil ?_
          refine zrd (k + 1) ?_ ?_
          · show 8 - (k + 1) < 8 - k
            omega
          · rintro w' hw
            obtain ⟨F', hF', hst'⟩ := hw.sel (M := [blk g T _]) (by repeat (first | exact Sel.nil | (apply Sel.cons; · (repeat (first | exact Pick.here | apply Pick.there)))))
            exact ⟨F', stars_pure_mk (show k + 1 ≤ 8 by omega) hF', hst'⟩
        · have hk' : k = 8 := by (try simp only at hc129); omega
          subst hk'
          refine gc_exit ?_
          refine gx_then_exit ?_
          refine gx_round_exit ?_
          refine gx_block_hit ?_
          refine gx_ret0' rfl ?_
          have e : v8c (take64 Kc v b) = fnc W32 8 (pfx (v.add V).get v.get 8) := by rw [pfx_full, ← hV]; rfl
          rw [e]
          exact ze ()

end Go.Proofs.YtffkjjakceojfaaDoor
