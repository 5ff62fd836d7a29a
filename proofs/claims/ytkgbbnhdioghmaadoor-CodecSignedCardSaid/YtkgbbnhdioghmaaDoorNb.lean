/- Walks, by program (wg.py) out of a spec. -/
import Derived.Test.YtkgbbnhdioghmaaDoorNa
namespace Go.Proofs.YtkgbbnhdioghmaaDoor
open Go
set_option linter.unusedVariables false
set_option linter.unusedSimpArgs false

attribute [local irreducible] Gl Gc Gx Gs Runs Wt

set_option maxHeartbeats 1000000 in
set_option maxRecDepth 20000 in
theorem rsum_ok {w : World} {F : Nat → Prop} {b : List UInt8} (h : stars [] w F) (hb : b.length ≤ 1099511627776) :
    Calls Tryd.prog 98 #[.string (str b)] w (Post w F (fun _ : Unit => .agg (fnc B8 32 (outByte (takes Kc v0 (refPad b)).1)).toArray) (fun _ => [])) := by
  have hp63 := padN_le b.length
  have hpl := refPad_length b
  refine g_enter (env := [(0, .string (str b))]) Tryd.func98 rfl h Tryd.ntmps98 rfl rfl ?_
  refine gsr ?_
  refine zal fun b2 => ?_
  refine gnt ?_
  refine gsr ?_
  refine gp zmv ?_
  refine gp zlS ?_
  refine gp (r_int zci (wrap_u64 (by omega) (by omega))) ?_
  refine gp (r_int (r_mul rfl rfl) (show IntKind.u64.wrap ((b.length : Int) * 8) = ((b.length * 8 : Nat) : Int) by rw [wrap_u64 (by omega) (by omega)]; omega)) ?_
  refine gp zas ?_
  refine gnt ?_
  refine gsr ?_
  refine gp zmv ?_
  refine zob fun g28 c28 => ?_
  refine ze1 fun b29 => ?_
  refine zapo (news := [.int .u8 128]) (fun a30 c30 => ?_)
  refine gp zas ?_
  refine gnt ?_
  refine gc_seq ?_
  refine gc_block ?_
  refine gc_loop (α := Nat × Option Addr × Nat) (fun x => [pureR (x.1 ≤ padN b.length), rowR 5 1 x.2.1 (b.length + 1 + x.1) x.2.2 ((rPadRow b x.1).map B8), blk b2 171 (List.replicate 32 (.int .u8 0))]) (fun x => [(4, .slice x.2.1 (b.length + 1 + x.1) x.2.2)]) [31, 32, 33, 34, 35, 36, 37] (fun x => padN b.length - x.1) (0, a30, c30) ?_ ?_ ?_
  · refine env_start (by kernel_rfl)
  · exact zlq (Nat.zero_le _) (M' := [rowR 5 1 a30 (b.length + 1) c30 (b.map B8 ++ [.int .u8 128]), blk b2 171 (List.replicate 32 (.int .u8 0))]) (by simp [rPadRow]; rfl)
  · intro x u
    obtain ⟨k, a4, c4⟩ := x
    refine gc_pureR (fun hk => ?_)
    replace hk : k ≤ padN b.length := hk
    refine gc_seq ?_
    refine gsr ?_
    refine gp zmv ?_
    refine gp (r_int zln (show ((b.length + 1 + k : Nat) : Int) = ((b.length + 1 + k : Nat) : Int) from rfl)) ?_
    refine gp (r_int zrm (rem_nat (m := b.length + 1 + k) (k := 64))) ?_
    refine gp zni ?_
    refine gnt ?_
    refine gif rfl (fun hc34 => ?_) (fun hc34 => ?_)
    · try simp only at hc34
      have hk' : k < padN b.length := by have := pad_hit' hk; omega
      refine gc_skip ?_
      refine gx_then ?_
      refine gc_block ?_
      refine gc_region ?_
      refine gp zmv ?_
      refine ze1 fun b36 => ?_
      refine zapo (news := [.int .u8 0]) (fun a37 c37 => ?_)
      refine gp zas ?_
      refine gl_nil ?_
      refine gx_block_normal ?_
      refine zrd ((k + 1, a37, c37)) ?_ ?_
      · show padN b.length - (k + 1) < padN b.length - k
        omega
      · exact zlq (show k + 1 ≤ padN b.length by omega) (by rw [rPadRow_succ] <;> rfl)
    · try simp only at hc34
      have hk' : k = padN b.length := by have := pad_hit' hk; omega
      subst hk'
      refine gc_exit ?_
      refine gx_then_exit ?_
      refine gx_round_exit ?_
      refine gx_block_hit ?_
      refine gx_then ?_
      refine gc_seq ?_
      refine gsr ?_
      refine gp zas ?_
      refine gnt ?_
      refine gc_block ?_
      refine gc_loop (α := Nat × Option Addr × Nat) (fun x => [pureR (x.1 ≤ 8), rowR 5 1 x.2.1 (b.length + 1 + padN b.length + x.1) x.2.2 ((rLenRow b x.1).map B8), blk b2 171 (List.replicate 32 (.int .u8 0))]) (fun x => [(4, .slice x.2.1 (b.length + 1 + padN b.length + x.1) x.2.2), (5, .int .i64 (x.1 : Int))]) [38, 39, 40, 41, 42, 43, 44, 45, 46, 47, 48, 49, 50, 51] (fun x => 8 - x.1) (0, a4, c4) ?_ ?_ ?_
      · refine env_start (by kernel_rfl)
      · exact zlq (Nat.zero_le _) (by rw [rLenRow_zero] <;> rfl)
      · intro x u
        obtain ⟨k, a5, c5⟩ := x
        refine gc_pureR (fun hk => ?_)
        replace hk : k ≤ 8 := hk
        refine gc_seq ?_
        refine gsr ?_
        refine gp zmv ?_
        refine gp zlt ?_
        refine gnt ?_
        refine gif rfl (fun hc39 => ?_) (fun hc39 => ?_)
        · try simp only at hc39
          have hk' : k < 8 := by omega
          refine gc_skip ?_
          refine gx_then ?_
          refine gc_seq ?_
          refine gc_block ?_
          refine gc_region ?_
          refine gp zmv ?_
          refine gp zmv ?_
          refine gp zmv ?_
          refine gp zml ?_
          refine gp zsb ?_
          refine gp (r_int zci (show IntKind.u64.wrap (56 - 8 * (k : Int)) = 8 * (7 - (k : Int)) by rw [wrap_u64 (by omega) (by omega)]; omega)) ?_
          refine gp zhr ?_
          refine gp (r_val zci (byte_shrU (j := 7 - k) (i := 7 - (k : Int)) (by omega) (by omega))) ?_
          refine ze1 fun b50 => ?_
          refine zapo (news := [B8 (UInt8.ofNat (b.length * 8 / 2 ^ (8 * (7 - k))))]) (fun a51 c51 => ?_)
          refine gp zas ?_
          refine gl_nil ?_
          refine gx_block_normal ?_
          refine gx_then ?_
          refine gc_region ?_
          refine gp zmv ?_
          refine gp zad ?_
          refine gp zas ?_
          refine gl_nil ?_
          refine zrd ((k + 1, a51, c51)) ?_ ?_
          · show 8 - (k + 1) < 8 - k
            omega
          · exact zlq (show k + 1 ≤ 8 by omega) (by rw [rLenRow_succ] <;> rfl)
        · try simp only at hc39
          have hk' : k = 8 := by omega
          subst hk'
          refine gc_exit ?_
          refine gx_then_exit ?_
          refine gx_round_exit ?_
          refine gx_block_hit ?_
          refine gx_then ?_
          refine gsr ?_
          refine gp (r_buildA (cs := List.replicate 64 (.int .u32 0)) Ty.zc_215 Ty.arr_215 Ty.sz_209 (by kernel_rfl)) ?_
          refine zal fun b6 => ?_
          refine zsA (new := List.replicate 64 (.int .u32 0)) List.length_replicate (rep_one rfl) ?_
          refine gnt ?_
          refine gsr ?_
          refine gp (r_buildA (cs := v8c v0) Ty.zc_210 Ty.arr_210 Ty.sz_209 (by kernel_rfl)) ?_
          refine zal fun b7 => ?_
          refine zsA (v8c_length _) (v8c_one _) ?_
          refine gnt ?_
          refine gsr ?_
          refine gp (r_buildA (cs := List.replicate 64 (.int .u32 0)) Ty.zc_215 Ty.arr_215 Ty.sz_209 (by kernel_rfl)) ?_
          refine zal fun b8 => ?_
          refine zsA (new := List.replicate 64 (.int .u32 0)) List.length_replicate (rep_one rfl) ?_
          refine gnt ?_
          refine gc_seq ?_
          refine gsr ?_
          refine gp zmv ?_
          refine gnt ?_
          refine gc_block ?_
          refine gc_loop (α := Nat) (fun k => [pureR (k ≤ 64), blk b8 215 (fnc W32 64 (pfx Kc (fun _ => 0) k)), blk b7 210 (v8c v0), blk b6 215 (List.replicate 64 (.int .u32 0)), rowR 5 1 a5 (b.length + 1 + padN b.length + 8) c5 ((refPad b).map B8), blk b2 171 (List.replicate 32 (.int .u8 0))]) (fun k => [(55, .int .i64 (k : Int))]) [9, 56, 57, 58, 59, 60, 61, 62] (fun k => 64 - k) 0 ?_ ?_ ?_
          · refine env_start (by kernel_rfl)
          · exact zlq (Nat.zero_le _) (M' := [blk b8 215 (List.replicate 64 (.int .u32 0)), blk b7 210 (v8c v0), blk b6 215 (List.replicate 64 (.int .u32 0)), rowR 5 1 a5 (b.length + 1 + padN b.length + 8) c5 ((refPad b).map B8), blk b2 171 (List.replicate 32 (.int .u8 0))]) (by rw [pfx_zero, fnc_const] <;> rfl)
          · intro k u
            refine gc_pureR (fun hk => ?_)
            replace hk : k ≤ 64 := hk
            refine gsr ?_
            refine gp zlt ?_
            refine gnt ?_
            refine gc_seq ?_
            refine gif rfl (fun hc56 => ?_) (fun hc56 => ?_)
            · try simp only at hc56
              have hk' : k < 64 := by omega
              refine gc_skip ?_
              refine gx_then ?_
              refine gc_seq ?_
              refine gc_block ?_
              refine gsr ?_
              refine gp zmv ?_
              refine gp zas ?_
              refine gnt ?_
              refine gc_region ?_
              refine gp zmv ?_
              refine gp zmv ?_
              refine zc (fun _ => ?_) (c := fun w1 F1 F2 h1 h2 hd hst => k_ok (i := k) h1 hk')
              refine gp (r_indexAddr_arr rfl rfl Ty.arr_215 Ty.sz_209 (by omega) (by omega)) ?_
              refine gl_store1 (wt0 rfl) rfl rfl rfl Ty.sz_209 (by repeat (first | exact Pick.here | apply Pick.there)) (by rw [fnc_length]; omega) (pfx_set (k := k) (by omega) (by omega) rfl) ?_
              refine gl_nil ?_
              refine gx_block_normal ?_
              refine gx_then ?_
              refine gc_region ?_
              refine gp zad ?_
              refine gp zmv ?_
              refine gl_nil ?_
              refine zrd (k + 1) ?_ ?_
              · show 64 - (k + 1) < 64 - k
                omega
              · exact zlp (show k + 1 ≤ 64 by omega)
            · try simp only at hc56
              have hk' : k = 64 := by omega
              subst hk'
              refine gc_exit ?_
              refine gx_then_exit ?_
              refine gx_round_exit ?_
              refine gx_block_hit ?_
              refine gx_then ?_
              refine gc_seq ?_
              refine gc_block ?_
              refine gc_loop (α := V8 × List UInt8 × Option Addr × Nat × Nat × (Nat → UInt32)) (fun x => [pureR (takes Kc x.1 x.2.1 = takes Kc v0 (refPad b) ∧ x.2.1.length % 64 = 0 ∧ x.2.1.length ≤ 1099511627906 ∧ x.2.2.2.1 = x.2.1.length), rowR 5 1 x.2.2.1 x.2.2.2.1 x.2.2.2.2.1 (x.2.1.map B8), blk b6 215 (fnc W32 64 x.2.2.2.2.2), blk b7 210 (v8c x.1), blk b8 215 (fnc W32 64 Kc), blk b2 171 (List.replicate 32 (.int .u8 0))]) (fun x => [(4, .slice x.2.2.1 x.2.2.2.1 x.2.2.2.2.1)]) [10, 11, 12, 13, 14, 15, 16, 17, 18, 19, 20, 63, 64, 65, 66, 67, 68, 69, 70, 71, 72, 73, 74, 75, 76, 77, 78, 79, 80, 81, 82, 83, 84, 85, 86, 87, 88, 89, 90, 91, 92, 93, 94, 95, 96, 97, 98, 99, 100, 101, 102, 103, 104, 105, 106, 107, 108, 109, 110, 111, 112, 113, 114, 115, 116, 117, 118, 119, 120, 121, 122, 123, 124, 125, 126, 127, 128, 129, 130, 131, 132, 133, 134, 135, 136, 137, 138, 139, 140, 141, 142, 143, 144, 145, 146, 147, 148, 149, 150, 151, 152, 153, 154, 155, 156, 157, 158, 159, 160, 161, 162, 163, 164, 165, 166, 167, 168, 169, 170, 171, 172, 173, 174, 175, 176, 177, 178, 179, 180, 181, 182, 183, 184, 185, 186, 187, 188, 189, 190, 191, 192, 193, 194, 195, 196, 197, 198, 199, 200, 201, 202, 203, 204, 205, 206, 207, 208, 209, 210, 211, 212, 213, 214, 215, 216, 217, 218, 219, 220, 221, 222, 223, 224, 225, 226, 227, 228, 229, 230, 231, 232, 233, 234, 235, 236, 237, 238, 239, 240, 241, 242, 243, 244, 245, 246, 247, 248, 249, 250] (fun x => x.2.1.length) (v0, refPad b, a5, b.length + 1 + padN b.length + 8, c5, fun _ => 0) ?_ ?_ ?_
              · refine env_start (by kernel_rfl)
              · exact zlq (M' := [rowR 5 1 a5 (b.length + 1 + padN b.length + 8) c5 ((refPad b).map B8), blk b6 215 (List.replicate 64 (.int .u32 0)), blk b7 210 (v8c v0), blk b8 215 (fnc W32 64 (pfx Kc (fun _ => 0) 64)), blk b2 171 (List.replicate 32 (.int .u8 0))]) ⟨rfl, (by show (refPad b).length % 64 = 0; have := (pad_hit' (m := b.length) (Nat.le_refl _)).2 rfl; omega), (by show (refPad b).length ≤ _; omega), hpl.symm⟩ (by rw [pfx_full]; simp only [fnc_const]; rfl)
              · intro x u
                obtain ⟨v, r, a6, n6, c6, T⟩ := x
                refine gc_pureR (fun hk => ?_)
                replace hk : takes Kc v r = takes Kc v0 (refPad b) ∧ r.length % 64 = 0 ∧ r.length ≤ 1099511627906 ∧ n6 = r.length := hk
                obtain ⟨hko, hk64, hkb, rfl⟩ := hk
                refine gc_fact (p := r.length ≤ c6) (fun w hw => (hw.rowLe (e := 5) (size := 1) (a := a6) (m := r.length) (c := c6) (xs := r.map B8) (by repeat (first | exact Pick.here | apply Pick.there))).1) (fun hc6 => ?_)
                refine gc_seq ?_
                refine gsr ?_
                refine gp zmv ?_
                refine gp zln ?_
                refine gp zgt ?_
                refine gnt ?_
                refine gif rfl (fun hc65 => ?_) (fun hc65 => ?_)
                · try simp only at hc65
                  have hk' : 64 ≤ r.length := by omega
                  refine gc_fact (p := ∃ g o, a6 = some ⟨g, o, none⟩) (fun w hw => (by obtain ⟨g, o, e, _⟩ := (hw.row (a := a6) (m := r.length) (c := c6) (xs := r.map B8) (by repeat (first | exact Pick.here | apply Pick.there))).2.2 (by omega); exact ⟨g, o, e⟩)) (fun ha => ?_)
                  obtain ⟨g6, o6, rfl⟩ := ha
                  refine gc_skip ?_
                  refine gx_then ?_
                  refine gc_block ?_
                  refine gc_seq ?_
                  refine gsr ?_
                  refine gp zas ?_
                  refine gnt ?_
                  refine gc_block ?_
                  refine gc_loop (α := Nat) (fun k => [pureR (k ≤ 16), blk b6 215 (fnc W32 64 (pfx (sch (r.take 64)) T k)), blk b7 210 (v8c v), blk b8 215 (fnc W32 64 Kc), blk b2 171 (List.replicate 32 (.int .u8 0)), rowR 5 1 (some ⟨g6, o6, none⟩) r.length c6 (r.map B8)]) (fun k => [(10, .int .i64 (k : Int))]) [66, 67, 68, 69, 70, 71, 72, 73, 74, 75, 76, 77, 78, 79, 80, 81, 82, 83, 84, 85, 86, 87, 88, 89, 90, 91, 92, 93, 94, 95, 96, 97, 98, 99, 100, 101, 102, 103, 104] (fun k => 16 - k) 0 ?_ ?_ ?_
                  · refine env_start (by kernel_rfl)
                  · exact zlq (Nat.zero_le _) (by rw [pfx_zero])
                  · intro k u
                    refine gc_pureR (fun hk => ?_)
                    replace hk : k ≤ 16 := hk
                    refine gc_seq ?_
                    refine gsr ?_
                    refine gp zmv ?_
                    refine gp zlt ?_
                    refine gnt ?_
                    refine gif rfl (fun hc67 => ?_) (fun hc67 => ?_)
                    · try simp only at hc67
                      have hk' : k < 16 := by omega
                      refine gc_skip ?_
                      refine gx_then ?_
                      refine gc_seq ?_
                      refine gc_block ?_
                      refine gc_regionT 35 (by kernel_rfl) (by kernel_rfl) ?_
                      refine sp zmv ?_
                      refine sp zmv ?_
                      refine sp zmv ?_
                      refine sp zml ?_
                      refine sp (zia (m := r.length)) ?_
                      refine sp (r_ld1r (v := B8 (r.getD (4 * k) 0)) rfl Ty.row_5 (by repeat (first | exact Pick.here | apply Pick.there)) (row_byte (by omega) (by omega))) ?_
                      refine sp (r_conv8w rfl Ty.un_5 Ty.un_209) ?_
                      refine sp (r_mulw (b := 16777216) rfl rfl) ?_
                      refine sp zmv ?_
                      refine sp zmv ?_
                      refine sp zml ?_
                      refine sp zad ?_
                      refine sp (zia (m := r.length)) ?_
                      refine sp (r_ld1r (v := B8 (r.getD (4 * k + 1) 0)) rfl Ty.row_5 (by repeat (first | exact Pick.here | apply Pick.there)) (row_byte (by omega) (by omega))) ?_
                      refine sp (r_conv8w rfl Ty.un_5 Ty.un_209) ?_
                      refine sp (r_mulw (b := 65536) rfl rfl) ?_
                      refine sp zwa ?_
                      refine sp zmv ?_
                      refine sp zmv ?_
                      refine sp zml ?_
                      refine sp zad ?_
                      refine sp (zia (m := r.length)) ?_
                      refine sp (r_ld1r (v := B8 (r.getD (4 * k + 2) 0)) rfl Ty.row_5 (by repeat (first | exact Pick.here | apply Pick.there)) (row_byte (by omega) (by omega))) ?_
                      refine sp (r_conv8w rfl Ty.un_5 Ty.un_209) ?_
                      refine sp (r_mulw (b := 256) rfl rfl) ?_
                      refine sp zwa ?_
                      refine sp zmv ?_
                      refine sp zmv ?_
                      refine sp zml ?_
                      refine sp zad ?_
                      refine sp (zia (m := r.length)) ?_
                      refine sp (r_ld1r (v := B8 (r.getD (4 * k + 3) 0)) rfl Ty.row_5 (by repeat (first | exact Pick.here | apply Pick.there)) (row_byte (by omega) (by omega))) ?_
                      refine sp (r_conv8w rfl Ty.un_5 Ty.un_209) ?_
                      refine sp zwa ?_
                      refine sp (r_indexAddr_arr rfl rfl Ty.arr_215 Ty.sz_209 (by omega) (by omega)) ?_
                      refine gs_nil ?_
                      refine gl_store1 (wt0 rfl) rfl rfl rfl Ty.sz_209 (by repeat (first | exact Pick.here | apply Pick.there)) (by rw [fnc_length]; omega) (pfx_set (k := k) (by omega) (by omega) (congrArg W32 (word_take hk' (by omega)))) ?_
                      refine gl_nil ?_
                      refine gx_block_normal ?_
                      refine gx_then ?_
                      refine gc_region ?_
                      refine gp zmv ?_
                      refine gp zad ?_
                      refine gp zas ?_
                      refine gl_nil ?_
                      refine zrd (k + 1) ?_ ?_
                      · show 16 - (k + 1) < 16 - k
                        omega
                      · exact zlp (show k + 1 ≤ 16 by omega)
                    · try simp only at hc67
                      have hk' : k = 16 := by omega
                      subst hk'
                      refine gc_exit ?_
                      refine gx_then_exit ?_
                      refine gx_round_exit ?_
                      refine gx_block_hit ?_
                      refine gx_then ?_
                      refine gc_seq ?_
                      refine gsr ?_
                      refine gp zas ?_
                      refine gnt ?_
                      refine gc_block ?_
                      refine gc_loop (α := Nat) (fun k => [pureR (16 ≤ k ∧ k ≤ 64), blk b6 215 (fnc W32 64 (pfx (sch (r.take 64)) T k)), blk b7 210 (v8c v), blk b8 215 (fnc W32 64 Kc), blk b2 171 (List.replicate 32 (.int .u8 0)), rowR 5 1 (some ⟨g6, o6, none⟩) r.length c6 (r.map B8)]) (fun k => [(11, .int .i64 (k : Int))]) [12, 13, 105, 106, 107, 108, 109, 110, 111, 112, 113, 114, 115, 116, 117, 118, 119, 120, 121, 122, 123, 124, 125, 126, 127, 128, 129, 130, 131, 132, 133, 134, 135, 136, 137, 138, 139, 140, 141, 142, 143, 144, 145] (fun k => 64 - k) 16 ?_ ?_ ?_
                      · refine env_start (by kernel_rfl)
                      · exact zlp ⟨Nat.le_refl _, by decide⟩
                      · intro k u
                        refine gc_pureR (fun hk => ?_)
                        replace hk : 16 ≤ k ∧ k ≤ 64 := hk
                        refine gc_seq ?_
                        refine gsr ?_
                        refine gp zmv ?_
                        refine gp zlt ?_
                        refine gnt ?_
                        refine gif rfl (fun hc106 => ?_) (fun hc106 => ?_)
                        · try simp only at hc106
                          have hk' : k < 64 := by omega
                          refine gc_skip ?_
                          refine gx_then ?_
                          refine gc_seq ?_
                          refine gc_block ?_
                          refine gc_seq ?_
                          refine gc_regionS (by kernel_rfl) (by kernel_rfl) ?_
                          refine sp zmv ?_
                          refine sp zsb ?_
                          refine sp (r_indexAddr_arr rfl rfl Ty.arr_215 Ty.sz_209 (by omega) (by omega)) ?_
                          refine sp (r_ld1 (v := W32 (sch (r.take 64) (k - 15))) rfl Ty.row_209 (by repeat (first | exact Pick.here | apply Pick.there)) (pfx_get (by omega) (by omega) (by omega))) ?_
                          refine sp zmv ?_
                          refine sp zsb ?_
                          refine sp (r_indexAddr_arr rfl rfl Ty.arr_215 Ty.sz_209 (by omega) (by omega)) ?_
                          refine sp (r_ld1 (v := W32 (sch (r.take 64) (k - 2))) rfl Ty.row_209 (by repeat (first | exact Pick.here | apply Pick.there)) (pfx_get (by omega) (by omega) (by omega))) ?_
                          refine sp zas ?_
                          refine sp zas ?_
                          refine gs_nil ?_
                          refine gx_then ?_
                          refine gc_regionZ 29 ([blk b6 215 (fnc W32 64 (pfx (sch (r.take 64)) T k))]) ?_
                          refine yps 0 rfl zmv ?_
                          refine yps 1 rfl zmv ?_
                          refine yps 2 rfl zsb ?_
                          refine yps 3 rfl (r_indexAddr_arr rfl rfl Ty.arr_215 Ty.sz_209 (by omega) (by omega)) ?_
                          refine yps 4 rfl (r_ld1 (v := W32 (sch (r.take 64) (k - 16))) rfl Ty.row_209 (by repeat (first | exact Pick.here | apply Pick.there)) (pfx_get (by omega) (by omega) (by omega))) ?_
                          refine yps 5 rfl zmv ?_
                          refine yps 7 rfl zmv ?_
                          refine yps 10 rfl zmv ?_
                          refine yps 11 rfl (r_shrw (j := 3) rfl rfl rfl (by decide)) ?_
                          refine yps 14 rfl zmv ?_
                          refine yps 15 rfl zsb ?_
                          refine yps 16 rfl (r_indexAddr_arr rfl rfl Ty.arr_215 Ty.sz_209 (by omega) (by omega)) ?_
                          refine yps 17 rfl (r_ld1 (v := W32 (sch (r.take 64) (k - 7))) rfl Ty.row_209 (by repeat (first | exact Pick.here | apply Pick.there)) (pfx_get (by omega) (by omega) (by omega))) ?_
                          refine yps 19 rfl zmv ?_
                          refine yps 21 rfl zmv ?_
                          refine yps 24 rfl zmv ?_
                          refine yps 25 rfl (r_shrw (j := 10) rfl rfl rfl (by decide)) ?_
                          refine yos 6 rfl ?_
                          refine zc (fun _ => ?_) (c := fun w1 F1 F2 h1 h2 hd hst => right_ok (j := 7) h1 (by decide) (by decide))
                          refine yxs ?_
                          refine yos 8 rfl ?_
                          refine zc (fun _ => ?_) (c := fun w1 F1 F2 h1 h2 hd hst => right_ok (j := 18) h1 (by decide) (by decide))
                          refine yxs ?_
                          refine yps 9 rfl zwx ?_
                          refine yps 12 rfl zwx ?_
                          refine yps 13 rfl zwa ?_
                          refine yps 18 rfl zwa ?_
                          refine yos 20 rfl ?_
                          refine zc (fun _ => ?_) (c := fun w1 F1 F2 h1 h2 hd hst => right_ok (j := 17) h1 (by decide) (by decide))
                          refine yxs ?_
                          refine yos 22 rfl ?_
                          refine zc (fun _ => ?_) (c := fun w1 F1 F2 h1 h2 hd hst => right_ok (j := 19) h1 (by decide) (by decide))
                          refine yxs ?_
                          refine yps 23 rfl zwx ?_
                          refine yps 26 rfl zwx ?_
                          refine yps 27 rfl zwa ?_
                          refine yps 28 rfl (r_indexAddr_arr rfl rfl Ty.arr_215 Ty.sz_209 (by omega) (by omega)) ?_
                          refine yzs rfl ?_
                          refine gl_store1 (wt0 rfl) rfl rfl rfl Ty.sz_209 (by repeat (first | exact Pick.here | apply Pick.there)) (by rw [fnc_length]; omega) (pfx_set (k := k) (by omega) (by omega) (congrArg W32 (sch_hi hk.1).symm)) ?_
                          refine gl_nil ?_
                          refine gx_block_normal ?_
                          refine gx_then ?_
                          refine gc_region ?_
                          refine gp zmv ?_
                          refine gp zad ?_
                          refine gp zas ?_
                          refine gl_nil ?_
                          refine zrd (k + 1) ?_ ?_
                          · show 64 - (k + 1) < 64 - k
                            omega
                          · exact zlp (show 16 ≤ k + 1 ∧ k + 1 ≤ 64 by omega)
                        · try simp only at hc106
                          have hk' : k = 64 := by omega
                          subst hk'
                          refine gc_exit ?_
                          refine gx_then_exit ?_
                          refine gx_round_exit ?_
                          refine gx_block_hit ?_
                          refine gx_then ?_
                          refine gsr ?_
                          refine gp (zLa (cs := v8c v)) ?_
                          refine zal fun b14 => ?_
                          refine zsA (v8c_length _) (v8c_one _) ?_
                          refine gnt ?_
                          refine gc_seq ?_
                          refine gsr ?_
                          refine gp zas ?_
                          refine gnt ?_
                          refine gc_block ?_
                          refine gc_loop (α := Nat) (fun k => [pureR (k ≤ 64), blk b14 210 (v8c (rnds Kc (sch (r.take 64)) v k)), blk b6 215 (fnc W32 64 (pfx (sch (r.take 64)) T 64)), blk b7 210 (v8c v), blk b8 215 (fnc W32 64 Kc), blk b2 171 (List.replicate 32 (.int .u8 0)), rowR 5 1 (some ⟨g6, o6, none⟩) r.length c6 (r.map B8)]) (fun k => [(15, .int .i64 (k : Int))]) [16, 17, 18, 19, 147, 148, 149, 150, 151, 152, 153, 154, 155, 156, 157, 158, 159, 160, 161, 162, 163, 164, 165, 166, 167, 168, 169, 170, 171, 172, 173, 174, 175, 176, 177, 178, 179, 180, 181, 182, 183, 184, 185, 186, 187, 188, 189, 190, 191, 192, 193, 194, 195, 196, 197, 198, 199, 200, 201, 202, 203, 204, 205, 206, 207, 208, 209, 210, 211, 212, 213, 214, 215, 216, 217, 218, 219, 220, 221, 222, 223, 224, 225, 226, 227, 228, 229, 230, 231, 232, 233, 234, 235, 236] (fun k => 64 - k) 0 ?_ ?_ ?_
                          · refine env_start (by kernel_rfl)
                          · exact zlp (by first | exact Nat.zero_le _ | omega)
                          · intro k u
                            refine gc_pureR (fun hk => ?_)
                            replace hk : k ≤ 64 := hk
                            refine gc_seq ?_
                            refine gsr ?_
                            refine gp zmv ?_
                            refine gp zlt ?_
                            refine gnt ?_
                            refine gif rfl (fun hc148 => ?_) (fun hc148 => ?_)
                            · try simp only at hc148
                              have hk' : k < 64 := by omega
                              refine gc_skip ?_
                              refine gx_then ?_
                              refine gc_seq ?_
                              refine gc_block ?_
                              refine gsr ?_
                              refine gp zib ?_
                              refine gp zl ?_
                              refine gp zib ?_
                              refine gp zl ?_
                              refine gp zwn ?_
                              refine gp zib ?_
                              refine gp zl ?_
                              refine gp zwc ?_
                              refine gp zib ?_
                              refine gp zl ?_
                              refine gp zwn ?_
                              refine gp zwx ?_
                              refine gp zas ?_
                              refine gnt ?_
                              refine gsr ?_
                              refine gp zib ?_
                              refine gp zl ?_
                              refine gp zib ?_
                              refine gp zl ?_
                              refine gp zwn ?_
                              refine gp zib ?_
                              refine gp zl ?_
                              refine gp zib ?_
                              refine gp zl ?_
                              refine gp zwn ?_
                              refine gp zwx ?_
                              refine gp zib ?_
                              refine gp zl ?_
                              refine gp zib ?_
                              refine gp zl ?_
                              refine gp zwn ?_
                              refine gp zwx ?_
                              refine gp zas ?_
                              refine gnt ?_
                              refine gc_seq ?_
                              refine gc_regionZ 24 ([blk b14 210 (v8c (rnds Kc (sch (r.take 64)) v k)), blk b6 215 (fnc W32 64 (pfx (sch (r.take 64)) T 64)), blk b8 215 (fnc W32 64 Kc)]) ?_
                              refine yps 0 rfl zib ?_
                              refine yps 1 rfl zl ?_
                              refine yps 2 rfl zib ?_
                              refine yps 3 rfl zl ?_
                              refine yps 5 rfl zib ?_
                              refine yps 6 rfl zl ?_
                              refine yps 9 rfl zib ?_
                              refine yps 10 rfl zl ?_
                              refine yps 14 rfl zmv ?_
                              refine yps 16 rfl zmv ?_
                              refine yps 17 rfl (r_indexAddr_arr rfl rfl Ty.arr_215 Ty.sz_209 (by omega) (by omega)) ?_
                              refine yps 18 rfl (r_ld1 (v := W32 (Kc k)) rfl Ty.row_209 (by repeat (first | exact Pick.here | apply Pick.there)) (by rw [show 0 + (k : Int).toNat * 1 = k by omega]; exact fnc_get hk')) ?_
                              refine yps 20 rfl zmv ?_
                              refine yps 21 rfl (r_indexAddr_arr rfl rfl Ty.arr_215 Ty.sz_209 (by omega) (by omega)) ?_
                              refine yps 22 rfl (r_ld1 (v := W32 (sch (r.take 64) (k))) rfl Ty.row_209 (by repeat (first | exact Pick.here | apply Pick.there)) (pfx_get (by omega) (by omega) (by omega))) ?_
                              refine yos 4 rfl ?_
                              refine zc (fun _ => ?_) (c := fun w1 F1 F2 h1 h2 hd hst => right_ok (j := 6) h1 (by decide) (by decide))
                              refine yxs ?_
                              refine yos 7 rfl ?_
                              refine zc (fun _ => ?_) (c := fun w1 F1 F2 h1 h2 hd hst => right_ok (j := 11) h1 (by decide) (by decide))
                              refine yxs ?_
                              refine yps 8 rfl zwx ?_
                              refine yos 11 rfl ?_
                              refine zc (fun _ => ?_) (c := fun w1 F1 F2 h1 h2 hd hst => right_ok (j := 25) h1 (by decide) (by decide))
                              refine yxs ?_
                              refine yps 12 rfl zwx ?_
                              refine yps 13 rfl zwa ?_
                              refine yps 15 rfl zwa ?_
                              refine yps 19 rfl zwa ?_
                              refine yps 23 rfl zwa ?_
                              refine yzs rfl ?_
                              refine gp zas ?_
                              refine gnt ?_
                              refine gc_seq ?_
                              refine gc_regionZ 13 ([blk b14 210 (v8c (rnds Kc (sch (r.take 64)) v k))]) ?_
                              refine yps 0 rfl zib ?_
                              refine yps 1 rfl zl ?_
                              refine yps 3 rfl zib ?_
                              refine yps 4 rfl zl ?_
                              refine yps 7 rfl zib ?_
                              refine yps 8 rfl zl ?_
                              refine yps 11 rfl zmv ?_
                              refine yos 2 rfl ?_
                              refine zc (fun _ => ?_) (c := fun w1 F1 F2 h1 h2 hd hst => right_ok (j := 2) h1 (by decide) (by decide))
                              refine yxs ?_
                              refine yos 5 rfl ?_
                              refine zc (fun _ => ?_) (c := fun w1 F1 F2 h1 h2 hd hst => right_ok (j := 13) h1 (by decide) (by decide))
                              refine yxs ?_
                              refine yps 6 rfl zwx ?_
                              refine yos 9 rfl ?_
                              refine zc (fun _ => ?_) (c := fun w1 F1 F2 h1 h2 hd hst => right_ok (j := 22) h1 (by decide) (by decide))
                              refine yxs ?_
                              refine yps 10 rfl zwx ?_
                              refine yps 12 rfl zwa ?_
                              refine yzs rfl ?_
                              refine gp zas ?_
                              refine gnt ?_
                              refine gc_region ?_
                              refine gp zmv ?_
                              refine gp zmv ?_
                              refine gp zwa ?_
                              refine gp zib ?_
                              refine gp zl ?_
                              refine gp zib ?_
                              refine gp zl ?_
                              refine gp zib ?_
                              refine gp zl ?_
                              refine gp zib ?_
                              refine gp zl ?_
                              refine gp zmv ?_
                              refine gp zwa ?_
                              refine gp zib ?_
                              refine gp zl ?_
                              refine gp zib ?_
                              refine gp zl ?_
                              refine gp zib ?_
                              refine gp zl ?_
                              refine gp (r_buildA (cs := v8c (rnds Kc (sch (r.take 64)) v (k + 1))) Ty.zc_210 Ty.arr_210 Ty.sz_209 rfl) ?_
                              refine zsA (v8c_length _) (v8c_one _) ?_
                              refine gl_nil ?_
                              refine gx_block_normal ?_
                              refine gx_then ?_
                              refine gc_region ?_
                              refine gp zmv ?_
                              refine gp zad ?_
                              refine gp zas ?_
                              refine gl_nil ?_
                              refine zrd (k + 1) ?_ ?_
                              · show 64 - (k + 1) < 64 - k
                                omega
                              · exact zlp (show k + 1 ≤ 64 by omega)
                            · try simp only at hc148
                              have hk' : k = 64 := by omega
                              subst hk'
                              refine gc_exit ?_
                              refine gx_then_exit ?_
                              refine gx_round_exit ?_
                              refine gx_block_hit ?_
                              refine gx_then ?_
                              refine gc_seq ?_
                              refine gsr ?_
                              refine gp zmv ?_
                              refine gnt ?_
                              refine gc_block ?_
                              generalize hV : rnds Kc (sch (r.take 64)) v 64 = V
                              refine gc_loop (α := Nat) (fun k => [pureR (k ≤ 8), blk b7 210 (fnc W32 8 (pfx (v.add V).get v.get k)), blk b14 210 (v8c V), blk b6 215 (fnc W32 64 (pfx (sch (r.take 64)) T 64)), blk b8 215 (fnc W32 64 Kc), blk b2 171 (List.replicate 32 (.int .u8 0)), rowR 5 1 (some ⟨g6, o6, none⟩) r.length c6 (r.map B8)]) (fun k => [(237, .int .i64 (k : Int))]) [20, 238, 239, 240, 241, 242, 243, 244, 245, 246, 247, 248] (fun k => 8 - k) 0 ?_ ?_ ?_
                              · refine env_start (by kernel_rfl)
                              · exact zlq (Nat.zero_le _) (by rw [pfx_zero] <;> rfl)
                              · intro k u
                                refine gc_pureR (fun hk => ?_)
                                replace hk : k ≤ 8 := hk
                                refine gsr ?_
                                refine gp zlt ?_
                                refine gnt ?_
                                refine gc_seq ?_
                                refine gif rfl (fun hc238 => ?_) (fun hc238 => ?_)
                                · try simp only at hc238
                                  have hk' : k < 8 := by omega
                                  refine gc_skip ?_
                                  refine gx_then ?_
                                  refine gc_seq ?_
                                  refine gc_block ?_
                                  refine gsr ?_
                                  refine gp zmv ?_
                                  refine gp zas ?_
                                  refine gnt ?_
                                  refine gc_regionT 8 (by kernel_rfl) (by kernel_rfl) ?_
                                  refine sp zmv ?_
                                  refine sp (r_indexAddr_arr rfl rfl Ty.arr_210 Ty.sz_209 (by omega) (by omega)) ?_
                                  refine sp (r_ld1 (v := W32 (v.get k)) rfl Ty.row_209 (by repeat (first | exact Pick.here | apply Pick.there)) (pfx_get2 (by omega) (by omega) (by omega))) ?_
                                  refine sp zmv ?_
                                  refine sp (r_indexAddr_arr rfl rfl Ty.arr_210 Ty.sz_209 (by omega) (by omega)) ?_
                                  refine sp (r_ld1 (v := W32 (V.get k)) rfl Ty.row_209 (by repeat (first | exact Pick.here | apply Pick.there)) (by rw [show 0 + (k : Int).toNat * 1 = k by omega]; exact fnc_get (V := W32) (f := V.get) hk')) ?_
                                  refine sp zwa ?_
                                  refine sp (r_indexAddr_arr rfl rfl Ty.arr_210 Ty.sz_209 (by omega) (by omega)) ?_
                                  refine gs_nil ?_
                                  refine gl_store1 (wt0 rfl) rfl rfl rfl Ty.sz_209 (by repeat (first | exact Pick.here | apply Pick.there)) (by rw [fnc_length]; omega) (pfx_set (k := k) (by omega) (by omega) (congrArg W32 (V8.add_get _ _ _).symm)) ?_
                                  refine gl_nil ?_
                                  refine gx_block_normal ?_
                                  refine gx_then ?_
                                  refine gc_region ?_
                                  refine gp zad ?_
                                  refine gp zmv ?_
                                  refine gl_nil ?_
                                  refine zrd (k + 1) ?_ ?_
                                  · show 8 - (k + 1) < 8 - k
                                    omega
                                  · exact zlp (show k + 1 ≤ 8 by omega)
                                · try simp only at hc238
                                  have hk' : k = 8 := by omega
                                  subst hk'
                                  have e8 : fnc W32 8 (pfx (v.add V).get v.get 8) = v8c (take64 Kc v (r.take 64)) := by rw [pfx_full, ← hV]; rfl
                                  rw [e8]
                                  refine gc_exit ?_
                                  refine gx_then_exit ?_
                                  refine gx_round_exit ?_
                                  refine gx_block_hit ?_
                                  refine gx_then ?_
                                  refine gc_region ?_
                                  refine gp zmv ?_
                                  refine gp (r_slice_slice (a := some ⟨g6, o6, none⟩) (m := r.length) (c := c6) (l := 64) (h := r.length) rfl Ty.sl_33 Ty.sz_5 ⟨_, rfl⟩ rfl (by omega) (by omega)) ?_
                                  refine gp zas ?_
                                  refine gl_nil ?_
                                  refine gx_block_normal ?_
                                  have hdl : (r.drop 64).length = r.length - 64 := List.length_drop
                                  refine zrd ((take64 Kc v (r.take 64), r.drop 64, (if c6 = 64 then some ⟨g6, o6, none⟩ else (some (⟨g6, o6, none⟩ : Addr)).map (·.add (64 * 1))), r.length - 64, c6 - 64, sch (r.take 64))) ?_ ?_
                                  · show (r.drop 64).length < r.length
                                    omega
                                  · rintro w' hw
                                    obtain ⟨F', hF', hst'⟩ := hw.sel (M := [rowR 5 1 (some ⟨g6, o6, none⟩) r.length c6 (r.map B8), blk b6 215 _, blk b7 210 (v8c (take64 Kc v (r.take 64))), blk b8 215 (fnc W32 64 Kc), blk b2 171 (List.replicate 32 (.int .u8 0))]) (by repeat (first | exact Sel.nil | (apply Sel.cons; · (repeat (first | exact Pick.here | apply Pick.there)))))
                                    refine ⟨F', stars_pure_mk ⟨?_, ?_, ?_, hdl.symm⟩ ?_, hst'⟩
                                    · rw [← hko, takes.eq_1 Kc v r, dif_pos (by omega)]
                                    · show (r.drop 64).length % 64 = 0; omega
                                    · show (r.drop 64).length ≤ _; omega
                                    · have := stars_tail8 (l := 64) (by omega) hF'
                                      rw [pfx_full] at this
                                      exact this
                · try simp only at hc65
                  have hk' : r = [] := List.eq_nil_of_length_eq_zero (by omega)
                  have hV : (takes Kc v0 (refPad b)).1 = v := by rw [← hko, hk', takes_nil]
                  rw [hV]
                  refine gc_exit ?_
                  refine gx_then_exit ?_
                  refine gx_round_exit ?_
                  refine gx_block_hit ?_
                  refine gx_then ?_
                  refine gsr ?_
                  refine gp (r_buildA (cs := List.replicate 32 (.int .u8 0)) Ty.zc_171 Ty.arr_171 Ty.sz_5 (by kernel_rfl)) ?_
                  refine zal fun b21 => ?_
                  refine zsA (new := List.replicate 32 (.int .u8 0)) List.length_replicate (rep_one rfl) ?_
                  refine gnt ?_
                  refine gc_seq ?_
                  refine gsr ?_
                  refine gp zmv ?_
                  refine gnt ?_
                  refine gc_block ?_
                  refine gc_loop (α := Nat) (fun k => [pureR (k ≤ 32), blk b21 171 (fnc B8 32 (pfx (outByte v) (fun _ => 0) k)), blk b7 210 (v8c v), blk b2 171 (List.replicate 32 (.int .u8 0))]) (fun k => [(252, .int .i64 (k : Int))]) [22, 253, 254, 255, 256, 257, 258, 259, 260, 261, 262, 263, 264, 265, 266, 267, 268] (fun k => 32 - k) 0 ?_ ?_ ?_
                  · refine env_start (by kernel_rfl)
                  · exact zlq (Nat.zero_le _) (by rw [pfx_zero, fnc_const] <;> rfl)
                  · intro k u
                    refine gc_pureR (fun hk => ?_)
                    replace hk : k ≤ 32 := hk
                    refine gsr ?_
                    refine gp zlt ?_
                    refine gnt ?_
                    refine gc_seq ?_
                    refine gif rfl (fun hc253 => ?_) (fun hc253 => ?_)
                    · try simp only at hc253
                      have hk' : k < 32 := by omega
                      refine gc_skip ?_
                      refine gx_then ?_
                      refine gc_seq ?_
                      refine gc_block ?_
                      refine gsr ?_
                      refine gp zmv ?_
                      refine gp zas ?_
                      refine gnt ?_
                      refine gc_region ?_
                      refine gp zmv ?_
                      refine gp zmv ?_
                      refine gp (r_int zqu ((congrArg IntKind.i64.wrap (quo_nat (m := k) (k := 4))).trans (wrap_i64 (by omega) (by omega)))) ?_
                      refine gp (r_indexAddr_arr rfl rfl Ty.arr_210 Ty.sz_209 (by omega) (by omega)) ?_
                      refine gp (r_ld1 (v := W32 (v.get (k / 4))) rfl Ty.row_209 (by repeat (first | exact Pick.here | apply Pick.there)) (by rw [show 0 + ((k / 4 : Nat) : Int).toNat * 1 = k / 4 by omega]; exact fnc_get (V := W32) (m := 8) (f := v.get) (by omega))) ?_
                      refine gp zmv ?_
                      refine gp (r_int zrm (rem_nat (m := k) (k := 4))) ?_
                      refine gp zml ?_
                      refine gp zsb ?_
                      refine gp (r_int zci (wrap_u64 (by omega) (by omega))) ?_
                      refine gp (r_shrw (j := 24 - 8 * (k % 4)) rfl rfl (by omega) (by omega)) ?_
                      refine gp (r_convw8 rfl Ty.un_209 Ty.un_5) ?_
                      refine gp (r_indexAddr_arr rfl rfl Ty.arr_171 Ty.sz_5 (by omega) (by omega)) ?_
                      refine gl_store1 (wt0 rfl) rfl rfl rfl Ty.sz_5 (by repeat (first | exact Pick.here | apply Pick.there)) (by rw [fnc_length]; omega) (pfx_set (k := k) (by omega) (by omega) rfl) ?_
                      refine gl_nil ?_
                      refine gx_block_normal ?_
                      refine gx_then ?_
                      refine gc_region ?_
                      refine gp zad ?_
                      refine gp zmv ?_
                      refine gl_nil ?_
                      refine zrd (k + 1) ?_ ?_
                      · show 32 - (k + 1) < 32 - k
                        omega
                      · exact zlp (show k + 1 ≤ 32 by omega)
                    · try simp only at hc253
                      have hk' : k = 32 := by omega
                      subst hk'
                      refine gc_exit ?_
                      refine gx_then_exit ?_
                      refine gx_round_exit ?_
                      refine gx_block_hit ?_
                      refine gx_then ?_
                      refine gsr ?_
                      refine gp (zLa (cs := fnc B8 32 _)) ?_
                      refine zsA fnc_length (fnc_one fun _ => rfl) ?_
                      refine gnt ?_
                      refine gc_ret ?_
                      refine gx_retc rfl rfl (ld_aggS Ty.row_171 Ty.sz_171 (by repeat (first | exact Pick.here | apply Pick.there)) (seg_all fnc_length) fnc_length) ?_
                      rw [pfx_full]
                      exact ze ()

end Go.Proofs.YtkgbbnhdioghmaaDoor
