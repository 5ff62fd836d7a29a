/- Part 6 of 6. What is proved: see the last part: for every input the law returns true, and the input reads as it did. -/
import Derived.Test.YtkgbbnhdioghmaaGreatDoorCg5
import Derived.Test.YtkgbbnhdioghmaaGreatDoorCards
import Derived.Test.YtkgbbnhdioghmaaGreatDoorTie
import Derived.Deep.DeepHandedRow
import Derived.Deep.DeepWitnessRowRef
/- Walks, by program (wg.py) out of a spec. -/
namespace Go.Proofs.YtkgbbnhdioghmaaGreatDoor
open Go
set_option linter.unusedVariables false
set_option linter.unusedSimpArgs false

attribute [local irreducible] Gl Gc Gx Gs Runs Wt

set_option maxHeartbeats 1000000 in
set_option maxRecDepth 20000 in
theorem rsum_ok {w : World} {F : Nat → Prop} {b : List UInt8} (h : stars [] w F) (hb : b.length ≤ 1099511627776) :
    Calls Tryz.prog 125 #[.string (str b)] w (Post w F (fun _ : Unit => .agg (fnc B8 32 (outByte (takes Kc v0 (refPad b)).1)).toArray) (fun _ => [])) := by
  have hp63 := padN_le b.length
  have hpl := refPad_length b
  refine g_enter (env := [(0, .string (str b))]) Tryz.func125 rfl h Tryz.ntmps125 rfl rfl ?_
  refine gsr ?_
  refine zal fun b2 => ?_
  refine gnt ?_
  refine gsr ?_
  refine gp zmv ?_
  refine gp zlS ?_
  refine gp (r_int zci (wrap_u64 (by omega) (by omega))) ?_
  refine gp (r_int (r_mul rfl rfl) (show IntKind.u64.wrap ((b.length : Int) * 8) = ((b.length * 8 : Nat) : Int) by rw [wrap_u64 (by omega) (by omega)]; omega)) ?_
  refine gp zas ?_
  refine gnt ?_
  refine gsr ?_
  refine gp zmv ?_
  refine zob fun g28 c28 => ?_
  refine ze1 fun b29 => ?_
  refine zapo (news := [.int .u8 128]) (fun a30 c30 => ?_)
  refine gp zas ?_
  refine gnt ?_
  refine gc_seq ?_
  refine gc_block ?_
  refine gc_loop (α := Nat × Option Addr × Nat) (fun x => [pureR (x.1 ≤ padN b.length), rowR 5 1 x.2.1 (b.length + 1 + x.1) x.2.2 ((rPadRow b x.1).map B8), blk b2 207 (List.replicate 32 (.int .u8 0))]) (fun x => [(4, .slice x.2.1 (b.length + 1 + x.1) x.2.2)]) [31, 32, 33, 34, 35, 36, 37] (fun x => padN b.length - x.1) (0, a30, c30) ?_ ?_ ?_
  · refine env_start (by kernel_rfl)
  · exact zlq (Nat.zero_le _) (M' := [rowR 5 1 a30 (b.length + 1) c30 (b.map B8 ++ [.int .u8 128]), blk b2 207 (List.replicate 32 (.int .u8 0))]) (by simp [rPadRow]; rfl)
  · intro x u
    obtain ⟨k, a4, c4⟩ := x
    refine gc_pureR (fun hk => ?_)
    replace hk : k ≤ padN b.length := hk
    refine gc_seq ?_
    refine gsr ?_
    refine gp zmv ?_
    refine gp (r_int zln (show ((b.length + 1 + k : Nat) : Int) = ((b.length + 1 + k : Nat) : Int) from rfl)) ?_
    refine gp (r_int zrm (rem_nat (m := b.length + 1 + k) (k := 64))) ?_
    refine gp zni ?_
    refine gnt ?_
    refine gif rfl (fun hc34 => ?_) (fun hc34 => ?_)
    · try simp only at hc34
      have hk' : k < padN b.length := by have := pad_hit' hk; omega
      refine gc_skip ?_
      refine gx_then ?_
      refine gc_block ?_
      refine gc_region ?_
      refine gp zmv ?_
      refine ze1 fun b36 => ?_
      refine zapo (news := [.int .u8 0]) (fun a37 c37 => ?_)
      refine gp zas ?_
      refine gl_nil ?_
      refine gx_block_normal ?_
      refine zrd ((k + 1, a37, c37)) ?_ ?_
      · show padN b.length - (k + 1) < padN b.length - k
        omega
      · exact zlq (show k + 1 ≤ padN b.length by omega) (by rw [rPadRow_succ] <;> rfl)
    · try simp only at hc34
      have hk' : k = padN b.length := by have := pad_hit' hk; omega
      subst hk'
      refine gc_exit ?_
      refine gx_then_exit ?_
      refine gx_round_exit ?_
      refine gx_block_hit ?_
      refine gx_then ?_
      refine gc_seq ?_
      refine gsr ?_
      refine gp zas ?_
      refine gnt ?_
      refine gc_block ?_
      refine gc_loop (α := Nat × Option Addr × Nat) (fun x => [pureR (x.1 ≤ 8), rowR 5 1 x.2.1 (b.length + 1 + padN b.length + x.1) x.2.2 ((rLenRow b x.1).map B8), blk b2 207 (List.replicate 32 (.int .u8 0))]) (fun x => [(4, .slice x.2.1 (b.length + 1 + padN b.length + x.1) x.2.2), (5, .int .i64 (x.1 : Int))]) [38, 39, 40, 41, 42, 43, 44, 45, 46, 47, 48, 49, 50, 51] (fun x => 8 - x.1) (0, a4, c4) ?_ ?_ ?_
      · refine env_start (by kernel_rfl)
      · exact zlq (Nat.zero_le _) (by rw [rLenRow_zero] <;> rfl)
      · intro x u
        obtain ⟨k, a5, c5⟩ := x
        refine gc_pureR (fun hk => ?_)
        replace hk : k ≤ 8 := hk
        refine gc_seq ?_
        refine gsr ?_
        refine gp zmv ?_
        refine gp zlt ?_
        refine gnt ?_
        refine gif rfl (fun hc39 => ?_) (fun hc39 => ?_)
        · try simp only at hc39
          have hk' : k < 8 := by omega
          refine gc_skip ?_
          refine gx_then ?_
          refine gc_seq ?_
          refine gc_block ?_
          refine gc_region ?_
          refine gp zmv ?_
          refine gp zmv ?_
          refine gp zmv ?_
          refine gp zml ?_
          refine gp zsb ?_
          refine gp (r_int zci (show IntKind.u64.wrap (56 - 8 * (k : Int)) = 8 * (7 - (k : Int)) by rw [wrap_u64 (by omega) (by omega)]; omega)) ?_
          refine gp zhr ?_
          refine gp (r_val zci (byte_shrU (j := 7 - k) (i := 7 - (k : Int)) (by omega) (by omega))) ?_
          refine ze1 fun b50 => ?_
          refine zapo (news := [B8 (UInt8.ofNat (b.length * 8 / 2 ^ (8 * (7 - k))))]) (fun a51 c51 => ?_)
          refine gp zas ?_
          refine gl_nil ?_
          refine gx_block_normal ?_
          refine gx_then ?_
          refine gc_region ?_
          refine gp zmv ?_
          refine gp zad ?_
          refine gp zas ?_
          refine gl_nil ?_
          refine zrd ((k + 1, a51, c51)) ?_ ?_
          · show 8 - (k + 1) < 8 - k
            omega
          · exact zlq (show k + 1 ≤ 8 by omega) (by rw [rLenRow_succ] <;> rfl)
        · try simp only at hc39
          have hk' : k = 8 := by omega
          subst hk'
          refine gc_exit ?_
          refine gx_then_exit ?_
          refine gx_round_exit ?_
          refine gx_block_hit ?_
          refine gx_then ?_
          refine gsr ?_
          refine gp (r_buildA (cs := List.replicate 64 (.int .u32 0)) Ty.zc_250 Ty.arr_250 Ty.sz_249 (by kernel_rfl)) ?_
          refine zal fun b6 => ?_
          refine zsA (new := List.replicate 64 (.int .u32 0)) List.length_replicate (rep_one rfl) ?_
          refine gnt ?_
          refine gsr ?_
          refine gp (r_buildA (cs := v8c v0) Ty.zc_251 Ty.arr_251 Ty.sz_249 (by kernel_rfl)) ?_
          refine zal fun b7 => ?_
          refine zsA (v8c_length _) (v8c_one _) ?_
          refine gnt ?_
          refine gsr ?_
          refine gp (r_buildA (cs := List.replicate 64 (.int .u32 0)) Ty.zc_250 Ty.arr_250 Ty.sz_249 (by kernel_rfl)) ?_
          refine zal fun b8 => ?_
          refine zsA (new := List.replicate 64 (.int .u32 0)) List.length_replicate (rep_one rfl) ?_
          refine gnt ?_
          refine gc_seq ?_
          refine gsr ?_
          refine gp zmv ?_
          refine gnt ?_
          refine gc_block ?_
          refine gc_loop (α := Nat) (fun k => [pureR (k ≤ 64), blk b8 250 (fnc W32 64 (pfx Kc (fun _ => 0) k)), blk b7 251 (v8c v0), blk b6 250 (List.replicate 64 (.int .u32 0)), rowR 5 1 a5 (b.length + 1 + padN b.length + 8) c5 ((refPad b).map B8), blk b2 207 (List.replicate 32 (.int .u8 0))]) (fun k => [(55, .int .i64 (k : Int))]) [9, 56, 57, 58, 59, 60, 61, 62] (fun k => 64 - k) 0 ?_ ?_ ?_
          · refine env_start (by kernel_rfl)
          · exact zlq (Nat.zero_le _) (M' := [blk b8 250 (List.replicate 64 (.int .u32 0)), blk b7 251 (v8c v0), blk b6 250 (List.replicate 64 (.int .u32 0)), rowR 5 1 a5 (b.length + 1 + padN b.length + 8) c5 ((refPad b).map B8), blk b2 207 (List.replicate 32 (.int .u8 0))]) (by rw [pfx_zero, fnc_const] <;> rfl)
          · intro k u
            refine gc_pureR (fun hk => ?_)
            replace hk : k ≤ 64 := hk
            refine gsr ?_
            refine gp zlt ?_
            refine gnt ?_
            refine gc_seq ?_
            refine gif rfl (fun hc56 => ?_) (fun hc56 => ?_)
            · try simp only at hc56
              have hk' : k < 64 := by omega
              refine gc_skip ?_
              refine gx_then ?_
              refine gc_seq ?_
              refine gc_block ?_
              refine gsr ?_
              refine gp zmv ?_
              refine gp zas ?_
              refine gnt ?_
              refine gc_region ?_
              refine gp zmv ?_
              refine gp zmv ?_
              refine zc (fun _ => ?_) (c := fun w1 F1 F2 h1 h2 hd hst => k_ok (i := k) h1 hk')
              refine gp (r_indexAddr_arr rfl rfl Ty.arr_250 Ty.sz_249 (by omega) (by omega)) ?_
              refine gl_store1 (wt0 rfl) rfl rfl rfl Ty.sz_249 (by repeat (first | exact Pick.here | apply Pick.there)) (by rw [fnc_length]; omega) (pfx_set (k := k) (by omega) (by omega) rfl) ?_
              refine gl_nil ?_
              refine gx_block_normal ?_
              refine gx_then ?_
              refine gc_region ?_
              refine gp zad ?_
              refine gp zmv ?_
              refine gl_nil ?_
              refine zrd (k + 1) ?_ ?_
              · show 64 - (k + 1) < 64 - k
                omega
              · exact zlp (show k + 1 ≤ 64 by omega)
            · try simp only at hc56
              have hk' : k = 64 := by omega
              subst hk'
              refine gc_exit ?_
              refine gx_then_exit ?_
              refine gx_round_exit ?_
              refine gx_block_hit ?_
              refine gx_then ?_
              refine gc_seq ?_
              refine gc_block ?_
              refine gc_loop (α := V8 × List UInt8 × Option Addr × Nat × Nat × (Nat → UInt32)) (fun x => [pureR (takes Kc x.1 x.2.1 = takes Kc v0 (refPad b) ∧ x.2.1.length % 64 = 0 ∧ x.2.1.length ≤ 1099511627906 ∧ x.2.2.2.1 = x.2.1.length), rowR 5 1 x.2.2.1 x.2.2.2.1 x.2.2.2.2.1 (x.2.1.map B8), blk b6 250 (fnc W32 64 x.2.2.2.2.2), blk b7 251 (v8c x.1), blk b8 250 (fnc W32 64 Kc), blk b2 207 (List.replicate 32 (.int .u8 0))]) (fun x => [(4, .slice x.2.2.1 x.2.2.2.1 x.2.2.2.2.1)]) [10, 11, 12, 13, 14, 15, 16, 17, 18, 19, 20, 63, 64, 65, 66, 67, 68, 69, 70, 71, 72, 73, 74, 75, 76, 77, 78, 79, 80, 81, 82, 83, 84, 85, 86, 87, 88, 89, 90, 91, 92, 93, 94, 95, 96, 97, 98, 99, 100, 101, 102, 103, 104, 105, 106, 107, 108, 109, 110, 111, 112, 113, 114, 115, 116, 117, 118, 119, 120, 121, 122, 123, 124, 125, 126, 127, 128, 129, 130, 131, 132, 133, 134, 135, 136, 137, 138, 139, 140, 141, 142, 143, 144, 145, 146, 147, 148, 149, 150, 151, 152, 153, 154, 155, 156, 157, 158, 159, 160, 161, 162, 163, 164, 165, 166, 167, 168, 169, 170, 171, 172, 173, 174, 175, 176, 177, 178, 179, 180, 181, 182, 183, 184, 185, 186, 187, 188, 189, 190, 191, 192, 193, 194, 195, 196, 197, 198, 199, 200, 201, 202, 203, 204, 205, 206, 207, 208, 209, 210, 211, 212, 213, 214, 215, 216, 217, 218, 219, 220, 221, 222, 223, 224, 225, 226, 227, 228, 229, 230, 231, 232, 233, 234, 235, 236, 237, 238, 239, 240, 241, 242, 243, 244, 245, 246, 247, 248, 249, 250] (fun x => x.2.1.length) (v0, refPad b, a5, b.length + 1 + padN b.length + 8, c5, fun _ => 0) ?_ ?_ ?_
              · refine env_start (by kernel_rfl)
              · exact zlq (M' := [rowR 5 1 a5 (b.length + 1 + padN b.length + 8) c5 ((refPad b).map B8), blk b6 250 (List.replicate 64 (.int .u32 0)), blk b7 251 (v8c v0), blk b8 250 (fnc W32 64 (pfx Kc (fun _ => 0) 64)), blk b2 207 (List.replicate 32 (.int .u8 0))]) ⟨rfl, (by show (refPad b).length % 64 = 0; have := (pad_hit' (m := b.length) (Nat.le_refl _)).2 rfl; omega), (by show (refPad b).length ≤ _; omega), hpl.symm⟩ (by rw [pfx_full]; simp only [fnc_const]; rfl)
              · intro x u
                obtain ⟨v, r, a6, n6, c6, T⟩ := x
                refine gc_pureR (fun hk => ?_)
                replace hk : takes Kc v r = takes Kc v0 (refPad b) ∧ r.length % 64 = 0 ∧ r.length ≤ 1099511627906 ∧ n6 = r.length := hk
                obtain ⟨hko, hk64, hkb, rfl⟩ := hk
                refine gc_fact (p := r.length ≤ c6) (fun w hw => (hw.rowLe (e := 5) (size := 1) (a := a6) (m := r.length) (c := c6) (xs := r.map B8) (by repeat (first | exact Pick.here | apply Pick.there))).1) (fun hc6 => ?_)
                refine gc_seq ?_
                refine gsr ?_
                refine gp zmv ?_
                refine gp zln ?_
                refine gp zgt ?_
                refine gnt ?_
                refine gif rfl (fun hc65 => ?_) (fun hc65 => ?_)
                · try simp only at hc65
                  have hk' : 64 ≤ r.length := by omega
                  refine gc_fact (p := ∃ g o, a6 = some ⟨g, o, none⟩) (fun w hw => (by obtain ⟨g, o, e, _⟩ := (hw.row (a := a6) (m := r.length) (c := c6) (xs := r.map B8) (by repeat (first | exact Pick.here | apply Pick.there))).2.2 (by omega); exact ⟨g, o, e⟩)) (fun ha => ?_)
                  obtain ⟨g6, o6, rfl⟩ := ha
                  refine gc_skip ?_
                  refine gx_then ?_
                  refine gc_block ?_
                  refine gc_seq ?_
                  refine gsr ?_
                  refine gp zas ?_
                  refine gnt ?_
                  refine gc_block ?_
                  refine gc_loop (α := Nat) (fun k => [pureR (k ≤ 16), blk b6 250 (fnc W32 64 (pfx (sch (r.take 64)) T k)), blk b7 251 (v8c v), blk b8 250 (fnc W32 64 Kc), blk b2 207 (List.replicate 32 (.int .u8 0)), rowR 5 1 (some ⟨g6, o6, none⟩) r.length c6 (r.map B8)]) (fun k => [(10, .int .i64 (k : Int))]) [66, 67, 68, 69, 70, 71, 72, 73, 74, 75, 76, 77, 78, 79, 80, 81, 82, 83, 84, 85, 86, 87, 88, 89, 90, 91, 92, 93, 94, 95, 96, 97, 98, 99, 100, 101, 102, 103, 104] (fun k => 16 - k) 0 ?_ ?_ ?_
                  · refine env_start (by kernel_rfl)
                  · exact zlq (Nat.zero_le _) (by rw [pfx_zero])
                  · intro k u
                    refine gc_pureR (fun hk => ?_)
                    replace hk : k ≤ 16 := hk
                    refine gc_seq ?_
                    refine gsr ?_
                    refine gp zmv ?_
                    refine gp zlt ?_
                    refine gnt ?_
                    refine gif rfl (fun hc67 => ?_) (fun hc67 => ?_)
                    · try simp only at hc67
                      have hk' : k < 16 := by omega
                      refine gc_skip ?_
                      refine gx_then ?_
                      refine gc_seq ?_
                      refine gc_block ?_
                      refine gc_regionT 35 (by kernel_rfl) (by kernel_rfl) ?_
                      refine sp zmv ?_
                      refine sp zmv ?_
                      refine sp zmv ?_
                      refine sp zml ?_
                      refine sp (zia (m := r.length)) ?_
                      refine sp (r_ld1r (v := B8 (r.getD (4 * k) 0)) rfl Ty.row_5 (by repeat (first | exact Pick.here | apply Pick.there)) (row_byte (by omega) (by omega))) ?_
                      refine sp (r_conv8w rfl Ty.un_5 Ty.un_249) ?_
                      refine sp (r_mulw (b := 16777216) rfl rfl) ?_
                      refine sp zmv ?_
                      refine sp zmv ?_
                      refine sp zml ?_
                      refine sp zad ?_
                      refine sp (zia (m := r.length)) ?_
                      refine sp (r_ld1r (v := B8 (r.getD (4 * k + 1) 0)) rfl Ty.row_5 (by repeat (first | exact Pick.here | apply Pick.there)) (row_byte (by omega) (by omega))) ?_
                      refine sp (r_conv8w rfl Ty.un_5 Ty.un_249) ?_
                      refine sp (r_mulw (b := 65536) rfl rfl) ?_
                      refine sp zwa ?_
                      refine sp zmv ?_
                      refine sp zmv ?_
                      refine sp zml ?_
                      refine sp zad ?_
                      refine sp (zia (m := r.length)) ?_
                      refine sp (r_ld1r (v := B8 (r.getD (4 * k + 2) 0)) rfl Ty.row_5 (by repeat (first | exact Pick.here | apply Pick.there)) (row_byte (by omega) (by omega))) ?_
                      refine sp (r_conv8w rfl Ty.un_5 Ty.un_249) ?_
                      refine sp (r_mulw (b := 256) rfl rfl) ?_
                      refine sp zwa ?_
                      refine sp zmv ?_
                      refine sp zmv ?_
                      refine sp zml ?_
                      refine sp zad ?_
                      refine sp (zia (m := r.length)) ?_
                      refine sp (r_ld1r (v := B8 (r.getD (4 * k + 3) 0)) rfl Ty.row_5 (by repeat (first | exact Pick.here | apply Pick.there)) (row_byte (by omega) (by omega))) ?_
                      refine sp (r_conv8w rfl Ty.un_5 Ty.un_249) ?_
                      refine sp zwa ?_
                      refine sp (r_indexAddr_arr rfl rfl Ty.arr_250 Ty.sz_249 (by omega) (by omega)) ?_
                      refine gs_nil ?_
                      refine gl_store1 (wt0 rfl) rfl rfl rfl Ty.sz_249 (by repeat (first | exact Pick.here | apply Pick.there)) (by rw [fnc_length]; omega) (pfx_set (k := k) (by omega) (by omega) (congrArg W32 (word_take hk' (by omega)))) ?_
                      refine gl_nil ?_
                      refine gx_block_normal ?_
                      refine gx_then ?_
                      refine gc_region ?_
                      refine gp zmv ?_
                      refine gp zad ?_
                      refine gp zas ?_
                      refine gl_nil ?_
                      refine zrd (k + 1) ?_ ?_
                      · show 16 - (k + 1) < 16 - k
                        omega
                      · exact zlp (show k + 1 ≤ 16 by omega)
                    · try simp only at hc67
                      have hk' : k = 16 := by omega
                      subst hk'
                      refine gc_exit ?_
                      refine gx_then_exit ?_
                      refine gx_round_exit ?_
                      refine gx_block_hit ?_
                      refine gx_then ?_
                      refine gc_seq ?_
                      refine gsr ?_
                      refine gp zas ?_
                      refine gnt ?_
                      refine gc_block ?_
                      refine gc_loop (α := Nat) (fun k => [pureR (16 ≤ k ∧ k ≤ 64), blk b6 250 (fnc W32 64 (pfx (sch (r.take 64)) T k)), blk b7 251 (v8c v), blk b8 250 (fnc W32 64 Kc), blk b2 207 (List.replicate 32 (.int .u8 0)), rowR 5 1 (some ⟨g6, o6, none⟩) r.length c6 (r.map B8)]) (fun k => [(11, .int .i64 (k : Int))]) [12, 13, 105, 106, 107, 108, 109, 110, 111, 112, 113, 114, 115, 116, 117, 118, 119, 120, 121, 122, 123, 124, 125, 126, 127, 128, 129, 130, 131, 132, 133, 134, 135, 136, 137, 138, 139, 140, 141, 142, 143, 144, 145] (fun k => 64 - k) 16 ?_ ?_ ?_
                      · refine env_start (by kernel_rfl)
                      · exact zlp ⟨Nat.le_refl _, by decide⟩
                      · intro k u
                        refine gc_pureR (fun hk => ?_)
                        replace hk : 16 ≤ k ∧ k ≤ 64 := hk
                        refine gc_seq ?_
                        refine gsr ?_
                        refine gp zmv ?_
                        refine gp zlt ?_
                        refine gnt ?_
                        refine gif rfl (fun hc106 => ?_) (fun hc106 => ?_)
                        · try simp only at hc106
                          have hk' : k < 64 := by omega
                          refine gc_skip ?_
                          refine gx_then ?_
                          refine gc_seq ?_
                          refine gc_block ?_
                          refine gc_seq ?_
                          refine gc_regionS (by kernel_rfl) (by kernel_rfl) ?_
                          refine sp zmv ?_
                          refine sp zsb ?_
                          refine sp (r_indexAddr_arr rfl rfl Ty.arr_250 Ty.sz_249 (by omega) (by omega)) ?_
                          refine sp (r_ld1 (v := W32 (sch (r.take 64) (k - 15))) rfl Ty.row_249 (by repeat (first | exact Pick.here | apply Pick.there)) (pfx_get (by omega) (by omega) (by omega))) ?_
                          refine sp zmv ?_
                          refine sp zsb ?_
                          refine sp (r_indexAddr_arr rfl rfl Ty.arr_250 Ty.sz_249 (by omega) (by omega)) ?_
                          refine sp (r_ld1 (v := W32 (sch (r.take 64) (k - 2))) rfl Ty.row_249 (by repeat (first | exact Pick.here | apply Pick.there)) (pfx_get (by omega) (by omega) (by omega))) ?_
                          refine sp zas ?_
                          refine sp zas ?_
                          refine gs_nil ?_
                          refine gx_then ?_
                          refine gc_regionZ 29 ([blk b6 250 (fnc W32 64 (pfx (sch (r.take 64)) T k))]) ?_
                          refine yps 0 rfl zmv ?_
                          refine yps 1 rfl zmv ?_
                          refine yps 2 rfl zsb ?_
                          refine yps 3 rfl (r_indexAddr_arr rfl rfl Ty.arr_250 Ty.sz_249 (by omega) (by omega)) ?_
                          refine yps 4 rfl (r_ld1 (v := W32 (sch (r.take 64) (k - 16))) rfl Ty.row_249 (by repeat (first | exact Pick.here | apply Pick.there)) (pfx_get (by omega) (by omega) (by omega))) ?_
                          refine yps 5 rfl zmv ?_
                          refine yps 7 rfl zmv ?_
                          refine yps 10 rfl zmv ?_
                          refine yps 11 rfl (r_shrw (j := 3) rfl rfl rfl (by decide)) ?_
                          refine yps 14 rfl zmv ?_
                          refine yps 15 rfl zsb ?_
                          refine yps 16 rfl (r_indexAddr_arr rfl rfl Ty.arr_250 Ty.sz_249 (by omega) (by omega)) ?_
                          refine yps 17 rfl (r_ld1 (v := W32 (sch (r.take 64) (k - 7))) rfl Ty.row_249 (by repeat (first | exact Pick.here | apply Pick.there)) (pfx_get (by omega) (by omega) (by omega))) ?_
                          refine yps 19 rfl zmv ?_
                          refine yps 21 rfl zmv ?_
                          refine yps 24 rfl zmv ?_
                          refine yps 25 rfl (r_shrw (j := 10) rfl rfl rfl (by decide)) ?_
                          refine yos 6 rfl ?_
                          refine zc (fun _ => ?_) (c := fun w1 F1 F2 h1 h2 hd hst => right_ok (j := 7) h1 (by decide) (by decide))
                          refine yxs ?_
                          refine yos 8 rfl ?_
                          refine zc (fun _ => ?_) (c := fun w1 F1 F2 h1 h2 hd hst => right_ok (j := 18) h1 (by decide) (by decide))
                          refine yxs ?_
                          refine yps 9 rfl zwx ?_
                          refine yps 12 rfl zwx ?_
                          refine yps 13 rfl zwa ?_
                          refine yps 18 rfl zwa ?_
                          refine yos 20 rfl ?_
                          refine zc (fun _ => ?_) (c := fun w1 F1 F2 h1 h2 hd hst => right_ok (j := 17) h1 (by decide) (by decide))
                          refine yxs ?_
                          refine yos 22 rfl ?_
                          refine zc (fun _ => ?_) (c := fun w1 F1 F2 h1 h2 hd hst => right_ok (j := 19) h1 (by decide) (by decide))
                          refine yxs ?_
                          refine yps 23 rfl zwx ?_
                          refine yps 26 rfl zwx ?_
                          refine yps 27 rfl zwa ?_
                          refine yps 28 rfl (r_indexAddr_arr rfl rfl Ty.arr_250 Ty.sz_249 (by omega) (by omega)) ?_
                          refine yzs rfl ?_
                          refine gl_store1 (wt0 rfl) rfl rfl rfl Ty.sz_249 (by repeat (first | exact Pick.here | apply Pick.there)) (by rw [fnc_length]; omega) (pfx_set (k := k) (by omega) (by omega) (congrArg W32 (sch_hi hk.1).symm)) ?_
                          refine gl_nil ?_
                          refine gx_block_normal ?_
                          refine gx_then ?_
                          refine gc_region ?_
                          refine gp zmv ?_
                          refine gp zad ?_
                          refine gp zas ?_
                          refine gl_nil ?_
                          refine zrd (k + 1) ?_ ?_
                          · show 64 - (k + 1) < 64 - k
                            omega
                          · exact zlp (show 16 ≤ k + 1 ∧ k + 1 ≤ 64 by omega)
                        · try simp only at hc106
                          have hk' : k = 64 := by omega
                          subst hk'
                          refine gc_exit ?_
                          refine gx_then_exit ?_
                          refine gx_round_exit ?_
                          refine gx_block_hit ?_
                          refine gx_then ?_
                          refine gsr ?_
                          refine gp (zLa (cs := v8c v)) ?_
                          refine zal fun b14 => ?_
                          refine zsA (v8c_length _) (v8c_one _) ?_
                          refine gnt ?_
                          refine gc_seq ?_
                          refine gsr ?_
                          refine gp zas ?_
                          refine gnt ?_
                          refine gc_block ?_
                          refine gc_loop (α := Nat) (fun k => [pureR (k ≤ 64), blk b14 251 (v8c (rnds Kc (sch (r.take 64)) v k)), blk b6 250 (fnc W32 64 (pfx (sch (r.take 64)) T 64)), blk b7 251 (v8c v), blk b8 250 (fnc W32 64 Kc), blk b2 207 (List.replicate 32 (.int .u8 0)), rowR 5 1 (some ⟨g6, o6, none⟩) r.length c6 (r.map B8)]) (fun k => [(15, .int .i64 (k : Int))]) [16, 17, 18, 19, 147, 148, 149, 150, 151, 152, 153, 154, 155, 156, 157, 158, 159, 160, 161, 162, 163, 164, 165, 166, 167, 168, 169, 170, 171, 172, 173, 174, 175, 176, 177, 178, 179, 180, 181, 182, 183, 184, 185, 186, 187, 188, 189, 190, 191, 192, 193, 194, 195, 196, 197, 198, 199, 200, 201, 202, 203, 204, 205, 206, 207, 208, 209, 210, 211, 212, 213, 214, 215, 216, 217, 218, 219, 220, 221, 222, 223, 224, 225, 226, 227, 228, 229, 230, 231, 232, 233, 234, 235, 236] (fun k => 64 - k) 0 ?_ ?_ ?_
                          · refine env_start (by kernel_rfl)
                          · exact zlp (by first | exact Nat.zero_le _ | omega)
                          · intro k u
                            refine gc_pureR (fun hk => ?_)
                            replace hk : k ≤ 64 := hk
                            refine gc_seq ?_
                            refine gsr ?_
                            refine gp zmv ?_
                            refine gp zlt ?_
                            refine gnt ?_
                            refine gif rfl (fun hc148 => ?_) (fun hc148 => ?_)
                            · try simp only at hc148
                              have hk' : k < 64 := by omega
                              refine gc_skip ?_
                              refine gx_then ?_
                              refine gc_seq ?_
                              refine gc_block ?_
                              refine gsr ?_
                              refine gp zib ?_
                              refine gp zl ?_
                              refine gp zib ?_
                              refine gp zl ?_
                              refine gp zwn ?_
                              refine gp zib ?_
                              refine gp zl ?_
                              refine gp zwc ?_
                              refine gp zib ?_
                              refine gp zl ?_
                              refine gp zwn ?_
                              refine gp zwx ?_
                              refine gp zas ?_
                              refine gnt ?_
                              refine gsr ?_
                              refine gp zib ?_
                              refine gp zl ?_
                              refine gp zib ?_
                              refine gp zl ?_
                              refine gp zwn ?_
                              refine gp zib ?_
                              refine gp zl ?_
                              refine gp zib ?_
                              refine gp zl ?_
                              refine gp zwn ?_
                              refine gp zwx ?_
                              refine gp zib ?_
                              refine gp zl ?_
                              refine gp zib ?_
                              refine gp zl ?_
                              refine gp zwn ?_
                              refine gp zwx ?_
                              refine gp zas ?_
                              refine gnt ?_
                              refine gc_seq ?_
                              refine gc_regionZ 24 ([blk b14 251 (v8c (rnds Kc (sch (r.take 64)) v k)), blk b6 250 (fnc W32 64 (pfx (sch (r.take 64)) T 64)), blk b8 250 (fnc W32 64 Kc)]) ?_
                              refine yps 0 rfl zib ?_
                              refine yps 1 rfl zl ?_
                              refine yps 2 rfl zib ?_
                              refine yps 3 rfl zl ?_
                              refine yps 5 rfl zib ?_
                              refine yps 6 rfl zl ?_
                              refine yps 9 rfl zib ?_
                              refine yps 10 rfl zl ?_
                              refine yps 14 rfl zmv ?_
                              refine yps 16 rfl zmv ?_
                              refine yps 17 rfl (r_indexAddr_arr rfl rfl Ty.arr_250 Ty.sz_249 (by omega) (by omega)) ?_
                              refine yps 18 rfl (r_ld1 (v := W32 (Kc k)) rfl Ty.row_249 (by repeat (first | exact Pick.here | apply Pick.there)) (by rw [show 0 + (k : Int).toNat * 1 = k by omega]; exact fnc_get hk')) ?_
                              refine yps 20 rfl zmv ?_
                              refine yps 21 rfl (r_indexAddr_arr rfl rfl Ty.arr_250 Ty.sz_249 (by omega) (by omega)) ?_
                              refine yps 22 rfl (r_ld1 (v := W32 (sch (r.take 64) (k))) rfl Ty.row_249 (by repeat (first | exact Pick.here | apply Pick.there)) (pfx_get (by omega) (by omega) (by omega))) ?_
                              refine yos 4 rfl ?_
                              refine zc (fun _ => ?_) (c := fun w1 F1 F2 h1 h2 hd hst => right_ok (j := 6) h1 (by decide) (by decide))
                              refine yxs ?_
                              refine yos 7 rfl ?_
                              refine zc (fun _ => ?_) (c := fun w1 F1 F2 h1 h2 hd hst => right_ok (j := 11) h1 (by decide) (by decide))
                              refine yxs ?_
                              refine yps 8 rfl zwx ?_
                              refine yos 11 rfl ?_
                              refine zc (fun _ => ?_) (c := fun w1 F1 F2 h1 h2 hd hst => right_ok (j := 25) h1 (by decide) (by decide))
                              refine yxs ?_
                              refine yps 12 rfl zwx ?_
                              refine yps 13 rfl zwa ?_
                              refine yps 15 rfl zwa ?_
                              refine yps 19 rfl zwa ?_
                              refine yps 23 rfl zwa ?_
                              refine yzs rfl ?_
                              refine gp zas ?_
                              refine gnt ?_
                              refine gc_seq ?_
                              refine gc_regionZ 13 ([blk b14 251 (v8c (rnds Kc (sch (r.take 64)) v k))]) ?_
                              refine yps 0 rfl zib ?_
                              refine yps 1 rfl zl ?_
                              refine yps 3 rfl zib ?_
                              refine yps 4 rfl zl ?_
                              refine yps 7 rfl zib ?_
                              refine yps 8 rfl zl ?_
                              refine yps 11 rfl zmv ?_
                              refine yos 2 rfl ?_
                              refine zc (fun _ => ?_) (c := fun w1 F1 F2 h1 h2 hd hst => right_ok (j := 2) h1 (by decide) (by decide))
                              refine yxs ?_
                              refine yos 5 rfl ?_
                              refine zc (fun _ => ?_) (c := fun w1 F1 F2 h1 h2 hd hst => right_ok (j := 13) h1 (by decide) (by decide))
                              refine yxs ?_
                              refine yps 6 rfl zwx ?_
                              refine yos 9 rfl ?_
                              refine zc (fun _ => ?_) (c := fun w1 F1 F2 h1 h2 hd hst => right_ok (j := 22) h1 (by decide) (by decide))
                              refine yxs ?_
                              refine yps 10 rfl zwx ?_
                              refine yps 12 rfl zwa ?_
                              refine yzs rfl ?_
                              refine gp zas ?_
                              refine gnt ?_
                              refine gc_region ?_
                              refine gp zmv ?_
                              refine gp zmv ?_
                              refine gp zwa ?_
                              refine gp zib ?_
                              refine gp zl ?_
                              refine gp zib ?_
                              refine gp zl ?_
                              refine gp zib ?_
                              refine gp zl ?_
                              refine gp zib ?_
                              refine gp zl ?_
                              refine gp zmv ?_
                              refine gp zwa ?_
                              refine gp zib ?_
                              refine gp zl ?_
                              refine gp zib ?_
                              refine gp zl ?_
                              refine gp zib ?_
                              refine gp zl ?_
                              refine gp (r_buildA (cs := v8c (rnds Kc (sch (r.take 64)) v (k + 1))) Ty.zc_251 Ty.arr_251 Ty.sz_249 rfl) ?_
                              refine zsA (v8c_length _) (v8c_one _) ?_
                              refine gl_nil ?_
                              refine gx_block_normal ?_
                              refine gx_then ?_
                              refine gc_region ?_
                              refine gp zmv ?_
                              refine gp zad ?_
                              refine gp zas ?_
                              refine gl_nil ?_
                              refine zrd (k + 1) ?_ ?_
                              · show 64 - (k + 1) < 64 - k
                                omega
                              · exact zlp (show k + 1 ≤ 64 by omega)
                            · try simp only at hc148
                              have hk' : k = 64 := by omega
                              subst hk'
                              refine gc_exit ?_
                              refine gx_then_exit ?_
                              refine gx_round_exit ?_
                              refine gx_block_hit ?_
                              refine gx_then ?_
                              refine gc_seq ?_
                              refine gsr ?_
                              refine gp zmv ?_
                              refine gnt ?_
                              refine gc_block ?_
                              generalize hV : rnds Kc (sch (r.take 64)) v 64 = V
                              refine gc_loop (α := Nat) (fun k => [pureR (k ≤ 8), blk b7 251 (fnc W32 8 (pfx (v.add V).get v.get k)), blk b14 251 (v8c V), blk b6 250 (fnc W32 64 (pfx (sch (r.take 64)) T 64)), blk b8 250 (fnc W32 64 Kc), blk b2 207 (List.replicate 32 (.int .u8 0)), rowR 5 1 (some ⟨g6, o6, none⟩) r.length c6 (r.map B8)]) (fun k => [(237, .int .i64 (k : Int))]) [20, 238, 239, 240, 241, 242, 243, 244, 245, 246, 247, 248] (fun k => 8 - k) 0 ?_ ?_ ?_
                              · refine env_start (by kernel_rfl)
                              · exact zlq (Nat.zero_le _) (by rw [pfx_zero] <;> rfl)
                              · intro k u
                                refine gc_pureR (fun hk => ?_)
                                replace hk : k ≤ 8 := hk
                                refine gsr ?_
                                refine gp zlt ?_
                                refine gnt ?_
                                refine gc_seq ?_
                                refine gif rfl (fun hc238 => ?_) (fun hc238 => ?_)
                                · try simp only at hc238
                                  have hk' : k < 8 := by omega
                                  refine gc_skip ?_
                                  refine gx_then ?_
                                  refine gc_seq ?_
                                  refine gc_block ?_
                                  refine gsr ?_
                                  refine gp zmv ?_
                                  refine gp zas ?_
                                  refine gnt ?_
                                  refine gc_regionT 8 (by kernel_rfl) (by kernel_rfl) ?_
                                  refine sp zmv ?_
                                  refine sp (r_indexAddr_arr rfl rfl Ty.arr_251 Ty.sz_249 (by omega) (by omega)) ?_
                                  refine sp (r_ld1 (v := W32 (v.get k)) rfl Ty.row_249 (by repeat (first | exact Pick.here | apply Pick.there)) (pfx_get2 (by omega) (by omega) (by omega))) ?_
                                  refine sp zmv ?_
                                  refine sp (r_indexAddr_arr rfl rfl Ty.arr_251 Ty.sz_249 (by omega) (by omega)) ?_
                                  refine sp (r_ld1 (v := W32 (V.get k)) rfl Ty.row_249 (by repeat (first | exact Pick.here | apply Pick.there)) (by rw [show 0 + (k : Int).toNat * 1 = k by omega]; exact fnc_get (V := W32) (f := V.get) hk')) ?_
                                  refine sp zwa ?_
                                  refine sp (r_indexAddr_arr rfl rfl Ty.arr_251 Ty.sz_249 (by omega) (by omega)) ?_
                                  refine gs_nil ?_
                                  refine gl_store1 (wt0 rfl) rfl rfl rfl Ty.sz_249 (by repeat (first | exact Pick.here | apply Pick.there)) (by rw [fnc_length]; omega) (pfx_set (k := k) (by omega) (by omega) (congrArg W32 (V8.add_get _ _ _).symm)) ?_
                                  refine gl_nil ?_
                                  refine gx_block_normal ?_
                                  refine gx_then ?_
                                  refine gc_region ?_
                                  refine gp zad ?_
                                  refine gp zmv ?_
                                  refine gl_nil ?_
                                  refine zrd (k + 1) ?_ ?_
                                  · show 8 - (k + 1) < 8 - k
                                    omega
                                  · exact zlp (show k + 1 ≤ 8 by omega)
                                · try simp only at hc238
                                  have hk' : k = 8 := by omega
                                  subst hk'
                                  have e8 : fnc W32 8 (pfx (v.add V).get v.get 8) = v8c (take64 Kc v (r.take 64)) := by rw [pfx_full, ← hV]; rfl
                                  rw [e8]
                                  refine gc_exit ?_
                                  refine gx_then_exit ?_
                                  refine gx_round_exit ?_
                                  refine gx_block_hit ?_
                                  refine gx_then ?_
                                  refine gc_region ?_
                                  refine gp zmv ?_
                                  refine gp (r_slice_slice (a := some ⟨g6, o6, none⟩) (m := r.length) (c := c6) (l := 64) (h := r.length) rfl Ty.sl_36 Ty.sz_5 ⟨_, rfl⟩ rfl (by omega) (by omega)) ?_
                                  refine gp zas ?_
                                  refine gl_nil ?_
                                  refine gx_block_normal ?_
                                  have hdl : (r.drop 64).length = r.length - 64 := List.length_drop
                                  refine zrd ((take64 Kc v (r.take 64), r.drop 64, (if c6 = 64 then some ⟨g6, o6, none⟩ else (some (⟨g6, o6, none⟩ : Addr)).map (·.add (64 * 1))), r.length - 64, c6 - 64, sch (r.take 64))) ?_ ?_
                                  · show (r.drop 64).length < r.length
                                    omega
                                  · rintro w' hw
                                    obtain ⟨F', hF', hst'⟩ := hw.sel (M := [rowR 5 1 (some ⟨g6, o6, none⟩) r.length c6 (r.map B8), blk b6 250 _, blk b7 251 (v8c (take64 Kc v (r.take 64))), blk b8 250 (fnc W32 64 Kc), blk b2 207 (List.replicate 32 (.int .u8 0))]) (by repeat (first | exact Sel.nil | (apply Sel.cons; · (repeat (first | exact Pick.here | apply Pick.there)))))
                                    refine ⟨F', stars_pure_mk ⟨?_, ?_, ?_, hdl.symm⟩ ?_, hst'⟩
                                    · rw [← hko, takes.eq_1 Kc v r, dif_pos (by omega)]
                                    · show (r.drop 64).length % 64 = 0; omega
                                    · show (r.drop 64).length ≤ _; omega
                                    · have := stars_tail8 (l := 64) (by omega) hF'
                                      rw [pfx_full] at this
                                      exact this
                · try simp only at hc65
                  have hk' : r = [] := List.eq_nil_of_length_eq_zero (by omega)
                  have hV : (takes Kc v0 (refPad b)).1 = v := by rw [← hko, hk', takes_nil]
                  rw [hV]
                  refine gc_exit ?_
                  refine gx_then_exit ?_
                  refine gx_round_exit ?_
                  refine gx_block_hit ?_
                  refine gx_then ?_
                  refine gsr ?_
                  refine gp (r_buildA (cs := List.replicate 32 (.int .u8 0)) Ty.zc_207 Ty.arr_207 Ty.sz_5 (by kernel_rfl)) ?_
                  refine zal fun b21 => ?_
                  refine zsA (new := List.replicate 32 (.int .u8 0)) List.length_replicate (rep_one rfl) ?_
                  refine gnt ?_
                  refine gc_seq ?_
                  refine gsr ?_
                  refine gp zmv ?_
                  refine gnt ?_
                  refine gc_block ?_
                  refine gc_loop (α := Nat) (fun k => [pureR (k ≤ 32), blk b21 207 (fnc B8 32 (pfx (outByte v) (fun _ => 0) k)), blk b7 251 (v8c v), blk b2 207 (List.replicate 32 (.int .u8 0))]) (fun k => [(252, .int .i64 (k : Int))]) [22, 253, 254, 255, 256, 257, 258, 259, 260, 261, 262, 263, 264, 265, 266, 267, 268] (fun k => 32 - k) 0 ?_ ?_ ?_
                  · refine env_start (by kernel_rfl)
                  · exact zlq (Nat.zero_le _) (by rw [pfx_zero, fnc_const] <;> rfl)
                  · intro k u
                    refine gc_pureR (fun hk => ?_)
                    replace hk : k ≤ 32 := hk
                    refine gsr ?_
                    refine gp zlt ?_
                    refine gnt ?_
                    refine gc_seq ?_
                    refine gif rfl (fun hc253 => ?_) (fun hc253 => ?_)
                    · try simp only at hc253
                      have hk' : k < 32 := by omega
                      refine gc_skip ?_
                      refine gx_then ?_
                      refine gc_seq ?_
                      refine gc_block ?_
                      refine gsr ?_
                      refine gp zmv ?_
                      refine gp zas ?_
                      refine gnt ?_
                      refine gc_region ?_
                      refine gp zmv ?_
                      refine gp zmv ?_
                      refine gp (r_int zqu ((congrArg IntKind.i64.wrap (quo_nat (m := k) (k := 4))).trans (wrap_i64 (by omega) (by omega)))) ?_
                      refine gp (r_indexAddr_arr rfl rfl Ty.arr_251 Ty.sz_249 (by omega) (by omega)) ?_
                      refine gp (r_ld1 (v := W32 (v.get (k / 4))) rfl Ty.row_249 (by repeat (first | exact Pick.here | apply Pick.there)) (by rw [show 0 + ((k / 4 : Nat) : Int).toNat * 1 = k / 4 by omega]; exact fnc_get (V := W32) (m := 8) (f := v.get) (by omega))) ?_
                      refine gp zmv ?_
                      refine gp (r_int zrm (rem_nat (m := k) (k := 4))) ?_
                      refine gp zml ?_
                      refine gp zsb ?_
                      refine gp (r_int zci (wrap_u64 (by omega) (by omega))) ?_
                      refine gp (r_shrw (j := 24 - 8 * (k % 4)) rfl rfl (by omega) (by omega)) ?_
                      refine gp (r_convw8 rfl Ty.un_249 Ty.un_5) ?_
                      refine gp (r_indexAddr_arr rfl rfl Ty.arr_207 Ty.sz_5 (by omega) (by omega)) ?_
                      refine gl_store1 (wt0 rfl) rfl rfl rfl Ty.sz_5 (by repeat (first | exact Pick.here | apply Pick.there)) (by rw [fnc_length]; omega) (pfx_set (k := k) (by omega) (by omega) rfl) ?_
                      refine gl_nil ?_
                      refine gx_block_normal ?_
                      refine gx_then ?_
                      refine gc_region ?_
                      refine gp zad ?_
                      refine gp zmv ?_
                      refine gl_nil ?_
                      refine zrd (k + 1) ?_ ?_
                      · show 32 - (k + 1) < 32 - k
                        omega
                      · exact zlp (show k + 1 ≤ 32 by omega)
                    · try simp only at hc253
                      have hk' : k = 32 := by omega
                      subst hk'
                      refine gc_exit ?_
                      refine gx_then_exit ?_
                      refine gx_round_exit ?_
                      refine gx_block_hit ?_
                      refine gx_then ?_
                      refine gsr ?_
                      refine gp (zLa (cs := fnc B8 32 _)) ?_
                      refine zsA fnc_length (fnc_one fun _ => rfl) ?_
                      refine gnt ?_
                      refine gc_ret ?_
                      refine gx_retc rfl rfl (ld_aggS Ty.row_207 Ty.sz_207 (by repeat (first | exact Pick.here | apply Pick.there)) (seg_all fnc_length) fnc_length) ?_
                      rw [pfx_full]
                      exact ze ()

end Go.Proofs.YtkgbbnhdioghmaaGreatDoor

/- Walks, by program (wg.py) out of a spec. -/
namespace Go.Proofs.YtkgbbnhdioghmaaGreatDoor
open Go
set_option linter.unusedVariables false
set_option linter.unusedSimpArgs false


def RdStr (cs : List Value) (b : List UInt8) : Prop := cs = [.string (str b)]
/-- Values that read as a list's elements, one by one. -/
inductive All2 {α : Type} (rd : List Value → α → Prop) : List Value → List α → Prop
  | nil : All2 rd [] []
  | cons {v : Value} {x : α} {vs : List Value} {l : List α} : rd [v] x → All2 rd vs l → All2 rd (v :: vs) (x :: l)
theorem All2.len {α : Type} {rd : List Value → α → Prop} {vs : List Value} {l : List α} (h : All2 rd vs l) : vs.length = l.length := by
  induction h with
  | nil => rfl
  | cons _ _ ih => simp [ih]
theorem All2.at {α : Type} {rd : List Value → α → Prop} {vs : List Value} {l : List α} (h : All2 rd vs l) : ∀ (i : Nat) (v : Value) (x : α), vs[i]? = some v → l[i]? = some x → rd [v] x := by
  induction h with
  | nil => intro i v x h1 _; simp at h1
  | cons h1 _ ih =>
    intro i v x hv hx
    cases i with
    | zero => simp at hv hx; subst hv; subst hx; exact h1
    | succ i => exact ih i v x (by simpa using hv) (by simpa using hx)
theorem RdList.of1 {α : Type} {rd : List Value → α → Prop} {w : World} {A : Nat → Prop} {a : Option Addr} {n : Nat} {vs : List Value} {l : List α} (hr : RdRow w A 1 a n vs) (h : All2 rd vs l) : RdList rd w A 1 a n l := by
  refine ⟨vs.map fun v => [v], ?_, by simp, by simp [h.len], fun i c x h1 h2 => ?_⟩
  · have e : (vs.map fun v => [v]).flatten = vs := by
      clear hr h
      induction vs with
      | nil => rfl
      | cons v r ih => simp [ih]
    rw [e]; exact hr
  · rw [List.getElem?_map] at h1
    cases hv : vs[i]? with
    | none => rw [hv] at h1; cases h1
    | some v => rw [hv] at h1; simp at h1; subst h1; exact h.at i v x hv h2
theorem framed_succ (dom : Int) (parts : List (List UInt8)) {k : Nat} {p : List UInt8} (h : parts[k]? = some p) : framed dom (parts.take (k + 1)) = framed dom (parts.take k) ++ (part4 p.length ++ p) := by
  rw [List.take_add_one, h]; simp [framed]
theorem framed_length (dom : Int) (parts : List (List UInt8)) : (framed dom parts).length = 1 + pcost parts := by
  simp only [framed, List.length_cons]
  have : (parts.flatMap fun p => part4 p.length ++ p).length = pcost parts := by
    induction parts with
    | nil => rfl
    | cons p l ih =>
      rw [List.flatMap_cons, List.length_append, ih]
      simp only [List.length_append, pcost, List.map_cons, List.sum_cons, part4, List.length_cons, List.length_nil]; omega
  omega
theorem of_cut (dom : Int) (parts : List (List UInt8)) : fnc B8 16 (outByte (takes Kc v0 (refPad (framed dom parts))).1) = dc (dOf Kc dom parts) := by
  have e : (dOf Kc dom parts).l = (refSum Kc (framed dom parts)).take 16 := hOf_ref Kc dom parts
  rw [dc, e, refSum]
  simp [fnc, ← List.map_take, List.take_range]
theorem RdBytes.row {L L' : List Res} {w : World} {F1 F2 : Nat → Prop} {e n c : Nat} {a : Option Addr} {b : List UInt8} (h2 : stars L w F2) (hd : ∀ k, F1 k → ¬ F2 k) (hp : Pick L (rowR e 1 a n c (b.map B8)) L') : RdBytes w (fun k => ¬ F1 k) [.slice a n c] b :=
  ⟨_, _, _, rfl, rd_le h2 hp, rd_row h2 hd hp⟩
theorem RdBytes.dig {L L' : List Res} {w : World} {F1 F2 : Nat → Prop} {g T : Nat} {d : Dig} (h2 : stars L w F2) (hd : ∀ k, F1 k → ¬ F2 k) (hp : Pick L (blk g T (dc d)) L') : RdBytes w (fun k => ¬ F1 k) [.slice (some ⟨g, 0 + 0 * 1, none⟩) (16 - 0) (16 - 0)] d.l :=
  ⟨_, _, _, rfl, Nat.le_refl _, rd_blk h2 hd hp (by simp only [dc, List.drop_zero]; exact List.take_of_length_le (by simp [d.h])) (by simp [d.h]) (by decide)⟩

attribute [local irreducible] Gl Gc Gx Gs Runs Wt

set_option maxHeartbeats 400000 in
theorem framed_ok {w : World} {F : Nat → Prop} {dom : Int} {parts : List (List UInt8)} {a : Option Addr} {n c : Nat} (h : stars [] w F) (hx : RdList RdStr w (fun k => ¬ F k) 1 a n parts) (hb : 1 + pcost parts ≤ 1099511627776) :
    Calls Tryz.prog 126 #[.int .i64 dom, .slice a n c] w (Post w F (fun _ : Unit => .string (str (framed dom parts))) (fun _ => [])) := by
  have hnl := hx.len (by decide)
  have hm1 := hx.max
  simp only [maxLen] at hm1
  refine g_enter (env := [(0, .int .i64 dom), (1, .slice a n c)]) Tryz.func126 rfl h Tryz.ntmps126 rfl rfl ?_
  refine gsr ?_
  refine gp zas ?_
  refine gnt ?_
  refine gsr ?_
  refine gp zmv ?_
  refine gp (r_val zci byte_int) ?_
  refine ze1 fun b11 => ?_
  refine gp (zso (b := [UInt8.ofNat (dom % 256).toNat])) ?_
  refine gp zas ?_
  refine gnt ?_
  refine gc_seq ?_
  refine gsr ?_
  refine gp zmv ?_
  refine gp zln ?_
  refine gp zmv ?_
  refine gnt ?_
  refine gc_block ?_
  refine gc_loop (α := Nat) (fun k => [pureR (k ≤ n)]) (fun k => [(15, .int .i64 (k : Int)), (5, .string (str (framed dom (parts.take k))))]) [7, 8, 16, 17, 18, 19, 20, 21, 22, 23, 24, 25, 26, 27, 28, 29, 30, 31, 32, 33, 34, 35, 36, 37, 38, 39] (fun k => n - k) 0 ?_ ?_ ?_
  · refine env_start (by kernel_rfl)
  · exact zlp (by first | exact Nat.zero_le _ | omega)
  · intro k u
    refine gc_pureR (fun hk => ?_)
    replace hk : k ≤ n := hk
    refine gsr ?_
    refine gp zlt ?_
    refine gnt ?_
    refine gc_seq ?_
    refine gif rfl (fun hc16 => ?_) (fun hc16 => ?_)
    · try simp only at hc16
      have hk' : k < n := by omega
      obtain ⟨ga, o, cs, y, ha, hA, hg, hra, hcl, hly, hrd⟩ := hx.elem (by decide) hk'
      subst ha
      unfold RdStr at hrd
      subst hrd
      have hpc := pcost_take hly
      have hfl := framed_length dom (parts.take k)
      refine gc_skip ?_
      refine gx_then ?_
      refine gc_seq ?_
      refine gc_block ?_
      refine gsr ?_
      refine gp zia ?_
      refine gp (r_ld1o rfl Ty.row_9 (hra 0 _ rfl) hA) ?_
      refine gp zas ?_
      refine gnt ?_
      refine gsr ?_
      refine gp zmv ?_
      refine gp zlS ?_
      refine gp (r_int zci (wrap_u64 (by omega) (by omega))) ?_
      refine gp zas ?_
      refine gnt ?_
      refine gc_region ?_
      refine gp zmv ?_
      refine gp zmv ?_
      refine gp (r_int zqu ((congrArg IntKind.u64.wrap (quo_nat (m := y.length) (k := 16777216))).trans (wrap_u64 (by omega) (by omega)))) ?_
      refine gp (r_val zci byte_nat) ?_
      refine gp zmv ?_
      refine gp (r_int zqu ((congrArg IntKind.u64.wrap (quo_nat (m := y.length) (k := 65536))).trans (wrap_u64 (by omega) (by omega)))) ?_
      refine gp (r_val zci byte_nat) ?_
      refine gp zmv ?_
      refine gp (r_int zqu ((congrArg IntKind.u64.wrap (quo_nat (m := y.length) (k := 256))).trans (wrap_u64 (by omega) (by omega)))) ?_
      refine gp (r_val zci byte_nat) ?_
      refine gp zmv ?_
      refine gp (r_val zci byte_nat) ?_
      refine gl_bsls (vs := (part4 y.length).map B8) (wt0 rfl) Ty.sl_36 Ty.sz_5 Ty.zc_5 rfl rfl (one_B8 _) rfl rfl rfl ?_
      intro b34
      refine gp (zso (b := part4 y.length)) ?_
      refine gp zmv ?_
      refine gp (zcat (a := part4 y.length) (b := y) (hl := by simp only [part4, List.length_cons, List.length_nil]; omega)) ?_
      refine gp (r_val (zcat (hl := by simp only [part4, List.length_append, List.length_cons, List.length_nil]; omega)) (congrArg (fun l => Value.string (str l)) (framed_succ dom parts hly).symm)) ?_
      refine gp zas ?_
      refine gl_nil ?_
      refine gx_block_normal ?_
      refine gx_then ?_
      refine gc_region ?_
      refine gp zad ?_
      refine gp zmv ?_
      refine gl_nil ?_
      refine zrd (k + 1) ?_ ?_
      · show n - (k + 1) < n - k
        omega
      · exact zlp (show k + 1 ≤ n by omega)
    · try simp only at hc16
      have hk' : k = parts.length := by omega
      subst hk'
      refine gc_exit ?_
      refine gx_then_exit ?_
      refine gx_round_exit ?_
      refine gx_block_hit ?_
      refine gx_then ?_
      refine gsr ?_
      refine gp zmv ?_
      refine gp zas ?_
      refine gnt ?_
      refine gc_ret ?_
      refine gx_ret1 rfl (by conv => lhs; whnf) ?_
      rw [List.take_length]
      exact ze ()

set_option maxHeartbeats 400000 in
theorem of2_ok {w : World} {F : Nat → Prop} {dom : Int} {parts : List (List UInt8)} {a : Option Addr} {n c : Nat} (h : stars [] w F) (hx : RdList RdStr w (fun k => ¬ F k) 1 a n parts) (hb : 1 + pcost parts ≤ 1099511627776) :
    Calls Tryz.prog 78 #[.int .i64 dom, .slice a n c] w (Post w F (fun _ : Unit => .agg (dc (dOf Kc dom parts)).toArray) (fun _ => [])) := by
  refine g_enter (env := [(0, .int .i64 dom), (1, .slice a n c)]) Tryz.func78 rfl h Tryz.ntmps78 rfl rfl ?_
  refine gsr ?_
  refine zal fun b4 => ?_
  refine gnt ?_
  refine gsr ?_
  refine gp zmv ?_
  refine gp zmv ?_
  refine zc (fun _ => ?_) (c := fun w1 F1 F2 h1 h2 hd hst => framed_ok h1 (RdList.mv hx hst.still fun _ _ h => h) hb)
  refine zc (fun _ => ?_) (c := fun w1 F1 F2 h1 h2 hd hst => rsum_ok h1 (by rw [framed_length]; omega))
  generalize hV : (takes Kc v0 (refPad (framed dom parts))).1 = V
  refine zal fun b5 => ?_
  refine zsA fnc_length (fnc_one fun _ => rfl) ?_
  refine gnt ?_
  refine gsr ?_
  refine gp (r_buildA (cs := zD) Ty.zc_23 Ty.arr_23 Ty.sz_5 (by kernel_rfl)) ?_
  refine zal fun b6 => ?_
  refine zsA (new := zD) rfl (dc_one dig0) ?_
  refine gnt ?_
  refine gc_seq ?_
  refine gsr ?_
  refine gp zmv ?_
  refine gnt ?_
  refine gc_block ?_
  refine gc_loop (α := Nat) (fun k => [pureR (k ≤ 16), blk b6 23 (fnc B8 16 (pfx (outByte V) (fun _ => 0) k)), blk b5 207 (fnc B8 32 (outByte V)), blk b4 23 zD]) (fun k => [(13, .int .i64 (k : Int))]) [7, 14, 15, 16, 17, 18, 19, 20, 21] (fun k => 16 - k) 0 ?_ ?_ ?_
  · refine env_start (by kernel_rfl)
  · exact zlq (Nat.zero_le _) (M' := [blk b6 23 zD, blk b5 207 (fnc B8 32 (outByte V)), blk b4 23 zD]) (by rw [pfx_zero, fnc_const] <;> rfl)
  · intro k u
    refine gc_pureR (fun hk => ?_)
    replace hk : k ≤ 16 := hk
    refine gsr ?_
    refine gp zlt ?_
    refine gnt ?_
    refine gc_seq ?_
    refine gif rfl (fun hc14 => ?_) (fun hc14 => ?_)
    · try simp only at hc14
      have hk' : k < 16 := by omega
      refine gc_skip ?_
      refine gx_then ?_
      refine gc_seq ?_
      refine gc_block ?_
      refine gsr ?_
      refine gp zmv ?_
      refine gp zas ?_
      refine gnt ?_
      refine gc_region ?_
      refine gp zmv ?_
      refine gp zmv ?_
      refine gp zib ?_
      refine gp (r_ld1 (v := B8 (outByte V k)) rfl Ty.row_5 (by repeat (first | exact Pick.here | apply Pick.there)) (by rw [show 0 + (k : Int).toNat * 1 = k by omega]; exact fnc_get (V := B8) (f := outByte V) (by omega))) ?_
      refine gp zib ?_
      refine gl_store1 (wt0 rfl) rfl rfl rfl Ty.sz_5 (by repeat (first | exact Pick.here | apply Pick.there)) (by rw [fnc_length]; omega) (pfx_set (k := k) (by omega) (by omega) rfl) ?_
      refine gl_nil ?_
      refine gx_block_normal ?_
      refine gx_then ?_
      refine gc_region ?_
      refine gp zad ?_
      refine gp zmv ?_
      refine gl_nil ?_
      refine zrd (k + 1) ?_ ?_
      · show 16 - (k + 1) < 16 - k
        omega
      · exact zlp (show k + 1 ≤ 16 by omega)
    · try simp only at hc14
      have hk' : k = 16 := by omega
      subst hk'
      have e : fnc B8 16 (pfx (outByte V) (fun _ => 0) 16) = dc (dOf Kc dom parts) := by rw [pfx_full, ← hV]; exact of_cut dom parts
      rw [e]
      refine gc_exit ?_
      refine gx_then_exit ?_
      refine gx_round_exit ?_
      refine gx_block_hit ?_
      refine gx_then ?_
      refine gsr ?_
      refine gp (zLa (cs := dc (dOf Kc dom parts))) ?_
      refine zsA (dc_length _) (dc_one _) ?_
      refine gnt ?_
      refine gc_ret ?_
      refine gx_retc rfl rfl (ld_aggS Ty.row_23 Ty.sz_23 (by repeat (first | exact Pick.here | apply Pick.there)) (by (simp only [List.drop_succ_cons, List.drop_zero, List.take_succ_cons, List.take_zero, List.cons_append, List.nil_append, List.append_assoc, drop_dc, drop_dc', take_dc, take_dc', drop_L, drop_L', take_L, take_L', len_L, Nat.reduceLeDiff, Nat.reduceSub, Nat.reduceAdd, Nat.le_refl, List.length_cons, List.length_append, List.length_nil, dc_length, List.drop_nil, List.take_nil, List.append_nil, List.length_map, List.length_replicate]; first | done | rfl)) (by first | rfl | (simp only [List.drop_succ_cons, List.drop_zero, List.take_succ_cons, List.take_zero, List.cons_append, List.nil_append, List.append_assoc, drop_dc, drop_dc', take_dc, take_dc', drop_L, drop_L', take_L, take_L', len_L, Nat.reduceLeDiff, Nat.reduceSub, Nat.reduceAdd, Nat.le_refl, List.length_cons, List.length_append, List.length_nil, dc_length, List.drop_nil, List.take_nil, List.append_nil, List.length_map, List.length_replicate]; first | done | omega))) ?_
      exact ze ()







end Go.Proofs.YtkgbbnhdioghmaaGreatDoor

/- Walks, by program (wg.py) out of a spec. -/
namespace Go.Proofs.YtkgbbnhdioghmaaGreatDoor
open Go
set_option linter.unusedVariables false
set_option linter.unusedSimpArgs false

attribute [local irreducible] Gl Gc Gx Gs Runs Wt

attribute [local irreducible] voteC tmoC propC blkC chgC sgnC tcC qcC dc msgC

set_option maxHeartbeats 400000 in
theorem rid_ok {w : World} {F : Nat → Prop} {cs : List Value} {x : Block} (h : stars [] w F) (hx : RdBlock w (fun k => ¬ F k) cs x) (ho : OkBlock x) :
    Calls Tryz.prog 27 #[.agg cs.toArray] w (Post w F (fun _ : Unit => .tuple #[.agg (dc (idOf x)).toArray, .int .i64 ((wBlock x ⟨0, []⟩).err : Int)]) (fun _ => [])) := by
  have hl := hx.len
  have il := Len.of hl
  have jl := One.of hx.one
  have hmx := block_max x
  refine g_enter (env := [(0, .agg cs.toArray)]) Tryz.func27 rfl h Tryz.ntmps27 rfl rfl ?_
  refine gsr ?_
  refine zbN fun b1 => ?_
  refine zal fun b2 => ?_
  refine gp zas ?_
  refine gnt ?_
  refine gsr ?_
  refine gp (zLa (cs := cs)) ?_
  refine zc ?_ (c := fun w1 F1 F2 h1 h2 hd hst => obytes_ok h1 (hx.mv hst.still) ho)
  rintro ⟨a8, c8⟩
  refine gp zmv ?_
  refine gp zex ?_
  refine gp zex ?_
  refine gp zas ?_
  refine gp zas ?_
  refine gnt ?_
  refine gc_seq ?_
  refine gc_seq ?_
  by_cases he : (wBlock x ⟨0, []⟩).err = 0
  · refine gc_region ?_
    refine gp zmv ?_
    refine gp (r_bool (c := false) zni (by simp [he])) ?_
    refine gnt ?_
    refine gc_condF rfl rfl ?_
    refine gc_skip ?_
    refine gx_then ?_
    refine gsr ?_
    refine gp zmv ?_
    refine gp (zso (b := wOut (wBlock x ⟨0, []⟩))) ?_
    refine ze1 fun b17 => ?_
    refine zc (fun _ => ?_) (c := fun w1 F1 F2 h1 h2 hd hst => of2_ok (parts := [wOut (wBlock x ⟨0, []⟩)]) h1 (.of1 (rd_row (xs := [.string (str (wOut (wBlock x ⟨0, []⟩)))]) h2 hd (by repeat (first | exact Pick.here | apply Pick.there))) (.cons rfl .nil)) (by simp only [pcost, List.map_cons, List.map_nil, List.sum_cons, List.sum_nil]; omega))
    refine zsA (dc_length _) (dc_one _) ?_
    refine gp zas ?_
    refine gnt ?_
    refine gc_ret ?_
    refine gx_retct rfl rfl (by conv => lhs; whnf) (ld_aggS Ty.row_23 Ty.sz_23 (by repeat (first | exact Pick.here | apply Pick.there)) (by (simp only [List.drop_succ_cons, List.drop_zero, List.take_succ_cons, List.take_zero, List.cons_append, List.nil_append, List.append_assoc, drop_dc, drop_dc', take_dc, take_dc', drop_L, drop_L', take_L, take_L', len_L, Nat.reduceLeDiff, Nat.reduceSub, Nat.reduceAdd, Nat.le_refl, List.length_cons, List.length_append, List.length_nil, dc_length, List.drop_nil, List.take_nil, List.append_nil, List.length_map, List.length_replicate]; first | done | rfl)) (by first | rfl | (simp only [List.drop_succ_cons, List.drop_zero, List.take_succ_cons, List.take_zero, List.cons_append, List.nil_append, List.append_assoc, drop_dc, drop_dc', take_dc, take_dc', drop_L, drop_L', take_L, take_L', len_L, Nat.reduceLeDiff, Nat.reduceSub, Nat.reduceAdd, Nat.le_refl, List.length_cons, List.length_append, List.length_nil, dc_length, List.drop_nil, List.take_nil, List.append_nil, List.length_map, List.length_replicate]; first | done | omega))) ?_
    have e : idOf x = dOf Kc 6 [wOut (wBlock x ⟨0, []⟩)] := by rw [idOf, if_pos he, wOut, if_pos he]
    rw [e]
    exact fun w' hw => ⟨(), by rw [he]; rfl, hw.sel (by repeat (first | exact Sel.nil | (apply Sel.cons; · (repeat (first | exact Pick.here | apply Pick.there)))))⟩
  · refine gc_region ?_
    refine gp zmv ?_
    refine gp (r_bool (c := true) zni (by simp [he])) ?_
    refine gnt ?_
    refine gc_condT rfl rfl ?_
    refine gsr ?_
    refine gp (r_buildA (cs := dc dig0) Ty.zc_23 Ty.arr_23 Ty.sz_5 (by kernel_rfl)) ?_
    refine gp zmv ?_
    refine zsA (dc_length _) (dc_one _) ?_
    refine gp zas ?_
    refine gnt ?_
    refine gc_ret ?_
    refine gx_then_ret ?_
    refine gx_retct rfl rfl (by conv => lhs; whnf) (ld_aggS Ty.row_23 Ty.sz_23 (by repeat (first | exact Pick.here | apply Pick.there)) (by (simp only [List.drop_succ_cons, List.drop_zero, List.take_succ_cons, List.take_zero, List.cons_append, List.nil_append, List.append_assoc, drop_dc, drop_dc', take_dc, take_dc', drop_L, drop_L', take_L, take_L', len_L, Nat.reduceLeDiff, Nat.reduceSub, Nat.reduceAdd, Nat.le_refl, List.length_cons, List.length_append, List.length_nil, dc_length, List.drop_nil, List.take_nil, List.append_nil, List.length_map, List.length_replicate]; first | done | rfl)) (by first | rfl | (simp only [List.drop_succ_cons, List.drop_zero, List.take_succ_cons, List.take_zero, List.cons_append, List.nil_append, List.append_assoc, drop_dc, drop_dc', take_dc, take_dc', drop_L, drop_L', take_L, take_L', len_L, Nat.reduceLeDiff, Nat.reduceSub, Nat.reduceAdd, Nat.le_refl, List.length_cons, List.length_append, List.length_nil, dc_length, List.drop_nil, List.take_nil, List.append_nil, List.length_map, List.length_replicate]; first | done | omega))) ?_
    have e : idOf x = dig0 := by rw [idOf, if_neg he]
    rw [e]
    exact ze ()


theorem allE_bad {α : Type} {p : PR α} {z : α} {b : List UInt8} (h : (allE p z b).1 ≠ 0) : (allE p z b).2 = z := by
  unfold allE at h ⊢; split
  · rename_i m hm; rw [hm] at h; exact absurd rfl h
  · rfl
theorem allE_good {α : Type} {p : PR α} {z : α} {b : List UInt8} (hp : NoZ p) (h : (allE p z b).1 = 0) : pAll p b = .ok (allE p z b).2 := by
  unfold allE at h ⊢; split
  · rename_i m hm; rw [hm]
  · rename_i k hk
    rw [hk] at h
    simp only at h
    subst h
    unfold pAll at hk
    split at hk
    · rename_i e he; injection hk with hk; subst hk; exact absurd he (hp b)
    · split at hk
      · cases hk
      · injection hk with hk; cases hk
theorem blk_back {b : List UInt8} (h : (allE pBlock blk0 b).1 = 0) : wBlock (allE pBlock blk0 b).2 ⟨0, []⟩ = ⟨0, b⟩ := by
  obtain ⟨b', hb, hw⟩ := dec_block _ _ _ (pAll_ok (allE_good noz_block h))
  rw [List.append_nil] at hb
  subst hb
  simpa using hw ⟨0, []⟩ rfl

end Go.Proofs.YtkgbbnhdioghmaaGreatDoor

/- Walks, by program (wg.py) out of a spec. -/
namespace Go.Proofs.YtkgbbnhdioghmaaGreatDoor
open Go
set_option linter.unusedVariables false
set_option linter.unusedSimpArgs false

attribute [local irreducible] Gl Gc Gx Gs Runs Wt

attribute [local irreducible] voteC tmoC propC blkC chgC sgnC tcC qcC dc msgC

set_option maxHeartbeats 400000 in
theorem codecBlocks_ok {w : World} {F : Nat → Prop} {ea : Nat → Addr} {cs : List Value} {x : Block} {am : Option Addr} {nm cm : Nat} {bm : List UInt8} (h : stars [] w F) (hN : NErr w (fun k => ¬ F k) ea) (hK : KR w (fun k => ¬ F k)) (hx : RdBlock w (fun k => ¬ F k) cs x) (ho : OkBlock x) (hm : RdRow w (fun k => ¬ F k) 1 am nm (bm.map B8)) :
    Calls Tryz.prog 7 #[.agg cs.toArray, .slice am nm cm] w (Post w F (fun _ : Unit => .bool true) (fun _ => [])) := by
  have hE := hN.g
  have hl := hx.len
  have il := Len.of hl
  have jl := One.of hx.one
  have hmx := block_max x
  have her : (wBlock x ⟨0, []⟩).err ≤ 18 := Nat.le_trans (eok_block x ⟨0, []⟩ (by simp)) (by decide)
  refine g_enter (env := [(0, .agg cs.toArray), (1, .slice am nm cm)]) Tryz.func7 rfl h Tryz.ntmps7 rfl rfl ?_
  refine gsr ?_
  refine zbN fun b2 => ?_
  refine gp zas ?_
  refine gnt ?_
  refine gc_seq ?_
  refine gsr ?_
  refine zc (fun _ => ?_) (c := fun w1 F1 F2 h1 h2 hd hst => alive09_ok h1 (hE.mv hst.still))
  refine gp znt ?_
  refine gnt ?_
  refine gc_condF rfl rfl ?_
  refine gc_skip ?_
  refine gx_then ?_
  refine gc_seq ?_
  refine gsr ?_
  refine gp (zLa (cs := cs)) ?_
  refine zc (fun r21 => ?_) (c := fun w1 F1 F2 h1 h2 hd hst => bigBlock_ok h1 (hx.mv hst.still))
  rcases r21 with _ | _
  · refine gp zmv ?_
    refine gq zmv ?_
    refine gq zln ?_
    refine gq zgt ?_
    refine gp zpk ?_
    refine gnt ?_
    refine gif rfl (fun hc26 => ?_) (fun hc26 => ?_)
    · refine gsr ?_
      refine gp zas ?_
      refine gnt ?_
      refine gc_ret ?_
      refine gx_then_ret ?_
      refine gx_ret1 rfl (by conv => lhs; whnf) ?_
      exact ze ()
    · try simp only at hc26
      have hnm : nm ≤ 20000 := by omega
      refine gc_skip ?_
      refine gx_then ?_
      refine gsr ?_
      refine gp (zLa (cs := cs)) ?_
      refine zc ?_ (c := fun w1 F1 F2 h1 h2 hd hst => bytes_ok h1 (hE.mv hst.still) (hx.mv hst.still))
      rintro ⟨a29, c29⟩
      refine gp zmv ?_
      refine gp zex ?_
      refine gp zex ?_
      refine gp zas ?_
      refine gp zas ?_
      refine gnt ?_
      refine gsr ?_
      refine gp (zLa (cs := cs)) ?_
      refine zc ?_ (c := fun w1 F1 F2 h1 h2 hd hst => obytes_ok h1 (hx.mv hst.still) ho)
      rintro ⟨a34, c34⟩
      refine gp zmv ?_
      refine gp zex ?_
      refine gp zex ?_
      refine gp zas ?_
      refine gp zas ?_
      refine gnt ?_
      refine gsr ?_
      refine gp (zLa (cs := cs)) ?_
      refine zc (fun _ => ?_) (c := fun w1 F1 F2 h1 h2 hd hst => id_ok h1 (hE.mv hst.still) (hK.mv hst.still) (hx.mv hst.still))
      refine gp zmv ?_
      refine gp zex ?_
      refine gp zex ?_
      refine zal fun b9 => ?_
      refine zsA (dc_length _) (dc_one _) ?_
      refine gp zas ?_
      refine gnt ?_
      refine gsr ?_
      refine gp (zLa (cs := cs)) ?_
      refine zc (fun _ => ?_) (c := fun w1 F1 F2 h1 h2 hd hst => rid_ok h1 (hx.mv hst.still) ho)
      refine gp zmv ?_
      refine gp zex ?_
      refine gp zex ?_
      refine zal fun b11 => ?_
      refine zsA (dc_length _) (dc_one _) ?_
      refine gp zas ?_
      refine gnt ?_
      refine gc_seq ?_
      refine gsr ?_
      refine gp zmv ?_
      refine gp (zso (b := wOut (wBlock x ⟨0, []⟩))) ?_
      refine gp zmv ?_
      refine gp (zso (b := wOut (wBlock x ⟨0, []⟩))) ?_
      refine gp (r_bool (c := false) zns (by simp)) ?_
      refine gp zmv ?_
      refine gq zmv ?_
      refine zc (fun _ => ?_) (c := fun w1 F1 F2 h1 h2 hd hst => errNum_ok (n := (wBlock x ⟨0, []⟩).err) h1 (hN.mv hst.still) her)
      refine gq zmv ?_
      refine gq (r_bool (c := false) zni (by simp)) ?_
      refine gp zpk ?_
      refine gp zmv ?_
      refine gq (zLa (cs := dc (idOf x))) ?_
      refine gq (zLa (cs := dc (idOf x))) ?_
      refine gq (r_bool (c := false) znd (by simp)) ?_
      refine gp zpk ?_
      refine gp zmv ?_
      refine gq zmv ?_
      refine zc (fun _ => ?_) (c := fun w1 F1 F2 h1 h2 hd hst => errNum_ok (n := (wBlock x ⟨0, []⟩).err) h1 (hN.mv hst.still) her)
      refine gq zmv ?_
      refine gq (r_bool (c := false) zni (by simp)) ?_
      refine gp zpk ?_
      refine gnt ?_
      refine gc_condF rfl rfl ?_
      refine gc_skip ?_
      refine gx_then ?_
      refine gc_seq ?_
      refine gc_seq ?_
      by_cases he : (wBlock x ⟨0, []⟩).err = 0
      · refine gc_region ?_
        refine gp zmv ?_
        refine gp (r_bool (c := true) zei (decide_eq_true (by omega))) ?_
        refine gnt ?_
        refine gc_condT rfl rfl ?_
        refine gsr ?_
        refine gp zmv ?_
        refine zc (fun q73 => ?_) (c := fun w1 F1 F2 h1 h2 hd hst => readBlock_ok (b := wOut (wBlock x ⟨0, []⟩)) h1 (hE.mv hst.still) (rd_row h2 hd (by repeat (first | exact Pick.here | apply Pick.there))) (by omega))
        rw [block_law he]
        refine gl_pureR (fun hq73 => ?_)
        obtain ⟨hl73, ho73⟩ := hq73
        have i73 := Len.of hl73
        have j73 := One.of ho73
        refine gp zmv ?_
        refine gp zex ?_
        refine gp zex ?_
        refine zal fun b13 => ?_
        refine gl_eqc (cs' := blkC) (by repeat (first | exact Pick.here | apply Pick.there)) (by kernel_rfl) ?_
        refine zsA (by first | exact hl73 | rfl) ho73 ?_
        refine gp zas ?_
        refine gnt ?_
        refine gsr ?_
        refine gp zmv ?_
        refine gp (r_bool (c := false) (r_nenil (k := 0) rfl (by kernel_rfl)) rfl) ?_
        refine gp zmv ?_
        refine gq (zLa (cs := q73)) ?_
        refine gq (zLa (cs := cs)) ?_
        refine zc (fun _ => ?_) (c := fun w1 F1 F2 h1 h2 hd hst => sameBlock_ok h1 (vl_rd (x := x) h2 hd (by repeat (first | exact Pick.here | apply Pick.there))) (hx.mv hst.still))
        rw [decide_eq_true rfl]
        refine gq znt ?_
        refine gp zpk ?_
        refine gnt ?_
        refine gc_condF rfl rfl ?_
        refine gc_skip ?_
        refine gx_then ?_
        refine gsr ?_
        refine gp zmv ?_
        refine zc (fun q86 => ?_) (c := fun w1 F1 F2 h1 h2 hd hst => readBlock_ok (b := bm) h1 (hE.mv hst.still) (hm.mv hst.still) (by omega))
        refine gl_pureR (fun hq86 => ?_)
        obtain ⟨hl86, ho86⟩ := hq86
        have i86 := Len.of hl86
        have j86 := One.of ho86
        refine gp zmv ?_
        refine gp zex ?_
        refine gp zex ?_
        refine zal fun b15 => ?_
        refine gl_eqc (cs' := blkC) (by repeat (first | exact Pick.here | apply Pick.there)) (by kernel_rfl) ?_
        refine zsA (by first | exact hl86 | rfl) ho86 ?_
        refine gp zas ?_
        refine gnt ?_
        refine gc_seq ?_
        refine gsr ?_
        refine gp zmv ?_
        refine gp (r_bool (c := decide (¬ (allE pBlock (blk0) bm).1 = 0)) (r_nenil rfl (by kernel_rfl)) (by simp)) ?_
        refine gnt ?_
        refine gif rfl (fun hc90 => ?_) (fun hc90 => ?_)
        · try simp only at hc90
          have hz : ¬ (allE pBlock (blk0) bm).1 = 0 := by simpa using hc90
          have hz2 : (allE pBlock (blk0) bm).2 = blk0 := allE_bad hz
          rw [hz2]
          refine gsr ?_
          refine gp (zLa (cs := q86)) ?_
          refine gp (r_build (cs := blkC) Ty.zc_30 Ty.pl_30 (by kernel_rfl)) ?_
          refine zc (fun _ => ?_) (c := fun w1 F1 F2 h1 h2 hd hst => sameBlock_ok h1 (vl_rd (x := blk0) h2 hd (by repeat (first | exact Pick.here | apply Pick.there))) rdBlock0)
          rw [decide_eq_true rfl]
          refine gp zas ?_
          refine gnt ?_
          refine gc_ret ?_
          refine gx_then_ret ?_
          refine gx_ret1 rfl (by conv => lhs; whnf) ?_
          exact ze ()
        · try simp only at hc90
          have hz : (allE pBlock (blk0) bm).1 = 0 := by simpa using hc90
          have hb := blk_back hz
          refine gc_skip ?_
          refine gx_then ?_
          refine gsr ?_
          refine gp (zLa (cs := q86)) ?_
          refine zc ?_ (c := fun w1 F1 F2 h1 h2 hd hst => bytes_ok h1 (hE.mv hst.still) (vl_rd (x := (allE pBlock (blk0) bm).2) h2 hd (by repeat (first | exact Pick.here | apply Pick.there))))
          rintro ⟨a96, c96⟩
          rw [hb, show wOut ⟨0, bm⟩ = bm from rfl]
          refine gp zmv ?_
          refine gp zex ?_
          refine gp zex ?_
          refine gp zas ?_
          refine gp zas ?_
          refine gnt ?_
          refine gsr ?_
          refine gp zmv ?_
          refine gp (r_bool (c := true) (r_eqnil (k := 0) rfl (by kernel_rfl)) rfl) ?_
          refine gp zmv ?_
          refine gq zmv ?_
          refine gq (zso (b := bm)) ?_
          refine gq zmv ?_
          refine gq (r_str rfl Ty.sl_36 Ty.un_5 (by kernel_rfl) (fun w hw => hw.rdOld hm)) ?_
          refine gq (r_bool (c := true) zes (decide_eq_true rfl)) ?_
          refine gp zpk ?_
          refine gp zas ?_
          refine gnt ?_
          refine gc_ret ?_
          refine gx_ret1 rfl (by conv => lhs; whnf) ?_
          exact ze ()
      · refine gc_region ?_
        refine gp zmv ?_
        refine gp (r_bool (c := false) zei (decide_eq_false (by omega))) ?_
        refine gnt ?_
        refine gc_condF rfl rfl ?_
        refine gc_skip ?_
        refine gx_then ?_
        refine gsr ?_
        refine gp zmv ?_
        refine zc (fun q86 => ?_) (c := fun w1 F1 F2 h1 h2 hd hst => readBlock_ok (b := bm) h1 (hE.mv hst.still) (hm.mv hst.still) (by omega))
        refine gl_pureR (fun hq86 => ?_)
        obtain ⟨hl86, ho86⟩ := hq86
        have i86 := Len.of hl86
        have j86 := One.of ho86
        refine gp zmv ?_
        refine gp zex ?_
        refine gp zex ?_
        refine zal fun b15 => ?_
        refine gl_eqc (cs' := blkC) (by repeat (first | exact Pick.here | apply Pick.there)) (by kernel_rfl) ?_
        refine zsA (by first | exact hl86 | rfl) ho86 ?_
        refine gp zas ?_
        refine gnt ?_
        refine gc_seq ?_
        refine gsr ?_
        refine gp zmv ?_
        refine gp (r_bool (c := decide (¬ (allE pBlock (blk0) bm).1 = 0)) (r_nenil rfl (by kernel_rfl)) (by simp)) ?_
        refine gnt ?_
        refine gif rfl (fun hc90 => ?_) (fun hc90 => ?_)
        · try simp only at hc90
          have hz : ¬ (allE pBlock (blk0) bm).1 = 0 := by simpa using hc90
          have hz2 : (allE pBlock (blk0) bm).2 = blk0 := allE_bad hz
          rw [hz2]
          refine gsr ?_
          refine gp (zLa (cs := q86)) ?_
          refine gp (r_build (cs := blkC) Ty.zc_30 Ty.pl_30 (by kernel_rfl)) ?_
          refine zc (fun _ => ?_) (c := fun w1 F1 F2 h1 h2 hd hst => sameBlock_ok h1 (vl_rd (x := blk0) h2 hd (by repeat (first | exact Pick.here | apply Pick.there))) rdBlock0)
          rw [decide_eq_true rfl]
          refine gp zas ?_
          refine gnt ?_
          refine gc_ret ?_
          refine gx_then_ret ?_
          refine gx_ret1 rfl (by conv => lhs; whnf) ?_
          exact ze ()
        · try simp only at hc90
          have hz : (allE pBlock (blk0) bm).1 = 0 := by simpa using hc90
          have hb := blk_back hz
          refine gc_skip ?_
          refine gx_then ?_
          refine gsr ?_
          refine gp (zLa (cs := q86)) ?_
          refine zc ?_ (c := fun w1 F1 F2 h1 h2 hd hst => bytes_ok h1 (hE.mv hst.still) (vl_rd (x := (allE pBlock (blk0) bm).2) h2 hd (by repeat (first | exact Pick.here | apply Pick.there))))
          rintro ⟨a96, c96⟩
          rw [hb, show wOut ⟨0, bm⟩ = bm from rfl]
          refine gp zmv ?_
          refine gp zex ?_
          refine gp zex ?_
          refine gp zas ?_
          refine gp zas ?_
          refine gnt ?_
          refine gsr ?_
          refine gp zmv ?_
          refine gp (r_bool (c := true) (r_eqnil (k := 0) rfl (by kernel_rfl)) rfl) ?_
          refine gp zmv ?_
          refine gq zmv ?_
          refine gq (zso (b := bm)) ?_
          refine gq zmv ?_
          refine gq (r_str rfl Ty.sl_36 Ty.un_5 (by kernel_rfl) (fun w hw => hw.rdOld hm)) ?_
          refine gq (r_bool (c := true) zes (decide_eq_true rfl)) ?_
          refine gp zpk ?_
          refine gp zas ?_
          refine gnt ?_
          refine gc_ret ?_
          refine gx_ret1 rfl (by conv => lhs; whnf) ?_
          exact ze ()
  · refine gp zmv ?_
    refine gn ?_
    refine gn ?_
    refine gn ?_
    refine gp zpk ?_
    refine gnt ?_
    refine gc_condT rfl rfl ?_
    refine gsr ?_
    refine gp zas ?_
    refine gnt ?_
    refine gc_ret ?_
    refine gx_then_ret ?_
    refine gx_ret1 rfl (by conv => lhs; whnf) ?_
    exact ze ()

end Go.Proofs.YtkgbbnhdioghmaaGreatDoor

/- CodecBlocks: for every input the law returns true, and the input reads as it did: the row and its card. -/
namespace Go.Proofs.YtkgbbnhdioghmaaGreatDoor
open Go
open Go.ChangeShapes Go.WideShapes Go.ChangeAt Go.RowKit
set_option linter.unusedVariables false

/-- One world that fits: the settled one, the listed variables as their initialisers lay them. -/
noncomputable def codecBlocks_world (os : Os) : World :=
  let w0 := World.holding Tryz.prog os ⟨#[.cells #[.string ⟨#[113, 117, 111, 114, 97, 116, 101, 58, 32, 114, 97, 110, 103, 101]⟩] 289, .cells #[.string ⟨#[113, 117, 111, 114, 97, 116, 101, 58, 32, 115, 104, 111, 114, 116]⟩] 289, .cells #[.string ⟨#[113, 117, 111, 114, 97, 116, 101, 58, 32, 108, 111, 110, 103]⟩] 289, .cells #[.string ⟨#[113, 117, 111, 114, 97, 116, 101, 58, 32, 102, 111, 114, 109]⟩] 289, .cells #[.string ⟨#[113, 117, 111, 114, 97, 116, 101, 58, 32, 115, 112, 101, 110, 116]⟩] 289, .cells #[.string ⟨#[113, 117, 111, 114, 97, 116, 101, 58, 32, 112, 111, 119, 101, 114]⟩] 289, .cells #[.string ⟨#[113, 117, 111, 114, 97, 116, 101, 58, 32, 100, 105, 115, 107]⟩] 289, .cells #[.string ⟨#[113, 117, 111, 114, 97, 116, 101, 58, 32, 102, 117, 108, 108]⟩] 289, .cells #[.string ⟨#[113, 117, 111, 114, 97, 116, 101, 58, 32, 110, 111, 110, 101]⟩] 289, .cells #[.string ⟨#[113, 117, 111, 114, 97, 116, 101, 58, 32, 111, 108, 100]⟩] 289, .cells #[.string ⟨#[113, 117, 111, 114, 97, 116, 101, 58, 32, 115, 101, 116]⟩] 289, .cells #[.string ⟨#[113, 117, 111, 114, 97, 116, 101, 58, 32, 112, 114, 111, 111, 102]⟩] 289, .cells #[.string ⟨#[113, 117, 111, 114, 97, 116, 101, 58, 32, 108, 101, 97, 100, 101, 114]⟩] 289, .cells #[.string ⟨#[113, 117, 111, 114, 97, 116, 101, 58, 32, 114, 111, 117, 110, 100]⟩] 289, .cells #[.string ⟨#[113, 117, 111, 114, 97, 116, 101, 58, 32, 117, 110, 115, 97, 102, 101]⟩] 289, .cells #[.string ⟨#[113, 117, 111, 114, 97, 116, 101, 58, 32, 112, 97, 114, 101, 110, 116]⟩] 289, .cells #[.string ⟨#[113, 117, 111, 114, 97, 116, 101, 58, 32, 116, 119, 105, 99, 101]⟩] 289, .cells #[.string ⟨#[113, 117, 111, 114, 97, 116, 101, 58, 32, 101, 112, 111, 99, 104]⟩] 289], #[], []⟩
  { w0 with heap := ((((((((((((((((((w0.heap.modify 0 fun
      | .cells _ t fz => .cells #[.iface 264 (.pointer (some ⟨lowB + 0, 0, none⟩))] t fz
      | o => o).modify 1 fun
      | .cells _ t fz => .cells #[.iface 264 (.pointer (some ⟨lowB + 1, 0, none⟩))] t fz
      | o => o).modify 2 fun
      | .cells _ t fz => .cells #[.iface 264 (.pointer (some ⟨lowB + 2, 0, none⟩))] t fz
      | o => o).modify 3 fun
      | .cells _ t fz => .cells #[.iface 264 (.pointer (some ⟨lowB + 3, 0, none⟩))] t fz
      | o => o).modify 4 fun
      | .cells _ t fz => .cells #[.iface 264 (.pointer (some ⟨lowB + 4, 0, none⟩))] t fz
      | o => o).modify 5 fun
      | .cells _ t fz => .cells #[.iface 264 (.pointer (some ⟨lowB + 5, 0, none⟩))] t fz
      | o => o).modify 6 fun
      | .cells _ t fz => .cells #[.iface 264 (.pointer (some ⟨lowB + 6, 0, none⟩))] t fz
      | o => o).modify 7 fun
      | .cells _ t fz => .cells #[.iface 264 (.pointer (some ⟨lowB + 7, 0, none⟩))] t fz
      | o => o).modify 8 fun
      | .cells _ t fz => .cells #[.iface 264 (.pointer (some ⟨lowB + 8, 0, none⟩))] t fz
      | o => o).modify 9 fun
      | .cells _ t fz => .cells #[.iface 264 (.pointer (some ⟨lowB + 9, 0, none⟩))] t fz
      | o => o).modify 10 fun
      | .cells _ t fz => .cells #[.iface 264 (.pointer (some ⟨lowB + 10, 0, none⟩))] t fz
      | o => o).modify 11 fun
      | .cells _ t fz => .cells #[.iface 264 (.pointer (some ⟨lowB + 11, 0, none⟩))] t fz
      | o => o).modify 12 fun
      | .cells _ t fz => .cells #[.iface 264 (.pointer (some ⟨lowB + 12, 0, none⟩))] t fz
      | o => o).modify 13 fun
      | .cells _ t fz => .cells #[.iface 264 (.pointer (some ⟨lowB + 13, 0, none⟩))] t fz
      | o => o).modify 14 fun
      | .cells _ t fz => .cells #[.iface 264 (.pointer (some ⟨lowB + 14, 0, none⟩))] t fz
      | o => o).modify 15 fun
      | .cells _ t fz => .cells #[.iface 264 (.pointer (some ⟨lowB + 15, 0, none⟩))] t fz
      | o => o).modify 16 fun
      | .cells _ t fz => .cells #[.iface 264 (.pointer (some ⟨lowB + 16, 0, none⟩))] t fz
      | o => o).modify 17 fun
      | .cells _ t fz => .cells #[.iface 264 (.pointer (some ⟨lowB + 17, 0, none⟩))] t fz
      | o => o).modify 18 fun
      | .cells _ t fz => .cells (kc.map W32).toArray t fz
      | o => o }
def codecBlocks_args : Array Value := #[.agg blkC.toArray, .slice none 0 0]
theorem codecBlocks_laid (os : Os) (args : Array Value) : laidMet Tryz.prog Rows.codecBlocksRow.laid ((codecBlocks_world os).forCall (fun _ _ => 0) ⟨#[], args, []⟩).memory :=
  laidMet_of_run' 8 (by kernel_rfl) (by kernel_rfl)
theorem codecBlocks_reads (os : Os) {H : Type} (enc : TypeId × Value → H) : ∃ places, DataW.whole enc Tryz.prog ((codecBlocks_world os).forCall (fun _ _ => 0) ⟨#[], codecBlocks_args, []⟩).memory Tryz.f7.params.toList Rows.codecBlocksSpec.vars false codecBlocks_args.toList 8 = some ([blkD, .nil], [], places) :=
  ⟨[], by kernel_rfl⟩
set_option maxRecDepth 20000 in
theorem codecBlocks_contract (H : Type) (enc : TypeId × Value → H) (W : World) (base : Nat) (args : Array Value) (ds gs : List (DataW H)) (before : List MemPlace)
    (hval : ∀ (j : Nat) t v, Tryz.f7.params[j]? = some t → args[j]? = some v → Value.okWide Tryz.prog W .any base t v)
    (hW : DataW.Whole enc Tryz.prog Tryz.f7.params.toList Rows.codecBlocksSpec.vars false W args.toList ds gs before) (hL : laidMetH Tryz.prog Rows.codecBlocksRow.laid W) :
    Calls Tryz.prog 7 args W fun e W' => ∃ v, e = .returned v ∧ Rows.codecBlocksSpec.post enc Tryz.prog Tryz.f7 false true false false W args v W' := by
  have hW' := hW
  have hlt : ∀ p ∈ before, p.block < W.heap.size := fun p hp => hW.lt p hp
  obtain ⟨p, q, hA0, hV, rfl, hfz, hnd⟩ := hW
  have hA : DataW.TrodAll enc Tryz.prog W 0 (fun _ => true) true Tryz.f7.params.toList args.toList ds p := hA0
  rw [Tryz.params7] at hA hval
  obtain ⟨v0, vs0, d0, ds0, p0, q0, hargs, rfl, rfl, h0, r0⟩ := trodAll_cons hA
  obtain ⟨v1, vs1, d1, ds1, p1, q1, rfl, rfl, rfl, h1, r1⟩ := trodAll_cons r0
  obtain ⟨rfl, rfl, rfl⟩ := trodAll_nil r1
  obtain rfl : args = #[v0, v1] := by cases args; simp_all
  obtain ⟨rfl, rfl⟩ := trodVars_none hV
  obtain ⟨x0, hx0⟩ : ∃ x, RdBlock W TT v0.cells.toList x ∧ OkBlock x := by obtain ⟨fuel, hf⟩ := h0; exact p_block fuel _ _ hf
  have e0 := agg_of_len (n := 39) hx0.1.len (by decide)
  obtain ⟨a1, m1, c1, rfl⟩ := okWide_slice (run_sliceT Ty.sl_36) (hval 1 36 v1 rfl rfl)
  obtain ⟨x1, hx1⟩ : ∃ x, RdBytes W TT [.slice a1 m1 c1] x := by obtain ⟨fuel, hf⟩ := h1; exact o_bytes fuel _ _ hf
  have hL' : laidMet Tryz.prog Rows.codecBlocksRow.laid W := hL
  obtain ⟨ea, hN⟩ := laid_nerr (r := [("quorate/hash.constants", Rows.laid_quorate_hash_constants)]) (show laidMet Tryz.prog (errNames.map errRow ++ [("quorate/hash.constants", Rows.laid_quorate_hash_constants)]) W from hL')
  have hK := laid_kr hL'.tail.tail.tail.tail.tail.tail.tail.tail.tail.tail.tail.tail.tail.tail.tail.tail.tail.tail
  have walk := codecBlocks_ok (cm := c1) no_res hN hK (hx0.1.mv still_id) hx0.2 ((rdBytes_row hx1).mv still_id)
  rw [← e0] at walk
  refine Calls.mono (show Calls Tryz.prog 7 #[v0, .slice a1 m1 c1] W _ from walk) fun e W' ⟨_, he, hs⟩ => ?_
  subst he
  have bel := below_of hs
  have eF : Rows.codecBlocksSpec.fn H ([d0, d1] ++ []) = { results := [.lit (.bool true)], args := [d0, d1] } := rfl
  have l0 : ∀ z ∈ p0, z.block < W.heap.size := fun z hz => hlt z (by simp [hz])
  have l1 : ∀ z ∈ p1, z.block < W.heap.size := fun z hz => hlt z (by simp [hz])
  refine ⟨_, rfl, _, _, _, [], p0 ++ (p1 ++ ([])), [], hW', ?_, ?_, ?_, bel.frame _, fun h => by cases h⟩
  · rw [eF]; exact trodAll_cons_mk (shut_bool Tryz.underlying4 _) trodAll_mk0
  · rw [eF, Tryz.params7]
    exact trodAll_cons_mk (Below.trod laidOut (by kernel_rfl) (of_decide_eq_true (by kernel_rfl)) h0 bel l0) (trodAll_cons_mk (Below.trod laidOut (by kernel_rfl) (of_decide_eq_true (by kernel_rfl)) h1 bel l1) (trodAll_mk0))
  · rw [eF]; rfl

set_option maxRecDepth 100000 in
theorem codecBlocks_lifted (os : Os) (started : os.Started) (H : Type) (enc : TypeId × Value → H) (F : Stop.Interp) :
    ReturnsInHanded {} Tryz.checked os 7 .any ((OpenSpec.ofChange Rows.codecBlocksSpec).preRow enc Tryz.prog Tryz.f7 Rows.codecBlocksRow.domain false Rows.codecBlocksRow.laid) (((OpenSpec.ofChange Rows.codecBlocksSpec).at F).post enc Tryz.prog Tryz.f7 false true false false) := by
  obtain ⟨places, hx⟩ := codecBlocks_reads os enc
  refine returnsInHanded_of_row (C := Tryz.checked) (s := OpenSpec.ofChange Rows.codecBlocksSpec) own started (by kernel_rfl) Tryz.func7
    (witness_row_atRef (enc := enc) (C := Tryz.checked) false (codecBlocks_world os) codecBlocks_args rfl (by kernel_rfl) (by kernel_rfl) (by kernel_rfl)
      (OpenSpec.preRow_of_cond 8 hx (by kernel_rfl) (fun k hk => by cases hk) (by kernel_rfl) (codecBlocks_laid os _))) ?_
  intro W base args ds gs before hval hW _ _ _ hL _ _
  exact codecBlocks_contract H enc W base args ds gs before hval hW hL

theorem codecBlocks_said : Rows.CodecBlocksSaid :=
  OpenClaim.holds_of_cond 7 Tryz.f7 rfl rfl rfl rfl rfl rfl rfl ⟨rfl, rfl, rfl, rfl, rfl⟩ rfl rfl rfl rfl rfl (by kernel_rfl) Tryz.func7 (by kernel_rfl)
    (of_decide_eq_true (by kernel_rfl)) (by unfold Func.isWrapper; first | (rw [if_pos (by decide +kernel)]; kernel_rfl) | (rw [if_neg (by decide +kernel)]; exact ⟨rfl, rfl⟩))
    (fun os started H enc _ F => by rw [OpenClaim.pre_eq_preRow]; exact codecBlocks_lifted os started H enc F)
theorem codecBlocks_plain (f : FuncId) (fn : Func) (hf : Tryz.pinned.checked.prog.funcNamed "quorate/quoratelaw09.CodecBlocks" = some f) (hfn : Tryz.pinned.checked.prog.funcs[f]? = some fn) :
    true = Tryz.pinned.checked.prog.looks [] ∧ ∀ (j : Nat) t, fn.params[j]? = some t → Tryz.pinned.checked.prog.wantsStandIn t = false := by
  obtain rfl : f = 7 := Option.some.inj ((show Tryz.prog.funcNamed "quorate/quoratelaw09.CodecBlocks" = some 7 by kernel_rfl).symm.trans hf) |>.symm
  obtain rfl : fn = Tryz.f7 := (Option.some.inj (Tryz.func7.symm.trans hfn)).symm
  refine ⟨by kernel_rfl, fun j t ht => ?_⟩
  rw [Tryz.params7] at ht
  have hm := Array.mem_of_getElem? ht
  have h : t = 30 ∨ t = 36 := by simpa using hm
  rcases h with rfl | rfl
  · exact (show Tryz.prog.wantsStandIn 30 = false by kernel_rfl)
  · exact (show Tryz.prog.wantsStandIn 36 = false by kernel_rfl)
theorem codecBlocks_holds : Rows.CodecBlocksCardSaid :=
  Claim7.holds_tied_plain_at .later [] _ _ _ _ codecBlocks_said (fun _ h => by cases h) (by kernel_rfl) (fun _ h => by cases h) codecBlocks_row_tie rfl ⟨rfl, rfl⟩ (by kernel_rfl) rfl codecBlocks_plain (by kernel_rfl)
#print axioms codecBlocks_holds
end Go.Proofs.YtkgbbnhdioghmaaGreatDoor

