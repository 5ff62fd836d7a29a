/- Part 4. What is proved: see the last part: for every input the law returns true, and the input reads as it did. -/
import Derived.Test.YtffkjjakceojfaaDoorCb3
import Derived.Test.YtffkjjakceojfaaDoorCards
import Derived.Test.YtffkjjakceojfaaDoorTie
import Derived.Deep.DeepHandedRow
import Derived.Deep.DeepWitnessRowRef
/- Walks, by program (wg.py) out of a spec. -/
namespace Go.Proofs.YtffkjjakceojfaaDoor
open Go
set_option linter.unusedVariables false
set_option linter.unusedSimpArgs false

attribute [local irreducible] Gl Gc Gx Gs Runs Wt

set_option maxHeartbeats 1000000 in
set_option maxRecDepth 20000 in
theorem rsum_ok {w : World} {F : Nat → Prop} {b : List UInt8} (h : stars [] w F) (hb : b.length ≤ 1099511627776) :
    Calls Tryd.prog 41 #[.string (str b)] w (Post w F (fun _ : Unit => .agg (fnc B8 32 (outByte (takes Kc v0 (refPad b)).1)).toArray) (fun _ => [])) := by
  have hp63 := padN_le b.length
  have hpl := refPad_length b
  refine g_enter (env := [(0, .string (str b))]) Tryd.func41 rfl h Tryd.ntmps41 rfl rfl ?_
  refine gsr ?_
  refine zal fun b2 => ?_
  refine gnt ?_
  refine gsr ?_
  refine gp zmv ?_
  refine gp zlS ?_
  refine gp (r_int zci (wrap_u64 (by omega) (by omega))) ?_
  refine gp (r_int (r_mul rfl rfl) (show IntKind.u64.wrap ((b.length : Int) * 8) = ((b.length * 8 : Nat) : Int) by rw [wrap_u64 (by omega) (by omega)]; omega)) ?_
  refine gp zas ?_
  refine gnt ?_
  refine gsr ?_
  refine gp zmv ?_
  refine zob fun g28 c28 => ?_
  refine ze1 fun b29 => ?_
  refine zapo (news := [.int .u8 128]) (fun a30 c30 => ?_)
  refine gp zas ?_
  refine gnt ?_
  refine gc_seq ?_
  refine gc_block ?_
  refine gc_loop (α := Nat × Option Addr × Nat) (fun x => [pureR (x.1 ≤ padN b.length), rowR 5 1 x.2.1 (b.length + 1 + x.1) x.2.2 ((rPadRow b x.1).map B8), blk b2 80 (List.replicate 32 (.int .u8 0))]) (fun x => [(4, .slice x.2.1 (b.length + 1 + x.1) x.2.2)]) [31, 32, 33, 34, 35, 36, 37] (fun x => padN b.length - x.1) (0, a30, c30) ?_ ?_ ?_
  · refine env_start (by kernel_rfl)
  · exact zlq (Nat.zero_le _) (M' := [rowR 5 1 a30 (b.length + 1) c30 (b.map B8 ++ [.int .u8 128]), blk b2 80 (List.replicate 32 (.int .u8 0))]) (by simp [rPadRow]; rfl)
  · intro x u
    obtain ⟨k, a4, c4⟩ := x
    refine gc_pureR (fun hk => ?_)
    replace hk : k ≤ padN b.length := hk
    refine gc_seq ?_
    refine gsr ?_
    refine gp zmv ?_
    refine gp (r_int zln (show ((b.length + 1 + k : Nat) : Int) = ((b.length + 1 + k : Nat) : Int) from rfl)) ?_
    refine gp (r_int zrm (rem_nat (m := b.length + 1 + k) (k := 64))) ?_
    refine gp zni ?_
    refine gnt ?_
    refine gif rfl (fun hc34 => ?_) (fun hc34 => ?_)
    · try simp only at hc34
      have hk' : k < padN b.length := by have := pad_hit' hk; omega
      refine gc_skip ?_
      refine gx_then ?_
      refine gc_block ?_
      refine gc_region ?_
      refine gp zmv ?_
      refine ze1 fun b36 => ?_
      refine zapo (news := [.int .u8 0]) (fun a37 c37 => ?_)
      refine gp zas ?_
      refine gl_nil ?_
      refine gx_block_normal ?_
      refine zrd ((k + 1, a37, c37)) ?_ ?_
      · show padN b.length - (k + 1) < padN b.length - k
        omega
      · exact zlq (show k + 1 ≤ padN b.length by omega) (by rw [rPadRow_succ] <;> rfl)
    · try simp only at hc34
      have hk' : k = padN b.length := by have := pad_hit' hk; omega
      subst hk'
      refine gc_exit ?_
      refine gx_then_exit ?_
      refine gx_round_exit ?_
      refine gx_block_hit ?_
      refine gx_then ?_
      refine gc_seq ?_
      refine gsr ?_
      refine gp zas ?_
      refine gnt ?_
      refine gc_block ?_
      refine gc_loop (α := Nat × Option Addr × Nat) (fun x => [pureR (x.1 ≤ 8), rowR 5 1 x.2.1 (b.length + 1 + padN b.length + x.1) x.2.2 ((rLenRow b x.1).map B8), blk b2 80 (List.replicate 32 (.int .u8 0))]) (fun x => [(4, .slice x.2.1 (b.length + 1 + padN b.length + x.1) x.2.2), (5, .int .i64 (x.1 : Int))]) [38, 39, 40, 41, 42, 43, 44, 45, 46, 47, 48, 49, 50, 51] (fun x => 8 - x.1) (0, a4, c4) ?_ ?_ ?_
      · refine env_start (by kernel_rfl)
      · exact zlq (Nat.zero_le _) (by rw [rLenRow_zero] <;> rfl)
      · intro x u
        obtain ⟨k, a5, c5⟩ := x
        refine gc_pureR (fun hk => ?_)
        replace hk : k ≤ 8 := hk
        refine gc_seq ?_
        refine gsr ?_
        refine gp zmv ?_
        refine gp zlt ?_
        refine gnt ?_
        refine gif rfl (fun hc39 => ?_) (fun hc39 => ?_)
        · try simp only at hc39
          have hk' : k < 8 := by omega
          refine gc_skip ?_
          refine gx_then ?_
          refine gc_seq ?_
          refine gc_block ?_
          refine gc_region ?_
          refine gp zmv ?_
          refine gp zmv ?_
          refine gp zmv ?_
          refine gp zml ?_
          refine gp zsb ?_
          refine gp (r_int zci (show IntKind.u64.wrap (56 - 8 * (k : Int)) = 8 * (7 - (k : Int)) by rw [wrap_u64 (by omega) (by omega)]; omega)) ?_
          refine gp zhr ?_
          refine gp (r_val zci (byte_shrU (j := 7 - k) (i := 7 - (k : Int)) (by omega) (by omega))) ?_
          refine ze1 fun b50 => ?_
          refine zapo (news := [B8 (UInt8.ofNat (b.length * 8 / 2 ^ (8 * (7 - k))))]) (fun a51 c51 => ?_)
          refine gp zas ?_
          refine gl_nil ?_
          refine gx_block_normal ?_
          refine gx_then ?_
          refine gc_region ?_
          refine gp zmv ?_
          refine gp zad ?_
          refine gp zas ?_
          refine gl_nil ?_
          refine zrd ((k + 1, a51, c51)) ?_ ?_
          · show 8 - (k + 1) < 8 - k
            omega
          · exact zlq (show k + 1 ≤ 8 by omega) (by rw [rLenRow_succ] <;> rfl)
        · try simp only at hc39
          have hk' : k = 8 := by omega
          subst hk'
          refine gc_exit ?_
          refine gx_then_exit ?_
          refine gx_round_exit ?_
          refine gx_block_hit ?_
          refine gx_then ?_
          refine gsr ?_
          refine gp (r_buildA (cs := List.replicate 64 (.int .u32 0)) Ty.zc_100 Ty.arr_100 Ty.sz_93 (by kernel_rfl)) ?_
          refine zal fun b6 => ?_
          refine zsA (new := List.replicate 64 (.int .u32 0)) List.length_replicate (rep_one rfl) ?_
          refine gnt ?_
          refine gsr ?_
          refine gp (r_buildA (cs := v8c v0) Ty.zc_94 Ty.arr_94 Ty.sz_93 (by kernel_rfl)) ?_
          refine zal fun b7 => ?_
          refine zsA (v8c_length _) (v8c_one _) ?_
          refine gnt ?_
          refine gsr ?_
          refine gp (r_buildA (cs := List.replicate 64 (.int .u32 0)) Ty.zc_100 Ty.arr_100 Ty.sz_93 (by kernel_rfl)) ?_
          refine zal fun b8 => ?_
          refine zsA (new := List.replicate 64 (.int .u32 0)) List.length_replicate (rep_one rfl) ?_
          refine gnt ?_
          refine gc_seq ?_
          refine gsr ?_
          refine gp zmv ?_
          refine gnt ?_
          refine gc_block ?_
          refine gc_loop (α := Nat) (fun k => [pureR (k ≤ 64), blk b8 100 (fnc W32 64 (pfx Kc (fun _ => 0) k)), blk b7 94 (v8c v0), blk b6 100 (List.replicate 64 (.int .u32 0)), rowR 5 1 a5 (b.length + 1 + padN b.length + 8) c5 ((refPad b).map B8), blk b2 80 (List.replicate 32 (.int .u8 0))]) (fun k => [(55, .int .i64 (k : Int))]) [9, 56, 57, 58, 59, 60, 61, 62] (fun k => 64 - k) 0 ?_ ?_ ?_
          · refine env_start (by kernel_rfl)
          · exact zlq (Nat.zero_le _) (M' := [blk b8 100 (List.replicate 64 (.int .u32 0)), blk b7 94 (v8c v0), blk b6 100 (List.replicate 64 (.int .u32 0)), rowR 5 1 a5 (b.length + 1 + padN b.length + 8) c5 ((refPad b).map B8), blk b2 80 (List.replicate 32 (.int .u8 0))]) (by rw [pfx_zero, fnc_const] <;> rfl)
          · intro k u
            refine gc_pureR (fun hk => ?_)
            replace hk : k ≤ 64 := hk
            refine gsr ?_
            refine gp zlt ?_
            refine gnt ?_
            refine gc_seq ?_
            refine gif rfl (fun hc56 => ?_) (fun hc56 => ?_)
            · try simp only at hc56
              have hk' : k < 64 := by omega
              refine gc_skip ?_
              refine gx_then ?_
              refine gc_seq ?_
              refine gc_block ?_
              refine gsr ?_
              refine gp zmv ?_
              refine gp zas ?_
              refine gnt ?_
              refine gc_region ?_
              refine gp zmv ?_
              refine gp zmv ?_
              refine zc (fun _ => ?_) (c := fun w1 F1 F2 h1 h2 hd hst => k_ok (i := k) h1 hk')
              refine gp (r_indexAddr_arr rfl rfl Ty.arr_100 Ty.sz_93 (by omega) (by omega)) ?_
              refine gl_store1 (wt0 rfl) rfl rfl rfl Ty.sz_93 (by repeat (first | exact Pick.here | apply Pick.there)) (by rw [fnc_length]; omega) (pfx_set (k := k) (by omega) (by omega) rfl) ?_
              refine gl_nil ?_
              refine gx_block_normal ?_
              refine gx_then ?_
              refine gc_region ?_
              refine gp zad ?_
              refine gp zmv ?_
              refine gl_nil ?_
              refine zrd (k + 1) ?_ ?_
              · show 64 - (k + 1) < 64 - k
                omega
              · exact zlp (show k + 1 ≤ 64 by omega)
            · try simp only at hc56
              have hk' : k = 64 := by omega
              subst hk'
              refine gc_exit ?_
              refine gx_then_exit ?_
              refine gx_round_exit ?_
              refine gx_block_hit ?_
              refine gx_then ?_
              refine gc_seq ?_
              refine gc_block ?_
              refine gc_loop (α := V8 × List UInt8 × Option Addr × Nat × Nat × (Nat → UInt32)) (fun x => [pureR (takes Kc x.1 x.2.1 = takes Kc v0 (refPad b) ∧ x.2.1.length % 64 = 0 ∧ x.2.1.length ≤ 1099511627906 ∧ x.2.2.2.1 = x.2.1.length), rowR 5 1 x.2.2.1 x.2.2.2.1 x.2.2.2.2.1 (x.2.1.map B8), blk b6 100 (fnc W32 64 x.2.2.2.2.2), blk b7 94 (v8c x.1), blk b8 100 (fnc W32 64 Kc), blk b2 80 (List.replicate 32 (.int .u8 0))]) (fun x => [(4, .slice x.2.2.1 x.2.2.2.1 x.2.2.2.2.1)]) [10, 11, 12, 13, 14, 15, 16, 17, 18, 19, 20, 63, 64, 65, 66, 67, 68, 69, 70, 71, 72, 73, 74, 75, 76, 77, 78, 79, 80, 81, 82, 83, 84, 85, 86, 87, 88, 89, 90, 91, 92, 93, 94, 95, 96, 97, 98, 99, 100, 101, 102, 103, 104, 105, 106, 107, 108, 109, 110, 111, 112, 113, 114, 115, 116, 117, 118, 119, 120, 121, 122, 123, 124, 125, 126, 127, 128, 129, 130, 131, 132, 133, 134, 135, 136, 137, 138, 139, 140, 141, 142, 143, 144, 145, 146, 147, 148, 149, 150, 151, 152, 153, 154, 155, 156, 157, 158, 159, 160, 161, 162, 163, 164, 165, 166, 167, 168, 169, 170, 171, 172, 173, 174, 175, 176, 177, 178, 179, 180, 181, 182, 183, 184, 185, 186, 187, 188, 189, 190, 191, 192, 193, 194, 195, 196, 197, 198, 199, 200, 201, 202, 203, 204, 205, 206, 207, 208, 209, 210, 211, 212, 213, 214, 215, 216, 217, 218, 219, 220, 221, 222, 223, 224, 225, 226, 227, 228, 229, 230, 231, 232, 233, 234, 235, 236, 237, 238, 239, 240, 241, 242, 243, 244, 245, 246, 247, 248, 249, 250] (fun x => x.2.1.length) (v0, refPad b, a5, b.length + 1 + padN b.length + 8, c5, fun _ => 0) ?_ ?_ ?_
              · refine env_start (by kernel_rfl)
              · exact zlq (M' := [rowR 5 1 a5 (b.length + 1 + padN b.length + 8) c5 ((refPad b).map B8), blk b6 100 (List.replicate 64 (.int .u32 0)), blk b7 94 (v8c v0), blk b8 100 (fnc W32 64 (pfx Kc (fun _ => 0) 64)), blk b2 80 (List.replicate 32 (.int .u8 0))]) ⟨rfl, (by show (refPad b).length % 64 = 0; have := (pad_hit' (m := b.length) (Nat.le_refl _)).2 rfl; omega), (by show (refPad b).length ≤ _; omega), hpl.symm⟩ (by rw [pfx_full]; simp only [fnc_const]; rfl)
              · intro x u
                obtain ⟨v, r, a6, n6, c6, T⟩ := x
                refine gc_pureR (fun hk => ?_)
                replace hk : takes Kc v r = takes Kc v0 (refPad b) ∧ r.length % 64 = 0 ∧ r.length ≤ 1099511627906 ∧ n6 = r.length := hk
                obtain ⟨hko, hk64, hkb, rfl⟩ := hk
                refine gc_fact (p := r.length ≤ c6) (fun w hw => (hw.rowLe (e := 5) (size := 1) (a := a6) (m := r.length) (c := c6) (xs := r.map B8) (by repeat (first | exact Pick.here | apply Pick.there))).1) (fun hc6 => ?_)
                refine gc_seq ?_
                refine gsr ?_
                refine gp zmv ?_
                refine gp zln ?_
                refine gp zgt ?_
                refine gnt ?_
                refine gif rfl (fun hc65 => ?_) (fun hc65 => ?_)
                · try simp only at hc65
                  have hk' : 64 ≤ r.length := by omega
                  refine gc_fact (p := ∃ g o, a6 = some ⟨g, o, none⟩) (fun w hw => (by obtain ⟨g, o, e, _⟩ := (hw.row (a := a6) (m := r.length) (c := c6) (xs := r.map B8) (by repeat (first | exact Pick.here | apply Pick.there))).2.2 (by omega); exact ⟨g, o, e⟩)) (fun ha => ?_)
                  obtain ⟨g6, o6, rfl⟩ := ha
                  refine gc_skip ?_
                  refine gx_then ?_
                  refine gc_block ?_
                  refine gc_seq ?_
                  refine gsr ?_
                  refine gp zas ?_
                  refine gnt ?_
                  refine gc_block ?_
                  refine gc_loop (α := Nat) (fun k => [pureR (k ≤ 16), blk b6 100 (fnc W32 64 (pfx (sch (r.take 64)) T k)), blk b7 94 (v8c v), blk b8 100 (fnc W32 64 Kc), blk b2 80 (List.replicate 32 (.int .u8 0)), rowR 5 1 (some ⟨g6, o6, none⟩) r.length c6 (r.map B8)]) (fun k => [(10, .int .i64 (k : Int))]) [66, 67, 68, 69, 70, 71, 72, 73, 74, 75, 76, 77, 78, 79, 80, 81, 82, 83, 84, 85, 86, 87, 88, 89, 90, 91, 92, 93, 94, 95, 96, 97, 98, 99, 100, 101, 102, 103, 104] (fun k => 16 - k) 0 ?_ ?_ ?_
                  · refine env_start (by kernel_rfl)
                  · exact zlq (Nat.zero_le _) (by rw [pfx_zero])
                  · intro k u
                    refine gc_pureR (fun hk => ?_)
                    replace hk : k ≤ 16 := hk
                    refine gc_seq ?_
                    refine gsr ?_
                    refine gp zmv ?_
                    refine gp zlt ?_
                    refine gnt ?_
                    refine gif rfl (fun hc67 => ?_) (fun hc67 => ?_)
                    · try simp only at hc67
                      have hk' : k < 16 := by omega
                      refine gc_skip ?_
                      refine gx_then ?_
                      refine gc_seq ?_
                      refine gc_block ?_
                      refine gc_regionT 35 (by kernel_rfl) (by kernel_rfl) ?_
                      refine sp zmv ?_
                      refine sp zmv ?_
                      refine sp zmv ?_
                      refine sp zml ?_
                      refine sp (zia (m := r.length)) ?_
                      refine sp (r_ld1r (v := B8 (r.getD (4 * k) 0)) rfl Ty.row_5 (by repeat (first | exact Pick.here | apply Pick.there)) (row_byte (by omega) (by omega))) ?_
                      refine sp (r_conv8w rfl Ty.un_5 Ty.un_93) ?_
                      refine sp (r_mulw (b := 16777216) rfl rfl) ?_
                      refine sp zmv ?_
                      refine sp zmv ?_
                      refine sp zml ?_
                      refine sp zad ?_
                      refine sp (zia (m := r.length)) ?_
                      refine sp (r_ld1r (v := B8 (r.getD (4 * k + 1) 0)) rfl Ty.row_5 (by repeat (first | exact Pick.here | apply Pick.there)) (row_byte (by omega) (by omega))) ?_
                      refine sp (r_conv8w rfl Ty.un_5 Ty.un_93) ?_
                      refine sp (r_mulw (b := 65536) rfl rfl) ?_
                      refine sp zwa ?_
                      refine sp zmv ?_
                      refine sp zmv ?_
                      refine sp zml ?_
                      refine sp zad ?_
                      refine sp (zia (m := r.length)) ?_
                      refine sp (r_ld1r (v := B8 (r.getD (4 * k + 2) 0)) rfl Ty.row_5 (by repeat (first | exact Pick.here | apply Pick.there)) (row_byte (by omega) (by omega))) ?_
                      refine sp (r_conv8w rfl Ty.un_5 Ty.un_93) ?_
                      refine sp (r_mulw (b := 256) rfl rfl) ?_
                      refine sp zwa ?_
                      refine sp zmv ?_
                      refine sp zmv ?_
                      refine sp zml ?_
                      refine sp zad ?_
                      refine sp (zia (m := r.length)) ?_
                      refine sp (r_ld1r (v := B8 (r.getD (4 * k + 3) 0)) rfl Ty.row_5 (by repeat (first | exact Pick.here | apply Pick.there)) (row_byte (by omega) (by omega))) ?_
                      refine sp (r_conv8w rfl Ty.un_5 Ty.un_93) ?_
                      refine sp zwa ?_
                      refine sp (r_indexAddr_arr rfl rfl Ty.arr_100 Ty.sz_93 (by omega) (by omega)) ?_
                      refine gs_nil ?_
                      refine gl_store1 (wt0 rfl) rfl rfl rfl Ty.sz_93 (by repeat (first | exact Pick.here | apply Pick.there)) (by rw [fnc_length]; omega) (pfx_set (k := k) (by omega) (by omega) (congrArg W32 (word_take hk' (by omega)))) ?_
                      refine gl_nil ?_
                      refine gx_block_normal ?_
                      refine gx_then ?_
                      refine gc_region ?_
                      refine gp zmv ?_
                      refine gp zad ?_
                      refine gp zas ?_
                      refine gl_nil ?_
                      refine zrd (k + 1) ?_ ?_
                      · show 16 - (k + 1) < 16 - k
                        omega
                      · exact zlp (show k + 1 ≤ 16 by omega)
                    · try simp only at hc67
                      have hk' : k = 16 := by omega
                      subst hk'
                      refine gc_exit ?_
                      refine gx_then_exit ?_
                      refine gx_round_exit ?_
                      refine gx_block_hit ?_
                      refine gx_then ?_
                      refine gc_seq ?_
                      refine gsr ?_
                      refine gp zas ?_
                      refine gnt ?_
                      refine gc_block ?_
                      refine gc_loop (α := Nat) (fun k => [pureR (16 ≤ k ∧ k ≤ 64), blk b6 100 (fnc W32 64 (pfx (sch (r.take 64)) T k)), blk b7 94 (v8c v), blk b8 100 (fnc W32 64 Kc), blk b2 80 (List.replicate 32 (.int .u8 0)), rowR 5 1 (some ⟨g6, o6, none⟩) r.length c6 (r.map B8)]) (fun k => [(11, .int .i64 (k : Int))]) [12, 13, 105, 106, 107, 108, 109, 110, 111, 112, 113, 114, 115, 116, 117, 118, 119, 120, 121, 122, 123, 124, 125, 126, 127, 128, 129, 130, 131, 132, 133, 134, 135, 136, 137, 138, 139, 140, 141, 142, 143, 144, 145] (fun k => 64 - k) 16 ?_ ?_ ?_
                      · refine env_start (by kernel_rfl)
                      · exact zlp ⟨Nat.le_refl _, by decide⟩
                      · intro k u
                        refine gc_pureR (fun hk => ?_)
                        replace hk : 16 ≤ k ∧ k ≤ 64 := hk
                        refine gc_seq ?_
                        refine gsr ?_
                        refine gp zmv ?_
                        refine gp zlt ?_
                        refine gnt ?_
                        refine gif rfl (fun hc106 => ?_) (fun hc106 => ?_)
                        · try simp only at hc106
                          have hk' : k < 64 := by omega
                          refine gc_skip ?_
                          refine gx_then ?_
                          refine gc_seq ?_
                          refine gc_block ?_
                          refine gc_seq ?_
                          refine gc_regionS (by kernel_rfl) (by kernel_rfl) ?_
                          refine sp zmv ?_
                          refine sp zsb ?_
                          refine sp (r_indexAddr_arr rfl rfl Ty.arr_100 Ty.sz_93 (by omega) (by omega)) ?_
                          refine sp (r_ld1 (v := W32 (sch (r.take 64) (k - 15))) rfl Ty.row_93 (by repeat (first | exact Pick.here | apply Pick.there)) (pfx_get (by omega) (by omega) (by omega))) ?_
                          refine sp zmv ?_
                          refine sp zsb ?_
                          refine sp (r_indexAddr_arr rfl rfl Ty.arr_100 Ty.sz_93 (by omega) (by omega)) ?_
                          refine sp (r_ld1 (v := W32 (sch (r.take 64) (k - 2))) rfl Ty.row_93 (by repeat (first | exact Pick.here | apply Pick.there)) (pfx_get (by omega) (by omega) (by omega))) ?_
                          refine sp zas ?_
                          refine sp zas ?_
                          refine gs_nil ?_
                          refine gx_then ?_
                          refine gc_regionZ 29 ([blk b6 100 (fnc W32 64 (pfx (sch (r.take 64)) T k))]) ?_
                          refine yps 0 rfl zmv ?_
                          refine yps 1 rfl zmv ?_
                          refine yps 2 rfl zsb ?_
                          refine yps 3 rfl (r_indexAddr_arr rfl rfl Ty.arr_100 Ty.sz_93 (by omega) (by omega)) ?_
                          refine yps 4 rfl (r_ld1 (v := W32 (sch (r.take 64) (k - 16))) rfl Ty.row_93 (by repeat (first | exact Pick.here | apply Pick.there)) (pfx_get (by omega) (by omega) (by omega))) ?_
                          refine yps 5 rfl zmv ?_
                          refine yps 7 rfl zmv ?_
                          refine yps 10 rfl zmv ?_
                          refine yps 11 rfl (r_shrw (j := 3) rfl rfl rfl (by decide)) ?_
                          refine yps 14 rfl zmv ?_
                          refine yps 15 rfl zsb ?_
                          refine yps 16 rfl (r_indexAddr_arr rfl rfl Ty.arr_100 Ty.sz_93 (by omega) (by omega)) ?_
                          refine yps 17 rfl (r_ld1 (v := W32 (sch (r.take 64) (k - 7))) rfl Ty.row_93 (by repeat (first | exact Pick.here | apply Pick.there)) (pfx_get (by omega) (by omega) (by omega))) ?_
                          refine yps 19 rfl zmv ?_
                          refine yps 21 rfl zmv ?_
                          refine yps 24 rfl zmv ?_
                          refine yps 25 rfl (r_shrw (j := 10) rfl rfl rfl (by decide)) ?_
                          refine yos 6 rfl ?_
                          refine zc (fun _ => ?_) (c := fun w1 F1 F2 h1 h2 hd hst => right2_ok (j := 7) h1 (by decide) (by decide))
                          refine yxs ?_
                          refine yos 8 rfl ?_
                          refine zc (fun _ => ?_) (c := fun w1 F1 F2 h1 h2 hd hst => right2_ok (j := 18) h1 (by decide) (by decide))
                          refine yxs ?_
                          refine yps 9 rfl zwx ?_
                          refine yps 12 rfl zwx ?_
                          refine yps 13 rfl zwa ?_
                          refine yps 18 rfl zwa ?_
                          refine yos 20 rfl ?_
                          refine zc (fun _ => ?_) (c := fun w1 F1 F2 h1 h2 hd hst => right2_ok (j := 17) h1 (by decide) (by decide))
                          refine yxs ?_
                          refine yos 22 rfl ?_
                          refine zc (fun _ => ?_) (c := fun w1 F1 F2 h1 h2 hd hst => right2_ok (j := 19) h1 (by decide) (by decide))
                          refine yxs ?_
                          refine yps 23 rfl zwx ?_
                          refine yps 26 rfl zwx ?_
                          refine yps 27 rfl zwa ?_
                          refine yps 28 rfl (r_indexAddr_arr rfl rfl Ty.arr_100 Ty.sz_93 (by omega) (by omega)) ?_
                          refine yzs rfl ?_
                          refine gl_store1 (wt0 rfl) rfl rfl rfl Ty.sz_93 (by repeat (first | exact Pick.here | apply Pick.there)) (by rw [fnc_length]; omega) (pfx_set (k := k) (by omega) (by omega) (congrArg W32 (sch_hi hk.1).symm)) ?_
                          refine gl_nil ?_
                          refine gx_block_normal ?_
                          refine gx_then ?_
                          refine gc_region ?_
                          refine gp zmv ?_
                          refine gp zad ?_
                          refine gp zas ?_
                          refine gl_nil ?_
                          refine zrd (k + 1) ?_ ?_
                          · show 64 - (k + 1) < 64 - k
                            omega
                          · exact zlp (show 16 ≤ k + 1 ∧ k + 1 ≤ 64 by omega)
                        · try simp only at hc106
                          have hk' : k = 64 := by omega
                          subst hk'
                          refine gc_exit ?_
                          refine gx_then_exit ?_
                          refine gx_round_exit ?_
                          refine gx_block_hit ?_
                          refine gx_then ?_
                          refine gsr ?_
                          refine gp (zLa (cs := v8c v)) ?_
                          refine zal fun b14 => ?_
                          refine zsA (v8c_length _) (v8c_one _) ?_
                          refine gnt ?_
                          refine gc_seq ?_
                          refine gsr ?_
                          refine gp zas ?_
                          refine gnt ?_
                          refine gc_block ?_
                          refine gc_loop (α := Nat) (fun k => [pureR (k ≤ 64), blk b14 94 (v8c (rnds Kc (sch (r.take 64)) v k)), blk b6 100 (fnc W32 64 (pfx (sch (r.take 64)) T 64)), blk b7 94 (v8c v), blk b8 100 (fnc W32 64 Kc), blk b2 80 (List.replicate 32 (.int .u8 0)), rowR 5 1 (some ⟨g6, o6, none⟩) r.length c6 (r.map B8)]) (fun k => [(15, .int .i64 (k : Int))]) [16, 17, 18, 19, 147, 148, 149, 150, 151, 152, 153, 154, 155, 156, 157, 158, 159, 160, 161, 162, 163, 164, 165, 166, 167, 168, 169, 170, 171, 172, 173, 174, 175, 176, 177, 178, 179, 180, 181, 182, 183, 184, 185, 186, 187, 188, 189, 190, 191, 192, 193, 194, 195, 196, 197, 198, 199, 200, 201, 202, 203, 204, 205, 206, 207, 208, 209, 210, 211, 212, 213, 214, 215, 216, 217, 218, 219, 220, 221, 222, 223, 224, 225, 226, 227, 228, 229, 230, 231, 232, 233, 234, 235, 236] (fun k => 64 - k) 0 ?_ ?_ ?_
                          · refine env_start (by kernel_rfl)
                          · exact zlp (by first | exact Nat.zero_le _ | omega)
                          · intro k u
                            refine gc_pureR (fun hk => ?_)
                            replace hk : k ≤ 64 := hk
                            refine gc_seq ?_
                            refine gsr ?_
                            refine gp zmv ?_
                            refine gp zlt ?_
                            refine gnt ?_
                            refine gif rfl (fun hc148 => ?_) (fun hc148 => ?_)
                            · try simp only at hc148
                              have hk' : k < 64 := by omega
                              refine gc_skip ?_
                              refine gx_then ?_
                              refine gc_seq ?_
                              refine gc_block ?_
                              refine gsr ?_
                              refine gp zib ?_
                              refine gp zl ?_
                              refine gp zib ?_
                              refine gp zl ?_
                              refine gp zwn ?_
                              refine gp zib ?_
                              refine gp zl ?_
                              refine gp zwc ?_
                              refine gp zib ?_
                              refine gp zl ?_
                              refine gp zwn ?_
                              refine gp zwx ?_
                              refine gp zas ?_
                              refine gnt ?_
                              refine gsr ?_
                              refine gp zib ?_
                              refine gp zl ?_
                              refine gp zib ?_
                              refine gp zl ?_
                              refine gp zwn ?_
                              refine gp zib ?_
                              refine gp zl ?_
                              refine gp zib ?_
                              refine gp zl ?_
                              refine gp zwn ?_
                              refine gp zwx ?_
                              refine gp zib ?_
                              refine gp zl ?_
                              refine gp zib ?_
                              refine gp zl ?_
                              refine gp zwn ?_
                              refine gp zwx ?_
                              refine gp zas ?_
                              refine gnt ?_
                              refine gc_seq ?_
                              refine gc_regionZ 24 ([blk b14 94 (v8c (rnds Kc (sch (r.take 64)) v k)), blk b6 100 (fnc W32 64 (pfx (sch (r.take 64)) T 64)), blk b8 100 (fnc W32 64 Kc)]) ?_
                              refine yps 0 rfl zib ?_
                              refine yps 1 rfl zl ?_
                              refine yps 2 rfl zib ?_
                              refine yps 3 rfl zl ?_
                              refine yps 5 rfl zib ?_
                              refine yps 6 rfl zl ?_
                              refine yps 9 rfl zib ?_
                              refine yps 10 rfl zl ?_
                              refine yps 14 rfl zmv ?_
                              refine yps 16 rfl zmv ?_
                              refine yps 17 rfl (r_indexAddr_arr rfl rfl Ty.arr_100 Ty.sz_93 (by omega) (by omega)) ?_
                              refine yps 18 rfl (r_ld1 (v := W32 (Kc k)) rfl Ty.row_93 (by repeat (first | exact Pick.here | apply Pick.there)) (by rw [show 0 + (k : Int).toNat * 1 = k by omega]; exact fnc_get hk')) ?_
                              refine yps 20 rfl zmv ?_
                              refine yps 21 rfl (r_indexAddr_arr rfl rfl Ty.arr_100 Ty.sz_93 (by omega) (by omega)) ?_
                              refine yps 22 rfl (r_ld1 (v := W32 (sch (r.take 64) (k))) rfl Ty.row_93 (by repeat (first | exact Pick.here | apply Pick.there)) (pfx_get (by omega) (by omega) (by omega))) ?_
                              refine yos 4 rfl ?_
                              refine zc (fun _ => ?_) (c := fun w1 F1 F2 h1 h2 hd hst => right2_ok (j := 6) h1 (by decide) (by decide))
                              refine yxs ?_
                              refine yos 7 rfl ?_
                              refine zc (fun _ => ?_) (c := fun w1 F1 F2 h1 h2 hd hst => right2_ok (j := 11) h1 (by decide) (by decide))
                              refine yxs ?_
                              refine yps 8 rfl zwx ?_
                              refine yos 11 rfl ?_
                              refine zc (fun _ => ?_) (c := fun w1 F1 F2 h1 h2 hd hst => right2_ok (j := 25) h1 (by decide) (by decide))
                              refine yxs ?_
                              refine yps 12 rfl zwx ?_
                              refine yps 13 rfl zwa ?_
                              refine yps 15 rfl zwa ?_
                              refine yps 19 rfl zwa ?_
                              refine yps 23 rfl zwa ?_
                              refine yzs rfl ?_
                              refine gp zas ?_
                              refine gnt ?_
                              refine gc_seq ?_
                              refine gc_regionZ 13 ([blk b14 94 (v8c (rnds Kc (sch (r.take 64)) v k))]) ?_
                              refine yps 0 rfl zib ?_
                              refine yps 1 rfl zl ?_
                              refine yps 3 rfl zib ?_
                              refine yps 4 rfl zl ?_
                              refine yps 7 rfl zib ?_
                              refine yps 8 rfl zl ?_
                              refine yps 11 rfl zmv ?_
                              refine yos 2 rfl ?_
                              refine zc (fun _ => ?_) (c := fun w1 F1 F2 h1 h2 hd hst => right2_ok (j := 2) h1 (by decide) (by decide))
                              refine yxs ?_
                              refine yos 5 rfl ?_
                              refine zc (fun _ => ?_) (c := fun w1 F1 F2 h1 h2 hd hst => right2_ok (j := 13) h1 (by decide) (by decide))
                              refine yxs ?_
                              refine yps 6 rfl zwx ?_
                              refine yos 9 rfl ?_
                              refine zc (fun _ => ?_) (c := fun w1 F1 F2 h1 h2 hd hst => right2_ok (j := 22) h1 (by decide) (by decide))
                              refine yxs ?_
                              refine yps 10 rfl zwx ?_
                              refine yps 12 rfl zwa ?_
                              refine yzs rfl ?_
                              refine gp zas ?_
                              refine gnt ?_
                              refine gc_region ?_
                              refine gp zmv ?_
                              refine gp zmv ?_
                              refine gp zwa ?_
                              refine gp zib ?_
                              refine gp zl ?_
                              refine gp zib ?_
                              refine gp zl ?_
                              refine gp zib ?_
                              refine gp zl ?_
                              refine gp zib ?_
                              refine gp zl ?_
                              refine gp zmv ?_
                              refine gp zwa ?_
                              refine gp zib ?_
                              refine gp zl ?_
                              refine gp zib ?_
                              refine gp zl ?_
                              refine gp zib ?_
                              refine gp zl ?_
                              refine gp (r_buildA (cs := v8c (rnds Kc (sch (r.take 64)) v (k + 1))) Ty.zc_94 Ty.arr_94 Ty.sz_93 rfl) ?_
                              refine zsA (v8c_length _) (v8c_one _) ?_
                              refine gl_nil ?_
                              refine gx_block_normal ?_
                              refine gx_then ?_
                              refine gc_region ?_
                              refine gp zmv ?_
                              refine gp zad ?_
                              refine gp zas ?_
                              refine gl_nil ?_
                              refine zrd (k + 1) ?_ ?_
                              · show 64 - (k + 1) < 64 - k
                                omega
                              · exact zlp (show k + 1 ≤ 64 by omega)
                            · try simp only at hc148
                              have hk' : k = 64 := by omega
                              subst hk'
                              refine gc_exit ?_
                              refine gx_then_exit ?_
                              refine gx_round_exit ?_
                              refine gx_block_hit ?_
                              refine gx_then ?_
                              refine gc_seq ?_
                              refine gsr ?_
                              refine gp zmv ?_
                              refine gnt ?_
                              refine gc_block ?_
                              generalize hV : rnds Kc (sch (r.take 64)) v 64 = V
                              refine gc_loop (α := Nat) (fun k => [pureR (k ≤ 8), blk b7 94 (fnc W32 8 (pfx (v.add V).get v.get k)), blk b14 94 (v8c V), blk b6 100 (fnc W32 64 (pfx (sch (r.take 64)) T 64)), blk b8 100 (fnc W32 64 Kc), blk b2 80 (List.replicate 32 (.int .u8 0)), rowR 5 1 (some ⟨g6, o6, none⟩) r.length c6 (r.map B8)]) (fun k => [(237, .int .i64 (k : Int))]) [20, 238, 239, 240, 241, 242, 243, 244, 245, 246, 247, 248] (fun k => 8 - k) 0 ?_ ?_ ?_
                              · refine env_start (by kernel_rfl)
                              · exact zlq (Nat.zero_le _) (by rw [pfx_zero] <;> rfl)
                              · intro k u
                                refine gc_pureR (fun hk => ?_)
                                replace hk : k ≤ 8 := hk
                                refine gsr ?_
                                refine gp zlt ?_
                                refine gnt ?_
                                refine gc_seq ?_
                                refine gif rfl (fun hc238 => ?_) (fun hc238 => ?_)
                                · try simp only at hc238
                                  have hk' : k < 8 := by omega
                                  refine gc_skip ?_
                                  refine gx_then ?_
                                  refine gc_seq ?_
                                  refine gc_block ?_
                                  refine gsr ?_
                                  refine gp zmv ?_
                                  refine gp zas ?_
                                  refine gnt ?_
                                  refine gc_regionT 8 (by kernel_rfl) (by kernel_rfl) ?_
                                  refine sp zmv ?_
                                  refine sp (r_indexAddr_arr rfl rfl Ty.arr_94 Ty.sz_93 (by omega) (by omega)) ?_
                                  refine sp (r_ld1 (v := W32 (v.get k)) rfl Ty.row_93 (by repeat (first | exact Pick.here | apply Pick.there)) (pfx_get2 (by omega) (by omega) (by omega))) ?_
                                  refine sp zmv ?_
                                  refine sp (r_indexAddr_arr rfl rfl Ty.arr_94 Ty.sz_93 (by omega) (by omega)) ?_
                                  refine sp (r_ld1 (v := W32 (V.get k)) rfl Ty.row_93 (by repeat (first | exact Pick.here | apply Pick.there)) (by rw [show 0 + (k : Int).toNat * 1 = k by omega]; exact fnc_get (V := W32) (f := V.get) hk')) ?_
                                  refine sp zwa ?_
                                  refine sp (r_indexAddr_arr rfl rfl Ty.arr_94 Ty.sz_93 (by omega) (by omega)) ?_
                                  refine gs_nil ?_
                                  refine gl_store1 (wt0 rfl) rfl rfl rfl Ty.sz_93 (by repeat (first | exact Pick.here | apply Pick.there)) (by rw [fnc_length]; omega) (pfx_set (k := k) (by omega) (by omega) (congrArg W32 (V8.add_get _ _ _).symm)) ?_
                                  refine gl_nil ?_
                                  refine gx_block_normal ?_
                                  refine gx_then ?_
                                  refine gc_region ?_
                                  refine gp zad ?_
                                  refine gp zmv ?_
                                  refine gl_nil ?_
                                  refine zrd (k + 1) ?_ ?_
                                  · show 8 - (k + 1) < 8 - k
                                    omega
                                  · exact zlp (show k + 1 ≤ 8 by omega)
                                · try simp only at hc238
                                  have hk' : k = 8 := by omega
                                  subst hk'
                                  have e8 : fnc W32 8 (pfx (v.add V).get v.get 8) = v8c (take64 Kc v (r.take 64)) := by rw [pfx_full, ← hV]; rfl
                                  rw [e8]
                                  refine gc_exit ?_
                                  refine gx_then_exit ?_
                                  refine gx_round_exit ?_
                                  refine gx_block_hit ?_
                                  refine gx_then ?_
                                  refine gc_region ?_
                                  refine gp zmv ?_
                                  refine gp (r_slice_slice (a := some ⟨g6, o6, none⟩) (m := r.length) (c := c6) (l := 64) (h := r.length) rfl Ty.sl_32 Ty.sz_5 ⟨_, rfl⟩ rfl (by omega) (by omega)) ?_
                                  refine gp zas ?_
                                  refine gl_nil ?_
                                  refine gx_block_normal ?_
                                  have hdl : (r.drop 64).length = r.length - 64 := List.length_drop
                                  refine zrd ((take64 Kc v (r.take 64), r.drop 64, (if c6 = 64 then some ⟨g6, o6, none⟩ else (some (⟨g6, o6, none⟩ : Addr)).map (·.add (64 * 1))), r.length - 64, c6 - 64, sch (r.take 64))) ?_ ?_
                                  · show (r.drop 64).length < r.length
                                    omega
                                  · rintro w' hw
                                    obtain ⟨F', hF', hst'⟩ := hw.sel (M := [rowR 5 1 (some ⟨g6, o6, none⟩) r.length c6 (r.map B8), blk b6 100 _, blk b7 94 (v8c (take64 Kc v (r.take 64))), blk b8 100 (fnc W32 64 Kc), blk b2 80 (List.replicate 32 (.int .u8 0))]) (by repeat (first | exact Sel.nil | (apply Sel.cons; · (repeat (first | exact Pick.here | apply Pick.there)))))
                                    refine ⟨F', stars_pure_mk ⟨?_, ?_, ?_, hdl.symm⟩ ?_, hst'⟩
                                    · rw [← hko, takes.eq_1 Kc v r, dif_pos (by omega)]
                                    · show (r.drop 64).length % 64 = 0; omega
                                    · show (r.drop 64).length ≤ _; omega
                                    · have := stars_tail8 (l := 64) (by omega) hF'
                                      rw [pfx_full] at this
                                      exact this
                · try simp only at hc65
                  have hk' : r = [] := List.eq_nil_of_length_eq_zero (by omega)
                  have hV : (takes Kc v0 (refPad b)).1 = v := by rw [← hko, hk', takes_nil]
                  rw [hV]
                  refine gc_exit ?_
                  refine gx_then_exit ?_
                  refine gx_round_exit ?_
                  refine gx_block_hit ?_
                  refine gx_then ?_
                  refine gsr ?_
                  refine gp (r_buildA (cs := List.replicate 32 (.int .u8 0)) Ty.zc_80 Ty.arr_80 Ty.sz_5 (by kernel_rfl)) ?_
                  refine zal fun b21 => ?_
                  refine zsA (new := List.replicate 32 (.int .u8 0)) List.length_replicate (rep_one rfl) ?_
                  refine gnt ?_
                  refine gc_seq ?_
                  refine gsr ?_
                  refine gp zmv ?_
                  refine gnt ?_
                  refine gc_block ?_
                  refine gc_loop (α := Nat) (fun k => [pureR (k ≤ 32), blk b21 80 (fnc B8 32 (pfx (outByte v) (fun _ => 0) k)), blk b7 94 (v8c v), blk b2 80 (List.replicate 32 (.int .u8 0))]) (fun k => [(252, .int .i64 (k : Int))]) [22, 253, 254, 255, 256, 257, 258, 259, 260, 261, 262, 263, 264, 265, 266, 267, 268] (fun k => 32 - k) 0 ?_ ?_ ?_
                  · refine env_start (by kernel_rfl)
                  · exact zlq (Nat.zero_le _) (by rw [pfx_zero, fnc_const] <;> rfl)
                  · intro k u
                    refine gc_pureR (fun hk => ?_)
                    replace hk : k ≤ 32 := hk
                    refine gsr ?_
                    refine gp zlt ?_
                    refine gnt ?_
                    refine gc_seq ?_
                    refine gif rfl (fun hc253 => ?_) (fun hc253 => ?_)
                    · try simp only at hc253
                      have hk' : k < 32 := by omega
                      refine gc_skip ?_
                      refine gx_then ?_
                      refine gc_seq ?_
                      refine gc_block ?_
                      refine gsr ?_
                      refine gp zmv ?_
                      refine gp zas ?_
                      refine gnt ?_
                      refine gc_region ?_
                      refine gp zmv ?_
                      refine gp zmv ?_
                      refine gp (r_int zqu ((congrArg IntKind.i64.wrap (quo_nat (m := k) (k := 4))).trans (wrap_i64 (by omega) (by omega)))) ?_
                      refine gp (r_indexAddr_arr rfl rfl Ty.arr_94 Ty.sz_93 (by omega) (by omega)) ?_
                      refine gp (r_ld1 (v := W32 (v.get (k / 4))) rfl Ty.row_93 (by repeat (first | exact Pick.here | apply Pick.there)) (by rw [show 0 + ((k / 4 : Nat) : Int).toNat * 1 = k / 4 by omega]; exact fnc_get (V := W32) (m := 8) (f := v.get) (by omega))) ?_
                      refine gp zmv ?_
                      refine gp (r_int zrm (rem_nat (m := k) (k := 4))) ?_
                      refine gp zml ?_
                      refine gp zsb ?_
                      refine gp (r_int zci (wrap_u64 (by omega) (by omega))) ?_
                      refine gp (r_shrw (j := 24 - 8 * (k % 4)) rfl rfl (by omega) (by omega)) ?_
                      refine gp (r_convw8 rfl Ty.un_93 Ty.un_5) ?_
                      refine gp (r_indexAddr_arr rfl rfl Ty.arr_80 Ty.sz_5 (by omega) (by omega)) ?_
                      refine gl_store1 (wt0 rfl) rfl rfl rfl Ty.sz_5 (by repeat (first | exact Pick.here | apply Pick.there)) (by rw [fnc_length]; omega) (pfx_set (k := k) (by omega) (by omega) rfl) ?_
                      refine gl_nil ?_
                      refine gx_block_normal ?_
                      refine gx_then ?_
                      refine gc_region ?_
                      refine gp zad ?_
                      refine gp zmv ?_
                      refine gl_nil ?_
                      refine zrd (k + 1) ?_ ?_
                      · show 32 - (k + 1) < 32 - k
                        omega
                      · exact zlp (show k + 1 ≤ 32 by omega)
                    · try simp only at hc253
                      have hk' : k = 32 := by omega
                      subst hk'
                      refine gc_exit ?_
                      refine gx_then_exit ?_
                      refine gx_round_exit ?_
                      refine gx_block_hit ?_
                      refine gx_then ?_
                      refine gsr ?_
                      refine gp (zLa (cs := fnc B8 32 _)) ?_
                      refine zsA fnc_length (fnc_one fun _ => rfl) ?_
                      refine gnt ?_
                      refine gc_ret ?_
                      refine gx_retc rfl rfl (ld_aggS Ty.row_80 Ty.sz_80 (by repeat (first | exact Pick.here | apply Pick.there)) (seg_all fnc_length) fnc_length) ?_
                      rw [pfx_full]
                      exact ze ()

end Go.Proofs.YtffkjjakceojfaaDoor

/- Walks, by program (wg.py) out of a spec. -/
namespace Go.Proofs.YtffkjjakceojfaaDoor
open Go
set_option linter.unusedVariables false
set_option linter.unusedSimpArgs false


def RdStr (cs : List Value) (b : List UInt8) : Prop := cs = [.string (str b)]
/-- Values that read as a list's elements, one by one. -/
inductive All2 {α : Type} (rd : List Value → α → Prop) : List Value → List α → Prop
  | nil : All2 rd [] []
  | cons {v : Value} {x : α} {vs : List Value} {l : List α} : rd [v] x → All2 rd vs l → All2 rd (v :: vs) (x :: l)
theorem All2.len {α : Type} {rd : List Value → α → Prop} {vs : List Value} {l : List α} (h : All2 rd vs l) : vs.length = l.length := by
  induction h with
  | nil => rfl
  | cons _ _ ih => simp [ih]
theorem All2.at {α : Type} {rd : List Value → α → Prop} {vs : List Value} {l : List α} (h : All2 rd vs l) : ∀ (i : Nat) (v : Value) (x : α), vs[i]? = some v → l[i]? = some x → rd [v] x := by
  induction h with
  | nil => intro i v x h1 _; simp at h1
  | cons h1 _ ih =>
    intro i v x hv hx
    cases i with
    | zero => simp at hv hx; subst hv; subst hx; exact h1
    | succ i => exact ih i v x (by simpa using hv) (by simpa using hx)
theorem RdList.of1 {α : Type} {rd : List Value → α → Prop} {w : World} {A : Nat → Prop} {a : Option Addr} {n : Nat} {vs : List Value} {l : List α} (hr : RdRow w A 1 a n vs) (h : All2 rd vs l) : RdList rd w A 1 a n l := by
  refine ⟨vs.map fun v => [v], ?_, by simp, by simp [h.len], fun i c x h1 h2 => ?_⟩
  · have e : (vs.map fun v => [v]).flatten = vs := by
      clear hr h
      induction vs with
      | nil => rfl
      | cons v r ih => simp [ih]
    rw [e]; exact hr
  · rw [List.getElem?_map] at h1
    cases hv : vs[i]? with
    | none => rw [hv] at h1; cases h1
    | some v => rw [hv] at h1; simp at h1; subst h1; exact h.at i v x hv h2
theorem framed_succ (dom : Int) (parts : List (List UInt8)) {k : Nat} {p : List UInt8} (h : parts[k]? = some p) : framed dom (parts.take (k + 1)) = framed dom (parts.take k) ++ (part4 p.length ++ p) := by
  rw [List.take_add_one, h]; simp [framed]
theorem framed_length (dom : Int) (parts : List (List UInt8)) : (framed dom parts).length = 1 + pcost parts := by
  simp only [framed, List.length_cons]
  have : (parts.flatMap fun p => part4 p.length ++ p).length = pcost parts := by
    induction parts with
    | nil => rfl
    | cons p l ih =>
      rw [List.flatMap_cons, List.length_append, ih]
      simp only [List.length_append, pcost, List.map_cons, List.sum_cons, part4, List.length_cons, List.length_nil]; omega
  omega
theorem of_cut (dom : Int) (parts : List (List UInt8)) : fnc B8 16 (outByte (takes Kc v0 (refPad (framed dom parts))).1) = dc (dOf Kc dom parts) := by
  have e : (dOf Kc dom parts).l = (refSum Kc (framed dom parts)).take 16 := hOf_ref Kc dom parts
  rw [dc, e, refSum]
  simp [fnc, ← List.map_take, List.take_range]
theorem RdBytes.row {L L' : List Res} {w : World} {F1 F2 : Nat → Prop} {e n c : Nat} {a : Option Addr} {b : List UInt8} (h2 : stars L w F2) (hd : ∀ k, F1 k → ¬ F2 k) (hp : Pick L (rowR e 1 a n c (b.map B8)) L') : RdBytes w (fun k => ¬ F1 k) [.slice a n c] b :=
  ⟨_, _, _, rfl, rd_le h2 hp, rd_row h2 hd hp⟩
theorem RdBytes.dig {L L' : List Res} {w : World} {F1 F2 : Nat → Prop} {g T : Nat} {d : Dig} (h2 : stars L w F2) (hd : ∀ k, F1 k → ¬ F2 k) (hp : Pick L (blk g T (dc d)) L') : RdBytes w (fun k => ¬ F1 k) [.slice (some ⟨g, 0 + 0 * 1, none⟩) (16 - 0) (16 - 0)] d.l :=
  ⟨_, _, _, rfl, Nat.le_refl _, rd_blk h2 hd hp (by simp only [dc, List.drop_zero]; exact List.take_of_length_le (by simp [d.h])) (by simp [d.h]) (by decide)⟩

attribute [local irreducible] Gl Gc Gx Gs Runs Wt

set_option maxHeartbeats 400000 in
theorem framed_ok {w : World} {F : Nat → Prop} {dom : Int} {parts : List (List UInt8)} {a : Option Addr} {n c : Nat} (h : stars [] w F) (hx : RdList RdStr w (fun k => ¬ F k) 1 a n parts) (hb : 1 + pcost parts ≤ 1099511627776) :
    Calls Tryd.prog 42 #[.int .i64 dom, .slice a n c] w (Post w F (fun _ : Unit => .string (str (framed dom parts))) (fun _ => [])) := by
  have hnl := hx.len (by decide)
  have hm1 := hx.max
  simp only [maxLen] at hm1
  refine g_enter (env := [(0, .int .i64 dom), (1, .slice a n c)]) Tryd.func42 rfl h Tryd.ntmps42 rfl rfl ?_
  refine gsr ?_
  refine gp zas ?_
  refine gnt ?_
  refine gsr ?_
  refine gp zmv ?_
  refine gp (r_val zci byte_int) ?_
  refine ze1 fun b11 => ?_
  refine gp (zso (b := [UInt8.ofNat (dom % 256).toNat])) ?_
  refine gp zas ?_
  refine gnt ?_
  refine gc_seq ?_
  refine gsr ?_
  refine gp zmv ?_
  refine gp zln ?_
  refine gp zmv ?_
  refine gnt ?_
  refine gc_block ?_
  refine gc_loop (α := Nat) (fun k => [pureR (k ≤ n)]) (fun k => [(15, .int .i64 (k : Int)), (5, .string (str (framed dom (parts.take k))))]) [7, 8, 16, 17, 18, 19, 20, 21, 22, 23, 24, 25, 26, 27, 28, 29, 30, 31, 32, 33, 34, 35, 36, 37, 38, 39] (fun k => n - k) 0 ?_ ?_ ?_
  · refine env_start (by kernel_rfl)
  · exact zlp (by first | exact Nat.zero_le _ | omega)
  · intro k u
    refine gc_pureR (fun hk => ?_)
    replace hk : k ≤ n := hk
    refine gsr ?_
    refine gp zlt ?_
    refine gnt ?_
    refine gc_seq ?_
    refine gif rfl (fun hc16 => ?_) (fun hc16 => ?_)
    · try simp only at hc16
      have hk' : k < n := by omega
      obtain ⟨ga, o, cs, y, ha, hA, hg, hra, hcl, hly, hrd⟩ := hx.elem (by decide) hk'
      subst ha
      unfold RdStr at hrd
      subst hrd
      have hpc := pcost_take hly
      have hfl := framed_length dom (parts.take k)
      refine gc_skip ?_
      refine gx_then ?_
      refine gc_seq ?_
      refine gc_block ?_
      refine gsr ?_
      refine gp zia ?_
      refine gp (r_ld1o rfl Ty.row_9 (hra 0 _ rfl) hA) ?_
      refine gp zas ?_
      refine gnt ?_
      refine gsr ?_
      refine gp zmv ?_
      refine gp zlS ?_
      refine gp (r_int zci (wrap_u64 (by omega) (by omega))) ?_
      refine gp zas ?_
      refine gnt ?_
      refine gc_region ?_
      refine gp zmv ?_
      refine gp zmv ?_
      refine gp (r_int zqu ((congrArg IntKind.u64.wrap (quo_nat (m := y.length) (k := 16777216))).trans (wrap_u64 (by omega) (by omega)))) ?_
      refine gp (r_val zci byte_nat) ?_
      refine gp zmv ?_
      refine gp (r_int zqu ((congrArg IntKind.u64.wrap (quo_nat (m := y.length) (k := 65536))).trans (wrap_u64 (by omega) (by omega)))) ?_
      refine gp (r_val zci byte_nat) ?_
      refine gp zmv ?_
      refine gp (r_int zqu ((congrArg IntKind.u64.wrap (quo_nat (m := y.length) (k := 256))).trans (wrap_u64 (by omega) (by omega)))) ?_
      refine gp (r_val zci byte_nat) ?_
      refine gp zmv ?_
      refine gp (r_val zci byte_nat) ?_
      refine gl_bsls (vs := (part4 y.length).map B8) (wt0 rfl) Ty.sl_32 Ty.sz_5 Ty.zc_5 rfl rfl (one_B8 _) rfl rfl rfl ?_
      intro b34
      refine gp (zso (b := part4 y.length)) ?_
      refine gp zmv ?_
      refine gp (zcat (a := part4 y.length) (b := y) (hl := by simp only [part4, List.length_cons, List.length_nil]; omega)) ?_
      refine gp (r_val (zcat (hl := by simp only [part4, List.length_append, List.length_cons, List.length_nil]; omega)) (congrArg (fun l => Value.string (str l)) (framed_succ dom parts hly).symm)) ?_
      refine gp zas ?_
      refine gl_nil ?_
      refine gx_block_normal ?_
      refine gx_then ?_
      refine gc_region ?_
      refine gp zad ?_
      refine gp zmv ?_
      refine gl_nil ?_
      refine zrd (k + 1) ?_ ?_
      · show n - (k + 1) < n - k
        omega
      · exact zlp (show k + 1 ≤ n by omega)
    · try simp only at hc16
      have hk' : k = parts.length := by omega
      subst hk'
      refine gc_exit ?_
      refine gx_then_exit ?_
      refine gx_round_exit ?_
      refine gx_block_hit ?_
      refine gx_then ?_
      refine gsr ?_
      refine gp zmv ?_
      refine gp zas ?_
      refine gnt ?_
      refine gc_ret ?_
      refine gx_ret1 rfl (by conv => lhs; whnf) ?_
      rw [List.take_length]
      exact ze ()

set_option maxHeartbeats 400000 in
theorem of2_ok {w : World} {F : Nat → Prop} {dom : Int} {parts : List (List UInt8)} {a : Option Addr} {n c : Nat} (h : stars [] w F) (hx : RdList RdStr w (fun k => ¬ F k) 1 a n parts) (hb : 1 + pcost parts ≤ 1099511627776) :
    Calls Tryd.prog 34 #[.int .i64 dom, .slice a n c] w (Post w F (fun _ : Unit => .agg (dc (dOf Kc dom parts)).toArray) (fun _ => [])) := by
  refine g_enter (env := [(0, .int .i64 dom), (1, .slice a n c)]) Tryd.func34 rfl h Tryd.ntmps34 rfl rfl ?_
  refine gsr ?_
  refine zal fun b4 => ?_
  refine gnt ?_
  refine gsr ?_
  refine gp zmv ?_
  refine gp zmv ?_
  refine zc (fun _ => ?_) (c := fun w1 F1 F2 h1 h2 hd hst => framed_ok h1 (RdList.mv hx hst.still fun _ _ h => h) hb)
  refine zc (fun _ => ?_) (c := fun w1 F1 F2 h1 h2 hd hst => rsum_ok h1 (by rw [framed_length]; omega))
  generalize hV : (takes Kc v0 (refPad (framed dom parts))).1 = V
  refine zal fun b5 => ?_
  refine zsA fnc_length (fnc_one fun _ => rfl) ?_
  refine gnt ?_
  refine gsr ?_
  refine gp (r_buildA (cs := zD) Ty.zc_69 Ty.arr_69 Ty.sz_5 (by kernel_rfl)) ?_
  refine zal fun b6 => ?_
  refine zsA (new := zD) rfl (dc_one dig0) ?_
  refine gnt ?_
  refine gc_seq ?_
  refine gsr ?_
  refine gp zmv ?_
  refine gnt ?_
  refine gc_block ?_
  refine gc_loop (α := Nat) (fun k => [pureR (k ≤ 16), blk b6 69 (fnc B8 16 (pfx (outByte V) (fun _ => 0) k)), blk b5 80 (fnc B8 32 (outByte V)), blk b4 69 zD]) (fun k => [(13, .int .i64 (k : Int))]) [7, 14, 15, 16, 17, 18, 19, 20, 21] (fun k => 16 - k) 0 ?_ ?_ ?_
  · refine env_start (by kernel_rfl)
  · exact zlq (Nat.zero_le _) (M' := [blk b6 69 zD, blk b5 80 (fnc B8 32 (outByte V)), blk b4 69 zD]) (by rw [pfx_zero, fnc_const] <;> rfl)
  · intro k u
    refine gc_pureR (fun hk => ?_)
    replace hk : k ≤ 16 := hk
    refine gsr ?_
    refine gp zlt ?_
    refine gnt ?_
    refine gc_seq ?_
    refine gif rfl (fun hc14 => ?_) (fun hc14 => ?_)
    · try simp only at hc14
      have hk' : k < 16 := by omega
      refine gc_skip ?_
      refine gx_then ?_
      refine gc_seq ?_
      refine gc_block ?_
      refine gsr ?_
      refine gp zmv ?_
      refine gp zas ?_
      refine gnt ?_
      refine gc_region ?_
      refine gp zmv ?_
      refine gp zmv ?_
      refine gp zib ?_
      refine gp (r_ld1 (v := B8 (outByte V k)) rfl Ty.row_5 (by repeat (first | exact Pick.here | apply Pick.there)) (by rw [show 0 + (k : Int).toNat * 1 = k by omega]; exact fnc_get (V := B8) (f := outByte V) (by omega))) ?_
      refine gp zib ?_
      refine gl_store1 (wt0 rfl) rfl rfl rfl Ty.sz_5 (by repeat (first | exact Pick.here | apply Pick.there)) (by rw [fnc_length]; omega) (pfx_set (k := k) (by omega) (by omega) rfl) ?_
      refine gl_nil ?_
      refine gx_block_normal ?_
      refine gx_then ?_
      refine gc_region ?_
      refine gp zad ?_
      refine gp zmv ?_
      refine gl_nil ?_
      refine zrd (k + 1) ?_ ?_
      · show 16 - (k + 1) < 16 - k
        omega
      · exact zlp (show k + 1 ≤ 16 by omega)
    · try simp only at hc14
      have hk' : k = 16 := by omega
      subst hk'
      have e : fnc B8 16 (pfx (outByte V) (fun _ => 0) 16) = dc (dOf Kc dom parts) := by rw [pfx_full, ← hV]; exact of_cut dom parts
      rw [e]
      refine gc_exit ?_
      refine gx_then_exit ?_
      refine gx_round_exit ?_
      refine gx_block_hit ?_
      refine gx_then ?_
      refine gsr ?_
      refine gp (zLa (cs := dc (dOf Kc dom parts))) ?_
      refine zsA (dc_length _) (dc_one _) ?_
      refine gnt ?_
      refine gc_ret ?_
      refine gx_retc rfl rfl (ld_aggS Ty.row_69 Ty.sz_69 (by repeat (first | exact Pick.here | apply Pick.there)) (by (simp only [List.drop_succ_cons, List.drop_zero, List.take_succ_cons, List.take_zero, List.cons_append, List.nil_append, List.append_assoc, drop_dc, drop_dc', take_dc, take_dc', drop_L, drop_L', take_L, take_L', len_L, Nat.reduceLeDiff, Nat.reduceSub, Nat.reduceAdd, Nat.le_refl, List.length_cons, List.length_append, List.length_nil, dc_length, List.drop_nil, List.take_nil, List.append_nil, List.length_map, List.length_replicate]; first | done | rfl)) (by first | rfl | (simp only [List.drop_succ_cons, List.drop_zero, List.take_succ_cons, List.take_zero, List.cons_append, List.nil_append, List.append_assoc, drop_dc, drop_dc', take_dc, take_dc', drop_L, drop_L', take_L, take_L', len_L, Nat.reduceLeDiff, Nat.reduceSub, Nat.reduceAdd, Nat.le_refl, List.length_cons, List.length_append, List.length_nil, dc_length, List.drop_nil, List.take_nil, List.append_nil, List.length_map, List.length_replicate]; first | done | omega))) ?_
      exact ze ()

end Go.Proofs.YtffkjjakceojfaaDoor

/- Plain words on slots, part 5: how the document builds a slot's bytes, and reads two sectors. -/
namespace Go.Proofs.YtffkjjakceojfaaDoor
open Go
set_option linter.unusedVariables false
set_option linter.unusedSimpArgs false
/-- The last k bytes of a count are written. -/
def A7 (c k : Nat) : List UInt8 := List.replicate (8 - k) 0 ++ ((beN (c : Int) 8).drop (8 - k) ++ List.replicate 56 0)
theorem A7_len (c k : Nat) (h : k ≤ 8) : (A7 c k).length = 64 := by simp [A7, beN_length]; omega
theorem A7_step {c k : Nat} (h : k < 8) : (A7 c k).set (7 - k) (byteAt (c : Int) k) = A7 c (k + 1) := by
  have hb := beN_length (c : Int) 8
  have e1 : List.replicate (8 - k) (0 : UInt8) = List.replicate (8 - (k + 1)) 0 ++ [0] := by
    rw [show 8 - k = (8 - (k + 1)) + 1 by omega, List.replicate_succ']
  have e2 : (beN (c : Int) 8).drop (8 - (k + 1)) = byteAt (c : Int) k :: (beN (c : Int) 8).drop (8 - k) := by
    rw [List.drop_eq_getElem_cons (by omega), show 8 - (k + 1) + 1 = 8 - k by omega]
    congr 1
    simp only [beN, List.getElem_map, List.getElem_range]
    congr 1; omega
  rw [A7, A7, e1, e2, List.append_assoc, List.set_append_right _ _ (by simp), List.length_replicate, show 7 - k - (8 - (k + 1)) = 0 by omega]
  simp
theorem A7_done (c : Nat) : A7 c 8 = beN (c : Int) 8 ++ List.replicate 56 0 := by simp [A7]
/-- The length, and k bytes of a record are written. -/
def A9 (c : Nat) (r : List UInt8) (k : Nat) : List UInt8 := beN (c : Int) 8 ++ UInt8.ofNat r.length :: (r.take k ++ List.replicate (55 - k) 0)
theorem A9_len (c : Nat) (r : List UInt8) (k : Nat) (h : k ≤ r.length) (h2 : r.length ≤ 31) : (A9 c r k).length = 64 := by simp [A9, beN_length]; omega
theorem A9_begin (c : Nat) (r : List UInt8) : (A7 c 8).set 8 (UInt8.ofNat r.length) = A9 c r 0 := by
  have hb := beN_length (c : Int) 8
  rw [A7_done, A9, List.set_append_right _ _ (by omega), hb]; rfl
theorem A9_step {c k : Nat} {r : List UInt8} (h : k < r.length) (h2 : r.length ≤ 31) : (A9 c r k).set (9 + k) (r.getD k 0) = A9 c r (k + 1) := by
  have hb := beN_length (c : Int) 8
  have ht : (r.take k).length = k := by rw [List.length_take]; omega
  have e : r.take (k + 1) = r.take k ++ [r.getD k 0] := by rw [List.take_add_one]; simp [List.getD, List.getElem?_eq_getElem h]
  rw [A9, A9, List.set_append_right _ _ (by omega), hb, show 9 + k - 8 = k + 1 by omega, List.set_cons_succ, List.set_append_right _ _ (by omega), ht, Nat.sub_self, show 55 - k = (55 - (k + 1)) + 1 by omega, List.replicate_succ, List.set_cons_zero, e]
  simp
theorem A9_done {c : Nat} {r : List UInt8} (h : r.length ≤ 31) : A9 c r r.length = body7 (c : Int) r ++ List.replicate 24 0 := by
  rw [A9, List.take_length, body7]
  simp only [List.append_assoc, List.cons_append]
  rw [show 55 - r.length = (31 - r.length) + 24 by omega, ← List.replicate_append_replicate]
theorem A9_get {c k : Nat} {r : List UInt8} (h : r.length ≤ 31) (hk : k < 40) : (A9 c r r.length).getD k 0 = (body7 (c : Int) r).getD k 0 := by
  have hb := body7_len (c := (c : Int)) h
  rw [A9_done h]; simp only [List.getD]; rw [List.getElem?_append_left (by omega)]
theorem body7_take {c k : Nat} {r : List UInt8} (h : r.length ≤ 31) (hk : k < 40) : (body7 (c : Int) r).take (k + 1) = (body7 (c : Int) r).take k ++ [(body7 (c : Int) r).getD k 0] := by
  have hb := body7_len (c := (c : Int)) h
  rw [List.take_add_one]; simp [List.getD, List.getElem?_eq_getElem (show k < (body7 (c : Int) r).length by omega)]
/-- k bytes of the sum are written. -/
def A40 (c : Nat) (r : List UInt8) (k : Nat) : List UInt8 := body7 (c : Int) r ++ ((sum7 (c : Int) r).take k ++ List.replicate (24 - k) 0)
theorem A40_len (c : Nat) (r : List UInt8) (k : Nat) (hk : k ≤ 16) (h : r.length ≤ 31) : (A40 c r k).length = 64 := by
  rw [A40, List.length_append, body7_len h, List.length_append, List.length_take, sum7_len]; simp; omega
theorem A40_begin {c : Nat} {r : List UInt8} (h : r.length ≤ 31) : A9 c r r.length = A40 c r 0 := by rw [A9_done h, A40]; rfl
theorem A40_step {c k : Nat} {r : List UInt8} (hk : k < 16) (h : r.length ≤ 31) : (A40 c r k).set (40 + k) ((sum7 (c : Int) r).getD k 0) = A40 c r (k + 1) := by
  have hb := body7_len (c := (c : Int)) h
  have hs := sum7_len (c : Int) r
  have ht : ((sum7 (c : Int) r).take k).length = k := by rw [List.length_take]; omega
  have e : (sum7 (c : Int) r).take (k + 1) = (sum7 (c : Int) r).take k ++ [(sum7 (c : Int) r).getD k 0] := by rw [List.take_add_one]; simp [List.getD, List.getElem?_eq_getElem (show k < (sum7 (c : Int) r).length by omega)]
  rw [A40, A40, List.set_append_right _ _ (by omega), hb, show 40 + k - 40 = k by omega, List.set_append_right _ _ (by omega), ht, Nat.sub_self, show 24 - k = (24 - (k + 1)) + 1 by omega, List.replicate_succ, List.set_cons_zero, e]
  simp
theorem A40_done {c : Nat} {r : List UInt8} (h : r.length ≤ 31) : A40 c r 16 = (slotS (c : Int) r).l := by
  show _ = slotL (mx0 (c : Int)) (r.take 31)
  rw [mx0, if_neg (by omega), List.take_of_length_le h, A40, slotL, List.take_of_length_le (by rw [sum7_len]; decide)]
def dv (c : Nat) : Nat → Nat
  | 0 => c
  | k + 1 => dv c k / 256
theorem dv_eq (c : Nat) : ∀ k, dv c k = c / 256 ^ k
  | 0 => by simp [dv]
  | k + 1 => by rw [dv, dv_eq c k, Nat.div_div_eq_div_mul, ← Nat.pow_succ]
theorem dv_le (c k : Nat) : dv c k ≤ c := by rw [dv_eq]; exact Nat.div_le_self _ _
theorem byte_div {c k : Nat} : Value.int .u8 (IntKind.u8.wrap ((dv c k : Int).tmod 256)) = B8 (byteAt (c : Int) k) := by
  have h1 : ∀ m : Int, IntKind.u8.wrap m = m % 256 := fun m => by simp [IntKind.wrap, IntKind.bits, IntKind.signed]
  have h2 : ((2 : Int) ^ (8 * k)) = ((256 ^ k : Nat) : Int) := by rw [show (256 : Nat) = 2 ^ 8 from rfl, ← Nat.pow_mul]; norm_cast
  simp only [B8, byteAt, Value.int.injEq, true_and]
  rw [h1, h2, UInt8.toNat_ofNat', Int.tmod_eq_emod_of_nonneg (Int.natCast_nonneg _), ← Int.natCast_ediv, ← dv_eq]
  generalize dv c k = m
  omega
theorem div_next {c k : Nat} : (dv c k : Int).tdiv 256 = (dv c (k + 1) : Int) := by
  rw [Int.tdiv_eq_ediv_of_nonneg (Int.natCast_nonneg _), show (256 : Int) = ((256 : Nat) : Int) from rfl, ← Int.natCast_ediv]; rfl
/-! ### What is read -/
theorem valN_app (a b : List UInt8) : valN (a ++ b) = valN a * 256 ^ b.length + valN b := by
  show (a ++ b).foldl _ 0 = _
  rw [List.foldl_append, valN_go]; rfl
theorem valN_take_le (l : List UInt8) (k n : Nat) (h : k ≤ n) : valN (l.take k) ≤ valN (l.take n) := by
  have e : l.take n = l.take k ++ (l.drop k).take (n - k) := by
    rw [show n = k + (n - k) by omega, List.take_add]; simp
  rw [e, valN_app]
  exact Nat.le_trans (Nat.le_mul_of_pos_right _ (Nat.pow_pos (by decide))) (Nat.le_add_right _ _)
theorem cnt_first {s : Sec} : cntS s < 9223372036854775808 ↔ (s.l.getD 0 0).toNat ≤ 127 := by
  have hs := s.h
  have e : s.l.take 8 = s.l.getD 0 0 :: (s.l.drop 1).take 7 := by
    cases h : s.l with
    | nil => rw [h] at hs; cases hs
    | cons x l => rfl
  have hl : ((s.l.drop 1).take 7).length = 7 := by rw [List.length_take, List.length_drop]; omega
  have hv := valN_lt ((s.l.drop 1).take 7)
  rw [hl] at hv
  have hp : (256 : Nat) ^ 7 = 72057594037927936 := by decide
  rw [cntS, e, valN_cons, hl, hp]
  rw [hp] at hv
  constructor
  · intro h
    by_cases hx : (s.l.getD 0 0).toNat ≤ 127
    · exact hx
    · omega
  · intro h; omega
theorem rec_step {s : Sec} {k : Nat} (h : k < lenS s) (hl : lenS s ≤ 31) : ((s.l.drop 9).take k).map B8 ++ [B8 (s.l.getD (9 + k) 0)] = ((s.l.drop 9).take (k + 1)).map B8 := by
  have hs := s.h
  rw [List.take_add_one, List.getElem?_drop, List.map_append, List.getElem?_eq_getElem (by omega)]
  simp [List.getD, List.getElem?_eq_getElem (show 9 + k < s.l.length by omega)]
/-- What the document reads off two sectors. -/
def opn2 (a b : Sec) : Option (Nat × List UInt8) := match rdSlot b 1 with
  | none => rdSlot a 0
  | some y => match rdSlot a 0 with
    | none => some y
    | some x => if x.1 < y.1 then some y else some x
theorem opn2_opn {d : DS} {a b : Sec} (h1 : d.at 1 = a) (h2 : d.at 2 = b) : opn d 1 = (opn2 a b).map fun x => ⟨1, x.1, x.2⟩ := by
  have e0 : (1 + ((0 : Nat) : Int)).toNat = 1 := by decide
  have e1 : (1 + ((1 : Nat) : Int)).toNat = 2 := by decide
  rw [opn, opnAt, opnAt, opnAt, e0, e1, h1, h2, opn2]
  cases ha : rdSlot a 0 with
  | none => cases hb : rdSlot b 1 <;> simp [better]
  | some x =>
    cases hb : rdSlot b 1 with
    | none => simp [better]
    | some y =>
      simp only [better]
      by_cases hc : x.1 < y.1
      · rw [if_pos hc, if_pos hc]; rfl
      · rw [if_neg hc, if_neg hc]; rfl
theorem opn2_len {a b : Sec} {c : Nat} {r : List UInt8} (h : opn2 a b = some (c, r)) : r.length ≤ 31 := by
  have k : ∀ {s : Sec} {p : Nat} {x : Nat × List UInt8}, rdSlot s p = some x → x.2.length ≤ 31 := fun {s p x} h => by
    obtain ⟨_, _, _, _, h5, _, h7⟩ := rdSlot_some (c := x.1) (r := x.2) h
    omega
  unfold opn2 at h
  cases hb : rdSlot b 1 with
  | none => rw [hb] at h; exact k h
  | some y =>
    rw [hb] at h
    cases ha : rdSlot a 0 with
    | none => rw [ha] at h; cases h; exact k hb
    | some x =>
      rw [ha] at h
      simp only at h
      split at h
      · cases h; exact k hb
      · cases h; exact k ha
/-! ### Three sectors, two of them written -/
def d3 (a b : Sec) : DS := ((⟨3, fun _ => sec0, [], false, false, 0⟩ : DS).write 1 a).write 2 b
def d3a (a : Sec) : DS := (⟨3, fun _ => sec0, [], false, false, 0⟩ : DS).write 1 a
theorem d3_ok0 : DOk (⟨3, fun _ => sec0, [], false, false, 0⟩ : DS) := ⟨show 3 ≤ 4096 by decide, by simp [keysW], by simp [keysW], (fun h => by cases h), show (-9223372036854775808 : Int) ≤ 0 ∧ (0 : Int) ≤ 9223372036854775807 by decide⟩
theorem d3a_wr (a : Sec) : (⟨3, fun _ => sec0, [], false, false, 0⟩ : DS).wr 1 a = (0, d3a a) := wr_calm rfl rfl (has_iff.2 ⟨by decide, by decide⟩)
theorem d3_wr (a b : Sec) : (d3a a).wr 2 b = (0, d3 a b) := wr_calm rfl rfl (has_iff.2 ⟨by decide, show (2 : Int) < (3 : Nat) by decide⟩)
theorem d3a_ok (a : Sec) : DOk (d3a a) := by have := wr_ok (i := 1) (v := a) d3_ok0; rwa [d3a_wr] at this
theorem d3_ok (a b : Sec) : DOk (d3 a b) := by have := wr_ok (i := 2) (v := b) (d3a_ok a); rwa [d3_wr] at this
theorem d3_at1 (a b : Sec) : (d3 a b).at 1 = a := by simp [DS.at, d3, DS.write, putW, lookW]
theorem d3_at2 (a b : Sec) : (d3 a b).at 2 = b := by simp [DS.at, d3, DS.write, putW, lookW]
theorem slot_same {n : Int} {c : Nat} {r : List UInt8} (h : mx0 n = (c : Int)) : slotS (c : Int) (r.take 31) = slotS n r := by
  apply Sec.ext'
  show slotL (mx0 (c : Int)) ((r.take 31).take 31) = slotL (mx0 n) (r.take 31)
  have e : mx0 (c : Int) = mx0 n := by rw [h, mx0, if_neg (by omega)]
  rw [e, List.take_take, Nat.min_self]
end Go.Proofs.YtffkjjakceojfaaDoor

/- Walks, by program (wg.py) out of a spec. -/
namespace Go.Proofs.YtffkjjakceojfaaDoor
open Go
set_option linter.unusedVariables false
set_option linter.unusedSimpArgs false

attribute [local irreducible] Gl Gc Gx Gs Runs Wt

set_option maxHeartbeats 400000 in
theorem rslot_ok {w : World} {F : Nat → Prop} {c : Nat} {a : Option Addr} {n cc : Nat} {r : List UInt8} (h : stars [] w F) (hr : RdRow w (fun k => ¬ F k) 1 a n (r.map B8)) (h31 : r.length ≤ 31) (hc : c < 9223372036854775808) :
    Calls Tryd.prog 19 #[.int .i64 (c : Int), .slice a n cc] w (Post w F (fun _ : Unit => scV (slotS (c : Int) r)) (fun _ => [])) := by
  have hn : n = r.length := by have := hr.1; simp at this; omega
  subst hn
  refine g_enter (env := [(0, .int .i64 (c : Int)), (1, .slice a r.length cc)]) Tryd.func19 rfl h Tryd.ntmps19 rfl rfl ?_
  refine gsr ?_
  refine zal fun b4 => ?_
  refine gnt ?_
  refine gsr ?_
  refine gp (zba (cs := sc sec0) (by exact rfl)) ?_
  refine zal fun b5 => ?_
  refine zsA (new := sc sec0) (sc_length _) (sc_one _) ?_
  refine gl_eqc (cs' := (A7 c 0).map B8) (by repeat (first | exact Pick.here | apply Pick.there)) (by simp [A7, sc, sec0, beN]) ?_
  refine gnt ?_
  refine gc_seq ?_
  refine gsr ?_
  refine gp zas ?_
  refine gnt ?_
  refine gc_block ?_
  refine gc_loop (α := Nat) (fun k => [pureR (k ≤ 8), blk b5 37 ((A7 c k).map B8), blk b4 37 (List.replicate 64 (.int .u8 0))]) (fun k => [(6, .int .i64 (7 - (k : Int))), (0, .int .i64 (dv c k : Int))]) [15, 16, 17, 18, 19, 20, 21, 22, 23, 24, 25] (fun k => 8 - k) 0 ?_ ?_ ?_
  · refine env_start (by kernel_rfl)
  · exact zlp (Nat.zero_le _)
  · intro k u
    refine gc_pureR (fun hk => ?_)
    replace hk : k ≤ 8 := hk
    have hq := dv_le c k
    refine gc_seq ?_
    refine gsr ?_
    refine gp zmv ?_
    refine gp zge ?_
    refine gnt ?_
    refine gif rfl (fun hc16 => ?_) (fun hc16 => ?_)
    · try simp only at hc16
      have hk' : k < 8 := by omega
      have hal := A7_len c k hk
      refine gc_skip ?_
      refine gx_then ?_
      refine gc_seq ?_
      refine gc_block ?_
      refine gsr ?_
      refine gp zmv ?_
      refine gp zmv ?_
      refine gp zrm ?_
      refine gp (r_val zci byte_div) ?_
      refine gp zib ?_
      refine gl_stY (l := A7 c k) (7 - k) (by omega) (A7_step hk') ?_
      refine gnt ?_
      refine gc_region ?_
      refine gp zmv ?_
      refine gp (r_int zqu ((congrArg IntKind.i64.wrap div_next).trans (wrap_i64 (by omega) (by have := dv_le c (k + 1); omega)))) ?_
      refine gp zas ?_
      refine gl_nil ?_
      refine gx_block_normal ?_
      refine gx_then ?_
      refine gc_region ?_
      refine gp zmv ?_
      refine gp (r_int zsb (show 7 - (k : Int) - 1 = 7 - ((k + 1 : Nat) : Int) by omega)) ?_
      refine gp zas ?_
      refine gl_nil ?_
      refine zrd (k + 1) ?_ ?_
      · show 8 - (k + 1) < 8 - k
        omega
      · exact zlp (show k + 1 ≤ 8 by omega)
    · try simp only at hc16
      have hk' : k = 8 := by omega
      subst hk'
      have hal := A7_len c 8 (Nat.le_refl _)
      refine gc_exit ?_
      refine gx_then_exit ?_
      refine gx_round_exit ?_
      refine gx_block_hit ?_
      refine gx_then ?_
      refine gsr ?_
      refine gp zmv ?_
      refine gp zln ?_
      refine gp (r_val zci (conv_len (m := r.length) (by omega))) ?_
      refine gp zib ?_
      refine gl_stY (l := A7 c 8) (v := UInt8.ofNat r.length) 8 (by omega) (A9_begin c r) ?_
      refine gnt ?_
      refine gc_seq ?_
      refine gsr ?_
      refine gp zmv ?_
      refine gp zln ?_
      refine gp zmv ?_
      refine gnt ?_
      refine gc_block ?_
      refine gc_loop (α := Nat) (fun k => [pureR (k ≤ r.length), blk b5 37 ((A9 c r k).map B8), blk b4 37 (List.replicate 64 (.int .u8 0))]) (fun k => [(32, .int .i64 (k : Int))]) [7, 8, 33, 34, 35, 36, 37, 38, 39, 40, 41] (fun k => r.length - k) 0 ?_ ?_ ?_
      · refine env_start (by kernel_rfl)
      · exact zlp (Nat.zero_le _)
      · intro k u
        refine gc_pureR (fun hk => ?_)
        replace hk : k ≤ r.length := hk
        have hal := A9_len c r k hk h31
        refine gsr ?_
        refine gp zlt ?_
        refine gnt ?_
        refine gc_seq ?_
        refine gif rfl (fun hc33 => ?_) (fun hc33 => ?_)
        · try simp only at hc33
          have hk' : k < r.length := by omega
          obtain ⟨gr, jr, har, hAr, _, _⟩ := hr.2.2 (by omega)
          subst har
          refine gc_skip ?_
          refine gx_then ?_
          refine gc_seq ?_
          refine gc_block ?_
          refine gsr ?_
          refine gp zmv ?_
          refine gp zia ?_
          refine gp (r_ld1o (v := B8 (r.getD k 0)) rfl Ty.row_5 (hr.cellV hk' 0).1 hAr) ?_
          refine gp zas ?_
          refine gp zas ?_
          refine gnt ?_
          refine gc_region ?_
          refine gp zmv ?_
          refine gp (r_int (j := ((9 + k : Nat) : Int)) zad (by omega)) ?_
          refine gp zmv ?_
          refine gp zib ?_
          refine gl_stY (l := A9 c r k) (v := r.getD k 0) (9 + k) (by omega) (A9_step hk' h31) ?_
          refine gl_nil ?_
          refine gx_block_normal ?_
          refine gx_then ?_
          refine gc_region ?_
          refine gp zad ?_
          refine gp zmv ?_
          refine gl_nil ?_
          refine zrd (k + 1) ?_ ?_
          · show r.length - (k + 1) < r.length - k
            omega
          · exact zlp (show k + 1 ≤ r.length by omega)
        · try simp only at hc33
          have hk' : k = r.length := by omega
          subst hk'
          refine gc_exit ?_
          refine gx_then_exit ?_
          refine gx_round_exit ?_
          refine gx_block_hit ?_
          refine gx_then ?_
          refine gsr ?_
          refine gp zas ?_
          refine gnt ?_
          refine gc_seq ?_
          refine gsr ?_
          refine gp zas ?_
          refine gnt ?_
          refine gc_block ?_
          refine gc_loop (α := Nat) (fun k => [pureR (k ≤ 40), blk b5 37 ((A9 c r r.length).map B8), blk b4 37 (List.replicate 64 (.int .u8 0))]) (fun k => [(10, .int .i64 (k : Int)), (9, .string (str ((body7 (c : Int) r).take k)))]) [42, 43, 44, 45, 46, 47, 48, 49, 50, 51, 52] (fun k => 40 - k) 0 ?_ ?_ ?_
          · refine env_start (by kernel_rfl)
          · exact zlp (Nat.zero_le _)
          · intro k u
            refine gc_pureR (fun hk => ?_)
            replace hk : k ≤ 40 := hk
            refine gc_seq ?_
            refine gsr ?_
            refine gp zmv ?_
            refine gp zlt ?_
            refine gnt ?_
            refine gif rfl (fun hc43 => ?_) (fun hc43 => ?_)
            · try simp only at hc43
              have hk' : k < 40 := by omega
              refine gc_skip ?_
              refine gx_then ?_
              refine gc_seq ?_
              refine gc_block ?_
              refine gc_region ?_
              refine gp zmv ?_
              refine gp zmv ?_
              refine gp zib ?_
              refine gp (r_val (r_ldY (l := A9 c r r.length) k (by omega)) (congrArg B8 (A9_get h31 hk'))) ?_
              refine ze1 fun b50 => ?_
              refine gp (zso (b := [(body7 (c : Int) r).getD k 0])) ?_
              refine gp (r_val (zcat (b := [(body7 (c : Int) r).getD k 0]) (hl := by rw [List.length_take]; simp only [List.length_cons, List.length_nil]; omega)) (congrArg (fun l => Value.string (str l)) (body7_take h31 hk').symm)) ?_
              refine gp zas ?_
              refine gl_nil ?_
              refine gx_block_normal ?_
              refine gx_then ?_
              refine gc_region ?_
              refine gp zmv ?_
              refine gp zad ?_
              refine gp zas ?_
              refine gl_nil ?_
              refine zrd (k + 1) ?_ ?_
              · show 40 - (k + 1) < 40 - k
                omega
              · exact zlp (show k + 1 ≤ 40 by omega)
            · try simp only at hc43
              have hk' : k = 40 := by omega
              subst hk'
              have e40 : (body7 (c : Int) r).take 40 = body7 (c : Int) r := List.take_of_length_le (by rw [body7_len h31]; decide)
              refine gc_exit ?_
              refine gx_then_exit ?_
              refine gx_round_exit ?_
              refine gx_block_hit ?_
              refine gx_then ?_
              refine gsr ?_
              refine gp (r_val zmv (congrArg (fun l => Value.string (str l)) e40)) ?_
              refine gl_bsls (vs := [.string (str (body7 (c : Int) r))]) (wt0 rfl) Ty.sl_82 Ty.sz_9 Ty.zc_9 rfl rfl (all_cons' rfl all_nil') rfl rfl rfl ?_
              intro b54
              refine zc (fun _ => ?_) (c := fun w1 F1 F2 h1 h2 hd hst => of2_ok (dom := 5) (parts := [body7 (c : Int) r]) h1 (.of1 (rd_row (xs := [.string (str (body7 (c : Int) r))]) h2 hd (by repeat (first | exact Pick.here | apply Pick.there))) (.cons rfl .nil)) (by simp only [pcost, List.map_cons, List.map_nil, List.sum_cons, List.sum_nil, body7_len h31]; decide))
              refine zal fun b11 => ?_
              refine zsA (new := dc (dOf Kc 5 [body7 (c : Int) r])) (dc_length _) (dc_one _) ?_
              refine gnt ?_
              refine gc_seq ?_
              refine gsr ?_
              refine gl_eqc (g := b5) (cs' := (A40 c r 0).map B8) (by repeat (first | exact Pick.here | apply Pick.there)) (by rw [A40_begin h31]) ?_
              refine gp (zLa (cs := dc (dOf Kc 5 [body7 (c : Int) r]))) ?_
              refine gp zmv ?_
              refine gnt ?_
              refine gc_block ?_
              refine gc_loop (α := Nat) (fun k => [pureR (k ≤ 16), blk b5 37 ((A40 c r k).map B8), blk b4 37 (List.replicate 64 (.int .u8 0))]) (fun k => [(57, .int .i64 (k : Int))]) [12, 13, 58, 59, 60, 61, 62, 63, 64, 65] (fun k => 16 - k) 0 ?_ ?_ ?_
              · refine env_start (by kernel_rfl)
              · exact zlp (Nat.zero_le _)
              · intro k u
                refine gc_pureR (fun hk => ?_)
                replace hk : k ≤ 16 := hk
                have hal := A40_len c r k hk h31
                refine gsr ?_
                refine gp zlt ?_
                refine gnt ?_
                refine gc_seq ?_
                refine gif rfl (fun hc58 => ?_) (fun hc58 => ?_)
                · try simp only at hc58
                  have hk' : k < 16 := by omega
                  refine gc_skip ?_
                  refine gx_then ?_
                  refine gc_seq ?_
                  refine gc_block ?_
                  refine gsr ?_
                  refine gp zmv ?_
                  refine gp (r_index1 (v := B8 ((sum7 (c : Int) r).getD k 0)) rfl rfl Ty.arr_69 Ty.sz_5 Ty.row_5 (by omega) (by omega) (row_byte (r := sum7 (c : Int) r) (by omega) (by rw [sum7_len]; exact hk'))) ?_
                  refine gp zas ?_
                  refine gp zas ?_
                  refine gnt ?_
                  refine gc_region ?_
                  refine gp zmv ?_
                  refine gp (r_int (j := ((40 + k : Nat) : Int)) zad (by omega)) ?_
                  refine gp zmv ?_
                  refine gp zib ?_
                  refine gl_stY (l := A40 c r k) (v := (sum7 (c : Int) r).getD k 0) (40 + k) (by omega) (A40_step hk' h31) ?_
                  refine gl_nil ?_
                  refine gx_block_normal ?_
                  refine gx_then ?_
                  refine gc_region ?_
                  refine gp zad ?_
                  refine gp zmv ?_
                  refine gl_nil ?_
                  refine zrd (k + 1) ?_ ?_
                  · show 16 - (k + 1) < 16 - k
                    omega
                  · exact zlp (show k + 1 ≤ 16 by omega)
                · try simp only at hc58
                  have hk' : k = 16 := by omega
                  subst hk'
                  refine gc_eqc (g := b5) (cs' := sc (slotS (c : Int) r)) (by repeat (first | exact Pick.here | apply Pick.there)) (by rw [A40_done h31]; rfl) ?_
                  refine gc_exit ?_
                  refine gx_then_exit ?_
                  refine gx_round_exit ?_
                  refine gx_block_hit ?_
                  refine gx_then ?_
                  refine gsr ?_
                  refine gp (zL (sg := sc (slotS (c : Int) r))) ?_
                  refine zsA (new := sc (slotS (c : Int) r)) (sc_length _) (sc_one _) ?_
                  refine gnt ?_
                  refine gc_ret ?_
                  refine gx_retc rfl rfl (ld_aggS Ty.row_37 Ty.sz_37 (by repeat (first | exact Pick.here | apply Pick.there)) (by (simp only [List.drop_succ_cons, List.drop_zero, List.take_succ_cons, List.take_zero, List.cons_append, List.nil_append, List.append_assoc, drop_dc, drop_dc', take_dc, take_dc', drop_L, drop_L', take_L, take_L', len_L, Nat.reduceLeDiff, Nat.reduceSub, Nat.reduceAdd, Nat.le_refl, List.length_cons, List.length_append, List.length_nil, dc_length, List.drop_nil, List.take_nil, List.append_nil, List.length_map, List.length_replicate]; first | done | rfl)) (by first | rfl | (simp only [List.drop_succ_cons, List.drop_zero, List.take_succ_cons, List.take_zero, List.cons_append, List.nil_append, List.append_assoc, drop_dc, drop_dc', take_dc, take_dc', drop_L, drop_L', take_L, take_L', len_L, Nat.reduceLeDiff, Nat.reduceSub, Nat.reduceAdd, Nat.le_refl, List.length_cons, List.length_append, List.length_nil, dc_length, List.drop_nil, List.take_nil, List.append_nil, List.length_map, List.length_replicate]; first | done | omega))) ?_
                  exact ze ()

end Go.Proofs.YtffkjjakceojfaaDoor

/- Walks, by program (wg.py) out of a spec. -/
namespace Go.Proofs.YtffkjjakceojfaaDoor
open Go
set_option linter.unusedVariables false
set_option linter.unusedSimpArgs false

attribute [local irreducible] Gl Gc Gx Gs Runs Wt

set_option maxHeartbeats 400000 in
theorem rread7_ok {w : World} {F : Nat → Prop} {s : Sec} {p : Nat} (h : stars [] w F) :
    Calls Tryd.prog 18 #[scV s, .int .i64 (p : Int)] w (Post w F (fun x : Option Addr × Nat => match rdSlot s p with | some (c, r) => .tuple #[.int .i64 (c : Int), .slice x.1 r.length x.2, .bool true] | none => .tuple #[.int .i64 0, .slice none 0 0, .bool false]) (fun x => match rdSlot s p with | some (_, r) => [rowR 5 1 x.1 r.length x.2 (r.map B8)] | none => [])) := by
  have hsl := s.h
  have hn0 := (s.l.getD 0 0).toNat_lt
  have hn8 := (s.l.getD 8 0).toNat_lt
  have hl255 : lenS s < 256 := hn8
  refine g_enter (env := [(0, scV s), (1, .int .i64 (p : Int))]) Tryd.func18 rfl h Tryd.ntmps18 rfl rfl ?_
  refine gsr ?_
  refine zbN fun b2 => ?_
  refine gp zas ?_
  refine gp zas ?_
  refine gp zas ?_
  refine gnt ?_
  refine gc_seq ?_
  refine gc_seq ?_
  by_cases h63 : cntS s < 9223372036854775808
  · have h127 := cnt_first.1 h63
    by_cases hl31 : lenS s ≤ 31
    · refine gc_region ?_
      refine gp zib ?_
      refine gp (r_ldY (l := s.l) 0 (by omega)) ?_
      refine gp (r_bool (c := false) zgt (decide_eq_false (by omega))) ?_
      refine gp zmv ?_
      refine gq zib ?_
      refine gq (r_ldY (l := s.l) 8 (by omega)) ?_
      refine gq (r_bool (c := false) zgt (decide_eq_false (by unfold lenS at hl31; omega))) ?_
      refine gp zpk ?_
      refine gnt ?_
      refine gc_condF rfl rfl ?_
      refine gc_skip ?_
      refine gx_then ?_
      refine gsr ?_
      refine gp zas ?_
      refine gnt ?_
      refine gc_seq ?_
      refine gsr ?_
      refine gp zas ?_
      refine gnt ?_
      refine gc_block ?_
      refine gc_loop (α := Nat) (fun k => [pureR (k ≤ 8), blk b2 37 (sc s)]) (fun k => [(8, .int .i64 (k : Int)), (7, .int .i64 ((valN (s.l.take k) : Nat) : Int))]) [19, 20, 21, 22, 23, 24, 25, 26, 27, 28, 29] (fun k => 8 - k) 0 ?_ ?_ ?_
      · refine env_start (by kernel_rfl)
      · exact zlp (Nat.zero_le _)
      · intro k u
        refine gc_pureR (fun hk => ?_)
        replace hk : k ≤ 8 := hk
        refine gc_seq ?_
        refine gsr ?_
        refine gp zmv ?_
        refine gp zlt ?_
        refine gnt ?_
        refine gif rfl (fun hc20 => ?_) (fun hc20 => ?_)
        · try simp only at hc20
          have hk' : k < 8 := by omega
          have hb := (s.l.getD k 0).toNat_lt
          have hv : valN (s.l.take (k + 1)) < 9223372036854775808 := Nat.lt_of_le_of_lt (valN_take_le s.l (k + 1) 8 (by omega)) h63
          have hvs : valN (s.l.take (k + 1)) = valN (s.l.take k) * 256 + (s.l.getD k 0).toNat := by rw [take_snoc' (by omega), valN_snoc]
          refine gc_skip ?_
          refine gx_then ?_
          refine gc_seq ?_
          refine gc_block ?_
          refine gc_region ?_
          refine gp zmv ?_
          refine gp (r_int (j := ((valN (s.l.take k) * 256 : Nat) : Int)) zml (by omega)) ?_
          refine gp zmv ?_
          refine gp zib ?_
          refine gp (r_ldY (l := s.l) k (by omega)) ?_
          refine gp (r_int (j := ((s.l.getD k 0).toNat : Int)) zci (wrap_i64 (by omega) (by omega))) ?_
          refine gp (r_int (j := ((valN (s.l.take (k + 1)) : Nat) : Int)) zad (by omega)) ?_
          refine gp zas ?_
          refine gl_nil ?_
          refine gx_block_normal ?_
          refine gx_then ?_
          refine gc_region ?_
          refine gp zmv ?_
          refine gp zad ?_
          refine gp zas ?_
          refine gl_nil ?_
          refine zrd (k + 1) ?_ ?_
          · show 8 - (k + 1) < 8 - k
            omega
          · exact zlp (show k + 1 ≤ 8 by omega)
        · try simp only at hc20
          have hk' : k = 8 := by omega
          subst hk'
          refine gc_exit ?_
          refine gx_then_exit ?_
          refine gx_round_exit ?_
          refine gx_block_hit ?_
          refine gx_then ?_
          refine gsr ?_
          refine ze0 fun b30 => ?_
          refine gp zas ?_
          refine gnt ?_
          refine gc_seq ?_
          refine gsr ?_
          refine gp zas ?_
          refine gnt ?_
          refine gc_block ?_
          refine gc_loop (α := Nat × Option Addr × Nat) (fun q => [pureR (q.1 ≤ lenS s), rowR 5 1 q.2.1 q.1 q.2.2 (((s.l.drop 9).take q.1).map B8), blk b2 37 (sc s)]) (fun q => [(10, .int .i64 (q.1 : Int)), (9, .slice q.2.1 q.1 q.2.2)]) [31, 32, 33, 34, 35, 36, 37, 38, 39, 40, 41, 42, 43, 44] (fun q => lenS s - q.1) (0, some ⟨b30, 0, none⟩, 0) ?_ ?_ ?_
          · refine env_start (by kernel_rfl)
          · exact zlp (Nat.zero_le _)
          · intro q u
            obtain ⟨k, a9, c9⟩ := q
            refine gc_pureR (fun hk => ?_)
            replace hk : k ≤ lenS s := hk
            refine gc_seq ?_
            refine gsr ?_
            refine gp zmv ?_
            refine gp zib ?_
            refine gp (r_ldY (l := s.l) 8 (by omega)) ?_
            refine gp (r_int (j := ((lenS s : Nat) : Int)) zci (wrap_i64 (by omega) (by omega))) ?_
            refine gp zlt ?_
            refine gnt ?_
            refine gif rfl (fun hc35 => ?_) (fun hc35 => ?_)
            · try simp only at hc35
              have hk' : k < lenS s := by omega
              refine gc_skip ?_
              refine gx_then ?_
              refine gc_seq ?_
              refine gc_block ?_
              refine gc_region ?_
              refine gp zmv ?_
              refine gp zmv ?_
              refine gp (r_int (j := ((9 + k : Nat) : Int)) zad (by omega)) ?_
              refine gp zib ?_
              refine gp (r_ldY (l := s.l) (9 + k) (by omega)) ?_
              refine ze1 fun b43 => ?_
              refine zapo (news := [B8 (s.l.getD (9 + k) 0)]) (fun a44 c44 => ?_)
              refine gp zas ?_
              refine gl_nil ?_
              refine gx_block_normal ?_
              refine gx_then ?_
              refine gc_region ?_
              refine gp zmv ?_
              refine gp zad ?_
              refine gp zas ?_
              refine gl_nil ?_
              refine zrd ((k + 1, a44, c44)) ?_ ?_
              · show lenS s - (k + 1) < lenS s - k
                omega
              · exact zlq (show k + 1 ≤ lenS s by omega) (by rw [← rec_step hk' hl31])
            · try simp only at hc35
              have hk' : k = lenS s := by omega
              subst hk'
              have hrl := recS_len (s := s) hl31
              refine gc_exit ?_
              refine gx_then_exit ?_
              refine gx_round_exit ?_
              refine gx_block_hit ?_
              refine gx_then ?_
              refine gc_seq ?_
              refine gc_seq ?_
              by_cases hpar : cntS s % 2 = p
              · by_cases hsl7 : slotS (cntS s) (recS s) = s
                · have hyes : rdSlot s p = some (cntS s, recS s) := by rw [rdSlot, if_pos ⟨h63, hpar, hl31, hsl7⟩]
                  refine gc_regionH ([blk b2 37 (sc s), rowR 5 1 a9 (lenS s) c9 (((s.l.drop 9).take (lenS s)).map B8)]) ?_
                  refine yp 0 rfl (r_int (j := ((cntS s : Nat) : Int)) (zmv rfl) rfl) ?_
                  refine yp 1 rfl (r_int (j := ((cntS s % 2 : Nat) : Int)) zrm rfl) ?_
                  refine yp 2 rfl zmv ?_
                  refine yp 3 rfl (r_bool (c := false) zni (by rw [hpar]; simp)) ?_
                  refine yp 4 rfl zmv ?_
                  refine yp 5 rfl (r_int (j := ((cntS s : Nat) : Int)) (zmv rfl) rfl) ?_
                  refine yp 6 rfl zmv ?_
                  refine yp 8 rfl (zL (sg := sc s)) ?_
                  refine yo 7 rfl ?_
                  refine zc (fun _ => ?_) (c := fun w1 F1 F2 h1 h2 hd hst => rslot_ok (c := cntS s) (r := recS s) h1 (by have hx := rd_row (e := 5) (size := 1) (a := a9) (n := lenS s) (c := c9) (xs := ((s.l.drop 9).take (lenS s)).map B8) h2 hd (by repeat (first | exact Pick.here | apply Pick.there)); exact hx) (by omega) h63)
                  refine yx ?_
                  refine yp 9 rfl (r_bool (c := false) (r_neq_sec (a := slotS (cntS s) (recS s)) (b := s) Ty.arr_37 Ty.un_5 Ty.sz_5 (by kernel_rfl)) (by rw [hsl7]; simp)) ?_
                  refine yp 10 rfl zpk ?_
                  refine yd ?_
                  refine gx_then ?_
                  refine gc_condF rfl rfl ?_
                  refine gc_skip ?_
                  refine gx_then ?_
                  refine gsr ?_
                  refine gp (r_int (j := ((cntS s : Nat) : Int)) (zmv rfl) rfl) ?_
                  refine gp zmv ?_
                  refine gp zas ?_
                  refine gp zas ?_
                  refine gp zas ?_
                  refine gnt ?_
                  refine gc_ret ?_
                  refine gx_ret3 rfl (by conv => lhs; whnf) (by conv => lhs; whnf) (by conv => lhs; whnf) ?_
                  exact fun w' hw => ⟨(a9, c9), by rw [hyes]; simp only [hrl], by rw [hyes]; simp only [hrl]; exact hw.sel (by repeat (first | exact Sel.nil | (apply Sel.cons; · (repeat (first | exact Pick.here | apply Pick.there)))))⟩
                · have hno : rdSlot s p = none := by rw [rdSlot, if_neg (fun hx => hsl7 hx.2.2.2)]
                  refine gc_regionH ([blk b2 37 (sc s), rowR 5 1 a9 (lenS s) c9 (((s.l.drop 9).take (lenS s)).map B8)]) ?_
                  refine yp 0 rfl (r_int (j := ((cntS s : Nat) : Int)) (zmv rfl) rfl) ?_
                  refine yp 1 rfl (r_int (j := ((cntS s % 2 : Nat) : Int)) zrm rfl) ?_
                  refine yp 2 rfl zmv ?_
                  refine yp 3 rfl (r_bool (c := false) zni (by rw [hpar]; simp)) ?_
                  refine yp 4 rfl zmv ?_
                  refine yp 5 rfl (r_int (j := ((cntS s : Nat) : Int)) (zmv rfl) rfl) ?_
                  refine yp 6 rfl zmv ?_
                  refine yp 8 rfl (zL (sg := sc s)) ?_
                  refine yo 7 rfl ?_
                  refine zc (fun _ => ?_) (c := fun w1 F1 F2 h1 h2 hd hst => rslot_ok (c := cntS s) (r := recS s) h1 (by have hx := rd_row (e := 5) (size := 1) (a := a9) (n := lenS s) (c := c9) (xs := ((s.l.drop 9).take (lenS s)).map B8) h2 hd (by repeat (first | exact Pick.here | apply Pick.there)); exact hx) (by omega) h63)
                  refine yx ?_
                  refine yp 9 rfl (r_bool (c := true) (r_neq_sec (a := slotS (cntS s) (recS s)) (b := s) Ty.arr_37 Ty.un_5 Ty.sz_5 (by kernel_rfl)) (by simp [hsl7])) ?_
                  refine yp 10 rfl zpk ?_
                  refine yd ?_
                  refine gx_then ?_
                  refine gc_condT rfl rfl ?_
                  refine gsr ?_
                  refine gp zas ?_
                  refine gp zas ?_
                  refine gp zas ?_
                  refine gnt ?_
                  refine gc_ret ?_
                  refine gx_then_ret ?_
                  refine gx_ret3 rfl (by conv => lhs; whnf) (by conv => lhs; whnf) (by conv => lhs; whnf) ?_
                  exact fun w' hw => ⟨(none, 0), by rw [hno], by rw [hno]; exact hw.sel (by repeat (first | exact Sel.nil | (apply Sel.cons; · (repeat (first | exact Pick.here | apply Pick.there)))))⟩
              · have hno : rdSlot s p = none := by rw [rdSlot, if_neg (fun hx => hpar hx.2.1)]
                refine gc_regionH ([blk b2 37 (sc s), rowR 5 1 a9 (lenS s) c9 (((s.l.drop 9).take (lenS s)).map B8)]) ?_
                refine yp 0 rfl (r_int (j := ((cntS s : Nat) : Int)) (zmv rfl) rfl) ?_
                refine yp 1 rfl (r_int (j := ((cntS s % 2 : Nat) : Int)) zrm rfl) ?_
                refine yp 2 rfl zmv ?_
                refine yp 3 rfl (r_bool (c := true) zni (by simp; omega)) ?_
                refine yp 4 rfl zmv ?_
                refine yn 5 rfl ?_
                refine yn 6 rfl ?_
                refine yn 7 rfl ?_
                refine yn 8 rfl ?_
                refine yn 9 rfl ?_
                refine yp 10 rfl zpk ?_
                refine yd ?_
                refine gx_then ?_
                refine gc_condT rfl rfl ?_
                refine gsr ?_
                refine gp zas ?_
                refine gp zas ?_
                refine gp zas ?_
                refine gnt ?_
                refine gc_ret ?_
                refine gx_then_ret ?_
                refine gx_ret3 rfl (by conv => lhs; whnf) (by conv => lhs; whnf) (by conv => lhs; whnf) ?_
                exact fun w' hw => ⟨(none, 0), by rw [hno], by rw [hno]; exact hw.sel (by repeat (first | exact Sel.nil | (apply Sel.cons; · (repeat (first | exact Pick.here | apply Pick.there)))))⟩
    · have hno : rdSlot s p = none := by rw [rdSlot, if_neg (fun hx => hl31 hx.2.2.1)]
      refine gc_region ?_
      refine gp zib ?_
      refine gp (r_ldY (l := s.l) 0 (by omega)) ?_
      refine gp (r_bool (c := false) zgt (decide_eq_false (by omega))) ?_
      refine gp zmv ?_
      refine gq zib ?_
      refine gq (r_ldY (l := s.l) 8 (by omega)) ?_
      refine gq (r_bool (c := true) zgt (decide_eq_true (by unfold lenS at hl31; omega))) ?_
      refine gp zpk ?_
      refine gnt ?_
      refine gc_condT rfl rfl ?_
      refine gsr ?_
      refine gp zas ?_
      refine gp zas ?_
      refine gp zas ?_
      refine gnt ?_
      refine gc_ret ?_
      refine gx_then_ret ?_
      refine gx_ret3 rfl (by conv => lhs; whnf) (by conv => lhs; whnf) (by conv => lhs; whnf) ?_
      exact fun w' hw => ⟨(none, 0), by rw [hno], by rw [hno]; exact hw.sel (by repeat (first | exact Sel.nil | (apply Sel.cons; · (repeat (first | exact Pick.here | apply Pick.there)))))⟩
  · have h127 : ¬ (s.l.getD 0 0).toNat ≤ 127 := fun hx => h63 (cnt_first.2 hx)
    have hno : rdSlot s p = none := by rw [rdSlot, if_neg (fun hx => h63 hx.1)]
    refine gc_region ?_
    refine gp zib ?_
    refine gp (r_ldY (l := s.l) 0 (by omega)) ?_
    refine gp (r_bool (c := true) zgt (decide_eq_true (by omega))) ?_
    refine gp zmv ?_
    refine gn ?_
    refine gn ?_
    refine gn ?_
    refine gp zpk ?_
    refine gnt ?_
    refine gc_condT rfl rfl ?_
    refine gsr ?_
    refine gp zas ?_
    refine gp zas ?_
    refine gp zas ?_
    refine gnt ?_
    refine gc_ret ?_
    refine gx_then_ret ?_
    refine gx_ret3 rfl (by conv => lhs; whnf) (by conv => lhs; whnf) (by conv => lhs; whnf) ?_
    exact fun w' hw => ⟨(none, 0), by rw [hno], by rw [hno]; exact hw.sel (by repeat (first | exact Sel.nil | (apply Sel.cons; · (repeat (first | exact Pick.here | apply Pick.there)))))⟩


section
variable {w : World} {F : Nat → Prop} {s : Sec} {p c : Nat} {r : List UInt8}
theorem rread7_S (he : rdSlot s p = some (c, r)) (h : stars [] w F) : Calls Tryd.prog 18 #[scV s, .int .i64 (p : Int)] w (Post w F (fun x : Option Addr × Nat => .tuple #[.int .i64 (c : Int), .slice x.1 r.length x.2, .bool true]) (fun x => [rowR 5 1 x.1 r.length x.2 (r.map B8)])) :=
  Calls.mono (rread7_ok (s := s) (p := p) h) fun e w' ⟨x, h1, h2⟩ => ⟨x, by rw [h1, he], by rw [he] at h2; exact h2⟩
theorem rread7_N (he : rdSlot s p = none) (h : stars [] w F) : Calls Tryd.prog 18 #[scV s, .int .i64 (p : Int)] w (Post w F (fun _ : Unit => .tuple #[.int .i64 0, .slice none 0 0, .bool false]) (fun _ => [])) :=
  Calls.mono (rread7_ok (s := s) (p := p) h) fun e w' ⟨x, h1, h2⟩ => ⟨(), by rw [h1, he], by rw [he] at h2; exact h2⟩
end

set_option maxHeartbeats 400000 in
theorem ropen7_ok {w : World} {F : Nat → Prop} {a b : Sec} (h : stars [] w F) :
    Calls Tryd.prog 20 #[scV a, scV b] w (Post w F (fun x : Option Addr × Nat => match opn2 a b with | some (c, r) => .tuple #[.int .i64 (c : Int), .slice x.1 r.length x.2, .bool true] | none => .tuple #[.int .i64 0, .slice none 0 0, .bool false]) (fun x => match opn2 a b with | some (_, r) => [rowR 5 1 x.1 r.length x.2 (r.map B8)] | none => [])) := by
  refine g_enter (env := [(0, scV a), (1, scV b)]) Tryd.func20 rfl h Tryd.ntmps20 rfl rfl ?_
  refine gsr ?_
  refine zbN fun b2 => ?_
  refine zbN fun b3 => ?_
  refine gp zas ?_
  refine gp zas ?_
  refine gp zas ?_
  refine gnt ?_
  refine gc_seq ?_
  by_cases ha : rdSlot a 0 = none
  · refine gc_region ?_
    refine gp (zL (sg := sc a)) ?_
    refine zc (fun _ => ?_) (c := fun w1 F1 F2 h1 h2 hd hst => rread7_N (p := 0) ha h1)
    refine gp zmv ?_
    refine gp zex ?_
    refine gp zex ?_
    refine gp zex ?_
    refine gp zas ?_
    refine gp zas ?_
    refine gp zas ?_
    refine gnt ?_
    refine gc_seq ?_
    by_cases hb : rdSlot b 1 = none
    · have eo : opn2 a b = none := by rw [opn2, hb, ha]
      refine gc_region ?_
      refine gp (zL (sg := sc b)) ?_
      refine zc (fun _ => ?_) (c := fun w1 F1 F2 h1 h2 hd hst => rread7_N (p := 1) hb h1)
      refine gp zmv ?_
      refine gp zex ?_
      refine gp zex ?_
      refine gp zex ?_
      refine gp zas ?_
      refine gp zas ?_
      refine gp zas ?_
      refine gnt ?_
      refine gc_seq ?_
      refine gsr ?_
      refine gp zmv ?_
      refine gp zmv ?_
      refine gn ?_
      refine gn ?_
      refine gn ?_
      refine gn ?_
      refine gn ?_
      refine gn ?_
      refine gn ?_
      refine gp zpk ?_
      refine gnt ?_
      refine gc_condF rfl rfl ?_
      refine gc_skip ?_
      refine gx_then ?_
      refine gsr ?_
      refine gp zmv ?_
      refine gp zmv ?_
      refine gp zmv ?_
      refine gp zas ?_
      refine gp zas ?_
      refine gp zas ?_
      refine gnt ?_
      refine gc_ret ?_
      refine gx_ret3 rfl (by conv => lhs; whnf) (by conv => lhs; whnf) (by conv => lhs; whnf) ?_
      exact fun w' hw => ⟨(none, 0), by rw [eo], by rw [eo]; exact hw.sel (by repeat (first | exact Sel.nil | (apply Sel.cons; · (repeat (first | exact Pick.here | apply Pick.there)))))⟩
    · obtain ⟨⟨c2, r2⟩, hb⟩ := Option.ne_none_iff_exists'.1 hb
      have eo : opn2 a b = some (c2, r2) := by rw [opn2, hb, ha]
      refine gc_region ?_
      refine gp (zL (sg := sc b)) ?_
      refine zc (fun x21 => ?_) (c := fun w1 F1 F2 h1 h2 hd hst => rread7_S (p := 1) hb h1)
      refine gp zmv ?_
      refine gp zex ?_
      refine gp zex ?_
      refine gp zex ?_
      refine gp zas ?_
      refine gp zas ?_
      refine gp zas ?_
      refine gnt ?_
      refine gc_seq ?_
      refine gsr ?_
      refine gp zmv ?_
      refine gp zmv ?_
      refine gq (r_bool (c := false) (zmv rfl) rfl) ?_
      refine gq znt ?_
      refine gq zmv ?_
      refine gn ?_
      refine gn ?_
      refine gn ?_
      refine gq zpk ?_
      refine gp zpk ?_
      refine gnt ?_
      refine gc_condT rfl rfl ?_
      refine gsr ?_
      refine gp zmv ?_
      refine gp zmv ?_
      refine gp zas ?_
      refine gp zas ?_
      refine gp zas ?_
      refine gnt ?_
      refine gc_ret ?_
      refine gx_then_ret ?_
      refine gx_ret3 rfl (by conv => lhs; whnf) (by conv => lhs; whnf) (by conv => lhs; whnf) ?_
      exact fun w' hw => ⟨x21, by rw [eo], by rw [eo]; exact hw.sel (by repeat (first | exact Sel.nil | (apply Sel.cons; · (repeat (first | exact Pick.here | apply Pick.there)))))⟩
  · obtain ⟨⟨c1, r1⟩, ha⟩ := Option.ne_none_iff_exists'.1 ha
    have hc1 := (rdSlot_some ha).2.2.1
    refine gc_region ?_
    refine gp (zL (sg := sc a)) ?_
    refine zc (fun x15 => ?_) (c := fun w1 F1 F2 h1 h2 hd hst => rread7_S (p := 0) ha h1)
    refine gp zmv ?_
    refine gp zex ?_
    refine gp zex ?_
    refine gp zex ?_
    refine gp zas ?_
    refine gp zas ?_
    refine gp zas ?_
    refine gnt ?_
    refine gc_seq ?_
    by_cases hb : rdSlot b 1 = none
    · have eo : opn2 a b = some (c1, r1) := by rw [opn2, hb, ha]
      refine gc_region ?_
      refine gp (zL (sg := sc b)) ?_
      refine zc (fun _ => ?_) (c := fun w1 F1 F2 h1 h2 hd hst => rread7_N (p := 1) hb h1)
      refine gp zmv ?_
      refine gp zex ?_
      refine gp zex ?_
      refine gp zex ?_
      refine gp zas ?_
      refine gp zas ?_
      refine gp zas ?_
      refine gnt ?_
      refine gc_seq ?_
      refine gsr ?_
      refine gp zmv ?_
      refine gp zmv ?_
      refine gn ?_
      refine gn ?_
      refine gn ?_
      refine gn ?_
      refine gn ?_
      refine gn ?_
      refine gn ?_
      refine gp zpk ?_
      refine gnt ?_
      refine gc_condF rfl rfl ?_
      refine gc_skip ?_
      refine gx_then ?_
      refine gsr ?_
      refine gp zmv ?_
      refine gp zmv ?_
      refine gp zmv ?_
      refine gp zas ?_
      refine gp zas ?_
      refine gp zas ?_
      refine gnt ?_
      refine gc_ret ?_
      refine gx_ret3 rfl (by conv => lhs; whnf) (by conv => lhs; whnf) (by conv => lhs; whnf) ?_
      exact fun w' hw => ⟨x15, by rw [eo], by rw [eo]; exact hw.sel (by repeat (first | exact Sel.nil | (apply Sel.cons; · (repeat (first | exact Pick.here | apply Pick.there)))))⟩
    · obtain ⟨⟨c2, r2⟩, hb⟩ := Option.ne_none_iff_exists'.1 hb
      have hc2 := (rdSlot_some hb).2.2.1
      refine gc_region ?_
      refine gp (zL (sg := sc b)) ?_
      refine zc (fun x21 => ?_) (c := fun w1 F1 F2 h1 h2 hd hst => rread7_S (p := 1) hb h1)
      refine gp zmv ?_
      refine gp zex ?_
      refine gp zex ?_
      refine gp zex ?_
      refine gp zas ?_
      refine gp zas ?_
      refine gp zas ?_
      refine gnt ?_
      refine gc_seq ?_
      refine gc_seq ?_
      by_cases h12 : c1 < c2
      · have eo : opn2 a b = some (c2, r2) := by rw [opn2, hb, ha]; exact if_pos h12
        refine gc_region ?_
        refine gp zmv ?_
        refine gp zmv ?_
        refine gq zmv ?_
        refine gq znt ?_
        refine gq zmv ?_
        refine gq zmv ?_
        refine gq zmv ?_
        refine gq (r_bool (c := true) zgt (decide_eq_true (by omega))) ?_
        refine gq zpk ?_
        refine gp zpk ?_
        refine gnt ?_
        refine gc_condT rfl rfl ?_
        refine gsr ?_
        refine gp zmv ?_
        refine gp zmv ?_
        refine gp zas ?_
        refine gp zas ?_
        refine gp zas ?_
        refine gnt ?_
        refine gc_ret ?_
        refine gx_then_ret ?_
        refine gx_ret3 rfl (by conv => lhs; whnf) (by conv => lhs; whnf) (by conv => lhs; whnf) ?_
        exact fun w' hw => ⟨x21, by rw [eo], by rw [eo]; exact hw.sel (by repeat (first | exact Sel.nil | (apply Sel.cons; · (repeat (first | exact Pick.here | apply Pick.there)))))⟩
      · have eo : opn2 a b = some (c1, r1) := by rw [opn2, hb, ha]; exact if_neg h12
        refine gc_region ?_
        refine gp zmv ?_
        refine gp zmv ?_
        refine gq zmv ?_
        refine gq znt ?_
        refine gq zmv ?_
        refine gq zmv ?_
        refine gq zmv ?_
        refine gq (r_bool (c := false) zgt (decide_eq_false (by omega))) ?_
        refine gq zpk ?_
        refine gp zpk ?_
        refine gnt ?_
        refine gc_condF rfl rfl ?_
        refine gc_skip ?_
        refine gx_then ?_
        refine gsr ?_
        refine gp zmv ?_
        refine gp zmv ?_
        refine gp zmv ?_
        refine gp zas ?_
        refine gp zas ?_
        refine gp zas ?_
        refine gnt ?_
        refine gc_ret ?_
        refine gx_ret3 rfl (by conv => lhs; whnf) (by conv => lhs; whnf) (by conv => lhs; whnf) ?_
        exact fun w' hw => ⟨x15, by rw [eo], by rw [eo]; exact hw.sel (by repeat (first | exact Sel.nil | (apply Sel.cons; · (repeat (first | exact Pick.here | apply Pick.there)))))⟩


section
variable {w : World} {F : Nat → Prop} {a b : Sec} {c : Nat} {r : List UInt8}
theorem ropen7_S (he : opn2 a b = some (c, r)) (h : stars [] w F) : Calls Tryd.prog 20 #[scV a, scV b] w (Post w F (fun x : Option Addr × Nat => .tuple #[.int .i64 (c : Int), .slice x.1 r.length x.2, .bool true]) (fun x => [rowR 5 1 x.1 r.length x.2 (r.map B8)])) :=
  Calls.mono (ropen7_ok (a := a) (b := b) h) fun e w' ⟨x, h1, h2⟩ => ⟨x, by rw [h1, he], by rw [he] at h2; exact h2⟩
theorem ropen7_N (he : opn2 a b = none) (h : stars [] w F) : Calls Tryd.prog 20 #[scV a, scV b] w (Post w F (fun _ : Unit => .tuple #[.int .i64 0, .slice none 0 0, .bool false]) (fun _ => [])) :=
  Calls.mono (ropen7_ok (a := a) (b := b) h) fun e w' ⟨x, h1, h2⟩ => ⟨(), by rw [h1, he], by rw [he] at h2; exact h2⟩
end

end Go.Proofs.YtffkjjakceojfaaDoor

/- Walks, by program (wg.py) out of a spec. -/
namespace Go.Proofs.YtffkjjakceojfaaDoor
open Go
set_option linter.unusedVariables false
set_option linter.unusedSimpArgs false

attribute [local irreducible] Gl Gc Gx Gs Runs Wt

set_option maxHeartbeats 400000 in
theorem slotsOdd_ok {w : World} {F : Nat → Prop} {n0 : Int} {nr cr : Nat} {ar : Option Addr} {r : List UInt8} (h : stars [] w F) {ea : Nat → Addr} {es : List Nat} [Has es 1] [Has es 6] [Has es 7] [Has es 8] (hE : GErr es w (fun k => ¬ F k) 139 ea) (hK : KR w (fun k => ¬ F k)) (hr : RdRow w (fun k => ¬ F k) 1 ar nr (r.map B8)) (hcc : nr ≤ cr) :
    Calls Tryd.prog 4 #[.int .i64 n0, .slice ar nr cr] w (Post w F (fun _ : Unit => .bool true) (fun _ => [])) := by
  have hnr : nr = r.length := by have := hr.1; simp at this; omega
  obtain ⟨c, hl, hl3⟩ := u64_mod n0 (m := 100) (by decide)
  refine g_enter (env := [(0, .int .i64 n0), (1, .slice ar nr cr)]) Tryd.func4 rfl h Tryd.ntmps4 rfl rfl ?_
  refine gsr ?_
  refine gp zas ?_
  refine gnt ?_
  refine gc_seq ?_
  refine gsr ?_
  refine zc (fun _ => ?_) (c := fun w1 F1 F2 h1 h2 hd hst => alive07_ok h1 (hE.mv hst.still) (hK.mv hst.still))
  refine gp znt ?_
  refine gnt ?_
  refine gc_condF rfl rfl ?_
  refine gc_skip ?_
  refine gx_then ?_
  refine gc_seq ?_
  refine gsr ?_
  refine gp zmv ?_
  refine gp zln ?_
  refine gp zgt ?_
  refine gnt ?_
  refine gif rfl (fun hc15 => ?_) (fun hc15 => ?_)
  · refine gsr ?_
    refine gp zas ?_
    refine gnt ?_
    refine gc_ret ?_
    refine gx_then_ret ?_
    refine gx_ret1 rfl (by conv => lhs; whnf) ?_
    exact ze ()
  · try simp only at hc15
    have hr31 : r.length ≤ 31 := by omega
    refine gc_skip ?_
    refine gx_then ?_
    refine gsr ?_
    refine gp zmv ?_
    refine gp zci ?_
    refine gp (r_int zrm hl) ?_
    refine gp (r_int (j := (c : Int)) zci (wrap_i64 (by omega) (by omega))) ?_
    refine gp zas ?_
    refine gnt ?_
    refine gsr ?_
    refine zc (fun g21 => ?_) (c := fun w1 F1 F2 h1 h2 hd hst => new_ok (n := 2) (ea := ea) h1 (by decide) (by decide))
    refine gp zmv ?_
    refine gp zex ?_
    refine gp zex ?_
    refine gp zas ?_
    refine gp zas ?_
    refine gnt ?_
    refine gc_seq ?_
    refine gsr ?_
    refine gp zmv ?_
    refine gp (r_bool (c := false) (r_nenil rfl (by kernel_rfl)) rfl) ?_
    refine gp zmv ?_
    refine gq zmv ?_
    refine gq zmv ?_
    refine gq (r_int (j := ((c + 1 : Nat) : Int)) zad (by omega)) ?_
    refine gq (r_int (j := (((c + 1) % 2 : Nat) : Int)) zrm rfl) ?_
    refine gq zmv ?_
    refine gq zmv ?_
    refine zc (fun _ => ?_) (c := fun w1 F1 F2 h1 h2 hd hst => slot_ok (c := (c : Int)) (r := r) h1 (hK.mv hst.still) (hr.mv hst.still) hcc)
    refine zc (fun _ => ?_) (c := fun w1 F1 F2 h1 h2 hd hst => write_ok' (d := dZ fun _ => sec0) (i := (((c + 1) % 2 : Nat) : Int)) (v := slotS (c : Int) r) h1 (dZ_ok _) (hE.mv hst.still))
    rw [dO_wr]
    refine gq (r_bool (c := false) (r_nenil rfl (by kernel_rfl)) rfl) ?_
    refine gp zpk ?_
    refine gnt ?_
    refine gc_condF rfl rfl ?_
    refine gc_skip ?_
    refine gx_then ?_
    refine gsr ?_
    refine gp zmv ?_
    refine zc (fun _ => ?_) (c := fun w1 F1 F2 h1 h2 hd hst => open_Z (dO_opn (c := c) (r := r) (by omega)) h1 (dO_ok _ _) rfl (hE.mv hst.still) (hK.mv hst.still) rfl)
    refine gp zmv ?_
    refine gp zex ?_
    refine gp zex ?_
    refine gp zas ?_
    refine gp zas ?_
    refine gnt ?_
    refine gsr ?_
    refine gp zmv ?_
    refine gp zmv ?_
    refine zc (fun _ => ?_) (c := fun w1 F1 F2 h1 h2 hd hst => slot_ok (c := (c : Int)) (r := r) h1 (hK.mv hst.still) (hr.mv hst.still) hcc)
    refine gp zmv ?_
    refine gp (r_int (j := ((c % 2 : Nat) : Int)) zrm rfl) ?_
    refine zc (fun x48 => ?_) (c := fun w1 F1 F2 h1 h2 hd hst => rread7_S (p := c % 2) (rd_slot (c := c) (r := r) (by omega) hr31) h1)
    refine gp zmv ?_
    refine gp zex ?_
    refine gp zex ?_
    refine gp zex ?_
    refine gp zas ?_
    refine gp zas ?_
    refine gp zas ?_
    refine gnt ?_
    refine gsr ?_
    refine gp zmv ?_
    refine gp (r_bool (c := true) (r_eqpn rfl Ty.un_29) rfl) ?_
    refine gp zmv ?_
    refine gq zmv ?_
    refine gq (r_bool (c := true) (r_nenil rfl (by kernel_rfl)) rfl) ?_
    refine gp zpk ?_
    refine gp zmv ?_
    refine gq zmv ?_
    refine gp zpk ?_
    refine gp zas ?_
    refine gnt ?_
    refine gc_ret ?_
    refine gx_ret1 rfl (by conv => lhs; whnf) ?_
    exact ze ()

end Go.Proofs.YtffkjjakceojfaaDoor

/- Walks, by program (wg.py) out of a spec. -/
namespace Go.Proofs.YtffkjjakceojfaaDoor
open Go
set_option linter.unusedVariables false
set_option linter.unusedSimpArgs false

attribute [local irreducible] Gl Gc Gx Gs Runs Wt

set_option maxHeartbeats 1000000 in
theorem slotsBytes_ok {w : World} {F : Nat → Prop} {n0 : Int} {nr cr : Nat} {ar : Option Addr} {r : List UInt8} {a b : Sec} {ea : Nat → Addr} (h : stars [] w F) (hN : NErr w (fun k => ¬ F k) ea) (hK : KR w (fun k => ¬ F k)) (hr : RdRow w (fun k => ¬ F k) 1 ar nr (r.map B8)) (hcc : nr ≤ cr) (hn0 : Int64 n0) :
    Calls Tryd.prog 5 #[.int .i64 n0, .slice ar nr cr, .agg (sc a ++ sc b).toArray] w (Post w F (fun _ : Unit => .bool true) (fun _ => [])) := by
  have hE := hN.g
  have hnr : nr = r.length := by have := hr.1; simp at this; omega
  obtain ⟨c, hc⟩ : ∃ c : Nat, mx0 n0 = (c : Int) := ⟨(mx0 n0).toNat, by unfold mx0; split <;> omega⟩
  have hcb : c < 9223372036854775808 := by have h9 := hn0.2; unfold mx0 at hc; split at hc <;> omega
  have hm31 := take31 r
  have hml : (r.take 31).length = min 31 r.length := List.length_take
  have hrow := hr.cutY (h := (r.take 31).length) (by omega) hcc
  rw [take_take31] at hrow
  refine g_enter (env := [(0, .int .i64 n0), (1, .slice ar nr cr), (2, .agg (sc a ++ sc b).toArray)]) Tryd.func5 rfl h Tryd.ntmps5 rfl rfl ?_
  refine gsr ?_
  refine zbN fun b5 => ?_
  refine gp zas ?_
  refine gnt ?_
  refine gc_seq ?_
  refine gc_regionZ 7 ([blk b5 44 (sc a ++ sc b)]) ?_
  refine yps 0 rfl zib ?_
  refine yps 1 rfl (zL (sg := sc a) (hg := by show ((sc a ++ sc b).drop 0).take 64 = _; rw [List.drop_zero, List.take_left' (sc_length a)])) ?_
  refine yps 2 rfl zib ?_
  refine yps 3 rfl (zL (sg := sc b) (hg := by show ((sc a ++ sc b).drop 64).take 64 = _; rw [List.drop_left' (sc_length a), List.take_of_length_le (by rw [sc_length]; decide)])) ?_
  refine yas2 4 5 rfl rfl (fun b7 b8 => ?_)
  refine yos 6 rfl ?_
  refine zsA (new := sc (a)) (sc_length _) (sc_one _) ?_
  refine yxs ?_
  refine yzs rfl ?_
  refine zsA (new := sc (b)) (sc_length _) (sc_one _) ?_
  refine gnt ?_
  refine gc_seq ?_
  refine gsr ?_
  refine zc (fun _ => ?_) (c := fun w1 F1 F2 h1 h2 hd hst => alive07_ok h1 (hE.mv hst.still) (hK.mv hst.still))
  refine gp znt ?_
  refine gnt ?_
  refine gc_condF rfl rfl ?_
  refine gc_skip ?_
  refine gx_then ?_
  refine gc_seq ?_
  refine gsr ?_
  refine gp zmv ?_
  refine gp zln ?_
  refine gp zgt ?_
  refine gnt ?_
  refine gif rfl (fun hc23 => ?_) (fun hc23 => ?_)
  · refine gsr ?_
    refine gp zas ?_
    refine gnt ?_
    refine gc_ret ?_
    refine gx_then_ret ?_
    refine gx_ret1 rfl (by conv => lhs; whnf) ?_
    exact ze ()
  · refine gc_skip ?_
    refine gx_then ?_
    refine gc_seq ?_
    refine gc_seq ?_
    refine gc_regionH [] ?_
    refine yp 0 rfl zmv ?_
    refine yp 1 rfl zmv ?_
    refine yp 3 rfl zmv ?_
    refine yp 4 rfl (r_int (j := (c : Int)) r_max hc) ?_
    refine yp 5 rfl zmv ?_
    refine yp 6 rfl zmv ?_
    refine yp 7 rfl zln ?_
    refine yp 8 rfl (r_int (j := (((r.take 31).length : Nat) : Int)) r_min (by split <;> omega)) ?_
    refine yp 9 rfl (r_slice_slice (a := ar) (m := nr) (c := cr) (l := 0) (h := (r.take 31).length) rfl Ty.sl_32 Ty.sz_5 rfl ⟨_, rfl⟩ (Nat.zero_le _) (by omega)) ?_
    refine yo 2 rfl ?_
    refine zc (fun _ => ?_) (c := fun w1 F1 F2 h1 h2 hd hst => slot_ok (c := n0) (r := r) h1 (hK.mv hst.still) (hr.mv hst.still) hcc)
    refine yx ?_
    refine yo 10 rfl ?_
    refine zc (fun _ => ?_) (c := fun w1 F1 F2 h1 h2 hd hst => rslot_ok (c := c) (r := r.take 31) h1 (hrow.mv hst.still) hm31 hcb)
    refine yx ?_
    refine yp 11 rfl (r_bool (c := false) (r_neq_sec (a := slotS n0 r) (b := slotS (c : Int) (r.take 31)) Ty.arr_37 Ty.un_5 Ty.sz_5 (by kernel_rfl)) (by rw [slot_same hc]; simp)) ?_
    refine yd ?_
    refine gx_then ?_
    refine gc_condF rfl rfl ?_
    refine gc_skip ?_
    refine gx_then ?_
    refine gsr ?_
    refine zc (fun g37 => ?_) (c := fun w1 F1 F2 h1 h2 hd hst => new_ok (n := 3) (ea := ea) h1 (by decide) (by decide))
    refine gp zmv ?_
    refine gp zex ?_
    refine gp zex ?_
    refine gp zas ?_
    refine gp zas ?_
    refine gnt ?_
    refine gc_seq ?_
    refine gsr ?_
    refine gp zmv ?_
    refine gp (r_bool (c := false) (r_nenil rfl (by kernel_rfl)) rfl) ?_
    refine gp zmv ?_
    refine gq zmv ?_
    refine gq (zL (sg := sc a)) ?_
    refine zc (fun _ => ?_) (c := fun w1 F1 F2 h1 h2 hd hst => write_ok' (d := (⟨3, fun _ => sec0, [], false, false, 0⟩ : DS)) (i := 1) (v := a) h1 d3_ok0 (hE.mv hst.still))
    rw [d3a_wr]
    refine gq (r_bool (c := false) (r_nenil rfl (by kernel_rfl)) rfl) ?_
    refine gp zpk ?_
    refine gp zmv ?_
    refine gq zmv ?_
    refine gq (zL (sg := sc b)) ?_
    refine zc (fun _ => ?_) (c := fun w1 F1 F2 h1 h2 hd hst => write_ok' (d := d3a a) (i := 2) (v := b) h1 (d3a_ok a) (hE.mv hst.still))
    rw [d3_wr]
    refine gq (r_bool (c := false) (r_nenil rfl (by kernel_rfl)) rfl) ?_
    refine gp zpk ?_
    refine gnt ?_
    refine gc_condF rfl rfl ?_
    refine gc_skip ?_
    refine gx_then ?_
    refine gc_seq ?_
    by_cases ho : opn2 a b = none
    · have hop : opn (d3 a b) 1 = none := by rw [opn2_opn (d3_at1 a b) (d3_at2 a b), ho]; rfl
      refine gc_region ?_
      refine gp zmv ?_
      refine zc (fun _ => ?_) (c := fun w1 F1 F2 h1 h2 hd hst => open_Z hop h1 (d3_ok a b) rfl (hE.mv hst.still) (hK.mv hst.still) rfl)
      refine gp zmv ?_
      refine gp zex ?_
      refine gp zex ?_
      refine gp zas ?_
      refine gp zas ?_
      refine gnt ?_
      refine gsr ?_
      refine gp (zL (sg := sc a)) ?_
      refine gp (zL (sg := sc b)) ?_
      refine zc (fun _ => ?_) (c := fun w1 F1 F2 h1 h2 hd hst => ropen7_N ho h1)
      refine gp zmv ?_
      refine gp zex ?_
      refine gp zex ?_
      refine gp zex ?_
      refine gp zas ?_
      refine gp zas ?_
      refine gp zas ?_
      refine gnt ?_
      refine gc_seq ?_
      refine gsr ?_
      refine gp zmv ?_
      refine gp (r_bool (c := true) znt rfl) ?_
      refine gnt ?_
      refine gc_condT rfl rfl ?_
      refine gsr ?_
      refine gp zmv ?_
      refine gp (r_bool (c := true) (r_eqpn rfl Ty.un_29) rfl) ?_
      refine gp zmv ?_
      refine gq zmv ?_
      refine zc (fun _ => ?_) (c := fun w1 F1 F2 h1 h2 hd hst => errNum_ok (n := 7) h1 (hN.mv hst.still) (by decide))
      refine gq (r_bool (c := true) zei (decide_eq_true rfl)) ?_
      refine gp zpk ?_
      refine gp zas ?_
      refine gnt ?_
      refine gc_ret ?_
      refine gx_then_ret ?_
      refine gx_ret1 rfl (by conv => lhs; whnf) ?_
      exact ze ()
    · obtain ⟨⟨c9, r9⟩, ho⟩ := Option.ne_none_iff_exists'.1 ho
      have hop : opn (d3 a b) 1 = some ⟨1, c9, r9⟩ := by rw [opn2_opn (d3_at1 a b) (d3_at2 a b), ho]; rfl
      have hr9 := opn2_len ho
      refine gc_region ?_
      refine gp zmv ?_
      refine zc (fun g56 => ?_) (c := fun w1 F1 F2 h1 h2 hd hst => open_S hop h1 (d3_ok a b) rfl (hE.mv hst.still) (hK.mv hst.still) rfl)
      refine gp zmv ?_
      refine gp zex ?_
      refine gp zex ?_
      refine gp zas ?_
      refine gp zas ?_
      refine gnt ?_
      refine gsr ?_
      refine gp (zL (sg := sc a)) ?_
      refine gp (zL (sg := sc b)) ?_
      refine zc (fun x62 => ?_) (c := fun w1 F1 F2 h1 h2 hd hst => ropen7_S ho h1)
      refine gp zmv ?_
      refine gp zex ?_
      refine gp zex ?_
      refine gp zex ?_
      refine gp zas ?_
      refine gp zas ?_
      refine gp zas ?_
      refine gnt ?_
      refine gc_seq ?_
      refine gsr ?_
      refine gp zmv ?_
      refine gp (r_bool (c := false) znt rfl) ?_
      refine gnt ?_
      refine gc_condF rfl rfl ?_
      refine gc_skip ?_
      refine gx_then ?_
      refine gc_seq ?_
      refine gc_regionZ 20 ([rowR 5 1 x62.1 r9.length x62.2 (r9.map B8)]) ?_
      refine yps 0 rfl zmv ?_
      refine yps 1 rfl (r_bool (c := true) (r_eqnil rfl (by kernel_rfl)) rfl) ?_
      refine yps 2 rfl zmv ?_
      refine yps 3 rfl zmv ?_
      refine yps 4 rfl (r_bool (c := true) (r_nepn rfl Ty.un_29) rfl) ?_
      refine yps 5 rfl zpk ?_
      refine yps 6 rfl zmv ?_
      refine yps 7 rfl zmv ?_
      refine yps 9 rfl zmv ?_
      refine yos 8 rfl ?_
      refine zc (fun _ => ?_) (c := fun w1 F1 F2 h1 h2 hd hst => count_ok (s := ⟨1, c9, r9⟩) h1)
      refine yxs ?_
      refine yps 10 rfl (r_bool (c := true) zei (decide_eq_true rfl)) ?_
      refine yps 11 rfl zpk ?_
      refine yps 12 rfl zmv ?_
      refine yps 13 rfl zmv ?_
      refine yps 16 rfl zmv ?_
      refine yps 17 rfl (zso (b := r9)) ?_
      refine yos 14 rfl ?_
      refine zc (fun x89 => ?_) (c := fun w1 F1 F2 h1 h2 hd hst => record_ok (s := ⟨1, c9, r9⟩) h1 hr9)
      refine yxs ?_
      refine yos 15 rfl ?_
      refine gq (zso (b := r9)) ?_
      refine yxs ?_
      refine yps 18 rfl (r_bool (c := true) zes (decide_eq_true rfl)) ?_
      refine yps 19 rfl zpk ?_
      refine yzs rfl ?_
      refine gp zas ?_
      refine gnt ?_
      refine gc_ret ?_
      refine gx_ret1 rfl (by conv => lhs; whnf) ?_
      exact ze ()

end Go.Proofs.YtffkjjakceojfaaDoor

/- The shell, part L: sectors as arguments; a number's range. -/
namespace Go.Proofs.YtffkjjakceojfaaDoor
open Go
open Go.ChangeShapes Go.WideShapes Go.RowKit
set_option linter.unusedVariables false
theorem wf_i64 {n : Int} (h : (Lit.int .i64 n).wf = true) : Int64 n := by
  simp [Lit.wf, IntKind.min, IntKind.max, IntKind.signed, IntKind.bits] at h
  unfold Int64; omega
section
variable {H : Type} {enc : TypeId × Value → H} {P : Program} {w : World} {base : Nat} {sp : Nat → Bool} {held : Bool}
def RdSec (cs : List Value) (s : Sec) : Prop := cs = sc s
theorem opens_sec {T e : TypeId} (ht : arrT P T = some (64, e)) (he : P.underlying e = some (.int .u8)) (hs : szT P e = some 1) (hsT : szT P T = some 64) : Opens enc P w base sp held T RdSec := fun fuel cs x h => by
  obtain ⟨xs, m, rfl, rfl, hl, hx, hi⟩ := DataW.trod_array (run_arrT ht) h
  rw [cellsOf_sz hsT] at hl
  have hb : ∀ i, i < 64 → ∃ b : UInt8, cs[i]? = some (B8 b) := fun i hi16 => by
    have h1 := hi i hi16
    rw [cellsOf_sz hs, List.getElem?_eq_getElem (by omega)] at h1
    obtain ⟨b, h2⟩ := opens_byte he _ _ _ h1
    refine ⟨b, ?_⟩
    have : ((cs.drop (i * 1)).take 1)[0]? = some (B8 b) := by rw [h2]; rfl
    rw [List.getElem?_take] at this
    simpa using this
  have hall : ∃ l : List UInt8, l.map B8 = cs := by
    have : ∀ (cs : List Value), (∀ i, i < cs.length → ∃ b : UInt8, cs[i]? = some (B8 b)) → ∃ l : List UInt8, l.map B8 = cs := by
      intro cs
      induction cs with
      | nil => intro _; exact ⟨[], rfl⟩
      | cons v r ih =>
        intro hh
        obtain ⟨b, hb0⟩ := hh 0 (by simp)
        obtain ⟨l, hl'⟩ := ih fun i hi' => by simpa using hh (i + 1) (by simpa using hi')
        simp at hb0
        exact ⟨b :: l, by simp [hl', hb0]⟩
    exact this cs (by rw [hl]; exact hb)
  obtain ⟨l, hl'⟩ := hall
  exact ⟨⟨l, by have := congrArg List.length hl'; simp at this; omega⟩, hl'.symm⟩
def RdTwo (cs : List Value) (x : Sec × Sec) : Prop := cs = sc x.1 ++ sc x.2
theorem opens_two {T e : TypeId} (ht : arrT P T = some (2, e)) (hs : szT P e = some 64) (hsT : szT P T = some 128) (he : Opens enc P w base sp held e RdSec) : Opens enc P w base sp held T RdTwo := fun fuel cs x h => by
  obtain ⟨xs, m, rfl, rfl, hl, hx, hi⟩ := DataW.trod_array (run_arrT ht) h
  rw [cellsOf_sz hsT] at hl
  have hb : ∀ i, i < 2 → ∃ o, RdSec ((cs.drop (i * 64)).take 64) o := fun i hi3 => by
    have h1 := hi i hi3
    rw [cellsOf_sz hs, List.getElem?_eq_getElem (by omega)] at h1
    exact he _ _ _ h1
  obtain ⟨o0, h0⟩ := hb 0 (by decide)
  obtain ⟨o1, h1⟩ := hb 1 (by decide)
  refine ⟨(o0, o1), ?_⟩
  have h0' : (cs.drop 0).take 64 = sc o0 := h0
  have h1' : (cs.drop 64).take 64 = sc o1 := h1
  show cs = sc o0 ++ sc o1
  have e1 : (cs.drop 64).take 64 = cs.drop 64 := List.take_of_length_le (by rw [List.length_drop]; omega)
  rw [e1] at h1'
  rw [List.drop_zero] at h0'
  rw [← h0', ← h1', List.take_append_drop]
theorem o_two : Opens enc Tryd.prog w base sp held 44 RdTwo := opens_two Ty.arr_44 Ty.sz_37 (by kernel_rfl) (opens_sec Ty.arr_37 Ty.un_5 Ty.sz_5 Ty.sz_37)
def secD {H : Type} : DataW H := .agg (List.replicate 64 (.lit (.int .u8 0)))
def twoD {H : Type} : DataW H := .agg [secD, secD]
end
end Go.Proofs.YtffkjjakceojfaaDoor

/- SlotsBytes: for every input the law returns true, and the input reads as it did: the row and its card. -/
namespace Go.Proofs.YtffkjjakceojfaaDoor
open Go
open Go.ChangeShapes Go.WideShapes Go.ChangeAt Go.RowKit
set_option linter.unusedVariables false

/-- One world that fits: the settled one, the listed variables as their initialisers lay them. -/
noncomputable def slotsBytes_world (os : Os) : World :=
  let w0 := World.holding Tryd.prog os ⟨#[.cells #[.string ⟨#[113, 117, 111, 114, 97, 116, 101, 58, 32, 114, 97, 110, 103, 101]⟩] 163, .cells #[.string ⟨#[113, 117, 111, 114, 97, 116, 101, 58, 32, 115, 104, 111, 114, 116]⟩] 163, .cells #[.string ⟨#[113, 117, 111, 114, 97, 116, 101, 58, 32, 108, 111, 110, 103]⟩] 163, .cells #[.string ⟨#[113, 117, 111, 114, 97, 116, 101, 58, 32, 102, 111, 114, 109]⟩] 163, .cells #[.string ⟨#[113, 117, 111, 114, 97, 116, 101, 58, 32, 115, 112, 101, 110, 116]⟩] 163, .cells #[.string ⟨#[113, 117, 111, 114, 97, 116, 101, 58, 32, 112, 111, 119, 101, 114]⟩] 163, .cells #[.string ⟨#[113, 117, 111, 114, 97, 116, 101, 58, 32, 100, 105, 115, 107]⟩] 163, .cells #[.string ⟨#[113, 117, 111, 114, 97, 116, 101, 58, 32, 102, 117, 108, 108]⟩] 163, .cells #[.string ⟨#[113, 117, 111, 114, 97, 116, 101, 58, 32, 110, 111, 110, 101]⟩] 163, .cells #[.string ⟨#[113, 117, 111, 114, 97, 116, 101, 58, 32, 111, 108, 100]⟩] 163, .cells #[.string ⟨#[113, 117, 111, 114, 97, 116, 101, 58, 32, 115, 101, 116]⟩] 163, .cells #[.string ⟨#[113, 117, 111, 114, 97, 116, 101, 58, 32, 112, 114, 111, 111, 102]⟩] 163, .cells #[.string ⟨#[113, 117, 111, 114, 97, 116, 101, 58, 32, 108, 101, 97, 100, 101, 114]⟩] 163, .cells #[.string ⟨#[113, 117, 111, 114, 97, 116, 101, 58, 32, 114, 111, 117, 110, 100]⟩] 163, .cells #[.string ⟨#[113, 117, 111, 114, 97, 116, 101, 58, 32, 117, 110, 115, 97, 102, 101]⟩] 163, .cells #[.string ⟨#[113, 117, 111, 114, 97, 116, 101, 58, 32, 112, 97, 114, 101, 110, 116]⟩] 163, .cells #[.string ⟨#[113, 117, 111, 114, 97, 116, 101, 58, 32, 116, 119, 105, 99, 101]⟩] 163, .cells #[.string ⟨#[113, 117, 111, 114, 97, 116, 101, 58, 32, 101, 112, 111, 99, 104]⟩] 163], #[], []⟩
  { w0 with heap := ((((((((((((((((((w0.heap.modify 0 fun
      | .cells _ t fz => .cells #[.iface 139 (.pointer (some ⟨lowB + 0, 0, none⟩))] t fz
      | o => o).modify 3 fun
      | .cells _ t fz => .cells #[.iface 139 (.pointer (some ⟨lowB + 1, 0, none⟩))] t fz
      | o => o).modify 4 fun
      | .cells _ t fz => .cells #[.iface 139 (.pointer (some ⟨lowB + 2, 0, none⟩))] t fz
      | o => o).modify 5 fun
      | .cells _ t fz => .cells #[.iface 139 (.pointer (some ⟨lowB + 3, 0, none⟩))] t fz
      | o => o).modify 6 fun
      | .cells _ t fz => .cells #[.iface 139 (.pointer (some ⟨lowB + 4, 0, none⟩))] t fz
      | o => o).modify 7 fun
      | .cells _ t fz => .cells #[.iface 139 (.pointer (some ⟨lowB + 5, 0, none⟩))] t fz
      | o => o).modify 2 fun
      | .cells _ t fz => .cells #[.iface 139 (.pointer (some ⟨lowB + 6, 0, none⟩))] t fz
      | o => o).modify 1 fun
      | .cells _ t fz => .cells #[.iface 139 (.pointer (some ⟨lowB + 7, 0, none⟩))] t fz
      | o => o).modify 8 fun
      | .cells _ t fz => .cells #[.iface 139 (.pointer (some ⟨lowB + 8, 0, none⟩))] t fz
      | o => o).modify 9 fun
      | .cells _ t fz => .cells #[.iface 139 (.pointer (some ⟨lowB + 9, 0, none⟩))] t fz
      | o => o).modify 10 fun
      | .cells _ t fz => .cells #[.iface 139 (.pointer (some ⟨lowB + 10, 0, none⟩))] t fz
      | o => o).modify 11 fun
      | .cells _ t fz => .cells #[.iface 139 (.pointer (some ⟨lowB + 11, 0, none⟩))] t fz
      | o => o).modify 12 fun
      | .cells _ t fz => .cells #[.iface 139 (.pointer (some ⟨lowB + 12, 0, none⟩))] t fz
      | o => o).modify 13 fun
      | .cells _ t fz => .cells #[.iface 139 (.pointer (some ⟨lowB + 13, 0, none⟩))] t fz
      | o => o).modify 14 fun
      | .cells _ t fz => .cells #[.iface 139 (.pointer (some ⟨lowB + 14, 0, none⟩))] t fz
      | o => o).modify 15 fun
      | .cells _ t fz => .cells #[.iface 139 (.pointer (some ⟨lowB + 15, 0, none⟩))] t fz
      | o => o).modify 16 fun
      | .cells _ t fz => .cells #[.iface 139 (.pointer (some ⟨lowB + 16, 0, none⟩))] t fz
      | o => o).modify 17 fun
      | .cells _ t fz => .cells #[.iface 139 (.pointer (some ⟨lowB + 17, 0, none⟩))] t fz
      | o => o).modify 18 fun
      | .cells _ t fz => .cells (kc.map W32).toArray t fz
      | o => o }
def slotsBytes_args : Array Value := #[.int .i64 0, .slice none 0 0, .agg (sc sec0 ++ sc sec0).toArray]
theorem slotsBytes_laid (os : Os) (args : Array Value) : laidMet Tryd.prog Rows.slotsBytesRow.laid ((slotsBytes_world os).forCall (fun _ _ => 0) ⟨#[], args, []⟩).memory :=
  laidMet_of_run' 8 (by kernel_rfl) (by kernel_rfl)
theorem slotsBytes_reads (os : Os) {H : Type} (enc : TypeId × Value → H) : ∃ places, DataW.whole enc Tryd.prog ((slotsBytes_world os).forCall (fun _ _ => 0) ⟨#[], slotsBytes_args, []⟩).memory Tryd.f5.params.toList Rows.slotsBytesSpec.vars false slotsBytes_args.toList 8 = some ([.lit (.int .i64 0), .nil, twoD], [], places) :=
  ⟨[], by kernel_rfl⟩
set_option maxRecDepth 20000 in
theorem slotsBytes_contract (H : Type) (enc : TypeId × Value → H) (W : World) (base : Nat) (args : Array Value) (ds gs : List (DataW H)) (before : List MemPlace)
    (hval : ∀ (j : Nat) t v, Tryd.f5.params[j]? = some t → args[j]? = some v → Value.okWide Tryd.prog W .any base t v)
    (hW : DataW.Whole enc Tryd.prog Tryd.f5.params.toList Rows.slotsBytesSpec.vars false W args.toList ds gs before) (hL : laidMetH Tryd.prog Rows.slotsBytesRow.laid W) :
    Calls Tryd.prog 5 args W fun e W' => ∃ v, e = .returned v ∧ Rows.slotsBytesSpec.post enc Tryd.prog Tryd.f5 false true false false W args v W' := by
  have hW' := hW
  have hlt : ∀ p ∈ before, p.block < W.heap.size := fun p hp => hW.lt p hp
  obtain ⟨p, q, hA0, hV, rfl, hfz, hnd⟩ := hW
  have hA : DataW.TrodAll enc Tryd.prog W 0 (fun _ => true) true Tryd.f5.params.toList args.toList ds p := hA0
  rw [Tryd.params5] at hA hval
  obtain ⟨v0, vs0, d0, ds0, p0, q0, hargs, rfl, rfl, h0, r0⟩ := trodAll_cons hA
  obtain ⟨v1, vs1, d1, ds1, p1, q1, rfl, rfl, rfl, h1, r1⟩ := trodAll_cons r0
  obtain ⟨v2, vs2, d2, ds2, p2, q2, rfl, rfl, rfl, h2, r2⟩ := trodAll_cons r1
  obtain ⟨rfl, rfl, rfl⟩ := trodAll_nil r2
  obtain rfl : args = #[v0, v1, v2] := by cases args; simp_all
  obtain ⟨rfl, rfl⟩ := trodVars_none hV
  obtain ⟨n0, rfl, _, _, wf0⟩ := open_int Ty.un_3 (hval 0 3 v0 rfl rfl) h0
  obtain ⟨a1, m1, c1, rfl⟩ := okWide_slice (run_sliceT Ty.sl_32) (hval 1 32 v1 rfl rfl)
  obtain ⟨x1, hx1⟩ : ∃ x, RdRowC B8 W TT [.slice a1 m1 c1] x := by obtain ⟨fuel, hf⟩ := h1; exact o_rbytes fuel _ _ hf
  obtain ⟨x2, hx2⟩ : ∃ x, RdTwo v2.cells.toList x := by obtain ⟨fuel, hf⟩ := h2; exact o_two fuel _ _ hf
  have e2 := agg_of_len (n := 128) (by rw [show v2.cells.toList = _ from hx2, List.length_append, sc_length, sc_length]) (by decide)
  rw [show v2.cells.toList = sc x2.1 ++ sc x2.2 from hx2] at e2
  have hL' : laidMet Tryd.prog Rows.slotsBytesRow.laid W := hL
  obtain ⟨ea, hN⟩ := laid_nerr (r := [("quorate/hash.constants", Rows.laid_quorate_hash_constants)]) (show laidMet Tryd.prog (errNames.map errRow ++ [("quorate/hash.constants", Rows.laid_quorate_hash_constants)]) W from hL')
  have hK := laid_kr hL'.tail.tail.tail.tail.tail.tail.tail.tail.tail.tail.tail.tail.tail.tail.tail.tail.tail.tail
  have walk := slotsBytes_ok (n0 := n0) (cr := c1) (a := x2.1) (b := x2.2) no_res hN hK (hx1.row.mv still_id) hx1.le (wf_i64 wf0)
  rw [← e2] at walk
  refine Calls.mono (show Calls Tryd.prog 5 #[.int .i64 n0, .slice a1 m1 c1, v2] W _ from walk) fun e W' ⟨_, he, hs⟩ => ?_
  subst he
  have bel := below_of hs
  have eF : Rows.slotsBytesSpec.fn H ([d0, d1, d2] ++ []) = { results := [.lit (.bool true)], args := [d0, d1, d2] } := rfl
  have l0 : ∀ z ∈ p0, z.block < W.heap.size := fun z hz => hlt z (by simp [hz])
  have l1 : ∀ z ∈ p1, z.block < W.heap.size := fun z hz => hlt z (by simp [hz])
  have l2 : ∀ z ∈ p2, z.block < W.heap.size := fun z hz => hlt z (by simp [hz])
  refine ⟨_, rfl, _, _, _, [], p0 ++ (p1 ++ (p2 ++ ([]))), [], hW', ?_, ?_, ?_, bel.frame _, fun h => by cases h⟩
  · rw [eF]; exact trodAll_cons_mk (shut_bool Tryd.underlying4 _) trodAll_mk0
  · rw [eF, Tryd.params5]
    exact trodAll_cons_mk (Below.trod laidOut (by kernel_rfl) (of_decide_eq_true (by kernel_rfl)) h0 bel l0) (trodAll_cons_mk (Below.trod laidOut (by kernel_rfl) (of_decide_eq_true (by kernel_rfl)) h1 bel l1) (trodAll_cons_mk (Below.trod laidOut (by kernel_rfl) (of_decide_eq_true (by kernel_rfl)) h2 bel l2) (trodAll_mk0)))
  · rw [eF]; rfl

set_option maxRecDepth 100000 in
theorem slotsBytes_lifted (os : Os) (started : os.Started) (H : Type) (enc : TypeId × Value → H) (F : Stop.Interp) :
    ReturnsInHanded {} Tryd.checked os 5 .any ((OpenSpec.ofChange Rows.slotsBytesSpec).preRow enc Tryd.prog Tryd.f5 Rows.slotsBytesRow.domain false Rows.slotsBytesRow.laid) (((OpenSpec.ofChange Rows.slotsBytesSpec).at F).post enc Tryd.prog Tryd.f5 false true false false) := by
  obtain ⟨places, hx⟩ := slotsBytes_reads os enc
  refine returnsInHanded_of_row (C := Tryd.checked) (s := OpenSpec.ofChange Rows.slotsBytesSpec) own started (by kernel_rfl) Tryd.func5
    (witness_row_atRef (enc := enc) (C := Tryd.checked) false (slotsBytes_world os) slotsBytes_args rfl (by kernel_rfl) (by kernel_rfl) (by kernel_rfl)
      (OpenSpec.preRow_of_cond 8 hx (by kernel_rfl) (fun k hk => by cases hk) (by kernel_rfl) (slotsBytes_laid os _))) ?_
  intro W base args ds gs before hval hW _ _ _ hL _ _
  exact slotsBytes_contract H enc W base args ds gs before hval hW hL

theorem slotsBytes_said : Rows.SlotsBytesSaid :=
  OpenClaim.holds_of_cond 5 Tryd.f5 rfl rfl rfl rfl rfl rfl rfl ⟨rfl, rfl, rfl, rfl, rfl⟩ rfl rfl rfl rfl rfl (by kernel_rfl) Tryd.func5 (by kernel_rfl)
    (of_decide_eq_true (by kernel_rfl)) (by unfold Func.isWrapper; first | (rw [if_pos (by decide +kernel)]; kernel_rfl) | (rw [if_neg (by decide +kernel)]; exact ⟨rfl, rfl⟩))
    (fun os started H enc _ F => by rw [OpenClaim.pre_eq_preRow]; exact slotsBytes_lifted os started H enc F)
theorem slotsBytes_plain (f : FuncId) (fn : Func) (hf : Tryd.pinned.checked.prog.funcNamed "quorate/quoratelaw07.SlotsBytes" = some f) (hfn : Tryd.pinned.checked.prog.funcs[f]? = some fn) :
    true = Tryd.pinned.checked.prog.looks [] ∧ ∀ (j : Nat) t, fn.params[j]? = some t → Tryd.pinned.checked.prog.wantsStandIn t = false := by
  obtain rfl : f = 5 := Option.some.inj ((show Tryd.prog.funcNamed "quorate/quoratelaw07.SlotsBytes" = some 5 by kernel_rfl).symm.trans hf) |>.symm
  obtain rfl : fn = Tryd.f5 := (Option.some.inj (Tryd.func5.symm.trans hfn)).symm
  refine ⟨by kernel_rfl, fun j t ht => ?_⟩
  rw [Tryd.params5] at ht
  have hm := Array.mem_of_getElem? ht
  have h : t = 3 ∨ t = 32 ∨ t = 44 := by simpa using hm
  rcases h with rfl | rfl | rfl
  · exact (show Tryd.prog.wantsStandIn 3 = false by kernel_rfl)
  · exact (show Tryd.prog.wantsStandIn 32 = false by kernel_rfl)
  · exact (show Tryd.prog.wantsStandIn 44 = false by kernel_rfl)
theorem slotsBytes_holds : Rows.SlotsBytesCardSaid :=
  Claim7.holds_tied_plain_at .later [] _ _ _ _ slotsBytes_said (fun _ h => by cases h) (by kernel_rfl) (fun _ h => by cases h) slotsBytes_row_tie rfl ⟨rfl, rfl⟩ (by kernel_rfl) rfl slotsBytes_plain (by kernel_rfl)
#print axioms slotsBytes_holds
end Go.Proofs.YtffkjjakceojfaaDoor

