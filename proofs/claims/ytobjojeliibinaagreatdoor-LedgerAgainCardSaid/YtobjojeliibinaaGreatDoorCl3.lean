/- Part 3. What is proved: see the last part: for every input the law returns true, and the input reads as it did. -/
import Derived.Test.YtobjojeliibinaaGreatDoorCl2
import Derived.Lib.ConvBytes
import Derived.Laws.MakeOwn
/- Walks, by program (wg.py) out of a spec. -/
namespace Go.Proofs.YtobjojeliibinaaGreatDoor
open Go
set_option linter.unusedVariables false
set_option linter.unusedSimpArgs false


theorem padN_le (m : Nat) : padN m ≤ 63 := by unfold padN; omega
theorem pad_hit {m k : Nat} (h : k ≤ padN m) (hm : m < 64) : (m + 1 + k) % 64 = 56 ↔ k = padN m := by unfold padN at *; omega
theorem fnc_sum (v : V8) : fnc B8 32 (outByte v) = ((List.range 32).map (outByte v)).map B8 := by simp [fnc]
theorem padded_length (s : HS) : (padded s).length = s.rest.length + 1 + padN s.rest.length + 8 := by simp [padded, lenBytes]; omega
theorem takes_nil (K : Nat → UInt32) (v : V8) : takes K v [] = (v, []) := by rw [takes.eq_1, dif_neg (by simp)]
theorem rem_nat {m k : Nat} : Int.tmod (m : Int) (k : Int) = ((m % k : Nat) : Int) := by rw [Int.tmod_eq_emod_of_nonneg (by omega)]; rfl
theorem quo_nat {m k : Nat} : Int.tdiv (m : Int) (k : Int) = ((m / k : Nat) : Int) := by rw [Int.tdiv_eq_ediv_of_nonneg (by omega)]; rfl
def padRow (s : HS) (k : Nat) : List UInt8 := s.rest ++ 128 :: List.replicate k 0
def lenRow (s : HS) (k : Nat) : List UInt8 := s.rest ++ 128 :: (List.replicate (padN s.rest.length) 0 ++ (List.range k).map fun i => UInt8.ofNat (s.len * 8 / 2 ^ (8 * (7 - i))))
theorem padRow_succ (s : HS) (k : Nat) : (padRow s k).map B8 ++ [.int .u8 0] = (padRow s (k + 1)).map B8 := by
  have e : (.int .u8 0 : Value) = B8 0 := rfl
  rw [e]; simp [padRow, List.replicate_succ']
theorem lenRow_zero (s : HS) : lenRow s 0 = padRow s (padN s.rest.length) := by simp [lenRow, padRow]
theorem lenRow_succ (s : HS) (k : Nat) : (lenRow s k).map B8 ++ [B8 (UInt8.ofNat (s.len * 8 / 2 ^ (8 * (7 - k))))] = (lenRow s (k + 1)).map B8 := by simp [lenRow, List.range_succ]
theorem lenRow_full (s : HS) : lenRow s 8 = padded s := rfl

attribute [local irreducible] Gl Gc Gx Gs Runs Wt

set_option maxHeartbeats 400000 in
theorem hsum_ok {w : World} {F : Nat → Prop} {g : Nat} {s : HS} (h : stars [HashR g s] w F) (hK : KR w (fun k => ¬ F k)) (hr : s.rest.length < 64) (hb : s.len ≤ 1099511627776) :
    Calls Tryz.prog 129 #[.pointer (some ⟨g, 0, none⟩)] w (Post w F (fun _ : Unit => .agg (fnc B8 32 (outByte (takes Kc s.v (padded s)).1)).toArray) (fun _ => [HashR g s])) := by
  obtain ⟨a0, c0, h'⟩ := h_open h
  refine g_enter (env := [(0, .pointer (some ⟨g, 0, none⟩))]) Tryz.func129 rfl h' Tryz.ntmps129 rfl rfl ?_
  refine gsr ?_
  refine zal fun b2 => ?_
  refine gnt ?_
  refine gsr ?_
  refine gp zmv ?_
  refine gp znc ?_
  refine gp zfa ?_
  refine gp zL ?_
  refine zal fun b3 => ?_
  refine gl_storeN (wt0 rfl) (cs' := v8c s.v ++ []) rfl rfl Ty.sz_278 (v8c_length _) (by repeat (first | exact Pick.here | apply Pick.there)) (by simp) (v8c_one _) ((updL_all (by simp [v8c_length])).trans (List.append_nil _).symm) ?_
  refine gnt ?_
  refine gsr ?_
  refine ze0 fun b12 => ?_
  refine gp zmv ?_
  refine gp znc ?_
  refine gp zfa ?_
  refine gp zl ?_
  refine gl_append (wt0 rfl) rfl rfl (by repeat (first | exact Pick.here | apply Pick.there)) Ty.el_86 (fun w' hw => hw.row (a := a0) (m := s.rest.length) (c := c0) (by repeat (first | exact Pick.here | apply Pick.there))) (one_B8 _) (by simp only [maxLen]; omega) (by omega) ?_
  intro a17 c17
  rw [show 0 + s.rest.length = s.rest.length from Nat.zero_add _]
  refine ze1 fun b18 => ?_
  refine gl_append (news := [.int .u8 128]) (wt0 rfl) rfl rfl (by repeat (first | exact Pick.here | apply Pick.there)) Ty.el_86 (fun w' hw => hw.row (m := 1) (xs := [.int .u8 128]) (by repeat (first | exact Pick.here | apply Pick.there))) (all_cons' rfl all_nil') (by simp only [maxLen]; omega) (by omega) ?_
  intro a19 c19
  refine gp zas ?_
  refine gnt ?_
  refine gc_seq ?_
  refine gc_block ?_
  refine gc_loop (α := Nat × Option Addr × Nat) (fun x => [pureR (x.1 ≤ padN s.rest.length), rowR 5 1 x.2.1 (s.rest.length + 1 + x.1) x.2.2 ((padRow s x.1).map B8), blk b3 278 (v8c s.v ++ []), blk b2 216 (List.replicate 32 (.int .u8 0)), blk g 281 (v8c s.v ++ [.slice a0 s.rest.length c0, .int .u64 (s.len : Int)]), rowR 5 1 a0 s.rest.length c0 (s.rest.map B8)]) (fun x => [(4, .slice x.2.1 (s.rest.length + 1 + x.1) x.2.2)]) [20, 21, 22, 23, 24, 25, 26] (fun x => padN s.rest.length - x.1) (0, a19, c19) ?_ ?_ ?_
  · refine env_start (by kernel_rfl)
  · rintro w' hw
    obtain ⟨F', hF', hst'⟩ := hw.sel (M := [rowR 5 1 a19 _ c19 _, blk b3 278 (v8c s.v ++ []), blk b2 216 (List.replicate 32 (.int .u8 0)), blk g 281 (v8c s.v ++ [.slice a0 s.rest.length c0, .int .u64 (s.len : Int)]), rowR 5 1 a0 s.rest.length c0 (s.rest.map B8)]) (by repeat (first | exact Sel.nil | (apply Sel.cons; · (repeat (first | exact Pick.here | apply Pick.there)))))
    refine ⟨F', stars_pure_mk (Nat.zero_le _) ?_, hst'⟩
    have e : ([] ++ s.rest.map B8 ++ [.int .u8 128] : List Value) = (padRow s 0).map B8 := by simp [padRow]
    rw [e] at hF'
    exact hF'
  · intro x u
    obtain ⟨k, a4, c4⟩ := x
    refine gc_pureR (fun hk => ?_)
    replace hk : k ≤ padN s.rest.length := hk
    have hp63 := padN_le s.rest.length
    refine gc_seq ?_
    refine gsr ?_
    refine gp zmv ?_
    refine gp zln ?_
    refine gp (r_int (r_rem rfl rfl (by decide)) (rem_nat (m := s.rest.length + 1 + k) (k := 64))) ?_
    refine gp zni ?_
    refine gnt ?_
    refine gif rfl (fun hc23 => ?_) (fun hc23 => ?_)
    · have hk' : k < padN s.rest.length := by have := pad_hit hk hr; (try simp only at hc23); omega
      refine gc_skip ?_
      refine gx_then ?_
      refine gc_block ?_
      refine gc_region ?_
      refine gp zmv ?_
      refine ze1 fun b25 => ?_
      refine gl_append (news := [.int .u8 0]) (a := a4) (m := s.rest.length + 1 + k) (c := c4) (wt0 rfl) rfl rfl (by repeat (first | exact Pick.here | apply Pick.there)) Ty.el_86 (fun w' hw => hw.row (m := 1) (xs := [.int .u8 0]) (by repeat (first | exact Pick.here | apply Pick.there))) (all_cons' rfl all_nil') (by simp only [maxLen]; omega) (by omega) ?_
      intro a26 c26
      refine gp zas ?_
      refine gl_nil ?_
      refine gx_block_normal ?_
      refine zrd ((k + 1, a26, c26)) ?_ ?_
      · show padN s.rest.length - (k + 1) < padN s.rest.length - k
        omega
      · rintro w' hw
        obtain ⟨F', hF', hst'⟩ := hw.sel (M := [rowR 5 1 a26 _ c26 _, blk b3 278 (v8c s.v ++ []), blk b2 216 (List.replicate 32 (.int .u8 0)), blk g 281 (v8c s.v ++ [.slice a0 s.rest.length c0, .int .u64 (s.len : Int)]), rowR 5 1 a0 s.rest.length c0 (s.rest.map B8)]) (by repeat (first | exact Sel.nil | (apply Sel.cons; · (repeat (first | exact Pick.here | apply Pick.there)))))
        refine ⟨F', stars_pure_mk (show k + 1 ≤ _ by omega) ?_, hst'⟩
        rw [padRow_succ] at hF'
        exact hF'
    · have hk' : k = padN s.rest.length := by have := pad_hit hk hr; (try simp only at hc23); omega
      subst hk'
      refine gc_exit ?_
      refine gx_then_exit ?_
      refine gx_round_exit ?_
      refine gx_block_hit ?_
      refine gx_then ?_
      refine gc_seq ?_
      refine gsr ?_
      refine gp zas ?_
      refine gnt ?_
      refine gc_block ?_
      refine gc_loop (α := Nat × Option Addr × Nat) (fun x => [pureR (x.1 ≤ 8), rowR 5 1 x.2.1 (s.rest.length + 1 + padN s.rest.length + x.1) x.2.2 ((lenRow s x.1).map B8), blk b3 278 (v8c s.v ++ []), blk b2 216 (List.replicate 32 (.int .u8 0)), blk g 281 (v8c s.v ++ [.slice a0 s.rest.length c0, .int .u64 (s.len : Int)]), rowR 5 1 a0 s.rest.length c0 (s.rest.map B8)]) (fun x => [(4, .slice x.2.1 (s.rest.length + 1 + padN s.rest.length + x.1) x.2.2), (5, .int .i64 (7 - (x.1 : Int)))]) [27, 28, 29, 30, 31, 32, 33, 34, 35, 36, 37, 38, 39, 40, 41, 42] (fun x => 8 - x.1) (0, a4, c4) ?_ ?_ ?_
      · refine env_start (by kernel_rfl)
      · rintro w' hw
        obtain ⟨F', hF', hst'⟩ := hw.sel (M := [rowR 5 1 a4 _ c4 _, blk b3 278 (v8c s.v ++ []), blk b2 216 (List.replicate 32 (.int .u8 0)), blk g 281 (v8c s.v ++ [.slice a0 s.rest.length c0, .int .u64 (s.len : Int)]), rowR 5 1 a0 s.rest.length c0 (s.rest.map B8)]) (by repeat (first | exact Sel.nil | (apply Sel.cons; · (repeat (first | exact Pick.here | apply Pick.there)))))
        refine ⟨F', stars_pure_mk (Nat.zero_le _) ?_, hst'⟩
        rw [← lenRow_zero] at hF'
        exact hF'
      · intro x u
        obtain ⟨k, a5, c5⟩ := x
        refine gc_pureR (fun hk => ?_)
        replace hk : k ≤ 8 := hk
        refine gc_seq ?_
        refine gsr ?_
        refine gp zmv ?_
        refine gp zge ?_
        refine gnt ?_
        refine gif rfl (fun hc28 => ?_) (fun hc28 => ?_)
        · have hk' : k < 8 := by (try simp only at hc28); omega
          refine gc_skip ?_
          refine gx_then ?_
          refine gc_seq ?_
          refine gc_block ?_
          refine gc_region ?_
          refine gp zmv ?_
          refine gp zmv ?_
          refine gp znc ?_
          refine gp zfa ?_
          refine gp zl ?_
          refine gp (r_int (r_arith (op := .mul) rfl rfl (wrap_u64 (by omega) (by omega))) (show (s.len : Int) * 8 = ((s.len * 8 : Nat) : Int) by omega)) ?_
          refine gp zmv ?_
          refine gp zml ?_
          refine gp zhr ?_
          refine gp (r_val (r_conv_int rfl Ty.un_258 Ty.un_5) (byte_shrU (j := 7 - k) (by omega) (by omega))) ?_
          refine ze1 fun b41 => ?_
          refine gl_append (news := [B8 (UInt8.ofNat (s.len * 8 / 2 ^ (8 * (7 - k))))]) (a := a5) (m := s.rest.length + 1 + padN s.rest.length + k) (c := c5) (wt0 rfl) rfl rfl (by repeat (first | exact Pick.here | apply Pick.there)) Ty.el_86 (fun w' hw => hw.row (m := 1) (xs := [B8 (UInt8.ofNat (s.len * 8 / 2 ^ (8 * (7 - k))))]) (by repeat (first | exact Pick.here | apply Pick.there))) (all_cons' rfl all_nil') (by simp only [maxLen]; omega) (by omega) ?_
          intro a42 c42
          refine gp zas ?_
          refine gl_nil ?_
          refine gx_block_normal ?_
          refine gx_then ?_
          refine gc_region ?_
          refine gp zmv ?_
          refine gp (r_int (r_arith (op := .sub) rfl rfl (wrap_i64 (by omega) (by omega))) (show 7 - (k : Int) - 1 = 7 - ((k + 1 : Nat) : Int) by omega)) ?_
          refine gp zas ?_
          refine gl_nil ?_
          refine zrd ((k + 1, a42, c42)) ?_ ?_
          · show 8 - (k + 1) < 8 - k
            omega
          · rintro w' hw
            obtain ⟨F', hF', hst'⟩ := hw.sel (M := [rowR 5 1 a42 _ c42 _, blk b3 278 (v8c s.v ++ []), blk b2 216 (List.replicate 32 (.int .u8 0)), blk g 281 (v8c s.v ++ [.slice a0 s.rest.length c0, .int .u64 (s.len : Int)]), rowR 5 1 a0 s.rest.length c0 (s.rest.map B8)]) (by repeat (first | exact Sel.nil | (apply Sel.cons; · (repeat (first | exact Pick.here | apply Pick.there)))))
            refine ⟨F', stars_pure_mk (show k + 1 ≤ _ by omega) ?_, hst'⟩
            rw [lenRow_succ] at hF'
            exact hF'
        · have hk' : k = 8 := by (try simp only at hc28); omega
          subst hk'
          refine gc_exit ?_
          refine gx_then_exit ?_
          refine gx_round_exit ?_
          refine gx_block_hit ?_
          refine gx_then ?_
          refine gc_seq ?_
          refine gc_block ?_
          have hpl := padded_length s
          refine gc_loop (α := V8 × List UInt8 × Option Addr × Nat × Nat) (fun x => [pureR (takes Kc x.1 x.2.1 = takes Kc s.v (padded s) ∧ x.2.1.length % 64 = 0 ∧ x.2.1.length ≤ 256 ∧ x.2.2.2.1 = x.2.1.length), rowR 5 1 x.2.2.1 x.2.2.2.1 x.2.2.2.2 (x.2.1.map B8), blk b3 278 (v8c x.1 ++ []), blk b2 216 (List.replicate 32 (.int .u8 0)), blk g 281 (v8c s.v ++ [.slice a0 s.rest.length c0, .int .u64 (s.len : Int)]), rowR 5 1 a0 s.rest.length c0 (s.rest.map B8)]) (fun x => [(4, .slice x.2.2.1 x.2.2.2.1 x.2.2.2.2)]) [43, 44, 45, 46, 47, 48, 49, 50] (fun x => x.2.1.length) (s.v, padded s, a5, s.rest.length + 1 + padN s.rest.length + 8, c5) ?_ ?_ ?_
          · refine env_start (by kernel_rfl)
          · rintro w' hw
            obtain ⟨F', hF', hst'⟩ := hw.sel (M := [rowR 5 1 a5 _ c5 _, blk b3 278 (v8c s.v ++ []), blk b2 216 (List.replicate 32 (.int .u8 0)), blk g 281 (v8c s.v ++ [.slice a0 s.rest.length c0, .int .u64 (s.len : Int)]), rowR 5 1 a0 s.rest.length c0 (s.rest.map B8)]) (by repeat (first | exact Sel.nil | (apply Sel.cons; · (repeat (first | exact Pick.here | apply Pick.there)))))
            refine ⟨F', stars_pure_mk ⟨rfl, ?_, ?_, hpl.symm⟩ ?_, hst'⟩
            · show (padded s).length % 64 = 0
              have := (pad_hit (Nat.le_refl _) hr).2 rfl
              omega
            · show (padded s).length ≤ 256; omega
            · exact hF'
          · intro x u
            obtain ⟨v, r, a6, n6, c6⟩ := x
            refine gc_pureR (fun hk => ?_)
            replace hk : takes Kc v r = takes Kc s.v (padded s) ∧ r.length % 64 = 0 ∧ r.length ≤ 256 ∧ n6 = r.length := hk
            obtain ⟨hk, hk64, hk256, rfl⟩ := hk
            refine gc_fact (p := r.length ≤ c6) (fun w hw => (hw.rowLe (e := 5) (size := 1) (a := a6) (m := r.length) (c := c6) (xs := r.map B8) (by repeat (first | exact Pick.here | apply Pick.there))).1) (fun hc6 => ?_)
            refine gc_seq ?_
            refine gsr ?_
            refine gp zmv ?_
            refine gp zln ?_
            refine gp zgt ?_
            refine gnt ?_
            refine gif rfl (fun hc45 => ?_) (fun hc45 => ?_)
            · have hk' : 64 ≤ r.length := by (try simp only at hc45); omega
              refine gc_skip ?_
              refine gx_then ?_
              refine gc_block ?_
              refine gsr ?_
              refine gp zmv ?_
              refine gp (r_slice_slice (a := a6) (m := r.length) (c := c6) (l := 0) (h := 64) rfl Ty.sl_86 Ty.sz_5 rfl ⟨_, rfl⟩ (by omega) (by omega)) ?_
              refine zc (fun _ => ?_) (c := fun w1 F1 F2 h1 h2 hd hst => take_ok (tl := []) h1 (hK.mv hst.still) ((rd_row (a := a6) (n := r.length) (c := c6) (xs := r.map B8) h2 hd (by repeat (first | exact Pick.here | apply Pick.there))).cut8 (l := 0) (h := 64) (by omega) hk' hc6))
              refine gnt ?_
              refine gc_region ?_
              refine gp zmv ?_
              refine gp (r_slice_slice (a := a6) (m := r.length) (c := c6) (l := 64) (h := r.length) rfl Ty.sl_86 Ty.sz_5 ⟨_, rfl⟩ rfl (by omega) (by omega)) ?_
              refine gp zas ?_
              refine gl_nil ?_
              refine gx_block_normal ?_
              have hdl : (r.drop 64).length = r.length - 64 := List.length_drop
              refine zrd ((take64 Kc v (r.take 64), r.drop 64, (if c6 = 64 then a6 else a6.map (·.add (64 * 1))), r.length - 64, c6 - 64)) ?_ ?_
              · show (r.drop 64).length < r.length
                omega
              · rintro w' hw
                obtain ⟨F', hF', hst'⟩ := hw.sel (M := [rowR 5 1 a6 r.length c6 (r.map B8), blk b3 278 (v8c (take64 Kc v (r.take 64)) ++ []), blk b2 216 (List.replicate 32 (.int .u8 0)), blk g 281 (v8c s.v ++ [.slice a0 s.rest.length c0, .int .u64 (s.len : Int)]), rowR 5 1 a0 s.rest.length c0 (s.rest.map B8)]) (by repeat (first | exact Sel.nil | (apply Sel.cons; · (repeat (first | exact Pick.here | apply Pick.there)))))
                refine ⟨F', stars_pure_mk ⟨?_, ?_, ?_, hdl.symm⟩ ?_, hst'⟩
                · rw [← hk, takes.eq_1 Kc v r, dif_pos (by omega)]
                · show (r.drop 64).length % 64 = 0; omega
                · show (r.drop 64).length ≤ 256; omega
                · have := stars_tail8 (l := 64) (by omega) hF'
                  exact this
            · have hk' : r = [] := by (try simp only at hc45); exact List.eq_nil_of_length_eq_zero (by omega)
              have hV : (takes Kc s.v (padded s)).1 = v := by rw [← hk, hk', takes_nil]
              rw [hV]
              refine gc_exit ?_
              refine gx_then_exit ?_
              refine gx_round_exit ?_
              refine gx_block_hit ?_
              refine gx_then ?_
              refine gsr ?_
              refine zal fun b6 => ?_
              refine gnt ?_
              refine gc_seq ?_
              refine gsr ?_
              refine gp zmv ?_
              refine gnt ?_
              refine gc_block ?_
              refine gc_loop (α := Nat) (fun k => [pureR (k ≤ 32), blk b6 216 (fnc B8 32 (pfx (outByte v) (fun _ => 0) k)), blk b3 278 (v8c v ++ []), blk b2 216 (List.replicate 32 (.int .u8 0)), blk g 281 (v8c s.v ++ [.slice a0 s.rest.length c0, .int .u64 (s.len : Int)]), rowR 5 1 a0 s.rest.length c0 (s.rest.map B8)]) (fun k => [(51, .int .i64 (k : Int))]) [7, 52, 53, 54, 55, 56, 57, 58, 59, 60, 61, 62, 63, 64, 65, 66] (fun k => 32 - k) 0 ?_ ?_ ?_
              · refine env_start (by kernel_rfl)
              · rintro w' hw
                obtain ⟨F', hF', hst'⟩ := hw.sel (M := [blk b6 216 _, blk b3 278 (v8c v ++ []), blk b2 216 (List.replicate 32 (.int .u8 0)), blk g 281 (v8c s.v ++ [.slice a0 s.rest.length c0, .int .u64 (s.len : Int)]), rowR 5 1 a0 s.rest.length c0 (s.rest.map B8)]) (by repeat (first | exact Sel.nil | (apply Sel.cons; · (repeat (first | exact Pick.here | apply Pick.there)))))
                refine ⟨F', stars_pure_mk (Nat.zero_le _) ?_, hst'⟩
                rw [pfx_zero, fnc_const]
                exact hF'
              · intro k u
                refine gc_pureR (fun hk2 => ?_)
                replace hk2 : k ≤ 32 := hk2
                refine gsr ?_
                refine gp zlt ?_
                refine gnt ?_
                refine gc_seq ?_
                refine gif rfl (fun hc52 => ?_) (fun hc52 => ?_)
                · have hk3 : k < 32 := by (try simp only at hc52); omega
                  refine gc_skip ?_
                  refine gx_then ?_
                  refine gc_seq ?_
                  refine gc_block ?_
                  refine gsr ?_
                  refine gp zmv ?_
                  refine gp zas ?_
                  refine gnt ?_
                  refine gc_region ?_
                  refine gp zmv ?_
                  refine gp zmv ?_
                  refine gp (r_int (r_val (r_quo rfl rfl (by decide)) (congrArg (Value.int .i64) ((congrArg IntKind.i64.wrap (quo_nat (m := k) (k := 4))).trans (wrap_i64 (by omega) (by omega))))) rfl) ?_
                  refine gp (r_indexAddr_arr rfl rfl Ty.arr_278 Ty.sz_259 (by omega) (by omega)) ?_
                  refine gp (r_ld1 (v := W32 (v.get (k / 4))) rfl Ty.row_259 (by repeat (first | exact Pick.here | apply Pick.there)) (by rw [show 0 + ((k / 4 : Nat) : Int).toNat * 1 = k / 4 by omega]; exact get_left (fnc_get (V := W32) (m := 8) (f := v.get) (by omega)))) ?_
                  refine gp zmv ?_
                  refine gp (r_int (r_rem rfl rfl (by decide)) (rem_nat (m := k) (k := 4))) ?_
                  refine gp zml ?_
                  refine gp zsb ?_
                  refine gp (r_shrw (j := 24 - 8 * (k % 4)) rfl rfl (by omega) (by omega)) ?_
                  refine gp (r_convw8 rfl Ty.un_259 Ty.un_5) ?_
                  refine gp (r_indexAddr_arr rfl rfl Ty.arr_216 Ty.sz_5 (by omega) (by omega)) ?_
                  refine gl_store1 (wt0 rfl) rfl rfl rfl Ty.sz_5 (by repeat (first | exact Pick.here | apply Pick.there)) (by rw [fnc_length]; omega) (pfx_set (k := k) (by omega) (by omega) rfl) ?_
                  refine gl_nil ?_
                  refine gx_block_normal ?_
                  refine gx_then ?_
                  refine gc_region ?_
                  refine gp zad ?_
                  refine gp zmv ?_
                  refine gl_nil ?_
                  refine zrd (k + 1) ?_ ?_
                  · show 32 - (k + 1) < 32 - k
                    omega
                  · rintro w' hw
                    obtain ⟨F', hF', hst'⟩ := hw.sel (M := [blk b6 216 _, blk b3 278 (v8c v ++ []), blk b2 216 (List.replicate 32 (.int .u8 0)), blk g 281 (v8c s.v ++ [.slice a0 s.rest.length c0, .int .u64 (s.len : Int)]), rowR 5 1 a0 s.rest.length c0 (s.rest.map B8)]) (by repeat (first | exact Sel.nil | (apply Sel.cons; · (repeat (first | exact Pick.here | apply Pick.there)))))
                    exact ⟨F', stars_pure_mk (show k + 1 ≤ 32 by omega) hF', hst'⟩
                · have hk3 : k = 32 := by (try simp only at hc52); omega
                  subst hk3
                  refine gc_exit ?_
                  refine gx_then_exit ?_
                  refine gx_round_exit ?_
                  refine gx_block_hit ?_
                  refine gx_then ?_
                  refine gsr ?_
                  refine gp (r_ldN rfl Ty.row_216 Ty.sz_216 (by repeat (first | exact Pick.here | apply Pick.there)) (seg_all fnc_length) fnc_length) ?_
                  refine gl_storeN (wt0 rfl) rfl rfl Ty.sz_216 fnc_length (by repeat (first | exact Pick.here | apply Pick.there)) (by simp) (fnc_one fun _ => rfl) (updL_all (by simp [fnc_length])) ?_
                  refine gnt ?_
                  refine gc_ret ?_
                  refine gx_retc rfl rfl (ld_aggS Ty.row_216 Ty.sz_216 (by repeat (first | exact Pick.here | apply Pick.there)) (seg_all fnc_length) fnc_length) ?_
                  rw [pfx_full]
                  exact fun w' hw => ⟨(), rfl, St.hash (hw.sel (M := [blk g 281 (v8c s.v ++ [.slice a0 s.rest.length c0, .int .u64 (s.len : Int)]), rowR 5 1 a0 s.rest.length c0 (s.rest.map B8)]) (by repeat (first | exact Sel.nil | (apply Sel.cons; · (repeat (first | exact Pick.here | apply Pick.there)))))) rfl rfl rfl rfl⟩

end Go.Proofs.YtobjojeliibinaaGreatDoor

/- Walks, by program (wg.py) out of a spec. -/
namespace Go.Proofs.YtobjojeliibinaaGreatDoor
open Go
set_option linter.unusedVariables false
set_option linter.unusedSimpArgs false


def dOf (K : Nat → UInt32) (dom : Int) (parts : List (List UInt8)) : Dig := ⟨hOf K dom parts, hOf_length K dom parts⟩
def hStep (K : Nat → UInt32) (s : HS) (p : List UInt8) : HS := hWrite K (hWrite K s (part4 p.length)) p
def hBeg (K : Nat → UInt32) (dom : Int) : HS := hWrite K hs0 [UInt8.ofNat (dom % 256).toNat]
def pcost (l : List (List UInt8)) : Nat := (l.map fun p => p.length + 4).sum
theorem hWrite_rest (K : Nat → UInt32) (s : HS) (b : List UInt8) : (hWrite K s b).rest.length < 64 := takes_rest K s.v (s.rest ++ b)
theorem hWrite_len (K : Nat → UInt32) (s : HS) (b : List UInt8) : (hWrite K s b).len = s.len + b.length := rfl
theorem hFold (K : Nat → UInt32) : ∀ (l : List (List UInt8)) (s : HS), s.rest.length < 64 → (l.foldl (hStep K) s).rest.length < 64 ∧ (l.foldl (hStep K) s).len = s.len + pcost l
  | [], s, h => ⟨h, by simp [pcost]⟩
  | p :: l, s, h => by
    have := hFold K l (hStep K s p) (hWrite_rest _ _ _)
    refine ⟨this.1, ?_⟩
    rw [List.foldl_cons, this.2]
    simp only [hStep, hWrite_len, part4, pcost, List.map_cons, List.sum_cons, List.length_cons, List.length_nil]
    omega
theorem pcost_take {l : List (List UInt8)} {k : Nat} {p : List UInt8} (h : l[k]? = some p) : pcost (l.take k) + (p.length + 4) ≤ pcost l := by
  have e : l = l.take k ++ p :: l.drop (k + 1) := by
    have hk : k < l.length := (List.getElem?_eq_some_iff.1 h).1
    rw [← (List.getElem?_eq_some_iff.1 h).2, List.getElem_cons_drop, List.take_append_drop]
  have : pcost l = pcost (l.take k) + (p.length + 4) + pcost (l.drop (k + 1)) := by
    conv => lhs; rw [e]
    simp [pcost]; omega
  omega
theorem byte_nat {n : Nat} : Value.int .u8 (IntKind.u8.wrap (n : Int)) = B8 (UInt8.ofNat n) := by
  have h1 : ∀ m : Int, IntKind.u8.wrap m = m % 256 := fun m => by simp [IntKind.wrap, IntKind.bits, IntKind.signed]
  simp only [B8, Value.int.injEq, true_and]
  rw [h1, UInt8.toNat_ofNat']; omega
theorem hOf_cut (K : Nat → UInt32) (dom : Int) (parts : List (List UInt8)) : ((fnc B8 32 (outByte (takes K (parts.foldl (hStep K) (hBeg K dom)).v (padded (parts.foldl (hStep K) (hBeg K dom)))).1)).drop 0).take 16 = dc (dOf K dom parts) := by
  rw [List.drop_zero, fnc_sum, ← List.map_take]; rfl
theorem foldl_step {α β : Type} (f : β → α → β) (l : List α) (s : β) {k : Nat} {x : α} (h : l[k]? = some x) : (l.take (k + 1)).foldl f s = f ((l.take k).foldl f s) x := by
  rw [List.take_add_one, h]; simp

attribute [local irreducible] Gl Gc Gx Gs Runs Wt

set_option maxHeartbeats 400000 in
theorem of_ok {w : World} {F : Nat → Prop} {dom : Int} {parts : List (List UInt8)} {a : Option Addr} {n c : Nat} (h : stars [] w F) (hK : KR w (fun k => ¬ F k)) (hx : RdList (RdBytes w fun k => ¬ F k) w (fun k => ¬ F k) 1 a n parts) (hb : 1 + pcost parts ≤ 1099511627776) :
    Calls Tryz.prog 87 #[.int .i64 dom, .slice a n c] w (Post w F (fun _ : Unit => .agg (dc (dOf Kc dom parts)).toArray) (fun _ => [])) := by
  have hnl := hx.len (by decide)
  have hmx := hx.max
  simp only [maxLen] at hmx
  refine g_enter (env := [(0, .int .i64 dom), (1, .slice a n c)]) Tryz.func87 rfl h Tryz.ntmps87 rfl rfl ?_
  refine gsr ?_
  refine zal fun b4 => ?_
  refine gnt ?_
  refine gsr ?_
  refine zc (fun g => ?_) (c := fun w1 F1 F2 h1 h2 hd hst => hnew_ok h1)
  refine gp zas ?_
  refine gnt ?_
  refine gsr ?_
  refine gp zmv ?_
  refine gp zmv ?_
  refine gp (r_val (r_conv_int rfl Ty.un_3 Ty.un_5) byte_int) ?_
  refine ze1 fun b14 => ?_
  refine zc (fun _ => ?_) (c := fun w1 F1 F2 h1 h2 hd hst => hwrite_ok (b := [UInt8.ofNat (dom % 256).toNat]) h1 (hK.mv hst.still) (rd_row (xs := [B8 (UInt8.ofNat (dom % 256).toNat)]) h2 hd (by repeat (first | exact Pick.here | apply Pick.there))) (by decide) (by simp [hs0]))
  refine gnt ?_
  refine gc_seq ?_
  refine gsr ?_
  refine gp zmv ?_
  refine gp zln ?_
  refine gp zmv ?_
  refine gnt ?_
  refine gc_block ?_
  refine gc_loop (α := Nat) (fun k => [pureR (k ≤ n), HashR g ((parts.take k).foldl (hStep Kc) (hBeg Kc dom)), blk b4 23 zD]) (fun k => [(18, .int .i64 (k : Int))]) [7, 8, 19, 20, 21, 22, 23, 24, 25, 26, 27, 28, 29, 30, 31, 32, 33, 34, 35, 36, 37, 38, 39, 40, 41] (fun k => n - k) 0 ?_ ?_ ?_
  · refine env_start (by kernel_rfl)
  · rintro w' hw
    obtain ⟨F', hF', hst'⟩ := hw.sel (M := [HashR g (hBeg Kc dom), blk b4 23 zD]) (by repeat (first | exact Sel.nil | (apply Sel.cons; · (repeat (first | exact Pick.here | apply Pick.there)))))
    exact ⟨F', stars_pure_mk (Nat.zero_le _) hF', hst'⟩
  · intro k u
    refine gc_pureR (fun hk => ?_)
    replace hk : k ≤ n := hk
    refine gsr ?_
    refine gp zlt ?_
    refine gnt ?_
    refine gc_seq ?_
    refine gif rfl (fun hc19 => ?_) (fun hc19 => ?_)
    · have hk' : k < n := by (try simp only at hc19); omega
      obtain ⟨ga, o, cs, y, ha, hA, hg, hra, hcl, hly, hrd⟩ := hx.elem (by decide) hk'
      subst ha
      obtain ⟨a', n', c', rfl, hn', hrb⟩ := hrd
      have hny : n' = y.length := by have := hrb.1; simp at this; omega
      have hpc := pcost_take hly
      have hf := hFold Kc (parts.take k) (hBeg Kc dom) (hWrite_rest _ _ _)
      have hbl : (hBeg Kc dom).len = 1 := rfl
      refine gc_skip ?_
      refine gx_then ?_
      refine gc_seq ?_
      refine gc_block ?_
      refine gsr ?_
      refine gp (r_indexAddr_slice rfl rfl Ty.sl_27 Ty.sz_86 (by omega) (by omega)) ?_
      refine gp (r_ld1o rfl Ty.row_86 (hra 0 _ rfl) hA) ?_
      refine gp zas ?_
      refine gnt ?_
      refine gsr ?_
      refine gp zmv ?_
      refine gp zln ?_
      refine gp zas ?_
      refine gnt ?_
      refine gsr ?_
      refine gp zmv ?_
      refine gp zmv ?_
      refine gp zhr ?_
      refine gp (r_val (r_conv_int rfl Ty.un_3 Ty.un_5) (byte_shrI (j := 24) rfl (by decide))) ?_
      refine gp zmv ?_
      refine gp zhr ?_
      refine gp (r_val (r_conv_int rfl Ty.un_3 Ty.un_5) (byte_shrI (j := 16) rfl (by decide))) ?_
      refine gp zmv ?_
      refine gp zhr ?_
      refine gp (r_val (r_conv_int rfl Ty.un_3 Ty.un_5) (byte_shrI (j := 8) rfl (by decide))) ?_
      refine gp zmv ?_
      refine gp (r_val (r_conv_int rfl Ty.un_3 Ty.un_5) byte_nat) ?_
      refine gl_bsls (vs := (part4 n').map B8) (wt0 rfl) Ty.sl_86 Ty.sz_5 Ty.zc_5 rfl rfl (one_B8 _) rfl rfl rfl ?_
      intro b36
      refine zc (fun _ => ?_) (c := fun w1 F1 F2 h1 h2 hd hst => hwrite_ok (b := part4 n') h1 (hK.mv hst.still) (rd_row (xs := (part4 n').map B8) h2 hd (by repeat (first | exact Pick.here | apply Pick.there))) hf.1 (by rw [hf.2]; simp only [part4, List.length_cons, List.length_nil]; omega))
      refine gnt ?_
      refine gc_region ?_
      refine gp zmv ?_
      refine gp zmv ?_
      refine zc (fun _ => ?_) (c := fun w1 F1 F2 h1 h2 hd hst => hwrite_ok (b := y) h1 (hK.mv hst.still) (hrb.mv hst.still) (hWrite_rest _ _ _) (by rw [hWrite_len, hf.2]; simp only [part4, List.length_cons, List.length_nil]; omega))
      refine gl_nil ?_
      refine gx_block_normal ?_
      refine gx_then ?_
      refine gc_region ?_
      refine gp zad ?_
      refine gp zmv ?_
      refine gl_nil ?_
      refine zrd (k + 1) ?_ ?_
      · show n - (k + 1) < n - k
        omega
      · rintro w' hw
        obtain ⟨F', hF', hst'⟩ := hw.sel (M := [HashR g _, blk b4 23 zD]) (by repeat (first | exact Sel.nil | (apply Sel.cons; · (repeat (first | exact Pick.here | apply Pick.there)))))
        refine ⟨F', stars_pure_mk (show k + 1 ≤ n by omega) ?_, hst'⟩
        rw [foldl_step _ _ _ hly]
        rw [hny] at hF'
        exact hF'
    · have hk' : k = parts.length := by (try simp only at hc19); omega
      subst hk'
      have hf := hFold Kc (parts.take parts.length) (hBeg Kc dom) (hWrite_rest _ _ _)
      rw [List.take_length] at hf
      have hbl : (hBeg Kc dom).len = 1 := rfl
      refine gc_exit ?_
      refine gx_then_exit ?_
      refine gx_round_exit ?_
      refine gx_block_hit ?_
      refine gx_then ?_
      refine gsr ?_
      refine gp zmv ?_
      refine zc (fun _ => ?_) (c := fun w1 F1 F2 h1 h2 hd hst => hsum_ok h1 (hK.mv hst.still) (by rw [List.take_length]; exact hf.1) (by rw [List.take_length, hf.2]; omega))
      rw [List.take_length]
      refine zal fun b9 => ?_
      refine gl_storeN (wt0 rfl) rfl rfl Ty.sz_216 fnc_length (by repeat (first | exact Pick.here | apply Pick.there)) (by simp) (fnc_one fun _ => rfl) (updL_all (by simp [fnc_length])) ?_
      refine gnt ?_
      refine gsr ?_
      refine gp (r_slice_arr (l := 0) (h := 16) rfl Ty.arr_216 Ty.sz_5 rfl ⟨_, rfl⟩ (by decide) (by decide) (by decide)) ?_
      refine gp (r_toArr rfl Ty.arr_23 (by decide)) ?_
      refine gp (r_ldN rfl Ty.row_23 Ty.sz_23 (by repeat (first | exact Pick.here | apply Pick.there)) (hOf_cut Kc dom parts) (dc_length _)) ?_
      refine gl_storeN (wt0 rfl) rfl rfl Ty.sz_23 (dc_length _) (by repeat (first | exact Pick.here | apply Pick.there)) (by decide) (dc_one _) (updL_all (by rw [dc_length]; rfl)) ?_
      refine gnt ?_
      refine gc_ret ?_
      refine gx_retc rfl rfl (ld_aggS Ty.row_23 Ty.sz_23 (by repeat (first | exact Pick.here | apply Pick.there)) (by (simp only [List.drop_succ_cons, List.drop_zero, List.take_succ_cons, List.take_zero, List.cons_append, List.nil_append, List.append_assoc, drop_dc, drop_dc', take_dc, take_dc', drop_L, drop_L', take_L, take_L', len_L, Nat.reduceLeDiff, Nat.reduceSub, Nat.reduceAdd, Nat.le_refl, List.length_cons, List.length_append, List.length_nil, dc_length, List.drop_nil, List.take_nil, List.append_nil, List.length_map, List.length_replicate]; first | done | rfl)) (by first | rfl | (simp only [List.drop_succ_cons, List.drop_zero, List.take_succ_cons, List.take_zero, List.cons_append, List.nil_append, List.append_assoc, drop_dc, drop_dc', take_dc, take_dc', drop_L, drop_L', take_L, take_L', len_L, Nat.reduceLeDiff, Nat.reduceSub, Nat.reduceAdd, Nat.le_refl, List.length_cons, List.length_append, List.length_nil, dc_length, List.drop_nil, List.take_nil, List.append_nil, List.length_map, List.length_replicate]; first | done | omega))) ?_
      exact ze ()

end Go.Proofs.YtobjojeliibinaaGreatDoor

/- Walks, by program (wg.py) out of a spec. -/
namespace Go.Proofs.YtobjojeliibinaaGreatDoor
open Go
set_option linter.unusedVariables false
set_option linter.unusedSimpArgs false


def wEnc (m : Msg) : WS := if m.kind < 1 ∨ 6 < m.kind then ⟨4, []⟩ else wMsg m ⟨0, []⟩
def idOf (b : Block) : Dig := if (wBlock b ⟨0, []⟩).err = 0 then dOf Kc 6 [(wBlock b ⟨0, []⟩).bs] else dig0
theorem wVote_len (v : Vote) (s : WS) : (wVote v s).bs.length ≤ s.bs.length + 1198 := by
  have h1 := wAt_len v.epoch v.round s; have h2 := wDig_len v.block (wAt v.epoch v.round s); have h3 := wSigned_len v.sender (wDig v.block (wAt v.epoch v.round s)); unfold wVote; omega
theorem wTmo_len (v : Tmo) (s : WS) : (wTmo v s).bs.length ≤ s.bs.length + 17670 := by
  have h1 := wAt_len v.epoch v.round s; have h2 := wQC_len v.high (wAt v.epoch v.round s); have h3 := wTC_len v.last (wQC v.high (wAt v.epoch v.round s)); have h4 := wSigned_len v.sender (wTC v.last (wQC v.high (wAt v.epoch v.round s))); unfold wTmo; omega
theorem wProp_len (v : Prop') (s : WS) : (wProp v s).bs.length ≤ s.bs.length + 17914 := by
  have h1 := wBlock_len v.block s; have h2 := wTC_len v.last (wBlock v.block s); have h3 := wSigned_len v.sender (wTC v.last (wBlock v.block s)); unfold wProp; omega
theorem wChg_len (c : Chg) (h : c.blocks.length = 3) (s : WS) : (wChg c s).bs.length ≤ s.bs.length + 33686 := by
  have h1 := foldl_len (c := 8485) (fun b s => wBlock_len b s) c.blocks s; have h2 := wQC_len c.qc (c.blocks.foldl (fun s b => wBlock b s) s); rw [h] at h1; unfold wChg; omega
theorem wBody_len (m : Msg) (h : m.chg.blocks.length = 3) (s : WS) : (wBody m s).bs.length ≤ s.bs.length + 33686 := by
  have h1 := wVote_len m.vote s; have h2 := wTmo_len m.tmo s; have h3 := wProp_len m.prop s; have h4 := wDig_len m.wantFrom s; have h5 := wDig_len m.wantBlock (wDig m.wantFrom s); have h6 := wBlock_len m.reply s; have h7 := wChg_len m.chg h s
  unfold wBody; split; omega; split; omega; split; omega; split; omega; split <;> omega
theorem wMsg_len (m : Msg) (h : m.chg.blocks.length = 3) (s : WS) : (wMsg m s).bs.length ≤ s.bs.length + 33687 := by
  have h1 := wNum_len m.kind 1 s; have h2 := wBody_len m h (wNum m.kind 1 s); unfold wMsg; omega
theorem RdMsg.three {w : World} {A : Nat → Prop} {cs : List Value} {m : Msg} (h : RdMsg w A cs m) : m.chg.blocks.length = 3 := by
  obtain ⟨v, t, p, r, c, h1, h2, h3, h4, h5, h6⟩ := h; obtain ⟨css, q, h1, h2, h3, h4, h5, h6⟩ := h6; exact h4
theorem RdList.single {α : Type} {rd : List Value → α → Prop} {w : World} {A : Nat → Prop} {size : Nat} {a : Option Addr} {cs : List Value} {x : α} (hr : RdRow w A size a 1 cs) (hx : rd cs x) : RdList rd w A size a 1 [x] :=
  ⟨[cs], by simpa using hr, by simpa using hr.1, rfl, fun i c y h1 h2 => by
    cases i with
    | zero => simp at h1 h2; subst h1; subst h2; exact hx
    | succ i => simp at h1⟩
theorem rd_le {L L' : List Res} {w : World} {F2 : Nat → Prop} {e size n c : Nat} {a : Option Addr} {xs : List Value} (h2 : stars L w F2) (hp : Pick L (rowR e size a n c xs) L') : n ≤ c := by
  obtain ⟨F', h', hs⟩ := stars_pick hp h2; exact h'.2.1

attribute [local irreducible] Gl Gc Gx Gs Runs Wt






set_option maxHeartbeats 400000 in
theorem id_ok {w : World} {F : Nat → Prop} {TE : Nat} {ea : Nat → Addr} {cs : List Value} {x : Block} (h : stars [] w F) {es : List Nat} [Has es 1] (hE : GErr es w (fun k => ¬ F k) TE ea) (hK : KR w (fun k => ¬ F k)) (hx : RdBlock w (fun k => ¬ F k) cs x) :
    Calls Tryz.prog 32 #[.agg cs.toArray] w (Post w F (fun _ : Unit => .tuple #[.agg (dc (idOf x)).toArray, eV TE ea (wBlock x ⟨0, []⟩).err]) (fun _ => [])) := by
  have hl := hx.len
  have hbl := wBlock_len x ⟨0, []⟩
  simp only [List.length_nil] at hbl
  refine g_enter (env := [(0, .agg cs.toArray)]) Tryz.func32 rfl h Tryz.ntmps32 rfl rfl ?_
  refine gsr ?_
  refine zbN fun b1 => ?_
  refine zal fun b2 => ?_
  refine gp zas ?_
  refine gnt ?_
  refine gsr ?_
  refine gp (r_ldN rfl Ty.row_30 Ty.sz_30 (by repeat (first | exact Pick.here | apply Pick.there)) (seg_all hl) hl) ?_
  refine zc (fun r8 => ?_) (c := fun w1 F1 F2 h1 h2 hd hst => bytes_ok h1 (hE.mv hst.still) (hx.mv hst.still))
  refine gp zmv ?_
  refine gp zex ?_
  refine gp zex ?_
  refine gp zas ?_
  refine gp zas ?_
  refine gnt ?_
  refine gc_seq ?_
  refine gsr ?_
  refine gp zmv ?_
  refine gp (r_nenil rfl (by kernel_rfl)) ?_
  refine gnt ?_
  refine gif rfl (fun hc12 => ?_) (fun hc12 => ?_)
  · try simp only at hc12
    have he : ¬ (wBlock x ⟨0, []⟩).err = 0 := by simpa using hc12
    refine gsr ?_
    refine gp zba ?_
    refine gp zmv ?_
    refine gl_storeN (wt0 rfl) (new := dc dig0) rfl rfl Ty.sz_23 (dc_length _) (by repeat (first | exact Pick.here | apply Pick.there)) (by decide) (dc_one _) (updL_all (by rw [dc_length]; rfl)) ?_
    refine gp zas ?_
    refine gnt ?_
    refine gc_ret ?_
    refine gx_then_ret ?_
    refine gx_retct rfl rfl (by conv => lhs; whnf) (ld_aggS Ty.row_23 Ty.sz_23 (by repeat (first | exact Pick.here | apply Pick.there)) (by (simp only [List.drop_succ_cons, List.drop_zero, List.take_succ_cons, List.take_zero, List.cons_append, List.nil_append, List.append_assoc, drop_dc, drop_dc', take_dc, take_dc', drop_L, drop_L', take_L, take_L', len_L, Nat.reduceLeDiff, Nat.reduceSub, Nat.reduceAdd, Nat.le_refl, List.length_cons, List.length_append, List.length_nil, dc_length, List.drop_nil, List.take_nil, List.append_nil, List.length_map, List.length_replicate]; first | done | rfl)) (by first | rfl | (simp only [List.drop_succ_cons, List.drop_zero, List.take_succ_cons, List.take_zero, List.cons_append, List.nil_append, List.append_assoc, drop_dc, drop_dc', take_dc, take_dc', drop_L, drop_L', take_L, take_L', len_L, Nat.reduceLeDiff, Nat.reduceSub, Nat.reduceAdd, Nat.le_refl, List.length_cons, List.length_append, List.length_nil, dc_length, List.drop_nil, List.take_nil, List.append_nil, List.length_map, List.length_replicate]; first | done | omega))) ?_
    exact fun w' hw => ⟨(), by rw [idOf, if_neg he], hw.sel (by repeat (first | exact Sel.nil | (apply Sel.cons; · (repeat (first | exact Pick.here | apply Pick.there)))))⟩
  · try simp only at hc12
    have he : (wBlock x ⟨0, []⟩).err = 0 := by simpa using hc12
    refine gc_skip ?_
    refine gx_then ?_
    refine gsr ?_
    refine gp zmv ?_
    refine ze1 fun b16 => ?_
    refine zc (fun _ => ?_) (c := fun w1 F1 F2 h1 h2 hd hst => of_ok (parts := [wOut (wBlock x ⟨0, []⟩)]) h1 (hK.mv hst.still) (RdList.single (rd_row (xs := [.slice r8.1 (wOut (wBlock x ⟨0, []⟩)).length r8.2]) h2 hd (by repeat (first | exact Pick.here | apply Pick.there))) ⟨_, _, _, rfl, rd_le (xs := (wOut (wBlock x ⟨0, []⟩)).map B8) h2 (by repeat (first | exact Pick.here | apply Pick.there)), rd_row (xs := (wOut (wBlock x ⟨0, []⟩)).map B8) h2 hd (by repeat (first | exact Pick.here | apply Pick.there))⟩) (by simp only [pcost, wOut, List.map_cons, List.map_nil, List.sum_cons, List.sum_nil]; split <;> simp <;> omega))
    refine gl_storeN (wt0 rfl) rfl rfl Ty.sz_23 (dc_length _) (by repeat (first | exact Pick.here | apply Pick.there)) (by decide) (dc_one _) (updL_all (by rw [dc_length]; rfl)) ?_
    refine gp zas ?_
    refine gnt ?_
    refine gc_ret ?_
    refine gx_retct rfl rfl (by conv => lhs; whnf) (ld_aggS Ty.row_23 Ty.sz_23 (by repeat (first | exact Pick.here | apply Pick.there)) (by (simp only [List.drop_succ_cons, List.drop_zero, List.take_succ_cons, List.take_zero, List.cons_append, List.nil_append, List.append_assoc, drop_dc, drop_dc', take_dc, take_dc', drop_L, drop_L', take_L, take_L', len_L, Nat.reduceLeDiff, Nat.reduceSub, Nat.reduceAdd, Nat.le_refl, List.length_cons, List.length_append, List.length_nil, dc_length, List.drop_nil, List.take_nil, List.append_nil, List.length_map, List.length_replicate]; first | done | rfl)) (by first | rfl | (simp only [List.drop_succ_cons, List.drop_zero, List.take_succ_cons, List.take_zero, List.cons_append, List.nil_append, List.append_assoc, drop_dc, drop_dc', take_dc, take_dc', drop_L, drop_L', take_L, take_L', len_L, Nat.reduceLeDiff, Nat.reduceSub, Nat.reduceAdd, Nat.le_refl, List.length_cons, List.length_append, List.length_nil, dc_length, List.drop_nil, List.take_nil, List.append_nil, List.length_map, List.length_replicate]; first | done | omega))) ?_
    exact fun w' hw => ⟨(), by rw [idOf, if_pos he, wOut, if_pos he, he, eV_zero], hw.sel (by repeat (first | exact Sel.nil | (apply Sel.cons; · (repeat (first | exact Pick.here | apply Pick.there)))))⟩

end Go.Proofs.YtobjojeliibinaaGreatDoor

/- The engine, part K: strings. -/
namespace Go.Proofs.YtobjojeliibinaaGreatDoor
open Go
set_option linter.unusedVariables false
set_option linter.unusedSimpArgs false

theorem St.mapL0 {w0 w : World} {F0 : Nat → Prop} {L L' : List Res} (h : St w0 F0 L w) (k : ∀ F, stars L w F → stars L' w F) : St w0 F0 L' w := by
  obtain ⟨F, hF, hst⟩ := h; exact ⟨F, k F hF, hst⟩
theorem str_append (a b : List UInt8) : str a ++ str b = str (a ++ b) := by
  apply ByteArray.ext
  simp [str]
section
variable {P : Program} {w0 : World} {F0 : Nat → Prop} {L : List Res} {Q : Exit → Act → World → Prop} {n : Fm} {env : Env} {ops : Array Oper} {rest : List Oper}
variable {d : Option Tmp} {t : Tmp} {ty : TypeId} {pos : String} {af : Array Edge} {gd : Option (Nat × Bool)}
theorem zcat {x y : Operand} {T T' : TypeId} {a b : List UInt8} [UNT P T .string] (hx : ev n env x = .string (str a) := by exact rfl) (hy : ev n env y = .string (str b) := by exact rfl) (hl : a.length + b.length ≤ 9223372036854775807 := by omega) :
    Runs P w0 F0 L n env ⟨d, .binOp .add T x y T', ty, pos, af, gd⟩ (.string (str (a ++ b))) := fun w _ => by
  simp [execOp, hx, hy, eqGuard, binOp, Op.stringOp, str_append]
  rw [str_size, str_size]
  omega
theorem zlS {x : Operand} {T : TypeId} {b : List UInt8} [UNT P T .string] (hx : ev n env x = .string (str b) := by exact rfl) :
    Runs P w0 F0 L n env ⟨d, .call ⟨.builtin .len, #[x], #[T]⟩, ty, pos, af, gd⟩ (.int .i64 b.length) := r_val (r_len_string hx UNT.h) (by rw [str_size])
/-- []byte(s). -/
theorem gl_ofs {x : Operand} {S T e : TypeId} {b : List UInt8} (hw : Wt ops n env ⟨some t, .convert S T x, ty, pos, af, gd⟩ true) (hx : ev n env x = .string (str b)) {u : TypeDesc} (hs : P.underlying S = some u) (hd : P.underlying T = some (.slice e)) (he : P.underlying e = some (.int .u8)) (hl : b.length ≤ maxLen)
    (k : ∀ g c, Gl P w0 F0 (rowR e 1 (some ⟨g, 0, none⟩) b.length c (b.map B8) :: L) ops Q rest n ((t, .slice (some ⟨g, 0, none⟩) b.length c) :: env)) : Gl P w0 F0 L ops Q (⟨some t, .convert S T x, ty, pos, af, gd⟩ :: rest) n env := by
  refine gl_effx (α := Nat × Nat) (L' := fun p => rowR e 1 (some ⟨p.1, 0, none⟩) b.length p.2 (b.map B8) :: L) (v := fun p => .slice (some ⟨p.1, 0, none⟩) b.length p.2) hw (fun w hst => ?_) (fun p => k p.1 p.2)
  have hr := Lib.run_convert_string_bytes (P := P) w S T e (str b) hs hd he
  refine ⟨(w.heap.size, grownCap w (str b).size 0 e), Lib.bytesWorld w e (str b), ?_, ?_⟩
  · simp only [execOp, hx, str_size] at hr ⊢
    simp [hr]
  · have hge := grownCap_ge w (str b).size 0 e
    have hle := grownCap_le_maxLen w (str b).size 0 e (by rw [str_size]; exact hl)
    have hsz : (Lib.bytesCells w e (str b)).size = grownCap w (str b).size 0 e := by
      simp only [Lib.bytesCells, Array.size_append, Array.size_map, Array.size_replicate]
      have : (str b).data.size = (str b).size := rfl
      omega
    refine hst.newRow (w' := Lib.bytesWorld w e (str b)) (cs := Lib.bytesCells w e (str b)) (fz := ((Lib.bytesCells w e (str b)).size, (Lib.bytesCells w e (str b)).size + 1)) ?_ ?_ ?_ ?_ ?_ ?_ ?_ hle ?_
    · apply Array.ext_getElem?
      intro j
      rw [Array.getElem?_push]
      split
      · rename_i h; subst h; exact Lib.bytesWorld_at_new w e (str b)
      · by_cases hj : j < w.heap.size
        · exact Lib.bytesWorld_at_old w e (str b) j hj
        · rw [Array.getElem?_eq_none (by rw [Lib.bytesWorld_size]; omega), Array.getElem?_eq_none (by omega)]
    · rfl
    · rfl
    · rfl
    · intro i hi h; simp only at h; omega
    · have e1 : (Lib.bytesCells w e (str b)).toList = b.map B8 ++ List.replicate (grownCap w (str b).size 0 e - (str b).size) (.int .u8 0) := by
        simp only [Lib.bytesCells, Array.toList_append, Array.toList_map, Array.toList_replicate]
        rfl
      rw [e1, Nat.mul_one]
      exact List.take_left' (by simp)
    · rw [str_size] at hge; exact hge
    · rw [hsz]; omega
theorem zob {x : Operand} {S T e : TypeId} {b : List UInt8} [UNT P S .string] [SLT P T e] [UNT P e (.int .u8)] (k : ∀ g c, Gl P w0 F0 (rowR e 1 (some ⟨g, 0, none⟩) b.length c (b.map B8) :: L) ops Q rest n ((t, .slice (some ⟨g, 0, none⟩) b.length c) :: env)) (hx : ev n env x = .string (str b) := by exact rfl)
    (hl : b.length ≤ maxLen := by simp only [maxLen]; omega) (hw : Wt ops n env ⟨some t, .convert S T x, ty, pos, af, gd⟩ true := by first | exact wt0 rfl | exact wtgT rfl rfl rfl rfl) : Gl P w0 F0 L ops Q (⟨some t, .convert S T x, ty, pos, af, gd⟩ :: rest) n env :=
  gl_ofs hw hx UNT.h (run_sliceT SLT.h) UNT.h hl k
/-- string(b) of an owned row. -/
theorem zso {x : Operand} {S T e : TypeId} {a : Option Addr} {m c : Nat} {b : List UInt8} {L' : List Res} [SLT P S e] [UNT P e (.int .u8)] [UNT P T .string] (hx : ev n env x = .slice a m c := by exact rfl) (hp : Pick L (rowR e 1 a m c (b.map B8)) L' := by repeat (first | exact Pick.here | apply Pick.there)) :
    Runs P w0 F0 L n env ⟨d, .convert S T x, ty, pos, af, gd⟩ (.string (str b)) := r_str hx SLT.h UNT.h UNT.h (fun w hw => hw.row hp)
/-- copy into an array of one's own, all of the source. -/
theorem gl_copy {x y : Operand} {T S e size g o m c j c2 T' : Nat} {a2 : Option Addr} {cs news : List Value} {L' : List Res} [SLT P T e] [SZ P e size]
    (hx : ev n env x = .slice (some ⟨g, o, none⟩) m c := by exact rfl) (hy : ev n env y = .slice a2 j c2 := by exact rfl) (hp : Pick L (blk g T' cs) L' := by repeat (first | exact Pick.here | apply Pick.there))
    (hr : ∀ w, St w0 F0 L w → RdRow w (fun _ => True) size a2 j news) (hj : j ≤ m) (h1 : ∀ u ∈ news, u.oneCell' = true) (hl : o + j * size ≤ cs.length)
    (k : Gl P w0 F0 (blk g T' (updL cs o news) :: L') ops Q rest n ((t, .int .i64 j) :: env))
    (hw : Wt ops n env ⟨some t, .call ⟨.builtin .copy, #[x, y], #[T, S]⟩, ty, pos, af, gd⟩ true := by first | exact wt0 rfl | exact wtgT rfl rfl rfl rfl) : Gl P w0 F0 L ops Q (⟨some t, .call ⟨.builtin .copy, #[x, y], #[T, S]⟩, ty, pos, af, gd⟩ :: rest) n env := by
  refine gl_eff (L' := blk g T' (updL cs o news) :: L') (v := .int .i64 j) hw (fun w hst => ?_) k
  have hrow := hr w hst
  obtain ⟨w', hs, hst'⟩ := hst.store (P := P) (new := news) hp (by rw [hrow.1]; exact hl) h1
  refine ⟨w', ?_, hst'⟩
  have hf := hrow.first (P := P) (c := c2)
  have hmin : Nat.min j m = j := Nat.min_eq_left hj
  simp [execOp, resolve, invoke, builtin, Builtin.copy_, hx, hy, run_underlying (run_sliceT (SLT.h (P := P) (T := T))), Builtin.lenOf, run_sz (SZ.h (P := P) (T := e)), hmin, hf, hs, goInt]
/-- A block's cells, written another way. -/
theorem gl_eqc {g T : Nat} {cs cs' : List Value} {L' : List Res} (hp : Pick L (blk g T cs) L') (e : cs = cs') (k : Gl P w0 F0 (blk g T cs' :: L') ops Q rest n env) : Gl P w0 F0 L ops Q rest n env := by
  subst e
  exact fun w hw => k w (hw.mapL0 fun F hF => hp.stars hF)
theorem gc_eqc {c : Code} {g T : Nat} {cs cs' : List Value} {L' : List Res} (hp : Pick L (blk g T cs) L') (e : cs = cs') (k : Gc P w0 F0 (blk g T cs' :: L') c Q n env) : Gc P w0 F0 L c Q n env := by
  subst e
  exact fun w hw => k w (hw.mapL0 fun F hF => hp.stars hF)
end
instance {b : ByteArray} : One1 (.string b) := ⟨rfl⟩
end Go.Proofs.YtobjojeliibinaaGreatDoor

/- The engine, part L: two variables made in either order. -/
namespace Go.Proofs.YtobjojeliibinaaGreatDoor
open Go
set_option linter.unusedVariables false
theorem Sel.head {r : Res} {L M L' : List Res} (h : Sel L M L') : Sel (r :: L) M (r :: L') := by
  induction h with
  | nil => exact Sel.nil
  | cons p _ ih => exact Sel.cons (Pick.there p) ih
theorem env_swap {t u : Nat} {v x : Value} {env : Env} (h : Nat.beq t u = false) (s : Nat) : Env.get ((t, v) :: (u, x) :: env) s = Env.get ((u, x) :: (t, v) :: env) s := by
  show (bif Nat.beq s t then v else (bif Nat.beq s u then x else Env.get env s)) = (bif Nat.beq s u then x else (bif Nat.beq s t then v else Env.get env s))
  cases h1 : Nat.beq s t <;> cases h2 : Nat.beq s u <;> try rfl
  rw [← Nat.eq_of_beq_eq_true h1, ← Nat.eq_of_beq_eq_true h2, Nat.beq_refl] at h
  cases h
theorem st_swap {w0 : World} {F0 : Nat → Prop} {r s : Res} {L : List Res} {w : World} (h : St w0 F0 (r :: s :: L) w) : St w0 F0 (s :: r :: L) w := by
  obtain ⟨F, hF, hst⟩ := h
  exact ⟨F, Pick.stars (.there .here) hF, hst⟩
section
variable {P : Program} {w0 : World} {F0 : Nat → Prop} {K L : List Res} {Q : Exit → Act → World → Prop} {n : Fm} {env : Env} {ops : Array Oper} {listed : Array Bool} {fuel z : Nat}
/-- Two new variables, in either order. -/
theorem yas2 (i j : Nat) {ti tj : Tmp} {Ti Tj : TypeId} {yi yj : TypeId} {qi qj : String} {fi fj : Array Edge} {gi gj : Option (Nat × Bool)} {ci cj : List Value} {L' : List Res} [ZC P Ti ci] [ZC P Tj cj]
    (hi : ops[i]? = some ⟨some ti, .alloc Ti, yi, qi, fi, gi⟩) (hj : ops[j]? = some ⟨some tj, .alloc Tj, yj, qj, fj, gj⟩)
    (k : ∀ bi bj, Gt P w0 F0 K (blk bj Tj cj :: blk bi Ti ci :: L) ops Q z fuel ((listed.setIfInBounds i true).setIfInBounds j true) n ((tj, .pointer (some ⟨bj, 0, none⟩)) :: (ti, .pointer (some ⟨bi, 0, none⟩)) :: env))
    (hsel : Sel L K L' := by repeat (first | exact Sel.nil | (apply Sel.cons; · (repeat (first | exact Pick.here | apply Pick.there)))))
    (hwi : ∀ env, Wt ops n env ⟨some ti, .alloc Ti, yi, qi, fi, gi⟩ true := by exact fun _ => wt0 rfl) (hwj : ∀ env, Wt ops n env ⟨some tj, .alloc Tj, yj, qj, fj, gj⟩ true := by exact fun _ => wt0 rfl)
    (ht : Nat.beq ti tj = false := by kernel_rfl) (hij : Nat.beq i j = false := by kernel_rfl) (hzi : Nat.beq i z = false := by kernel_rfl) (hzj : Nat.beq j z = false := by kernel_rfl)
    (hr : Region.ready .any ops listed = [i, j] := by kernel_rfl) (hri : Region.ready .any ops (listed.setIfInBounds i true) = [j] := by kernel_rfl) (hrj : Region.ready .any ops (listed.setIfInBounds j true) = [i] := by kernel_rfl) :
    Gt P w0 F0 K L ops Q z (fuel + 2) listed n env := fun w hst => by
  refine ⟨fun h => ?_, ?_, fun x hx hxz => ?_⟩
  · rw [hr] at h; cases h
  · rw [hr]; simp
  · rw [hr] at hx
    rcases List.mem_cons.1 hx with rfl | hx
    · refine wpOpIn_of_list hi ?_
      refine zal (fun bi => ?_) (hw := hwi _) w hst
      refine gl_nil fun w2 hw2 => ⟨(hw2.sel (Sel.head hsel)), ?_⟩
      exact yos (fuel := fuel) j hj (zal (fun bj => gl_nil fun w3 hw3 => ⟨hw3.sel (Sel.head (Sel.head hsel)), k bi bj w3 hw3⟩) (hw := hwj _)) (hr := hri) (hz := hzj) w2 hw2
    · obtain rfl : x = j := by simpa using hx
      refine wpOpIn_of_list hj ?_
      refine zal (fun bj => ?_) (hw := hwj _) w hst
      refine gl_nil fun w2 hw2 => ⟨(hw2.sel (Sel.head hsel)), ?_⟩
      refine yos (fuel := fuel) i hi (zal (fun bi => gl_nil fun w3 hw3 => ⟨hw3.sel (Sel.head (Sel.head hsel)), ?_⟩) (hw := hwi _)) (hr := hrj) (hz := hzi) w2 hw2
      have := k bi bj w3 (st_swap hw3)
      rw [fr_ext (fun t _ => env_swap (by rw [Bool.eq_false_iff] at ht ⊢; intro e; exact ht (by rw [Nat.eq_of_beq_eq_true e]; exact Nat.beq_refl _)) t)] at this
      rw [Array.setIfInBounds_comm _ _ (by intro e; subst e; simp at hij)] at this
      exact this
end
end Go.Proofs.YtobjojeliibinaaGreatDoor

/- The engine, part M: make([]T, n), n read off; a block as a row. -/
namespace Go.Proofs.YtobjojeliibinaaGreatDoor
open Go
set_option linter.unusedVariables false
set_option linter.unusedSimpArgs false
theorem madeCells_one (v : Value) (n : Nat) : (madeCells #[v] n).toList = List.replicate n v := by
  apply List.ext_getElem?
  intro i
  simp only [madeCells, Array.toList_map, Array.toList_range, List.getElem?_map, List.getElem?_replicate, List.getElem?_range']
  by_cases h : i < n
  · simp [h, List.getElem?_range h, Nat.mod_one]
  · simp [h, List.getElem?_eq_none]
theorem stars_blk_row {w : World} {F : Nat → Prop} {L : List Res} {b e n : Nat} {cs : List Value} (h : stars (blk b e cs :: L) w F) (hl : cs.length = n) (hn : n ≤ maxLen) : stars (rowR e 1 (some ⟨b, 0, none⟩) n n cs :: L) w F := by
  obtain ⟨F1, F2, ⟨hF1, fz, h1, hz⟩, h2, hF, hd⟩ := h
  refine ⟨F1, F2, ⟨by omega, Nat.le_refl _, hn, .inr ⟨b, 0, cs.toArray, fz, rfl, hF1, h1, by simpa using hz, by simp; omega, ?_⟩⟩, h2, hF, hd⟩
  simp only [List.drop_zero]
  exact List.take_of_length_le (by omega)
section
variable {P : Program} {w0 : World} {F0 : Nat → Prop} {L : List Res} {Q : Exit → Act → World → Prop} {n : Fm} {env : Env} {ops : Array Oper} {rest : List Oper} {ty : TypeId} {pos : String} {af : Array Edge} {gd : Option (Nat × Bool)}
theorem gl_mk1 {t : Tmp} {T e bytes m : Nat} {x y : Operand} {z : Value} {k k' : IntKind} (hw : Wt ops n env ⟨some t, .makeSlice T x y, ty, pos, af, gd⟩ true) (ht : ElemT P T e 1 bytes) (hz : (P.info? e).map (·.zero) = some (some z)) (hzc : z.cells = #[z])
    (hx : ev n env x = .int k (m : Int)) (hy : ev n env y = .int k' (m : Int)) (hb : bytes * m ≤ 16777216) (hm : m ≤ 16777216)
    (K : ∀ b, Gl P w0 F0 (blk b e (List.replicate m z) :: L) ops Q rest n ((t, .slice (some ⟨b, 0, none⟩) m m) :: env)) : Gl P w0 F0 L ops Q (⟨some t, .makeSlice T x y, ty, pos, af, gd⟩ :: rest) n env := by
  refine gl_effx (α := Nat) (L' := fun b => blk b e (List.replicate m z) :: L) (v := fun b => .slice (some ⟨b, 0, none⟩) m m) hw (fun w hst => ?_) K
  obtain ⟨i, z', hi, hz', hs, hby, _⟩ := ht.info
  have hzz : z' = z := by rw [hi] at hz; simp only [Option.map_some, Option.some.injEq] at hz; rw [hz'] at hz; exact Option.some.inj hz
  subst hzz
  refine ⟨w.heap.size, { w with heap := w.heap.push (.cells (List.replicate m z').toArray e) }, ?_, hst.new⟩
  have hbb : (i.bytes : Int) * (m : Int) ≤ 281474976710656 := by
    rw [hby, ← Int.natCast_mul]; omega
  have hr := run_makeSlice (P := P) (w := w) T e i z' ht.sl hi hz' k k' (m : Int) (m : Int) (by omega) (Int.le_refl _) (by simp [hs]; omega) hbb (by omega)
  simp only [execOp, hx, hy, Sem.run_bind, hr, Result.andThen_ok, Sem.run_pure]
  simp only [Int.toNat_natCast, hs, Nat.mul_one, hzc]
  have e1 : madeCells #[z'] m = (List.replicate m z').toArray := by rw [← madeCells_one]
  rw [e1]
  first | rfl | simp [World.alloc]
end
section two
variable {P : Program} {w0 : World} {F0 : Nat → Prop} {K L : List Res} {Q : Exit → Act → World → Prop} {n : Fm} {env : Env} {ops : Array Oper} {listed : Array Bool} {fuel z : Nat}
/-- One of two comes, then the other. -/
theorem yo2 (i j : Nat) {oi oj : Oper} (hi : ops[i]? = some oi) (hj : ops[j]? = some oj)
    (ki : Gl P w0 F0 L ops (Exit.then (NextH P w0 F0 K ops Q fuel (listed.setIfInBounds i true) n) Q) [oi] n env) (kj : Gl P w0 F0 L ops (Exit.then (NextH P w0 F0 K ops Q fuel (listed.setIfInBounds j true) n) Q) [oj] n env)
    (hr : Region.ready .any ops listed = [i, j] := by kernel_rfl) : Gh P w0 F0 K L ops Q (fuel + 1) listed n env := fun w hst =>
  ⟨fun h => (by rw [hr] at h; cases h), fun x hx => by
    rw [hr] at hx
    rcases List.mem_cons.1 hx with rfl | hx
    · exact wpOpIn_of_list hi (ki w hst)
    · obtain rfl : x = j := by simpa using hx
      exact wpOpIn_of_list hj (kj w hst)⟩
theorem yo2s (i j : Nat) {oi oj : Oper} (hi : ops[i]? = some oi) (hj : ops[j]? = some oj)
    (ki : Gl P w0 F0 L ops (Exit.then (NextT P w0 F0 K ops Q z fuel (listed.setIfInBounds i true) n) Q) [oi] n env) (kj : Gl P w0 F0 L ops (Exit.then (NextT P w0 F0 K ops Q z fuel (listed.setIfInBounds j true) n) Q) [oj] n env)
    (hr : Region.ready .any ops listed = [i, j] := by kernel_rfl) : Gt P w0 F0 K L ops Q z (fuel + 1) listed n env := fun w hst =>
  ⟨fun h => (by rw [hr] at h; cases h), by rw [hr]; simp, fun x hx _ => by
    rw [hr] at hx
    rcases List.mem_cons.1 hx with rfl | hx
    · exact wpOpIn_of_list hi (ki w hst)
    · obtain rfl : x = j := by simpa using hx
      exact wpOpIn_of_list hj (kj w hst)⟩
end two
end Go.Proofs.YtobjojeliibinaaGreatDoor

/- Plain words: ints of a range; what the reference's writer of layer 9 makes of lists is what layer 9's own writer makes of them. No program in sight. -/
namespace Go.Proofs.YtobjojeliibinaaGreatDoor
set_option linter.unusedVariables false

def I64 (n : Int) : Prop := -9223372036854775808 ≤ n ∧ n ≤ 9223372036854775807
def OkSig (x : Sig) : Prop := I64 x.leaf
def OkSigned (x : Signed) : Prop := I64 x.who ∧ OkSig x.sig
def OkQC (x : QC) : Prop := I64 x.epoch ∧ I64 x.round ∧ ∀ v ∈ x.votes, OkSigned v
def OkLate (x : Late) : Prop := I64 x.who ∧ I64 x.high ∧ OkSig x.sig
def OkTC (x : TC) : Prop := I64 x.epoch ∧ I64 x.round ∧ ∀ v ∈ x.lates, OkLate v
def OkVdr (x : Vdr) : Prop := I64 x.power
def OkBlock (x : Block) : Prop := I64 x.epoch ∧ I64 x.round ∧ OkQC x.justify ∧ ∀ v ∈ x.next, OkVdr v
def OkVote (x : Vote) : Prop := I64 x.epoch ∧ I64 x.round ∧ OkSigned x.sender
def OkTmo (x : Tmo) : Prop := I64 x.epoch ∧ I64 x.round ∧ OkQC x.high ∧ OkTC x.last ∧ OkSigned x.sender
def OkProp (x : Prop') : Prop := OkBlock x.block ∧ OkTC x.last ∧ OkSigned x.sender
def OkChg (x : Chg) : Prop := (∀ b ∈ x.blocks, OkBlock b) ∧ OkQC x.qc
def OkMsg (x : Msg) : Prop := I64 x.kind ∧ OkVote x.vote ∧ OkTmo x.tmo ∧ OkProp x.prop ∧ OkBlock x.reply ∧ OkChg x.chg

theorem wFail_bad {k : Nat} {s : WS} (he : ¬ s.err = 0) : wFail k s = s := by unfold wFail; rw [if_neg he]
theorem wFix_bad {b : List UInt8} {s : WS} (he : ¬ s.err = 0) : wFix b s = s := by unfold wFix; rw [if_neg he]
theorem wNum_bad {n : Int} {wd : Nat} {s : WS} (he : ¬ s.err = 0) : wNum n wd s = s := by
  unfold wNum; split
  · exact wFail_bad he
  · exact wFix_bad he
theorem wDig_bad (d : Dig) (s : WS) (he : ¬ s.err = 0) : wDig d s = s := wFix_bad he
theorem foldl_bad {α : Type} {wX : α → WS → WS} (h : ∀ x s, ¬ s.err = 0 → wX x s = s) : ∀ (l : List α) (s : WS), ¬ s.err = 0 → l.foldl (fun s x => wX x s) s = s
  | [], _, _ => rfl
  | x :: l, s, he => by rw [List.foldl_cons, h x s he]; exact foldl_bad h l s he
theorem wPut_bad {α : Type} {wX : α → WS → WS} (h : ∀ x s, ¬ s.err = 0 → wX x s = s) (l : List α) (most : Nat) (s : WS) (he : ¬ s.err = 0) : wPut wX l most s = s := by
  unfold wPut; split
  · exact wFail_bad he
  · rw [wNum_bad he]; exact foldl_bad h l s he
theorem wBytes_bad (b : List UInt8) (most : Nat) (s : WS) (he : ¬ s.err = 0) : wBytes b most s = s := by
  unfold wBytes; split
  · exact wFail_bad he
  · rw [wNum_bad he]; exact wFix_bad he
theorem wSig_bad (x : Sig) (s : WS) (he : ¬ s.err = 0) : wSig x s = s := by
  unfold wSig; rw [wNum_bad he, wPut_bad wDig_bad _ _ _ he, wPut_bad wDig_bad _ _ _ he]
theorem wSigned_bad (x : Signed) (s : WS) (he : ¬ s.err = 0) : wSigned x s = s := by
  unfold wSigned; rw [wNum_bad he, wSig_bad _ _ he]
theorem wLate_bad (x : Late) (s : WS) (he : ¬ s.err = 0) : wLate x s = s := by
  unfold wLate; rw [wNum_bad he, wNum_bad he, wSig_bad _ _ he]
theorem wVdr_bad (x : Vdr) (s : WS) (he : ¬ s.err = 0) : wVdr x s = s := by
  unfold wVdr; rw [wDig_bad _ _ he, wNum_bad he]
/-- How many elements, most at most; and what stands then. -/
def wMany (n most : Nat) (s : WS) : WS := if s.err = 0 ∧ most < n then ⟨1, s.bs⟩ else wNum (n : Int) 1 s
theorem wMany_len (n most : Nat) (s : WS) : (wMany n most s).bs.length ≤ s.bs.length + 1 := by
  unfold wMany; split
  · simp
  · exact wNum_len _ _ _
theorem put_many {α : Type} {wX : α → WS → WS} (h : ∀ x s, ¬ s.err = 0 → wX x s = s) (l : List α) {most : Nat} (hm : most ≤ 255) (s : WS) : l.foldl (fun s x => wX x s) (wMany l.length most s) = wPut wX l most s := by
  by_cases he : s.err = 0
  · unfold wMany wPut
    by_cases hn : most < l.length
    · rw [if_pos ⟨he, hn⟩, if_pos (.inl hn), foldl_bad h _ _ (by simp)]
      unfold wFail; rw [if_pos he]
    · rw [if_neg (fun hh => hn hh.2), if_neg (by omega)]
  · rw [wPut_bad h l most s he]
    unfold wMany
    rw [if_neg (fun hh => he hh.1), wNum_bad he]
    exact foldl_bad h l s he
theorem many_bound {α : Type} {wX : α → WS → WS} {c M : Nat} (h : ∀ x s, (wX x s).bs.length ≤ s.bs.length + c) (hb : ∀ x s, ¬ s.err = 0 → wX x s = s) {l : List α} {s : WS} {most k : Nat} (hk : k < l.length) (hm : 1 ≤ most) (hM : s.bs.length + (1 + most * c) ≤ M) :
    ((l.take k).foldl (fun s x => wX x s) (wMany l.length most s)).bs.length + c ≤ M := by
  have h4 : 1 * c ≤ most * c := Nat.mul_le_mul_right _ hm
  have bad : ∀ t : WS, ¬ t.err = 0 → t.bs.length ≤ s.bs.length → ((l.take k).foldl (fun s x => wX x s) t).bs.length + c ≤ M := fun t ht hl => by
    rw [foldl_bad hb _ _ ht]; omega
  by_cases he : s.err = 0
  · unfold wMany
    by_cases hn : most < l.length
    · rw [if_pos ⟨he, hn⟩]; exact bad _ (by simp) (Nat.le_refl _)
    · rw [if_neg (fun hh => hn hh.2)]
      have h1 := foldl_len h (l.take k) (wNum (l.length : Int) 1 s)
      have h2 := wNum_len (l.length : Int) 1 s
      have h3 : (l.take k).length = k := by rw [List.length_take]; omega
      have h5 : (k + 1) * c ≤ most * c := Nat.mul_le_mul_right _ (by omega)
      rw [h3] at h1
      rw [Nat.add_mul, Nat.one_mul] at h5
      omega
  · have e : wMany l.length most s = s := by unfold wMany; rw [if_neg (fun hh => he hh.1), wNum_bad he]
    rw [e]; exact bad s he (Nat.le_refl _)
/-- A list of bytes, as the reference writes it. -/
def wTx0 (n : Nat) (s : WS) : WS := wNum (n : Int) 2 (if s.err = 0 ∧ 16 < n then ⟨1, s.bs⟩ else s)
theorem wTx_eq (b : List UInt8) (s : WS) : wFix b (wTx0 b.length s) = wBytes b 16 s := by
  unfold wTx0 wBytes
  by_cases he : s.err = 0
  · by_cases hn : 16 < b.length
    · rw [if_pos ⟨he, hn⟩, if_pos (.inl hn), wNum_bad (by simp), wFix_bad (by simp)]
      unfold wFail; rw [if_pos he]
    · rw [if_neg (fun hh => hn hh.2), if_neg (by omega)]
  · rw [if_neg (fun hh => he hh.1), wNum_bad he, wFix_bad he]
    split
    · rw [wFail_bad he]
    · rfl
theorem wTx0_len (n : Nat) (s : WS) : (wTx0 n s).bs.length ≤ s.bs.length + 2 := by
  unfold wTx0; split
  · exact wNum_len _ _ _
  · exact wNum_len _ _ _
end Go.Proofs.YtobjojeliibinaaGreatDoor

/- Walks, by program (wg.py) out of a spec. -/
namespace Go.Proofs.YtobjojeliibinaaGreatDoor
open Go
set_option linter.unusedVariables false
set_option linter.unusedSimpArgs false


def quoN (n : Int) : Nat → Int
  | 0 => n
  | k + 1 => quoN n k / 256
theorem quoN_eq (n : Int) : ∀ k, quoN n k = n / 256 ^ k
  | 0 => by simp [quoN]
  | k + 1 => by rw [quoN, quoN_eq n k, Int.pow_succ, Int.ediv_ediv_of_nonneg (Int.le_of_lt (Int.pow_pos (by decide)))]
theorem quoN_range {n : Int} (h : I64 n) (h0 : 0 ≤ n) : ∀ k, 0 ≤ quoN n k ∧ quoN n k ≤ 9223372036854775807
  | 0 => ⟨h0, h.2⟩
  | k + 1 => by have := quoN_range h h0 k; simp only [quoN]; omega
theorem quo_step {n : Int} {k : Nat} (h : I64 n) (h0 : 0 ≤ n) : IntKind.i64.wrap ((quoN n k).tdiv 256) = quoN n (k + 1) := by
  have h1 := quoN_range h h0 k
  rw [Int.tdiv_eq_ediv_of_nonneg h1.1, quoN]
  exact wrap_i64 (by omega) (by omega)
theorem fits_zero {n : Int} {wd : Nat} (h0 : 0 ≤ n) : (quoN n wd = 0) ↔ n < 256 ^ wd := by
  have hp : (0 : Int) < 256 ^ wd := Int.pow_pos (by decide)
  rw [quoN_eq]
  refine ⟨fun h => ?_, fun h => Int.ediv_eq_zero_of_lt h0 h⟩
  have h1 := Int.mul_ediv_add_emod n (256 ^ wd)
  have h2 := Int.emod_lt_of_pos n hp
  rw [h, Int.mul_zero, Int.zero_add] at h1
  omega

attribute [local irreducible] Gl Gc Gx Gs Runs Wt

set_option maxHeartbeats 400000 in
theorem fits_ok {w : World} {F : Nat → Prop} {n : Int} {wd : Nat} (h : stars [] w F) (h1 : 1 ≤ wd) (h7 : wd ≤ 7) (hn : I64 n) :
    Calls Tryz.prog 188 #[.int .i64 n, .int .i64 (wd : Int)] w (Post w F (fun _ : Unit => .bool (decide (0 ≤ n ∧ n < 256 ^ wd))) (fun _ => [])) := by
  refine g_enter (env := [(0, .int .i64 n), (1, .int .i64 (wd : Int))]) Tryz.func188 rfl h Tryz.ntmps188 rfl rfl ?_
  refine gsr ?_
  refine gp zas ?_
  refine gnt ?_
  refine gc_seq ?_
  refine gsr ?_
  refine gp zmv ?_
  refine gp (r_bool (c := false) zlt (decide_eq_false (by omega))) ?_
  refine gp zmv ?_
  refine gq zmv ?_
  refine gq (r_bool (c := false) zgt (decide_eq_false (by omega))) ?_
  refine gp zpk ?_
  refine gp zmv ?_
  refine gq zmv ?_
  refine gq zlt ?_
  refine gp zpk ?_
  refine gnt ?_
  refine gif rfl (fun hc15 => ?_) (fun hc15 => ?_)
  · refine gsr ?_
    refine gp zas ?_
    refine gnt ?_
    refine gc_ret ?_
    refine gx_then_ret ?_
    refine gx_ret1 rfl (by conv => lhs; whnf) ?_
    rw [decide_eq_false (fun h => by omega)]
    exact ze ()
  · try simp only at hc15
    have h0 : 0 ≤ n := by omega
    refine gc_skip ?_
    refine gx_then ?_
    refine gc_seq ?_
    refine gsr ?_
    refine gp zas ?_
    refine gnt ?_
    refine gc_block ?_
    refine gc_loop (α := Nat) (fun k => [pureR (k ≤ wd)]) (fun k => [(5, .int .i64 (k : Int)), (0, .int .i64 (quoN n k))]) [16, 17, 18, 19, 20, 21, 22] (fun k => wd - k) 0 ?_ ?_ ?_
    · refine env_start (by kernel_rfl)
    · exact fun w' hw => zlp (Nat.zero_le _) (by repeat (first | exact Sel.nil | (apply Sel.cons; · (repeat (first | exact Pick.here | apply Pick.there))))) w' hw
    · intro k u
      refine gc_pureR (fun hk => ?_)
      replace hk : k ≤ wd := hk
      refine gc_seq ?_
      refine gsr ?_
      refine gp zmv ?_
      refine gp zmv ?_
      refine gp zlt ?_
      refine gnt ?_
      refine gif rfl (fun hc18 => ?_) (fun hc18 => ?_)
      · refine gc_skip ?_
        refine gx_then ?_
        refine gc_seq ?_
        refine gc_block ?_
        refine gc_region ?_
        refine gp zmv ?_
        refine gp (r_int zqu (quo_step hn h0)) ?_
        refine gp zas ?_
        refine gl_nil ?_
        refine gx_block_normal ?_
        refine gx_then ?_
        refine gc_region ?_
        refine gp zmv ?_
        refine gp zad ?_
        refine gp zas ?_
        refine gl_nil ?_
        refine zrd (k + 1) ?_ ?_
        · show wd - (k + 1) < wd - k
          omega
        · exact fun w' hw => zlp (show k + 1 ≤ wd by omega) (by repeat (first | exact Sel.nil | (apply Sel.cons; · (repeat (first | exact Pick.here | apply Pick.there))))) w' hw
      · try simp only at hc18
        have hk' : k = wd := by omega
        subst hk'
        refine gc_exit ?_
        refine gx_then_exit ?_
        refine gx_round_exit ?_
        refine gx_block_hit ?_
        refine gx_then ?_
        refine gsr ?_
        refine gp zmv ?_
        refine gp zei ?_
        refine gp zas ?_
        refine gnt ?_
        refine gc_ret ?_
        refine gx_ret1 rfl (by conv => lhs; whnf) ?_
        rw [show decide (quoN n k = 0) = decide (0 ≤ n ∧ n < 256 ^ k) from decide_eq_decide.2 (by rw [fits_zero h0]; exact ⟨fun h => ⟨h0, h⟩, fun h => h.2⟩)]
        exact ze ()


def numRow (n : Int) (wd k : Nat) : List Value := List.replicate (wd - k) (.int .u8 0) ++ ((beN n wd).drop (wd - k)).map B8
theorem numRow_zero (n : Int) (wd : Nat) : List.replicate wd (.int .u8 0) = numRow n wd 0 := by
  simp only [numRow, Nat.sub_zero]
  rw [List.drop_eq_nil_of_le (by rw [beN_length]; exact Nat.le_refl _)]; simp
theorem numRow_full (n : Int) (wd : Nat) : numRow n wd wd = (beN n wd).map B8 := by simp [numRow]
theorem numRow_length (n : Int) (wd k : Nat) (h : k ≤ wd) : (numRow n wd k).length = wd := by simp [numRow, beN_length]; try omega
theorem numRow_store {n : Int} {wd k o : Nat} (h : k < wd) (ho : o = wd - 1 - k) : updL (numRow n wd k) o [B8 (byteAt n k)] = numRow n wd (k + 1) := by
  subst ho
  have hb : (beN n wd).drop (wd - (k + 1)) = byteAt n k :: (beN n wd).drop (wd - k) := by
    have hl : wd - (k + 1) < (beN n wd).length := by rw [beN_length]; omega
    rw [List.drop_eq_getElem_cons hl, show wd - (k + 1) + 1 = wd - k by omega]
    congr 1
    simp only [beN, List.getElem_map, List.getElem_range]
    rw [show wd - 1 - (wd - (k + 1)) = k by omega]
  have e1 : wd - k = wd - 1 - k + 1 := by omega
  have e2 : wd - (k + 1) = wd - 1 - k := by omega
  simp only [updL, numRow, hb, List.length_singleton]
  rw [e2, e1, List.take_append_of_le_length (by simp), List.take_replicate, Nat.min_eq_left (by omega), List.drop_append, List.drop_replicate]
  simp
theorem byte_rem {n : Int} {k : Nat} (h : I64 n) (h0 : 0 ≤ n) : (.int .u8 (IntKind.u8.wrap ((quoN n k).tmod 256)) : Value) = B8 (byteAt n k) := by
  have h1 := quoN_range h h0 k
  rw [Int.tmod_eq_emod_of_nonneg h1.1, wrap_u8 (by omega) (by omega), byteAt, B8, quoN_eq]
  have e : (256 : Int) ^ k = 2 ^ (8 * k) := by rw [Int.pow_mul]; rfl
  rw [e, UInt8.toNat_ofNat']
  congr 1
  have := Int.emod_nonneg (n / 2 ^ (8 * k)) (show (256 : Int) ≠ 0 by decide)
  have := Int.emod_lt_of_pos (n / 2 ^ (8 * k)) (show (0 : Int) < 256 by decide)
  omega

set_option maxHeartbeats 400000 in
theorem refNumber_ok {w : World} {F : Nat → Prop} {n : Int} {wd : Nat} (h : stars [] w F) (h1 : 1 ≤ wd) (h7 : wd ≤ 7) (hn : I64 n) (h0 : 0 ≤ n) :
    Calls Tryz.prog 98 #[.int .i64 n, .int .i64 (wd : Int)] w (Post w F (fun b : Nat => .slice (some ⟨b, 0, none⟩) wd wd) (fun b => [rowR 5 1 (some ⟨b, 0, none⟩) wd wd ((beN n wd).map B8)])) := by
  refine g_enter (env := [(0, .int .i64 n), (1, .int .i64 (wd : Int))]) Tryz.func98 rfl h Tryz.ntmps98 rfl rfl ?_
  refine gsr ?_
  refine gp zas ?_
  refine gnt ?_
  refine gsr ?_
  refine gp zmv ?_
  refine gl_mk1 (z := .int .u8 0) (m := wd) (wt0 rfl) ELT.h (by kernel_rfl) rfl rfl rfl (by omega) (by omega) (fun b8 => ?_)
  refine gl_eqc (cs' := numRow n wd 0) (by repeat (first | exact Pick.here | apply Pick.there)) (numRow_zero n wd) ?_
  refine gp zas ?_
  refine gnt ?_
  refine gc_seq ?_
  refine gsr ?_
  refine gp zmv ?_
  refine gp (r_int zsb (show (wd : Int) - 1 = (wd : Int) - 1 - ((0 : Nat) : Int) by omega)) ?_
  refine gp zas ?_
  refine gnt ?_
  refine gc_block ?_
  refine gc_loop (α := Nat) (fun k => [pureR (k ≤ wd), blk b8 5 (numRow n wd k)]) (fun k => [(6, .int .i64 ((wd : Int) - 1 - (k : Int))), (0, .int .i64 (quoN n k))]) [11, 12, 13, 14, 15, 16, 17, 18, 19, 20, 21, 22] (fun k => wd - k) 0 ?_ ?_ ?_
  · refine env_start (by kernel_rfl)
  · exact fun w' hw => zlp (Nat.zero_le _) (by repeat (first | exact Sel.nil | (apply Sel.cons; · (repeat (first | exact Pick.here | apply Pick.there))))) w' hw
  · intro k u
    refine gc_pureR (fun hk => ?_)
    replace hk : k ≤ wd := hk
    refine gc_seq ?_
    refine gsr ?_
    refine gp zmv ?_
    refine gp zge ?_
    refine gnt ?_
    refine gif rfl (fun hc12 => ?_) (fun hc12 => ?_)
    · try simp only at hc12
      have hk' : k < wd := by omega
      refine gc_skip ?_
      refine gx_then ?_
      refine gc_seq ?_
      refine gc_block ?_
      refine gsr ?_
      refine gp zmv ?_
      refine gp zmv ?_
      refine gp zmv ?_
      refine gp zrm ?_
      refine gp (r_val zci (byte_rem hn h0)) ?_
      refine gp (zia) ?_
      refine gl_store1 (wt0 rfl) rfl rfl rfl Ty.sz_5 (by repeat (first | exact Pick.here | apply Pick.there)) (by rw [numRow_length n wd k hk]; omega) (numRow_store hk' (by omega)) ?_
      refine gnt ?_
      refine gc_region ?_
      refine gp zmv ?_
      refine gp (r_int zqu (quo_step hn h0)) ?_
      refine gp zas ?_
      refine gl_nil ?_
      refine gx_block_normal ?_
      refine gx_then ?_
      refine gc_region ?_
      refine gp zmv ?_
      refine gp (r_int zsb (show (wd : Int) - 1 - (k : Int) - 1 = (wd : Int) - 1 - ((k + 1 : Nat) : Int) by omega)) ?_
      refine gp zas ?_
      refine gl_nil ?_
      refine zrd (k + 1) ?_ ?_
      · show wd - (k + 1) < wd - k
        omega
      · exact fun w' hw => zlp (show k + 1 ≤ wd by omega) (by repeat (first | exact Sel.nil | (apply Sel.cons; · (repeat (first | exact Pick.here | apply Pick.there))))) w' hw
    · try simp only at hc12
      have hk' : k = wd := by omega
      subst hk'
      refine gc_exit ?_
      refine gx_then_exit ?_
      refine gx_round_exit ?_
      refine gx_block_hit ?_
      refine gx_then ?_
      refine gsr ?_
      refine gp zmv ?_
      refine gp zas ?_
      refine gnt ?_
      refine gc_ret ?_
      refine gx_ret1 rfl (by conv => lhs; whnf) ?_
      exact fun w' hw => ⟨b8, rfl, (hw.sel (M := [blk b8 5 _]) (by repeat (first | exact Sel.nil | (apply Sel.cons; · (repeat (first | exact Pick.here | apply Pick.there)))))).mapL0 fun F' hF' => by rw [numRow_full] at hF'; exact stars_blk_row hF' (by simp [beN_length]) (by simp only [maxLen]; omega)⟩

end Go.Proofs.YtobjojeliibinaaGreatDoor

/- Plain words: SHA-256 piece by piece is SHA-256 of the whole. No program in sight. -/
namespace Go.Proofs.YtobjojeliibinaaGreatDoor
set_option linter.unusedVariables false

def refPad (b : List UInt8) : List UInt8 := b ++ 128 :: (List.replicate (padN b.length) 0 ++ lenBytes b.length)
def refSum (K : Nat → UInt32) (b : List UInt8) : List UInt8 := (List.range 32).map (outByte (takes K v0 (refPad b)).1)
def framed (dom : Int) (parts : List (List UInt8)) : List UInt8 := UInt8.ofNat (dom % 256).toNat :: parts.flatMap fun p => part4 p.length ++ p

theorem takes_append (K : Nat → UInt32) (v : V8) (a b : List UInt8) : takes K v (a ++ b) = takes K (takes K v a).1 ((takes K v a).2 ++ b) := by
  fun_induction takes K v a with
  | case1 v a h ih =>
    rw [takes.eq_1 K v (a ++ b), dif_pos (by simp; omega), List.take_append_of_le_length h, List.drop_append_of_le_length h]
    exact ih
  | case2 v a h => rfl
theorem takes_mod (K : Nat → UInt32) (v : V8) (a : List UInt8) : (takes K v a).2.length % 64 = a.length % 64 := by
  fun_induction takes K v a with
  | case1 v a h ih => rw [ih, List.length_drop]; omega
  | case2 v a h => rfl
/-- What a hash is that was handed all these bytes. -/
def HAll (K : Nat → UInt32) (s : HS) (b : List UInt8) : Prop := takes K v0 b = (s.v, s.rest) ∧ s.len = b.length
theorem HAll.nil (K : Nat → UInt32) : HAll K hs0 [] := ⟨by rw [takes.eq_1, dif_neg (by simp)]; rfl, rfl⟩
theorem HAll.write {K : Nat → UInt32} {s : HS} {a : List UInt8} (h : HAll K s a) (b : List UInt8) : HAll K (hWrite K s b) (a ++ b) := by
  refine ⟨?_, ?_⟩
  · rw [takes_append, h.1]; rfl
  · simp [hWrite, h.2]
theorem HAll.sum {K : Nat → UInt32} {s : HS} {a : List UInt8} (h : HAll K s a) : hSum K s = refSum K a := by
  have hm : padN s.rest.length = padN a.length := by
    have e : s.rest.length % 64 = a.length % 64 := by
      have := takes_mod K v0 a
      rw [h.1] at this
      exact this
    unfold padN; rw [e]
  have e : takes K s.v (padded s) = takes K v0 (refPad a) := by
    rw [refPad, takes_append, h.1, padded, hm, h.2]
  rw [hSum, refSum, e]
theorem hOf_ref (K : Nat → UInt32) (dom : Int) (parts : List (List UInt8)) : hOf K dom parts = (refSum K (framed dom parts)).take 16 := by
  have h : ∀ (l : List (List UInt8)) (s : HS) (a : List UInt8), HAll K s a → HAll K (l.foldl (fun s p => hWrite K (hWrite K s (part4 p.length)) p) s) (a ++ l.flatMap fun p => part4 p.length ++ p) := by
    intro l
    induction l with
    | nil => intro s a h; simpa using h
    | cons p l ih =>
      intro s a h
      have := ih _ _ ((h.write (part4 p.length)).write p)
      simpa using this
  have := (h parts _ _ ((HAll.nil K).write [UInt8.ofNat (dom % 256).toNat])).sum
  rw [hOf, this]
  simp [framed]
end Go.Proofs.YtobjojeliibinaaGreatDoor

/- Walks, by program (wg.py) out of a spec. -/
namespace Go.Proofs.YtobjojeliibinaaGreatDoor
open Go
set_option linter.unusedVariables false
set_option linter.unusedSimpArgs false


instance {n : Nat} {x : Value} : Len (List.replicate n x) n := ⟨List.length_replicate⟩
theorem byte_sh56 {n : Int} {k : Nat} {i : Int} (hi : i = 56 - 8 * (k : Int)) (hk : k < 8) : Value.int .u8 (IntKind.u8.wrap (n.fdiv (2 ^ (min i.toNat IntKind.i64.bits)))) = B8 (byteAt n (7 - k)) := by
  have e : i = 8 * (((8 : Nat) : Int) - 1 - k) := by omega
  have h := byte_shr (n := n) (wd := 8) (k := k) rfl hk (by decide)
  rw [show 8 - 1 - k = 7 - k by omega] at h
  rw [e]; exact h
theorem emod_ediv {n : Int} {a c d : Int} (ha : 0 < a) (hc : c = 256 * d) : n % (a * c) / a % 256 = n / a % 256 := by
  have h : n = n % (a * c) + a * (c * (n / (a * c))) := by
    have := Int.emod_add_mul_ediv n (a * c)
    rw [Int.mul_assoc] at this
    exact this.symm
  conv => rhs; rw [h]
  rw [Int.add_mul_ediv_left _ _ (by omega), hc, Int.mul_assoc 256, Int.add_mul_emod_self_left]
theorem byte_u64 {n : Int} {k : Nat} {i : Int} (hi : i = 8 * (7 - (k : Int))) (hk : k < 8) : Value.int .u8 (IntKind.u8.wrap ((IntKind.u64.wrap n).fdiv (2 ^ (min i.toNat IntKind.u64.bits)))) = B8 (byteAt n (7 - k)) := by
  subst hi
  have e : min (8 * (7 - (k : Int))).toNat IntKind.u64.bits = 8 * (7 - k) := by simp only [IntKind.bits]; omega
  have h1 : ∀ m : Int, IntKind.u8.wrap m = m % 256 := fun m => by simp [IntKind.wrap, IntKind.bits, IntKind.signed]
  have h2 : IntKind.u64.wrap n = n % (2 ^ (8 * (7 - k)) * 2 ^ (8 * (k + 1))) := by
    rw [← Int.pow_add, show 8 * (7 - k) + 8 * (k + 1) = 64 by omega]
    simp [IntKind.wrap, IntKind.bits, IntKind.signed]
  rw [e, h2, h1, Int.fdiv_eq_ediv_of_nonneg _ (by exact Int.le_of_lt (Int.pow_pos (by omega)))]
  rw [emod_ediv (d := 2 ^ (8 * k)) (Int.pow_pos (by omega)) (by rw [show 8 * (k + 1) = 8 + 8 * k by omega, Int.pow_add]; rfl)]
  simp only [B8, byteAt, Value.int.injEq, true_and]
  generalize n / 2 ^ (8 * (7 - k)) = m
  rw [UInt8.toNat_ofNat']
  omega
theorem range_succ_map {α : Type} (f : Nat → α) (k : Nat) : (List.range (k + 1)).map f = (List.range k).map f ++ [f k] := by simp [List.range_succ]
theorem map_B8_snoc (l : List UInt8) (x : UInt8) : (l ++ [x]).map B8 = l.map B8 ++ [B8 x] := by simp
theorem take_snoc {l : List UInt8} {k : Nat} (h : k < l.length) : l.take (k + 1) = l.take k ++ [l.getD k 0] := by
  rw [List.take_add_one]; simp [List.getD, List.getElem?_eq_getElem h]
theorem rep_one {n : Nat} {v : Value} (hv : v.oneCell' = true) : ∀ u ∈ List.replicate n v, u.oneCell' = true := fun u hu => by rw [List.eq_of_mem_replicate hu]; exact hv
theorem word_eq (a b c d : UInt8) : a.toUInt32 * 16777216 + b.toUInt32 * 65536 + c.toUInt32 * 256 + d.toUInt32 = ((a.toUInt32 <<< UInt32.ofNat 24 ||| b.toUInt32 <<< UInt32.ofNat 16) ||| c.toUInt32 <<< UInt32.ofNat 8) ||| d.toUInt32 := by
  apply UInt32.toNat_inj.1
  have ha := a.toNat_lt; have hb := b.toNat_lt; have hc := c.toNat_lt; have hd := d.toNat_lt
  have e1 : (a.toUInt32 <<< UInt32.ofNat 24).toNat = a.toNat <<< 24 := by
    rw [UInt32.toNat_shiftLeft]; simp [Nat.shiftLeft_eq]; omega
  have e2 : (b.toUInt32 <<< UInt32.ofNat 16).toNat = b.toNat <<< 16 := by
    rw [UInt32.toNat_shiftLeft]; simp [Nat.shiftLeft_eq]; omega
  have e3 : (c.toUInt32 <<< UInt32.ofNat 8).toNat = c.toNat <<< 8 := by
    rw [UInt32.toNat_shiftLeft]; simp [Nat.shiftLeft_eq]; omega
  simp only [UInt32.toNat_or, e1, e2, e3, UInt32.toNat_add, UInt32.toNat_mul, UInt8.toNat_toUInt32]
  have f1 : a.toNat <<< 24 ||| b.toNat <<< 16 = (a.toNat * 256 + b.toNat) <<< 16 := by
    have : a.toNat <<< 24 = (a.toNat <<< 8) <<< 16 := by rw [← Nat.shiftLeft_add]
    rw [this, ← Nat.shiftLeft_or_distrib, ← Nat.shiftLeft_add_eq_or_of_lt (by omega : b.toNat < 2 ^ 8)]
    simp [Nat.shiftLeft_eq]
  have f2 : (a.toNat * 256 + b.toNat) <<< 16 ||| c.toNat <<< 8 = ((a.toNat * 256 + b.toNat) * 256 + c.toNat) <<< 8 := by
    have : (a.toNat * 256 + b.toNat) <<< 16 = ((a.toNat * 256 + b.toNat) <<< 8) <<< 8 := by rw [← Nat.shiftLeft_add]
    rw [this, ← Nat.shiftLeft_or_distrib, ← Nat.shiftLeft_add_eq_or_of_lt (by omega : c.toNat < 2 ^ 8)]
    simp [Nat.shiftLeft_eq]
  rw [f1, f2, ← Nat.shiftLeft_add_eq_or_of_lt (by omega : d.toNat < 2 ^ 8)]
  simp [Nat.shiftLeft_eq]
  omega
def rPadRow (b : List UInt8) (k : Nat) : List UInt8 := b ++ 128 :: List.replicate k 0
def rLenRow (b : List UInt8) (k : Nat) : List UInt8 := b ++ 128 :: (List.replicate (padN b.length) 0 ++ (List.range k).map fun i => UInt8.ofNat (b.length * 8 / 2 ^ (8 * (7 - i))))
theorem rPadRow_succ (b : List UInt8) (k : Nat) : (rPadRow b (k + 1)).map B8 = (rPadRow b k).map B8 ++ [.int .u8 0] := by
  have e : (.int .u8 0 : Value) = B8 0 := rfl
  rw [e]; simp [rPadRow, List.replicate_succ']
theorem rLenRow_zero (b : List UInt8) : rLenRow b 0 = rPadRow b (padN b.length) := by simp [rLenRow, rPadRow]
theorem rLenRow_succ (b : List UInt8) (k : Nat) : (rLenRow b (k + 1)).map B8 = (rLenRow b k).map B8 ++ [B8 (UInt8.ofNat (b.length * 8 / 2 ^ (8 * (7 - k))))] := by simp [rLenRow, List.range_succ]
theorem rLenRow_full (b : List UInt8) : rLenRow b 8 = refPad b := rfl
theorem refPad_length (b : List UInt8) : (refPad b).length = b.length + 1 + padN b.length + 8 := by simp [refPad, lenBytes]; omega
theorem pad_hit' {m k : Nat} (h : k ≤ padN m) : (m + 1 + k) % 64 = 56 ↔ k = padN m := by unfold padN at *; omega
theorem row_byte {r : List UInt8} {e j : Nat} (he : e = j) (hj : j < r.length) : (r.map B8)[e]? = some (B8 (r.getD j 0)) := by
  subst he; rw [List.getElem?_map, List.getElem?_eq_getElem hj]; simp [List.getD, List.getElem?_eq_getElem hj]
theorem rotr' (x : UInt32) (n : Nat) : x >>> UInt32.ofNat n ||| x <<< UInt32.ofNat (32 - n) = rotr x n := UInt32.or_comm _ _
theorem word_take {r : List UInt8} {k : Nat} (hk : k < 16) (hr : 64 ≤ r.length) : (r.getD (4 * k) 0).toUInt32 * 16777216 + (r.getD (4 * k + 1) 0).toUInt32 * 65536 + (r.getD (4 * k + 2) 0).toUInt32 * 256 + (r.getD (4 * k + 3) 0).toUInt32 = sch (r.take 64) k := by
  have h : ∀ j, j < 64 → (r.take 64).getD j 0 = r.getD j 0 := fun j hj => by simp [List.getD, List.getElem?_take, hj]
  rw [sch_lo hk, wordAt, word_eq, h _ (by omega), h _ (by omega), h _ (by omega), h _ (by omega)]

attribute [local irreducible] Gl Gc Gx Gs Runs Wt



set_option maxHeartbeats 400000 in
theorem text_ok {w : World} {F : Nat → Prop} {d : Dig} (h : stars [] w F) :
    Calls Tryz.prog 189 #[.agg (dc d).toArray] w (Post w F (fun _ : Unit => .string (str d.l)) (fun _ => [])) := by
  refine g_enter (env := [(0, .agg (dc d).toArray)]) Tryz.func189 rfl h Tryz.ntmps189 rfl rfl ?_
  refine gsr ?_
  refine zbN fun b1 => ?_
  refine gp zas ?_
  refine gnt ?_
  refine gsr ?_
  refine ze0 fun b6 => ?_
  refine gp zas ?_
  refine gnt ?_
  refine gc_seq ?_
  refine gsr ?_
  refine gp zL ?_
  refine gp zmv ?_
  refine gnt ?_
  refine gc_block ?_
  refine gc_loop (α := Nat × Option Addr × Nat) (fun x => [pureR (x.1 ≤ 16), rowR 5 1 x.2.1 x.1 x.2.2 ((d.l.take x.1).map B8)]) (fun x => [(3, .slice x.2.1 x.1 x.2.2), (8, .int .i64 (x.1 : Int))]) [5, 9, 10, 11, 12, 13, 14, 15] (fun x => 16 - x.1) (0, some ⟨b6, 0, none⟩, 0) ?_ ?_ ?_
  · refine env_start (by kernel_rfl)
  · exact zlp (Nat.zero_le _)
  · intro x u
    obtain ⟨k, a, c⟩ := x
    refine gc_pureR (fun hk => ?_)
    replace hk : k ≤ 16 := hk
    refine gsr ?_
    refine gp zlt ?_
    refine gnt ?_
    refine gc_seq ?_
    refine gif rfl (fun hc9 => ?_) (fun hc9 => ?_)
    · try simp only at hc9
      have hk' : k < 16 := by omega
      refine gc_skip ?_
      refine gx_then ?_
      refine gc_seq ?_
      refine gc_block ?_
      refine gsr ?_
      refine gp (r_index1 (v := B8 (d.l.getD k 0)) rfl rfl Ty.arr_23 Ty.sz_5 Ty.row_5 (by omega) (by omega) (row_byte (by omega) (by rw [d.h]; exact hk'))) ?_
      refine gp zas ?_
      refine gnt ?_
      refine gc_region ?_
      refine gp zmv ?_
      refine gp zmv ?_
      refine ze1 fun b13 => ?_
      refine zapo fun a14 c14 => ?_
      refine gp zas ?_
      refine gl_nil ?_
      refine gx_block_normal ?_
      refine gx_then ?_
      refine gc_region ?_
      refine gp zad ?_
      refine gp zmv ?_
      refine gl_nil ?_
      refine zrd ((k + 1, a14, c14)) ?_ ?_
      · show 16 - (k + 1) < 16 - k
        omega
      · exact zlq (show k + 1 ≤ 16 by omega) (by rw [take_snoc (by rw [d.h]; exact hk'), map_B8_snoc])
    · try simp only at hc9
      have hk' : k = 16 := by omega
      subst hk'
      have e : d.l.take 16 = d.l := List.take_of_length_le (by rw [d.h]; decide)
      rw [e]
      refine gc_exit ?_
      refine gx_then_exit ?_
      refine gx_round_exit ?_
      refine gx_block_hit ?_
      refine gx_then ?_
      refine gsr ?_
      refine gp zmv ?_
      refine gp (zso (b := d.l)) ?_
      refine gp zas ?_
      refine gnt ?_
      refine gc_ret ?_
      refine gx_ret1 rfl (by conv => lhs; whnf) ?_
      exact ze ()

set_option maxHeartbeats 400000 in
theorem k_ok {w : World} {F : Nat → Prop} {i : Nat} (h : stars [] w F) (hi : i < 64) :
    Calls Tryz.prog 156 #[.int .i64 (i : Int)] w (Post w F (fun _ : Unit => W32 (Kc i)) (fun _ => [])) := by
  refine g_enter (env := [(0, .int .i64 (i : Int))]) Tryz.func156 rfl h Tryz.ntmps156 rfl rfl ?_
  refine gsr ?_
  refine gp zas ?_
  refine gnt ?_
  refine gsr ?_
  refine gp (r_buildA (cs := fnc W32 64 Kc) Ty.zc_260 Ty.arr_260 Ty.sz_259 (by kernel_rfl)) ?_
  refine gp zmv ?_
  refine gp (r_index1 (v := W32 (Kc i)) rfl rfl Ty.arr_260 Ty.sz_259 Ty.row_259 (by omega) (by omega) (by rw [show (i : Int).toNat * 1 = i by omega]; exact fnc_get hi)) ?_
  refine gp zas ?_
  refine gnt ?_
  refine gc_ret ?_
  refine gx_ret1 rfl (by conv => lhs; whnf) ?_
  exact ze ()

set_option maxHeartbeats 400000 in
theorem right_ok {w : World} {F : Nat → Prop} {x : UInt32} {j : Nat} (h : stars [] w F) (h1 : 1 ≤ j) (h2 : j ≤ 31) :
    Calls Tryz.prog 157 #[W32 x, .int .u64 (j : Int)] w (Post w F (fun _ : Unit => W32 (rotr x j)) (fun _ => [])) := by
  refine g_enter (env := [(0, W32 x), (1, .int .u64 (j : Int))]) Tryz.func157 rfl h Tryz.ntmps157 rfl rfl ?_
  refine gsr ?_
  refine gp zas ?_
  refine gnt ?_
  refine gsr ?_
  refine gp zmv ?_
  refine gp zmv ?_
  refine gp (r_shrw (j := j) rfl rfl rfl (by omega)) ?_
  refine gp zmv ?_
  refine gp zmv ?_
  refine gp (r_int (r_sub rfl rfl) (show IntKind.u64.wrap (32 - (j : Int)) = ((32 - j : Nat) : Int) by rw [wrap_u64 (by omega) (by omega)]; omega)) ?_
  refine gp (r_shlw (j := 32 - j) rfl rfl rfl (by omega)) ?_
  refine gp zwo ?_
  refine gp zas ?_
  refine gnt ?_
  refine gc_ret ?_
  refine gx_ret1 rfl (by conv => lhs; whnf) ?_
  rw [rotr']
  exact ze ()

end Go.Proofs.YtobjojeliibinaaGreatDoor

/- Walks, by program (wg.py) out of a spec. -/
namespace Go.Proofs.YtobjojeliibinaaGreatDoor
open Go
set_option linter.unusedVariables false
set_option linter.unusedSimpArgs false


/-- The reference's writer in block g. -/
def OutR (g : Nat) (s : WS) : Res := exR fun p : Option Addr × Nat => allR [blk g 212 [.slice p.1 s.bs.length p.2, .int .i64 (s.err : Int)], rowR 5 1 p.1 s.bs.length p.2 (s.bs.map B8)]
theorem out_open {g : Nat} {s : WS} {L : List Res} {w : World} {F : Nat → Prop} (h : stars (OutR g s :: L) w F) :
    ∃ a c, stars (blk g 212 [.slice a s.bs.length c, .int .i64 (s.err : Int)] :: rowR 5 1 a s.bs.length c (s.bs.map B8) :: L) w F := by
  obtain ⟨⟨a, c⟩, h⟩ := stars_ex h
  exact ⟨a, c, stars_all h⟩
theorem St.out {w0 w : World} {F0 : Nat → Prop} {g m c : Nat} {k : Int} {a : Option Addr} {xs : List Value} {s : WS} {L : List Res}
    (h : St w0 F0 (blk g 212 [.slice a m c, .int .i64 k] :: rowR 5 1 a m c xs :: L) w) (hk : k = (s.err : Int)) (hm : m = s.bs.length) (hx : xs = s.bs.map B8) : St w0 F0 (OutR g s :: L) w := by
  subst hk; subst hm; subst hx
  obtain ⟨F, hF, hst⟩ := h
  exact ⟨F, stars_ex_mk (a, c) (stars_all_mk hF), hst⟩
theorem fit_iff {n : Int} {wd : Nat} (h7 : wd ≤ 7) : ¬ (n < 0 ∨ (wd < 8 ∧ 2 ^ (8 * wd) ≤ n)) ↔ 0 ≤ n ∧ n < 256 ^ wd := by
  have e : (256 : Int) ^ wd = 2 ^ (8 * wd) := by rw [Int.pow_mul]; rfl
  rw [e]; omega
theorem wNum_fail {n : Int} {wd : Nat} {s : WS} (h7 : wd ≤ 7) (he : s.err = 0) (hf : ¬ (0 ≤ n ∧ n < 256 ^ wd)) : wNum n wd s = ⟨1, s.bs⟩ := by
  have h : (n < 0 ∨ (wd < 8 ∧ 2 ^ (8 * wd) ≤ n)) := by
    rcases Classical.em (n < 0 ∨ (wd < 8 ∧ 2 ^ (8 * wd) ≤ n)) with h | h
    · exact h
    · exact absurd ((fit_iff h7).1 h) hf
  unfold wNum wFail; rw [if_pos h, if_pos he]
theorem wNum_fit {n : Int} {wd : Nat} {s : WS} (h7 : wd ≤ 7) (he : s.err = 0) (hf : 0 ≤ n ∧ n < 256 ^ wd) : wNum n wd s = ⟨0, s.bs ++ beN n wd⟩ := by
  have h := (fit_iff h7).2 hf
  unfold wNum wFix; rw [if_neg h, if_pos he, he]
theorem out_mk {g m c : Nat} {k : Int} {a : Option Addr} {xs : List Value} {s : WS} {w : World} {F : Nat → Prop}
    (h : stars [blk g 212 [.slice a m c, .int .i64 k], rowR 5 1 a m c xs] w F) (hk : k = (s.err : Int)) (hm : m = s.bs.length) (hx : xs = s.bs.map B8) : stars [OutR g s] w F := by
  subst hk; subst hm; subst hx
  exact stars_ex_mk (a, c) (stars_all_mk h)
theorem wDig_fit {d : Dig} {s : WS} (he : s.err = 0) : wDig d s = ⟨0, s.bs ++ d.l⟩ := by unfold wDig wFix; rw [if_pos he, he]

attribute [local irreducible] Gl Gc Gx Gs Runs Wt

set_option maxHeartbeats 400000 in
theorem onum_ok {w : World} {F : Nat → Prop} {g : Nat} {s : WS} {n : Int} {wd : Nat} (h : stars [OutR g s] w F) (h1 : 1 ≤ wd) (h7 : wd ≤ 7) (hn : s.err = 0 → I64 n) (hb : s.bs.length + wd ≤ 1099511627776) :
    Calls Tryz.prog 152 #[.pointer (some ⟨g, 0, none⟩), .int .i64 n, .int .i64 (wd : Int)] w (Post w F (fun _ : Unit => .tuple #[]) (fun _ => [OutR g (wNum n wd s)])) := by
  obtain ⟨a0, c0, h'⟩ := out_open h
  refine g_enter (env := [(0, .pointer (some ⟨g, 0, none⟩)), (1, .int .i64 n), (2, .int .i64 (wd : Int))]) Tryz.func152 rfl h' Tryz.ntmps152 rfl rfl ?_
  refine gc_seq ?_
  refine gc_seq ?_
  by_cases he : s.err = 0
  · by_cases hf : 0 ≤ n ∧ n < 256 ^ wd
    · refine gc_region ?_
      refine gp zmv ?_
      refine gp znc ?_
      refine gp zfa ?_
      refine gp zl ?_
      refine gp (r_bool (c := true) zei (decide_eq_true (by omega))) ?_
      refine gp zmv ?_
      refine gq zmv ?_
      refine gq zmv ?_
      refine zc (fun _ => ?_) (c := fun w1 F1 F2 h1 h2 hd hst => fits_ok h1 (by assumption) (by assumption) (hn he))
      rw [decide_eq_true hf]
      refine gq znt ?_
      refine gp zpk ?_
      refine gnt ?_
      refine gc_condF rfl rfl ?_
      refine gc_skip ?_
      refine gx_then ?_
      refine gsr ?_
      refine gp zmv ?_
      refine gp znc ?_
      refine gp zfa ?_
      refine gp zl ?_
      refine gp (r_bool (c := true) zei (decide_eq_true (by omega))) ?_
      refine gnt ?_
      refine gc_condT rfl rfl ?_
      refine gc_regionH [] ?_
      refine yp 0 rfl zmv ?_
      refine yp 1 rfl zmv ?_
      refine yp 2 rfl znc ?_
      refine yp 3 rfl zfa ?_
      refine yp 5 rfl zmv ?_
      refine yp 6 rfl zmv ?_
      refine yo2 4 7 rfl rfl ?_ ?_
      · refine gp zl ?_
        refine yx ?_
        refine yo 7 rfl ?_
        refine zc (fun b32 => ?_) (c := fun w1 F1 F2 h1 h2 hd hst => refNumber_ok h1 (by assumption) (by assumption) (hn he) hf.1)
        refine yx ?_
        refine yo 8 rfl ?_
        refine zapo (a2 := some ⟨b32, 0, none⟩) (c2 := wd) (news := (beN n wd).map B8) (fun a33 c33 => ?_) (h1 := one_B8 _)
        refine yx ?_
        refine yp 9 rfl znc ?_
        refine yp 10 rfl zfa ?_
        refine yo 11 rfl ?_
        refine zs1 ?_
        refine yx ?_
        refine yd ?_
        refine gx_ret0' rfl ?_
        rw [wNum_fit h7 he hf]
        exact fun w' hw => ⟨(), rfl, St.out (hw.sel (by repeat (first | exact Sel.nil | (apply Sel.cons; · (repeat (first | exact Pick.here | apply Pick.there)))))) (by rw [he]) (by simp [beN_length]) (by simp)⟩
      · refine zc (fun b32 => ?_) (c := fun w1 F1 F2 h1 h2 hd hst => refNumber_ok h1 (by assumption) (by assumption) (hn he) hf.1)
        refine yx ?_
        refine yo 4 rfl ?_
        refine gp zl ?_
        refine yx ?_
        refine yo 8 rfl ?_
        refine zapo (a2 := some ⟨b32, 0, none⟩) (c2 := wd) (news := (beN n wd).map B8) (fun a33 c33 => ?_) (h1 := one_B8 _)
        refine yx ?_
        refine yp 9 rfl znc ?_
        refine yp 10 rfl zfa ?_
        refine yo 11 rfl ?_
        refine zs1 ?_
        refine yx ?_
        refine yd ?_
        refine gx_ret0' rfl ?_
        rw [wNum_fit h7 he hf]
        exact fun w' hw => ⟨(), rfl, St.out (hw.sel (by repeat (first | exact Sel.nil | (apply Sel.cons; · (repeat (first | exact Pick.here | apply Pick.there)))))) (by rw [he]) (by simp [beN_length]) (by simp)⟩
    · refine gc_region ?_
      refine gp zmv ?_
      refine gp znc ?_
      refine gp zfa ?_
      refine gp zl ?_
      refine gp (r_bool (c := true) zei (decide_eq_true (by omega))) ?_
      refine gp zmv ?_
      refine gq zmv ?_
      refine gq zmv ?_
      refine zc (fun _ => ?_) (c := fun w1 F1 F2 h1 h2 hd hst => fits_ok h1 (by assumption) (by assumption) (hn he))
      rw [decide_eq_false hf]
      refine gq znt ?_
      refine gp zpk ?_
      refine gnt ?_
      refine gc_condT rfl rfl ?_
      refine gc_region ?_
      refine gp zmv ?_
      refine gp znc ?_
      refine gp zfa ?_
      refine zs1 ?_
      refine gnt ?_
      refine gsr ?_
      refine gp zmv ?_
      refine gp znc ?_
      refine gp zfa ?_
      refine gp zl ?_
      refine gp (r_bool (c := false) zei rfl) ?_
      refine gnt ?_
      refine gc_condF rfl rfl ?_
      refine gc_skip ?_
      refine gx_ret0' rfl ?_
      rw [wNum_fail h7 he hf]
      exact fun w' hw => ⟨(), rfl, St.out (hw.sel (by repeat (first | exact Sel.nil | (apply Sel.cons; · (repeat (first | exact Pick.here | apply Pick.there)))))) rfl rfl rfl⟩
  · refine gc_region ?_
    refine gp zmv ?_
    refine gp znc ?_
    refine gp zfa ?_
    refine gp zl ?_
    refine gp (r_bool (c := false) zei (decide_eq_false (by omega))) ?_
    refine gp zmv ?_
    refine gn ?_
    refine gn ?_
    refine gn ?_
    refine gn ?_
    refine gp zpk ?_
    refine gnt ?_
    refine gc_condF rfl rfl ?_
    refine gc_skip ?_
    refine gx_then ?_
    refine gsr ?_
    refine gp zmv ?_
    refine gp znc ?_
    refine gp zfa ?_
    refine gp zl ?_
    refine gp (r_bool (c := false) zei (decide_eq_false (by omega))) ?_
    refine gnt ?_
    refine gc_condF rfl rfl ?_
    refine gc_skip ?_
    refine gx_ret0' rfl ?_
    rw [wNum_bad he]
    exact fun w' hw => ⟨(), rfl, St.out (hw.sel (by repeat (first | exact Sel.nil | (apply Sel.cons; · (repeat (first | exact Pick.here | apply Pick.there)))))) rfl rfl rfl⟩

set_option maxHeartbeats 400000 in
theorem odigest_ok {w : World} {F : Nat → Prop} {g : Nat} {s : WS} {d : Dig} (h : stars [OutR g s] w F) (hb : s.bs.length + 16 ≤ 1099511627776) :
    Calls Tryz.prog 153 #[.pointer (some ⟨g, 0, none⟩), .agg (dc d).toArray] w (Post w F (fun _ : Unit => .tuple #[]) (fun _ => [OutR g (wDig d s)])) := by
  obtain ⟨a0, c0, h'⟩ := out_open h
  have hdl := d.h
  refine g_enter (env := [(0, .pointer (some ⟨g, 0, none⟩)), (1, .agg (dc d).toArray)]) Tryz.func153 rfl h' Tryz.ntmps153 rfl rfl ?_
  refine gsr ?_
  refine zbN fun b3 => ?_
  refine gnt ?_
  refine gc_seq ?_
  by_cases he : s.err = 0
  · refine gc_region ?_
    refine gp zmv ?_
    refine gp znc ?_
    refine gp zfa ?_
    refine gp zl ?_
    refine gp (r_bool (c := true) zei (decide_eq_true (by omega))) ?_
    refine gnt ?_
    refine gc_condT rfl rfl ?_
    refine gc_regionH [] ?_
    refine yp 0 rfl zmv ?_
    refine yp 1 rfl zmv ?_
    refine yp 2 rfl znc ?_
    refine yp 3 rfl zfa ?_
    refine yo2 4 5 rfl rfl ?_ ?_
    · refine gp zl ?_
      refine yx ?_
      refine yo 5 rfl ?_
      refine gp zL ?_
      refine yx ?_
      refine yo 6 rfl ?_
      refine zc (fun _ => ?_) (c := fun w1 F1 F2 h1 h2 hd hst => text_ok (d := d) h1)
      refine yx ?_
      refine yo 7 rfl ?_
      refine zob fun g16 c16 => ?_
      refine yx ?_
      refine yo 8 rfl ?_
      refine zapo (a2 := some ⟨g16, 0, none⟩) (c2 := c16) (news := d.l.map B8) (fun a17 c17 => ?_) (h1 := one_B8 _)
      refine yx ?_
      refine yp 9 rfl znc ?_
      refine yp 10 rfl zfa ?_
      refine yo 11 rfl ?_
      refine zs1 ?_
      refine yx ?_
      refine yd ?_
      refine gx_ret0' rfl ?_
      rw [wDig_fit he]
      exact fun w' hw => ⟨(), rfl, St.out (hw.sel (by repeat (first | exact Sel.nil | (apply Sel.cons; · (repeat (first | exact Pick.here | apply Pick.there)))))) (by rw [he]) (by simp [d.h]) (by simp)⟩
    · refine gp zL ?_
      refine yx ?_
      refine yo2 4 6 rfl rfl ?_ ?_
      · refine gp zl ?_
        refine yx ?_
        refine yo 6 rfl ?_
        refine zc (fun _ => ?_) (c := fun w1 F1 F2 h1 h2 hd hst => text_ok (d := d) h1)
        refine yx ?_
        refine yo 7 rfl ?_
        refine zob fun g16 c16 => ?_
        refine yx ?_
        refine yo 8 rfl ?_
        refine zapo (a2 := some ⟨g16, 0, none⟩) (c2 := c16) (news := d.l.map B8) (fun a17 c17 => ?_) (h1 := one_B8 _)
        refine yx ?_
        refine yp 9 rfl znc ?_
        refine yp 10 rfl zfa ?_
        refine yo 11 rfl ?_
        refine zs1 ?_
        refine yx ?_
        refine yd ?_
        refine gx_ret0' rfl ?_
        rw [wDig_fit he]
        exact fun w' hw => ⟨(), rfl, St.out (hw.sel (by repeat (first | exact Sel.nil | (apply Sel.cons; · (repeat (first | exact Pick.here | apply Pick.there)))))) (by rw [he]) (by simp [d.h]) (by simp)⟩
      · refine zc (fun _ => ?_) (c := fun w1 F1 F2 h1 h2 hd hst => text_ok (d := d) h1)
        refine yx ?_
        refine yo2 4 7 rfl rfl ?_ ?_
        · refine gp zl ?_
          refine yx ?_
          refine yo 7 rfl ?_
          refine zob fun g16 c16 => ?_
          refine yx ?_
          refine yo 8 rfl ?_
          refine zapo (a2 := some ⟨g16, 0, none⟩) (c2 := c16) (news := d.l.map B8) (fun a17 c17 => ?_) (h1 := one_B8 _)
          refine yx ?_
          refine yp 9 rfl znc ?_
          refine yp 10 rfl zfa ?_
          refine yo 11 rfl ?_
          refine zs1 ?_
          refine yx ?_
          refine yd ?_
          refine gx_ret0' rfl ?_
          rw [wDig_fit he]
          exact fun w' hw => ⟨(), rfl, St.out (hw.sel (by repeat (first | exact Sel.nil | (apply Sel.cons; · (repeat (first | exact Pick.here | apply Pick.there)))))) (by rw [he]) (by simp [d.h]) (by simp)⟩
        · refine zob fun g16 c16 => ?_
          refine yx ?_
          refine yo 4 rfl ?_
          refine gp zl ?_
          refine yx ?_
          refine yo 8 rfl ?_
          refine zapo (a2 := some ⟨g16, 0, none⟩) (c2 := c16) (news := d.l.map B8) (fun a17 c17 => ?_) (h1 := one_B8 _)
          refine yx ?_
          refine yp 9 rfl znc ?_
          refine yp 10 rfl zfa ?_
          refine yo 11 rfl ?_
          refine zs1 ?_
          refine yx ?_
          refine yd ?_
          refine gx_ret0' rfl ?_
          rw [wDig_fit he]
          exact fun w' hw => ⟨(), rfl, St.out (hw.sel (by repeat (first | exact Sel.nil | (apply Sel.cons; · (repeat (first | exact Pick.here | apply Pick.there)))))) (by rw [he]) (by simp [d.h]) (by simp)⟩
  · refine gc_region ?_
    refine gp zmv ?_
    refine gp znc ?_
    refine gp zfa ?_
    refine gp zl ?_
    refine gp (r_bool (c := false) zei (decide_eq_false (by omega))) ?_
    refine gnt ?_
    refine gc_condF rfl rfl ?_
    refine gc_skip ?_
    refine gx_ret0' rfl ?_
    rw [wDig_bad d s he]
    exact fun w' hw => ⟨(), rfl, St.out (hw.sel (by repeat (first | exact Sel.nil | (apply Sel.cons; · (repeat (first | exact Pick.here | apply Pick.there)))))) rfl rfl rfl⟩

set_option maxHeartbeats 400000 in
theorem omany_ok {w : World} {F : Nat → Prop} {g : Nat} {s : WS} {n most : Nat} (h : stars [OutR g s] w F) (hm : most ≤ 255) (hb : s.bs.length + 1 ≤ 1099511627776) :
    Calls Tryz.prog 155 #[.pointer (some ⟨g, 0, none⟩), .int .i64 (n : Int), .int .i64 (most : Int)] w (Post w F (fun _ : Unit => .tuple #[]) (fun _ => [OutR g (wMany n most s)])) := by
  obtain ⟨a0, c0, h'⟩ := out_open h
  refine g_enter (env := [(0, .pointer (some ⟨g, 0, none⟩)), (1, .int .i64 (n : Int)), (2, .int .i64 (most : Int))]) Tryz.func155 rfl h' Tryz.ntmps155 rfl rfl ?_
  refine gc_seq ?_
  refine gc_seq ?_
  by_cases he : s.err = 0
  · by_cases hq : most < n
    · refine gc_region ?_
      refine gp zmv ?_
      refine gp znc ?_
      refine gp zfa ?_
      refine gp zl ?_
      refine gp (r_bool (c := true) zei (decide_eq_true (by omega))) ?_
      refine gp zmv ?_
      refine gq zmv ?_
      refine gq zmv ?_
      refine gq (r_bool (c := true) zgt (decide_eq_true (by omega))) ?_
      refine gp zpk ?_
      refine gnt ?_
      refine gc_condT rfl rfl ?_
      refine gc_region ?_
      refine gp zmv ?_
      refine gp znc ?_
      refine gp zfa ?_
      refine zs1 ?_
      refine gnt ?_
      refine gc_region ?_
      refine gp zmv ?_
      refine gp zmv ?_
      refine gl_conv (M := [blk g 212 [.slice a0 s.bs.length c0, .int .i64 1], rowR 5 1 a0 s.bs.length c0 (s.bs.map B8)]) (N := [OutR g (⟨1, s.bs⟩ : WS)]) (by repeat (first | exact Sel.nil | (apply Sel.cons; · (repeat (first | exact Pick.here | apply Pick.there))))) (fun w F hF => out_mk hF rfl rfl rfl) ?_
      refine zc (fun _ => ?_) (c := fun w1 F1 F2 h1 h2 hd hst => onum_ok (s := (⟨1, s.bs⟩ : WS)) (wd := 1) h1 (by decide) (by decide) (fun e => absurd e (by simp)) (by simpa using hb))
      refine gl_nil ?_
      refine gx_ret0' rfl ?_
      have e : wMany n most s = wNum (n : Int) 1 (⟨1, s.bs⟩ : WS) := by unfold wMany; rw [if_pos ⟨he, hq⟩, wNum_bad (by simp)]
      rw [e]
      exact ze ()
    · refine gc_region ?_
      refine gp zmv ?_
      refine gp znc ?_
      refine gp zfa ?_
      refine gp zl ?_
      refine gp (r_bool (c := true) zei (decide_eq_true (by omega))) ?_
      refine gp zmv ?_
      refine gq zmv ?_
      refine gq zmv ?_
      refine gq (r_bool (c := false) zgt (decide_eq_false (by omega))) ?_
      refine gp zpk ?_
      refine gnt ?_
      refine gc_condF rfl rfl ?_
      refine gc_skip ?_
      refine gx_then ?_
      refine gc_region ?_
      refine gp zmv ?_
      refine gp zmv ?_
      refine gl_conv (M := [blk g 212 [.slice a0 s.bs.length c0, .int .i64 (s.err : Int)], rowR 5 1 a0 s.bs.length c0 (s.bs.map B8)]) (N := [OutR g s]) (by repeat (first | exact Sel.nil | (apply Sel.cons; · (repeat (first | exact Pick.here | apply Pick.there))))) (fun w F hF => out_mk hF rfl rfl rfl) ?_
      refine zc (fun _ => ?_) (c := fun w1 F1 F2 h1 h2 hd hst => onum_ok (wd := 1) h1 (by decide) (by decide) (fun _ => by unfold I64; omega) (by omega))
      refine gl_nil ?_
      refine gx_ret0' rfl ?_
      have e : wMany n most s = wNum (n : Int) 1 s := by unfold wMany; rw [if_neg (fun hh => hq hh.2)]
      rw [e]
      exact ze ()
  · refine gc_region ?_
    refine gp zmv ?_
    refine gp znc ?_
    refine gp zfa ?_
    refine gp zl ?_
    refine gp (r_bool (c := false) zei (decide_eq_false (by omega))) ?_
    refine gp zmv ?_
    refine gn ?_
    refine gn ?_
    refine gn ?_
    refine gp zpk ?_
    refine gnt ?_
    refine gc_condF rfl rfl ?_
    refine gc_skip ?_
    refine gx_then ?_
    refine gc_region ?_
    refine gp zmv ?_
    refine gp zmv ?_
    refine gl_conv (M := [blk g 212 [.slice a0 s.bs.length c0, .int .i64 (s.err : Int)], rowR 5 1 a0 s.bs.length c0 (s.bs.map B8)]) (N := [OutR g s]) (by repeat (first | exact Sel.nil | (apply Sel.cons; · (repeat (first | exact Pick.here | apply Pick.there))))) (fun w F hF => out_mk hF rfl rfl rfl) ?_
    refine zc (fun _ => ?_) (c := fun w1 F1 F2 h1 h2 hd hst => onum_ok (wd := 1) h1 (by decide) (by decide) (fun e => absurd e he) (by omega))
    refine gl_nil ?_
    refine gx_ret0' rfl ?_
    have e : wMany n most s = wNum (n : Int) 1 s := by unfold wMany; rw [if_neg (fun hh => he hh.1)]
    rw [e]
    exact ze ()

end Go.Proofs.YtobjojeliibinaaGreatDoor

/- Walks, by program (wg.py) out of a spec. -/
namespace Go.Proofs.YtobjojeliibinaaGreatDoor
open Go
set_option linter.unusedVariables false
set_option linter.unusedSimpArgs false

attribute [local irreducible] Gl Gc Gx Gs Runs Wt

set_option maxHeartbeats 400000 in
theorem osig_ok {w : World} {F : Nat → Prop} {g : Nat} {s : WS} {cs : List Value} {x : Sig} (h : stars [OutR g s] w F) (hx : RdSig w (fun k => ¬ F k) cs x) (ho : OkSig x) (hb : s.bs.length + 1171 ≤ 1099511627776) :
    Calls Tryz.prog 204 #[.pointer (some ⟨g, 0, none⟩), .agg cs.toArray] w (Post w F (fun _ : Unit => .tuple #[]) (fun _ => [OutR g (wSig x s)])) := by
  obtain ⟨a1, n1, c1, a2, n2, c2, rfl, hk1, hk2, hd1, hd2⟩ := hx
  have hm1 := hd1.max
  have hm2 := hd2.max
  simp only [maxLen] at hm1 hm2
  have hn1 := hd1.len (by decide)
  have hn2 := hd2.len (by decide)
  subst hn1
  subst hn2
  have e0 := wNum_len x.leaf 1 s
  have e1 := wPut_len wDig_len x.chains 68 (wNum x.leaf 1 s)
  refine g_enter (env := [(0, .pointer (some ⟨g, 0, none⟩)), (1, .agg (List.toArray ([.int .i64 x.leaf, .slice a1 x.chains.length c1, .slice a2 x.path.length c2])))]) Tryz.func204 rfl h Tryz.ntmps204 rfl rfl ?_
  refine gsr ?_
  refine zbN fun b3 => ?_
  refine gnt ?_
  refine gsr ?_
  refine gp zmv ?_
  refine gp zfa ?_
  refine gp zl ?_
  refine zc (fun _ => ?_) (c := fun w1 F1 F2 h1 h2 hd hst => onum_ok (wd := 1) h1 (by decide) (by decide) (fun _ => ho) (by omega))
  refine gnt ?_
  refine gsr ?_
  refine gp zmv ?_
  refine gp zfa ?_
  refine gp zl ?_
  refine gp zln ?_
  refine zc (fun _ => ?_) (c := fun w1 F1 F2 h1 h2 hd hst => omany_ok (most := 68) h1 (by decide) (by omega))
  refine gnt ?_
  refine gc_seq ?_
  refine gsr ?_
  refine gp zfa ?_
  refine gp zl ?_
  refine gp zln ?_
  refine gp zmv ?_
  refine gnt ?_
  refine gc_block ?_
  refine gc_loop (α := Nat) (fun k => [pureR (k ≤ x.chains.length), blk b3 138 [.int .i64 x.leaf, .slice a1 x.chains.length c1, .slice a2 x.path.length c2], OutR g ((x.chains.take k).foldl (fun s x => wDig x s) (wMany x.chains.length 68 (wNum x.leaf 1 s)))]) (fun k => [(20, .int .i64 (k : Int))]) [5, 21, 22, 23, 24, 25, 26, 27] (fun k => x.chains.length - k) 0 ?_ ?_ ?_
  · refine env_start (by kernel_rfl)
  · exact zlp (Nat.zero_le _)
  · intro k u
    refine gc_pureR (fun hk => ?_)
    replace hk : k ≤ x.chains.length := hk
    refine gsr ?_
    refine gp zlt ?_
    refine gnt ?_
    refine gc_seq ?_
    refine gif rfl (fun hc21 => ?_) (fun hc21 => ?_)
    · try simp only at hc21
      have hk' : k < x.chains.length := by omega
      obtain ⟨ga, o, cs1, y, ha, hA, hg, hra, hcl, hly, hrd⟩ := hd1.elem (by decide) hk'
      subst ha
      have hbk := many_bound (k := k) (l := x.chains) (s := (wNum x.leaf 1 s)) (most := 68) (M := 1099511627776) wDig_len wDig_bad hk' (by decide) (by omega)
      unfold RdDig at hrd
      subst hrd
      refine gc_skip ?_
      refine gx_then ?_
      refine gc_seq ?_
      refine gc_block ?_
      refine gsr ?_
      refine gp (r_indexAddr_slice rfl rfl Ty.sl_52 Ty.sz_23 (by omega) (by omega)) ?_
      refine gp (r_ldNo rfl Ty.row_23 Ty.sz_23 hra hcl (by decide) hA) ?_
      refine zal fun b5 => ?_
      refine gl_storeN (wt0 rfl) rfl rfl Ty.sz_23 hcl (by repeat (first | exact Pick.here | apply Pick.there)) (by first | decide | (rw [zD_length]; decide)) (dc_one _) (updL_all (by rw [hcl]; first | rfl | decide)) ?_
      refine gnt ?_
      refine gc_region ?_
      refine gp zmv ?_
      refine gp (zLa (cs := dc y)) ?_
      refine zc (fun _ => ?_) (c := fun w1 F1 F2 h1 h2 hd hst => odigest_ok h1 hbk)
      refine gl_nil ?_
      refine gx_block_normal ?_
      refine gx_then ?_
      refine gc_region ?_
      refine gp zad ?_
      refine gp zmv ?_
      refine gl_nil ?_
      refine zrd (k + 1) ?_ ?_
      · show x.chains.length - (k + 1) < x.chains.length - k
        omega
      · rintro w' hw
        rw [foldl_take_succ _ _ _ hly]
        exact zlp (show k + 1 ≤ x.chains.length by omega) (by repeat (first | exact Sel.nil | (apply Sel.cons; · (repeat (first | exact Pick.here | apply Pick.there))))) w' hw
    · try simp only at hc21
      have hk' : k = x.chains.length := by omega
      subst hk'
      rw [List.take_length, put_many wDig_bad _ (by decide)]
      refine gc_exit ?_
      refine gx_then_exit ?_
      refine gx_round_exit ?_
      refine gx_block_hit ?_
      refine gx_then ?_
      refine gsr ?_
      refine gp zmv ?_
      refine gp zfa ?_
      refine gp zl ?_
      refine gp zln ?_
      refine zc (fun _ => ?_) (c := fun w1 F1 F2 h1 h2 hd hst => omany_ok (most := 5) h1 (by decide) (by omega))
      refine gnt ?_
      refine gsr ?_
      refine gp zfa ?_
      refine gp zl ?_
      refine gp zln ?_
      refine gp zmv ?_
      refine gnt ?_
      refine gc_block ?_
      refine gc_loop (α := Nat) (fun k => [pureR (k ≤ x.path.length), blk b3 138 [.int .i64 x.leaf, .slice a1 x.chains.length c1, .slice a2 x.path.length c2], OutR g ((x.path.take k).foldl (fun s x => wDig x s) (wMany x.path.length 5 (wPut wDig x.chains 68 (wNum x.leaf 1 s))))]) (fun k => [(36, .int .i64 (k : Int))]) [7, 37, 38, 39, 40, 41, 42, 43] (fun k => x.path.length - k) 0 ?_ ?_ ?_
      · refine env_start (by kernel_rfl)
      · exact zlp (Nat.zero_le _)
      · intro k u
        refine gc_pureR (fun hk => ?_)
        replace hk : k ≤ x.path.length := hk
        refine gsr ?_
        refine gp zlt ?_
        refine gnt ?_
        refine gc_seq ?_
        refine gif rfl (fun hc37 => ?_) (fun hc37 => ?_)
        · try simp only at hc37
          have hk' : k < x.path.length := by omega
          obtain ⟨ga, o, cs1, y, ha, hA, hg, hra, hcl, hly, hrd⟩ := hd2.elem (by decide) hk'
          subst ha
          have hbk := many_bound (k := k) (l := x.path) (s := (wPut wDig x.chains 68 (wNum x.leaf 1 s))) (most := 5) (M := 1099511627776) wDig_len wDig_bad hk' (by decide) (by omega)
          unfold RdDig at hrd
          subst hrd
          refine gc_skip ?_
          refine gx_then ?_
          refine gc_seq ?_
          refine gc_block ?_
          refine gsr ?_
          refine gp (r_indexAddr_slice rfl rfl Ty.sl_52 Ty.sz_23 (by omega) (by omega)) ?_
          refine gp (r_ldNo rfl Ty.row_23 Ty.sz_23 hra hcl (by decide) hA) ?_
          refine zal fun b7 => ?_
          refine gl_storeN (wt0 rfl) rfl rfl Ty.sz_23 hcl (by repeat (first | exact Pick.here | apply Pick.there)) (by first | decide | (rw [zD_length]; decide)) (dc_one _) (updL_all (by rw [hcl]; first | rfl | decide)) ?_
          refine gnt ?_
          refine gc_region ?_
          refine gp zmv ?_
          refine gp (zLa (cs := dc y)) ?_
          refine zc (fun _ => ?_) (c := fun w1 F1 F2 h1 h2 hd hst => odigest_ok h1 hbk)
          refine gl_nil ?_
          refine gx_block_normal ?_
          refine gx_then ?_
          refine gc_region ?_
          refine gp zad ?_
          refine gp zmv ?_
          refine gl_nil ?_
          refine zrd (k + 1) ?_ ?_
          · show x.path.length - (k + 1) < x.path.length - k
            omega
          · rintro w' hw
            rw [foldl_take_succ _ _ _ hly]
            exact zlp (show k + 1 ≤ x.path.length by omega) (by repeat (first | exact Sel.nil | (apply Sel.cons; · (repeat (first | exact Pick.here | apply Pick.there))))) w' hw
        · try simp only at hc37
          have hk' : k = x.path.length := by omega
          subst hk'
          rw [List.take_length, put_many wDig_bad _ (by decide)]
          refine gc_exit ?_
          refine gx_then_exit ?_
          refine gx_round_exit ?_
          refine gx_block_hit ?_
          refine gx_ret0' rfl ?_
          exact ze ()

set_option maxHeartbeats 400000 in
theorem osigned_ok {w : World} {F : Nat → Prop} {g : Nat} {s : WS} {cs : List Value} {x : Signed} (h : stars [OutR g s] w F) (hx : RdSigned w (fun k => ¬ F k) cs x) (ho : OkSigned x) (hb : s.bs.length + 1172 ≤ 1099511627776) :
    Calls Tryz.prog 190 #[.pointer (some ⟨g, 0, none⟩), .agg cs.toArray] w (Post w F (fun _ : Unit => .tuple #[]) (fun _ => [OutR g (wSigned x s)])) := by
  obtain ⟨ss, rfl, hs⟩ := hx
  have hl := hs.len
  have il := Len.of hl
  have jl := One.of hs.one
  have e0 := wNum_len x.who 1 s
  refine g_enter (env := [(0, .pointer (some ⟨g, 0, none⟩)), (1, .agg (List.toArray (.int .i64 x.who :: ss)))]) Tryz.func190 rfl h Tryz.ntmps190 rfl rfl ?_
  refine gsr ?_
  refine zbN fun b3 => ?_
  refine gnt ?_
  refine gsr ?_
  refine gp zmv ?_
  refine gp zfa ?_
  refine gp zl ?_
  refine zc (fun _ => ?_) (c := fun w1 F1 F2 h1 h2 hd hst => onum_ok (wd := 1) h1 (by decide) (by decide) (fun _ => ho.1) (by omega))
  refine gnt ?_
  refine gc_region ?_
  refine gp zmv ?_
  refine gp zfa ?_
  refine gp (zL (sg := ss)) ?_
  refine zc (fun _ => ?_) (c := fun w1 F1 F2 h1 h2 hd hst => osig_ok h1 (hs.mv hst.still) ho.2 (by omega))
  refine gl_nil ?_
  refine gx_ret0' rfl ?_
  exact ze ()

set_option maxHeartbeats 400000 in
theorem oqc_ok {w : World} {F : Nat → Prop} {g : Nat} {s : WS} {cs : List Value} {x : QC} (h : stars [OutR g s] w F) (hx : RdQC w (fun k => ¬ F k) cs x) (ho : OkQC x) (hb : s.bs.length + 8231 ≤ 1099511627776) :
    Calls Tryz.prog 154 #[.pointer (some ⟨g, 0, none⟩), .agg cs.toArray] w (Post w F (fun _ : Unit => .tuple #[]) (fun _ => [OutR g (wQC x s)])) := by
  obtain ⟨a1, n1, c1, rfl, hk1, hd1⟩ := hx
  have hm1 := hd1.max
  simp only [maxLen] at hm1
  have hn1 := hd1.len (by decide)
  subst hn1
  have e0 := wNum_len x.epoch 4 s
  have e1 := wNum_len x.round 6 (wNum x.epoch 4 s)
  have e2 := wDig_len x.block (wNum x.round 6 (wNum x.epoch 4 s))
  refine g_enter (env := [(0, .pointer (some ⟨g, 0, none⟩)), (1, .agg (List.toArray (.int .i64 x.epoch :: .int .i64 x.round :: (dc x.block ++ [.slice a1 x.votes.length c1]))))]) Tryz.func154 rfl h Tryz.ntmps154 rfl rfl ?_
  refine gsr ?_
  refine zbN fun b3 => ?_
  refine gnt ?_
  refine gsr ?_
  refine gp zmv ?_
  refine gp zfa ?_
  refine gp zl ?_
  refine zc (fun _ => ?_) (c := fun w1 F1 F2 h1 h2 hd hst => onum_ok (wd := 4) h1 (by decide) (by decide) (fun _ => ho.1) (by omega))
  refine gnt ?_
  refine gsr ?_
  refine gp zmv ?_
  refine gp zfa ?_
  refine gp zl ?_
  refine zc (fun _ => ?_) (c := fun w1 F1 F2 h1 h2 hd hst => onum_ok (wd := 6) h1 (by decide) (by decide) (fun _ => ho.2.1) (by omega))
  refine gnt ?_
  refine gsr ?_
  refine gp zmv ?_
  refine gp zfa ?_
  refine gp zL ?_
  refine zc (fun _ => ?_) (c := fun w1 F1 F2 h1 h2 hd hst => odigest_ok h1 (by omega))
  refine gnt ?_
  refine gsr ?_
  refine gp zmv ?_
  refine gp zfa ?_
  refine gp zl ?_
  refine gp zln ?_
  refine zc (fun _ => ?_) (c := fun w1 F1 F2 h1 h2 hd hst => omany_ok (most := 7) h1 (by decide) (by omega))
  refine gnt ?_
  refine gsr ?_
  refine gp zfa ?_
  refine gp zl ?_
  refine gp zln ?_
  refine gp zmv ?_
  refine gnt ?_
  refine gc_block ?_
  refine gc_loop (α := Nat) (fun k => [pureR (k ≤ x.votes.length), blk b3 26 (.int .i64 x.epoch :: .int .i64 x.round :: (dc x.block ++ [.slice a1 x.votes.length c1])), OutR g ((x.votes.take k).foldl (fun s x => wSigned x s) (wMany x.votes.length 7 (wDig x.block (wNum x.round 6 (wNum x.epoch 4 s)))))]) (fun k => [(26, .int .i64 (k : Int))]) [5, 27, 28, 29, 30, 31, 32, 33] (fun k => x.votes.length - k) 0 ?_ ?_ ?_
  · refine env_start (by kernel_rfl)
  · exact zlp (Nat.zero_le _)
  · intro k u
    refine gc_pureR (fun hk => ?_)
    replace hk : k ≤ x.votes.length := hk
    refine gsr ?_
    refine gp zlt ?_
    refine gnt ?_
    refine gc_seq ?_
    refine gif rfl (fun hc27 => ?_) (fun hc27 => ?_)
    · try simp only at hc27
      have hk' : k < x.votes.length := by omega
      obtain ⟨ga, o, cs1, y, ha, hA, hg, hra, hcl, hly, hrd⟩ := hd1.elem (by decide) hk'
      subst ha
      have hbk := many_bound (k := k) (l := x.votes) (s := (wDig x.block (wNum x.round 6 (wNum x.epoch 4 s)))) (most := 7) (M := 1099511627776) wSigned_len wSigned_bad hk' (by decide) (by omega)
      have hoy := ho.2.2 y (List.mem_of_getElem? hly)
      have i1 := Len.of hcl
      have j1 := One.of hrd.one
      refine gc_skip ?_
      refine gx_then ?_
      refine gc_seq ?_
      refine gc_block ?_
      refine gsr ?_
      refine gp (r_indexAddr_slice rfl rfl Ty.sl_24 Ty.sz_140 (by omega) (by omega)) ?_
      refine gp (r_ldNo rfl Ty.row_140 Ty.sz_140 hra hcl (by decide) hA) ?_
      refine zal fun b5 => ?_
      refine gl_storeN (wt0 rfl) rfl rfl Ty.sz_140 hcl (by repeat (first | exact Pick.here | apply Pick.there)) (by first | decide | (rw [zD_length]; decide)) (hrd.one) (updL_all (by rw [hcl]; first | rfl | decide)) ?_
      refine gnt ?_
      refine gc_region ?_
      refine gp zmv ?_
      refine gp (zL (sg := cs1)) ?_
      refine zc (fun _ => ?_) (c := fun w1 F1 F2 h1 h2 hd hst => osigned_ok h1 (hrd.mv hst.still) hoy hbk)
      refine gl_nil ?_
      refine gx_block_normal ?_
      refine gx_then ?_
      refine gc_region ?_
      refine gp zad ?_
      refine gp zmv ?_
      refine gl_nil ?_
      refine zrd (k + 1) ?_ ?_
      · show x.votes.length - (k + 1) < x.votes.length - k
        omega
      · rintro w' hw
        rw [foldl_take_succ _ _ _ hly]
        exact zlp (show k + 1 ≤ x.votes.length by omega) (by repeat (first | exact Sel.nil | (apply Sel.cons; · (repeat (first | exact Pick.here | apply Pick.there))))) w' hw
    · try simp only at hc27
      have hk' : k = x.votes.length := by omega
      subst hk'
      rw [List.take_length, put_many wSigned_bad _ (by decide)]
      refine gc_exit ?_
      refine gx_then_exit ?_
      refine gx_round_exit ?_
      refine gx_block_hit ?_
      refine gx_ret0' rfl ?_
      exact ze ()


end Go.Proofs.YtobjojeliibinaaGreatDoor

/- Walks, by program (wg.py) out of a spec. -/
namespace Go.Proofs.YtobjojeliibinaaGreatDoor
open Go
set_option linter.unusedVariables false
set_option linter.unusedSimpArgs false


section
variable {P : Program} {w0 : World} {F0 : Nat → Prop} {L L' : List Res} {Q : Exit → Act → World → Prop} {n : Fm} {env : Env} {ops : Array Oper} {rest : List Oper}
theorem gl_out {g : Nat} {s : WS} (hp : Pick L (OutR g s) L') (k : ∀ a c, Gl P w0 F0 (blk g 212 [.slice a s.bs.length c, .int .i64 (s.err : Int)] :: rowR 5 1 a s.bs.length c (s.bs.map B8) :: L') ops Q rest n env) : Gl P w0 F0 L ops Q rest n env := fun w ⟨F, hF, hst⟩ => by
  obtain ⟨a, c, h⟩ := out_open (hp.stars hF)
  exact k a c w ⟨F, h, hst⟩
end
theorem wTx_over {b : List UInt8} {s : WS} (he : s.err = 0) (hn : 16 < b.length) : wBytes b 16 s = ⟨1, s.bs⟩ := by
  unfold wBytes wFail; rw [if_pos (.inl hn), if_pos he]
theorem wTx_fit {b : List UInt8} {s : WS} (he : s.err = 0) (hn : ¬ 16 < b.length) : wBytes b 16 s = ⟨0, s.bs ++ beN (b.length : Int) 2 ++ b⟩ := by
  have h2 : (0 : Int) ≤ (b.length : Int) ∧ (b.length : Int) < 256 ^ 2 := by refine ⟨by omega, ?_⟩; have : (256 : Int) ^ 2 = 65536 := rfl; omega
  unfold wBytes; rw [if_neg (by omega), wNum_fit (by decide) he h2]
  unfold wFix; rw [if_pos rfl]

attribute [local irreducible] Gl Gc Gx Gs Runs Wt

set_option maxHeartbeats 400000 in
theorem oblock_ok {w : World} {F : Nat → Prop} {g : Nat} {s : WS} {cs : List Value} {x : Block} (h : stars [OutR g s] w F) (hx : RdBlock w (fun k => ¬ F k) cs x) (ho : OkBlock x) (hb : s.bs.length + 8485 ≤ 1099511627776) :
    Calls Tryz.prog 111 #[.pointer (some ⟨g, 0, none⟩), .agg cs.toArray] w (Post w F (fun _ : Unit => .tuple #[]) (fun _ => [OutR g (wBlock x s)])) := by
  obtain ⟨q, a1, n1, c1, a2, n2, c2, rfl, hq0, hk1, hd1, hk2, hd2⟩ := hx
  have hm1 := hd1.max
  have hm2 := hd2.max
  simp only [maxLen] at hm1 hm2
  have hn1 := hd1.len (by decide)
  have hn2 := hd2.len (by decide)
  subst hn1
  subst hn2
  have hlq := hq0.len
  have ilq := Len.of hlq
  have jlq := One.of hq0.one
  have e0 := wNum_len x.epoch 4 s
  have e1 := wNum_len x.round 6 (wNum x.epoch 4 s)
  have e2 := wDig_len x.parent (wNum x.round 6 (wNum x.epoch 4 s))
  have e3 := wQC_len x.justify (wDig x.parent (wNum x.round 6 (wNum x.epoch 4 s)))
  have e4 := wPut_len (wX := fun t => wBytes t 16) (c := 18) (fun x s => wBytes_len x 16 s) x.payload 4 (wQC x.justify (wDig x.parent (wNum x.round 6 (wNum x.epoch 4 s))))
  refine g_enter (env := [(0, .pointer (some ⟨g, 0, none⟩)), (1, .agg (List.toArray (.int .i64 x.epoch :: .int .i64 x.round :: (dc x.parent ++ (q ++ [.slice a1 x.payload.length c1, .slice a2 x.next.length c2])))))]) Tryz.func111 rfl h Tryz.ntmps111 rfl rfl ?_
  refine gsr ?_
  refine zbN fun b3 => ?_
  refine gnt ?_
  refine gsr ?_
  refine gp zmv ?_
  refine gp zfa ?_
  refine gp zl ?_
  refine zc (fun _ => ?_) (c := fun w1 F1 F2 h1 h2 hd hst => onum_ok (wd := 4) h1 (by decide) (by decide) (fun _ => ho.1) (by omega))
  refine gnt ?_
  refine gsr ?_
  refine gp zmv ?_
  refine gp zfa ?_
  refine gp zl ?_
  refine zc (fun _ => ?_) (c := fun w1 F1 F2 h1 h2 hd hst => onum_ok (wd := 6) h1 (by decide) (by decide) (fun _ => ho.2.1) (by omega))
  refine gnt ?_
  refine gsr ?_
  refine gp zmv ?_
  refine gp zfa ?_
  refine gp zL ?_
  refine zc (fun _ => ?_) (c := fun w1 F1 F2 h1 h2 hd hst => odigest_ok h1 (by omega))
  refine gnt ?_
  refine gsr ?_
  refine gp zmv ?_
  refine gp zfa ?_
  refine gp (zL (sg := q)) ?_
  refine zc (fun _ => ?_) (c := fun w1 F1 F2 h1 h2 hd hst => oqc_ok h1 (hq0.mv hst.still) ho.2.2.1 (by omega))
  refine gnt ?_
  refine gsr ?_
  refine gp zmv ?_
  refine gp zfa ?_
  refine gp zl ?_
  refine gp zln ?_
  refine zc (fun _ => ?_) (c := fun w1 F1 F2 h1 h2 hd hst => omany_ok (most := 4) h1 (by decide) (by omega))
  refine gnt ?_
  refine gc_seq ?_
  refine gsr ?_
  refine gp zfa ?_
  refine gp zl ?_
  refine gp zln ?_
  refine gp zmv ?_
  refine gnt ?_
  refine gc_block ?_
  refine gc_loop (α := Nat) (fun k => [pureR (k ≤ x.payload.length), blk b3 30 (.int .i64 x.epoch :: .int .i64 x.round :: (dc x.parent ++ (q ++ [.slice a1 x.payload.length c1, .slice a2 x.next.length c2]))), OutR g ((x.payload.take k).foldl (fun s t => wBytes t 16 s) (wMany x.payload.length 4 (wQC x.justify (wDig x.parent (wNum x.round 6 (wNum x.epoch 4 s))))))]) (fun k => [(32, .int .i64 (k : Int))]) [5, 33, 34, 35, 36, 37, 38, 39, 40, 41, 42, 43, 44, 45, 46, 47, 48, 49, 50, 51, 52, 53, 54, 55, 56, 57, 58, 59, 60, 61, 62, 63, 64, 65, 66, 67] (fun k => x.payload.length - k) 0 ?_ ?_ ?_
  · refine env_start (by kernel_rfl)
  · exact zlp (Nat.zero_le _)
  · intro k u
    refine gc_pureR (fun hk => ?_)
    replace hk : k ≤ x.payload.length := hk
    refine gsr ?_
    refine gp zlt ?_
    refine gnt ?_
    refine gc_seq ?_
    refine gif rfl (fun hc33 => ?_) (fun hc33 => ?_)
    · try simp only at hc33
      have hk' : k < x.payload.length := by omega
      obtain ⟨ga, o, cs1, y, ha, hA, hg, hra, hcl, hly, hrd⟩ := hd1.elem (by decide) hk'
      subst ha
      obtain ⟨a', n', c', rfl, hn', hrb⟩ := hrd
      have hny : n' = y.length := by have := hrb.1; simp at this; omega
      subst hny
      have hmy := hrb.2.1
      simp only [maxLen] at hmy
      have hbk := many_bound (k := k) (l := x.payload) (s := (wQC x.justify (wDig x.parent (wNum x.round 6 (wNum x.epoch 4 s))))) (most := 4) (M := 1099511627776) (wX := fun t => wBytes t 16) (c := 18) (fun x s => wBytes_len x 16 s) (fun x s => wBytes_bad x 16 s) hk' (by decide) (by omega)
      obtain ⟨S, hS⟩ : ∃ S, S = ((x.payload.take k).foldl (fun s t => wBytes t 16 s) (wMany x.payload.length 4 (wQC x.justify (wDig x.parent (wNum x.round 6 (wNum x.epoch 4 s)))))) := ⟨_, rfl⟩
      rw [← hS] at hbk ⊢
      refine gc_skip ?_
      refine gx_then ?_
      refine gc_seq ?_
      refine gc_block ?_
      refine gsr ?_
      refine gp (r_indexAddr_slice rfl rfl Ty.sl_27 Ty.sz_86 (by omega) (by omega)) ?_
      refine gp (r_ld1o rfl Ty.row_86 (hra 0 _ rfl) hA) ?_
      refine gp zas ?_
      refine gnt ?_
      refine gc_seq ?_
      refine gc_seq ?_
      by_cases he : S.err = 0
      · by_cases hq : 16 < y.length
        · refine gc_region ?_
          refine gp zmv ?_
          refine gp znc ?_
          refine gp zfa ?_
          refine gl_out (s := S) (by repeat (first | exact Pick.here | apply Pick.there)) (fun a39 c39 => ?_)
          refine gp zl ?_
          refine gp (r_bool (c := true) zei (decide_eq_true (by omega))) ?_
          refine gp zmv ?_
          refine gq zmv ?_
          refine gq zln ?_
          refine gq (r_bool (c := true) zgt (decide_eq_true (by omega))) ?_
          refine gp zpk ?_
          refine gnt ?_
          refine gc_condT rfl rfl ?_
          refine gc_region ?_
          refine gp zmv ?_
          refine gp znc ?_
          refine gp zfa ?_
          refine zs1 ?_
          refine gnt ?_
          refine gsr ?_
          refine gp zmv ?_
          refine gp zmv ?_
          refine gp zln ?_
          refine gl_conv (M := [blk g 212 [.slice a39 S.bs.length c39, .int .i64 1], rowR 5 1 a39 S.bs.length c39 (S.bs.map B8)]) (N := [OutR g (⟨1, S.bs⟩ : WS)]) (by repeat (first | exact Sel.nil | (apply Sel.cons; · (repeat (first | exact Pick.here | apply Pick.there))))) (fun w F hF => out_mk hF rfl rfl rfl) ?_
          refine zc (fun _ => ?_) (c := fun w1 F1 F2 h1 h2 hd hst => onum_ok (s := ⟨1, S.bs⟩) (wd := 2) h1 (by decide) (by decide) (fun e => absurd e (by simp)) (by simp only; omega))
          rw [wNum_bad (s := ⟨1, S.bs⟩) (by simp)]
          refine gnt ?_
          refine gsr ?_
          refine gp zmv ?_
          refine gp znc ?_
          refine gp zfa ?_
          refine gl_out (s := ⟨1, S.bs⟩) (by repeat (first | exact Pick.here | apply Pick.there)) (fun a56 c56 => ?_)
          refine gp zl ?_
          refine gp (r_bool (c := false) zei rfl) ?_
          refine gnt ?_
          refine gc_condF rfl rfl ?_
          refine gc_skip ?_
          refine gx_block_normal ?_
          refine gx_then ?_
          refine gc_region ?_
          refine gp zad ?_
          refine gp zmv ?_
          refine gl_nil ?_
          refine zrd (k + 1) ?_ ?_
          · show x.payload.length - (k + 1) < x.payload.length - k
            omega
          · rintro w' hw
            rw [foldl_take_succ _ _ _ hly, ← hS]
            have e : wBytes y 16 S = ⟨1, S.bs⟩ := wTx_over he hq
            rw [e]
            have h2 := St.out (s := ⟨1, S.bs⟩) (a := a56) (c := c56) (m := (⟨1, S.bs⟩ : WS).bs.length) (xs := (⟨1, S.bs⟩ : WS).bs.map B8) (hw.sel (M := [_, _, blk b3 _ _]) (by repeat (first | exact Sel.nil | (apply Sel.cons; · (repeat (first | exact Pick.here | apply Pick.there)))))) rfl rfl rfl
            exact zlp (show k + 1 ≤ x.payload.length by omega) (by repeat (first | exact Sel.nil | (apply Sel.cons; · (repeat (first | exact Pick.here | apply Pick.there))))) w' h2
        · refine gc_region ?_
          refine gp zmv ?_
          refine gp znc ?_
          refine gp zfa ?_
          refine gl_out (s := S) (by repeat (first | exact Pick.here | apply Pick.there)) (fun a39 c39 => ?_)
          refine gp zl ?_
          refine gp (r_bool (c := true) zei (decide_eq_true (by omega))) ?_
          refine gp zmv ?_
          refine gq zmv ?_
          refine gq zln ?_
          refine gq (r_bool (c := false) zgt (decide_eq_false (by omega))) ?_
          refine gp zpk ?_
          refine gnt ?_
          refine gc_condF rfl rfl ?_
          refine gc_skip ?_
          refine gx_then ?_
          refine gsr ?_
          refine gp zmv ?_
          refine gp zmv ?_
          refine gp zln ?_
          refine gl_conv (M := [blk g 212 [.slice a39 S.bs.length c39, .int .i64 (S.err : Int)], rowR 5 1 a39 S.bs.length c39 (S.bs.map B8)]) (N := [OutR g S]) (by repeat (first | exact Sel.nil | (apply Sel.cons; · (repeat (first | exact Pick.here | apply Pick.there))))) (fun w F hF => out_mk hF rfl rfl rfl) ?_
          refine zc (fun _ => ?_) (c := fun w1 F1 F2 h1 h2 hd hst => onum_ok (wd := 2) h1 (by decide) (by decide) (fun _ => by unfold I64; omega) (by omega))
          rw [wNum_fit (by decide) he ⟨by omega, by have : (256 : Int) ^ 2 = 65536 := rfl; omega⟩]
          obtain ⟨S2, hS2⟩ : ∃ S2 : WS, S2 = ⟨0, S.bs ++ beN (y.length : Int) 2⟩ := ⟨_, rfl⟩
          rw [← hS2]
          refine gnt ?_
          refine gsr ?_
          refine gp zmv ?_
          refine gp znc ?_
          refine gp zfa ?_
          refine gl_out (s := S2) (by repeat (first | exact Pick.here | apply Pick.there)) (fun a56 c56 => ?_)
          refine gp zl ?_
          refine gp (r_bool (c := true) zei (by rw [hS2]; rfl)) ?_
          refine gnt ?_
          refine gc_condT rfl rfl ?_
          refine gc_region ?_
          refine gp zmv ?_
          refine gp zmv ?_
          refine gp znc ?_
          refine gp zfa ?_
          refine gp zl ?_
          refine gp zmv ?_
          have hl0 : S2.bs.length = S.bs.length + 2 := by rw [hS2]; simp [beN_length]
          refine gl_append (xs := S2.bs.map B8) (news := y.map B8) (wt0 rfl) rfl rfl (by repeat (first | exact Pick.here | apply Pick.there)) ELT.h (fun w hw => hw.rdOld hrb) (one_B8 _) (by simp only [maxLen, List.length_append, beN_length]; omega) (by omega) (fun a64 c64 => ?_)
          refine gp znc ?_
          refine gp zfa ?_
          refine zs1 ?_
          refine gl_nil ?_
          refine gx_block_normal ?_
          refine gx_then ?_
          refine gc_region ?_
          refine gp zad ?_
          refine gp zmv ?_
          refine gl_nil ?_
          refine zrd (k + 1) ?_ ?_
          · show x.payload.length - (k + 1) < x.payload.length - k
            omega
          · rintro w' hw
            rw [foldl_take_succ _ _ _ hly, ← hS]
            have e : wBytes y 16 S = ⟨0, S2.bs ++ y⟩ := by rw [hS2]; exact wTx_fit he hq
            rw [e]
            have h2 := St.out (s := ⟨0, S2.bs ++ y⟩) (a := a64) (c := c64) (m := S2.bs.length + y.length) (xs := List.map B8 S2.bs ++ List.map B8 y) (hw.sel (M := [_, _, blk b3 _ _]) (by repeat (first | exact Sel.nil | (apply Sel.cons; · (repeat (first | exact Pick.here | apply Pick.there)))))) (by rw [hS2]) (by simp) (by simp)
            exact zlp (show k + 1 ≤ x.payload.length by omega) (by repeat (first | exact Sel.nil | (apply Sel.cons; · (repeat (first | exact Pick.here | apply Pick.there))))) w' h2
      · refine gc_region ?_
        refine gp zmv ?_
        refine gp znc ?_
        refine gp zfa ?_
        refine gl_out (s := S) (by repeat (first | exact Pick.here | apply Pick.there)) (fun a39 c39 => ?_)
        refine gp zl ?_
        refine gp (r_bool (c := false) zei (decide_eq_false (by omega))) ?_
        refine gp zmv ?_
        refine gn ?_
        refine gn ?_
        refine gn ?_
        refine gp zpk ?_
        refine gnt ?_
        refine gc_condF rfl rfl ?_
        refine gc_skip ?_
        refine gx_then ?_
        refine gsr ?_
        refine gp zmv ?_
        refine gp zmv ?_
        refine gp zln ?_
        refine gl_conv (M := [blk g 212 [.slice a39 S.bs.length c39, .int .i64 (S.err : Int)], rowR 5 1 a39 S.bs.length c39 (S.bs.map B8)]) (N := [OutR g S]) (by repeat (first | exact Sel.nil | (apply Sel.cons; · (repeat (first | exact Pick.here | apply Pick.there))))) (fun w F hF => out_mk hF rfl rfl rfl) ?_
        refine zc (fun _ => ?_) (c := fun w1 F1 F2 h1 h2 hd hst => onum_ok (wd := 2) h1 (by decide) (by decide) (fun e => absurd e he) (by omega))
        rw [wNum_bad he]
        refine gnt ?_
        refine gsr ?_
        refine gp zmv ?_
        refine gp znc ?_
        refine gp zfa ?_
        refine gl_out (s := S) (by repeat (first | exact Pick.here | apply Pick.there)) (fun a56 c56 => ?_)
        refine gp zl ?_
        refine gp (r_bool (c := false) zei (decide_eq_false (by omega))) ?_
        refine gnt ?_
        refine gc_condF rfl rfl ?_
        refine gc_skip ?_
        refine gx_block_normal ?_
        refine gx_then ?_
        refine gc_region ?_
        refine gp zad ?_
        refine gp zmv ?_
        refine gl_nil ?_
        refine zrd (k + 1) ?_ ?_
        · show x.payload.length - (k + 1) < x.payload.length - k
          omega
        · rintro w' hw
          rw [foldl_take_succ _ _ _ hly, ← hS]
          have e : wBytes y 16 S = S := wBytes_bad y 16 S he
          rw [e]
          have h2 := St.out (s := S) (a := a56) (c := c56) (m := S.bs.length) (xs := S.bs.map B8) (hw.sel (M := [_, _, blk b3 _ _]) (by repeat (first | exact Sel.nil | (apply Sel.cons; · (repeat (first | exact Pick.here | apply Pick.there)))))) rfl rfl rfl
          exact zlp (show k + 1 ≤ x.payload.length by omega) (by repeat (first | exact Sel.nil | (apply Sel.cons; · (repeat (first | exact Pick.here | apply Pick.there))))) w' h2
    · try simp only at hc33
      have hk' : k = x.payload.length := by omega
      subst hk'
      rw [List.take_length, put_many (wX := fun t => wBytes t 16) (fun x s => wBytes_bad x 16 s) _ (by decide)]
      refine gc_exit ?_
      refine gx_then_exit ?_
      refine gx_round_exit ?_
      refine gx_block_hit ?_
      refine gx_then ?_
      refine gsr ?_
      refine gp zmv ?_
      refine gp zfa ?_
      refine gp zl ?_
      refine gp zln ?_
      refine zc (fun _ => ?_) (c := fun w1 F1 F2 h1 h2 hd hst => omany_ok (most := 7) h1 (by decide) (by omega))
      refine gnt ?_
      refine gsr ?_
      refine gp zfa ?_
      refine gp zl ?_
      refine gp zln ?_
      refine gp zmv ?_
      refine gnt ?_
      refine gc_block ?_
      refine gc_loop (α := Nat) (fun k => [pureR (k ≤ x.next.length), blk b3 30 (.int .i64 x.epoch :: .int .i64 x.round :: (dc x.parent ++ (q ++ [.slice a1 x.payload.length c1, .slice a2 x.next.length c2]))), OutR g ((x.next.take k).foldl (fun s x => wVdr x s) (wMany x.next.length 7 (wPut (fun t => wBytes t 16) x.payload 4 (wQC x.justify (wDig x.parent (wNum x.round 6 (wNum x.epoch 4 s)))))))]) (fun k => [(76, .int .i64 (k : Int))]) [7, 77, 78, 79, 80, 81, 82, 83, 84, 85, 86, 87, 88] (fun k => x.next.length - k) 0 ?_ ?_ ?_
      · refine env_start (by kernel_rfl)
      · exact zlp (Nat.zero_le _)
      · intro k u
        refine gc_pureR (fun hk => ?_)
        replace hk : k ≤ x.next.length := hk
        refine gsr ?_
        refine gp zlt ?_
        refine gnt ?_
        refine gc_seq ?_
        refine gif rfl (fun hc77 => ?_) (fun hc77 => ?_)
        · try simp only at hc77
          have hk' : k < x.next.length := by omega
          obtain ⟨ga, o, cs1, y, ha, hA, hg, hra, hcl, hly, hrd⟩ := hd2.elem (by decide) hk'
          subst ha
          have hbk := many_bound (k := k) (l := x.next) (s := (wPut (fun t => wBytes t 16) x.payload 4 (wQC x.justify (wDig x.parent (wNum x.round 6 (wNum x.epoch 4 s)))))) (most := 7) (M := 1099511627776) wVdr_len wVdr_bad hk' (by decide) (by omega)
          unfold RdVdr at hrd
          subst hrd
          have hoy := ho.2.2.2 y (List.mem_of_getElem? hly)
          have f0 := wDig_len y.key ((x.next.take k).foldl (fun s x => wVdr x s) (wMany x.next.length 7 (wPut (fun t => wBytes t 16) x.payload 4 (wQC x.justify (wDig x.parent (wNum x.round 6 (wNum x.epoch 4 s)))))))
          refine gc_skip ?_
          refine gx_then ?_
          refine gc_seq ?_
          refine gc_block ?_
          refine gsr ?_
          refine gp (r_indexAddr_slice rfl rfl Ty.sl_28 Ty.sz_159 (by omega) (by omega)) ?_
          refine gp (r_ldNo rfl Ty.row_159 Ty.sz_159 hra hcl (by decide) hA) ?_
          refine zal fun b7 => ?_
          refine gl_storeN (wt0 rfl) rfl rfl Ty.sz_159 hcl (by repeat (first | exact Pick.here | apply Pick.there)) (by first | decide | (rw [zD_length]; decide)) (all_app' (dc_one _) (all_cons' rfl all_nil')) (updL_all (by rw [hcl]; first | rfl | decide)) ?_
          refine gnt ?_
          refine gsr ?_
          refine gp zmv ?_
          refine gp zfa ?_
          refine gp (zL (sg := dc y.key)) ?_
          refine zc (fun _ => ?_) (c := fun w1 F1 F2 h1 h2 hd hst => odigest_ok h1 (by omega))
          refine gnt ?_
          refine gc_region ?_
          refine gp zmv ?_
          refine gp zfa ?_
          refine gp zl ?_
          refine zc (fun _ => ?_) (c := fun w1 F1 F2 h1 h2 hd hst => onum_ok (wd := 6) h1 (by decide) (by decide) (fun _ => hoy) (by omega))
          refine gl_nil ?_
          refine gx_block_normal ?_
          refine gx_then ?_
          refine gc_region ?_
          refine gp zad ?_
          refine gp zmv ?_
          refine gl_nil ?_
          refine zrd (k + 1) ?_ ?_
          · show x.next.length - (k + 1) < x.next.length - k
            omega
          · rintro w' hw
            rw [foldl_take_succ _ _ _ hly]
            exact zlp (show k + 1 ≤ x.next.length by omega) (by repeat (first | exact Sel.nil | (apply Sel.cons; · (repeat (first | exact Pick.here | apply Pick.there))))) w' hw
        · try simp only at hc77
          have hk' : k = x.next.length := by omega
          subst hk'
          rw [List.take_length, put_many wVdr_bad _ (by decide)]
          refine gc_exit ?_
          refine gx_then_exit ?_
          refine gx_round_exit ?_
          refine gx_block_hit ?_
          refine gx_ret0' rfl ?_
          exact ze ()

end Go.Proofs.YtobjojeliibinaaGreatDoor

/- Plain words: what the reader of layer 9 makes of bytes; that it undoes the writer, and the writer it. No program in sight. -/
namespace Go.Proofs.YtobjojeliibinaaGreatDoor
set_option linter.unusedVariables false

/-- A reading: a value and what is left, or an error's number. -/
abbrev PR (α : Type) := List UInt8 → Except Nat (α × List UInt8)
def pBind {α β : Type} (p : PR α) (f : α → PR β) : PR β := fun b => match p b with
  | .error e => .error e
  | .ok x => f x.1 x.2
def pPure {α : Type} (x : α) : PR α := fun b => .ok (x, b)
def pErr {α : Type} (e : Nat) : PR α := fun _ => .error e
def pTake (n : Nat) : PR (List UInt8) := fun b => if b.length < n then .error 2 else .ok (b.take n, b.drop n)
def valN (l : List UInt8) : Nat := l.foldl (fun n c => n * 256 + c.toNat) 0
def pNum (wd : Nat) : PR Int := pBind (pTake wd) fun l => pPure (valN l : Int)
def digOf (l : List UInt8) : Dig := if h : l.length = 16 then ⟨l, h⟩ else dig0
def pDig : PR Dig := pBind (pTake 16) fun l => pPure (digOf l)
def pMany {α : Type} (one : PR α) : Nat → PR (List α)
  | 0 => pPure []
  | k + 1 => pBind one fun x => pBind (pMany one k) fun l => pPure (x :: l)
def pList {α : Type} (one : PR α) (most : Nat) : PR (List α) := pBind (pNum 1) fun n => if (most : Int) < n then pErr 1 else pMany one n.toNat
def pBytes (most : Nat) : PR (List UInt8) := pBind (pNum 2) fun n => if (most : Int) < n then pErr 1 else pTake n.toNat
def pSig : PR Sig := pBind (pNum 1) fun l => pBind (pList pDig 68) fun c => pBind (pList pDig 5) fun p => pPure ⟨l, c, p⟩
def pSigned : PR Signed := pBind (pNum 1) fun w => pBind pSig fun s => pPure ⟨w, s⟩
def pAt : PR (Int × Int) := pBind (pNum 4) fun e => pBind (pNum 6) fun r => pPure (e, r)
def pQC : PR QC := pBind pAt fun a => pBind pDig fun d => pBind (pList pSigned 7) fun v => pPure ⟨a.1, a.2, d, v⟩
def pLate : PR Late := pBind (pNum 1) fun w => pBind (pNum 6) fun h => pBind pSig fun s => pPure ⟨w, h, s⟩
def pTC : PR TC := pBind pAt fun a => pBind (pList pLate 7) fun l => pPure ⟨a.1, a.2, l⟩
def pVdr : PR Vdr := pBind pDig fun k => pBind (pNum 6) fun p => pPure ⟨k, p⟩
def pBlock : PR Block := pBind pAt fun a => pBind pDig fun d => pBind pQC fun q => pBind (pList (pBytes 16) 4) fun t => pBind (pList pVdr 7) fun v => pPure ⟨a.1, a.2, d, q, t, v⟩
def pChg : PR Chg := pBind (pMany pBlock 3) fun bs => pBind pQC fun q => pPure ⟨bs, q⟩
def pVote : PR Vote := pBind pAt fun a => pBind pDig fun d => pBind pSigned fun s => pPure ⟨a.1, a.2, d, s⟩
def pTmo : PR Tmo := pBind pAt fun a => pBind pQC fun q => pBind pTC fun t => pBind pSigned fun s => pPure ⟨a.1, a.2, q, t, s⟩
def pProp : PR Prop' := pBind pBlock fun b => pBind pTC fun t => pBind pSigned fun s => pPure ⟨b, t, s⟩
def sig0 : Sig := ⟨0, [], []⟩
def sgn0 : Signed := ⟨0, sig0⟩
def qc0 : QC := ⟨0, 0, dig0, []⟩
def tc0 : TC := ⟨0, 0, []⟩
def blk0 : Block := ⟨0, 0, dig0, qc0, [], []⟩
def chg0 : Chg := ⟨[blk0, blk0, blk0], qc0⟩
def msg0 (k : Int) : Msg := ⟨k, ⟨0, 0, dig0, sgn0⟩, ⟨0, 0, qc0, tc0, sgn0⟩, ⟨blk0, tc0, sgn0⟩, dig0, dig0, blk0, chg0⟩
def pBody (k : Int) : PR Msg :=
  if k = 1 then pBind pVote fun v => pPure { msg0 k with vote := v }
  else if k = 2 then pBind pTmo fun v => pPure { msg0 k with tmo := v }
  else if k = 3 then pBind pProp fun v => pPure { msg0 k with prop := v }
  else if k = 4 then pBind pDig fun d => pBind pDig fun e => pPure { msg0 k with wantFrom := d, wantBlock := e }
  else if k = 5 then pBind pBlock fun v => pPure { msg0 k with reply := v }
  else if k = 6 then pBind pChg fun v => pPure { msg0 k with chg := v }
  else pErr 4
def pMsg : PR Msg := pBind (pNum 1) pBody
/-- All bytes are read. -/
def pAll {α : Type} (p : PR α) (b : List UInt8) : Except Nat α := match p b with
  | .error e => .error e
  | .ok x => if x.2 = [] then .ok x.1 else .error 3
/-- A message with its kind's fields alone. -/
def plainM (m : Msg) : Msg :=
  if m.kind = 1 then { msg0 m.kind with vote := m.vote }
  else if m.kind = 2 then { msg0 m.kind with tmo := m.tmo }
  else if m.kind = 3 then { msg0 m.kind with prop := m.prop }
  else if m.kind = 4 then { msg0 m.kind with wantFrom := m.wantFrom, wantBlock := m.wantBlock }
  else if m.kind = 5 then { msg0 m.kind with reply := m.reply }
  else if m.kind = 6 then { msg0 m.kind with chg := m.chg }
  else msg0 m.kind

/-! ### Numbers -/
theorem valN_go (l : List UInt8) (a : Nat) : l.foldl (fun n c => n * 256 + c.toNat) a = a * 256 ^ l.length + valN l := by
  unfold valN
  induction l generalizing a with
  | nil => simp
  | cons c l ih =>
    rw [List.foldl_cons, ih, List.foldl_cons, ih (0 * 256 + c.toNat), List.length_cons, Nat.pow_succ, Nat.add_mul, Nat.zero_mul, Nat.zero_add, Nat.mul_comm (256 ^ l.length) 256, ← Nat.mul_assoc]
    omega
theorem valN_cons (c : UInt8) (l : List UInt8) : valN (c :: l) = c.toNat * 256 ^ l.length + valN l := by
  conv => lhs; unfold valN
  rw [List.foldl_cons, valN_go, Nat.zero_mul, Nat.zero_add]
theorem valN_lt (l : List UInt8) : valN l < 256 ^ l.length := by
  induction l with
  | nil => simp [valN]
  | cons c l ih =>
    rw [valN_cons, List.length_cons, Nat.pow_succ]
    have := c.toNat_lt
    have h2 : c.toNat * 256 ^ l.length ≤ 255 * 256 ^ l.length := Nat.mul_le_mul_right _ (by omega)
    omega
theorem beN_succ (n : Int) (wd : Nat) : beN n (wd + 1) = byteAt n wd :: beN n wd := by
  simp only [beN, List.range_succ_eq_map, List.map_cons, List.map_map]
  congr 1
  apply List.map_congr_left
  intro j hj
  simp only [Function.comp]
  congr 1
  omega
theorem byteAt_nat (n i : Nat) : byteAt (n : Int) i = UInt8.ofNat (n / 256 ^ i) := by
  unfold byteAt
  have e : (2 : Int) ^ (8 * i) = ((256 ^ i : Nat) : Int) := by
    rw [Int.pow_mul]; simp
  rw [e, ← Int.natCast_ediv, show ((n / 256 ^ i : Nat) : Int) % 256 = ((n / 256 ^ i % 256 : Nat) : Int) by simp, Int.toNat_natCast]
  apply UInt8.toNat_inj.1
  simp
theorem valN_beN (n wd : Nat) : valN (beN (n : Int) wd) = n % 256 ^ wd := by
  induction wd with
  | zero => simp [beN, valN, Nat.mod_one]
  | succ wd ih =>
    have e : n % 256 ^ (wd + 1) = n % 256 ^ wd + 256 ^ wd * (n / 256 ^ wd % 256) := by rw [Nat.pow_succ, Nat.mod_mul]
    rw [beN_succ, valN_cons, ih, beN_length, byteAt_nat, UInt8.toNat_ofNat', e]
    rw [Nat.add_comm, Nat.mul_comm]
theorem beN_mod (c v k j : Nat) (h : j ≤ k) : beN ((c * 256 ^ k + v : Nat) : Int) j = beN (v : Int) j := by
  induction j with
  | zero => rfl
  | succ j ih =>
    rw [beN_succ, beN_succ, ih (by omega), byteAt_nat, byteAt_nat]
    congr 1
    apply UInt8.toNat_inj.1
    obtain ⟨d, rfl⟩ : ∃ d, k = j + 1 + d := ⟨k - (j + 1), by omega⟩
    have e : c * 256 ^ (j + 1 + d) + v = v + 256 ^ j * (256 * (256 ^ d * c)) := by
      rw [Nat.pow_add, Nat.pow_succ]
      rw [Nat.add_comm]; congr 1
      rw [Nat.mul_comm c, Nat.mul_assoc, Nat.mul_assoc]
    rw [e, UInt8.toNat_ofNat', UInt8.toNat_ofNat', Nat.add_mul_div_left _ _ (Nat.pow_pos (by decide))]
    omega
theorem beN_valN (l : List UInt8) : beN (valN l : Int) l.length = l := by
  induction l with
  | nil => rfl
  | cons c l ih =>
    rw [List.length_cons, beN_succ, valN_cons, beN_mod _ _ _ _ (Nat.le_refl _), ih, byteAt_nat]
    congr 1
    apply UInt8.toNat_inj.1
    rw [UInt8.toNat_ofNat', Nat.mul_comm, Nat.mul_add_div (Nat.pow_pos (by decide)), Nat.div_eq_of_lt (valN_lt l)]
    have := c.toNat_lt
    omega

/-! ### What is written is read -/
/-- What W writes is what p reads. -/
def Enc {α : Type} (W : α → WS → WS) (p : PR α) : Prop := ∀ x s, (W x s).err = 0 → s.err = 0 ∧ ∃ b, (W x s).bs = s.bs ++ b ∧ ∀ r, p (b ++ r) = .ok (x, r)
/-- What p reads is what W writes. -/
def Dec {α : Type} (W : α → WS → WS) (p : PR α) : Prop := ∀ b x r, p b = .ok (x, r) → ∃ b', b = b' ++ r ∧ ∀ s, s.err = 0 → W x s = ⟨0, s.bs ++ b'⟩
/-- What p reads it reads whatever is behind; cut short it is short. -/
def Loc {α : Type} (p : PR α) : Prop := ∀ b x r, p b = .ok (x, r) → ∃ b', b = b' ++ r ∧ (∀ m, p (b' ++ m) = .ok (x, m)) ∧ ∀ k, k < b'.length → p (b'.take k) = .error 2

theorem pBind_ok {α β : Type} {p : PR α} {f : α → PR β} {b r : List UInt8} {y : β} (h : pBind p f b = .ok (y, r)) : ∃ x r1, p b = .ok (x, r1) ∧ f x r1 = .ok (y, r) := by
  unfold pBind at h
  cases hp : p b with
  | error e => rw [hp] at h; cases h
  | ok x => rw [hp] at h; exact ⟨x.1, x.2, rfl, h⟩
theorem pBind_eq {α β : Type} {p : PR α} {f : α → PR β} {b r : List UInt8} {x : α} (h : p b = .ok (x, r)) : pBind p f b = f x r := by
  unfold pBind; rw [h]
theorem pBind_err {α β : Type} {p : PR α} {f : α → PR β} {b : List UInt8} {e : Nat} (h : p b = .error e) : pBind p f b = .error e := by
  unfold pBind; rw [h]
theorem pTake_ok {n : Nat} {b l r : List UInt8} (h : pTake n b = .ok (l, r)) : b = l ++ r ∧ l.length = n := by
  unfold pTake at h
  split at h
  · cases h
  · simp only [Except.ok.injEq, Prod.mk.injEq] at h
    obtain ⟨rfl, rfl⟩ := h
    simp; omega
theorem pTake_app (l r : List UInt8) : pTake l.length (l ++ r) = .ok (l, r) := by
  simp [pTake]
theorem pNum_app {wd n : Nat} (h : n < 256 ^ wd) (r : List UInt8) : pNum wd (beN (n : Int) wd ++ r) = .ok ((n : Int), r) := by
  have := pTake_app (beN (n : Int) wd) r
  rw [beN_length] at this
  rw [pNum, pBind_eq this, valN_beN, Nat.mod_eq_of_lt h]; rfl
theorem pNum_ok {wd : Nat} {b r : List UInt8} {n : Int} (h : pNum wd b = .ok (n, r)) : ∃ m : Nat, n = m ∧ m < 256 ^ wd ∧ b = beN n wd ++ r := by
  obtain ⟨l, r1, h1, h2⟩ := pBind_ok h
  obtain ⟨rfl, rfl⟩ := pTake_ok h1
  simp only [pPure, Except.ok.injEq, Prod.mk.injEq] at h2
  obtain ⟨rfl, rfl⟩ := h2
  exact ⟨valN l, rfl, valN_lt l, by rw [beN_valN]⟩
theorem wNum_ok {n : Int} {wd : Nat} {s : WS} (hw : wd < 8) (h : (wNum n wd s).err = 0) : s.err = 0 ∧ 0 ≤ n ∧ n < 256 ^ wd ∧ wNum n wd s = ⟨0, s.bs ++ beN n wd⟩ := by
  have e : (2 : Int) ^ (8 * wd) = 256 ^ wd := by rw [Int.pow_mul]; rfl
  unfold wNum at h ⊢
  split at h
  · exfalso
    unfold wFail at h
    split at h
    · simp at h
    · contradiction
  · rename_i hn
    rw [if_neg hn]
    have hn' : 0 ≤ n ∧ n < 256 ^ wd := by rw [← e]; omega
    unfold wFix at h ⊢
    split at h
    · rename_i hs
      rw [if_pos hs, hs]
      exact ⟨rfl, hn'.1, hn'.2, rfl⟩
    · contradiction
theorem wNum_of {n wd : Nat} {s : WS} (h : n < 256 ^ wd) (hs : s.err = 0) : wNum (n : Int) wd s = ⟨0, s.bs ++ beN n wd⟩ := by
  have e : (2 : Int) ^ (8 * wd) = ((256 ^ wd : Nat) : Int) := by rw [Int.pow_mul]; simp
  unfold wNum
  rw [e, if_neg (by omega), wFix, if_pos hs, hs]
theorem wFail_err {k : Nat} (hk : k ≠ 0) (s : WS) : (wFail k s).err ≠ 0 := by
  unfold wFail; split
  · exact hk
  · assumption
theorem wFix_ok {b : List UInt8} {s : WS} (h : (wFix b s).err = 0) : s.err = 0 ∧ wFix b s = ⟨0, s.bs ++ b⟩ := by
  unfold wFix at h ⊢
  split at h
  · rename_i hs; rw [if_pos hs, hs]; exact ⟨rfl, rfl⟩
  · contradiction
theorem wFix_of {b : List UInt8} {s : WS} (hs : s.err = 0) : wFix b s = ⟨0, s.bs ++ b⟩ := by rw [wFix, if_pos hs, hs]

theorem enc_num {wd : Nat} (hw : wd < 8) : Enc (fun n s => wNum n wd s) (pNum wd) := fun n s h => by
  obtain ⟨h1, h2, h3, h4⟩ := wNum_ok hw h
  refine ⟨h1, beN n wd, by simp only [h4], fun r => ?_⟩
  obtain ⟨m, rfl⟩ := Int.eq_ofNat_of_zero_le h2
  exact pNum_app (by have : ((m : Nat) : Int) < ((256 ^ wd : Nat) : Int) := by simpa using h3
                     omega) r
theorem dec_num {wd : Nat} : Dec (fun n s => wNum n wd s) (pNum wd) := fun b n r h => by
  obtain ⟨m, rfl, h2, h3⟩ := pNum_ok h
  exact ⟨beN m wd, h3, fun s hs => wNum_of h2 hs⟩
theorem enc_dig : Enc wDig pDig := fun d s h => by
  obtain ⟨h1, h2⟩ := wFix_ok h
  refine ⟨h1, d.l, by simp only [wDig, h2], fun r => ?_⟩
  have := pTake_app d.l r
  rw [d.h] at this
  rw [pDig, pBind_eq this, digOf, dif_pos d.h]; rfl
theorem dec_dig : Dec wDig pDig := fun b d r h => by
  obtain ⟨l, r1, h1, h2⟩ := pBind_ok h
  obtain ⟨rfl, hl⟩ := pTake_ok h1
  simp only [pPure, Except.ok.injEq, Prod.mk.injEq, digOf, dif_pos hl] at h2
  obtain ⟨rfl, rfl⟩ := h2
  exact ⟨l, rfl, fun s hs => wFix_of hs⟩
/-- One behind the other: first a part, then the rest. -/
theorem enc_bind {α β : Type} {W : α → WS → WS} {p : PR α} (h : Enc W p) {V : β → WS → WS} {q : α → PR β} {g : β → α} (hv : ∀ y s, (V y s).err = 0 → s.err = 0 ∧ ∃ b, (V y s).bs = s.bs ++ b ∧ ∀ r, q (g y) (b ++ r) = .ok (y, r)) :
    Enc (fun y s => V y (W (g y) s)) (pBind p q) := fun y s hs => by
  obtain ⟨h1, b2, e2, k2⟩ := hv y _ hs
  obtain ⟨h3, b1, e1, k1⟩ := h _ _ h1
  refine ⟨h3, b1 ++ b2, by rw [e2, e1, List.append_assoc], fun r => ?_⟩
  rw [List.append_assoc, pBind_eq (k1 _), k2]
theorem dec_bind {α β : Type} {W : α → WS → WS} {p : PR α} (h : Dec W p) {V : β → WS → WS} {q : α → PR β} {g : β → α}
    (hv : ∀ a b y r, q a b = .ok (y, r) → g y = a ∧ ∃ b', b = b' ++ r ∧ ∀ s, s.err = 0 → V y s = ⟨0, s.bs ++ b'⟩) : Dec (fun y s => V y (W (g y) s)) (pBind p q) := fun b y r hb => by
  obtain ⟨x, r1, h1, h2⟩ := pBind_ok hb
  obtain ⟨b1, rfl, k1⟩ := h _ _ _ h1
  obtain ⟨rfl, b2, rfl, k2⟩ := hv _ _ _ _ h2
  exact ⟨b1 ++ b2, by rw [List.append_assoc], fun s hs => by show V y (W (g y) s) = _; rw [k1 s hs, k2 _ rfl, List.append_assoc]⟩
theorem foldl_err {α : Type} {W : α → WS → WS} (h : ∀ x s, (W x s).err = 0 → s.err = 0) : ∀ (l : List α) (s : WS), (l.foldl (fun s x => W x s) s).err = 0 → s.err = 0
  | [], s, hs => hs
  | x :: l, s, hs => h x s (foldl_err h l _ hs)
theorem enc_many {α : Type} {W : α → WS → WS} {p : PR α} (h : Enc W p) : ∀ (l : List α) (s : WS), (l.foldl (fun s x => W x s) s).err = 0 → s.err = 0 ∧ ∃ b, (l.foldl (fun s x => W x s) s).bs = s.bs ++ b ∧ ∀ r, pMany p l.length (b ++ r) = .ok (l, r)
  | [], s, hs => ⟨hs, [], by simp, fun r => rfl⟩
  | x :: l, s, hs => by
    obtain ⟨h1, b2, e2, k2⟩ := enc_many h l (W x s) hs
    obtain ⟨h3, b1, e1, k1⟩ := h _ _ h1
    refine ⟨h3, b1 ++ b2, by rw [List.foldl_cons, e2, e1, List.append_assoc], fun r => ?_⟩
    rw [List.append_assoc, List.length_cons, pMany, pBind_eq (k1 _), pBind_eq (k2 _)]; rfl
theorem dec_many {α : Type} {W : α → WS → WS} {p : PR α} (h : Dec W p) : ∀ (n : Nat) (b : List UInt8) (l : List α) (r : List UInt8), pMany p n b = .ok (l, r) → l.length = n ∧ ∃ b', b = b' ++ r ∧ ∀ s, s.err = 0 → l.foldl (fun s x => W x s) s = ⟨0, s.bs ++ b'⟩
  | 0, b, l, r, hb => by
    simp only [pMany, pPure, Except.ok.injEq, Prod.mk.injEq] at hb
    obtain ⟨rfl, rfl⟩ := hb
    exact ⟨rfl, [], rfl, fun s hs => by rw [← hs]; simp⟩
  | n + 1, b, l, r, hb => by
    obtain ⟨x, r1, h1, h2⟩ := pBind_ok hb
    obtain ⟨l', r2, h3, h4⟩ := pBind_ok h2
    simp only [pPure, Except.ok.injEq, Prod.mk.injEq] at h4
    obtain ⟨rfl, rfl⟩ := h4
    obtain ⟨b1, rfl, k1⟩ := h _ _ _ h1
    obtain ⟨hl, b2, rfl, k2⟩ := dec_many h n _ _ _ h3
    exact ⟨by simp [hl], b1 ++ b2, by rw [List.append_assoc], fun s hs => by rw [List.foldl_cons, k1 s hs, k2 _ rfl, List.append_assoc]⟩
theorem enc_list {α : Type} {W : α → WS → WS} {p : PR α} (h : Enc W p) (most : Nat) : Enc (fun l s => wPut W l most s) (pList p most) := fun l s hs => by
  simp only [wPut] at hs ⊢
  split at hs
  · exact absurd hs (wFail_err (by decide) s)
  · rename_i hn
    rw [if_neg hn]
    obtain ⟨h1, b2, e2, k2⟩ := enc_many h l _ hs
    obtain ⟨h3, b1, e1, k1⟩ := enc_num (wd := 1) (by decide) _ _ h1
    refine ⟨h3, b1 ++ b2, by rw [e2, e1, List.append_assoc], fun r => ?_⟩
    rw [List.append_assoc, pList, pBind_eq (k1 _), if_neg (by omega), Int.toNat_natCast, k2]
theorem dec_list {α : Type} {W : α → WS → WS} {p : PR α} (h : Dec W p) (most : Nat) : Dec (fun l s => wPut W l most s) (pList p most) := fun b l r hb => by
  obtain ⟨n, r1, h1, h2⟩ := pBind_ok hb
  obtain ⟨m, rfl, hm, _⟩ := pNum_ok h1
  obtain ⟨b1, rfl, k1⟩ := dec_num _ _ _ h1
  split at h2
  · cases h2
  · rename_i hn
    rw [Int.toNat_natCast] at h2
    obtain ⟨hl, b2, rfl, k2⟩ := dec_many h _ _ _ _ h2
    refine ⟨b1 ++ b2, by rw [List.append_assoc], fun s hs => ?_⟩
    simp only [wPut]
    rw [if_neg (by omega), hl, show wNum (m : Int) 1 s = _ from k1 s hs, k2 _ rfl, List.append_assoc]
theorem enc_bytes {most : Nat} : Enc (fun b s => wBytes b most s) (pBytes most) := fun l s hs => by
  simp only [wBytes] at hs ⊢
  split at hs
  · exact absurd hs (wFail_err (by decide) s)
  · rename_i hn
    rw [if_neg hn]
    obtain ⟨h1, h2⟩ := wFix_ok hs
    obtain ⟨h3, b1, e1, k1⟩ := enc_num (wd := 2) (by decide) _ _ h1
    refine ⟨h3, b1 ++ l, by simp only [h2, e1, List.append_assoc], fun r => ?_⟩
    rw [List.append_assoc, pBytes, pBind_eq (k1 _), if_neg (by omega), Int.toNat_natCast, pTake_app]
theorem dec_bytes {most : Nat} : Dec (fun b s => wBytes b most s) (pBytes most) := fun b l r hb => by
  obtain ⟨n, r1, h1, h2⟩ := pBind_ok hb
  obtain ⟨m, rfl, hm, _⟩ := pNum_ok h1
  obtain ⟨b1, rfl, k1⟩ := dec_num _ _ _ h1
  split at h2
  · cases h2
  · rename_i hn
    rw [Int.toNat_natCast] at h2
    obtain ⟨rfl, hl⟩ := pTake_ok h2
    refine ⟨b1 ++ l, by rw [List.append_assoc], fun s hs => ?_⟩
    simp only [wBytes]
    rw [if_neg (by omega), hl, show wNum (m : Int) 2 s = _ from k1 s hs, wFix_of rfl, List.append_assoc]

/-! ### Cut short -/
theorem loc_pure {α : Type} (x : α) : Loc (pPure x) := fun b y r h => by
  simp only [pPure, Except.ok.injEq, Prod.mk.injEq] at h
  obtain ⟨rfl, rfl⟩ := h
  exact ⟨[], rfl, fun m => rfl, fun k hk => absurd hk (by simp)⟩
theorem loc_err {α : Type} (e : Nat) : Loc (pErr (α := α) e) := fun b y r h => by cases h
theorem loc_take (n : Nat) : Loc (pTake n) := fun b l r h => by
  obtain ⟨rfl, hl⟩ := pTake_ok h
  refine ⟨l, rfl, fun m => by rw [← hl]; exact pTake_app l m, fun k hk => ?_⟩
  unfold pTake
  rw [if_pos (by rw [List.length_take]; omega)]
theorem loc_bind {α β : Type} {p : PR α} {f : α → PR β} (hp : Loc p) (hf : ∀ x, Loc (f x)) : Loc (pBind p f) := fun b y r h => by
  obtain ⟨x, r1, h1, h2⟩ := pBind_ok h
  obtain ⟨b1, rfl, k1, s1⟩ := hp _ _ _ h1
  obtain ⟨b2, rfl, k2, s2⟩ := hf _ _ _ _ h2
  refine ⟨b1 ++ b2, by rw [List.append_assoc], fun m => by rw [List.append_assoc, pBind_eq (k1 _), k2], fun k hk => ?_⟩
  by_cases hk1 : k < b1.length
  · rw [List.take_append_of_le_length (by omega), pBind_err (s1 k hk1)]
  · obtain ⟨j, rfl⟩ : ∃ j, k = b1.length + j := ⟨k - b1.length, by omega⟩
    rw [List.take_append, pBind_eq (x := x) (r := b2.take j)]
    · exact s2 j (by rw [List.length_append] at hk; omega)
    · rw [List.take_of_length_le (by omega), Nat.add_sub_cancel_left]; exact k1 _
theorem loc_num (wd : Nat) : Loc (pNum wd) := loc_bind (loc_take wd) fun _ => loc_pure _
theorem loc_dig : Loc pDig := loc_bind (loc_take 16) fun _ => loc_pure _
theorem loc_many {α : Type} {p : PR α} (h : Loc p) : ∀ n, Loc (pMany p n)
  | 0 => loc_pure _
  | n + 1 => loc_bind h fun _ => loc_bind (loc_many h n) fun _ => loc_pure _
theorem loc_ite {α : Type} {c : Prop} [Decidable c] {p q : PR α} (hp : Loc p) (hq : Loc q) : Loc (if c then p else q) := by split <;> assumption
theorem loc_list {α : Type} {p : PR α} (h : Loc p) (most : Nat) : Loc (pList p most) := loc_bind (loc_num 1) fun _ => loc_ite (loc_err 1) (loc_many h _)
theorem loc_bytes (most : Nat) : Loc (pBytes most) := loc_bind (loc_num 2) fun _ => loc_ite (loc_err 1) (loc_take _)
theorem loc_sig : Loc pSig := loc_bind (loc_num 1) fun _ => loc_bind (loc_list loc_dig 68) fun _ => loc_bind (loc_list loc_dig 5) fun _ => loc_pure _
theorem loc_signed : Loc pSigned := loc_bind (loc_num 1) fun _ => loc_bind loc_sig fun _ => loc_pure _
theorem loc_at : Loc pAt := loc_bind (loc_num 4) fun _ => loc_bind (loc_num 6) fun _ => loc_pure _
theorem loc_qc : Loc pQC := loc_bind loc_at fun _ => loc_bind loc_dig fun _ => loc_bind (loc_list loc_signed 7) fun _ => loc_pure _
theorem loc_late : Loc pLate := loc_bind (loc_num 1) fun _ => loc_bind (loc_num 6) fun _ => loc_bind loc_sig fun _ => loc_pure _
theorem loc_tc : Loc pTC := loc_bind loc_at fun _ => loc_bind (loc_list loc_late 7) fun _ => loc_pure _
theorem loc_vdr : Loc pVdr := loc_bind loc_dig fun _ => loc_bind (loc_num 6) fun _ => loc_pure _
theorem loc_block : Loc pBlock := loc_bind loc_at fun _ => loc_bind loc_dig fun _ => loc_bind loc_qc fun _ => loc_bind (loc_list (loc_bytes 16) 4) fun _ => loc_bind (loc_list loc_vdr 7) fun _ => loc_pure _
theorem loc_chg : Loc pChg := loc_bind (loc_many loc_block 3) fun _ => loc_bind loc_qc fun _ => loc_pure _
theorem loc_vote : Loc pVote := loc_bind loc_at fun _ => loc_bind loc_dig fun _ => loc_bind loc_signed fun _ => loc_pure _
theorem loc_tmo : Loc pTmo := loc_bind loc_at fun _ => loc_bind loc_qc fun _ => loc_bind loc_tc fun _ => loc_bind loc_signed fun _ => loc_pure _
theorem loc_prop : Loc pProp := loc_bind loc_block fun _ => loc_bind loc_tc fun _ => loc_bind loc_signed fun _ => loc_pure _
theorem loc_body (k : Int) : Loc (pBody k) := by
  unfold pBody
  refine loc_ite (loc_bind loc_vote fun _ => loc_pure _) (loc_ite (loc_bind loc_tmo fun _ => loc_pure _) (loc_ite (loc_bind loc_prop fun _ => loc_pure _) (loc_ite (loc_bind loc_dig fun _ => loc_bind loc_dig fun _ => loc_pure _) (loc_ite (loc_bind loc_block fun _ => loc_pure _) (loc_ite (loc_bind loc_chg fun _ => loc_pure _) (loc_err 4))))))
theorem loc_msg : Loc pMsg := loc_bind (loc_num 1) loc_body

/-! ### The parts of messages -/
theorem pPure_ok {α : Type} {x y : α} {b r : List UInt8} (h : pPure x b = .ok (y, r)) : x = y ∧ b = r := by
  simpa only [pPure, Except.ok.injEq, Prod.mk.injEq] using h
/-- The same of one value. -/
def EncAt {β : Type} (f : WS → WS) (p : PR β) (y : β) : Prop := ∀ s, (f s).err = 0 → s.err = 0 ∧ ∃ b, (f s).bs = s.bs ++ b ∧ ∀ r, p (b ++ r) = .ok (y, r)
theorem encAt_pure {β : Type} (y : β) : EncAt (fun s => s) (pPure y) y := fun s h => ⟨h, [], by simp, fun r => rfl⟩
theorem encAt_bind {α β : Type} {f g : WS → WS} {p : PR α} {q : α → PR β} {x : α} {y : β} (h : EncAt f p x) (k : EncAt g (q x) y) : EncAt (fun s => g (f s)) (pBind p q) y := fun s hs => by
  obtain ⟨h1, b2, e2, k2⟩ := k _ hs
  obtain ⟨h3, b1, e1, k1⟩ := h _ h1
  refine ⟨h3, b1 ++ b2, by rw [e2, e1, List.append_assoc], fun r => ?_⟩
  rw [List.append_assoc, pBind_eq (k1 _), k2]
theorem encAt_many {α : Type} {W : α → WS → WS} {p : PR α} (h : Enc W p) (l : List α) : EncAt (fun s => l.foldl (fun s x => W x s) s) (pMany p l.length) l := fun s hs => enc_many h l s hs
theorem dec_manyAt {α : Type} {W : α → WS → WS} {p : PR α} (h : Dec W p) {n : Nat} {b r : List UInt8} {l : List α} (hb : pMany p n b = .ok (l, r)) : ∃ b', b = b' ++ r ∧ ∀ s, s.err = 0 → l.foldl (fun s x => W x s) s = ⟨0, s.bs ++ b'⟩ := (dec_many h n b l r hb).2
def wAtP (x : Int × Int) (s : WS) : WS := wAt x.1 x.2 s
theorem enc_sig : Enc wSig pSig := fun x s hs => by
  simp only [wSig] at hs ⊢
  obtain ⟨h2, b2, e2, k2⟩ := enc_list enc_dig 5 x.path _ hs
  obtain ⟨h1, b1, e1, k1⟩ := enc_list enc_dig 68 x.chains _ h2
  obtain ⟨h0, b0, e0, k0⟩ := enc_num (wd := 1) (by decide) x.leaf _ h1
  simp only at e0 e1 e2
  refine ⟨h0, b0 ++ b1 ++ b2, ?_, fun r => ?_⟩
  · rw [e2, e1, e0]; simp only [List.append_assoc]
  · unfold pSig; simp only [List.append_assoc]; rw [pBind_eq (k0 _), pBind_eq (k1 _), pBind_eq (k2 _)]; rfl
theorem dec_sig : Dec wSig pSig := fun b x r h => by
  obtain ⟨v0, r0, h0, h⟩ := pBind_ok h
  obtain ⟨v1, r1, h1, h⟩ := pBind_ok h
  obtain ⟨v2, r2, h2, h⟩ := pBind_ok h
  obtain ⟨rfl, rfl⟩ := pPure_ok h
  obtain ⟨b0, rfl, k0⟩ := dec_num _ _ _ h0
  obtain ⟨b1, rfl, k1⟩ := dec_list dec_dig 68 _ _ _ h1
  obtain ⟨b2, rfl, k2⟩ := dec_list dec_dig 5 _ _ _ h2
  refine ⟨b0 ++ b1 ++ b2, by simp only [List.append_assoc], fun s hs => ?_⟩
  have g0 := k0 s hs
  have g1 := k1 (⟨0, s.bs ++ b0⟩ : WS) rfl
  have g2 := k2 (⟨0, s.bs ++ b0 ++ b1⟩ : WS) rfl
  simp only [wSig] at g0 g1 g2 ⊢
  rw [g0, g1, g2]
  simp only [List.append_assoc]
theorem enc_signed : Enc wSigned pSigned := fun x s hs => by
  simp only [wSigned] at hs ⊢
  obtain ⟨h1, b1, e1, k1⟩ := enc_sig x.sig _ hs
  obtain ⟨h0, b0, e0, k0⟩ := enc_num (wd := 1) (by decide) x.who _ h1
  simp only at e0 e1
  refine ⟨h0, b0 ++ b1, ?_, fun r => ?_⟩
  · rw [e1, e0]; simp only [List.append_assoc]
  · unfold pSigned; simp only [List.append_assoc]; rw [pBind_eq (k0 _), pBind_eq (k1 _)]; rfl
theorem dec_signed : Dec wSigned pSigned := fun b x r h => by
  obtain ⟨v0, r0, h0, h⟩ := pBind_ok h
  obtain ⟨v1, r1, h1, h⟩ := pBind_ok h
  obtain ⟨rfl, rfl⟩ := pPure_ok h
  obtain ⟨b0, rfl, k0⟩ := dec_num _ _ _ h0
  obtain ⟨b1, rfl, k1⟩ := dec_sig _ _ _ h1
  refine ⟨b0 ++ b1, by simp only [List.append_assoc], fun s hs => ?_⟩
  have g0 := k0 s hs
  have g1 := k1 (⟨0, s.bs ++ b0⟩ : WS) rfl
  simp only [wSigned] at g0 g1 ⊢
  rw [g0, g1]
  simp only [List.append_assoc]
theorem enc_at : Enc wAtP pAt := fun x s hs => by
  simp only [wAtP, wAt] at hs ⊢
  obtain ⟨h1, b1, e1, k1⟩ := enc_num (wd := 6) (by decide) x.2 _ hs
  obtain ⟨h0, b0, e0, k0⟩ := enc_num (wd := 4) (by decide) x.1 _ h1
  simp only at e0 e1
  refine ⟨h0, b0 ++ b1, ?_, fun r => ?_⟩
  · rw [e1, e0]; simp only [List.append_assoc]
  · unfold pAt; simp only [List.append_assoc]; rw [pBind_eq (k0 _), pBind_eq (k1 _)]; rfl
theorem dec_at : Dec wAtP pAt := fun b x r h => by
  obtain ⟨v0, r0, h0, h⟩ := pBind_ok h
  obtain ⟨v1, r1, h1, h⟩ := pBind_ok h
  obtain ⟨rfl, rfl⟩ := pPure_ok h
  obtain ⟨b0, rfl, k0⟩ := dec_num _ _ _ h0
  obtain ⟨b1, rfl, k1⟩ := dec_num _ _ _ h1
  refine ⟨b0 ++ b1, by simp only [List.append_assoc], fun s hs => ?_⟩
  have g0 := k0 s hs
  have g1 := k1 (⟨0, s.bs ++ b0⟩ : WS) rfl
  simp only [wAtP, wAt] at g0 g1 ⊢
  rw [g0, g1]
  simp only [List.append_assoc]
theorem enc_qc : Enc wQC pQC := fun x s hs => by
  simp only [wQC] at hs ⊢
  obtain ⟨h2, b2, e2, k2⟩ := enc_list enc_signed 7 x.votes _ hs
  obtain ⟨h1, b1, e1, k1⟩ := enc_dig x.block _ h2
  obtain ⟨h0, b0, e0, k0⟩ := enc_at (x.epoch, x.round) _ h1
  simp only [wAtP] at e0 e1 e2
  refine ⟨h0, b0 ++ b1 ++ b2, ?_, fun r => ?_⟩
  · rw [e2, e1, e0]; simp only [List.append_assoc]
  · unfold pQC; simp only [List.append_assoc]; rw [pBind_eq (k0 _), pBind_eq (k1 _), pBind_eq (k2 _)]; rfl
theorem dec_qc : Dec wQC pQC := fun b x r h => by
  obtain ⟨v0, r0, h0, h⟩ := pBind_ok h
  obtain ⟨v1, r1, h1, h⟩ := pBind_ok h
  obtain ⟨v2, r2, h2, h⟩ := pBind_ok h
  obtain ⟨rfl, rfl⟩ := pPure_ok h
  obtain ⟨b0, rfl, k0⟩ := dec_at _ _ _ h0
  obtain ⟨b1, rfl, k1⟩ := dec_dig _ _ _ h1
  obtain ⟨b2, rfl, k2⟩ := dec_list dec_signed 7 _ _ _ h2
  refine ⟨b0 ++ b1 ++ b2, by simp only [List.append_assoc], fun s hs => ?_⟩
  have g0 := k0 s hs
  have g1 := k1 (⟨0, s.bs ++ b0⟩ : WS) rfl
  have g2 := k2 (⟨0, s.bs ++ b0 ++ b1⟩ : WS) rfl
  simp only [wQC, wAtP] at g0 g1 g2 ⊢
  rw [g0, g1, g2]
  simp only [List.append_assoc]
theorem enc_late : Enc wLate pLate := fun x s hs => by
  simp only [wLate] at hs ⊢
  obtain ⟨h2, b2, e2, k2⟩ := enc_sig x.sig _ hs
  obtain ⟨h1, b1, e1, k1⟩ := enc_num (wd := 6) (by decide) x.high _ h2
  obtain ⟨h0, b0, e0, k0⟩ := enc_num (wd := 1) (by decide) x.who _ h1
  simp only at e0 e1 e2
  refine ⟨h0, b0 ++ b1 ++ b2, ?_, fun r => ?_⟩
  · rw [e2, e1, e0]; simp only [List.append_assoc]
  · unfold pLate; simp only [List.append_assoc]; rw [pBind_eq (k0 _), pBind_eq (k1 _), pBind_eq (k2 _)]; rfl
theorem dec_late : Dec wLate pLate := fun b x r h => by
  obtain ⟨v0, r0, h0, h⟩ := pBind_ok h
  obtain ⟨v1, r1, h1, h⟩ := pBind_ok h
  obtain ⟨v2, r2, h2, h⟩ := pBind_ok h
  obtain ⟨rfl, rfl⟩ := pPure_ok h
  obtain ⟨b0, rfl, k0⟩ := dec_num _ _ _ h0
  obtain ⟨b1, rfl, k1⟩ := dec_num _ _ _ h1
  obtain ⟨b2, rfl, k2⟩ := dec_sig _ _ _ h2
  refine ⟨b0 ++ b1 ++ b2, by simp only [List.append_assoc], fun s hs => ?_⟩
  have g0 := k0 s hs
  have g1 := k1 (⟨0, s.bs ++ b0⟩ : WS) rfl
  have g2 := k2 (⟨0, s.bs ++ b0 ++ b1⟩ : WS) rfl
  simp only [wLate] at g0 g1 g2 ⊢
  rw [g0, g1, g2]
  simp only [List.append_assoc]
theorem enc_tc : Enc wTC pTC := fun x s hs => by
  simp only [wTC] at hs ⊢
  obtain ⟨h1, b1, e1, k1⟩ := enc_list enc_late 7 x.lates _ hs
  obtain ⟨h0, b0, e0, k0⟩ := enc_at (x.epoch, x.round) _ h1
  simp only [wAtP] at e0 e1
  refine ⟨h0, b0 ++ b1, ?_, fun r => ?_⟩
  · rw [e1, e0]; simp only [List.append_assoc]
  · unfold pTC; simp only [List.append_assoc]; rw [pBind_eq (k0 _), pBind_eq (k1 _)]; rfl
theorem dec_tc : Dec wTC pTC := fun b x r h => by
  obtain ⟨v0, r0, h0, h⟩ := pBind_ok h
  obtain ⟨v1, r1, h1, h⟩ := pBind_ok h
  obtain ⟨rfl, rfl⟩ := pPure_ok h
  obtain ⟨b0, rfl, k0⟩ := dec_at _ _ _ h0
  obtain ⟨b1, rfl, k1⟩ := dec_list dec_late 7 _ _ _ h1
  refine ⟨b0 ++ b1, by simp only [List.append_assoc], fun s hs => ?_⟩
  have g0 := k0 s hs
  have g1 := k1 (⟨0, s.bs ++ b0⟩ : WS) rfl
  simp only [wTC, wAtP] at g0 g1 ⊢
  rw [g0, g1]
  simp only [List.append_assoc]
theorem enc_vdr : Enc wVdr pVdr := fun x s hs => by
  simp only [wVdr] at hs ⊢
  obtain ⟨h1, b1, e1, k1⟩ := enc_num (wd := 6) (by decide) x.power _ hs
  obtain ⟨h0, b0, e0, k0⟩ := enc_dig x.key _ h1
  simp only at e0 e1
  refine ⟨h0, b0 ++ b1, ?_, fun r => ?_⟩
  · rw [e1, e0]; simp only [List.append_assoc]
  · unfold pVdr; simp only [List.append_assoc]; rw [pBind_eq (k0 _), pBind_eq (k1 _)]; rfl
theorem dec_vdr : Dec wVdr pVdr := fun b x r h => by
  obtain ⟨v0, r0, h0, h⟩ := pBind_ok h
  obtain ⟨v1, r1, h1, h⟩ := pBind_ok h
  obtain ⟨rfl, rfl⟩ := pPure_ok h
  obtain ⟨b0, rfl, k0⟩ := dec_dig _ _ _ h0
  obtain ⟨b1, rfl, k1⟩ := dec_num _ _ _ h1
  refine ⟨b0 ++ b1, by simp only [List.append_assoc], fun s hs => ?_⟩
  have g0 := k0 s hs
  have g1 := k1 (⟨0, s.bs ++ b0⟩ : WS) rfl
  simp only [wVdr] at g0 g1 ⊢
  rw [g0, g1]
  simp only [List.append_assoc]
theorem enc_block : Enc wBlock pBlock := fun x s hs => by
  simp only [wBlock] at hs ⊢
  obtain ⟨h4, b4, e4, k4⟩ := enc_list enc_vdr 7 x.next _ hs
  obtain ⟨h3, b3, e3, k3⟩ := enc_list (enc_bytes (most := 16)) 4 x.payload _ h4
  obtain ⟨h2, b2, e2, k2⟩ := enc_qc x.justify _ h3
  obtain ⟨h1, b1, e1, k1⟩ := enc_dig x.parent _ h2
  obtain ⟨h0, b0, e0, k0⟩ := enc_at (x.epoch, x.round) _ h1
  simp only [wAtP] at e0 e1 e2 e3 e4
  refine ⟨h0, b0 ++ b1 ++ b2 ++ b3 ++ b4, ?_, fun r => ?_⟩
  · rw [e4, e3, e2, e1, e0]; simp only [List.append_assoc]
  · unfold pBlock; simp only [List.append_assoc]; rw [pBind_eq (k0 _), pBind_eq (k1 _), pBind_eq (k2 _), pBind_eq (k3 _), pBind_eq (k4 _)]; rfl
theorem dec_block : Dec wBlock pBlock := fun b x r h => by
  obtain ⟨v0, r0, h0, h⟩ := pBind_ok h
  obtain ⟨v1, r1, h1, h⟩ := pBind_ok h
  obtain ⟨v2, r2, h2, h⟩ := pBind_ok h
  obtain ⟨v3, r3, h3, h⟩ := pBind_ok h
  obtain ⟨v4, r4, h4, h⟩ := pBind_ok h
  obtain ⟨rfl, rfl⟩ := pPure_ok h
  obtain ⟨b0, rfl, k0⟩ := dec_at _ _ _ h0
  obtain ⟨b1, rfl, k1⟩ := dec_dig _ _ _ h1
  obtain ⟨b2, rfl, k2⟩ := dec_qc _ _ _ h2
  obtain ⟨b3, rfl, k3⟩ := dec_list (dec_bytes (most := 16)) 4 _ _ _ h3
  obtain ⟨b4, rfl, k4⟩ := dec_list dec_vdr 7 _ _ _ h4
  refine ⟨b0 ++ b1 ++ b2 ++ b3 ++ b4, by simp only [List.append_assoc], fun s hs => ?_⟩
  have g0 := k0 s hs
  have g1 := k1 (⟨0, s.bs ++ b0⟩ : WS) rfl
  have g2 := k2 (⟨0, s.bs ++ b0 ++ b1⟩ : WS) rfl
  have g3 := k3 (⟨0, s.bs ++ b0 ++ b1 ++ b2⟩ : WS) rfl
  have g4 := k4 (⟨0, s.bs ++ b0 ++ b1 ++ b2 ++ b3⟩ : WS) rfl
  simp only [wBlock, wAtP] at g0 g1 g2 g3 g4 ⊢
  rw [g0, g1, g2, g3, g4]
  simp only [List.append_assoc]
theorem enc_vote : Enc wVote pVote := fun x s hs => by
  simp only [wVote] at hs ⊢
  obtain ⟨h2, b2, e2, k2⟩ := enc_signed x.sender _ hs
  obtain ⟨h1, b1, e1, k1⟩ := enc_dig x.block _ h2
  obtain ⟨h0, b0, e0, k0⟩ := enc_at (x.epoch, x.round) _ h1
  simp only [wAtP] at e0 e1 e2
  refine ⟨h0, b0 ++ b1 ++ b2, ?_, fun r => ?_⟩
  · rw [e2, e1, e0]; simp only [List.append_assoc]
  · unfold pVote; simp only [List.append_assoc]; rw [pBind_eq (k0 _), pBind_eq (k1 _), pBind_eq (k2 _)]; rfl
theorem dec_vote : Dec wVote pVote := fun b x r h => by
  obtain ⟨v0, r0, h0, h⟩ := pBind_ok h
  obtain ⟨v1, r1, h1, h⟩ := pBind_ok h
  obtain ⟨v2, r2, h2, h⟩ := pBind_ok h
  obtain ⟨rfl, rfl⟩ := pPure_ok h
  obtain ⟨b0, rfl, k0⟩ := dec_at _ _ _ h0
  obtain ⟨b1, rfl, k1⟩ := dec_dig _ _ _ h1
  obtain ⟨b2, rfl, k2⟩ := dec_signed _ _ _ h2
  refine ⟨b0 ++ b1 ++ b2, by simp only [List.append_assoc], fun s hs => ?_⟩
  have g0 := k0 s hs
  have g1 := k1 (⟨0, s.bs ++ b0⟩ : WS) rfl
  have g2 := k2 (⟨0, s.bs ++ b0 ++ b1⟩ : WS) rfl
  simp only [wVote, wAtP] at g0 g1 g2 ⊢
  rw [g0, g1, g2]
  simp only [List.append_assoc]
theorem enc_tmo : Enc wTmo pTmo := fun x s hs => by
  simp only [wTmo] at hs ⊢
  obtain ⟨h3, b3, e3, k3⟩ := enc_signed x.sender _ hs
  obtain ⟨h2, b2, e2, k2⟩ := enc_tc x.last _ h3
  obtain ⟨h1, b1, e1, k1⟩ := enc_qc x.high _ h2
  obtain ⟨h0, b0, e0, k0⟩ := enc_at (x.epoch, x.round) _ h1
  simp only [wAtP] at e0 e1 e2 e3
  refine ⟨h0, b0 ++ b1 ++ b2 ++ b3, ?_, fun r => ?_⟩
  · rw [e3, e2, e1, e0]; simp only [List.append_assoc]
  · unfold pTmo; simp only [List.append_assoc]; rw [pBind_eq (k0 _), pBind_eq (k1 _), pBind_eq (k2 _), pBind_eq (k3 _)]; rfl
theorem dec_tmo : Dec wTmo pTmo := fun b x r h => by
  obtain ⟨v0, r0, h0, h⟩ := pBind_ok h
  obtain ⟨v1, r1, h1, h⟩ := pBind_ok h
  obtain ⟨v2, r2, h2, h⟩ := pBind_ok h
  obtain ⟨v3, r3, h3, h⟩ := pBind_ok h
  obtain ⟨rfl, rfl⟩ := pPure_ok h
  obtain ⟨b0, rfl, k0⟩ := dec_at _ _ _ h0
  obtain ⟨b1, rfl, k1⟩ := dec_qc _ _ _ h1
  obtain ⟨b2, rfl, k2⟩ := dec_tc _ _ _ h2
  obtain ⟨b3, rfl, k3⟩ := dec_signed _ _ _ h3
  refine ⟨b0 ++ b1 ++ b2 ++ b3, by simp only [List.append_assoc], fun s hs => ?_⟩
  have g0 := k0 s hs
  have g1 := k1 (⟨0, s.bs ++ b0⟩ : WS) rfl
  have g2 := k2 (⟨0, s.bs ++ b0 ++ b1⟩ : WS) rfl
  have g3 := k3 (⟨0, s.bs ++ b0 ++ b1 ++ b2⟩ : WS) rfl
  simp only [wTmo, wAtP] at g0 g1 g2 g3 ⊢
  rw [g0, g1, g2, g3]
  simp only [List.append_assoc]
theorem enc_prop : Enc wProp pProp := fun x s hs => by
  simp only [wProp] at hs ⊢
  obtain ⟨h2, b2, e2, k2⟩ := enc_signed x.sender _ hs
  obtain ⟨h1, b1, e1, k1⟩ := enc_tc x.last _ h2
  obtain ⟨h0, b0, e0, k0⟩ := enc_block x.block _ h1
  refine ⟨h0, b0 ++ b1 ++ b2, ?_, fun r => ?_⟩
  · rw [e2, e1, e0]; simp only [List.append_assoc]
  · unfold pProp; simp only [List.append_assoc]; rw [pBind_eq (k0 _), pBind_eq (k1 _), pBind_eq (k2 _)]; rfl
theorem dec_prop : Dec wProp pProp := fun b x r h => by
  obtain ⟨v0, r0, h0, h⟩ := pBind_ok h
  obtain ⟨v1, r1, h1, h⟩ := pBind_ok h
  obtain ⟨v2, r2, h2, h⟩ := pBind_ok h
  obtain ⟨rfl, rfl⟩ := pPure_ok h
  obtain ⟨b0, rfl, k0⟩ := dec_block _ _ _ h0
  obtain ⟨b1, rfl, k1⟩ := dec_tc _ _ _ h1
  obtain ⟨b2, rfl, k2⟩ := dec_signed _ _ _ h2
  refine ⟨b0 ++ b1 ++ b2, by simp only [List.append_assoc], fun s hs => ?_⟩
  have g0 := k0 s hs
  have g1 := k1 (⟨0, s.bs ++ b0⟩ : WS) rfl
  have g2 := k2 (⟨0, s.bs ++ b0 ++ b1⟩ : WS) rfl
  simp only [wProp] at g0 g1 g2 ⊢
  rw [g0, g1, g2]
  simp only [List.append_assoc]
theorem enc_chg (x : Chg) (h3 : x.blocks.length = 3) : EncAt (wChg x) pChg x := fun s hs => by
  simp only [wChg] at hs ⊢
  obtain ⟨h1, b1, e1, k1⟩ := enc_qc x.qc _ hs
  obtain ⟨h0, b0, e0, k0⟩ := encAt_many enc_block x.blocks _ h1
  rw [h3] at k0
  refine ⟨h0, b0 ++ b1, ?_, fun r => ?_⟩
  · rw [e1, e0]; simp only [List.append_assoc]
  · unfold pChg; simp only [List.append_assoc]; rw [pBind_eq (k0 _), pBind_eq (k1 _)]; rfl
theorem dec_chg : Dec wChg pChg := fun b x r h => by
  obtain ⟨v0, r0, h0, h⟩ := pBind_ok h
  obtain ⟨v1, r1, h1, h⟩ := pBind_ok h
  obtain ⟨rfl, rfl⟩ := pPure_ok h
  obtain ⟨b0, rfl, k0⟩ := dec_manyAt dec_block h0
  obtain ⟨b1, rfl, k1⟩ := dec_qc _ _ _ h1
  refine ⟨b0 ++ b1, by simp only [List.append_assoc], fun s hs => ?_⟩
  have g0 := k0 s hs
  have g1 := k1 (⟨0, s.bs ++ b0⟩ : WS) rfl
  simp only [wChg] at g0 g1 ⊢
  rw [g0, g1]
  simp only [List.append_assoc]
theorem pChg_three {b r : List UInt8} {x : Chg} (h : pChg b = .ok (x, r)) : x.blocks.length = 3 := by
  obtain ⟨l, r1, h1, h⟩ := pBind_ok h
  obtain ⟨q, r2, h2, h⟩ := pBind_ok h
  obtain ⟨rfl, rfl⟩ := pPure_ok h
  exact (dec_many dec_block 3 _ _ _ h1).1
theorem encAt_map {α β : Type} {f : WS → WS} {p : PR α} {x : α} {g : α → β} (h : EncAt f p x) : EncAt f (pBind p fun v => pPure (g v)) (g x) := fun s hs => by
  obtain ⟨h1, b, e, k⟩ := h s hs
  exact ⟨h1, b, e, fun r => by rw [pBind_eq (k r)]; rfl⟩
theorem enc_body (m : Msg) (h3 : m.chg.blocks.length = 3) (k1 : 1 ≤ m.kind) (k6 : m.kind ≤ 6) : EncAt (wBody m) (pBody m.kind) (plainM m) := by
  unfold wBody pBody plainM
  split
  · exact encAt_map (enc_vote m.vote)
  split
  · exact encAt_map (enc_tmo m.tmo)
  split
  · exact encAt_map (enc_prop m.prop)
  split
  · exact encAt_bind (q := fun d => pBind pDig fun e => pPure ({ msg0 m.kind with wantFrom := d, wantBlock := e } : Msg)) (enc_dig m.wantFrom) (encAt_map (g := fun e => ({ msg0 m.kind with wantFrom := m.wantFrom, wantBlock := e } : Msg)) (enc_dig m.wantBlock))
  split
  · exact encAt_map (enc_block m.reply)
  rw [if_pos (show m.kind = 6 by omega), if_pos (show m.kind = 6 by omega)]
  exact encAt_map (enc_chg m.chg h3)
theorem enc_msg (m : Msg) (h3 : m.chg.blocks.length = 3) (k1 : 1 ≤ m.kind) (k6 : m.kind ≤ 6) : EncAt (wMsg m) pMsg (plainM m) := by
  exact encAt_bind (f := wNum m.kind 1) (g := wBody m) (q := pBody) (enc_num (wd := 1) (by decide) m.kind) (enc_body m h3 k1 k6)
theorem dec_map {α β : Type} {W : α → WS → WS} {p : PR α} (h : Dec W p) {g : α → β} {b r : List UInt8} {y : β} (hb : pBind p (fun v => pPure (g v)) b = .ok (y, r)) : ∃ x b', y = g x ∧ b = b' ++ r ∧ p b = .ok (x, r) ∧ ∀ s, s.err = 0 → W x s = ⟨0, s.bs ++ b'⟩ := by
  obtain ⟨x, r1, h1, h2⟩ := pBind_ok hb
  obtain ⟨rfl, rfl⟩ := pPure_ok h2
  obtain ⟨b', rfl, k⟩ := h _ _ _ h1
  exact ⟨x, b', rfl, rfl, h1, k⟩
theorem dec_body (k : Int) (b r : List UInt8) (m : Msg) (h : pBody k b = .ok (m, r)) : m.kind = k ∧ 1 ≤ k ∧ k ≤ 6 ∧ plainM m = m ∧ m.chg.blocks.length = 3 ∧ ∃ b', b = b' ++ r ∧ ∀ s, s.err = 0 → wBody m s = ⟨0, s.bs ++ b'⟩ := by
  unfold pBody at h
  split at h
  · rename_i hk; subst hk
    obtain ⟨x, b', rfl, rfl, _, k⟩ := dec_map dec_vote h
    exact ⟨rfl, by decide, by decide, rfl, rfl, b', rfl, k⟩
  split at h
  · rename_i _ hk; subst hk
    obtain ⟨x, b', rfl, rfl, _, k⟩ := dec_map dec_tmo h
    exact ⟨rfl, by decide, by decide, rfl, rfl, b', rfl, k⟩
  split at h
  · rename_i _ _ hk; subst hk
    obtain ⟨x, b', rfl, rfl, _, k⟩ := dec_map dec_prop h
    exact ⟨rfl, by decide, by decide, rfl, rfl, b', rfl, k⟩
  split at h
  · rename_i _ _ _ hk; subst hk
    obtain ⟨d, r1, h1, h2⟩ := pBind_ok h
    obtain ⟨x, b2, rfl, rfl, _, k2⟩ := dec_map dec_dig h2
    obtain ⟨b1, rfl, k1⟩ := dec_dig _ _ _ h1
    refine ⟨rfl, by decide, by decide, rfl, rfl, b1 ++ b2, by simp only [List.append_assoc], fun s hs => ?_⟩
    show wDig x (wDig d s) = _
    rw [k1 s hs, k2 _ rfl]; simp only [List.append_assoc]
  split at h
  · rename_i _ _ _ _ hk; subst hk
    obtain ⟨x, b', rfl, rfl, _, k⟩ := dec_map dec_block h
    exact ⟨rfl, by decide, by decide, rfl, rfl, b', rfl, k⟩
  split at h
  · rename_i _ _ _ _ _ hk; subst hk
    obtain ⟨x, b', rfl, rfl, hp, k⟩ := dec_map dec_chg h
    exact ⟨rfl, by decide, by decide, rfl, pChg_three hp, b', rfl, k⟩
  · cases h
theorem dec_msg (b r : List UInt8) (m : Msg) (h : pMsg b = .ok (m, r)) : 1 ≤ m.kind ∧ m.kind ≤ 6 ∧ plainM m = m ∧ m.chg.blocks.length = 3 ∧ (∃ c t, b = c :: t ∧ m.kind = (c.toNat : Int)) ∧ ∃ b', b = b' ++ r ∧ ∀ s, s.err = 0 → wMsg m s = ⟨0, s.bs ++ b'⟩ := by
  obtain ⟨k, r1, h1, h2⟩ := pBind_ok h
  obtain ⟨hk, k1, k6, hp, h3, b2, rfl, e2⟩ := dec_body _ _ _ _ h2
  obtain ⟨j, hj, hj2, hb⟩ := pNum_ok h1
  obtain ⟨b1, rfl, e1⟩ := dec_num _ _ _ h1
  subst hk
  refine ⟨k1, k6, hp, h3, ?_, b1 ++ b2, by simp only [List.append_assoc], fun s hs => ?_⟩
  · rw [hb, hj]
    refine ⟨UInt8.ofNat j, b2 ++ r, ?_, ?_⟩
    · rw [beN_succ, byteAt_nat]; simp [beN]
    · rw [UInt8.toNat_ofNat', Nat.mod_eq_of_lt (by omega)]
  · have e := e1 s hs
    simp only at e
    unfold wMsg
    rw [e, e2 _ rfl]; simp only [List.append_assoc]
/-- All bytes of what was written. -/
theorem pAll_enc {β : Type} {f : WS → WS} {p : PR β} {y : β} (h : EncAt f p y) (he : (f ⟨0, []⟩).err = 0) : pAll p (f ⟨0, []⟩).bs = .ok y := by
  obtain ⟨_, b, e, k⟩ := h _ he
  have := k []
  rw [List.append_nil] at this
  have e' : (f ⟨0, []⟩).bs = b := e.trans (by simp)
  rw [e', pAll, this]; rfl
theorem pAll_ok {β : Type} {p : PR β} {b : List UInt8} {y : β} (h : pAll p b = .ok y) : p b = .ok (y, []) := by
  unfold pAll at h
  cases hp : p b with
  | error e => rw [hp] at h; cases h
  | ok x =>
    rw [hp] at h
    obtain ⟨a, r⟩ := x
    by_cases hr : r = []
    · simp only [hr, if_true, Except.ok.injEq] at h; rw [h, hr]
    · simp only [hr, if_false] at h; cases h
theorem pAll_cut {β : Type} {p : PR β} {b : List UInt8} {y : β} (h : pAll p b = .ok y) (hl : Loc p) {k : Nat} (hk : k < b.length) : pAll p (b.take k) = .error 2 := by
  obtain ⟨b', e, _, s⟩ := hl _ _ _ (pAll_ok h)
  rw [List.append_nil] at e; subst e
  rw [pAll, s k hk]
theorem pAll_more {β : Type} {p : PR β} {b m : List UInt8} {y : β} (h : pAll p b = .ok y) (hl : Loc p) (hm : m ≠ []) : pAll p (b ++ m) = .error 3 := by
  obtain ⟨b', e, k, _⟩ := hl _ _ _ (pAll_ok h)
  rw [List.append_nil] at e; subst e
  rw [pAll, k m]
  simp only [hm, if_false]
end Go.Proofs.YtobjojeliibinaaGreatDoor

/- Plain words: a reading under way: where it stands, or its first error. No program in sight. -/
namespace Go.Proofs.YtobjojeliibinaaGreatDoor
set_option linter.unusedVariables false

abbrev RSt := Except Nat (List UInt8)
def rstep {α : Type} (p : PR α) : RSt → RSt
  | .error e => .error e
  | .ok b => match p b with
    | .error e => .error e
    | .ok x => .ok x.2
/-- If all goes well, this is what is read. -/
def Ag {α : Type} (p : PR α) (σ : RSt) (x : α) : Prop := ∀ b y r, σ = .ok b → p b = .ok (y, r) → x = y
def errOf : RSt → Nat
  | .ok _ => 0
  | .error e => e
def failE (k : Nat) : RSt → RSt
  | .ok _ => .error k
  | .error e => .error e
def WS.st (s : WS) : RSt := if s.err = 0 then .ok s.bs else .error s.err
theorem WS.errOf_st (s : WS) : errOf s.st = s.err := by
  unfold WS.st; split
  · rename_i h; exact h.symm
  · rfl
theorem Ag.bind {α β : Type} {p : PR α} {f : α → PR β} {σ : RSt} {x : α} {y : β} (h : Ag p σ x) (k : Ag (f x) (rstep p σ) y) : Ag (pBind p f) σ y := by
  rintro b y' r rfl hb
  obtain ⟨x', r1, h1, h2⟩ := pBind_ok hb
  obtain rfl := h b x' r1 rfl h1
  refine k r1 y' r ?_ h2
  simp only [rstep, h1]
theorem rstep_bind {α β : Type} {p : PR α} {f : α → PR β} {σ : RSt} {x : α} (h : Ag p σ x) : rstep (pBind p f) σ = rstep (f x) (rstep p σ) := by
  cases σ with
  | error e => rfl
  | ok b =>
    cases hp : p b with
    | error e => simp only [rstep, pBind_err hp, hp]
    | ok x' =>
      obtain ⟨x', r⟩ := x'
      obtain rfl := h b x' r rfl hp
      simp only [rstep, pBind_eq hp, hp]
theorem Ag.pure {α : Type} {σ : RSt} (x : α) : Ag (pPure x) σ x := by
  rintro b y r rfl h
  exact (pPure_ok h).1
theorem rstep_pure {α : Type} {σ : RSt} (x : α) : rstep (pPure x) σ = σ := by cases σ <;> rfl
theorem rstep_err {α : Type} {σ : RSt} (k : Nat) : rstep (pErr (α := α) k) σ = failE k σ := by cases σ <;> rfl
theorem Ag.err {α : Type} {σ : RSt} {k : Nat} (x : α) : Ag (pErr k) σ x := by rintro b y r _ h; cases h
theorem Ag.error {α : Type} {p : PR α} {e : Nat} (x : α) : Ag p (.error e) x := by rintro b y r h _; cases h
theorem Ag.of {α : Type} {p : PR α} {b r : List UInt8} {x : α} (h : p b = .ok (x, r)) : Ag p (.ok b) x := by
  rintro b' y r' he h'
  cases he; rw [h] at h'; cases h'; rfl
theorem Ag.ne {α : Type} {p : PR α} {b : List UInt8} {e : Nat} (h : p b = .error e) (x : α) : Ag p (.ok b) x := by
  rintro b' y r' he h'
  cases he; rw [h] at h'; cases h'
theorem errOf_rstep {α : Type} (p : PR α) {σ : RSt} (h : errOf σ ≠ 0) : rstep p σ = σ := by
  cases σ with
  | error e => rfl
  | ok b => exact absurd rfl h
theorem Ag.bad {α : Type} {p : PR α} {σ : RSt} (h : errOf σ ≠ 0) (x : α) : Ag p σ x := by
  cases σ with
  | error e => exact Ag.error x
  | ok b => exact absurd rfl h
theorem failE_bad {k : Nat} {σ : RSt} (h : errOf σ ≠ 0) : failE k σ = σ := by
  cases σ with
  | error e => rfl
  | ok b => exact absurd rfl h
/-- A list under way: m elements are still to come, out are there. -/
structure Many {α : Type} (one : PR α) (n : Nat) (σ0 : RSt) (m : Nat) (σ : RSt) (out : List α) : Prop where
  st : rstep (pMany one n) σ0 = rstep (pMany one m) σ
  ag : ∀ l, Ag (pMany one m) σ l → Ag (pMany one n) σ0 (out ++ l)
theorem Many.start {α : Type} {one : PR α} {n : Nat} {σ0 : RSt} : Many one n σ0 n σ0 [] := ⟨rfl, fun l h => h⟩
theorem Many.next {α : Type} {one : PR α} {n m : Nat} {σ0 σ : RSt} {out : List α} {x : α} (h : Many one n σ0 (m + 1) σ out) (hx : Ag one σ x) : Many one n σ0 m (rstep one σ) (out ++ [x]) := by
  refine ⟨?_, fun l hl => ?_⟩
  · rw [h.st, pMany, rstep_bind hx]
    cases hσ : rstep one σ with
    | error e => rfl
    | ok b =>
      cases hm : pMany one m b with
      | error e => simp only [rstep, pBind_err hm, hm]
      | ok y => simp only [rstep, pBind_eq (x := y.1) (r := y.2) hm, hm, pPure]
  · have := h.ag (x :: l) (by rw [pMany]; exact Ag.bind hx (Ag.bind hl (Ag.pure _)))
    simpa using this
theorem Many.done {α : Type} {one : PR α} {n : Nat} {σ0 σ : RSt} {out : List α} (h : Many one n σ0 0 σ out) : rstep (pMany one n) σ0 = σ ∧ Ag (pMany one n) σ0 out := by
  refine ⟨by rw [h.st]; exact rstep_pure _, ?_⟩
  have := h.ag [] (Ag.pure _)
  simpa using this
theorem Many.bad {α : Type} {one : PR α} {n m : Nat} {σ0 σ : RSt} {out : List α} (h : Many one n σ0 m σ out) (he : errOf σ ≠ 0) : rstep (pMany one n) σ0 = σ ∧ ∀ l, Ag (pMany one n) σ0 l := by
  have h1 : rstep (pMany one n) σ0 = σ := by rw [h.st]; exact errOf_rstep _ he
  refine ⟨h1, fun l => ?_⟩
  rintro b y r rfl hb
  exfalso
  apply he
  rw [← h1]
  simp only [rstep, hb]; rfl
theorem sel_fin {β : Type} {q p' : PR β} {most x : Nat} {σ1 σ2 : RSt} (hf : p' = if (most : Int) < (x : Int) then pErr 1 else q) (hc : (if errOf σ1 = 0 ∧ most < x then failE 1 σ1 else σ1) = σ2) : rstep p' σ1 = rstep q σ2 ∧ ∀ l, Ag q σ2 l → Ag p' σ1 l := by
  by_cases hm : most < x
  · rw [if_pos (by omega)] at hf
    subst hf
    refine ⟨?_, fun l _ => Ag.err l⟩
    rw [rstep_err]
    by_cases he : errOf σ1 = 0
    · rw [if_pos ⟨he, hm⟩] at hc
      subst hc
      cases σ1 with
      | error e => rfl
      | ok b => rfl
    · rw [if_neg (fun h => he h.1)] at hc
      subst hc
      rw [failE_bad he, errOf_rstep _ he]
  · rw [if_neg (by omega)] at hf
    rw [if_neg (fun h => hm h.2)] at hc
    subst hf; subst hc
    exact ⟨rfl, fun l h => h⟩
theorem bytes_fin {most x : Nat} {σ σ2 : RSt} {l : List UInt8} (hx : Ag (pNum 2) σ (x : Int)) (hc : (if errOf (rstep (pNum 2) σ) = 0 ∧ most < x then failE 1 (rstep (pNum 2) σ) else rstep (pNum 2) σ) = σ2) (ha : Ag (pTake x) σ2 l) :
    rstep (pBytes most) σ = rstep (pTake x) σ2 ∧ Ag (pBytes most) σ l := by
  have h := sel_fin (q := pTake x) (p' := if (most : Int) < (x : Int) then pErr 1 else pTake (x : Int).toNat) rfl hc
  exact ⟨by rw [pBytes, rstep_bind hx, h.1], hx.bind (h.2 l ha)⟩
theorem list_fin {α : Type} {one : PR α} {most x : Nat} {σ σ2 σ3 : RSt} {l : List α} (hx : Ag (pNum 1) σ (x : Int)) (hc : (if errOf (rstep (pNum 1) σ) = 0 ∧ most < x then failE 1 (rstep (pNum 1) σ) else rstep (pNum 1) σ) = σ2) (ha : rstep (pMany one x) σ2 = σ3 ∧ Ag (pMany one x) σ2 l) :
    rstep (pList one most) σ = σ3 ∧ Ag (pList one most) σ l := by
  have h := sel_fin (q := pMany one x) (p' := if (most : Int) < (x : Int) then pErr 1 else pMany one (x : Int).toNat) rfl hc
  exact ⟨by rw [pList, rstep_bind hx, h.1, ha.1], hx.bind (h.2 l ha.2)⟩
end Go.Proofs.YtobjojeliibinaaGreatDoor

/- Walks, by program (wg.py) out of a spec. -/
namespace Go.Proofs.YtobjojeliibinaaGreatDoor
open Go
set_option linter.unusedVariables false
set_option linter.unusedSimpArgs false


/-- A reading of cells that stays as long as its blocks stay. -/
class RdK {α : Type} (rd : World → (Nat → Prop) → List Value → α → Prop) : Prop where
  mv : ∀ {w w' : World} {A A' : Nat → Prop} {cs : List Value} {x : α}, rd w A cs x → Still w A w' A' → rd w' A' cs x
instance : RdK (fun _ _ => RdDig) := ⟨fun h _ => h⟩
instance : RdK (fun _ _ => RdVdr) := ⟨fun h _ => h⟩
instance : RdK RdBytes := ⟨fun h k => h.mv k⟩
instance : RdK RdSig := ⟨fun h k => h.mv k⟩
instance : RdK RdSigned := ⟨fun h k => h.mv k⟩
instance : RdK RdLate := ⟨fun h k => h.mv k⟩
instance : RdK RdQC := ⟨fun h k => h.mv k⟩
instance : RdK RdTC := ⟨fun h k => h.mv k⟩
instance : RdK RdBlock := ⟨fun h k => h.mv k⟩
instance : RdK RdVote := ⟨fun h k => h.mv k⟩
instance : RdK RdTmo := ⟨fun h k => h.mv k⟩
instance : RdK RdProp := ⟨fun h k => h.mv k⟩
instance : RdK RdChg := ⟨fun h k => h.mv k⟩
instance : RdK RdMsg := ⟨fun h k => h.mv k⟩
theorem still_of {w w' : World} {F : Nat → Prop} (hk : ∀ k, k < w.heap.size → F k → w'.heap[k]? = w.heap[k]?) : Still w F w' F := fun k h hF => ⟨hk k h hF, hF⟩
theorem still_sub {w : World} {F G : Nat → Prop} (h : ∀ k, F k → G k) : Still w F w G := fun k _ hF => ⟨rfl, h k hF⟩
section
variable {α : Type} (rd : World → (Nat → Prop) → List Value → α → Prop) [RdK rd]
/-- Cells that read as x, in blocks that are owned. -/
def VlR (cs : List Value) (x : α) : Res := rdR (fun w F => rd w F cs x) (fun h hk => RdK.mv h (still_of hk))
/-- A slice that reads as l, all of it owned. -/
def LsR (size : Nat) (a : Option Addr) (n : Nat) (l : List α) : Res := rdR (fun w F => RdList (rd w F) w F size a n l) (fun h hk => RdList.mv h (still_of hk) fun _ _ hc => RdK.mv hc (still_of hk))
/-- Elements: what lies behind their cells. -/
def ElR (css : List (List Value)) (l : List α) : Res := rdR (fun w F => css.length = l.length ∧ ∀ (i : Nat) (c : List Value) (x : α), css[i]? = some c → l[i]? = some x → rd w F c x) (fun h hk => ⟨h.1, fun i c x h1 h2 => RdK.mv (h.2 i c x h1 h2) (still_of hk)⟩)
end
theorem stars_two {r s : Res} {w : World} {F : Nat → Prop} (h : stars [r, s] w F) : ∃ F1 F2, r.on w F1 ∧ s.on w F2 ∧ ∀ k, F k ↔ F1 k ∨ F2 k := by
  obtain ⟨F1, F2, h1, h2, hF, _⟩ := h
  exact ⟨F1, F2, h1, stars_one' h2, hF⟩
theorem stars_swap {r s : Res} {L : List Res} {w : World} {F : Nat → Prop} (h : stars (r :: s :: L) w F) : stars (s :: r :: L) w F := Pick.stars (.there .here) h
theorem stars_cons {r : Res} {L : List Res} {w : World} {F : Nat → Prop} (h : stars (r :: L) w F) : ∃ F1 F2, r.on w F1 ∧ stars L w F2 ∧ ∀ k, F k ↔ F1 k ∨ F2 k := by
  obtain ⟨F1, F2, h1, h2, hF, _⟩ := h; exact ⟨F1, F2, h1, h2, hF⟩
theorem rdR_mk {φ : World → (Nat → Prop) → Prop} {hl} {w : World} {F : Nat → Prop} {L : List Res} (h : φ w F) (hs : stars L w F) : stars [rdR φ hl] w F := stars_one ⟨h, stars_ok hs⟩
section
variable {α : Type} {rd : World → (Nat → Prop) → List Value → α → Prop} [RdK rd]
theorem el_nil {L : List Res} {w : World} {F : Nat → Prop} (h : stars L w F) : stars (ElR rd [] [] :: L) w F :=
  ⟨fun _ => False, F, ⟨⟨rfl, fun i c x h1 _ => by simp at h1⟩, fun _ h => h.elim⟩, h, fun k => by simp, fun _ h => h.elim⟩
theorem el_snoc {css : List (List Value)} {l : List α} {c : List Value} {x : α} {w : World} {F : Nat → Prop} (h : stars [ElR rd css l, VlR rd c x] w F) : stars [ElR rd (css ++ [c]) (l ++ [x])] w F := by
  obtain ⟨F1, F2, h1, h2, hF⟩ := stars_two h
  obtain ⟨⟨he, h1⟩, _⟩ := h1
  refine rdR_mk ⟨by simp [he], fun i c' x' hc hx => ?_⟩ h
  by_cases hi : i < css.length
  · rw [List.getElem?_append_left hi] at hc
    rw [List.getElem?_append_left (by omega)] at hx
    exact RdK.mv (h1 i c' x' hc hx) (still_sub fun k hk => (hF k).2 (.inl hk))
  · have hi' : i = css.length := by
      have := (List.getElem?_eq_some_iff.1 hc).1; simp at this; omega
    subst hi'
    rw [List.getElem?_append_right (by omega)] at hc hx
    simp only [Nat.sub_self, List.getElem?_cons_zero, Option.some.injEq] at hc
    simp only [he, Nat.sub_self, List.getElem?_cons_zero, Option.some.injEq] at hx
    subst hc; subst hx
    exact RdK.mv h2.1 (still_sub fun k hk => (hF k).2 (.inr hk))
theorem ls_of {e size n cap : Nat} {a : Option Addr} {css : List (List Value)} {l : List α} {w : World} {F : Nat → Prop} (hsz : ∀ c ∈ css, c.length = size) (h : stars [rowR e size a n cap css.flatten, ElR rd css l] w F) : stars [LsR rd size a n l] w F := by
  obtain ⟨F1, F2, h1, h2, hF⟩ := stars_two h
  obtain ⟨⟨he, h2⟩, _⟩ := h2
  exact rdR_mk ⟨css, (rowR.rd h1).mv (still_sub fun k hk => (hF k).2 (.inl hk)), hsz, he, fun i c x hc hx => RdK.mv (h2 i c x hc hx) (still_sub fun k hk => (hF k).2 (.inr hk))⟩ h
theorem ls_nil {size : Nat} {L : List Res} {w : World} {F : Nat → Prop} (h : stars L w F) : stars (LsR rd size none 0 [] :: L) w F :=
  ⟨fun _ => False, F, ⟨RdList.nil, fun _ h => h.elim⟩, h, fun k => by simp, fun _ h => h.elim⟩
end
theorem St.pureI {w0 w : World} {F0 : Nat → Prop} {L : List Res} {p : Prop} (hp : p) (h : St w0 F0 L w) : St w0 F0 (pureR p :: L) w := by
  obtain ⟨F, hF, hst⟩ := h; exact ⟨F, stars_pure_mk hp hF, hst⟩
theorem St.mapL {w0 w : World} {F0 : Nat → Prop} {L L' : List Res} (h : St w0 F0 L w) (k : ∀ F, stars L w F → stars L' w F) : St w0 F0 L' w := by
  obtain ⟨F, hF, hst⟩ := h; exact ⟨F, k F hF, hst⟩
/-- A callee's step, beside what stays. -/
theorem calls_frame {P : Program} {f : FuncId} {args : Array Value} {w : World} {F F1 F2 : Nat → Prop} {α : Type} {V : α → Value} {N : α → List Res} {L : List Res} (hc : Calls P f args w (Post w F1 V N)) (h2 : stars L w F2) (hF : ∀ k, F k ↔ F1 k ∨ F2 k) (hd : ∀ k, F1 k → ¬ F2 k) :
    Calls P f args w (Post w F V (fun x => N x ++ L)) := Calls.mono hc fun e w' ⟨x, he, hs⟩ => ⟨x, he, St.call (Stp.refl w F) h2 hF hd hs⟩

/-- What is left to read, and bytes that were read. -/
def BtR (a : Option Addr) (bs : List UInt8) (a2 : Option Addr) (l : List UInt8) : Res :=
  rdR (fun w F => RdRow w F 1 a bs.length (bs.map B8) ∧ RdRow w F 1 a2 l.length (l.map B8)) (fun h hk => ⟨h.1.mv (still_of hk), h.2.mv (still_of hk)⟩)
/-- A reader in block g that stands at σ; bytes of it that were read lie at a2. -/
def RdrB (TE : TypeId) (ea : Nat → Addr) (g : Nat) (σ : RSt) (a2 : Option Addr) (l : List UInt8) : Res := exR fun p : WS × Option Addr × Nat => allR [pureR (p.1.st = σ ∧ p.1.bs.length ≤ p.2.2), blk g 291 [eV TE ea p.1.err, .slice p.2.1 p.1.bs.length p.2.2], BtR p.2.1 p.1.bs a2 l]
abbrev RdrR (TE : TypeId) (ea : Nat → Addr) (g : Nat) (σ : RSt) : Res := RdrB TE ea g σ none []
section
variable {TE : TypeId} {ea : Nat → Addr} {g : Nat} {σ : RSt} {a2 : Option Addr} {l : List UInt8} {L : List Res} {w : World} {F : Nat → Prop}
theorem rr_open (h : stars (RdrB TE ea g σ a2 l :: L) w F) : ∃ s a c, WS.st s = σ ∧ s.bs.length ≤ c ∧ stars (blk g 291 [eV TE ea s.err, .slice a s.bs.length c] :: BtR a s.bs a2 l :: L) w F := by
  obtain ⟨⟨s, a, c⟩, h⟩ := stars_ex h
  obtain ⟨⟨h1, h2⟩, h3⟩ := stars_pure (stars_all h)
  exact ⟨s, a, c, h1, h2, h3⟩
theorem rr_shut {s : WS} {k m c : Nat} {a : Option Addr} (h : stars (blk g 291 [eV TE ea k, .slice a m c] :: BtR a s.bs a2 l :: L) w F) (hk : k = s.err) (hm : m = s.bs.length) (hs : s.st = σ) (hc : m ≤ c) : stars (RdrB TE ea g σ a2 l :: L) w F := by
  subst hk; subst hm
  exact stars_ex_mk (s, a, c) (stars_all_mk (stars_pure_mk ⟨hs, hc⟩ h))
theorem St.rdr {w0 : World} {F0 : Nat → Prop} {s : WS} {k m c : Nat} {a : Option Addr} (h : St w0 F0 (blk g 291 [eV TE ea k, .slice a m c] :: BtR a s.bs a2 l :: L) w) (hk : k = s.err) (hm : m = s.bs.length) (hs : s.st = σ) (hc : m ≤ c) : St w0 F0 (RdrB TE ea g σ a2 l :: L) w :=
  h.mapL fun F hF => rr_shut hF hk hm hs hc
theorem bt_weak {a : Option Addr} {bs : List UInt8} (h : stars (BtR a bs a2 l :: L) w F) : stars (BtR a bs none [] :: L) w F := by
  obtain ⟨F1, F2, ⟨h1, hl⟩, h2, hF, hd⟩ := h
  exact ⟨F1, F2, ⟨⟨h1.1, RdRow.nil⟩, hl⟩, h2, hF, hd⟩
theorem rr_weak (h : stars (RdrB TE ea g σ a2 l :: L) w F) : stars (RdrR TE ea g σ :: L) w F := by
  obtain ⟨s, a, c, h1, h2, F1, F3, g1, g2, hF, hd⟩ := rr_open h
  exact rr_shut ⟨F1, F3, g1, bt_weak g2, hF, hd⟩ rfl rfl h1 h2
theorem St.rrw {w0 : World} {F0 : Nat → Prop} (h : St w0 F0 (RdrB TE ea g σ a2 l :: L) w) : St w0 F0 (RdrR TE ea g σ :: L) w := h.mapL fun F hF => rr_weak hF
theorem bt_cut {a : Option Addr} {bs : List UInt8} {n c : Nat} (h : stars (BtR a bs a2 l :: L) w F) (hn : n ≤ bs.length) (hc : bs.length ≤ c) :
    stars (BtR (if c = n then a else a.map (·.add (n * 1))) (bs.drop n) (if c = 0 then a else a.map (·.add (0 * 1))) (bs.take n) :: L) w F := by
  obtain ⟨F1, F2, ⟨h1, hl⟩, h2, hF, hd⟩ := h
  have e1 := h1.1.cut8 (l := n) (h := bs.length) hn (Nat.le_refl _) hc
  have e2 := h1.1.cut8 (l := 0) (h := n) (Nat.zero_le _) hn hc
  rw [show (bs.drop n).take (bs.length - n) = bs.drop n from List.take_of_length_le (by simp)] at e1
  rw [List.drop_zero, Nat.sub_zero] at e2
  refine ⟨F1, F2, ⟨⟨?_, ?_⟩, hl⟩, h2, hF, hd⟩
  · rw [List.length_drop]; exact e1
  · rw [List.length_take, Nat.min_eq_left hn]; exact e2
theorem rdB_row {L' : List Res} {w : World} {F1 F2 : Nat → Prop} (h2 : stars L w F2) (hd : ∀ k, F1 k → ¬ F2 k) (hp : Pick L (RdrB TE ea g σ a2 l) L') : RdRow w (fun k => ¬ F1 k) 1 a2 l.length (l.map B8) := by
  obtain ⟨s, a, c, _, _, G1, G2, _, ⟨G3, G4, ⟨⟨_, hr⟩, _⟩, _, hG2, _⟩, hG, _⟩ := rr_open (hp.stars h2)
  exact hr.mv fun k _ hk => ⟨rfl, fun h => hd k h ((hG k).2 (.inr ((hG2 k).2 (.inl hk))))⟩
theorem St.rdB {w0 : World} {F0 : Nat → Prop} {L' : List Res} (h : St w0 F0 L w) (hp : Pick L (RdrB TE ea g σ a2 l) L') : RdRow w (fun _ => True) 1 a2 l.length (l.map B8) := by
  obtain ⟨F, hF, _⟩ := h
  exact (rdB_row (F1 := fun _ => False) hF (fun _ h => h.elim) hp).mv fun _ _ _ => ⟨rfl, trivial⟩
end
section
variable {P : Program} {w0 : World} {F0 : Nat → Prop} {L : List Res} {n : Fm} {env : Env} {d : Option Tmp} {ty : TypeId} {pos : String} {af : Array Edge} {gd : Option (Nat × Bool)}
/-- The reader's error. -/
theorem r_lde {x : Operand} {T : TypeId} {TE : TypeId} {ea : Nat → Addr} {g : Nat} {σ : RSt} {a2 : Option Addr} {l : List UInt8} {L' : List Res} [RO P T] (hx : ev n env x = .pointer (some ⟨g, 0, none⟩) := by exact rfl) (hp : Pick L (RdrB TE ea g σ a2 l) L' := by repeat (first | exact Pick.here | apply Pick.there)) :
    Runs P w0 F0 L n env ⟨d, .load T x, ty, pos, af, gd⟩ (eV TE ea (errOf σ)) := r_load hx fun w ⟨F, hF, _⟩ => run_loadVar_one RO.h (by
  obtain ⟨s, a, c, hs, _, G1, G2, hb, _⟩ := rr_open (hp.stars hF)
  rw [cell_blk hb, ← hs, WS.errOf_st]; rfl)
/-- A byte that was read. -/
theorem r_ldb {x : Operand} {T : TypeId} {TE : TypeId} {ea : Nat → Addr} {g : Nat} {σ : RSt} {ga o i k : Nat} {l : List UInt8} {L' : List Res} [RO P T] (hx : ev n env x = .pointer (some ⟨ga, o + i, none⟩) := by exact rfl) (hp : Pick L (RdrB TE ea g σ (some ⟨ga, o, none⟩) l) L' := by repeat (first | exact Pick.here | apply Pick.there)) (hi : i = k) (hk : k < l.length) :
    Runs P w0 F0 L n env ⟨d, .load T x, ty, pos, af, gd⟩ (B8 (l.getD k 0)) := r_load hx fun w hw => run_loadVar_one RO.h (by
  obtain ⟨g', o', e, _, _, hr⟩ := (hw.rdB hp).2.2 (by omega)
  cases e
  subst hi
  refine hr i _ ?_
  rw [List.getElem?_map, List.getElem?_eq_getElem hk]; simp [List.getD, List.getElem?_eq_getElem hk])
end
theorem valN_snoc (l : List UInt8) (b : UInt8) : valN (l ++ [b]) = valN l * 256 + b.toNat := by simp [valN, List.foldl_append]
theorem or_byte {m : Nat} {b : UInt8} (h : m * 256 + b.toNat < 9223372036854775808) : bitop .or .i64 ((m * 256 : Nat) : Int) (b.toNat : Int) = ((m * 256 + b.toNat : Nat) : Int) := by
  have hb := b.toNat_lt
  have e : m * 256 ||| b.toNat = m * 256 + b.toNat := by
    have := Nat.shiftLeft_add_eq_or_of_lt (i := 8) (b := b.toNat) (by omega) m
    rw [Nat.shiftLeft_eq] at this
    exact this.symm
  have h1 : (BitVec.ofInt IntKind.i64.bits ((m * 256 : Nat) : Int) ||| BitVec.ofInt IntKind.i64.bits ((b.toNat : Nat) : Int)).toNat = m * 256 + b.toNat := by
    rw [BitVec.ofInt_natCast, BitVec.ofInt_natCast, BitVec.toNat_or, BitVec.toNat_ofNat, BitVec.toNat_ofNat]
    simp only [IntKind.bits]
    have h64 : (2 : Nat) ^ 64 = 18446744073709551616 := by decide
    rw [h64, Nat.mod_eq_of_lt (show m * 256 < 18446744073709551616 from Nat.lt_of_le_of_lt (Nat.le_add_right _ _) (Nat.lt_trans h (by decide))), Nat.mod_eq_of_lt (show b.toNat < 18446744073709551616 from Nat.lt_trans hb (by decide)), e]
  show IntKind.i64.wrap ((BitVec.ofInt IntKind.i64.bits ((m * 256 : Nat) : Int) ||| BitVec.ofInt IntKind.i64.bits ((b.toNat : Nat) : Int)).toNat : Int) = _
  rw [h1, wrap_i64 (by omega) (by omega)]
theorem rstep_num {wd : Nat} {σ : RSt} {l : List UInt8} (h : Ag (pTake wd) σ l) : rstep (pNum wd) σ = rstep (pTake wd) σ := by rw [pNum, rstep_bind h, rstep_pure]
theorem ag_num {wd : Nat} {σ : RSt} {l : List UInt8} (h : Ag (pTake wd) σ l) : Ag (pNum wd) σ (valN l : Int) := h.bind (Ag.pure _)

attribute [local irreducible] Gl Gc Gx Gs Runs Wt

set_option maxHeartbeats 400000 in
theorem newReader_ok {w : World} {F : Nat → Prop} {TE : Nat} {ea : Nat → Addr} {a : Option Addr} {n c : Nat} {b : List UInt8} (h : stars [] w F) (hx : RdRow w (fun k => ¬ F k) 1 a n (b.map B8)) (hb : n ≤ 1099511627776) :
    Calls Tryz.prog 137 #[.slice a n c] w (Post w F (fun g : Nat => .pointer (some ⟨g, 0, none⟩)) (fun g => [RdrR TE ea g (.ok b)])) := by
  have hnb : n = b.length := by have := hx.1; simp at this; omega
  refine g_enter (env := [(0, .slice a n c)]) Tryz.func137 rfl h Tryz.ntmps137 rfl rfl ?_
  refine gsr ?_
  refine gp zas ?_
  refine gnt ?_
  refine gsr ?_
  refine gp zmv ?_
  refine zc ?_ (c := fun w1 F1 F2 h1 h2 hd hst => cloneBytes_ok h1 (hx.mv hst.still) (one_B8 _) hb)
  rintro ⟨a4, c4⟩
  refine gp (r_build (cs := [.nilIface, .slice a4 n c4]) Ty.zc_291 Ty.pl_291 rfl) ?_
  refine zbN fun b6 => ?_
  refine gp zas ?_
  refine gnt ?_
  refine gc_ret ?_
  refine gx_ret1 rfl (by conv => lhs; whnf) ?_
  intro w' hw
  have hle := (hw.rowLe (e := 5) (size := 1) (a := a4) (m := n) (c := c4) (xs := b.map B8) (by repeat (first | exact Pick.here | apply Pick.there))).1
  refine ⟨b6, rfl, St.rdr (s := ⟨0, b⟩) (k := 0) (m := n) (c := c4) (a := a4) ?_ rfl hnb rfl hle⟩
  rw [eV_zero]
  refine (hw.sel (M := [blk b6 _ _, rowR 5 1 a4 n c4 _]) (by repeat (first | exact Sel.nil | (apply Sel.cons; · (repeat (first | exact Pick.here | apply Pick.there)))))).mapL fun F' hF' => ?_
  obtain ⟨G1, G2, h1, h2, hF, hd⟩ := hF'
  refine ⟨G1, G2, h1, ?_, hF, hd⟩
  obtain ⟨G3, G4, g3, g4, hG, _⟩ := h2
  have hr := rowR.rd g3
  rw [hnb] at hr
  exact rdR_mk (L := [rowR 5 1 a4 n c4 (b.map B8)]) ⟨hr.mv (still_sub fun k hk => (hG k).2 (.inl hk)), RdRow.nil⟩ ⟨G3, G4, g3, g4, hG, by assumption⟩


theorem failR_ok {w : World} {F : Nat → Prop} {TE : Nat} {ea : Nat → Addr} {g : Nat} {σ : RSt} {k : Nat} (hk : k ≠ 0) (h : stars [RdrR TE ea g σ] w F) : Calls Tryz.prog 171 #[.pointer (some ⟨g, 0, none⟩), eV TE ea k] w (Post w F (fun _ : Unit => .tuple #[]) (fun _ => [RdrR TE ea g (failE k σ)])) := by
  obtain ⟨s, a, c, hs, hc, G1, G2, hb, hr, hF, hd⟩ := rr_open h
  refine Calls.mono (calls_frame (fail_ok (j := k) (stars_one hb)) hr hF hd) fun e w' ⟨x, he, hst⟩ => ⟨x, he, ?_⟩
  have hst' : St w F [blk g 291 [eV TE ea (if s.err = 0 then k else s.err), .slice a s.bs.length c], BtR a s.bs none []] w' := hst
  refine St.rdr (s := ⟨if s.err = 0 then k else s.err, s.bs⟩) hst' rfl rfl ?_ hc
  rw [← hs]
  by_cases he : s.err = 0 <;> simp [WS.st, failE, he, hk]

set_option maxHeartbeats 400000 in
theorem take_ok' {w : World} {F : Nat → Prop} {TE : Nat} {ea : Nat → Addr} {g : Nat} {σ : RSt} (h : stars [RdrR TE ea g σ] w F) {es : List Nat} [Has es 2] (hE : GErr es w (fun k => ¬ F k) TE ea) {n : Nat}  :
    Calls Tryz.prog 173 #[.pointer (some ⟨g, 0, none⟩), .int .i64 (n : Int)] w (Post w F (fun r : Option Addr × Nat × List UInt8 => .slice r.1 r.2.2.length r.2.1) (fun r => [pureR (Ag (pTake n) σ r.2.2 ∧ r.2.2.length ≤ r.2.1 ∧ r.2.2.length ≤ n), RdrB TE ea g (rstep (pTake n) σ) r.1 r.2.2])) := by
  obtain ⟨s, a, c, hs, hc, h'⟩ := rr_open h
  refine g_enter (env := [(0, .pointer (some ⟨g, 0, none⟩)), (1, .int .i64 (n : Int))]) Tryz.func173 rfl h' Tryz.ntmps173 rfl rfl ?_
  refine gsr ?_
  refine gp zas ?_
  refine gnt ?_
  refine gc_seq ?_
  refine gsr ?_
  refine gp zmv ?_
  refine gp znc ?_
  refine gp zfa ?_
  refine gp zfa ?_
  refine gp zl ?_
  refine gp (r_nenil rfl (by kernel_rfl)) ?_
  refine gnt ?_
  refine gif rfl (fun hc11 => ?_) (fun hc11 => ?_)
  · try simp only at hc11
    have e1 : errOf σ ≠ 0 := by rw [← hs, WS.errOf_st]; exact hc11
    refine gsr ?_
    refine gp zas ?_
    refine gnt ?_
    refine gc_ret ?_
    refine gx_then_ret ?_
    refine gx_ret1 rfl (by conv => lhs; whnf) ?_
    exact fun w' hw => ⟨(none, 0, []), rfl, St.pureI ⟨Ag.bad e1 _, Nat.le_refl _, Nat.zero_le _⟩ (St.rdr (hw.sel (M := [blk g 291 [_, .slice a _ c], BtR a s.bs none []]) (by repeat (first | exact Sel.nil | (apply Sel.cons; · (repeat (first | exact Pick.here | apply Pick.there)))))) rfl rfl (by rw [errOf_rstep _ e1]; exact hs) hc)⟩
  · try simp only at hc11
    have hs' : σ = .ok s.bs := by rw [← hs, WS.st, if_pos hc11]
    refine gc_skip ?_
    refine gx_then ?_
    refine gc_seq ?_
    refine gsr ?_
    refine gp zmv ?_
    refine gp zmv ?_
    refine gp znc ?_
    refine gp zfa ?_
    refine gp zl ?_
    refine gp zln ?_
    refine gp zgt ?_
    refine gnt ?_
    refine gif rfl (fun hc18 => ?_) (fun hc18 => ?_)
    · try simp only at hc18
      have hn : s.bs.length < n := by omega
      have hp : pTake n s.bs = .error 2 := by rw [pTake, if_pos hn]
      refine gc_seq ?_
      refine gc_regionT 4 (by kernel_rfl) (by kernel_rfl) ?_
      refine sp zmv ?_
      refine sp znc ?_
      refine sp zfa ?_
      refine sp (r_ld1o rfl Ty.row_38 (hE.c 2 Has.h) (hE.n 2 Has.h)) ?_
      refine gs_nil ?_
      refine zc (fun _ => ?_) (c := fun w1 F1 F2 h1 h2 hd hst => fail_ok h1)
      refine gnt ?_
      refine gsr ?_
      refine gp zas ?_
      refine gnt ?_
      refine gc_ret ?_
      refine gx_then_ret ?_
      refine gx_ret1 rfl (by conv => lhs; whnf) ?_
      rw [if_pos hc11]
      exact fun w' hw => ⟨(none, 0, []), rfl, St.pureI ⟨by rw [hs']; exact Ag.ne hp _, Nat.le_refl _, Nat.zero_le _⟩ (St.rdr (s := ⟨2, s.bs⟩) (hw.sel (M := [blk g 291 [_, .slice a _ c], BtR a s.bs none []]) (by repeat (first | exact Sel.nil | (apply Sel.cons; · (repeat (first | exact Pick.here | apply Pick.there)))))) rfl rfl (by rw [hs']; simp only [rstep, hp]; rfl) hc)⟩
    · try simp only at hc18
      have hn : n ≤ s.bs.length := by omega
      have hp : pTake n s.bs = .ok (s.bs.take n, s.bs.drop n) := by rw [pTake, if_neg (by omega)]
      refine gc_skip ?_
      refine gx_then ?_
      refine gsr ?_
      refine gp zmv ?_
      refine gp znc ?_
      refine gp zfa ?_
      refine gp zl ?_
      refine gp zmv ?_
      refine gp (r_slice_slice (a := a) (m := s.bs.length) (c := c) (l := 0) (h := n) rfl Ty.sl_86 Ty.sz_5 rfl ⟨_, rfl⟩ (by omega) (by omega)) ?_
      refine gp zas ?_
      refine gnt ?_
      refine gsr ?_
      refine gp zmv ?_
      refine gp zmv ?_
      refine gp znc ?_
      refine gp zfa ?_
      refine gp zl ?_
      refine gp zmv ?_
      refine gp (r_slice_slice (a := a) (m := s.bs.length) (c := c) (l := n) (h := s.bs.length) rfl Ty.sl_86 Ty.sz_5 ⟨_, rfl⟩ rfl (by omega) (by omega)) ?_
      refine gp znc ?_
      refine gp zfa ?_
      refine zs1 ?_
      refine gnt ?_
      refine gsr ?_
      refine gp zmv ?_
      refine gp zas ?_
      refine gnt ?_
      refine gc_ret ?_
      refine gx_ret1 rfl (by conv => lhs; whnf) ?_
      have hdl : (s.bs.drop n).length = s.bs.length - n := List.length_drop
      have htl : (s.bs.take n).length = n := by rw [List.length_take]; omega
      refine fun w' hw => ⟨((if c = 0 then a else a.map (·.add (0 * 1))), c - 0, s.bs.take n), by simp only [htl]; rfl, St.pureI ⟨by rw [hs']; exact Ag.of hp, by simp only [htl]; omega, by simp only [htl]; omega⟩ (St.rdr (s := ⟨0, s.bs.drop n⟩) (k := s.err) (m := s.bs.length - n) (c := c - n) (a := if c = n then a else a.map (·.add (n * 1))) ?_ hc11 hdl.symm (by rw [hs']; simp only [rstep, hp]; rfl) (by omega))⟩
      refine (hw.sel (M := [BtR a s.bs none [], blk g 291 [_, .slice (if c = n then a else a.map (·.add (n * 1))) _ _]]) (by repeat (first | exact Sel.nil | (apply Sel.cons; · (repeat (first | exact Pick.here | apply Pick.there)))))).mapL fun F' hF' => ?_
      have := bt_cut (n := n) hF' hn hc
      exact stars_swap this

end Go.Proofs.YtobjojeliibinaaGreatDoor

/- Walks, by program (wg.py) out of a spec. -/
namespace Go.Proofs.YtobjojeliibinaaGreatDoor
open Go
set_option linter.unusedVariables false
set_option linter.unusedSimpArgs false

attribute [local irreducible] Gl Gc Gx Gs Runs Wt

set_option maxHeartbeats 400000 in
theorem rnum_ok {w : World} {F : Nat → Prop} {TE : Nat} {ea : Nat → Addr} {g : Nat} {σ : RSt} (h : stars [RdrR TE ea g σ] w F) {es : List Nat} [Has es 1] [Has es 2] (hE : GErr es w (fun k => ¬ F k) TE ea) {wd : Nat} (h1 : 1 ≤ wd) (h7 : wd ≤ 7) :
    Calls Tryz.prog 138 #[.pointer (some ⟨g, 0, none⟩), .int .i64 (wd : Int)] w (Post w F (fun x : Nat => .int .i64 (x : Int)) (fun x => [pureR (Ag (pNum wd) σ (x : Int) ∧ x < 256 ^ wd), RdrR TE ea g (rstep (pNum wd) σ)])) := by
  refine g_enter (env := [(0, .pointer (some ⟨g, 0, none⟩)), (1, .int .i64 (wd : Int))]) Tryz.func138 rfl h Tryz.ntmps138 rfl rfl ?_
  refine gsr ?_
  refine gp zas ?_
  refine gnt ?_
  refine gc_seq ?_
  refine gsr ?_
  refine gp zmv ?_
  refine gp (r_bool zlt (decide_eq_false (by omega))) ?_
  refine gp zmv ?_
  refine gq zmv ?_
  refine gq (r_bool zgt (decide_eq_false (by omega))) ?_
  refine gp zpk ?_
  refine gnt ?_
  refine gc_condF rfl rfl ?_
  refine gc_skip ?_
  refine gx_then ?_
  refine gc_seq ?_
  refine gc_join (α := Unit) (fun z => [RdrR TE ea g σ]) (fun z => [(45, .bool false)]) [19, 20, 21, 22, 23, 24, 25, 26, 27, 28, 29, 30, 31, 32, 33, 34, 35, 36, 37, 38, 39, 40, 41, 42, 43, 44] ?_ ?_
  · by_cases he : errOf σ = 0
    · refine gc_region ?_
      refine gp zmv ?_
      refine gp znc ?_
      refine gp zfa ?_
      refine gp zfa ?_
      refine gp r_lde ?_
      refine gp (r_bool (c := true) (r_eqnil rfl (by kernel_rfl)) (decide_eq_true he)) ?_
      refine gp zmv ?_
      refine gq zmv ?_
      refine gq (r_bool zei (decide_eq_false (by omega))) ?_
      refine gp zpk ?_
      refine gp zmv ?_
      refine gn ?_
      refine gn ?_
      refine gn ?_
      refine gn ?_
      refine gn ?_
      refine gn ?_
      refine gp zpk ?_
      refine gp zmv ?_
      refine gn ?_
      refine gn ?_
      refine gn ?_
      refine gn ?_
      refine gn ?_
      refine gn ?_
      refine gn ?_
      refine gp zpk ?_
      refine gl_nil ?_
      refine zjn (()) ?_
      · exact zsel
    · refine gc_region ?_
      refine gp zmv ?_
      refine gp znc ?_
      refine gp zfa ?_
      refine gp zfa ?_
      refine gp r_lde ?_
      refine gp (r_bool (c := false) (r_eqnil rfl (by kernel_rfl)) (decide_eq_false he)) ?_
      refine gp zmv ?_
      refine gn ?_
      refine gn ?_
      refine gp zpk ?_
      refine gp zmv ?_
      refine gn ?_
      refine gn ?_
      refine gn ?_
      refine gn ?_
      refine gn ?_
      refine gn ?_
      refine gp zpk ?_
      refine gp zmv ?_
      refine gn ?_
      refine gn ?_
      refine gn ?_
      refine gn ?_
      refine gn ?_
      refine gn ?_
      refine gn ?_
      refine gp zpk ?_
      refine gl_nil ?_
      refine zjn (()) ?_
      · exact zsel
  · intro z u
    refine gc_condF rfl rfl ?_
    refine gc_skip ?_
    refine gx_then ?_
    refine gsr ?_
    refine gp zas ?_
    refine gnt ?_
    refine gc_seq ?_
    refine gsr ?_
    refine gp zmv ?_
    refine gp zmv ?_
    refine zc ?_ (c := fun w1 F1 F2 h1 h2 hd hst => take_ok' (n := wd) h1 (hE.mv hst.still))
    rintro ⟨a53, c53, l⟩
    refine gl_pureR (fun h53 => ?_)
    obtain ⟨hag, hlc, hlw⟩ := h53
    replace hag : Ag (pTake wd) σ l := hag
    replace hlw : l.length ≤ wd := hlw
    refine gp zln ?_
    refine gp zmv ?_
    refine gnt ?_
    refine gc_block ?_
    refine gc_loop (α := Nat) (fun k => [pureR (k ≤ l.length), RdrB TE ea g (rstep (pTake wd) σ) a53 l]) (fun k => [(55, .int .i64 (k : Int)), (5, .int .i64 ((valN (l.take k) : Nat) : Int))]) [7, 56, 57, 58, 59, 60, 61, 62, 63, 64] (fun k => l.length - k) 0 ?_ ?_ ?_
    · refine env_start (by kernel_rfl)
    · exact zlp (by first | exact Nat.zero_le _ | omega)
    · intro k u
      refine gc_pureR (fun hk => ?_)
      replace hk : k ≤ l.length := hk
      refine gsr ?_
      refine gp zlt ?_
      refine gnt ?_
      refine gc_seq ?_
      refine gif rfl (fun hc56 => ?_) (fun hc56 => ?_)
      · try simp only at hc56
        have hk' : k < l.length := by omega
        refine gc_fact (p := ∃ g o, a53 = some ⟨g, o, none⟩) (fun w hw => (by obtain ⟨g, o, e, _⟩ := (hw.rdB (l := l) (a2 := a53) (by repeat (first | exact Pick.here | apply Pick.there))).2.2 (by omega); exact ⟨g, o, e⟩)) (fun ha => ?_)
        obtain ⟨g6, o6, rfl⟩ := ha
        have hv := valN_lt (l.take k)
        have hp : 256 ^ (l.take k).length ≤ 256 ^ 6 := Nat.pow_le_pow_right (by decide) (by rw [List.length_take]; omega)
        have h56 : (256 : Nat) ^ 6 = 281474976710656 := by decide
        have hbl := (l.getD k 0).toNat_lt
        refine gc_skip ?_
        refine gx_then ?_
        refine gc_seq ?_
        refine gc_block ?_
        refine gsr ?_
        refine gp zia ?_
        refine gp (r_ldb (hi := by omega) (hk := hk')) ?_
        refine gp zas ?_
        refine gnt ?_
        refine gc_region ?_
        refine gp zmv ?_
        refine gp (r_int zhl (show IntKind.i64.wrap (((valN (l.take k) : Nat) : Int) * 2 ^ (min (8 : Int).toNat IntKind.i64.bits)) = ((valN (l.take k) * 256 : Nat) : Int) by rw [show (2 : Int) ^ (min (8 : Int).toNat IntKind.i64.bits) = 256 from rfl, wrap_i64 (by omega) (by omega)]; omega)) ?_
        refine gp zmv ?_
        refine gp (r_int zci (wrap_i64 (by omega) (by omega))) ?_
        refine gp (r_int (j := ((valN (l.take (k + 1)) : Nat) : Int)) zbt ((or_byte (by omega)).trans (by rw [take_snoc hk', valN_snoc]))) ?_
        refine gp zas ?_
        refine gl_nil ?_
        refine gx_block_normal ?_
        refine gx_then ?_
        refine gc_region ?_
        refine gp zad ?_
        refine gp zmv ?_
        refine gl_nil ?_
        refine zrd (k + 1) ?_ ?_
        · show l.length - (k + 1) < l.length - k
          omega
        · exact zlp (show k + 1 ≤ l.length by omega)
      · try simp only at hc56
        have hk' : k = l.length := by omega
        subst hk'
        have hv := valN_lt l
        have hp : 256 ^ l.length ≤ 256 ^ wd := Nat.pow_le_pow_right (by decide) hlw
        refine gc_exit ?_
        refine gx_then_exit ?_
        refine gx_round_exit ?_
        refine gx_block_hit ?_
        refine gx_then ?_
        refine gsr ?_
        refine gp zmv ?_
        refine gp zas ?_
        refine gnt ?_
        refine gc_ret ?_
        refine gx_ret1 rfl (by conv => lhs; whnf) ?_
        exact fun w' hw => ⟨valN l, congrArg (fun m : List UInt8 => Ending.returned (.int .i64 (valN m : Int))) List.take_length, St.pureI ⟨ag_num hag, Nat.lt_of_lt_of_le hv hp⟩ (by rw [rstep_num hag]; exact (hw.sel (M := [RdrB TE ea g _ _ l]) (by repeat (first | exact Sel.nil | (apply Sel.cons; · (repeat (first | exact Pick.here | apply Pick.there)))))).rrw)⟩

set_option maxHeartbeats 400000 in
theorem rfixed_ok {w : World} {F : Nat → Prop} {TE : Nat} {ea : Nat → Addr} {g : Nat} {σ : RSt} (h : stars [RdrR TE ea g σ] w F) {es : List Nat} [Has es 1] [Has es 2] (hE : GErr es w (fun k => ¬ F k) TE ea) {n : Nat} (hn : n ≤ 65535) :
    Calls Tryz.prog 199 #[.pointer (some ⟨g, 0, none⟩), .int .i64 (n : Int)] w (Post w F (fun r : Option Addr × Nat × List UInt8 => .slice r.1 r.2.2.length r.2.1) (fun r => [pureR (Ag (pTake n) σ r.2.2 ∧ r.2.2.length ≤ n), rowR 5 1 r.1 r.2.2.length r.2.1 (r.2.2.map B8), RdrR TE ea g (rstep (pTake n) σ)])) := by
  refine g_enter (env := [(0, .pointer (some ⟨g, 0, none⟩)), (1, .int .i64 (n : Int))]) Tryz.func199 rfl h Tryz.ntmps199 rfl rfl ?_
  refine gsr ?_
  refine gp zas ?_
  refine gnt ?_
  refine gc_seq ?_
  refine gsr ?_
  refine gp zmv ?_
  refine gp (r_bool zlt (decide_eq_false (by omega))) ?_
  refine gnt ?_
  refine gc_condF rfl rfl ?_
  refine gc_skip ?_
  refine gx_then ?_
  refine gsr ?_
  refine gp zmv ?_
  refine gp zmv ?_
  refine zc ?_ (c := fun w1 F1 F2 h1 h2 hd hst => take_ok' (n := n) h1 (hE.mv hst.still))
  rintro ⟨a14, c14, l⟩
  refine gl_pureR (fun h14 => ?_)
  obtain ⟨hag, hlc, hlw⟩ := h14
  replace hlw : l.length ≤ n := hlw
  refine zc ?_ (c := fun w1 F1 F2 h1 h2 hd hst => cloneBytes_ok (xs := l.map B8) h1 (rdB_row h2 hd (by repeat (first | exact Pick.here | apply Pick.there))) (one_B8 _) (by omega))
  rintro ⟨a15, c15⟩
  refine gp zas ?_
  refine gnt ?_
  refine gc_ret ?_
  refine gx_ret1 rfl (by conv => lhs; whnf) ?_
  exact fun w' hw => ⟨(a15, c15, l), rfl, St.pureI ⟨hag, hlw⟩ ((hw.sel (M := [RdrB TE ea g _ _ l, rowR 5 1 a15 _ c15 _]) (by repeat (first | exact Sel.nil | (apply Sel.cons; · (repeat (first | exact Pick.here | apply Pick.there)))))).rrw.sel (by repeat (first | exact Sel.nil | (apply Sel.cons; · (repeat (first | exact Pick.here | apply Pick.there))))))⟩

set_option maxHeartbeats 400000 in
theorem rbytes_ok {w : World} {F : Nat → Prop} {TE : Nat} {ea : Nat → Addr} {g : Nat} {σ : RSt} (h : stars [RdrR TE ea g σ] w F) {es : List Nat} [Has es 1] [Has es 2] (hE : GErr es w (fun k => ¬ F k) TE ea) {most : Nat} (hm : most ≤ 65535) :
    Calls Tryz.prog 174 #[.pointer (some ⟨g, 0, none⟩), .int .i64 (most : Int)] w (Post w F (fun r : Option Addr × Nat × List UInt8 => .slice r.1 r.2.2.length r.2.1) (fun r => [pureR (Ag (pBytes most) σ r.2.2 ∧ r.2.2.length ≤ 65535), rowR 5 1 r.1 r.2.2.length r.2.1 (r.2.2.map B8), RdrR TE ea g (rstep (pBytes most) σ)])) := by
  refine g_enter (env := [(0, .pointer (some ⟨g, 0, none⟩)), (1, .int .i64 (most : Int))]) Tryz.func174 rfl h Tryz.ntmps174 rfl rfl ?_
  refine gsr ?_
  refine gp zas ?_
  refine gnt ?_
  refine gsr ?_
  refine gp zmv ?_
  refine zc (fun x => ?_) (c := fun w1 F1 F2 h1 h2 hd hst => rnum_ok (wd := 2) h1 (hE.mv hst.still) (by decide) (by decide))
  refine gl_pureR (fun hx => ?_)
  obtain ⟨hx, hxb⟩ := hx
  have hx256 : x < 65536 := by simpa using hxb
  refine gp zas ?_
  refine gnt ?_
  refine gc_join (α := RSt) (fun σ2 => [pureR ((if errOf (rstep (pNum 2) σ) = 0 ∧ most < x then failE 1 (rstep (pNum 2) σ) else rstep (pNum 2) σ) = σ2), RdrR TE ea g σ2]) (fun σ2 => []) [8, 9, 10, 11, 12, 13, 14, 15, 16, 17, 18, 19, 20, 21, 22, 23] ?_ ?_
  · refine gc_join (α := Bool) (fun z => [pureR (z = (decide (errOf (rstep (pNum 2) σ) = 0) && decide (most < x))), RdrR TE ea g (rstep (pNum 2) σ)]) (fun z => [(18, .bool z)]) [8, 9, 10, 11, 12, 13, 14, 15, 16, 17] ?_ ?_
    · by_cases he : errOf (rstep (pNum 2) σ) = 0
      · refine gc_region ?_
        refine gp zmv ?_
        refine gp znc ?_
        refine gp zfa ?_
        refine gp zfa ?_
        refine gp r_lde ?_
        refine gp (r_bool (c := true) (r_eqnil rfl (by kernel_rfl)) (decide_eq_true he)) ?_
        refine gp zmv ?_
        refine gq zmv ?_
        refine gq zmv ?_
        refine gq (r_bool (b := decide ((most : Int) < (x : Int))) zgt rfl) ?_
        refine gp zpk ?_
        refine gl_nil ?_
        refine zjn (decide ((most : Int) < (x : Int))) ?_
        · exact zlp (by rw [decide_eq_true he, Bool.true_and]; exact decide_eq_decide.2 (by omega))
      · refine gc_region ?_
        refine gp zmv ?_
        refine gp znc ?_
        refine gp zfa ?_
        refine gp zfa ?_
        refine gp r_lde ?_
        refine gp (r_bool (c := false) (r_eqnil rfl (by kernel_rfl)) (decide_eq_false he)) ?_
        refine gp zmv ?_
        refine gn ?_
        refine gn ?_
        refine gn ?_
        refine gp zpk ?_
        refine gl_nil ?_
        refine zjn (false) ?_
        · exact zlp (by rw [decide_eq_false he]; rfl)
    · intro z u
      refine gc_pureR (fun hz => ?_)
      subst hz
      refine gif rfl (fun hc18 => ?_) (fun hc18 => ?_)
      · try simp only at hc18
        have hb : errOf (rstep (pNum 2) σ) = 0 ∧ most < x := by omega
        refine gc_regionT 4 (by kernel_rfl) (by kernel_rfl) ?_
        refine sp zmv ?_
        refine sp znc ?_
        refine sp zfa ?_
        refine sp (r_ld1o rfl Ty.row_38 (hE.c 1 Has.h) (hE.n 1 Has.h)) ?_
        refine gs_nil ?_
        refine zc (fun _ => ?_) (c := fun w1 F1 F2 h1 h2 hd hst => failR_ok (by decide) h1)
        refine gl_nil ?_
        refine zjn (failE 1 (rstep (pNum 2) σ)) ?_
        · exact zlp (if_pos hb)
      · try simp only at hc18
        have hb : ¬ (errOf (rstep (pNum 2) σ) = 0 ∧ most < x) := by omega
        refine gc_skip ?_
        refine zjn ((rstep (pNum 2) σ)) ?_
        · exact zlp (if_neg hb)
  · intro σ2 u
    refine gc_pureR (fun hc2 => ?_)
    refine gsr ?_
    refine gp zmv ?_
    refine gp zmv ?_
    refine zc ?_ (c := fun w1 F1 F2 h1 h2 hd hst => rfixed_ok (n := x) h1 (hE.mv hst.still) (by omega))
    rintro ⟨a26, c26, l⟩
    refine gl_pureR (fun h26 => ?_)
    obtain ⟨hag, hlw⟩ := h26
    replace hlw : l.length ≤ x := hlw
    have hfin := bytes_fin hx hc2 hag
    refine gp zas ?_
    refine gnt ?_
    refine gc_ret ?_
    refine gx_ret1 rfl (by conv => lhs; whnf) ?_
    rw [hfin.1]
    exact fun w' hw => ⟨(a26, c26, l), rfl, St.pureI ⟨hfin.2, by show l.length ≤ 65535; omega⟩ (hw.sel (by repeat (first | exact Sel.nil | (apply Sel.cons; · (repeat (first | exact Pick.here | apply Pick.there))))))⟩

end Go.Proofs.YtobjojeliibinaaGreatDoor

/- Walks, by program (wg.py) out of a spec. -/
namespace Go.Proofs.YtobjojeliibinaaGreatDoor
open Go
set_option linter.unusedVariables false
set_option linter.unusedSimpArgs false


def padDig (l : List UInt8) : Dig := digOf (l ++ List.replicate (16 - l.length) 0)
theorem padDig_cells {l : List UInt8} (h : l.length ≤ 16) : updL zD 0 (l.map B8) = dc (padDig l) := by
  have e : (l ++ List.replicate (16 - l.length) 0).length = 16 := by simp; omega
  rw [padDig, digOf, dif_pos e]
  simp only [dc, updL, List.take_zero, List.nil_append, Nat.zero_add, List.length_map, List.map_append, List.map_replicate]
  rw [zD, List.drop_replicate]
  rfl
theorem ag_dig {σ : RSt} {l : List UInt8} (h : Ag (pTake 16) σ l) : Ag pDig σ (padDig l) := by
  rintro b y r rfl hb
  obtain ⟨l', r1, h1, h2⟩ := pBind_ok hb
  obtain rfl := h b l' r1 rfl h1
  have hl := (pTake_ok h1).2
  obtain ⟨rfl, rfl⟩ := pPure_ok h2
  rw [padDig, hl]; simp
theorem rstep_dig {σ : RSt} {l : List UInt8} (h : Ag (pTake 16) σ l) : rstep pDig σ = rstep (pTake 16) σ := by rw [pDig, rstep_bind h, rstep_pure]
section
variable {w : World} {F : Nat → Prop}
theorem vl_pure {α : Type} {rd : World → (Nat → Prop) → List Value → α → Prop} [RdK rd] {L : List Res} {cs : List Value} {x : α} (h : rd w (fun _ => False) cs x) (hs : stars L w F) : stars (VlR rd cs x :: L) w F :=
  ⟨fun _ => False, F, ⟨h, fun _ h => h.elim⟩, hs, fun k => by simp, fun _ h => h.elim⟩
theorem St.vl {α : Type} {rd : World → (Nat → Prop) → List Value → α → Prop} [RdK rd] {w0 : World} {F0 : Nat → Prop} {L : List Res} {cs : List Value} {x : α} (hs : St w0 F0 L w) (h : rd w (fun _ => False) cs x) : St w0 F0 (VlR rd cs x :: L) w := hs.mapL fun F hF => vl_pure h hF
theorem vl_sig {leaf : Int} {a1 a2 : Option Addr} {n1 c1 n2 c2 : Nat} {l1 l2 : List Dig} (k1 : n1 ≤ c1) (k2 : n2 ≤ c2) (h : stars [LsR (fun _ _ => RdDig) 16 a1 n1 l1, LsR (fun _ _ => RdDig) 16 a2 n2 l2] w F) : stars [VlR RdSig [.int .i64 leaf, .slice a1 n1 c1, .slice a2 n2 c2] ⟨leaf, l1, l2⟩] w F := by
  obtain ⟨F1, F2, h1, h2, hF⟩ := stars_two h
  exact rdR_mk ⟨a1, n1, c1, a2, n2, c2, rfl, k1, k2, RdList.mv h1.1 (still_sub fun k hk => (hF k).2 (.inl hk)) fun _ _ h => h, RdList.mv h2.1 (still_sub fun k hk => (hF k).2 (.inr hk)) fun _ _ h => h⟩ h
theorem vl_signed {who : Int} {ss : List Value} {s : Sig} (h : stars [VlR RdSig ss s] w F) : stars [VlR RdSigned (.int .i64 who :: ss) ⟨who, s⟩] w F := rdR_mk ⟨ss, rfl, (stars_one' h).1⟩ h
theorem vl_late {who high : Int} {ss : List Value} {s : Sig} (h : stars [VlR RdSig ss s] w F) : stars [VlR RdLate (.int .i64 who :: .int .i64 high :: ss) ⟨who, high, s⟩] w F := rdR_mk ⟨ss, rfl, (stars_one' h).1⟩ h
theorem vl_qc {e r : Int} {d : Dig} {a : Option Addr} {n c : Nat} {l : List Signed} (k : n ≤ c) (h : stars [LsR RdSigned 4 a n l] w F) : stars [VlR RdQC (.int .i64 e :: .int .i64 r :: (dc d ++ [.slice a n c])) ⟨e, r, d, l⟩] w F := rdR_mk ⟨a, n, c, rfl, k, (stars_one' h).1⟩ h
theorem vl_tc {e r : Int} {a : Option Addr} {n c : Nat} {l : List Late} (k : n ≤ c) (h : stars [LsR RdLate 5 a n l] w F) : stars [VlR RdTC [.int .i64 e, .int .i64 r, .slice a n c] ⟨e, r, l⟩] w F := rdR_mk ⟨a, n, c, rfl, k, (stars_one' h).1⟩ h
theorem vl_bytes {e n c : Nat} {a : Option Addr} {b : List UInt8} (h : stars [rowR e 1 a n c (b.map B8)] w F) : stars [VlR RdBytes [.slice a n c] b] w F := by
  have hr := stars_one' h
  exact rdR_mk ⟨a, n, c, rfl, hr.2.1, rowR.rd hr⟩ h
theorem vl_block {e r : Int} {d : Dig} {q : List Value} {x : QC} {a1 a2 : Option Addr} {n1 c1 n2 c2 : Nat} {l1 : List (List UInt8)} {l2 : List Vdr} (k1 : n1 ≤ c1) (k2 : n2 ≤ c2)
    (h : stars [VlR RdQC q x, LsR RdBytes 1 a1 n1 l1, LsR (fun _ _ => RdVdr) 17 a2 n2 l2] w F) : stars [VlR RdBlock (.int .i64 e :: .int .i64 r :: (dc d ++ (q ++ [.slice a1 n1 c1, .slice a2 n2 c2]))) ⟨e, r, d, x, l1, l2⟩] w F := by
  obtain ⟨F1, F2, h1, h2, hF⟩ := stars_cons h
  obtain ⟨F3, F4, h3, h4, hF2⟩ := stars_two h2
  have s3 : ∀ k, F3 k → F k := fun k hk => (hF k).2 (.inr ((hF2 k).2 (.inl hk)))
  exact rdR_mk ⟨q, a1, n1, c1, a2, n2, c2, rfl, h1.1.mv (still_sub fun k hk => (hF k).2 (.inl hk)), k1, RdList.mv h3.1 (still_sub s3) fun _ _ h => h.mv (still_sub s3), k2, RdList.mv h4.1 (still_sub fun k hk => (hF k).2 (.inr ((hF2 k).2 (.inr hk)))) fun _ _ h => h⟩ h
end

attribute [local irreducible] Gl Gc Gx Gs Runs Wt

set_option maxHeartbeats 400000 in
theorem rdigest_ok {w : World} {F : Nat → Prop} {TE : Nat} {ea : Nat → Addr} {g : Nat} {σ : RSt} (h : stars [RdrR TE ea g σ] w F) {es : List Nat} [Has es 1] [Has es 2] (hE : GErr es w (fun k => ¬ F k) TE ea) :
    Calls Tryz.prog 179 #[.agg (List.toArray [.pointer (some ⟨g, 0, none⟩)])] w (Post w F (fun r : Dig => .agg (dc r).toArray) (fun r => [pureR (Ag pDig σ r), RdrR TE ea g (rstep pDig σ)])) := by
  refine g_enter (env := [(0, .agg (List.toArray [.pointer (some ⟨g, 0, none⟩)]))]) Tryz.func179 rfl h Tryz.ntmps179 rfl rfl ?_
  refine gsr ?_
  refine zbN fun b1 => ?_
  refine zal fun b2 => ?_
  refine gnt ?_
  refine gsr ?_
  refine zal fun b3 => ?_
  refine gnt ?_
  refine gc_seq ?_
  refine gc_regionH ([blk b1 252 [.pointer (some ⟨g, 0, none⟩)]]) ?_
  refine yp 0 rfl (r_slice_arr (l := 0) (h := 16) rfl Ty.arr_23 Ty.sz_5 rfl rfl (by decide) (by decide) (by decide)) ?_
  refine yp 1 rfl zfa ?_
  refine yp 2 rfl zl ?_
  refine yo 3 rfl ?_
  refine zc ?_ (c := fun w1 F1 F2 h1 h2 hd hst => rfixed_ok (n := 16) h1 (hE.mv hst.still) (by decide))
  rintro ⟨a7, c7, l⟩
  refine gl_pureR (fun h7 => ?_)
  obtain ⟨hag, hlw⟩ := h7
  replace hlw : l.length ≤ 16 := hlw
  replace hag : Ag (pTake 16) σ l := hag
  refine yx ?_
  refine yo 4 rfl ?_
  refine gl_copy (news := l.map B8) (hr := fun w hw => hw.row (by repeat (first | exact Pick.here | apply Pick.there))) (hj := hlw) (h1 := one_B8 _) (hl := by rw [zD_length]; omega) (k := ?_)
  rw [padDig_cells hlw]
  refine yx ?_
  refine yd ?_
  refine gx_then ?_
  refine gsr ?_
  refine gp (zLa (cs := dc (padDig l))) ?_
  refine zsA (dc_length _) (dc_one _) ?_
  refine gnt ?_
  refine gc_ret ?_
  refine gx_retc rfl rfl (ld_aggS Ty.row_23 Ty.sz_23 (by repeat (first | exact Pick.here | apply Pick.there)) (by (simp only [List.drop_succ_cons, List.drop_zero, List.take_succ_cons, List.take_zero, List.cons_append, List.nil_append, List.append_assoc, drop_dc, drop_dc', take_dc, take_dc', drop_L, drop_L', take_L, take_L', len_L, Nat.reduceLeDiff, Nat.reduceSub, Nat.reduceAdd, Nat.le_refl, List.length_cons, List.length_append, List.length_nil, dc_length, List.drop_nil, List.take_nil, List.append_nil, List.length_map, List.length_replicate]; first | done | rfl)) (by first | rfl | (simp only [List.drop_succ_cons, List.drop_zero, List.take_succ_cons, List.take_zero, List.cons_append, List.nil_append, List.append_assoc, drop_dc, drop_dc', take_dc, take_dc', drop_L, drop_L', take_L, take_L', len_L, Nat.reduceLeDiff, Nat.reduceSub, Nat.reduceAdd, Nat.le_refl, List.length_cons, List.length_append, List.length_nil, dc_length, List.drop_nil, List.take_nil, List.append_nil, List.length_map, List.length_replicate]; first | done | omega))) ?_
  rw [rstep_dig hag]
  exact fun w' hw => ⟨padDig l, rfl, St.pureI (ag_dig hag) (hw.sel (by repeat (first | exact Sel.nil | (apply Sel.cons; · (repeat (first | exact Pick.here | apply Pick.there))))))⟩

set_option maxHeartbeats 400000 in
theorem takeDigest_ok {w : World} {F : Nat → Prop} {TE : Nat} {ea : Nat → Addr} {g : Nat} {σ : RSt} (h : stars [RdrR TE ea g σ] w F) {es : List Nat} [Has es 1] [Has es 2] (hE : GErr es w (fun k => ¬ F k) TE ea) :
    Calls Tryz.prog 185 #[.pointer (some ⟨g, 0, none⟩)] w (Post w F (fun r : Dig => .agg (dc r).toArray) (fun r => [pureR (Ag pDig σ r), RdrR TE ea g (rstep pDig σ)])) := by
  refine g_enter (env := [(0, .pointer (some ⟨g, 0, none⟩))]) Tryz.func185 rfl h Tryz.ntmps185 rfl rfl ?_
  refine gsr ?_
  refine zal fun b2 => ?_
  refine gnt ?_
  refine gsr ?_
  refine gp zmv ?_
  refine gp zbu ?_
  refine zc (fun d5 => ?_) (c := fun w1 F1 F2 h1 h2 hd hst => rdigest_ok h1 (hE.mv hst.still))
  refine gl_pureR (fun g5 => ?_)
  refine zsA (dc_length _) (dc_one _) ?_
  refine gnt ?_
  refine gc_ret ?_
  refine gx_retc rfl rfl (ld_aggS Ty.row_23 Ty.sz_23 (by repeat (first | exact Pick.here | apply Pick.there)) (by (simp only [List.drop_succ_cons, List.drop_zero, List.take_succ_cons, List.take_zero, List.cons_append, List.nil_append, List.append_assoc, drop_dc, drop_dc', take_dc, take_dc', drop_L, drop_L', take_L, take_L', len_L, Nat.reduceLeDiff, Nat.reduceSub, Nat.reduceAdd, Nat.le_refl, List.length_cons, List.length_append, List.length_nil, dc_length, List.drop_nil, List.take_nil, List.append_nil, List.length_map, List.length_replicate]; first | done | rfl)) (by first | rfl | (simp only [List.drop_succ_cons, List.drop_zero, List.take_succ_cons, List.take_zero, List.cons_append, List.nil_append, List.append_assoc, drop_dc, drop_dc', take_dc, take_dc', drop_L, drop_L', take_L, take_L', len_L, Nat.reduceLeDiff, Nat.reduceSub, Nat.reduceAdd, Nat.le_refl, List.length_cons, List.length_append, List.length_nil, dc_length, List.drop_nil, List.take_nil, List.append_nil, List.length_map, List.length_replicate]; first | done | omega))) ?_
  exact fun w' hw => ⟨d5, rfl, St.pureI g5 (hw.sel (by repeat (first | exact Sel.nil | (apply Sel.cons; · (repeat (first | exact Pick.here | apply Pick.there))))))⟩

set_option maxHeartbeats 400000 in
theorem rat_ok {w : World} {F : Nat → Prop} {TE : Nat} {ea : Nat → Addr} {g : Nat} {σ : RSt} (h : stars [RdrR TE ea g σ] w F) {es : List Nat} [Has es 1] [Has es 2] (hE : GErr es w (fun k => ¬ F k) TE ea) :
    Calls Tryz.prog 178 #[.agg (List.toArray [.pointer (some ⟨g, 0, none⟩)])] w (Post w F (fun r : Nat × Nat => .tuple #[.int .i64 (r.1 : Int), .int .i64 (r.2 : Int)]) (fun r => [pureR (Ag pAt σ ((r.1 : Int), (r.2 : Int))), RdrR TE ea g (rstep pAt σ)])) := by
  refine g_enter (env := [(0, .agg (List.toArray [.pointer (some ⟨g, 0, none⟩)]))]) Tryz.func178 rfl h Tryz.ntmps178 rfl rfl ?_
  refine gsr ?_
  refine zbN fun b1 => ?_
  refine gp zas ?_
  refine gp zas ?_
  refine gnt ?_
  refine gsr ?_
  refine gp zfa ?_
  refine gp zl ?_
  refine zc (fun x => ?_) (c := fun w1 F1 F2 h1 h2 hd hst => rnum_ok (wd := 4) h1 (hE.mv hst.still) (by decide) (by decide))
  refine gl_pureR (fun hp7 => ?_)
  obtain ⟨g7, _⟩ := hp7
  refine gp zas ?_
  refine gnt ?_
  refine gsr ?_
  refine gp zmv ?_
  refine gp zfa ?_
  refine gp zl ?_
  refine zc (fun y => ?_) (c := fun w1 F1 F2 h1 h2 hd hst => rnum_ok (wd := 6) h1 (hE.mv hst.still) (by decide) (by decide))
  refine gl_pureR (fun hp11 => ?_)
  obtain ⟨g11, _⟩ := hp11
  refine gp zas ?_
  refine gp zas ?_
  refine gnt ?_
  refine gc_ret ?_
  refine gx_ret2 rfl (by conv => lhs; whnf) (by conv => lhs; whnf) ?_
  have ha : Ag pAt σ ((x : Int), (y : Int)) := g7.bind (g11.bind (Ag.pure _))
  have hr : rstep pAt σ = rstep (pNum 6) (rstep (pNum 4) (σ)) := by rw [pAt, rstep_bind g7, rstep_bind g11, rstep_pure]
  rw [hr]
  exact fun w' hw => ⟨(x, y), rfl, St.pureI ha (hw.sel (by repeat (first | exact Sel.nil | (apply Sel.cons; · (repeat (first | exact Pick.here | apply Pick.there))))))⟩

set_option maxHeartbeats 400000 in
theorem takeDigs_ok {w : World} {F : Nat → Prop} {TE : Nat} {ea : Nat → Addr} {g : Nat} {σ : RSt} (h : stars [RdrR TE ea g σ] w F) {es : List Nat} [Has es 1] [Has es 2] (hE : GErr es w (fun k => ¬ F k) TE ea) {most : Nat} (hm : most ≤ 255) :
    Calls Tryz.prog 223 #[.pointer (some ⟨g, 0, none⟩), .int .i64 (most : Int), .func (.func 185) #[] #[]] w (Post w F (fun r : Option Addr × Nat × Nat × List Dig => .slice r.1 r.2.1 r.2.2.1) (fun r => [pureR (Ag (pList pDig most) σ r.2.2.2 ∧ r.2.1 ≤ r.2.2.1 ∧ r.2.1 = r.2.2.2.length), LsR (fun _ _ => RdDig) 16 r.1 r.2.1 r.2.2.2, RdrR TE ea g (rstep (pList pDig most) σ)])) := by
  refine g_enter (env := [(0, .pointer (some ⟨g, 0, none⟩)), (1, .int .i64 (most : Int)), (2, .func (.func 185) #[] #[])]) Tryz.func223 rfl h Tryz.ntmps223 rfl rfl ?_
  refine gsr ?_
  refine gp zas ?_
  refine gnt ?_
  refine gsr ?_
  refine gp zmv ?_
  refine zc (fun x => ?_) (c := fun w1 F1 F2 h1 h2 hd hst => rnum_ok (wd := 1) h1 (hE.mv hst.still) (by decide) (by decide))
  refine gl_pureR (fun hx => ?_)
  obtain ⟨hx, hxb⟩ := hx
  have hx256 : x < 256 := by simpa using hxb
  refine gp zas ?_
  refine gnt ?_
  refine gc_join (α := RSt) (fun σ2 => [pureR ((if errOf (rstep (pNum 1) σ) = 0 ∧ most < x then failE 1 (rstep (pNum 1) σ) else rstep (pNum 1) σ) = σ2), RdrR TE ea g σ2]) (fun σ2 => []) [12, 13, 14, 15, 16, 17, 18, 19, 20, 21, 22, 23, 24, 25, 26, 27] ?_ ?_
  · refine gc_join (α := Bool) (fun z => [pureR (z = (decide (errOf (rstep (pNum 1) σ) = 0) && decide (most < x))), RdrR TE ea g (rstep (pNum 1) σ)]) (fun z => [(22, .bool z)]) [12, 13, 14, 15, 16, 17, 18, 19, 20, 21] ?_ ?_
    · by_cases he : errOf (rstep (pNum 1) σ) = 0
      · refine gc_region ?_
        refine gp zmv ?_
        refine gp znc ?_
        refine gp zfa ?_
        refine gp zfa ?_
        refine gp r_lde ?_
        refine gp (r_bool (c := true) (r_eqnil rfl (by kernel_rfl)) (decide_eq_true he)) ?_
        refine gp zmv ?_
        refine gq zmv ?_
        refine gq zmv ?_
        refine gq (r_bool (b := decide ((most : Int) < (x : Int))) zgt rfl) ?_
        refine gp zpk ?_
        refine gl_nil ?_
        refine zjn (decide ((most : Int) < (x : Int))) ?_
        · exact zlp (by rw [decide_eq_true he, Bool.true_and]; exact decide_eq_decide.2 (by omega))
      · refine gc_region ?_
        refine gp zmv ?_
        refine gp znc ?_
        refine gp zfa ?_
        refine gp zfa ?_
        refine gp r_lde ?_
        refine gp (r_bool (c := false) (r_eqnil rfl (by kernel_rfl)) (decide_eq_false he)) ?_
        refine gp zmv ?_
        refine gn ?_
        refine gn ?_
        refine gn ?_
        refine gp zpk ?_
        refine gl_nil ?_
        refine zjn (false) ?_
        · exact zlp (by rw [decide_eq_false he]; rfl)
    · intro z u
      refine gc_pureR (fun hz => ?_)
      subst hz
      refine gif rfl (fun hc22 => ?_) (fun hc22 => ?_)
      · try simp only at hc22
        have hb : errOf (rstep (pNum 1) σ) = 0 ∧ most < x := by omega
        refine gc_regionT 4 (by kernel_rfl) (by kernel_rfl) ?_
        refine sp zmv ?_
        refine sp znc ?_
        refine sp zfa ?_
        refine sp (r_ld1o rfl Ty.row_38 (hE.c 1 Has.h) (hE.n 1 Has.h)) ?_
        refine gs_nil ?_
        refine zc (fun _ => ?_) (c := fun w1 F1 F2 h1 h2 hd hst => failR_ok (by decide) h1)
        refine gl_nil ?_
        refine zjn (failE 1 (rstep (pNum 1) σ)) ?_
        · exact zlp (if_pos hb)
      · try simp only at hc22
        have hb : ¬ (errOf (rstep (pNum 1) σ) = 0 ∧ most < x) := by omega
        refine gc_skip ?_
        refine zjn ((rstep (pNum 1) σ)) ?_
        · exact zlp (if_neg hb)
  · intro σ2 u
    refine gc_pureR (fun hc2 => ?_)
    refine gsr ?_
    refine gp zas ?_
    refine gnt ?_
    refine gc_seq ?_
    refine gsr ?_
    refine gp zas ?_
    refine gnt ?_
    refine gc_block ?_
    refine gc_loop (α := Nat × RSt × Option Addr × Nat × List (List Value) × List Dig) (fun y => [pureR (y.1 ≤ x ∧ Many pDig x σ2 (x - y.1) y.2.1 y.2.2.2.2.2 ∧ (∀ c ∈ y.2.2.2.2.1, c.length = 16) ∧ y.2.2.2.2.2.length = y.1), rowR 23 16 y.2.2.1 y.1 y.2.2.2.1 y.2.2.2.2.1.flatten, ElR (fun _ _ => RdDig) y.2.2.2.2.1 y.2.2.2.2.2, RdrR TE ea g y.2.1]) (fun y => [(8, .slice y.2.2.1 y.1 y.2.2.2.1), (9, .int .i64 (y.1 : Int))]) [28, 29, 30, 31, 32, 33, 34, 35, 36, 37, 38, 39, 40, 41, 42, 43, 44, 45, 46] (fun y => x - y.1) (0, σ2, none, 0, [], []) ?_ ?_ ?_
    · refine env_start (by kernel_rfl)
    · exact fun w' hw => zlp ⟨Nat.zero_le _, Many.start, (by intro c hc; cases hc), rfl⟩ (by repeat (first | exact Sel.nil | (apply Sel.cons; · (repeat (first | exact Pick.here | apply Pick.there))))) w' (hw.mapL fun F' hF' => stars_row_nil (e := 23) (size := 16) (el_nil (rd := fun _ _ => RdDig) hF'))
    · intro y u
      obtain ⟨k, τ, a, c, css, l⟩ := y
      refine gc_pureR (fun hk => ?_)
      obtain ⟨hk, hmany, hcss, hll⟩ := hk
      replace hk : k ≤ x := hk
      replace hll : l.length = k := hll
      replace hcss : ∀ c ∈ css, c.length = 16 := hcss
      replace hmany : Many pDig x σ2 (x - k) τ l := hmany
      refine gc_seq ?_
      refine gc_seq ?_
      by_cases hkx : k < x
      · refine gc_region ?_
        refine gp zmv ?_
        refine gp zmv ?_
        refine gp (r_bool (c := true) zlt (decide_eq_true (by omega))) ?_
        refine gp zmv ?_
        refine gq zmv ?_
        refine gq znc ?_
        refine gq zfa ?_
        refine gq zfa ?_
        refine gq r_lde ?_
        refine gq (r_eqnil rfl (by kernel_rfl)) ?_
        refine gp zpk ?_
        refine gnt ?_
        refine gif rfl (fun hc38 => ?_) (fun hc38 => ?_)
        · try simp only at hc38
          have he2 : errOf τ = 0 := hc38
          refine gc_skip ?_
          refine gx_then ?_
          refine gc_seq ?_
          refine gc_block ?_
          refine gc_region ?_
          refine gp zmv ?_
          refine gp zmv ?_
          refine gp zmv ?_
          refine gl_call (wt0 rfl) (e_callv (us := []) rfl Ty.call_185 rfl) (by repeat (first | exact Sel.nil | (apply Sel.cons; · (repeat (first | exact Pick.here | apply Pick.there))))) (fun w1 F1 F2 h1 h2 hd hst => takeDigest_ok h1 (hE.mv hst.still)) ?_
          intro v
          refine gl_pureR (fun hag => ?_)
          obtain ⟨cs, hcs⟩ : ∃ cs, cs = dc v := ⟨_, rfl⟩
          have hcl : cs.length = 16 := by rw [hcs]; exact dc_length _
          rw [← hcs]
          have i1 := Len.of hcl
          have i2 := One.of (l := cs) (by rw [hcs]; exact dc_one _)
          refine gl_conv (M := []) (N := [VlR (fun _ _ => RdDig) cs v]) Sel.nil (fun w F hF => vl_pure (show RdDig cs v from hcs) hF) ?_
          refine zeN fun b45 => ?_
          refine zapo (news := cs) (fun a46 c46 => ?_)
          refine gp zas ?_
          refine gl_nil ?_
          refine gx_block_normal ?_
          refine gx_then ?_
          refine gc_region ?_
          refine gp zmv ?_
          refine gp zad ?_
          refine gp zas ?_
          refine gl_nil ?_
          refine zrd ((k + 1, rstep pDig τ, a46, c46, css ++ [cs], l ++ [v])) ?_ ?_
          · show x - (k + 1) < x - k
            omega
          · rintro w' hw
            have h1 := hw.conv (M := [ElR (fun _ _ => RdDig) css l, VlR (fun _ _ => RdDig) cs v]) (by repeat (first | exact Sel.nil | (apply Sel.cons; · (repeat (first | exact Pick.here | apply Pick.there))))) (fun _ _ => el_snoc)
            refine zlq (M' := [rowR 23 16 a46 (k + 1) c46 (css.flatten ++ cs), ElR (fun _ _ => RdDig) (css ++ [cs]) (l ++ [v]), RdrR TE ea g (rstep pDig τ)]) ⟨?_, ?_, ?_, ?_⟩ (by simp) (by repeat (first | exact Sel.nil | (apply Sel.cons; · (repeat (first | exact Pick.here | apply Pick.there))))) w' h1
            · show k + 1 ≤ x; omega
            · rw [show x - k = x - (k + 1) + 1 by omega] at hmany; exact hmany.next hag
            · intro c' hc'; rcases List.mem_append.1 hc' with h | h; exact hcss c' h; rw [List.mem_singleton.1 h]; exact hcl
            · simp [hll]
        · try simp only at hc38
          have he2 : ¬ errOf τ = 0 := hc38
          refine gc_exit ?_
          refine gx_then_exit ?_
          refine gx_round_exit ?_
          refine gx_block_hit ?_
          refine gx_then ?_
          refine gc_seq ?_
          refine gsr ?_
          refine gp zmv ?_
          refine gp znc ?_
          refine gp zfa ?_
          refine gp zfa ?_
          refine gp r_lde ?_
          refine gp (r_nenil rfl (by kernel_rfl)) ?_
          refine gnt ?_
          refine gif rfl (fun hc52 => ?_) (fun hc52 => ?_)
          · try simp only at hc52
            have hbad := hmany.bad hc52
            have hfin := list_fin hx hc2 ⟨hbad.1, hbad.2 []⟩
            refine gsr ?_
            refine gp zas ?_
            refine gnt ?_
            refine gc_ret ?_
            refine gx_then_ret ?_
            refine gx_ret1 rfl (by conv => lhs; whnf) ?_
            rw [hfin.1]
            exact fun w' hw => ⟨(none, 0, 0, []), rfl, St.pureI ⟨hfin.2, Nat.le_refl _, rfl⟩ ((hw.sel (M := [RdrR TE ea g τ]) (by repeat (first | exact Sel.nil | (apply Sel.cons; · (repeat (first | exact Pick.here | apply Pick.there)))))).mapL fun F' hF' => ls_nil hF')⟩
          · try simp only at hc52
            have hm0 : x - k = 0 := by first | omega | exact absurd hc52 he2
            rw [hm0] at hmany
            have hfin := list_fin hx hc2 hmany.done
            refine gc_skip ?_
            refine gx_then ?_
            refine gsr ?_
            refine gp zmv ?_
            refine gp zas ?_
            refine gnt ?_
            refine gc_ret ?_
            refine gx_ret1 rfl (by conv => lhs; whnf) ?_
            rw [hfin.1]
            intro w' hw
            have hle := (hw.rowLe (e := 23) (size := 16) (a := a) (m := k) (c := c) (xs := css.flatten) (by repeat (first | exact Pick.here | apply Pick.there))).1
            exact ⟨(a, k, c, l), rfl, St.pureI ⟨hfin.2, hle, hll.symm⟩ ((hw.conv (M := [rowR 23 16 a k c css.flatten, ElR (fun _ _ => RdDig) css l]) (by repeat (first | exact Sel.nil | (apply Sel.cons; · (repeat (first | exact Pick.here | apply Pick.there))))) (fun _ _ => ls_of hcss)).sel (by repeat (first | exact Sel.nil | (apply Sel.cons; · (repeat (first | exact Pick.here | apply Pick.there))))))⟩
      · refine gc_region ?_
        refine gp zmv ?_
        refine gp zmv ?_
        refine gp (r_bool (c := false) zlt (decide_eq_false (by omega))) ?_
        refine gp zmv ?_
        refine gn ?_
        refine gn ?_
        refine gn ?_
        refine gn ?_
        refine gn ?_
        refine gn ?_
        refine gp zpk ?_
        refine gnt ?_
        refine gc_condF rfl rfl ?_
        refine gc_exit ?_
        refine gx_then_exit ?_
        refine gx_round_exit ?_
        refine gx_block_hit ?_
        refine gx_then ?_
        refine gc_seq ?_
        refine gsr ?_
        refine gp zmv ?_
        refine gp znc ?_
        refine gp zfa ?_
        refine gp zfa ?_
        refine gp r_lde ?_
        refine gp (r_nenil rfl (by kernel_rfl)) ?_
        refine gnt ?_
        refine gif rfl (fun hc52 => ?_) (fun hc52 => ?_)
        · try simp only at hc52
          have hbad := hmany.bad hc52
          have hfin := list_fin hx hc2 ⟨hbad.1, hbad.2 []⟩
          refine gsr ?_
          refine gp zas ?_
          refine gnt ?_
          refine gc_ret ?_
          refine gx_then_ret ?_
          refine gx_ret1 rfl (by conv => lhs; whnf) ?_
          rw [hfin.1]
          exact fun w' hw => ⟨(none, 0, 0, []), rfl, St.pureI ⟨hfin.2, Nat.le_refl _, rfl⟩ ((hw.sel (M := [RdrR TE ea g τ]) (by repeat (first | exact Sel.nil | (apply Sel.cons; · (repeat (first | exact Pick.here | apply Pick.there)))))).mapL fun F' hF' => ls_nil hF')⟩
        · try simp only at hc52
          have hm0 : x - k = 0 := by first | omega | exact absurd hc52 he2
          rw [hm0] at hmany
          have hfin := list_fin hx hc2 hmany.done
          refine gc_skip ?_
          refine gx_then ?_
          refine gsr ?_
          refine gp zmv ?_
          refine gp zas ?_
          refine gnt ?_
          refine gc_ret ?_
          refine gx_ret1 rfl (by conv => lhs; whnf) ?_
          rw [hfin.1]
          intro w' hw
          have hle := (hw.rowLe (e := 23) (size := 16) (a := a) (m := k) (c := c) (xs := css.flatten) (by repeat (first | exact Pick.here | apply Pick.there))).1
          exact ⟨(a, k, c, l), rfl, St.pureI ⟨hfin.2, hle, hll.symm⟩ ((hw.conv (M := [rowR 23 16 a k c css.flatten, ElR (fun _ _ => RdDig) css l]) (by repeat (first | exact Sel.nil | (apply Sel.cons; · (repeat (first | exact Pick.here | apply Pick.there))))) (fun _ _ => ls_of hcss)).sel (by repeat (first | exact Sel.nil | (apply Sel.cons; · (repeat (first | exact Pick.here | apply Pick.there))))))⟩

set_option maxHeartbeats 400000 in
theorem rsig_ok {w : World} {F : Nat → Prop} {TE : Nat} {ea : Nat → Addr} {g : Nat} {σ : RSt} (h : stars [RdrR TE ea g σ] w F) {es : List Nat} [Has es 1] [Has es 2] (hE : GErr es w (fun k => ¬ F k) TE ea) :
    Calls Tryz.prog 210 #[.agg (List.toArray [.pointer (some ⟨g, 0, none⟩)])] w (Post w F (fun r : List Value × Sig => .agg r.1.toArray) (fun r => [pureR (Ag pSig σ r.2 ∧ r.1.length = 3 ∧ ∀ v ∈ r.1, v.oneCell' = true), VlR RdSig r.1 r.2, RdrR TE ea g (rstep pSig σ)])) := by
  refine g_enter (env := [(0, .agg (List.toArray [.pointer (some ⟨g, 0, none⟩)]))]) Tryz.func210 rfl h Tryz.ntmps210 rfl rfl ?_
  refine gsr ?_
  refine zbN fun b1 => ?_
  refine zal fun b2 => ?_
  refine gnt ?_
  refine gsr ?_
  refine gp zfa ?_
  refine gp zl ?_
  refine zc (fun x => ?_) (c := fun w1 F1 F2 h1 h2 hd hst => rnum_ok (wd := 1) h1 (hE.mv hst.still) (by decide) (by decide))
  refine gl_pureR (fun hp7 => ?_)
  obtain ⟨g7, _⟩ := hp7
  refine gp zas ?_
  refine gnt ?_
  refine gsr ?_
  refine gp zfa ?_
  refine gp zl ?_
  refine zc ?_ (c := fun w1 F1 F2 h1 h2 hd hst => takeDigs_ok (most := 68) h1 (hE.mv hst.still) (by decide))
  rintro ⟨a10, n10, c10, l10⟩
  refine gl_pureR (fun hp10 => ?_)
  obtain ⟨g10, k10, e10⟩ := hp10
  replace g10 : Ag (pList pDig 68) _ l10 := g10
  replace k10 : n10 ≤ c10 := k10
  refine gp zas ?_
  refine gnt ?_
  refine gsr ?_
  refine gp zmv ?_
  refine gp zmv ?_
  refine gp zfa ?_
  refine gp zl ?_
  refine zc ?_ (c := fun w1 F1 F2 h1 h2 hd hst => takeDigs_ok (most := 5) h1 (hE.mv hst.still) (by decide))
  rintro ⟨a15, n15, c15, l15⟩
  refine gl_pureR (fun hp15 => ?_)
  obtain ⟨g15, k15, e15⟩ := hp15
  replace g15 : Ag (pList pDig 5) _ l15 := g15
  replace k15 : n15 ≤ c15 := k15
  refine gp zbu ?_
  refine zsN ?_
  refine gnt ?_
  refine gc_ret ?_
  refine gx_retc rfl rfl (ld_aggS Ty.row_138 Ty.sz_138 (by repeat (first | exact Pick.here | apply Pick.there)) (by (simp only [List.drop_succ_cons, List.drop_zero, List.take_succ_cons, List.take_zero, List.cons_append, List.nil_append, List.append_assoc, drop_dc, drop_dc', take_dc, take_dc', drop_L, drop_L', take_L, take_L', len_L, Nat.reduceLeDiff, Nat.reduceSub, Nat.reduceAdd, Nat.le_refl, List.length_cons, List.length_append, List.length_nil, dc_length, List.drop_nil, List.take_nil, List.append_nil, List.length_map, List.length_replicate]; first | done | rfl)) (by first | rfl | (simp only [List.drop_succ_cons, List.drop_zero, List.take_succ_cons, List.take_zero, List.cons_append, List.nil_append, List.append_assoc, drop_dc, drop_dc', take_dc, take_dc', drop_L, drop_L', take_L, take_L', len_L, Nat.reduceLeDiff, Nat.reduceSub, Nat.reduceAdd, Nat.le_refl, List.length_cons, List.length_append, List.length_nil, dc_length, List.drop_nil, List.take_nil, List.append_nil, List.length_map, List.length_replicate]; first | done | omega))) ?_
  have ha : Ag pSig σ ⟨x, l10, l15⟩ := g7.bind (g10.bind (g15.bind (Ag.pure _)))
  have hr : rstep pSig σ = rstep (pList pDig 5) (rstep (pList pDig 68) (rstep (pNum 1) (σ))) := by rw [pSig, rstep_bind g7, rstep_bind g10, rstep_bind g15, rstep_pure]
  rw [hr]
  intro w' hw
  refine ⟨([.int .i64 x, .slice a10 n10 c10, .slice a15 n15 c15], ⟨x, l10, l15⟩), rfl, St.pureI ⟨ha, by first | rfl | simp only [List.length_cons, List.length_append, List.length_nil, dc_length, len_L] , all_cons' rfl (all_cons' rfl (all_cons' rfl all_nil'))⟩ ?_⟩
  exact (hw.conv (M := [LsR (fun _ _ => RdDig) 16 a10 n10 l10, LsR (fun _ _ => RdDig) 16 a15 n15 l15]) (by repeat (first | exact Sel.nil | (apply Sel.cons; · (repeat (first | exact Pick.here | apply Pick.there))))) (fun _ _ => vl_sig k10 k15)).sel (by repeat (first | exact Sel.nil | (apply Sel.cons; · (repeat (first | exact Pick.here | apply Pick.there)))))

set_option maxHeartbeats 400000 in
theorem rsigned_ok {w : World} {F : Nat → Prop} {TE : Nat} {ea : Nat → Addr} {g : Nat} {σ : RSt} (h : stars [RdrR TE ea g σ] w F) {es : List Nat} [Has es 1] [Has es 2] (hE : GErr es w (fun k => ¬ F k) TE ea) :
    Calls Tryz.prog 203 #[.agg (List.toArray [.pointer (some ⟨g, 0, none⟩)])] w (Post w F (fun r : List Value × Signed => .agg r.1.toArray) (fun r => [pureR (Ag pSigned σ r.2 ∧ r.1.length = 4 ∧ ∀ v ∈ r.1, v.oneCell' = true), VlR RdSigned r.1 r.2, RdrR TE ea g (rstep pSigned σ)])) := by
  refine g_enter (env := [(0, .agg (List.toArray [.pointer (some ⟨g, 0, none⟩)]))]) Tryz.func203 rfl h Tryz.ntmps203 rfl rfl ?_
  refine gsr ?_
  refine zbN fun b1 => ?_
  refine zal fun b2 => ?_
  refine gnt ?_
  refine gsr ?_
  refine gp zfa ?_
  refine gp zl ?_
  refine zc (fun x => ?_) (c := fun w1 F1 F2 h1 h2 hd hst => rnum_ok (wd := 1) h1 (hE.mv hst.still) (by decide) (by decide))
  refine gl_pureR (fun hp6 => ?_)
  obtain ⟨g6, _⟩ := hp6
  refine gp zas ?_
  refine gnt ?_
  refine gsr ?_
  refine gp zmv ?_
  refine gp zL ?_
  refine zc ?_ (c := fun w1 F1 F2 h1 h2 hd hst => rsig_ok h1 (hE.mv hst.still))
  rintro ⟨q9, v9⟩
  refine gl_pureR (fun hp9 => ?_)
  obtain ⟨g9, z9, o9⟩ := hp9
  replace z9 : q9.length = _ := z9
  have i9 := Len.of z9
  have j9 := One.of (show ∀ v ∈ q9, v.oneCell' = true from o9)
  refine gp zbu ?_
  refine zsN ?_
  refine gnt ?_
  refine gc_ret ?_
  refine gx_retc rfl rfl (ld_aggS Ty.row_140 Ty.sz_140 (by repeat (first | exact Pick.here | apply Pick.there)) (by (simp only [List.drop_succ_cons, List.drop_zero, List.take_succ_cons, List.take_zero, List.cons_append, List.nil_append, List.append_assoc, drop_dc, drop_dc', take_dc, take_dc', drop_L, drop_L', take_L, take_L', len_L, Nat.reduceLeDiff, Nat.reduceSub, Nat.reduceAdd, Nat.le_refl, List.length_cons, List.length_append, List.length_nil, dc_length, List.drop_nil, List.take_nil, List.append_nil, List.length_map, List.length_replicate]; first | done | rfl)) (by first | rfl | (simp only [List.drop_succ_cons, List.drop_zero, List.take_succ_cons, List.take_zero, List.cons_append, List.nil_append, List.append_assoc, drop_dc, drop_dc', take_dc, take_dc', drop_L, drop_L', take_L, take_L', len_L, Nat.reduceLeDiff, Nat.reduceSub, Nat.reduceAdd, Nat.le_refl, List.length_cons, List.length_append, List.length_nil, dc_length, List.drop_nil, List.take_nil, List.append_nil, List.length_map, List.length_replicate]; first | done | omega))) ?_
  have ha : Ag pSigned σ ⟨x, v9⟩ := g6.bind (g9.bind (Ag.pure _))
  have hr : rstep pSigned σ = rstep pSig (rstep (pNum 1) (σ)) := by rw [pSigned, rstep_bind g6, rstep_bind g9, rstep_pure]
  rw [hr]
  intro w' hw
  refine ⟨(.int .i64 x :: q9, ⟨x, v9⟩), rfl, St.pureI ⟨ha, by first | rfl | simp only [List.length_cons, List.length_append, List.length_nil, dc_length, len_L] , all_cons' rfl o9⟩ ?_⟩
  exact (hw.conv (M := [VlR RdSig q9 v9]) (by repeat (first | exact Sel.nil | (apply Sel.cons; · (repeat (first | exact Pick.here | apply Pick.there))))) (fun _ _ => vl_signed)).sel (by repeat (first | exact Sel.nil | (apply Sel.cons; · (repeat (first | exact Pick.here | apply Pick.there)))))

set_option maxHeartbeats 400000 in
theorem rqc1_ok {w : World} {F : Nat → Prop} {TE : Nat} {ea : Nat → Addr} {g : Nat} {σ : RSt} (h : stars [RdrR TE ea g σ] w F) {es : List Nat} [Has es 1] [Has es 2] (hE : GErr es w (fun k => ¬ F k) TE ea) :
    Calls Tryz.prog 202 #[.pointer (some ⟨g, 0, none⟩)] w (Post w F (fun r : List Value × Signed => .agg r.1.toArray) (fun r => [pureR (Ag pSigned σ r.2 ∧ r.1.length = 4 ∧ ∀ v ∈ r.1, v.oneCell' = true), VlR RdSigned r.1 r.2, RdrR TE ea g (rstep pSigned σ)])) := by
  refine g_enter (env := [(0, .pointer (some ⟨g, 0, none⟩))]) Tryz.func202 rfl h Tryz.ntmps202 rfl rfl ?_
  refine gsr ?_
  refine zal fun b2 => ?_
  refine gnt ?_
  refine gsr ?_
  refine gp zmv ?_
  refine gp zbu ?_
  refine zc ?_ (c := fun w1 F1 F2 h1 h2 hd hst => rsigned_ok h1 (hE.mv hst.still))
  rintro ⟨q5, v5⟩
  refine gl_pureR (fun hp5 => ?_)
  obtain ⟨g5, z5, o5⟩ := hp5
  replace z5 : q5.length = _ := z5
  have i5 := Len.of z5
  have j5 := One.of (show ∀ v ∈ q5, v.oneCell' = true from o5)
  refine zsN ?_
  refine gnt ?_
  refine gc_ret ?_
  refine gx_retc rfl rfl (ld_aggS Ty.row_140 Ty.sz_140 (by repeat (first | exact Pick.here | apply Pick.there)) (by (simp only [List.drop_succ_cons, List.drop_zero, List.take_succ_cons, List.take_zero, List.cons_append, List.nil_append, List.append_assoc, drop_dc, drop_dc', take_dc, take_dc', drop_L, drop_L', take_L, take_L', len_L, Nat.reduceLeDiff, Nat.reduceSub, Nat.reduceAdd, Nat.le_refl, List.length_cons, List.length_append, List.length_nil, dc_length, List.drop_nil, List.take_nil, List.append_nil, List.length_map, List.length_replicate]; first | done | rfl)) (by first | rfl | (simp only [List.drop_succ_cons, List.drop_zero, List.take_succ_cons, List.take_zero, List.cons_append, List.nil_append, List.append_assoc, drop_dc, drop_dc', take_dc, take_dc', drop_L, drop_L', take_L, take_L', len_L, Nat.reduceLeDiff, Nat.reduceSub, Nat.reduceAdd, Nat.le_refl, List.length_cons, List.length_append, List.length_nil, dc_length, List.drop_nil, List.take_nil, List.append_nil, List.length_map, List.length_replicate]; first | done | omega))) ?_
  exact fun w' hw => ⟨(q5, v5), rfl, St.pureI ⟨g5, z5, o5⟩ (hw.sel (by repeat (first | exact Sel.nil | (apply Sel.cons; · (repeat (first | exact Pick.here | apply Pick.there))))))⟩

set_option maxHeartbeats 400000 in
theorem takeSigneds_ok {w : World} {F : Nat → Prop} {TE : Nat} {ea : Nat → Addr} {g : Nat} {σ : RSt} (h : stars [RdrR TE ea g σ] w F) {es : List Nat} [Has es 1] [Has es 2] (hE : GErr es w (fun k => ¬ F k) TE ea) {most : Nat} (hm : most ≤ 255) :
    Calls Tryz.prog 201 #[.pointer (some ⟨g, 0, none⟩), .int .i64 (most : Int), .func (.func 202) #[] #[]] w (Post w F (fun r : Option Addr × Nat × Nat × List Signed => .slice r.1 r.2.1 r.2.2.1) (fun r => [pureR (Ag (pList pSigned most) σ r.2.2.2 ∧ r.2.1 ≤ r.2.2.1 ∧ r.2.1 = r.2.2.2.length), LsR (RdSigned) 4 r.1 r.2.1 r.2.2.2, RdrR TE ea g (rstep (pList pSigned most) σ)])) := by
  refine g_enter (env := [(0, .pointer (some ⟨g, 0, none⟩)), (1, .int .i64 (most : Int)), (2, .func (.func 202) #[] #[])]) Tryz.func201 rfl h Tryz.ntmps201 rfl rfl ?_
  refine gsr ?_
  refine gp zas ?_
  refine gnt ?_
  refine gsr ?_
  refine gp zmv ?_
  refine zc (fun x => ?_) (c := fun w1 F1 F2 h1 h2 hd hst => rnum_ok (wd := 1) h1 (hE.mv hst.still) (by decide) (by decide))
  refine gl_pureR (fun hx => ?_)
  obtain ⟨hx, hxb⟩ := hx
  have hx256 : x < 256 := by simpa using hxb
  refine gp zas ?_
  refine gnt ?_
  refine gc_join (α := RSt) (fun σ2 => [pureR ((if errOf (rstep (pNum 1) σ) = 0 ∧ most < x then failE 1 (rstep (pNum 1) σ) else rstep (pNum 1) σ) = σ2), RdrR TE ea g σ2]) (fun σ2 => []) [12, 13, 14, 15, 16, 17, 18, 19, 20, 21, 22, 23, 24, 25, 26, 27] ?_ ?_
  · refine gc_join (α := Bool) (fun z => [pureR (z = (decide (errOf (rstep (pNum 1) σ) = 0) && decide (most < x))), RdrR TE ea g (rstep (pNum 1) σ)]) (fun z => [(22, .bool z)]) [12, 13, 14, 15, 16, 17, 18, 19, 20, 21] ?_ ?_
    · by_cases he : errOf (rstep (pNum 1) σ) = 0
      · refine gc_region ?_
        refine gp zmv ?_
        refine gp znc ?_
        refine gp zfa ?_
        refine gp zfa ?_
        refine gp r_lde ?_
        refine gp (r_bool (c := true) (r_eqnil rfl (by kernel_rfl)) (decide_eq_true he)) ?_
        refine gp zmv ?_
        refine gq zmv ?_
        refine gq zmv ?_
        refine gq (r_bool (b := decide ((most : Int) < (x : Int))) zgt rfl) ?_
        refine gp zpk ?_
        refine gl_nil ?_
        refine zjn (decide ((most : Int) < (x : Int))) ?_
        · exact zlp (by rw [decide_eq_true he, Bool.true_and]; exact decide_eq_decide.2 (by omega))
      · refine gc_region ?_
        refine gp zmv ?_
        refine gp znc ?_
        refine gp zfa ?_
        refine gp zfa ?_
        refine gp r_lde ?_
        refine gp (r_bool (c := false) (r_eqnil rfl (by kernel_rfl)) (decide_eq_false he)) ?_
        refine gp zmv ?_
        refine gn ?_
        refine gn ?_
        refine gn ?_
        refine gp zpk ?_
        refine gl_nil ?_
        refine zjn (false) ?_
        · exact zlp (by rw [decide_eq_false he]; rfl)
    · intro z u
      refine gc_pureR (fun hz => ?_)
      subst hz
      refine gif rfl (fun hc22 => ?_) (fun hc22 => ?_)
      · try simp only at hc22
        have hb : errOf (rstep (pNum 1) σ) = 0 ∧ most < x := by omega
        refine gc_regionT 4 (by kernel_rfl) (by kernel_rfl) ?_
        refine sp zmv ?_
        refine sp znc ?_
        refine sp zfa ?_
        refine sp (r_ld1o rfl Ty.row_38 (hE.c 1 Has.h) (hE.n 1 Has.h)) ?_
        refine gs_nil ?_
        refine zc (fun _ => ?_) (c := fun w1 F1 F2 h1 h2 hd hst => failR_ok (by decide) h1)
        refine gl_nil ?_
        refine zjn (failE 1 (rstep (pNum 1) σ)) ?_
        · exact zlp (if_pos hb)
      · try simp only at hc22
        have hb : ¬ (errOf (rstep (pNum 1) σ) = 0 ∧ most < x) := by omega
        refine gc_skip ?_
        refine zjn ((rstep (pNum 1) σ)) ?_
        · exact zlp (if_neg hb)
  · intro σ2 u
    refine gc_pureR (fun hc2 => ?_)
    refine gsr ?_
    refine gp zas ?_
    refine gnt ?_
    refine gc_seq ?_
    refine gsr ?_
    refine gp zas ?_
    refine gnt ?_
    refine gc_block ?_
    refine gc_loop (α := Nat × RSt × Option Addr × Nat × List (List Value) × List Signed) (fun y => [pureR (y.1 ≤ x ∧ Many pSigned x σ2 (x - y.1) y.2.1 y.2.2.2.2.2 ∧ (∀ c ∈ y.2.2.2.2.1, c.length = 4) ∧ y.2.2.2.2.2.length = y.1), rowR 140 4 y.2.2.1 y.1 y.2.2.2.1 y.2.2.2.2.1.flatten, ElR (RdSigned) y.2.2.2.2.1 y.2.2.2.2.2, RdrR TE ea g y.2.1]) (fun y => [(8, .slice y.2.2.1 y.1 y.2.2.2.1), (9, .int .i64 (y.1 : Int))]) [28, 29, 30, 31, 32, 33, 34, 35, 36, 37, 38, 39, 40, 41, 42, 43, 44, 45, 46] (fun y => x - y.1) (0, σ2, none, 0, [], []) ?_ ?_ ?_
    · refine env_start (by kernel_rfl)
    · exact fun w' hw => zlp ⟨Nat.zero_le _, Many.start, (by intro c hc; cases hc), rfl⟩ (by repeat (first | exact Sel.nil | (apply Sel.cons; · (repeat (first | exact Pick.here | apply Pick.there))))) w' (hw.mapL fun F' hF' => stars_row_nil (e := 140) (size := 4) (el_nil (rd := RdSigned) hF'))
    · intro y u
      obtain ⟨k, τ, a, c, css, l⟩ := y
      refine gc_pureR (fun hk => ?_)
      obtain ⟨hk, hmany, hcss, hll⟩ := hk
      replace hk : k ≤ x := hk
      replace hll : l.length = k := hll
      replace hcss : ∀ c ∈ css, c.length = 4 := hcss
      replace hmany : Many pSigned x σ2 (x - k) τ l := hmany
      refine gc_seq ?_
      refine gc_seq ?_
      by_cases hkx : k < x
      · refine gc_region ?_
        refine gp zmv ?_
        refine gp zmv ?_
        refine gp (r_bool (c := true) zlt (decide_eq_true (by omega))) ?_
        refine gp zmv ?_
        refine gq zmv ?_
        refine gq znc ?_
        refine gq zfa ?_
        refine gq zfa ?_
        refine gq r_lde ?_
        refine gq (r_eqnil rfl (by kernel_rfl)) ?_
        refine gp zpk ?_
        refine gnt ?_
        refine gif rfl (fun hc38 => ?_) (fun hc38 => ?_)
        · try simp only at hc38
          have he2 : errOf τ = 0 := hc38
          refine gc_skip ?_
          refine gx_then ?_
          refine gc_seq ?_
          refine gc_block ?_
          refine gc_region ?_
          refine gp zmv ?_
          refine gp zmv ?_
          refine gp zmv ?_
          refine gl_call (wt0 rfl) (e_callv (us := []) rfl Ty.call_202 rfl) (by repeat (first | exact Sel.nil | (apply Sel.cons; · (repeat (first | exact Pick.here | apply Pick.there))))) (fun w1 F1 F2 h1 h2 hd hst => rqc1_ok h1 (hE.mv hst.still)) ?_
          rintro ⟨cs, v⟩
          refine gl_pureR (fun h44 => ?_)
          obtain ⟨hag, hcl, hone⟩ := h44
          replace hcl : cs.length = _ := hcl
          have i1 := Len.of hcl
          have i2 := One.of (show ∀ v ∈ cs, v.oneCell' = true from hone)
          refine zeN fun b45 => ?_
          refine zapo (news := cs) (fun a46 c46 => ?_)
          refine gp zas ?_
          refine gl_nil ?_
          refine gx_block_normal ?_
          refine gx_then ?_
          refine gc_region ?_
          refine gp zmv ?_
          refine gp zad ?_
          refine gp zas ?_
          refine gl_nil ?_
          refine zrd ((k + 1, rstep pSigned τ, a46, c46, css ++ [cs], l ++ [v])) ?_ ?_
          · show x - (k + 1) < x - k
            omega
          · rintro w' hw
            have h1 := hw.conv (M := [ElR (RdSigned) css l, VlR (RdSigned) cs v]) (by repeat (first | exact Sel.nil | (apply Sel.cons; · (repeat (first | exact Pick.here | apply Pick.there))))) (fun _ _ => el_snoc)
            refine zlq (M' := [rowR 140 4 a46 (k + 1) c46 (css.flatten ++ cs), ElR (RdSigned) (css ++ [cs]) (l ++ [v]), RdrR TE ea g (rstep pSigned τ)]) ⟨?_, ?_, ?_, ?_⟩ (by simp) (by repeat (first | exact Sel.nil | (apply Sel.cons; · (repeat (first | exact Pick.here | apply Pick.there))))) w' h1
            · show k + 1 ≤ x; omega
            · rw [show x - k = x - (k + 1) + 1 by omega] at hmany; exact hmany.next hag
            · intro c' hc'; rcases List.mem_append.1 hc' with h | h; exact hcss c' h; rw [List.mem_singleton.1 h]; exact hcl
            · simp [hll]
        · try simp only at hc38
          have he2 : ¬ errOf τ = 0 := hc38
          refine gc_exit ?_
          refine gx_then_exit ?_
          refine gx_round_exit ?_
          refine gx_block_hit ?_
          refine gx_then ?_
          refine gc_seq ?_
          refine gsr ?_
          refine gp zmv ?_
          refine gp znc ?_
          refine gp zfa ?_
          refine gp zfa ?_
          refine gp r_lde ?_
          refine gp (r_nenil rfl (by kernel_rfl)) ?_
          refine gnt ?_
          refine gif rfl (fun hc52 => ?_) (fun hc52 => ?_)
          · try simp only at hc52
            have hbad := hmany.bad hc52
            have hfin := list_fin hx hc2 ⟨hbad.1, hbad.2 []⟩
            refine gsr ?_
            refine gp zas ?_
            refine gnt ?_
            refine gc_ret ?_
            refine gx_then_ret ?_
            refine gx_ret1 rfl (by conv => lhs; whnf) ?_
            rw [hfin.1]
            exact fun w' hw => ⟨(none, 0, 0, []), rfl, St.pureI ⟨hfin.2, Nat.le_refl _, rfl⟩ ((hw.sel (M := [RdrR TE ea g τ]) (by repeat (first | exact Sel.nil | (apply Sel.cons; · (repeat (first | exact Pick.here | apply Pick.there)))))).mapL fun F' hF' => ls_nil hF')⟩
          · try simp only at hc52
            have hm0 : x - k = 0 := by first | omega | exact absurd hc52 he2
            rw [hm0] at hmany
            have hfin := list_fin hx hc2 hmany.done
            refine gc_skip ?_
            refine gx_then ?_
            refine gsr ?_
            refine gp zmv ?_
            refine gp zas ?_
            refine gnt ?_
            refine gc_ret ?_
            refine gx_ret1 rfl (by conv => lhs; whnf) ?_
            rw [hfin.1]
            intro w' hw
            have hle := (hw.rowLe (e := 140) (size := 4) (a := a) (m := k) (c := c) (xs := css.flatten) (by repeat (first | exact Pick.here | apply Pick.there))).1
            exact ⟨(a, k, c, l), rfl, St.pureI ⟨hfin.2, hle, hll.symm⟩ ((hw.conv (M := [rowR 140 4 a k c css.flatten, ElR (RdSigned) css l]) (by repeat (first | exact Sel.nil | (apply Sel.cons; · (repeat (first | exact Pick.here | apply Pick.there))))) (fun _ _ => ls_of hcss)).sel (by repeat (first | exact Sel.nil | (apply Sel.cons; · (repeat (first | exact Pick.here | apply Pick.there))))))⟩
      · refine gc_region ?_
        refine gp zmv ?_
        refine gp zmv ?_
        refine gp (r_bool (c := false) zlt (decide_eq_false (by omega))) ?_
        refine gp zmv ?_
        refine gn ?_
        refine gn ?_
        refine gn ?_
        refine gn ?_
        refine gn ?_
        refine gn ?_
        refine gp zpk ?_
        refine gnt ?_
        refine gc_condF rfl rfl ?_
        refine gc_exit ?_
        refine gx_then_exit ?_
        refine gx_round_exit ?_
        refine gx_block_hit ?_
        refine gx_then ?_
        refine gc_seq ?_
        refine gsr ?_
        refine gp zmv ?_
        refine gp znc ?_
        refine gp zfa ?_
        refine gp zfa ?_
        refine gp r_lde ?_
        refine gp (r_nenil rfl (by kernel_rfl)) ?_
        refine gnt ?_
        refine gif rfl (fun hc52 => ?_) (fun hc52 => ?_)
        · try simp only at hc52
          have hbad := hmany.bad hc52
          have hfin := list_fin hx hc2 ⟨hbad.1, hbad.2 []⟩
          refine gsr ?_
          refine gp zas ?_
          refine gnt ?_
          refine gc_ret ?_
          refine gx_then_ret ?_
          refine gx_ret1 rfl (by conv => lhs; whnf) ?_
          rw [hfin.1]
          exact fun w' hw => ⟨(none, 0, 0, []), rfl, St.pureI ⟨hfin.2, Nat.le_refl _, rfl⟩ ((hw.sel (M := [RdrR TE ea g τ]) (by repeat (first | exact Sel.nil | (apply Sel.cons; · (repeat (first | exact Pick.here | apply Pick.there)))))).mapL fun F' hF' => ls_nil hF')⟩
        · try simp only at hc52
          have hm0 : x - k = 0 := by first | omega | exact absurd hc52 he2
          rw [hm0] at hmany
          have hfin := list_fin hx hc2 hmany.done
          refine gc_skip ?_
          refine gx_then ?_
          refine gsr ?_
          refine gp zmv ?_
          refine gp zas ?_
          refine gnt ?_
          refine gc_ret ?_
          refine gx_ret1 rfl (by conv => lhs; whnf) ?_
          rw [hfin.1]
          intro w' hw
          have hle := (hw.rowLe (e := 140) (size := 4) (a := a) (m := k) (c := c) (xs := css.flatten) (by repeat (first | exact Pick.here | apply Pick.there))).1
          exact ⟨(a, k, c, l), rfl, St.pureI ⟨hfin.2, hle, hll.symm⟩ ((hw.conv (M := [rowR 140 4 a k c css.flatten, ElR (RdSigned) css l]) (by repeat (first | exact Sel.nil | (apply Sel.cons; · (repeat (first | exact Pick.here | apply Pick.there))))) (fun _ _ => ls_of hcss)).sel (by repeat (first | exact Sel.nil | (apply Sel.cons; · (repeat (first | exact Pick.here | apply Pick.there))))))⟩

set_option maxHeartbeats 400000 in
theorem rqc_ok {w : World} {F : Nat → Prop} {TE : Nat} {ea : Nat → Addr} {g : Nat} {σ : RSt} (h : stars [RdrR TE ea g σ] w F) {es : List Nat} [Has es 1] [Has es 2] (hE : GErr es w (fun k => ¬ F k) TE ea) :
    Calls Tryz.prog 180 #[.agg (List.toArray [.pointer (some ⟨g, 0, none⟩)])] w (Post w F (fun r : List Value × QC => .agg r.1.toArray) (fun r => [pureR (Ag pQC σ r.2 ∧ r.1.length = 19 ∧ ∀ v ∈ r.1, v.oneCell' = true), VlR RdQC r.1 r.2, RdrR TE ea g (rstep pQC σ)])) := by
  refine g_enter (env := [(0, .agg (List.toArray [.pointer (some ⟨g, 0, none⟩)]))]) Tryz.func180 rfl h Tryz.ntmps180 rfl rfl ?_
  refine gsr ?_
  refine zbN fun b1 => ?_
  refine zal fun b2 => ?_
  refine gnt ?_
  refine gsr ?_
  refine gp zL ?_
  refine zc ?_ (c := fun w1 F1 F2 h1 h2 hd hst => rat_ok h1 (hE.mv hst.still))
  rintro ⟨x5, y5⟩
  refine gl_pureR (fun g5 => ?_)
  replace g5 : Ag pAt _ ((x5 : Int), (y5 : Int)) := g5
  refine gp zmv ?_
  refine gp zex ?_
  refine gp zex ?_
  refine gp zfa ?_
  refine zs1 ?_
  refine gp zfa ?_
  refine zs1 ?_
  refine gnt ?_
  refine gsr ?_
  refine gp zL ?_
  refine zc (fun d11 => ?_) (c := fun w1 F1 F2 h1 h2 hd hst => rdigest_ok h1 (hE.mv hst.still))
  refine gl_pureR (fun g11 => ?_)
  refine gp zfa ?_
  refine zsN ?_
  refine gnt ?_
  refine gsr ?_
  refine gp zfa ?_
  refine gp zl ?_
  refine zc ?_ (c := fun w1 F1 F2 h1 h2 hd hst => takeSigneds_ok (most := 7) h1 (hE.mv hst.still) (by decide))
  rintro ⟨a15, n15, c15, l15⟩
  refine gl_pureR (fun hp15 => ?_)
  obtain ⟨g15, k15, e15⟩ := hp15
  replace g15 : Ag (pList pSigned 7) _ l15 := g15
  replace k15 : n15 ≤ c15 := k15
  refine gp zfa ?_
  refine zs1 ?_
  refine gnt ?_
  refine gsr ?_
  refine gp zL ?_
  refine zsN ?_
  refine gnt ?_
  refine gc_ret ?_
  refine gx_retc rfl rfl (ld_aggS Ty.row_26 Ty.sz_26 (by repeat (first | exact Pick.here | apply Pick.there)) (by (simp only [List.drop_succ_cons, List.drop_zero, List.take_succ_cons, List.take_zero, List.cons_append, List.nil_append, List.append_assoc, drop_dc, drop_dc', take_dc, take_dc', drop_L, drop_L', take_L, take_L', len_L, Nat.reduceLeDiff, Nat.reduceSub, Nat.reduceAdd, Nat.le_refl, List.length_cons, List.length_append, List.length_nil, dc_length, List.drop_nil, List.take_nil, List.append_nil, List.length_map, List.length_replicate]; first | done | rfl)) (by first | rfl | (simp only [List.drop_succ_cons, List.drop_zero, List.take_succ_cons, List.take_zero, List.cons_append, List.nil_append, List.append_assoc, drop_dc, drop_dc', take_dc, take_dc', drop_L, drop_L', take_L, take_L', len_L, Nat.reduceLeDiff, Nat.reduceSub, Nat.reduceAdd, Nat.le_refl, List.length_cons, List.length_append, List.length_nil, dc_length, List.drop_nil, List.take_nil, List.append_nil, List.length_map, List.length_replicate]; first | done | omega))) ?_
  have ha : Ag pQC σ ⟨x5, y5, d11, l15⟩ := g5.bind (g11.bind (g15.bind (Ag.pure _)))
  have hr : rstep pQC σ = rstep (pList pSigned 7) (rstep pDig (rstep pAt (σ))) := by rw [pQC, rstep_bind g5, rstep_bind g11, rstep_bind g15, rstep_pure]
  rw [hr]
  intro w' hw
  refine ⟨(.int .i64 x5 :: .int .i64 y5 :: (dc d11 ++ [.slice a15 n15 c15]), ⟨x5, y5, d11, l15⟩), rfl, St.pureI ⟨ha, by first | rfl | simp only [List.length_cons, List.length_append, List.length_nil, dc_length, len_L] , all_cons' rfl (all_cons' rfl (all_app' (dc_one _) (all_cons' rfl all_nil')))⟩ ?_⟩
  exact (hw.conv (M := [LsR RdSigned 4 a15 n15 l15]) (by repeat (first | exact Sel.nil | (apply Sel.cons; · (repeat (first | exact Pick.here | apply Pick.there))))) (fun _ _ => vl_qc k15)).sel (by repeat (first | exact Sel.nil | (apply Sel.cons; · (repeat (first | exact Pick.here | apply Pick.there)))))

end Go.Proofs.YtobjojeliibinaaGreatDoor

