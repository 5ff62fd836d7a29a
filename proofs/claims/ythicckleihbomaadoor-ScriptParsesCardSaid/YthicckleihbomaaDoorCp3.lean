/- Part 3. What is proved: see the last part: for every input the law returns true, and the input reads as it did. -/
import Derived.Test.YthicckleihbomaaDoorCp2
/- Walks, by program (wg.py) out of a spec. -/
namespace Go.Proofs.YthicckleihbomaaDoor
open Go
set_option linter.unusedVariables false
set_option linter.unusedSimpArgs false


def emptyF (o : OpS) (c : UInt8) : Prop := (c = 104 → o.data = []) ∧ (c = 112 → o.set = []) ∧ (c = 98 → o.keep = [])
theorem set_dash {o : OpS} {c : UInt8} (hg : Good c) (h1 : ¬ (c.toNat : Int) = 110) (h2 : ¬ (c.toNat : Int) = 105) (he : emptyF o c) : setP o c [45] = some o := by
  obtain ⟨k, nd, n, st, kp, dt⟩ := o
  rcases hg with rfl | rfl | rfl | rfl | rfl
  · exact absurd rfl h1
  · exact absurd rfl h2
  · have := he.1 rfl; simp only at this; subst this; rfl
  · have := he.2.1 rfl; simp only at this; subst this; rfl
  · have := he.2.2 rfl; simp only at this; subst this; rfl
theorem set_nil {o : OpS} {c : UInt8} (hg : Good c) : setP o c [] = none := by
  rcases hg with rfl | rfl | rfl | rfl | rfl <;> rfl
theorem empty_step {o o' : OpS} {c d : UInt8} {s : Bs} (h : setP o c s = some o') (hd : Good d) (hn : d ≠ c) (he : emptyF o d) : emptyF o' d := by
  obtain ⟨hc, e⟩ := set_part h
  rw [e]
  rcases hc with rfl | rfl | rfl | rfl | rfl <;> rcases hd with rfl | rfl | rfl | rfl | rfl <;> first | exact absurd rfl hn | exact he | (refine ⟨fun h => ?_, fun h => ?_, fun h => ?_⟩ <;> first | exact he.1 h | exact he.2.1 h | exact he.2.2 h | exact absurd h (by decide))
theorem good_no {c : UInt8} (hg : Good c) (h1 : ¬ (c.toNat : Int) = 110) (h2 : ¬ (c.toNat : Int) = 105) (h3 : ¬ (c.toNat : Int) = 104) (h4 : ¬ (c.toNat : Int) = 112) (h5 : ¬ (c.toNat : Int) = 98) : False := by
  rcases hg with rfl | rfl | rfl | rfl | rfl
  · exact h1 rfl
  · exact h2 rfl
  · exact h3 rfl
  · exact h4 rfl
  · exact h5 rfl
theorem rnI_ge (s : Bs) : decide (0 ≤ rnI s) = (numP s).isSome := by
  cases e : numP s with
  | none => rw [rnI_none e]; rfl
  | some n => rw [rnI_some e]; exact decide_eq_true (by omega)

attribute [local irreducible] Gl Gc Gx Gs Runs Wt

set_option maxHeartbeats 1000000 in
set_option maxRecDepth 20000 in
theorem rpart_ok {w : World} {F : Nat → Prop} {p : PO} {b : Nat} {c : UInt8} {s : List UInt8} (h : stars [blk b 44 (poC p), rowR 3 1 p.sa p.o.set.length p.cs (p.o.set.map (Value.int .i64)), rowR 4 1 p.ak p.o.keep.length p.ck (p.o.keep.map Value.bool), rowR 5 1 p.ad p.o.data.length p.cd (p.o.data.map B8)] w F) (hs : s.length ≤ 65535) (hg : Good c) (he : emptyF p.o c) :
    Calls Tryd.prog 22 #[.pointer (some ⟨b, 0, none⟩), .int .u8 c.toNat, .string (str s)] w (Post w F (fun x : PO => .bool (setP p.o c s).isSome) (fun x => [pureR (∀ o', setP p.o c s = some o' → x.o = o'), blk b 44 (poC x), rowR 3 1 x.sa x.o.set.length x.cs (x.o.set.map (Value.int .i64)), rowR 4 1 x.ak x.o.keep.length x.ck (x.o.keep.map Value.bool), rowR 5 1 x.ad x.o.data.length x.cd (x.o.data.map B8)])) := by
  refine g_enter (env := [(0, .pointer (some ⟨b, 0, none⟩)), (1, .int .u8 c.toNat), (2, .string (str s))]) Tryd.func22 rfl h Tryd.ntmps22 rfl rfl ?_
  refine gsr ?_
  refine gp zas ?_
  refine gnt ?_
  refine gc_seq ?_
  refine gsr ?_
  refine gp zmv ?_
  refine gnt ?_
  refine gc_block ?_
  refine gsr ?_
  refine gp zei ?_
  refine gp zas ?_
  refine gnt ?_
  refine gif rfl (fun hc16 => ?_) (fun hc16 => ?_)
  · try simp only at hc16
    obtain rfl := u8c (n := 110) hc16 (by decide)
    refine gsr ?_
    refine gp zmv ?_
    refine gp zmv ?_
    refine zc (fun _ => ?_) (c := fun w1 F1 F2 h1 h2 hd hst => rnumber_ok (s := s) h1 hs)
    refine gp znc ?_
    refine gp zfa ?_
    refine zs1 ?_
    refine gnt ?_
    refine gsr ?_
    refine gp zmv ?_
    refine gp znc ?_
    refine gp zfa ?_
    refine gp zl ?_
    refine gp (r_bool (c := (numP s).isSome) zge (rnI_ge s)) ?_
    refine gp zas ?_
    refine gnt ?_
    refine gc_ret ?_
    refine gx_block_ret ?_
    refine gx_then_ret ?_
    refine gx_ret1 rfl (by conv => lhs; whnf) ?_
    exact fun w' hw => ⟨({ p with o := { p.o with n := rnI s } }), by rw [show setP p.o (UInt8.ofNat 110) s = _ from set_n, Option.isSome_map], St.pureI (fun o' ho => by rw [show setP p.o (UInt8.ofNat 110) s = _ from set_n] at ho; obtain ⟨v, hv, rfl⟩ := Option.map_eq_some_iff.1 ho; rw [rnI_some hv]) (hw.sel (by repeat (first | exact Sel.nil | (apply Sel.cons; · (repeat (first | exact Pick.here | apply Pick.there))))))⟩
  · refine gsr ?_
    refine gp zei ?_
    refine gp zas ?_
    refine gnt ?_
    refine gif rfl (fun hc28 => ?_) (fun hc28 => ?_)
    · try simp only at hc28
      obtain rfl := u8c (n := 105) hc28 (by decide)
      refine gsr ?_
      refine gp zmv ?_
      refine gp zmv ?_
      refine zc (fun _ => ?_) (c := fun w1 F1 F2 h1 h2 hd hst => rnumber_ok (s := s) h1 hs)
      refine gp znc ?_
      refine gp zfa ?_
      refine zs1 ?_
      refine gnt ?_
      refine gsr ?_
      refine gp zmv ?_
      refine gp znc ?_
      refine gp zfa ?_
      refine gp zl ?_
      refine gp (r_bool (c := (numP s).isSome) zge (rnI_ge s)) ?_
      refine gp zas ?_
      refine gnt ?_
      refine gc_ret ?_
      refine gx_block_ret ?_
      refine gx_then_ret ?_
      refine gx_ret1 rfl (by conv => lhs; whnf) ?_
      exact fun w' hw => ⟨({ p with o := { p.o with node := rnI s } }), by rw [show setP p.o (UInt8.ofNat 105) s = _ from set_i, Option.isSome_map], St.pureI (fun o' ho => by rw [show setP p.o (UInt8.ofNat 105) s = _ from set_i] at ho; obtain ⟨v, hv, rfl⟩ := Option.map_eq_some_iff.1 ho; rw [rnI_some hv]) (hw.sel (by repeat (first | exact Sel.nil | (apply Sel.cons; · (repeat (first | exact Pick.here | apply Pick.there))))))⟩
    · refine gc_skip ?_
      refine gx_block_normal ?_
      refine gx_then ?_
      refine gc_seq ?_
      refine gsr ?_
      refine gp zmv ?_
      refine gp zes ?_
      refine gnt ?_
      refine gif rfl (fun hc41 => ?_) (fun hc41 => ?_)
      · try simp only at hc41
        have g0 : s = [45] := by simpa using hc41
        refine gsr ?_
        refine gp zas ?_
        refine gnt ?_
        refine gc_ret ?_
        refine gx_then_ret ?_
        refine gx_ret1 rfl (by conv => lhs; whnf) ?_
        have hz : setP p.o c s = some p.o := by rw [g0]; exact set_dash hg hc16 hc28 he
        exact fun w' hw => ⟨p, by rw [hz]; rfl, St.pureI (fun o' ho => by rw [hz] at ho; injection ho) (hw.sel (by repeat (first | exact Sel.nil | (apply Sel.cons; · (repeat (first | exact Pick.here | apply Pick.there))))))⟩
      · try simp only at hc41
        have g0 : ¬ s = [45] := by simpa using hc41
        refine gc_skip ?_
        refine gx_then ?_
        refine gc_seq ?_
        refine gsr ?_
        refine gp zmv ?_
        refine gp zes ?_
        refine gnt ?_
        refine gif rfl (fun hc43 => ?_) (fun hc43 => ?_)
        · try simp only at hc43
          have g1 : s = [] := by simpa using hc43
          refine gsr ?_
          refine gp zas ?_
          refine gnt ?_
          refine gc_ret ?_
          refine gx_then_ret ?_
          refine gx_ret1 rfl (by conv => lhs; whnf) ?_
          have hz : setP p.o c s = none := by rw [g1]; exact set_nil hg
          exact fun w' hw => ⟨p, by rw [hz]; rfl, St.pureI (fun o' ho => by rw [hz] at ho; cases ho) (hw.sel (by repeat (first | exact Sel.nil | (apply Sel.cons; · (repeat (first | exact Pick.here | apply Pick.there))))))⟩
        · try simp only at hc43
          have g1 : ¬ s = [] := by simpa using hc43
          refine gc_skip ?_
          refine gx_then ?_
          refine gc_seq ?_
          refine gsr ?_
          refine gp zmv ?_
          refine gnt ?_
          refine gc_block ?_
          refine gsr ?_
          refine gp zei ?_
          refine gp zas ?_
          refine gnt ?_
          refine gif rfl (fun hc45 => ?_) (fun hc45 => ?_)
          · try simp only at hc45
            obtain rfl : c = 104 := u8c (n := 104) hc45 (by decide)
            have hemp : p.o.data = [] := he.1 rfl
            refine gc_seq ?_
            refine gsr ?_
            refine gp zmv ?_
            refine gp zlS ?_
            refine gp (r_int (j := ((s.length % 2 : Nat) : Int)) zrm (by rw [Int.tmod_eq_emod_of_nonneg (by omega)]; omega)) ?_
            refine gp zei ?_
            refine gnt ?_
            refine gif rfl (fun hc50 => ?_) (fun hc50 => ?_)
            · refine gsr ?_
              refine gp zas ?_
              refine gnt ?_
              refine gc_ret ?_
              refine gx_then_ret ?_
              refine gx_block_ret ?_
              refine gx_then_ret ?_
              refine gx_ret1 rfl (by conv => lhs; whnf) ?_
              have hz : setP p.o 104 s = none := by rw [set_h, hexP_go g0, if_neg g1, hex_odd (by omega)]; rfl
              exact fun w' hw => ⟨p, by rw [hz]; rfl, St.pureI (fun o' ho => by rw [hz] at ho; cases ho) (hw.sel (by repeat (first | exact Sel.nil | (apply Sel.cons; · (repeat (first | exact Pick.here | apply Pick.there))))))⟩
            · try simp only at hc50
              obtain ⟨mm, hm⟩ : ∃ m, s.length = 2 * m := ⟨s.length / 2, by omega⟩
              refine gc_skip ?_
              refine gx_then ?_
              refine gsr ?_
              refine gp zas ?_
              refine gnt ?_
              refine gc_block ?_
              refine gc_loop (α := Nat × (Option Addr × Nat) × List UInt8) (fun y => [pureR (y.1 ≤ mm ∧ hexL (s.take (2 * y.1)) = some y.2.2), blk b 44 [.int .i64 p.o.kind, .int .i64 p.o.node, .int .i64 p.o.n, .slice p.sa p.o.set.length p.cs, .slice p.ak p.o.keep.length p.ck, .slice y.2.1.1 y.1 y.2.1.2], rowR 3 1 p.sa p.o.set.length p.cs (p.o.set.map (Value.int .i64)), rowR 4 1 p.ak p.o.keep.length p.ck (p.o.keep.map Value.bool), rowR 5 1 y.2.1.1 y.1 y.2.1.2 (y.2.2.map B8)]) (fun y => [(7, .int .i64 ((2 * y.1 : Nat) : Int))]) [6, 8, 9, 51, 52, 53, 54, 55, 56, 57, 58, 59, 60, 61, 62, 63, 64, 65, 66, 67, 68, 69, 70, 71, 72, 73, 74, 75, 76, 77, 78, 79, 80, 81, 82, 83, 84, 85] (fun y => mm - y.1) (0, (p.ad, p.cd), []) ?_ ?_ ?_
              · refine env_start (by kernel_rfl)
              · simp only [poC, hemp, List.length_nil, List.map_nil]
                exact zlp ⟨Nat.zero_le _, rfl⟩
              · intro y u
                obtain ⟨i, ⟨a, cc⟩, l⟩ := y
                refine gc_pureR (fun hq => ?_)
                obtain ⟨hi, hl⟩ := hq
                replace hi : i ≤ mm := hi
                replace hl : hexL (s.take (2 * i)) = some l := hl
                have hll : List.length l = i := by have := (hexT_L hl).2; rw [List.length_take] at this; omega
                refine gc_seq ?_
                refine gsr ?_
                refine gp zmv ?_
                refine gp zmv ?_
                refine gp zlS ?_
                refine gp zlt ?_
                refine gnt ?_
                refine gif rfl (fun hc54 => ?_) (fun hc54 => ?_)
                · try simp only at hc54
                  have hi' : i < mm := by omega
                  obtain ⟨ca, cb, r, hsp, hga, hgb, htk⟩ := drop_two (s := s) (i := i) (by omega)
                  have hdA := dgI_lt ca
                  have hdB := dgI_lt cb
                  refine gc_skip ?_
                  refine gx_then ?_
                  refine gc_seq ?_
                  refine gc_block ?_
                  refine gc_seq ?_
                  refine gc_regionZ 10 [] ?_
                  refine yps 0 rfl zmv ?_
                  refine yps 1 rfl zmv ?_
                  refine yps 2 rfl (r_ixs (b := s) (j := 2 * i) (c := ca) hga) ?_
                  refine yps 4 rfl zmv ?_
                  refine yps 5 rfl zmv ?_
                  refine yps 6 rfl (r_int (j := ((2 * i + 1 : Nat) : Int)) (zad (i := ((2 * i : Nat) : Int)) (j := 1) (h := wrap_i64 (by omega) (by omega))) (by omega)) ?_
                  refine yps 7 rfl (r_ixs (b := s) (j := 2 * i + 1) (c := cb) hgb) ?_
                  refine yos 3 rfl ?_
                  refine zc (fun _ => ?_) (c := fun w1 F1 F2 h1 h2 hd hst => rdigit_ok (c := ca) h1)
                  refine yxs ?_
                  refine yos 8 rfl ?_
                  refine zc (fun _ => ?_) (c := fun w1 F1 F2 h1 h2 hd hst => rdigit_ok (c := cb) h1)
                  refine yxs ?_
                  refine yps 9 rfl zas ?_
                  refine yzs rfl ?_
                  refine gp zas ?_
                  refine gnt ?_
                  refine gc_seq ?_
                  refine gc_seq ?_
                  by_cases g4 : dgI ca < 0
                  · refine gc_region ?_
                    refine gp zmv ?_
                    refine gp (r_bool (c := true) zlt (decide_eq_true g4)) ?_
                    refine gp zmv ?_
                    refine gn ?_
                    refine gn ?_
                    refine gp zpk ?_
                    refine gnt ?_
                    refine gc_condT rfl rfl ?_
                    refine gsr ?_
                    refine gp zas ?_
                    refine gnt ?_
                    refine gc_ret ?_
                    refine gx_then_ret ?_
                    refine gx_block_ret ?_
                    refine gx_then_ret ?_
                    refine gx_round_ret ?_
                    refine gx_block_ret ?_
                    refine gx_block_ret ?_
                    refine gx_then_ret ?_
                    refine gx_ret1 rfl (by conv => lhs; whnf) ?_
                    have hz : setP p.o 104 s = none := by rw [set_h, hexP_go g0, if_neg g1, hsp, hex_bad hl (by omega)]; rfl
                    exact fun w' hw => ⟨({ p with o := { p.o with data := l }, ad := a, cd := cc }), by rw [hz]; rfl, St.pureI (fun o' ho => by rw [hz] at ho; cases ho) (by simp only [poC, hll]; exact hw.sel (by repeat (first | exact Sel.nil | (apply Sel.cons; · (repeat (first | exact Pick.here | apply Pick.there))))))⟩
                  · by_cases g5 : dgI cb < 0
                    · refine gc_region ?_
                      refine gp zmv ?_
                      refine gp (r_bool (c := false) zlt (decide_eq_false g4)) ?_
                      refine gp zmv ?_
                      refine gq zmv ?_
                      refine gq (r_bool (c := true) zlt (decide_eq_true g5)) ?_
                      refine gp zpk ?_
                      refine gnt ?_
                      refine gc_condT rfl rfl ?_
                      refine gsr ?_
                      refine gp zas ?_
                      refine gnt ?_
                      refine gc_ret ?_
                      refine gx_then_ret ?_
                      refine gx_block_ret ?_
                      refine gx_then_ret ?_
                      refine gx_round_ret ?_
                      refine gx_block_ret ?_
                      refine gx_block_ret ?_
                      refine gx_then_ret ?_
                      refine gx_ret1 rfl (by conv => lhs; whnf) ?_
                      have hz : setP p.o 104 s = none := by rw [set_h, hexP_go g0, if_neg g1, hsp, hex_bad hl (by omega)]; rfl
                      exact fun w' hw => ⟨({ p with o := { p.o with data := l }, ad := a, cd := cc }), by rw [hz]; rfl, St.pureI (fun o' ho => by rw [hz] at ho; cases ho) (by simp only [poC, hll]; exact hw.sel (by repeat (first | exact Sel.nil | (apply Sel.cons; · (repeat (first | exact Pick.here | apply Pick.there))))))⟩
                    · refine gc_region ?_
                      refine gp zmv ?_
                      refine gp (r_bool (c := false) zlt (decide_eq_false g4)) ?_
                      refine gp zmv ?_
                      refine gq zmv ?_
                      refine gq (r_bool (c := false) zlt (decide_eq_false g5)) ?_
                      refine gp zpk ?_
                      refine gnt ?_
                      refine gc_condF rfl rfl ?_
                      refine gc_skip ?_
                      refine gx_then ?_
                      refine gc_region ?_
                      refine gp zmv ?_
                      refine gp zmv ?_
                      refine gp znc ?_
                      refine gp zfa ?_
                      refine gp zl ?_
                      refine gp zmv ?_
                      refine gp zml ?_
                      refine gp zmv ?_
                      refine gp zad ?_
                      refine gp (r_val (v' := B8 (UInt8.ofNat (16 * dgI ca + dgI cb).toNat)) zci (u8_of (by omega) (by omega))) ?_
                      refine ze1 fun b82 => ?_
                      refine zapo (m := i) (j := 1) (fun a83 c83 => ?_)
                      refine gp znc ?_
                      refine gp zfa ?_
                      refine zs1 ?_
                      refine gl_nil ?_
                      refine gx_block_normal ?_
                      refine gx_then ?_
                      refine gc_region ?_
                      refine gp zmv ?_
                      refine gp (r_int (j := ((2 * (i + 1) : Nat) : Int)) (zad (i := ((2 * i : Nat) : Int)) (j := 2) (h := wrap_i64 (by omega) (by omega))) (by omega)) ?_
                      refine gp zas ?_
                      refine gl_nil ?_
                      refine zrd ((i + 1, (a83, c83), l ++ [UInt8.ofNat (16 * dgI ca + dgI cb).toNat])) ?_ ?_
                      · show mm - (i + 1) < mm - i
                        omega
                      · have hl2 := hex_two hl g4 g5
                        rw [← htk] at hl2
                        simp only [List.length_append, List.map_append, List.length_singleton, List.map_cons, List.map_nil]
                        exact zlp (show i + 1 ≤ mm ∧ hexL (s.take (2 * (i + 1))) = some (l ++ [UInt8.ofNat (16 * dgI ca + dgI cb).toNat]) from ⟨by omega, hl2⟩)
                · try simp only at hc54
                  have hi' : i = mm := by omega
                  subst hi'
                  have hts : s.take (2 * i) = s := List.take_of_length_le (by omega)
                  rw [hts] at hl
                  refine gc_exit ?_
                  refine gx_then_exit ?_
                  refine gx_round_exit ?_
                  refine gx_block_hit ?_
                  refine gx_block_normal ?_
                  refine gx_then ?_
                  refine gsr ?_
                  refine gp zas ?_
                  refine gnt ?_
                  refine gc_ret ?_
                  refine gx_ret1 rfl (by conv => lhs; whnf) ?_
                  have hz : setP p.o 104 s = some { p.o with data := l } := by rw [set_h, hexP_go g0, if_neg g1, hl]; rfl
                  exact fun w' hw => ⟨({ p with o := { p.o with data := l }, ad := a, cd := cc }), by rw [hz]; rfl, St.pureI (fun o' ho => by rw [hz] at ho; injection ho) (by simp only [poC, hll]; exact hw.sel (by repeat (first | exact Sel.nil | (apply Sel.cons; · (repeat (first | exact Pick.here | apply Pick.there))))))⟩
          · refine gsr ?_
            refine gp zei ?_
            refine gp zas ?_
            refine gnt ?_
            refine gif rfl (fun hc86 => ?_) (fun hc86 => ?_)
            · try simp only at hc86
              obtain rfl : c = 112 := u8c (n := 112) hc86 (by decide)
              have hemp : p.o.set = [] := he.2.1 rfl
              refine gsr ?_
              refine gp zmv ?_
              refine zc ?_ (c := fun w1 F1 F2 h1 h2 hd hst => rsplit_ok (s := s) (c := 44) h1 hs)
              rintro ⟨a89, c89⟩
              have hcc := cut_count 44 s
              refine gp zas ?_
              refine gnt ?_
              refine gc_seq ?_
              refine gsr ?_
              refine gp zmv ?_
              refine gp zln ?_
              refine gp zmv ?_
              refine gnt ?_
              refine gc_block ?_
              refine gc_loop (α := Nat × (Option Addr × Nat) × List Nat) (fun y => [pureR (y.1 ≤ (cutB 44 s).length ∧ allL numP ((cutB 44 s).take y.1) = some y.2.2), blk b 44 [.int .i64 p.o.kind, .int .i64 p.o.node, .int .i64 p.o.n, .slice y.2.1.1 y.1 y.2.1.2, .slice p.ak p.o.keep.length p.ck, .slice p.ad p.o.data.length p.cd], rowR 3 1 y.2.1.1 y.1 y.2.1.2 ((y.2.2).map fun n : Nat => Value.int .i64 (n : Int)), rowR 4 1 p.ak p.o.keep.length p.ck (p.o.keep.map Value.bool), rowR 5 1 p.ad p.o.data.length p.cd (p.o.data.map B8), rowR 9 1 a89 (cutB 44 s).length c89 ((cutB 44 s).map (fun p : List UInt8 => Value.string (str p)))]) (fun y => [(92, .int .i64 (y.1 : Int))]) [6, 12, 13, 93, 94, 95, 96, 97, 98, 99, 100, 101, 102, 103, 104, 105, 106, 107, 108, 109, 110] (fun y => (cutB 44 s).length - y.1) (0, (p.sa, p.cs), []) ?_ ?_ ?_
              · refine env_start (by kernel_rfl)
              · simp only [poC, hemp, List.length_nil, List.map_nil]
                exact zlp ⟨Nat.zero_le _, rfl⟩
              · intro y u
                obtain ⟨k, ⟨a, cc⟩, l⟩ := y
                refine gc_pureR (fun hq => ?_)
                obtain ⟨hk, hl⟩ := hq
                replace hk : k ≤ (cutB 44 s).length := hk
                replace hl : allL numP ((cutB 44 s).take k) = some l := hl
                have hll : l.length = k := by have := allL_len hl; rw [List.length_take] at this; omega
                refine gsr ?_
                refine gp zlt ?_
                refine gnt ?_
                refine gc_seq ?_
                refine gif rfl (fun hc93 => ?_) (fun hc93 => ?_)
                · try simp only at hc93
                  have hk' : k < (cutB 44 s).length := by omega
                  obtain ⟨x, r2, _, hg2, _, hmem, htk⟩ := drop_at hk'
                  have hxl := pieces_len hmem
                  refine gc_fact (fun w' hw => St.rowAt (hw.sel (M := [rowR 9 1 a89 (cutB 44 s).length c89 ((cutB 44 s).map (fun p : List UInt8 => Value.string (str p)))]) (by repeat (first | exact Sel.nil | (apply Sel.cons; · (repeat (first | exact Pick.here | apply Pick.there)))))) .here (by omega)) (fun hra => ?_)
                  obtain ⟨_, ga, oa, ha⟩ := hra
                  subst ha
                  refine gc_skip ?_
                  refine gx_then ?_
                  refine gc_seq ?_
                  refine gc_block ?_
                  refine gsr ?_
                  refine gp (r_val (v' := .pointer (some ⟨ga, oa + k, none⟩)) zia (by simp)) ?_
                  refine gp (r_ld1r (v := .string (str x)) rfl Ty.row_9 (by repeat (first | exact Pick.here | apply Pick.there)) (by rw [List.getElem?_map, hg2]; rfl)) ?_
                  refine gp zas ?_
                  refine gnt ?_
                  refine gsr ?_
                  refine gp zmv ?_
                  refine zc (fun _ => ?_) (c := fun w1 F1 F2 h1 h2 hd hst => rnumber_ok (s := x) h1 (by omega))
                  refine gp zas ?_
                  refine gnt ?_
                  refine gc_seq ?_
                  refine gc_seq ?_
                  by_cases g6 : (numP x).isSome = true
                  · obtain ⟨v, hnp⟩ := Option.isSome_iff_exists.1 g6
                    refine gc_region ?_
                    refine gp zmv ?_
                    refine gp (r_bool (c := false) zlt (by rw [rnI_some hnp]; exact decide_eq_false (by omega))) ?_
                    refine gnt ?_
                    refine gc_condF rfl rfl ?_
                    refine gc_skip ?_
                    refine gx_then ?_
                    refine gc_region ?_
                    refine gp zmv ?_
                    refine gp zmv ?_
                    refine gp znc ?_
                    refine gp zfa ?_
                    refine gp zl ?_
                    refine gp (r_int (j := ((v : Nat) : Int)) zmv (rnI_some hnp)) ?_
                    refine ze1 fun b106 => ?_
                    refine zapo (m := k) (j := 1) (fun a107 c107 => ?_)
                    refine gp znc ?_
                    refine gp zfa ?_
                    refine zs1 ?_
                    refine gl_nil ?_
                    refine gx_block_normal ?_
                    refine gx_then ?_
                    refine gc_region ?_
                    refine gp zad ?_
                    refine gp zmv ?_
                    refine gl_nil ?_
                    refine zrd ((k + 1, (a107, c107), l ++ [v])) ?_ ?_
                    · show (cutB 44 s).length - (k + 1) < (cutB 44 s).length - k
                      omega
                    · have hl2 := allL_snoc hl hnp
                      rw [← htk] at hl2
                      simp only [List.length_append, List.map_append, List.length_singleton, List.map_cons, List.map_nil]
                      exact zlp (show k + 1 ≤ (cutB 44 s).length ∧ allL numP ((cutB 44 s).take (k + 1)) = some (l ++ [v]) from ⟨by omega, hl2⟩)
                  · have hnp : numP x = none := by simpa using g6
                    refine gc_region ?_
                    refine gp zmv ?_
                    refine gp (r_bool (c := true) zlt (by rw [rnI_none hnp]; rfl)) ?_
                    refine gnt ?_
                    refine gc_condT rfl rfl ?_
                    refine gsr ?_
                    refine gp zas ?_
                    refine gnt ?_
                    refine gc_ret ?_
                    refine gx_then_ret ?_
                    refine gx_block_ret ?_
                    refine gx_then_ret ?_
                    refine gx_round_ret ?_
                    refine gx_block_ret ?_
                    refine gx_then_ret ?_
                    refine gx_block_ret ?_
                    refine gx_then_ret ?_
                    refine gx_ret1 rfl (by conv => lhs; whnf) ?_
                    have el : (l.map Int.ofNat).length = k := by rw [List.length_map, hll]
                    have em : (l.map Int.ofNat).map (Value.int .i64) = l.map fun n : Nat => Value.int .i64 (n : Int) := by rw [List.map_map]; rfl
                    have hz : setP p.o 112 s = none := by rw [set_p, powP_go g0, allL_none hnp hmem]; rfl
                    exact fun w' hw => ⟨({ p with o := { p.o with set := l.map Int.ofNat }, sa := a, cs := cc }), by rw [hz]; rfl, St.pureI (fun o' ho => by rw [hz] at ho; cases ho) (by simp only [poC, el, em]; exact hw.sel (by repeat (first | exact Sel.nil | (apply Sel.cons; · (repeat (first | exact Pick.here | apply Pick.there))))))⟩
                · try simp only at hc93
                  have hk' : k = (cutB 44 s).length := by omega
                  subst hk'
                  rw [List.take_of_length_le (Nat.le_refl _)] at hl
                  refine gc_exit ?_
                  refine gx_then_exit ?_
                  refine gx_round_exit ?_
                  refine gx_block_hit ?_
                  refine gx_then ?_
                  refine gsr ?_
                  refine gp zmv ?_
                  refine gp zln ?_
                  refine gp zle ?_
                  refine gp zas ?_
                  refine gnt ?_
                  refine gc_ret ?_
                  refine gx_block_ret ?_
                  refine gx_then_ret ?_
                  refine gx_ret1 rfl (by conv => lhs; whnf) ?_
                  obtain ⟨k, hkk⟩ : ∃ k, k = (cutB 44 s).length := ⟨_, rfl⟩
                  rw [← hkk] at hll
                  have el : (l.map Int.ofNat).length = k := by rw [List.length_map, hll]
                  have em : (l.map Int.ofNat).map (Value.int .i64) = l.map fun n : Nat => Value.int .i64 (n : Int) := by rw [List.map_map]; rfl
                  have hz : setP p.o 112 s = if l.length ≤ 7 then some { p.o with set := l.map Int.ofNat } else none := by rw [set_p, powP_go g0, hl]; simp only; split <;> rfl
                  have hq : (setP p.o 112 s).isSome = decide (((cutB 44 s).length : Int) ≤ 7) ∧ ∀ o', setP p.o 112 s = some o' → { p.o with set := l.map Int.ofNat } = o' := by
                    rw [hz]
                    by_cases h7 : l.length ≤ 7
                    · rw [if_pos h7]; exact ⟨(decide_eq_true (by omega)).symm, fun _ h => by injection h⟩
                    · rw [if_neg h7]; exact ⟨(decide_eq_false (by omega)).symm, fun _ h => by cases h⟩
                  rw [← hkk] at hq ⊢
                  exact fun w' hw => ⟨({ p with o := { p.o with set := l.map Int.ofNat }, sa := a, cs := cc }), by rw [hq.1], St.pureI hq.2 (by simp only [poC, el, em]; exact hw.sel (by repeat (first | exact Sel.nil | (apply Sel.cons; · (repeat (first | exact Pick.here | apply Pick.there))))))⟩
            · refine gsr ?_
              refine gp zei ?_
              refine gp zas ?_
              refine gnt ?_
              refine gif rfl (fun hc114 => ?_) (fun hc114 => ?_)
              · try simp only at hc114
                obtain rfl : c = 98 := u8c (n := 98) hc114 (by decide)
                have hemp : p.o.keep = [] := he.2.2 rfl
                refine gc_seq ?_
                refine gsr ?_
                refine gp zas ?_
                refine gnt ?_
                refine gc_block ?_
                refine gc_loop (α := Nat × (Option Addr × Nat) × List Bool) (fun y => [pureR (y.1 ≤ s.length ∧ allL bit1 (s.take y.1) = some y.2.2), blk b 44 [.int .i64 p.o.kind, .int .i64 p.o.node, .int .i64 p.o.n, .slice p.sa p.o.set.length p.cs, .slice y.2.1.1 y.1 y.2.1.2, .slice p.ad p.o.data.length p.cd], rowR 3 1 p.sa p.o.set.length p.cs (p.o.set.map (Value.int .i64)), rowR 4 1 y.2.1.1 y.1 y.2.1.2 (y.2.2.map Value.bool), rowR 5 1 p.ad p.o.data.length p.cd (p.o.data.map B8)]) (fun y => [(14, .int .i64 (y.1 : Int))]) [6, 116, 117, 118, 119, 120, 121, 122, 123, 124, 125, 126, 127, 128, 129, 130, 131, 132, 133, 134, 135, 136, 137, 138, 139, 140, 141, 142, 143, 144] (fun y => s.length - y.1) (0, (p.ak, p.ck), []) ?_ ?_ ?_
                · refine env_start (by kernel_rfl)
                · simp only [poC, hemp, List.length_nil, List.map_nil]
                  exact zlp ⟨Nat.zero_le _, rfl⟩
                · intro y u
                  obtain ⟨k, ⟨a, cc⟩, l⟩ := y
                  refine gc_pureR (fun hq => ?_)
                  obtain ⟨hk, hl⟩ := hq
                  replace hk : k ≤ s.length := hk
                  replace hl : allL bit1 (s.take k) = some l := hl
                  have hll : l.length = k := by have := allL_len hl; rw [List.length_take] at this; omega
                  refine gc_seq ?_
                  refine gsr ?_
                  refine gp zmv ?_
                  refine gp zmv ?_
                  refine gp zlS ?_
                  refine gp zlt ?_
                  refine gnt ?_
                  refine gif rfl (fun hc119 => ?_) (fun hc119 => ?_)
                  · try simp only at hc119
                    have hk' : k < s.length := by omega
                    obtain ⟨ch, r2, _, hg2, _, hmem, htk⟩ := drop_at hk'
                    refine gc_skip ?_
                    refine gx_then ?_
                    refine gc_seq ?_
                    refine gc_block ?_
                    refine gc_seq ?_
                    refine gc_seq ?_
                    by_cases g4 : ¬ (ch.toNat : Int) = 48
                    · by_cases g5 : (ch.toNat : Int) = 49
                      · refine gc_region ?_
                        refine gp zmv ?_
                        refine gp zmv ?_
                        refine gp (r_ixs (b := s) (j := k) (c := ch) hg2) ?_
                        refine gp (r_bool (c := true) zni (by simpa using g4)) ?_
                        refine gp zmv ?_
                        refine gq zmv ?_
                        refine gq zmv ?_
                        refine gq (r_ixs (b := s) (j := k) (c := ch) hg2) ?_
                        refine gq (r_bool (c := false) zni (by simp [g5])) ?_
                        refine gp zpk ?_
                        refine gnt ?_
                        refine gc_condF rfl rfl ?_
                        refine gc_skip ?_
                        refine gx_then ?_
                        refine gc_regionU 11 ([blk b 44 [.int .i64 p.o.kind, .int .i64 p.o.node, .int .i64 p.o.n, .slice p.sa p.o.set.length p.cs, .slice a k cc, .slice p.ad p.o.data.length p.cd]]) ?_
                        refine ypu 0 rfl zmv ?_
                        refine ypu 1 rfl zmv ?_
                        refine ypu 2 rfl znc ?_
                        refine ypu 3 rfl zfa ?_
                        refine ypu 4 rfl zl ?_
                        refine ypu 5 rfl zmv ?_
                        refine ypu 6 rfl zmv ?_
                        refine ypu 7 rfl (r_ixs (b := s) (j := k) (c := ch) hg2) ?_
                        refine ypu 8 rfl (r_bool (c := decide ((ch.toNat : Int) = 49)) zei rfl) ?_
                        refine you 9 rfl ?_
                        refine ze1 fun b141 => ?_
                        refine yxu ?_
                        refine you 10 rfl ?_
                        refine zapo (m := k) (j := 1) (fun a142 c142 => ?_)
                        refine yxu ?_
                        refine yzu ?_
                        refine gp znc ?_
                        refine gp zfa ?_
                        refine zs1 ?_
                        refine gl_nil ?_
                        refine gx_block_normal ?_
                        refine gx_then ?_
                        refine gc_region ?_
                        refine gp zmv ?_
                        refine gp (r_int (j := ((k + 1 : Nat) : Int)) (zad (i := (k : Int)) (j := 1) (h := wrap_i64 (by omega) (by omega))) (by omega)) ?_
                        refine gp zas ?_
                        refine gl_nil ?_
                        refine zrd ((k + 1, (a142, c142), l ++ [decide ((ch.toNat : Int) = 49)])) ?_ ?_
                        · show s.length - (k + 1) < s.length - k
                          omega
                        · have hl2 := allL_snoc hl (bit1_int.2 (show (ch.toNat : Int) = 48 ∨ (ch.toNat : Int) = 49 by omega))
                          rw [← htk] at hl2
                          simp only [List.length_append, List.map_append, List.length_singleton, List.map_cons, List.map_nil]
                          exact zlp (show k + 1 ≤ s.length ∧ allL bit1 (s.take (k + 1)) = some (l ++ [decide ((ch.toNat : Int) = 49)]) from ⟨by omega, hl2⟩)
                      · refine gc_region ?_
                        refine gp zmv ?_
                        refine gp zmv ?_
                        refine gp (r_ixs (b := s) (j := k) (c := ch) hg2) ?_
                        refine gp (r_bool (c := true) zni (by simpa using g4)) ?_
                        refine gp zmv ?_
                        refine gq zmv ?_
                        refine gq zmv ?_
                        refine gq (r_ixs (b := s) (j := k) (c := ch) hg2) ?_
                        refine gq (r_bool (c := true) zni (by simpa using g5)) ?_
                        refine gp zpk ?_
                        refine gnt ?_
                        refine gc_condT rfl rfl ?_
                        refine gsr ?_
                        refine gp zas ?_
                        refine gnt ?_
                        refine gc_ret ?_
                        refine gx_then_ret ?_
                        refine gx_block_ret ?_
                        refine gx_then_ret ?_
                        refine gx_round_ret ?_
                        refine gx_block_ret ?_
                        refine gx_then_ret ?_
                        refine gx_block_ret ?_
                        refine gx_then_ret ?_
                        refine gx_ret1 rfl (by conv => lhs; whnf) ?_
                        have hz : setP p.o 98 s = none := by rw [set_b, bitP_go g0, allL_none (bit1_int.1 g4 g5) hmem]; split <;> rfl
                        exact fun w' hw => ⟨({ p with o := { p.o with keep := l }, ak := a, ck := cc }), by rw [hz]; rfl, St.pureI (fun o' ho => by rw [hz] at ho; cases ho) (by simp only [poC, hll]; exact hw.sel (by repeat (first | exact Sel.nil | (apply Sel.cons; · (repeat (first | exact Pick.here | apply Pick.there))))))⟩
                    · refine gc_region ?_
                      refine gp zmv ?_
                      refine gp zmv ?_
                      refine gp (r_ixs (b := s) (j := k) (c := ch) hg2) ?_
                      refine gp (r_bool (c := false) zni (by simpa using g4)) ?_
                      refine gp zmv ?_
                      refine gn ?_
                      refine gn ?_
                      refine gn ?_
                      refine gn ?_
                      refine gp zpk ?_
                      refine gnt ?_
                      refine gc_condF rfl rfl ?_
                      refine gc_skip ?_
                      refine gx_then ?_
                      refine gc_regionU 11 ([blk b 44 [.int .i64 p.o.kind, .int .i64 p.o.node, .int .i64 p.o.n, .slice p.sa p.o.set.length p.cs, .slice a k cc, .slice p.ad p.o.data.length p.cd]]) ?_
                      refine ypu 0 rfl zmv ?_
                      refine ypu 1 rfl zmv ?_
                      refine ypu 2 rfl znc ?_
                      refine ypu 3 rfl zfa ?_
                      refine ypu 4 rfl zl ?_
                      refine ypu 5 rfl zmv ?_
                      refine ypu 6 rfl zmv ?_
                      refine ypu 7 rfl (r_ixs (b := s) (j := k) (c := ch) hg2) ?_
                      refine ypu 8 rfl (r_bool (c := decide ((ch.toNat : Int) = 49)) zei rfl) ?_
                      refine you 9 rfl ?_
                      refine ze1 fun b141 => ?_
                      refine yxu ?_
                      refine you 10 rfl ?_
                      refine zapo (m := k) (j := 1) (fun a142 c142 => ?_)
                      refine yxu ?_
                      refine yzu ?_
                      refine gp znc ?_
                      refine gp zfa ?_
                      refine zs1 ?_
                      refine gl_nil ?_
                      refine gx_block_normal ?_
                      refine gx_then ?_
                      refine gc_region ?_
                      refine gp zmv ?_
                      refine gp (r_int (j := ((k + 1 : Nat) : Int)) (zad (i := (k : Int)) (j := 1) (h := wrap_i64 (by omega) (by omega))) (by omega)) ?_
                      refine gp zas ?_
                      refine gl_nil ?_
                      refine zrd ((k + 1, (a142, c142), l ++ [decide ((ch.toNat : Int) = 49)])) ?_ ?_
                      · show s.length - (k + 1) < s.length - k
                        omega
                      · have hl2 := allL_snoc hl (bit1_int.2 (show (ch.toNat : Int) = 48 ∨ (ch.toNat : Int) = 49 by omega))
                        rw [← htk] at hl2
                        simp only [List.length_append, List.map_append, List.length_singleton, List.map_cons, List.map_nil]
                        exact zlp (show k + 1 ≤ s.length ∧ allL bit1 (s.take (k + 1)) = some (l ++ [decide ((ch.toNat : Int) = 49)]) from ⟨by omega, hl2⟩)
                  · try simp only at hc119
                    have hk' : k = s.length := by omega
                    subst hk'
                    rw [List.take_of_length_le (Nat.le_refl _)] at hl
                    refine gc_exit ?_
                    refine gx_then_exit ?_
                    refine gx_round_exit ?_
                    refine gx_block_hit ?_
                    refine gx_then ?_
                    refine gsr ?_
                    refine gp zmv ?_
                    refine gp zlS ?_
                    refine gp zle ?_
                    refine gp zas ?_
                    refine gnt ?_
                    refine gc_ret ?_
                    refine gx_block_ret ?_
                    refine gx_then_ret ?_
                    refine gx_ret1 rfl (by conv => lhs; whnf) ?_
                    obtain ⟨k, hkk⟩ : ∃ k, k = s.length := ⟨_, rfl⟩
                    rw [← hkk] at hll
                    have hq : (setP p.o 98 s).isSome = decide ((s.length : Int) ≤ 64) ∧ ∀ o', setP p.o 98 s = some o' → { p.o with keep := l } = o' := by
                      have hb := bit_end g0 g1 hl
                      rw [hll, hkk] at hb
                      rw [set_b, Option.isSome_map]
                      exact ⟨hb.1, fun o' ho => by obtain ⟨v, hv, rfl⟩ := Option.map_eq_some_iff.1 ho; rw [hb.2 v hv]⟩
                    rw [← hkk] at hq ⊢
                    exact fun w' hw => ⟨({ p with o := { p.o with keep := l }, ak := a, ck := cc }), by rw [hq.1], St.pureI hq.2 (by simp only [poC, hll]; exact hw.sel (by repeat (first | exact Sel.nil | (apply Sel.cons; · (repeat (first | exact Pick.here | apply Pick.there))))))⟩
              · try simp only at hc114
                exact absurd (good_no hg hc16 hc28 hc45 hc86 hc114) id

end Go.Proofs.YthicckleihbomaaDoor

/- Walks, by program (wg.py) out of a spec. -/
namespace Go.Proofs.YthicckleihbomaaDoor
open Go
set_option linter.unusedVariables false
set_option linter.unusedSimpArgs false


theorem kw_form {w0 : Bs} {wr : List Bs} : (kwF w0 = none → formW (w0 :: wr) = none ∧ kwK w0 = 0) ∧ ∀ f, kwF w0 = some f → f ∈ forms ∧ f.word = w0 ∧ kwK w0 = (f.kind : Int) ∧ kwP w0 = f.parts ∧ (wr.length = f.parts.length → formW (w0 :: wr) = some f) ∧ (wr.length ≠ f.parts.length → formW (w0 :: wr) = none) := by
  constructor
  · intro h
    have h2 := List.find?_eq_none.1 h
    refine ⟨List.find?_eq_none.2 fun f hf => ?_, by unfold kwK; rw [h]⟩
    have := h2 f hf
    simp only [decide_eq_true_eq, List.head?_cons, Option.some.injEq] at this ⊢
    exact fun hh => this hh.1.symm
  · intro f h
    have hm : f ∈ forms := List.mem_of_find?_eq_some h
    have hw : f.word = w0 := by have := List.find?_some h; simpa using this
    refine ⟨hm, hw, by unfold kwK; rw [h], by unfold kwP; rw [h], fun hl => ?_, fun hl => ?_⟩
    · rw [← hw]; exact formW_of hm hl
    · refine List.find?_eq_none.2 fun g hg => ?_
      simp only [decide_eq_true_eq, List.head?_cons, Option.some.injEq, List.length_cons]
      rintro ⟨e1, e2⟩
      have : g = f := forms_words g hg f hm (by rw [← e1, hw])
      subst this
      exact hl (by omega)
theorem forms_kpos : ∀ f ∈ forms, 1 ≤ f.kind ∧ f.kind ≤ 10 := by decide
theorem par_last {s : Bs} {x : Bs} {n : Nat} (hn : (cutB 10 s).length = n + 1) (hx : (cutB 10 s)[n]? = some x) : (x ≠ [] → parP s = none) ∧ (x = [] → parP s = allL opP ((cutB 10 s).take n)) := by
  have hsp : cutB 10 s = (cutB 10 s).take n ++ [x] := by
    obtain ⟨y, r, e1, e2, e3, _, _⟩ := drop_at (l := cutB 10 s) (k := n) (by omega)
    obtain rfl : y = x := by rw [hx] at e2; injection e2 with e2; exact e2.symm
    have hr : r = [] := by rw [← e3, List.drop_eq_nil_of_le (by omega)]
    conv => lhs; rw [← List.take_append_drop n (cutB 10 s), e1, hr]
  constructor
  · intro h0
    cases e : parP s with
    | none => rfl
    | some l =>
      obtain ⟨ls, e2, _⟩ := parL_some (show parL (cutB 10 s) = some l from e)
      rw [hsp] at e2
      have := congrArg List.getLast? e2
      simp at this
      exact absurd this h0
  · intro h0
    subst h0
    show parL (cutB 10 s) = _
    conv => lhs; rw [hsp]
    rw [parL_app, opsP_allL]

attribute [local irreducible] Gl Gc Gx Gs Runs Wt

set_option maxHeartbeats 1000000 in
set_option maxRecDepth 20000 in
theorem rparse_ok {w : World} {F : Nat → Prop} {s : List UInt8} (h : stars [] w F) :
    Calls Tryd.prog 10 #[.string (str s)] w (Post w F (fun x : Option Addr × Nat => .tuple #[.slice x.1 (parO s).length x.2, .int .i64 (parE s : Int)]) (fun x => [LsR RdOpS 6 x.1 (parO s).length (parO s)])) := by
  refine g_enter (env := [(0, .string (str s))]) Tryd.func10 rfl h Tryd.ntmps10 rfl rfl ?_
  refine gsr ?_
  refine gp zas ?_
  refine gp zas ?_
  refine gnt ?_
  refine gc_seq ?_
  refine gsr ?_
  refine gp zmv ?_
  refine gp zlS ?_
  refine gp zgt ?_
  refine gnt ?_
  refine gif rfl (fun hc15 => ?_) (fun hc15 => ?_)
  · refine gsr ?_
    refine gp zas ?_
    refine gp zas ?_
    refine gnt ?_
    refine gc_ret ?_
    refine gx_then_ret ?_
    refine gx_ret2 rfl (by conv => lhs; whnf) (by conv => lhs; whnf) ?_
    exact fun w' hw => ⟨(none, 0), by rw [(par_long hc15).1, (par_long hc15).2]; rfl, by rw [(par_long hc15).2]; exact St.lsNil (hw.sel (by repeat (first | exact Sel.nil | (apply Sel.cons; · (repeat (first | exact Pick.here | apply Pick.there))))))⟩
  · try simp only at hc15
    have hs : s.length ≤ 65535 := by omega
    refine gc_skip ?_
    refine gx_then ?_
    refine gsr ?_
    refine gp zmv ?_
    refine zc ?_ (c := fun w1 F1 F2 h1 h2 hd hst => rsplit_ok (s := s) (c := 10) h1 hs)
    rintro ⟨a17, c17⟩
    refine gp zas ?_
    refine gnt ?_
    refine gc_seq ?_
    refine gc_seq ?_
    have hcc := cut_count 10 s
    obtain ⟨nn, hnn⟩ : ∃ n, (cutB 10 s).length = n + 1 := ⟨(cutB 10 s).length - 1, by have := cut_ne 10 s; cases e : cutB 10 s with | nil => exact absurd e this | cons a b => simp⟩
    obtain ⟨x0, _, _, hx0, _, _, _⟩ := drop_at (l := cutB 10 s) (k := nn) (by omega)
    have hpl := par_last hnn hx0
    refine gc_fact (fun w' hw => St.rowAt (hw.sel (M := [rowR 9 1 a17 (cutB 10 s).length c17 ((cutB 10 s).map (fun p : List UInt8 => Value.string (str p)))]) (by repeat (first | exact Sel.nil | (apply Sel.cons; · (repeat (first | exact Pick.here | apply Pick.there)))))) .here (by omega)) (fun hra => ?_)
    obtain ⟨hcap, ga, oa, ha⟩ := hra
    subst ha
    refine gc_region ?_
    refine gp zmv ?_
    refine gp zmv ?_
    refine gp zln ?_
    refine gp (r_int (j := (nn : Int)) (zsb (i := (((cutB 10 s).length : Nat) : Int)) (j := 1) (h := wrap_i64 (by omega) (by omega))) (by omega)) ?_
    refine gp (r_val (v' := .pointer (some ⟨ga, oa + nn, none⟩)) zia (by simp)) ?_
    refine gp (r_ld1r (v := .string (str x0)) rfl Ty.row_9 (by repeat (first | exact Pick.here | apply Pick.there)) (by rw [List.getElem?_map, hx0]; rfl)) ?_
    refine gp zns ?_
    refine gnt ?_
    refine gif rfl (fun hc24 => ?_) (fun hc24 => ?_)
    · try simp only at hc24
      have hz := hpl.1 (by simpa using hc24)
      refine gsr ?_
      refine gp zas ?_
      refine gp zas ?_
      refine gnt ?_
      refine gc_ret ?_
      refine gx_then_ret ?_
      refine gx_ret2 rfl (by conv => lhs; whnf) (by conv => lhs; whnf) ?_
      exact fun w' hw => ⟨(none, 0), by rw [(par_none (by omega) hz).1, (par_none (by omega) hz).2]; rfl, by rw [(par_none (by omega) hz).2]; exact St.lsNil (hw.sel (by repeat (first | exact Sel.nil | (apply Sel.cons; · (repeat (first | exact Pick.here | apply Pick.there))))))⟩
    · try simp only at hc24
      have hpz := hpl.2 (by simpa using hc24)
      refine gc_skip ?_
      refine gx_then ?_
      refine gsr ?_
      refine ze0 fun b25 => ?_
      refine gp zas ?_
      refine gnt ?_
      refine gc_seq ?_
      refine gsr ?_
      refine gp zmv ?_
      refine gp zmv ?_
      refine gp zln ?_
      refine gp (r_int (j := (nn : Int)) (zsb (i := (((cutB 10 s).length : Nat) : Int)) (j := 1) (h := wrap_i64 (by omega) (by omega))) (by omega)) ?_
      refine gp (r_val (v' := .slice (some ⟨ga, oa, none⟩) nn c17) (r_slice_slice (a := some ⟨ga, oa, none⟩) (m := (cutB 10 s).length) (c := c17) (l := 0) (h := nn) rfl Ty.sl_56 Ty.sz_9 rfl ⟨_, rfl⟩ (by omega) (by omega)) (by rw [if_neg (by omega)]; simp [Addr.add])) ?_
      refine gp zln ?_
      refine gp zmv ?_
      refine gnt ?_
      refine gc_block ?_
      refine gc_loop (α := Nat × (Option Addr × Nat) × (List (List Value) × List OpS)) (fun y => [pureR (y.1 ≤ nn ∧ allL opP ((cutB 10 s).take y.1) = some y.2.2.2 ∧ ∀ c ∈ y.2.2.1, List.length c = 6), rowR 9 1 (some ⟨ga, oa, none⟩) (cutB 10 s).length c17 ((cutB 10 s).map (fun p : List UInt8 => Value.string (str p))), rowR 44 6 y.2.1.1 y.1 y.2.1.2 y.2.2.1.flatten, ElR RdOpS y.2.2.1 y.2.2.2]) (fun y => [(32, .int .i64 (y.1 : Int)), (5, .slice y.2.1.1 y.1 y.2.1.2)]) [2, 3, 7, 8, 9, 10, 11, 12, 33, 34, 35, 36, 37, 38, 39, 40, 41, 42, 43, 44, 45, 46, 47, 48, 49, 50, 51, 52, 53, 54, 55, 56, 57, 58, 59, 60, 61, 62, 63, 64, 65, 66, 67, 68, 69, 70, 71, 72, 73, 74, 75, 76, 77] (fun y => nn - y.1) (0, (some ⟨b25, 0, none⟩, 0), ([], [])) ?_ ?_ ?_
      · refine env_start (by kernel_rfl)
      · exact fun w' hw => St.pureI ⟨Nat.zero_le _, rfl, by simp⟩ ((St.elNil hw).sel (M := [rowR 9 1 (some ⟨ga, oa, none⟩) (cutB 10 s).length c17 ((cutB 10 s).map (fun p : List UInt8 => Value.string (str p))), rowR 44 6 (some ⟨b25, 0, none⟩) 0 0 [], ElR RdOpS [] []]) (by repeat (first | exact Sel.nil | (apply Sel.cons; · (repeat (first | exact Pick.here | apply Pick.there))))))
      · intro y u
        obtain ⟨k, ⟨ao, co⟩, ⟨css, l⟩⟩ := y
        refine gc_pureR (fun hq => ?_)
        obtain ⟨hk, hl, hcs⟩ := hq
        replace hk : k ≤ nn := hk
        replace hl : allL opP ((cutB 10 s).take k) = some l := hl
        have hll : l.length = k := by have := allL_len hl; rw [List.length_take] at this; omega
        refine gsr ?_
        refine gp zlt ?_
        refine gnt ?_
        refine gc_seq ?_
        refine gif rfl (fun hc33 => ?_) (fun hc33 => ?_)
        · try simp only at hc33
          have hk' : k < nn := by omega
          obtain ⟨x, _, _, hxg, _, hmem0, htk⟩ := drop_at (l := cutB 10 s) (k := k) (by omega)
          have hmem : x ∈ (cutB 10 s).take nn := by rw [List.mem_take_iff_getElem]; obtain ⟨h1, h2⟩ := List.getElem?_eq_some_iff.1 hxg; exact ⟨k, by omega, h2⟩
          have hxl := pieces_len hmem0
          refine gc_skip ?_
          refine gx_then ?_
          refine gc_seq ?_
          refine gc_block ?_
          refine gsr ?_
          refine gp (r_val (v' := .pointer (some ⟨ga, oa + k, none⟩)) zia (by simp)) ?_
          refine gp (r_ld1r (v := .string (str x)) rfl Ty.row_9 (by repeat (first | exact Pick.here | apply Pick.there)) (by rw [List.getElem?_map, hxg]; rfl)) ?_
          refine gp zas ?_
          refine gnt ?_
          refine gsr ?_
          refine gp zmv ?_
          refine zc ?_ (c := fun w1 F1 F2 h1 h2 hd hst => rsplit_ok (s := x) (c := 32) h1 (by omega))
          rintro ⟨a37, c37⟩
          refine gp zas ?_
          refine gnt ?_
          refine gc_seq ?_
          obtain ⟨w0, wr, hws⟩ : ∃ a b, cutB 32 x = a :: b := by cases e : cutB 32 x with | nil => exact absurd e (cut_ne 32 x) | cons a b => exact ⟨a, b, rfl⟩
          have hwl : (cutB 32 x).length = wr.length + 1 := by rw [hws]; rfl
          have hcc2 := cut_count 32 x
          have hkw := kw_form (w0 := w0) (wr := wr)
          refine gc_fact (fun w' hw => St.rowAt (hw.sel (M := [rowR 9 1 a37 (cutB 32 x).length c37 ((cutB 32 x).map (fun p : List UInt8 => Value.string (str p)))]) (by repeat (first | exact Sel.nil | (apply Sel.cons; · (repeat (first | exact Pick.here | apply Pick.there)))))) .here (by omega)) (fun hra => ?_)
          obtain ⟨_, gw, ow, ha⟩ := hra
          subst ha
          refine gc_region ?_
          refine gp zmv ?_
          refine gp (r_val (v' := .pointer (some ⟨gw, ow + 0, none⟩)) zia (by simp)) ?_
          refine gp (r_ld1r (v := .string (str w0)) rfl Ty.row_9 (by repeat (first | exact Pick.here | apply Pick.there)) (by rw [hws]; rfl)) ?_
          refine zc (fun _ => ?_) (c := fun w1 F1 F2 h1 h2 hd hst => rkind_ok (v := w0) h1)
          refine gp zmv ?_
          refine gp zex ?_
          refine gp zex ?_
          refine gp zas ?_
          refine gp zas ?_
          refine gnt ?_
          refine gc_seq ?_
          refine gc_seq ?_
          by_cases g1 : (kwF w0).isSome = true
          · obtain ⟨f, hf⟩ := Option.isSome_iff_exists.1 g1
            obtain ⟨hfm, hfw, hfk, hfp, hform1, hform0⟩ := hkw.2 f hf
            have hfs := forms_small f hfm
            have hfk0 := forms_kpos f hfm
            by_cases g2 : wr.length = f.parts.length
            · have hform : formW (cutB 32 x) = some f := by rw [hws]; exact hform1 g2
              refine gc_region ?_
              refine gp zmv ?_
              refine gp (r_bool (c := false) zei (by rw [hfk]; exact decide_eq_false (by omega))) ?_
              refine gp zmv ?_
              refine gq zmv ?_
              refine gq zln ?_
              refine gq zmv ?_
              refine gq zlS ?_
              refine gq (r_int (j := ((f.parts.length + 1 : Nat) : Int)) (zad (i := ((kwP w0).length : Int)) (j := 1) (h := wrap_i64 (by rw [hfp]; omega) (by rw [hfp]; omega))) (by rw [hfp]; omega)) ?_
              refine gq (r_bool (c := false) zni (by simp; omega)) ?_
              refine gp zpk ?_
              refine gnt ?_
              refine gc_condF rfl rfl ?_
              refine gc_skip ?_
              refine gx_then ?_
              refine gsr ?_
              refine gp zmv ?_
              refine gp zbu ?_
              refine zal fun b11 => ?_
              refine zsN ?_
              refine gl_eqc (cs' := poC (po0 (f.kind : Int))) (by repeat (first | exact Pick.here | apply Pick.there)) (by rw [hfk]; rfl) ?_
              refine gnt ?_
              refine gc_seq ?_
              refine gsr ?_
              refine gp zas ?_
              refine gnt ?_
              refine gc_block ?_
              have hopz : opP x = setsP (op0 f.kind) f.parts wr := by unfold opP; rw [hform, hws]; rfl
              have hgd := forms_good f hfm
              refine gc_loop (α := Nat × PO) (fun y => [pureR (y.1 ≤ f.parts.length ∧ setsP (op0 f.kind) f.parts wr = setsP y.2.o (f.parts.drop y.1) (wr.drop y.1) ∧ ∀ d ∈ f.parts.drop y.1, emptyF y.2.o d), blk b11 44 (poC y.2), rowR 3 1 y.2.sa y.2.o.set.length y.2.cs (y.2.o.set.map (Value.int .i64)), rowR 4 1 y.2.ak y.2.o.keep.length y.2.ck (y.2.o.keep.map Value.bool), rowR 5 1 y.2.ad y.2.o.data.length y.2.cd (y.2.o.data.map B8), rowR 9 1 (some ⟨gw, ow, none⟩) (cutB 32 x).length c37 ((cutB 32 x).map (fun p : List UInt8 => Value.string (str p))), rowR 9 1 (some ⟨ga, oa, none⟩) (cutB 10 s).length c17 ((cutB 10 s).map (fun p : List UInt8 => Value.string (str p))), rowR 44 6 ao k co css.flatten, ElR RdOpS css l]) (fun y => [(12, .int .i64 (y.1 : Int))]) [2, 3, 57, 58, 59, 60, 61, 62, 63, 64, 65, 66, 67, 68, 69, 70, 71, 72] (fun y => f.parts.length - y.1) (0, po0 (f.kind : Int)) ?_ ?_ ?_
              · refine env_start (by kernel_rfl)
              · exact fun w' hw => St.pureI ⟨Nat.zero_le _, rfl, fun _ _ => ⟨fun _ => rfl, fun _ => rfl, fun _ => rfl⟩⟩ ((((hw.rowNil (e := 5) (size := 1)).rowNil (e := 4) (size := 1)).rowNil (e := 3) (size := 1)).sel (M := [blk b11 44 (poC (po0 (f.kind : Int))), rowR 3 1 none 0 0 [], rowR 4 1 none 0 0 [], rowR 5 1 none 0 0 [], rowR 9 1 (some ⟨gw, ow, none⟩) (cutB 32 x).length c37 ((cutB 32 x).map (fun p : List UInt8 => Value.string (str p))), rowR 9 1 (some ⟨ga, oa, none⟩) (cutB 10 s).length c17 ((cutB 10 s).map (fun p : List UInt8 => Value.string (str p))), rowR 44 6 ao k co css.flatten, ElR RdOpS css l]) (by repeat (first | exact Sel.nil | (apply Sel.cons; · (repeat (first | exact Pick.here | apply Pick.there))))))
              · intro y u
                obtain ⟨i, p⟩ := y
                refine gc_pureR (fun hq => ?_)
                obtain ⟨hi, hst8, hemp⟩ := hq
                replace hi : i ≤ f.parts.length := hi
                replace hst8 : setsP (op0 f.kind) f.parts wr = setsP p.o (f.parts.drop i) (wr.drop i) := hst8
                replace hemp : ∀ d ∈ f.parts.drop i, emptyF p.o d := hemp
                refine gc_seq ?_
                refine gsr ?_
                refine gp zmv ?_
                refine gp zmv ?_
                refine gp (r_int (j := (f.parts.length : Int)) zlS (by rw [hfp])) ?_
                refine gp zlt ?_
                refine gnt ?_
                refine gif rfl (fun hc60 => ?_) (fun hc60 => ?_)
                · try simp only at hc60
                  have hi' : i < f.parts.length := by omega
                  obtain ⟨pc, pr, hpd, hpg, hpr, hpm, _⟩ := drop_at hi'
                  obtain ⟨sw, sr, hsd, hsg, hsr, hsm, _⟩ := drop_at (l := wr) (k := i) (by omega)
                  have hswl := pieces_len (x := sw) (c := 32) (s := x) (by rw [hws]; exact List.mem_cons_of_mem _ hsm)
                  refine gc_skip ?_
                  refine gx_then ?_
                  refine gc_seq ?_
                  refine gc_block ?_
                  refine gc_seq ?_
                  refine gc_regionH ([rowR 9 1 (some ⟨gw, ow, none⟩) (cutB 32 x).length c37 ((cutB 32 x).map (fun p : List UInt8 => Value.string (str p)))]) ?_
                  refine yp 0 rfl zmv ?_
                  refine yp 1 rfl zmv ?_
                  refine yp 2 rfl (r_ixs (b := kwP w0) (j := i) (c := pc) (by rw [hfp]; exact hpg)) ?_
                  refine yp 3 rfl zmv ?_
                  refine yp 4 rfl zmv ?_
                  refine yp 5 rfl (r_int (j := ((i + 1 : Nat) : Int)) (zad (i := (i : Int)) (j := 1) (h := wrap_i64 (by omega) (by omega))) (by omega)) ?_
                  refine yp 6 rfl (r_val (v' := .pointer (some ⟨gw, ow + (i + 1), none⟩)) zia (by simp)) ?_
                  refine yp 7 rfl (r_ld1r (v := .string (str sw)) rfl Ty.row_9 (by repeat (first | exact Pick.here | apply Pick.there)) (by rw [hws, List.map_cons, List.getElem?_cons_succ, List.getElem?_map, hsg]; rfl)) ?_
                  refine yo 8 rfl ?_
                  refine zc (fun x71 => ?_) (c := fun w1 F1 F2 h1 h2 hd hst => rpart_ok (p := p) (c := pc) (s := sw) h1 (by omega) (hgd.2.1 pc hpm) (hemp pc (by rw [hpd]; simp)))
                  refine gl_pureR (fun hx71 => ?_)
                  refine yx ?_
                  refine yp 9 rfl znt ?_
                  refine yd ?_
                  refine gx_then ?_
                  refine gif rfl (fun hc72 => ?_) (fun hc72 => ?_)
                  · try simp only at hc72
                    have hn : setP p.o pc sw = none := by simpa using hc72
                    have hop : opP x = none := by rw [hopz, hst8, hpd, hsd, setsP, hn]
                    refine gsr ?_
                    refine gp zas ?_
                    refine gp zas ?_
                    refine gnt ?_
                    refine gc_ret ?_
                    refine gx_block_ret ?_
                    refine gx_then_ret ?_
                    refine gx_round_ret ?_
                    refine gx_block_ret ?_
                    refine gx_then_ret ?_
                    refine gx_block_ret ?_
                    refine gx_then_ret ?_
                    refine gx_round_ret ?_
                    refine gx_block_ret ?_
                    refine gx_then_ret ?_
                    refine gx_ret2 rfl (by conv => lhs; whnf) (by conv => lhs; whnf) ?_
                    have hz : parP s = none := by rw [hpz, allL_none hop hmem]
                    exact fun w' hw => ⟨(none, 0), by rw [(par_none (by omega) hz).1, (par_none (by omega) hz).2]; rfl, by rw [(par_none (by omega) hz).2]; exact St.lsNil (hw.sel (by repeat (first | exact Sel.nil | (apply Sel.cons; · (repeat (first | exact Pick.here | apply Pick.there))))))⟩
                  · try simp only at hc72
                    have hn : (setP p.o pc sw).isSome = true := by simpa using hc72
                    obtain ⟨o', ho'⟩ := Option.isSome_iff_exists.1 hn
                    have hxo := hx71 o' ho'
                    have hst9 : setsP (op0 f.kind) f.parts wr = setsP x71.o (f.parts.drop (i + 1)) (wr.drop (i + 1)) := by rw [hst8, hpd, hsd, setsP, ho', hpr, hsr, hxo]
                    have hnd : (f.parts.drop i).Nodup := hgd.1.sublist (List.drop_sublist _ _)
                    rw [hpd] at hnd
                    have hemp9 : ∀ d ∈ f.parts.drop (i + 1), emptyF x71.o d := fun d hd => by rw [hpr] at hd; rw [hxo]; exact empty_step ho' (hgd.2.1 d (List.mem_of_mem_drop (i := i) (by rw [hpd]; exact List.mem_cons_of_mem _ hd))) (fun e => (List.nodup_cons.1 hnd).1 (e ▸ hd)) (hemp d (by rw [hpd]; exact List.mem_cons_of_mem _ hd))
                    refine gc_skip ?_
                    refine gx_block_normal ?_
                    refine gx_then ?_
                    refine gc_region ?_
                    refine gp zmv ?_
                    refine gp (r_int (j := ((i + 1 : Nat) : Int)) (zad (i := (i : Int)) (j := 1) (h := wrap_i64 (by omega) (by omega))) (by omega)) ?_
                    refine gp zas ?_
                    refine gl_nil ?_
                    refine zrd ((i + 1, x71)) ?_ ?_
                    · show f.parts.length - (i + 1) < f.parts.length - i
                      omega
                    · exact zlp (show i + 1 ≤ f.parts.length ∧ setsP (op0 f.kind) f.parts wr = setsP x71.o (f.parts.drop (i + 1)) (wr.drop (i + 1)) ∧ ∀ d ∈ f.parts.drop (i + 1), emptyF x71.o d from ⟨by omega, hst9, hemp9⟩)
                · try simp only at hc60
                  have hi' : i = f.parts.length := by omega
                  subst hi'
                  have hop : opP x = some p.o := by rw [hopz, hst8, List.drop_eq_nil_of_le (Nat.le_refl _)]; simp [setsP]
                  refine gc_exit ?_
                  refine gx_then_exit ?_
                  refine gx_round_exit ?_
                  refine gx_block_hit ?_
                  refine gx_then ?_
                  refine gc_region ?_
                  refine gp zmv ?_
                  refine gp (zL (sg := poC p) (hg := rfl) (hl := rfl)) ?_
                  refine zeN fun b75 => ?_
                  refine zapo (m := k) (j := 1) (fun a76 c76 => ?_)
                  refine gp zas ?_
                  refine gl_nil ?_
                  refine gx_block_normal ?_
                  refine gx_then ?_
                  refine gc_region ?_
                  refine gp zad ?_
                  refine gp zmv ?_
                  refine gl_nil ?_
                  refine zrd ((k + 1, (a76, c76), (css ++ [poC p], l ++ [p.o]))) ?_ ?_
                  · show nn - (k + 1) < nn - k
                    omega
                  · intro w' hw
                    have hl2 := allL_snoc hl hop
                    rw [← htk] at hl2
                    have hw1 := hw.conv (M := [rowR 3 1 p.sa p.o.set.length p.cs (p.o.set.map (Value.int .i64)), rowR 4 1 p.ak p.o.keep.length p.ck (p.o.keep.map Value.bool), rowR 5 1 p.ad p.o.data.length p.cd (p.o.data.map B8)]) (N := [VlR RdOpS (poC p) p.o]) (by repeat (first | exact Sel.nil | (apply Sel.cons; · (repeat (first | exact Pick.here | apply Pick.there))))) (fun _ _ h => vl_op h)
                    have hw2 := hw1.conv (M := [ElR RdOpS css l, VlR RdOpS (poC p) p.o]) (N := [ElR RdOpS (css ++ [poC p]) (l ++ [p.o])]) (by repeat (first | exact Sel.nil | (apply Sel.cons; · (repeat (first | exact Pick.here | apply Pick.there))))) (fun _ _ h => el_snoc h)
                    have e : (css ++ [poC p]).flatten = css.flatten ++ poC p := by simp
                    exact St.pureI (p := k + 1 ≤ nn ∧ allL opP ((cutB 10 s).take (k + 1)) = some (l ++ [p.o]) ∧ ∀ c ∈ css ++ [poC p], List.length c = 6) ⟨by omega, hl2, fun c hc => (List.mem_append.1 hc).elim (hcs c) (fun h => by rw [List.mem_singleton.1 h]; rfl)⟩ (by simp only [e]; exact hw2.sel (by repeat (first | exact Sel.nil | (apply Sel.cons; · (repeat (first | exact Pick.here | apply Pick.there))))))
            · have hop : opP x = none := by unfold opP; rw [hws, hform0 g2]
              refine gc_region ?_
              refine gp zmv ?_
              refine gp (r_bool (c := false) zei (by rw [hfk]; exact decide_eq_false (by omega))) ?_
              refine gp zmv ?_
              refine gq zmv ?_
              refine gq zln ?_
              refine gq zmv ?_
              refine gq zlS ?_
              refine gq (r_int (j := ((f.parts.length + 1 : Nat) : Int)) (zad (i := ((kwP w0).length : Int)) (j := 1) (h := wrap_i64 (by rw [hfp]; omega) (by rw [hfp]; omega))) (by rw [hfp]; omega)) ?_
              refine gq (r_bool (c := true) zni (by simp; omega)) ?_
              refine gp zpk ?_
              refine gnt ?_
              refine gc_condT rfl rfl ?_
              refine gsr ?_
              refine gp zas ?_
              refine gp zas ?_
              refine gnt ?_
              refine gc_ret ?_
              refine gx_then_ret ?_
              refine gx_block_ret ?_
              refine gx_then_ret ?_
              refine gx_round_ret ?_
              refine gx_block_ret ?_
              refine gx_then_ret ?_
              refine gx_ret2 rfl (by conv => lhs; whnf) (by conv => lhs; whnf) ?_
              have hz : parP s = none := by rw [hpz, allL_none hop hmem]
              exact fun w' hw => ⟨(none, 0), by rw [(par_none (by omega) hz).1, (par_none (by omega) hz).2]; rfl, by rw [(par_none (by omega) hz).2]; exact St.lsNil (hw.sel (by repeat (first | exact Sel.nil | (apply Sel.cons; · (repeat (first | exact Pick.here | apply Pick.there))))))⟩
          · have hk0 := hkw.1 (by simpa using g1)
            have hop : opP x = none := by unfold opP; rw [hws, hk0.1]
            refine gc_region ?_
            refine gp zmv ?_
            refine gp (r_bool (c := true) zei (by rw [hk0.2]; rfl)) ?_
            refine gp zmv ?_
            refine gn ?_
            refine gn ?_
            refine gn ?_
            refine gn ?_
            refine gn ?_
            refine gn ?_
            refine gp zpk ?_
            refine gnt ?_
            refine gc_condT rfl rfl ?_
            refine gsr ?_
            refine gp zas ?_
            refine gp zas ?_
            refine gnt ?_
            refine gc_ret ?_
            refine gx_then_ret ?_
            refine gx_block_ret ?_
            refine gx_then_ret ?_
            refine gx_round_ret ?_
            refine gx_block_ret ?_
            refine gx_then_ret ?_
            refine gx_ret2 rfl (by conv => lhs; whnf) (by conv => lhs; whnf) ?_
            have hz : parP s = none := by rw [hpz, allL_none hop hmem]
            exact fun w' hw => ⟨(none, 0), by rw [(par_none (by omega) hz).1, (par_none (by omega) hz).2]; rfl, by rw [(par_none (by omega) hz).2]; exact St.lsNil (hw.sel (by repeat (first | exact Sel.nil | (apply Sel.cons; · (repeat (first | exact Pick.here | apply Pick.there))))))⟩
        · try simp only at hc33
          have hk' : k = nn := by omega
          subst hk'
          have hz : parP s = some l := by rw [hpz, hl]
          refine gc_exit ?_
          refine gx_then_exit ?_
          refine gx_round_exit ?_
          refine gx_block_hit ?_
          refine gx_then ?_
          refine gsr ?_
          refine gp zmv ?_
          refine gp zas ?_
          refine gp zas ?_
          refine gnt ?_
          refine gc_ret ?_
          refine gx_ret2 rfl (by conv => lhs; whnf) (by conv => lhs; whnf) ?_
          have hpl2 : parO s = l ∧ parE s = 0 := ⟨(par_some (by omega) hz).2, (par_some (by omega) hz).1⟩
          exact fun w' hw => ⟨(ao, co), by rw [hpl2.1, hpl2.2, hll]; rfl, by rw [hpl2.1, hll]; exact (hw.conv (M := [rowR 44 6 ao k co css.flatten, ElR RdOpS css l]) (N := [LsR RdOpS 6 ao k l]) (by repeat (first | exact Sel.nil | (apply Sel.cons; · (repeat (first | exact Pick.here | apply Pick.there))))) (fun _ _ h => ls_of hcs h)).sel (by repeat (first | exact Sel.nil | (apply Sel.cons; · (repeat (first | exact Pick.here | apply Pick.there)))))⟩

end Go.Proofs.YthicckleihbomaaDoor

/- Walks, by program (wg.py) out of a spec. -/
namespace Go.Proofs.YthicckleihbomaaDoor
open Go
set_option linter.unusedVariables false
set_option linter.unusedSimpArgs false


theorem ls_rd {α : Type} {rd : World → (Nat → Prop) → List Value → α → Prop} [RdK rd] {L L' : List Res} {w : World} {F1 F2 : Nat → Prop} {size n : Nat} {a : Option Addr} {l : List α} (h2 : stars L w F2) (hd : ∀ k, F1 k → ¬ F2 k) (hp : Pick L (LsR rd size a n l) L') :
    RdList (rd w (fun k => ¬ F1 k)) w (fun k => ¬ F1 k) size a n l := by
  obtain ⟨G1, G2, ⟨h, _⟩, _, hF, _⟩ := hp.stars h2
  exact RdList.mv h (fun k _ hk => ⟨rfl, fun h1 => hd k h1 ((hF k).2 (.inl hk))⟩) fun c x hc => RdK.mv hc fun k _ hk => ⟨rfl, fun h1 => hd k h1 ((hF k).2 (.inl hk))⟩
theorem St.lsAt {α : Type} {rd : World → (Nat → Prop) → List Value → α → Prop} [RdK rd] {w0 w : World} {F0 : Nat → Prop} {L L' : List Res} {size n : Nat} {a : Option Addr} {l : List α} (hs : St w0 F0 L w) (hp : Pick L (LsR rd size a n l) L') : ∃ A, RdList (rd w A) w A size a n l := by
  obtain ⟨F, hF, _⟩ := hs
  obtain ⟨G1, G2, ⟨h, _⟩, _, _, _⟩ := hp.stars hF
  exact ⟨G1, h⟩
theorem St.lsPtr {α : Type} {rd : World → (Nat → Prop) → List Value → α → Prop} [RdK rd] {w0 w : World} {F0 : Nat → Prop} {L L' : List Res} {size n : Nat} {a : Option Addr} {l : List α} (hs : St w0 F0 L w) (hp : Pick L (LsR rd size a n l) L') (h0 : 0 < n) : ∃ g o, a = some ⟨g, o, none⟩ := by
  obtain ⟨A, css, hr, _⟩ := hs.lsAt hp
  obtain ⟨g, o, ha, _⟩ := hr.2.2 h0
  exact ⟨g, o, ha⟩
/-- An op's kind, out of a list that is owned. -/
theorem r_ldKind {P : Program} {w0 : World} {F0 : Nat → Prop} {L L' : List Res} {n : Fm} {env : Env} {d : Option Tmp} {ty : TypeId} {pos : String} {af : Array Edge} {gd : Option (Nat × Bool)} {x : Operand} {T g o m i : Nat} {l : List OpS} {op : OpS} (hr : rowT P T = some false) (hp : Pick L (LsR RdOpS 6 (some ⟨g, o, none⟩) m l) L') (hi : l[i]? = some op)
    (hx : ev n env x = .pointer (some ⟨g, o + i * 6 + 0, none⟩)) : Runs P w0 F0 L n env ⟨d, .load T x, ty, pos, af, gd⟩ (.int .i64 op.kind) := r_load hx fun w hs => by
  obtain ⟨A, hl⟩ := hs.lsAt hp
  have hn := hl.len (by decide)
  obtain ⟨hil, _⟩ := List.getElem?_eq_some_iff.1 hi
  obtain ⟨g', o', c, x', ha, _, _, hra, _, hx', hrd⟩ := hl.elem (i := i) (by decide) (by omega)
  injection ha with ha; injection ha with e1 e2; subst e1; subst e2
  rw [hi] at hx'; injection hx' with hx'; subst hx'
  obtain ⟨a1, a2, a3, c1, c2, c3, rfl, _⟩ := hrd
  exact run_loadVar_one hr (hra 0 _ rfl)
theorem parE_le (s : Bs) : parE s ≤ 18 := by unfold parE; split; · omega
                                             · split <;> omega
def aliveS : Bs := [116, 105, 99, 107, 32, 48, 10, 100, 101, 108, 105, 118, 101, 114, 32, 48, 10]
theorem alive_par : parO aliveS = [⟨4, 0, 0, [], [], []⟩, ⟨1, 0, 0, [], [], []⟩] ∧ parE aliveS = 0 := ⟨by rfl, by rfl⟩

attribute [local irreducible] Gl Gc Gx Gs Runs Wt

set_option maxHeartbeats 400000 in
theorem sameInts_ok {w : World} {F : Nat → Prop} {a1 a2 : Option Addr} {n1 n2 c1 c2 : Nat} {l : List Int} (h : stars [] w F) (hr1 : RdRow w (fun k => ¬ F k) 1 a1 n1 (l.map (Value.int .i64))) (hr2 : RdRow w (fun k => ¬ F k) 1 a2 n2 (l.map (Value.int .i64))) :
    Calls Tryd.prog 39 #[.slice a1 n1 c1, .slice a2 n2 c2] w (Post w F (fun _ : Unit => .bool true) (fun _ => [])) := by
  have hn1 : n1 = l.length := by have := hr1.1; simp at this; omega
  have hn2 : n2 = l.length := by have := hr2.1; simp at this; omega
  have hmx := hr1.2.1
  simp only [maxLen] at hmx
  refine g_enter (env := [(0, .slice a1 n1 c1), (1, .slice a2 n2 c2)]) Tryd.func39 rfl h Tryd.ntmps39 rfl rfl ?_
  refine gsr ?_
  refine gp zas ?_
  refine gnt ?_
  refine gc_seq ?_
  refine gsr ?_
  refine gp zmv ?_
  refine gp zln ?_
  refine gp zmv ?_
  refine gp zln ?_
  refine gp (r_bool (c := false) zni (by rw [hn1, hn2]; simp)) ?_
  refine gnt ?_
  refine gc_condF rfl rfl ?_
  refine gc_skip ?_
  refine gx_then ?_
  refine gc_seq ?_
  refine gsr ?_
  refine gp zmv ?_
  refine gp zln ?_
  refine gp zmv ?_
  refine gnt ?_
  refine gc_block ?_
  refine gc_loop (α := Nat) (fun k => [pureR (k ≤ n1)]) (fun k => [(13, .int .i64 (k : Int))]) [4, 5, 14, 15, 16, 17, 18, 19, 20, 21, 22, 23, 24, 25] (fun k => n1 - k) 0 ?_ ?_ ?_
  · refine env_start (by kernel_rfl)
  · exact zlp (Nat.zero_le _)
  · intro k u
    refine gc_pureR (fun hk => ?_)
    replace hk : k ≤ n1 := hk
    refine gsr ?_
    refine gp zlt ?_
    refine gnt ?_
    refine gc_seq ?_
    refine gif rfl (fun hc14 => ?_) (fun hc14 => ?_)
    · try simp only at hc14
      have hk' : k < n1 := by omega
      have hk2 : k < n2 := by omega
      obtain ⟨g1, o1, ha1, hA1, _, _⟩ := hr1.2.2 (by omega)
      subst ha1
      obtain ⟨g2, o2, ha2, hA2, _, _⟩ := hr2.2.2 (by omega)
      subst ha2
      refine gc_skip ?_
      refine gx_then ?_
      refine gc_seq ?_
      refine gc_block ?_
      refine gsr ?_
      refine gp zmv ?_
      refine gp zas ?_
      refine gnt ?_
      refine gc_seq ?_
      refine gc_regionS (by kernel_rfl) (by kernel_rfl) ?_
      refine sp zmv ?_
      refine sp zmv ?_
      refine sp zia ?_
      refine sp (r_ld1o rfl Ty.row_3 (hr1.cellV hk' 0).1 hA1) ?_
      refine sp zmv ?_
      refine sp zmv ?_
      refine sp zia ?_
      refine sp (r_ld1o rfl Ty.row_3 (hr2.cellV hk2 0).1 hA2) ?_
      refine sp (r_bool (c := false) zni (by simp)) ?_
      refine gs_nil ?_
      refine gx_then ?_
      refine gc_condF rfl rfl ?_
      refine gc_skip ?_
      refine gx_block_normal ?_
      refine gx_then ?_
      refine gc_region ?_
      refine gp zad ?_
      refine gp zmv ?_
      refine gl_nil ?_
      refine zrd (k + 1) ?_ ?_
      · show n1 - (k + 1) < n1 - k
        omega
      · exact zlp (show k + 1 ≤ n1 by omega)
    · refine gc_exit ?_
      refine gx_then_exit ?_
      refine gx_round_exit ?_
      refine gx_block_hit ?_
      refine gx_then ?_
      refine gsr ?_
      refine gp zas ?_
      refine gnt ?_
      refine gc_ret ?_
      refine gx_ret1 rfl (by conv => lhs; whnf) ?_
      exact ze ()

set_option maxHeartbeats 1000000 in
set_option maxRecDepth 20000 in
theorem rsame_ok {w : World} {F : Nat → Prop} {csa csb : List Value} {o : OpS} (h : stars [] w F) (hx : RdOpS w (fun k => ¬ F k) csa o) (hy : RdOpS w (fun k => ¬ F k) csb o) :
    Calls Tryd.prog 23 #[.agg csa.toArray, .agg csb.toArray] w (Post w F (fun _ : Unit => .bool true) (fun _ => [])) := by
  obtain ⟨aa1, aa2, aa3, ca1, ca2, ca3, rfl, ⟨hsa, hsca⟩, ⟨hka, hkca⟩, hda, hdca⟩ := hx
  obtain ⟨ab1, ab2, ab3, cb1, cb2, cb3, rfl, ⟨hsb, hscb⟩, ⟨hkb, hkcb⟩, hdb, hdcb⟩ := hy
  have hkl := hka.2.1
  simp only [maxLen] at hkl
  refine g_enter (env := [(0, .agg (List.toArray ([.int .i64 o.kind, .int .i64 o.node, .int .i64 o.n, .slice aa1 o.set.length ca1, .slice aa2 o.keep.length ca2, .slice aa3 o.data.length ca3]))), (1, .agg (List.toArray ([.int .i64 o.kind, .int .i64 o.node, .int .i64 o.n, .slice ab1 o.set.length cb1, .slice ab2 o.keep.length cb2, .slice ab3 o.data.length cb3])))]) Tryd.func23 rfl h Tryd.ntmps23 rfl rfl ?_
  refine gsr ?_
  refine zbN fun b2 => ?_
  refine zbN fun b3 => ?_
  refine gp zas ?_
  refine gnt ?_
  refine gc_seq ?_
  refine gsr ?_
  refine gp zfa ?_
  refine gp zl ?_
  refine gp zfa ?_
  refine gp zl ?_
  refine gp (r_bool (c := false) zni (by simp)) ?_
  refine gp zmv ?_
  refine gq zfa ?_
  refine gq zl ?_
  refine gq zfa ?_
  refine gq zl ?_
  refine gq (r_bool (c := false) zni (by simp)) ?_
  refine gp zpk ?_
  refine gp zmv ?_
  refine gq zfa ?_
  refine gq zl ?_
  refine gq zfa ?_
  refine gq zl ?_
  refine gq (r_bool (c := false) zni (by simp)) ?_
  refine gp zpk ?_
  refine gp zmv ?_
  refine gq zfa ?_
  refine gq zl ?_
  refine gq zfa ?_
  refine gq zl ?_
  refine zc (fun _ => ?_) (c := fun w1 F1 F2 h1 h2 hd hst => sameInts_ok (l := o.set) h1 (hsa.mv hst.still) (hsb.mv hst.still))
  refine gq (r_bool (c := false) znt (rfl)) ?_
  refine gp zpk ?_
  refine gp zmv ?_
  refine gq zfa ?_
  refine gq zl ?_
  refine gq (r_str rfl Ty.sl_36 Ty.un_5 (by kernel_rfl) (fun w hw => hw.rdOld hda)) ?_
  refine gq zfa ?_
  refine gq zl ?_
  refine gq (r_str rfl Ty.sl_36 Ty.un_5 (by kernel_rfl) (fun w hw => hw.rdOld hdb)) ?_
  refine gq (r_bool (c := false) zns (by simp)) ?_
  refine gp zpk ?_
  refine gp zmv ?_
  refine gq zfa ?_
  refine gq zl ?_
  refine gq zln ?_
  refine gq zfa ?_
  refine gq zl ?_
  refine gq zln ?_
  refine gq (r_bool (c := false) zni (by simp)) ?_
  refine gp zpk ?_
  refine gnt ?_
  refine gc_condF rfl rfl ?_
  refine gc_skip ?_
  refine gx_then ?_
  refine gc_seq ?_
  refine gsr ?_
  refine gp zfa ?_
  refine gp zl ?_
  refine gp zln ?_
  refine gp zmv ?_
  refine gnt ?_
  refine gc_block ?_
  refine gc_loop (α := Nat) (fun k => [pureR (k ≤ o.keep.length), blk b2 44 [.int .i64 o.kind, .int .i64 o.node, .int .i64 o.n, .slice aa1 o.set.length ca1, .slice aa2 o.keep.length ca2, .slice aa3 o.data.length ca3], blk b3 44 [.int .i64 o.kind, .int .i64 o.node, .int .i64 o.n, .slice ab1 o.set.length cb1, .slice ab2 o.keep.length cb2, .slice ab3 o.data.length cb3]]) (fun k => [(54, .int .i64 (k : Int))]) [4, 5, 55, 56, 57, 58, 59, 60, 61, 62, 63, 64, 65, 66, 67, 68] (fun k => o.keep.length - k) 0 ?_ ?_ ?_
  · refine env_start (by kernel_rfl)
  · exact zlp (Nat.zero_le _)
  · intro k u
    refine gc_pureR (fun hk => ?_)
    replace hk : k ≤ o.keep.length := hk
    refine gsr ?_
    refine gp zlt ?_
    refine gnt ?_
    refine gc_seq ?_
    refine gif rfl (fun hc55 => ?_) (fun hc55 => ?_)
    · try simp only at hc55
      have hk' : k < o.keep.length := by omega
      obtain ⟨g1, o1, ha1, hA1, _, _⟩ := hka.2.2 (by omega)
      subst ha1
      obtain ⟨g2, o2, ha2, hA2, _, _⟩ := hkb.2.2 (by omega)
      subst ha2
      refine gc_skip ?_
      refine gx_then ?_
      refine gc_seq ?_
      refine gc_block ?_
      refine gsr ?_
      refine gp zmv ?_
      refine gp zas ?_
      refine gnt ?_
      refine gc_seq ?_
      refine gc_regionS (by kernel_rfl) (by kernel_rfl) ?_
      refine sp zfa ?_
      refine sp zl ?_
      refine sp zmv ?_
      refine sp zia ?_
      refine sp (r_ld1o rfl Ty.row_4 (hka.cellV hk' false).1 hA1) ?_
      refine sp zfa ?_
      refine sp zl ?_
      refine sp zmv ?_
      refine sp zia ?_
      refine sp (r_ld1o rfl Ty.row_4 (hkb.cellV hk' false).1 hA2) ?_
      refine sp (r_bool (c := false) (r_neq_bool (ht := Ty.un_4)) (by simp)) ?_
      refine gs_nil ?_
      refine gx_then ?_
      refine gc_condF rfl rfl ?_
      refine gc_skip ?_
      refine gx_block_normal ?_
      refine gx_then ?_
      refine gc_region ?_
      refine gp zad ?_
      refine gp zmv ?_
      refine gl_nil ?_
      refine zrd (k + 1) ?_ ?_
      · show o.keep.length - (k + 1) < o.keep.length - k
        omega
      · exact zlp (show k + 1 ≤ o.keep.length by omega)
    · refine gc_exit ?_
      refine gx_then_exit ?_
      refine gx_round_exit ?_
      refine gx_block_hit ?_
      refine gx_then ?_
      refine gsr ?_
      refine gp zas ?_
      refine gnt ?_
      refine gc_ret ?_
      refine gx_ret1 rfl (by conv => lhs; whnf) ?_
      exact ze ()

set_option maxHeartbeats 1000000 in
set_option maxRecDepth 20000 in
theorem lsame_ok {w : World} {F : Nat → Prop} {a1 a2 : Option Addr} {n1 n2 c1 c2 : Nat} {l : List OpS} (h : stars [] w F) (h1l : RdList (RdOpS w (fun k => ¬ F k)) w (fun k => ¬ F k) 6 a1 n1 l) (h2l : RdList (RdOpS w (fun k => ¬ F k)) w (fun k => ¬ F k) 6 a2 n2 l) :
    Calls Tryd.prog 11 #[.slice a1 n1 c1, .slice a2 n2 c2] w (Post w F (fun _ : Unit => .bool true) (fun _ => [])) := by
  have hn1 := h1l.len (by decide)
  have hn2 := h2l.len (by decide)
  have hmx := h1l.max
  simp only [maxLen] at hmx
  refine g_enter (env := [(0, .slice a1 n1 c1), (1, .slice a2 n2 c2)]) Tryd.func11 rfl h Tryd.ntmps11 rfl rfl ?_
  refine gsr ?_
  refine gp zas ?_
  refine gnt ?_
  refine gc_seq ?_
  refine gsr ?_
  refine gp zmv ?_
  refine gp zln ?_
  refine gp zmv ?_
  refine gp zln ?_
  refine gp (r_bool (c := false) zni (by rw [hn1, hn2]; simp)) ?_
  refine gnt ?_
  refine gc_condF rfl rfl ?_
  refine gc_skip ?_
  refine gx_then ?_
  refine gc_seq ?_
  refine gsr ?_
  refine gp zmv ?_
  refine gp zln ?_
  refine gp zmv ?_
  refine gnt ?_
  refine gc_block ?_
  refine gc_loop (α := Nat) (fun k => [pureR (k ≤ n1)]) (fun k => [(13, .int .i64 (k : Int))]) [4, 5, 14, 15, 16, 17, 18, 19, 20, 21, 22, 23, 24, 25, 26] (fun k => n1 - k) 0 ?_ ?_ ?_
  · refine env_start (by kernel_rfl)
  · exact zlp (Nat.zero_le _)
  · intro k u
    refine gc_pureR (fun hk => ?_)
    replace hk : k ≤ n1 := hk
    refine gsr ?_
    refine gp zlt ?_
    refine gnt ?_
    refine gc_seq ?_
    refine gif rfl (fun hc14 => ?_) (fun hc14 => ?_)
    · try simp only at hc14
      have hk' : k < n1 := by omega
      obtain ⟨g1, o1, d1, x1, ha1, hA1, _, hra1, hcl1, hx1, hrd1⟩ := h1l.elem (i := k) (by decide) hk'
      obtain ⟨g2, o2, d2, x2, ha2, hA2, _, hra2, hcl2, hx2, hrd2⟩ := h2l.elem (i := k) (by decide) (by omega)
      subst ha1
      subst ha2
      obtain rfl : x1 = x2 := by rw [hx1] at hx2; injection hx2
      refine gc_skip ?_
      refine gx_then ?_
      refine gc_seq ?_
      refine gc_block ?_
      refine gsr ?_
      refine gp zmv ?_
      refine gp zas ?_
      refine gnt ?_
      refine gc_seq ?_
      refine gc_regionT 8 (by kernel_rfl) (by kernel_rfl) ?_
      refine sp zmv ?_
      refine sp zmv ?_
      refine sp (r_val (v' := .pointer (some ⟨g1, o1 + k * 6, none⟩)) zia (by simp)) ?_
      refine sp (r_ldNo (seg := d1) rfl Ty.row_38 Ty.sz_38 hra1 hcl1 (by decide) hA1) ?_
      refine sp zmv ?_
      refine sp zmv ?_
      refine sp (r_val (v' := .pointer (some ⟨g2, o2 + k * 6, none⟩)) zia (by simp)) ?_
      refine sp (r_ldNo (seg := d2) rfl Ty.row_44 Ty.sz_44 hra2 hcl2 (by decide) hA2) ?_
      refine gs_nil ?_
      refine zc (fun _ => ?_) (c := fun w1 F1 F2 h1 h2 hd hst => rsame_ok (o := x1) h1 (RdK.mv hrd1 hst.still) (RdK.mv hrd2 hst.still))
      refine gp (r_bool (c := false) znt (rfl)) ?_
      refine gnt ?_
      refine gc_condF rfl rfl ?_
      refine gc_skip ?_
      refine gx_block_normal ?_
      refine gx_then ?_
      refine gc_region ?_
      refine gp zad ?_
      refine gp zmv ?_
      refine gl_nil ?_
      refine zrd (k + 1) ?_ ?_
      · show n1 - (k + 1) < n1 - k
        omega
      · exact zlp (show k + 1 ≤ n1 by omega)
    · refine gc_exit ?_
      refine gx_then_exit ?_
      refine gx_round_exit ?_
      refine gx_block_hit ?_
      refine gx_then ?_
      refine gsr ?_
      refine gp zas ?_
      refine gnt ?_
      refine gc_ret ?_
      refine gx_ret1 rfl (by conv => lhs; whnf) ?_
      exact ze ()

set_option maxHeartbeats 1000000 in
set_option maxRecDepth 20000 in
theorem alive23_ok {w : World} {F : Nat → Prop} (h : stars [] w F) {ea : Nat → Addr} {es : List Nat} [Has es 3] [Has es 4] (hE : GErr es w (fun k => ¬ F k) 153 ea)  :
    Calls Tryd.prog 8 #[] w (Post w F (fun _ : Unit => .bool true) (fun _ => [])) := by
  refine g_enter (env := []) Tryd.func8 rfl h Tryd.ntmps8 rfl rfl ?_
  refine gsr ?_
  refine gp zas ?_
  refine gnt ?_
  refine gsr ?_
  refine zc ?_ (c := fun w1 F1 F2 h1 h2 hd hst => sparse_ok (s := aliveS) h1 (hE.mv hst.still))
  rintro ⟨a4, c4⟩
  rw [alive_par.1, alive_par.2]
  refine gp zmv ?_
  refine gp zex ?_
  refine gp zex ?_
  refine gp zas ?_
  refine gp zas ?_
  refine gnt ?_
  refine gc_seq ?_
  refine gc_fact (fun w' hw => St.lsPtr hw (rd := RdOpS) (by repeat (first | exact Pick.here | apply Pick.there)) (by decide)) (fun hla => ?_)
  obtain ⟨ga, oa, hla⟩ := hla
  subst hla
  refine gc_region ?_
  refine gp zmv ?_
  refine gp (r_bool (c := true) (r_eqnil (k := 0) rfl (by kernel_rfl)) rfl) ?_
  refine gp zmv ?_
  refine gq zmv ?_
  refine gq zln ?_
  refine gq (r_bool (c := true) zei (rfl)) ?_
  refine gp zpk ?_
  refine gp zmv ?_
  refine gq zmv ?_
  refine gq (r_val (v' := .pointer (some ⟨ga, oa + 0 * 6, none⟩)) (zia (hm := by simp)) (by simp)) ?_
  refine gq zfa ?_
  refine gq (r_ldKind (i := 0) Ty.row_3 (by repeat (first | exact Pick.here | apply Pick.there)) rfl rfl) ?_
  refine gq (r_bool (c := true) zei (rfl)) ?_
  refine gp zpk ?_
  refine gp zmv ?_
  refine gq zmv ?_
  refine gq (r_val (v' := .pointer (some ⟨ga, oa + 1 * 6, none⟩)) (zia (hm := by simp)) (by simp)) ?_
  refine gq zfa ?_
  refine gq (r_ldKind (i := 1) Ty.row_3 (by repeat (first | exact Pick.here | apply Pick.there)) rfl rfl) ?_
  refine gq (r_bool (c := true) zei (rfl)) ?_
  refine gp zpk ?_
  refine gp zas ?_
  refine gnt ?_
  refine gc_ret ?_
  refine gx_ret1 rfl (by conv => lhs; whnf) ?_
  exact ze ()

end Go.Proofs.YthicckleihbomaaDoor

