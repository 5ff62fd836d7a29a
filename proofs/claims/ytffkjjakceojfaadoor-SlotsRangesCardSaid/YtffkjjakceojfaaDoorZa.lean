/- Walks, by program (wg.py) out of a spec. -/
import Derived.Test.YtffkjjakceojfaaDoorDb
import Derived.Test.YtffkjjakceojfaaDoorPlT
import Derived.Test.YtffkjjakceojfaaDoorEngP
import Derived.Test.YtffkjjakceojfaaDoorEngK
namespace Go.Proofs.YtffkjjakceojfaaDoor
open Go
set_option linter.unusedVariables false
set_option linter.unusedSimpArgs false

theorem byte_shr {n : Int} {wd k : Nat} {i : Int} (hi : i = (wd : Int) - 1 - k) (hk : k < wd) (hw : wd ≤ 8) :
    Value.int .u8 (IntKind.u8.wrap (n.fdiv (2 ^ (min (8 * i).toNat IntKind.i64.bits)))) = B8 (byteAt n (wd - 1 - k)) := by
  subst hi
  have e : min (8 * ((wd : Int) - 1 - k)).toNat IntKind.i64.bits = 8 * (wd - 1 - k) := by simp only [IntKind.bits]; omega
  rw [e, Int.fdiv_eq_ediv_of_nonneg _ (by exact Int.le_of_lt (Int.pow_pos (by omega)))]
  simp only [B8, byteAt, Value.int.injEq, true_and]
  generalize n / 2 ^ (8 * (wd - 1 - k)) = m
  have h1 : IntKind.u8.wrap m = m % 256 := by simp [IntKind.wrap, IntKind.bits, IntKind.signed]
  rw [h1, UInt8.toNat_ofNat']
  omega
theorem valN_snoc (l : List UInt8) (b : UInt8) : valN (l ++ [b]) = valN l * 256 + b.toNat := by simp [valN, List.foldl_append]
theorem RdList.single {α : Type} {rd : List Value → α → Prop} {w : World} {A : Nat → Prop} {size : Nat} {a : Option Addr} {cs : List Value} {x : α} (hr : RdRow w A size a 1 cs) (hx : rd cs x) : RdList rd w A size a 1 [x] :=
  ⟨[cs], by simpa using hr, by simpa using hr.1, rfl, fun i c y h1 h2 => by
    cases i with
    | zero => simp at h1 h2; subst h1; subst h2; exact hx
    | succ i => simp at h1⟩
theorem rd_le {L L' : List Res} {w : World} {F2 : Nat → Prop} {e size n c : Nat} {a : Option Addr} {xs : List Value} (h2 : stars L w F2) (hp : Pick L (rowR e size a n c xs) L') : n ≤ c := by
  obtain ⟨F', h', hs⟩ := stars_pick hp h2; exact h'.2.1
theorem St.rowNil {w0 w : World} {F0 : Nat → Prop} {e size : Nat} {L : List Res} (h : St w0 F0 L w) : St w0 F0 (rowR e size none 0 0 [] :: L) w := by
  obtain ⟨F, hF, hst⟩ := h; exact ⟨F, stars_row_nil hF, hst⟩
theorem RdRow.none {w : World} {A : Nat → Prop} {size n : Nat} {xs : List Value} (h : RdRow w A size none n xs) : n = 0 ∧ xs = [] := by
  have h0 : n = 0 := by
    rcases Nat.eq_zero_or_pos n with h0 | h0
    · exact h0
    · obtain ⟨_, _, ha, _⟩ := h.2.2 h0; cases ha
  subst h0
  exact ⟨rfl, List.length_eq_zero_iff.1 (by simpa using h.1)⟩

theorem take_snoc' {l : List UInt8} {k : Nat} (h : k < l.length) : l.take (k + 1) = l.take k ++ [l.getD k 0] := by
  rw [List.take_add_one, List.getElem?_eq_getElem h]; simp [List.getD, h]
theorem take_take31 (r : List UInt8) : r.take (r.take 31).length = r.take 31 := by
  rw [List.length_take]
  by_cases h : r.length ≤ 31
  · rw [Nat.min_eq_right h, List.take_length, List.take_of_length_le h]
  · rw [Nat.min_eq_left (by omega)]
theorem conv_len {m : Nat} (h : m ≤ 255) : Value.int .u8 (IntKind.u8.wrap (m : Int)) = B8 (UInt8.ofNat m) := by
  rw [wrap_u8 (by omega) (by omega), B8, UInt8.toNat_ofNat', Nat.mod_eq_of_lt (by omega)]
theorem wrap_cong {x : Int} : IntKind.i64.wrap x % 18446744073709551616 = x % 18446744073709551616 := by
  simp only [IntKind.wrap, IntKind.bits, IntKind.signed]
  simp
  split <;> omega
theorem wrap_eq {x y : Int} (h : x % 18446744073709551616 = y % 18446744073709551616) : IntKind.i64.wrap x = IntKind.i64.wrap y := by
  simp only [IntKind.wrap, IntKind.bits, IntKind.signed]
  simp only [show ((2 : Int) ^ 64) = 18446744073709551616 by decide, h]
theorem shl8 {m : Nat} : IntKind.i64.wrap (IntKind.i64.wrap (m : Int) * 2 ^ (min (8 : Int).toNat IntKind.i64.bits)) = IntKind.i64.wrap ((m * 256 : Nat) : Int) := by
  have e : (2 : Int) ^ (min (8 : Int).toNat IntKind.i64.bits) = 256 := by decide
  rw [e]
  apply wrap_eq
  have := wrap_cong (x := (m : Int))
  rw [Int.mul_emod, this, ← Int.mul_emod]
  simp
theorem orW {m : Nat} {b : UInt8} (h : m < 72057594037927936) : bitop .or .i64 (IntKind.i64.wrap ((m * 256 : Nat) : Int)) (b.toNat : Int) = IntKind.i64.wrap ((m * 256 + b.toNat : Nat) : Int) := by
  have hb := b.toNat_lt
  have e : m * 256 ||| b.toNat = m * 256 + b.toNat := by
    have := Nat.shiftLeft_add_eq_or_of_lt (i := 8) (b := b.toNat) (by omega) m
    rw [Nat.shiftLeft_eq] at this
    exact this.symm
  have h64 : (2 : Nat) ^ 64 = 18446744073709551616 := by decide
  have h0 : (BitVec.ofInt IntKind.i64.bits (IntKind.i64.wrap ((m * 256 : Nat) : Int))).toNat = m * 256 := by
    show (BitVec.ofInt 64 _).toNat = _
    rw [BitVec.toNat_ofInt, show (((2 ^ 64 : Nat)) : Int) = 18446744073709551616 by decide, wrap_cong]
    omega
  have h1 : (BitVec.ofInt IntKind.i64.bits (IntKind.i64.wrap ((m * 256 : Nat) : Int)) ||| BitVec.ofInt IntKind.i64.bits ((b.toNat : Nat) : Int)).toNat = m * 256 + b.toNat := by
    rw [BitVec.toNat_or, h0, BitVec.ofInt_natCast, BitVec.toNat_ofNat]
    simp only [IntKind.bits]
    rw [h64, Nat.mod_eq_of_lt (by omega), e]
  show IntKind.i64.wrap ((BitVec.ofInt IntKind.i64.bits (IntKind.i64.wrap ((m * 256 : Nat) : Int)) ||| BitVec.ofInt IntKind.i64.bits ((b.toNat : Nat) : Int)).toNat : Int) = _
  rw [h1]
theorem wrap_big {x : Nat} (h : 9223372036854775808 ≤ x) (h2 : x < 18446744073709551616) : IntKind.i64.wrap (x : Int) < 0 := by
  simp only [IntKind.wrap, IntKind.bits, IntKind.signed]
  simp
  split <;> omega
theorem valN_lt7 {l : List UInt8} {k : Nat} (h : k < 8) : valN (l.take k) < 72057594037927936 := by
  refine Nat.lt_of_lt_of_le (valN_lt _) ?_
  have : (l.take k).length ≤ 7 := by rw [List.length_take]; omega
  exact Nat.le_trans (Nat.pow_le_pow_right (by decide) this) (by decide)
section
variable {P : Program} {w0 : World} {F0 : Nat → Prop} {L : List Res} {n : Nat} {env : Env}
theorem gx_ret3 {fn : Func} {R : Ending → World → Prop} {t u s : Tmp} {v x y : Value} (hr : fn.results = #[.tmp t, .tmp u, .tmp s]) (hv : ev n env (.tmp t) = v) (hx : ev n env (.tmp u) = x) (hy : ev n env (.tmp s) = y)
    (hR : ∀ w, St w0 F0 L w → R (.returned (.tuple #[v, x, y])) w) : Gx w0 F0 L (bodyPost P fn R) .ret n env :=
  gx_end (fun w _ => by simp [results, hr, fr_tmp' hv, fr_tmp' hx, fr_tmp' hy]) hR
end

attribute [local irreducible] Gl Gc Gx Gs Runs Wt

set_option maxHeartbeats 400000 in
theorem cloneBytes_ok {w : World} {F : Nat → Prop} {n c : Nat} {a : Option Addr} {xs : List Value} (h : stars [] w F) (hx : RdRow w (fun k => ¬ F k) 1 a n xs) (h1 : ∀ u ∈ xs, u.oneCell' = true) (hb : n ≤ 1099511627776) :
    Calls Tryd.prog 28 #[.slice a n c] w (Post w F (fun r : Option Addr × Nat => .slice r.1 n r.2) (fun r => [rowR 5 1 r.1 n r.2 xs])) := by
  refine g_enter (env := [(0, .slice a n c)]) Tryd.func28 rfl h Tryd.ntmps28 rfl rfl ?_
  refine gsr ?_
  refine gp zas ?_
  refine gnt ?_
  refine gc_seq ?_
  refine gsr ?_
  refine gp zmv ?_
  refine gp zen ?_
  refine gnt ?_
  refine gif rfl (fun hc4 => ?_) (fun hc4 => ?_)
  · refine gsr ?_
    refine gp zas ?_
    refine gnt ?_
    refine gc_ret ?_
    refine gx_then_ret ?_
    refine gx_ret1 rfl (by conv => lhs; whnf) ?_
    have ha : a = none := by cases a <;> simp_all
    subst ha
    obtain ⟨rfl, rfl⟩ := hx.none
    exact fun w' hw => ⟨(none, 0), rfl, hw.rowNil.sel (by repeat (first | exact Sel.nil | (apply Sel.cons; · (repeat (first | exact Pick.here | apply Pick.there)))))⟩
  · refine gc_skip ?_
    refine gx_then ?_
    refine gsr ?_
    refine ze0 fun b5 => ?_
    refine gp zmv ?_
    refine gl_append (wt0 rfl) rfl rfl (by repeat (first | exact Pick.here | apply Pick.there)) Ty.el_32 (fun w' hw => hw.rdOld hx) h1 (by simp only [maxLen]; omega) (by omega) ?_
    intro a1 c1
    refine gp zas ?_
    refine gnt ?_
    refine gc_ret ?_
    refine gx_ret1 rfl (by conv => lhs; whnf) ?_
    rw [Nat.zero_add]
    exact fun w' hw => ⟨(a1, c1), rfl, hw.sel (by repeat (first | exact Sel.nil | (apply Sel.cons; · (repeat (first | exact Pick.here | apply Pick.there)))))⟩

set_option maxHeartbeats 400000 in
theorem slot_ok {w : World} {F : Nat → Prop} {c : Int} {a : Option Addr} {n cc : Nat} {r : List UInt8} (h : stars [] w F) (hK : KR w (fun k => ¬ F k)) (hr : RdRow w (fun k => ¬ F k) 1 a n (r.map B8)) (hc : n ≤ cc) :
    Calls Tryd.prog 17 #[.int .i64 c, .slice a n cc] w (Post w F (fun _ : Unit => scV (slotS c r)) (fun _ => [])) := by
  have hn : n = r.length := by have := hr.1; simp at this; omega
  have hm31 := take31 r
  have hm : (r.take 31).length = min 31 r.length := List.length_take
  have hrow := hr.cutY (h := (r.take 31).length) (by omega) hc
  rw [take_take31] at hrow
  have hb8 := beN_length (mx0 c) 8
  refine g_enter (env := [(0, .int .i64 c), (1, .slice a n cc)]) Tryd.func17 rfl h Tryd.ntmps17 rfl rfl ?_
  refine gsr ?_
  refine zal fun b4 => ?_
  refine gnt ?_
  refine gsr ?_
  refine zal fun b5 => ?_
  refine gl_eqc (cs' := (List.replicate 64 (0 : UInt8)).map B8) (by repeat (first | exact Pick.here | apply Pick.there)) (by simp [B8]) ?_
  refine gnt ?_
  refine gsr ?_
  refine gp zmv ?_
  refine gp (r_int (j := mx0 c) r_max rfl) ?_
  refine gp zas ?_
  refine gnt ?_
  refine gc_seq ?_
  refine gsr ?_
  refine gp zmv ?_
  refine gnt ?_
  refine gc_block ?_
  refine gc_loop (α := Nat) (fun k => [pureR (k ≤ 8), blk b4 37 (List.replicate 64 (.int .u8 0)), blk b5 37 (((beN (mx0 c) 8).take k ++ List.replicate (64 - k) 0).map B8)]) (fun k => [(11, .int .i64 (k : Int))]) [6, 12, 13, 14, 15, 16, 17, 18, 19, 20, 21, 22] (fun k => 8 - k) 0 ?_ ?_ ?_
  · refine env_start (by kernel_rfl)
  · simp only [List.take_zero, List.nil_append, Nat.sub_zero]
    exact zlp (Nat.zero_le _)
  · intro k u
    refine gc_pureR (fun hk => ?_)
    replace hk : k ≤ 8 := hk
    refine gsr ?_
    refine gp zlt ?_
    refine gnt ?_
    refine gc_seq ?_
    refine gif rfl (fun hc12 => ?_) (fun hc12 => ?_)
    · try simp only at hc12
      have hk' : k < 8 := by omega
      refine gc_skip ?_
      refine gx_then ?_
      refine gc_seq ?_
      refine gc_block ?_
      refine gsr ?_
      refine gp zmv ?_
      refine gp zas ?_
      refine gnt ?_
      refine gc_region ?_
      refine gp zmv ?_
      refine gp zmv ?_
      refine gp zmv ?_
      refine gp zsb ?_
      refine gp zml ?_
      refine gp zhr ?_
      refine gp (r_val zci (byte_shr (wd := 8) (k := k) (i := 7 - (k : Int)) (by omega) hk' (by decide))) ?_
      refine gp zib ?_
      refine gl_stY (l := (beN (mx0 c) 8).take k ++ List.replicate (64 - k) 0) k (by simp; omega) (slot_step hk') ?_
      refine gl_nil ?_
      refine gx_block_normal ?_
      refine gx_then ?_
      refine gc_region ?_
      refine gp zad ?_
      refine gp zmv ?_
      refine gl_nil ?_
      refine zrd (k + 1) ?_ ?_
      · show 8 - (k + 1) < 8 - k
        omega
      · exact zlp (show k + 1 ≤ 8 by omega)
    · try simp only at hc12
      have hk' : k = 8 := by omega
      subst hk'
      refine gc_eqc (g := b5) (cs' := (beN (mx0 c) 8 ++ List.replicate 56 0).map B8) (by repeat (first | exact Pick.here | apply Pick.there)) (by rw [List.take_of_length_le (by omega)]) ?_
      refine gc_exit ?_
      refine gx_then_exit ?_
      refine gx_round_exit ?_
      refine gx_block_hit ?_
      refine gx_then ?_
      refine gc_seq ?_
      refine gc_regionT 6 (by kernel_rfl) (by kernel_rfl) ?_
      refine sp (r_slice_arr (l := 9) (h := 40) rfl Ty.arr_37 Ty.sz_5 ⟨_, rfl⟩ ⟨_, rfl⟩ (by omega) (by omega) (by omega)) ?_
      refine sp zmv ?_
      refine sp zmv ?_
      refine sp zln ?_
      refine sp (r_int (j := (((r.take 31).length : Nat) : Int)) r_min (by split <;> omega)) ?_
      refine sp (r_slice_slice (a := a) (m := n) (c := cc) (l := 0) (h := (r.take 31).length) rfl Ty.sl_32 Ty.sz_5 rfl ⟨_, rfl⟩ (Nat.zero_le _) (by omega)) ?_
      refine gs_nil ?_
      refine gl_copy (news := (r.take 31).map B8) (hr := fun w' hw => hw.rdOld hrow) (hj := by omega) (h1 := one_B8 _) (hl := by simp; omega) (k := ?_)
      refine gl_eqc (cs' := (updY 9 (r.take 31) (beN (mx0 c) 8 ++ List.replicate 56 0)).map B8) (by repeat (first | exact Pick.here | apply Pick.there)) (updL_updY 9 _ _) ?_
      refine gp zas ?_
      refine gnt ?_
      refine gsr ?_
      refine gp zmv ?_
      refine gp (r_val zci (conv_len (m := (r.take 31).length) (by omega))) ?_
      refine gp zib ?_
      refine gl_stY (l := (updY 9 (r.take 31) (beN (mx0 c) 8 ++ List.replicate 56 0))) (v := UInt8.ofNat (r.take 31).length) 8 (by simp [updY]; omega) rfl ?_
      refine gnt ?_
      refine gsr ?_
      refine gp (r_slice_arr (l := 0) (h := 40) rfl Ty.arr_37 Ty.sz_5 rfl ⟨_, rfl⟩ (by omega) (by omega) (by omega)) ?_
      refine ze1 fun b34 => ?_
      refine zc (fun _ => ?_) (c := fun w1 F1 F2 h1 h2 hd hst => of_ok (dom := 5) (parts := [body7 (mx0 c) (r.take 31)]) h1 (hK.mv hst.still) (RdList.single (rd_row (xs := [.slice (some ⟨b5, 0 + 0 * 1, none⟩) (40 - 0) (64 - 0)]) h2 hd (by repeat (first | exact Pick.here | apply Pick.there))) ⟨_, _, _, rfl, by decide, (by have hx := rd_blkY (l := ((updY 9 (r.take 31) (beN (mx0 c) 8 ++ List.replicate 56 0)).set 8 (UInt8.ofNat (r.take 31).length))) (o := 0) (m := 40) h2 hd (by repeat (first | exact Pick.here | apply Pick.there)) (by simp [updY]; omega) (by decide); rw [slot_body hm31] at hx; exact hx)⟩) (by simp only [pcost, List.map_cons, List.map_nil, List.sum_cons, List.sum_nil, body7_len hm31]; omega))
      refine zal fun b8 => ?_
      refine zsN ?_
      refine gnt ?_
      refine gc_seq ?_
      refine gc_regionT 2 (by kernel_rfl) (by kernel_rfl) ?_
      refine sp (r_slice_arr (l := 40) (h := 64) rfl Ty.arr_37 Ty.sz_5 ⟨_, rfl⟩ rfl (by omega) (by omega) (by omega)) ?_
      refine sp (r_slice_arr (l := 0) (h := 16) rfl Ty.arr_69 Ty.sz_5 rfl rfl (by omega) (by omega) (by omega)) ?_
      refine gs_nil ?_
      refine gl_copy (news := (sum7 (mx0 c) (r.take 31)).map B8) (hr := fun w' hw => (by have hx := hw.rdBlkY (l := sum7 (mx0 c) (r.take 31)) (o := 0) (m := 16) (by repeat (first | exact Pick.here | apply Pick.there)) (by rw [sum7_len]; omega) (by decide); rw [List.drop_zero, List.take_of_length_le (by rw [sum7_len]; omega)] at hx; exact hx)) (hj := by omega) (h1 := one_B8 _) (hl := by simp [updY]; omega) (k := ?_)
      refine gl_eqc (cs' := sc (slotS c r)) (by repeat (first | exact Pick.here | apply Pick.there)) ((updL_updY 40 _ _).trans (congrArg (List.map B8) (slot_build hm31))) ?_
      refine gnt ?_
      refine gsr ?_
      refine gp (zL (sg := sc (slotS c r))) ?_
      refine zsA (new := sc (slotS c r)) (sc_length _) (sc_one _) ?_
      refine gnt ?_
      refine gc_ret ?_
      refine gx_retc rfl rfl (ld_aggS Ty.row_37 Ty.sz_37 (by repeat (first | exact Pick.here | apply Pick.there)) (by (simp only [List.drop_succ_cons, List.drop_zero, List.take_succ_cons, List.take_zero, List.cons_append, List.nil_append, List.append_assoc, drop_dc, drop_dc', take_dc, take_dc', drop_L, drop_L', take_L, take_L', len_L, Nat.reduceLeDiff, Nat.reduceSub, Nat.reduceAdd, Nat.le_refl, List.length_cons, List.length_append, List.length_nil, dc_length, List.drop_nil, List.take_nil, List.append_nil, List.length_map, List.length_replicate]; first | done | rfl)) (by first | rfl | (simp only [List.drop_succ_cons, List.drop_zero, List.take_succ_cons, List.take_zero, List.cons_append, List.nil_append, List.append_assoc, drop_dc, drop_dc', take_dc, take_dc', drop_L, drop_L', take_L, take_L', len_L, Nat.reduceLeDiff, Nat.reduceSub, Nat.reduceAdd, Nat.le_refl, List.length_cons, List.length_append, List.length_nil, dc_length, List.drop_nil, List.take_nil, List.append_nil, List.length_map, List.length_replicate]; first | done | omega))) ?_
      exact ze ()

set_option maxHeartbeats 400000 in
theorem right_ok {w : World} {F : Nat → Prop} {g : Nat} {d : DS} (h : stars [DiskR g d] w F) (hk : DOk d) {i : Int} :
    Calls Tryd.prog 26 #[.pointer (some ⟨g, 0, none⟩), .int .i64 i] w (Post w F (fun _ : Unit => .bool (decide (0 ≤ i) && decide (i < (d.n : Int) - 1))) (fun _ => [DiskR g d])) := by
  have hn4 := hk.n
  refine g_enter (env := [(0, .pointer (some ⟨g, 0, none⟩)), (1, .int .i64 i)]) Tryd.func26 rfl h Tryd.ntmps26 rfl rfl ?_
  refine gsr ?_
  refine gp zas ?_
  refine gnt ?_
  refine gc_seq ?_
  by_cases hi : 0 ≤ i
  · refine gc_region ?_
    refine gp zmv ?_
    refine gp (r_bool (c := true) zge (decide_eq_true hi)) ?_
    refine gp zmv ?_
    refine gq zmv ?_
    refine gq zmv ?_
    refine zc (fun _ => ?_) (c := fun w1 F1 F2 h1 h2 hd hst => size_ok h1)
    refine gq zsb ?_
    refine gq zlt ?_
    refine gp zpk ?_
    refine gp zas ?_
    refine gnt ?_
    refine gc_ret ?_
    refine gx_ret1 rfl (by conv => lhs; whnf) ?_
    exact fun w' hw => ⟨(), by rw [decide_eq_true hi, Bool.true_and], hw.sel (by repeat (first | exact Sel.nil | (apply Sel.cons; · (repeat (first | exact Pick.here | apply Pick.there)))))⟩
  · refine gc_region ?_
    refine gp zmv ?_
    refine gp (r_bool (c := false) zge (decide_eq_false hi)) ?_
    refine gp zmv ?_
    refine gn ?_
    refine gn ?_
    refine gn ?_
    refine gn ?_
    refine gn ?_
    refine gp zpk ?_
    refine gp zas ?_
    refine gnt ?_
    refine gc_ret ?_
    refine gx_ret1 rfl (by conv => lhs; whnf) ?_
    exact fun w' hw => ⟨(), by rw [decide_eq_false hi, Bool.false_and], hw.sel (by repeat (first | exact Sel.nil | (apply Sel.cons; · (repeat (first | exact Pick.here | apply Pick.there)))))⟩

end Go.Proofs.YtffkjjakceojfaaDoor
