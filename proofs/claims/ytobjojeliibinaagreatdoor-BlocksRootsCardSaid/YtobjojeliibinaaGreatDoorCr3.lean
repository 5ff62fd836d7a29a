/- Part 3. What is proved: see the last part: for every input the law returns true, and the input reads as it did. -/
import Derived.Test.YtobjojeliibinaaGreatDoorCr2
import Derived.Lib.ConvBytes
import Derived.Laws.MakeOwn
import Derived.MapKept
import Derived.Laws.IdiomRangeMap
import Derived.RangeFuncLeaves
import Derived.RangeFuncRecord
import Derived.RangeFuncSeq
/- Walks, by program (wg.py) out of a spec. -/
namespace Go.Proofs.YtobjojeliibinaaGreatDoor
open Go
set_option linter.unusedVariables false
set_option linter.unusedSimpArgs false


def dOf (K : Nat → UInt32) (dom : Int) (parts : List (List UInt8)) : Dig := ⟨hOf K dom parts, hOf_length K dom parts⟩
def hStep (K : Nat → UInt32) (s : HS) (p : List UInt8) : HS := hWrite K (hWrite K s (part4 p.length)) p
def hBeg (K : Nat → UInt32) (dom : Int) : HS := hWrite K hs0 [UInt8.ofNat (dom % 256).toNat]
def pcost (l : List (List UInt8)) : Nat := (l.map fun p => p.length + 4).sum
theorem hWrite_rest (K : Nat → UInt32) (s : HS) (b : List UInt8) : (hWrite K s b).rest.length < 64 := takes_rest K s.v (s.rest ++ b)
theorem hWrite_len (K : Nat → UInt32) (s : HS) (b : List UInt8) : (hWrite K s b).len = s.len + b.length := rfl
theorem hFold (K : Nat → UInt32) : ∀ (l : List (List UInt8)) (s : HS), s.rest.length < 64 → (l.foldl (hStep K) s).rest.length < 64 ∧ (l.foldl (hStep K) s).len = s.len + pcost l
  | [], s, h => ⟨h, by simp [pcost]⟩
  | p :: l, s, h => by
    have := hFold K l (hStep K s p) (hWrite_rest _ _ _)
    refine ⟨this.1, ?_⟩
    rw [List.foldl_cons, this.2]
    simp only [hStep, hWrite_len, part4, pcost, List.map_cons, List.sum_cons, List.length_cons, List.length_nil]
    omega
theorem pcost_take {l : List (List UInt8)} {k : Nat} {p : List UInt8} (h : l[k]? = some p) : pcost (l.take k) + (p.length + 4) ≤ pcost l := by
  have e : l = l.take k ++ p :: l.drop (k + 1) := by
    have hk : k < l.length := (List.getElem?_eq_some_iff.1 h).1
    rw [← (List.getElem?_eq_some_iff.1 h).2, List.getElem_cons_drop, List.take_append_drop]
  have : pcost l = pcost (l.take k) + (p.length + 4) + pcost (l.drop (k + 1)) := by
    conv => lhs; rw [e]
    simp [pcost]; omega
  omega
theorem byte_nat {n : Nat} : Value.int .u8 (IntKind.u8.wrap (n : Int)) = B8 (UInt8.ofNat n) := by
  have h1 : ∀ m : Int, IntKind.u8.wrap m = m % 256 := fun m => by simp [IntKind.wrap, IntKind.bits, IntKind.signed]
  simp only [B8, Value.int.injEq, true_and]
  rw [h1, UInt8.toNat_ofNat']; omega
theorem hOf_cut (K : Nat → UInt32) (dom : Int) (parts : List (List UInt8)) : ((fnc B8 32 (outByte (takes K (parts.foldl (hStep K) (hBeg K dom)).v (padded (parts.foldl (hStep K) (hBeg K dom)))).1)).drop 0).take 16 = dc (dOf K dom parts) := by
  rw [List.drop_zero, fnc_sum, ← List.map_take]; rfl
theorem foldl_step {α β : Type} (f : β → α → β) (l : List α) (s : β) {k : Nat} {x : α} (h : l[k]? = some x) : (l.take (k + 1)).foldl f s = f ((l.take k).foldl f s) x := by
  rw [List.take_add_one, h]; simp

attribute [local irreducible] Gl Gc Gx Gs Runs Wt

set_option maxHeartbeats 400000 in
theorem of_ok {w : World} {F : Nat → Prop} {dom : Int} {parts : List (List UInt8)} {a : Option Addr} {n c : Nat} (h : stars [] w F) (hK : KR w (fun k => ¬ F k)) (hx : RdList (RdBytes w fun k => ¬ F k) w (fun k => ¬ F k) 1 a n parts) (hb : 1 + pcost parts ≤ 1099511627776) :
    Calls Tryz.prog 87 #[.int .i64 dom, .slice a n c] w (Post w F (fun _ : Unit => .agg (dc (dOf Kc dom parts)).toArray) (fun _ => [])) := by
  have hnl := hx.len (by decide)
  have hmx := hx.max
  simp only [maxLen] at hmx
  refine g_enter (env := [(0, .int .i64 dom), (1, .slice a n c)]) Tryz.func87 rfl h Tryz.ntmps87 rfl rfl ?_
  refine gsr ?_
  refine zal fun b4 => ?_
  refine gnt ?_
  refine gsr ?_
  refine zc (fun g => ?_) (c := fun w1 F1 F2 h1 h2 hd hst => hnew_ok h1)
  refine gp zas ?_
  refine gnt ?_
  refine gsr ?_
  refine gp zmv ?_
  refine gp zmv ?_
  refine gp (r_val (r_conv_int rfl Ty.un_3 Ty.un_5) byte_int) ?_
  refine ze1 fun b14 => ?_
  refine zc (fun _ => ?_) (c := fun w1 F1 F2 h1 h2 hd hst => hwrite_ok (b := [UInt8.ofNat (dom % 256).toNat]) h1 (hK.mv hst.still) (rd_row (xs := [B8 (UInt8.ofNat (dom % 256).toNat)]) h2 hd (by repeat (first | exact Pick.here | apply Pick.there))) (by decide) (by simp [hs0]))
  refine gnt ?_
  refine gc_seq ?_
  refine gsr ?_
  refine gp zmv ?_
  refine gp zln ?_
  refine gp zmv ?_
  refine gnt ?_
  refine gc_block ?_
  refine gc_loop (α := Nat) (fun k => [pureR (k ≤ n), HashR g ((parts.take k).foldl (hStep Kc) (hBeg Kc dom)), blk b4 23 zD]) (fun k => [(18, .int .i64 (k : Int))]) [7, 8, 19, 20, 21, 22, 23, 24, 25, 26, 27, 28, 29, 30, 31, 32, 33, 34, 35, 36, 37, 38, 39, 40, 41] (fun k => n - k) 0 ?_ ?_ ?_
  · refine env_start (by kernel_rfl)
  · rintro w' hw
    obtain ⟨F', hF', hst'⟩ := hw.sel (M := [HashR g (hBeg Kc dom), blk b4 23 zD]) (by repeat (first | exact Sel.nil | (apply Sel.cons; · (repeat (first | exact Pick.here | apply Pick.there)))))
    exact ⟨F', stars_pure_mk (Nat.zero_le _) hF', hst'⟩
  · intro k u
    refine gc_pureR (fun hk => ?_)
    replace hk : k ≤ n := hk
    refine gsr ?_
    refine gp zlt ?_
    refine gnt ?_
    refine gc_seq ?_
    refine gif rfl (fun hc19 => ?_) (fun hc19 => ?_)
    · have hk' : k < n := by (try simp only at hc19); omega
      obtain ⟨ga, o, cs, y, ha, hA, hg, hra, hcl, hly, hrd⟩ := hx.elem (by decide) hk'
      subst ha
      obtain ⟨a', n', c', rfl, hn', hrb⟩ := hrd
      have hny : n' = y.length := by have := hrb.1; simp at this; omega
      have hpc := pcost_take hly
      have hf := hFold Kc (parts.take k) (hBeg Kc dom) (hWrite_rest _ _ _)
      have hbl : (hBeg Kc dom).len = 1 := rfl
      refine gc_skip ?_
      refine gx_then ?_
      refine gc_seq ?_
      refine gc_block ?_
      refine gsr ?_
      refine gp (r_indexAddr_slice rfl rfl Ty.sl_27 Ty.sz_86 (by omega) (by omega)) ?_
      refine gp (r_ld1o rfl Ty.row_86 (hra 0 _ rfl) hA) ?_
      refine gp zas ?_
      refine gnt ?_
      refine gsr ?_
      refine gp zmv ?_
      refine gp zln ?_
      refine gp zas ?_
      refine gnt ?_
      refine gsr ?_
      refine gp zmv ?_
      refine gp zmv ?_
      refine gp zhr ?_
      refine gp (r_val (r_conv_int rfl Ty.un_3 Ty.un_5) (byte_shrI (j := 24) rfl (by decide))) ?_
      refine gp zmv ?_
      refine gp zhr ?_
      refine gp (r_val (r_conv_int rfl Ty.un_3 Ty.un_5) (byte_shrI (j := 16) rfl (by decide))) ?_
      refine gp zmv ?_
      refine gp zhr ?_
      refine gp (r_val (r_conv_int rfl Ty.un_3 Ty.un_5) (byte_shrI (j := 8) rfl (by decide))) ?_
      refine gp zmv ?_
      refine gp (r_val (r_conv_int rfl Ty.un_3 Ty.un_5) byte_nat) ?_
      refine gl_bsls (vs := (part4 n').map B8) (wt0 rfl) Ty.sl_86 Ty.sz_5 Ty.zc_5 rfl rfl (one_B8 _) rfl rfl rfl ?_
      intro b36
      refine zc (fun _ => ?_) (c := fun w1 F1 F2 h1 h2 hd hst => hwrite_ok (b := part4 n') h1 (hK.mv hst.still) (rd_row (xs := (part4 n').map B8) h2 hd (by repeat (first | exact Pick.here | apply Pick.there))) hf.1 (by rw [hf.2]; simp only [part4, List.length_cons, List.length_nil]; omega))
      refine gnt ?_
      refine gc_region ?_
      refine gp zmv ?_
      refine gp zmv ?_
      refine zc (fun _ => ?_) (c := fun w1 F1 F2 h1 h2 hd hst => hwrite_ok (b := y) h1 (hK.mv hst.still) (hrb.mv hst.still) (hWrite_rest _ _ _) (by rw [hWrite_len, hf.2]; simp only [part4, List.length_cons, List.length_nil]; omega))
      refine gl_nil ?_
      refine gx_block_normal ?_
      refine gx_then ?_
      refine gc_region ?_
      refine gp zad ?_
      refine gp zmv ?_
      refine gl_nil ?_
      refine zrd (k + 1) ?_ ?_
      · show n - (k + 1) < n - k
        omega
      · rintro w' hw
        obtain ⟨F', hF', hst'⟩ := hw.sel (M := [HashR g _, blk b4 23 zD]) (by repeat (first | exact Sel.nil | (apply Sel.cons; · (repeat (first | exact Pick.here | apply Pick.there)))))
        refine ⟨F', stars_pure_mk (show k + 1 ≤ n by omega) ?_, hst'⟩
        rw [foldl_step _ _ _ hly]
        rw [hny] at hF'
        exact hF'
    · have hk' : k = parts.length := by (try simp only at hc19); omega
      subst hk'
      have hf := hFold Kc (parts.take parts.length) (hBeg Kc dom) (hWrite_rest _ _ _)
      rw [List.take_length] at hf
      have hbl : (hBeg Kc dom).len = 1 := rfl
      refine gc_exit ?_
      refine gx_then_exit ?_
      refine gx_round_exit ?_
      refine gx_block_hit ?_
      refine gx_then ?_
      refine gsr ?_
      refine gp zmv ?_
      refine zc (fun _ => ?_) (c := fun w1 F1 F2 h1 h2 hd hst => hsum_ok h1 (hK.mv hst.still) (by rw [List.take_length]; exact hf.1) (by rw [List.take_length, hf.2]; omega))
      rw [List.take_length]
      refine zal fun b9 => ?_
      refine gl_storeN (wt0 rfl) rfl rfl Ty.sz_216 fnc_length (by repeat (first | exact Pick.here | apply Pick.there)) (by simp) (fnc_one fun _ => rfl) (updL_all (by simp [fnc_length])) ?_
      refine gnt ?_
      refine gsr ?_
      refine gp (r_slice_arr (l := 0) (h := 16) rfl Ty.arr_216 Ty.sz_5 rfl ⟨_, rfl⟩ (by decide) (by decide) (by decide)) ?_
      refine gp (r_toArr rfl Ty.arr_23 (by decide)) ?_
      refine gp (r_ldN rfl Ty.row_23 Ty.sz_23 (by repeat (first | exact Pick.here | apply Pick.there)) (hOf_cut Kc dom parts) (dc_length _)) ?_
      refine gl_storeN (wt0 rfl) rfl rfl Ty.sz_23 (dc_length _) (by repeat (first | exact Pick.here | apply Pick.there)) (by decide) (dc_one _) (updL_all (by rw [dc_length]; rfl)) ?_
      refine gnt ?_
      refine gc_ret ?_
      refine gx_retc rfl rfl (ld_aggS Ty.row_23 Ty.sz_23 (by repeat (first | exact Pick.here | apply Pick.there)) (by (simp only [List.drop_succ_cons, List.drop_zero, List.take_succ_cons, List.take_zero, List.cons_append, List.nil_append, List.append_assoc, drop_dc, drop_dc', take_dc, take_dc', drop_L, drop_L', take_L, take_L', len_L, Nat.reduceLeDiff, Nat.reduceSub, Nat.reduceAdd, Nat.le_refl, List.length_cons, List.length_append, List.length_nil, dc_length, List.drop_nil, List.take_nil, List.append_nil, List.length_map, List.length_replicate]; first | done | rfl)) (by first | rfl | (simp only [List.drop_succ_cons, List.drop_zero, List.take_succ_cons, List.take_zero, List.cons_append, List.nil_append, List.append_assoc, drop_dc, drop_dc', take_dc, take_dc', drop_L, drop_L', take_L, take_L', len_L, Nat.reduceLeDiff, Nat.reduceSub, Nat.reduceAdd, Nat.le_refl, List.length_cons, List.length_append, List.length_nil, dc_length, List.drop_nil, List.take_nil, List.append_nil, List.length_map, List.length_replicate]; first | done | omega))) ?_
      exact ze ()

end Go.Proofs.YtobjojeliibinaaGreatDoor

/- Walks, by program (wg.py) out of a spec. -/
namespace Go.Proofs.YtobjojeliibinaaGreatDoor
open Go
set_option linter.unusedVariables false
set_option linter.unusedSimpArgs false


def idOf (b : Block) : Dig := if (wBlock b ⟨0, []⟩).err = 0 then dOf Kc 6 [(wBlock b ⟨0, []⟩).bs] else dig0
theorem RdMsg.three {w : World} {A : Nat → Prop} {cs : List Value} {m : Msg} (h : RdMsg w A cs m) : m.chg.blocks.length = 3 := by
  obtain ⟨v, t, p, r, c, h1, h2, h3, h4, h5, h6⟩ := h; obtain ⟨css, q, h1, h2, h3, h4, h5, h6⟩ := h6; exact h4
theorem RdList.single {α : Type} {rd : List Value → α → Prop} {w : World} {A : Nat → Prop} {size : Nat} {a : Option Addr} {cs : List Value} {x : α} (hr : RdRow w A size a 1 cs) (hx : rd cs x) : RdList rd w A size a 1 [x] :=
  ⟨[cs], by simpa using hr, by simpa using hr.1, rfl, fun i c y h1 h2 => by
    cases i with
    | zero => simp at h1 h2; subst h1; subst h2; exact hx
    | succ i => simp at h1⟩
theorem rd_le {L L' : List Res} {w : World} {F2 : Nat → Prop} {e size n c : Nat} {a : Option Addr} {xs : List Value} (h2 : stars L w F2) (hp : Pick L (rowR e size a n c xs) L') : n ≤ c := by
  obtain ⟨F', h', hs⟩ := stars_pick hp h2; exact h'.2.1

attribute [local irreducible] Gl Gc Gx Gs Runs Wt






set_option maxHeartbeats 400000 in
theorem id_ok {w : World} {F : Nat → Prop} {TE : Nat} {ea : Nat → Addr} {cs : List Value} {x : Block} (h : stars [] w F) {es : List Nat} [Has es 1] (hE : GErr es w (fun k => ¬ F k) TE ea) (hK : KR w (fun k => ¬ F k)) (hx : RdBlock w (fun k => ¬ F k) cs x) :
    Calls Tryz.prog 32 #[.agg cs.toArray] w (Post w F (fun _ : Unit => .tuple #[.agg (dc (idOf x)).toArray, eV TE ea (wBlock x ⟨0, []⟩).err]) (fun _ => [])) := by
  have hl := hx.len
  have hbl := wBlock_len x ⟨0, []⟩
  simp only [List.length_nil] at hbl
  refine g_enter (env := [(0, .agg cs.toArray)]) Tryz.func32 rfl h Tryz.ntmps32 rfl rfl ?_
  refine gsr ?_
  refine zbN fun b1 => ?_
  refine zal fun b2 => ?_
  refine gp zas ?_
  refine gnt ?_
  refine gsr ?_
  refine gp (r_ldN rfl Ty.row_30 Ty.sz_30 (by repeat (first | exact Pick.here | apply Pick.there)) (seg_all hl) hl) ?_
  refine zc (fun r8 => ?_) (c := fun w1 F1 F2 h1 h2 hd hst => bytes_ok h1 (hE.mv hst.still) (hx.mv hst.still))
  refine gp zmv ?_
  refine gp zex ?_
  refine gp zex ?_
  refine gp zas ?_
  refine gp zas ?_
  refine gnt ?_
  refine gc_seq ?_
  refine gsr ?_
  refine gp zmv ?_
  refine gp (r_nenil rfl (by kernel_rfl)) ?_
  refine gnt ?_
  refine gif rfl (fun hc12 => ?_) (fun hc12 => ?_)
  · try simp only at hc12
    have he : ¬ (wBlock x ⟨0, []⟩).err = 0 := by simpa using hc12
    refine gsr ?_
    refine gp zba ?_
    refine gp zmv ?_
    refine gl_storeN (wt0 rfl) (new := dc dig0) rfl rfl Ty.sz_23 (dc_length _) (by repeat (first | exact Pick.here | apply Pick.there)) (by decide) (dc_one _) (updL_all (by rw [dc_length]; rfl)) ?_
    refine gp zas ?_
    refine gnt ?_
    refine gc_ret ?_
    refine gx_then_ret ?_
    refine gx_retct rfl rfl (by conv => lhs; whnf) (ld_aggS Ty.row_23 Ty.sz_23 (by repeat (first | exact Pick.here | apply Pick.there)) (by (simp only [List.drop_succ_cons, List.drop_zero, List.take_succ_cons, List.take_zero, List.cons_append, List.nil_append, List.append_assoc, drop_dc, drop_dc', take_dc, take_dc', drop_L, drop_L', take_L, take_L', len_L, Nat.reduceLeDiff, Nat.reduceSub, Nat.reduceAdd, Nat.le_refl, List.length_cons, List.length_append, List.length_nil, dc_length, List.drop_nil, List.take_nil, List.append_nil, List.length_map, List.length_replicate]; first | done | rfl)) (by first | rfl | (simp only [List.drop_succ_cons, List.drop_zero, List.take_succ_cons, List.take_zero, List.cons_append, List.nil_append, List.append_assoc, drop_dc, drop_dc', take_dc, take_dc', drop_L, drop_L', take_L, take_L', len_L, Nat.reduceLeDiff, Nat.reduceSub, Nat.reduceAdd, Nat.le_refl, List.length_cons, List.length_append, List.length_nil, dc_length, List.drop_nil, List.take_nil, List.append_nil, List.length_map, List.length_replicate]; first | done | omega))) ?_
    exact fun w' hw => ⟨(), by rw [idOf, if_neg he], hw.sel (by repeat (first | exact Sel.nil | (apply Sel.cons; · (repeat (first | exact Pick.here | apply Pick.there)))))⟩
  · try simp only at hc12
    have he : (wBlock x ⟨0, []⟩).err = 0 := by simpa using hc12
    refine gc_skip ?_
    refine gx_then ?_
    refine gsr ?_
    refine gp zmv ?_
    refine ze1 fun b16 => ?_
    refine zc (fun _ => ?_) (c := fun w1 F1 F2 h1 h2 hd hst => of_ok (parts := [wOut (wBlock x ⟨0, []⟩)]) h1 (hK.mv hst.still) (RdList.single (rd_row (xs := [.slice r8.1 (wOut (wBlock x ⟨0, []⟩)).length r8.2]) h2 hd (by repeat (first | exact Pick.here | apply Pick.there))) ⟨_, _, _, rfl, rd_le (xs := (wOut (wBlock x ⟨0, []⟩)).map B8) h2 (by repeat (first | exact Pick.here | apply Pick.there)), rd_row (xs := (wOut (wBlock x ⟨0, []⟩)).map B8) h2 hd (by repeat (first | exact Pick.here | apply Pick.there))⟩) (by simp only [pcost, wOut, List.map_cons, List.map_nil, List.sum_cons, List.sum_nil]; split <;> simp <;> omega))
    refine gl_storeN (wt0 rfl) rfl rfl Ty.sz_23 (dc_length _) (by repeat (first | exact Pick.here | apply Pick.there)) (by decide) (dc_one _) (updL_all (by rw [dc_length]; rfl)) ?_
    refine gp zas ?_
    refine gnt ?_
    refine gc_ret ?_
    refine gx_retct rfl rfl (by conv => lhs; whnf) (ld_aggS Ty.row_23 Ty.sz_23 (by repeat (first | exact Pick.here | apply Pick.there)) (by (simp only [List.drop_succ_cons, List.drop_zero, List.take_succ_cons, List.take_zero, List.cons_append, List.nil_append, List.append_assoc, drop_dc, drop_dc', take_dc, take_dc', drop_L, drop_L', take_L, take_L', len_L, Nat.reduceLeDiff, Nat.reduceSub, Nat.reduceAdd, Nat.le_refl, List.length_cons, List.length_append, List.length_nil, dc_length, List.drop_nil, List.take_nil, List.append_nil, List.length_map, List.length_replicate]; first | done | rfl)) (by first | rfl | (simp only [List.drop_succ_cons, List.drop_zero, List.take_succ_cons, List.take_zero, List.cons_append, List.nil_append, List.append_assoc, drop_dc, drop_dc', take_dc, take_dc', drop_L, drop_L', take_L, take_L', len_L, Nat.reduceLeDiff, Nat.reduceSub, Nat.reduceAdd, Nat.le_refl, List.length_cons, List.length_append, List.length_nil, dc_length, List.drop_nil, List.take_nil, List.append_nil, List.length_map, List.length_replicate]; first | done | omega))) ?_
    exact fun w' hw => ⟨(), by rw [idOf, if_pos he, wOut, if_pos he, he, eV_zero], hw.sel (by repeat (first | exact Sel.nil | (apply Sel.cons; · (repeat (first | exact Pick.here | apply Pick.there)))))⟩

end Go.Proofs.YtobjojeliibinaaGreatDoor

/- The engine, part K: strings. -/
namespace Go.Proofs.YtobjojeliibinaaGreatDoor
open Go
set_option linter.unusedVariables false
set_option linter.unusedSimpArgs false

theorem St.mapL0 {w0 w : World} {F0 : Nat → Prop} {L L' : List Res} (h : St w0 F0 L w) (k : ∀ F, stars L w F → stars L' w F) : St w0 F0 L' w := by
  obtain ⟨F, hF, hst⟩ := h; exact ⟨F, k F hF, hst⟩
theorem str_append (a b : List UInt8) : str a ++ str b = str (a ++ b) := by
  apply ByteArray.ext
  simp [str]
section
variable {P : Program} {w0 : World} {F0 : Nat → Prop} {L : List Res} {Q : Exit → Act → World → Prop} {n : Fm} {env : Env} {ops : Array Oper} {rest : List Oper}
variable {d : Option Tmp} {t : Tmp} {ty : TypeId} {pos : String} {af : Array Edge} {gd : Option (Nat × Bool)}
theorem zcat {x y : Operand} {T T' : TypeId} {a b : List UInt8} [UNT P T .string] (hx : ev n env x = .string (str a) := by exact rfl) (hy : ev n env y = .string (str b) := by exact rfl) (hl : a.length + b.length ≤ 9223372036854775807 := by omega) :
    Runs P w0 F0 L n env ⟨d, .binOp .add T x y T', ty, pos, af, gd⟩ (.string (str (a ++ b))) := fun w _ => by
  simp [execOp, hx, hy, eqGuard, binOp, Op.stringOp, str_append]
  rw [str_size, str_size]
  omega
theorem zlS {x : Operand} {T : TypeId} {b : List UInt8} [UNT P T .string] (hx : ev n env x = .string (str b) := by exact rfl) :
    Runs P w0 F0 L n env ⟨d, .call ⟨.builtin .len, #[x], #[T]⟩, ty, pos, af, gd⟩ (.int .i64 b.length) := r_val (r_len_string hx UNT.h) (by rw [str_size])
/-- []byte(s). -/
theorem gl_ofs {x : Operand} {S T e : TypeId} {b : List UInt8} (hw : Wt ops n env ⟨some t, .convert S T x, ty, pos, af, gd⟩ true) (hx : ev n env x = .string (str b)) {u : TypeDesc} (hs : P.underlying S = some u) (hd : P.underlying T = some (.slice e)) (he : P.underlying e = some (.int .u8)) (hl : b.length ≤ maxLen)
    (k : ∀ g c, Gl P w0 F0 (rowR e 1 (some ⟨g, 0, none⟩) b.length c (b.map B8) :: L) ops Q rest n ((t, .slice (some ⟨g, 0, none⟩) b.length c) :: env)) : Gl P w0 F0 L ops Q (⟨some t, .convert S T x, ty, pos, af, gd⟩ :: rest) n env := by
  refine gl_effx (α := Nat × Nat) (L' := fun p => rowR e 1 (some ⟨p.1, 0, none⟩) b.length p.2 (b.map B8) :: L) (v := fun p => .slice (some ⟨p.1, 0, none⟩) b.length p.2) hw (fun w hst => ?_) (fun p => k p.1 p.2)
  have hr := Lib.run_convert_string_bytes (P := P) w S T e (str b) hs hd he
  refine ⟨(w.heap.size, grownCap w (str b).size 0 e), Lib.bytesWorld w e (str b), ?_, ?_⟩
  · simp only [execOp, hx, str_size] at hr ⊢
    simp [hr]
  · have hge := grownCap_ge w (str b).size 0 e
    have hle := grownCap_le_maxLen w (str b).size 0 e (by rw [str_size]; exact hl)
    have hsz : (Lib.bytesCells w e (str b)).size = grownCap w (str b).size 0 e := by
      simp only [Lib.bytesCells, Array.size_append, Array.size_map, Array.size_replicate]
      have : (str b).data.size = (str b).size := rfl
      omega
    refine hst.newRow (w' := Lib.bytesWorld w e (str b)) (cs := Lib.bytesCells w e (str b)) (fz := ((Lib.bytesCells w e (str b)).size, (Lib.bytesCells w e (str b)).size + 1)) ?_ ?_ ?_ ?_ ?_ ?_ ?_ hle ?_
    · apply Array.ext_getElem?
      intro j
      rw [Array.getElem?_push]
      split
      · rename_i h; subst h; exact Lib.bytesWorld_at_new w e (str b)
      · by_cases hj : j < w.heap.size
        · exact Lib.bytesWorld_at_old w e (str b) j hj
        · rw [Array.getElem?_eq_none (by rw [Lib.bytesWorld_size]; omega), Array.getElem?_eq_none (by omega)]
    · rfl
    · rfl
    · rfl
    · intro i hi h; simp only at h; omega
    · have e1 : (Lib.bytesCells w e (str b)).toList = b.map B8 ++ List.replicate (grownCap w (str b).size 0 e - (str b).size) (.int .u8 0) := by
        simp only [Lib.bytesCells, Array.toList_append, Array.toList_map, Array.toList_replicate]
        rfl
      rw [e1, Nat.mul_one]
      exact List.take_left' (by simp)
    · rw [str_size] at hge; exact hge
    · rw [hsz]; omega
theorem zob {x : Operand} {S T e : TypeId} {b : List UInt8} [UNT P S .string] [SLT P T e] [UNT P e (.int .u8)] (k : ∀ g c, Gl P w0 F0 (rowR e 1 (some ⟨g, 0, none⟩) b.length c (b.map B8) :: L) ops Q rest n ((t, .slice (some ⟨g, 0, none⟩) b.length c) :: env)) (hx : ev n env x = .string (str b) := by exact rfl)
    (hl : b.length ≤ maxLen := by simp only [maxLen]; omega) (hw : Wt ops n env ⟨some t, .convert S T x, ty, pos, af, gd⟩ true := by first | exact wt0 rfl | exact wtgT rfl rfl rfl rfl) : Gl P w0 F0 L ops Q (⟨some t, .convert S T x, ty, pos, af, gd⟩ :: rest) n env :=
  gl_ofs hw hx UNT.h (run_sliceT SLT.h) UNT.h hl k
/-- string(b) of an owned row. -/
theorem zso {x : Operand} {S T e : TypeId} {a : Option Addr} {m c : Nat} {b : List UInt8} {L' : List Res} [SLT P S e] [UNT P e (.int .u8)] [UNT P T .string] (hx : ev n env x = .slice a m c := by exact rfl) (hp : Pick L (rowR e 1 a m c (b.map B8)) L' := by repeat (first | exact Pick.here | apply Pick.there)) :
    Runs P w0 F0 L n env ⟨d, .convert S T x, ty, pos, af, gd⟩ (.string (str b)) := r_str hx SLT.h UNT.h UNT.h (fun w hw => hw.row hp)
/-- A block's cells, written another way. -/
theorem gl_eqc {g T : Nat} {cs cs' : List Value} {L' : List Res} (hp : Pick L (blk g T cs) L') (e : cs = cs') (k : Gl P w0 F0 (blk g T cs' :: L') ops Q rest n env) : Gl P w0 F0 L ops Q rest n env := by
  subst e
  exact fun w hw => k w (hw.mapL0 fun F hF => hp.stars hF)
end
instance {b : ByteArray} : One1 (.string b) := ⟨rfl⟩
end Go.Proofs.YtobjojeliibinaaGreatDoor

/- The engine, part L: two variables made in either order. -/
namespace Go.Proofs.YtobjojeliibinaaGreatDoor
open Go
set_option linter.unusedVariables false
theorem Sel.head {r : Res} {L M L' : List Res} (h : Sel L M L') : Sel (r :: L) M (r :: L') := by
  induction h with
  | nil => exact Sel.nil
  | cons p _ ih => exact Sel.cons (Pick.there p) ih
section
variable {P : Program} {w0 : World} {F0 : Nat → Prop} {K L : List Res} {Q : Exit → Act → World → Prop} {n : Fm} {env : Env} {ops : Array Oper} {listed : Array Bool} {fuel z : Nat}
end
end Go.Proofs.YtobjojeliibinaaGreatDoor

/- The engine, part M: make([]T, n), n read off; a block as a row. -/
namespace Go.Proofs.YtobjojeliibinaaGreatDoor
open Go
set_option linter.unusedVariables false
set_option linter.unusedSimpArgs false
theorem madeCells_one (v : Value) (n : Nat) : (madeCells #[v] n).toList = List.replicate n v := by
  apply List.ext_getElem?
  intro i
  simp only [madeCells, Array.toList_map, Array.toList_range, List.getElem?_map, List.getElem?_replicate, List.getElem?_range']
  by_cases h : i < n
  · simp [h, List.getElem?_range h, Nat.mod_one]
  · simp [h, List.getElem?_eq_none]
theorem stars_blk_row {w : World} {F : Nat → Prop} {L : List Res} {b e n : Nat} {cs : List Value} (h : stars (blk b e cs :: L) w F) (hl : cs.length = n) (hn : n ≤ maxLen) : stars (rowR e 1 (some ⟨b, 0, none⟩) n n cs :: L) w F := by
  obtain ⟨F1, F2, ⟨hF1, fz, h1, hz⟩, h2, hF, hd⟩ := h
  refine ⟨F1, F2, ⟨by omega, Nat.le_refl _, hn, .inr ⟨b, 0, cs.toArray, fz, rfl, hF1, h1, by simpa using hz, by simp; omega, ?_⟩⟩, h2, hF, hd⟩
  simp only [List.drop_zero]
  exact List.take_of_length_le (by omega)
section
variable {P : Program} {w0 : World} {F0 : Nat → Prop} {L : List Res} {Q : Exit → Act → World → Prop} {n : Fm} {env : Env} {ops : Array Oper} {rest : List Oper} {ty : TypeId} {pos : String} {af : Array Edge} {gd : Option (Nat × Bool)}
theorem gl_mk1 {t : Tmp} {T e bytes m : Nat} {x y : Operand} {z : Value} {k k' : IntKind} (hw : Wt ops n env ⟨some t, .makeSlice T x y, ty, pos, af, gd⟩ true) (ht : ElemT P T e 1 bytes) (hz : (P.info? e).map (·.zero) = some (some z)) (hzc : z.cells = #[z])
    (hx : ev n env x = .int k (m : Int)) (hy : ev n env y = .int k' (m : Int)) (hb : bytes * m ≤ 16777216) (hm : m ≤ 16777216)
    (K : ∀ b, Gl P w0 F0 (blk b e (List.replicate m z) :: L) ops Q rest n ((t, .slice (some ⟨b, 0, none⟩) m m) :: env)) : Gl P w0 F0 L ops Q (⟨some t, .makeSlice T x y, ty, pos, af, gd⟩ :: rest) n env := by
  refine gl_effx (α := Nat) (L' := fun b => blk b e (List.replicate m z) :: L) (v := fun b => .slice (some ⟨b, 0, none⟩) m m) hw (fun w hst => ?_) K
  obtain ⟨i, z', hi, hz', hs, hby, _⟩ := ht.info
  have hzz : z' = z := by rw [hi] at hz; simp only [Option.map_some, Option.some.injEq] at hz; rw [hz'] at hz; exact Option.some.inj hz
  subst hzz
  refine ⟨w.heap.size, { w with heap := w.heap.push (.cells (List.replicate m z').toArray e) }, ?_, hst.new⟩
  have hbb : (i.bytes : Int) * (m : Int) ≤ 281474976710656 := by
    rw [hby, ← Int.natCast_mul]; omega
  have hr := run_makeSlice (P := P) (w := w) T e i z' ht.sl hi hz' k k' (m : Int) (m : Int) (by omega) (Int.le_refl _) (by simp [hs]; omega) hbb (by omega)
  simp only [execOp, hx, hy, Sem.run_bind, hr, Result.andThen_ok, Sem.run_pure]
  simp only [Int.toNat_natCast, hs, Nat.mul_one, hzc]
  have e1 : madeCells #[z'] m = (List.replicate m z').toArray := by rw [← madeCells_one]
  rw [e1]
  first | rfl | simp [World.alloc]
end
section two
variable {P : Program} {w0 : World} {F0 : Nat → Prop} {K L : List Res} {Q : Exit → Act → World → Prop} {n : Fm} {env : Env} {ops : Array Oper} {listed : Array Bool} {fuel z : Nat}
/-- One of two comes, then the other. -/
theorem yo2 (i j : Nat) {oi oj : Oper} (hi : ops[i]? = some oi) (hj : ops[j]? = some oj)
    (ki : Gl P w0 F0 L ops (Exit.then (NextH P w0 F0 K ops Q fuel (listed.setIfInBounds i true) n) Q) [oi] n env) (kj : Gl P w0 F0 L ops (Exit.then (NextH P w0 F0 K ops Q fuel (listed.setIfInBounds j true) n) Q) [oj] n env)
    (hr : Region.ready .any ops listed = [i, j] := by kernel_rfl) : Gh P w0 F0 K L ops Q (fuel + 1) listed n env := fun w hst =>
  ⟨fun h => (by rw [hr] at h; cases h), fun x hx => by
    rw [hr] at hx
    rcases List.mem_cons.1 hx with rfl | hx
    · exact wpOpIn_of_list hi (ki w hst)
    · obtain rfl : x = j := by simpa using hx
      exact wpOpIn_of_list hj (kj w hst)⟩
theorem yo2s (i j : Nat) {oi oj : Oper} (hi : ops[i]? = some oi) (hj : ops[j]? = some oj)
    (ki : Gl P w0 F0 L ops (Exit.then (NextT P w0 F0 K ops Q z fuel (listed.setIfInBounds i true) n) Q) [oi] n env) (kj : Gl P w0 F0 L ops (Exit.then (NextT P w0 F0 K ops Q z fuel (listed.setIfInBounds j true) n) Q) [oj] n env)
    (hr : Region.ready .any ops listed = [i, j] := by kernel_rfl) : Gt P w0 F0 K L ops Q z (fuel + 1) listed n env := fun w hst =>
  ⟨fun h => (by rw [hr] at h; cases h), by rw [hr]; simp, fun x hx _ => by
    rw [hr] at hx
    rcases List.mem_cons.1 hx with rfl | hx
    · exact wpOpIn_of_list hi (ki w hst)
    · obtain rfl : x = j := by simpa using hx
      exact wpOpIn_of_list hj (kj w hst)⟩
end two
end Go.Proofs.YtobjojeliibinaaGreatDoor

/- Walks, by program (wg.py) out of a spec. -/
namespace Go.Proofs.YtobjojeliibinaaGreatDoor
open Go
set_option linter.unusedVariables false
set_option linter.unusedSimpArgs false


def quoN (n : Int) : Nat → Int
  | 0 => n
  | k + 1 => quoN n k / 256
theorem quoN_eq (n : Int) : ∀ k, quoN n k = n / 256 ^ k
  | 0 => by simp [quoN]
  | k + 1 => by rw [quoN, quoN_eq n k, Int.pow_succ, Int.ediv_ediv_of_nonneg (Int.le_of_lt (Int.pow_pos (by decide)))]
theorem quoN_range {n : Int} (h : I64 n) (h0 : 0 ≤ n) : ∀ k, 0 ≤ quoN n k ∧ quoN n k ≤ 9223372036854775807
  | 0 => ⟨h0, h.2⟩
  | k + 1 => by have := quoN_range h h0 k; simp only [quoN]; omega
theorem quo_step {n : Int} {k : Nat} (h : I64 n) (h0 : 0 ≤ n) : IntKind.i64.wrap ((quoN n k).tdiv 256) = quoN n (k + 1) := by
  have h1 := quoN_range h h0 k
  rw [Int.tdiv_eq_ediv_of_nonneg h1.1, quoN]
  exact wrap_i64 (by omega) (by omega)
theorem fits_zero {n : Int} {wd : Nat} (h0 : 0 ≤ n) : (quoN n wd = 0) ↔ n < 256 ^ wd := by
  have hp : (0 : Int) < 256 ^ wd := Int.pow_pos (by decide)
  rw [quoN_eq]
  refine ⟨fun h => ?_, fun h => Int.ediv_eq_zero_of_lt h0 h⟩
  have h1 := Int.mul_ediv_add_emod n (256 ^ wd)
  have h2 := Int.emod_lt_of_pos n hp
  rw [h, Int.mul_zero, Int.zero_add] at h1
  omega

attribute [local irreducible] Gl Gc Gx Gs Runs Wt

set_option maxHeartbeats 400000 in
theorem fits_ok {w : World} {F : Nat → Prop} {n : Int} {wd : Nat} (h : stars [] w F) (h1 : 1 ≤ wd) (h7 : wd ≤ 7) (hn : I64 n) :
    Calls Tryz.prog 188 #[.int .i64 n, .int .i64 (wd : Int)] w (Post w F (fun _ : Unit => .bool (decide (0 ≤ n ∧ n < 256 ^ wd))) (fun _ => [])) := by
  refine g_enter (env := [(0, .int .i64 n), (1, .int .i64 (wd : Int))]) Tryz.func188 rfl h Tryz.ntmps188 rfl rfl ?_
  refine gsr ?_
  refine gp zas ?_
  refine gnt ?_
  refine gc_seq ?_
  refine gsr ?_
  refine gp zmv ?_
  refine gp (r_bool (c := false) zlt (decide_eq_false (by omega))) ?_
  refine gp zmv ?_
  refine gq zmv ?_
  refine gq (r_bool (c := false) zgt (decide_eq_false (by omega))) ?_
  refine gp zpk ?_
  refine gp zmv ?_
  refine gq zmv ?_
  refine gq zlt ?_
  refine gp zpk ?_
  refine gnt ?_
  refine gif rfl (fun hc15 => ?_) (fun hc15 => ?_)
  · refine gsr ?_
    refine gp zas ?_
    refine gnt ?_
    refine gc_ret ?_
    refine gx_then_ret ?_
    refine gx_ret1 rfl (by conv => lhs; whnf) ?_
    rw [decide_eq_false (fun h => by omega)]
    exact ze ()
  · try simp only at hc15
    have h0 : 0 ≤ n := by omega
    refine gc_skip ?_
    refine gx_then ?_
    refine gc_seq ?_
    refine gsr ?_
    refine gp zas ?_
    refine gnt ?_
    refine gc_block ?_
    refine gc_loop (α := Nat) (fun k => [pureR (k ≤ wd)]) (fun k => [(5, .int .i64 (k : Int)), (0, .int .i64 (quoN n k))]) [16, 17, 18, 19, 20, 21, 22] (fun k => wd - k) 0 ?_ ?_ ?_
    · refine env_start (by kernel_rfl)
    · exact fun w' hw => zlp (Nat.zero_le _) (by repeat (first | exact Sel.nil | (apply Sel.cons; · (repeat (first | exact Pick.here | apply Pick.there))))) w' hw
    · intro k u
      refine gc_pureR (fun hk => ?_)
      replace hk : k ≤ wd := hk
      refine gc_seq ?_
      refine gsr ?_
      refine gp zmv ?_
      refine gp zmv ?_
      refine gp zlt ?_
      refine gnt ?_
      refine gif rfl (fun hc18 => ?_) (fun hc18 => ?_)
      · refine gc_skip ?_
        refine gx_then ?_
        refine gc_seq ?_
        refine gc_block ?_
        refine gc_region ?_
        refine gp zmv ?_
        refine gp (r_int zqu (quo_step hn h0)) ?_
        refine gp zas ?_
        refine gl_nil ?_
        refine gx_block_normal ?_
        refine gx_then ?_
        refine gc_region ?_
        refine gp zmv ?_
        refine gp zad ?_
        refine gp zas ?_
        refine gl_nil ?_
        refine zrd (k + 1) ?_ ?_
        · show wd - (k + 1) < wd - k
          omega
        · exact fun w' hw => zlp (show k + 1 ≤ wd by omega) (by repeat (first | exact Sel.nil | (apply Sel.cons; · (repeat (first | exact Pick.here | apply Pick.there))))) w' hw
      · try simp only at hc18
        have hk' : k = wd := by omega
        subst hk'
        refine gc_exit ?_
        refine gx_then_exit ?_
        refine gx_round_exit ?_
        refine gx_block_hit ?_
        refine gx_then ?_
        refine gsr ?_
        refine gp zmv ?_
        refine gp zei ?_
        refine gp zas ?_
        refine gnt ?_
        refine gc_ret ?_
        refine gx_ret1 rfl (by conv => lhs; whnf) ?_
        rw [show decide (quoN n k = 0) = decide (0 ≤ n ∧ n < 256 ^ k) from decide_eq_decide.2 (by rw [fits_zero h0]; exact ⟨fun h => ⟨h0, h⟩, fun h => h.2⟩)]
        exact ze ()


def numRow (n : Int) (wd k : Nat) : List Value := List.replicate (wd - k) (.int .u8 0) ++ ((beN n wd).drop (wd - k)).map B8
theorem numRow_zero (n : Int) (wd : Nat) : List.replicate wd (.int .u8 0) = numRow n wd 0 := by
  simp only [numRow, Nat.sub_zero]
  rw [List.drop_eq_nil_of_le (by rw [beN_length]; exact Nat.le_refl _)]; simp
theorem numRow_full (n : Int) (wd : Nat) : numRow n wd wd = (beN n wd).map B8 := by simp [numRow]
theorem numRow_length (n : Int) (wd k : Nat) (h : k ≤ wd) : (numRow n wd k).length = wd := by simp [numRow, beN_length]; try omega
theorem numRow_store {n : Int} {wd k o : Nat} (h : k < wd) (ho : o = wd - 1 - k) : updL (numRow n wd k) o [B8 (byteAt n k)] = numRow n wd (k + 1) := by
  subst ho
  have hb : (beN n wd).drop (wd - (k + 1)) = byteAt n k :: (beN n wd).drop (wd - k) := by
    have hl : wd - (k + 1) < (beN n wd).length := by rw [beN_length]; omega
    rw [List.drop_eq_getElem_cons hl, show wd - (k + 1) + 1 = wd - k by omega]
    congr 1
    simp only [beN, List.getElem_map, List.getElem_range]
    rw [show wd - 1 - (wd - (k + 1)) = k by omega]
  have e1 : wd - k = wd - 1 - k + 1 := by omega
  have e2 : wd - (k + 1) = wd - 1 - k := by omega
  simp only [updL, numRow, hb, List.length_singleton]
  rw [e2, e1, List.take_append_of_le_length (by simp), List.take_replicate, Nat.min_eq_left (by omega), List.drop_append, List.drop_replicate]
  simp
theorem byte_rem {n : Int} {k : Nat} (h : I64 n) (h0 : 0 ≤ n) : (.int .u8 (IntKind.u8.wrap ((quoN n k).tmod 256)) : Value) = B8 (byteAt n k) := by
  have h1 := quoN_range h h0 k
  rw [Int.tmod_eq_emod_of_nonneg h1.1, wrap_u8 (by omega) (by omega), byteAt, B8, quoN_eq]
  have e : (256 : Int) ^ k = 2 ^ (8 * k) := by rw [Int.pow_mul]; rfl
  rw [e, UInt8.toNat_ofNat']
  congr 1
  have := Int.emod_nonneg (n / 2 ^ (8 * k)) (show (256 : Int) ≠ 0 by decide)
  have := Int.emod_lt_of_pos (n / 2 ^ (8 * k)) (show (0 : Int) < 256 by decide)
  omega

set_option maxHeartbeats 400000 in
theorem refNumber_ok {w : World} {F : Nat → Prop} {n : Int} {wd : Nat} (h : stars [] w F) (h1 : 1 ≤ wd) (h7 : wd ≤ 7) (hn : I64 n) (h0 : 0 ≤ n) :
    Calls Tryz.prog 98 #[.int .i64 n, .int .i64 (wd : Int)] w (Post w F (fun b : Nat => .slice (some ⟨b, 0, none⟩) wd wd) (fun b => [rowR 5 1 (some ⟨b, 0, none⟩) wd wd ((beN n wd).map B8)])) := by
  refine g_enter (env := [(0, .int .i64 n), (1, .int .i64 (wd : Int))]) Tryz.func98 rfl h Tryz.ntmps98 rfl rfl ?_
  refine gsr ?_
  refine gp zas ?_
  refine gnt ?_
  refine gsr ?_
  refine gp zmv ?_
  refine gl_mk1 (z := .int .u8 0) (m := wd) (wt0 rfl) ELT.h (by kernel_rfl) rfl rfl rfl (by omega) (by omega) (fun b8 => ?_)
  refine gl_eqc (cs' := numRow n wd 0) (by repeat (first | exact Pick.here | apply Pick.there)) (numRow_zero n wd) ?_
  refine gp zas ?_
  refine gnt ?_
  refine gc_seq ?_
  refine gsr ?_
  refine gp zmv ?_
  refine gp (r_int zsb (show (wd : Int) - 1 = (wd : Int) - 1 - ((0 : Nat) : Int) by omega)) ?_
  refine gp zas ?_
  refine gnt ?_
  refine gc_block ?_
  refine gc_loop (α := Nat) (fun k => [pureR (k ≤ wd), blk b8 5 (numRow n wd k)]) (fun k => [(6, .int .i64 ((wd : Int) - 1 - (k : Int))), (0, .int .i64 (quoN n k))]) [11, 12, 13, 14, 15, 16, 17, 18, 19, 20, 21, 22] (fun k => wd - k) 0 ?_ ?_ ?_
  · refine env_start (by kernel_rfl)
  · exact fun w' hw => zlp (Nat.zero_le _) (by repeat (first | exact Sel.nil | (apply Sel.cons; · (repeat (first | exact Pick.here | apply Pick.there))))) w' hw
  · intro k u
    refine gc_pureR (fun hk => ?_)
    replace hk : k ≤ wd := hk
    refine gc_seq ?_
    refine gsr ?_
    refine gp zmv ?_
    refine gp zge ?_
    refine gnt ?_
    refine gif rfl (fun hc12 => ?_) (fun hc12 => ?_)
    · try simp only at hc12
      have hk' : k < wd := by omega
      refine gc_skip ?_
      refine gx_then ?_
      refine gc_seq ?_
      refine gc_block ?_
      refine gsr ?_
      refine gp zmv ?_
      refine gp zmv ?_
      refine gp zmv ?_
      refine gp zrm ?_
      refine gp (r_val zci (byte_rem hn h0)) ?_
      refine gp (zia) ?_
      refine gl_store1 (wt0 rfl) rfl rfl rfl Ty.sz_5 (by repeat (first | exact Pick.here | apply Pick.there)) (by rw [numRow_length n wd k hk]; omega) (numRow_store hk' (by omega)) ?_
      refine gnt ?_
      refine gc_region ?_
      refine gp zmv ?_
      refine gp (r_int zqu (quo_step hn h0)) ?_
      refine gp zas ?_
      refine gl_nil ?_
      refine gx_block_normal ?_
      refine gx_then ?_
      refine gc_region ?_
      refine gp zmv ?_
      refine gp (r_int zsb (show (wd : Int) - 1 - (k : Int) - 1 = (wd : Int) - 1 - ((k + 1 : Nat) : Int) by omega)) ?_
      refine gp zas ?_
      refine gl_nil ?_
      refine zrd (k + 1) ?_ ?_
      · show wd - (k + 1) < wd - k
        omega
      · exact fun w' hw => zlp (show k + 1 ≤ wd by omega) (by repeat (first | exact Sel.nil | (apply Sel.cons; · (repeat (first | exact Pick.here | apply Pick.there))))) w' hw
    · try simp only at hc12
      have hk' : k = wd := by omega
      subst hk'
      refine gc_exit ?_
      refine gx_then_exit ?_
      refine gx_round_exit ?_
      refine gx_block_hit ?_
      refine gx_then ?_
      refine gsr ?_
      refine gp zmv ?_
      refine gp zas ?_
      refine gnt ?_
      refine gc_ret ?_
      refine gx_ret1 rfl (by conv => lhs; whnf) ?_
      exact fun w' hw => ⟨b8, rfl, (hw.sel (M := [blk b8 5 _]) (by repeat (first | exact Sel.nil | (apply Sel.cons; · (repeat (first | exact Pick.here | apply Pick.there)))))).mapL0 fun F' hF' => by rw [numRow_full] at hF'; exact stars_blk_row hF' (by simp [beN_length]) (by simp only [maxLen]; omega)⟩

end Go.Proofs.YtobjojeliibinaaGreatDoor

/- Plain words: SHA-256 piece by piece is SHA-256 of the whole. No program in sight. -/
namespace Go.Proofs.YtobjojeliibinaaGreatDoor
set_option linter.unusedVariables false

def refPad (b : List UInt8) : List UInt8 := b ++ 128 :: (List.replicate (padN b.length) 0 ++ lenBytes b.length)
def refSum (K : Nat → UInt32) (b : List UInt8) : List UInt8 := (List.range 32).map (outByte (takes K v0 (refPad b)).1)
def framed (dom : Int) (parts : List (List UInt8)) : List UInt8 := UInt8.ofNat (dom % 256).toNat :: parts.flatMap fun p => part4 p.length ++ p

theorem takes_append (K : Nat → UInt32) (v : V8) (a b : List UInt8) : takes K v (a ++ b) = takes K (takes K v a).1 ((takes K v a).2 ++ b) := by
  fun_induction takes K v a with
  | case1 v a h ih =>
    rw [takes.eq_1 K v (a ++ b), dif_pos (by simp; omega), List.take_append_of_le_length h, List.drop_append_of_le_length h]
    exact ih
  | case2 v a h => rfl
theorem takes_mod (K : Nat → UInt32) (v : V8) (a : List UInt8) : (takes K v a).2.length % 64 = a.length % 64 := by
  fun_induction takes K v a with
  | case1 v a h ih => rw [ih, List.length_drop]; omega
  | case2 v a h => rfl
/-- What a hash is that was handed all these bytes. -/
def HAll (K : Nat → UInt32) (s : HS) (b : List UInt8) : Prop := takes K v0 b = (s.v, s.rest) ∧ s.len = b.length
theorem HAll.nil (K : Nat → UInt32) : HAll K hs0 [] := ⟨by rw [takes.eq_1, dif_neg (by simp)]; rfl, rfl⟩
theorem HAll.write {K : Nat → UInt32} {s : HS} {a : List UInt8} (h : HAll K s a) (b : List UInt8) : HAll K (hWrite K s b) (a ++ b) := by
  refine ⟨?_, ?_⟩
  · rw [takes_append, h.1]; rfl
  · simp [hWrite, h.2]
theorem HAll.sum {K : Nat → UInt32} {s : HS} {a : List UInt8} (h : HAll K s a) : hSum K s = refSum K a := by
  have hm : padN s.rest.length = padN a.length := by
    have e : s.rest.length % 64 = a.length % 64 := by
      have := takes_mod K v0 a
      rw [h.1] at this
      exact this
    unfold padN; rw [e]
  have e : takes K s.v (padded s) = takes K v0 (refPad a) := by
    rw [refPad, takes_append, h.1, padded, hm, h.2]
  rw [hSum, refSum, e]
theorem hOf_ref (K : Nat → UInt32) (dom : Int) (parts : List (List UInt8)) : hOf K dom parts = (refSum K (framed dom parts)).take 16 := by
  have h : ∀ (l : List (List UInt8)) (s : HS) (a : List UInt8), HAll K s a → HAll K (l.foldl (fun s p => hWrite K (hWrite K s (part4 p.length)) p) s) (a ++ l.flatMap fun p => part4 p.length ++ p) := by
    intro l
    induction l with
    | nil => intro s a h; simpa using h
    | cons p l ih =>
      intro s a h
      have := ih _ _ ((h.write (part4 p.length)).write p)
      simpa using this
  have := (h parts _ _ ((HAll.nil K).write [UInt8.ofNat (dom % 256).toNat])).sum
  rw [hOf, this]
  simp [framed]
end Go.Proofs.YtobjojeliibinaaGreatDoor

/- Walks, by program (wg.py) out of a spec. -/
namespace Go.Proofs.YtobjojeliibinaaGreatDoor
open Go
set_option linter.unusedVariables false
set_option linter.unusedSimpArgs false


instance {n : Nat} {x : Value} : Len (List.replicate n x) n := ⟨List.length_replicate⟩
theorem map_B8_snoc (l : List UInt8) (x : UInt8) : (l ++ [x]).map B8 = l.map B8 ++ [B8 x] := by simp
theorem take_snoc {l : List UInt8} {k : Nat} (h : k < l.length) : l.take (k + 1) = l.take k ++ [l.getD k 0] := by
  rw [List.take_add_one]; simp [List.getD, List.getElem?_eq_getElem h]
theorem rep_one {n : Nat} {v : Value} (hv : v.oneCell' = true) : ∀ u ∈ List.replicate n v, u.oneCell' = true := fun u hu => by rw [List.eq_of_mem_replicate hu]; exact hv
theorem word_eq (a b c d : UInt8) : a.toUInt32 * 16777216 + b.toUInt32 * 65536 + c.toUInt32 * 256 + d.toUInt32 = ((a.toUInt32 <<< UInt32.ofNat 24 ||| b.toUInt32 <<< UInt32.ofNat 16) ||| c.toUInt32 <<< UInt32.ofNat 8) ||| d.toUInt32 := by
  apply UInt32.toNat_inj.1
  have ha := a.toNat_lt; have hb := b.toNat_lt; have hc := c.toNat_lt; have hd := d.toNat_lt
  have e1 : (a.toUInt32 <<< UInt32.ofNat 24).toNat = a.toNat <<< 24 := by
    rw [UInt32.toNat_shiftLeft]; simp [Nat.shiftLeft_eq]; omega
  have e2 : (b.toUInt32 <<< UInt32.ofNat 16).toNat = b.toNat <<< 16 := by
    rw [UInt32.toNat_shiftLeft]; simp [Nat.shiftLeft_eq]; omega
  have e3 : (c.toUInt32 <<< UInt32.ofNat 8).toNat = c.toNat <<< 8 := by
    rw [UInt32.toNat_shiftLeft]; simp [Nat.shiftLeft_eq]; omega
  simp only [UInt32.toNat_or, e1, e2, e3, UInt32.toNat_add, UInt32.toNat_mul, UInt8.toNat_toUInt32]
  have f1 : a.toNat <<< 24 ||| b.toNat <<< 16 = (a.toNat * 256 + b.toNat) <<< 16 := by
    have : a.toNat <<< 24 = (a.toNat <<< 8) <<< 16 := by rw [← Nat.shiftLeft_add]
    rw [this, ← Nat.shiftLeft_or_distrib, ← Nat.shiftLeft_add_eq_or_of_lt (by omega : b.toNat < 2 ^ 8)]
    simp [Nat.shiftLeft_eq]
  have f2 : (a.toNat * 256 + b.toNat) <<< 16 ||| c.toNat <<< 8 = ((a.toNat * 256 + b.toNat) * 256 + c.toNat) <<< 8 := by
    have : (a.toNat * 256 + b.toNat) <<< 16 = ((a.toNat * 256 + b.toNat) <<< 8) <<< 8 := by rw [← Nat.shiftLeft_add]
    rw [this, ← Nat.shiftLeft_or_distrib, ← Nat.shiftLeft_add_eq_or_of_lt (by omega : c.toNat < 2 ^ 8)]
    simp [Nat.shiftLeft_eq]
  rw [f1, f2, ← Nat.shiftLeft_add_eq_or_of_lt (by omega : d.toNat < 2 ^ 8)]
  simp [Nat.shiftLeft_eq]
  omega
def rPadRow (b : List UInt8) (k : Nat) : List UInt8 := b ++ 128 :: List.replicate k 0
def rLenRow (b : List UInt8) (k : Nat) : List UInt8 := b ++ 128 :: (List.replicate (padN b.length) 0 ++ (List.range k).map fun i => UInt8.ofNat (b.length * 8 / 2 ^ (8 * (7 - i))))
theorem rPadRow_succ (b : List UInt8) (k : Nat) : (rPadRow b (k + 1)).map B8 = (rPadRow b k).map B8 ++ [.int .u8 0] := by
  have e : (.int .u8 0 : Value) = B8 0 := rfl
  rw [e]; simp [rPadRow, List.replicate_succ']
theorem rLenRow_zero (b : List UInt8) : rLenRow b 0 = rPadRow b (padN b.length) := by simp [rLenRow, rPadRow]
theorem rLenRow_succ (b : List UInt8) (k : Nat) : (rLenRow b (k + 1)).map B8 = (rLenRow b k).map B8 ++ [B8 (UInt8.ofNat (b.length * 8 / 2 ^ (8 * (7 - k))))] := by simp [rLenRow, List.range_succ]
theorem refPad_length (b : List UInt8) : (refPad b).length = b.length + 1 + padN b.length + 8 := by simp [refPad, lenBytes]; omega
theorem pad_hit' {m k : Nat} (h : k ≤ padN m) : (m + 1 + k) % 64 = 56 ↔ k = padN m := by unfold padN at *; omega
theorem row_byte {r : List UInt8} {e j : Nat} (he : e = j) (hj : j < r.length) : (r.map B8)[e]? = some (B8 (r.getD j 0)) := by
  subst he; rw [List.getElem?_map, List.getElem?_eq_getElem hj]; simp [List.getD, List.getElem?_eq_getElem hj]
theorem rotr' (x : UInt32) (n : Nat) : x >>> UInt32.ofNat n ||| x <<< UInt32.ofNat (32 - n) = rotr x n := UInt32.or_comm _ _
theorem word_take {r : List UInt8} {k : Nat} (hk : k < 16) (hr : 64 ≤ r.length) : (r.getD (4 * k) 0).toUInt32 * 16777216 + (r.getD (4 * k + 1) 0).toUInt32 * 65536 + (r.getD (4 * k + 2) 0).toUInt32 * 256 + (r.getD (4 * k + 3) 0).toUInt32 = sch (r.take 64) k := by
  have h : ∀ j, j < 64 → (r.take 64).getD j 0 = r.getD j 0 := fun j hj => by simp [List.getD, List.getElem?_take, hj]
  rw [sch_lo hk, wordAt, word_eq, h _ (by omega), h _ (by omega), h _ (by omega), h _ (by omega)]

attribute [local irreducible] Gl Gc Gx Gs Runs Wt



set_option maxHeartbeats 400000 in
theorem text_ok {w : World} {F : Nat → Prop} {d : Dig} (h : stars [] w F) :
    Calls Tryz.prog 189 #[.agg (dc d).toArray] w (Post w F (fun _ : Unit => .string (str d.l)) (fun _ => [])) := by
  refine g_enter (env := [(0, .agg (dc d).toArray)]) Tryz.func189 rfl h Tryz.ntmps189 rfl rfl ?_
  refine gsr ?_
  refine zbN fun b1 => ?_
  refine gp zas ?_
  refine gnt ?_
  refine gsr ?_
  refine ze0 fun b6 => ?_
  refine gp zas ?_
  refine gnt ?_
  refine gc_seq ?_
  refine gsr ?_
  refine gp zL ?_
  refine gp zmv ?_
  refine gnt ?_
  refine gc_block ?_
  refine gc_loop (α := Nat × Option Addr × Nat) (fun x => [pureR (x.1 ≤ 16), rowR 5 1 x.2.1 x.1 x.2.2 ((d.l.take x.1).map B8)]) (fun x => [(3, .slice x.2.1 x.1 x.2.2), (8, .int .i64 (x.1 : Int))]) [5, 9, 10, 11, 12, 13, 14, 15] (fun x => 16 - x.1) (0, some ⟨b6, 0, none⟩, 0) ?_ ?_ ?_
  · refine env_start (by kernel_rfl)
  · exact zlp (Nat.zero_le _)
  · intro x u
    obtain ⟨k, a, c⟩ := x
    refine gc_pureR (fun hk => ?_)
    replace hk : k ≤ 16 := hk
    refine gsr ?_
    refine gp zlt ?_
    refine gnt ?_
    refine gc_seq ?_
    refine gif rfl (fun hc9 => ?_) (fun hc9 => ?_)
    · try simp only at hc9
      have hk' : k < 16 := by omega
      refine gc_skip ?_
      refine gx_then ?_
      refine gc_seq ?_
      refine gc_block ?_
      refine gsr ?_
      refine gp (r_index1 (v := B8 (d.l.getD k 0)) rfl rfl Ty.arr_23 Ty.sz_5 Ty.row_5 (by omega) (by omega) (row_byte (by omega) (by rw [d.h]; exact hk'))) ?_
      refine gp zas ?_
      refine gnt ?_
      refine gc_region ?_
      refine gp zmv ?_
      refine gp zmv ?_
      refine ze1 fun b13 => ?_
      refine zapo fun a14 c14 => ?_
      refine gp zas ?_
      refine gl_nil ?_
      refine gx_block_normal ?_
      refine gx_then ?_
      refine gc_region ?_
      refine gp zad ?_
      refine gp zmv ?_
      refine gl_nil ?_
      refine zrd ((k + 1, a14, c14)) ?_ ?_
      · show 16 - (k + 1) < 16 - k
        omega
      · exact zlq (show k + 1 ≤ 16 by omega) (by rw [take_snoc (by rw [d.h]; exact hk'), map_B8_snoc])
    · try simp only at hc9
      have hk' : k = 16 := by omega
      subst hk'
      have e : d.l.take 16 = d.l := List.take_of_length_le (by rw [d.h]; decide)
      rw [e]
      refine gc_exit ?_
      refine gx_then_exit ?_
      refine gx_round_exit ?_
      refine gx_block_hit ?_
      refine gx_then ?_
      refine gsr ?_
      refine gp zmv ?_
      refine gp (zso (b := d.l)) ?_
      refine gp zas ?_
      refine gnt ?_
      refine gc_ret ?_
      refine gx_ret1 rfl (by conv => lhs; whnf) ?_
      exact ze ()

set_option maxHeartbeats 400000 in
theorem k_ok {w : World} {F : Nat → Prop} {i : Nat} (h : stars [] w F) (hi : i < 64) :
    Calls Tryz.prog 156 #[.int .i64 (i : Int)] w (Post w F (fun _ : Unit => W32 (Kc i)) (fun _ => [])) := by
  refine g_enter (env := [(0, .int .i64 (i : Int))]) Tryz.func156 rfl h Tryz.ntmps156 rfl rfl ?_
  refine gsr ?_
  refine gp zas ?_
  refine gnt ?_
  refine gsr ?_
  refine gp (r_buildA (cs := fnc W32 64 Kc) Ty.zc_260 Ty.arr_260 Ty.sz_259 (by kernel_rfl)) ?_
  refine gp zmv ?_
  refine gp (r_index1 (v := W32 (Kc i)) rfl rfl Ty.arr_260 Ty.sz_259 Ty.row_259 (by omega) (by omega) (by rw [show (i : Int).toNat * 1 = i by omega]; exact fnc_get hi)) ?_
  refine gp zas ?_
  refine gnt ?_
  refine gc_ret ?_
  refine gx_ret1 rfl (by conv => lhs; whnf) ?_
  exact ze ()

set_option maxHeartbeats 400000 in
theorem right_ok {w : World} {F : Nat → Prop} {x : UInt32} {j : Nat} (h : stars [] w F) (h1 : 1 ≤ j) (h2 : j ≤ 31) :
    Calls Tryz.prog 157 #[W32 x, .int .u64 (j : Int)] w (Post w F (fun _ : Unit => W32 (rotr x j)) (fun _ => [])) := by
  refine g_enter (env := [(0, W32 x), (1, .int .u64 (j : Int))]) Tryz.func157 rfl h Tryz.ntmps157 rfl rfl ?_
  refine gsr ?_
  refine gp zas ?_
  refine gnt ?_
  refine gsr ?_
  refine gp zmv ?_
  refine gp zmv ?_
  refine gp (r_shrw (j := j) rfl rfl rfl (by omega)) ?_
  refine gp zmv ?_
  refine gp zmv ?_
  refine gp (r_int (r_sub rfl rfl) (show IntKind.u64.wrap (32 - (j : Int)) = ((32 - j : Nat) : Int) by rw [wrap_u64 (by omega) (by omega)]; omega)) ?_
  refine gp (r_shlw (j := 32 - j) rfl rfl rfl (by omega)) ?_
  refine gp zwo ?_
  refine gp zas ?_
  refine gnt ?_
  refine gc_ret ?_
  refine gx_ret1 rfl (by conv => lhs; whnf) ?_
  rw [rotr']
  exact ze ()

end Go.Proofs.YtobjojeliibinaaGreatDoor

/- Walks, by program (wg.py) out of a spec. -/
namespace Go.Proofs.YtobjojeliibinaaGreatDoor
open Go
set_option linter.unusedVariables false
set_option linter.unusedSimpArgs false


/-- The reference's writer in block g. -/
def OutR (g : Nat) (s : WS) : Res := exR fun p : Option Addr × Nat => allR [blk g 212 [.slice p.1 s.bs.length p.2, .int .i64 (s.err : Int)], rowR 5 1 p.1 s.bs.length p.2 (s.bs.map B8)]
theorem out_open {g : Nat} {s : WS} {L : List Res} {w : World} {F : Nat → Prop} (h : stars (OutR g s :: L) w F) :
    ∃ a c, stars (blk g 212 [.slice a s.bs.length c, .int .i64 (s.err : Int)] :: rowR 5 1 a s.bs.length c (s.bs.map B8) :: L) w F := by
  obtain ⟨⟨a, c⟩, h⟩ := stars_ex h
  exact ⟨a, c, stars_all h⟩
theorem St.out {w0 w : World} {F0 : Nat → Prop} {g m c : Nat} {k : Int} {a : Option Addr} {xs : List Value} {s : WS} {L : List Res}
    (h : St w0 F0 (blk g 212 [.slice a m c, .int .i64 k] :: rowR 5 1 a m c xs :: L) w) (hk : k = (s.err : Int)) (hm : m = s.bs.length) (hx : xs = s.bs.map B8) : St w0 F0 (OutR g s :: L) w := by
  subst hk; subst hm; subst hx
  obtain ⟨F, hF, hst⟩ := h
  exact ⟨F, stars_ex_mk (a, c) (stars_all_mk hF), hst⟩
theorem fit_iff {n : Int} {wd : Nat} (h7 : wd ≤ 7) : ¬ (n < 0 ∨ (wd < 8 ∧ 2 ^ (8 * wd) ≤ n)) ↔ 0 ≤ n ∧ n < 256 ^ wd := by
  have e : (256 : Int) ^ wd = 2 ^ (8 * wd) := by rw [Int.pow_mul]; rfl
  rw [e]; omega
theorem wNum_fail {n : Int} {wd : Nat} {s : WS} (h7 : wd ≤ 7) (he : s.err = 0) (hf : ¬ (0 ≤ n ∧ n < 256 ^ wd)) : wNum n wd s = ⟨1, s.bs⟩ := by
  have h : (n < 0 ∨ (wd < 8 ∧ 2 ^ (8 * wd) ≤ n)) := by
    rcases Classical.em (n < 0 ∨ (wd < 8 ∧ 2 ^ (8 * wd) ≤ n)) with h | h
    · exact h
    · exact absurd ((fit_iff h7).1 h) hf
  unfold wNum wFail; rw [if_pos h, if_pos he]
theorem wNum_fit {n : Int} {wd : Nat} {s : WS} (h7 : wd ≤ 7) (he : s.err = 0) (hf : 0 ≤ n ∧ n < 256 ^ wd) : wNum n wd s = ⟨0, s.bs ++ beN n wd⟩ := by
  have h := (fit_iff h7).2 hf
  unfold wNum wFix; rw [if_neg h, if_pos he, he]
theorem out_mk {g m c : Nat} {k : Int} {a : Option Addr} {xs : List Value} {s : WS} {w : World} {F : Nat → Prop}
    (h : stars [blk g 212 [.slice a m c, .int .i64 k], rowR 5 1 a m c xs] w F) (hk : k = (s.err : Int)) (hm : m = s.bs.length) (hx : xs = s.bs.map B8) : stars [OutR g s] w F := by
  subst hk; subst hm; subst hx
  exact stars_ex_mk (a, c) (stars_all_mk h)
theorem wDig_fit {d : Dig} {s : WS} (he : s.err = 0) : wDig d s = ⟨0, s.bs ++ d.l⟩ := by unfold wDig wFix; rw [if_pos he, he]

attribute [local irreducible] Gl Gc Gx Gs Runs Wt

set_option maxHeartbeats 400000 in
theorem onum_ok {w : World} {F : Nat → Prop} {g : Nat} {s : WS} {n : Int} {wd : Nat} (h : stars [OutR g s] w F) (h1 : 1 ≤ wd) (h7 : wd ≤ 7) (hn : s.err = 0 → I64 n) (hb : s.bs.length + wd ≤ 1099511627776) :
    Calls Tryz.prog 152 #[.pointer (some ⟨g, 0, none⟩), .int .i64 n, .int .i64 (wd : Int)] w (Post w F (fun _ : Unit => .tuple #[]) (fun _ => [OutR g (wNum n wd s)])) := by
  obtain ⟨a0, c0, h'⟩ := out_open h
  refine g_enter (env := [(0, .pointer (some ⟨g, 0, none⟩)), (1, .int .i64 n), (2, .int .i64 (wd : Int))]) Tryz.func152 rfl h' Tryz.ntmps152 rfl rfl ?_
  refine gc_seq ?_
  refine gc_seq ?_
  by_cases he : s.err = 0
  · by_cases hf : 0 ≤ n ∧ n < 256 ^ wd
    · refine gc_region ?_
      refine gp zmv ?_
      refine gp znc ?_
      refine gp zfa ?_
      refine gp zl ?_
      refine gp (r_bool (c := true) zei (decide_eq_true (by omega))) ?_
      refine gp zmv ?_
      refine gq zmv ?_
      refine gq zmv ?_
      refine zc (fun _ => ?_) (c := fun w1 F1 F2 h1 h2 hd hst => fits_ok h1 (by assumption) (by assumption) (hn he))
      rw [decide_eq_true hf]
      refine gq znt ?_
      refine gp zpk ?_
      refine gnt ?_
      refine gc_condF rfl rfl ?_
      refine gc_skip ?_
      refine gx_then ?_
      refine gsr ?_
      refine gp zmv ?_
      refine gp znc ?_
      refine gp zfa ?_
      refine gp zl ?_
      refine gp (r_bool (c := true) zei (decide_eq_true (by omega))) ?_
      refine gnt ?_
      refine gc_condT rfl rfl ?_
      refine gc_regionH [] ?_
      refine yp 0 rfl zmv ?_
      refine yp 1 rfl zmv ?_
      refine yp 2 rfl znc ?_
      refine yp 3 rfl zfa ?_
      refine yp 5 rfl zmv ?_
      refine yp 6 rfl zmv ?_
      refine yo2 4 7 rfl rfl ?_ ?_
      · refine gp zl ?_
        refine yx ?_
        refine yo 7 rfl ?_
        refine zc (fun b32 => ?_) (c := fun w1 F1 F2 h1 h2 hd hst => refNumber_ok h1 (by assumption) (by assumption) (hn he) hf.1)
        refine yx ?_
        refine yo 8 rfl ?_
        refine zapo (a2 := some ⟨b32, 0, none⟩) (c2 := wd) (news := (beN n wd).map B8) (fun a33 c33 => ?_) (h1 := one_B8 _)
        refine yx ?_
        refine yp 9 rfl znc ?_
        refine yp 10 rfl zfa ?_
        refine yo 11 rfl ?_
        refine zs1 ?_
        refine yx ?_
        refine yd ?_
        refine gx_ret0' rfl ?_
        rw [wNum_fit h7 he hf]
        exact fun w' hw => ⟨(), rfl, St.out (hw.sel (by repeat (first | exact Sel.nil | (apply Sel.cons; · (repeat (first | exact Pick.here | apply Pick.there)))))) (by rw [he]) (by simp [beN_length]) (by simp)⟩
      · refine zc (fun b32 => ?_) (c := fun w1 F1 F2 h1 h2 hd hst => refNumber_ok h1 (by assumption) (by assumption) (hn he) hf.1)
        refine yx ?_
        refine yo 4 rfl ?_
        refine gp zl ?_
        refine yx ?_
        refine yo 8 rfl ?_
        refine zapo (a2 := some ⟨b32, 0, none⟩) (c2 := wd) (news := (beN n wd).map B8) (fun a33 c33 => ?_) (h1 := one_B8 _)
        refine yx ?_
        refine yp 9 rfl znc ?_
        refine yp 10 rfl zfa ?_
        refine yo 11 rfl ?_
        refine zs1 ?_
        refine yx ?_
        refine yd ?_
        refine gx_ret0' rfl ?_
        rw [wNum_fit h7 he hf]
        exact fun w' hw => ⟨(), rfl, St.out (hw.sel (by repeat (first | exact Sel.nil | (apply Sel.cons; · (repeat (first | exact Pick.here | apply Pick.there)))))) (by rw [he]) (by simp [beN_length]) (by simp)⟩
    · refine gc_region ?_
      refine gp zmv ?_
      refine gp znc ?_
      refine gp zfa ?_
      refine gp zl ?_
      refine gp (r_bool (c := true) zei (decide_eq_true (by omega))) ?_
      refine gp zmv ?_
      refine gq zmv ?_
      refine gq zmv ?_
      refine zc (fun _ => ?_) (c := fun w1 F1 F2 h1 h2 hd hst => fits_ok h1 (by assumption) (by assumption) (hn he))
      rw [decide_eq_false hf]
      refine gq znt ?_
      refine gp zpk ?_
      refine gnt ?_
      refine gc_condT rfl rfl ?_
      refine gc_region ?_
      refine gp zmv ?_
      refine gp znc ?_
      refine gp zfa ?_
      refine zs1 ?_
      refine gnt ?_
      refine gsr ?_
      refine gp zmv ?_
      refine gp znc ?_
      refine gp zfa ?_
      refine gp zl ?_
      refine gp (r_bool (c := false) zei rfl) ?_
      refine gnt ?_
      refine gc_condF rfl rfl ?_
      refine gc_skip ?_
      refine gx_ret0' rfl ?_
      rw [wNum_fail h7 he hf]
      exact fun w' hw => ⟨(), rfl, St.out (hw.sel (by repeat (first | exact Sel.nil | (apply Sel.cons; · (repeat (first | exact Pick.here | apply Pick.there)))))) rfl rfl rfl⟩
  · refine gc_region ?_
    refine gp zmv ?_
    refine gp znc ?_
    refine gp zfa ?_
    refine gp zl ?_
    refine gp (r_bool (c := false) zei (decide_eq_false (by omega))) ?_
    refine gp zmv ?_
    refine gn ?_
    refine gn ?_
    refine gn ?_
    refine gn ?_
    refine gp zpk ?_
    refine gnt ?_
    refine gc_condF rfl rfl ?_
    refine gc_skip ?_
    refine gx_then ?_
    refine gsr ?_
    refine gp zmv ?_
    refine gp znc ?_
    refine gp zfa ?_
    refine gp zl ?_
    refine gp (r_bool (c := false) zei (decide_eq_false (by omega))) ?_
    refine gnt ?_
    refine gc_condF rfl rfl ?_
    refine gc_skip ?_
    refine gx_ret0' rfl ?_
    rw [wNum_bad he]
    exact fun w' hw => ⟨(), rfl, St.out (hw.sel (by repeat (first | exact Sel.nil | (apply Sel.cons; · (repeat (first | exact Pick.here | apply Pick.there)))))) rfl rfl rfl⟩

set_option maxHeartbeats 400000 in
theorem odigest_ok {w : World} {F : Nat → Prop} {g : Nat} {s : WS} {d : Dig} (h : stars [OutR g s] w F) (hb : s.bs.length + 16 ≤ 1099511627776) :
    Calls Tryz.prog 153 #[.pointer (some ⟨g, 0, none⟩), .agg (dc d).toArray] w (Post w F (fun _ : Unit => .tuple #[]) (fun _ => [OutR g (wDig d s)])) := by
  obtain ⟨a0, c0, h'⟩ := out_open h
  have hdl := d.h
  refine g_enter (env := [(0, .pointer (some ⟨g, 0, none⟩)), (1, .agg (dc d).toArray)]) Tryz.func153 rfl h' Tryz.ntmps153 rfl rfl ?_
  refine gsr ?_
  refine zbN fun b3 => ?_
  refine gnt ?_
  refine gc_seq ?_
  by_cases he : s.err = 0
  · refine gc_region ?_
    refine gp zmv ?_
    refine gp znc ?_
    refine gp zfa ?_
    refine gp zl ?_
    refine gp (r_bool (c := true) zei (decide_eq_true (by omega))) ?_
    refine gnt ?_
    refine gc_condT rfl rfl ?_
    refine gc_regionH [] ?_
    refine yp 0 rfl zmv ?_
    refine yp 1 rfl zmv ?_
    refine yp 2 rfl znc ?_
    refine yp 3 rfl zfa ?_
    refine yo2 4 5 rfl rfl ?_ ?_
    · refine gp zl ?_
      refine yx ?_
      refine yo 5 rfl ?_
      refine gp zL ?_
      refine yx ?_
      refine yo 6 rfl ?_
      refine zc (fun _ => ?_) (c := fun w1 F1 F2 h1 h2 hd hst => text_ok (d := d) h1)
      refine yx ?_
      refine yo 7 rfl ?_
      refine zob fun g16 c16 => ?_
      refine yx ?_
      refine yo 8 rfl ?_
      refine zapo (a2 := some ⟨g16, 0, none⟩) (c2 := c16) (news := d.l.map B8) (fun a17 c17 => ?_) (h1 := one_B8 _)
      refine yx ?_
      refine yp 9 rfl znc ?_
      refine yp 10 rfl zfa ?_
      refine yo 11 rfl ?_
      refine zs1 ?_
      refine yx ?_
      refine yd ?_
      refine gx_ret0' rfl ?_
      rw [wDig_fit he]
      exact fun w' hw => ⟨(), rfl, St.out (hw.sel (by repeat (first | exact Sel.nil | (apply Sel.cons; · (repeat (first | exact Pick.here | apply Pick.there)))))) (by rw [he]) (by simp [d.h]) (by simp)⟩
    · refine gp zL ?_
      refine yx ?_
      refine yo2 4 6 rfl rfl ?_ ?_
      · refine gp zl ?_
        refine yx ?_
        refine yo 6 rfl ?_
        refine zc (fun _ => ?_) (c := fun w1 F1 F2 h1 h2 hd hst => text_ok (d := d) h1)
        refine yx ?_
        refine yo 7 rfl ?_
        refine zob fun g16 c16 => ?_
        refine yx ?_
        refine yo 8 rfl ?_
        refine zapo (a2 := some ⟨g16, 0, none⟩) (c2 := c16) (news := d.l.map B8) (fun a17 c17 => ?_) (h1 := one_B8 _)
        refine yx ?_
        refine yp 9 rfl znc ?_
        refine yp 10 rfl zfa ?_
        refine yo 11 rfl ?_
        refine zs1 ?_
        refine yx ?_
        refine yd ?_
        refine gx_ret0' rfl ?_
        rw [wDig_fit he]
        exact fun w' hw => ⟨(), rfl, St.out (hw.sel (by repeat (first | exact Sel.nil | (apply Sel.cons; · (repeat (first | exact Pick.here | apply Pick.there)))))) (by rw [he]) (by simp [d.h]) (by simp)⟩
      · refine zc (fun _ => ?_) (c := fun w1 F1 F2 h1 h2 hd hst => text_ok (d := d) h1)
        refine yx ?_
        refine yo2 4 7 rfl rfl ?_ ?_
        · refine gp zl ?_
          refine yx ?_
          refine yo 7 rfl ?_
          refine zob fun g16 c16 => ?_
          refine yx ?_
          refine yo 8 rfl ?_
          refine zapo (a2 := some ⟨g16, 0, none⟩) (c2 := c16) (news := d.l.map B8) (fun a17 c17 => ?_) (h1 := one_B8 _)
          refine yx ?_
          refine yp 9 rfl znc ?_
          refine yp 10 rfl zfa ?_
          refine yo 11 rfl ?_
          refine zs1 ?_
          refine yx ?_
          refine yd ?_
          refine gx_ret0' rfl ?_
          rw [wDig_fit he]
          exact fun w' hw => ⟨(), rfl, St.out (hw.sel (by repeat (first | exact Sel.nil | (apply Sel.cons; · (repeat (first | exact Pick.here | apply Pick.there)))))) (by rw [he]) (by simp [d.h]) (by simp)⟩
        · refine zob fun g16 c16 => ?_
          refine yx ?_
          refine yo 4 rfl ?_
          refine gp zl ?_
          refine yx ?_
          refine yo 8 rfl ?_
          refine zapo (a2 := some ⟨g16, 0, none⟩) (c2 := c16) (news := d.l.map B8) (fun a17 c17 => ?_) (h1 := one_B8 _)
          refine yx ?_
          refine yp 9 rfl znc ?_
          refine yp 10 rfl zfa ?_
          refine yo 11 rfl ?_
          refine zs1 ?_
          refine yx ?_
          refine yd ?_
          refine gx_ret0' rfl ?_
          rw [wDig_fit he]
          exact fun w' hw => ⟨(), rfl, St.out (hw.sel (by repeat (first | exact Sel.nil | (apply Sel.cons; · (repeat (first | exact Pick.here | apply Pick.there)))))) (by rw [he]) (by simp [d.h]) (by simp)⟩
  · refine gc_region ?_
    refine gp zmv ?_
    refine gp znc ?_
    refine gp zfa ?_
    refine gp zl ?_
    refine gp (r_bool (c := false) zei (decide_eq_false (by omega))) ?_
    refine gnt ?_
    refine gc_condF rfl rfl ?_
    refine gc_skip ?_
    refine gx_ret0' rfl ?_
    rw [wDig_bad d s he]
    exact fun w' hw => ⟨(), rfl, St.out (hw.sel (by repeat (first | exact Sel.nil | (apply Sel.cons; · (repeat (first | exact Pick.here | apply Pick.there)))))) rfl rfl rfl⟩

set_option maxHeartbeats 400000 in
theorem omany_ok {w : World} {F : Nat → Prop} {g : Nat} {s : WS} {n most : Nat} (h : stars [OutR g s] w F) (hm : most ≤ 255) (hb : s.bs.length + 1 ≤ 1099511627776) :
    Calls Tryz.prog 155 #[.pointer (some ⟨g, 0, none⟩), .int .i64 (n : Int), .int .i64 (most : Int)] w (Post w F (fun _ : Unit => .tuple #[]) (fun _ => [OutR g (wMany n most s)])) := by
  obtain ⟨a0, c0, h'⟩ := out_open h
  refine g_enter (env := [(0, .pointer (some ⟨g, 0, none⟩)), (1, .int .i64 (n : Int)), (2, .int .i64 (most : Int))]) Tryz.func155 rfl h' Tryz.ntmps155 rfl rfl ?_
  refine gc_seq ?_
  refine gc_seq ?_
  by_cases he : s.err = 0
  · by_cases hq : most < n
    · refine gc_region ?_
      refine gp zmv ?_
      refine gp znc ?_
      refine gp zfa ?_
      refine gp zl ?_
      refine gp (r_bool (c := true) zei (decide_eq_true (by omega))) ?_
      refine gp zmv ?_
      refine gq zmv ?_
      refine gq zmv ?_
      refine gq (r_bool (c := true) zgt (decide_eq_true (by omega))) ?_
      refine gp zpk ?_
      refine gnt ?_
      refine gc_condT rfl rfl ?_
      refine gc_region ?_
      refine gp zmv ?_
      refine gp znc ?_
      refine gp zfa ?_
      refine zs1 ?_
      refine gnt ?_
      refine gc_region ?_
      refine gp zmv ?_
      refine gp zmv ?_
      refine gl_conv (M := [blk g 212 [.slice a0 s.bs.length c0, .int .i64 1], rowR 5 1 a0 s.bs.length c0 (s.bs.map B8)]) (N := [OutR g (⟨1, s.bs⟩ : WS)]) (by repeat (first | exact Sel.nil | (apply Sel.cons; · (repeat (first | exact Pick.here | apply Pick.there))))) (fun w F hF => out_mk hF rfl rfl rfl) ?_
      refine zc (fun _ => ?_) (c := fun w1 F1 F2 h1 h2 hd hst => onum_ok (s := (⟨1, s.bs⟩ : WS)) (wd := 1) h1 (by decide) (by decide) (fun e => absurd e (by simp)) (by simpa using hb))
      refine gl_nil ?_
      refine gx_ret0' rfl ?_
      have e : wMany n most s = wNum (n : Int) 1 (⟨1, s.bs⟩ : WS) := by unfold wMany; rw [if_pos ⟨he, hq⟩, wNum_bad (by simp)]
      rw [e]
      exact ze ()
    · refine gc_region ?_
      refine gp zmv ?_
      refine gp znc ?_
      refine gp zfa ?_
      refine gp zl ?_
      refine gp (r_bool (c := true) zei (decide_eq_true (by omega))) ?_
      refine gp zmv ?_
      refine gq zmv ?_
      refine gq zmv ?_
      refine gq (r_bool (c := false) zgt (decide_eq_false (by omega))) ?_
      refine gp zpk ?_
      refine gnt ?_
      refine gc_condF rfl rfl ?_
      refine gc_skip ?_
      refine gx_then ?_
      refine gc_region ?_
      refine gp zmv ?_
      refine gp zmv ?_
      refine gl_conv (M := [blk g 212 [.slice a0 s.bs.length c0, .int .i64 (s.err : Int)], rowR 5 1 a0 s.bs.length c0 (s.bs.map B8)]) (N := [OutR g s]) (by repeat (first | exact Sel.nil | (apply Sel.cons; · (repeat (first | exact Pick.here | apply Pick.there))))) (fun w F hF => out_mk hF rfl rfl rfl) ?_
      refine zc (fun _ => ?_) (c := fun w1 F1 F2 h1 h2 hd hst => onum_ok (wd := 1) h1 (by decide) (by decide) (fun _ => by unfold I64; omega) (by omega))
      refine gl_nil ?_
      refine gx_ret0' rfl ?_
      have e : wMany n most s = wNum (n : Int) 1 s := by unfold wMany; rw [if_neg (fun hh => hq hh.2)]
      rw [e]
      exact ze ()
  · refine gc_region ?_
    refine gp zmv ?_
    refine gp znc ?_
    refine gp zfa ?_
    refine gp zl ?_
    refine gp (r_bool (c := false) zei (decide_eq_false (by omega))) ?_
    refine gp zmv ?_
    refine gn ?_
    refine gn ?_
    refine gn ?_
    refine gp zpk ?_
    refine gnt ?_
    refine gc_condF rfl rfl ?_
    refine gc_skip ?_
    refine gx_then ?_
    refine gc_region ?_
    refine gp zmv ?_
    refine gp zmv ?_
    refine gl_conv (M := [blk g 212 [.slice a0 s.bs.length c0, .int .i64 (s.err : Int)], rowR 5 1 a0 s.bs.length c0 (s.bs.map B8)]) (N := [OutR g s]) (by repeat (first | exact Sel.nil | (apply Sel.cons; · (repeat (first | exact Pick.here | apply Pick.there))))) (fun w F hF => out_mk hF rfl rfl rfl) ?_
    refine zc (fun _ => ?_) (c := fun w1 F1 F2 h1 h2 hd hst => onum_ok (wd := 1) h1 (by decide) (by decide) (fun e => absurd e he) (by omega))
    refine gl_nil ?_
    refine gx_ret0' rfl ?_
    have e : wMany n most s = wNum (n : Int) 1 s := by unfold wMany; rw [if_neg (fun hh => he hh.1)]
    rw [e]
    exact ze ()

end Go.Proofs.YtobjojeliibinaaGreatDoor

/- Walks, by program (wg.py) out of a spec. -/
namespace Go.Proofs.YtobjojeliibinaaGreatDoor
open Go
set_option linter.unusedVariables false
set_option linter.unusedSimpArgs false

attribute [local irreducible] Gl Gc Gx Gs Runs Wt

set_option maxHeartbeats 400000 in
theorem osig_ok {w : World} {F : Nat → Prop} {g : Nat} {s : WS} {cs : List Value} {x : Sig} (h : stars [OutR g s] w F) (hx : RdSig w (fun k => ¬ F k) cs x) (ho : OkSig x) (hb : s.bs.length + 1171 ≤ 1099511627776) :
    Calls Tryz.prog 204 #[.pointer (some ⟨g, 0, none⟩), .agg cs.toArray] w (Post w F (fun _ : Unit => .tuple #[]) (fun _ => [OutR g (wSig x s)])) := by
  obtain ⟨a1, n1, c1, a2, n2, c2, rfl, hk1, hk2, hd1, hd2⟩ := hx
  have hm1 := hd1.max
  have hm2 := hd2.max
  simp only [maxLen] at hm1 hm2
  have hn1 := hd1.len (by decide)
  have hn2 := hd2.len (by decide)
  subst hn1
  subst hn2
  have e0 := wNum_len x.leaf 1 s
  have e1 := wPut_len wDig_len x.chains 68 (wNum x.leaf 1 s)
  refine g_enter (env := [(0, .pointer (some ⟨g, 0, none⟩)), (1, .agg (List.toArray ([.int .i64 x.leaf, .slice a1 x.chains.length c1, .slice a2 x.path.length c2])))]) Tryz.func204 rfl h Tryz.ntmps204 rfl rfl ?_
  refine gsr ?_
  refine zbN fun b3 => ?_
  refine gnt ?_
  refine gsr ?_
  refine gp zmv ?_
  refine gp zfa ?_
  refine gp zl ?_
  refine zc (fun _ => ?_) (c := fun w1 F1 F2 h1 h2 hd hst => onum_ok (wd := 1) h1 (by decide) (by decide) (fun _ => ho) (by omega))
  refine gnt ?_
  refine gsr ?_
  refine gp zmv ?_
  refine gp zfa ?_
  refine gp zl ?_
  refine gp zln ?_
  refine zc (fun _ => ?_) (c := fun w1 F1 F2 h1 h2 hd hst => omany_ok (most := 68) h1 (by decide) (by omega))
  refine gnt ?_
  refine gc_seq ?_
  refine gsr ?_
  refine gp zfa ?_
  refine gp zl ?_
  refine gp zln ?_
  refine gp zmv ?_
  refine gnt ?_
  refine gc_block ?_
  refine gc_loop (α := Nat) (fun k => [pureR (k ≤ x.chains.length), blk b3 138 [.int .i64 x.leaf, .slice a1 x.chains.length c1, .slice a2 x.path.length c2], OutR g ((x.chains.take k).foldl (fun s x => wDig x s) (wMany x.chains.length 68 (wNum x.leaf 1 s)))]) (fun k => [(20, .int .i64 (k : Int))]) [5, 21, 22, 23, 24, 25, 26, 27] (fun k => x.chains.length - k) 0 ?_ ?_ ?_
  · refine env_start (by kernel_rfl)
  · exact zlp (Nat.zero_le _)
  · intro k u
    refine gc_pureR (fun hk => ?_)
    replace hk : k ≤ x.chains.length := hk
    refine gsr ?_
    refine gp zlt ?_
    refine gnt ?_
    refine gc_seq ?_
    refine gif rfl (fun hc21 => ?_) (fun hc21 => ?_)
    · try simp only at hc21
      have hk' : k < x.chains.length := by omega
      obtain ⟨ga, o, cs1, y, ha, hA, hg, hra, hcl, hly, hrd⟩ := hd1.elem (by decide) hk'
      subst ha
      have hbk := many_bound (k := k) (l := x.chains) (s := (wNum x.leaf 1 s)) (most := 68) (M := 1099511627776) wDig_len wDig_bad hk' (by decide) (by omega)
      unfold RdDig at hrd
      subst hrd
      refine gc_skip ?_
      refine gx_then ?_
      refine gc_seq ?_
      refine gc_block ?_
      refine gsr ?_
      refine gp (r_indexAddr_slice rfl rfl Ty.sl_52 Ty.sz_23 (by omega) (by omega)) ?_
      refine gp (r_ldNo rfl Ty.row_23 Ty.sz_23 hra hcl (by decide) hA) ?_
      refine zal fun b5 => ?_
      refine gl_storeN (wt0 rfl) rfl rfl Ty.sz_23 hcl (by repeat (first | exact Pick.here | apply Pick.there)) (by first | decide | (rw [zD_length]; decide)) (dc_one _) (updL_all (by rw [hcl]; first | rfl | decide)) ?_
      refine gnt ?_
      refine gc_region ?_
      refine gp zmv ?_
      refine gp (zLa (cs := dc y)) ?_
      refine zc (fun _ => ?_) (c := fun w1 F1 F2 h1 h2 hd hst => odigest_ok h1 hbk)
      refine gl_nil ?_
      refine gx_block_normal ?_
      refine gx_then ?_
      refine gc_region ?_
      refine gp zad ?_
      refine gp zmv ?_
      refine gl_nil ?_
      refine zrd (k + 1) ?_ ?_
      · show x.chains.length - (k + 1) < x.chains.length - k
        omega
      · rintro w' hw
        rw [foldl_take_succ _ _ _ hly]
        exact zlp (show k + 1 ≤ x.chains.length by omega) (by repeat (first | exact Sel.nil | (apply Sel.cons; · (repeat (first | exact Pick.here | apply Pick.there))))) w' hw
    · try simp only at hc21
      have hk' : k = x.chains.length := by omega
      subst hk'
      rw [List.take_length, put_many wDig_bad _ (by decide)]
      refine gc_exit ?_
      refine gx_then_exit ?_
      refine gx_round_exit ?_
      refine gx_block_hit ?_
      refine gx_then ?_
      refine gsr ?_
      refine gp zmv ?_
      refine gp zfa ?_
      refine gp zl ?_
      refine gp zln ?_
      refine zc (fun _ => ?_) (c := fun w1 F1 F2 h1 h2 hd hst => omany_ok (most := 5) h1 (by decide) (by omega))
      refine gnt ?_
      refine gsr ?_
      refine gp zfa ?_
      refine gp zl ?_
      refine gp zln ?_
      refine gp zmv ?_
      refine gnt ?_
      refine gc_block ?_
      refine gc_loop (α := Nat) (fun k => [pureR (k ≤ x.path.length), blk b3 138 [.int .i64 x.leaf, .slice a1 x.chains.length c1, .slice a2 x.path.length c2], OutR g ((x.path.take k).foldl (fun s x => wDig x s) (wMany x.path.length 5 (wPut wDig x.chains 68 (wNum x.leaf 1 s))))]) (fun k => [(36, .int .i64 (k : Int))]) [7, 37, 38, 39, 40, 41, 42, 43] (fun k => x.path.length - k) 0 ?_ ?_ ?_
      · refine env_start (by kernel_rfl)
      · exact zlp (Nat.zero_le _)
      · intro k u
        refine gc_pureR (fun hk => ?_)
        replace hk : k ≤ x.path.length := hk
        refine gsr ?_
        refine gp zlt ?_
        refine gnt ?_
        refine gc_seq ?_
        refine gif rfl (fun hc37 => ?_) (fun hc37 => ?_)
        · try simp only at hc37
          have hk' : k < x.path.length := by omega
          obtain ⟨ga, o, cs1, y, ha, hA, hg, hra, hcl, hly, hrd⟩ := hd2.elem (by decide) hk'
          subst ha
          have hbk := many_bound (k := k) (l := x.path) (s := (wPut wDig x.chains 68 (wNum x.leaf 1 s))) (most := 5) (M := 1099511627776) wDig_len wDig_bad hk' (by decide) (by omega)
          unfold RdDig at hrd
          subst hrd
          refine gc_skip ?_
          refine gx_then ?_
          refine gc_seq ?_
          refine gc_block ?_
          refine gsr ?_
          refine gp (r_indexAddr_slice rfl rfl Ty.sl_52 Ty.sz_23 (by omega) (by omega)) ?_
          refine gp (r_ldNo rfl Ty.row_23 Ty.sz_23 hra hcl (by decide) hA) ?_
          refine zal fun b7 => ?_
          refine gl_storeN (wt0 rfl) rfl rfl Ty.sz_23 hcl (by repeat (first | exact Pick.here | apply Pick.there)) (by first | decide | (rw [zD_length]; decide)) (dc_one _) (updL_all (by rw [hcl]; first | rfl | decide)) ?_
          refine gnt ?_
          refine gc_region ?_
          refine gp zmv ?_
          refine gp (zLa (cs := dc y)) ?_
          refine zc (fun _ => ?_) (c := fun w1 F1 F2 h1 h2 hd hst => odigest_ok h1 hbk)
          refine gl_nil ?_
          refine gx_block_normal ?_
          refine gx_then ?_
          refine gc_region ?_
          refine gp zad ?_
          refine gp zmv ?_
          refine gl_nil ?_
          refine zrd (k + 1) ?_ ?_
          · show x.path.length - (k + 1) < x.path.length - k
            omega
          · rintro w' hw
            rw [foldl_take_succ _ _ _ hly]
            exact zlp (show k + 1 ≤ x.path.length by omega) (by repeat (first | exact Sel.nil | (apply Sel.cons; · (repeat (first | exact Pick.here | apply Pick.there))))) w' hw
        · try simp only at hc37
          have hk' : k = x.path.length := by omega
          subst hk'
          rw [List.take_length, put_many wDig_bad _ (by decide)]
          refine gc_exit ?_
          refine gx_then_exit ?_
          refine gx_round_exit ?_
          refine gx_block_hit ?_
          refine gx_ret0' rfl ?_
          exact ze ()

set_option maxHeartbeats 400000 in
theorem osigned_ok {w : World} {F : Nat → Prop} {g : Nat} {s : WS} {cs : List Value} {x : Signed} (h : stars [OutR g s] w F) (hx : RdSigned w (fun k => ¬ F k) cs x) (ho : OkSigned x) (hb : s.bs.length + 1172 ≤ 1099511627776) :
    Calls Tryz.prog 190 #[.pointer (some ⟨g, 0, none⟩), .agg cs.toArray] w (Post w F (fun _ : Unit => .tuple #[]) (fun _ => [OutR g (wSigned x s)])) := by
  obtain ⟨ss, rfl, hs⟩ := hx
  have hl := hs.len
  have il := Len.of hl
  have jl := One.of hs.one
  have e0 := wNum_len x.who 1 s
  refine g_enter (env := [(0, .pointer (some ⟨g, 0, none⟩)), (1, .agg (List.toArray (.int .i64 x.who :: ss)))]) Tryz.func190 rfl h Tryz.ntmps190 rfl rfl ?_
  refine gsr ?_
  refine zbN fun b3 => ?_
  refine gnt ?_
  refine gsr ?_
  refine gp zmv ?_
  refine gp zfa ?_
  refine gp zl ?_
  refine zc (fun _ => ?_) (c := fun w1 F1 F2 h1 h2 hd hst => onum_ok (wd := 1) h1 (by decide) (by decide) (fun _ => ho.1) (by omega))
  refine gnt ?_
  refine gc_region ?_
  refine gp zmv ?_
  refine gp zfa ?_
  refine gp (zL (sg := ss)) ?_
  refine zc (fun _ => ?_) (c := fun w1 F1 F2 h1 h2 hd hst => osig_ok h1 (hs.mv hst.still) ho.2 (by omega))
  refine gl_nil ?_
  refine gx_ret0' rfl ?_
  exact ze ()

set_option maxHeartbeats 400000 in
theorem oqc_ok {w : World} {F : Nat → Prop} {g : Nat} {s : WS} {cs : List Value} {x : QC} (h : stars [OutR g s] w F) (hx : RdQC w (fun k => ¬ F k) cs x) (ho : OkQC x) (hb : s.bs.length + 8231 ≤ 1099511627776) :
    Calls Tryz.prog 154 #[.pointer (some ⟨g, 0, none⟩), .agg cs.toArray] w (Post w F (fun _ : Unit => .tuple #[]) (fun _ => [OutR g (wQC x s)])) := by
  obtain ⟨a1, n1, c1, rfl, hk1, hd1⟩ := hx
  have hm1 := hd1.max
  simp only [maxLen] at hm1
  have hn1 := hd1.len (by decide)
  subst hn1
  have e0 := wNum_len x.epoch 4 s
  have e1 := wNum_len x.round 6 (wNum x.epoch 4 s)
  have e2 := wDig_len x.block (wNum x.round 6 (wNum x.epoch 4 s))
  refine g_enter (env := [(0, .pointer (some ⟨g, 0, none⟩)), (1, .agg (List.toArray (.int .i64 x.epoch :: .int .i64 x.round :: (dc x.block ++ [.slice a1 x.votes.length c1]))))]) Tryz.func154 rfl h Tryz.ntmps154 rfl rfl ?_
  refine gsr ?_
  refine zbN fun b3 => ?_
  refine gnt ?_
  refine gsr ?_
  refine gp zmv ?_
  refine gp zfa ?_
  refine gp zl ?_
  refine zc (fun _ => ?_) (c := fun w1 F1 F2 h1 h2 hd hst => onum_ok (wd := 4) h1 (by decide) (by decide) (fun _ => ho.1) (by omega))
  refine gnt ?_
  refine gsr ?_
  refine gp zmv ?_
  refine gp zfa ?_
  refine gp zl ?_
  refine zc (fun _ => ?_) (c := fun w1 F1 F2 h1 h2 hd hst => onum_ok (wd := 6) h1 (by decide) (by decide) (fun _ => ho.2.1) (by omega))
  refine gnt ?_
  refine gsr ?_
  refine gp zmv ?_
  refine gp zfa ?_
  refine gp zL ?_
  refine zc (fun _ => ?_) (c := fun w1 F1 F2 h1 h2 hd hst => odigest_ok h1 (by omega))
  refine gnt ?_
  refine gsr ?_
  refine gp zmv ?_
  refine gp zfa ?_
  refine gp zl ?_
  refine gp zln ?_
  refine zc (fun _ => ?_) (c := fun w1 F1 F2 h1 h2 hd hst => omany_ok (most := 7) h1 (by decide) (by omega))
  refine gnt ?_
  refine gsr ?_
  refine gp zfa ?_
  refine gp zl ?_
  refine gp zln ?_
  refine gp zmv ?_
  refine gnt ?_
  refine gc_block ?_
  refine gc_loop (α := Nat) (fun k => [pureR (k ≤ x.votes.length), blk b3 26 (.int .i64 x.epoch :: .int .i64 x.round :: (dc x.block ++ [.slice a1 x.votes.length c1])), OutR g ((x.votes.take k).foldl (fun s x => wSigned x s) (wMany x.votes.length 7 (wDig x.block (wNum x.round 6 (wNum x.epoch 4 s)))))]) (fun k => [(26, .int .i64 (k : Int))]) [5, 27, 28, 29, 30, 31, 32, 33] (fun k => x.votes.length - k) 0 ?_ ?_ ?_
  · refine env_start (by kernel_rfl)
  · exact zlp (Nat.zero_le _)
  · intro k u
    refine gc_pureR (fun hk => ?_)
    replace hk : k ≤ x.votes.length := hk
    refine gsr ?_
    refine gp zlt ?_
    refine gnt ?_
    refine gc_seq ?_
    refine gif rfl (fun hc27 => ?_) (fun hc27 => ?_)
    · try simp only at hc27
      have hk' : k < x.votes.length := by omega
      obtain ⟨ga, o, cs1, y, ha, hA, hg, hra, hcl, hly, hrd⟩ := hd1.elem (by decide) hk'
      subst ha
      have hbk := many_bound (k := k) (l := x.votes) (s := (wDig x.block (wNum x.round 6 (wNum x.epoch 4 s)))) (most := 7) (M := 1099511627776) wSigned_len wSigned_bad hk' (by decide) (by omega)
      have hoy := ho.2.2 y (List.mem_of_getElem? hly)
      have i1 := Len.of hcl
      have j1 := One.of hrd.one
      refine gc_skip ?_
      refine gx_then ?_
      refine gc_seq ?_
      refine gc_block ?_
      refine gsr ?_
      refine gp (r_indexAddr_slice rfl rfl Ty.sl_24 Ty.sz_140 (by omega) (by omega)) ?_
      refine gp (r_ldNo rfl Ty.row_140 Ty.sz_140 hra hcl (by decide) hA) ?_
      refine zal fun b5 => ?_
      refine gl_storeN (wt0 rfl) rfl rfl Ty.sz_140 hcl (by repeat (first | exact Pick.here | apply Pick.there)) (by first | decide | (rw [zD_length]; decide)) (hrd.one) (updL_all (by rw [hcl]; first | rfl | decide)) ?_
      refine gnt ?_
      refine gc_region ?_
      refine gp zmv ?_
      refine gp (zL (sg := cs1)) ?_
      refine zc (fun _ => ?_) (c := fun w1 F1 F2 h1 h2 hd hst => osigned_ok h1 (hrd.mv hst.still) hoy hbk)
      refine gl_nil ?_
      refine gx_block_normal ?_
      refine gx_then ?_
      refine gc_region ?_
      refine gp zad ?_
      refine gp zmv ?_
      refine gl_nil ?_
      refine zrd (k + 1) ?_ ?_
      · show x.votes.length - (k + 1) < x.votes.length - k
        omega
      · rintro w' hw
        rw [foldl_take_succ _ _ _ hly]
        exact zlp (show k + 1 ≤ x.votes.length by omega) (by repeat (first | exact Sel.nil | (apply Sel.cons; · (repeat (first | exact Pick.here | apply Pick.there))))) w' hw
    · try simp only at hc27
      have hk' : k = x.votes.length := by omega
      subst hk'
      rw [List.take_length, put_many wSigned_bad _ (by decide)]
      refine gc_exit ?_
      refine gx_then_exit ?_
      refine gx_round_exit ?_
      refine gx_block_hit ?_
      refine gx_ret0' rfl ?_
      exact ze ()


end Go.Proofs.YtobjojeliibinaaGreatDoor

/- Walks, by program (wg.py) out of a spec. -/
namespace Go.Proofs.YtobjojeliibinaaGreatDoor
open Go
set_option linter.unusedVariables false
set_option linter.unusedSimpArgs false


section
variable {P : Program} {w0 : World} {F0 : Nat → Prop} {L L' : List Res} {Q : Exit → Act → World → Prop} {n : Fm} {env : Env} {ops : Array Oper} {rest : List Oper}
theorem gl_out {g : Nat} {s : WS} (hp : Pick L (OutR g s) L') (k : ∀ a c, Gl P w0 F0 (blk g 212 [.slice a s.bs.length c, .int .i64 (s.err : Int)] :: rowR 5 1 a s.bs.length c (s.bs.map B8) :: L') ops Q rest n env) : Gl P w0 F0 L ops Q rest n env := fun w ⟨F, hF, hst⟩ => by
  obtain ⟨a, c, h⟩ := out_open (hp.stars hF)
  exact k a c w ⟨F, h, hst⟩
end
theorem wTx_over {b : List UInt8} {s : WS} (he : s.err = 0) (hn : 16 < b.length) : wBytes b 16 s = ⟨1, s.bs⟩ := by
  unfold wBytes wFail; rw [if_pos (.inl hn), if_pos he]
theorem wTx_fit {b : List UInt8} {s : WS} (he : s.err = 0) (hn : ¬ 16 < b.length) : wBytes b 16 s = ⟨0, s.bs ++ beN (b.length : Int) 2 ++ b⟩ := by
  have h2 : (0 : Int) ≤ (b.length : Int) ∧ (b.length : Int) < 256 ^ 2 := by refine ⟨by omega, ?_⟩; have : (256 : Int) ^ 2 = 65536 := rfl; omega
  unfold wBytes; rw [if_neg (by omega), wNum_fit (by decide) he h2]
  unfold wFix; rw [if_pos rfl]

attribute [local irreducible] Gl Gc Gx Gs Runs Wt

set_option maxHeartbeats 400000 in
theorem oblock_ok {w : World} {F : Nat → Prop} {g : Nat} {s : WS} {cs : List Value} {x : Block} (h : stars [OutR g s] w F) (hx : RdBlock w (fun k => ¬ F k) cs x) (ho : OkBlock x) (hb : s.bs.length + 8485 ≤ 1099511627776) :
    Calls Tryz.prog 111 #[.pointer (some ⟨g, 0, none⟩), .agg cs.toArray] w (Post w F (fun _ : Unit => .tuple #[]) (fun _ => [OutR g (wBlock x s)])) := by
  obtain ⟨q, a1, n1, c1, a2, n2, c2, rfl, hq0, hk1, hd1, hk2, hd2⟩ := hx
  have hm1 := hd1.max
  have hm2 := hd2.max
  simp only [maxLen] at hm1 hm2
  have hn1 := hd1.len (by decide)
  have hn2 := hd2.len (by decide)
  subst hn1
  subst hn2
  have hlq := hq0.len
  have ilq := Len.of hlq
  have jlq := One.of hq0.one
  have e0 := wNum_len x.epoch 4 s
  have e1 := wNum_len x.round 6 (wNum x.epoch 4 s)
  have e2 := wDig_len x.parent (wNum x.round 6 (wNum x.epoch 4 s))
  have e3 := wQC_len x.justify (wDig x.parent (wNum x.round 6 (wNum x.epoch 4 s)))
  have e4 := wPut_len (wX := fun t => wBytes t 16) (c := 18) (fun x s => wBytes_len x 16 s) x.payload 4 (wQC x.justify (wDig x.parent (wNum x.round 6 (wNum x.epoch 4 s))))
  refine g_enter (env := [(0, .pointer (some ⟨g, 0, none⟩)), (1, .agg (List.toArray (.int .i64 x.epoch :: .int .i64 x.round :: (dc x.parent ++ (q ++ [.slice a1 x.payload.length c1, .slice a2 x.next.length c2])))))]) Tryz.func111 rfl h Tryz.ntmps111 rfl rfl ?_
  refine gsr ?_
  refine zbN fun b3 => ?_
  refine gnt ?_
  refine gsr ?_
  refine gp zmv ?_
  refine gp zfa ?_
  refine gp zl ?_
  refine zc (fun _ => ?_) (c := fun w1 F1 F2 h1 h2 hd hst => onum_ok (wd := 4) h1 (by decide) (by decide) (fun _ => ho.1) (by omega))
  refine gnt ?_
  refine gsr ?_
  refine gp zmv ?_
  refine gp zfa ?_
  refine gp zl ?_
  refine zc (fun _ => ?_) (c := fun w1 F1 F2 h1 h2 hd hst => onum_ok (wd := 6) h1 (by decide) (by decide) (fun _ => ho.2.1) (by omega))
  refine gnt ?_
  refine gsr ?_
  refine gp zmv ?_
  refine gp zfa ?_
  refine gp zL ?_
  refine zc (fun _ => ?_) (c := fun w1 F1 F2 h1 h2 hd hst => odigest_ok h1 (by omega))
  refine gnt ?_
  refine gsr ?_
  refine gp zmv ?_
  refine gp zfa ?_
  refine gp (zL (sg := q)) ?_
  refine zc (fun _ => ?_) (c := fun w1 F1 F2 h1 h2 hd hst => oqc_ok h1 (hq0.mv hst.still) ho.2.2.1 (by omega))
  refine gnt ?_
  refine gsr ?_
  refine gp zmv ?_
  refine gp zfa ?_
  refine gp zl ?_
  refine gp zln ?_
  refine zc (fun _ => ?_) (c := fun w1 F1 F2 h1 h2 hd hst => omany_ok (most := 4) h1 (by decide) (by omega))
  refine gnt ?_
  refine gc_seq ?_
  refine gsr ?_
  refine gp zfa ?_
  refine gp zl ?_
  refine gp zln ?_
  refine gp zmv ?_
  refine gnt ?_
  refine gc_block ?_
  refine gc_loop (α := Nat) (fun k => [pureR (k ≤ x.payload.length), blk b3 30 (.int .i64 x.epoch :: .int .i64 x.round :: (dc x.parent ++ (q ++ [.slice a1 x.payload.length c1, .slice a2 x.next.length c2]))), OutR g ((x.payload.take k).foldl (fun s t => wBytes t 16 s) (wMany x.payload.length 4 (wQC x.justify (wDig x.parent (wNum x.round 6 (wNum x.epoch 4 s))))))]) (fun k => [(32, .int .i64 (k : Int))]) [5, 33, 34, 35, 36, 37, 38, 39, 40, 41, 42, 43, 44, 45, 46, 47, 48, 49, 50, 51, 52, 53, 54, 55, 56, 57, 58, 59, 60, 61, 62, 63, 64, 65, 66, 67] (fun k => x.payload.length - k) 0 ?_ ?_ ?_
  · refine env_start (by kernel_rfl)
  · exact zlp (Nat.zero_le _)
  · intro k u
    refine gc_pureR (fun hk => ?_)
    replace hk : k ≤ x.payload.length := hk
    refine gsr ?_
    refine gp zlt ?_
    refine gnt ?_
    refine gc_seq ?_
    refine gif rfl (fun hc33 => ?_) (fun hc33 => ?_)
    · try simp only at hc33
      have hk' : k < x.payload.length := by omega
      obtain ⟨ga, o, cs1, y, ha, hA, hg, hra, hcl, hly, hrd⟩ := hd1.elem (by decide) hk'
      subst ha
      obtain ⟨a', n', c', rfl, hn', hrb⟩ := hrd
      have hny : n' = y.length := by have := hrb.1; simp at this; omega
      subst hny
      have hmy := hrb.2.1
      simp only [maxLen] at hmy
      have hbk := many_bound (k := k) (l := x.payload) (s := (wQC x.justify (wDig x.parent (wNum x.round 6 (wNum x.epoch 4 s))))) (most := 4) (M := 1099511627776) (wX := fun t => wBytes t 16) (c := 18) (fun x s => wBytes_len x 16 s) (fun x s => wBytes_bad x 16 s) hk' (by decide) (by omega)
      obtain ⟨S, hS⟩ : ∃ S, S = ((x.payload.take k).foldl (fun s t => wBytes t 16 s) (wMany x.payload.length 4 (wQC x.justify (wDig x.parent (wNum x.round 6 (wNum x.epoch 4 s)))))) := ⟨_, rfl⟩
      rw [← hS] at hbk ⊢
      refine gc_skip ?_
      refine gx_then ?_
      refine gc_seq ?_
      refine gc_block ?_
      refine gsr ?_
      refine gp (r_indexAddr_slice rfl rfl Ty.sl_27 Ty.sz_86 (by omega) (by omega)) ?_
      refine gp (r_ld1o rfl Ty.row_86 (hra 0 _ rfl) hA) ?_
      refine gp zas ?_
      refine gnt ?_
      refine gc_seq ?_
      refine gc_seq ?_
      by_cases he : S.err = 0
      · by_cases hq : 16 < y.length
        · refine gc_region ?_
          refine gp zmv ?_
          refine gp znc ?_
          refine gp zfa ?_
          refine gl_out (s := S) (by repeat (first | exact Pick.here | apply Pick.there)) (fun a39 c39 => ?_)
          refine gp zl ?_
          refine gp (r_bool (c := true) zei (decide_eq_true (by omega))) ?_
          refine gp zmv ?_
          refine gq zmv ?_
          refine gq zln ?_
          refine gq (r_bool (c := true) zgt (decide_eq_true (by omega))) ?_
          refine gp zpk ?_
          refine gnt ?_
          refine gc_condT rfl rfl ?_
          refine gc_region ?_
          refine gp zmv ?_
          refine gp znc ?_
          refine gp zfa ?_
          refine zs1 ?_
          refine gnt ?_
          refine gsr ?_
          refine gp zmv ?_
          refine gp zmv ?_
          refine gp zln ?_
          refine gl_conv (M := [blk g 212 [.slice a39 S.bs.length c39, .int .i64 1], rowR 5 1 a39 S.bs.length c39 (S.bs.map B8)]) (N := [OutR g (⟨1, S.bs⟩ : WS)]) (by repeat (first | exact Sel.nil | (apply Sel.cons; · (repeat (first | exact Pick.here | apply Pick.there))))) (fun w F hF => out_mk hF rfl rfl rfl) ?_
          refine zc (fun _ => ?_) (c := fun w1 F1 F2 h1 h2 hd hst => onum_ok (s := ⟨1, S.bs⟩) (wd := 2) h1 (by decide) (by decide) (fun e => absurd e (by simp)) (by simp only; omega))
          rw [wNum_bad (s := ⟨1, S.bs⟩) (by simp)]
          refine gnt ?_
          refine gsr ?_
          refine gp zmv ?_
          refine gp znc ?_
          refine gp zfa ?_
          refine gl_out (s := ⟨1, S.bs⟩) (by repeat (first | exact Pick.here | apply Pick.there)) (fun a56 c56 => ?_)
          refine gp zl ?_
          refine gp (r_bool (c := false) zei rfl) ?_
          refine gnt ?_
          refine gc_condF rfl rfl ?_
          refine gc_skip ?_
          refine gx_block_normal ?_
          refine gx_then ?_
          refine gc_region ?_
          refine gp zad ?_
          refine gp zmv ?_
          refine gl_nil ?_
          refine zrd (k + 1) ?_ ?_
          · show x.payload.length - (k + 1) < x.payload.length - k
            omega
          · rintro w' hw
            rw [foldl_take_succ _ _ _ hly, ← hS]
            have e : wBytes y 16 S = ⟨1, S.bs⟩ := wTx_over he hq
            rw [e]
            have h2 := St.out (s := ⟨1, S.bs⟩) (a := a56) (c := c56) (m := (⟨1, S.bs⟩ : WS).bs.length) (xs := (⟨1, S.bs⟩ : WS).bs.map B8) (hw.sel (M := [_, _, blk b3 _ _]) (by repeat (first | exact Sel.nil | (apply Sel.cons; · (repeat (first | exact Pick.here | apply Pick.there)))))) rfl rfl rfl
            exact zlp (show k + 1 ≤ x.payload.length by omega) (by repeat (first | exact Sel.nil | (apply Sel.cons; · (repeat (first | exact Pick.here | apply Pick.there))))) w' h2
        · refine gc_region ?_
          refine gp zmv ?_
          refine gp znc ?_
          refine gp zfa ?_
          refine gl_out (s := S) (by repeat (first | exact Pick.here | apply Pick.there)) (fun a39 c39 => ?_)
          refine gp zl ?_
          refine gp (r_bool (c := true) zei (decide_eq_true (by omega))) ?_
          refine gp zmv ?_
          refine gq zmv ?_
          refine gq zln ?_
          refine gq (r_bool (c := false) zgt (decide_eq_false (by omega))) ?_
          refine gp zpk ?_
          refine gnt ?_
          refine gc_condF rfl rfl ?_
          refine gc_skip ?_
          refine gx_then ?_
          refine gsr ?_
          refine gp zmv ?_
          refine gp zmv ?_
          refine gp zln ?_
          refine gl_conv (M := [blk g 212 [.slice a39 S.bs.length c39, .int .i64 (S.err : Int)], rowR 5 1 a39 S.bs.length c39 (S.bs.map B8)]) (N := [OutR g S]) (by repeat (first | exact Sel.nil | (apply Sel.cons; · (repeat (first | exact Pick.here | apply Pick.there))))) (fun w F hF => out_mk hF rfl rfl rfl) ?_
          refine zc (fun _ => ?_) (c := fun w1 F1 F2 h1 h2 hd hst => onum_ok (wd := 2) h1 (by decide) (by decide) (fun _ => by unfold I64; omega) (by omega))
          rw [wNum_fit (by decide) he ⟨by omega, by have : (256 : Int) ^ 2 = 65536 := rfl; omega⟩]
          obtain ⟨S2, hS2⟩ : ∃ S2 : WS, S2 = ⟨0, S.bs ++ beN (y.length : Int) 2⟩ := ⟨_, rfl⟩
          rw [← hS2]
          refine gnt ?_
          refine gsr ?_
          refine gp zmv ?_
          refine gp znc ?_
          refine gp zfa ?_
          refine gl_out (s := S2) (by repeat (first | exact Pick.here | apply Pick.there)) (fun a56 c56 => ?_)
          refine gp zl ?_
          refine gp (r_bool (c := true) zei (by rw [hS2]; rfl)) ?_
          refine gnt ?_
          refine gc_condT rfl rfl ?_
          refine gc_region ?_
          refine gp zmv ?_
          refine gp zmv ?_
          refine gp znc ?_
          refine gp zfa ?_
          refine gp zl ?_
          refine gp zmv ?_
          have hl0 : S2.bs.length = S.bs.length + 2 := by rw [hS2]; simp [beN_length]
          refine gl_append (xs := S2.bs.map B8) (news := y.map B8) (wt0 rfl) rfl rfl (by repeat (first | exact Pick.here | apply Pick.there)) ELT.h (fun w hw => hw.rdOld hrb) (one_B8 _) (by simp only [maxLen, List.length_append, beN_length]; omega) (by omega) (fun a64 c64 => ?_)
          refine gp znc ?_
          refine gp zfa ?_
          refine zs1 ?_
          refine gl_nil ?_
          refine gx_block_normal ?_
          refine gx_then ?_
          refine gc_region ?_
          refine gp zad ?_
          refine gp zmv ?_
          refine gl_nil ?_
          refine zrd (k + 1) ?_ ?_
          · show x.payload.length - (k + 1) < x.payload.length - k
            omega
          · rintro w' hw
            rw [foldl_take_succ _ _ _ hly, ← hS]
            have e : wBytes y 16 S = ⟨0, S2.bs ++ y⟩ := by rw [hS2]; exact wTx_fit he hq
            rw [e]
            have h2 := St.out (s := ⟨0, S2.bs ++ y⟩) (a := a64) (c := c64) (m := S2.bs.length + y.length) (xs := List.map B8 S2.bs ++ List.map B8 y) (hw.sel (M := [_, _, blk b3 _ _]) (by repeat (first | exact Sel.nil | (apply Sel.cons; · (repeat (first | exact Pick.here | apply Pick.there)))))) (by rw [hS2]) (by simp) (by simp)
            exact zlp (show k + 1 ≤ x.payload.length by omega) (by repeat (first | exact Sel.nil | (apply Sel.cons; · (repeat (first | exact Pick.here | apply Pick.there))))) w' h2
      · refine gc_region ?_
        refine gp zmv ?_
        refine gp znc ?_
        refine gp zfa ?_
        refine gl_out (s := S) (by repeat (first | exact Pick.here | apply Pick.there)) (fun a39 c39 => ?_)
        refine gp zl ?_
        refine gp (r_bool (c := false) zei (decide_eq_false (by omega))) ?_
        refine gp zmv ?_
        refine gn ?_
        refine gn ?_
        refine gn ?_
        refine gp zpk ?_
        refine gnt ?_
        refine gc_condF rfl rfl ?_
        refine gc_skip ?_
        refine gx_then ?_
        refine gsr ?_
        refine gp zmv ?_
        refine gp zmv ?_
        refine gp zln ?_
        refine gl_conv (M := [blk g 212 [.slice a39 S.bs.length c39, .int .i64 (S.err : Int)], rowR 5 1 a39 S.bs.length c39 (S.bs.map B8)]) (N := [OutR g S]) (by repeat (first | exact Sel.nil | (apply Sel.cons; · (repeat (first | exact Pick.here | apply Pick.there))))) (fun w F hF => out_mk hF rfl rfl rfl) ?_
        refine zc (fun _ => ?_) (c := fun w1 F1 F2 h1 h2 hd hst => onum_ok (wd := 2) h1 (by decide) (by decide) (fun e => absurd e he) (by omega))
        rw [wNum_bad he]
        refine gnt ?_
        refine gsr ?_
        refine gp zmv ?_
        refine gp znc ?_
        refine gp zfa ?_
        refine gl_out (s := S) (by repeat (first | exact Pick.here | apply Pick.there)) (fun a56 c56 => ?_)
        refine gp zl ?_
        refine gp (r_bool (c := false) zei (decide_eq_false (by omega))) ?_
        refine gnt ?_
        refine gc_condF rfl rfl ?_
        refine gc_skip ?_
        refine gx_block_normal ?_
        refine gx_then ?_
        refine gc_region ?_
        refine gp zad ?_
        refine gp zmv ?_
        refine gl_nil ?_
        refine zrd (k + 1) ?_ ?_
        · show x.payload.length - (k + 1) < x.payload.length - k
          omega
        · rintro w' hw
          rw [foldl_take_succ _ _ _ hly, ← hS]
          have e : wBytes y 16 S = S := wBytes_bad y 16 S he
          rw [e]
          have h2 := St.out (s := S) (a := a56) (c := c56) (m := S.bs.length) (xs := S.bs.map B8) (hw.sel (M := [_, _, blk b3 _ _]) (by repeat (first | exact Sel.nil | (apply Sel.cons; · (repeat (first | exact Pick.here | apply Pick.there)))))) rfl rfl rfl
          exact zlp (show k + 1 ≤ x.payload.length by omega) (by repeat (first | exact Sel.nil | (apply Sel.cons; · (repeat (first | exact Pick.here | apply Pick.there))))) w' h2
    · try simp only at hc33
      have hk' : k = x.payload.length := by omega
      subst hk'
      rw [List.take_length, put_many (wX := fun t => wBytes t 16) (fun x s => wBytes_bad x 16 s) _ (by decide)]
      refine gc_exit ?_
      refine gx_then_exit ?_
      refine gx_round_exit ?_
      refine gx_block_hit ?_
      refine gx_then ?_
      refine gsr ?_
      refine gp zmv ?_
      refine gp zfa ?_
      refine gp zl ?_
      refine gp zln ?_
      refine zc (fun _ => ?_) (c := fun w1 F1 F2 h1 h2 hd hst => omany_ok (most := 7) h1 (by decide) (by omega))
      refine gnt ?_
      refine gsr ?_
      refine gp zfa ?_
      refine gp zl ?_
      refine gp zln ?_
      refine gp zmv ?_
      refine gnt ?_
      refine gc_block ?_
      refine gc_loop (α := Nat) (fun k => [pureR (k ≤ x.next.length), blk b3 30 (.int .i64 x.epoch :: .int .i64 x.round :: (dc x.parent ++ (q ++ [.slice a1 x.payload.length c1, .slice a2 x.next.length c2]))), OutR g ((x.next.take k).foldl (fun s x => wVdr x s) (wMany x.next.length 7 (wPut (fun t => wBytes t 16) x.payload 4 (wQC x.justify (wDig x.parent (wNum x.round 6 (wNum x.epoch 4 s)))))))]) (fun k => [(76, .int .i64 (k : Int))]) [7, 77, 78, 79, 80, 81, 82, 83, 84, 85, 86, 87, 88] (fun k => x.next.length - k) 0 ?_ ?_ ?_
      · refine env_start (by kernel_rfl)
      · exact zlp (Nat.zero_le _)
      · intro k u
        refine gc_pureR (fun hk => ?_)
        replace hk : k ≤ x.next.length := hk
        refine gsr ?_
        refine gp zlt ?_
        refine gnt ?_
        refine gc_seq ?_
        refine gif rfl (fun hc77 => ?_) (fun hc77 => ?_)
        · try simp only at hc77
          have hk' : k < x.next.length := by omega
          obtain ⟨ga, o, cs1, y, ha, hA, hg, hra, hcl, hly, hrd⟩ := hd2.elem (by decide) hk'
          subst ha
          have hbk := many_bound (k := k) (l := x.next) (s := (wPut (fun t => wBytes t 16) x.payload 4 (wQC x.justify (wDig x.parent (wNum x.round 6 (wNum x.epoch 4 s)))))) (most := 7) (M := 1099511627776) wVdr_len wVdr_bad hk' (by decide) (by omega)
          unfold RdVdr at hrd
          subst hrd
          have hoy := ho.2.2.2 y (List.mem_of_getElem? hly)
          have f0 := wDig_len y.key ((x.next.take k).foldl (fun s x => wVdr x s) (wMany x.next.length 7 (wPut (fun t => wBytes t 16) x.payload 4 (wQC x.justify (wDig x.parent (wNum x.round 6 (wNum x.epoch 4 s)))))))
          refine gc_skip ?_
          refine gx_then ?_
          refine gc_seq ?_
          refine gc_block ?_
          refine gsr ?_
          refine gp (r_indexAddr_slice rfl rfl Ty.sl_28 Ty.sz_159 (by omega) (by omega)) ?_
          refine gp (r_ldNo rfl Ty.row_159 Ty.sz_159 hra hcl (by decide) hA) ?_
          refine zal fun b7 => ?_
          refine gl_storeN (wt0 rfl) rfl rfl Ty.sz_159 hcl (by repeat (first | exact Pick.here | apply Pick.there)) (by first | decide | (rw [zD_length]; decide)) (all_app' (dc_one _) (all_cons' rfl all_nil')) (updL_all (by rw [hcl]; first | rfl | decide)) ?_
          refine gnt ?_
          refine gsr ?_
          refine gp zmv ?_
          refine gp zfa ?_
          refine gp (zL (sg := dc y.key)) ?_
          refine zc (fun _ => ?_) (c := fun w1 F1 F2 h1 h2 hd hst => odigest_ok h1 (by omega))
          refine gnt ?_
          refine gc_region ?_
          refine gp zmv ?_
          refine gp zfa ?_
          refine gp zl ?_
          refine zc (fun _ => ?_) (c := fun w1 F1 F2 h1 h2 hd hst => onum_ok (wd := 6) h1 (by decide) (by decide) (fun _ => hoy) (by omega))
          refine gl_nil ?_
          refine gx_block_normal ?_
          refine gx_then ?_
          refine gc_region ?_
          refine gp zad ?_
          refine gp zmv ?_
          refine gl_nil ?_
          refine zrd (k + 1) ?_ ?_
          · show x.next.length - (k + 1) < x.next.length - k
            omega
          · rintro w' hw
            rw [foldl_take_succ _ _ _ hly]
            exact zlp (show k + 1 ≤ x.next.length by omega) (by repeat (first | exact Sel.nil | (apply Sel.cons; · (repeat (first | exact Pick.here | apply Pick.there))))) w' hw
        · try simp only at hc77
          have hk' : k = x.next.length := by omega
          subst hk'
          rw [List.take_length, put_many wVdr_bad _ (by decide)]
          refine gc_exit ?_
          refine gx_then_exit ?_
          refine gx_round_exit ?_
          refine gx_block_hit ?_
          refine gx_ret0' rfl ?_
          exact ze ()

end Go.Proofs.YtobjojeliibinaaGreatDoor

/- Plain words: what the reader of layer 9 makes of bytes; that it undoes the writer, and the writer it. No program in sight. -/
namespace Go.Proofs.YtobjojeliibinaaGreatDoor
set_option linter.unusedVariables false

/-- A reading: a value and what is left, or an error's number. -/
abbrev PR (α : Type) := List UInt8 → Except Nat (α × List UInt8)
def pBind {α β : Type} (p : PR α) (f : α → PR β) : PR β := fun b => match p b with
  | .error e => .error e
  | .ok x => f x.1 x.2
def pPure {α : Type} (x : α) : PR α := fun b => .ok (x, b)
def pErr {α : Type} (e : Nat) : PR α := fun _ => .error e
def pTake (n : Nat) : PR (List UInt8) := fun b => if b.length < n then .error 2 else .ok (b.take n, b.drop n)
def valN (l : List UInt8) : Nat := l.foldl (fun n c => n * 256 + c.toNat) 0
def pNum (wd : Nat) : PR Int := pBind (pTake wd) fun l => pPure (valN l : Int)
def digOf (l : List UInt8) : Dig := if h : l.length = 16 then ⟨l, h⟩ else dig0
def pDig : PR Dig := pBind (pTake 16) fun l => pPure (digOf l)
def pMany {α : Type} (one : PR α) : Nat → PR (List α)
  | 0 => pPure []
  | k + 1 => pBind one fun x => pBind (pMany one k) fun l => pPure (x :: l)
def pList {α : Type} (one : PR α) (most : Nat) : PR (List α) := pBind (pNum 1) fun n => if (most : Int) < n then pErr 1 else pMany one n.toNat
def pBytes (most : Nat) : PR (List UInt8) := pBind (pNum 2) fun n => if (most : Int) < n then pErr 1 else pTake n.toNat
def pSig : PR Sig := pBind (pNum 1) fun l => pBind (pList pDig 68) fun c => pBind (pList pDig 5) fun p => pPure ⟨l, c, p⟩
def pSigned : PR Signed := pBind (pNum 1) fun w => pBind pSig fun s => pPure ⟨w, s⟩
def pAt : PR (Int × Int) := pBind (pNum 4) fun e => pBind (pNum 6) fun r => pPure (e, r)
def pQC : PR QC := pBind pAt fun a => pBind pDig fun d => pBind (pList pSigned 7) fun v => pPure ⟨a.1, a.2, d, v⟩
def pVdr : PR Vdr := pBind pDig fun k => pBind (pNum 6) fun p => pPure ⟨k, p⟩
def pBlock : PR Block := pBind pAt fun a => pBind pDig fun d => pBind pQC fun q => pBind (pList (pBytes 16) 4) fun t => pBind (pList pVdr 7) fun v => pPure ⟨a.1, a.2, d, q, t, v⟩
def qc0 : QC := ⟨0, 0, dig0, []⟩
def blk0 : Block := ⟨0, 0, dig0, qc0, [], []⟩
def chg0 : Chg := ⟨[blk0, blk0, blk0], qc0⟩
/-- All bytes are read. -/
def pAll {α : Type} (p : PR α) (b : List UInt8) : Except Nat α := match p b with
  | .error e => .error e
  | .ok x => if x.2 = [] then .ok x.1 else .error 3
/-! ### Numbers -/
theorem valN_go (l : List UInt8) (a : Nat) : l.foldl (fun n c => n * 256 + c.toNat) a = a * 256 ^ l.length + valN l := by
  unfold valN
  induction l generalizing a with
  | nil => simp
  | cons c l ih =>
    rw [List.foldl_cons, ih, List.foldl_cons, ih (0 * 256 + c.toNat), List.length_cons, Nat.pow_succ, Nat.add_mul, Nat.zero_mul, Nat.zero_add, Nat.mul_comm (256 ^ l.length) 256, ← Nat.mul_assoc]
    omega
theorem valN_cons (c : UInt8) (l : List UInt8) : valN (c :: l) = c.toNat * 256 ^ l.length + valN l := by
  conv => lhs; unfold valN
  rw [List.foldl_cons, valN_go, Nat.zero_mul, Nat.zero_add]
theorem valN_lt (l : List UInt8) : valN l < 256 ^ l.length := by
  induction l with
  | nil => simp [valN]
  | cons c l ih =>
    rw [valN_cons, List.length_cons, Nat.pow_succ]
    have := c.toNat_lt
    have h2 : c.toNat * 256 ^ l.length ≤ 255 * 256 ^ l.length := Nat.mul_le_mul_right _ (by omega)
    omega
theorem beN_succ (n : Int) (wd : Nat) : beN n (wd + 1) = byteAt n wd :: beN n wd := by
  simp only [beN, List.range_succ_eq_map, List.map_cons, List.map_map]
  congr 1
  apply List.map_congr_left
  intro j hj
  simp only [Function.comp]
  congr 1
  omega
theorem byteAt_nat (n i : Nat) : byteAt (n : Int) i = UInt8.ofNat (n / 256 ^ i) := by
  unfold byteAt
  have e : (2 : Int) ^ (8 * i) = ((256 ^ i : Nat) : Int) := by
    rw [Int.pow_mul]; simp
  rw [e, ← Int.natCast_ediv, show ((n / 256 ^ i : Nat) : Int) % 256 = ((n / 256 ^ i % 256 : Nat) : Int) by simp, Int.toNat_natCast]
  apply UInt8.toNat_inj.1
  simp
theorem beN_mod (c v k j : Nat) (h : j ≤ k) : beN ((c * 256 ^ k + v : Nat) : Int) j = beN (v : Int) j := by
  induction j with
  | zero => rfl
  | succ j ih =>
    rw [beN_succ, beN_succ, ih (by omega), byteAt_nat, byteAt_nat]
    congr 1
    apply UInt8.toNat_inj.1
    obtain ⟨d, rfl⟩ : ∃ d, k = j + 1 + d := ⟨k - (j + 1), by omega⟩
    have e : c * 256 ^ (j + 1 + d) + v = v + 256 ^ j * (256 * (256 ^ d * c)) := by
      rw [Nat.pow_add, Nat.pow_succ]
      rw [Nat.add_comm]; congr 1
      rw [Nat.mul_comm c, Nat.mul_assoc, Nat.mul_assoc]
    rw [e, UInt8.toNat_ofNat', UInt8.toNat_ofNat', Nat.add_mul_div_left _ _ (Nat.pow_pos (by decide))]
    omega
theorem beN_valN (l : List UInt8) : beN (valN l : Int) l.length = l := by
  induction l with
  | nil => rfl
  | cons c l ih =>
    rw [List.length_cons, beN_succ, valN_cons, beN_mod _ _ _ _ (Nat.le_refl _), ih, byteAt_nat]
    congr 1
    apply UInt8.toNat_inj.1
    rw [UInt8.toNat_ofNat', Nat.mul_comm, Nat.mul_add_div (Nat.pow_pos (by decide)), Nat.div_eq_of_lt (valN_lt l)]
    have := c.toNat_lt
    omega

/-! ### What is written is read -/
/-- What p reads is what W writes. -/
def Dec {α : Type} (W : α → WS → WS) (p : PR α) : Prop := ∀ b x r, p b = .ok (x, r) → ∃ b', b = b' ++ r ∧ ∀ s, s.err = 0 → W x s = ⟨0, s.bs ++ b'⟩
theorem pBind_ok {α β : Type} {p : PR α} {f : α → PR β} {b r : List UInt8} {y : β} (h : pBind p f b = .ok (y, r)) : ∃ x r1, p b = .ok (x, r1) ∧ f x r1 = .ok (y, r) := by
  unfold pBind at h
  cases hp : p b with
  | error e => rw [hp] at h; cases h
  | ok x => rw [hp] at h; exact ⟨x.1, x.2, rfl, h⟩
theorem pBind_eq {α β : Type} {p : PR α} {f : α → PR β} {b r : List UInt8} {x : α} (h : p b = .ok (x, r)) : pBind p f b = f x r := by
  unfold pBind; rw [h]
theorem pBind_err {α β : Type} {p : PR α} {f : α → PR β} {b : List UInt8} {e : Nat} (h : p b = .error e) : pBind p f b = .error e := by
  unfold pBind; rw [h]
theorem pTake_ok {n : Nat} {b l r : List UInt8} (h : pTake n b = .ok (l, r)) : b = l ++ r ∧ l.length = n := by
  unfold pTake at h
  split at h
  · cases h
  · simp only [Except.ok.injEq, Prod.mk.injEq] at h
    obtain ⟨rfl, rfl⟩ := h
    simp; omega
theorem pNum_ok {wd : Nat} {b r : List UInt8} {n : Int} (h : pNum wd b = .ok (n, r)) : ∃ m : Nat, n = m ∧ m < 256 ^ wd ∧ b = beN n wd ++ r := by
  obtain ⟨l, r1, h1, h2⟩ := pBind_ok h
  obtain ⟨rfl, rfl⟩ := pTake_ok h1
  simp only [pPure, Except.ok.injEq, Prod.mk.injEq] at h2
  obtain ⟨rfl, rfl⟩ := h2
  exact ⟨valN l, rfl, valN_lt l, by rw [beN_valN]⟩
theorem wNum_of {n wd : Nat} {s : WS} (h : n < 256 ^ wd) (hs : s.err = 0) : wNum (n : Int) wd s = ⟨0, s.bs ++ beN n wd⟩ := by
  have e : (2 : Int) ^ (8 * wd) = ((256 ^ wd : Nat) : Int) := by rw [Int.pow_mul]; simp
  unfold wNum
  rw [e, if_neg (by omega), wFix, if_pos hs, hs]
theorem wFix_of {b : List UInt8} {s : WS} (hs : s.err = 0) : wFix b s = ⟨0, s.bs ++ b⟩ := by rw [wFix, if_pos hs, hs]

theorem dec_num {wd : Nat} : Dec (fun n s => wNum n wd s) (pNum wd) := fun b n r h => by
  obtain ⟨m, rfl, h2, h3⟩ := pNum_ok h
  exact ⟨beN m wd, h3, fun s hs => wNum_of h2 hs⟩
theorem dec_dig : Dec wDig pDig := fun b d r h => by
  obtain ⟨l, r1, h1, h2⟩ := pBind_ok h
  obtain ⟨rfl, hl⟩ := pTake_ok h1
  simp only [pPure, Except.ok.injEq, Prod.mk.injEq, digOf, dif_pos hl] at h2
  obtain ⟨rfl, rfl⟩ := h2
  exact ⟨l, rfl, fun s hs => wFix_of hs⟩
theorem dec_many {α : Type} {W : α → WS → WS} {p : PR α} (h : Dec W p) : ∀ (n : Nat) (b : List UInt8) (l : List α) (r : List UInt8), pMany p n b = .ok (l, r) → l.length = n ∧ ∃ b', b = b' ++ r ∧ ∀ s, s.err = 0 → l.foldl (fun s x => W x s) s = ⟨0, s.bs ++ b'⟩
  | 0, b, l, r, hb => by
    simp only [pMany, pPure, Except.ok.injEq, Prod.mk.injEq] at hb
    obtain ⟨rfl, rfl⟩ := hb
    exact ⟨rfl, [], rfl, fun s hs => by rw [← hs]; simp⟩
  | n + 1, b, l, r, hb => by
    obtain ⟨x, r1, h1, h2⟩ := pBind_ok hb
    obtain ⟨l', r2, h3, h4⟩ := pBind_ok h2
    simp only [pPure, Except.ok.injEq, Prod.mk.injEq] at h4
    obtain ⟨rfl, rfl⟩ := h4
    obtain ⟨b1, rfl, k1⟩ := h _ _ _ h1
    obtain ⟨hl, b2, rfl, k2⟩ := dec_many h n _ _ _ h3
    exact ⟨by simp [hl], b1 ++ b2, by rw [List.append_assoc], fun s hs => by rw [List.foldl_cons, k1 s hs, k2 _ rfl, List.append_assoc]⟩
theorem dec_list {α : Type} {W : α → WS → WS} {p : PR α} (h : Dec W p) (most : Nat) : Dec (fun l s => wPut W l most s) (pList p most) := fun b l r hb => by
  obtain ⟨n, r1, h1, h2⟩ := pBind_ok hb
  obtain ⟨m, rfl, hm, _⟩ := pNum_ok h1
  obtain ⟨b1, rfl, k1⟩ := dec_num _ _ _ h1
  split at h2
  · cases h2
  · rename_i hn
    rw [Int.toNat_natCast] at h2
    obtain ⟨hl, b2, rfl, k2⟩ := dec_many h _ _ _ _ h2
    refine ⟨b1 ++ b2, by rw [List.append_assoc], fun s hs => ?_⟩
    simp only [wPut]
    rw [if_neg (by omega), hl, show wNum (m : Int) 1 s = _ from k1 s hs, k2 _ rfl, List.append_assoc]
theorem dec_bytes {most : Nat} : Dec (fun b s => wBytes b most s) (pBytes most) := fun b l r hb => by
  obtain ⟨n, r1, h1, h2⟩ := pBind_ok hb
  obtain ⟨m, rfl, hm, _⟩ := pNum_ok h1
  obtain ⟨b1, rfl, k1⟩ := dec_num _ _ _ h1
  split at h2
  · cases h2
  · rename_i hn
    rw [Int.toNat_natCast] at h2
    obtain ⟨rfl, hl⟩ := pTake_ok h2
    refine ⟨b1 ++ l, by rw [List.append_assoc], fun s hs => ?_⟩
    simp only [wBytes]
    rw [if_neg (by omega), hl, show wNum (m : Int) 2 s = _ from k1 s hs, wFix_of rfl, List.append_assoc]

/-! ### Cut short -/
/-! ### The parts of messages -/
theorem pPure_ok {α : Type} {x y : α} {b r : List UInt8} (h : pPure x b = .ok (y, r)) : x = y ∧ b = r := by
  simpa only [pPure, Except.ok.injEq, Prod.mk.injEq] using h
def wAtP (x : Int × Int) (s : WS) : WS := wAt x.1 x.2 s
theorem dec_sig : Dec wSig pSig := fun b x r h => by
  obtain ⟨v0, r0, h0, h⟩ := pBind_ok h
  obtain ⟨v1, r1, h1, h⟩ := pBind_ok h
  obtain ⟨v2, r2, h2, h⟩ := pBind_ok h
  obtain ⟨rfl, rfl⟩ := pPure_ok h
  obtain ⟨b0, rfl, k0⟩ := dec_num _ _ _ h0
  obtain ⟨b1, rfl, k1⟩ := dec_list dec_dig 68 _ _ _ h1
  obtain ⟨b2, rfl, k2⟩ := dec_list dec_dig 5 _ _ _ h2
  refine ⟨b0 ++ b1 ++ b2, by simp only [List.append_assoc], fun s hs => ?_⟩
  have g0 := k0 s hs
  have g1 := k1 (⟨0, s.bs ++ b0⟩ : WS) rfl
  have g2 := k2 (⟨0, s.bs ++ b0 ++ b1⟩ : WS) rfl
  simp only [wSig] at g0 g1 g2 ⊢
  rw [g0, g1, g2]
  simp only [List.append_assoc]
theorem dec_signed : Dec wSigned pSigned := fun b x r h => by
  obtain ⟨v0, r0, h0, h⟩ := pBind_ok h
  obtain ⟨v1, r1, h1, h⟩ := pBind_ok h
  obtain ⟨rfl, rfl⟩ := pPure_ok h
  obtain ⟨b0, rfl, k0⟩ := dec_num _ _ _ h0
  obtain ⟨b1, rfl, k1⟩ := dec_sig _ _ _ h1
  refine ⟨b0 ++ b1, by simp only [List.append_assoc], fun s hs => ?_⟩
  have g0 := k0 s hs
  have g1 := k1 (⟨0, s.bs ++ b0⟩ : WS) rfl
  simp only [wSigned] at g0 g1 ⊢
  rw [g0, g1]
  simp only [List.append_assoc]
theorem dec_at : Dec wAtP pAt := fun b x r h => by
  obtain ⟨v0, r0, h0, h⟩ := pBind_ok h
  obtain ⟨v1, r1, h1, h⟩ := pBind_ok h
  obtain ⟨rfl, rfl⟩ := pPure_ok h
  obtain ⟨b0, rfl, k0⟩ := dec_num _ _ _ h0
  obtain ⟨b1, rfl, k1⟩ := dec_num _ _ _ h1
  refine ⟨b0 ++ b1, by simp only [List.append_assoc], fun s hs => ?_⟩
  have g0 := k0 s hs
  have g1 := k1 (⟨0, s.bs ++ b0⟩ : WS) rfl
  simp only [wAtP, wAt] at g0 g1 ⊢
  rw [g0, g1]
  simp only [List.append_assoc]
theorem dec_qc : Dec wQC pQC := fun b x r h => by
  obtain ⟨v0, r0, h0, h⟩ := pBind_ok h
  obtain ⟨v1, r1, h1, h⟩ := pBind_ok h
  obtain ⟨v2, r2, h2, h⟩ := pBind_ok h
  obtain ⟨rfl, rfl⟩ := pPure_ok h
  obtain ⟨b0, rfl, k0⟩ := dec_at _ _ _ h0
  obtain ⟨b1, rfl, k1⟩ := dec_dig _ _ _ h1
  obtain ⟨b2, rfl, k2⟩ := dec_list dec_signed 7 _ _ _ h2
  refine ⟨b0 ++ b1 ++ b2, by simp only [List.append_assoc], fun s hs => ?_⟩
  have g0 := k0 s hs
  have g1 := k1 (⟨0, s.bs ++ b0⟩ : WS) rfl
  have g2 := k2 (⟨0, s.bs ++ b0 ++ b1⟩ : WS) rfl
  simp only [wQC, wAtP] at g0 g1 g2 ⊢
  rw [g0, g1, g2]
  simp only [List.append_assoc]
theorem dec_vdr : Dec wVdr pVdr := fun b x r h => by
  obtain ⟨v0, r0, h0, h⟩ := pBind_ok h
  obtain ⟨v1, r1, h1, h⟩ := pBind_ok h
  obtain ⟨rfl, rfl⟩ := pPure_ok h
  obtain ⟨b0, rfl, k0⟩ := dec_dig _ _ _ h0
  obtain ⟨b1, rfl, k1⟩ := dec_num _ _ _ h1
  refine ⟨b0 ++ b1, by simp only [List.append_assoc], fun s hs => ?_⟩
  have g0 := k0 s hs
  have g1 := k1 (⟨0, s.bs ++ b0⟩ : WS) rfl
  simp only [wVdr] at g0 g1 ⊢
  rw [g0, g1]
  simp only [List.append_assoc]
theorem dec_block : Dec wBlock pBlock := fun b x r h => by
  obtain ⟨v0, r0, h0, h⟩ := pBind_ok h
  obtain ⟨v1, r1, h1, h⟩ := pBind_ok h
  obtain ⟨v2, r2, h2, h⟩ := pBind_ok h
  obtain ⟨v3, r3, h3, h⟩ := pBind_ok h
  obtain ⟨v4, r4, h4, h⟩ := pBind_ok h
  obtain ⟨rfl, rfl⟩ := pPure_ok h
  obtain ⟨b0, rfl, k0⟩ := dec_at _ _ _ h0
  obtain ⟨b1, rfl, k1⟩ := dec_dig _ _ _ h1
  obtain ⟨b2, rfl, k2⟩ := dec_qc _ _ _ h2
  obtain ⟨b3, rfl, k3⟩ := dec_list (dec_bytes (most := 16)) 4 _ _ _ h3
  obtain ⟨b4, rfl, k4⟩ := dec_list dec_vdr 7 _ _ _ h4
  refine ⟨b0 ++ b1 ++ b2 ++ b3 ++ b4, by simp only [List.append_assoc], fun s hs => ?_⟩
  have g0 := k0 s hs
  have g1 := k1 (⟨0, s.bs ++ b0⟩ : WS) rfl
  have g2 := k2 (⟨0, s.bs ++ b0 ++ b1⟩ : WS) rfl
  have g3 := k3 (⟨0, s.bs ++ b0 ++ b1 ++ b2⟩ : WS) rfl
  have g4 := k4 (⟨0, s.bs ++ b0 ++ b1 ++ b2 ++ b3⟩ : WS) rfl
  simp only [wBlock, wAtP] at g0 g1 g2 g3 g4 ⊢
  rw [g0, g1, g2, g3, g4]
  simp only [List.append_assoc]
theorem pAll_ok {β : Type} {p : PR β} {b : List UInt8} {y : β} (h : pAll p b = .ok y) : p b = .ok (y, []) := by
  unfold pAll at h
  cases hp : p b with
  | error e => rw [hp] at h; cases h
  | ok x =>
    rw [hp] at h
    obtain ⟨a, r⟩ := x
    by_cases hr : r = []
    · simp only [hr, if_true, Except.ok.injEq] at h; rw [h, hr]
    · simp only [hr, if_false] at h; cases h
end Go.Proofs.YtobjojeliibinaaGreatDoor

/- Plain words: a reading under way: where it stands, or its first error. No program in sight. -/
namespace Go.Proofs.YtobjojeliibinaaGreatDoor
set_option linter.unusedVariables false

abbrev RSt := Except Nat (List UInt8)
def rstep {α : Type} (p : PR α) : RSt → RSt
  | .error e => .error e
  | .ok b => match p b with
    | .error e => .error e
    | .ok x => .ok x.2
/-- If all goes well, this is what is read. -/
def Ag {α : Type} (p : PR α) (σ : RSt) (x : α) : Prop := ∀ b y r, σ = .ok b → p b = .ok (y, r) → x = y
def errOf : RSt → Nat
  | .ok _ => 0
  | .error e => e
def WS.st (s : WS) : RSt := if s.err = 0 then .ok s.bs else .error s.err
theorem Ag.bind {α β : Type} {p : PR α} {f : α → PR β} {σ : RSt} {x : α} {y : β} (h : Ag p σ x) (k : Ag (f x) (rstep p σ) y) : Ag (pBind p f) σ y := by
  rintro b y' r rfl hb
  obtain ⟨x', r1, h1, h2⟩ := pBind_ok hb
  obtain rfl := h b x' r1 rfl h1
  refine k r1 y' r ?_ h2
  simp only [rstep, h1]
theorem rstep_bind {α β : Type} {p : PR α} {f : α → PR β} {σ : RSt} {x : α} (h : Ag p σ x) : rstep (pBind p f) σ = rstep (f x) (rstep p σ) := by
  cases σ with
  | error e => rfl
  | ok b =>
    cases hp : p b with
    | error e => simp only [rstep, pBind_err hp, hp]
    | ok x' =>
      obtain ⟨x', r⟩ := x'
      obtain rfl := h b x' r rfl hp
      simp only [rstep, pBind_eq hp, hp]
theorem Ag.pure {α : Type} {σ : RSt} (x : α) : Ag (pPure x) σ x := by
  rintro b y r rfl h
  exact (pPure_ok h).1
theorem rstep_pure {α : Type} {σ : RSt} (x : α) : rstep (pPure x) σ = σ := by cases σ <;> rfl
theorem Ag.err {α : Type} {σ : RSt} {k : Nat} (x : α) : Ag (pErr k) σ x := by rintro b y r _ h; cases h
theorem Ag.error {α : Type} {p : PR α} {e : Nat} (x : α) : Ag p (.error e) x := by rintro b y r h _; cases h
theorem Ag.of {α : Type} {p : PR α} {b r : List UInt8} {x : α} (h : p b = .ok (x, r)) : Ag p (.ok b) x := by
  rintro b' y r' he h'
  cases he; rw [h] at h'; cases h'; rfl
theorem errOf_rstep {α : Type} (p : PR α) {σ : RSt} (h : errOf σ ≠ 0) : rstep p σ = σ := by
  cases σ with
  | error e => rfl
  | ok b => exact absurd rfl h
theorem Ag.bad {α : Type} {p : PR α} {σ : RSt} (h : errOf σ ≠ 0) (x : α) : Ag p σ x := by
  cases σ with
  | error e => exact Ag.error x
  | ok b => exact absurd rfl h
/-- A list under way: m elements are still to come, out are there. -/
structure Many {α : Type} (one : PR α) (n : Nat) (σ0 : RSt) (m : Nat) (σ : RSt) (out : List α) : Prop where
  st : rstep (pMany one n) σ0 = rstep (pMany one m) σ
  ag : ∀ l, Ag (pMany one m) σ l → Ag (pMany one n) σ0 (out ++ l)
theorem Many.start {α : Type} {one : PR α} {n : Nat} {σ0 : RSt} : Many one n σ0 n σ0 [] := ⟨rfl, fun l h => h⟩
theorem Many.next {α : Type} {one : PR α} {n m : Nat} {σ0 σ : RSt} {out : List α} {x : α} (h : Many one n σ0 (m + 1) σ out) (hx : Ag one σ x) : Many one n σ0 m (rstep one σ) (out ++ [x]) := by
  refine ⟨?_, fun l hl => ?_⟩
  · rw [h.st, pMany, rstep_bind hx]
    cases hσ : rstep one σ with
    | error e => rfl
    | ok b =>
      cases hm : pMany one m b with
      | error e => simp only [rstep, pBind_err hm, hm]
      | ok y => simp only [rstep, pBind_eq (x := y.1) (r := y.2) hm, hm, pPure]
  · have := h.ag (x :: l) (by rw [pMany]; exact Ag.bind hx (Ag.bind hl (Ag.pure _)))
    simpa using this
theorem Many.done {α : Type} {one : PR α} {n : Nat} {σ0 σ : RSt} {out : List α} (h : Many one n σ0 0 σ out) : rstep (pMany one n) σ0 = σ ∧ Ag (pMany one n) σ0 out := by
  refine ⟨by rw [h.st]; exact rstep_pure _, ?_⟩
  have := h.ag [] (Ag.pure _)
  simpa using this
theorem Many.bad {α : Type} {one : PR α} {n m : Nat} {σ0 σ : RSt} {out : List α} (h : Many one n σ0 m σ out) (he : errOf σ ≠ 0) : rstep (pMany one n) σ0 = σ ∧ ∀ l, Ag (pMany one n) σ0 l := by
  have h1 : rstep (pMany one n) σ0 = σ := by rw [h.st]; exact errOf_rstep _ he
  refine ⟨h1, fun l => ?_⟩
  rintro b y r rfl hb
  exfalso
  apply he
  rw [← h1]
  simp only [rstep, hb]; rfl
end Go.Proofs.YtobjojeliibinaaGreatDoor

/- Walks, by program (wg.py) out of a spec. -/
namespace Go.Proofs.YtobjojeliibinaaGreatDoor
open Go
set_option linter.unusedVariables false
set_option linter.unusedSimpArgs false


/-- A reading of cells that stays as long as its blocks stay. -/
class RdK {α : Type} (rd : World → (Nat → Prop) → List Value → α → Prop) : Prop where
  mv : ∀ {w w' : World} {A A' : Nat → Prop} {cs : List Value} {x : α}, rd w A cs x → Still w A w' A' → rd w' A' cs x
instance : RdK (fun _ _ => RdDig) := ⟨fun h _ => h⟩
instance : RdK (fun _ _ => RdVdr) := ⟨fun h _ => h⟩
instance : RdK RdBytes := ⟨fun h k => h.mv k⟩
instance : RdK RdSig := ⟨fun h k => h.mv k⟩
instance : RdK RdSigned := ⟨fun h k => h.mv k⟩
instance : RdK RdLate := ⟨fun h k => h.mv k⟩
instance : RdK RdQC := ⟨fun h k => h.mv k⟩
instance : RdK RdTC := ⟨fun h k => h.mv k⟩
instance : RdK RdBlock := ⟨fun h k => h.mv k⟩
instance : RdK RdVote := ⟨fun h k => h.mv k⟩
instance : RdK RdTmo := ⟨fun h k => h.mv k⟩
instance : RdK RdProp := ⟨fun h k => h.mv k⟩
instance : RdK RdChg := ⟨fun h k => h.mv k⟩
instance : RdK RdMsg := ⟨fun h k => h.mv k⟩
theorem still_of {w w' : World} {F : Nat → Prop} (hk : ∀ k, k < w.heap.size → F k → w'.heap[k]? = w.heap[k]?) : Still w F w' F := fun k h hF => ⟨hk k h hF, hF⟩
theorem still_sub {w : World} {F G : Nat → Prop} (h : ∀ k, F k → G k) : Still w F w G := fun k _ hF => ⟨rfl, h k hF⟩
section
variable {α : Type} (rd : World → (Nat → Prop) → List Value → α → Prop) [RdK rd]
/-- Cells that read as x, in blocks that are owned. -/
def VlR (cs : List Value) (x : α) : Res := rdR (fun w F => rd w F cs x) (fun h hk => RdK.mv h (still_of hk))
/-- A slice that reads as l, all of it owned. -/
def LsR (size : Nat) (a : Option Addr) (n : Nat) (l : List α) : Res := rdR (fun w F => RdList (rd w F) w F size a n l) (fun h hk => RdList.mv h (still_of hk) fun _ _ hc => RdK.mv hc (still_of hk))
/-- Elements: what lies behind their cells. -/
def ElR (css : List (List Value)) (l : List α) : Res := rdR (fun w F => css.length = l.length ∧ ∀ (i : Nat) (c : List Value) (x : α), css[i]? = some c → l[i]? = some x → rd w F c x) (fun h hk => ⟨h.1, fun i c x h1 h2 => RdK.mv (h.2 i c x h1 h2) (still_of hk)⟩)
end
theorem stars_two {r s : Res} {w : World} {F : Nat → Prop} (h : stars [r, s] w F) : ∃ F1 F2, r.on w F1 ∧ s.on w F2 ∧ ∀ k, F k ↔ F1 k ∨ F2 k := by
  obtain ⟨F1, F2, h1, h2, hF, _⟩ := h
  exact ⟨F1, F2, h1, stars_one' h2, hF⟩
theorem stars_swap {r s : Res} {L : List Res} {w : World} {F : Nat → Prop} (h : stars (r :: s :: L) w F) : stars (s :: r :: L) w F := Pick.stars (.there .here) h
theorem stars_cons {r : Res} {L : List Res} {w : World} {F : Nat → Prop} (h : stars (r :: L) w F) : ∃ F1 F2, r.on w F1 ∧ stars L w F2 ∧ ∀ k, F k ↔ F1 k ∨ F2 k := by
  obtain ⟨F1, F2, h1, h2, hF, _⟩ := h; exact ⟨F1, F2, h1, h2, hF⟩
theorem rdR_mk {φ : World → (Nat → Prop) → Prop} {hl} {w : World} {F : Nat → Prop} {L : List Res} (h : φ w F) (hs : stars L w F) : stars [rdR φ hl] w F := stars_one ⟨h, stars_ok hs⟩
section
variable {α : Type} {rd : World → (Nat → Prop) → List Value → α → Prop} [RdK rd]
theorem el_nil {L : List Res} {w : World} {F : Nat → Prop} (h : stars L w F) : stars (ElR rd [] [] :: L) w F :=
  ⟨fun _ => False, F, ⟨⟨rfl, fun i c x h1 _ => by simp at h1⟩, fun _ h => h.elim⟩, h, fun k => by simp, fun _ h => h.elim⟩
theorem el_snoc {css : List (List Value)} {l : List α} {c : List Value} {x : α} {w : World} {F : Nat → Prop} (h : stars [ElR rd css l, VlR rd c x] w F) : stars [ElR rd (css ++ [c]) (l ++ [x])] w F := by
  obtain ⟨F1, F2, h1, h2, hF⟩ := stars_two h
  obtain ⟨⟨he, h1⟩, _⟩ := h1
  refine rdR_mk ⟨by simp [he], fun i c' x' hc hx => ?_⟩ h
  by_cases hi : i < css.length
  · rw [List.getElem?_append_left hi] at hc
    rw [List.getElem?_append_left (by omega)] at hx
    exact RdK.mv (h1 i c' x' hc hx) (still_sub fun k hk => (hF k).2 (.inl hk))
  · have hi' : i = css.length := by
      have := (List.getElem?_eq_some_iff.1 hc).1; simp at this; omega
    subst hi'
    rw [List.getElem?_append_right (by omega)] at hc hx
    simp only [Nat.sub_self, List.getElem?_cons_zero, Option.some.injEq] at hc
    simp only [he, Nat.sub_self, List.getElem?_cons_zero, Option.some.injEq] at hx
    subst hc; subst hx
    exact RdK.mv h2.1 (still_sub fun k hk => (hF k).2 (.inr hk))
theorem ls_of {e size n cap : Nat} {a : Option Addr} {css : List (List Value)} {l : List α} {w : World} {F : Nat → Prop} (hsz : ∀ c ∈ css, c.length = size) (h : stars [rowR e size a n cap css.flatten, ElR rd css l] w F) : stars [LsR rd size a n l] w F := by
  obtain ⟨F1, F2, h1, h2, hF⟩ := stars_two h
  obtain ⟨⟨he, h2⟩, _⟩ := h2
  exact rdR_mk ⟨css, (rowR.rd h1).mv (still_sub fun k hk => (hF k).2 (.inl hk)), hsz, he, fun i c x hc hx => RdK.mv (h2 i c x hc hx) (still_sub fun k hk => (hF k).2 (.inr hk))⟩ h
end
theorem St.pureI {w0 w : World} {F0 : Nat → Prop} {L : List Res} {p : Prop} (hp : p) (h : St w0 F0 L w) : St w0 F0 (pureR p :: L) w := by
  obtain ⟨F, hF, hst⟩ := h; exact ⟨F, stars_pure_mk hp hF, hst⟩
theorem St.mapL {w0 w : World} {F0 : Nat → Prop} {L L' : List Res} (h : St w0 F0 L w) (k : ∀ F, stars L w F → stars L' w F) : St w0 F0 L' w := by
  obtain ⟨F, hF, hst⟩ := h; exact ⟨F, k F hF, hst⟩
section
variable {TE : TypeId} {ea : Nat → Addr} {g : Nat} {σ : RSt} {a2 : Option Addr} {l : List UInt8} {L : List Res} {w : World} {F : Nat → Prop}
end
section
variable {P : Program} {w0 : World} {F0 : Nat → Prop} {L : List Res} {n : Fm} {env : Env} {d : Option Tmp} {ty : TypeId} {pos : String} {af : Array Edge} {gd : Option (Nat × Bool)}
end
attribute [local irreducible] Gl Gc Gx Gs Runs Wt

end Go.Proofs.YtobjojeliibinaaGreatDoor

/- Walks, by program (wg.py) out of a spec. -/
namespace Go.Proofs.YtobjojeliibinaaGreatDoor
open Go
set_option linter.unusedVariables false
set_option linter.unusedSimpArgs false


section
variable {w : World} {F : Nat → Prop}
theorem vl_pure {α : Type} {rd : World → (Nat → Prop) → List Value → α → Prop} [RdK rd] {L : List Res} {cs : List Value} {x : α} (h : rd w (fun _ => False) cs x) (hs : stars L w F) : stars (VlR rd cs x :: L) w F :=
  ⟨fun _ => False, F, ⟨h, fun _ h => h.elim⟩, hs, fun k => by simp, fun _ h => h.elim⟩
theorem St.vl {α : Type} {rd : World → (Nat → Prop) → List Value → α → Prop} [RdK rd] {w0 : World} {F0 : Nat → Prop} {L : List Res} {cs : List Value} {x : α} (hs : St w0 F0 L w) (h : rd w (fun _ => False) cs x) : St w0 F0 (VlR rd cs x :: L) w := hs.mapL fun F hF => vl_pure h hF
theorem vl_sig {leaf : Int} {a1 a2 : Option Addr} {n1 c1 n2 c2 : Nat} {l1 l2 : List Dig} (k1 : n1 ≤ c1) (k2 : n2 ≤ c2) (h : stars [LsR (fun _ _ => RdDig) 16 a1 n1 l1, LsR (fun _ _ => RdDig) 16 a2 n2 l2] w F) : stars [VlR RdSig [.int .i64 leaf, .slice a1 n1 c1, .slice a2 n2 c2] ⟨leaf, l1, l2⟩] w F := by
  obtain ⟨F1, F2, h1, h2, hF⟩ := stars_two h
  exact rdR_mk ⟨a1, n1, c1, a2, n2, c2, rfl, k1, k2, RdList.mv h1.1 (still_sub fun k hk => (hF k).2 (.inl hk)) fun _ _ h => h, RdList.mv h2.1 (still_sub fun k hk => (hF k).2 (.inr hk)) fun _ _ h => h⟩ h
theorem vl_signed {who : Int} {ss : List Value} {s : Sig} (h : stars [VlR RdSig ss s] w F) : stars [VlR RdSigned (.int .i64 who :: ss) ⟨who, s⟩] w F := rdR_mk ⟨ss, rfl, (stars_one' h).1⟩ h
theorem vl_qc {e r : Int} {d : Dig} {a : Option Addr} {n c : Nat} {l : List Signed} (k : n ≤ c) (h : stars [LsR RdSigned 4 a n l] w F) : stars [VlR RdQC (.int .i64 e :: .int .i64 r :: (dc d ++ [.slice a n c])) ⟨e, r, d, l⟩] w F := rdR_mk ⟨a, n, c, rfl, k, (stars_one' h).1⟩ h
theorem vl_bytes {e n c : Nat} {a : Option Addr} {b : List UInt8} (h : stars [rowR e 1 a n c (b.map B8)] w F) : stars [VlR RdBytes [.slice a n c] b] w F := by
  have hr := stars_one' h
  exact rdR_mk ⟨a, n, c, rfl, hr.2.1, rowR.rd hr⟩ h
theorem vl_block {e r : Int} {d : Dig} {q : List Value} {x : QC} {a1 a2 : Option Addr} {n1 c1 n2 c2 : Nat} {l1 : List (List UInt8)} {l2 : List Vdr} (k1 : n1 ≤ c1) (k2 : n2 ≤ c2)
    (h : stars [VlR RdQC q x, LsR RdBytes 1 a1 n1 l1, LsR (fun _ _ => RdVdr) 17 a2 n2 l2] w F) : stars [VlR RdBlock (.int .i64 e :: .int .i64 r :: (dc d ++ (q ++ [.slice a1 n1 c1, .slice a2 n2 c2]))) ⟨e, r, d, x, l1, l2⟩] w F := by
  obtain ⟨F1, F2, h1, h2, hF⟩ := stars_cons h
  obtain ⟨F3, F4, h3, h4, hF2⟩ := stars_two h2
  have s3 : ∀ k, F3 k → F k := fun k hk => (hF k).2 (.inr ((hF2 k).2 (.inl hk)))
  exact rdR_mk ⟨q, a1, n1, c1, a2, n2, c2, rfl, h1.1.mv (still_sub fun k hk => (hF k).2 (.inl hk)), k1, RdList.mv h3.1 (still_sub s3) fun _ _ h => h.mv (still_sub s3), k2, RdList.mv h4.1 (still_sub fun k hk => (hF k).2 (.inr ((hF2 k).2 (.inr hk)))) fun _ _ h => h⟩ h
end

attribute [local irreducible] Gl Gc Gx Gs Runs Wt

end Go.Proofs.YtobjojeliibinaaGreatDoor

/- Zero values: their cells, and what they read as. -/
namespace Go.Proofs.YtobjojeliibinaaGreatDoor
open Go
set_option linter.unusedVariables false

def nilS : Value := .slice none 0 0
def i0 : Value := .int .i64 0
def sigC : List Value := [i0, nilS, nilS]
def sgnC : List Value := i0 :: sigC
def qcC : List Value := i0 :: i0 :: (dc dig0 ++ [nilS])
def tcC : List Value := [i0, i0, nilS]
def blkC : List Value := i0 :: i0 :: (dc dig0 ++ (qcC ++ [nilS, nilS]))
section zero
variable {w : World} {A : Nat → Prop}
theorem rdQC0 : RdQC w A qcC qc0 := ⟨none, 0, 0, rfl, Nat.le_refl _, RdList.nil⟩
theorem rdBlock0 : RdBlock w A blkC blk0 := ⟨qcC, none, 0, 0, none, 0, 0, rfl, rdQC0, Nat.le_refl _, RdList.nil, Nat.le_refl _, RdList.nil⟩
end zero
def voteC : List Value := i0 :: i0 :: (dc dig0 ++ sgnC)
def tmoC : List Value := i0 :: i0 :: (qcC ++ (tcC ++ sgnC))
def propC : List Value := blkC ++ (tcC ++ sgnC)
def chgC : List Value := [blkC, blkC, blkC].flatten ++ qcC
section zero2
variable {w : World} {A : Nat → Prop}
theorem rdChg0 : RdChg w A chgC chg0 := ⟨[blkC, blkC, blkC], qcC, rfl, (by intro x hx; simp only [List.mem_cons, List.not_mem_nil, or_false, or_self] at hx; subst hx; exact (rdBlock0 (w := w) (A := A)).len), rfl, rfl,
    (by intro i x b h1 h2
        have hx : x = blkC := by
          have := List.mem_of_getElem? h1
          simp only [List.mem_cons, List.not_mem_nil, or_false, or_self] at this; exact this
        have hb : b = blk0 := by
          have := List.mem_of_getElem? h2
          simp only [chg0, List.mem_cons, List.not_mem_nil, or_false, or_self] at this; exact this
        subst hx; subst hb; exact rdBlock0), rdQC0⟩
end zero2
def msgC (k : Int) (a b : Dig) : List Value := .int .i64 k :: (voteC ++ (tmoC ++ (propC ++ (dc a ++ (dc b ++ (blkC ++ chgC))))))
end Go.Proofs.YtobjojeliibinaaGreatDoor

/- Walks, by program (wg.py) out of a spec. -/
namespace Go.Proofs.YtobjojeliibinaaGreatDoor
open Go
set_option linter.unusedVariables false
set_option linter.unusedSimpArgs false


instance : Len voteC 22 := ⟨rfl⟩
instance : Len tmoC 28 := ⟨rfl⟩
instance : Len propC 46 := ⟨rfl⟩
instance : Len blkC 39 := ⟨rfl⟩
instance : Len chgC 136 := ⟨rfl⟩
instance : Len qcC 19 := ⟨rfl⟩
instance : Len sgnC 4 := ⟨rfl⟩
instance : Len tcC 3 := ⟨rfl⟩
theorem one_qcC : ∀ v ∈ qcC, v.oneCell' = true := (rdQC0 (w := default) (A := fun _ => True)).one
section
variable {w : World} {F : Nat → Prop}
end
attribute [local irreducible] Gl Gc Gx Gs Runs Wt

end Go.Proofs.YtobjojeliibinaaGreatDoor

/- Walks, by program (wg.py) out of a spec. -/
namespace Go.Proofs.YtobjojeliibinaaGreatDoor
open Go
set_option linter.unusedVariables false
set_option linter.unusedSimpArgs false


instance : One qcC := ⟨one_qcC⟩
instance : One blkC := ⟨(rdBlock0 (w := default) (A := fun _ => True)).one⟩
instance : One sgnC := One.of (by unfold sgnC sigC; repeat (first | exact all_nil' | exact dc_one _ | exact One.h | refine all_cons' rfl ?_ | refine all_app' (dc_one _) ?_ | refine all_app' One.h ?_))
instance : One tcC := One.of (by unfold tcC; repeat (first | exact all_nil' | exact dc_one _ | exact One.h | refine all_cons' rfl ?_ | refine all_app' (dc_one _) ?_ | refine all_app' One.h ?_))
instance : One voteC := One.of (by unfold voteC; repeat (first | exact all_nil' | exact dc_one _ | exact One.h | refine all_cons' rfl ?_ | refine all_app' (dc_one _) ?_ | refine all_app' One.h ?_))
instance : One tmoC := One.of (by unfold tmoC; repeat (first | exact all_nil' | exact dc_one _ | exact One.h | refine all_cons' rfl ?_ | refine all_app' (dc_one _) ?_ | refine all_app' One.h ?_))
instance : One propC := One.of (by unfold propC; repeat (first | exact all_nil' | exact dc_one _ | exact One.h | refine all_cons' rfl ?_ | refine all_app' (dc_one _) ?_ | refine all_app' One.h ?_))
instance : One chgC := One.of (by unfold chgC; simp only [List.flatten_cons, List.flatten_nil, List.append_assoc, List.nil_append]; repeat (first | exact all_nil' | exact dc_one _ | exact One.h | refine all_cons' rfl ?_ | refine all_app' (dc_one _) ?_ | refine all_app' One.h ?_))

attribute [local irreducible] Gl Gc Gx Gs Runs Wt

attribute [local irreducible] voteC tmoC propC blkC chgC sgnC tcC qcC dc


end Go.Proofs.YtobjojeliibinaaGreatDoor

/- Walks, by program (wg.py) out of a spec. -/
namespace Go.Proofs.YtobjojeliibinaaGreatDoor
open Go
set_option linter.unusedVariables false
set_option linter.unusedSimpArgs false


def allE {α : Type} (p : PR α) (z : α) (b : List UInt8) : Nat × α := match pAll p b with
  | .ok m => (0, m)
  | .error k => (k, z)
instance {k : Int} {a b : Dig} : Len (msgC k a b) 304 := ⟨by rw [msgC]; simp only [List.length_cons, List.length_append, dc_length, len_L]⟩
instance {k : Int} {a b : Dig} : One (msgC k a b) := One.of (by unfold msgC; repeat (first | exact One.h | refine all_app' (dc_one _) ?_ | refine all_app' One.h ?_ | refine all_cons' rfl ?_))

attribute [local irreducible] Gl Gc Gx Gs Runs Wt

attribute [local irreducible] voteC tmoC propC blkC chgC sgnC tcC qcC dc msgC




end Go.Proofs.YtobjojeliibinaaGreatDoor

/- Walks, by program (wg.py) out of a spec. -/
namespace Go.Proofs.YtobjojeliibinaaGreatDoor
open Go
set_option linter.unusedVariables false
set_option linter.unusedSimpArgs false


theorem RdChg.one {w : World} {A : Nat → Prop} {cs : List Value} {x : Chg} (h : RdChg w A cs x) : ∀ v ∈ cs, v.oneCell' = true := by
  obtain ⟨css, q, rfl, hcl, hc3, hb3, hbs, hq⟩ := h
  refine all_app' (fun v hv => ?_) hq.one
  obtain ⟨c, hc, hvc⟩ := List.mem_flatten.1 hv
  obtain ⟨i, hi, e⟩ := List.getElem_of_mem hc
  exact (hbs i c (x.blocks[i]'(by omega)) (by rw [List.getElem?_eq_getElem hi, e]) (List.getElem?_eq_getElem (by omega))).one v hvc
attribute [local irreducible] Gl Gc Gx Gs Runs Wt


set_option maxHeartbeats 400000 in
theorem odone_ok {w : World} {F : Nat → Prop} {g : Nat} {s : WS} (h : stars [OutR g s] w F) :
    Calls Tryz.prog 112 #[.pointer (some ⟨g, 0, none⟩)] w (Post w F (fun r : Option Addr × Nat => .tuple #[.slice r.1 (wOut (s)).length r.2, .int .i64 ((s).err : Int)]) (fun r => [rowR 5 1 r.1 (wOut (s)).length r.2 ((wOut (s)).map B8)])) := by
  obtain ⟨a0, c0, h'⟩ := out_open h
  refine g_enter (env := [(0, .pointer (some ⟨g, 0, none⟩))]) Tryz.func112 rfl h' Tryz.ntmps112 rfl rfl ?_
  refine gsr ?_
  refine gp zas ?_
  refine gp zas ?_
  refine gnt ?_
  refine gc_seq ?_
  refine gc_seq ?_
  by_cases he : s.err = 0
  · refine gc_region ?_
    refine gp zmv ?_
    refine gp znc ?_
    refine gp zfa ?_
    refine gp zl ?_
    refine gp (r_bool (c := false) zni (by simp [he])) ?_
    refine gnt ?_
    refine gc_condF rfl rfl ?_
    refine gc_skip ?_
    refine gx_then ?_
    refine gsr ?_
    refine gp zmv ?_
    refine gp znc ?_
    refine gp zfa ?_
    refine gp zl ?_
    refine gp zas ?_
    refine gp zas ?_
    refine gnt ?_
    refine gc_ret ?_
    refine gx_ret2 rfl (by conv => lhs; whnf) (by conv => lhs; whnf) ?_
    have e : wOut s = s.bs := by rw [wOut, if_pos he]
    rw [e]
    exact fun w' hw => ⟨(a0, c0), by rw [he]; rfl, hw.sel (by repeat (first | exact Sel.nil | (apply Sel.cons; · (repeat (first | exact Pick.here | apply Pick.there)))))⟩
  · refine gc_region ?_
    refine gp zmv ?_
    refine gp znc ?_
    refine gp zfa ?_
    refine gp zl ?_
    refine gp (r_bool (c := true) zni (by simp [he])) ?_
    refine gnt ?_
    refine gc_condT rfl rfl ?_
    refine gc_seq ?_
    refine gc_regionS (by kernel_rfl) (by kernel_rfl) ?_
    refine sp zmv ?_
    refine sp znc ?_
    refine sp zfa ?_
    refine sp zl ?_
    refine sp zas ?_
    refine sp zas ?_
    refine gs_nil ?_
    refine gx_then ?_
    refine gc_ret ?_
    refine gx_then_ret ?_
    refine gx_ret2 rfl (by conv => lhs; whnf) (by conv => lhs; whnf) ?_
    have e : wOut s = [] := by rw [wOut, if_neg he]
    rw [e]
    exact fun w' hw => ⟨(none, 0), rfl, hw.rowNil.sel (by repeat (first | exact Sel.nil | (apply Sel.cons; · (repeat (first | exact Pick.here | apply Pick.there)))))⟩

set_option maxHeartbeats 400000 in
theorem obytes_ok {w : World} {F : Nat → Prop} {cs : List Value} {x : Block} (h : stars [] w F) (hx : RdBlock w (fun k => ¬ F k) cs x) (ho : OkBlock x) :
    Calls Tryz.prog 68 #[.agg cs.toArray] w (Post w F (fun r : Option Addr × Nat => .tuple #[.slice r.1 (wOut (wBlock x ⟨0, []⟩)).length r.2, .int .i64 ((wBlock x ⟨0, []⟩).err : Int)]) (fun r => [rowR 5 1 r.1 (wOut (wBlock x ⟨0, []⟩)).length r.2 ((wOut (wBlock x ⟨0, []⟩)).map B8)])) := by
  have hl := RdBlock.len hx
  have il := Len.of hl
  have jl := One.of (RdBlock.one hx)
  refine g_enter (env := [(0, .agg cs.toArray)]) Tryz.func68 rfl h Tryz.ntmps68 rfl rfl ?_
  refine gsr ?_
  refine zbN fun b1 => ?_
  refine gp zas ?_
  refine gp zas ?_
  refine gnt ?_
  refine gsr ?_
  refine gp (r_build (cs := [.slice none 0 0, .int .i64 0]) Ty.zc_212 Ty.pl_212 (by kernel_rfl)) ?_
  refine zbN fun b6 => ?_
  refine gp zas ?_
  refine gnt ?_
  refine gsr ?_
  refine gp zmv ?_
  refine gp (zLa (cs := cs)) ?_
  refine gl_conv (M := [blk b6 212 [.slice none 0 0, .int .i64 0]]) (N := [OutR b6 ⟨0, []⟩]) (by repeat (first | exact Sel.nil | (apply Sel.cons; · (repeat (first | exact Pick.here | apply Pick.there))))) (fun w F hF => out_mk (a := none) (c := 0) (xs := []) (by have := stars_row_nil (e := 5) (size := 1) hF; exact stars_swap this) rfl rfl rfl) ?_
  refine zc (fun _ => ?_) (c := fun w1 F1 F2 h1 h2 hd hst => oblock_ok h1 (hx.mv hst.still) ho (by simp))
  refine gnt ?_
  refine gsr ?_
  refine gp zmv ?_
  refine zc (fun r11 => ?_) (c := fun w1 F1 F2 h1 h2 hd hst => odone_ok h1)
  refine gp zex ?_
  refine gp zex ?_
  refine gp zas ?_
  refine gp zas ?_
  refine gnt ?_
  refine gc_ret ?_
  refine gx_ret2 rfl (by conv => lhs; whnf) (by conv => lhs; whnf) ?_
  exact ze r11


end Go.Proofs.YtobjojeliibinaaGreatDoor

/- Walks, by program (wg.py) out of a spec. -/
namespace Go.Proofs.YtobjojeliibinaaGreatDoor
open Go
set_option linter.unusedVariables false
set_option linter.unusedSimpArgs false


theorem vl_rd {α : Type} {rd : World → (Nat → Prop) → List Value → α → Prop} [RdK rd] {L L' : List Res} {w : World} {F1 F2 : Nat → Prop} {cs : List Value} {x : α} (h2 : stars L w F2) (hd : ∀ k, F1 k → ¬ F2 k) (hp : Pick L (VlR rd cs x) L') : rd w (fun k => ¬ F1 k) cs x := by
  obtain ⟨G1, G2, ⟨h, _⟩, _, hF, _⟩ := hp.stars h2
  exact RdK.mv h fun k _ hk => ⟨rfl, fun h1 => hd k h1 ((hF k).2 (.inl hk))⟩
theorem RdChg.three {w : World} {A : Nat → Prop} {cs : List Value} {x : Chg} (h : RdChg w A cs x) : x.blocks.length = 3 := by
  obtain ⟨css, q, h1, h2, h3, h4, h5, h6⟩ := h; exact h4
theorem block_max (x : Block) : (wOut (wBlock x ⟨0, []⟩)).length ≤ 8485 := by
  have e0 := wBlock_len x ⟨0, []⟩
  simp only [List.length_nil] at e0
  unfold wOut; split
  · omega
  · simp
instance : One chgC := One.of (rdChg0 (w := default) (A := fun _ => True)).one

attribute [local irreducible] Gl Gc Gx Gs Runs Wt

attribute [local irreducible] voteC tmoC propC blkC chgC sgnC tcC qcC dc msgC

end Go.Proofs.YtobjojeliibinaaGreatDoor

/- The engine, part N: maps. -/
namespace Go.Proofs.YtobjojeliibinaaGreatDoor
open Go
set_option linter.unusedVariables false
set_option linter.unusedSimpArgs false
set_option linter.unusedSectionVars false

/-! ### Rows of keys and values -/
section rows
variable {α : Type} [DecidableEq α]
def atK (k : α) : List (α × Value) → Nat → Option (Nat × Value)
  | [], _ => none
  | p :: l, i => if k = p.1 then some (i, p.2) else atK k l (i + 1)
def getK (k : α) (l : List (α × Value)) : Option Value := (atK k l 0).map (·.2)
def putK (k : α) (v : Value) : List (α × Value) → List (α × Value)
  | [] => [(k, v)]
  | p :: l => if k = p.1 then (k, v) :: l else p :: putK k v l
def delK (k : α) : List (α × Value) → List (α × Value)
  | [] => []
  | p :: l => if k = p.1 then l else p :: delK k l
def encK (K : α → Value) (l : List (α × Value)) : List (Value × Value) := l.map fun p => (K p.1, p.2)
theorem atK_none {k : α} {v : Value} : ∀ {l : List (α × Value)} {i : Nat}, atK k l i = none → putK k v l = l ++ [(k, v)] ∧ delK k l = l
  | [], _, _ => ⟨rfl, rfl⟩
  | p :: l, i, h => by
    simp only [atK] at h
    split at h
    · cases h
    · rename_i hne
      have ih := atK_none (v := v) h
      simp only [putK, delK, if_neg hne, ih.1, ih.2, List.cons_append, and_self]
theorem atK_some {k : α} {v u : Value} : ∀ {l : List (α × Value)} {i j : Nat}, atK k l i = some (j, u) → ∃ m, j = i + m ∧ l[m]? = some (k, u) ∧ putK k v l = l.set m (k, v) ∧ delK k l = l.eraseIdx m
  | [], _, _, h => by cases h
  | p :: l, i, j, h => by
    simp only [atK] at h
    split at h
    · rename_i he
      simp only [Option.some.injEq, Prod.mk.injEq] at h
      obtain ⟨rfl, rfl⟩ := h
      refine ⟨0, rfl, ?_, ?_, ?_⟩
      · simp [he]
      · simp only [putK, if_pos he, List.set_cons_zero]
      · simp only [delK, if_pos he, List.eraseIdx_cons_zero]
    · rename_i hne
      obtain ⟨m, h1, h2, h3, h4⟩ := atK_some (v := v) h
      refine ⟨m + 1, by omega, by simpa using h2, ?_, ?_⟩
      · simp only [putK, if_neg hne, h3, List.set_cons_succ]
      · simp only [delK, if_neg hne, h4, List.eraseIdx_cons_succ]
end rows

/-! ### Maps in memory -/
def kvs (es : Array MapEntry) : List (Value × Value) := es.toList.map fun e => (e.key, e.val)
theorem kvs_length (es : Array MapEntry) : (kvs es).length = es.size := by simp [kvs]
/-- A map in block g: keys and values in the order in which they came. -/
def mapR (g : Nat) (l : List (Value × Value)) : Res where
  on w F := (∀ k, F k ↔ k = g) ∧ ∃ es clock, w.heap[g]? = some (.map es clock) ∧ kvs es = l ∧ (∀ x ∈ es.toList, x.born < clock) ∧ (es.toList.map (fun e : MapEntry => e.born)).Nodup
  loc := fun ⟨hF, es, clock, h, r⟩ hk => ⟨hF, es, clock, (hk g ((hF g).2 rfl)).trans h, r⟩
  ok := fun ⟨hF, es, clock, h, _⟩ k hk => by
    rw [(hF k).1 hk]
    exact ⟨_, h, trivial⟩
/-- Keys of type T that stand for those of α. -/
class KeyT (P : Program) (T : TypeId) {α : Type} [DecidableEq α] (K : α → Value) : Prop where
  check : ∀ (w : World) (b : Bool) (k : α), (Instr.checkKey b 10000 T (K k)).run P w = .ok () w
  find : ∀ (w : World) (k : α) (es : List MapEntry) (l : List (α × Value)), es.map (fun e => (e.key, e.val)) = encK K l → (Instr.findKey T (K k) es).run P w = .ok (atK k l 0) w
  stays : ∀ (w : World) (k : α), (Instr.keyThatStays (K k) (K k)).run P w = .ok (K k) w
theorem findNow_int {ty : TypeDesc} {kd : IntKind} (hty : ty = .int kd) (k : Int) : ∀ (es : List MapEntry) (l : List (Int × Value)) (i : Nat), es.map (fun e => (e.key, e.val)) = encK (Value.int kd) l → Instr.findNow ty (.int kd k) es i = some (atK k l i)
  | [], l, i, h => by
    cases l with
    | nil => rfl
    | cons p l => simp [encK] at h
  | e :: es, l, i, h => by
    cases l with
    | nil => simp [encK] at h
    | cons p l =>
      simp only [encK, List.map_cons, List.cons.injEq, Prod.mk.injEq] at h
      obtain ⟨⟨h1, h2⟩, h3⟩ := h
      subst hty
      simp only [Instr.findNow, h1, Instr.sameNow, if_pos, atK, h2]
      by_cases hk : k = p.1
      · simp [hk]
      · simp only [hk, if_false, beq_eq_false_iff_ne.2 hk]
        exact findNow_int rfl k es l (i + 1) h3
theorem keyT_int {P : Program} {T : TypeId} {kd : IntKind} (h : P.underlying T = some (.int kd)) : KeyT P T (Value.int kd) where
  check w b k := by
    rw [show (10000 : Nat) = 9999 + 1 from rfl]
    exact MapKept.run_checkKey (d := .int kd) h (by rfl) b 9999
  find w k es l he := MapKept.run_findKey h (findNow_int rfl k es l 0 he)
  stays w k := by simp [Instr.keyThatStays, Instr.sameBits]
theorem findAsking_dig {P : Program} {T e : TypeId} (ht : arrT P T = some (16, e)) (he : P.underlying e = some (.int .u8)) (hs : szT P e = some 1) (w : World) (k : Dig) : ∀ (es : List MapEntry) (l : List (Dig × Value)) (i : Nat),
    es.map (fun e => (e.key, e.val)) = encK (fun d => Value.agg (dc d).toArray) l → (Instr.findAsking T (.agg (dc k).toArray) es i).run P w = .ok (atK k l i) w
  | [], l, i, h => by
    cases l with
    | nil => rfl
    | cons p l => simp [encK] at h
  | e' :: es, l, i, h => by
    cases l with
    | nil => simp [encK] at h
    | cons p l =>
      simp only [encK, List.map_cons, List.cons.injEq, Prod.mk.injEq] at h
      obtain ⟨⟨h1, h2⟩, h3⟩ := h
      have hq : (Op.equal T (.agg (dc k).toArray) (.agg (dc p.1).toArray)).run P w = .ok (decide (k = p.1)) w := run_equal_dig ht he hs
      simp only [Instr.findAsking, h1, Sem.run_bind, hq, Result.andThen_ok, atK, h2]
      by_cases hk : k = p.1
      · simp [hk]
      · simp only [hk, decide_false, if_false, Bool.false_eq_true]
        exact findAsking_dig ht he hs w k es l (i + 1) h3
theorem run_forIn_list {P : Program} {w : World} {f : Nat → PUnit → Sem (ForInStep PUnit)} : ∀ (l : List Nat), (∀ i ∈ l, (f i ⟨⟩).run P w = .ok (.yield ⟨⟩) w) → (forIn l ⟨⟩ f).run P w = .ok ⟨⟩ w
  | [], _ => by simp
  | i :: l, h => by
    have h1 := h i (by simp)
    have ih := run_forIn_list (f := f) l fun j hj => h j (by simp [hj])
    simp only [List.forIn_cons, Sem.run_bind, h1, Result.andThen_ok, ih]
theorem sameBits_zip (n : Nat) : ∀ (l : List UInt8), ((l.map B8).zip (l.map B8)).all (fun p => Instr.sameBits (n + 1) p.1 p.2) = true
  | [] => rfl
  | b :: l => by
    simp only [List.map_cons, List.zip_cons_cons, List.all_cons, sameBits_zip n l, Bool.and_true]
    simp [B8, Instr.sameBits]
theorem keyT_dig {P : Program} {T e : TypeId} (ht : arrT P T = some (16, e)) (he : P.underlying e = some (.int .u8)) (hs : szT P e = some 1) : KeyT P T (fun d : Dig => Value.agg (dc d).toArray) where
  check w b k := by
    have hr : rowT P e = some false := by simp [rowT, he]
    have hz : ∀ w, (sizeOf e).run P w = .ok 1 w := fun w => run_sz hs
    show (Instr.checkKey b (9999 + 1) T _).run P w = _
    unfold Instr.checkKey
    simp only [Sem.run_bind, run_underlying (run_arrT ht), Result.andThen_ok]
    simp only [Std.Legacy.Range.forIn_eq_forIn_range', Std.Legacy.Range.size, Nat.sub_zero, Nat.add_one_sub_one, Nat.div_one]
    rw [run_forIn_list]
    · rfl
    intro i hi
    have hi16 : i < (dc k).length := by
      have := List.mem_range'_1.1 hi
      rw [dc_length]; simp at this; omega
    have hv : (dc k)[i * 1]? = some (B8 (k.l.getD i 0)) := by
      have h2 : i < k.l.length := by rw [dc_length] at hi16; rw [k.h]; exact hi16
      simp [dc, List.getD, h2]
    simp only [Sem.run_bind, hz, Result.andThen_ok, run_part1 hr hv]
    unfold Instr.checkKey
    simp [run_underlying he, B8]
  find w k es l h := by
    have hu := run_arrT ht
    cases es with
    | nil =>
      cases l with
      | nil => simp [Instr.findKey, run_underlying hu, Instr.findNow, atK]
      | cons p l => simp [encK] at h
    | cons e1 es =>
      have : Instr.findNow (.array 16 e) (.agg (dc k).toArray) (e1 :: es) 0 = none := by simp [Instr.findNow, Instr.sameNow]
      simp only [Instr.findKey, Sem.run_bind, run_underlying hu, Result.andThen_ok, this]
      exact findAsking_dig ht he hs w k (e1 :: es) l 0 h
  stays w k := by
    have h : Instr.sameBits (9998 + 1 + 1) (.agg (dc k).toArray) (.agg (dc k).toArray) = true := by
      have := sameBits_zip 9998 k.l
      unfold Instr.sameBits
      simpa [dc] using this
    show ((if Instr.sameBits (9998 + 1 + 1) (.agg (dc k).toArray) (.agg (dc k).toArray) = true then _ else _ : Sem Value)).run P w = _
    rw [if_pos h]
    simp
section
variable {P : Program} {w0 : World} {F0 : Nat → Prop} {L : List Res}
theorem St.pushR {w : World} {o : Obj} {r : Res} (hs : St w0 F0 L w) (hr : ∀ w' : World, w'.heap[w.heap.size]? = some o → r.on w' (fun k => k = w.heap.size)) : St w0 F0 (r :: L) { w with heap := w.heap.push o } := by
  obtain ⟨F, hF, hst⟩ := hs
  refine ⟨fun k => k = w.heap.size ∨ F k, ⟨fun k => k = w.heap.size, F, hr _ (by simp), ?_, fun k => Iff.rfl, ?_⟩, ?_⟩
  · exact stars_loc hF fun k hk => by
      have := stars_lt hF k hk
      simp [Array.getElem?_push, Nat.ne_of_lt this]
  · rintro k rfl hk
    exact absurd (stars_lt hF _ hk) (Nat.lt_irrefl _)
  · have hsz := hst.size
    refine ⟨hst.os, hst.tape, hst.output, by simp; omega, fun k hk hn => ?_, ?_⟩
    · rw [← hst.block k hk hn]
      show (w.heap.push _)[k]? = _
      rw [Array.getElem?_push, if_neg (by omega)]
    · rintro k (rfl | hk)
      · exact .inr hsz
      · exact hst.own k hk
theorem St.setR {w : World} {g : Nat} {o' : Obj} {r r' : Res} {L' : List Res} (hs : St w0 F0 L w) (hp : Pick L r L') (hg : ∀ F, r.on w F → F g ∧ g < w.heap.size)
    (hr : ∀ (w' : World) F, r.on w F → w'.heap[g]? = some o' → (∀ k, k ≠ g → w'.heap[k]? = w.heap[k]?) → r'.on w' F) : St w0 F0 (r' :: L') { w with heap := w.heap.setIfInBounds g o' } := by
  obtain ⟨F, hF, hst⟩ := hs
  obtain ⟨F1, F2, h1, h2, hE, hd⟩ := hp.stars hF
  obtain ⟨hg1, hlt⟩ := hg F1 h1
  refine ⟨F, ⟨F1, F2, hr _ F1 h1 (by simp [hlt]) (fun k hk => by simp [Array.getElem?_setIfInBounds, Ne.symm hk]), ?_, hE, hd⟩, ?_⟩
  · refine stars_loc h2 fun k hk => ?_
    have : ¬ g = k := fun e => hd k (e ▸ hg1) hk
    simp [Array.getElem?_setIfInBounds, this]
  · refine ⟨hst.os, hst.tape, hst.output, by simpa using hst.size, fun k hk hn => ?_, hst.own⟩
    rw [← hst.block k hk hn]
    have : ¬ g = k := fun e => (hst.old hk hn).2 ((hE k).2 (.inl (e ▸ hg1)))
    simp [Array.getElem?_setIfInBounds, this]
theorem St.mapAt {w : World} {g : Nat} {l : List (Value × Value)} {L' : List Res} (hs : St w0 F0 L w) (hp : Pick L (mapR g l) L') : ∃ es clock, w.heap[g]? = some (.map es clock) ∧ kvs es = l ∧ (∀ x ∈ es.toList, x.born < clock) ∧ (es.toList.map (·.born)).Nodup := by
  obtain ⟨F, hF, _⟩ := hs
  obtain ⟨F1, h1, _⟩ := stars_pick hp hF
  exact h1.2
variable {Q : Exit → Act → World → Prop} {n : Fm} {env : Env} {ops : Array Oper} {rest : List Oper}
variable {d : Option Tmp} {t : Tmp} {ty : TypeId} {pos : String} {af : Array Edge} {gd : Option (Nat × Bool)}
theorem gl_mkMap {T : TypeId} (hw : Wt ops n env ⟨some t, .makeMap T none, ty, pos, af, gd⟩ true) (k : ∀ g, Gl P w0 F0 (mapR g [] :: L) ops Q rest n ((t, .map (some g)) :: env)) : Gl P w0 F0 L ops Q (⟨some t, .makeMap T none, ty, pos, af, gd⟩ :: rest) n env := by
  refine gl_effx (α := Nat) (L' := fun g => mapR g [] :: L) (v := fun g => .map (some g)) hw (fun w hst => ?_) k
  refine ⟨w.heap.size, { w with heap := w.heap.push (.map #[] 0) }, ?_, hst.pushR fun w' h => ⟨fun k => Iff.rfl, #[], 0, h, rfl, by simp, by simp⟩⟩
  simp [execOp, Instr.makeMap, newObj, Sem.run]
variable {α : Type} [DecidableEq α] {K : α → Value}
theorem r_look {x y : Operand} {T kt e g : Nat} {l : List (α × Value)} {L' : List Res} {z : Value} {key : α} {b : Bool} [KeyT P kt K] (hx : ev n env x = .map (some g)) (hy : ev n env y = K key) (hm : P.underlying T = some (.map kt e)) (hz : zeroT P e = some z) (hp : Pick L (mapR g (encK K l)) L') :
    Runs P w0 F0 L n env ⟨d, .lookup T x y b, ty, pos, af, gd⟩ (if b then .tuple #[(getK key l).getD z, .bool (getK key l).isSome] else (getK key l).getD z) := fun w hst => by
  obtain ⟨es, clock, hh, hk, _⟩ := hst.mapAt hp
  have hf := KeyT.find (P := P) (T := kt) (K := K) w key es.toList l hk
  have hc := KeyT.check (P := P) (T := kt) (K := K) w es.isEmpty key
  simp only [execOp, hx, hy, Instr.lookup, Sem.run_bind, run_underlying hm, Result.andThen_ok, MapKept.run_getObj_map hh, Sem.run_pure, hc, hf, getK]
  cases atK key l 0 with
  | none => simp only [Sem.run_bind, run_zeroT hz, Result.andThen_ok, Sem.run_pure]; cases b <;> rfl
  | some p => simp only [Sem.run_pure, Result.andThen_ok]; cases b <;> rfl
theorem kvs_modify {es : Array MapEntry} {m : Nat} {k v : Value} : kvs (es.modify m fun e => { e with key := k, val := v }) = (kvs es).set m (k, v) := by
  apply List.ext_getElem?
  intro i
  simp only [kvs, List.getElem?_map, Array.getElem?_toList, Array.getElem?_modify, List.getElem?_set, List.length_map, Array.length_toList]
  by_cases h : m = i
  · subst h
    by_cases hi : m < es.size
    · simp [hi]
    · simp [hi]
  · simp [h]
theorem born_modify {es : Array MapEntry} {m : Nat} {k v : Value} : (es.modify m fun e => { e with key := k, val := v }).toList.map (·.born) = es.toList.map (·.born) := by
  apply List.ext_getElem?
  intro i
  simp only [List.getElem?_map, Array.getElem?_toList, Array.getElem?_modify]
  by_cases h : m = i
  · subst h; cases es[m]? <;> simp
  · simp [h]
theorem all_born {es es' : Array MapEntry} {clock : Nat} (h : ∀ x ∈ es.toList, x.born < clock) (e : es'.toList.map (·.born) = es.toList.map (·.born)) : ∀ x ∈ es'.toList, x.born < clock := fun x hx => by
  have : x.born ∈ es.toList.map (·.born) := by rw [← e]; exact List.mem_map.2 ⟨x, hx, rfl⟩
  obtain ⟨y, hy, h2⟩ := List.mem_map.1 this
  rw [← h2]; exact h y hy
theorem encK_set {l : List (α × Value)} {m : Nat} {k : α} {v : Value} : encK K (l.set m (k, v)) = (encK K l).set m (K k, v) := by simp [encK, List.map_set]
theorem encK_append {l : List (α × Value)} {k : α} {v : Value} : encK K (l ++ [(k, v)]) = encK K l ++ [(K k, v)] := by simp [encK]
theorem encK_get {l : List (α × Value)} {m : Nat} {k : α} {v : Value} (h : l[m]? = some (k, v)) : (encK K l)[m]? = some (K k, v) := by simp [encK, h]
theorem gl_put {x y u : Operand} {T kt e g : Nat} {l : List (α × Value)} {L' : List Res} {key : α} {v : Value} [KeyT P kt K] (hw : Wt ops n env ⟨d, .mapUpdate T x y u, ty, pos, af, gd⟩ true) (hx : ev n env x = .map (some g)) (hy : ev n env y = K key) (hu : ev n env u = v)
    (hm : P.underlying T = some (.map kt e)) (hp : Pick L (mapR g (encK K l)) L') (k : Gl P w0 F0 (mapR g (encK K (putK key v l)) :: L') ops Q rest n (pu d undef env)) : Gl P w0 F0 L ops Q (⟨d, .mapUpdate T x y u, ty, pos, af, gd⟩ :: rest) n env :=
  gl_skip hw (fun w hst => by
    obtain ⟨es, clock, hh, hk, hb, hn⟩ := hst.mapAt hp
    have hlt : g < w.heap.size := (Array.getElem?_eq_some_iff.1 hh).1
    have hf := KeyT.find (P := P) (T := kt) (K := K) w key es.toList l hk
    have hc := KeyT.check (P := P) (T := kt) (K := K) w false key
    cases ha : atK key l 0 with
    | none =>
      refine ⟨{ w with heap := w.heap.setIfInBounds g (.map (es.push ⟨K key, v, clock⟩) (clock + 1)) }, ?_, ?_⟩
      · simp only [execOp, hx, hy, hu, Instr.mapUpdate, Sem.run_bind, run_underlying hm, Result.andThen_ok, MapKept.run_getObj_map hh, hc, hf, ha, MapKept.run_setObj_map _ hh]
        rfl
      · refine hst.setR hp (fun F h => ⟨(h.1 g).2 rfl, hlt⟩) (fun w' F h hg' _ => ⟨h.1, _, _, hg', ?_, ?_, ?_⟩)
        · rw [(atK_none (v := v) ha).1, encK_append, ← hk]; simp [kvs]
        · intro z hz
          simp only [Array.toList_push, List.mem_append, List.mem_singleton] at hz
          rcases hz with hz | rfl
          · have := hb z hz; omega
          · exact Nat.lt_succ_self _
        · simp only [Array.toList_push, List.map_append, List.map_cons, List.map_nil]
          refine List.nodup_append.2 ⟨hn, by simp, ?_⟩
          intro a ha' b hb' e
          obtain ⟨z, hz, rfl⟩ := List.mem_map.1 ha'
          simp only [List.mem_singleton] at hb'
          have := hb z hz
          omega
    | some p =>
      obtain ⟨j, u0⟩ := p
      obtain ⟨m, rfl, h2, h3, _⟩ := atK_some (v := v) ha
      rw [Nat.zero_add] at ha
      have hkey : ((es[m]?).map (·.key)).getD (K key) = K key := by
        have := encK_get (K := K) h2
        rw [← hk, kvs, List.getElem?_map, Array.getElem?_toList] at this
        cases he : es[m]? with
        | none => rfl
        | some e' => rw [he] at this; simp at this; simp [this.1]
      refine ⟨{ w with heap := w.heap.setIfInBounds g (.map (es.modify m fun e => { e with key := K key, val := v }) clock) }, ?_, ?_⟩
      · simp only [execOp, hx, hy, hu, Instr.mapUpdate, Sem.run_bind, run_underlying hm, Result.andThen_ok, MapKept.run_getObj_map hh, hc, hf, ha, hkey, KeyT.stays (P := P) (T := kt) (K := K), MapKept.run_setObj_map _ hh]
        rfl
      · refine hst.setR hp (fun F h => ⟨(h.1 g).2 rfl, hlt⟩) (fun w' F h hg' _ => ⟨h.1, _, _, hg', ?_, ?_, ?_⟩)
        · rw [kvs_modify, h3, encK_set, ← hk]
        · exact all_born hb born_modify
        · rw [born_modify]; exact hn) k
/-! ### Length, clearing, going through -/
end
end Go.Proofs.YtobjojeliibinaaGreatDoor

/- Plain words: a disk of layer 6: what was synced, what was written and isn't. -/
namespace Go.Proofs.YtobjojeliibinaaGreatDoor
open Go
set_option linter.unusedVariables false
set_option linter.unusedSimpArgs false

structure Sec where
  l : List UInt8
  h : l.length = 64
theorem Sec.ext' {a b : Sec} (h : a.l = b.l) : a = b := by cases a; cases b; cases h; rfl
def sec0 : Sec := ⟨List.replicate 64 0, by simp⟩
def sc (s : Sec) : List Value := s.l.map B8
theorem sc_length (s : Sec) : (sc s).length = 64 := by rw [sc, List.length_map, s.h]
theorem sc_one (s : Sec) : ∀ v ∈ sc s, v.oneCell' = true := one_B8 _
instance {s : Sec} : Len (sc s) 64 := ⟨sc_length s⟩
instance {s : Sec} : One (sc s) := One.of (sc_one s)
def updS (f : Nat → Sec) (i : Nat) (v : Sec) : Nat → Sec := fun j => if j = i then v else f j
/-! ### What was written -/
def lookW (i : Int) : List (Int × Sec) → Option Sec
  | [] => none
  | p :: l => if i = p.1 then some p.2 else lookW i l
def putW (i : Int) (v : Sec) : List (Int × Sec) → List (Int × Sec)
  | [] => [(i, v)]
  | p :: l => if i = p.1 then (i, v) :: l else p :: putW i v l
def keysW (ws : List (Int × Sec)) : List Int := ws.map (·.1)
theorem lookW_none {i : Int} : ∀ {ws : List (Int × Sec)}, i ∉ keysW ws → lookW i ws = none
  | [], _ => rfl
  | p :: l, h => by
    simp only [keysW, List.map_cons, List.mem_cons, not_or] at h
    simp only [lookW, if_neg h.1]; exact lookW_none h.2
theorem lookW_mem {i : Int} {v : Sec} : ∀ {ws : List (Int × Sec)}, (keysW ws).Nodup → (i, v) ∈ ws → lookW i ws = some v
  | p :: l, hn, h => by
    have hn' := List.nodup_cons.1 hn
    rcases List.mem_cons.1 h with rfl | h
    · simp [lookW]
    · have : i ≠ p.1 := fun e => hn'.1 (by show p.1 ∈ l.map (·.1); rw [← e]; exact List.mem_map.2 ⟨_, h, rfl⟩)
      simp only [lookW, if_neg this]; exact lookW_mem hn'.2 h
/-- A disk. -/
structure DS where
  n : Nat
  ss : Nat → Sec
  ws : List (Int × Sec)
  off : Bool
  armed : Bool
  left : Int
def DS.at (d : DS) (i : Nat) : Sec := (lookW (i : Int) d.ws).getD (d.ss i)
def oper (d : DS) : DS := if d.armed = true ∧ d.off = false then { d with off := decide (d.left = 0), left := d.left - 1 } else d
structure DOk (d : DS) : Prop where
  n : d.n ≤ 4096
  nd : (keysW d.ws).Nodup
  ks : ∀ k ∈ keysW d.ws, 0 ≤ k ∧ k < d.n
  lf : d.armed = true → d.off = false → 0 ≤ d.left
  rg : -9223372036854775808 ≤ d.left ∧ d.left ≤ 9223372036854775807
def DS.write (d : DS) (i : Int) (v : Sec) : DS := { d with ws := putW i v d.ws }
def DS.sync (d : DS) : DS := { d with ss := d.at, ws := [] }
def DS.has (d : DS) (i : Int) : Bool := decide (0 ≤ i) && decide (i < d.n)
theorem has_iff {d : DS} {i : Int} : d.has i = true ↔ 0 ≤ i ∧ i < d.n := by simp [DS.has]
def DS.wr (d : DS) (i : Int) (v : Sec) : Nat × DS := if d.has i then (if (oper d).off then 6 else 0, if (oper d).off then oper d else (oper d).write i v) else (1, d)
def DS.rd (d : DS) (i : Int) : Nat × Sec := if d.has i then (if d.off then (6, sec0) else (0, d.at i.toNat)) else (1, sec0)
def DS.syncd (d : DS) : DS := if (oper d).off then oper d else (oper d).sync
def SyncInv (d : DS) (lw : List (Int × Sec)) (f : Nat → Sec) : Prop := lw.Sublist d.ws ∧ ∀ i : Nat, f i = if (i : Int) ∈ keysW lw then d.ss i else d.at i
theorem SyncInv.start (d : DS) : SyncInv d d.ws d.ss := ⟨List.Sublist.refl _, fun i => by
  split
  · rfl
  · rename_i h; simp [DS.at, lookW_none h]⟩
theorem SyncInv.done {d : DS} {f : Nat → Sec} (h : SyncInv d [] f) (i : Nat) : f i = d.at i := by
  have := h.2 i; simpa [keysW] using this
theorem SyncInv.key {d : DS} {A B : List (Int × Sec)} {k : Int} {v : Sec} {f : Nat → Sec} (h : SyncInv d (A ++ (k, v) :: B) f) (hk : DOk d) : 0 ≤ k ∧ k < d.n :=
  hk.ks k (List.mem_map.2 ⟨(k, v), h.1.subset (by simp), rfl⟩)
theorem SyncInv.step {d : DS} {A B : List (Int × Sec)} {k : Int} {v : Sec} {f : Nat → Sec} (h : SyncInv d (A ++ (k, v) :: B) f) (hk : DOk d) : SyncInv d (A ++ B) (updS f k.toNat v) := by
  have hsub : (A ++ B).Sublist (A ++ (k, v) :: B) := List.Sublist.append (List.Sublist.refl _) (List.sublist_cons_self _ _)
  have hnd : (keysW (A ++ (k, v) :: B)).Nodup := hk.nd.sublist (h.1.map _)
  have h0 := (h.key hk).1
  have hnot : k ∉ keysW (A ++ B) := by
    simp only [keysW, List.map_append, List.map_cons] at hnd ⊢
    have h1 := List.nodup_append.1 hnd
    intro hm
    rcases List.mem_append.1 hm with hm | hm
    · exact h1.2.2 k hm k (by simp) rfl
    · exact (List.nodup_cons.1 h1.2.1).1 hm
  refine ⟨hsub.trans h.1, fun i => ?_⟩
  simp only [updS]
  by_cases hi : i = k.toNat
  · subst hi
    have e : (k.toNat : Int) = k := Int.toNat_of_nonneg h0
    rw [if_pos rfl, e, if_neg hnot, DS.at, e, lookW_mem (v := v) hk.nd (h.1.subset (by simp))]
    rfl
  · rw [if_neg hi, h.2 i]
    have : (i : Int) ∈ keysW (A ++ (k, v) :: B) ↔ (i : Int) ∈ keysW (A ++ B) := by
      have hne : (i : Int) ≠ k := by omega
      simp [keysW, hne]
    simp only [this]
end Go.Proofs.YtobjojeliibinaaGreatDoor

/- The engine, part O: make of a slice of rows; a map's iterator in one rule; sectors. -/
namespace Go.Proofs.YtobjojeliibinaaGreatDoor
open Go
set_option linter.unusedVariables false
set_option linter.unusedSimpArgs false
section
variable {P : Program} {w0 : World} {F0 : Nat → Prop} {L : List Res} {Q : Exit → Act → World → Prop} {n : Fm} {env : Env} {ops : Array Oper} {rest : List Oper} {ty : TypeId} {pos : String} {af : Array Edge} {gd : Option (Nat × Bool)} {d : Option Tmp}
theorem St.pick {w : World} {r : Res} {L' : List Res} (hw : St w0 F0 L w) (h : Pick L r L') : St w0 F0 (r :: L') w := hw.mapL0 fun F hF => h.stars hF
theorem r_eqpn {x : Operand} {T T' e : TypeId} {a : Option Addr} (hx : ev n env x = .pointer a := by exact rfl) (ht : P.underlying T = some (.pointer e)) :
    Runs P w0 F0 L n env ⟨d, .binOp .eql T x (.const (.pointer none)) T', ty, pos, af, gd⟩ (.bool a.isNone) := fun w _ => by
  have h : ∀ d : Nat, (Op.equalIn (d + 1) T (.pointer a) (.pointer none)).run P w = .ok a.isNone w := fun d => by
    cases a <;> simp [Op.equalIn, run_underlying ht]
  have h9 := h 9999
  have hc : ev n env (.const (.pointer none)) = .pointer none := rfl
  simp only [execOp, hx, hc]
  simp [eqGuard, binOp, Op.equal, Op.maxDepth, h9]
instance : DecidableEq Sec := fun a b => decidable_of_iff (a.l = b.l) ⟨Sec.ext', fun h => h ▸ rfl⟩
def Sec.b (s : Sec) : UInt8 := s.l.getD 0 0
end
section three
variable {P : Program} {w0 : World} {F0 : Nat → Prop} {K L : List Res} {Q : Exit → Act → World → Prop} {n : Fm} {env : Env} {ops : Array Oper} {listed : Array Bool} {fuel z : Nat}
/-- One of three comes. -/
theorem yo3s (i j l : Nat) {oi oj ol : Oper} (hi : ops[i]? = some oi) (hj : ops[j]? = some oj) (hl : ops[l]? = some ol)
    (ki : Gl P w0 F0 L ops (Exit.then (NextT P w0 F0 K ops Q z fuel (listed.setIfInBounds i true) n) Q) [oi] n env) (kj : Gl P w0 F0 L ops (Exit.then (NextT P w0 F0 K ops Q z fuel (listed.setIfInBounds j true) n) Q) [oj] n env)
    (kl : Gl P w0 F0 L ops (Exit.then (NextT P w0 F0 K ops Q z fuel (listed.setIfInBounds l true) n) Q) [ol] n env)
    (hr : Region.ready .any ops listed = [i, j, l] := by kernel_rfl) : Gt P w0 F0 K L ops Q z (fuel + 1) listed n env := fun w hst =>
  ⟨fun h => (by rw [hr] at h; cases h), by rw [hr]; simp, fun x hx _ => by
    rw [hr] at hx
    rcases List.mem_cons.1 hx with rfl | hx
    · exact wpOpIn_of_list hi (ki w hst)
    · rcases List.mem_cons.1 hx with rfl | hx
      · exact wpOpIn_of_list hj (kj w hst)
      · obtain rfl : x = l := by simpa using hx
        exact wpOpIn_of_list hl (kl w hst)⟩
end three
end Go.Proofs.YtobjojeliibinaaGreatDoor

/- Walks, by program (wg.py) out of a spec. -/
namespace Go.Proofs.YtobjojeliibinaaGreatDoor
open Go
set_option linter.unusedVariables false
set_option linter.unusedSimpArgs false


instance : KeyT Tryz.prog 3 (Value.int .i64) := keyT_int Ty.un_3
section
variable {w0 w : World} {F F0 : Nat → Prop} {g : Nat} {d : DS} {L : List Res} {Q : Exit → Act → World → Prop} {n : Fm} {env : Env} {ops : Array Oper} {rest : List Oper}
variable {dd : Option Tmp} {ty : TypeId} {pos : String} {af : Array Edge} {gd : Option (Nat × Bool)}
end

attribute [local irreducible] Gl Gc Gx Gs Runs Wt

end Go.Proofs.YtobjojeliibinaaGreatDoor

/- The engine, part P: bytes in a row of one's own. -/
namespace Go.Proofs.YtobjojeliibinaaGreatDoor
open Go
set_option linter.unusedVariables false
set_option linter.unusedSimpArgs false
section
variable {P : Program} {w0 : World} {F0 : Nat → Prop} {L : List Res} {Q : Exit → Act → World → Prop} {n : Fm} {env : Env} {ops : Array Oper} {rest : List Oper} {ty : TypeId} {pos : String} {af : Array Edge} {gd : Option (Nat × Bool)} {d : Option Tmp}
theorem r_nepn {x : Operand} {T T' e : TypeId} {a : Option Addr} (hx : ev n env x = .pointer a := by exact rfl) (ht : P.underlying T = some (.pointer e)) :
    Runs P w0 F0 L n env ⟨d, .binOp .neq T x (.const (.pointer none)) T', ty, pos, af, gd⟩ (.bool (!a.isNone)) := fun w _ => by
  have h : ∀ d : Nat, (Op.equalIn (d + 1) T (.pointer a) (.pointer none)).run P w = .ok a.isNone w := fun d => by
    cases a <;> simp [Op.equalIn, run_underlying ht]
  have h9 := h 9999
  have hc : ev n env (.const (.pointer none)) = .pointer none := rfl
  simp only [execOp, hx, hc]
  simp [eqGuard, binOp, Op.equal, Op.maxDepth, h9]
end
end Go.Proofs.YtobjojeliibinaaGreatDoor

/- Plain words on ledgers: a record's bytes and sectors, what is read off sectors. -/
namespace Go.Proofs.YtobjojeliibinaaGreatDoor
open Go
set_option linter.unusedVariables false
set_option linter.unusedSimpArgs false
/-- A block and its certificate. -/
structure LRec where
  b : Block
  c : QC
  deriving DecidableEq
def blkW (b : Block) : WS := wBlock b ⟨0, []⟩
def certB (c : QC) : Block := { blk0 with justify := c }
def LRec.bs (r : LRec) : List UInt8 := (blkW r.b).bs
def LRec.cs (r : LRec) : List UInt8 := (blkW (certB r.c)).bs
structure LRec.Ok (r : LRec) : Prop where
  eb : (blkW r.b).err = 0
  ec : (blkW (certB r.c)).err = 0
  blk : r.c.block = idOf r.b
  ep : r.c.epoch = r.b.epoch
  rd : r.c.round = r.b.round
instance (r : LRec) : Decidable r.Ok := decidable_of_iff ((blkW r.b).err = 0 ∧ (blkW (certB r.c)).err = 0 ∧ r.c.block = idOf r.b ∧ r.c.epoch = r.b.epoch ∧ r.c.round = r.b.round)
  ⟨fun ⟨a, b, c, d, e⟩ => ⟨a, b, c, d, e⟩, fun ⟨a, b, c, d, e⟩ => ⟨a, b, c, d, e⟩⟩
/-- Why a block and its certificate are refused; 0: they aren't. -/
def madeE (b : Block) (c : QC) : Nat := if (blkW b).err ≠ 0 then 4 else if (blkW (certB c)).err ≠ 0 then 4 else if c.block = idOf b ∧ c.epoch = b.epoch ∧ c.round = b.round then 0 else 12
def dataL (bs cs : List UInt8) : List UInt8 := beN (bs.length : Int) 2 ++ (bs ++ (beN (cs.length : Int) 2 ++ cs))
def LRec.data (r : LRec) : List UInt8 := dataL r.bs r.cs
def pRec : PR (List UInt8 × List UInt8) := pBind (pBytes 65535) fun b => pBind (pBytes 65535) fun c => pPure (b, c)
theorem pRec_ok {d bs cs : List UInt8} (h : pAll pRec d = .ok (bs, cs)) : d = dataL bs cs ∧ bs.length ≤ 65535 ∧ cs.length ≤ 65535 := by
  obtain ⟨x, r1, h1, h2⟩ := pBind_ok (pAll_ok h)
  obtain ⟨y, r2, h3, h4⟩ := pBind_ok h2
  obtain ⟨h5, h6⟩ := pPure_ok h4
  cases h5
  obtain ⟨b1, e1, w1⟩ := dec_bytes _ _ _ h1
  obtain ⟨b2, e2, w2⟩ := dec_bytes _ _ _ h3
  have k : ∀ (b b' : List UInt8), (∀ s : WS, s.err = 0 → wBytes b 65535 s = ⟨0, s.bs ++ b'⟩) → b' = beN (b.length : Int) 2 ++ b ∧ b.length ≤ 65535 := by
    intro b b' hw
    have p2 : (256 : Nat) ^ 2 = 65536 := by decide
    have h := hw ⟨0, []⟩ rfl
    unfold wBytes at h
    split at h
    · simp [wFail] at h
    · rw [wNum_of (by omega) rfl, wFix_of rfl] at h
      simp at h
      exact ⟨h.symm, by omega⟩
  obtain ⟨rfl, l1⟩ := k _ _ w1
  obtain ⟨rfl, l2⟩ := k _ _ w2
  refine ⟨?_, l1, l2⟩
  rw [e1, e2, h6, dataL]; simp
/-- A record's data is read. -/
def rdRec (d : List UInt8) : Option LRec := match pAll pRec d with
  | .error _ => none
  | .ok x => match pAll pBlock x.1 with
    | .error _ => none
    | .ok b => match pAll pBlock x.2 with
      | .error _ => none
      | .ok c => if (⟨b, c.justify⟩ : LRec).Ok ∧ (⟨b, c.justify⟩ : LRec).cs = x.2 then some ⟨b, c.justify⟩ else none
theorem block_dec {bs : List UInt8} {b : Block} (h : pAll pBlock bs = .ok b) : blkW b = ⟨0, bs⟩ := by
  obtain ⟨b', hb, hw⟩ := dec_block _ _ _ (pAll_ok h)
  rw [List.append_nil] at hb
  subst hb
  show wBlock b ⟨0, []⟩ = _
  simpa using hw ⟨0, []⟩ rfl
theorem rdRec_some {d : List UInt8} {r : LRec} (h : rdRec d = some r) : r.Ok ∧ r.data = d := by
  unfold rdRec at h
  split at h
  · cases h
  · rename_i x hx
    split at h
    · cases h
    · rename_i b hb
      split at h
      · cases h
      · rename_i c hc
        split at h
        · rename_i hok
          cases h
          refine ⟨hok.1, ?_⟩
          rw [(pRec_ok (bs := x.1) (cs := x.2) hx).1, LRec.data, hok.2, LRec.bs]
          have := block_dec hb
          rw [show (blkW (⟨b, c.justify⟩ : LRec).b) = ⟨0, x.1⟩ from this]
        · cases h
/-! ### Sectors -/
def nsec (n : Nat) : Nat := (n + 63) / 64
def secData (d : List UInt8) (i : Nat) : Sec := ⟨(d.drop (64 * i)).take 64 ++ List.replicate (64 - ((d.drop (64 * i)).take 64).length) 0, by simp; omega⟩
def firstL (h : Nat) (d : List UInt8) : List UInt8 := beN (d.length : Int) 4 ++ beN (h : Int) 4
theorem firstL_len (h : Nat) (d : List UInt8) : (firstL h d).length = 8 := by simp [firstL, beN_length]
def headL (h : Nat) (d : List UInt8) : Sec := ⟨firstL h d ++ ((dOf Kc 10 [firstL h d, d]).l ++ List.replicate 40 0), by simp [firstL_len, Dig.h]⟩
def secsR (h : Nat) (r : LRec) : List Sec := headL h r.data :: (List.range (nsec r.data.length)).map (secData r.data)
def secsOf : Nat → List LRec → List Sec
  | _, [] => []
  | h, r :: l => secsR h r ++ secsOf (h + 1) l
def lenR (r : LRec) : Nat := 1 + nsec r.data.length
def tot (l : List LRec) : Nat := (l.map lenR).sum
/-- The bytes of k sectors from a on. -/
def catS (f : Nat → Sec) (a k : Nat) : List UInt8 := ((List.range k).map fun i => (f (a + i)).l).flatten
theorem catS_succ (f : Nat → Sec) (a k : Nat) : catS f a (k + 1) = catS f a k ++ (f (a + k)).l := by simp [catS, List.range_succ]
theorem catS_len (f : Nat → Sec) (a : Nat) : ∀ k, (catS f a k).length = 64 * k
  | 0 => rfl
  | k + 1 => by rw [catS_succ, List.length_append, catS_len f a k, (f (a + k)).h]; omega
/-- n bytes from a sector on; what fills the last one up is 0. -/
def bytesAt (f : Nat → Sec) (a n : Nat) : Option (List UInt8) := if ((catS f a (nsec n)).drop n).all (· == 0) = true then some ((catS f a (nsec n)).take n) else none
/-- The next record: 7: what is there isn't one. -/
def lnext (d : DS) (e h : Nat) : Except Nat (Option LRec) :=
  if d.at e = sec0 then .ok none else
  if valN ((d.at e).l.take 4) < 1 ∨ ¬ nsec (valN ((d.at e).l.take 4)) + 2 ≤ d.n - e then .error 7 else
  match bytesAt d.at (e + 1) (valN ((d.at e).l.take 4)) with
  | none => .error 7
  | some x => if headL h x = d.at e then match rdRec x with
    | none => .error 7
    | some r => .ok (some r) else .error 7
theorem bytesAt_len {f : Nat → Sec} {a n : Nat} {x : List UInt8} (h : bytesAt f a n = some x) : x.length = n := by
  unfold bytesAt at h
  split at h
  · cases h
    rw [List.length_take, catS_len]; unfold nsec; omega
  · cases h
theorem lnext_some {d : DS} {e h : Nat} {r : LRec} (k : lnext d e h = .ok (some r)) : r.Ok ∧ lenR r + 1 ≤ d.n - e := by
  unfold lnext at k
  split at k
  · cases k
  · split at k
    · cases k
    · rename_i _ hn
      split at k
      · cases k
      · rename_i x hx
        split at k
        · split at k
          · cases k
          · rename_i hr
            cases k
            obtain ⟨h1, h2⟩ := rdRec_some hr
            refine ⟨h1, ?_⟩
            have := bytesAt_len hx
            rw [lenR, h2, this]
            omega
        · cases k
/-- All records. -/
def lopen (d : DS) (e : Nat) (rs : List LRec) : Except Nat (List LRec × Nat) :=
  match h : lnext d e rs.length with
  | .error k => .error k
  | .ok none => .ok (rs, e)
  | .ok (some r) => lopen d (e + lenR r) (rs ++ [r])
termination_by d.n - e
decreasing_by
  have h2 := lnext_some h
  have : 1 ≤ lenR r := by unfold lenR; omega
  omega
theorem lopen_err {d : DS} {e k : Nat} {rs : List LRec} (h : lnext d e rs.length = .error k) : lopen d e rs = .error k := by rw [lopen]; split <;> simp_all
theorem lopen_done {d : DS} {e : Nat} {rs : List LRec} (h : lnext d e rs.length = .ok none) : lopen d e rs = .ok (rs, e) := by rw [lopen]; split <;> simp_all
theorem lopen_more {d : DS} {e : Nat} {rs : List LRec} {r : LRec} (h : lnext d e rs.length = .ok (some r)) : lopen d e rs = lopen d (e + lenR r) (rs ++ [r]) := by
  conv => lhs; rw [lopen]
  split <;> simp_all
/-- A disk's sectors from a base on are just those of records, and one of noughts. -/
structure LOk (f : Nat → Sec) (base : Nat) (rs : List LRec) : Prop where
  ok : ∀ r ∈ rs, r.Ok
  at' : ∀ i, i < tot rs → f (base + i) = (secsOf 0 rs).getD i sec0
  fin : f (base + tot rs) = sec0
end Go.Proofs.YtobjojeliibinaaGreatDoor

/- The engine, part R: ranges over functions: the iterator's calls of yield, and the statement. -/
namespace Go.Proofs.YtobjojeliibinaaGreatDoor
open Go
set_option linter.unusedVariables false
set_option linter.unusedSimpArgs false

/-- A loop's record, and the block of its rounds' deferred calls. -/
def lpR (l : Nat) (r : Loop) : Res where
  on w F := (∀ k, F k ↔ k = l) ∧ w.heap[l]? = some (.loop r)
  loc := fun ⟨hF, h⟩ hk => ⟨hF, (hk l ((hF l).2 rfl)).trans h⟩
  ok := fun ⟨hF, h⟩ k hk => by rw [(hF k).1 hk]; exact ⟨_, h, trivial⟩
def dfR (b : Nat) : Res where
  on w F := (∀ k, F k ↔ k = b) ∧ w.heap[b]? = some (.deferred (some []))
  loc := fun ⟨hF, h⟩ hk => ⟨hF, (hk b ((hF b).2 rfl)).trans h⟩
  ok := fun ⟨hF, h⟩ k hk => by rw [(hF k).1 hk]; exact ⟨_, h, trivial⟩
def mkD (b : Nat) : Deferred := { target := .collected b, args := #[] }

/-- What the rounds promise: at the i-th call of yield, with x. -/
def RoundsAt (P : Program) (l : Nat) {α : Type} (enc : Nat → α → Array Value) (G : Nat → α → List Res) (J : Nat → Res) (Jx : Res) (w0 : World) (F0 : Nat → Prop) : Prop :=
  ∀ i x w (F1 F2 : Nat → Prop), stars (G i x ++ [J i]) w F1 → (∀ k, F1 k → ¬ F2 k) → Stp w0 F0 w (fun k => F1 k ∨ F2 k) →
    YieldAt (FR none) 0 P l (enc i x) w (Post w F1 (fun b : Bool => .bool b) fun b => [bif b then J (i + 1) else Jx])

theorem pick_app {r : Res} {L : List Res} : ∀ (G : List Res), Pick (G ++ r :: L) r (G ++ L)
  | [] => .here
  | _ :: G => .there (pick_app G)
theorem stars_out1 {r : Res} {G L : List Res} {w : World} {F : Nat → Prop} (h : stars (G ++ r :: L) w F) : stars (r :: (G ++ L)) w F := (pick_app G).stars h
theorem stars_in1 {r : Res} : ∀ {G L : List Res} {w : World} {F : Nat → Prop}, stars (r :: (G ++ L)) w F → stars (G ++ r :: L) w F
  | [], _, _, _, h => h
  | g :: G, L, w, F, h => by
    have h2 : stars (g :: (r :: (G ++ L))) w F := (Pick.there (Pick.here)).stars h
    obtain ⟨F1, F2, h1, h2, hF, hd⟩ := h2
    exact ⟨F1, F2, h1, stars_in1 h2, hF, hd⟩

theorem stars_tail {B : List Res} : ∀ {A : List Res} {w : World} {F : Nat → Prop}, stars (A ++ B) w F → stars (A ++ [allR B]) w F
  | [], w, F, h => stars_one h
  | a :: A, w, F, ⟨F1, F2, h1, h2, hF, hd⟩ => ⟨F1, F2, h1, stars_tail h2, hF, hd⟩
theorem stars_untail {B : List Res} : ∀ {A : List Res} {w : World} {F : Nat → Prop}, stars (A ++ [allR B]) w F → stars (A ++ B) w F
  | [], w, F, h => stars_one' h
  | a :: A, w, F, ⟨F1, F2, h1, h2, hF, hd⟩ => ⟨F1, F2, h1, stars_untail h2, hF, hd⟩
/-- An owned block that isn't wanted any more, or stands for something else, is turned. -/
theorem Stp.turn {w0 w : World} {F0 F : Nat → Prop} {b : Nat} {o : Obj} (h : Stp w0 F0 w F) (hb : F b) : Stp w0 F0 (w.putObj b o) F :=
  ⟨h.os, h.tape, h.output, by rw [World.putObj_size]; exact h.size, fun k hk hn => by
    rw [World.putObj_heap_other (fun e => by subst e; exact (h.own _ hb).elim hn (fun h' => absurd h' (by omega)))]
    exact h.block k hk hn, h.own⟩
theorem stars_put {L : List Res} {w : World} {F : Nat → Prop} {b : Nat} {o : Obj} (h : stars L w F) (hb : ¬ F b) : stars L (w.putObj b o) F :=
  stars_loc h fun k hk => World.putObj_heap_other (fun e => hb (e ▸ hk))
theorem St.lp {w0 w : World} {F0 : Nat → Prop} {l : Nat} {r r' : Loop} {L : List Res} (h : St w0 F0 (lpR l r :: L) w) : w.heap[l]? = some (.loop r) ∧ St w0 F0 (lpR l r' :: L) (w.putObj l (.loop r')) := by
  obtain ⟨F, ⟨F1, F2, ⟨hF1, h1⟩, h2, hF, hd⟩, hst⟩ := h
  have hl : F l := (hF l).2 (.inl ((hF1 l).2 rfl))
  exact ⟨h1, F, ⟨F1, F2, ⟨hF1, World.putObj_heap_same (Array.getElem?_eq_some_iff.1 h1).1⟩, stars_put h2 (hd l ((hF1 l).2 rfl)), hF, hd⟩, hst.turn hl⟩
theorem St.lp_out {w0 w : World} {F0 : Nat → Prop} {l : Nat} {r : Loop} {o : Obj} {L : List Res} (h : St w0 F0 (lpR l r :: L) w) : w.heap[l]? = some (.loop r) ∧ St w0 F0 L (w.putObj l o) := by
  obtain ⟨F, ⟨F1, F2, ⟨hF1, h1⟩, h2, hF, hd⟩, hst⟩ := h
  have hl : F l := (hF l).2 (.inl ((hF1 l).2 rfl))
  exact ⟨h1, F2, stars_put h2 (hd l ((hF1 l).2 rfl)), (hst.turn hl).weak fun k hk => (hF k).2 (.inr hk)⟩
theorem St.df_out {w0 w : World} {F0 : Nat → Prop} {b : Nat} {o : Obj} {L L' : List Res} (h : St w0 F0 L w) (hp : Pick L (dfR b) L') : w.heap[b]? = some (.deferred (some [])) ∧ St w0 F0 L' (w.putObj b o) := by
  obtain ⟨F, hF0, hst⟩ := h
  obtain ⟨F1, F2, ⟨hF1, h1⟩, h2, hF, hd⟩ := hp.stars hF0
  have hl : F b := (hF b).2 (.inl ((hF1 b).2 rfl))
  exact ⟨h1, F2, stars_put h2 (hd b ((hF1 b).2 rfl)), (hst.turn hl).weak fun k hk => (hF k).2 (.inr hk)⟩

section
variable {P : Program} {w0 : World} {F0 : Nat → Prop} {L : List Res} {Q : Exit → Act → World → Prop} {n : Fm} {env : Env} {ops : Array Oper} {rest : List Oper}
/-! ### A call of yield -/
theorem roundIn_FR {ro : Option Nat} {l : Nat} {f : FuncId} {tmps : Array Value} {asg bd : Code} {w : World} {R : Ending → World → Prop} : RoundIn (FR ro) 0 P l f tmps asg bd w R ↔ RoundIn (FR none) 0 P l f tmps asg bd w R := Iff.rfl
theorem gl_yield {o : Oper} {l : Nat} {args : Array Value} {L' M : List Res} {α : Type} {V : α → Value} {N : α → List Res} (hw : Wt ops n env o true)
    (he : ∀ w, (execOp (ev n env) o).run P w = (Instr.yield l args).run P w) (hsel : Sel L M L')
    (hc : ∀ w F1 F2, stars M w F1 → stars L' w F2 → (∀ k, F1 k → ¬ F2 k) → Stp w0 F0 w (fun k => F1 k ∨ F2 k) → YieldAt (FR none) 0 P l args w (Post w F1 V N))
    (k : ∀ x, Gl P w0 F0 (N x ++ L') ops Q rest n (pu o.dst (V x) env)) : Gl P w0 F0 L ops Q (o :: rest) n env := by
  intro w hs
  obtain ⟨F, hF, hst⟩ := hs
  obtain ⟨F1, F2, h1, h2, hE, hd⟩ := hsel.split hF
  have hst' : Stp w0 F0 w (fun k => F1 k ∨ F2 k) := by rw [← fp_eq hE]; exact hst
  unfold wpListIn
  rw [if_pos (show Region.wanted o _ = true from hw)]
  obtain ⟨fn, tmps, asg, bd, hy, hr⟩ := hc w F1 F2 h1 h2 hd hst'
  refine Oper.wpIn_round (by rw [fr_eval, he]; exact hy) (RoundIn.mono (roundIn_FR.2 hr) ?_)
  rintro e w' ⟨x, rfl, hx⟩
  exact ⟨V x, rfl, by rw [fr_put]; exact k x w' (St.call hst h2 hE hd hx)⟩
theorem e_yield {d : Option Tmp} {ty : TypeId} {pos : String} {af : Array Edge} {gd : Option (Nat × Bool)} {y : Operand} {l : Nat} {xs : List Operand} {ts : Array TypeId} {vs : List Value} (hy : ev n env y = .func (.yield l) #[] #[]) (hv : xs.map (ev n env) = vs) (w : World) :
    (execOp (ev n env) ⟨d, .call ⟨.value y, xs.toArray, ts⟩, ty, pos, af, gd⟩).run P w = (Instr.yield l vs.toArray).run P w := by
  simp [execOp, resolve, hy, Deferred.ofValue, invoke, hv]
/-- The i-th round. -/
theorem gyd {t : Tmp} {ty : TypeId} {pos : String} {af : Array Edge} {gd : Option (Nat × Bool)} {y : Operand} {l : Nat} {xs : List Operand} {ts : Array TypeId} {vs : List Value} {α : Type} {enc : Nat → α → Array Value} {G : Nat → α → List Res} {J : Nat → Res} {Jx : Res} {L' : List Res}
    (h : RoundsAt P l enc G J Jx w0 F0) (i : Nat) (x : α) (hv2 : enc i x = vs.toArray) (hsel : Sel L (G i x ++ [J i]) L') (k : ∀ b : Bool, Gl P w0 F0 ((bif b then J (i + 1) else Jx) :: L') ops Q rest n ((t, .bool b) :: env))
    (hy : ev n env y = .func (.yield l) #[] #[] := by exact rfl) (hv : xs.map (ev n env) = vs := by exact rfl)
    (hw : Wt ops n env ⟨some t, .call ⟨.value y, xs.toArray, ts⟩, ty, pos, af, gd⟩ true := by exact wt0 rfl) : Gl P w0 F0 L ops Q (⟨some t, .call ⟨.value y, xs.toArray, ts⟩, ty, pos, af, gd⟩ :: rest) n env :=
  gl_yield hw (e_yield hy hv) hsel (fun w F1 F2 h1 _ hd hst => by rw [← hv2]; exact h i x w F1 F2 h1 hd hst) k

theorem gl_pI {p : Prop} (hp : p) (k : Gl P w0 F0 (pureR p :: L) ops Q rest n env) : Gl P w0 F0 L ops Q rest n env := fun w ⟨F, hF, hst⟩ => k w ⟨F, stars_pure_mk hp hF, hst⟩
theorem gc_pI {c : Code} {p : Prop} (hp : p) (k : Gc P w0 F0 (pureR p :: L) c Q n env) : Gc P w0 F0 L c Q n env := fun w ⟨F, hF, hst⟩ => k w ⟨F, stars_pure_mk hp hF, hst⟩
theorem gx_pure1 {e : Exit} {p : Prop} {L' : List Res} (hp : Pick L (pureR p) L') (k : p → Gx w0 F0 L Q e n env) : Gx w0 F0 L Q e n env := fun w hw => by
  have hw' := hw
  obtain ⟨F, hF, _⟩ := hw'
  obtain ⟨F1, h1, _⟩ := stars_pick hp hF
  exact k h1.2 w hw
/-! ### A round's body -/
def zipE : List Tmp → List Value → Env → Env
  | t :: ts, v :: vs, e => zipE ts vs ((t, v) :: e)
  | _, _, e => e
theorem fr_zip {n : Fm} : ∀ (ts : List Tmp) (vs : List Value) (e : Env), { (fr n e) with tmps := (ts.zip vs).foldl (fun tmps (t, a) => tmps.setIfInBounds t a) (fr n e).tmps } = fr n (zipE ts vs e)
  | [], _, _ => by simp [zipE, fr]
  | _ :: _, [], _ => by simp [zipE, fr]
  | t :: ts, v :: vs, e => by
    have h : (fr n e).tmps.setIfInBounds t v = (fr n ((t, v) :: e)).tmps := by
      have := fr_put n e (some t) v
      simp only [Act.put, pu] at this
      exact congrArg Act.tmps this
    simp only [List.zip_cons_cons, List.foldl_cons, zipE]
    rw [h]
    exact fr_zip ts vs ((t, v) :: e)
/-- How a round ends. -/
def RoundP (w : World) (F : Nat → Prop) (l : Nat) (r : Loop) (I : Nat → List Res) (X : Nat → Code → List Res) (i : Nat) : Exit → Act → World → Prop
  | .normal, _, w' => St w F (lpR l r :: I (i + 1)) w'
  | .ret, _, w' => St w F (lpR l r :: X i .ret) w'
  | .exit id, _, w' => St w F (lpR l r :: X i (.exit id)) w'
  | _, _, _ => False
/-- The body is walked once the left sides are assigned. -/
def BegK (P : Program) (w : World) (F : Nat → Prop) (l : Nat) (r r' : Loop) (body : Code) (R : Exit → Act → World → Prop) (n : Fm) (a : Act) (w' : World) : Prop :=
  ∃ L env, a = fr n env ∧ St w F (lpR l r :: L) w' ∧ Gc P w F (lpR l r' :: L) body R n env
theorem gx_begin {l : Nat} {r r' : Loop} {body : Code} {R : Exit → Act → World → Prop} (h : Gc P w0 F0 (lpR l r' :: L) body R n env) : Gx w0 F0 (lpR l r :: L) (Exit.then (BegK P w0 F0 l r r' body R n) (fun _ _ _ => False)) .normal n env :=
  fun w hw => ⟨L, env, rfl, hw, h⟩
theorem gx_rdn {l : Nat} {r : Loop} {I : Nat → List Res} {X : Nat → Code → List Res} {i : Nat} (h : ∀ w, St w0 F0 L w → St w0 F0 (lpR l r :: I (i + 1)) w) : Gx w0 F0 L (RoundP w0 F0 l r I X i) .normal n env := h
theorem gx_rdr {l : Nat} {r : Loop} {I : Nat → List Res} {X : Nat → Code → List Res} {i : Nat} (h : ∀ w, St w0 F0 L w → St w0 F0 (lpR l r :: X i .ret) w) : Gx w0 F0 L (RoundP w0 F0 l r I X i) .ret n env := h
theorem gx_rde {l : Nat} {r : Loop} {I : Nat → List Res} {X : Nat → Code → List Res} {i id : Nat} (h : ∀ w, St w0 F0 L w → St w0 F0 (lpR l r :: X i (.exit id)) w) : Gx w0 F0 L (RoundP w0 F0 l r I X i) (.exit id) n env := h

/-! ### The statement -/
def IterAt (P : Program) {α β : Type} (gf : Nat) (lb : Array Value) (enc : Nat → α → Array Value) (G : Nat → α → List Res) (fin : β → Option Nat) (O : β → List Res) (vv : β → Value) (l : Nat) (J : Nat → Res) (Jx : Res) (w : World) (F : Nat → Prop) : Prop :=
  RoundsAt P l enc G J Jx w F → Calls P gf (#[.func (.yield l) #[] #[]] ++ lb) w (Post w F vv fun y => (match fin y with | some m => J m | none => Jx) :: O y)
theorem gc_range {g : Operand} {ps : Array Tmp} {assign body : Code} {gf : Nat} {lb : Array Value} {α β : Type} {enc : Nat → α → Array Value} {G : Nat → α → List Res}
    {own L' : List Res} {vv : β → Value} {fin : β → Option Nat} {O : β → List Res} (I : Nat → List Res) (X : Nat → Code → List Res) {ds : List Deferred} {nt : Nat}
    (hg : ev ⟨nt, ds, none⟩ env g = .func (.func gf) #[] lb) (eg : okCall P gf = true) (hsel : Sel L (own ++ I 0) L') (hsz : ∀ i x, (enc i x).size = ps.size)
    (hit : ∀ (l : Nat) (J : Nat → Res) (Jx : Res) w F1 F2, stars (own ++ [J 0]) w F1 → stars L' w F2 → (∀ k, F1 k → ¬ F2 k) → Stp w0 F0 w (fun k => F1 k ∨ F2 k) → IterAt P gf lb enc G fin O vv l J Jx w F1)
    (hrd : ∀ (l : Nat) (r r' : Loop) i x w F1 F2, stars (lpR l r :: (G i x ++ I i)) w F1 → stars L' w F2 → (∀ k, F1 k → ¬ F2 k) → Stp w0 F0 w (fun k => F1 k ∨ F2 k) →
      Gc P w F1 (lpR l r :: (G i x ++ I i)) assign (Exit.then (BegK P w F1 l r r' body (RoundP w F1 l r' I X i) ⟨nt, [], some l⟩) (fun _ _ _ => False)) ⟨nt, [], some l⟩ (zipE ps.toList (enc i x).toList env))
    (hdone : ∀ b y m, fin y = some m → Gx w0 F0 (dfR b :: (I m ++ O y) ++ L') Q .normal ⟨nt, mkD b :: ds, none⟩ env)
    (hstop : ∀ b y i c, fin y = none → Gc P w0 F0 (dfR b :: (X i c ++ O y) ++ L') c Q ⟨nt, mkD b :: ds, none⟩ env) : Gc P w0 F0 L (.rangeFunc g ps assign body) Q ⟨nt, ds, none⟩ env := by
  intro w hw
  refine wpIn_rangeFunc fun fn _ => ?_
  have hrun := run_enterLoop_outer (P := P) (w := w) fn (fr ⟨nt, ds, none⟩ env).tmps ps assign body
  have hl0 : ∀ st pe, ∃ r : Loop, r = { state := st, pending := pe, fn, tmps := (fr ⟨nt, ds, none⟩ env).tmps, params := ps, assign, body, defers := w.heap.size } := fun _ _ => ⟨_, rfl⟩
  obtain ⟨rec, hrec⟩ : ∃ rec : LoopState → Option Code → Loop, rec = fun st pe => { state := st, pending := pe, fn, tmps := (fr ⟨nt, ds, none⟩ env).tmps, params := ps, assign, body, defers := w.heap.size } := ⟨_, rfl⟩
  obtain ⟨F, hF, hst⟩ := hw
  obtain ⟨F1, F2, h1, h2, hE, hd⟩ := hsel.split hF
  have hlt1 := stars_lt h1
  have hlt2 := stars_lt h2
  obtain ⟨wa, hwa⟩ : ∃ wa, (w.alloc (.deferred (some []))).alloc (.loop (rec .ready none)) = wa := ⟨_, rfl⟩
  have hsize : wa.heap.size = w.heap.size + 2 := by rw [← hwa]; simp
  have hold : ∀ k, k < w.heap.size → wa.heap[k]? = w.heap[k]? := fun k hk => by
    rw [← hwa]
    exact (RowKit.Below.heap_alloc _ _ k (by simp; omega)).trans (RowKit.Below.heap_alloc w _ k hk)
  have hL1 : wa.heap[w.heap.size + 1]? = some (.loop (rec .ready none)) := by
    rw [← hwa]; have := World.alloc_heap_new (w.alloc (.deferred (some []))) (.loop (rec .ready none)); rwa [World.size_alloc] at this
  have hB1 : wa.heap[w.heap.size]? = some (.deferred (some [])) := by
    rw [← hwa]; exact (RowKit.Below.heap_alloc _ _ _ (by simp)).trans (World.alloc_heap_new w _)
  have hos : wa.os = w.os ∧ wa.tape = w.tape ∧ wa.output = w.output := by rw [← hwa]; exact ⟨rfl, rfl, rfl⟩
  have h1a : stars (own ++ I 0) wa F1 := stars_loc h1 fun k hk => hold k (hlt1 k hk)
  have h2a : stars L' wa F2 := stars_loc h2 fun k hk => hold k (hlt2 k hk)
  -- what the iterator is handed
  let F1a : Nat → Prop := fun k => k = w.heap.size + 1 ∨ F1 k
  have hown : stars (own ++ lpR (w.heap.size + 1) (rec .ready none) :: I 0) wa F1a :=
    stars_in1 ⟨fun k => k = w.heap.size + 1, F1, ⟨fun k => Iff.rfl, hL1⟩, h1a, fun k => Iff.rfl, fun k hk h => by have := hlt1 k h; omega⟩
  have hown := stars_tail hown
  have hda : ∀ k, F1a k → ¬ F2 k := fun k hk h => hk.elim (fun e => by have := hlt2 k h; omega) (fun h' => hd k h' h)
  let F2a : Nat → Prop := fun k => k = w.heap.size ∨ F2 k
  have h2d : stars (dfR w.heap.size :: L') wa F2a := ⟨fun k => k = w.heap.size, F2, ⟨fun k => Iff.rfl, hB1⟩, h2a, fun k => Iff.rfl, fun k hk h => by have := hlt2 k h; omega⟩
  have hda2 : ∀ k, F1a k → ¬ F2a k := fun k hk h => h.elim (fun e => hk.elim (fun e' => by omega) (fun h' => by have := hlt1 k h'; omega)) (hda k hk)
  have hsta : Stp w0 F0 wa (fun k => F1a k ∨ F2a k) :=
    ⟨hos.1.trans hst.os, hos.2.1.trans hst.tape, hos.2.2.trans hst.output, by rw [hsize]; have := hst.size; omega, fun k hk hn => (hold k (Nat.lt_of_lt_of_le hk hst.size)).trans (hst.block k hk hn),
      fun k hk => by
        have : F k ∨ w.heap.size ≤ k := by
          rcases hk with (h | h) | (h | h)
          · right; omega
          · exact .inl ((hE k).2 (.inl h))
          · right; omega
          · exact .inl ((hE k).2 (.inr h))
        rcases this with h | h
        · exact hst.own k h
        · right; have := hst.size; omega⟩
  let J : Nat → Res := fun i => allR (lpR (w.heap.size + 1) (rec .ready none) :: I i)
  let Jx : Res := exR fun i => exR fun c => allR (lpR (w.heap.size + 1) (rec .done (some c)) :: X i c)
  have hrounds : RoundsAt P (w.heap.size + 1) enc G J Jx wa F1a := by
    intro i x W G1 G2 g1 gd gst
    have g1' : stars (lpR (w.heap.size + 1) (rec .ready none) :: (G i x ++ I i)) W G1 := stars_out1 (stars_untail g1)
    have hl : W.heap[w.heap.size + 1]? = some (.loop (rec .ready none)) := by
      obtain ⟨A, B, ⟨_, h⟩, _⟩ := g1'
      exact h
    have hy := run_yield (P := P) (args := enc i x) hl (by rw [hrec]; exact hsz i x)
    rw [hrec] at hy
    have g2 : stars L' W F2 := stars_loc h2a fun k hk => gst.block k (by have := hlt2 k hk; omega) (fun h => hda k h hk)
    have gd2 : ∀ k, G1 k → ¬ F2 k := fun k hk h => (gst.own k (.inl hk)).elim (fun h' => hda k h' h) (fun h' => by have := hlt2 k h; omega)
    have hall : Stp w0 F0 W (fun k => G1 k ∨ F2 k) := (hsta.trans (gst.frame (F2 := F2a))).weak fun k hk => hk.elim (fun h => .inl (.inl h)) (fun h => .inr (.inr h))
    have hb := hrd (w.heap.size + 1) (rec .ready none) (rec .busy none) i x W G1 F2 g1' g2 gd2 hall
    refine ⟨fn, _, assign, body, hy, roundIn_of_wpIn trivial ?_⟩
    have hA : ({ tmps := ((ps.zip (enc i x)).foldl (fun tmps (t, a) => tmps.setIfInBounds t a) (fr ⟨nt, ds, none⟩ env).tmps), defers := [] } : Act) = fr ⟨nt, [], some (w.heap.size + 1)⟩ (zipE ps.toList (enc i x).toList env) := by
      rw [← fr_zip]
      simp only [fr, Act.mk.injEq, and_true]
      rw [← Array.foldl_toList, Array.toList_zip]
    have hb' := hb W (St.init g1')
    rw [← hA] at hb'
    refine wpIn_mono hb' ?_
    intro e a1 w1 hq
    cases e with
    | normal =>
      obtain ⟨L1, env1, rfl, hs1, hbody⟩ := hq
      obtain ⟨hl1, hs2⟩ := hs1.lp (r' := rec .busy none)
      refine ⟨_, run_beginRound hl1 (by rw [hrec]), ?_⟩
      have hbb := hbody _ (by rw [hrec] at hs2 ⊢; exact hs2)
      rw [hrec] at hbb ⊢
      refine wpIn_mono hbb ?_
      intro e2 a2 w2 hq2
      cases e2 with
      | normal =>
        obtain ⟨hl2, hs3⟩ := St.lp (r' := rec .ready none) hq2
        refine ⟨_, _, run_endRound none hl2, true, rfl, ?_⟩
        rw [hrec] at hs3
        simp only [J, hrec]
        obtain ⟨H, hH, hh⟩ := hs3
        exact ⟨H, stars_all_mk (by rw [List.append_nil]; exact hH), hh⟩
      | ret =>
        obtain ⟨hl2, hs3⟩ := St.lp (r' := rec .done (some .ret)) hq2
        refine ⟨_, _, run_endRound (some .ret) hl2, false, rfl, ?_⟩
        rw [hrec] at hs3
        obtain ⟨H, hH, hh⟩ := hs3
        exact ⟨H, stars_ex_mk i (stars_ex_mk Code.ret (stars_all_mk (by rw [List.append_nil, hrec]; exact hH))), hh⟩
      | exit id =>
        obtain ⟨hl2, hs3⟩ := St.lp (r' := rec .done (some (.exit id))) hq2
        refine ⟨_, _, run_endRound (some (.exit id)) hl2, false, rfl, ?_⟩
        rw [hrec] at hs3
        obtain ⟨H, hH, hh⟩ := hs3
        exact ⟨H, stars_ex_mk i (stars_ex_mk (Code.exit id) (stars_all_mk (by rw [List.append_nil, hrec]; exact hH))), hh⟩
      | goto t => exact hq2.elim
      | panic c => exact hq2.elim
      | outgrown => exact hq2.elim
    | exit id => exact hq.elim
    | ret => exact hq.elim
    | goto t => exact hq.elim
    | panic c => exact hq.elim
    | outgrown => exact hq.elim
  have hcall := hit (w.heap.size + 1) J Jx wa F1a F2 hown h2a hda (hsta.weak fun k hk => hk.elim .inl (fun h => .inr (.inr h))) hrounds
  refine ⟨w.heap.size + 1, [mkD w.heap.size], wa, { target := .fn (.func gf) lb, args := #[.func (.yield (w.heap.size + 1)) #[] #[]] }, wa, gf, #[.func (.yield (w.heap.size + 1)) #[] #[]] ++ lb, wa, ?_, ?_, ?_, ?_, ?_, ?_⟩
  · rw [show (FR (⟨nt, ds, none⟩ : Fm).ro).round = none from rfl, ← hwa, hrec]; exact hrun
  · have hg' : (fr ⟨nt, ds, none⟩ env).eval g = .func (.func gf) #[] lb := by rw [fr_eval]; exact hg
    simp only [resolve, hg']
    simp [go_sem]
  · intro f' _; trivial
  · unfold okCall at eg
    cases hp : P.funcs[gf]? with
    | none => simp [hp] at eg
    | some fn' =>
      cases hb : fn'.body with
      | none => simp [hp, hb] at eg
      | some c =>
        have hn : ¬ fn'.name = "runtime.NumGoroutine" := by simpa [hp, hb] using eg
        simp [invoke, callFunc, program, Sem.run, hp, hb, hn]
  · exact deep_FR _
  · refine callsIn_FR.2 (hcall.mono ?_)
    rintro e w2 ⟨y, rfl, hs⟩
    have hs2 := St.call hsta h2d (fun k => Iff.rfl) hda2 hs
    cases hy : fin y with
    | some m =>
      simp only [hy] at hs2
      have hs3 : St w0 F0 (lpR (w.heap.size + 1) (rec .ready none) :: ((I m ++ O y) ++ (dfR w.heap.size :: L'))) w2 := by
        obtain ⟨H, hH, hh⟩ := hs2
        exact ⟨H, by simpa using stars_all hH, hh⟩
      obtain ⟨hl, hs4⟩ := St.lp_out (o := .loop { (rec .ready none) with state := .exhausted }) hs3
      have hpe : (rec .ready none).pending = none := by rw [hrec]
      refine ⟨none, _, (run_endLoop (P := P) hl (by rw [hrec]; simp)).trans (congrArg (fun p => Result.ok p _) hpe), ?_⟩
      exact hdone w.heap.size y m hy _ (by
        obtain ⟨H, hH, hh⟩ := hs4
        exact ⟨H, stars_out1 hH, hh⟩)
    | none =>
      simp only [hy] at hs2
      obtain ⟨H, hH, hh⟩ := hs2
      obtain ⟨i, hH⟩ := stars_ex hH
      obtain ⟨c, hH⟩ := stars_ex hH
      have hH := stars_all hH
      have hs3 : St w0 F0 (lpR (w.heap.size + 1) (rec .done (some c)) :: ((X i c ++ O y) ++ (dfR w.heap.size :: L'))) w2 := ⟨H, by simpa using hH, hh⟩
      obtain ⟨hl, hs4⟩ := St.lp_out (o := .loop { (rec .done (some c)) with state := .exhausted }) hs3
      have hpe : (rec .done (some c)).pending = some c := by rw [hrec]
      refine ⟨some c, _, (run_endLoop (P := P) hl (by rw [hrec]; simp)).trans (congrArg (fun p => Result.ok p _) hpe), ?_⟩
      exact hstop w.heap.size y i c hy _ (by
        obtain ⟨H, hH, hh⟩ := hs4
        exact ⟨H, stars_out1 hH, hh⟩)

theorem gc_noway {c : Code} {b : Nat} {O L' : List Res} : Gc P w0 F0 (dfR b :: ([pureR False] ++ O) ++ L') c Q n env := fun w hw => by
  obtain ⟨F, hF, _⟩ := hw
  obtain ⟨F1, F2, _, h2, _⟩ := hF
  exact (stars_pure h2).1.elim

theorem gx_thenM {n m : Fm} {y : Code} {Q' : Exit → Act → World → Prop} (h : Gc P w0 F0 L y Q n env) (hr : m.ro = n.ro := by rfl) : Gx w0 F0 L (Exit.then (cwp m P y Q) Q') .normal n env := fun w hw => by
  show y.wpIn (FR m.ro) 0 P Q _ w
  rw [hr]; exact h w hw

/-! ### A function that holds such a statement -/
def bodyPostN (P : Program) (fn : Func) (R : Ending → World → Prop) : Exit → Act → World → Prop
  | .normal, a, w | .ret, a, w => LeavesInM (FR none) 0 P fn a.tmps R a.defers .returning w
  | _, _, _ => False
theorem g_enterM {f : FuncId} {fn : Func} {c : Code} {args : Array Value} {w : World} {F : Nat → Prop} {R : Ending → World → Prop} (hf : P.funcs[f]? = some fn) (hb : fn.body = some c)
    (hs : stars L w F) {nt : Nat} (hnt : fn.ntmps = nt) (hn : Nat.ble args.size nt = true) (henv : enumE 0 args.toList = env) (h : Gc P w F L c (bodyPostN P fn R) ⟨nt, [], none⟩ env) : Calls P f args w R :=
  callsIn_FR.1 (callsIn_of_wp_marks (F := FR none) (n := 0) hf hb trivial (by subst hnt; subst henv; rw [fr_init _ _ (by exact Nat.le_of_ble_eq_true hn)]; exact wpIn_mono (h w (St.init hs)) (fun e a w' hq => by cases e <;> first | exact hq | exact hq.elim)))
theorem gx_mark {fn : Func} {R : Ending → World → Prop} {b nt : Nat} {ds : List Deferred} {ro : Option Nat} {L' : List Res} (hp : Pick L (dfR b) L') (h : Gx w0 F0 L' (bodyPostN P fn R) .ret ⟨nt, ds, ro⟩ env) : Gx w0 F0 L (bodyPostN P fn R) .ret ⟨nt, mkD b :: ds, ro⟩ env := fun w hw => by
  obtain ⟨hb, hs⟩ := hw.df_out (o := .deferred none) hp
  exact ⟨by simp, .inl ⟨b, _, rfl, run_takeDeferred hb, h _ hs⟩⟩
theorem gx_mark0 {fn : Func} {R : Ending → World → Prop} {nt : Nat} {ro : Option Nat} (h : Gx w0 F0 L (bodyPost P fn R) .ret ⟨nt, [], ro⟩ env) : Gx w0 F0 L (bodyPostN P fn R) .ret ⟨nt, [], ro⟩ env := fun w hw => (h w hw).2
end
end Go.Proofs.YtobjojeliibinaaGreatDoor

/- Walks, by program (wg.py) out of a spec. -/
namespace Go.Proofs.YtobjojeliibinaaGreatDoor
open Go
set_option linter.unusedVariables false
set_option linter.unusedSimpArgs false


/-- A record's cells. -/
def RdRec (w : World) (A : Nat → Prop) (cs : List Value) (r : LRec) : Prop :=
  ∃ a1 n1 c1 a2 n2 c2, cs = dc (idOf r.b) ++ [.slice a1 n1 c1, .slice a2 n2 c2] ∧ n1 ≤ c1 ∧ n2 ≤ c2 ∧ RdRow w A 1 a1 n1 (r.bs.map B8) ∧ RdRow w A 1 a2 n2 (r.cs.map B8)
theorem RdRec.mv {w w' : World} {A A' : Nat → Prop} {cs : List Value} {r : LRec} (h : RdRec w A cs r) (hk : Still w A w' A') : RdRec w' A' cs r := by
  obtain ⟨a1, n1, c1, a2, n2, c2, h1, h2, h3, h4, h5⟩ := h; exact ⟨a1, n1, c1, a2, n2, c2, h1, h2, h3, h4.mv hk, h5.mv hk⟩
instance : RdK RdRec := ⟨fun h k => h.mv k⟩
theorem RdRec.len {w : World} {A : Nat → Prop} {cs : List Value} {r : LRec} (h : RdRec w A cs r) : cs.length = 18 := by obtain ⟨_, _, _, _, _, _, h, _⟩ := h; subst h; simp [dc_length]
theorem RdRec.one {w : World} {A : Nat → Prop} {cs : List Value} {r : LRec} (h : RdRec w A cs r) : ∀ v ∈ cs, v.oneCell' = true := by
  obtain ⟨_, _, _, _, _, _, h, _⟩ := h; subst h; exact all_app' (dc_one _) (all_cons' rfl (all_cons' rfl all_nil'))
theorem zD_one : ∀ v ∈ zD, v.oneCell' = true := fun v hv => by rw [List.eq_of_mem_replicate hv]; rfl
/-- What made hands out: a record, or nothing. -/
def recZ : List Value := zD ++ [.slice none 0 0, .slice none 0 0]
def RdMade (w : World) (A : Nat → Prop) (cs : List Value) (x : Block × QC) : Prop := if madeE x.1 x.2 = 0 then RdRec w A cs ⟨x.1, x.2⟩ else cs = recZ
instance : RdK RdMade := ⟨fun {w w' A A' cs x} h k => by unfold RdMade at *; split at h <;> rename_i hh; rw [if_pos hh]; exact RdRec.mv h k; rw [if_neg hh]; exact h⟩
theorem RdMade.len {w : World} {A : Nat → Prop} {cs : List Value} {x : Block × QC} (h : RdMade w A cs x) : cs.length = 18 := by
  unfold RdMade at h; split at h
  · exact h.len
  · subst h; rfl
theorem RdMade.one {w : World} {A : Nat → Prop} {cs : List Value} {x : Block × QC} (h : RdMade w A cs x) : ∀ v ∈ cs, v.oneCell' = true := by
  unfold RdMade at h; split at h
  · exact h.one
  · subst h; exact all_app' zD_one (all_cons' rfl (all_cons' rfl all_nil'))
instance : One recZ := One.of (all_app' zD_one (all_cons' rfl (all_cons' rfl all_nil')))
instance : Len recZ 18 := ⟨rfl⟩

attribute [local irreducible] Gl Gc Gx Gs Runs Wt

attribute [local irreducible] dc

end Go.Proofs.YtobjojeliibinaaGreatDoor

/- Walks, by program (wg.py) out of a spec. -/
namespace Go.Proofs.YtobjojeliibinaaGreatDoor
open Go
set_option linter.unusedVariables false
set_option linter.unusedSimpArgs false


/-- A ledger that lies in block q, its disk in block g. -/
structure LS where
  base : Int
  rs : List LRec
  e : Nat
section
variable {w0 w : World} {F F0 : Nat → Prop} {q g : Nat} {l : LS} {L : List Res} {Q : Exit → Act → World → Prop} {n : Fm} {env : Env} {ops : Array Oper} {rest : List Oper}
end

attribute [local irreducible] Gl Gc Gx Gs Runs Wt

end Go.Proofs.YtobjojeliibinaaGreatDoor

/- Walks, by program (wg.py) out of a spec. -/
namespace Go.Proofs.YtobjojeliibinaaGreatDoor
open Go
set_option linter.unusedVariables false
set_option linter.unusedSimpArgs false


def bytesE (f : Nat → Sec) (a n : Nat) : Nat × List UInt8 := match bytesAt f a n with | none => (7, []) | some x => (0, x)
attribute [local irreducible] Gl Gc Gx Gs Runs Wt

end Go.Proofs.YtobjojeliibinaaGreatDoor

/- Walks, by program (wg.py) out of a spec. -/
namespace Go.Proofs.YtobjojeliibinaaGreatDoor
open Go
set_option linter.unusedVariables false
set_option linter.unusedSimpArgs false


section
variable {w0 w : World} {F F0 : Nat → Prop} {L L' : List Res} {Q : Exit → Act → World → Prop} {n : Fm} {env : Env} {ops : Array Oper} {rest : List Oper} {P : Program}
theorem St.rowAt {e size a m c} {xs : List Value} (hw : St w0 F0 L w) (hp : Pick L (rowR e size a m c xs) L') (hm : 0 < m) : m ≤ c ∧ ∃ g o, a = some ⟨g, o, none⟩ := by
  obtain ⟨F, hF, _⟩ := hw
  obtain ⟨F1, ⟨h1, h2, h3, h4⟩, _⟩ := stars_pick hp hF
  refine ⟨h2, ?_⟩
  rcases h4 with ⟨_, hc, _⟩ | ⟨g, o, _, _, ha, _⟩
  · omega
  · exact ⟨g, o, ha⟩
end
attribute [local irreducible] Gl Gc Gx Gs Runs Wt

end Go.Proofs.YtobjojeliibinaaGreatDoor

/- Walks, by program (wg.py) out of a spec. -/
namespace Go.Proofs.YtobjojeliibinaaGreatDoor
open Go
set_option linter.unusedVariables false
set_option linter.unusedSimpArgs false


theorem RdMade.rec {w : World} {A : Nat → Prop} {cs : List Value} {b : Block} {c : QC} (h0 : madeE b c = 0) (h : RdMade w A cs (b, c)) : RdRec w A cs ⟨b, c⟩ := by unfold RdMade at h; rwa [if_pos h0] at h
def RdOpt (w : World) (A : Nat → Prop) (cs : List Value) (o : Option LRec) : Prop := match o with | none => cs = recZ | some r => RdRec w A cs r
instance : RdK RdOpt := ⟨fun {w w' A A' cs x} h k => by cases x with | none => exact h | some r => exact RdRec.mv h k⟩
attribute [local irreducible] Gl Gc Gx Gs Runs Wt

attribute [local irreducible] dc RdMade RdOpt RdRec RdBlock madeE blkC rdRec allE pAll rstep

end Go.Proofs.YtobjojeliibinaaGreatDoor

/- The engine, part U: regions that draw their order, the last operations (one by one behind all others) free of what is kept. -/
namespace Go.Proofs.YtobjojeliibinaaGreatDoor
open Go
set_option linter.unusedVariables false
set_option linter.unusedSimpArgs false
section tail
variable {ro : Option Nat} {P : Program} {ops : Array Oper} {Q : Exit → Act → World → Prop} {md : Region.Mode} {S : World → Prop} {z : Nat}
/-- The operations from z on wait for all ahead of z, and each for the one ahead of it. -/
def tailU (md : Region.Mode) (ops : Array Oper) (z : Nat) : Bool := Nat.blt z ops.size && (List.range ops.size).all fun i => Nat.blt i z || match ops[i]? with
  | some o => ((List.range z).all fun j => o.after.any fun e => Region.binds md e && Nat.beq e.on j) && (Nat.beq i z || o.after.any fun e => Region.binds md e && Nat.beq e.on (i - 1))
  | none => false
def listedU (m z : Nat) : Array Bool := ((List.replicate z true) ++ (List.replicate (m - z) false)).toArray
theorem listedU_lo {m z i : Nat} (h : i < z) : (listedU m z)[i]? = some true := by
  simp only [listedU, List.getElem?_toArray]
  rw [List.getElem?_append_left (by simpa using h), List.getElem?_replicate, if_pos h]
theorem listedU_hi {m z i : Nat} (h : z ≤ i) (hm : i < m) : (listedU m z)[i]? = some false := by
  simp only [listedU, List.getElem?_toArray]
  rw [List.getElem?_append_right (by simpa using h), List.getElem?_replicate, if_pos (by simp; omega)]
theorem tailU_at (h : tailU md ops z = true) {i : Nat} (hi : i < ops.size) (hz : z ≤ i) : ∃ o, ops[i]? = some o ∧ (∀ j, j < z → ∃ e ∈ o.after, Region.binds md e = true ∧ e.on = j) ∧ (i ≠ z → ∃ e ∈ o.after, Region.binds md e = true ∧ e.on = i - 1) := by
  simp only [tailU, Bool.and_eq_true] at h
  have h2 := List.all_eq_true.1 h.2 i (List.mem_range.2 hi)
  cases ho : ops[i]? with
  | none => simp [ho, Nat.not_lt.2 hz] at h2
  | some o =>
    simp only [ho, Bool.or_eq_true, Nat.blt_eq, Bool.and_eq_true] at h2
    rcases h2 with h2 | ⟨h3, h4⟩
    · omega
    · refine ⟨o, rfl, fun j hj => ?_, fun hne => ?_⟩
      · obtain ⟨e, he, hb⟩ := Array.any_eq_true'.1 (List.all_eq_true.1 h3 j (List.mem_range.2 hj))
        simp only [Bool.and_eq_true] at hb
        exact ⟨e, he, hb.1, Nat.eq_of_beq_eq_true hb.2⟩
      · rcases h4 with h4 | h4
        · exact absurd (Nat.eq_of_beq_eq_true h4) hne
        · obtain ⟨e, he, hb⟩ := Array.any_eq_true'.1 h4
          simp only [Bool.and_eq_true] at hb
          exact ⟨e, he, hb.1, Nat.eq_of_beq_eq_true hb.2⟩
def InvU (ops : Array Oper) (z : Nat) (listed : Array Bool) : Prop := listed.size = ops.size ∧ ∀ i, z ≤ i → i < ops.size → listed[i]? = some false
theorem getD_some {listed : Array Bool} {i : Nat} (hi : i < listed.size) (h : listed.getD i false = true) : listed[i]? = some true := by
  rw [Array.getElem?_eq_getElem hi]
  simpa [hi] using h
theorem tailU_ready (h : tailU md ops z = true) {listed : Array Bool} (hi : InvU ops z listed) (hz : z ∈ Region.ready md ops listed) : listed = listedU ops.size z := by
  have hlt : z < ops.size := ready_lt hz
  obtain ⟨o, ho, h1, _⟩ := tailU_at h hlt (Nat.le_refl z)
  obtain ⟨_, o', ho', hall⟩ := mem_ready.1 hz
  rw [ho] at ho'
  cases ho'
  apply Array.ext_getElem?
  intro i
  have hs : (listedU ops.size z).size = ops.size := by simp [listedU]; omega
  by_cases hm : i < ops.size
  · by_cases hiz : i < z
    · obtain ⟨e, he, hb, hon⟩ := h1 i hiz
      have := hall e he hb
      rw [hon] at this
      rw [getD_some (by rw [hi.1]; exact hm) this, listedU_lo hiz]
    · rw [hi.2 i (by omega) hm, listedU_hi (by omega) hm]
  · rw [Array.getElem?_eq_none (by rw [hi.1]; omega), Array.getElem?_eq_none (by rw [hs]; omega)]
theorem tailU_not (h : tailU md ops z = true) {listed : Array Bool} (hi : InvU ops z listed) {i : Nat} (hr : i ∈ Region.ready md ops listed) (hz : z < i) : False := by
  have hlt := ready_lt hr
  obtain ⟨o, ho, _, h2⟩ := tailU_at h hlt (by omega)
  obtain ⟨_, o', ho', hall⟩ := mem_ready.1 hr
  rw [ho] at ho'
  cases ho'
  obtain ⟨e, he, hb, hon⟩ := h2 (by omega)
  have h3 := hall e he hb
  rw [hon] at h3
  have := getD_some (by rw [hi.1]; omega) h3
  rw [hi.2 (i - 1) (by omega) (by omega)] at this
  cases this
theorem wpAnyIn_of_seqU {Q' : Exit → Act → World → Prop} (x : Nat) : ∀ (l : List Oper) (k : Nat) (listed : Array Bool) (a : Act) (w : World), (∀ j, l[j]? = ops[k + j]?) →
    Region.seqB md ops l.length k listed = true → wpListIn (FR ro) 0 P ops Q' l a w → wpAnyIn (FR ro) 0 P md ops Q' (l.length + x) listed a w
  | [], k, listed, a, w, _, hB, h => wpAnyIn_done' (by simpa [Region.seqB] using hB) h _
  | o :: l, k, listed, a, w, hl, hB, h => by
    have h0 : ops[k]? = some o := by simpa using (hl 0).symm
    simp only [List.length_cons, Region.seqB, Bool.and_eq_true, decide_eq_true_eq] at hB
    rw [show (o :: l).length + x = (l.length + x) + 1 by simp; omega]
    refine ⟨fun h1 => (by rw [hB.1] at h1; cases h1), fun i hi => ?_⟩
    rw [hB.1] at hi
    have hik : i = k := by simpa using hi
    subst hik
    have hw : wpOpIn (FR ro) 0 P ops Q' i (wpListIn (FR ro) 0 P ops Q' l) a w := by unfold wpOpIn; simp only [h0]; exact h
    exact wpOpIn_mono (fun a' w' h' => wpAnyIn_of_seqU x l (i + 1) _ a' w' (fun j => by have := hl (j + 1); simpa [Nat.add_assoc, Nat.add_comm 1 j] using this) hB.2 h') hw
theorem wpAnyIn_of_tailU (h : tailU md ops z = true) (hseq : Region.seqB md ops (ops.size - z) z (listedU ops.size z) = true) : ∀ (fuel : Nat) (listed : Array Bool) (a : Act) (w : World), InvU ops z listed →
    wpAnyT ro P md ops Q S z (wpListIn (FR ro) 0 P ops Q (ops.toList.drop z)) fuel listed a w → wpAnyIn (FR ro) 0 P md ops Q (fuel + (ops.size - z)) listed a w
  | 0, listed, a, w, hi, H => by
    have hz : z ∈ Region.ready md ops listed := by rw [H.1]; simp
    rw [tailU_ready h hi hz, Nat.zero_add]
    have := wpAnyIn_of_seqU (ro := ro) (Q' := Q) 0 (ops.toList.drop z) z (listedU ops.size z) a w (fun j => by simp [List.getElem?_drop]) (by simpa using hseq) H.2
    simpa using this
  | fuel + 1, listed, a, w, hi, H => by
    by_cases hz : z ∈ Region.ready md ops listed
    · have hl := tailU_ready h hi hz
      have hone : Region.ready md ops listed = [z] := by
        have hn := ready_nodup (md := md) (ops := ops) (listed := listed)
        have hall : ∀ i ∈ Region.ready md ops listed, i = z := fun i hr => by
          rcases Nat.lt_trichotomy i z with hlt | he | hgt
          · exfalso
            have h1 := (mem_ready.1 hr).1
            rw [hl] at h1
            have hm := ready_lt hr
            have h2 := listedU_lo (m := ops.size) hlt
            rw [Array.getD_eq_getD_getElem?, h2] at h1
            cases h1
          · exact he
          · exact (tailU_not h hi hr hgt).elim
        generalize Region.ready md ops listed = r at *
        match r with
        | [] => cases hz
        | [y] => rw [hall y (by simp)]
        | y :: y' :: r' =>
          have h1 := hall y (by simp)
          have h2 := hall y' (by simp)
          subst h1; subst h2
          simp at hn
      have hT := H.1 hone
      rw [hl]
      have := wpAnyIn_of_seqU (ro := ro) (Q' := Q) (fuel + 1) (ops.toList.drop z) z (listedU ops.size z) a w (fun j => by simp [List.getElem?_drop]) (by simpa using hseq) hT
      rw [show fuel + 1 + (ops.size - z) = (ops.toList.drop z).length + (fuel + 1) by simp; omega]
      exact this
    · rw [show fuel + 1 + (ops.size - z) = (fuel + (ops.size - z)) + 1 by omega]
      refine ⟨fun h0 => absurd h0 H.2.1, fun i hr => ?_⟩
      have hne : i ≠ z := fun e => hz (e ▸ hr)
      refine wpOpIn_mono (fun a' w' h' => wpAnyIn_of_tailU h hseq fuel _ a' w' ⟨by simpa using hi.1, fun k hk hm => ?_⟩ h'.2) (H.2.2 i hr hne)
      have hik : i ≠ k := fun e => by
        subst e
        rcases Nat.lt_or_ge z i with hgt | hle
        · exact tailU_not h hi hr hgt
        · omega
      rw [Array.getElem?_setIfInBounds_ne hik]
      exact hi.2 k hk hm
end tail
def Gu (P : Program) (w0 : World) (F0 : Nat → Prop) (K L : List Res) (ops : Array Oper) (Q : Exit → Act → World → Prop) (z fuel : Nat) (listed : Array Bool) (n : Fm) (env : Env) : Prop :=
  ∀ w, St w0 F0 L w → wpAnyT n.ro P .any ops Q (St w0 F0 K) z (wpListIn (FR n.ro) 0 P ops Q (ops.toList.drop z)) fuel listed (fr n env) w
def NextU (P : Program) (w0 : World) (F0 : Nat → Prop) (K : List Res) (ops : Array Oper) (Q : Exit → Act → World → Prop) (z fuel : Nat) (listed : Array Bool) (n : Fm) (a : Act) (w : World) : Prop :=
  St w0 F0 K w ∧ wpAnyT n.ro P .any ops Q (St w0 F0 K) z (wpListIn (FR n.ro) 0 P ops Q (ops.toList.drop z)) fuel listed a w
section heldu
variable {P : Program} {w0 : World} {F0 : Nat → Prop} {K L : List Res} {Q : Exit → Act → World → Prop} {n : Fm} {env : Env} {ops : Array Oper} {listed : Array Bool} {fuel z : Nat}
theorem gc_regionU {id : Nat} {l : List Oper} (z : Nat) (K : List Res) (h : Gu P w0 F0 K L l.toArray Q z z (Array.replicate l.length false) n env) (hm : P.follows .mixedOrders = true := by kernel_rfl) (hz : tailU .any l.toArray z = true := by kernel_rfl)
    (hs : Region.seqB .any l.toArray (l.length - z) z (listedU l.length z) = true := by kernel_rfl) : Gc P w0 F0 L (.region id l.toArray true) Q n env := fun w hw =>
  wpIn_region_any hm (by
    have hlt : z < l.length := by
      have := hz
      simp only [tailU, Bool.and_eq_true, Nat.blt_eq, List.size_toArray] at this
      exact this.1
    have := wpAnyIn_of_tailU (ops := l.toArray) hz (by simpa using hs) _ (Array.replicate l.length false) _ _ ⟨by simp, fun i _ hi => by simp at hi; simp [hi]⟩ (h _ (hw.drawn (w.drawn + 1)))
    rw [show z + (l.toArray.size - z) = l.toArray.size by simp; omega] at this
    simpa using this)
theorem ypu (i : Nat) {t : Tmp} {op : Op} {ty : TypeId} {pos : String} {af : Array Edge} {gd : Option (Nat × Bool)} {v : Value} {L' : List Res} (hi : ops[i]? = some ⟨some t, op, ty, pos, af, gd⟩) (hR : Runs P w0 F0 K n env ⟨some t, op, ty, pos, af, gd⟩ v)
    (k : Gu P w0 F0 K L ops Q z fuel (listed.setIfInBounds i true) n ((t, v) :: env)) (hw : Wt ops n env ⟨some t, op, ty, pos, af, gd⟩ true := by first | exact wt0 rfl | exact wtgT rfl rfl rfl rfl) (hsel : Sel L K L' := by repeat (first | exact Sel.nil | (apply Sel.cons; · (repeat (first | exact Pick.here | apply Pick.there)))))
    (hs : Region.noSelect ops = true := by kernel_rfl) (hd : noDef ops = true := by kernel_rfl) (hf : Region.free .any ops listed i = true := by kernel_rfl) (hr : (Region.ready .any ops listed).contains i = true := by kernel_rfl) (hz : Nat.beq i z = false := by kernel_rfl)
    (hQ : ∀ c a w, Q (.panic c) (a.put (some t) v) w → Q (.panic c) a w := by exact fun _ _ _ h => h) : Gu P w0 F0 K L ops Q z (fuel + 1) listed n env := fun w hst =>
  wpAnyT_first hi (fun e => by subst e; simp at hz) (Region.noSelect_spec hs) hd hQ fuel listed _ _ (Region.free_spec hi hf) (by simpa using hr) (.inl ⟨hw, fun w' hw' => by rw [fr_eval]; exact hR w' hw'⟩) (hst.sel hsel) (by rw [fr_put]; exact k w hst)
theorem you (i : Nat) {o : Oper} (hi : ops[i]? = some o) (k : Gl P w0 F0 L ops (Exit.then (NextU P w0 F0 K ops Q z fuel (listed.setIfInBounds i true) n) Q) [o] n env) (hr : Region.ready .any ops listed = [i] := by kernel_rfl) (hz : Nat.beq i z = false := by kernel_rfl) : Gu P w0 F0 K L ops Q z (fuel + 1) listed n env := fun w hst =>
  ⟨fun h => (by rw [hr] at h; simp only [List.cons.injEq, and_true] at h; subst h; simp at hz), by rw [hr]; simp, fun j hj _ => by
    rw [hr] at hj
    obtain rfl : j = i := by simpa using hj
    exact wpOpIn_of_list hi (k w hst)⟩
theorem yxu {L' : List Res} {Q' : Exit → Act → World → Prop} (k : Gu P w0 F0 K L ops Q z fuel listed n env) (hsel : Sel L K L' := by repeat (first | exact Sel.nil | (apply Sel.cons; · (repeat (first | exact Pick.here | apply Pick.there))))) : Gl P w0 F0 L ops (Exit.then (NextU P w0 F0 K ops Q z fuel listed n) Q') [] n env := gl_nil fun w hw => ⟨hw.sel hsel, k w hw⟩
/-- The last ones. -/
theorem yzu {l : List Oper} (k : Gl P w0 F0 L ops Q l n env) (hl : ops.toList.drop z = l := by rfl) (hr : Region.ready .any ops listed = [z] := by kernel_rfl) : Gu P w0 F0 K L ops Q z 0 listed n env := fun w hst => ⟨hr, by rw [hl]; exact k w hst⟩
end heldu
end Go.Proofs.YtobjojeliibinaaGreatDoor

/- Walks, by program (wg.py) out of a spec. -/
namespace Go.Proofs.YtobjojeliibinaaGreatDoor
open Go
set_option linter.unusedVariables false
set_option linter.unusedSimpArgs false


def lstep (d : DS) (l : LS) : LS × Bool × Nat := match lnext d l.e l.rs.length with
  | .error k => (l, false, k)
  | .ok none => (l, false, 0)
  | .ok (some r) => (⟨l.base, l.rs ++ [r], l.e + lenR r⟩, true, 0)
section
variable {d : DS} {l : LS} {x : Nat}
end

attribute [local irreducible] Gl Gc Gx Gs Runs Wt

attribute [local irreducible] dc RdMade RdOpt RdRec RdBlock madeE blkC rdRec allE pAll rstep lstep bytesE headL valN

end Go.Proofs.YtobjojeliibinaaGreatDoor

/- Walks, by program (wg.py) out of a spec. -/
namespace Go.Proofs.YtobjojeliibinaaGreatDoor
open Go
set_option linter.unusedVariables false
set_option linter.unusedSimpArgs false


theorem lnext_err {d : DS} {e h k : Nat} (hh : lnext d e h = .error k) : k = 7 := by
  unfold lnext at hh
  split at hh
  · cases hh
  · split at hh
    · cases hh; rfl
    · split at hh
      · cases hh; rfl
      · split at hh
        · split at hh
          · cases hh; rfl
          · cases hh
        · cases hh; rfl
def openE (d : DS) (b : Int) : Nat × LS := if d.has b = true then (match lopen d b.toNat [] with | .error k => (k, ⟨b, [], 0⟩) | .ok (rs, e) => (0, ⟨b, rs, e⟩)) else (1, ⟨b, [], 0⟩)
structure OpenInv (d : DS) (b : Int) (l : LS) (m : Bool) : Prop where
  lt : l.e < d.n
  ba : l.base = b
  ln : l.rs.length ≤ l.e
  eq : lopen d b.toNat [] = if m = true then lopen d l.e l.rs else .ok (l.rs, l.e)
section
variable {d : DS} {b : Int} {l : LS}
theorem OpenInv.start (h : d.has b = true) : OpenInv d b ⟨b, [], b.toNat⟩ true := by
  obtain ⟨h0, h1⟩ := has_iff.1 h
  exact ⟨by show b.toNat < d.n; omega, rfl, Nat.zero_le _, by rw [if_pos rfl]⟩
theorem OpenInv.bad (h : OpenInv d b l true) (he : (lstep d l).2.2 ≠ 0) : lopen d b.toNat [] = .error (lstep d l).2.2 := by
  rw [h.eq, if_pos rfl]
  unfold lstep at he ⊢
  cases hn : lnext d l.e l.rs.length with
  | error k => rw [lopen_err hn]
  | ok o => cases o with
    | none => rw [hn] at he; exact absurd rfl he
    | some r => rw [hn] at he; exact absurd rfl he
theorem OpenInv.step (h : OpenInv d b l true) (he : (lstep d l).2.2 = 0) : OpenInv d b (lstep d l).1 (lstep d l).2.1 ∧ 2 * (d.n - (lstep d l).1.e) + (lstep d l).2.1.toNat < 2 * (d.n - l.e) + 1 := by
  have hq := h.eq
  rw [if_pos rfl] at hq
  unfold lstep at he ⊢
  cases hn : lnext d l.e l.rs.length with
  | error k => rw [hn] at he; have := lnext_err hn; simp only at he; omega
  | ok o => cases o with
    | none => exact ⟨⟨h.lt, h.ba, h.ln, by show lopen d b.toNat [] = .ok (l.rs, l.e); rw [hq, lopen_done hn]⟩, by simp⟩
    | some r =>
      obtain ⟨hr, hl⟩ := lnext_some hn
      have h1 : 1 ≤ lenR r := by unfold lenR; omega
      have h2 := h.lt
      have h3 := h.ln
      refine ⟨⟨by show l.e + lenR r < d.n; omega, h.ba, by show (l.rs ++ [r]).length ≤ l.e + lenR r; rw [List.length_append]; simp; omega, by show lopen d b.toNat [] = lopen d (l.e + lenR r) (l.rs ++ [r]); rw [hq, lopen_more hn]⟩, ?_⟩
      show 2 * (d.n - (l.e + lenR r)) + true.toNat < _
      simp; omega
theorem OpenInv.done (h : OpenInv d b l false) (hb : d.has b = true) : openE d b = (0, l) := by
  have hq := h.eq
  rw [if_neg (by decide)] at hq
  rw [openE, if_pos hb, hq]
  simp only
  rw [← h.ba]
end

attribute [local irreducible] Gl Gc Gx Gs Runs Wt

attribute [local irreducible] lstep

end Go.Proofs.YtobjojeliibinaaGreatDoor

/- Walks, by program (wg.py) out of a spec. -/
namespace Go.Proofs.YtobjojeliibinaaGreatDoor
open Go
set_option linter.unusedVariables false
set_option linter.unusedSimpArgs false


def allOr (n : Nat) (y : Bool) : Option Nat := if y = true then some n else none
attribute [local irreducible] Gl Gc Gx Gs Runs Wt

end Go.Proofs.YtobjojeliibinaaGreatDoor

/- Walks, by program (wg.py) out of a spec. -/
namespace Go.Proofs.YtobjojeliibinaaGreatDoor
open Go
set_option linter.unusedVariables false
set_option linter.unusedSimpArgs false


def wseq (d : DS) : List (Int × Sec) → Nat × DS
  | [] => (0, d)
  | p :: l => if (d.wr p.1 p.2).1 = 0 then wseq (d.wr p.1 p.2).2 l else d.wr p.1 p.2
def dataW (e : Nat) (x : List UInt8) (i : Nat) : List (Int × Sec) := (List.range i).map fun j => (((e + 1 + j : Nat) : Int), secData x j)
/-- The data's i sectors are written. -/
def wdat (d : DS) (e : Nat) (x : List UInt8) (i : Nat) : Nat × DS := wseq d (dataW e x i)
def appS (d : DS) (l : LS) (r : LRec) : Nat × DS × LS := if (oper d).off = true then (6, d.syncd, l) else (0, d.syncd, ⟨l.base, l.rs ++ [r], l.e + lenR r⟩)
def appH (d : DS) (l : LS) (r : LRec) : Nat × DS × LS := if (d.wr l.e (headL l.rs.length r.data)).1 = 0 then appS (d.wr l.e (headL l.rs.length r.data)).2 l r else ((d.wr l.e (headL l.rs.length r.data)).1, (d.wr l.e (headL l.rs.length r.data)).2, l)
def appM (d : DS) (l : LS) (r : LRec) : Nat × DS × LS := if (oper d).off = true then (6, d.syncd, l) else appH d.syncd l r
def appE (d : DS) (l : LS) (r : LRec) : Nat × DS × LS := if (d.wr ((l.e + lenR r : Nat) : Int) sec0).1 = 0 then appM (d.wr ((l.e + lenR r : Nat) : Int) sec0).2 l r else ((d.wr ((l.e + lenR r : Nat) : Int) sec0).1, (d.wr ((l.e + lenR r : Nat) : Int) sec0).2, l)
def appD (d : DS) (l : LS) (r : LRec) : Nat × DS × LS := if (wdat d l.e r.data (nsec r.data.length)).1 = 0 then appE (wdat d l.e r.data (nsec r.data.length)).2 l r else ((wdat d l.e r.data (nsec r.data.length)).1, (wdat d l.e r.data (nsec r.data.length)).2, l)
def appL (d : DS) (l : LS) (b : Block) (c : QC) : Nat × DS × LS := if madeE b c = 0 then (if 200 ≤ l.rs.length ∨ ¬ nsec (⟨b, c⟩ : LRec).data.length + 2 ≤ d.n - l.e then (8, d, l) else appD d l ⟨b, c⟩) else (madeE b c, d, l)
attribute [local irreducible] Gl Gc Gx Gs Runs Wt

attribute [local irreducible] dc RdMade RdOpt RdRec RdBlock RdQC madeE blkC lstep headL wdat secData appL nsec

end Go.Proofs.YtobjojeliibinaaGreatDoor

/- Walks, by program (wg.py) out of a spec. -/
namespace Go.Proofs.YtobjojeliibinaaGreatDoor
open Go
set_option linter.unusedVariables false
set_option linter.unusedSimpArgs false


section
variable {P : Program} {w0 : World} {F0 : Nat → Prop} {L : List Res} {Q : Exit → Act → World → Prop} {n : Fm} {env : Env}
/-- One element of a row of one's own. -/
theorem r_ldRow {d : Option Tmp} {ty : TypeId} {pos : String} {af : Array Edge} {gd : Option (Nat × Bool)} {x : Operand} {T e g o m c s i : Nat} {css : List (List Value)} {cs : List Value} {L' : List Res} (hx : ev n env x = .pointer (some ⟨g, o + i * s, none⟩)) (hr : rowT P T = some true) (hs : szT P T = some s)
    (hp : Pick L (rowR e s (some ⟨g, o, none⟩) m c css.flatten) L') (hcs : ∀ c ∈ css, c.length = s) (hi : css[i]? = some cs) (him : i < m) : Runs P w0 F0 L n env ⟨d, .load T x, ty, pos, af, gd⟩ (.agg cs.toArray) := r_load hx fun w hw => by
  obtain ⟨g', o', ha, _, _, hra⟩ := (hw.row hp).elem him
  cases ha
  rw [flatten_at hcs hi] at hra
  exact run_loadVar_agg hr hs (hcs cs (List.mem_of_getElem? hi)) fun j v hj => hra j v hj
end
theorem St.el {α : Type} {rd : World → (Nat → Prop) → List Value → α → Prop} [RdK rd] {w0 w : World} {F0 : Nat → Prop} {L L' : List Res} {css : List (List Value)} {l : List α} (h : St w0 F0 L w) (hp : Pick L (ElR rd css l) L') : css.length = l.length ∧ ∀ (i : Nat) (c : List Value) (x : α), css[i]? = some c → l[i]? = some x → ∃ w A, rd w A c x := by
  obtain ⟨F, hF, _⟩ := h
  obtain ⟨F1, ⟨⟨h1, h2⟩, _⟩, _⟩ := stars_pick hp hF
  exact ⟨h1, fun i c x hc hx => ⟨w, F1, h2 i c x hc hx⟩⟩
attribute [local irreducible] Gl Gc Gx Gs Runs Wt

attribute [local irreducible] dc RdRec RdBlock RdQC blkC qcC allE

end Go.Proofs.YtobjojeliibinaaGreatDoor

/- Plain words: trees of blocks that certificates join. No program in sight. -/
namespace Go.Proofs.YtobjojeliibinaaGreatDoor
set_option linter.unusedVariables false
set_option linter.unusedSimpArgs false

def smSig (s : Sig) : Prop := s.chains.length ≤ 1099511627776 ∧ s.path.length ≤ 1099511627776
def smQC (q : QC) : Prop := q.votes.length ≤ 1099511627776 ∧ ∀ s ∈ q.votes, smSig s.sig
def smBlk (b : Block) : Prop := smQC b.justify ∧ b.next.length ≤ 1099511627776 ∧ b.payload.length ≤ 1099511627776 ∧ ∀ x ∈ b.payload, x.length ≤ 1099511627776
structure Tr where
  root : Dig
  nodes : List (Dig × Block)
  certs : List QC
def lkN (d : Dig) : List (Dig × Block) → Option Block
  | [] => none
  | p :: l => if d = p.1 then some p.2 else lkN d l
def fitsQ (q : QC) (d : Dig) (b : Block) : Bool := decide (q.block = d ∧ q.epoch = b.epoch ∧ q.round = b.round)
def certF (d : Dig) : List QC → Option QC
  | [] => none
  | q :: l => if q.block = d then some q else certF d l
/-- A block's id, its parent's, and so on. -/
def upF (t : Tr) : Nat → Dig → List (Dig × Block)
  | 0, _ => []
  | n + 1, d => match lkN d t.nodes with
    | none => []
    | some b => (d, b) :: (if d = t.root then [] else upF t n b.parent)
def upL (t : Tr) (d : Dig) : List (Dig × Block) := upF t t.nodes.length d
def keysT (t : Tr) : List Dig := t.nodes.map (·.1)
structure TOk (t : Tr) : Prop where
  nd : (keysT t).Nodup
  hd : ∃ b r, t.nodes = (t.root, b) :: r
  par : ∀ i d b, t.nodes[i + 1]? = some (d, b) → ∃ j p, j ≤ i ∧ t.nodes[j]? = some (b.parent, p)
  le : t.nodes.length ≤ 16
  ce : 0 < t.certs.length
  cn : (t.certs.map (fun q => q.block)).Nodup
  ck : ∀ q ∈ t.certs, q.block ∈ keysT t
  sb : ∀ d b, lkN d t.nodes = some b → smBlk b
  sq : ∀ q ∈ t.certs, smQC q
theorem nodup_le {α : Type} [DecidableEq α] : ∀ {l m : List α}, l.Nodup → (∀ x ∈ l, x ∈ m) → l.length ≤ m.length
  | [], m, _, _ => Nat.zero_le _
  | a :: l, m, hn, hs => by
    simp only [List.nodup_cons] at hn
    have h1 := nodup_le (l := l) (m := m.erase a) hn.2 fun x hx => (List.mem_erase_of_ne (fun e => hn.1 (by rw [← e]; exact hx))).2 (hs x (List.mem_cons_of_mem _ hx))
    have h2 := List.length_erase_of_mem (hs a List.mem_cons_self)
    have h3 := List.length_pos_of_mem (hs a List.mem_cons_self)
    simp only [List.length_cons]; omega
theorem TOk.cl {t : Tr} (h : TOk t) : t.certs.length ≤ 16 := by
  have h1 := nodup_le h.cn (m := keysT t) fun x hx => by obtain ⟨q, hq, rfl⟩ := List.mem_map.1 hx; exact h.ck q hq
  have h2 := h.le
  simp only [List.length_map, keysT] at h1
  omega
theorem lkN_some {d : Dig} {b : Block} : ∀ {l : List (Dig × Block)}, lkN d l = some b → ∃ i : Nat, l[i]? = some (d, b)
  | [], h => by cases h
  | p :: l, h => by
    unfold lkN at h
    split at h
    · rename_i e; cases h; exact ⟨0, by subst e; rfl⟩
    · obtain ⟨i, hi⟩ := lkN_some h; exact ⟨i + 1, hi⟩
theorem lkN_none {d : Dig} : ∀ {l : List (Dig × Block)}, lkN d l = none ↔ d ∉ l.map (fun p => p.1)
  | [] => by simp [lkN]
  | p :: l => by
    unfold lkN
    split
    · rename_i e; simp [e]
    · rename_i e; rw [lkN_none]; simp [e]
theorem lkN_at {d : Dig} {b : Block} : ∀ {l : List (Dig × Block)} {i : Nat}, (l.map (fun p => p.1)).Nodup → l[i]? = some (d, b) → lkN d l = some b
  | [], i, _, h => by simp at h
  | p :: l, 0, _, h => by simp at h; subst h; simp [lkN]
  | p :: l, i + 1, hn, h => by
    simp only [List.map_cons, List.nodup_cons] at hn
    simp only [List.getElem?_cons_succ] at h
    unfold lkN
    rw [if_neg (fun e => hn.1 (by rw [← e]; exact List.mem_map.2 ⟨_, List.mem_of_getElem? h, rfl⟩)), lkN_at hn.2 h]
theorem lkN_append {d : Dig} {l m : List (Dig × Block)} : lkN d (l ++ m) = (lkN d l).orElse (fun _ => lkN d m) := by
  induction l with
  | nil => simp [lkN]
  | cons p l ih => simp only [List.cons_append, lkN]; split <;> simp [ih]
/-- More fuel changes nothing. -/
theorem upF_more {t : Tr} (h : TOk t) : ∀ (i : Nat) (d : Dig) (b : Block) (n m : Nat), t.nodes[i]? = some (d, b) → i < n → i < m → upF t n d = upF t m d := by
  intro i
  induction i using Nat.strongRecOn with
  | ind i ih =>
    intro d b n m hi hn hm
    obtain ⟨n, rfl⟩ : ∃ k, n = k + 1 := ⟨n - 1, by omega⟩
    obtain ⟨m, rfl⟩ : ∃ k, m = k + 1 := ⟨m - 1, by omega⟩
    unfold upF
    have hl := lkN_at h.nd hi
    rw [hl]
    simp only
    split
    · rfl
    · rename_i hne
      congr 1
      cases i with
      | zero =>
        obtain ⟨b0, r, hb⟩ := h.hd
        rw [hb] at hi; simp at hi; exact absurd hi.1.symm hne
      | succ i =>
        obtain ⟨j, p, hj, hp⟩ := h.par i d b hi
        exact ih j (by omega) b.parent p n m hp (by omega) (by omega)
theorem upL_step {t : Tr} (h : TOk t) {d : Dig} {b : Block} (hl : lkN d t.nodes = some b) : upL t d = (d, b) :: (if d = t.root then [] else upL t b.parent) := by
  obtain ⟨i, hi⟩ := lkN_some hl
  have hlt : i < t.nodes.length := (List.getElem?_eq_some_iff.1 hi).1
  obtain ⟨n, hn⟩ : ∃ k, t.nodes.length = k + 1 := ⟨t.nodes.length - 1, by omega⟩
  have e : upL t d = upF t (n + 1) d := by unfold upL; rw [hn]
  rw [e]
  simp only [upF, hl]
  split
  · rfl
  · rename_i hne
    congr 1
    cases i with
    | zero =>
      obtain ⟨b0, r, hb⟩ := h.hd
      rw [hb] at hi; simp at hi; exact absurd hi.1.symm hne
    | succ i =>
      obtain ⟨j, p, hj, hp⟩ := h.par i d b hi
      exact upF_more h j b.parent p n t.nodes.length hp (by omega) (by omega)
theorem upL_none {t : Tr} {d : Dig} (hl : lkN d t.nodes = none) : upL t d = [] := by
  unfold upL
  cases t.nodes.length with
  | zero => rfl
  | succ n => unfold upF; rw [hl]
theorem upF_len (t : Tr) : ∀ (n : Nat) (d : Dig), (upF t n d).length ≤ n
  | 0, d => Nat.le_refl _
  | n + 1, d => by
    unfold upF
    cases lkN d t.nodes with
    | none => simp
    | some b =>
      simp only [List.length_cons]
      split
      · simp
      · have := upF_len t n b.parent; omega
theorem upL_len (t : Tr) (d : Dig) : (upL t d).length ≤ t.nodes.length := upF_len t _ d
/-- The parent of a block that isn't the root is there. -/
theorem TOk.up {t : Tr} (h : TOk t) {d : Dig} {b : Block} (hl : lkN d t.nodes = some b) (hne : d ≠ t.root) : ∃ p, lkN b.parent t.nodes = some p := by
  obtain ⟨i, hi⟩ := lkN_some hl
  cases i with
  | zero =>
    obtain ⟨b0, r, hb⟩ := h.hd
    rw [hb] at hi; simp at hi; exact absurd hi.1.symm hne
  | succ i =>
    obtain ⟨j, p, hj, hp⟩ := h.par i d b hi
    exact ⟨p, lkN_at h.nd hp⟩

/-! ### What calls answer -/
theorem certF_none {d : Dig} : ∀ {l : List QC}, certF d l = none ↔ d ∉ l.map (fun q => q.block)
  | [] => by simp [certF]
  | p :: l => by
    unfold certF
    split
    · rename_i e; simp [e]
    · rename_i e; rw [certF_none]; simp [e, Ne.symm e]
def askE (t : Tr) (b : Block) (err : Nat) (id : Dig) : Nat :=
  if err = 0 then (if (lkN id t.nodes).isSome then 17 else match lkN b.parent t.nodes with
    | none => 16
    | some p => if fitsQ b.justify b.parent p = true ∧ b.epoch = p.epoch then (if b.round ≤ p.round then 14 else if 16 ≤ t.nodes.length then 8 else 0) else 12) else 4
def newE (b : Block) (q : QC) (err : Nat) (id : Dig) : Nat := if err = 0 then (if fitsQ q id b = true then 0 else 12) else 4
def newT (b : Block) (q : QC) (id : Dig) : Tr := ⟨id, [(id, b)], [q]⟩
def putT (t : Tr) (b : Block) (id : Dig) : Tr := { t with nodes := t.nodes ++ [(id, b)] }
theorem askE_zero {t : Tr} {b : Block} {err : Nat} {id : Dig} (h : askE t b err id = 0) : err = 0 ∧ lkN id t.nodes = none ∧ ∃ p, lkN b.parent t.nodes = some p ∧ fitsQ b.justify b.parent p = true ∧ b.epoch = p.epoch ∧ p.round < b.round ∧ t.nodes.length < 16 := by
  unfold askE at h
  split at h
  · rename_i he
    split at h
    · cases h
    · rename_i hn
      cases hp : lkN b.parent t.nodes with
      | none => rw [hp] at h; cases h
      | some p =>
        rw [hp] at h
        simp only at h
        split at h
        · rename_i hf
          split at h
          · cases h
          · split at h
            · cases h
            · exact ⟨he, by simpa using hn, p, rfl, hf.1, hf.2, by omega, by omega⟩
        · cases h
  · cases h
def learnE (t : Tr) (q : QC) : Nat × Tr := match lkN q.block t.nodes with
  | none => (9, t)
  | some b => if fitsQ q q.block b = true then (0, if (certF q.block t.certs).isSome then t else { t with certs := t.certs ++ [q] }) else (12, t)
theorem newT_ok {b : Block} {q : QC} {id : Dig} (hq : q.block = id) (hb : smBlk b) (hs : smQC q) : TOk (newT b q id) where
  nd := by simp [keysT, newT]
  hd := ⟨b, [], rfl⟩
  par := fun i d b h => by simp [newT] at h
  le := by simp [newT]
  ce := by simp [newT]
  cn := by simp [newT]
  ck := fun x hx => by simp [newT] at hx; subst hx; simp [keysT, newT, hq]
  sb := fun d x h => by
    simp only [newT, lkN] at h
    split at h
    · cases h; exact hb
    · cases h
  sq := fun x hx => by simp [newT] at hx; subst hx; exact hs
theorem putT_ok {t : Tr} (h : TOk t) {b : Block} {id p : Dig} {pb : Block} (hn : lkN id t.nodes = none) (hp : lkN b.parent t.nodes = some pb) (hl : t.nodes.length < 16) (hb : smBlk b) : TOk (putT t b id) where
  nd := by
    have := h.nd
    simp only [keysT, putT, List.map_append, List.map_cons, List.map_nil] at this ⊢
    refine List.nodup_append.2 ⟨this, by simp, fun x hx y hy e => ?_⟩
    simp at hy; subst hy; subst e
    exact lkN_none.1 hn hx
  hd := by obtain ⟨b0, r, e⟩ := h.hd; exact ⟨b0, r ++ [(id, b)], by simp [putT, e]⟩
  par := fun i d x hx => by
    simp only [putT] at hx
    by_cases hi : i + 1 < t.nodes.length
    · rw [List.getElem?_append_left hi] at hx
      obtain ⟨j, y, hj, hy⟩ := h.par i d x hx
      exact ⟨j, y, hj, by show (t.nodes ++ _)[j]? = _; rw [List.getElem?_append_left (by omega)]; exact hy⟩
    · have hlt := (List.getElem?_eq_some_iff.1 hx).1
      simp only [List.length_append, List.length_singleton] at hlt
      rw [List.getElem?_append_right (by omega), show i + 1 - t.nodes.length = 0 by omega] at hx
      simp at hx
      obtain ⟨rfl, rfl⟩ := hx
      obtain ⟨j, hj⟩ := lkN_some hp
      have hjl := (List.getElem?_eq_some_iff.1 hj).1
      exact ⟨j, pb, by omega, by show (t.nodes ++ _)[j]? = _; rw [List.getElem?_append_left hjl]; exact hj⟩
  le := by simp [putT]; omega
  ce := h.ce
  cn := h.cn
  ck := fun q hq => by simp only [keysT, putT, List.map_append, List.mem_append]; exact .inl (h.ck q hq)
  sb := fun d x hx => by
    simp only [putT, lkN_append] at hx
    cases h1 : lkN d t.nodes with
    | some y => rw [h1] at hx; simp at hx; subst hx; exact h.sb d _ h1
    | none =>
      rw [h1] at hx
      simp [lkN] at hx
      obtain ⟨_, rfl⟩ := hx; exact hb
  sq := h.sq
theorem learnE_ok {t : Tr} (h : TOk t) {q : QC} (hs : smQC q) : TOk (learnE t q).2 := by
  unfold learnE
  cases hl : lkN q.block t.nodes with
  | none => exact h
  | some b =>
    simp only
    split
    · simp only
      split
      · exact h
      · rename_i hc
        have hc' : certF q.block t.certs = none := by simpa using hc
        have hk : q.block ∈ keysT t := Classical.byContradiction fun hh => by rw [lkN_none.2 hh] at hl; cases hl
        exact ⟨h.nd, h.hd, h.par, h.le, by simp, by
            simp only [List.map_append, List.map_cons, List.map_nil]
            refine List.nodup_append.2 ⟨h.cn, by simp, fun x hx y hy e => ?_⟩
            simp at hy; subst hy; subst e
            exact certF_none.1 hc' hx, fun x hx => by
            rcases List.mem_append.1 hx with hx | hx
            · exact h.ck x hx
            · simp at hx; subst hx; exact hk, h.sb, fun x hx => by
            rcases List.mem_append.1 hx with hx | hx
            · exact h.sq x hx
            · simp at hx; subst hx; exact hs⟩
    · exact h
def addE (t : Tr) (b : Block) (err : Nat) (id : Dig) : Nat × Dig × Tr :=
  if askE t b err id = 0 then ((learnE (putT t b id) b.justify).1, id, (learnE (putT t b id) b.justify).2) else (askE t b err id, dig0, t)
theorem addE_ok {t : Tr} (h : TOk t) {b : Block} {err : Nat} {id : Dig} (hb : smBlk b) : TOk (addE t b err id).2.2 := by
  unfold addE
  split
  · rename_i ha
    obtain ⟨_, h1, p, h2, _, _, _, h3⟩ := askE_zero ha
    exact learnE_ok (putT_ok (p := id) h h1 h2 h3 hb) hb.1
  · exact h
def pathL (t : Tr) (d : Dig) : List Dig := (((upL t d).map (·.1)).filter (fun i => decide (i ≠ t.root))).reverse
def ripeL (t : Tr) (q : QC) : List Dig := match lkN q.block t.nodes with
  | none => []
  | some b => if fitsQ q q.block b = true then match upL t q.block with
      | x :: y :: z :: _ => if x.2.round = q.round ∧ y.2.round = q.round - 1 ∧ z.2.round = q.round - 2 ∧ z.1 ≠ t.root then pathL t z.1 else []
      | _ => []
    else []
end Go.Proofs.YtobjojeliibinaaGreatDoor

/- The engine, part V: maps that are read and not owned; delete; one cell written in a block that is owned in some way. -/
namespace Go.Proofs.YtobjojeliibinaaGreatDoor
open Go
set_option linter.unusedVariables false
set_option linter.unusedSimpArgs false

/-- A map that is read. -/
def RdMap (w : World) (A : Nat → Prop) (g : Nat) (l : List (Value × Value)) : Prop := A g ∧ ∃ es clock, w.heap[g]? = some (.map es clock) ∧ kvs es = l
theorem RdMap.mv {w w' : World} {A A' : Nat → Prop} {g : Nat} {l : List (Value × Value)} (h : RdMap w A g l) (hk : ∀ k, k < w.heap.size → A k → w'.heap[k]? = w.heap[k]? ∧ A' k) : RdMap w' A' g l := by
  obtain ⟨hA, es, clock, hh, hkv⟩ := h
  have := hk g (Array.getElem?_eq_some_iff.1 hh).1 hA
  exact ⟨this.2, es, clock, this.1.trans hh, hkv⟩
theorem mapR.rd {g : Nat} {l : List (Value × Value)} {w : World} {F : Nat → Prop} (h : (mapR g l).on w F) : RdMap w F g l := by
  obtain ⟨hF, es, clock, hh, hk, _⟩ := h
  exact ⟨(hF g).2 rfl, es, clock, hh, hk⟩
section
variable {P : Program} {w0 : World} {F0 : Nat → Prop} {L : List Res} {Q : Exit → Act → World → Prop} {n : Fm} {env : Env} {ops : Array Oper} {rest : List Oper}
variable {d : Option Tmp} {t : Tmp} {ty : TypeId} {pos : String} {af : Array Edge} {gd : Option (Nat × Bool)}
theorem St.mapOld {w : World} (hst : St w0 F0 L w) {g : Nat} {l : List (Value × Value)} (h : RdMap w0 (fun k => ¬ F0 k) g l) : ∃ es clock, w.heap[g]? = some (.map es clock) ∧ kvs es = l := by
  obtain ⟨hA, es, clock, hh, hk⟩ := h
  obtain ⟨F, hF, hs⟩ := hst
  exact ⟨es, clock, (hs.old (Array.getElem?_eq_some_iff.1 hh).1 hA).1.trans hh, hk⟩
section
variable {α : Type} [DecidableEq α] {K : α → Value}
theorem r_looko {x y : Operand} {T kt e g : Nat} {l : List (α × Value)} {z : Value} {key : α} {b : Bool} [KeyT P kt K] (hx : ev n env x = .map (some g)) (hy : ev n env y = K key) (hm : P.underlying T = some (.map kt e)) (hz : zeroT P e = some z) (hp : RdMap w0 (fun k => ¬ F0 k) g (encK K l)) :
    Runs P w0 F0 L n env ⟨d, .lookup T x y b, ty, pos, af, gd⟩ (if b then .tuple #[(getK key l).getD z, .bool (getK key l).isSome] else (getK key l).getD z) := fun w hst => by
  obtain ⟨es, clock, hh, hk⟩ := hst.mapOld hp
  have hf := KeyT.find (P := P) (T := kt) (K := K) w key es.toList l hk
  have hc := KeyT.check (P := P) (T := kt) (K := K) w es.isEmpty key
  simp only [execOp, hx, hy, Instr.lookup, Sem.run_bind, run_underlying hm, Result.andThen_ok, MapKept.run_getObj_map hh, Sem.run_pure, hc, hf, getK]
  cases atK key l 0 with
  | none => simp only [Sem.run_bind, run_zeroT hz, Result.andThen_ok, Sem.run_pure]; cases b <;> rfl
  | some p => simp only [Sem.run_pure, Result.andThen_ok]; cases b <;> rfl
theorem gl_ins {x y u : Operand} {T kt e g : Nat} {l : List (α × Value)} {L' : List Res} {key : α} {v : Value} [KeyT P kt K] (hw : Wt ops n env ⟨d, .insert T x y u, ty, pos, af, gd⟩ true) (hx : ev n env x = .map (some g)) (hy : ev n env y = K key) (hu : ev n env u = v)
    (hm : P.underlying T = some (.map kt e)) (hp : Pick L (mapR g (encK K l)) L') (k : Gl P w0 F0 (mapR g (encK K (putK key v l)) :: L') ops Q rest n (pu d undef env)) : Gl P w0 F0 L ops Q (⟨d, .insert T x y u, ty, pos, af, gd⟩ :: rest) n env :=
  gl_skip hw (fun w hst => by
    obtain ⟨es, clock, hh, hk, hb, hn⟩ := hst.mapAt hp
    have hlt : g < w.heap.size := (Array.getElem?_eq_some_iff.1 hh).1
    have hf := KeyT.find (P := P) (T := kt) (K := K) w key es.toList l hk
    have hc := KeyT.check (P := P) (T := kt) (K := K) w false key
    cases ha : atK key l 0 with
    | none =>
      refine ⟨{ w with heap := w.heap.setIfInBounds g (.map (es.push ⟨K key, v, clock⟩) (clock + 1)) }, ?_, ?_⟩
      · simp only [execOp, hx, hy, hu, Instr.mapUpdate, Sem.run_bind, run_underlying hm, Result.andThen_ok, MapKept.run_getObj_map hh, hc, hf, ha, MapKept.run_setObj_map _ hh]
        rfl
      · refine hst.setR hp (fun F h => ⟨(h.1 g).2 rfl, hlt⟩) (fun w' F h hg' _ => ⟨h.1, _, _, hg', ?_, ?_, ?_⟩)
        · rw [(atK_none (v := v) ha).1, encK_append, ← hk]; simp [kvs]
        · intro z hz
          simp only [Array.toList_push, List.mem_append, List.mem_singleton] at hz
          rcases hz with hz | rfl
          · have := hb z hz; omega
          · exact Nat.lt_succ_self _
        · simp only [Array.toList_push, List.map_append, List.map_cons, List.map_nil]
          refine List.nodup_append.2 ⟨hn, by simp, ?_⟩
          intro a ha' b hb' e
          obtain ⟨z, hz, rfl⟩ := List.mem_map.1 ha'
          simp only [List.mem_singleton] at hb'
          have := hb z hz
          omega
    | some p =>
      obtain ⟨j, u0⟩ := p
      obtain ⟨m, rfl, h2, h3, _⟩ := atK_some (v := v) ha
      rw [Nat.zero_add] at ha
      have hkey : ((es[m]?).map (·.key)).getD (K key) = K key := by
        have := encK_get (K := K) h2
        rw [← hk, kvs, List.getElem?_map, Array.getElem?_toList] at this
        cases he : es[m]? with
        | none => rfl
        | some e' => rw [he] at this; simp at this; simp [this.1]
      refine ⟨{ w with heap := w.heap.setIfInBounds g (.map (es.modify m fun e => { e with key := K key, val := v }) clock) }, ?_, ?_⟩
      · simp only [execOp, hx, hy, hu, Instr.mapUpdate, Sem.run_bind, run_underlying hm, Result.andThen_ok, MapKept.run_getObj_map hh, hc, hf, ha, hkey, KeyT.stays (P := P) (T := kt) (K := K), MapKept.run_setObj_map _ hh]
        rfl
      · refine hst.setR hp (fun F h => ⟨(h.1 g).2 rfl, hlt⟩) (fun w' F h hg' _ => ⟨h.1, _, _, hg', ?_, ?_, ?_⟩)
        · rw [kvs_modify, h3, encK_set, ← hk]
        · exact all_born hb born_modify
        · rw [born_modify]; exact hn) k
end
theorem r_lenmo {x : Operand} {T kt e g : Nat} {l : List (Value × Value)} (hx : ev n env x = .map (some g)) (hm : P.underlying T = some (.map kt e)) (hp : RdMap w0 (fun k => ¬ F0 k) g l) :
    Runs P w0 F0 L n env ⟨d, .call ⟨.builtin .len, #[x], #[T]⟩, ty, pos, af, gd⟩ (.int .i64 (l.length : Int)) := fun w hst => by
  obtain ⟨es, clock, hh, hk⟩ := hst.mapOld hp
  have hl : es.size = l.length := by rw [← hk, kvs_length]
  simp [execOp, resolve, invoke, builtin, Builtin.len_, hx, run_underlying hm, MapKept.run_getObj_map hh, goInt, hl]
theorem updL_row {xs tl hd new : List Value} {o : Nat} (hh : hd.length = o) {i : Nat} (h : i + new.length ≤ xs.length) : updL (hd ++ (xs ++ tl)) (o + i) new = hd ++ (updL xs i new ++ tl) := by
  subst hh
  unfold updL
  rw [List.take_append, List.drop_append, List.take_of_length_le (by omega), List.drop_eq_nil_of_le (by omega), List.nil_append, show hd.length + i - hd.length = i by omega, show hd.length + i + new.length - hd.length = i + new.length by omega,
    List.take_append_of_le_length (by omega), List.drop_append_of_le_length h]
  simp
theorem flattenV_set {size : Nat} : ∀ {css : List (List Value)} {i : Nat} {c : List Value}, (∀ c ∈ css, c.length = size) → c.length = size → i < css.length → updL css.flatten (i * size) c = (css.set i c).flatten
  | [], i, c, _, _, h => by simp at h
  | d :: l, 0, c, h, hc, _ => by
    have hd := h d (by simp)
    simp only [Nat.zero_mul, List.flatten_cons, List.set_cons_zero, updL, List.take_zero, List.nil_append, Nat.zero_add]
    rw [hc, ← hd, List.drop_left]
  | d :: l, i + 1, c, h, hc, hi => by
    have hd := h d (by simp)
    have ih := flattenV_set (css := l) (i := i) (c := c) (fun c' hc' => h c' (by simp [hc'])) hc (by simpa using hi)
    have hl := flatten_len (fun c' hc' => h c' (List.mem_cons_of_mem d hc'))
    simp only [List.length_cons] at hi
    have e := updL_row (hd := d) (xs := l.flatten) (tl := []) (new := c) (i := i * size) hd (by rw [hl, hc]; have := Nat.mul_le_mul_right size (show i + 1 ≤ l.length by omega); rw [Nat.add_mul, Nat.one_mul] at this; exact this)
    simp only [List.append_nil] at e
    rw [List.flatten_cons, List.set_cons_succ, List.flatten_cons, ← ih, ← e]
    congr 1
    rw [Nat.add_mul, Nat.one_mul, Nat.add_comm]
/-- An element of a row that is owned is written over. -/
theorem gl_stRow {T : TypeId} {x y : Operand} {g o o2 e size m c i : Nat} {css : List (List Value)} {new : List Value} {L' : List Res} (hw : Wt ops n env ⟨none, .store T x y, ty, pos, af, gd⟩ true)
    (hx : ev n env x = .pointer (some ⟨g, o2, none⟩)) (ho : o2 = o + i * size) (hy : ev n env y = .agg new.toArray) (hs : szT P T = some size) (hn : new.length = size) (h1 : ∀ u ∈ new, u.oneCell' = true) (hc : ∀ c ∈ css, c.length = size) (hi : i < css.length)
    (hp : Pick L (rowR e size (some ⟨g, o, none⟩) m c css.flatten) L') (k : Gl P w0 F0 (rowR e size (some ⟨g, o, none⟩) m c (css.set i new).flatten :: L') ops Q rest n env) : Gl P w0 F0 L ops Q (⟨none, .store T x y, ty, pos, af, gd⟩ :: rest) n env :=
  gl_skip hw (fun w hst => by
    obtain ⟨F, hF, hstp⟩ := hst
    obtain ⟨F1, ⟨hl1, hmc, hcm, hor⟩, _⟩ := stars_pick hp hF
    rcases hor with ⟨h, _⟩ | ⟨g', o', cs, fz, ha, hFg, hg, hz, hcs, hxs⟩
    · cases h
    cases ha
    have hlf := flatten_len hc
    have hcl : css.length * size = m * size := by rw [← hlf]; exact hl1
    have him : (i + 1) * size ≤ m * size := by rw [← hcl]; exact Nat.mul_le_mul_right size hi
    have hms : m * size ≤ c * size := Nat.mul_le_mul_right size hmc
    rw [Nat.add_mul, Nat.one_mul] at him
    have hrun := run_storeCells_blk (P := P) (T := e) (fz := fz) g (o + i * size) new 0 cs.toList w (by simpa using hg) (by simpa using hz) (by simp; omega) h1
    rw [Nat.add_zero] at hrun
    have hsp : cs.toList = cs.toList.take o ++ (css.flatten ++ (cs.toList.drop o).drop (m * size)) := by
      rw [← hxs, List.take_append_drop, List.take_append_drop]
    have hu : updL cs.toList (o + i * size) new = cs.toList.take o ++ ((css.set i new).flatten ++ (cs.toList.drop o).drop (m * size)) := by
      conv => lhs; rw [hsp]
      rw [updL_row (by rw [List.length_take]; simp; omega) (by rw [hlf, hn]; omega), flattenV_set hc hn hi]
    have hfl : (css.set i new).flatten.length = m * size := by
      rw [flatten_len (size := size) (fun c' hc' => by rcases List.mem_or_eq_of_mem_set hc' with h | h; exact hc c' h; (subst h; exact hn)), List.length_set, hcl]
    have hsz : (updL cs.toList (o + i * size) new).length = cs.size := by rw [updL_length (by simp; omega)]; simp
    refine ⟨_, ?_, St.setR (g := g) (o' := .cells (updL cs.toList (o + i * size) new).toArray e fz) (r' := rowR e size (some ⟨g, o, none⟩) m c (css.set i new).flatten) ⟨F, hF, hstp⟩ hp (fun F2 h2 => ?_) (fun w' F2 h2 hg' hk' => ?_)⟩
    · have hv : (Value.agg new.toArray).cells.size = size := by simp [Value.cells, hn]
      subst ho
      simp [execOp, hx, hy, Instr.storeAt, Instr.sureAddr, storeVar, Value.cells, hn, run_sz hs, hrun]
    · obtain ⟨_, _, _, h2⟩ := h2
      rcases h2 with ⟨h, _⟩ | ⟨g', o', _, _, ha, hF2, _⟩
      · cases h
      · cases ha; exact ⟨(hF2 g).2 rfl, (Array.getElem?_eq_some_iff.1 hg).1⟩
    · obtain ⟨_, _, _, h2⟩ := h2
      rcases h2 with ⟨h, _⟩ | ⟨g', o', _, _, ha, hF2, _⟩
      · cases h
      · cases ha
        refine ⟨hfl, hmc, hcm, .inr ⟨g, o, _, fz, rfl, hF2, hg', ?_, ?_, ?_⟩⟩
        · simpa [hsz] using hz
        · simpa [hsz] using hcs
        · simp only []
          rw [hu, List.drop_append, List.drop_eq_nil_of_le (by rw [List.length_take]; omega), List.nil_append, List.length_take, Nat.min_eq_left (by simp; omega), Nat.sub_self, List.drop_zero, List.take_append_of_le_length (by omega), List.take_of_length_le (by omega)]) k
theorem gx_rettcct {fn : Func} {R : Ending → World → Prop} {s t u v : Tmp} {U V : TypeId} {a b : Addr} {x y z1 z2 : Value} (hr : fn.results = #[.tmp s, .cell t U, .cell u V, .tmp v]) (ht : ev n env (.tmp t) = .pointer (some a)) (hu : ev n env (.tmp u) = .pointer (some b)) (hs : ev n env (.tmp s) = z1) (hv : ev n env (.tmp v) = z2)
    (hl : ∀ w, St w0 F0 L w → (loadVar U a).run P w = .ok x w) (hl2 : ∀ w, St w0 F0 L w → (loadVar V b).run P w = .ok y w) (hR : ∀ w, St w0 F0 L w → R (.returned (.tuple #[z1, x, y, z2])) w) (hd : n.ds = [] := by rfl) : Gx w0 F0 L (bodyPost P fn R) .ret n env :=
  gx_end (fun w hw => by simp [results, hr, fr_tmp' ht, fr_tmp' hu, fr_tmp' hs, fr_tmp' hv, asAddr, hl w hw, hl2 w hw]) hR hd
/-- The loop's record ahead of all. -/
theorem gx_lp {l : Nat} {r : Loop} {L' : List Res} {e : Exit} (hp : Pick L (lpR l r) L') (h : Gx w0 F0 (lpR l r :: L') Q e n env) : Gx w0 F0 L Q e n env := fun w hw => h w (hw.pick hp)
end
end Go.Proofs.YtobjojeliibinaaGreatDoor

/- Walks, by program (wg.py) out of a spec. -/
namespace Go.Proofs.YtobjojeliibinaaGreatDoor
open Go
set_option linter.unusedVariables false
set_option linter.unusedSimpArgs false


def vdC (v : Vdr) : List Value := dc v.key ++ [.int .i64 v.power]
theorem vdC_len (v : Vdr) : (vdC v).length = 17 := by simp [vdC, dc_length]
theorem vdC_one (v : Vdr) : ∀ u ∈ vdC v, u.oneCell' = true := all_app' (dc_one _) (all_cons' rfl all_nil')
theorem flat_one {α : Type} {f : α → List Value} (hf : ∀ x, ∀ u ∈ f x, u.oneCell' = true) (l : List α) : ∀ u ∈ (l.map f).flatten, u.oneCell' = true := fun u hu => by
  obtain ⟨c, hc, hu⟩ := List.mem_flatten.1 hu
  obtain ⟨x, _, rfl⟩ := List.mem_map.1 hc
  exact hf x u hu
/-- A list whose elements' cells are known: its row. -/
theorem RdList.row {α : Type} {f : α → List Value} {w : World} {A : Nat → Prop} {size n : Nat} {a : Option Addr} {l : List α} (h : RdList (fun cs x => cs = f x) w A size a n l) : RdRow w A size a n (l.map f).flatten := by
  obtain ⟨css, hr, _, hl, hx⟩ := h
  have : css = l.map f := by
    apply List.ext_getElem?
    intro i
    rw [List.getElem?_map]
    cases hi : css[i]? with
    | none =>
      have := List.getElem?_eq_none_iff.1 hi
      rw [List.getElem?_eq_none (by omega)]; rfl
    | some c =>
      have hlt := (List.getElem?_eq_some_iff.1 hi).1
      have h2 : l[i]? = some (l[i]'(by omega)) := List.getElem?_eq_getElem (by omega)
      rw [h2, hx i c _ hi h2]; rfl
  rw [← this]; exact hr
theorem ls_row {α : Type} {rd : World → (Nat → Prop) → List Value → α → Prop} [RdK rd] {f : α → List Value} {e size n c : Nat} {a : Option Addr} {l : List α} {w : World} {F : Nat → Prop} {L : List Res} (hf : ∀ w F x, rd w F (f x) x) (hs : ∀ x, (f x).length = size)
    (h : stars (rowR e size a n c (l.map f).flatten :: L) w F) : stars (LsR rd size a n l :: L) w F := by
  refine stars_hd (fun F hr => ?_) h
  refine ⟨⟨l.map f, rowR.rd hr, fun c hc => ?_, by simp, fun i c x hc hx => ?_⟩, fun k hk => (rowR e size a n c (l.map f).flatten).ok hr k hk⟩
  · obtain ⟨x, _, rfl⟩ := List.mem_map.1 hc; exact hs x
  · rw [List.getElem?_map, hx] at hc; cases hc; exact hf _ _ _
theorem row_le {e size n c : Nat} {a : Option Addr} {xs : List Value} {w0 w : World} {F0 : Nat → Prop} {L L' : List Res} (hw : St w0 F0 L w) (hp : Pick L (rowR e size a n c xs) L') : n ≤ c := by
  obtain ⟨F, hF, _⟩ := hw
  obtain ⟨F1, h1, _⟩ := stars_pick hp hF
  exact h1.2.1
theorem vl_qcE {q : QC} {e k c : Nat} {a : Option Addr} {css : List (List Value)} {w : World} {F : Nat → Prop} (h4 : ∀ x ∈ css, List.length x = 4) (h : stars [rowR e 4 a k c css.flatten, ElR RdSigned css q.votes] w F) :
    stars [VlR RdQC (.int .i64 q.epoch :: .int .i64 q.round :: (dc q.block ++ [.slice a k c])) q] w F := by
  have hk : k ≤ c := by obtain ⟨_, _, h1, _⟩ := h; exact h1.2.1
  exact vl_qc hk (ls_of h4 h)
theorem takeB_snoc {α : Type} {l : List α} {k : Nat} {x : α} (h : l[k]? = some x) : l.take (k + 1) = l.take k ++ [x] := by simp [List.take_add_one, h]

attribute [local irreducible] Gl Gc Gx Gs Runs Wt

set_option maxHeartbeats 400000 in
theorem cloneD_ok {w : World} {F : Nat → Prop} {n c : Nat} {a : Option Addr} {xs : List Value} (h : stars [] w F) (hx : RdRow w (fun k => ¬ F k) 16 a n xs) (h1 : ∀ u ∈ xs, u.oneCell' = true) (hb : n ≤ 1099511627776) :
    Calls Tryz.prog 76 #[.slice a n c] w (Post w F (fun r : Option Addr × Nat => .slice r.1 n r.2) (fun r => [rowR 23 16 r.1 n r.2 xs])) := by
  refine g_enter (env := [(0, .slice a n c)]) Tryz.func76 rfl h Tryz.ntmps76 rfl rfl ?_
  refine gsr ?_
  refine gp zas ?_
  refine gnt ?_
  refine gc_seq ?_
  refine gsr ?_
  refine gp zmv ?_
  refine gp zen ?_
  refine gnt ?_
  refine gif rfl (fun hc4 => ?_) (fun hc4 => ?_)
  · refine gsr ?_
    refine gp zas ?_
    refine gnt ?_
    refine gc_ret ?_
    refine gx_then_ret ?_
    refine gx_ret1 rfl (by conv => lhs; whnf) ?_
    have ha : a = none := by cases a <;> simp_all
    subst ha
    obtain ⟨rfl, rfl⟩ := hx.none
    exact fun w' hw => ⟨(none, 0), rfl, hw.rowNil.sel (by repeat (first | exact Sel.nil | (apply Sel.cons; · (repeat (first | exact Pick.here | apply Pick.there)))))⟩
  · refine gc_skip ?_
    refine gx_then ?_
    refine gsr ?_
    refine ze0 fun b5 => ?_
    refine gp zmv ?_
    refine gl_append (wt0 rfl) rfl rfl (by repeat (first | exact Pick.here | apply Pick.there)) Ty.el_52 (fun w' hw => hw.rdOld hx) h1 (by simp only [maxLen]; omega) (by omega) ?_
    intro a1 c1
    refine gp zas ?_
    refine gnt ?_
    refine gc_ret ?_
    refine gx_ret1 rfl (by conv => lhs; whnf) ?_
    rw [Nat.zero_add]
    exact fun w' hw => ⟨(a1, c1), rfl, hw.sel (by repeat (first | exact Sel.nil | (apply Sel.cons; · (repeat (first | exact Pick.here | apply Pick.there)))))⟩

set_option maxHeartbeats 400000 in
theorem cloneV_ok {w : World} {F : Nat → Prop} {n c : Nat} {a : Option Addr} {xs : List Value} (h : stars [] w F) (hx : RdRow w (fun k => ¬ F k) 17 a n xs) (h1 : ∀ u ∈ xs, u.oneCell' = true) (hb : n ≤ 1099511627776) :
    Calls Tryz.prog 115 #[.slice a n c] w (Post w F (fun r : Option Addr × Nat => .slice r.1 n r.2) (fun r => [rowR 159 17 r.1 n r.2 xs])) := by
  refine g_enter (env := [(0, .slice a n c)]) Tryz.func115 rfl h Tryz.ntmps115 rfl rfl ?_
  refine gsr ?_
  refine gp zas ?_
  refine gnt ?_
  refine gc_seq ?_
  refine gsr ?_
  refine gp zmv ?_
  refine gp zen ?_
  refine gnt ?_
  refine gif rfl (fun hc4 => ?_) (fun hc4 => ?_)
  · refine gsr ?_
    refine gp zas ?_
    refine gnt ?_
    refine gc_ret ?_
    refine gx_then_ret ?_
    refine gx_ret1 rfl (by conv => lhs; whnf) ?_
    have ha : a = none := by cases a <;> simp_all
    subst ha
    obtain ⟨rfl, rfl⟩ := hx.none
    exact fun w' hw => ⟨(none, 0), rfl, hw.rowNil.sel (by repeat (first | exact Sel.nil | (apply Sel.cons; · (repeat (first | exact Pick.here | apply Pick.there)))))⟩
  · refine gc_skip ?_
    refine gx_then ?_
    refine gsr ?_
    refine ze0 fun b5 => ?_
    refine gp zmv ?_
    refine gl_append (wt0 rfl) rfl rfl (by repeat (first | exact Pick.here | apply Pick.there)) Ty.el_28 (fun w' hw => hw.rdOld hx) h1 (by simp only [maxLen]; omega) (by omega) ?_
    intro a1 c1
    refine gp zas ?_
    refine gnt ?_
    refine gc_ret ?_
    refine gx_ret1 rfl (by conv => lhs; whnf) ?_
    rw [Nat.zero_add]
    exact fun w' hw => ⟨(a1, c1), rfl, hw.sel (by repeat (first | exact Sel.nil | (apply Sel.cons; · (repeat (first | exact Pick.here | apply Pick.there)))))⟩

end Go.Proofs.YtobjojeliibinaaGreatDoor

