/- Part 4. What is proved: see the last part: for every input the law returns true, and the input reads as it did. -/
import Derived.Test.YtheonhgffglegaaGreatDoorCfn3
namespace Go.Proofs.YtheonhgffglegaaGreatDoor
open Go
set_option linter.unusedVariables false
set_option linter.unusedSimpArgs false
set_option linter.unusedSectionVars false
set_option maxHeartbeats 400000
section
def pieceE (g o n : Nat) (i : Nat) (_ : Unit) : Array Value := #[.slice (some ⟨g, o + 64 * i, none⟩) (min 64 (n - 64 * i)) (min 64 (n - 64 * i))]
def pieceG (n : Nat) (i : Nat) (_ : Unit) : List Res := [pureR (64 * i < n)]
def allOr (n : Nat) (y : Bool) : Option Nat := if y = true then some n else none
attribute [local irreducible] Gl Gc Gx Gs Runs Wt
theorem chunk_ok {w : World} {F : Nat → Prop} {a : Option Addr} {n c : Nat} (h : stars [] w F) :
    Calls Tryz.prog 50 #[.slice a n c, .int .i64 64] w (Post w F (fun p : Nat × Nat => .func (.func 81) #[] #[.pointer (some ⟨p.1, 0, none⟩), .pointer (some ⟨p.2, 0, none⟩)]) (fun p => [blk p.1 68 [.slice a n c], blk p.2 3 [.int .i64 64]])) := by
 refine g_enter (env := [(0, .slice a n c), (1, .int .i64 64)]) Tryz.func50 rfl h Tryz.ntmps50 rfl rfl ?_; refine gsr (zb1 fun b2 => ?_); refine zb1 fun b3 => ?_; refine zxa ?_; refine gnt (gc_seq (gsr (gp zl ?_))); refine gp (r_bool (c := false) zlt rfl) ?_; refine gnt (gc_condF rfl rfl ?_); refine gc_skip (gx_then (gsr (gp zmf ?_))); refine zxa ?_; refine gnt (gc_ret (gx_ret1 rfl (by conv => lhs; whnf) ?_)); exact ze (b2, b3)
theorem chunk1_ok {w : World} {F : Nat → Prop} {b1 b2 g o n c lp : Nat} {J : Nat → Res} {Jx : Res} (h : stars [blk b1 68 [.slice (some ⟨g, o, none⟩) n c], blk b2 3 [.int .i64 64], J 0] w F) (hc : n ≤ c) (hn : n ≤ 1099511627776) (hy : RoundsAt Tryz.prog lp (pieceE g o n) (pieceG n) J Jx w F) :
    Calls Tryz.prog 81 #[.func (.yield lp) #[] #[], .pointer (some ⟨b1, 0, none⟩), .pointer (some ⟨b2, 0, none⟩)] w (Post w F (fun _ : Bool => .tuple #[]) (fun y => (match allOr (nsec n) y with | some m => J m | none => Jx) :: [])) := by
 have hns : n ≤ 64 * nsec n ∧ 64 * nsec n < n + 64 := by unfold nsec; omega
 refine g_enter (env := [(0, .func (.yield lp) #[] #[]), (1, .pointer (some ⟨b1, 0, none⟩)), (2, .pointer (some ⟨b2, 0, none⟩))]) Tryz.func81 rfl h Tryz.ntmps81 rfl rfl ?_; refine gsr (zxa ?_); refine gnt (gc_block (gc_loop (α := Nat) (fun k => [pureR (k ≤ nsec n), blk b1 68 [.slice (some ⟨g, o, none⟩) n c], blk b2 3 [.int .i64 64], J k]) (fun k => [(4, .int .i64 ((64 * k : Nat) : Int))]) [5, 6, 7, 8, 9, 10, 11, 12, 13, 14, 15, 16, 17, 18, 19, 20, 21, 22, 23, 24, 25, 26, 27, 28, 29, 30] (fun k => nsec n - k) 0 ?_ ?_ ?_))
 ·refine env_start (by kernel_rfl)
 ·exact zlp (Nat.zero_le _)
 ·intro k u; refine gc_pureR (fun hk => ?_)
  replace hk : k ≤ nsec n := hk
  refine gc_seq (gsr (zxm ?_)); refine gp zl ?_; refine gp zln ?_; refine gp zlt ?_; refine gnt (gif rfl (fun hc9 => ?_) (fun hc9 => ?_))
  ·try simp only at hc9
   have hk' : 64 * k < n := by omega
   have hks : k < nsec n := by omega
   refine gc_skip (gx_then (gc_seq (gc_block (gc_seq (gc_regionS (by kernel_rfl) (by kernel_rfl) ?_))))); refine sp zl ?_; refine sp zl ?_; refine sp zmv ?_; refine sp (r_slice_slice (a := some ⟨g, o, none⟩) (m := n) (c := c) (l := 64 * k) (h := n) rfl Ty.sl_68 Ty.sz_5 ⟨_, rfl⟩ rfl (by omega) (by omega)) ?_; refine sp zln ?_; refine sp (r_int (j := ((min 64 (n - 64 * k) : Nat) : Int)) r_min (by split <;> omega)) ?_; refine sp zas ?_; refine gs_nil ?_; refine gx_then (gsr (zxm ?_)); refine gp zl ?_; refine zxm ?_; refine zxm ?_; refine zxm ?_; refine gp (r_int (j := ((64 * k + min 64 (n - 64 * k) : Nat) : Int)) zad (by omega)) ?_; refine zxm ?_; refine zxm ?_; refine gp (r_int (j := ((64 * k + min 64 (n - 64 * k) : Nat) : Int)) zad (by omega)) ?_; refine gp (r_val (v' := .slice (some ⟨g, o + 64 * k, none⟩) (min 64 (n - 64 * k)) (min 64 (n - 64 * k))) (r_slice3 (a := some ⟨g, o, none⟩) (m := n) (c := c) (l := 64 * k) (h := 64 * k + min 64 (n - 64 * k)) (u := 64 * k + min 64 (n - 64 * k)) rfl Ty.sl_68 Ty.sz_5 rfl rfl rfl (by omega) (Nat.le_refl _) (by omega)) (by rw [if_neg (by omega), add_at, Nat.mul_one, Nat.add_sub_cancel_left])) ?_; refine gl_pI (p := 64 * k < n) hk' ?_; refine gyd hy k () rfl (by repeat (first | exact Sel.nil | (apply Sel.cons; · (repeat (first | exact Pick.here | apply Pick.there))))) (fun x29 => ?_)
   rcases x29 with _ | _
   ·refine gp znt ?_; refine gnt (gc_condT rfl rfl ?_); refine gc_ret (gx_block_ret ?_); refine gx_then_ret (gx_round_ret ?_); refine gx_block_ret ?_; refine gx_ret0 rfl ?_; exact ze false
   ·refine gp znt ?_; refine gnt (gc_condF rfl rfl ?_); refine gc_skip (gx_block_normal (gx_then (gc_region (zxm ?_)))); refine gp zl ?_; refine gp (r_int (j := ((64 * (k + 1) : Nat) : Int)) zad (by omega)) ?_; refine zxa ?_; refine gl_nil (zrd (k + 1) ?_ ?_)
    ·show nsec n - (k + 1) < nsec n - k
     omega
    ·exact zlp (show k + 1 ≤ nsec n by omega)
  ·try simp only at hc9
   have hk' : k = nsec n := by omega
   subst hk'; refine gc_exit ?_; refine gx_then_exit ?_; refine gx_round_exit ?_; refine gx_block_hit ?_; refine gx_ret0' rfl ?_; exact ze true
theorem chunk1_it {w : World} {F : Nat → Prop} {b1 b2 g o n c lp : Nat} {J : Nat → Res} {Jx : Res} (h : stars [blk b1 68 [.slice (some ⟨g, o, none⟩) n c], blk b2 3 [.int .i64 64], J 0] w F) (hc : n ≤ c) (hn : n ≤ 1099511627776) :
    IterAt Tryz.prog 81 #[.pointer (some ⟨b1, 0, none⟩), .pointer (some ⟨b2, 0, none⟩)] (pieceE g o n) (pieceG n) (allOr (nsec n)) (fun _ => []) (fun _ : Bool => .tuple #[]) lp J Jx w F := fun hy => by
  have h2 := chunk1_ok h hc hn hy
  exact h2
end
section
def wseq (d : DS) : List (Int × Sec) → Nat × DS
  | [] => (0, d)
  | p :: l => if (d.wr p.1 p.2).1 = 0 then wseq (d.wr p.1 p.2).2 l else d.wr p.1 p.2
theorem wseq_snoc (p : Int × Sec) : ∀ (l : List (Int × Sec)) (d : DS), wseq d (l ++ [p]) = if (wseq d l).1 = 0 then (wseq d l).2.wr p.1 p.2 else wseq d l
  | [], d => by
    simp only [List.nil_append, wseq, if_true]
    split
    · rename_i h; exact Prod.ext h.symm rfl
    · rfl
  | q :: l, d => by
    rw [List.cons_append]
    by_cases h : (d.wr q.1 q.2).1 = 0
    · have e1 : ∀ m, wseq d (q :: m) = wseq (d.wr q.1 q.2).2 m := fun m => by rw [wseq, if_pos h]
      rw [e1, e1, wseq_snoc p l]
    · have e1 : ∀ m, wseq d (q :: m) = d.wr q.1 q.2 := fun m => by rw [wseq, if_neg h]
      rw [e1, e1, if_neg h]
theorem wseq_ok : ∀ (l : List (Int × Sec)) {d : DS}, DOk d → DOk (wseq d l).2
  | [], d, h => h
  | q :: l, d, h => by
    simp only [wseq]; split
    · exact wseq_ok l (wr_ok h)
    · exact wr_ok h
def dataW (e : Nat) (x : List UInt8) (i : Nat) : List (Int × Sec) := (List.range i).map fun j => (((e + 1 + j : Nat) : Int), secData x j)
theorem dataW_succ (e : Nat) (x : List UInt8) (i : Nat) : dataW e x (i + 1) = dataW e x i ++ [(((e + 1 + i : Nat) : Int), secData x i)] := by simp [dataW, List.range_succ]
def wdat (d : DS) (e : Nat) (x : List UInt8) (i : Nat) : Nat × DS := wseq d (dataW e x i)
theorem wdat_zero (d : DS) (e : Nat) (x : List UInt8) : wdat d e x 0 = (0, d) := rfl
theorem wdat_step {d : DS} {e i : Nat} {x : List UInt8} (h : (wdat d e x i).1 = 0) : wdat d e x (i + 1) = (wdat d e x i).2.wr ((e + 1 + i : Nat) : Int) (secData x i) := by
  unfold wdat at *; rw [dataW_succ, wseq_snoc, if_pos h]
theorem wdat_ok {d : DS} {e i : Nat} {x : List UInt8} (h : DOk d) : DOk (wdat d e x i).2 := wseq_ok _ h
theorem wdat_stop {d : DS} {e i : Nat} {x : List UInt8} (h : (wdat d e x i).1 ≠ 0) : ∀ m, wdat d e x (i + m) = wdat d e x i
  | 0 => rfl
  | m + 1 => by
    have ih := wdat_stop h m
    rw [show i + (m + 1) = (i + m) + 1 by omega]
    unfold wdat at *
    rw [dataW_succ, wseq_snoc, if_neg (by rw [ih]; exact h), ih]
def appS (d : DS) (l : LS) (r : LRec) : Nat × DS × LS := if (oper d).off = true then (6, d.syncd, l) else (0, d.syncd, ⟨l.base, l.rs ++ [r], l.e + lenR r⟩)
def appH (d : DS) (l : LS) (r : LRec) : Nat × DS × LS := if (d.wr l.e (headL l.rs.length r.data)).1 = 0 then appS (d.wr l.e (headL l.rs.length r.data)).2 l r else ((d.wr l.e (headL l.rs.length r.data)).1, (d.wr l.e (headL l.rs.length r.data)).2, l)
def appM (d : DS) (l : LS) (r : LRec) : Nat × DS × LS := if (oper d).off = true then (6, d.syncd, l) else appH d.syncd l r
def appE (d : DS) (l : LS) (r : LRec) : Nat × DS × LS := if (d.wr ((l.e + lenR r : Nat) : Int) sec0).1 = 0 then appM (d.wr ((l.e + lenR r : Nat) : Int) sec0).2 l r else ((d.wr ((l.e + lenR r : Nat) : Int) sec0).1, (d.wr ((l.e + lenR r : Nat) : Int) sec0).2, l)
def appD (d : DS) (l : LS) (r : LRec) : Nat × DS × LS := if (wdat d l.e r.data (nsec r.data.length)).1 = 0 then appE (wdat d l.e r.data (nsec r.data.length)).2 l r else ((wdat d l.e r.data (nsec r.data.length)).1, (wdat d l.e r.data (nsec r.data.length)).2, l)
def appL (d : DS) (l : LS) (b : Block) (c : QC) : Nat × DS × LS := if madeE b c = 0 then (if 200 ≤ l.rs.length ∨ ¬ nsec (⟨b, c⟩ : LRec).data.length + 2 ≤ d.n - l.e then (8, d, l) else appD d l ⟨b, c⟩) else (madeE b c, d, l)
theorem sec_cells (x : List UInt8) (i : Nat) : updL ((List.replicate 64 (0 : UInt8)).map B8) 0 (((x.drop (64 * i)).take (min 64 (x.length - 64 * i))).map B8) = sc (secData x i) := by
  have e : (x.drop (64 * i)).take (min 64 (x.length - 64 * i)) = (x.drop (64 * i)).take 64 := by
    by_cases h : 64 ≤ x.length - 64 * i
    · rw [Nat.min_eq_left h]
    · rw [List.take_of_length_le (by simp; omega), List.take_of_length_le (by simp; omega)]
  have hl : ((x.drop (64 * i)).take 64).length ≤ 64 := by simp; omega
  rw [e, updL_updY]
  simp only [updY, sc, secData, List.take_zero, List.nil_append, Nat.zero_add, List.drop_replicate]
theorem vl_mrec {b : Block} {c : QC} {cs : List Value} {w : World} {F : Nat → Prop} (h0 : madeE b c = 0) (h : stars [VlR RdMade cs (b, c)] w F) : stars [VlR RdRec cs ⟨b, c⟩] w F := rdR_mk (show RdRec w F cs ⟨b, c⟩ from RdMade.rec h0 (stars_one' h).1) h
theorem lenR_eq (r : LRec) : lenR r = 1 + nsec r.data.length := rfl
attribute [local irreducible] Gl Gc Gx Gs Runs Wt
attribute [local irreducible] dc RdMade RdOpt RdRec RdBlock RdQC madeE blkC lstep headL wdat secData appL nsec
theorem append_ok {w : World} {F : Nat → Prop} {q g : Nat} {l : LS} {d : DS} (h : stars [LedR q g l, DiskR g d] w F) {cs qs : List Value} {b : Block} {c : QC} (hk : DOk d) {ea : Nat → Addr} {es : List Nat} [Has es 1] [Has es 4] [Has es 6] [Has es 8] [Has es 12] (hE : GErr es w (fun k => ¬ F k) 251 ea) (hK : KR w (fun k => ¬ F k)) (hx : RdBlock w (fun k => ¬ F k) cs b) (hq : RdQC w (fun k => ¬ F k) qs c) (he : l.e < d.n) (hln : l.rs.length < 4294967296) :
    Calls Tryz.prog 26 #[.pointer (some ⟨q, 0, none⟩), .agg cs.toArray, .agg qs.toArray] w (Post w F (fun _ : Unit => eV 251 ea (appL d l b c).1) (fun _ => [LedR q g (appL d l b c).2.2, DiskR g (appL d l b c).2.1])) := by
 have hl := hx.len
 have il := Len.of hl
 have jl := One.of hx.one
 have hl2 := hq.len
 have il2 := Len.of hl2
 have jl2 := One.of hq.one
 have hn4 := hk.n
 have hdl := data_len (⟨b, c⟩ : LRec)
 refine g_enterM (env := [(0, .pointer (some ⟨q, 0, none⟩)), (1, .agg cs.toArray), (2, .agg qs.toArray)]) Tryz.func26 rfl h Tryz.ntmps26 rfl rfl ?_; refine gsr (zb1 fun b3 => ?_); refine zbN fun b4 => ?_; refine zbN fun b5 => ?_; refine zal fun b6 => ?_; refine zxs ?_; refine gp (zLa (cs := cs)) ?_; refine gp (zLa (cs := qs)) ?_; refine zc (fun q22 => ?_) (c := fun w1 F1 F2 h1 h2 hd hst => made_ok' h1 (hE.mv hst.still) (hK.mv hst.still) (hx.mv hst.still) (hq.mv hst.still))
 refine gl_pureR (fun hq22 => ?_)
 obtain ⟨hl22, ho22⟩ := hq22; replace hl22 : q22.length = 18 := hl22
 have i22 := Len.of hl22
 have j22 := One.of (show ∀ v ∈ q22, v.oneCell' = true from ho22)
 refine gl_led (by repeat (first | exact Pick.here | apply Pick.there)) (fun a0 m0 css h18 => ?_)
 refine zxm ?_; refine gp zex ?_; refine gp zex ?_; refine zal fun b7 => ?_; refine zsN ?_; refine zxa ?_; refine gnt (gc_seq (gsr (zxm ?_))); refine gp (r_bool (c := decide (¬ madeE b c = 0)) (r_nenil rfl (by kernel_rfl)) (by simp)) ?_; refine gnt (gif rfl (fun hc26 => ?_) (fun hc26 => ?_))
 ·refine gsr (zxm ?_); refine zs1 ?_; refine gnt (gc_ret (gx_then_ret (gx_mark0 ?_))); refine gx_retc rfl rfl (ldO Ty.row_53) ?_
  have e : appL d l b c = (madeE b c, d, l) := by unfold appL; rw [if_neg hc26]
  exact fun w' hw => ⟨(), by rw [e], by rw [e]; exact St.led (hw.z) h18 rfl rfl rfl rfl⟩
 ·try simp only at hc26
  have hm : madeE b c = 0 := by simpa using hc26
  refine gc_cz (M := [VlR RdMade q22 (b, c)]) (N := [VlR RdRec q22 ⟨b, c⟩]) (fun _ _ h => vl_mrec hm h) ?_; refine gc_skip (gx_then (gsr (gp (zLa (cs := q22)) ?_))); refine zc ?_ (c := fun w1 F1 F2 h1 h2 hd hst => data_ok (r := ⟨b, c⟩) h1 (hE.mv hst.still) (vl_rd h2 hd (by repeat (first | exact Pick.here | apply Pick.there))))
  rintro ⟨a30, c30⟩
  refine zxm ?_; refine gp zex ?_; refine gp zex ?_; refine zxa ?_; refine zxa ?_; refine gnt (gc_seq (gsr (zxm ?_))); refine gp (r_bool (c := false) (r_nenil rfl (by kernel_rfl)) rfl) ?_; refine gnt (gc_condF rfl rfl ?_); refine gc_skip (gx_then (gc_seq (gc_seq ?_))); by_cases hfl : 200 ≤ l.rs.length
  ·refine gc_region (gp zl ?_); refine gp znc ?_; refine gp zfa ?_; refine gp zl ?_; refine gp zln ?_; refine gp (r_bool (c := true) zge (decide_eq_true (by omega))) ?_; refine zxm ?_; refine gn ?_; refine gn ?_; refine gn ?_; refine gn ?_; refine gn ?_; refine gp zpk ?_; refine gnt (gc_condT rfl rfl ?_); refine gsr (gp (r_ld1o rfl Ty.row_53 (hE.c 8 Has.h) (hE.n 8 Has.h)) ?_); refine zs1 ?_; refine gnt (gc_ret (gx_then_ret (gx_mark0 ?_))); refine gx_retc rfl rfl (ldO Ty.row_53) ?_
   have e : appL d l b c = (8, d, l) := by unfold appL; rw [if_pos hm, if_pos (.inl hfl)]
   exact fun w' hw => ⟨(), by rw [e], by rw [e]; exact St.led (hw.z) h18 rfl rfl rfl rfl⟩
  ·refine gc_region (gp zl ?_); refine gp znc ?_; refine gp zfa ?_; refine gp zl ?_; refine gp zln ?_; refine gp (r_bool (c := false) zge (decide_eq_false (by omega))) ?_; refine zxm ?_; refine gq zl ?_; refine gq zmv ?_; refine gq zln ?_; refine gl_cz (M := [blk q 125 [.pointer (some ⟨g, 0, none⟩), .int .i64 l.base, .int .i64 l.e, .slice a0 l.rs.length m0], rowR 119 18 a0 l.rs.length m0 css.flatten, ElR RdRec css l.rs]) (N := [LedR q g l]) (fun w' F' hh => ?_) ?_
   ·exact stars_ex_mk ((a0, m0), css) (stars_all_mk (stars_pure_mk h18 hh))
   refine zc (fun _ => ?_) (c := fun w1 F1 F2 h1 h2 hd hst => room_ok (n := (⟨b, c⟩ : LRec).data.length) h1 hk (by omega) (by omega))
   refine gl_led (by repeat (first | exact Pick.here | apply Pick.there)) (fun a0 m0 css h18 => ?_)
   refine gq znt ?_; refine gp zpk ?_; refine gnt (gif rfl (fun hc48 => ?_) (fun hc48 => ?_))
   ·try simp only at hc48
    have hrm : ¬ nsec (⟨b, c⟩ : LRec).data.length + 2 ≤ d.n - l.e := by simpa using hc48
    refine gsr (gp (r_ld1o rfl Ty.row_53 (hE.c 8 Has.h) (hE.n 8 Has.h)) ?_); refine zs1 ?_; refine gnt (gc_ret (gx_then_ret (gx_mark0 ?_))); refine gx_retc rfl rfl (ldO Ty.row_53) ?_
    have e : appL d l b c = (8, d, l) := by unfold appL; rw [if_pos hm, if_pos (.inr hrm)]
    exact fun w' hw => ⟨(), by rw [e], by rw [e]; exact St.led (hw.z) h18 rfl rfl rfl rfl⟩
   ·try simp only at hc48
    have hrm : nsec (⟨b, c⟩ : LRec).data.length + 2 ≤ d.n - l.e := by simpa using hc48
    have hfit : ¬ (200 ≤ l.rs.length ∨ ¬ nsec (⟨b, c⟩ : LRec).data.length + 2 ≤ d.n - l.e) := fun hh => hh.elim hfl (fun h' => h' hrm)
    refine gc_fact (fun w' hw => St.rowAt (hw.sel (M := [rowR 5 1 a30 (⟨b, c⟩ : LRec).data.length c30 ((⟨b, c⟩ : LRec).data.map B8)]) (by repeat (first | exact Sel.nil | (apply Sel.cons; · (repeat (first | exact Pick.here | apply Pick.there)))))) .here (by omega)) (fun hra => ?_)
    obtain ⟨hnc, ga, oa, ha⟩ := hra; subst ha; refine gc_skip (gx_then (gsr (gp zl ?_))); refine gp znc ?_; refine gp zfa ?_; refine gp zl ?_; refine gp zln ?_; refine zxm ?_; refine zc (fun _ => ?_) (c := fun w1 F1 F2 h1 h2 hd hst => head_ok (k := l.rs.length) (d := (⟨b, c⟩ : LRec).data) h1 (hE.mv hst.still) (hK.mv hst.still) (rd_row (xs := (⟨b, c⟩ : LRec).data.map B8) h2 hd (by repeat (first | exact Pick.here | apply Pick.there))) (rd_le (xs := (⟨b, c⟩ : LRec).data.map B8) h2 (by repeat (first | exact Pick.here | apply Pick.there))) hln (by omega))
    refine zxm ?_; refine gp zex ?_; refine gp zex ?_; refine zal fun b10 => ?_; refine zsA (new := sc (headL l.rs.length (⟨b, c⟩ : LRec).data)) (sc_length _) (sc_one _) ?_; refine zxa ?_; refine gnt (gc_seq (gsr (zxm ?_))); refine gp (r_bool (c := false) (r_nenil rfl (by kernel_rfl)) rfl) ?_; refine gnt (gc_condF rfl rfl ?_); refine gc_skip (gx_then (gsr (gp zl ?_))); refine gp znc ?_; refine gp zfa ?_; refine gp zl ?_; refine gp (r_int (j := ((l.e + 1 + 0 : Nat) : Int)) zad (by omega)) ?_; refine zal fun b11 => ?_; refine zs1 ?_; refine gnt (gc_seq (gsr (zxm ?_))); refine zc ?_ (c := fun w1 F1 F2 h1 h2 hd hst => chunk_ok h1)
    rintro ⟨b69, c69⟩
    refine gnt (gc_block (gc_cz (M := [DiskR g d]) (N := [DiskR g (wdat d l.e (⟨b, c⟩ : LRec).data 0).2]) (fun _ _ h => by rw [wdat_zero]; exact h) ?_)); refine gc_pI (p := 0 ≤ (nsec (⟨b, c⟩ : LRec).data.length) ∧ (wdat d l.e (⟨b, c⟩ : LRec).data 0).1 = 0) ⟨Nat.zero_le _, by rw [wdat_zero]⟩ ?_; refine gc_range (own := [blk b69 68 [.slice (some ⟨ga, oa, none⟩) (⟨b, c⟩ : LRec).data.length c30], blk c69 3 [.int .i64 64]]) (fun i => [pureR (i ≤ (nsec (⟨b, c⟩ : LRec).data.length) ∧ (wdat d l.e (⟨b, c⟩ : LRec).data i).1 = 0), blk b3 29 [.pointer (some ⟨q, 0, none⟩)], blk b11 3 [.int .i64 ((l.e + 1 + i : Nat) : Int)], blk b6 53 [.nilIface], blk q 125 [.pointer (some ⟨g, 0, none⟩), .int .i64 l.base, .int .i64 l.e, .slice a0 l.rs.length m0], DiskR g (wdat d l.e (⟨b, c⟩ : LRec).data i).2]) (fun i cd => [pureR (cd = Code.ret ∧ i < (nsec (⟨b, c⟩ : LRec).data.length) ∧ (wdat d l.e (⟨b, c⟩ : LRec).data (i + 1)).1 ≠ 0), blk b6 53 [eV 251 ea (wdat d l.e (⟨b, c⟩ : LRec).data (i + 1)).1], blk q 125 [.pointer (some ⟨g, 0, none⟩), .int .i64 l.base, .int .i64 l.e, .slice a0 l.rs.length m0], DiskR g (wdat d l.e (⟨b, c⟩ : LRec).data (i + 1)).2]) (by exact rfl) Ty.call_81 (by repeat (first | exact Sel.nil | (apply Sel.cons; · (repeat (first | exact Pick.here | apply Pick.there))))) (by intros; rfl) (fun lp J Jx w1 F1 F2 h1 h2 hd hst => chunk1_it h1 (by omega) (by omega)) ?_ ?_ ?_
    ·intro lp rc rc' i _ w1 F1 F2 h1 h2 hd hst; try dsimp only [List.cons_append, List.nil_append, zipE]
     have hdat := rd_row (xs := (⟨b, c⟩ : LRec).data.map B8) h2 hd (by repeat (first | exact Pick.here | apply Pick.there))
     have hE := hE.mv hst.still
     refine gc_pure1 (p := 64 * i < (⟨b, c⟩ : LRec).data.length) (by repeat (first | exact Pick.here | apply Pick.there)) (fun hi64 => ?_)
     refine gc_pure1 (p := i ≤ (nsec (⟨b, c⟩ : LRec).data.length) ∧ (wdat d l.e (⟨b, c⟩ : LRec).data i).1 = 0) (by repeat (first | exact Pick.here | apply Pick.there)) (fun hi => ?_)
     have hin : i < (nsec (⟨b, c⟩ : LRec).data.length) := by unfold nsec; omega
     have hkk : DOk (wdat d l.e (⟨b, c⟩ : LRec).data i).2 := wdat_ok hk
     have hws := wdat_step hi.2
     refine gc_region (zxa ?_); refine gl_nil (gx_begin ?_); refine gc_block (gsr (zal fun b13 => ?_)); refine gl_eqc (cs' := (List.replicate 64 (0 : UInt8)).map B8) (by repeat (first | exact Pick.here | apply Pick.there)) (by simp [B8]) ?_; refine zxs ?_; refine gp (r_slice_arr (l := 0) (h := 64) rfl Ty.arr_116 Ty.sz_5 rfl rfl (by omega) (by omega) (by omega)) ?_; refine zxm ?_; have hcut := hdat.cut8 (l := 64 * i) (h := 64 * i + min 64 ((⟨b, c⟩ : LRec).data.length - 64 * i)) (by omega) (by omega) hnc
     rw [if_neg (by omega), add_at, Nat.mul_one, Nat.add_sub_cancel_left] at hcut; refine gl_copy (news := (((⟨b, c⟩ : LRec).data.drop (64 * i)).take (min 64 ((⟨b, c⟩ : LRec).data.length - 64 * i))).map B8) (hr := fun w' hw => hw.rdOld hcut) (hj := by omega) (h1 := one_B8 _) (hl := by simp; omega) (k := ?_)
     refine gl_eqc (cs' := sc (secData (⟨b, c⟩ : LRec).data i)) (by repeat (first | exact Pick.here | apply Pick.there)) (sec_cells _ i) ?_; refine gnt (gc_seq (gc_seq (gc_regionT 6 (by kernel_rfl) (by kernel_rfl) ?_))); refine sp zl ?_; refine sp znc ?_; refine sp zfa ?_; refine sp zl ?_; refine sp zl ?_; refine sp (zL (sg := sc (secData (⟨b, c⟩ : LRec).data i))) ?_; refine gs_nil ?_; refine zc (fun _ => ?_) (c := fun w1 F1 F2 h1 h2 hd hst => write_ok' (i := ((l.e + 1 + i : Nat) : Int)) (v := secData (⟨b, c⟩ : LRec).data i) h1 hkk (hE.mv hst.still))
     rw [← hws]; refine zxa ?_; refine zxs ?_; refine zxm ?_; refine gp (r_bool (c := decide (¬ (wdat d l.e (⟨b, c⟩ : LRec).data (i + 1)).1 = 0)) (r_nenil rfl (by kernel_rfl)) (by simp)) ?_; refine gnt (gif rfl (fun hc82 => ?_) (fun hc82 => ?_))
     ·try simp only at hc82
      rw [hws] at hc82; refine gsr (zxm ?_); refine zs1 ?_; refine gnt (gc_ret (gx_then_ret (gx_block_ret ?_))); refine gx_rdr ?_; exact fun w' hw => (St.pureI (p := Code.ret = Code.ret ∧ i < (nsec (⟨b, c⟩ : LRec).data.length) ∧ (wdat d l.e (⟨b, c⟩ : LRec).data (i + 1)).1 ≠ 0) ⟨rfl, hin, by rw [hws]; exact hc82⟩ (hw.sel (M := [lpR lp rc', blk b6 53 [eV 251 ea (wdat d l.e (⟨b, c⟩ : LRec).data (i + 1)).1], blk q 125 [.pointer (some ⟨g, 0, none⟩), .int .i64 l.base, .int .i64 l.e, .slice a0 l.rs.length m0], DiskR g (wdat d l.e (⟨b, c⟩ : LRec).data (i + 1)).2]) (by rw [hws]; exact by repeat (first | exact Sel.nil | (apply Sel.cons; · (repeat (first | exact Pick.here | apply Pick.there))))))).z
     ·try simp only at hc82
      have hw0 : (wdat d l.e (⟨b, c⟩ : LRec).data (i + 1)).1 = 0 := by simpa using hc82
      rw [hws] at hw0; refine gc_skip (gx_then (gc_region (gp zl ?_))); refine gp (r_int (j := ((l.e + 1 + (i + 1) : Nat) : Int)) zad (by omega)) ?_; refine zs1 ?_; refine gl_nil (gx_block_normal (gx_rdn ?_)); exact fun w' hw => (St.pureI (p := i + 1 ≤ (nsec (⟨b, c⟩ : LRec).data.length) ∧ (wdat d l.e (⟨b, c⟩ : LRec).data (i + 1)).1 = 0) ⟨by omega, by rw [hws]; exact hw0⟩ (hw.sel (M := [lpR lp rc', blk b3 29 [.pointer (some ⟨q, 0, none⟩)], blk b11 3 [.int .i64 ((l.e + 1 + (i + 1) : Nat) : Int)], blk b6 53 [.nilIface], blk q 125 [.pointer (some ⟨g, 0, none⟩), .int .i64 l.base, .int .i64 l.e, .slice a0 l.rs.length m0], DiskR g (wdat d l.e (⟨b, c⟩ : LRec).data (i + 1)).2]) (by rw [hws]; exact by repeat (first | exact Sel.nil | (apply Sel.cons; · (repeat (first | exact Pick.here | apply Pick.there))))))).z
    ·intro bU14 y m hy; try dsimp only [List.cons_append, List.nil_append]
     obtain rfl : m = (nsec (⟨b, c⟩ : LRec).data.length) := by cases y <;> simp_all [allOr]
     refine gx_pure1 (p := (nsec (⟨b, c⟩ : LRec).data.length) ≤ (nsec (⟨b, c⟩ : LRec).data.length) ∧ (wdat d l.e (⟨b, c⟩ : LRec).data (nsec (⟨b, c⟩ : LRec).data.length)).1 = 0) (by repeat (first | exact Pick.here | apply Pick.there)) (fun hI => ?_)
     have hk1 : DOk (wdat d l.e (⟨b, c⟩ : LRec).data (nsec (⟨b, c⟩ : LRec).data.length)).2 := wdat_ok hk
     obtain ⟨d1, hd1⟩ : ∃ d1, d1 = (wdat d l.e (⟨b, c⟩ : LRec).data (nsec (⟨b, c⟩ : LRec).data.length)).2 := ⟨_, rfl⟩; rw [← hd1] at hk1 ⊢; have e1 : appL d l b c = appE d1 l (⟨b, c⟩ : LRec) := by unfold appL; rw [if_pos hm, if_neg hfit]; unfold appD; rw [if_pos hI.2, hd1]
     refine gx_block_normal (gx_thenM ?_); refine gc_seq (gc_seq (gc_regionT 6 (by kernel_rfl) (by kernel_rfl) ?_)); refine sp zl ?_; refine sp znc ?_; refine sp zfa ?_; refine sp zl ?_; refine sp zl ?_; refine sp (zba (cs := sc sec0) (by exact rfl)) ?_; refine gs_nil ?_; refine zc (fun _ => ?_) (c := fun w1 F1 F2 h1 h2 hd hst => write_ok' (i := ((l.e + 1 + (nsec (⟨b, c⟩ : LRec).data.length) : Nat) : Int)) (v := sec0) h1 hk1 (hE.mv hst.still))
     obtain ⟨x2, hx2⟩ : ∃ x2, x2 = d1.wr ((l.e + 1 + (nsec (⟨b, c⟩ : LRec).data.length) : Nat) : Int) sec0 := ⟨_, rfl⟩; rw [← hx2]; have hk2 : DOk x2.2 := by rw [hx2]; exact wr_ok hk1
     have hll : l.e + 1 + (nsec (⟨b, c⟩ : LRec).data.length) = l.e + lenR (⟨b, c⟩ : LRec) := by rw [lenR_eq]; omega
     refine zxa ?_; refine zxs ?_; refine zxm ?_; refine gp (r_bool (c := decide (¬ x2.1 = 0)) (r_nenil rfl (by kernel_rfl)) (by simp)) ?_; refine gnt (gif rfl (fun hc94 => ?_) (fun hc94 => ?_))
     ·try simp only at hc94
      have e : appL d l b c = (x2.1, x2.2, l) := by rw [e1]; unfold appE; rw [← hll, ← hx2, if_neg hc94]
      refine gsr (zxm ?_); refine zs1 ?_; refine gnt (gc_ret (gx_then_ret (gx_mark (by repeat (first | exact Pick.here | apply Pick.there)) ?_))); refine gx_mark0 ?_; refine gx_retc rfl rfl (ldO Ty.row_53) ?_
      exact fun w' hw => ⟨(), by rw [e], by rw [e]; exact St.led (hw.z) h18 rfl rfl rfl rfl⟩
     ·try simp only at hc94
      have h20 : x2.1 = 0 := by simpa using hc94
      have e2 : appL d l b c = appM x2.2 l (⟨b, c⟩ : LRec) := by rw [e1]; unfold appE; rw [← hll, ← hx2, if_pos h20]
      refine gc_skip (gx_then (gc_seq (gsr (gp zl ?_)))); refine gp znc ?_; refine gp zfa ?_; refine gp zl ?_; refine zc (fun _ => ?_) (c := fun w1 F1 F2 h1 h2 hd hst => sync_ok' h1 hk2 (hE.mv hst.still))
      refine zxa ?_; refine zxs ?_; refine zxm ?_; refine gp (r_bool (c := (oper x2.2).off) (r_nenil rfl (by kernel_rfl)) (by cases (oper x2.2).off <;> rfl)) ?_; refine gnt (gif rfl (fun hc102 => ?_) (fun hc102 => ?_))
      ·try simp only at hc102
       have e : appL d l b c = (6, x2.2.syncd, l) := by rw [e2]; unfold appM; rw [if_pos hc102]
       refine gsr (zxm ?_); refine zs1 ?_; refine gnt (gc_ret (gx_then_ret (gx_mark (by repeat (first | exact Pick.here | apply Pick.there)) ?_))); refine gx_mark0 ?_; refine gx_retc rfl rfl (ldO Ty.row_53) ?_
       exact fun w' hw => ⟨(), by rw [e]; simp [hc102], by rw [e]; exact St.led (hw.z) h18 rfl rfl rfl rfl⟩
      ·try simp only at hc102
       have e3 : appL d l b c = appH x2.2.syncd l (⟨b, c⟩ : LRec) := by rw [e2]; unfold appM; rw [if_neg (by rw [hc102]; decide)]
       have hk3 : DOk x2.2.syncd := syncd_ok hk2
       obtain ⟨d3, hd3⟩ : ∃ d3, d3 = x2.2.syncd := ⟨_, rfl⟩; rw [← hd3] at hk3 e3 ⊢; refine gc_skip (gx_then (gc_seq (gc_seq (gc_regionT 9 (by kernel_rfl) (by kernel_rfl) ?_)))); refine sp zl ?_; refine sp znc ?_; refine sp zfa ?_; refine sp zl ?_; refine sp zl ?_; refine sp znc ?_; refine sp zfa ?_; refine sp zl ?_; refine sp (zL (sg := sc (headL l.rs.length (⟨b, c⟩ : LRec).data))) ?_; refine gs_nil ?_; refine zc (fun _ => ?_) (c := fun w1 F1 F2 h1 h2 hd hst => write_ok' (i := (l.e : Int)) (v := headL l.rs.length (⟨b, c⟩ : LRec).data) h1 hk3 (hE.mv hst.still))
       obtain ⟨x4, hx4⟩ : ∃ x4, x4 = d3.wr (l.e : Int) (headL l.rs.length (⟨b, c⟩ : LRec).data) := ⟨_, rfl⟩; rw [← hx4]; have hk4 : DOk x4.2 := by rw [hx4]; exact wr_ok hk3
       refine zxa ?_; refine zxs ?_; refine zxm ?_; refine gp (r_bool (c := decide (¬ x4.1 = 0)) (r_nenil rfl (by kernel_rfl)) (by simp)) ?_; refine gnt (gif rfl (fun hc115 => ?_) (fun hc115 => ?_))
       ·try simp only at hc115
        have e : appL d l b c = (x4.1, x4.2, l) := by rw [e3]; unfold appH; rw [← hx4, if_neg hc115]
        refine gsr (zxm ?_); refine zs1 ?_; refine gnt (gc_ret (gx_then_ret (gx_mark (by repeat (first | exact Pick.here | apply Pick.there)) ?_))); refine gx_mark0 ?_; refine gx_retc rfl rfl (ldO Ty.row_53) ?_
        exact fun w' hw => ⟨(), by rw [e], by rw [e]; exact St.led (hw.z) h18 rfl rfl rfl rfl⟩
       ·try simp only at hc115
        have h40 : x4.1 = 0 := by simpa using hc115
        have e4 : appL d l b c = appS x4.2 l (⟨b, c⟩ : LRec) := by rw [e3]; unfold appH; rw [← hx4, if_pos h40]
        refine gc_skip (gx_then (gc_seq (gsr (gp zl ?_)))); refine gp znc ?_; refine gp zfa ?_; refine gp zl ?_; refine zc (fun _ => ?_) (c := fun w1 F1 F2 h1 h2 hd hst => sync_ok' h1 hk4 (hE.mv hst.still))
        refine zxa ?_; refine zxs ?_; refine zxm ?_; refine gp (r_bool (c := (oper x4.2).off) (r_nenil rfl (by kernel_rfl)) (by cases (oper x4.2).off <;> rfl)) ?_; refine gnt (gif rfl (fun hc123 => ?_) (fun hc123 => ?_))
        ·try simp only at hc123
         have e : appL d l b c = (6, x4.2.syncd, l) := by rw [e4]; unfold appS; rw [if_pos hc123]
         refine gsr (zxm ?_); refine zs1 ?_; refine gnt (gc_ret (gx_then_ret (gx_mark (by repeat (first | exact Pick.here | apply Pick.there)) ?_))); refine gx_mark0 ?_; refine gx_retc rfl rfl (ldO Ty.row_53) ?_
         exact fun w' hw => ⟨(), by rw [e]; simp [hc123], by rw [e]; exact St.led (hw.z) h18 rfl rfl rfl rfl⟩
        ·try simp only at hc123
         have e : appL d l b c = (0, x4.2.syncd, ⟨l.base, l.rs ++ [(⟨b, c⟩ : LRec)], l.e + lenR (⟨b, c⟩ : LRec)⟩) := by rw [e4]; unfold appS; rw [if_neg (by rw [hc123]; decide)]
         refine gc_skip (gx_then (gc_seq (gc_regionU 8 ([blk q 125 [.pointer (some ⟨g, 0, none⟩), .int .i64 l.base, .int .i64 l.e, .slice a0 l.rs.length m0], blk b3 29 [.pointer (some ⟨q, 0, none⟩)], blk b7 119 q22]) ?_))); refine ypu 0 rfl zl ?_; refine ypu 1 rfl zl ?_; refine ypu 2 rfl znc ?_; refine ypu 3 rfl zfa ?_; refine ypu 4 rfl zl ?_; refine ypu 5 rfl (zLa (cs := q22)) ?_; refine you 6 rfl ?_; refine zeN fun b131 => ?_; refine yxu ?_; refine you 7 rfl ?_; refine zapo fun a132 c132 => ?_; refine yxu ?_; refine yzu ?_; refine gp znc ?_; refine gp zfa ?_; refine zs1 ?_; refine zxs ?_; refine gp zl ?_; refine gp zl ?_; refine gp znc ?_; refine gp zfa ?_; refine zs1 ?_; refine zxs ?_; refine zs1 ?_; refine gnt (gc_ret (gx_mark (by repeat (first | exact Pick.here | apply Pick.there)) ?_)); refine gx_mark0 ?_; refine gx_retc rfl rfl (ldO Ty.row_53) ?_
         intro w' hw; have hw2 := hw.conv (M := [ElR RdRec css l.rs, VlR RdRec q22 (⟨b, c⟩ : LRec)]) (by repeat (first | exact Sel.nil | (apply Sel.cons; · (repeat (first | exact Pick.here | apply Pick.there))))) (fun _ _ => el_snoc)
         rw [e]; refine ⟨(), by rw [eV_zero], St.led (l := ⟨l.base, l.rs ++ [(⟨b, c⟩ : LRec)], l.e + lenR (⟨b, c⟩ : LRec)⟩) (b := l.base) (e := ((l.e + 1 + (nsec (⟨b, c⟩ : LRec).data.length) : Nat) : Int)) (a := a132) (m := l.rs.length + 1) (c := c132) (css := css ++ [q22]) (hw2.sel (M := ledL q g l.base ((l.e + 1 + (nsec (⟨b, c⟩ : LRec).data.length) : Nat) : Int) a132 (l.rs.length + 1) c132 (css ++ [q22]) (l.rs ++ [(⟨b, c⟩ : LRec)]) [DiskR g x4.2.syncd]) (by rw [ledL, show (css ++ [q22]).flatten = css.flatten ++ q22 by simp]; exact (by repeat (first | exact Sel.nil | (apply Sel.cons; · (repeat (first | exact Pick.here | apply Pick.there))))))) (fun x hc => by rcases List.mem_append.1 hc with h | h; exact h18 x h; (simp at h; subst h; exact hl22)) rfl (by rw [← hll]) rfl (by simp)⟩
    ·intro bU14 y i cd hy; try dsimp only [List.cons_append, List.nil_append]
     refine gc_pure1 (p := cd = Code.ret ∧ i < (nsec (⟨b, c⟩ : LRec).data.length) ∧ (wdat d l.e (⟨b, c⟩ : LRec).data (i + 1)).1 ≠ 0) (by repeat (first | exact Pick.here | apply Pick.there)) (fun hX => ?_)
     obtain ⟨rfl, hin, hw0⟩ := hX; refine gc_ret (gx_block_ret ?_); refine gx_then_ret (gx_mark (by repeat (first | exact Pick.here | apply Pick.there)) ?_); refine gx_mark0 ?_; refine gx_retc rfl rfl (ldO Ty.row_53) ?_
     have e : appL d l b c = ((wdat d l.e (⟨b, c⟩ : LRec).data (i + 1)).1, (wdat d l.e (⟨b, c⟩ : LRec).data (i + 1)).2, l) := by unfold appL; rw [if_pos hm, if_neg hfit]; unfold appD; rw [if_neg (by rw [show (nsec (⟨b, c⟩ : LRec).data.length) = (i + 1) + ((nsec (⟨b, c⟩ : LRec).data.length) - (i + 1)) by omega, wdat_stop hw0]; exact hw0), show (nsec (⟨b, c⟩ : LRec).data.length) = (i + 1) + ((nsec (⟨b, c⟩ : LRec).data.length) - (i + 1)) by omega, wdat_stop hw0]
     exact fun w' hw => ⟨(), by rw [e], by rw [e]; exact St.led (hw.z) h18 rfl rfl rfl rfl⟩
end
section
section
variable {P : Program} {w0 : World} {F0 : Nat → Prop} {L : List Res} {Q : Exit → Act → World → Prop} {n : Fm} {env : Env}
theorem gx_retcct {fn : Func} {R : Ending → World → Prop} {t u s : Tmp} {T U : TypeId} {a b : Addr} {v x y : Value} (hr : fn.results = #[.cell t T, .cell u U, .tmp s]) (ht : ev n env (.tmp t) = .pointer (some a)) (hx : ev n env (.tmp u) = .pointer (some b)) (hy : ev n env (.tmp s) = y)
    (hl : ∀ w, St w0 F0 L w → (loadVar T a).run P w = .ok v w) (hl2 : ∀ w, St w0 F0 L w → (loadVar U b).run P w = .ok x w) (hR : ∀ w, St w0 F0 L w → R (.returned (.tuple #[v, x, y])) w) (hd : n.ds = [] := by rfl) : Gx w0 F0 L (bodyPost P fn R) .ret n env :=
  gx_end (fun w hw => by simp [results, hr, fr_tmp' ht, fr_tmp' hx, fr_tmp' hy, asAddr, hl w hw, hl2 w hw]) hR hd
theorem r_ldRow {d : Option Tmp} {ty : TypeId} {pos : String} {af : Array Edge} {gd : Option (Nat × Bool)} {x : Operand} {T e g o m c s i : Nat} {css : List (List Value)} {cs : List Value} {L' : List Res} (hx : ev n env x = .pointer (some ⟨g, o + i * s, none⟩)) (hr : rowT P T = some true) (hs : szT P T = some s)
    (hp : Pick L (rowR e s (some ⟨g, o, none⟩) m c css.flatten) L') (hcs : ∀ c ∈ css, c.length = s) (hi : css[i]? = some cs) (him : i < m) : Runs P w0 F0 L n env ⟨d, .load T x, ty, pos, af, gd⟩ (.agg cs.toArray) := r_load hx fun w hw => by
  obtain ⟨g', o', ha, _, _, hra⟩ := (hw.row hp).elem him
  cases ha
  rw [flatten_at hcs hi] at hra
  exact run_loadVar_agg hr hs (hcs cs (List.mem_of_getElem? hi)) fun j v hj => hra j v hj
end
theorem el_rd {α : Type} {rd : World → (Nat → Prop) → List Value → α → Prop} [RdK rd] {L L' : List Res} {w : World} {F1 F2 : Nat → Prop} {css : List (List Value)} {l : List α} {i : Nat} {c : List Value} {x : α} (h2 : stars L w F2) (hd : ∀ k, F1 k → ¬ F2 k) (hp : Pick L (ElR rd css l) L') (hc : css[i]? = some c) (hx : l[i]? = some x) : rd w (fun k => ¬ F1 k) c x := by
  obtain ⟨G1, G2, ⟨⟨_, h⟩, _⟩, _, hF, _⟩ := hp.stars h2
  exact RdK.mv (h i c x hc hx) fun k _ hk => ⟨rfl, fun h1 => hd k h1 ((hF k).2 (.inl hk))⟩
theorem St.el {α : Type} {rd : World → (Nat → Prop) → List Value → α → Prop} [RdK rd] {w0 w : World} {F0 : Nat → Prop} {L L' : List Res} {css : List (List Value)} {l : List α} (h : St w0 F0 L w) (hp : Pick L (ElR rd css l) L') : css.length = l.length ∧ ∀ (i : Nat) (c : List Value) (x : α), css[i]? = some c → l[i]? = some x → ∃ w A, rd w A c x := by
  obtain ⟨F, hF, _⟩ := h
  obtain ⟨F1, ⟨⟨h1, h2⟩, _⟩, _⟩ := stars_pick hp hF
  exact ⟨h1, fun i c x hc hx => ⟨w, F1, h2 i c x hc hx⟩⟩
theorem rec_bs {r : LRec} (h : r.Ok) : allE pBlock blk0 r.bs = (0, r.b) := allE_ok (block_enc h.eb)
theorem rec_cs {r : LRec} (h : r.Ok) : allE pBlock blk0 r.cs = (0, certB r.c) := allE_ok (block_enc h.ec)
theorem vl_just {cs : List Value} {c : QC} {w : World} {F : Nat → Prop} (h : stars [VlR RdBlock cs (certB c)] w F) : stars [VlR RdQC ((cs.drop 18).take 19) c] w F := rdR_mk (show RdQC w F _ c from rd_just (stars_one' h).1) h
def blkAt (rs : List LRec) (i : Nat) : Block := (rs[i]?.map (·.b)).getD blk0
theorem blkAt_eq {rs : List LRec} {i : Nat} {r : LRec} (h : rs[i]? = some r) : blkAt rs i = r.b := by rw [blkAt, h]; rfl
attribute [local irreducible] Gl Gc Gx Gs Runs Wt
attribute [local irreducible] dc RdRec RdBlock RdQC blkC qcC allE
theorem get_some {w : World} {F : Nat → Prop} {q g : Nat} {l : LS} (h : stars [LedR q g l] w F) {ea : Nat → Addr} {es : List Nat} [Has es 1] [Has es 2] [Has es 3] [Has es 4] (hE : GErr es w (fun k => ¬ F k) 251 ea) {i : Nat} {r : LRec} (hr : l.rs[i]? = some r) (hok : r.Ok) :
    Calls Tryz.prog 63 #[.pointer (some ⟨q, 0, none⟩), .int .i64 (i : Int)] w (Post w F (fun x : List Value × List Value => .tuple #[.agg x.1.toArray, .agg x.2.toArray, eV 251 ea 0]) (fun x => [pureR ((x.1.length = 39 ∧ ∀ v ∈ x.1, v.oneCell' = true) ∧ x.2.length = 19 ∧ ∀ v ∈ x.2, v.oneCell' = true), VlR RdBlock x.1 r.b, VlR RdQC x.2 r.c, LedR q g l])) := by
 obtain ⟨a0, m0, css, h18, h⟩ := led_open h; have hil : i < l.rs.length := (List.getElem?_eq_some_iff.1 hr).1
 have hbl := bs_len r
 have hcl := cs_len r
 refine g_enter (env := [(0, .pointer (some ⟨q, 0, none⟩)), (1, .int .i64 (i : Int))]) Tryz.func63 rfl h Tryz.ntmps63 rfl rfl ?_; refine gsr (zal fun b4 => ?_); refine zal fun b5 => ?_; refine zxa ?_; refine gnt (gc_seq (gsr (zxm ?_))); refine gp (r_bool (c := false) zlt (decide_eq_false (by omega))) ?_; refine zxm ?_; refine gq zmv ?_; refine gq zmv ?_; refine gq znc ?_; refine gq zfa ?_; refine gq zl ?_; refine gq zln ?_; refine gq (r_bool (c := false) zge (decide_eq_false (by omega))) ?_; refine gp zpk ?_; refine gnt (gc_condF rfl rfl ?_); refine gc_skip (gx_then (gsr (gl_fact (fun w' hw => St.el (rd := RdRec) hw (by repeat (first | exact Pick.here | apply Pick.there))) (fun hel => ?_))))
 obtain ⟨hlen, hel⟩ := hel; have hci : css[i]? = some (css[i]'(by omega)) := List.getElem?_eq_getElem (by omega)
 generalize hcse : css[i]'(by omega) = ce at hci
 have hl18 := h18 ce (List.mem_of_getElem? hci)
 obtain ⟨wv, A, hrd⟩ := hel i ce r hci hr; unfold RdRec at hrd
 obtain ⟨a1, n1, c1, a2, n2, c2, rfl, k1, k2, hb1, hb2⟩ := hrd; have hn1 : n1 = r.bs.length := by have := hb1.1; simp at this; omega
 have hn2 : n2 = r.cs.length := by have := hb2.1; simp at this; omega
 refine gl_fact (fun w' hw => St.rowAt (hw.sel (M := [rowR 119 18 a0 l.rs.length m0 css.flatten]) (by repeat (first | exact Sel.nil | (apply Sel.cons; · (repeat (first | exact Pick.here | apply Pick.there)))))) .here (by omega)) (fun hra => ?_)
 obtain ⟨_, gr, or_, ha⟩ := hra; subst ha; refine zxm ?_; refine gp znc ?_; refine gp zfa ?_; refine gp zl ?_; refine zxm ?_; refine gp (r_val (v' := .pointer (some ⟨gr, or_ + i * 18, none⟩)) zia (by simp)) ?_; refine gp (r_ldRow (i := i) rfl Ty.row_119 Ty.sz_119 (by repeat (first | exact Pick.here | apply Pick.there)) h18 hci hil) ?_; refine zal fun b7 => ?_; refine zsN ?_; refine zxs ?_; refine gp zfa ?_; refine gp zl ?_; refine zc (fun q35 => ?_) (c := fun w1 F1 F2 h1 h2 hd hst => readBlock_ok (b := r.bs) h1 (hE.mv hst.still) (rd_rows (el_rd h2 hd (by repeat (first | exact Pick.here | apply Pick.there)) hci hr)).1 (by omega))
 refine gl_pureR (fun hq35 => ?_)
 obtain ⟨hl35, ho35⟩ := hq35; replace hl35 : q35.length = 39 := hl35
 have i35 := Len.of hl35
 have j35 := One.of (show ∀ v ∈ q35, v.oneCell' = true from ho35)
 rw [rec_bs hok]; refine zxm ?_; refine gp zex ?_; refine gp zex ?_; refine zal fun b8 => ?_; refine zsN ?_; refine zxa ?_; refine gnt (gc_seq (gsr (zxm ?_))); refine gp (r_bool (c := false) (r_nenil rfl (by kernel_rfl)) rfl) ?_; refine gnt (gc_condF rfl rfl ?_); refine gc_skip (gx_then (gsr (gp zfa ?_))); refine gp zl ?_; refine zc (fun q46 => ?_) (c := fun w1 F1 F2 h1 h2 hd hst => readBlock_ok (b := r.cs) h1 (hE.mv hst.still) (rd_rows (el_rd h2 hd (by repeat (first | exact Pick.here | apply Pick.there)) hci hr)).2.1 (by omega))
 refine gl_pureR (fun hq46 => ?_)
 obtain ⟨hl46, ho46⟩ := hq46; replace hl46 : q46.length = 39 := hl46
 have i46 := Len.of hl46
 have j46 := One.of (show ∀ v ∈ q46, v.oneCell' = true from ho46)
 rw [rec_cs hok]; have i51 := Len.of (show ((q46.drop 18).take 19).length = 19 by rw [List.length_take, List.length_drop]; omega)
 have j51 := One.of (show ∀ v ∈ (q46.drop 18).take 19, v.oneCell' = true from fun v hv => ho46 v (List.mem_of_mem_drop (List.mem_of_mem_take hv)))
 refine zxm ?_; refine gp zex ?_; refine gp zex ?_; refine zal fun b10 => ?_; refine zsN ?_; refine zxa ?_; refine gnt (gc_seq (gc_regionZ 6 ([blk b8 51 q35, blk b10 51 q46]) ?_)); refine yps 0 rfl (zLa (cs := q35)) ?_; refine yps 1 rfl zfa ?_; refine yps 2 rfl (zL (sg := (q46.drop 18).take 19) (hg := rfl)) ?_; refine yps 3 rfl zmv ?_; refine yos 4 rfl ?_; refine zsN ?_; refine yxs ?_; refine yos 5 rfl ?_; refine zsN ?_; refine yxs ?_; refine yzs rfl ?_; refine zxa ?_; refine gnt (gc_ret (gx_retcct rfl rfl rfl (by conv => lhs; whnf) (ldA Ty.row_51 Ty.sz_51) (ldA Ty.row_47 Ty.sz_47) ?_))
 intro w' hw; have hw2 := hw.conv (M := [VlR RdBlock q46 (certB r.c)]) (by repeat (first | exact Sel.nil | (apply Sel.cons; · (repeat (first | exact Pick.here | apply Pick.there))))) (fun _ _ => vl_just)
 exact ⟨(q35, (q46.drop 18).take 19), rfl, (St.led (L := [pureR ((q35.length = 39 ∧ ∀ v ∈ q35, v.oneCell' = true) ∧ ((q46.drop 18).take 19).length = 19 ∧ ∀ v ∈ (q46.drop 18).take 19, v.oneCell' = true), VlR RdBlock q35 r.b, VlR RdQC ((q46.drop 18).take 19) r.c]) ((St.pureI (p := ((q35.length = 39 ∧ ∀ v ∈ q35, v.oneCell' = true) ∧ ((q46.drop 18).take 19).length = 19 ∧ ∀ v ∈ (q46.drop 18).take 19, v.oneCell' = true)) ⟨⟨hl35, ho35⟩, Len.h, One.h⟩ hw2).sel (M := ledL q g l.base l.e _ l.rs.length m0 css l.rs [pureR ((q35.length = 39 ∧ ∀ v ∈ q35, v.oneCell' = true) ∧ ((q46.drop 18).take 19).length = 19 ∧ ∀ v ∈ (q46.drop 18).take 19, v.oneCell' = true), VlR RdBlock q35 r.b, VlR RdQC ((q46.drop 18).take 19) r.c]) (by repeat (first | exact Sel.nil | (apply Sel.cons; · (repeat (first | exact Pick.here | apply Pick.there)))))) h18 rfl rfl rfl rfl).z⟩
end
section
def allE_ (i : Nat) (x : List Value) : Array Value := #[.int .i64 (i : Int), .agg x.toArray]
def allG (rs : List LRec) (i : Nat) (x : List Value) : List Res := [pureR (i < rs.length ∧ x.length = 39 ∧ ∀ v ∈ x, v.oneCell' = true), VlR RdBlock x (blkAt rs i)]
attribute [local irreducible] Gl Gc Gx Gs Runs Wt
attribute [local irreducible] dc RdRec RdBlock RdQC blkC qcC allE
theorem all_ok {w : World} {F : Nat → Prop} {q : Nat} (h : stars [] w F) :
    Calls Tryz.prog 32 #[.pointer (some ⟨q, 0, none⟩)] w (Post w F (fun b : Nat => .func (.func 62) #[] #[.pointer (some ⟨b, 0, none⟩)]) (fun b => [blk b 29 [.pointer (some ⟨q, 0, none⟩)]])) := by
 refine g_enter (env := [(0, .pointer (some ⟨q, 0, none⟩))]) Tryz.func32 rfl h Tryz.ntmps32 rfl rfl ?_; refine gsr (zb1 fun b1 => ?_); refine zxa ?_; refine zxs ?_; refine gp zmf ?_; refine zxa ?_; refine gnt (gc_ret (gx_ret1 rfl (by conv => lhs; whnf) ?_)); exact ze b1
theorem all1_ok {w : World} {F : Nat → Prop} {q g : Nat} {l : LS} {bx lp : Nat} {J : Nat → Res} {Jx : Res} (h : stars [blk bx 29 [.pointer (some ⟨q, 0, none⟩)], LedR q g l, J 0] w F) {ea : Nat → Addr} {es : List Nat} [Has es 1] [Has es 2] [Has es 3] [Has es 4] (hE : GErr es w (fun k => ¬ F k) 251 ea) (hok : ∀ r ∈ l.rs, r.Ok) (hln : l.rs.length < 4294967296) (hy : RoundsAt Tryz.prog lp allE_ (allG l.rs) J Jx w F) :
    Calls Tryz.prog 62 #[.func (.yield lp) #[] #[], .pointer (some ⟨bx, 0, none⟩)] w (Post w F (fun _ : Bool => .tuple #[]) (fun y => (match allOr l.rs.length y with | some m => J m | none => Jx) :: [blk bx 29 [.pointer (some ⟨q, 0, none⟩)], LedR q g l])) := by
 refine g_enter (env := [(0, .func (.yield lp) #[] #[]), (1, .pointer (some ⟨bx, 0, none⟩))]) Tryz.func62 rfl h Tryz.ntmps62 rfl rfl ?_; refine gsr (gl_led (by repeat (first | exact Pick.here | apply Pick.there)) (fun a0 m0 css h18 => ?_))
 refine gp zl ?_; refine gp znc ?_; refine gp zfa ?_; refine gp zl ?_; refine gp zln ?_; refine gl_cz (M := [blk q 125 [.pointer (some ⟨g, 0, none⟩), .int .i64 l.base, .int .i64 l.e, .slice a0 l.rs.length m0], rowR 119 18 a0 l.rs.length m0 css.flatten, ElR RdRec css l.rs]) (N := [LedR q g l]) (fun w' F' hh => ?_) ?_
 ·exact stars_ex_mk ((a0, m0), css) (stars_all_mk (stars_pure_mk h18 hh))
 refine zxm ?_; refine gnt (gc_block (gc_loop (α := Nat) (fun k => [pureR (k ≤ l.rs.length), blk bx 29 [.pointer (some ⟨q, 0, none⟩)], LedR q g l, J k]) (fun k => [(12, .int .i64 (k : Int))]) [3, 4, 5, 6, 13, 14, 15, 16, 17, 18, 19, 20, 21, 22, 23, 24, 25, 26, 27, 28, 29, 30, 31] (fun k => l.rs.length - k) 0 ?_ ?_ ?_))
 ·refine env_start (by kernel_rfl)
 ·exact zlp (Nat.zero_le _)
 ·intro k u; refine gc_pureR (fun hk => ?_)
  replace hk : k ≤ l.rs.length := hk
  refine gsr (gp zlt ?_); refine gnt (gc_seq (gif rfl (fun hc13 => ?_) (fun hc13 => ?_)))
  ·try simp only at hc13
   have hk' : k < l.rs.length := by omega
   have hr : l.rs[k]? = some (l.rs[k]'hk') := List.getElem?_eq_getElem hk'
   have hrk := hok _ (List.mem_of_getElem? hr)
   refine gc_skip (gx_then (gc_seq (gc_block (gsr (zxm ?_))))); refine zxa ?_; refine zxs ?_; refine gp zl ?_; refine zxm ?_; refine zc ?_ (c := fun w1 F1 F2 h1 h2 hd hst => get_some (i := k) h1 (hE.mv hst.still) hr hrk)
   rintro ⟨x, y⟩
   refine gl_pureR (fun hxy => ?_)
   obtain ⟨⟨hlx, hox⟩, hly, hoy⟩ := hxy; replace hlx : x.length = 39 := hlx
   replace hly : y.length = 19 := hly
   have ix := Len.of hlx
   have jx := One.of (show ∀ v ∈ x, v.oneCell' = true from hox)
   have iy := Len.of hly
   have jy := One.of (show ∀ v ∈ y, v.oneCell' = true from hoy)
   rw [← blkAt_eq hr]; refine zxm ?_; refine gp zex ?_; refine gp zex ?_; refine gp zex ?_; refine zal fun b4 => ?_; refine zal fun b5 => ?_; refine zsN ?_; refine zsN ?_; refine zxa ?_; refine zxs ?_; refine zxm ?_; refine gp (r_bool (c := false) (r_nenil rfl (by kernel_rfl)) rfl) ?_; refine zxm ?_; refine gq zmv ?_; refine gq zmv ?_; refine gq (zLa (cs := x)) ?_; refine gl_pI (p := k < l.rs.length ∧ x.length = 39 ∧ ∀ v ∈ x, v.oneCell' = true) ⟨hk', hlx, hox⟩ ?_; refine gyd hy k x rfl (by repeat (first | exact Sel.nil | (apply Sel.cons; · (repeat (first | exact Pick.here | apply Pick.there))))) (fun x28 => ?_) (hw := wtgT rfl rfl rfl rfl)
   rcases x28 with _ | _
   ·refine gq znt ?_; refine gp zpk ?_; refine gnt (gc_condT rfl rfl ?_); refine gc_ret (gx_block_ret ?_); refine gx_then_ret (gx_round_ret ?_); refine gx_block_ret ?_; refine gx_ret0 rfl ?_; exact ze false
   ·refine gq znt ?_; refine gp zpk ?_; refine gnt (gc_condF rfl rfl ?_); refine gc_skip (gx_block_normal (gx_then (gc_region (gp zad ?_)))); refine zxm ?_; refine gl_nil (zrd (k + 1) ?_ ?_)
    ·show l.rs.length - (k + 1) < l.rs.length - k
     omega
    ·exact zlp (show k + 1 ≤ l.rs.length by omega)
  ·try simp only at hc13
   have hk' : k = l.rs.length := by omega
   subst hk'; refine gc_exit ?_; refine gx_then_exit ?_; refine gx_round_exit ?_; refine gx_block_hit ?_; refine gx_ret0' rfl ?_; exact ze true
theorem all1_it {w : World} {F : Nat → Prop} {q g : Nat} {l : LS} {bx lp : Nat} {J : Nat → Res} {Jx : Res} (h : stars [blk bx 29 [.pointer (some ⟨q, 0, none⟩)], LedR q g l, J 0] w F) {ea : Nat → Addr} {es : List Nat} [Has es 1] [Has es 2] [Has es 3] [Has es 4] (hE : GErr es w (fun k => ¬ F k) 251 ea) (hok : ∀ r ∈ l.rs, r.Ok) (hln : l.rs.length < 4294967296) :
    IterAt Tryz.prog 62 #[.pointer (some ⟨bx, 0, none⟩)] allE_ (allG l.rs) (allOr l.rs.length) (fun _ => [blk bx 29 [.pointer (some ⟨q, 0, none⟩)], LedR q g l]) (fun _ : Bool => .tuple #[]) lp J Jx w F := fun hy => by
  have h2 := all1_ok h hE hok hln hy
  exact h2
end
section
def smSig (s : Sig) : Prop := s.chains.length ≤ 1099511627776 ∧ s.path.length ≤ 1099511627776
def smQC (q : QC) : Prop := q.votes.length ≤ 1099511627776 ∧ ∀ s ∈ q.votes, smSig s.sig
def smBlk (b : Block) : Prop := smQC b.justify ∧ b.next.length ≤ 1099511627776 ∧ b.payload.length ≤ 1099511627776 ∧ ∀ x ∈ b.payload, x.length ≤ 1099511627776
structure Tr where
  root : Dig
  nodes : List (Dig × Block)
  certs : List QC
def lkN (d : Dig) : List (Dig × Block) → Option Block
  | [] => none
  | p :: l => if d = p.1 then some p.2 else lkN d l
def fitsQ (q : QC) (d : Dig) (b : Block) : Bool := decide (q.block = d ∧ q.epoch = b.epoch ∧ q.round = b.round)
def certF (d : Dig) : List QC → Option QC
  | [] => none
  | q :: l => if q.block = d then some q else certF d l
def upF (t : Tr) : Nat → Dig → List (Dig × Block)
  | 0, _ => []
  | n + 1, d => match lkN d t.nodes with
    | none => []
    | some b => (d, b) :: (if d = t.root then [] else upF t n b.parent)
def upL (t : Tr) (d : Dig) : List (Dig × Block) := upF t t.nodes.length d
def keysT (t : Tr) : List Dig := t.nodes.map (·.1)
structure TOk (t : Tr) : Prop where
  nd : (keysT t).Nodup
  hd : ∃ b r, t.nodes = (t.root, b) :: r
  par : ∀ i d b, t.nodes[i + 1]? = some (d, b) → ∃ j p, j ≤ i ∧ t.nodes[j]? = some (b.parent, p)
  le : t.nodes.length ≤ 16
  ce : 0 < t.certs.length
  cn : (t.certs.map (fun q => q.block)).Nodup
  ck : ∀ q ∈ t.certs, q.block ∈ keysT t
  sb : ∀ d b, lkN d t.nodes = some b → smBlk b
  sq : ∀ q ∈ t.certs, smQC q
theorem nodup_le {α : Type} [DecidableEq α] : ∀ {l m : List α}, l.Nodup → (∀ x ∈ l, x ∈ m) → l.length ≤ m.length
  | [], m, _, _ => Nat.zero_le _
  | a :: l, m, hn, hs => by
    simp only [List.nodup_cons] at hn
    have h1 := nodup_le (l := l) (m := m.erase a) hn.2 fun x hx => (List.mem_erase_of_ne (fun e => hn.1 (by rw [← e]; exact hx))).2 (hs x (List.mem_cons_of_mem _ hx))
    have h2 := List.length_erase_of_mem (hs a List.mem_cons_self)
    have h3 := List.length_pos_of_mem (hs a List.mem_cons_self)
    simp only [List.length_cons]; omega
theorem TOk.cl {t : Tr} (h : TOk t) : t.certs.length ≤ 16 := by
  have h1 := nodup_le h.cn (m := keysT t) fun x hx => by obtain ⟨q, hq, rfl⟩ := List.mem_map.1 hx; exact h.ck q hq
  have h2 := h.le
  simp only [List.length_map, keysT] at h1
  omega
theorem lkN_some {d : Dig} {b : Block} : ∀ {l : List (Dig × Block)}, lkN d l = some b → ∃ i : Nat, l[i]? = some (d, b)
  | [], h => by cases h
  | p :: l, h => by
    unfold lkN at h
    split at h
    · rename_i e; cases h; exact ⟨0, by subst e; rfl⟩
    · obtain ⟨i, hi⟩ := lkN_some h; exact ⟨i + 1, hi⟩
theorem lkN_none {d : Dig} : ∀ {l : List (Dig × Block)}, lkN d l = none ↔ d ∉ l.map (fun p => p.1)
  | [] => by simp [lkN]
  | p :: l => by
    unfold lkN
    split
    · rename_i e; simp [e]
    · rename_i e; rw [lkN_none]; simp [e]
theorem lkN_at {d : Dig} {b : Block} : ∀ {l : List (Dig × Block)} {i : Nat}, (l.map (fun p => p.1)).Nodup → l[i]? = some (d, b) → lkN d l = some b
  | [], i, _, h => by simp at h
  | p :: l, 0, _, h => by simp at h; subst h; simp [lkN]
  | p :: l, i + 1, hn, h => by
    simp only [List.map_cons, List.nodup_cons] at hn
    simp only [List.getElem?_cons_succ] at h
    unfold lkN
    rw [if_neg (fun e => hn.1 (by rw [← e]; exact List.mem_map.2 ⟨_, List.mem_of_getElem? h, rfl⟩)), lkN_at hn.2 h]
theorem lkN_append {d : Dig} {l m : List (Dig × Block)} : lkN d (l ++ m) = (lkN d l).orElse (fun _ => lkN d m) := by
  induction l with
  | nil => simp [lkN]
  | cons p l ih => simp only [List.cons_append, lkN]; split <;> simp [ih]
theorem upF_more {t : Tr} (h : TOk t) : ∀ (i : Nat) (d : Dig) (b : Block) (n m : Nat), t.nodes[i]? = some (d, b) → i < n → i < m → upF t n d = upF t m d := by
  intro i
  induction i using Nat.strongRecOn with
  | ind i ih =>
    intro d b n m hi hn hm
    obtain ⟨n, rfl⟩ : ∃ k, n = k + 1 := ⟨n - 1, by omega⟩
    obtain ⟨m, rfl⟩ : ∃ k, m = k + 1 := ⟨m - 1, by omega⟩
    unfold upF
    have hl := lkN_at h.nd hi
    rw [hl]
    simp only
    split
    · rfl
    · rename_i hne
      congr 1
      cases i with
      | zero =>
        obtain ⟨b0, r, hb⟩ := h.hd
        rw [hb] at hi; simp at hi; exact absurd hi.1.symm hne
      | succ i =>
        obtain ⟨j, p, hj, hp⟩ := h.par i d b hi
        exact ih j (by omega) b.parent p n m hp (by omega) (by omega)
theorem upL_step {t : Tr} (h : TOk t) {d : Dig} {b : Block} (hl : lkN d t.nodes = some b) : upL t d = (d, b) :: (if d = t.root then [] else upL t b.parent) := by
  obtain ⟨i, hi⟩ := lkN_some hl
  have hlt : i < t.nodes.length := (List.getElem?_eq_some_iff.1 hi).1
  obtain ⟨n, hn⟩ : ∃ k, t.nodes.length = k + 1 := ⟨t.nodes.length - 1, by omega⟩
  have e : upL t d = upF t (n + 1) d := by unfold upL; rw [hn]
  rw [e]
  simp only [upF, hl]
  split
  · rfl
  · rename_i hne
    congr 1
    cases i with
    | zero =>
      obtain ⟨b0, r, hb⟩ := h.hd
      rw [hb] at hi; simp at hi; exact absurd hi.1.symm hne
    | succ i =>
      obtain ⟨j, p, hj, hp⟩ := h.par i d b hi
      exact upF_more h j b.parent p n t.nodes.length hp (by omega) (by omega)
theorem upL_none {t : Tr} {d : Dig} (hl : lkN d t.nodes = none) : upL t d = [] := by
  unfold upL
  cases t.nodes.length with
  | zero => rfl
  | succ n => unfold upF; rw [hl]
theorem upF_len (t : Tr) : ∀ (n : Nat) (d : Dig), (upF t n d).length ≤ n
  | 0, d => Nat.le_refl _
  | n + 1, d => by
    unfold upF
    cases lkN d t.nodes with
    | none => simp
    | some b =>
      simp only [List.length_cons]
      split
      · simp
      · have := upF_len t n b.parent; omega
theorem upL_len (t : Tr) (d : Dig) : (upL t d).length ≤ t.nodes.length := upF_len t _ d
theorem TOk.up {t : Tr} (h : TOk t) {d : Dig} {b : Block} (hl : lkN d t.nodes = some b) (hne : d ≠ t.root) : ∃ p, lkN b.parent t.nodes = some p := by
  obtain ⟨i, hi⟩ := lkN_some hl
  cases i with
  | zero =>
    obtain ⟨b0, r, hb⟩ := h.hd
    rw [hb] at hi; simp at hi; exact absurd hi.1.symm hne
  | succ i =>
    obtain ⟨j, p, hj, hp⟩ := h.par i d b hi
    exact ⟨p, lkN_at h.nd hp⟩
theorem certF_none {d : Dig} : ∀ {l : List QC}, certF d l = none ↔ d ∉ l.map (fun q => q.block)
  | [] => by simp [certF]
  | p :: l => by
    unfold certF
    split
    · rename_i e; simp [e]
    · rename_i e; rw [certF_none]; simp [e, Ne.symm e]
def askE (t : Tr) (b : Block) (err : Nat) (id : Dig) : Nat :=
  if err = 0 then (if (lkN id t.nodes).isSome then 17 else match lkN b.parent t.nodes with
    | none => 16
    | some p => if fitsQ b.justify b.parent p = true ∧ b.epoch = p.epoch then (if b.round ≤ p.round then 14 else if 16 ≤ t.nodes.length then 8 else 0) else 12) else 4
def newE (b : Block) (q : QC) (err : Nat) (id : Dig) : Nat := if err = 0 then (if fitsQ q id b = true then 0 else 12) else 4
def newT (b : Block) (q : QC) (id : Dig) : Tr := ⟨id, [(id, b)], [q]⟩
def putT (t : Tr) (b : Block) (id : Dig) : Tr := { t with nodes := t.nodes ++ [(id, b)] }
theorem askE_zero {t : Tr} {b : Block} {err : Nat} {id : Dig} (h : askE t b err id = 0) : err = 0 ∧ lkN id t.nodes = none ∧ ∃ p, lkN b.parent t.nodes = some p ∧ fitsQ b.justify b.parent p = true ∧ b.epoch = p.epoch ∧ p.round < b.round ∧ t.nodes.length < 16 := by
  unfold askE at h
  split at h
  · rename_i he
    split at h
    · cases h
    · rename_i hn
      cases hp : lkN b.parent t.nodes with
      | none => rw [hp] at h; cases h
      | some p =>
        rw [hp] at h
        simp only at h
        split at h
        · rename_i hf
          split at h
          · cases h
          · split at h
            · cases h
            · exact ⟨he, by simpa using hn, p, rfl, hf.1, hf.2, by omega, by omega⟩
        · cases h
  · cases h
def learnE (t : Tr) (q : QC) : Nat × Tr := match lkN q.block t.nodes with
  | none => (9, t)
  | some b => if fitsQ q q.block b = true then (0, if (certF q.block t.certs).isSome then t else { t with certs := t.certs ++ [q] }) else (12, t)
theorem newT_ok {b : Block} {q : QC} {id : Dig} (hq : q.block = id) (hb : smBlk b) (hs : smQC q) : TOk (newT b q id) where
  nd := by simp [keysT, newT]
  hd := ⟨b, [], rfl⟩
  par := fun i d b h => by simp [newT] at h
  le := by simp [newT]
  ce := by simp [newT]
  cn := by simp [newT]
  ck := fun x hx => by simp [newT] at hx; subst hx; simp [keysT, newT, hq]
  sb := fun d x h => by
    simp only [newT, lkN] at h
    split at h
    · cases h; exact hb
    · cases h
  sq := fun x hx => by simp [newT] at hx; subst hx; exact hs
theorem putT_ok {t : Tr} (h : TOk t) {b : Block} {id p : Dig} {pb : Block} (hn : lkN id t.nodes = none) (hp : lkN b.parent t.nodes = some pb) (hl : t.nodes.length < 16) (hb : smBlk b) : TOk (putT t b id) where
  nd := by
    have := h.nd
    simp only [keysT, putT, List.map_append, List.map_cons, List.map_nil] at this ⊢
    refine List.nodup_append.2 ⟨this, by simp, fun x hx y hy e => ?_⟩
    simp at hy; subst hy; subst e
    exact lkN_none.1 hn hx
  hd := by obtain ⟨b0, r, e⟩ := h.hd; exact ⟨b0, r ++ [(id, b)], by simp [putT, e]⟩
  par := fun i d x hx => by
    simp only [putT] at hx
    by_cases hi : i + 1 < t.nodes.length
    · rw [List.getElem?_append_left hi] at hx
      obtain ⟨j, y, hj, hy⟩ := h.par i d x hx
      exact ⟨j, y, hj, by show (t.nodes ++ _)[j]? = _; rw [List.getElem?_append_left (by omega)]; exact hy⟩
    · have hlt := (List.getElem?_eq_some_iff.1 hx).1
      simp only [List.length_append, List.length_singleton] at hlt
      rw [List.getElem?_append_right (by omega), show i + 1 - t.nodes.length = 0 by omega] at hx
      simp at hx
      obtain ⟨rfl, rfl⟩ := hx
      obtain ⟨j, hj⟩ := lkN_some hp
      have hjl := (List.getElem?_eq_some_iff.1 hj).1
      exact ⟨j, pb, by omega, by show (t.nodes ++ _)[j]? = _; rw [List.getElem?_append_left hjl]; exact hj⟩
  le := by simp [putT]; omega
  ce := h.ce
  cn := h.cn
  ck := fun q hq => by simp only [keysT, putT, List.map_append, List.mem_append]; exact .inl (h.ck q hq)
  sb := fun d x hx => by
    simp only [putT, lkN_append] at hx
    cases h1 : lkN d t.nodes with
    | some y => rw [h1] at hx; simp at hx; subst hx; exact h.sb d _ h1
    | none =>
      rw [h1] at hx
      simp [lkN] at hx
      obtain ⟨_, rfl⟩ := hx; exact hb
  sq := h.sq
theorem learnE_ok {t : Tr} (h : TOk t) {q : QC} (hs : smQC q) : TOk (learnE t q).2 := by
  unfold learnE
  cases hl : lkN q.block t.nodes with
  | none => exact h
  | some b =>
    simp only
    split
    · simp only
      split
      · exact h
      · rename_i hc
        have hc' : certF q.block t.certs = none := by simpa using hc
        have hk : q.block ∈ keysT t := Classical.byContradiction fun hh => by rw [lkN_none.2 hh] at hl; cases hl
        exact ⟨h.nd, h.hd, h.par, h.le, by simp, by
            simp only [List.map_append, List.map_cons, List.map_nil]
            refine List.nodup_append.2 ⟨h.cn, by simp, fun x hx y hy e => ?_⟩
            simp at hy; subst hy; subst e
            exact certF_none.1 hc' hx, fun x hx => by
            rcases List.mem_append.1 hx with hx | hx
            · exact h.ck x hx
            · simp at hx; subst hx; exact hk, h.sb, fun x hx => by
            rcases List.mem_append.1 hx with hx | hx
            · exact h.sq x hx
            · simp at hx; subst hx; exact hs⟩
    · exact h
def addE (t : Tr) (b : Block) (err : Nat) (id : Dig) : Nat × Dig × Tr :=
  if askE t b err id = 0 then ((learnE (putT t b id) b.justify).1, id, (learnE (putT t b id) b.justify).2) else (askE t b err id, dig0, t)
theorem addE_ok {t : Tr} (h : TOk t) {b : Block} {err : Nat} {id : Dig} (hb : smBlk b) : TOk (addE t b err id).2.2 := by
  unfold addE
  split
  · rename_i ha
    obtain ⟨_, h1, p, h2, _, _, _, h3⟩ := askE_zero ha
    exact learnE_ok (putT_ok (p := id) h h1 h2 h3 hb) hb.1
  · exact h
def pathL (t : Tr) (d : Dig) : List Dig := (((upL t d).map (·.1)).filter (fun i => decide (i ≠ t.root))).reverse
def ripeL (t : Tr) (q : QC) : List Dig := match lkN q.block t.nodes with
  | none => []
  | some b => if fitsQ q q.block b = true then match upL t q.block with
      | x :: y :: z :: _ => if x.2.round = q.round ∧ y.2.round = q.round - 1 ∧ z.2.round = q.round - 2 ∧ z.1 ≠ t.root then pathL t z.1 else []
      | _ => []
    else []
end
section
def RdMap (w : World) (A : Nat → Prop) (g : Nat) (l : List (Value × Value)) : Prop := A g ∧ ∃ es clock, w.heap[g]? = some (.map es clock) ∧ kvs es = l
theorem RdMap.mv {w w' : World} {A A' : Nat → Prop} {g : Nat} {l : List (Value × Value)} (h : RdMap w A g l) (hk : ∀ k, k < w.heap.size → A k → w'.heap[k]? = w.heap[k]? ∧ A' k) : RdMap w' A' g l := by
  obtain ⟨hA, es, clock, hh, hkv⟩ := h
  have := hk g (Array.getElem?_eq_some_iff.1 hh).1 hA
  exact ⟨this.2, es, clock, this.1.trans hh, hkv⟩
theorem mapR.rd {g : Nat} {l : List (Value × Value)} {w : World} {F : Nat → Prop} (h : (mapR g l).on w F) : RdMap w F g l := by
  obtain ⟨hF, es, clock, hh, hk, _⟩ := h
  exact ⟨(hF g).2 rfl, es, clock, hh, hk⟩
section
variable {P : Program} {w0 : World} {F0 : Nat → Prop} {L : List Res} {Q : Exit → Act → World → Prop} {n : Fm} {env : Env} {ops : Array Oper} {rest : List Oper}
variable {d : Option Tmp} {t : Tmp} {ty : TypeId} {pos : String} {af : Array Edge} {gd : Option (Nat × Bool)}
theorem St.mapOld {w : World} (hst : St w0 F0 L w) {g : Nat} {l : List (Value × Value)} (h : RdMap w0 (fun k => ¬ F0 k) g l) : ∃ es clock, w.heap[g]? = some (.map es clock) ∧ kvs es = l := by
  obtain ⟨hA, es, clock, hh, hk⟩ := h
  obtain ⟨F, hF, hs⟩ := hst
  exact ⟨es, clock, (hs.old (Array.getElem?_eq_some_iff.1 hh).1 hA).1.trans hh, hk⟩
section
variable {α : Type} [DecidableEq α] {K : α → Value}
theorem r_looko {x y : Operand} {T kt e g : Nat} {l : List (α × Value)} {z : Value} {key : α} {b : Bool} [KeyT P kt K] (hx : ev n env x = .map (some g)) (hy : ev n env y = K key) (hm : P.underlying T = some (.map kt e)) (hz : zeroT P e = some z) (hp : RdMap w0 (fun k => ¬ F0 k) g (encK K l)) :
    Runs P w0 F0 L n env ⟨d, .lookup T x y b, ty, pos, af, gd⟩ (if b then .tuple #[(getK key l).getD z, .bool (getK key l).isSome] else (getK key l).getD z) := fun w hst => by
  obtain ⟨es, clock, hh, hk⟩ := hst.mapOld hp
  have hf := KeyT.find (P := P) (T := kt) (K := K) w key es.toList l hk
  have hc := KeyT.check (P := P) (T := kt) (K := K) w es.isEmpty key
  simp only [execOp, hx, hy, Instr.lookup, Sem.run_bind, run_underlying hm, Result.andThen_ok, MapKept.run_getObj_map hh, Sem.run_pure, hc, hf, getK]
  cases atK key l 0 with
  | none => simp only [Sem.run_bind, run_zeroT hz, Result.andThen_ok, Sem.run_pure]; cases b <;> rfl
  | some p => simp only [Sem.run_pure, Result.andThen_ok]; cases b <;> rfl
theorem gl_ins {x y u : Operand} {T kt e g : Nat} {l : List (α × Value)} {L' : List Res} {key : α} {v : Value} [KeyT P kt K] (hw : Wt ops n env ⟨d, .insert T x y u, ty, pos, af, gd⟩ true) (hx : ev n env x = .map (some g)) (hy : ev n env y = K key) (hu : ev n env u = v)
    (hm : P.underlying T = some (.map kt e)) (hp : Pick L (mapR g (encK K l)) L') (k : Gl P w0 F0 (mapR g (encK K (putK key v l)) :: L') ops Q rest n (pu d undef env)) : Gl P w0 F0 L ops Q (⟨d, .insert T x y u, ty, pos, af, gd⟩ :: rest) n env :=
  gl_skip hw (fun w hst => by
    obtain ⟨es, clock, hh, hk, hb, hn⟩ := hst.mapAt hp
    have hlt : g < w.heap.size := (Array.getElem?_eq_some_iff.1 hh).1
    have hf := KeyT.find (P := P) (T := kt) (K := K) w key es.toList l hk
    have hc := KeyT.check (P := P) (T := kt) (K := K) w false key
    cases ha : atK key l 0 with
    | none =>
      refine ⟨{ w with heap := w.heap.setIfInBounds g (.map (es.push ⟨K key, v, clock⟩) (clock + 1)) }, ?_, ?_⟩
      · simp only [execOp, hx, hy, hu, Instr.mapUpdate, Sem.run_bind, run_underlying hm, Result.andThen_ok, MapKept.run_getObj_map hh, hc, hf, ha, MapKept.run_setObj_map _ hh]
        rfl
      · refine hst.setR hp (fun F h => ⟨(h.1 g).2 rfl, hlt⟩) (fun w' F h hg' _ => ⟨h.1, _, _, hg', ?_, ?_, ?_⟩)
        · rw [(atK_none (v := v) ha).1, encK_append, ← hk]; simp [kvs]
        · intro z hz
          simp only [Array.toList_push, List.mem_append, List.mem_singleton] at hz
          rcases hz with hz | rfl
          · have := hb z hz; omega
          · exact Nat.lt_succ_self _
        · simp only [Array.toList_push, List.map_append, List.map_cons, List.map_nil]
          refine List.nodup_append.2 ⟨hn, by simp, ?_⟩
          intro a ha' b hb' e
          obtain ⟨z, hz, rfl⟩ := List.mem_map.1 ha'
          simp only [List.mem_singleton] at hb'
          have := hb z hz
          omega
    | some p =>
      obtain ⟨j, u0⟩ := p
      obtain ⟨m, rfl, h2, h3, _⟩ := atK_some (v := v) ha
      rw [Nat.zero_add] at ha
      have hkey : ((es[m]?).map (·.key)).getD (K key) = K key := by
        have := encK_get (K := K) h2
        rw [← hk, kvs, List.getElem?_map, Array.getElem?_toList] at this
        cases he : es[m]? with
        | none => rfl
        | some e' => rw [he] at this; simp at this; simp [this.1]
      refine ⟨{ w with heap := w.heap.setIfInBounds g (.map (es.modify m fun e => { e with key := K key, val := v }) clock) }, ?_, ?_⟩
      · simp only [execOp, hx, hy, hu, Instr.mapUpdate, Sem.run_bind, run_underlying hm, Result.andThen_ok, MapKept.run_getObj_map hh, hc, hf, ha, hkey, KeyT.stays (P := P) (T := kt) (K := K), MapKept.run_setObj_map _ hh]
        rfl
      · refine hst.setR hp (fun F h => ⟨(h.1 g).2 rfl, hlt⟩) (fun w' F h hg' _ => ⟨h.1, _, _, hg', ?_, ?_, ?_⟩)
        · rw [kvs_modify, h3, encK_set, ← hk]
        · exact all_born hb born_modify
        · rw [born_modify]; exact hn) k
end
theorem r_lenmo {x : Operand} {T kt e g : Nat} {l : List (Value × Value)} (hx : ev n env x = .map (some g)) (hm : P.underlying T = some (.map kt e)) (hp : RdMap w0 (fun k => ¬ F0 k) g l) :
    Runs P w0 F0 L n env ⟨d, .call ⟨.builtin .len, #[x], #[T]⟩, ty, pos, af, gd⟩ (.int .i64 (l.length : Int)) := fun w hst => by
  obtain ⟨es, clock, hh, hk⟩ := hst.mapOld hp
  have hl : es.size = l.length := by rw [← hk, kvs_length]
  simp [execOp, resolve, invoke, builtin, Builtin.len_, hx, run_underlying hm, MapKept.run_getObj_map hh, goInt, hl]
theorem updL_row {xs tl hd new : List Value} {o : Nat} (hh : hd.length = o) {i : Nat} (h : i + new.length ≤ xs.length) : updL (hd ++ (xs ++ tl)) (o + i) new = hd ++ (updL xs i new ++ tl) := by
  subst hh
  unfold updL
  rw [List.take_append, List.drop_append, List.take_of_length_le (by omega), List.drop_eq_nil_of_le (by omega), List.nil_append, show hd.length + i - hd.length = i by omega, show hd.length + i + new.length - hd.length = i + new.length by omega,
    List.take_append_of_le_length (by omega), List.drop_append_of_le_length h]
  simp
theorem flattenV_set {size : Nat} : ∀ {css : List (List Value)} {i : Nat} {c : List Value}, (∀ c ∈ css, c.length = size) → c.length = size → i < css.length → updL css.flatten (i * size) c = (css.set i c).flatten
  | [], i, c, _, _, h => by simp at h
  | d :: l, 0, c, h, hc, _ => by
    have hd := h d (by simp)
    simp only [Nat.zero_mul, List.flatten_cons, List.set_cons_zero, updL, List.take_zero, List.nil_append, Nat.zero_add]
    rw [hc, ← hd, List.drop_left]
  | d :: l, i + 1, c, h, hc, hi => by
    have hd := h d (by simp)
    have ih := flattenV_set (css := l) (i := i) (c := c) (fun c' hc' => h c' (by simp [hc'])) hc (by simpa using hi)
    have hl := flatten_len (fun c' hc' => h c' (List.mem_cons_of_mem d hc'))
    simp only [List.length_cons] at hi
    have e := updL_row (hd := d) (xs := l.flatten) (tl := []) (new := c) (i := i * size) hd (by rw [hl, hc]; have := Nat.mul_le_mul_right size (show i + 1 ≤ l.length by omega); rw [Nat.add_mul, Nat.one_mul] at this; exact this)
    simp only [List.append_nil] at e
    rw [List.flatten_cons, List.set_cons_succ, List.flatten_cons, ← ih, ← e]
    congr 1
    rw [Nat.add_mul, Nat.one_mul, Nat.add_comm]
theorem gl_stRow {T : TypeId} {x y : Operand} {g o o2 e size m c i : Nat} {css : List (List Value)} {new : List Value} {L' : List Res} (hw : Wt ops n env ⟨none, .store T x y, ty, pos, af, gd⟩ true)
    (hx : ev n env x = .pointer (some ⟨g, o2, none⟩)) (ho : o2 = o + i * size) (hy : ev n env y = .agg new.toArray) (hs : szT P T = some size) (hn : new.length = size) (h1 : ∀ u ∈ new, u.oneCell' = true) (hc : ∀ c ∈ css, c.length = size) (hi : i < css.length)
    (hp : Pick L (rowR e size (some ⟨g, o, none⟩) m c css.flatten) L') (k : Gl P w0 F0 (rowR e size (some ⟨g, o, none⟩) m c (css.set i new).flatten :: L') ops Q rest n env) : Gl P w0 F0 L ops Q (⟨none, .store T x y, ty, pos, af, gd⟩ :: rest) n env :=
  gl_skip hw (fun w hst => by
    obtain ⟨F, hF, hstp⟩ := hst
    obtain ⟨F1, ⟨hl1, hmc, hcm, hor⟩, _⟩ := stars_pick hp hF
    rcases hor with ⟨h, _⟩ | ⟨g', o', cs, fz, ha, hFg, hg, hz, hcs, hxs⟩
    · cases h
    cases ha
    have hlf := flatten_len hc
    have hcl : css.length * size = m * size := by rw [← hlf]; exact hl1
    have him : (i + 1) * size ≤ m * size := by rw [← hcl]; exact Nat.mul_le_mul_right size hi
    have hms : m * size ≤ c * size := Nat.mul_le_mul_right size hmc
    rw [Nat.add_mul, Nat.one_mul] at him
    have hrun := run_storeCells_blk (P := P) (T := e) (fz := fz) g (o + i * size) new 0 cs.toList w (by simpa using hg) (by simpa using hz) (by simp; omega) h1
    rw [Nat.add_zero] at hrun
    have hsp : cs.toList = cs.toList.take o ++ (css.flatten ++ (cs.toList.drop o).drop (m * size)) := by
      rw [← hxs, List.take_append_drop, List.take_append_drop]
    have hu : updL cs.toList (o + i * size) new = cs.toList.take o ++ ((css.set i new).flatten ++ (cs.toList.drop o).drop (m * size)) := by
      conv => lhs; rw [hsp]
      rw [updL_row (by rw [List.length_take]; simp; omega) (by rw [hlf, hn]; omega), flattenV_set hc hn hi]
    have hfl : (css.set i new).flatten.length = m * size := by
      rw [flatten_len (size := size) (fun c' hc' => by rcases List.mem_or_eq_of_mem_set hc' with h | h; exact hc c' h; (subst h; exact hn)), List.length_set, hcl]
    have hsz : (updL cs.toList (o + i * size) new).length = cs.size := by rw [updL_length (by simp; omega)]; simp
    refine ⟨_, ?_, St.setR (g := g) (o' := .cells (updL cs.toList (o + i * size) new).toArray e fz) (r' := rowR e size (some ⟨g, o, none⟩) m c (css.set i new).flatten) ⟨F, hF, hstp⟩ hp (fun F2 h2 => ?_) (fun w' F2 h2 hg' hk' => ?_)⟩
    · have hv : (Value.agg new.toArray).cells.size = size := by simp [Value.cells, hn]
      subst ho
      simp [execOp, hx, hy, Instr.storeAt, Instr.sureAddr, storeVar, Value.cells, hn, run_sz hs, hrun]
    · obtain ⟨_, _, _, h2⟩ := h2
      rcases h2 with ⟨h, _⟩ | ⟨g', o', _, _, ha, hF2, _⟩
      · cases h
      · cases ha; exact ⟨(hF2 g).2 rfl, (Array.getElem?_eq_some_iff.1 hg).1⟩
    · obtain ⟨_, _, _, h2⟩ := h2
      rcases h2 with ⟨h, _⟩ | ⟨g', o', _, _, ha, hF2, _⟩
      · cases h
      · cases ha
        refine ⟨hfl, hmc, hcm, .inr ⟨g, o, _, fz, rfl, hF2, hg', ?_, ?_, ?_⟩⟩
        · simpa [hsz] using hz
        · simpa [hsz] using hcs
        · simp only []
          rw [hu, List.drop_append, List.drop_eq_nil_of_le (by rw [List.length_take]; omega), List.nil_append, List.length_take, Nat.min_eq_left (by simp; omega), Nat.sub_self, List.drop_zero, List.take_append_of_le_length (by omega), List.take_of_length_le (by omega)]) k
theorem gx_lp {l : Nat} {r : Loop} {L' : List Res} {e : Exit} (hp : Pick L (lpR l r) L') (h : Gx w0 F0 (lpR l r :: L') Q e n env) : Gx w0 F0 L Q e n env := fun w hw => h w (hw.pick hp)
end
end
section
def vdC (v : Vdr) : List Value := dc v.key ++ [.int .i64 v.power]
theorem vdC_len (v : Vdr) : (vdC v).length = 17 := by simp [vdC, dc_length]
theorem vdC_one (v : Vdr) : ∀ u ∈ vdC v, u.oneCell' = true := all_app' (dc_one _) (all_cons' rfl all_nil')
theorem flat_one {α : Type} {f : α → List Value} (hf : ∀ x, ∀ u ∈ f x, u.oneCell' = true) (l : List α) : ∀ u ∈ (l.map f).flatten, u.oneCell' = true := fun u hu => by
  obtain ⟨c, hc, hu⟩ := List.mem_flatten.1 hu
  obtain ⟨x, _, rfl⟩ := List.mem_map.1 hc
  exact hf x u hu
theorem RdList.row {α : Type} {f : α → List Value} {w : World} {A : Nat → Prop} {size n : Nat} {a : Option Addr} {l : List α} (h : RdList (fun cs x => cs = f x) w A size a n l) : RdRow w A size a n (l.map f).flatten := by
  obtain ⟨css, hr, _, hl, hx⟩ := h
  have : css = l.map f := by
    apply List.ext_getElem?
    intro i
    rw [List.getElem?_map]
    cases hi : css[i]? with
    | none =>
      have := List.getElem?_eq_none_iff.1 hi
      rw [List.getElem?_eq_none (by omega)]; rfl
    | some c =>
      have hlt := (List.getElem?_eq_some_iff.1 hi).1
      have h2 : l[i]? = some (l[i]'(by omega)) := List.getElem?_eq_getElem (by omega)
      rw [h2, hx i c _ hi h2]; rfl
  rw [← this]; exact hr
theorem ls_row {α : Type} {rd : World → (Nat → Prop) → List Value → α → Prop} [RdK rd] {f : α → List Value} {e size n c : Nat} {a : Option Addr} {l : List α} {w : World} {F : Nat → Prop} {L : List Res} (hf : ∀ w F x, rd w F (f x) x) (hs : ∀ x, (f x).length = size)
    (h : stars (rowR e size a n c (l.map f).flatten :: L) w F) : stars (LsR rd size a n l :: L) w F := by
  refine stars_hd (fun F hr => ?_) h
  refine ⟨⟨l.map f, rowR.rd hr, fun c hc => ?_, by simp, fun i c x hc hx => ?_⟩, fun k hk => (rowR e size a n c (l.map f).flatten).ok hr k hk⟩
  · obtain ⟨x, _, rfl⟩ := List.mem_map.1 hc; exact hs x
  · rw [List.getElem?_map, hx] at hc; cases hc; exact hf _ _ _
theorem row_le {e size n c : Nat} {a : Option Addr} {xs : List Value} {w0 w : World} {F0 : Nat → Prop} {L L' : List Res} (hw : St w0 F0 L w) (hp : Pick L (rowR e size a n c xs) L') : n ≤ c := by
  obtain ⟨F, hF, _⟩ := hw
  obtain ⟨F1, h1, _⟩ := stars_pick hp hF
  exact h1.2.1
theorem vl_qcE {q : QC} {e k c : Nat} {a : Option Addr} {css : List (List Value)} {w : World} {F : Nat → Prop} (h4 : ∀ x ∈ css, List.length x = 4) (h : stars [rowR e 4 a k c css.flatten, ElR RdSigned css q.votes] w F) :
    stars [VlR RdQC (.int .i64 q.epoch :: .int .i64 q.round :: (dc q.block ++ [.slice a k c])) q] w F := by
  have hk : k ≤ c := by obtain ⟨_, _, h1, _⟩ := h; exact h1.2.1
  exact vl_qc hk (ls_of h4 h)
theorem takeB_snoc {α : Type} {l : List α} {k : Nat} {x : α} (h : l[k]? = some x) : l.take (k + 1) = l.take k ++ [x] := by simp [List.take_add_one, h]
attribute [local irreducible] Gl Gc Gx Gs Runs Wt
theorem cloneD_ok {w : World} {F : Nat → Prop} {n c : Nat} {a : Option Addr} {xs : List Value} (h : stars [] w F) (hx : RdRow w (fun k => ¬ F k) 16 a n xs) (h1 : ∀ u ∈ xs, u.oneCell' = true) (hb : n ≤ 1099511627776) :
    Calls Tryz.prog 64 #[.slice a n c] w (Post w F (fun r : Option Addr × Nat => .slice r.1 n r.2) (fun r => [rowR 27 16 r.1 n r.2 xs])) := by
 refine g_enter (env := [(0, .slice a n c)]) Tryz.func64 rfl h Tryz.ntmps64 rfl rfl ?_; refine gsr (zxa ?_); refine gnt (gc_seq (gsr (zxm ?_))); refine gp zen ?_; refine gnt (gif rfl (fun hc4 => ?_) (fun hc4 => ?_))
 ·refine gsr (zxa ?_); refine gnt (gc_ret (gx_then_ret (gx_ret1 rfl (by conv => lhs; whnf) ?_))); have ha : a = none := by cases a <;> simp_all
  subst ha; obtain ⟨rfl, rfl⟩ := hx.none; exact fun w' hw => ⟨(none, 0), rfl, hw.rowNil.z⟩
 ·refine gc_skip (gx_then (gsr (ze0 fun b5 => ?_))); refine zxm ?_; refine gl_append (wt0 rfl) rfl rfl (by repeat (first | exact Pick.here | apply Pick.there)) Ty.el_33 (fun w' hw => hw.rdOld hx) h1 (by simp only [maxLen]; omega) (by omega) ?_; intro a1 c1; refine zxa ?_; refine gnt (gc_ret (gx_ret1 rfl (by conv => lhs; whnf) ?_)); rw [Nat.zero_add]; exact fun w' hw => ⟨(a1, c1), rfl, hw.z⟩
theorem cloneV_ok {w : World} {F : Nat → Prop} {n c : Nat} {a : Option Addr} {xs : List Value} (h : stars [] w F) (hx : RdRow w (fun k => ¬ F k) 17 a n xs) (h1 : ∀ u ∈ xs, u.oneCell' = true) (hb : n ≤ 1099511627776) :
    Calls Tryz.prog 82 #[.slice a n c] w (Post w F (fun r : Option Addr × Nat => .slice r.1 n r.2) (fun r => [rowR 78 17 r.1 n r.2 xs])) := by
 refine g_enter (env := [(0, .slice a n c)]) Tryz.func82 rfl h Tryz.ntmps82 rfl rfl ?_; refine gsr (zxa ?_); refine gnt (gc_seq (gsr (zxm ?_))); refine gp zen ?_; refine gnt (gif rfl (fun hc4 => ?_) (fun hc4 => ?_))
 ·refine gsr (zxa ?_); refine gnt (gc_ret (gx_then_ret (gx_ret1 rfl (by conv => lhs; whnf) ?_))); have ha : a = none := by cases a <;> simp_all
  subst ha; obtain ⟨rfl, rfl⟩ := hx.none; exact fun w' hw => ⟨(none, 0), rfl, hw.rowNil.z⟩
 ·refine gc_skip (gx_then (gsr (ze0 fun b5 => ?_))); refine zxm ?_; refine gl_append (wt0 rfl) rfl rfl (by repeat (first | exact Pick.here | apply Pick.there)) Ty.el_49 (fun w' hw => hw.rdOld hx) h1 (by simp only [maxLen]; omega) (by omega) ?_; intro a1 c1; refine zxa ?_; refine gnt (gc_ret (gx_ret1 rfl (by conv => lhs; whnf) ?_)); rw [Nat.zero_add]; exact fun w' hw => ⟨(a1, c1), rfl, hw.z⟩
end
section
theorem vl_digs {lf : Int} {e1 e2 n1 n2 c1 c2 : Nat} {a1 a2 : Option Addr} {l1 l2 : List Dig} {w : World} {F : Nat → Prop} (k1 : n1 ≤ c1) (k2 : n2 ≤ c2) (h : stars [rowR e1 16 a1 n1 c1 (l1.map dc).flatten, rowR e2 16 a2 n2 c2 (l2.map dc).flatten] w F) :
    stars [VlR RdSig [.int .i64 lf, .slice a1 n1 c1, .slice a2 n2 c2] ⟨lf, l1, l2⟩] w F := by
  have h1 := ls_row (rd := fun _ _ => RdDig) (fun _ _ _ => rfl) dc_length h
  have h2 := ls_row (rd := fun _ _ => RdDig) (fun _ _ _ => rfl) dc_length (stars_swap h1)
  exact vl_sig k1 k2 (stars_swap h2)
theorem vl_blockE {b : Block} {q : List Value} {e1 e2 n1 n2 c1 c2 : Nat} {a1 a2 : Option Addr} {css : List (List Value)} {w : World} {F : Nat → Prop} (h1 : ∀ x ∈ css, List.length x = 1)
    (h : stars [VlR RdQC q b.justify, rowR e1 1 a1 n1 c1 css.flatten, ElR RdBytes css b.payload, rowR e2 17 a2 n2 c2 (b.next.map vdC).flatten] w F) :
    stars [VlR RdBlock (.int .i64 b.epoch :: .int .i64 b.round :: (dc b.parent ++ (q ++ [.slice a1 n1 c1, .slice a2 n2 c2]))) b] w F := by
  have k1 : n1 ≤ c1 := by obtain ⟨_, _, _, ⟨_, _, hr, _⟩, _⟩ := h; exact hr.2.1
  have k2 : n2 ≤ c2 := by obtain ⟨_, _, _, ⟨_, _, _, ⟨_, _, _, ⟨_, _, hr, _⟩, _⟩, _⟩, _⟩ := h; exact hr.2.1
  obtain ⟨F1, F2, g1, g2, hF, hd⟩ := h
  obtain ⟨G1, G2, p1, p2, hG, gd⟩ := stars_split (M := [rowR e1 1 a1 n1 c1 css.flatten, ElR RdBytes css b.payload]) (L := [rowR e2 17 a2 n2 c2 (b.next.map vdC).flatten]) g2
  have p1' := ls_of (size := 1) h1 p1
  have p2' := ls_row (rd := fun _ _ => RdVdr) (fun _ _ _ => rfl) vdC_len p2
  have g2' : stars ([LsR RdBytes 1 a1 n1 b.payload] ++ [LsR (fun _ _ => RdVdr) 17 a2 n2 b.next]) w F2 := by
    have := stars_append p1' p2' gd
    rwa [← fp_eq hG] at this
  exact vl_block k1 k2 ⟨F1, F2, g1, g2', hF, hd⟩
attribute [local irreducible] Gl Gc Gx Gs Runs Wt
attribute [local irreducible] dc qcC blkC
theorem copiedQC_ok {w : World} {F : Nat → Prop} {qs : List Value} {q : QC} (h : stars [] w F) (hq : RdQC w (fun k => ¬ F k) qs q) (hs : smQC q) :
    Calls Tryz.prog 53 #[.agg qs.toArray] w (Post w F (fun x : List Value => .agg x.toArray) (fun x => [pureR (x.length = 19 ∧ ∀ v ∈ x, v.oneCell' = true), VlR RdQC x q])) := by
 obtain ⟨av, nv, kv, rfl, hq1, hq2⟩ := hq; have hnv := hq2.len (by decide)
 obtain ⟨hs1, hs2⟩ := hs; refine g_enter (env := [(0, _)]) Tryz.func53 rfl h Tryz.ntmps53 rfl rfl ?_; refine gsr (zbN fun b1 => ?_); refine zal fun b2 => ?_; refine gl_eqc (cs' := qcC) (by repeat (first | exact Pick.here | apply Pick.there)) (by kernel_rfl) ?_; refine zxs ?_; refine zxa ?_; refine gnt (gc_seq (gsr (gp zfa ?_))); refine gp zl ?_; refine gp zln ?_; refine zxm ?_; refine gnt (gc_block (gc_loop (α := Nat × Option Addr × Nat × List (List Value)) (fun y => [pureR (y.1 ≤ nv ∧ ∀ c ∈ y.2.2.2, List.length c = 4), rowR 174 4 y.2.1 y.1 y.2.2.1 y.2.2.2.flatten, ElR RdSigned y.2.2.2 (q.votes.take y.1), blk b1 47 (.int .i64 q.epoch :: .int .i64 q.round :: (dc q.block ++ [.slice av nv kv])), blk b2 47 qcC]) (fun y => [(3, .slice y.2.1 y.1 y.2.2.1), (9, .int .i64 (y.1 : Int))]) [5, 10, 11, 12, 13, 14, 15, 16, 17, 18, 19, 20, 21, 22, 23, 24, 25, 26, 27, 28, 29] (fun y => nv - y.1) (0, none, 0, []) ?_ ?_ ?_))
 ·refine env_start (by kernel_rfl)
 ·intro w' hw; have hw := St.mapL hw (fun F' hF' => el_nil (rd := RdSigned) hF')
  exact St.pureI ⟨Nat.zero_le _, by simp⟩ ((hw.rowNil (e := 174) (size := 4)).z)
 ·intro y u; obtain ⟨k, a, c, css⟩ := y; refine gc_pureR (fun hk => ?_)
  obtain ⟨hk, hcs⟩ := hk; replace hk : k ≤ nv := hk
  replace hcs : ∀ x ∈ css, List.length x = 4 := hcs
  refine gsr (gp zlt ?_); refine gnt (gc_seq (gif rfl (fun hc10 => ?_) (fun hc10 => ?_)))
  ·try simp only at hc10
   have hk' : k < nv := by omega
   obtain ⟨gx, ox, ce, sg, ha, hA, _, hra, hl4, hsg, hrd⟩ := hq2.elem (i := k) (by decide) hk'; subst ha; obtain ⟨ss, rfl, a1, n1, c1, a2, n2, c2, rfl, k1, k2, hd1, hd2⟩ := hrd; have hss := hs2 sg (List.mem_of_getElem? hsg)
   obtain ⟨hss1, hss2⟩ := hss; have hn1 := RdList.len hd1 (by decide)
   have hn2 := RdList.len hd2 (by decide)
   refine gc_skip (gx_then (gc_seq (gc_block (gsr (gp (r_val (v' := .pointer (some ⟨gx, ox + k * 4, none⟩)) zia (by simp)) ?_))))); refine gp (r_ldNo rfl Ty.row_174 Ty.sz_174 hra hl4 (by decide) hA) ?_; refine zal fun b5 => ?_; refine zsN ?_; refine gnt (gc_seq (gc_regionH [] ?_)); refine yp 0 rfl zfa ?_; refine yp 1 rfl zfa ?_; refine yp 4 rfl zfa ?_; refine yp 5 rfl zfa ?_; refine yo2 2 6 rfl rfl ?_ ?_
   ·refine gp zl ?_; refine yx ?_; refine yo2 3 6 rfl rfl ?_ ?_
    ·refine zc (fun r16 => ?_) (c := fun w1 F1 F2 h1 h2 hd hst => cloneD_ok (xs := (sg.sig.chains.map dc).flatten) h1 ((RdList.row (f := dc) hd1).mv hst.still) (flat_one dc_one _) (by omega))
     refine yx ?_; refine yo 6 rfl ?_; refine gp zl ?_; refine yx ?_; refine yp 8 rfl zfa ?_; refine yp 9 rfl zfa ?_; refine yo 7 rfl ?_; refine zc (fun r20 => ?_) (c := fun w1 F1 F2 h1 h2 hd hst => cloneD_ok (xs := (sg.sig.path.map dc).flatten) h1 ((RdList.row (f := dc) hd2).mv hst.still) (flat_one dc_one _) (by omega))
     refine yx ?_; refine yo 10 rfl ?_; refine zs1 ?_; refine yx ?_; refine yp 11 rfl zfa ?_; refine yp 12 rfl zfa ?_; refine yo 13 rfl ?_; refine zs1 ?_; refine yx ?_; refine yd ?_; refine gx_then (gc_region (zxm ?_)); refine gp zL ?_; refine zeN fun b27 => ?_; refine zapo (fun a28 c28 => ?_)
     refine zxa ?_; refine gl_nil (gx_block_normal (gx_then (gc_region (gp zad ?_)))); refine zxm ?_; refine gl_nil (zrd ((k + 1, a28, c28, css ++ [[.int .i64 sg.who, .int .i64 sg.sig.leaf, .slice r16.1 n1 r16.2, .slice r20.1 n2 r20.2]])) ?_ ?_)
     ·show nv - (k + 1) < nv - k
      omega
     ·intro w' hw; have k1' := row_le hw (e := 27) (size := 16) (a := r16.1) (n := n1) (c := r16.2) (by repeat (first | exact Pick.here | apply Pick.there))
      have k2' := row_le hw (e := 27) (size := 16) (a := r20.1) (n := n2) (c := r20.2) (by repeat (first | exact Pick.here | apply Pick.there))
      have h1 := hw.conv (M := [rowR 27 16 r16.1 n1 r16.2 (sg.sig.chains.map dc).flatten, rowR 27 16 r20.1 n2 r20.2 (sg.sig.path.map dc).flatten]) (by repeat (first | exact Sel.nil | (apply Sel.cons; · (repeat (first | exact Pick.here | apply Pick.there))))) (fun _ _ => vl_digs (lf := sg.sig.leaf) k1' k2')
      have h2 := h1.conv (M := [VlR RdSig [.int .i64 sg.sig.leaf, .slice r16.1 n1 r16.2, .slice r20.1 n2 r20.2] sg.sig]) (by repeat (first | exact Sel.nil | (apply Sel.cons; · (repeat (first | exact Pick.here | apply Pick.there))))) (fun _ _ => vl_signed (who := sg.who))
      have h3 := h2.conv (M := [ElR RdSigned css (q.votes.take k), VlR RdSigned [.int .i64 sg.who, .int .i64 sg.sig.leaf, .slice r16.1 n1 r16.2, .slice r20.1 n2 r20.2] sg]) (by repeat (first | exact Sel.nil | (apply Sel.cons; · (repeat (first | exact Pick.here | apply Pick.there))))) (fun _ _ => el_snoc)
      rw [← takeB_snoc hsg] at h3; refine St.pureI ⟨show k + 1 ≤ nv by omega, fun x hx => (by rcases List.mem_append.1 hx with h | h; exact hcs x h; (simp at h; subst h; rfl))⟩ ?_; rw [show (css ++ [[Value.int .i64 sg.who, .int .i64 sg.sig.leaf, .slice r16.1 n1 r16.2, .slice r20.1 n2 r20.2]]).flatten = css.flatten ++ [Value.int .i64 sg.who, .int .i64 sg.sig.leaf, .slice r16.1 n1 r16.2, .slice r20.1 n2 r20.2] by simp]; exact h3.z
    ·refine gp zl ?_; refine yx ?_; refine yo 3 rfl ?_; refine zc (fun r16 => ?_) (c := fun w1 F1 F2 h1 h2 hd hst => cloneD_ok (xs := (sg.sig.chains.map dc).flatten) h1 ((RdList.row (f := dc) hd1).mv hst.still) (flat_one dc_one _) (by omega))
     refine yx ?_; refine yp 8 rfl zfa ?_; refine yp 9 rfl zfa ?_; refine yo 7 rfl ?_; refine zc (fun r20 => ?_) (c := fun w1 F1 F2 h1 h2 hd hst => cloneD_ok (xs := (sg.sig.path.map dc).flatten) h1 ((RdList.row (f := dc) hd2).mv hst.still) (flat_one dc_one _) (by omega))
     refine yx ?_; refine yo 10 rfl ?_; refine zs1 ?_; refine yx ?_; refine yp 11 rfl zfa ?_; refine yp 12 rfl zfa ?_; refine yo 13 rfl ?_; refine zs1 ?_; refine yx ?_; refine yd ?_; refine gx_then (gc_region (zxm ?_)); refine gp zL ?_; refine zeN fun b27 => ?_; refine zapo (fun a28 c28 => ?_)
     refine zxa ?_; refine gl_nil (gx_block_normal (gx_then (gc_region (gp zad ?_)))); refine zxm ?_; refine gl_nil (zrd ((k + 1, a28, c28, css ++ [[.int .i64 sg.who, .int .i64 sg.sig.leaf, .slice r16.1 n1 r16.2, .slice r20.1 n2 r20.2]])) ?_ ?_)
     ·show nv - (k + 1) < nv - k
      omega
     ·intro w' hw; have k1' := row_le hw (e := 27) (size := 16) (a := r16.1) (n := n1) (c := r16.2) (by repeat (first | exact Pick.here | apply Pick.there))
      have k2' := row_le hw (e := 27) (size := 16) (a := r20.1) (n := n2) (c := r20.2) (by repeat (first | exact Pick.here | apply Pick.there))
      have h1 := hw.conv (M := [rowR 27 16 r16.1 n1 r16.2 (sg.sig.chains.map dc).flatten, rowR 27 16 r20.1 n2 r20.2 (sg.sig.path.map dc).flatten]) (by repeat (first | exact Sel.nil | (apply Sel.cons; · (repeat (first | exact Pick.here | apply Pick.there))))) (fun _ _ => vl_digs (lf := sg.sig.leaf) k1' k2')
      have h2 := h1.conv (M := [VlR RdSig [.int .i64 sg.sig.leaf, .slice r16.1 n1 r16.2, .slice r20.1 n2 r20.2] sg.sig]) (by repeat (first | exact Sel.nil | (apply Sel.cons; · (repeat (first | exact Pick.here | apply Pick.there))))) (fun _ _ => vl_signed (who := sg.who))
      have h3 := h2.conv (M := [ElR RdSigned css (q.votes.take k), VlR RdSigned [.int .i64 sg.who, .int .i64 sg.sig.leaf, .slice r16.1 n1 r16.2, .slice r20.1 n2 r20.2] sg]) (by repeat (first | exact Sel.nil | (apply Sel.cons; · (repeat (first | exact Pick.here | apply Pick.there))))) (fun _ _ => el_snoc)
      rw [← takeB_snoc hsg] at h3; refine St.pureI ⟨show k + 1 ≤ nv by omega, fun x hx => (by rcases List.mem_append.1 hx with h | h; exact hcs x h; (simp at h; subst h; rfl))⟩ ?_; rw [show (css ++ [[Value.int .i64 sg.who, .int .i64 sg.sig.leaf, .slice r16.1 n1 r16.2, .slice r20.1 n2 r20.2]]).flatten = css.flatten ++ [Value.int .i64 sg.who, .int .i64 sg.sig.leaf, .slice r16.1 n1 r16.2, .slice r20.1 n2 r20.2] by simp]; exact h3.z
   ·refine gp zl ?_; refine yx ?_; refine yo 2 rfl ?_; refine gp zl ?_; refine yx ?_; refine yo 3 rfl ?_; refine zc (fun r16 => ?_) (c := fun w1 F1 F2 h1 h2 hd hst => cloneD_ok (xs := (sg.sig.chains.map dc).flatten) h1 ((RdList.row (f := dc) hd1).mv hst.still) (flat_one dc_one _) (by omega))
    refine yx ?_; refine yp 8 rfl zfa ?_; refine yp 9 rfl zfa ?_; refine yo 7 rfl ?_; refine zc (fun r20 => ?_) (c := fun w1 F1 F2 h1 h2 hd hst => cloneD_ok (xs := (sg.sig.path.map dc).flatten) h1 ((RdList.row (f := dc) hd2).mv hst.still) (flat_one dc_one _) (by omega))
    refine yx ?_; refine yo 10 rfl ?_; refine zs1 ?_; refine yx ?_; refine yp 11 rfl zfa ?_; refine yp 12 rfl zfa ?_; refine yo 13 rfl ?_; refine zs1 ?_; refine yx ?_; refine yd ?_; refine gx_then (gc_region (zxm ?_)); refine gp zL ?_; refine zeN fun b27 => ?_; refine zapo (fun a28 c28 => ?_)
    refine zxa ?_; refine gl_nil (gx_block_normal (gx_then (gc_region (gp zad ?_)))); refine zxm ?_; refine gl_nil (zrd ((k + 1, a28, c28, css ++ [[.int .i64 sg.who, .int .i64 sg.sig.leaf, .slice r16.1 n1 r16.2, .slice r20.1 n2 r20.2]])) ?_ ?_)
    ·show nv - (k + 1) < nv - k
     omega
    ·intro w' hw; have k1' := row_le hw (e := 27) (size := 16) (a := r16.1) (n := n1) (c := r16.2) (by repeat (first | exact Pick.here | apply Pick.there))
     have k2' := row_le hw (e := 27) (size := 16) (a := r20.1) (n := n2) (c := r20.2) (by repeat (first | exact Pick.here | apply Pick.there))
     have h1 := hw.conv (M := [rowR 27 16 r16.1 n1 r16.2 (sg.sig.chains.map dc).flatten, rowR 27 16 r20.1 n2 r20.2 (sg.sig.path.map dc).flatten]) (by repeat (first | exact Sel.nil | (apply Sel.cons; · (repeat (first | exact Pick.here | apply Pick.there))))) (fun _ _ => vl_digs (lf := sg.sig.leaf) k1' k2')
     have h2 := h1.conv (M := [VlR RdSig [.int .i64 sg.sig.leaf, .slice r16.1 n1 r16.2, .slice r20.1 n2 r20.2] sg.sig]) (by repeat (first | exact Sel.nil | (apply Sel.cons; · (repeat (first | exact Pick.here | apply Pick.there))))) (fun _ _ => vl_signed (who := sg.who))
     have h3 := h2.conv (M := [ElR RdSigned css (q.votes.take k), VlR RdSigned [.int .i64 sg.who, .int .i64 sg.sig.leaf, .slice r16.1 n1 r16.2, .slice r20.1 n2 r20.2] sg]) (by repeat (first | exact Sel.nil | (apply Sel.cons; · (repeat (first | exact Pick.here | apply Pick.there))))) (fun _ _ => el_snoc)
     rw [← takeB_snoc hsg] at h3; refine St.pureI ⟨show k + 1 ≤ nv by omega, fun x hx => (by rcases List.mem_append.1 hx with h | h; exact hcs x h; (simp at h; subst h; rfl))⟩ ?_; rw [show (css ++ [[Value.int .i64 sg.who, .int .i64 sg.sig.leaf, .slice r16.1 n1 r16.2, .slice r20.1 n2 r20.2]]).flatten = css.flatten ++ [Value.int .i64 sg.who, .int .i64 sg.sig.leaf, .slice r16.1 n1 r16.2, .slice r20.1 n2 r20.2] by simp]; exact h3.z
  ·try simp only at hc10
   have hk' : k = nv := by omega
   subst hk'; have htk : q.votes.take k = q.votes := List.take_of_length_le (by omega)
   rw [htk]; refine gc_exit ?_; refine gx_then_exit ?_; refine gx_round_exit ?_; refine gx_block_hit ?_; refine gx_then (gsr (zxm ?_)); refine gp zfa ?_; refine zs1 ?_; refine zxs ?_; refine gp zL ?_; refine zsN ?_; refine gnt (gc_ret (gx_retc rfl rfl (ldA Ty.row_47 Ty.sz_47) ?_)); intro w' hw; have h1 := hw.conv (M := [rowR 174 4 a k c css.flatten, ElR RdSigned css q.votes]) (by repeat (first | exact Sel.nil | (apply Sel.cons; · (repeat (first | exact Pick.here | apply Pick.there))))) (fun _ _ => vl_qcE hcs)
   exact ⟨_, rfl, St.pureI ⟨by simp [dc_length], all_cons' rfl (all_cons' rfl (all_app' (dc_one _) (all_cons' rfl all_nil')))⟩ (h1.z)⟩
theorem copied_ok {w : World} {F : Nat → Prop} {cs : List Value} {b : Block} (h : stars [] w F) (hx : RdBlock w (fun k => ¬ F k) cs b) (hs : smBlk b) :
    Calls Tryz.prog 52 #[.agg cs.toArray] w (Post w F (fun x : List Value => .agg x.toArray) (fun x => [pureR (x.length = 39 ∧ ∀ v ∈ x, v.oneCell' = true), VlR RdBlock x b])) := by
 obtain ⟨q, a1, n1, c1, a2, n2, c2, rfl, hx1, hx2, hx3, hx4, hx5⟩ := hx; have hlq := hx1.len
 have ilq := Len.of hlq
 have jlq := One.of hx1.one
 have hn1 := hx3.len (by decide)
 have hn2 := hx5.len (by decide)
 obtain ⟨hs1, hs2, hs3, hs4⟩ := hs; refine g_enter (env := [(0, _)]) Tryz.func52 rfl h Tryz.ntmps52 rfl rfl ?_; refine gsr (zbN fun b1 => ?_); refine zal fun b2 => ?_; refine gl_eqc (cs' := blkC) (by repeat (first | exact Pick.here | apply Pick.there)) (by kernel_rfl) ?_; refine zxs ?_; refine gp zfa ?_; refine gp (zL (sg := q)) ?_; refine zc (fun x8 => ?_) (c := fun w1 F1 F2 h1 h2 hd hst => copiedQC_ok h1 (hx1.mv hst.still) hs1)
 refine gl_pureR (fun hx8 => ?_)
 obtain ⟨hl8, ho8⟩ := hx8; replace hl8 : x8.length = 19 := hl8
 have i8 := Len.of hl8
 have j8 := One.of (show ∀ v ∈ x8, v.oneCell' = true from ho8)
 refine gp zfa ?_; refine zsN ?_; refine zxs ?_; refine gp zfa ?_; refine gp zl ?_; refine zc (fun r12 => ?_) (c := fun w1 F1 F2 h1 h2 hd hst => cloneV_ok (xs := (b.next.map vdC).flatten) h1 ((RdList.row (f := vdC) hx5).mv hst.still) (flat_one vdC_one _) (by omega))
 refine gp zfa ?_; refine zs1 ?_; refine zxs ?_; refine zxa ?_; refine gnt (gc_seq (gsr (gp zfa ?_))); refine gp zl ?_; refine gp zln ?_; refine zxm ?_; refine gnt (gc_block (gc_loop (α := Nat × Option Addr × Nat × List (List Value)) (fun y => [pureR (y.1 ≤ n1 ∧ ∀ c ∈ y.2.2.2, List.length c = 1), rowR 68 1 y.2.1 y.1 y.2.2.1 y.2.2.2.flatten, ElR RdBytes y.2.2.2 (b.payload.take y.1), blk b1 51 (.int .i64 b.epoch :: .int .i64 b.round :: (dc b.parent ++ (x8 ++ [.slice a1 n1 c1, .slice r12.1 n2 r12.2]))), blk b2 51 blkC, VlR RdQC x8 b.justify, rowR 78 17 r12.1 n2 r12.2 (b.next.map vdC).flatten]) (fun y => [(3, .slice y.2.1 y.1 y.2.2.1), (17, .int .i64 (y.1 : Int))]) [5, 18, 19, 20, 21, 22, 23, 24, 25, 26] (fun y => n1 - y.1) (0, none, 0, []) ?_ ?_ ?_))
 ·refine env_start (by kernel_rfl)
 ·intro w' hw; have hw := St.mapL hw (fun F' hF' => el_nil (rd := RdBytes) hF')
  exact St.pureI ⟨Nat.zero_le _, by simp⟩ ((hw.rowNil (e := 68) (size := 1)).z)
 ·intro y u; obtain ⟨k, a, c, css⟩ := y; refine gc_pureR (fun hk => ?_)
  obtain ⟨hk, hcs⟩ := hk; replace hk : k ≤ n1 := hk
  replace hcs : ∀ x ∈ css, List.length x = 1 := hcs
  refine gsr (gp zlt ?_); refine gnt (gc_seq (gif rfl (fun hc18 => ?_) (fun hc18 => ?_)))
  ·try simp only at hc18
   have hk' : k < n1 := by omega
   obtain ⟨gx, ox, ce, px, ha, hA, _, hra, hl1, hpx, hrd⟩ := hx3.elem (i := k) (by decide) hk'; subst ha; obtain ⟨ax, nx, cx, rfl, kx, hrx⟩ := hrd; have hpl := hs4 px (List.mem_of_getElem? hpx)
   have hnx : nx = px.length := by have := hrx.1; simp at this; omega
   refine gc_skip (gx_then (gc_seq (gc_block (gsr (gp (r_val (v' := .pointer (some ⟨gx, ox + k * 1, none⟩)) zia (by simp)) ?_))))); refine gp (r_ld1o rfl Ty.row_68 (hra 0 _ rfl) hA) ?_; refine zxa ?_; refine gnt (gc_region (zxm ?_)); refine zxm ?_; refine zc (fun r23 => ?_) (c := fun w1 F1 F2 h1 h2 hd hst => cloneBytes_ok (xs := px.map B8) h1 (hrx.mv hst.still) (one_B8 _) (by omega))
   refine ze1 fun b24 => ?_; refine zapo (fun a25 c25 => ?_)
   refine zxa ?_; refine gl_nil (gx_block_normal (gx_then (gc_region (gp zad ?_)))); refine zxm ?_; refine gl_nil (zrd ((k + 1, a25, c25, css ++ [[.slice r23.1 nx r23.2]])) ?_ ?_)
   ·show n1 - (k + 1) < n1 - k
    omega
   ·intro w' hw; have h1 := hw.conv (M := [rowR 5 1 r23.1 nx r23.2 (px.map B8)]) (by repeat (first | exact Sel.nil | (apply Sel.cons; · (repeat (first | exact Pick.here | apply Pick.there))))) (fun _ _ => vl_bytes)
    have h3 := h1.conv (M := [ElR RdBytes css (b.payload.take k), VlR RdBytes [.slice r23.1 nx r23.2] px]) (by repeat (first | exact Sel.nil | (apply Sel.cons; · (repeat (first | exact Pick.here | apply Pick.there))))) (fun _ _ => el_snoc)
    rw [← takeB_snoc hpx] at h3; refine St.pureI ⟨show k + 1 ≤ n1 by omega, fun x hx => (by rcases List.mem_append.1 hx with h | h; exact hcs x h; (simp at h; subst h; rfl))⟩ ?_; rw [show (css ++ [[Value.slice r23.1 nx r23.2]]).flatten = css.flatten ++ [Value.slice r23.1 nx r23.2] by simp]; exact h3.z
  ·try simp only at hc18
   have hk' : k = n1 := by omega
   subst hk'; have htk : b.payload.take k = b.payload := List.take_of_length_le (by omega)
   rw [htk]; refine gc_exit ?_; refine gx_then_exit ?_; refine gx_round_exit ?_; refine gx_block_hit ?_; refine gx_then (gsr (zxm ?_)); refine gp zfa ?_; refine zs1 ?_; refine zxs ?_; refine gp zL ?_; refine zsN ?_; refine gnt (gc_ret (gx_retc rfl rfl (ldA Ty.row_51 Ty.sz_51) ?_)); intro w' hw; have h1 := hw.conv (M := [VlR RdQC x8 b.justify, rowR 68 1 a k c css.flatten, ElR RdBytes css b.payload, rowR 78 17 r12.1 n2 r12.2 (b.next.map vdC).flatten]) (by repeat (first | exact Sel.nil | (apply Sel.cons; · (repeat (first | exact Pick.here | apply Pick.there))))) (fun _ _ => vl_blockE hcs)
   exact ⟨_, rfl, St.pureI ⟨by simp [dc_length, hl8], all_cons' rfl (all_cons' rfl (all_app' (dc_one _) (all_app' ho8 (all_cons' rfl (all_cons' rfl all_nil')))))⟩ (h1.z)⟩
theorem bfits_ok {w : World} {F : Nat → Prop} {w' w2 : World} {A A2 : Nat → Prop} {qs cs : List Value} {q : QC} {b : Block} {d : Dig} (h : stars [] w F) (hq : RdQC w' A qs q) (hx : RdBlock w2 A2 cs b) :
    Calls Tryz.prog 51 #[.agg qs.toArray, .agg (dc d).toArray, .agg cs.toArray] w (Post w F (fun _ : Unit => .bool (fitsQ q d b)) (fun _ => [])) := by
 obtain ⟨av, nv, kv, rfl, hq1, hq2⟩ := hq; obtain ⟨j, a1, n1, c1, a2, n2, c2, rfl, hx1, hx2, hx3, hx4, hx5⟩ := hx; have ilq := Len.of hx1.len
 have jlq := One.of hx1.one
 refine g_enter (env := [(0, _), (1, _), (2, _)]) Tryz.func51 rfl h Tryz.ntmps51 rfl rfl ?_; refine gsr (zbN fun b3 => ?_); refine zbN fun b4 => ?_; refine zbN fun b5 => ?_; refine zxa ?_; refine gnt (gc_seq ?_); by_cases hS1 : q.block = d
 ·by_cases hS2 : q.epoch = b.epoch
  ·by_cases hS3 : q.round = b.round
   ·refine gc_region (gp zfa ?_); refine gp zL ?_; refine gp zL ?_; refine gp (r_bool (c := true) zed (by simp [hS1])) ?_; refine zxm ?_; refine gq zfa ?_; refine gq zl ?_; refine gq zfa ?_; refine gq zl ?_; refine gq (r_bool (c := true) zei (by simp [hS2])) ?_; refine gp zpk ?_; refine zxm ?_; refine gq zfa ?_; refine gq zl ?_; refine gq zfa ?_; refine gq zl ?_; refine gq (r_bool (c := true) zei (by simp [hS3])) ?_; refine gp zpk ?_; refine zxa ?_; refine gnt (gc_ret (gx_ret1 rfl (by conv => lhs; whnf) ?_)); exact fun w' hw => ⟨(), by simp [fitsQ, *], hw.z⟩
   ·refine gc_region (gp zfa ?_); refine gp zL ?_; refine gp zL ?_; refine gp (r_bool (c := true) zed (by simp [hS1])) ?_; refine zxm ?_; refine gq zfa ?_; refine gq zl ?_; refine gq zfa ?_; refine gq zl ?_; refine gq (r_bool (c := true) zei (by simp [hS2])) ?_; refine gp zpk ?_; refine zxm ?_; refine gq zfa ?_; refine gq zl ?_; refine gq zfa ?_; refine gq zl ?_; refine gq (r_bool (c := false) zei (by simp [hS3])) ?_; refine gp zpk ?_; refine zxa ?_; refine gnt (gc_ret (gx_ret1 rfl (by conv => lhs; whnf) ?_)); exact fun w' hw => ⟨(), by simp [fitsQ, *], hw.z⟩
  ·refine gc_region (gp zfa ?_); refine gp zL ?_; refine gp zL ?_; refine gp (r_bool (c := true) zed (by simp [hS1])) ?_; refine zxm ?_; refine gq zfa ?_; refine gq zl ?_; refine gq zfa ?_; refine gq zl ?_; refine gq (r_bool (c := false) zei (by simp [hS2])) ?_; refine gp zpk ?_; refine zxm ?_; refine gn ?_; refine gn ?_; refine gn ?_; refine gn ?_; refine gn ?_; refine gp zpk ?_; refine zxa ?_; refine gnt (gc_ret (gx_ret1 rfl (by conv => lhs; whnf) ?_)); exact fun w' hw => ⟨(), by simp [fitsQ, *], hw.z⟩
 ·refine gc_region (gp zfa ?_); refine gp zL ?_; refine gp zL ?_; refine gp (r_bool (c := false) zed (by simp [hS1])) ?_; refine zxm ?_; refine gn ?_; refine gn ?_; refine gn ?_; refine gn ?_; refine gn ?_; refine gp zpk ?_; refine zxm ?_; refine gn ?_; refine gn ?_; refine gn ?_; refine gn ?_; refine gn ?_; refine gp zpk ?_; refine zxa ?_; refine gnt (gc_ret (gx_ret1 rfl (by conv => lhs; whnf) ?_)); exact fun w' hw => ⟨(), by simp [fitsQ, *], hw.z⟩
end
section
instance : KeyT Tryz.prog 27 (fun d : Dig => Value.agg (dc d).toArray) := keyT_dig ART.h UNT.h SZ.h
abbrev digV (d : Dig) : Value := .agg (dc d).toArray
def nodeV (l : List (Dig × Block)) (css : List (List Value)) : List (Dig × Value) := (l.map (fun p => p.1)).zip (css.map fun c => Value.agg c.toArray)
def treeC (t : Tr) (g : Nat) (ao : Option Addr) (co : Nat) (ac : Option Addr) (cc : Nat) : List Value := dc t.root ++ [.map (some g), .slice ao t.nodes.length co, .slice ac t.certs.length cc]
theorem treeC_len (t : Tr) (g : Nat) (ao : Option Addr) (co : Nat) (ac : Option Addr) (cc : Nat) : (treeC t g ao co ac cc).length = 19 := by simp [treeC, dc_length]
structure TrM (w : World) (A : Nat → Prop) (q : Nat) (t : Tr) (g : Nat) (ao : Option Addr) (co : Nat) (ac : Option Addr) (cc : Nat) (css : List (List Value)) : Prop where
  row : RdRow w A 19 (some ⟨q, 0, none⟩) 1 (treeC t g ao co ac cc)
  mp : RdMap w A g (encK digV (nodeV t.nodes css))
  el : css.length = t.nodes.length ∧ ∀ (i : Nat) (c : List Value) (p : Dig × Block), css[i]? = some c → t.nodes[i]? = some p → RdBlock w A c p.2
  ord : RdList (fun cs d => cs = dc d) w A 16 ao t.nodes.length (keysT t)
  cer : RdList (RdQC w A) w A 19 ac t.certs.length t.certs
def RdTree (w : World) (A : Nat → Prop) (q : Nat) (t : Tr) : Prop := ∃ g ao co ac cc css, TrM w A q t g ao co ac cc css
theorem TrM.mv {w w' : World} {A A' : Nat → Prop} {q : Nat} {t : Tr} {g : Nat} {ao : Option Addr} {co : Nat} {ac : Option Addr} {cc : Nat} {css : List (List Value)} (h : TrM w A q t g ao co ac cc css) (hk : Still w A w' A') : TrM w' A' q t g ao co ac cc css :=
  ⟨h.row.mv hk, h.mp.mv hk, ⟨h.el.1, fun i c p hc hp => (h.el.2 i c p hc hp).mv hk⟩, h.ord.mv hk fun _ _ h => h, h.cer.mv hk fun _ _ h => h.mv hk⟩
theorem RdTree.mv {w w' : World} {A A' : Nat → Prop} {q : Nat} {t : Tr} (h : RdTree w A q t) (hk : Still w A w' A') : RdTree w' A' q t := by
  obtain ⟨g, ao, co, ac, cc, css, h⟩ := h; exact ⟨g, ao, co, ac, cc, css, h.mv hk⟩
section
variable {w : World} {A : Nat → Prop} {q : Nat} {t : Tr} {g : Nat} {ao : Option Addr} {co : Nat} {ac : Option Addr} {cc : Nat} {css : List (List Value)}
theorem TrM.cells (h : TrM w A q t g ao co ac cc css) : A q ∧ w.rangeAt q 0 (dc t.root) ∧ w.cell? ⟨q, 16, none⟩ = some (.map (some g)) ∧ w.cell? ⟨q, 17, none⟩ = some (.slice ao t.nodes.length co) ∧ w.cell? ⟨q, 18, none⟩ = some (.slice ac t.certs.length cc) := by
  obtain ⟨g', o, ha, hA, _, hr⟩ := h.row.2.2 (by decide)
  cases ha
  have hd := dc_length t.root
  refine ⟨hA, fun j v hj => hr j v ?_, hr 16 _ ?_, hr 17 _ ?_, hr 18 _ ?_⟩
  · rw [treeC, List.getElem?_append_left ((List.getElem?_eq_some_iff.1 hj).1)]; exact hj
  all_goals (rw [treeC, List.getElem?_append_right (by rw [hd]; decide), hd]; rfl)
theorem nodeV_none {d : Dig} : ∀ {l : List (Dig × Block)} {css : List (List Value)} {k : Nat}, lkN d l = none → atK d (nodeV l css) k = none
  | [], _, _, _ => by simp [nodeV, atK]
  | p :: l, [], _, _ => by simp [nodeV, atK]
  | p :: l, c :: css, k, h => by
    unfold lkN at h
    split at h
    · cases h
    · rename_i hne
      have ih := nodeV_none (css := css) (k := k + 1) h
      simp only [nodeV, List.map_cons, List.zip_cons_cons, atK] at ih ⊢
      rw [if_neg (fun e => hne (by first | exact e | exact e.symm))]; exact ih
theorem nodeV_some {d : Dig} {b : Block} : ∀ {l : List (Dig × Block)} {css : List (List Value)} {k : Nat}, css.length = l.length → lkN d l = some b → ∃ i c, l[i]? = some (d, b) ∧ css[i]? = some c ∧ atK d (nodeV l css) k = some (k + i, .agg c.toArray)
  | [], _, _, _, h => by cases h
  | p :: l, [], _, hl, _ => by simp at hl
  | p :: l, c :: css, k, hl, h => by
    unfold lkN at h
    split at h
    · rename_i e
      cases h
      refine ⟨0, c, by subst e; rfl, rfl, ?_⟩
      simp only [nodeV, List.map_cons, List.zip_cons_cons, atK]
      rw [if_pos (by first | exact e | exact e.symm)]; rfl
    · rename_i hne
      obtain ⟨i, c', h1, h2, h3⟩ := nodeV_some (css := css) (k := k + 1) (by simpa using hl) h
      refine ⟨i + 1, c', h1, h2, ?_⟩
      simp only [nodeV, List.map_cons, List.zip_cons_cons, atK] at h3 ⊢
      rw [if_neg (fun e => hne (by first | exact e | exact e.symm)), h3]; congr 2; omega
theorem TrM.look (h : TrM w A q t g ao co ac cc css) {d : Dig} {b : Block} (hl : lkN d t.nodes = some b) : ∃ c, getK d (nodeV t.nodes css) = some (.agg c.toArray) ∧ RdBlock w A c b := by
  obtain ⟨i, c, h1, h2, h3⟩ := nodeV_some (k := 0) h.el.1 hl
  exact ⟨c, by rw [getK, h3]; rfl, h.el.2 i c _ h2 h1⟩
theorem TrM.lookn {d : Dig} (hl : lkN d t.nodes = none) : getK d (nodeV t.nodes css) = none := by
  rw [getK, nodeV_none hl]; rfl
theorem nodeV_len (h : css.length = t.nodes.length) : (encK digV (nodeV t.nodes css)).length = t.nodes.length := by
  simp [encK, nodeV, h]
end
def idxQ (d : Dig) : Nat → List QC → Int
  | _, [] => -1
  | k, q :: l => if q.block = d then (k : Int) else idxQ d (k + 1) l
theorem idxQ_at {d : Dig} : ∀ (l : List QC) (k j : Nat), (∀ i, i < j → ∀ q, l[i]? = some q → q.block ≠ d) → j ≤ l.length → idxQ d k l = idxQ d (k + j) (l.drop j) ∧ certF d l = certF d (l.drop j)
  | [], k, j, _, hj => by have : j = 0 := by simpa using hj
                          subst this; exact ⟨rfl, rfl⟩
  | r :: l, k, 0, _, _ => ⟨rfl, rfl⟩
  | r :: l, k, j + 1, h, hj => by
    have h0 := h 0 (by omega) r rfl
    have ih := idxQ_at l (k + 1) j (fun i hi r' hr => h (i + 1) (by omega) r' (by simpa using hr)) (by simpa using hj)
    rw [idxQ, if_neg h0, certF, if_neg h0, List.drop_succ_cons, ih.1, ih.2, show k + 1 + j = k + (j + 1) by omega]
    exact ⟨rfl, rfl⟩
theorem idxQ_hit {d : Dig} {l : List QC} {j : Nat} {r : QC} (h : ∀ i, i < j → ∀ r, l[i]? = some r → r.block ≠ d) (hr : l[j]? = some r) (he : r.block = d) : idxQ d 0 l = (j : Int) ∧ certF d l = some r := by
  have hlt := (List.getElem?_eq_some_iff.1 hr).1
  have hh := idxQ_at l 0 j h (by omega)
  have : l.drop j = r :: l.drop (j + 1) := by rw [List.drop_eq_getElem_cons hlt, (List.getElem?_eq_some_iff.1 hr).2]
  rw [hh.1, hh.2, Nat.zero_add, this, idxQ, if_pos he, certF, if_pos he]; exact ⟨rfl, rfl⟩
theorem idxQ_miss {d : Dig} {l : List QC} (h : ∀ i, i < l.length → ∀ r, l[i]? = some r → r.block ≠ d) : idxQ d 0 l = -1 ∧ certF d l = none := by
  have hh := idxQ_at l 0 l.length h (Nat.le_refl _)
  rw [hh.1, hh.2, List.drop_length]; exact ⟨rfl, rfl⟩
theorem idxQ_cases (d : Dig) (l : List QC) : (idxQ d 0 l = -1 ∧ certF d l = none) ∨ ∃ j r, idxQ d 0 l = ((j : Nat) : Int) ∧ certF d l = some r ∧ l[j]? = some r := by
  by_cases h : ∃ j : Nat, ∃ r, l[j]? = some r ∧ r.block = d
  · right
    have hm : ∃ j : Nat, (∃ r, l[j]? = some r ∧ r.block = d) ∧ ∀ i, i < j → ¬ ∃ r, l[i]? = some r ∧ r.block = d := by
      obtain ⟨j, hj⟩ := h
      induction j using Nat.strongRecOn with
      | ind j ih =>
        by_cases hh : ∃ i, i < j ∧ ∃ r, l[i]? = some r ∧ r.block = d
        · obtain ⟨i, hi, hr⟩ := hh; exact ih i hi hr
        · exact ⟨j, hj, fun i hi hr => hh ⟨i, hi, hr⟩⟩
    obtain ⟨j, ⟨r, hr, he⟩, hn⟩ := hm
    have := idxQ_hit (fun i hi r' hr' e => hn i hi ⟨r', hr', e⟩) hr he
    exact ⟨j, r, this.1, this.2, hr⟩
  · left; exact idxQ_miss fun i _ r hr e => h ⟨i, r, hr, e⟩
attribute [local irreducible] Gl Gc Gx Gs Runs Wt
attribute [local irreducible] dc qcC blkC RdBlock
theorem troot_ok {w : World} {F : Nat → Prop} {q : Nat} {t : Tr} (hx : RdTree w (fun k => ¬ F k) q t) (hok : TOk t) (h : stars [] w F) :
    Calls Tryz.prog 33 #[.pointer (some ⟨q, 0, none⟩)] w (Post w F (fun _ : Unit => .agg (dc t.root).toArray) (fun _ => [])) := by
 obtain ⟨g, ao, co, ac, cc, css, hT⟩ := hx; obtain ⟨hqA, hrt, h16, h17, h18⟩ := hT.cells; have hle := hok.le
 have hcl := hok.cl
 have hce := hok.ce
 refine g_enter (env := [(0, .pointer (some ⟨q, 0, none⟩))]) Tryz.func33 rfl h Tryz.ntmps33 rfl rfl ?_; refine gsr (zal fun b2 => ?_); refine zxs ?_; refine zxm ?_; refine gp znc ?_; refine gp zfa ?_; refine gp (r_ldNo rfl Ty.row_27 Ty.sz_27 hrt (dc_length _) (by decide) hqA) ?_; refine zsN ?_; refine gnt (gc_ret (gx_retc rfl rfl (ldA Ty.row_27 Ty.sz_27) ?_)); exact ze ()
theorem tids_ok {w : World} {F : Nat → Prop} {q : Nat} {t : Tr} (hx : RdTree w (fun k => ¬ F k) q t) (hok : TOk t) (h : stars [] w F) :
    Calls Tryz.prog 34 #[.pointer (some ⟨q, 0, none⟩)] w (Post w F (fun r : Option Addr × Nat => .slice r.1 t.nodes.length r.2) (fun r => [rowR 27 16 r.1 t.nodes.length r.2 ((keysT t).map dc).flatten])) := by
 obtain ⟨g, ao, co, ac, cc, css, hT⟩ := hx; obtain ⟨hqA, hrt, h16, h17, h18⟩ := hT.cells; have hle := hok.le
 have hcl := hok.cl
 have hce := hok.ce
 refine g_enter (env := [(0, .pointer (some ⟨q, 0, none⟩))]) Tryz.func34 rfl h Tryz.ntmps34 rfl rfl ?_; refine gsr (zxa ?_); refine zxs ?_; refine zxm ?_; refine gp znc ?_; refine gp zfa ?_; refine gp (r_ld1o rfl Ty.row_33 h17 hqA) ?_; refine zc (fun r7 => ?_) (c := fun w1 F1 F2 h1 h2 hd hst => cloneD_ok (xs := ((keysT t).map dc).flatten) h1 ((RdList.row (f := dc) hT.ord).mv hst.still) (flat_one dc_one _) (by omega))
 refine zxa ?_; refine gnt (gc_ret (gx_ret1 rfl (by conv => lhs; whnf) ?_)); exact ze r7
theorem tget_ok {w : World} {F : Nat → Prop} {q : Nat} {t : Tr} (hx : RdTree w (fun k => ¬ F k) q t) (hok : TOk t) {d : Dig} (h : stars [] w F) :
    Calls Tryz.prog 35 #[.pointer (some ⟨q, 0, none⟩), .agg (dc d).toArray] w (Post w F (fun x : List Value => .tuple #[.agg x.toArray, .bool (lkN d t.nodes).isSome]) (fun x => [pureR (x.length = 39 ∧ ∀ v ∈ x, v.oneCell' = true), VlR RdBlock x ((lkN d t.nodes).getD blk0)])) := by
 obtain ⟨g, ao, co, ac, cc, css, hT⟩ := hx; obtain ⟨hqA, hrt, h16, h17, h18⟩ := hT.cells; have hle := hok.le
 have hcl := hok.cl
 have hce := hok.ce
 refine g_enter (env := [(0, .pointer (some ⟨q, 0, none⟩)), (1, .agg (dc d).toArray)]) Tryz.func35 rfl h Tryz.ntmps35 rfl rfl ?_; refine gsr (zbN fun b3 => ?_); refine zal fun b4 => ?_; refine gl_eqc (cs' := blkC) (by repeat (first | exact Pick.here | apply Pick.there)) (by kernel_rfl) ?_; refine zxa ?_; refine gnt (gc_seq ?_); by_cases hS : (lkN d t.nodes).isSome = true
 ·obtain ⟨p, hp⟩ := Option.isSome_iff_exists.1 hS; obtain ⟨cp, hgk, hrp⟩ := hT.look hp; have icp := Len.of hrp.len
  have jcp := One.of hrp.one
  refine gc_regionZ 11 ([blk b3 27 (dc d)]) ?_; refine yps 0 rfl zmv ?_; refine yps 1 rfl znc ?_; refine yps 2 rfl zfa ?_; refine yps 3 rfl (r_ld1o rfl Ty.row_134 h16 hqA) ?_; refine yps 4 rfl zL ?_; refine yps 5 rfl (r_val (v' := .tuple #[.agg cp.toArray, .bool true]) (r_looko (K := digV) (l := nodeV t.nodes css) (key := d) (z := .agg blkC.toArray) rfl rfl Ty.un_134 (by kernel_rfl) hT.mp) (by rw [hgk]; rfl)) ?_; refine yps 6 rfl zmv ?_; refine yps 7 rfl zex ?_; refine yps 8 rfl zex ?_; refine yos 9 rfl ?_; refine zal fun b6 => ?_; refine gl_eqc (cs' := blkC) (by repeat (first | exact Pick.here | apply Pick.there)) (by kernel_rfl) ?_; refine yxs ?_; refine yos 10 rfl ?_; refine zsN ?_; refine yxs ?_; refine yzs rfl ?_; refine zxa ?_; refine zxs ?_; refine gp zL ?_; refine zc (fun x18 => ?_) (c := fun w1 F1 F2 h1 h2 hd hst => copied_ok (b := p) h1 (hrp.mv hst.still) (hok.sb _ _ hp))
  refine gl_pureR (fun hx18 => ?_)
  obtain ⟨hl18, ho18⟩ := hx18; replace hl18 : x18.length = 39 := hl18
  have i18 := Len.of hl18
  have j18 := One.of (show ∀ v ∈ x18, v.oneCell' = true from ho18)
  refine zxm ?_; refine zsN ?_; refine zxa ?_; refine gnt (gc_ret (gx_retct rfl rfl (by conv => lhs; whnf) (ldA Ty.row_51 Ty.sz_51) ?_)); exact fun w' hw => ⟨x18, by rw [hp]; rfl, St.pureI ⟨hl18, ho18⟩ (by rw [hp]; exact hw.z)⟩
 ·have hp : lkN d t.nodes = none := by simpa using hS
  have hgk := TrM.lookn (css := css) hp
  refine gc_regionZ 11 ([blk b3 27 (dc d)]) ?_; refine yps 0 rfl zmv ?_; refine yps 1 rfl znc ?_; refine yps 2 rfl zfa ?_; refine yps 3 rfl (r_ld1o rfl Ty.row_134 h16 hqA) ?_; refine yps 4 rfl zL ?_; refine yps 5 rfl (r_val (v' := .tuple #[.agg blkC.toArray, .bool false]) (r_looko (K := digV) (l := nodeV t.nodes css) (key := d) (z := .agg blkC.toArray) rfl rfl Ty.un_134 (by kernel_rfl) hT.mp) (by rw [hgk]; rfl)) ?_; refine yps 6 rfl zmv ?_; refine yps 7 rfl zex ?_; refine yps 8 rfl zex ?_; refine yos 9 rfl ?_; refine zal fun b6 => ?_; refine gl_eqc (cs' := blkC) (by repeat (first | exact Pick.here | apply Pick.there)) (by kernel_rfl) ?_; refine yxs ?_; refine yos 10 rfl ?_; refine zsN ?_; refine yxs ?_; refine yzs rfl ?_; refine zxa ?_; refine zxs ?_; refine gp zL ?_; refine zc (fun x18 => ?_) (c := fun w1 F1 F2 h1 h2 hd hst => copied_ok (b := blk0) h1 rdBlock0 ⟨⟨by decide, fun _ h => by cases h⟩, by decide, by decide, fun _ h => by cases h⟩)
  refine gl_pureR (fun hx18 => ?_)
  obtain ⟨hl18, ho18⟩ := hx18; replace hl18 : x18.length = 39 := hl18
  have i18 := Len.of hl18
  have j18 := One.of (show ∀ v ∈ x18, v.oneCell' = true from ho18)
  refine zxm ?_; refine zsN ?_; refine zxa ?_; refine gnt (gc_ret (gx_retct rfl rfl (by conv => lhs; whnf) (ldA Ty.row_51 Ty.sz_51) ?_)); exact fun w' hw => ⟨x18, by rw [hp]; rfl, St.pureI ⟨hl18, ho18⟩ (by rw [hp]; exact hw.z)⟩
theorem cert1_ok {w : World} {F : Nat → Prop} {w' : World} {A : Nat → Prop} {qs : List Value} {x : QC} {bi : Nat} {d : Dig} (h : stars [blk bi 27 (dc d)] w F) (hq : RdQC w' A qs x) :
    Calls Tryz.prog 108 #[.agg qs.toArray, .pointer (some ⟨bi, 0, none⟩)] w (Post w F (fun _ : Unit => .bool (decide (x.block = d))) (fun _ => [blk bi 27 (dc d)])) := by
 obtain ⟨av, nv, kv, rfl, hq1, hq2⟩ := hq; refine g_enter (env := [(0, _), (1, .pointer (some ⟨bi, 0, none⟩))]) Tryz.func108 rfl h Tryz.ntmps108 rfl rfl ?_; refine gsr (zbN fun b2 => ?_); refine zxa ?_; refine zxs ?_; refine gp zfa ?_; refine gp zL ?_; refine gp zL ?_; refine gp zed ?_; refine zxa ?_; refine gnt (gc_ret (gx_ret1 rfl (by conv => lhs; whnf) ?_)); exact ze ()
theorem indexQ_ok {w : World} {F : Nat → Prop} {a : Option Addr} {n c bi : Nat} {d : Dig} {l : List QC} (h : stars [blk bi 27 (dc d)] w F) (hx : RdList (RdQC w (fun k => ¬ F k)) w (fun k => ¬ F k) 19 a n l) :
    Calls Tryz.prog 107 #[.slice a n c, .func (.func 108) #[] #[.pointer (some ⟨bi, 0, none⟩)]] w (Post w F (fun _ : Unit => .int .i64 (idxQ d 0 l)) (fun _ => [blk bi 27 (dc d)])) := by
 have hn := hx.len (by decide)
 have hmx := hx.max
 simp only [maxLen] at hmx
 refine g_enter (env := [(0, .slice a n c), (1, .func (.func 108) #[] #[.pointer (some ⟨bi, 0, none⟩)])]) Tryz.func107 rfl h Tryz.ntmps107 rfl rfl ?_; refine gsr (zxa ?_); refine gnt (gc_seq (gsr (zxm ?_))); refine gp zln ?_; refine zxm ?_; refine gnt (gc_block (gc_loop (α := Nat) (fun k => [pureR (k ≤ n ∧ ∀ i, i < k → ∀ r, l[i]? = some r → r.block ≠ d), blk bi 27 (dc d)]) (fun k => [(8, .int .i64 (k : Int))]) [4, 5, 9, 10, 11, 12, 13, 14, 15, 16, 17, 18] (fun k => n - k) 0 ?_ ?_ ?_))
 ·refine env_start (by kernel_rfl)
 ·exact zlp ⟨Nat.zero_le _, fun i hi => absurd hi (Nat.not_lt_zero _)⟩
 ·intro k u; refine gc_pureR (fun hk => ?_)
  replace hk : k ≤ n ∧ ∀ i, i < k → ∀ r, l[i]? = some r → r.block ≠ d := hk
  refine gsr (gp zlt ?_); refine gnt (gc_seq (gif rfl (fun hc9 => ?_) (fun hc9 => ?_)))
  ·try simp only at hc9
   have hk' : k < n := by omega
   obtain ⟨ga, oa, ce, r, ha, hA, _, hra, hl19, hr, hrd⟩ := hx.elem (i := k) (by decide) hk'; subst ha; have i19 := Len.of hl19
   have j19 := One.of hrd.one
   refine gc_skip (gx_then (gc_seq (gc_block (gsr (zxm ?_))))); refine zxa ?_; refine zxs ?_; refine zxm ?_; refine zxm ?_; refine zxm ?_; refine gp (r_val (v' := .pointer (some ⟨ga, oa + k * 19, none⟩)) zia (by simp)) ?_; refine gp (r_ldNo (seg := ce) rfl Ty.row_47 Ty.sz_47 hra hl19 (by decide) hA) ?_; refine gl_call (wt0 rfl) (e_callv (us := [.pointer (some ⟨bi, 0, none⟩)]) rfl Ty.call_108 rfl) (by repeat (first | exact Sel.nil | (apply Sel.cons; · (repeat (first | exact Pick.here | apply Pick.there))))) (fun w1 F1 F2 h1 h2 hd hst => cert1_ok (d := d) h1 hrd) ?_; intro _; refine gnt (gif rfl (fun hc16 => ?_) (fun hc16 => ?_))
   ·try simp only at hc16
    have hf := idxQ_hit hk.2 hr (by simpa using hc16)
    refine gsr (zxm ?_); refine zxa ?_; refine gnt (gc_ret (gx_block_ret ?_)); refine gx_then_ret (gx_round_ret ?_); refine gx_block_ret ?_; refine gx_then_ret (gx_ret1 rfl (by conv => lhs; whnf) ?_); exact fun w' hw => ⟨(), by rw [hf.1], hw.z⟩
   ·refine gc_skip (gx_block_normal (gx_then (gc_region (gp zad ?_)))); refine zxm ?_; refine gl_nil (zrd (k + 1) ?_ ?_)
    ·show n - (k + 1) < n - k
     omega
    ·exact zlp (show k + 1 ≤ n ∧ ∀ i, i < k + 1 → ∀ r, l[i]? = some r → r.block ≠ d from ⟨by omega, fun i hi r' hr' => (by by_cases h' : i < k; exact hk.2 i h' r' hr'; (obtain rfl : i = k := by omega); rw [hr] at hr'; cases hr'; simpa using hc16)⟩)
  ·try simp only at hc9
   have hk' : k = n := by omega
   have hf := idxQ_miss (d := d) (l := l) (fun i hi => hk.2 i (by omega))
   refine gc_exit ?_; refine gx_then_exit ?_; refine gx_round_exit ?_; refine gx_block_hit ?_; refine gx_then (gsr (zxa ?_)); refine gnt (gc_ret (gx_ret1 rfl (by conv => lhs; whnf) ?_)); exact fun w' hw => ⟨(), by rw [hf.1], hw.z⟩
theorem tcert_ok {w : World} {F : Nat → Prop} {q : Nat} {t : Tr} (hx : RdTree w (fun k => ¬ F k) q t) (hok : TOk t) {d : Dig} (h : stars [] w F) :
    Calls Tryz.prog 86 #[.pointer (some ⟨q, 0, none⟩), .agg (dc d).toArray] w (Post w F (fun x : List Value => .tuple #[.agg x.toArray, .bool (certF d t.certs).isSome]) (fun x => [pureR (x.length = 19 ∧ ∀ v ∈ x, v.oneCell' = true), VlR RdQC x ((certF d t.certs).getD qc0)])) := by
 obtain ⟨g, ao, co, ac, cc, css, hT⟩ := hx; obtain ⟨hqA, hrt, h16, h17, h18⟩ := hT.cells; have hle := hok.le
 have hcl := hok.cl
 have hce := hok.ce
 refine g_enter (env := [(0, .pointer (some ⟨q, 0, none⟩)), (1, .agg (dc d).toArray)]) Tryz.func86 rfl h Tryz.ntmps86 rfl rfl ?_; refine gsr (zbN fun b3 => ?_); refine zal fun b4 => ?_; refine gl_eqc (cs' := qcC) (by repeat (first | exact Pick.here | apply Pick.there)) (by kernel_rfl) ?_; refine zxa ?_; refine gnt (gc_seq ?_); by_cases hS : idxQ d 0 t.certs = -1 ∧ certF d t.certs = none
 ·refine gc_region (zxm ?_); refine gp znc ?_; refine gp zfa ?_; refine gp (r_ld1o rfl Ty.row_97 h18 hqA) ?_; refine gp zmf ?_; refine zc (fun _ => ?_) (c := fun w1 F1 F2 h1 h2 hd hst => indexQ_ok (l := t.certs) (d := d) h1 (hT.cer.mv hst.still fun _ _ h => h.mv hst.still))
  refine zxa ?_; refine gnt (gc_seq (gsr (zxm ?_))); refine gp (r_bool (c := true) zlt (by rw [hS.1]; rfl)) ?_; refine gnt (gc_condT rfl rfl ?_); refine gsr (gp (zbu (cs := qcC) (hf := by kernel_rfl)) ?_); refine zsN ?_; refine zxa ?_; refine gnt (gc_ret (gx_then_ret (gx_retct rfl rfl (by conv => lhs; whnf) (ldA Ty.row_47 Ty.sz_47) ?_))); exact fun w' hw => ⟨qcC, by rw [hS.2]; rfl, St.pureI ⟨Len.h, One.h⟩ (by rw [hS.2]; exact St.vl (hw.z) rdQC0)⟩
 ·obtain ⟨j, r, hj, hr, hg⟩ := (idxQ_cases d t.certs).resolve_left hS; have hjl := (List.getElem?_eq_some_iff.1 hg).1
  obtain ⟨ga, oa, ce, r', ha, hA, _, hra, hl19, hr', hrd⟩ := hT.cer.elem (i := j) (by decide) hjl; obtain rfl : r' = r := Option.some.inj (hr'.symm.trans hg); subst ha; have i19 := Len.of hl19
  have j19 := One.of hrd.one
  refine gc_region (zxm ?_); refine gp znc ?_; refine gp zfa ?_; refine gp (r_ld1o rfl Ty.row_97 h18 hqA) ?_; refine gp zmf ?_; refine zc (fun _ => ?_) (c := fun w1 F1 F2 h1 h2 hd hst => indexQ_ok (l := t.certs) (d := d) h1 (hT.cer.mv hst.still fun _ _ h => h.mv hst.still))
  refine zxa ?_; refine gnt (gc_seq (gsr (zxm ?_))); refine gp (r_bool (c := false) zlt (by rw [hj]; exact decide_eq_false (by omega))) ?_; refine gnt (gc_condF rfl rfl ?_); refine gc_skip (gx_then (gsr (zxm ?_))); refine gp znc ?_; refine gp zfa ?_; refine gp (r_ld1o rfl Ty.row_97 h18 hqA) ?_; refine gp (r_val (v' := .int .i64 ((j : Nat) : Int)) zmv (by rw [hj])) ?_; refine gp (r_val (v' := .pointer (some ⟨ga, oa + j * 19, none⟩)) zia (by simp)) ?_; refine gp (r_ldNo (seg := ce) rfl Ty.row_47 Ty.sz_47 hra hl19 (by decide) hA) ?_; refine zc (fun x23 => ?_) (c := fun w1 F1 F2 h1 h2 hd hst => copiedQC_ok h1 (hrd.mv hst.still) (hok.sq _ (List.mem_of_getElem? hg)))
  refine gl_pureR (fun hx23 => ?_)
  obtain ⟨hl23, ho23⟩ := hx23; replace hl23 : x23.length = 19 := hl23
  have i23 := Len.of hl23
  have j23 := One.of (show ∀ v ∈ x23, v.oneCell' = true from ho23)
  refine zsN ?_; refine zxa ?_; refine gnt (gc_ret (gx_retct rfl rfl (by conv => lhs; whnf) (ldA Ty.row_47 Ty.sz_47) ?_)); exact fun w' hw => ⟨x23, by rw [hr]; rfl, St.pureI ⟨hl23, ho23⟩ (by rw [hr]; exact hw.z)⟩
end
section
def bOf (t : Tr) (d : Dig) : Block := (lkN d t.nodes).getD blk0
theorem TrM.lookB {w : World} {A : Nat → Prop} {q : Nat} {t : Tr} {g : Nat} {ao : Option Addr} {co : Nat} {ac : Option Addr} {cc : Nat} {css : List (List Value)} (h : TrM w A q t g ao co ac cc css) (d : Dig) :
    ∃ cp, (if (true : Bool) then Value.tuple #[(getK d (nodeV t.nodes css)).getD (.agg blkC.toArray), .bool (getK d (nodeV t.nodes css)).isSome] else (getK d (nodeV t.nodes css)).getD (.agg blkC.toArray)) = .tuple #[.agg cp.toArray, .bool (lkN d t.nodes).isSome] ∧ RdBlock w A cp (bOf t d) := by
  cases hl : lkN d t.nodes with
  | none => exact ⟨blkC, by rw [TrM.lookn hl]; rfl, by rw [bOf, hl]; exact rdBlock0⟩
  | some b => obtain ⟨c, h1, h2⟩ := h.look hl; exact ⟨c, by rw [h1]; rfl, by rw [bOf, hl]; exact h2⟩
def upE (_ : Nat) (x : Dig × List Value) : Array Value := #[.agg (dc x.1).toArray, .agg x.2.toArray]
def upP (t : Tr) (d : Dig) (i : Nat) (x : Dig × List Value) : Prop := (x.2.length = 39 ∧ ∀ v ∈ x.2, v.oneCell' = true) ∧ ∃ b, (upL t d)[i]? = some (x.1, b) ∧ x.2[1]? = some (.int .i64 b.round)
def upG (t : Tr) (d : Dig) (i : Nat) (x : Dig × List Value) : List Res := [pureR (upP t d i x)]
theorem rd_round {w : World} {A : Nat → Prop} {c : List Value} {b : Block} (h : RdBlock w A c b) : c[1]? = some (.int .i64 b.round) := by obtain ⟨q, a1, n1, c1, a2, n2, c2, rfl, _⟩ := h; rfl
def rvF (l : List Dig) (k i : Nat) : Dig := if i < k ∨ l.length - k ≤ i then l.getD (l.length - 1 - i) dig0 else l.getD i dig0
def revK (l : List Dig) (k : Nat) : List Dig := (List.range l.length).map (rvF l k)
theorem revK_len (l : List Dig) (k : Nat) : (revK l k).length = l.length := by simp [revK]
theorem revK_zero (l : List Dig) : revK l 0 = l := by
  apply List.ext_getElem (revK_len l 0)
  intro i h1 h2
  simp only [revK, List.getElem_map, List.getElem_range, rvF]
  rw [if_neg (by omega)]; simp [List.getD, h2]
theorem revK_at {l : List Dig} {k i : Nat} (h : i < l.length) : ((revK l k).map dc)[i]? = some (dc (rvF l k i)) := by simp [revK, h]
theorem revK_step {l : List Dig} {k : Nat} (h : 2 * k + 1 < l.length) : (((revK l k).map dc).set k (dc (rvF l k (l.length - 1 - k)))).set (l.length - 1 - k) (dc (rvF l k k)) = (revK l (k + 1)).map dc := by
  apply List.ext_getElem (by simp [revK_len])
  intro i h1 h2
  simp only [List.length_map, revK_len] at h2
  simp only [List.getElem_set, revK, List.getElem_map, List.getElem_range]
  split
  · rename_i e; subst e
    congr 1
    unfold rvF
    rw [if_neg (by omega), if_pos (by omega)]; congr 1; omega
  · split
    · rename_i e; subst e
      congr 1
      unfold rvF
      rw [if_neg (by omega), if_pos (by omega)]
    · congr 1
      unfold rvF
      by_cases hc : i < k ∨ l.length - k ≤ i
      · rw [if_pos hc, if_pos (by omega)]
      · rw [if_neg hc, if_neg (by omega)]
theorem revK_end {l : List Dig} {k : Nat} (h : l.length ≤ 2 * k + 1) (h2 : 2 * k ≤ l.length) : revK l k = l.reverse := by
  apply List.ext_getElem (by simp [revK_len])
  intro i h1 h3
  simp only [List.length_reverse] at h3
  simp only [revK, List.getElem_map, List.getElem_range, List.getElem_reverse, rvF]
  by_cases hc : i < k ∨ l.length - k ≤ i
  · rw [if_pos hc]; simp [List.getD, show l.length - 1 - i < l.length by omega]
  · rw [if_neg hc]
    have : l.length - 1 - i = i := by omega
    simp [List.getD, h3, this]
attribute [local irreducible] Gl Gc Gx Gs Runs Wt
attribute [local irreducible] dc qcC blkC
theorem tup_ok {w : World} {F : Nat → Prop} {q : Nat} {d : Dig} (h : stars [] w F) :
    Calls Tryz.prog 65 #[.pointer (some ⟨q, 0, none⟩), .agg (dc d).toArray] w (Post w F (fun b : Nat × Nat => .func (.func 90) #[] #[.pointer (some ⟨b.1, 0, none⟩), .pointer (some ⟨b.2, 0, none⟩)]) (fun b => [blk b.1 31 [.pointer (some ⟨q, 0, none⟩)], blk b.2 27 (dc d)])) := by
 refine g_enter (env := [(0, .pointer (some ⟨q, 0, none⟩)), (1, .agg (dc d).toArray)]) Tryz.func65 rfl h Tryz.ntmps65 rfl rfl ?_; refine gsr (zb1 fun b2 => ?_); refine zbN fun b3 => ?_; refine zxa ?_; refine zxs ?_; refine gp zmf ?_; refine zxa ?_; refine gnt (gc_ret (gx_ret1 rfl (by conv => lhs; whnf) ?_)); exact ze (b2, b3)
theorem reverse_ok {w : World} {F : Nat → Prop} {a : Option Addr} {m c : Nat} {l : List Dig} (h : stars [rowR 27 16 a m c (l.map dc).flatten] w F) (hm : m = l.length) (hb : m ≤ 1099511627776) :
    Calls Tryz.prog 66 #[.slice a m c] w (Post w F (fun _ : Unit => .tuple #[]) (fun _ => [rowR 27 16 a m c (l.reverse.map dc).flatten])) := by
 subst hm; refine g_enter (env := [(0, .slice a l.length c)]) Tryz.func66 rfl h Tryz.ntmps66 rfl rfl ?_; refine gsr (zxm ?_); refine gp zln ?_; refine gp (r_int (j := (l.length : Int) - 1 - (0 : Nat)) zsb (by omega)) ?_; refine zxa ?_; refine zxa ?_; refine gnt (gc_block (gc_cz (M := [rowR 27 16 a l.length c (l.map dc).flatten]) (N := [rowR 27 16 a l.length c ((revK l 0).map dc).flatten]) (fun _ _ h => by rw [revK_zero]; exact h) ?_)); refine gc_loop (α := Nat) (fun k => [pureR (2 * k ≤ l.length), rowR 27 16 a l.length c ((revK l k).map dc).flatten]) (fun k => [(2, .int .i64 (k : Int)), (3, .int .i64 ((l.length : Int) - 1 - k))]) [7, 8, 9, 10, 11, 12, 13, 14, 15, 16, 17, 18, 19, 20, 21, 22, 23, 24, 25, 26, 27] (fun k => l.length - k) 0 ?_ ?_ ?_
 ·refine env_start (by kernel_rfl)
 ·exact zlp (by omega)
 ·intro k u; refine gc_pureR (fun hk => ?_)
  replace hk : 2 * k ≤ l.length := hk
  refine gc_seq (gsr (zxm ?_)); refine zxm ?_; refine gp zlt ?_; refine gnt (gif rfl (fun hc9 => ?_) (fun hc9 => ?_))
  ·try simp only at hc9
   have hk' : 2 * k + 1 < l.length := by omega
   have hnn : ((l.length : Int) - 1 - k) = ((l.length - 1 - k : Nat) : Int) := by omega
   refine gc_fact (fun w' hw => St.rowAt hw .here (by omega)) (fun hra => ?_)
   obtain ⟨hmc, ga, oa, ha⟩ := hra; subst ha; have hd16 : ∀ c ∈ (revK l k).map dc, List.length c = 16 := fun c hc => by obtain ⟨x, _, rfl⟩ := List.mem_map.1 hc; exact dc_length x
   have hlr := revK_len l k
   refine gc_skip (gx_then (gc_seq (gc_block (gc_regionZ 15 [] ?_)))); refine yps 0 rfl zmv ?_; refine yps 1 rfl zmv ?_; refine yps 2 rfl zmv ?_; refine yps 3 rfl zmv ?_; refine yps 4 rfl zmv ?_; refine yps 5 rfl zmv ?_; refine yps 6 rfl (r_val (v' := .pointer (some ⟨ga, oa + (l.length - 1 - k) * 16, none⟩)) (zia (h0 := by omega) (hm := by omega)) (by rw [hnn]; simp)) ?_; refine yps 8 rfl zmv ?_; refine yps 9 rfl zmv ?_; refine yps 10 rfl (r_val (v' := .pointer (some ⟨ga, oa + k * 16, none⟩)) zia (by simp)) ?_; refine yo2s 7 11 rfl rfl ?_ ?_
   ·refine gp (r_ldRow (i := l.length - 1 - k) rfl Ty.row_27 Ty.sz_27 (by repeat (first | exact Pick.here | apply Pick.there)) hd16 (revK_at (by omega)) (by omega)) ?_; refine yxs ?_; refine yos 11 rfl ?_; refine gp (r_ldRow (i := k) rfl Ty.row_27 Ty.sz_27 (by repeat (first | exact Pick.here | apply Pick.there)) hd16 (revK_at (by omega)) (by omega)) ?_; refine yxs ?_; refine yps 12 rfl (r_val (v' := .pointer (some ⟨ga, oa + k * 16, none⟩)) zia (by simp)) ?_; refine yos 13 rfl ?_; refine gl_stRow (i := k) (css := (revK l k).map dc) (new := dc (rvF l k (l.length - 1 - k))) (wt0 rfl) rfl rfl rfl Ty.sz_27 (dc_length _) (dc_one _) hd16 (by simp; omega) (by repeat (first | exact Pick.here | apply Pick.there)) ?_; refine yxs ?_; refine yps 14 rfl (r_val (v' := .pointer (some ⟨ga, oa + (l.length - 1 - k) * 16, none⟩)) (zia (h0 := by omega) (hm := by omega)) (by rw [hnn]; simp)) ?_; refine yzs rfl ?_; refine gl_stRow (i := l.length - 1 - k) (css := ((revK l k).map dc).set k (dc (rvF l k (l.length - 1 - k)))) (new := dc (rvF l k k)) (wt0 rfl) rfl rfl rfl Ty.sz_27 (dc_length _) (dc_one _) (fun c hc => (List.mem_or_eq_of_mem_set hc).elim (hd16 c) (fun h => by subst h; exact dc_length _)) (by simp; omega) (by repeat (first | exact Pick.here | apply Pick.there)) ?_; refine gl_nil (gx_block_normal (gx_then (gc_region (zxm ?_)))); refine gp (r_int (j := ((k + 1 : Nat) : Int)) zad (by omega)) ?_; refine zxm ?_; refine gp (r_int (j := (l.length : Int) - 1 - ((k + 1 : Nat) : Int)) zsb (by omega)) ?_; refine zxa ?_; refine zxa ?_; refine gl_nil (zrd (k + 1) ?_ ?_)
    ·show l.length - (k + 1) < l.length - k
     omega
    ·rw [revK_step hk']; exact zlp (show 2 * (k + 1) ≤ l.length by omega)
   ·refine gp (r_ldRow (i := k) rfl Ty.row_27 Ty.sz_27 (by repeat (first | exact Pick.here | apply Pick.there)) hd16 (revK_at (by omega)) (by omega)) ?_; refine yxs ?_; refine yos 7 rfl ?_; refine gp (r_ldRow (i := l.length - 1 - k) rfl Ty.row_27 Ty.sz_27 (by repeat (first | exact Pick.here | apply Pick.there)) hd16 (revK_at (by omega)) (by omega)) ?_; refine yxs ?_; refine yps 12 rfl (r_val (v' := .pointer (some ⟨ga, oa + k * 16, none⟩)) zia (by simp)) ?_; refine yos 13 rfl ?_; refine gl_stRow (i := k) (css := (revK l k).map dc) (new := dc (rvF l k (l.length - 1 - k))) (wt0 rfl) rfl rfl rfl Ty.sz_27 (dc_length _) (dc_one _) hd16 (by simp; omega) (by repeat (first | exact Pick.here | apply Pick.there)) ?_; refine yxs ?_; refine yps 14 rfl (r_val (v' := .pointer (some ⟨ga, oa + (l.length - 1 - k) * 16, none⟩)) (zia (h0 := by omega) (hm := by omega)) (by rw [hnn]; simp)) ?_; refine yzs rfl ?_; refine gl_stRow (i := l.length - 1 - k) (css := ((revK l k).map dc).set k (dc (rvF l k (l.length - 1 - k)))) (new := dc (rvF l k k)) (wt0 rfl) rfl rfl rfl Ty.sz_27 (dc_length _) (dc_one _) (fun c hc => (List.mem_or_eq_of_mem_set hc).elim (hd16 c) (fun h => by subst h; exact dc_length _)) (by simp; omega) (by repeat (first | exact Pick.here | apply Pick.there)) ?_; refine gl_nil (gx_block_normal (gx_then (gc_region (zxm ?_)))); refine gp (r_int (j := ((k + 1 : Nat) : Int)) zad (by omega)) ?_; refine zxm ?_; refine gp (r_int (j := (l.length : Int) - 1 - ((k + 1 : Nat) : Int)) zsb (by omega)) ?_; refine zxa ?_; refine zxa ?_; refine gl_nil (zrd (k + 1) ?_ ?_)
    ·show l.length - (k + 1) < l.length - k
     omega
    ·rw [revK_step hk']; exact zlp (show 2 * (k + 1) ≤ l.length by omega)
  ·try simp only at hc9
   have hk2 : revK l k = l.reverse := revK_end (by omega) (by omega)
   rw [hk2]; refine gc_exit ?_; refine gx_then_exit ?_; refine gx_round_exit ?_; refine gx_block_hit ?_; refine gx_ret0' rfl ?_; exact ze ()
end
section
attribute [local irreducible] Gl Gc Gx Gs Runs Wt
attribute [local irreducible] dc qcC blkC
theorem up1_ok {w : World} {F : Nat → Prop} {q : Nat} {t : Tr} (hx : RdTree w (fun k => ¬ F k) q t) (hok : TOk t) {d : Dig} {b1 b2 lp : Nat} {J : Nat → Res} {Jx : Res} (h : stars [blk b1 31 [.pointer (some ⟨q, 0, none⟩)], blk b2 27 (dc d), J 0] w F) (hy : RoundsAt Tryz.prog lp upE (upG t d) J Jx w F) :
    Calls Tryz.prog 90 #[.func (.yield lp) #[] #[], .pointer (some ⟨b1, 0, none⟩), .pointer (some ⟨b2, 0, none⟩)] w (Post w F (fun _ : Bool × Dig => .tuple #[]) (fun y => (match allOr (upL t d).length y.1 with | some m => J m | none => Jx) :: [blk b1 31 [.pointer (some ⟨q, 0, none⟩)], blk b2 27 (dc y.2)])) := by
 obtain ⟨g, ao, co, ac, cc, css, hT⟩ := hx; obtain ⟨hqA, hrt, h16, h17, h18⟩ := hT.cells; have hle := hok.le
 have hcl := hok.cl
 have hce := hok.ce
 obtain ⟨cp, hgk, hrp⟩ := hT.lookB d; have icp := Len.of hrp.len
 have jcp := One.of hrp.one
 refine g_enter (env := [(0, .func (.yield lp) #[] #[]), (1, .pointer (some ⟨b1, 0, none⟩)), (2, .pointer (some ⟨b2, 0, none⟩))]) Tryz.func90 rfl h Tryz.ntmps90 rfl rfl ?_; refine gc_seq (gc_regionZ 11 ([blk b1 31 [.pointer (some ⟨q, 0, none⟩)], blk b2 27 (dc d)]) ?_); refine yps 0 rfl zl ?_; refine yps 1 rfl znc ?_; refine yps 2 rfl zfa ?_; refine yps 3 rfl (r_ld1o rfl Ty.row_134 h16 hqA) ?_; refine yps 4 rfl zL ?_; refine yps 5 rfl (r_val (v' := .tuple #[.agg cp.toArray, .bool (lkN d t.nodes).isSome]) (r_looko (K := digV) (l := nodeV t.nodes css) (key := d) (z := .agg blkC.toArray) rfl rfl Ty.un_134 (by kernel_rfl) hT.mp) hgk) ?_; refine yps 6 rfl zmv ?_; refine yps 7 rfl zex ?_; refine yps 8 rfl zex ?_; refine yos 9 rfl ?_; refine zal fun b4 => ?_; refine gl_eqc (cs' := blkC) (by repeat (first | exact Pick.here | apply Pick.there)) (by kernel_rfl) ?_; refine yxs ?_; refine yos 10 rfl ?_; refine zsA hrp.len hrp.one ?_; refine yxs ?_; refine yzs rfl ?_; refine zxa ?_; refine gnt (gc_block (gc_loop (α := Nat × Dig × Nat × List Value) (fun y => [pureR (y.1 ≤ (upL t d).length ∧ (upL t d).drop y.1 = upL t y.2.1 ∧ RdBlock w (fun k => ¬ F k) y.2.2.2 (bOf t y.2.1)), blk b1 31 [.pointer (some ⟨q, 0, none⟩)], blk b2 27 (dc y.2.1), blk y.2.2.1 51 y.2.2.2, J y.1]) (fun y => [(4, .pointer (some ⟨y.2.2.1, 0, none⟩)), (5, .bool (lkN y.2.1 t.nodes).isSome)]) [15, 16, 17, 18, 19, 20, 21, 22, 23, 24, 25, 26, 27, 28, 29, 30, 31, 32, 33, 34, 35, 36, 37, 38, 39, 40] (fun y => (upL t d).length - y.1) (0, d, b4, cp) ?_ ?_ ?_))
 ·refine env_start (by kernel_rfl)
 ·exact zlp ⟨Nat.zero_le _, rfl, hrp⟩
 ·intro y u; obtain ⟨k, e, b4, cq⟩ := y; refine gc_pureR (fun hk => ?_)
  obtain ⟨hk, hdr, hrq⟩ := hk; replace hk : k ≤ (upL t d).length := hk
  replace hdr : (upL t d).drop k = upL t e := hdr
  replace hrq : RdBlock w (fun k => ¬ F k) cq (bOf t e) := hrq
  refine gc_seq (gsr (zxm ?_)); refine gnt (gif rfl (fun hc15 => ?_) (fun hc15 => ?_))
  ·try simp only at hc15
   obtain ⟨p, hp⟩ := Option.isSome_iff_exists.1 hc15; have hup := upL_step hok hp
   have hbo : bOf t e = p := by rw [bOf, hp]; rfl
   rw [hbo] at hrq; have hl39 := hrq.len
   have ho39 := hrq.one
   have hrr := rd_round hrq
   obtain ⟨qj, a1, n1, c1, a2, n2, c2, rfl, hj, _⟩ := hrq; have ij := Len.of hj.len
   have jj := One.of hj.one
   have hkl : k < (upL t d).length := by rcases Nat.lt_or_ge k (upL t d).length with h | h; exact h; (rw [List.drop_eq_nil_of_le h, hup] at hdr; cases hdr)
   have hget : (upL t d)[k]? = some (e, p) := by rw [← List.head?_drop, hdr, hup]; rfl
   have hdr1 : (upL t d).drop (k + 1) = if e = t.root then [] else upL t p.parent := by rw [← List.tail_drop, hdr, hup]; rfl
   refine gc_skip (gx_then (gc_seq (gc_block (gc_seq (gc_seq (gc_regionH ([blk b1 31 [.pointer (some ⟨q, 0, none⟩)], blk b2 27 (dc e), blk b4 51 (.int .i64 p.epoch :: .int .i64 p.round :: (dc p.parent ++ (qj ++ [.slice a1 n1 c1, .slice a2 n2 c2])))]) ?_)))))); refine yp 0 rfl zmv ?_; refine yp 1 rfl zL ?_; refine yp 2 rfl zL ?_; refine yo 3 rfl ?_; refine gl_pI (p := upP t d k (e, .int .i64 p.epoch :: .int .i64 p.round :: (dc p.parent ++ (qj ++ [.slice a1 n1 c1, .slice a2 n2 c2])))) ⟨⟨hl39, ho39⟩, p, hget, hrr⟩ ?_; refine gyd hy k (e, .int .i64 p.epoch :: .int .i64 p.round :: (dc p.parent ++ (qj ++ [.slice a1 n1 c1, .slice a2 n2 c2]))) rfl (by repeat (first | exact Sel.nil | (apply Sel.cons; · (repeat (first | exact Pick.here | apply Pick.there))))) (fun x28 => ?_)
   rcases x28 with _ | _
   ·refine yx ?_; refine yp 4 rfl znt ?_; refine yp 5 rfl zmv ?_; refine yn 6 rfl ?_; refine yn 7 rfl ?_; refine yn 8 rfl ?_; refine yn 9 rfl ?_; refine yn 10 rfl ?_; refine yn 11 rfl ?_; refine yp 12 rfl zpk ?_; refine yd ?_; refine gx_then (gc_condT rfl rfl ?_); refine gc_ret (gx_then_ret (gx_block_ret ?_)); refine gx_then_ret (gx_round_ret ?_); refine gx_block_ret ?_; refine gx_ret0 rfl ?_; exact ze (false, e)
   ·refine yx ?_; refine yp 4 rfl znt ?_; refine yp 5 rfl zmv ?_; refine yp 6 rfl zL ?_; refine yp 7 rfl zl ?_; refine yp 8 rfl znc ?_; refine yp 9 rfl zfa ?_; refine yp 10 rfl (r_ldNo rfl Ty.row_27 Ty.sz_27 hrt (dc_length _) (by decide) hqA) ?_; refine yp 11 rfl zed ?_; refine yp 12 rfl zpk ?_; refine yd ?_; refine gx_then (gif rfl (fun hc37 => ?_) (fun hc37 => ?_))
    ·try simp only at hc37
     have hen : e = t.root := by simpa using hc37
     have hkm : k + 1 = (upL t d).length := by rw [if_pos hen] at hdr1; have := List.drop_eq_nil_iff.1 hdr1; omega
     refine gc_ret (gx_then_ret (gx_block_ret ?_)); refine gx_then_ret (gx_round_ret ?_); refine gx_block_ret ?_; refine gx_ret0 rfl ?_; rw [hkm]; exact ze (true, e)
    ·try simp only at hc37
     have hne : ¬ e = t.root := by simpa using hc37
     refine gc_skip (gx_then (gc_region (gp zfa ?_))); refine gp (zL (sg := dc p.parent)) ?_; refine zsN ?_; refine gl_nil (gx_block_normal (gx_then (gc_seq (gsr (gp zL ?_))))); refine gnt (gc_region (zal fun b6 => ?_)); refine gl_eqc (cs' := blkC) (by repeat (first | exact Pick.here | apply Pick.there)) (by kernel_rfl) ?_; obtain ⟨cp, hgk, hrp⟩ := hT.lookB p.parent; have icp := Len.of hrp.len
     have jcp := One.of hrp.one
     refine zsN ?_; refine gnt (gc_regionZ 10 ([blk b1 31 [.pointer (some ⟨q, 0, none⟩)], blk b2 27 (dc p.parent)]) ?_); refine yps 0 rfl zl ?_; refine yps 1 rfl znc ?_; refine yps 2 rfl zfa ?_; refine yps 3 rfl (r_ld1o rfl Ty.row_134 h16 hqA) ?_; refine yps 4 rfl zL ?_; refine yps 5 rfl (r_val (v' := .tuple #[.agg cp.toArray, .bool (lkN p.parent t.nodes).isSome]) (r_looko (K := digV) (l := nodeV t.nodes css) (key := p.parent) (z := .agg blkC.toArray) rfl rfl Ty.un_134 (by kernel_rfl) hT.mp) hgk) ?_; refine yps 6 rfl zmv ?_; refine yps 7 rfl zex ?_; refine yps 8 rfl zex ?_; refine yos 9 rfl ?_; refine zsA hrp.len hrp.one ?_; refine yxs ?_; refine yzs rfl ?_; refine zxa ?_; refine gl_nil (zrd ((k + 1, p.parent, b6, cp)) ?_ ?_)
     ·show (upL t d).length - (k + 1) < (upL t d).length - k
      omega
     ·exact zlp (show k + 1 ≤ (upL t d).length ∧ (upL t d).drop (k + 1) = upL t p.parent ∧ RdBlock w (fun k => ¬ F k) cp (bOf t p.parent) from ⟨by omega, by rw [hdr1, if_neg hne], hrp⟩)
  ·try simp only at hc15
   have hnl : lkN e t.nodes = none := by simpa using hc15
   have hkl : k = (upL t d).length := by rw [upL_none hnl] at hdr; have := List.drop_eq_nil_iff.1 hdr; omega
   subst hkl; refine gc_exit ?_; refine gx_then_exit ?_; refine gx_round_exit ?_; refine gx_block_hit ?_; refine gx_ret0' rfl ?_; exact ze (true, e)
theorem up1_it {w : World} {F : Nat → Prop} {q : Nat} {t : Tr} (hx : RdTree w (fun k => ¬ F k) q t) (hok : TOk t) {d : Dig} {b1 b2 lp : Nat} {J : Nat → Res} {Jx : Res} (h : stars [blk b1 31 [.pointer (some ⟨q, 0, none⟩)], blk b2 27 (dc d), J 0] w F) :
    IterAt Tryz.prog 90 #[.pointer (some ⟨b1, 0, none⟩), .pointer (some ⟨b2, 0, none⟩)] upE (upG t d) (fun y : Bool × Dig => allOr (upL t d).length y.1) (fun y => [blk b1 31 [.pointer (some ⟨q, 0, none⟩)], blk b2 27 (dc y.2)]) (fun _ : Bool × Dig => .tuple #[]) lp J Jx w F := fun hy => by
  have h2 := up1_ok hx hok h hy
  exact h2
end
section
def slV (b T e : Nat) (l : List Dig) : Res := exR fun x : Option Addr × Nat => allR [blk b T [.slice x.1 l.length x.2], rowR e 16 x.1 l.length x.2 (l.map dc).flatten]
section
variable {w0 w : World} {F F0 : Nat → Prop} {L L' : List Res} {Q : Exit → Act → World → Prop} {n : Fm} {env : Env} {ops : Array Oper} {rest : List Oper} {b T e : Nat} {l : List Dig}
theorem slV_open (h : stars (slV b T e l :: L) w F) : ∃ a c, stars (blk b T [.slice a l.length c] :: rowR e 16 a l.length c (l.map dc).flatten :: L) w F := by
  obtain ⟨⟨a, c⟩, h⟩ := stars_ex h; exact ⟨a, c, stars_all h⟩
theorem St.slV {a : Option Addr} {c m : Nat} {xs : List Value} (h : St w0 F0 (blk b T [.slice a m c] :: rowR e 16 a m c xs :: L) w) (hm : m = l.length) (hx : xs = (l.map dc).flatten) : St w0 F0 (slV b T e l :: L) w := by
  subst hm; subst hx
  exact h.mapL fun F hF => stars_ex_mk (a, c) (stars_all_mk hF)
theorem gc_slV {c : Code} (hp : Pick L (slV b T e l) L') (k : ∀ a m, Gc Tryz.prog w0 F0 (blk b T [.slice a l.length m] :: rowR e 16 a l.length m (l.map dc).flatten :: L') c Q n env) : Gc Tryz.prog w0 F0 L c Q n env := fun w hw => by
  obtain ⟨F, hF, hst⟩ := hw.pick hp
  obtain ⟨a, m, h⟩ := slV_open hF
  exact k a m w ⟨F, h, hst⟩
theorem gl_slV (hp : Pick L (slV b T e l) L') (k : ∀ a m, Gl Tryz.prog w0 F0 (blk b T [.slice a l.length m] :: rowR e 16 a l.length m (l.map dc).flatten :: L') ops Q rest n env) : Gl Tryz.prog w0 F0 L ops Q rest n env := fun w hw => by
  obtain ⟨F, hF, hst⟩ := hw.pick hp
  obtain ⟨a, m, h⟩ := slV_open hF
  exact k a m w ⟨F, h, hst⟩
end
def plK (t : Tr) (d : Dig) (i : Nat) : List Dig := (((upL t d).take i).map (fun p => p.1)).filter (fun i => decide (i ≠ t.root))
theorem plK_succ {t : Tr} {d e : Dig} {b : Block} {i : Nat} (h : (upL t d)[i]? = some (e, b)) : plK t d (i + 1) = if e = t.root then plK t d i else plK t d i ++ [e] := by
  unfold plK; rw [takeB_snoc h]; split <;> simp_all
theorem plK_all (t : Tr) (d : Dig) : (plK t d (upL t d).length).reverse = pathL t d := by unfold plK pathL; rw [List.take_length]
theorem plK_len (t : Tr) (d : Dig) (i : Nat) : (plK t d i).length ≤ t.nodes.length := by
  unfold plK
  have h1 := List.length_filter_le (fun i => decide (i ≠ t.root)) (((upL t d).take i).map (fun p => p.1))
  have h2 := upL_len t d
  simp only [List.length_map, List.length_take] at h1
  omega
theorem pathL_none {t : Tr} {d : Dig} (h : lkN d t.nodes = none) : pathL t d = [] := by unfold pathL; rw [upL_none h]; rfl
def lastK (t : Tr) (d : Dig) (i : Nat) : Dig := match i with
  | 0 => dig0
  | i + 1 => (((upL t d)[i]?).map (fun p => p.1)).getD dig0
theorem stars_slV0 {b T e : Nat} {L : List Res} {w : World} {F : Nat → Prop} (h : stars (blk b T [.slice none 0 0] :: L) w F) : stars (slV b T e [] :: L) w F := by
  have h2 := stars_swap (stars_row_nil (e := e) (size := 16) h)
  exact stars_ex_mk (none, 0) (stars_all_mk h2)
attribute [local irreducible] Gl Gc Gx Gs Runs Wt
attribute [local irreducible] dc qcC blkC
theorem tpath_ok {w : World} {F : Nat → Prop} {q : Nat} {t : Tr} (hx : RdTree w (fun k => ¬ F k) q t) (hok : TOk t) {d : Dig} (h : stars [] w F) :
    Calls Tryz.prog 36 #[.pointer (some ⟨q, 0, none⟩), .agg (dc d).toArray] w (Post w F (fun r : Option Addr × Nat => .tuple #[.slice r.1 (pathL t d).length r.2, .bool (lkN d t.nodes).isSome]) (fun r => [rowR 27 16 r.1 (pathL t d).length r.2 ((pathL t d).map dc).flatten])) := by
 obtain ⟨g, ao, co, ac, cc, css, hT⟩ := hx; obtain ⟨hqA, hrt, h16, h17, h18⟩ := hT.cells; have hle := hok.le
 have hcl := hok.cl
 have hce := hok.ce
 obtain ⟨cp, hgk, hrp⟩ := hT.lookB d; have icp := Len.of hrp.len
 have jcp := One.of hrp.one
 refine g_enterM (env := [(0, .pointer (some ⟨q, 0, none⟩)), (1, .agg (dc d).toArray)]) Tryz.func36 rfl h Tryz.ntmps36 rfl rfl ?_; refine gsr (zb1 fun b2 => ?_); refine zbN fun b3 => ?_; refine zxa ?_; refine zxa ?_; refine gnt (gc_seq (gc_seq (gc_regionZ 11 ([blk b2 31 [.pointer (some ⟨q, 0, none⟩)], blk b3 27 (dc d)]) ?_))); refine yps 0 rfl zl ?_; refine yps 1 rfl znc ?_; refine yps 2 rfl zfa ?_; refine yps 3 rfl (r_ld1o rfl Ty.row_134 h16 hqA) ?_; refine yps 4 rfl zL ?_; refine yps 5 rfl (r_val (v' := .tuple #[.agg cp.toArray, .bool (lkN d t.nodes).isSome]) (r_looko (K := digV) (l := nodeV t.nodes css) (key := d) (z := .agg blkC.toArray) rfl rfl Ty.un_134 (by kernel_rfl) hT.mp) hgk) ?_; refine yps 6 rfl zmv ?_; refine yps 7 rfl zex ?_; refine yps 8 rfl zex ?_; refine yos 9 rfl ?_; refine zal fun b6 => ?_; refine gl_eqc (cs' := blkC) (by repeat (first | exact Pick.here | apply Pick.there)) (by kernel_rfl) ?_; refine yxs ?_; refine yos 10 rfl ?_; refine zsA hrp.len hrp.one ?_; refine yxs ?_; refine yzs rfl ?_; refine zxa ?_; refine zxs ?_; refine zxm ?_; refine gp znt ?_; refine gnt (gif rfl (fun hc20 => ?_) (fun hc20 => ?_))
 ·try simp only at hc20
  have hnl : lkN d t.nodes = none := by simpa using hc20
  have hpl := pathL_none hnl
  refine gsr (zxa ?_); refine zxa ?_; refine gnt (gc_ret (gx_then_ret (gx_mark0 ?_))); refine gx_ret2 rfl (by conv => lhs; whnf) (by conv => lhs; whnf) ?_; exact fun w' hw => ⟨(none, 0), by rw [hpl, hnl]; rfl, by rw [hpl]; exact hw.rowNil.z⟩
 ·try simp only at hc20
  have hsm : (lkN d t.nodes).isSome = true := by simpa using hc20
  refine gc_skip (gx_then (gsr (zal fun b8 => ?_))); refine gnt (gc_seq (gsr (gp zl ?_))); refine gp zL ?_; refine zc ?_ (c := fun w1 F1 F2 h1 h2 hd hst => tup_ok (d := d) h1)
  rintro ⟨bx, by_⟩
  refine gnt (gc_block ?_); have hT' : ∀ {w1 : World} {A1 : Nat → Prop}, Still w (fun k => ¬ F k) w1 A1 → RdTree w1 A1 q t := fun hs => ⟨g, ao, co, ac, cc, css, hT.mv hs⟩
  refine gc_cz (M := [blk b8 33 [.slice none 0 0]]) (N := [slV b8 33 27 (plK t d 0)]) (fun w' F' h' => stars_slV0 h') ?_; refine gc_range (own := [blk bx 31 [.pointer (some ⟨q, 0, none⟩)], blk by_ 27 (dc d)]) (fun i => [slV b8 33 27 (plK t d i), blk b2 31 [.pointer (some ⟨q, 0, none⟩)]]) (fun _ _ => [pureR False]) (by exact rfl) Ty.call_90 (by repeat (first | exact Sel.nil | (apply Sel.cons; · (repeat (first | exact Pick.here | apply Pick.there))))) (by intros; rfl) (fun lp J Jx w1 F1 F2 h1 h2 hd hst => up1_it (hT' (hst.still)) hok h1) ?_ ?_ ?_
  ·intro lp rc rc' i x w1 F1 F2 h1 h2 hd hst; try dsimp only [List.cons_append, List.nil_append, zipE]
   have hT := hT.mv hst.still
   obtain ⟨hqA, hrt, h16, h17, h18⟩ := hT.cells; obtain ⟨e, cq⟩ := x; refine gc_pure1 (p := upP t d i (e, cq)) (by repeat (first | exact Pick.here | apply Pick.there)) (fun hi => ?_)
   obtain ⟨⟨hl39, ho39⟩, pb, hget, hrr⟩ := hi; replace hl39 : cq.length = 39 := hl39
   have i39 := Len.of hl39
   have j39 := One.of (show ∀ v ∈ cq, v.oneCell' = true from ho39)
   refine gc_slV (by repeat (first | exact Pick.here | apply Pick.there)) (fun a m => ?_)
   have hpll := plK_len t d i
   refine gc_region (zal fun b9 => ?_); refine zsN ?_; refine gl_nil (gx_lp (by repeat (first | exact Pick.here | apply Pick.there)) ?_); refine gx_begin ?_; refine gc_block (gc_seq (gc_regionS (by kernel_rfl) (by kernel_rfl) ?_)); refine sp zL ?_; refine sp zl ?_; refine sp znc ?_; refine sp zfa ?_; refine sp (r_ldNo rfl Ty.row_27 Ty.sz_27 hrt (dc_length _) (by decide) hqA) ?_; refine sp znd ?_; refine gs_nil ?_; refine gx_then (gif rfl (fun hc31 => ?_) (fun hc31 => ?_))
   ·refine gc_region (gp zl ?_); refine gp zL ?_; refine zeN fun b34 => ?_; refine zapo (fun a35 c35 => ?_)
    refine zs1 ?_; refine gl_nil (gx_block_normal (gx_rdn ?_)); intro w' hw; have he : plK t d (i + 1) = plK t d i ++ [e] := by rw [plK_succ hget, if_neg (by simpa using hc31)]
    have h1 := St.slV (b := b8) (l := plK t d (i + 1)) (hw.sel (M := [blk b8 33 [.slice a35 ((plK t d i).length + 1) c35], rowR 27 16 a35 ((plK t d i).length + 1) c35 (((plK t d i).map dc).flatten ++ dc e), lpR lp rc', blk b2 31 [.pointer (some ⟨q, 0, none⟩)]]) (by repeat (first | exact Sel.nil | (apply Sel.cons; · (repeat (first | exact Pick.here | apply Pick.there)))))) (by rw [he]; simp) (by rw [he]; simp)
    exact h1.z
   ·refine gc_skip (gx_block_normal (gx_rdn ?_)); intro w' hw; have he : plK t d (i + 1) = plK t d i := by rw [plK_succ hget, if_pos (by simpa using hc31)]
    have h1 := St.slV (b := b8) (l := plK t d (i + 1)) (hw.sel (M := [blk b8 33 [.slice a (plK t d i).length m], rowR 27 16 a (plK t d i).length m ((plK t d i).map dc).flatten, lpR lp rc', blk b2 31 [.pointer (some ⟨q, 0, none⟩)]]) (by repeat (first | exact Sel.nil | (apply Sel.cons; · (repeat (first | exact Pick.here | apply Pick.there)))))) (by rw [he]) (by rw [he])
    exact h1.z
  ·intro bU6 y m hy; try dsimp only [List.cons_append, List.nil_append]
   obtain ⟨yb, yd⟩ := y; obtain rfl : m = (upL t d).length := by cases yb <;> simp_all [allOr]
   refine gx_block_normal (gx_thenM ?_); refine gsr (gl_slV (by repeat (first | exact Pick.here | apply Pick.there)) (fun a m => ?_))
   have hpll := plK_len t d (upL t d).length
   refine gp zl ?_; refine zc (fun _ => ?_) (c := fun w1 F1 F2 h1 h2 hd hst => reverse_ok (l := plK t d (upL t d).length) h1 rfl (by omega))
   rw [plK_all]; refine zxs ?_; refine gp zl ?_; refine zxa ?_; refine zxa ?_; refine gnt (gc_ret (gx_mark (by repeat (first | exact Pick.here | apply Pick.there)) ?_)); refine gx_mark0 ?_; refine gx_ret2 rfl (by conv => lhs; whnf) (by conv => lhs; whnf) ?_; have hpe : (plK t d (upL t d).length).length = (pathL t d).length := by rw [← plK_all, List.length_reverse]
   rw [hpe]; exact fun w' hw => ⟨(a, m), by rw [hsm], hw.z⟩
  ·exact fun _ _ _ _ _ => gc_noway
end
section
def TreeR (q : Nat) (t : Tr) : Res := exR fun x : (Nat × (Option Addr × Nat) × (Option Addr × Nat)) × (List (List Value) × List (List Value)) =>
  allR [pureR (∀ c ∈ x.2.2, c.length = 19), blk q 137 (dc t.root ++ [.map (some x.1.1), .slice x.1.2.1.1 t.nodes.length x.1.2.1.2, .slice x.1.2.2.1 t.certs.length x.1.2.2.2]), mapR x.1.1 (encK digV (nodeV t.nodes x.2.1)), ElR RdBlock x.2.1 (t.nodes.map (fun p => p.2)),
    rowR 27 16 x.1.2.1.1 t.nodes.length x.1.2.1.2 ((keysT t).map dc).flatten, rowR 47 19 x.1.2.2.1 t.certs.length x.1.2.2.2 x.2.2.flatten, ElR RdQC x.2.2 t.certs]
abbrev treL (q : Nat) (t : Tr) (g : Nat) (ao : Option Addr) (co : Nat) (ac : Option Addr) (cc : Nat) (css qss : List (List Value)) (L : List Res) : List Res :=
  blk q 137 (dc t.root ++ [.map (some g), .slice ao t.nodes.length co, .slice ac t.certs.length cc]) :: mapR g (encK digV (nodeV t.nodes css)) :: ElR RdBlock css (t.nodes.map (fun p => p.2)) ::
    rowR 27 16 ao t.nodes.length co ((keysT t).map dc).flatten :: rowR 47 19 ac t.certs.length cc qss.flatten :: ElR RdQC qss t.certs :: L
section
variable {w0 w : World} {F F0 : Nat → Prop} {L L' : List Res} {Q : Exit → Act → World → Prop} {n : Fm} {env : Env} {ops : Array Oper} {rest : List Oper} {q : Nat} {t : Tr}
theorem tree_open (h : stars (TreeR q t :: L) w F) : ∃ g ao co ac cc css qss, (∀ c ∈ qss, List.length c = 19) ∧ stars (treL q t g ao co ac cc css qss L) w F := by
  obtain ⟨⟨⟨g, ⟨ao, co⟩, ⟨ac, cc⟩⟩, ⟨css, qss⟩⟩, h⟩ := stars_ex h
  obtain ⟨h1, h2⟩ := stars_pure (stars_all h)
  exact ⟨g, ao, co, ac, cc, css, qss, h1, h2⟩
theorem tree_shut {g : Nat} {ao : Option Addr} {co : Nat} {ac : Option Addr} {cc : Nat} {css qss : List (List Value)} (h19 : ∀ c ∈ qss, List.length c = 19) (h : stars (treL q t g ao co ac cc css qss L) w F) : stars (TreeR q t :: L) w F :=
  stars_ex_mk ((g, (ao, co), (ac, cc)), (css, qss)) (stars_all_mk (stars_pure_mk h19 h))
theorem gc_tree {c : Code} (hp : Pick L (TreeR q t) L') (k : ∀ g ao co ac cc css qss, (∀ c ∈ qss, List.length c = 19) → Gc Tryz.prog w0 F0 (treL q t g ao co ac cc css qss L') c Q n env) : Gc Tryz.prog w0 F0 L c Q n env := fun w hw => by
  obtain ⟨F, hF, hst⟩ := hw.pick hp
  obtain ⟨g, ao, co, ac, cc, css, qss, h19, h⟩ := tree_open hF
  exact k g ao co ac cc css qss h19 w ⟨F, h, hst⟩
theorem gl_tree (hp : Pick L (TreeR q t) L') (k : ∀ g ao co ac cc css qss, (∀ c ∈ qss, List.length c = 19) → Gl Tryz.prog w0 F0 (treL q t g ao co ac cc css qss L') ops Q rest n env) : Gl Tryz.prog w0 F0 L ops Q rest n env := fun w hw => by
  obtain ⟨F, hF, hst⟩ := hw.pick hp
  obtain ⟨g, ao, co, ac, cc, css, qss, h19, h⟩ := tree_open hF
  exact k g ao co ac cc css qss h19 w ⟨F, h, hst⟩
theorem treL_rd {g : Nat} {ao : Option Addr} {co : Nat} {ac : Option Addr} {cc : Nat} {css qss : List (List Value)} (h19 : ∀ c ∈ qss, List.length c = 19) (h : stars (treL q t g ao co ac cc css qss []) w F) : RdTree w F q t := by
  obtain ⟨F1, R1, h1, k1, e1, _⟩ := h
  obtain ⟨F2, R2, h2, k2, e2, _⟩ := k1
  obtain ⟨F3, R3, ⟨⟨h3l, h3⟩, _⟩, k3, e3, _⟩ := k2
  obtain ⟨F4, R4, h4, k4, e4, _⟩ := k3
  obtain ⟨F5, R5, h5, k5, e5, _⟩ := k4
  obtain ⟨F6, R6, ⟨⟨h6l, h6⟩, _⟩, _, e6, _⟩ := k5
  have s1 : ∀ k, F1 k → F k := fun k hk => (e1 k).2 (.inl hk)
  have s2 : ∀ k, F2 k → F k := fun k hk => (e1 k).2 (.inr ((e2 k).2 (.inl hk)))
  have s3 : ∀ k, F3 k → F k := fun k hk => (e1 k).2 (.inr ((e2 k).2 (.inr ((e3 k).2 (.inl hk)))))
  have s4 : ∀ k, F4 k → F k := fun k hk => (e1 k).2 (.inr ((e2 k).2 (.inr ((e3 k).2 (.inr ((e4 k).2 (.inl hk)))))))
  have s5 : ∀ k, F5 k → F k := fun k hk => (e1 k).2 (.inr ((e2 k).2 (.inr ((e3 k).2 (.inr ((e4 k).2 (.inr ((e5 k).2 (.inl hk)))))))))
  have s6 : ∀ k, F6 k → F k := fun k hk => (e1 k).2 (.inr ((e2 k).2 (.inr ((e3 k).2 (.inr ((e4 k).2 (.inr ((e5 k).2 (.inr ((e6 k).2 (.inl hk)))))))))))
  have hlt := treeC_len t g ao co ac cc
  refine ⟨g, ao, co, ac, cc, css, ?_, ?_, ⟨by simpa using h3l, fun i c p hc hp => ?_⟩, ?_, ?_⟩
  · exact (RdRow.of_blk h1 (n := 1) (size := 19) (o := 0) (by rw [List.drop_zero]; exact List.take_of_length_le (by rw [← treeC, hlt]; decide)) (by rw [hlt]) (by decide)).mv (still_sub s1)
  · exact (mapR.rd h2).mv (still_sub s2)
  · exact (h3 i c p.2 hc (by simp [hp])).mv (still_sub s3)
  · refine ⟨(keysT t).map dc, (rowR.rd h4).mv (still_sub s4), fun c hc => ?_, by simp, fun i c x hc hx => ?_⟩
    · obtain ⟨x, _, rfl⟩ := List.mem_map.1 hc; exact dc_length x
    · rw [List.getElem?_map, hx] at hc; cases hc; rfl
  · exact ⟨qss, (rowR.rd h5).mv (still_sub s5), h19, h6l, fun i c x hc hx => (h6 i c x hc hx).mv (still_sub s6)⟩
theorem tree_rd1 (h : stars [TreeR q t] w F) : RdTree w F q t := by
  obtain ⟨g, ao, co, ac, cc, css, qss, h19, h⟩ := tree_open h
  exact treL_rd h19 h
theorem tr_rd {F1 F2 : Nat → Prop} (h2 : stars L w F2) (hd : ∀ k, F1 k → ¬ F2 k) (hp : Pick L (TreeR q t) L') : RdTree w (fun k => ¬ F1 k) q t := by
  obtain ⟨G1, h1, hs⟩ := stars_pick hp h2
  exact (tree_rd1 (stars_one h1)).mv (still_sub fun k hk h' => hd k h' (hs k hk))
end
theorem lookP {t : Tr} {css : List (List Value)} (hl : css.length = (t.nodes.map (fun p => p.2)).length) (he : ∀ (i : Nat) (c : List Value) (x : Block), css[i]? = some c → (t.nodes.map (fun p => p.2))[i]? = some x → ∃ w A, RdBlock w A c x) (d : Dig) :
    ∃ cp, (if (true : Bool) then Value.tuple #[(getK d (nodeV t.nodes css)).getD (.agg blkC.toArray), .bool (getK d (nodeV t.nodes css)).isSome] else (getK d (nodeV t.nodes css)).getD (.agg blkC.toArray)) = .tuple #[.agg cp.toArray, .bool (lkN d t.nodes).isSome] ∧ ∃ w A, RdBlock w A cp (bOf t d) := by
  cases hk : lkN d t.nodes with
  | none => exact ⟨blkC, by rw [TrM.lookn hk]; rfl, default, fun _ => True, by rw [bOf, hk]; exact rdBlock0⟩
  | some b =>
    obtain ⟨i, c, h1, h2, h3⟩ := nodeV_some (k := 0) (by simpa using hl) hk
    obtain ⟨w, A, hr⟩ := he i c b h2 (by simp [h1])
    exact ⟨c, by rw [getK, h3]; rfl, w, A, by rw [bOf, hk]; exact hr⟩
theorem nodeV_put {l : List (Dig × Block)} {css : List (List Value)} {id : Dig} {b : Block} {c : List Value} (hl : css.length = l.length) (hn : lkN id l = none) : putK id (.agg c.toArray) (nodeV l css) = nodeV (l ++ [(id, b)]) (css ++ [c]) := by
  rw [(atK_none (v := .agg c.toArray) (nodeV_none (css := css) (k := 0) hn)).1]
  simp only [nodeV, List.map_append, List.map_cons, List.map_nil]
  rw [List.zip_append (by simp [hl])]; rfl
theorem stars_newT {q g b1 b2 : Nat} {c d : List Value} {b : Block} {qc : QC} {id : Dig} {w : World} {F : Nat → Prop} {L : List Res} (hq : d.length = 19)
    (h : stars (blk q 137 (dc id ++ [.map (some g), .slice (some ⟨b1, 0, none⟩) 1 1, .slice (some ⟨b2, 0, none⟩) 1 1]) :: mapR g (encK digV (putK id (.agg c.toArray) [])) :: VlR RdBlock c b :: rowR 27 16 (some ⟨b1, 0, none⟩) 1 1 (dc id) :: rowR 47 19 (some ⟨b2, 0, none⟩) 1 1 d :: VlR RdQC d qc :: L) w F) : stars (TreeR q (newT b qc id) :: L) w F := by
  refine tree_shut (g := g) (ao := some ⟨b1, 0, none⟩) (co := 1) (ac := some ⟨b2, 0, none⟩) (cc := 1) (css := [c]) (qss := [d]) (fun x hx => by simp at hx; subst hx; exact hq) ?_
  have hb : ∀ {F : Nat → Prop}, (VlR RdBlock c b).on w F → (ElR RdBlock [c] [b]).on w F := fun h => stars_one' (el_snoc (css := []) (l := []) (el_nil (stars_one h)))
  have hc : ∀ {F : Nat → Prop}, (VlR RdQC d qc).on w F → (ElR RdQC [d] [qc]).on w F := fun h => stars_one' (el_snoc (css := []) (l := []) (el_nil (stars_one h)))
  obtain ⟨F1, R1, h1, k1, e1, d1⟩ := h
  obtain ⟨F2, R2, h2, k2, e2, d2⟩ := k1
  obtain ⟨F3, R3, h3, k3, e3, d3⟩ := k2
  obtain ⟨F4, R4, h4, k4, e4, d4⟩ := k3
  obtain ⟨F5, R5, h5, k5, e5, d5⟩ := k4
  obtain ⟨F6, R6, h6, k6, e6, d6⟩ := k5
  exact ⟨F1, R1, h1, ⟨F2, R2, h2, ⟨F3, R3, hb h3, ⟨F4, R4, by simpa [keysT, newT] using h4, ⟨F5, R5, by simpa [newT] using h5, ⟨F6, R6, hc h6, k6, e6, d6⟩, e5, d5⟩, e4, d4⟩, e3, d3⟩, e2, d2⟩, e1, d1⟩
attribute [local irreducible] Gl Gc Gx Gs Runs Wt
attribute [local irreducible] dc qcC blkC idOf
theorem task_ok {w : World} {F : Nat → Prop} {q : Nat} {t : Tr} (hx : RdTree w (fun k => ¬ F k) q t) (hok : TOk t) {ea : Nat → Addr} {es : List Nat} [Has es 1] [Has es 4] [Has es 8] [Has es 12] [Has es 14] [Has es 16] [Has es 17] (hE : GErr es w (fun k => ¬ F k) 251 ea) (hK : KR w (fun k => ¬ F k)) {cs : List Value} {b : Block} (h : stars [] w F) (hb : RdBlock w (fun k => ¬ F k) cs b) :
    Calls Tryz.prog 56 #[.pointer (some ⟨q, 0, none⟩), .agg cs.toArray] w (Post w F (fun _ : Unit => .tuple #[.agg (dc (idOf b)).toArray, eV 251 ea (askE t b (wBlock b ⟨0, []⟩).err (idOf b))]) (fun _ => [])) := by
 obtain ⟨g, ao, co, ac, cc, css, hT⟩ := hx; obtain ⟨hqA, hrt, h16, h17, h18⟩ := hT.cells; have hle := hok.le
 have hcl := hok.cl
 have hce := hok.ce
 have hb' := hb
 obtain ⟨qj, a1, n1, c1, a2, n2, c2, rfl, hj, hj2, hj3, hj4, hj5⟩ := hb'; have ij := Len.of hj.len
 have jj := One.of hj.one
 obtain ⟨cp, hgk, hrp⟩ := hT.lookB (idOf b); have icp := Len.of hrp.len
 have jcp := One.of hrp.one
 refine g_enter (env := [(0, .pointer (some ⟨q, 0, none⟩)), (1, _)]) Tryz.func56 rfl h Tryz.ntmps56 rfl rfl ?_; refine gsr (zbN fun b3 => ?_); refine zal fun b4 => ?_; refine zxa ?_; refine zxs ?_; refine gp zL ?_; refine zc (fun _ => ?_) (c := fun w1 F1 F2 h1 h2 hd hst => id_ok h1 (hE.mv hst.still) (hK.mv hst.still) (hb.mv hst.still))
 refine zxm ?_; refine gp zex ?_; refine gp zex ?_; refine zal fun b6 => ?_; refine zsN ?_; refine zxa ?_; refine gnt (gc_seq (gsr (zxm ?_))); refine gp (r_bool (c := decide (¬ (wBlock b ⟨0, []⟩).err = 0)) (r_nenil rfl (by kernel_rfl)) (by simp)) ?_; refine gnt (gif rfl (fun hc18 => ?_) (fun hc18 => ?_))
 ·try simp only at hc18
  have he0 : ¬ (wBlock b ⟨0, []⟩).err = 0 := by simpa using hc18
  refine gc_seq (gc_regionZ 3 ([blk b6 27 (dc (idOf b))]) ?_); refine yps 0 rfl zL ?_; refine yps 1 rfl (r_ld1o rfl Ty.row_53 (hE.c 4 Has.h) (hE.n 4 Has.h)) ?_; refine yos 2 rfl ?_; refine zsN ?_; refine yxs ?_; refine yzs rfl ?_; refine zxa ?_; refine gnt (gc_ret (gx_then_ret (gx_retct rfl rfl (by conv => lhs; whnf) (ldA Ty.row_27 Ty.sz_27) ?_))); have ha : (askE t b (wBlock b ⟨0, []⟩).err (idOf b)) = 4 := by unfold askE; rw [if_neg he0]
  exact fun w' hw => ⟨(), by rw [ha], hw.z⟩
 ·try simp only at hc18
  have he0 : (wBlock b ⟨0, []⟩).err = 0 := by simpa using hc18
  refine gc_skip (gx_then (gc_seq (gc_seq (gc_regionZ 11 ([blk b6 27 (dc (idOf b))]) ?_)))); refine yps 0 rfl zmv ?_; refine yps 1 rfl znc ?_; refine yps 2 rfl zfa ?_; refine yps 3 rfl (r_ld1o rfl Ty.row_134 h16 hqA) ?_; refine yps 4 rfl zL ?_; refine yps 5 rfl (r_val (v' := .tuple #[.agg cp.toArray, .bool (lkN (idOf b) t.nodes).isSome]) (r_looko (K := digV) (l := nodeV t.nodes css) (key := (idOf b)) (z := .agg blkC.toArray) rfl rfl Ty.un_134 (by kernel_rfl) hT.mp) hgk) ?_; refine yps 6 rfl zmv ?_; refine yps 7 rfl zex ?_; refine yps 8 rfl zex ?_; refine yos 9 rfl ?_; refine zal fun b8 => ?_; refine gl_eqc (cs' := blkC) (by repeat (first | exact Pick.here | apply Pick.there)) (by kernel_rfl) ?_; refine yxs ?_; refine yos 10 rfl ?_; refine zsA hrp.len hrp.one ?_; refine yxs ?_; refine yzs rfl ?_; refine zxa ?_; refine zxs ?_; refine zxm ?_; refine gnt (gif rfl (fun hc30 => ?_) (fun hc30 => ?_))
  ·refine gc_seq (gc_regionZ 3 ([blk b6 27 (dc (idOf b))]) ?_); refine yps 0 rfl zL ?_; refine yps 1 rfl (r_ld1o rfl Ty.row_53 (hE.c 17 Has.h) (hE.n 17 Has.h)) ?_; refine yos 2 rfl ?_; refine zsN ?_; refine yxs ?_; refine yzs rfl ?_; refine zxa ?_; refine gnt (gc_ret (gx_then_ret (gx_retct rfl rfl (by conv => lhs; whnf) (ldA Ty.row_27 Ty.sz_27) ?_))); have ha : (askE t b (wBlock b ⟨0, []⟩).err (idOf b)) = 17 := by unfold askE; rw [if_pos he0, if_pos hc30]
   exact fun w' hw => ⟨(), by rw [ha], hw.z⟩
  ·try simp only at hc30
   have hn : ¬ (lkN (idOf b) t.nodes).isSome = true := by simpa using hc30
   obtain ⟨cp2, hgk2, hrp2⟩ := hT.lookB b.parent; have icp2 := Len.of hrp2.len
   have jcp2 := One.of hrp2.one
   refine gc_skip (gx_then (gc_seq (gc_regionZ 12 ([blk b3 51 (.int .i64 b.epoch :: .int .i64 b.round :: (dc b.parent ++ (qj ++ [.slice a1 n1 c1, .slice a2 n2 c2])))]) ?_))); refine yps 0 rfl zmv ?_; refine yps 1 rfl znc ?_; refine yps 2 rfl zfa ?_; refine yps 3 rfl (r_ld1o rfl Ty.row_134 h16 hqA) ?_; refine yps 4 rfl zfa ?_; refine yps 5 rfl zL ?_; refine yps 6 rfl (r_val (v' := .tuple #[.agg cp2.toArray, .bool (lkN b.parent t.nodes).isSome]) (r_looko (K := digV) (l := nodeV t.nodes css) (key := b.parent) (z := .agg blkC.toArray) rfl rfl Ty.un_134 (by kernel_rfl) hT.mp) hgk2) ?_; refine yps 7 rfl zmv ?_; refine yps 8 rfl zex ?_; refine yps 9 rfl zex ?_; refine yos 10 rfl ?_; refine zal fun b10 => ?_; refine gl_eqc (cs' := blkC) (by repeat (first | exact Pick.here | apply Pick.there)) (by kernel_rfl) ?_; refine yxs ?_; refine yos 11 rfl ?_; refine zsA hrp2.len hrp2.one ?_; refine yxs ?_; refine yzs rfl ?_; refine zxa ?_; refine gnt (gc_seq (gc_block (gsr (zxm ?_)))); refine gp znt ?_; refine zxa ?_; refine gnt (gif rfl (fun hc43 => ?_) (fun hc43 => ?_))
   ·try simp only at hc43
    have hpn : lkN b.parent t.nodes = none := by simpa using hc43
    refine gc_seq (gc_regionZ 3 ([blk b6 27 (dc (idOf b))]) ?_); refine yps 0 rfl zL ?_; refine yps 1 rfl (r_ld1o rfl Ty.row_53 (hE.c 16 Has.h) (hE.n 16 Has.h)) ?_; refine yos 2 rfl ?_; refine zsN ?_; refine yxs ?_; refine yzs rfl ?_; refine zxa ?_; refine gnt (gc_ret (gx_block_ret ?_)); refine gx_then_ret (gx_retct rfl rfl (by conv => lhs; whnf) (ldA Ty.row_27 Ty.sz_27) ?_); have ha : (askE t b (wBlock b ⟨0, []⟩).err (idOf b)) = 16 := by unfold askE; rw [if_pos he0, if_neg hn, hpn]
    exact fun w' hw => ⟨(), by rw [ha], hw.z⟩
   ·try simp only at hc43
    obtain ⟨p, hp⟩ := Option.isSome_iff_exists.1 (by simpa using hc43 : (lkN b.parent t.nodes).isSome = true); have hbo : bOf t b.parent = p := by rw [bOf, hp]; rfl
    rw [hbo] at hrp2; have hrp3 := hrp2
    obtain ⟨qj2, a3, n3, c3, a4, n4, c4, rfl, hk1, _⟩ := hrp3; have ij2 := Len.of hk1.len
    have jj2 := One.of hk1.one
    refine gc_seq ?_; by_cases hS : fitsQ b.justify b.parent p = true
    ·refine gc_region (gp zfa ?_); refine gp (zL (sg := qj)) ?_; refine gp zfa ?_; refine gp zL ?_; refine gp zL ?_; refine zc (fun _ => ?_) (c := fun w1 F1 F2 h1 h2 hd hst => bfits_ok h1 hj hrp2)
     refine gp (r_bool (c := false) znt (by rw [hS]; rfl)) ?_; refine zxm ?_; refine gq zfa ?_; refine gq zl ?_; refine gq zfa ?_; refine gq zl ?_; refine gq zni ?_; refine gp zpk ?_; refine zxa ?_; refine gnt (gif rfl (fun hc48 => ?_) (fun hc48 => ?_))
     ·try simp only at hc48
      have hne : ¬ b.epoch = p.epoch := by simpa using hc48
      refine gc_seq (gc_regionZ 3 ([blk b6 27 (dc (idOf b))]) ?_); refine yps 0 rfl zL ?_; refine yps 1 rfl (r_ld1o rfl Ty.row_53 (hE.c 12 Has.h) (hE.n 12 Has.h)) ?_; refine yos 2 rfl ?_; refine zsN ?_; refine yxs ?_; refine yzs rfl ?_; refine zxa ?_; refine gnt (gc_ret (gx_block_ret ?_)); refine gx_then_ret (gx_retct rfl rfl (by conv => lhs; whnf) (ldA Ty.row_27 Ty.sz_27) ?_); have ha : (askE t b (wBlock b ⟨0, []⟩).err (idOf b)) = 12 := by unfold askE; rw [if_pos he0, if_neg hn, hp]; simp only; rw [if_neg (fun hh => hne hh.2)]
      exact fun w' hw => ⟨(), by rw [ha], hw.z⟩
     ·try simp only at hc48
      have hep : b.epoch = p.epoch := by simpa using hc48
      refine gsr (gp zfa ?_); refine gp zl ?_; refine gp zfa ?_; refine gp zl ?_; refine gp zle ?_; refine zxa ?_; refine gnt (gif rfl (fun hc65 => ?_) (fun hc65 => ?_))
      ·try simp only at hc65
       have hro : b.round ≤ p.round := by simpa using hc65
       refine gc_seq (gc_regionZ 3 ([blk b6 27 (dc (idOf b))]) ?_); refine yps 0 rfl zL ?_; refine yps 1 rfl (r_ld1o rfl Ty.row_53 (hE.c 14 Has.h) (hE.n 14 Has.h)) ?_; refine yos 2 rfl ?_; refine zsN ?_; refine yxs ?_; refine yzs rfl ?_; refine zxa ?_; refine gnt (gc_ret (gx_block_ret ?_)); refine gx_then_ret (gx_retct rfl rfl (by conv => lhs; whnf) (ldA Ty.row_27 Ty.sz_27) ?_); have ha : (askE t b (wBlock b ⟨0, []⟩).err (idOf b)) = 14 := by unfold askE; rw [if_pos he0, if_neg hn, hp]; simp only; rw [if_pos ⟨hS, hep⟩, if_pos hro]
       exact fun w' hw => ⟨(), by rw [ha], hw.z⟩
      ·try simp only at hc65
       have hro : ¬ b.round ≤ p.round := by simpa using hc65
       refine gsr (zxm ?_); refine gp znc ?_; refine gp zfa ?_; refine gp (r_ld1o rfl Ty.row_134 h16 hqA) ?_; refine gp (r_val (v' := .int .i64 (t.nodes.length : Int)) (r_lenmo rfl Ty.un_134 hT.mp) (by rw [nodeV_len hT.el.1])) ?_; refine gp (r_bool (c := decide (16 ≤ t.nodes.length)) zge (by rw [Bool.eq_iff_iff]; simp only [decide_eq_true_eq]; omega)) ?_; refine zxa ?_; refine gnt (gif rfl (fun hc73 => ?_) (fun hc73 => ?_))
       ·try simp only at hc73
        have hfu : 16 ≤ t.nodes.length := by simpa using hc73
        refine gc_seq (gc_regionZ 3 ([blk b6 27 (dc (idOf b))]) ?_); refine yps 0 rfl zL ?_; refine yps 1 rfl (r_ld1o rfl Ty.row_53 (hE.c 8 Has.h) (hE.n 8 Has.h)) ?_; refine yos 2 rfl ?_; refine zsN ?_; refine yxs ?_; refine yzs rfl ?_; refine zxa ?_; refine gnt (gc_ret (gx_block_ret ?_)); refine gx_then_ret (gx_retct rfl rfl (by conv => lhs; whnf) (ldA Ty.row_27 Ty.sz_27) ?_); have ha : (askE t b (wBlock b ⟨0, []⟩).err (idOf b)) = 8 := by unfold askE; rw [if_pos he0, if_neg hn, hp]; simp only; rw [if_pos ⟨hS, hep⟩, if_neg hro, if_pos hfu]
        exact fun w' hw => ⟨(), by rw [ha], hw.z⟩
       ·try simp only at hc73
        have hfu : ¬ 16 ≤ t.nodes.length := by simpa using hc73
        refine gc_skip (gx_block_normal (gx_then (gsr (gp zL ?_)))); refine zsN ?_; refine zxa ?_; refine gnt (gc_ret (gx_retct rfl rfl (by conv => lhs; whnf) (ldA Ty.row_27 Ty.sz_27) ?_)); have ha : (askE t b (wBlock b ⟨0, []⟩).err (idOf b)) = 0 := by unfold askE; rw [if_pos he0, if_neg hn, hp]; simp only; rw [if_pos ⟨hS, hep⟩, if_neg hro, if_neg hfu]
        exact fun w' hw => ⟨(), by rw [ha, eV_zero], hw.z⟩
    ·refine gc_region (gp zfa ?_); refine gp (zL (sg := qj)) ?_; refine gp zfa ?_; refine gp zL ?_; refine gp zL ?_; refine zc (fun _ => ?_) (c := fun w1 F1 F2 h1 h2 hd hst => bfits_ok h1 hj hrp2)
     refine gp (r_bool (c := true) znt (by simp [hS])) ?_; refine zxm ?_; refine gn ?_; refine gn ?_; refine gn ?_; refine gn ?_; refine gn ?_; refine gp zpk ?_; refine zxa ?_; refine gnt (gc_condT rfl rfl ?_); refine gc_seq (gc_regionZ 3 ([blk b6 27 (dc (idOf b))]) ?_); refine yps 0 rfl zL ?_; refine yps 1 rfl (r_ld1o rfl Ty.row_53 (hE.c 12 Has.h) (hE.n 12 Has.h)) ?_; refine yos 2 rfl ?_; refine zsN ?_; refine yxs ?_; refine yzs rfl ?_; refine zxa ?_; refine gnt (gc_ret (gx_block_ret ?_)); refine gx_then_ret (gx_retct rfl rfl (by conv => lhs; whnf) (ldA Ty.row_27 Ty.sz_27) ?_); have ha : (askE t b (wBlock b ⟨0, []⟩).err (idOf b)) = 12 := by unfold askE; rw [if_pos he0, if_neg hn, hp]; simp only; rw [if_neg (fun hh => hS hh.1)]
     exact fun w' hw => ⟨(), by rw [ha], hw.z⟩
end
section
theorem new_end {w0 : World} {F0 : Nat → Prop} {L L' : List Res} {b36 g25 b31 b34 : Nat} {b : Block} {q : QC} {x28 x33 : List Value} {ea : Nat → Addr} (he0 : (wBlock b ⟨0, []⟩).err = 0) (hf : fitsQ q (idOf b) b = true) (hl33 : x33.length = 19)
    (hs : Sel L [blk b36 137 (dc (idOf b) ++ [.map (some g25), .slice (some ⟨b31, 0, none⟩) 1 1, .slice (some ⟨b34, 0, none⟩) 1 1]), mapR g25 (encK digV (putK (idOf b) (.agg x28.toArray) [])), VlR RdBlock x28 b, rowR 27 16 (some ⟨b31, 0, none⟩) 1 1 (dc (idOf b)), rowR 47 19 (some ⟨b34, 0, none⟩) 1 1 x33, VlR RdQC x33 q] L' := by repeat (first | exact Sel.nil | (apply Sel.cons; · (repeat (first | exact Pick.here | apply Pick.there))))) :
    ∀ w', St w0 F0 L w' → Post w0 F0 (fun x : Nat => .tuple #[if (newE b q (wBlock b ⟨0, []⟩).err (idOf b)) = 0 then .pointer (some ⟨x, 0, none⟩) else .pointer none, eV 251 ea (newE b q (wBlock b ⟨0, []⟩).err (idOf b))]) (fun x => if (newE b q (wBlock b ⟨0, []⟩).err (idOf b)) = 0 then [TreeR x (newT b q (idOf b))] else []) (.returned (.tuple #[.pointer (some ⟨b36, 0, none⟩), .nilIface])) w' := fun w' hw => by
  have hn : (newE b q (wBlock b ⟨0, []⟩).err (idOf b)) = 0 := by unfold newE; rw [if_pos he0, if_pos hf]
  have h1 := hw.conv hs (fun _ _ => stars_newT hl33)
  exact ⟨b36, by rw [hn, eV_zero]; exact rfl, by rw [hn]; show St _ _ [TreeR b36 _] w'; exact h1.sel (.cons .here .nil)⟩
attribute [local irreducible] Gl Gc Gx Gs Runs Wt
attribute [local irreducible] dc qcC blkC idOf RdBlock RdQC TreeR
theorem tnew_ok {w : World} {F : Nat → Prop} {ea : Nat → Addr} {es : List Nat} [Has es 1] [Has es 4] [Has es 12] (hE : GErr es w (fun k => ¬ F k) 251 ea) (hK : KR w (fun k => ¬ F k)) {cs qs : List Value} {b : Block} {q : QC} (h : stars [] w F) (hb : RdBlock w (fun k => ¬ F k) cs b) (hq : RdQC w (fun k => ¬ F k) qs q) (hsb : (wBlock b ⟨0, []⟩).err = 0 → smBlk b) (hsq : smQC q) :
    Calls Tryz.prog 27 #[.agg cs.toArray, .agg qs.toArray] w (Post w F (fun x : Nat => .tuple #[if (newE b q (wBlock b ⟨0, []⟩).err (idOf b)) = 0 then .pointer (some ⟨x, 0, none⟩) else .pointer none, eV 251 ea (newE b q (wBlock b ⟨0, []⟩).err (idOf b))]) (fun x => if (newE b q (wBlock b ⟨0, []⟩).err (idOf b)) = 0 then [TreeR x (newT b q (idOf b))] else [])) := by
 have il := Len.of hb.len
 have jl := One.of hb.one
 have il2 := Len.of hq.len
 have jl2 := One.of hq.one
 refine g_enter (env := [(0, .agg cs.toArray), (1, .agg qs.toArray)]) Tryz.func27 rfl h Tryz.ntmps27 rfl rfl ?_; refine gsr (zbN fun b2 => ?_); refine zbN fun b3 => ?_; refine zxa ?_; refine zxa ?_; refine zxs ?_; refine gp (zLa (cs := cs)) ?_; refine zc (fun _ => ?_) (c := fun w1 F1 F2 h1 h2 hd hst => id_ok h1 (hE.mv hst.still) (hK.mv hst.still) (hb.mv hst.still))
 refine zxm ?_; refine gp zex ?_; refine gp zex ?_; refine zal fun b6 => ?_; refine zsN ?_; refine zxa ?_; refine gnt (gc_seq (gc_block (gsr (zxm ?_)))); refine gp (r_bool (c := decide (¬ (wBlock b ⟨0, []⟩).err = 0)) (r_nenil rfl (by kernel_rfl)) (by simp)) ?_; refine zxa ?_; refine gnt (gif rfl (fun hc13 => ?_) (fun hc13 => ?_))
 ·try simp only at hc13
  have he0 : ¬ (wBlock b ⟨0, []⟩).err = 0 := by simpa using hc13
  refine gc_seq (gc_regionS (by kernel_rfl) (by kernel_rfl) ?_); refine sp (r_ld1o rfl Ty.row_53 (hE.c 4 Has.h) (hE.n 4 Has.h)) ?_; refine sp zas ?_; refine sp zas ?_; refine gs_nil ?_; refine gx_then (gc_ret (gx_block_ret ?_)); refine gx_then_ret (gx_ret2 rfl (by conv => lhs; whnf) (by conv => lhs; whnf) ?_); have hn : (newE b q (wBlock b ⟨0, []⟩).err (idOf b)) = 4 := by unfold newE; rw [if_neg he0]
  exact fun w' hw => ⟨0, by rw [hn]; exact rfl, by rw [hn]; show St _ _ [] w'; exact hw.sel Sel.nil⟩
 ·try simp only at hc13
  have he0 : (wBlock b ⟨0, []⟩).err = 0 := by simpa using hc13
  have hsb := hsb he0
  refine gsr (gp (zLa (cs := qs)) ?_); refine gp zL ?_; refine gp (zLa (cs := cs)) ?_; refine zc (fun _ => ?_) (c := fun w1 F1 F2 h1 h2 hd hst => bfits_ok h1 hq hb)
  refine gp znt ?_; refine zxa ?_; refine gnt (gif rfl (fun hc17 => ?_) (fun hc17 => ?_))
  ·try simp only at hc17
   have hf : ¬ fitsQ q (idOf b) b = true := by simpa using hc17
   refine gc_seq (gc_regionS (by kernel_rfl) (by kernel_rfl) ?_); refine sp (r_ld1o rfl Ty.row_53 (hE.c 12 Has.h) (hE.n 12 Has.h)) ?_; refine sp zas ?_; refine sp zas ?_; refine gs_nil ?_; refine gx_then (gc_ret (gx_block_ret ?_)); refine gx_then_ret (gx_ret2 rfl (by conv => lhs; whnf) (by conv => lhs; whnf) ?_); have hn : (newE b q (wBlock b ⟨0, []⟩).err (idOf b)) = 12 := by unfold newE; rw [if_pos he0, if_neg hf]
   exact fun w' hw => ⟨0, by rw [hn]; exact rfl, by rw [hn]; show St _ _ [] w'; exact hw.sel Sel.nil⟩
  ·try simp only at hc17
   have hf : fitsQ q (idOf b) b = true := by simpa using hc17
   refine gc_skip (gx_block_normal (gx_then (gc_seq (gc_regionZ 15 ([blk b6 27 (dc (idOf b)), blk b2 51 cs, blk b3 47 qs]) ?_)))); refine yps 0 rfl zL ?_; refine yps 2 rfl zL ?_; refine yps 3 rfl (zLa (cs := cs)) ?_; refine yps 7 rfl zL ?_; refine yps 9 rfl (zLa (cs := qs)) ?_; refine yo3s 1 4 8 rfl rfl rfl ?_ ?_ ?_
   ·refine gl_mkMap (wt0 rfl) (fun g25 => ?_)
    refine yxs ?_; refine yo2s 4 8 rfl rfl ?_ ?_
    ·refine zc (fun x28 => ?_) (c := fun w1 F1 F2 h1 h2 hd hst => copied_ok h1 (hb.mv hst.still) hsb)
     refine gl_pureR (fun hx28 => ?_)
     obtain ⟨hl28, ho28⟩ := hx28; replace hl28 : x28.length = 39 := hl28
     have i28 := Len.of hl28
     have j28 := One.of (show ∀ v ∈ x28, v.oneCell' = true from ho28)
     refine yxs ?_; refine yo3s 5 8 10 rfl rfl rfl ?_ ?_ ?_
     ·refine gl_ins (K := digV) (l := []) (key := idOf b) (v := .agg x28.toArray) (wt0 rfl) rfl rfl rfl Ty.un_134 (by repeat (first | exact Pick.here | apply Pick.there)) ?_; refine yxs ?_; refine yps 6 rfl zmv ?_; refine yo2s 8 10 rfl rfl ?_ ?_
      ·refine zeN fun b31 => ?_; refine yxs ?_; refine yos 10 rfl ?_; refine zc (fun x33 => ?_) (c := fun w1 F1 F2 h1 h2 hd hst => copiedQC_ok h1 (hq.mv hst.still) hsq)
       refine gl_pureR (fun hx33 => ?_)
       obtain ⟨hl33, ho33⟩ := hx33; replace hl33 : x33.length = 19 := hl33
       have i33 := Len.of hl33
       have j33 := One.of (show ∀ v ∈ x33, v.oneCell' = true from ho33)
       refine yxs ?_; refine yos 11 rfl ?_; refine zeN fun b34 => ?_; refine yxs ?_; refine yps 12 rfl zbu ?_; refine yos 13 rfl ?_; refine zbN fun b36 => ?_; refine yxs ?_; refine yps 14 rfl zas ?_; refine yzs rfl ?_; refine zxa ?_; refine gnt (gc_ret (gx_ret2 rfl (by conv => lhs; whnf) (by conv => lhs; whnf) ?_)); exact new_end he0 hf hl33
      ·refine zc (fun x33 => ?_) (c := fun w1 F1 F2 h1 h2 hd hst => copiedQC_ok h1 (hq.mv hst.still) hsq)
       refine gl_pureR (fun hx33 => ?_)
       obtain ⟨hl33, ho33⟩ := hx33; replace hl33 : x33.length = 19 := hl33
       have i33 := Len.of hl33
       have j33 := One.of (show ∀ v ∈ x33, v.oneCell' = true from ho33)
       refine yxs ?_; refine yo2s 8 11 rfl rfl ?_ ?_
       ·refine zeN fun b31 => ?_; refine yxs ?_; refine yos 11 rfl ?_; refine zeN fun b34 => ?_; refine yxs ?_; refine yps 12 rfl zbu ?_; refine yos 13 rfl ?_; refine zbN fun b36 => ?_; refine yxs ?_; refine yps 14 rfl zas ?_; refine yzs rfl ?_; refine zxa ?_; refine gnt (gc_ret (gx_ret2 rfl (by conv => lhs; whnf) (by conv => lhs; whnf) ?_)); exact new_end he0 hf hl33
       ·refine zeN fun b34 => ?_; refine yxs ?_; refine yos 8 rfl ?_; refine zeN fun b31 => ?_; refine yxs ?_; refine yps 12 rfl zbu ?_; refine yos 13 rfl ?_; refine zbN fun b36 => ?_; refine yxs ?_; refine yps 14 rfl zas ?_; refine yzs rfl ?_; refine zxa ?_; refine gnt (gc_ret (gx_ret2 rfl (by conv => lhs; whnf) (by conv => lhs; whnf) ?_)); exact new_end he0 hf hl33
     ·refine zeN fun b31 => ?_; refine yxs ?_; refine yo2s 5 10 rfl rfl ?_ ?_
      ·refine gl_ins (K := digV) (l := []) (key := idOf b) (v := .agg x28.toArray) (wt0 rfl) rfl rfl rfl Ty.un_134 (by repeat (first | exact Pick.here | apply Pick.there)) ?_; refine yxs ?_; refine yps 6 rfl zmv ?_; refine yos 10 rfl ?_; refine zc (fun x33 => ?_) (c := fun w1 F1 F2 h1 h2 hd hst => copiedQC_ok h1 (hq.mv hst.still) hsq)
       refine gl_pureR (fun hx33 => ?_)
       obtain ⟨hl33, ho33⟩ := hx33; replace hl33 : x33.length = 19 := hl33
       have i33 := Len.of hl33
       have j33 := One.of (show ∀ v ∈ x33, v.oneCell' = true from ho33)
       refine yxs ?_; refine yos 11 rfl ?_; refine zeN fun b34 => ?_; refine yxs ?_; refine yps 12 rfl zbu ?_; refine yos 13 rfl ?_; refine zbN fun b36 => ?_; refine yxs ?_; refine yps 14 rfl zas ?_; refine yzs rfl ?_; refine zxa ?_; refine gnt (gc_ret (gx_ret2 rfl (by conv => lhs; whnf) (by conv => lhs; whnf) ?_)); exact new_end he0 hf hl33
      ·refine zc (fun x33 => ?_) (c := fun w1 F1 F2 h1 h2 hd hst => copiedQC_ok h1 (hq.mv hst.still) hsq)
       refine gl_pureR (fun hx33 => ?_)
       obtain ⟨hl33, ho33⟩ := hx33; replace hl33 : x33.length = 19 := hl33
       have i33 := Len.of hl33
       have j33 := One.of (show ∀ v ∈ x33, v.oneCell' = true from ho33)
       refine yxs ?_; refine yo2s 5 11 rfl rfl ?_ ?_
       ·refine gl_ins (K := digV) (l := []) (key := idOf b) (v := .agg x28.toArray) (wt0 rfl) rfl rfl rfl Ty.un_134 (by repeat (first | exact Pick.here | apply Pick.there)) ?_; refine yxs ?_; refine yps 6 rfl zmv ?_; refine yos 11 rfl ?_; refine zeN fun b34 => ?_; refine yxs ?_; refine yps 12 rfl zbu ?_; refine yos 13 rfl ?_; refine zbN fun b36 => ?_; refine yxs ?_; refine yps 14 rfl zas ?_; refine yzs rfl ?_; refine zxa ?_; refine gnt (gc_ret (gx_ret2 rfl (by conv => lhs; whnf) (by conv => lhs; whnf) ?_)); exact new_end he0 hf hl33
       ·refine zeN fun b34 => ?_; refine yxs ?_; refine yos 5 rfl ?_; refine gl_ins (K := digV) (l := []) (key := idOf b) (v := .agg x28.toArray) (wt0 rfl) rfl rfl rfl Ty.un_134 (by repeat (first | exact Pick.here | apply Pick.there)) ?_; refine yxs ?_; refine yps 6 rfl zmv ?_; refine yps 12 rfl zbu ?_; refine yos 13 rfl ?_; refine zbN fun b36 => ?_; refine yxs ?_; refine yps 14 rfl zas ?_; refine yzs rfl ?_; refine zxa ?_; refine gnt (gc_ret (gx_ret2 rfl (by conv => lhs; whnf) (by conv => lhs; whnf) ?_)); exact new_end he0 hf hl33
     ·refine zc (fun x33 => ?_) (c := fun w1 F1 F2 h1 h2 hd hst => copiedQC_ok h1 (hq.mv hst.still) hsq)
      refine gl_pureR (fun hx33 => ?_)
      obtain ⟨hl33, ho33⟩ := hx33; replace hl33 : x33.length = 19 := hl33
      have i33 := Len.of hl33
      have j33 := One.of (show ∀ v ∈ x33, v.oneCell' = true from ho33)
      refine yxs ?_; refine yo3s 5 8 11 rfl rfl rfl ?_ ?_ ?_
      ·refine gl_ins (K := digV) (l := []) (key := idOf b) (v := .agg x28.toArray) (wt0 rfl) rfl rfl rfl Ty.un_134 (by repeat (first | exact Pick.here | apply Pick.there)) ?_; refine yxs ?_; refine yps 6 rfl zmv ?_; refine yo2s 8 11 rfl rfl ?_ ?_
       ·refine zeN fun b31 => ?_; refine yxs ?_; refine yos 11 rfl ?_; refine zeN fun b34 => ?_; refine yxs ?_; refine yps 12 rfl zbu ?_; refine yos 13 rfl ?_; refine zbN fun b36 => ?_; refine yxs ?_; refine yps 14 rfl zas ?_; refine yzs rfl ?_; refine zxa ?_; refine gnt (gc_ret (gx_ret2 rfl (by conv => lhs; whnf) (by conv => lhs; whnf) ?_)); exact new_end he0 hf hl33
       ·refine zeN fun b34 => ?_; refine yxs ?_; refine yos 8 rfl ?_; refine zeN fun b31 => ?_; refine yxs ?_; refine yps 12 rfl zbu ?_; refine yos 13 rfl ?_; refine zbN fun b36 => ?_; refine yxs ?_; refine yps 14 rfl zas ?_; refine yzs rfl ?_; refine zxa ?_; refine gnt (gc_ret (gx_ret2 rfl (by conv => lhs; whnf) (by conv => lhs; whnf) ?_)); exact new_end he0 hf hl33
      ·refine zeN fun b31 => ?_; refine yxs ?_; refine yo2s 5 11 rfl rfl ?_ ?_
       ·refine gl_ins (K := digV) (l := []) (key := idOf b) (v := .agg x28.toArray) (wt0 rfl) rfl rfl rfl Ty.un_134 (by repeat (first | exact Pick.here | apply Pick.there)) ?_; refine yxs ?_; refine yps 6 rfl zmv ?_; refine yos 11 rfl ?_; refine zeN fun b34 => ?_; refine yxs ?_; refine yps 12 rfl zbu ?_; refine yos 13 rfl ?_; refine zbN fun b36 => ?_; refine yxs ?_; refine yps 14 rfl zas ?_; refine yzs rfl ?_; refine zxa ?_; refine gnt (gc_ret (gx_ret2 rfl (by conv => lhs; whnf) (by conv => lhs; whnf) ?_)); exact new_end he0 hf hl33
       ·refine zeN fun b34 => ?_; refine yxs ?_; refine yos 5 rfl ?_; refine gl_ins (K := digV) (l := []) (key := idOf b) (v := .agg x28.toArray) (wt0 rfl) rfl rfl rfl Ty.un_134 (by repeat (first | exact Pick.here | apply Pick.there)) ?_; refine yxs ?_; refine yps 6 rfl zmv ?_; refine yps 12 rfl zbu ?_; refine yos 13 rfl ?_; refine zbN fun b36 => ?_; refine yxs ?_; refine yps 14 rfl zas ?_; refine yzs rfl ?_; refine zxa ?_; refine gnt (gc_ret (gx_ret2 rfl (by conv => lhs; whnf) (by conv => lhs; whnf) ?_)); exact new_end he0 hf hl33
      ·refine zeN fun b34 => ?_; refine yxs ?_; refine yo2s 5 8 rfl rfl ?_ ?_
       ·refine gl_ins (K := digV) (l := []) (key := idOf b) (v := .agg x28.toArray) (wt0 rfl) rfl rfl rfl Ty.un_134 (by repeat (first | exact Pick.here | apply Pick.there)) ?_; refine yxs ?_; refine yps 6 rfl zmv ?_; refine yos 8 rfl ?_; refine zeN fun b31 => ?_; refine yxs ?_; refine yps 12 rfl zbu ?_; refine yos 13 rfl ?_; refine zbN fun b36 => ?_; refine yxs ?_; refine yps 14 rfl zas ?_; refine yzs rfl ?_; refine zxa ?_; refine gnt (gc_ret (gx_ret2 rfl (by conv => lhs; whnf) (by conv => lhs; whnf) ?_)); exact new_end he0 hf hl33
       ·refine zeN fun b31 => ?_; refine yxs ?_; refine yos 5 rfl ?_; refine gl_ins (K := digV) (l := []) (key := idOf b) (v := .agg x28.toArray) (wt0 rfl) rfl rfl rfl Ty.un_134 (by repeat (first | exact Pick.here | apply Pick.there)) ?_; refine yxs ?_; refine yps 6 rfl zmv ?_; refine yps 12 rfl zbu ?_; refine yos 13 rfl ?_; refine zbN fun b36 => ?_; refine yxs ?_; refine yps 14 rfl zas ?_; refine yzs rfl ?_; refine zxa ?_; refine gnt (gc_ret (gx_ret2 rfl (by conv => lhs; whnf) (by conv => lhs; whnf) ?_)); exact new_end he0 hf hl33
    ·refine zeN fun b31 => ?_; refine yxs ?_; refine yos 4 rfl ?_; refine zc (fun x28 => ?_) (c := fun w1 F1 F2 h1 h2 hd hst => copied_ok h1 (hb.mv hst.still) hsb)
     refine gl_pureR (fun hx28 => ?_)
     obtain ⟨hl28, ho28⟩ := hx28; replace hl28 : x28.length = 39 := hl28
     have i28 := Len.of hl28
     have j28 := One.of (show ∀ v ∈ x28, v.oneCell' = true from ho28)
     refine yxs ?_; refine yo2s 5 10 rfl rfl ?_ ?_
     ·refine gl_ins (K := digV) (l := []) (key := idOf b) (v := .agg x28.toArray) (wt0 rfl) rfl rfl rfl Ty.un_134 (by repeat (first | exact Pick.here | apply Pick.there)) ?_; refine yxs ?_; refine yps 6 rfl zmv ?_; refine yos 10 rfl ?_; refine zc (fun x33 => ?_) (c := fun w1 F1 F2 h1 h2 hd hst => copiedQC_ok h1 (hq.mv hst.still) hsq)
      refine gl_pureR (fun hx33 => ?_)
      obtain ⟨hl33, ho33⟩ := hx33; replace hl33 : x33.length = 19 := hl33
      have i33 := Len.of hl33
      have j33 := One.of (show ∀ v ∈ x33, v.oneCell' = true from ho33)
      refine yxs ?_; refine yos 11 rfl ?_; refine zeN fun b34 => ?_; refine yxs ?_; refine yps 12 rfl zbu ?_; refine yos 13 rfl ?_; refine zbN fun b36 => ?_; refine yxs ?_; refine yps 14 rfl zas ?_; refine yzs rfl ?_; refine zxa ?_; refine gnt (gc_ret (gx_ret2 rfl (by conv => lhs; whnf) (by conv => lhs; whnf) ?_)); exact new_end he0 hf hl33
     ·refine zc (fun x33 => ?_) (c := fun w1 F1 F2 h1 h2 hd hst => copiedQC_ok h1 (hq.mv hst.still) hsq)
      refine gl_pureR (fun hx33 => ?_)
      obtain ⟨hl33, ho33⟩ := hx33; replace hl33 : x33.length = 19 := hl33
      have i33 := Len.of hl33
      have j33 := One.of (show ∀ v ∈ x33, v.oneCell' = true from ho33)
      refine yxs ?_; refine yo2s 5 11 rfl rfl ?_ ?_
      ·refine gl_ins (K := digV) (l := []) (key := idOf b) (v := .agg x28.toArray) (wt0 rfl) rfl rfl rfl Ty.un_134 (by repeat (first | exact Pick.here | apply Pick.there)) ?_; refine yxs ?_; refine yps 6 rfl zmv ?_; refine yos 11 rfl ?_; refine zeN fun b34 => ?_; refine yxs ?_; refine yps 12 rfl zbu ?_; refine yos 13 rfl ?_; refine zbN fun b36 => ?_; refine yxs ?_; refine yps 14 rfl zas ?_; refine yzs rfl ?_; refine zxa ?_; refine gnt (gc_ret (gx_ret2 rfl (by conv => lhs; whnf) (by conv => lhs; whnf) ?_)); exact new_end he0 hf hl33
      ·refine zeN fun b34 => ?_; refine yxs ?_; refine yos 5 rfl ?_; refine gl_ins (K := digV) (l := []) (key := idOf b) (v := .agg x28.toArray) (wt0 rfl) rfl rfl rfl Ty.un_134 (by repeat (first | exact Pick.here | apply Pick.there)) ?_; refine yxs ?_; refine yps 6 rfl zmv ?_; refine yps 12 rfl zbu ?_; refine yos 13 rfl ?_; refine zbN fun b36 => ?_; refine yxs ?_; refine yps 14 rfl zas ?_; refine yzs rfl ?_; refine zxa ?_; refine gnt (gc_ret (gx_ret2 rfl (by conv => lhs; whnf) (by conv => lhs; whnf) ?_)); exact new_end he0 hf hl33
   ·refine zc (fun x28 => ?_) (c := fun w1 F1 F2 h1 h2 hd hst => copied_ok h1 (hb.mv hst.still) hsb)
    refine gl_pureR (fun hx28 => ?_)
    obtain ⟨hl28, ho28⟩ := hx28; replace hl28 : x28.length = 39 := hl28
    have i28 := Len.of hl28
    have j28 := One.of (show ∀ v ∈ x28, v.oneCell' = true from ho28)
    refine yxs ?_; refine yo3s 1 8 10 rfl rfl rfl ?_ ?_ ?_
    ·refine gl_mkMap (wt0 rfl) (fun g25 => ?_)
     refine yxs ?_; refine yo3s 5 8 10 rfl rfl rfl ?_ ?_ ?_
     ·refine gl_ins (K := digV) (l := []) (key := idOf b) (v := .agg x28.toArray) (wt0 rfl) rfl rfl rfl Ty.un_134 (by repeat (first | exact Pick.here | apply Pick.there)) ?_; refine yxs ?_; refine yps 6 rfl zmv ?_; refine yo2s 8 10 rfl rfl ?_ ?_
      ·refine zeN fun b31 => ?_; refine yxs ?_; refine yos 10 rfl ?_; refine zc (fun x33 => ?_) (c := fun w1 F1 F2 h1 h2 hd hst => copiedQC_ok h1 (hq.mv hst.still) hsq)
       refine gl_pureR (fun hx33 => ?_)
       obtain ⟨hl33, ho33⟩ := hx33; replace hl33 : x33.length = 19 := hl33
       have i33 := Len.of hl33
       have j33 := One.of (show ∀ v ∈ x33, v.oneCell' = true from ho33)
       refine yxs ?_; refine yos 11 rfl ?_; refine zeN fun b34 => ?_; refine yxs ?_; refine yps 12 rfl zbu ?_; refine yos 13 rfl ?_; refine zbN fun b36 => ?_; refine yxs ?_; refine yps 14 rfl zas ?_; refine yzs rfl ?_; refine zxa ?_; refine gnt (gc_ret (gx_ret2 rfl (by conv => lhs; whnf) (by conv => lhs; whnf) ?_)); exact new_end he0 hf hl33
      ·refine zc (fun x33 => ?_) (c := fun w1 F1 F2 h1 h2 hd hst => copiedQC_ok h1 (hq.mv hst.still) hsq)
       refine gl_pureR (fun hx33 => ?_)
       obtain ⟨hl33, ho33⟩ := hx33; replace hl33 : x33.length = 19 := hl33
       have i33 := Len.of hl33
       have j33 := One.of (show ∀ v ∈ x33, v.oneCell' = true from ho33)
       refine yxs ?_; refine yo2s 8 11 rfl rfl ?_ ?_
       ·refine zeN fun b31 => ?_; refine yxs ?_; refine yos 11 rfl ?_; refine zeN fun b34 => ?_; refine yxs ?_; refine yps 12 rfl zbu ?_; refine yos 13 rfl ?_; refine zbN fun b36 => ?_; refine yxs ?_; refine yps 14 rfl zas ?_; refine yzs rfl ?_; refine zxa ?_; refine gnt (gc_ret (gx_ret2 rfl (by conv => lhs; whnf) (by conv => lhs; whnf) ?_)); exact new_end he0 hf hl33
       ·refine zeN fun b34 => ?_; refine yxs ?_; refine yos 8 rfl ?_; refine zeN fun b31 => ?_; refine yxs ?_; refine yps 12 rfl zbu ?_; refine yos 13 rfl ?_; refine zbN fun b36 => ?_; refine yxs ?_; refine yps 14 rfl zas ?_; refine yzs rfl ?_; refine zxa ?_; refine gnt (gc_ret (gx_ret2 rfl (by conv => lhs; whnf) (by conv => lhs; whnf) ?_)); exact new_end he0 hf hl33
     ·refine zeN fun b31 => ?_; refine yxs ?_; refine yo2s 5 10 rfl rfl ?_ ?_
      ·refine gl_ins (K := digV) (l := []) (key := idOf b) (v := .agg x28.toArray) (wt0 rfl) rfl rfl rfl Ty.un_134 (by repeat (first | exact Pick.here | apply Pick.there)) ?_; refine yxs ?_; refine yps 6 rfl zmv ?_; refine yos 10 rfl ?_; refine zc (fun x33 => ?_) (c := fun w1 F1 F2 h1 h2 hd hst => copiedQC_ok h1 (hq.mv hst.still) hsq)
       refine gl_pureR (fun hx33 => ?_)
       obtain ⟨hl33, ho33⟩ := hx33; replace hl33 : x33.length = 19 := hl33
       have i33 := Len.of hl33
       have j33 := One.of (show ∀ v ∈ x33, v.oneCell' = true from ho33)
       refine yxs ?_; refine yos 11 rfl ?_; refine zeN fun b34 => ?_; refine yxs ?_; refine yps 12 rfl zbu ?_; refine yos 13 rfl ?_; refine zbN fun b36 => ?_; refine yxs ?_; refine yps 14 rfl zas ?_; refine yzs rfl ?_; refine zxa ?_; refine gnt (gc_ret (gx_ret2 rfl (by conv => lhs; whnf) (by conv => lhs; whnf) ?_)); exact new_end he0 hf hl33
      ·refine zc (fun x33 => ?_) (c := fun w1 F1 F2 h1 h2 hd hst => copiedQC_ok h1 (hq.mv hst.still) hsq)
       refine gl_pureR (fun hx33 => ?_)
       obtain ⟨hl33, ho33⟩ := hx33; replace hl33 : x33.length = 19 := hl33
       have i33 := Len.of hl33
       have j33 := One.of (show ∀ v ∈ x33, v.oneCell' = true from ho33)
       refine yxs ?_; refine yo2s 5 11 rfl rfl ?_ ?_
       ·refine gl_ins (K := digV) (l := []) (key := idOf b) (v := .agg x28.toArray) (wt0 rfl) rfl rfl rfl Ty.un_134 (by repeat (first | exact Pick.here | apply Pick.there)) ?_; refine yxs ?_; refine yps 6 rfl zmv ?_; refine yos 11 rfl ?_; refine zeN fun b34 => ?_; refine yxs ?_; refine yps 12 rfl zbu ?_; refine yos 13 rfl ?_; refine zbN fun b36 => ?_; refine yxs ?_; refine yps 14 rfl zas ?_; refine yzs rfl ?_; refine zxa ?_; refine gnt (gc_ret (gx_ret2 rfl (by conv => lhs; whnf) (by conv => lhs; whnf) ?_)); exact new_end he0 hf hl33
       ·refine zeN fun b34 => ?_; refine yxs ?_; refine yos 5 rfl ?_; refine gl_ins (K := digV) (l := []) (key := idOf b) (v := .agg x28.toArray) (wt0 rfl) rfl rfl rfl Ty.un_134 (by repeat (first | exact Pick.here | apply Pick.there)) ?_; refine yxs ?_; refine yps 6 rfl zmv ?_; refine yps 12 rfl zbu ?_; refine yos 13 rfl ?_; refine zbN fun b36 => ?_; refine yxs ?_; refine yps 14 rfl zas ?_; refine yzs rfl ?_; refine zxa ?_; refine gnt (gc_ret (gx_ret2 rfl (by conv => lhs; whnf) (by conv => lhs; whnf) ?_)); exact new_end he0 hf hl33
     ·refine zc (fun x33 => ?_) (c := fun w1 F1 F2 h1 h2 hd hst => copiedQC_ok h1 (hq.mv hst.still) hsq)
      refine gl_pureR (fun hx33 => ?_)
      obtain ⟨hl33, ho33⟩ := hx33; replace hl33 : x33.length = 19 := hl33
      have i33 := Len.of hl33
      have j33 := One.of (show ∀ v ∈ x33, v.oneCell' = true from ho33)
      refine yxs ?_; refine yo3s 5 8 11 rfl rfl rfl ?_ ?_ ?_
      ·refine gl_ins (K := digV) (l := []) (key := idOf b) (v := .agg x28.toArray) (wt0 rfl) rfl rfl rfl Ty.un_134 (by repeat (first | exact Pick.here | apply Pick.there)) ?_; refine yxs ?_; refine yps 6 rfl zmv ?_; refine yo2s 8 11 rfl rfl ?_ ?_
       ·refine zeN fun b31 => ?_; refine yxs ?_; refine yos 11 rfl ?_; refine zeN fun b34 => ?_; refine yxs ?_; refine yps 12 rfl zbu ?_; refine yos 13 rfl ?_; refine zbN fun b36 => ?_; refine yxs ?_; refine yps 14 rfl zas ?_; refine yzs rfl ?_; refine zxa ?_; refine gnt (gc_ret (gx_ret2 rfl (by conv => lhs; whnf) (by conv => lhs; whnf) ?_)); exact new_end he0 hf hl33
       ·refine zeN fun b34 => ?_; refine yxs ?_; refine yos 8 rfl ?_; refine zeN fun b31 => ?_; refine yxs ?_; refine yps 12 rfl zbu ?_; refine yos 13 rfl ?_; refine zbN fun b36 => ?_; refine yxs ?_; refine yps 14 rfl zas ?_; refine yzs rfl ?_; refine zxa ?_; refine gnt (gc_ret (gx_ret2 rfl (by conv => lhs; whnf) (by conv => lhs; whnf) ?_)); exact new_end he0 hf hl33
      ·refine zeN fun b31 => ?_; refine yxs ?_; refine yo2s 5 11 rfl rfl ?_ ?_
       ·refine gl_ins (K := digV) (l := []) (key := idOf b) (v := .agg x28.toArray) (wt0 rfl) rfl rfl rfl Ty.un_134 (by repeat (first | exact Pick.here | apply Pick.there)) ?_; refine yxs ?_; refine yps 6 rfl zmv ?_; refine yos 11 rfl ?_; refine zeN fun b34 => ?_; refine yxs ?_; refine yps 12 rfl zbu ?_; refine yos 13 rfl ?_; refine zbN fun b36 => ?_; refine yxs ?_; refine yps 14 rfl zas ?_; refine yzs rfl ?_; refine zxa ?_; refine gnt (gc_ret (gx_ret2 rfl (by conv => lhs; whnf) (by conv => lhs; whnf) ?_)); exact new_end he0 hf hl33
       ·refine zeN fun b34 => ?_; refine yxs ?_; refine yos 5 rfl ?_; refine gl_ins (K := digV) (l := []) (key := idOf b) (v := .agg x28.toArray) (wt0 rfl) rfl rfl rfl Ty.un_134 (by repeat (first | exact Pick.here | apply Pick.there)) ?_; refine yxs ?_; refine yps 6 rfl zmv ?_; refine yps 12 rfl zbu ?_; refine yos 13 rfl ?_; refine zbN fun b36 => ?_; refine yxs ?_; refine yps 14 rfl zas ?_; refine yzs rfl ?_; refine zxa ?_; refine gnt (gc_ret (gx_ret2 rfl (by conv => lhs; whnf) (by conv => lhs; whnf) ?_)); exact new_end he0 hf hl33
      ·refine zeN fun b34 => ?_; refine yxs ?_; refine yo2s 5 8 rfl rfl ?_ ?_
       ·refine gl_ins (K := digV) (l := []) (key := idOf b) (v := .agg x28.toArray) (wt0 rfl) rfl rfl rfl Ty.un_134 (by repeat (first | exact Pick.here | apply Pick.there)) ?_; refine yxs ?_; refine yps 6 rfl zmv ?_; refine yos 8 rfl ?_; refine zeN fun b31 => ?_; refine yxs ?_; refine yps 12 rfl zbu ?_; refine yos 13 rfl ?_; refine zbN fun b36 => ?_; refine yxs ?_; refine yps 14 rfl zas ?_; refine yzs rfl ?_; refine zxa ?_; refine gnt (gc_ret (gx_ret2 rfl (by conv => lhs; whnf) (by conv => lhs; whnf) ?_)); exact new_end he0 hf hl33
       ·refine zeN fun b31 => ?_; refine yxs ?_; refine yos 5 rfl ?_; refine gl_ins (K := digV) (l := []) (key := idOf b) (v := .agg x28.toArray) (wt0 rfl) rfl rfl rfl Ty.un_134 (by repeat (first | exact Pick.here | apply Pick.there)) ?_; refine yxs ?_; refine yps 6 rfl zmv ?_; refine yps 12 rfl zbu ?_; refine yos 13 rfl ?_; refine zbN fun b36 => ?_; refine yxs ?_; refine yps 14 rfl zas ?_; refine yzs rfl ?_; refine zxa ?_; refine gnt (gc_ret (gx_ret2 rfl (by conv => lhs; whnf) (by conv => lhs; whnf) ?_)); exact new_end he0 hf hl33
    ·refine zeN fun b31 => ?_; refine yxs ?_; refine yo2s 1 10 rfl rfl ?_ ?_
     ·refine gl_mkMap (wt0 rfl) (fun g25 => ?_)
      refine yxs ?_; refine yo2s 5 10 rfl rfl ?_ ?_
      ·refine gl_ins (K := digV) (l := []) (key := idOf b) (v := .agg x28.toArray) (wt0 rfl) rfl rfl rfl Ty.un_134 (by repeat (first | exact Pick.here | apply Pick.there)) ?_; refine yxs ?_; refine yps 6 rfl zmv ?_; refine yos 10 rfl ?_; refine zc (fun x33 => ?_) (c := fun w1 F1 F2 h1 h2 hd hst => copiedQC_ok h1 (hq.mv hst.still) hsq)
       refine gl_pureR (fun hx33 => ?_)
       obtain ⟨hl33, ho33⟩ := hx33; replace hl33 : x33.length = 19 := hl33
       have i33 := Len.of hl33
       have j33 := One.of (show ∀ v ∈ x33, v.oneCell' = true from ho33)
       refine yxs ?_; refine yos 11 rfl ?_; refine zeN fun b34 => ?_; refine yxs ?_; refine yps 12 rfl zbu ?_; refine yos 13 rfl ?_; refine zbN fun b36 => ?_; refine yxs ?_; refine yps 14 rfl zas ?_; refine yzs rfl ?_; refine zxa ?_; refine gnt (gc_ret (gx_ret2 rfl (by conv => lhs; whnf) (by conv => lhs; whnf) ?_)); exact new_end he0 hf hl33
      ·refine zc (fun x33 => ?_) (c := fun w1 F1 F2 h1 h2 hd hst => copiedQC_ok h1 (hq.mv hst.still) hsq)
       refine gl_pureR (fun hx33 => ?_)
       obtain ⟨hl33, ho33⟩ := hx33; replace hl33 : x33.length = 19 := hl33
       have i33 := Len.of hl33
       have j33 := One.of (show ∀ v ∈ x33, v.oneCell' = true from ho33)
       refine yxs ?_; refine yo2s 5 11 rfl rfl ?_ ?_
       ·refine gl_ins (K := digV) (l := []) (key := idOf b) (v := .agg x28.toArray) (wt0 rfl) rfl rfl rfl Ty.un_134 (by repeat (first | exact Pick.here | apply Pick.there)) ?_; refine yxs ?_; refine yps 6 rfl zmv ?_; refine yos 11 rfl ?_; refine zeN fun b34 => ?_; refine yxs ?_; refine yps 12 rfl zbu ?_; refine yos 13 rfl ?_; refine zbN fun b36 => ?_; refine yxs ?_; refine yps 14 rfl zas ?_; refine yzs rfl ?_; refine zxa ?_; refine gnt (gc_ret (gx_ret2 rfl (by conv => lhs; whnf) (by conv => lhs; whnf) ?_)); exact new_end he0 hf hl33
       ·refine zeN fun b34 => ?_; refine yxs ?_; refine yos 5 rfl ?_; refine gl_ins (K := digV) (l := []) (key := idOf b) (v := .agg x28.toArray) (wt0 rfl) rfl rfl rfl Ty.un_134 (by repeat (first | exact Pick.here | apply Pick.there)) ?_; refine yxs ?_; refine yps 6 rfl zmv ?_; refine yps 12 rfl zbu ?_; refine yos 13 rfl ?_; refine zbN fun b36 => ?_; refine yxs ?_; refine yps 14 rfl zas ?_; refine yzs rfl ?_; refine zxa ?_; refine gnt (gc_ret (gx_ret2 rfl (by conv => lhs; whnf) (by conv => lhs; whnf) ?_)); exact new_end he0 hf hl33
     ·refine zc (fun x33 => ?_) (c := fun w1 F1 F2 h1 h2 hd hst => copiedQC_ok h1 (hq.mv hst.still) hsq)
      refine gl_pureR (fun hx33 => ?_)
      obtain ⟨hl33, ho33⟩ := hx33; replace hl33 : x33.length = 19 := hl33
      have i33 := Len.of hl33
      have j33 := One.of (show ∀ v ∈ x33, v.oneCell' = true from ho33)
      refine yxs ?_; refine yo2s 1 11 rfl rfl ?_ ?_
      ·refine gl_mkMap (wt0 rfl) (fun g25 => ?_)
       refine yxs ?_; refine yo2s 5 11 rfl rfl ?_ ?_
       ·refine gl_ins (K := digV) (l := []) (key := idOf b) (v := .agg x28.toArray) (wt0 rfl) rfl rfl rfl Ty.un_134 (by repeat (first | exact Pick.here | apply Pick.there)) ?_; refine yxs ?_; refine yps 6 rfl zmv ?_; refine yos 11 rfl ?_; refine zeN fun b34 => ?_; refine yxs ?_; refine yps 12 rfl zbu ?_; refine yos 13 rfl ?_; refine zbN fun b36 => ?_; refine yxs ?_; refine yps 14 rfl zas ?_; refine yzs rfl ?_; refine zxa ?_; refine gnt (gc_ret (gx_ret2 rfl (by conv => lhs; whnf) (by conv => lhs; whnf) ?_)); exact new_end he0 hf hl33
       ·refine zeN fun b34 => ?_; refine yxs ?_; refine yos 5 rfl ?_; refine gl_ins (K := digV) (l := []) (key := idOf b) (v := .agg x28.toArray) (wt0 rfl) rfl rfl rfl Ty.un_134 (by repeat (first | exact Pick.here | apply Pick.there)) ?_; refine yxs ?_; refine yps 6 rfl zmv ?_; refine yps 12 rfl zbu ?_; refine yos 13 rfl ?_; refine zbN fun b36 => ?_; refine yxs ?_; refine yps 14 rfl zas ?_; refine yzs rfl ?_; refine zxa ?_; refine gnt (gc_ret (gx_ret2 rfl (by conv => lhs; whnf) (by conv => lhs; whnf) ?_)); exact new_end he0 hf hl33
      ·refine zeN fun b34 => ?_; refine yxs ?_; refine yos 1 rfl ?_; refine gl_mkMap (wt0 rfl) (fun g25 => ?_)
       refine yxs ?_; refine yos 5 rfl ?_; refine gl_ins (K := digV) (l := []) (key := idOf b) (v := .agg x28.toArray) (wt0 rfl) rfl rfl rfl Ty.un_134 (by repeat (first | exact Pick.here | apply Pick.there)) ?_; refine yxs ?_; refine yps 6 rfl zmv ?_; refine yps 12 rfl zbu ?_; refine yos 13 rfl ?_; refine zbN fun b36 => ?_; refine yxs ?_; refine yps 14 rfl zas ?_; refine yzs rfl ?_; refine zxa ?_; refine gnt (gc_ret (gx_ret2 rfl (by conv => lhs; whnf) (by conv => lhs; whnf) ?_)); exact new_end he0 hf hl33
    ·refine zc (fun x33 => ?_) (c := fun w1 F1 F2 h1 h2 hd hst => copiedQC_ok h1 (hq.mv hst.still) hsq)
     refine gl_pureR (fun hx33 => ?_)
     obtain ⟨hl33, ho33⟩ := hx33; replace hl33 : x33.length = 19 := hl33
     have i33 := Len.of hl33
     have j33 := One.of (show ∀ v ∈ x33, v.oneCell' = true from ho33)
     refine yxs ?_; refine yo3s 1 8 11 rfl rfl rfl ?_ ?_ ?_
     ·refine gl_mkMap (wt0 rfl) (fun g25 => ?_)
      refine yxs ?_; refine yo3s 5 8 11 rfl rfl rfl ?_ ?_ ?_
      ·refine gl_ins (K := digV) (l := []) (key := idOf b) (v := .agg x28.toArray) (wt0 rfl) rfl rfl rfl Ty.un_134 (by repeat (first | exact Pick.here | apply Pick.there)) ?_; refine yxs ?_; refine yps 6 rfl zmv ?_; refine yo2s 8 11 rfl rfl ?_ ?_
       ·refine zeN fun b31 => ?_; refine yxs ?_; refine yos 11 rfl ?_; refine zeN fun b34 => ?_; refine yxs ?_; refine yps 12 rfl zbu ?_; refine yos 13 rfl ?_; refine zbN fun b36 => ?_; refine yxs ?_; refine yps 14 rfl zas ?_; refine yzs rfl ?_; refine zxa ?_; refine gnt (gc_ret (gx_ret2 rfl (by conv => lhs; whnf) (by conv => lhs; whnf) ?_)); exact new_end he0 hf hl33
       ·refine zeN fun b34 => ?_; refine yxs ?_; refine yos 8 rfl ?_; refine zeN fun b31 => ?_; refine yxs ?_; refine yps 12 rfl zbu ?_; refine yos 13 rfl ?_; refine zbN fun b36 => ?_; refine yxs ?_; refine yps 14 rfl zas ?_; refine yzs rfl ?_; refine zxa ?_; refine gnt (gc_ret (gx_ret2 rfl (by conv => lhs; whnf) (by conv => lhs; whnf) ?_)); exact new_end he0 hf hl33
      ·refine zeN fun b31 => ?_; refine yxs ?_; refine yo2s 5 11 rfl rfl ?_ ?_
       ·refine gl_ins (K := digV) (l := []) (key := idOf b) (v := .agg x28.toArray) (wt0 rfl) rfl rfl rfl Ty.un_134 (by repeat (first | exact Pick.here | apply Pick.there)) ?_; refine yxs ?_; refine yps 6 rfl zmv ?_; refine yos 11 rfl ?_; refine zeN fun b34 => ?_; refine yxs ?_; refine yps 12 rfl zbu ?_; refine yos 13 rfl ?_; refine zbN fun b36 => ?_; refine yxs ?_; refine yps 14 rfl zas ?_; refine yzs rfl ?_; refine zxa ?_; refine gnt (gc_ret (gx_ret2 rfl (by conv => lhs; whnf) (by conv => lhs; whnf) ?_)); exact new_end he0 hf hl33
       ·refine zeN fun b34 => ?_; refine yxs ?_; refine yos 5 rfl ?_; refine gl_ins (K := digV) (l := []) (key := idOf b) (v := .agg x28.toArray) (wt0 rfl) rfl rfl rfl Ty.un_134 (by repeat (first | exact Pick.here | apply Pick.there)) ?_; refine yxs ?_; refine yps 6 rfl zmv ?_; refine yps 12 rfl zbu ?_; refine yos 13 rfl ?_; refine zbN fun b36 => ?_; refine yxs ?_; refine yps 14 rfl zas ?_; refine yzs rfl ?_; refine zxa ?_; refine gnt (gc_ret (gx_ret2 rfl (by conv => lhs; whnf) (by conv => lhs; whnf) ?_)); exact new_end he0 hf hl33
      ·refine zeN fun b34 => ?_; refine yxs ?_; refine yo2s 5 8 rfl rfl ?_ ?_
       ·refine gl_ins (K := digV) (l := []) (key := idOf b) (v := .agg x28.toArray) (wt0 rfl) rfl rfl rfl Ty.un_134 (by repeat (first | exact Pick.here | apply Pick.there)) ?_; refine yxs ?_; refine yps 6 rfl zmv ?_; refine yos 8 rfl ?_; refine zeN fun b31 => ?_; refine yxs ?_; refine yps 12 rfl zbu ?_; refine yos 13 rfl ?_; refine zbN fun b36 => ?_; refine yxs ?_; refine yps 14 rfl zas ?_; refine yzs rfl ?_; refine zxa ?_; refine gnt (gc_ret (gx_ret2 rfl (by conv => lhs; whnf) (by conv => lhs; whnf) ?_)); exact new_end he0 hf hl33
       ·refine zeN fun b31 => ?_; refine yxs ?_; refine yos 5 rfl ?_; refine gl_ins (K := digV) (l := []) (key := idOf b) (v := .agg x28.toArray) (wt0 rfl) rfl rfl rfl Ty.un_134 (by repeat (first | exact Pick.here | apply Pick.there)) ?_; refine yxs ?_; refine yps 6 rfl zmv ?_; refine yps 12 rfl zbu ?_; refine yos 13 rfl ?_; refine zbN fun b36 => ?_; refine yxs ?_; refine yps 14 rfl zas ?_; refine yzs rfl ?_; refine zxa ?_; refine gnt (gc_ret (gx_ret2 rfl (by conv => lhs; whnf) (by conv => lhs; whnf) ?_)); exact new_end he0 hf hl33
     ·refine zeN fun b31 => ?_; refine yxs ?_; refine yo2s 1 11 rfl rfl ?_ ?_
      ·refine gl_mkMap (wt0 rfl) (fun g25 => ?_)
       refine yxs ?_; refine yo2s 5 11 rfl rfl ?_ ?_
       ·refine gl_ins (K := digV) (l := []) (key := idOf b) (v := .agg x28.toArray) (wt0 rfl) rfl rfl rfl Ty.un_134 (by repeat (first | exact Pick.here | apply Pick.there)) ?_; refine yxs ?_; refine yps 6 rfl zmv ?_; refine yos 11 rfl ?_; refine zeN fun b34 => ?_; refine yxs ?_; refine yps 12 rfl zbu ?_; refine yos 13 rfl ?_; refine zbN fun b36 => ?_; refine yxs ?_; refine yps 14 rfl zas ?_; refine yzs rfl ?_; refine zxa ?_; refine gnt (gc_ret (gx_ret2 rfl (by conv => lhs; whnf) (by conv => lhs; whnf) ?_)); exact new_end he0 hf hl33
       ·refine zeN fun b34 => ?_; refine yxs ?_; refine yos 5 rfl ?_; refine gl_ins (K := digV) (l := []) (key := idOf b) (v := .agg x28.toArray) (wt0 rfl) rfl rfl rfl Ty.un_134 (by repeat (first | exact Pick.here | apply Pick.there)) ?_; refine yxs ?_; refine yps 6 rfl zmv ?_; refine yps 12 rfl zbu ?_; refine yos 13 rfl ?_; refine zbN fun b36 => ?_; refine yxs ?_; refine yps 14 rfl zas ?_; refine yzs rfl ?_; refine zxa ?_; refine gnt (gc_ret (gx_ret2 rfl (by conv => lhs; whnf) (by conv => lhs; whnf) ?_)); exact new_end he0 hf hl33
      ·refine zeN fun b34 => ?_; refine yxs ?_; refine yos 1 rfl ?_; refine gl_mkMap (wt0 rfl) (fun g25 => ?_)
       refine yxs ?_; refine yos 5 rfl ?_; refine gl_ins (K := digV) (l := []) (key := idOf b) (v := .agg x28.toArray) (wt0 rfl) rfl rfl rfl Ty.un_134 (by repeat (first | exact Pick.here | apply Pick.there)) ?_; refine yxs ?_; refine yps 6 rfl zmv ?_; refine yps 12 rfl zbu ?_; refine yos 13 rfl ?_; refine zbN fun b36 => ?_; refine yxs ?_; refine yps 14 rfl zas ?_; refine yzs rfl ?_; refine zxa ?_; refine gnt (gc_ret (gx_ret2 rfl (by conv => lhs; whnf) (by conv => lhs; whnf) ?_)); exact new_end he0 hf hl33
     ·refine zeN fun b34 => ?_; refine yxs ?_; refine yo2s 1 8 rfl rfl ?_ ?_
      ·refine gl_mkMap (wt0 rfl) (fun g25 => ?_)
       refine yxs ?_; refine yo2s 5 8 rfl rfl ?_ ?_
       ·refine gl_ins (K := digV) (l := []) (key := idOf b) (v := .agg x28.toArray) (wt0 rfl) rfl rfl rfl Ty.un_134 (by repeat (first | exact Pick.here | apply Pick.there)) ?_; refine yxs ?_; refine yps 6 rfl zmv ?_; refine yos 8 rfl ?_; refine zeN fun b31 => ?_; refine yxs ?_; refine yps 12 rfl zbu ?_; refine yos 13 rfl ?_; refine zbN fun b36 => ?_; refine yxs ?_; refine yps 14 rfl zas ?_; refine yzs rfl ?_; refine zxa ?_; refine gnt (gc_ret (gx_ret2 rfl (by conv => lhs; whnf) (by conv => lhs; whnf) ?_)); exact new_end he0 hf hl33
       ·refine zeN fun b31 => ?_; refine yxs ?_; refine yos 5 rfl ?_; refine gl_ins (K := digV) (l := []) (key := idOf b) (v := .agg x28.toArray) (wt0 rfl) rfl rfl rfl Ty.un_134 (by repeat (first | exact Pick.here | apply Pick.there)) ?_; refine yxs ?_; refine yps 6 rfl zmv ?_; refine yps 12 rfl zbu ?_; refine yos 13 rfl ?_; refine zbN fun b36 => ?_; refine yxs ?_; refine yps 14 rfl zas ?_; refine yzs rfl ?_; refine zxa ?_; refine gnt (gc_ret (gx_ret2 rfl (by conv => lhs; whnf) (by conv => lhs; whnf) ?_)); exact new_end he0 hf hl33
      ·refine zeN fun b31 => ?_; refine yxs ?_; refine yos 1 rfl ?_; refine gl_mkMap (wt0 rfl) (fun g25 => ?_)
       refine yxs ?_; refine yos 5 rfl ?_; refine gl_ins (K := digV) (l := []) (key := idOf b) (v := .agg x28.toArray) (wt0 rfl) rfl rfl rfl Ty.un_134 (by repeat (first | exact Pick.here | apply Pick.there)) ?_; refine yxs ?_; refine yps 6 rfl zmv ?_; refine yps 12 rfl zbu ?_; refine yos 13 rfl ?_; refine zbN fun b36 => ?_; refine yxs ?_; refine yps 14 rfl zas ?_; refine yzs rfl ?_; refine zxa ?_; refine gnt (gc_ret (gx_ret2 rfl (by conv => lhs; whnf) (by conv => lhs; whnf) ?_)); exact new_end he0 hf hl33
   ·refine zeN fun b31 => ?_; refine yxs ?_; refine yo2s 1 4 rfl rfl ?_ ?_
    ·refine gl_mkMap (wt0 rfl) (fun g25 => ?_)
     refine yxs ?_; refine yos 4 rfl ?_; refine zc (fun x28 => ?_) (c := fun w1 F1 F2 h1 h2 hd hst => copied_ok h1 (hb.mv hst.still) hsb)
     refine gl_pureR (fun hx28 => ?_)
     obtain ⟨hl28, ho28⟩ := hx28; replace hl28 : x28.length = 39 := hl28
     have i28 := Len.of hl28
     have j28 := One.of (show ∀ v ∈ x28, v.oneCell' = true from ho28)
     refine yxs ?_; refine yo2s 5 10 rfl rfl ?_ ?_
     ·refine gl_ins (K := digV) (l := []) (key := idOf b) (v := .agg x28.toArray) (wt0 rfl) rfl rfl rfl Ty.un_134 (by repeat (first | exact Pick.here | apply Pick.there)) ?_; refine yxs ?_; refine yps 6 rfl zmv ?_; refine yos 10 rfl ?_; refine zc (fun x33 => ?_) (c := fun w1 F1 F2 h1 h2 hd hst => copiedQC_ok h1 (hq.mv hst.still) hsq)
      refine gl_pureR (fun hx33 => ?_)
      obtain ⟨hl33, ho33⟩ := hx33; replace hl33 : x33.length = 19 := hl33
      have i33 := Len.of hl33
      have j33 := One.of (show ∀ v ∈ x33, v.oneCell' = true from ho33)
      refine yxs ?_; refine yos 11 rfl ?_; refine zeN fun b34 => ?_; refine yxs ?_; refine yps 12 rfl zbu ?_; refine yos 13 rfl ?_; refine zbN fun b36 => ?_; refine yxs ?_; refine yps 14 rfl zas ?_; refine yzs rfl ?_; refine zxa ?_; refine gnt (gc_ret (gx_ret2 rfl (by conv => lhs; whnf) (by conv => lhs; whnf) ?_)); exact new_end he0 hf hl33
     ·refine zc (fun x33 => ?_) (c := fun w1 F1 F2 h1 h2 hd hst => copiedQC_ok h1 (hq.mv hst.still) hsq)
      refine gl_pureR (fun hx33 => ?_)
      obtain ⟨hl33, ho33⟩ := hx33; replace hl33 : x33.length = 19 := hl33
      have i33 := Len.of hl33
      have j33 := One.of (show ∀ v ∈ x33, v.oneCell' = true from ho33)
      refine yxs ?_; refine yo2s 5 11 rfl rfl ?_ ?_
      ·refine gl_ins (K := digV) (l := []) (key := idOf b) (v := .agg x28.toArray) (wt0 rfl) rfl rfl rfl Ty.un_134 (by repeat (first | exact Pick.here | apply Pick.there)) ?_; refine yxs ?_; refine yps 6 rfl zmv ?_; refine yos 11 rfl ?_; refine zeN fun b34 => ?_; refine yxs ?_; refine yps 12 rfl zbu ?_; refine yos 13 rfl ?_; refine zbN fun b36 => ?_; refine yxs ?_; refine yps 14 rfl zas ?_; refine yzs rfl ?_; refine zxa ?_; refine gnt (gc_ret (gx_ret2 rfl (by conv => lhs; whnf) (by conv => lhs; whnf) ?_)); exact new_end he0 hf hl33
      ·refine zeN fun b34 => ?_; refine yxs ?_; refine yos 5 rfl ?_; refine gl_ins (K := digV) (l := []) (key := idOf b) (v := .agg x28.toArray) (wt0 rfl) rfl rfl rfl Ty.un_134 (by repeat (first | exact Pick.here | apply Pick.there)) ?_; refine yxs ?_; refine yps 6 rfl zmv ?_; refine yps 12 rfl zbu ?_; refine yos 13 rfl ?_; refine zbN fun b36 => ?_; refine yxs ?_; refine yps 14 rfl zas ?_; refine yzs rfl ?_; refine zxa ?_; refine gnt (gc_ret (gx_ret2 rfl (by conv => lhs; whnf) (by conv => lhs; whnf) ?_)); exact new_end he0 hf hl33
    ·refine zc (fun x28 => ?_) (c := fun w1 F1 F2 h1 h2 hd hst => copied_ok h1 (hb.mv hst.still) hsb)
     refine gl_pureR (fun hx28 => ?_)
     obtain ⟨hl28, ho28⟩ := hx28; replace hl28 : x28.length = 39 := hl28
     have i28 := Len.of hl28
     have j28 := One.of (show ∀ v ∈ x28, v.oneCell' = true from ho28)
     refine yxs ?_; refine yo2s 1 10 rfl rfl ?_ ?_
     ·refine gl_mkMap (wt0 rfl) (fun g25 => ?_)
      refine yxs ?_; refine yo2s 5 10 rfl rfl ?_ ?_
      ·refine gl_ins (K := digV) (l := []) (key := idOf b) (v := .agg x28.toArray) (wt0 rfl) rfl rfl rfl Ty.un_134 (by repeat (first | exact Pick.here | apply Pick.there)) ?_; refine yxs ?_; refine yps 6 rfl zmv ?_; refine yos 10 rfl ?_; refine zc (fun x33 => ?_) (c := fun w1 F1 F2 h1 h2 hd hst => copiedQC_ok h1 (hq.mv hst.still) hsq)
       refine gl_pureR (fun hx33 => ?_)
       obtain ⟨hl33, ho33⟩ := hx33; replace hl33 : x33.length = 19 := hl33
       have i33 := Len.of hl33
       have j33 := One.of (show ∀ v ∈ x33, v.oneCell' = true from ho33)
       refine yxs ?_; refine yos 11 rfl ?_; refine zeN fun b34 => ?_; refine yxs ?_; refine yps 12 rfl zbu ?_; refine yos 13 rfl ?_; refine zbN fun b36 => ?_; refine yxs ?_; refine yps 14 rfl zas ?_; refine yzs rfl ?_; refine zxa ?_; refine gnt (gc_ret (gx_ret2 rfl (by conv => lhs; whnf) (by conv => lhs; whnf) ?_)); exact new_end he0 hf hl33
      ·refine zc (fun x33 => ?_) (c := fun w1 F1 F2 h1 h2 hd hst => copiedQC_ok h1 (hq.mv hst.still) hsq)
       refine gl_pureR (fun hx33 => ?_)
       obtain ⟨hl33, ho33⟩ := hx33; replace hl33 : x33.length = 19 := hl33
       have i33 := Len.of hl33
       have j33 := One.of (show ∀ v ∈ x33, v.oneCell' = true from ho33)
       refine yxs ?_; refine yo2s 5 11 rfl rfl ?_ ?_
       ·refine gl_ins (K := digV) (l := []) (key := idOf b) (v := .agg x28.toArray) (wt0 rfl) rfl rfl rfl Ty.un_134 (by repeat (first | exact Pick.here | apply Pick.there)) ?_; refine yxs ?_; refine yps 6 rfl zmv ?_; refine yos 11 rfl ?_; refine zeN fun b34 => ?_; refine yxs ?_; refine yps 12 rfl zbu ?_; refine yos 13 rfl ?_; refine zbN fun b36 => ?_; refine yxs ?_; refine yps 14 rfl zas ?_; refine yzs rfl ?_; refine zxa ?_; refine gnt (gc_ret (gx_ret2 rfl (by conv => lhs; whnf) (by conv => lhs; whnf) ?_)); exact new_end he0 hf hl33
       ·refine zeN fun b34 => ?_; refine yxs ?_; refine yos 5 rfl ?_; refine gl_ins (K := digV) (l := []) (key := idOf b) (v := .agg x28.toArray) (wt0 rfl) rfl rfl rfl Ty.un_134 (by repeat (first | exact Pick.here | apply Pick.there)) ?_; refine yxs ?_; refine yps 6 rfl zmv ?_; refine yps 12 rfl zbu ?_; refine yos 13 rfl ?_; refine zbN fun b36 => ?_; refine yxs ?_; refine yps 14 rfl zas ?_; refine yzs rfl ?_; refine zxa ?_; refine gnt (gc_ret (gx_ret2 rfl (by conv => lhs; whnf) (by conv => lhs; whnf) ?_)); exact new_end he0 hf hl33
     ·refine zc (fun x33 => ?_) (c := fun w1 F1 F2 h1 h2 hd hst => copiedQC_ok h1 (hq.mv hst.still) hsq)
      refine gl_pureR (fun hx33 => ?_)
      obtain ⟨hl33, ho33⟩ := hx33; replace hl33 : x33.length = 19 := hl33
      have i33 := Len.of hl33
      have j33 := One.of (show ∀ v ∈ x33, v.oneCell' = true from ho33)
      refine yxs ?_; refine yo2s 1 11 rfl rfl ?_ ?_
      ·refine gl_mkMap (wt0 rfl) (fun g25 => ?_)
       refine yxs ?_; refine yo2s 5 11 rfl rfl ?_ ?_
       ·refine gl_ins (K := digV) (l := []) (key := idOf b) (v := .agg x28.toArray) (wt0 rfl) rfl rfl rfl Ty.un_134 (by repeat (first | exact Pick.here | apply Pick.there)) ?_; refine yxs ?_; refine yps 6 rfl zmv ?_; refine yos 11 rfl ?_; refine zeN fun b34 => ?_; refine yxs ?_; refine yps 12 rfl zbu ?_; refine yos 13 rfl ?_; refine zbN fun b36 => ?_; refine yxs ?_; refine yps 14 rfl zas ?_; refine yzs rfl ?_; refine zxa ?_; refine gnt (gc_ret (gx_ret2 rfl (by conv => lhs; whnf) (by conv => lhs; whnf) ?_)); exact new_end he0 hf hl33
       ·refine zeN fun b34 => ?_; refine yxs ?_; refine yos 5 rfl ?_; refine gl_ins (K := digV) (l := []) (key := idOf b) (v := .agg x28.toArray) (wt0 rfl) rfl rfl rfl Ty.un_134 (by repeat (first | exact Pick.here | apply Pick.there)) ?_; refine yxs ?_; refine yps 6 rfl zmv ?_; refine yps 12 rfl zbu ?_; refine yos 13 rfl ?_; refine zbN fun b36 => ?_; refine yxs ?_; refine yps 14 rfl zas ?_; refine yzs rfl ?_; refine zxa ?_; refine gnt (gc_ret (gx_ret2 rfl (by conv => lhs; whnf) (by conv => lhs; whnf) ?_)); exact new_end he0 hf hl33
      ·refine zeN fun b34 => ?_; refine yxs ?_; refine yos 1 rfl ?_; refine gl_mkMap (wt0 rfl) (fun g25 => ?_)
       refine yxs ?_; refine yos 5 rfl ?_; refine gl_ins (K := digV) (l := []) (key := idOf b) (v := .agg x28.toArray) (wt0 rfl) rfl rfl rfl Ty.un_134 (by repeat (first | exact Pick.here | apply Pick.there)) ?_; refine yxs ?_; refine yps 6 rfl zmv ?_; refine yps 12 rfl zbu ?_; refine yos 13 rfl ?_; refine zbN fun b36 => ?_; refine yxs ?_; refine yps 14 rfl zas ?_; refine yzs rfl ?_; refine zxa ?_; refine gnt (gc_ret (gx_ret2 rfl (by conv => lhs; whnf) (by conv => lhs; whnf) ?_)); exact new_end he0 hf hl33
end
section
section
variable {w0 w : World} {F F0 : Nat → Prop} {L L' : List Res} {Q : Exit → Act → World → Prop} {n : Fm} {env : Env} {ops : Array Oper} {rest : List Oper}
theorem gc_st {c : Code} {L2 : List Res} (h : ∀ w, St w0 F0 L w → St w0 F0 L2 w) (k : Gc Tryz.prog w0 F0 L2 c Q n env) : Gc Tryz.prog w0 F0 L c Q n env := fun w hw => k w (h w hw)
theorem St.elB {css : List (List Value)} {l : List Block} (h : St w0 F0 L w) (hp : Pick L (ElR RdBlock css l) L') : css.length = l.length ∧ ∀ (i : Nat) (c : List Value) (x : Block), css[i]? = some c → l[i]? = some x → ∃ w A, RdBlock w A c x := St.el (rd := RdBlock) h hp
end
theorem stars_tshut {q : Nat} {t : Tr} {g : Nat} {ao : Option Addr} {co : Nat} {ac : Option Addr} {cc : Nat} {css qss : List (List Value)} {w : World} {F : Nat → Prop} (h19 : ∀ c ∈ qss, List.length c = 19) (h : stars (treL q t g ao co ac cc css qss []) w F) : stars [TreeR q t] w F := tree_shut h19 h
theorem learn_none {t : Tr} {q : QC} (h : (lkN q.block t.nodes).isSome = false) : learnE t q = (9, t) := by
  have : lkN q.block t.nodes = none := by simpa using h
  unfold learnE; rw [this]
theorem learn_unfit {t : Tr} {q : QC} {p : Block} (hp : lkN q.block t.nodes = some p) (hf : ¬ fitsQ q q.block p = true) : learnE t q = (12, t) := by
  unfold learnE; rw [hp]; simp only; rw [if_neg hf]
theorem learn_has {t : Tr} {q : QC} {p : Block} (hp : lkN q.block t.nodes = some p) (hf : fitsQ q q.block p = true) (hc : (certF q.block t.certs).isSome = true) : learnE t q = (0, t) := by
  unfold learnE; rw [hp]; simp only; rw [if_pos hf, if_pos hc]
theorem learn_new {t : Tr} {q : QC} {p : Block} (hp : lkN q.block t.nodes = some p) (hf : fitsQ q q.block p = true) (hc : ¬ (certF q.block t.certs).isSome = true) : learnE t q = (0, { t with certs := t.certs ++ [q] }) := by
  unfold learnE; rw [hp]; simp only; rw [if_pos hf, if_neg hc]
theorem tree_cert {q : Nat} {t : Tr} {g : Nat} {ao : Option Addr} {co : Nat} {ac : Option Addr} {cc : Nat} {css qss : List (List Value)} {c : QC} {x : List Value} {w0 w : World} {F0 : Nat → Prop} {L L' : List Res} (h19 : ∀ c ∈ qss, List.length c = 19) (hx : x.length = 19)
    (h : St w0 F0 L w) (hs : Sel L [blk q 137 (dc t.root ++ [.map (some g), .slice ao t.nodes.length co, .slice ac (t.certs.length + 1) cc]), mapR g (encK digV (nodeV t.nodes css)), ElR RdBlock css (t.nodes.map (fun p => p.2)), rowR 27 16 ao t.nodes.length co ((keysT t).map dc).flatten, rowR 47 19 ac (t.certs.length + 1) cc (qss.flatten ++ x), ElR RdQC qss t.certs, VlR RdQC x c] L') : St w0 F0 (TreeR q { t with certs := t.certs ++ [c] } :: L') w := by
  have h1 := h.conv hs (N := [TreeR q { t with certs := t.certs ++ [c] }]) fun w F hh => ?_
  · exact h1
  · obtain ⟨F1, R1, h1, k1, e1, d1⟩ := hh
    obtain ⟨F2, R2, h2, k2, e2, d2⟩ := k1
    obtain ⟨F3, R3, h3, k3, e3, d3⟩ := k2
    obtain ⟨F4, R4, h4, k4, e4, d4⟩ := k3
    obtain ⟨F5, R5, h5, k5, e5, d5⟩ := k4
    have k6 := el_snoc k5
    refine tree_shut (g := g) (ao := ao) (co := co) (ac := ac) (cc := cc) (css := css) (qss := qss ++ [x]) (fun y hy => ?_) ?_
    · rcases List.mem_append.1 hy with hy | hy
      · exact h19 y hy
      · simp at hy; subst hy; exact hx
    · exact ⟨F1, R1, by simpa using h1, ⟨F2, R2, h2, ⟨F3, R3, h3, ⟨F4, R4, h4, ⟨F5, R5, by simpa using h5, k6, e5, d5⟩, e4, d4⟩, e3, d3⟩, e2, d2⟩, e1, d1⟩
theorem stars_snocE {α : Type} {rd : World → (Nat → Prop) → List Value → α → Prop} [RdK rd] {css : List (List Value)} {l : List α} {c : List Value} {x : α} {L : List Res} {w : World} {F : Nat → Prop} (h : stars (ElR rd css l :: VlR rd c x :: L) w F) : stars (ElR rd (css ++ [c]) (l ++ [x]) :: L) w F := by
  obtain ⟨G, R, hg, hr, eg, dg⟩ := stars_split (M := [ElR rd css l, VlR rd c x]) (L := L) h
  have := stars_append (el_snoc hg) hr dg
  rw [← fp_eq eg] at this
  exact this
theorem tree_put {q : Nat} {t : Tr} {g : Nat} {ao : Option Addr} {co : Nat} {ac : Option Addr} {cc : Nat} {css qss : List (List Value)} {b : Block} {id : Dig} {x : List Value} {w0 w : World} {F0 : Nat → Prop} {L L' : List Res} (h19 : ∀ c ∈ qss, List.length c = 19) (hl : css.length = t.nodes.length) (hn : lkN id t.nodes = none)
    (h : St w0 F0 L w) (hs : Sel L [blk q 137 (dc t.root ++ [.map (some g), .slice ao (t.nodes.length + 1) co, .slice ac t.certs.length cc]), mapR g (encK digV (putK id (.agg x.toArray) (nodeV t.nodes css))), ElR RdBlock css (t.nodes.map (fun p => p.2)), VlR RdBlock x b, rowR 27 16 ao (t.nodes.length + 1) co (((keysT t).map dc).flatten ++ dc id), rowR 47 19 ac t.certs.length cc qss.flatten, ElR RdQC qss t.certs] L') : St w0 F0 (TreeR q (putT t b id) :: L') w := by
  have h1 := h.conv hs (N := [TreeR q (putT t b id)]) fun w F hh => ?_
  · exact h1
  · obtain ⟨F1, R1, h1, k1, e1, d1⟩ := hh
    obtain ⟨F2, R2, h2, k2, e2, d2⟩ := k1
    obtain ⟨F3, R3, h3, k3, e3, d3⟩ := stars_snocE k2
    obtain ⟨F4, R4, h4, k4, e4, d4⟩ := k3
    refine tree_shut (g := g) (ao := ao) (co := co) (ac := ac) (cc := cc) (css := css ++ [x]) (qss := qss) h19 ?_
    rw [nodeV_put (b := b) hl hn] at h2
    exact ⟨F1, R1, by simpa [putT] using h1, ⟨F2, R2, by simpa [putT] using h2, ⟨F3, R3, by simpa [putT] using h3, ⟨F4, R4, by simpa [putT, keysT] using h4, k4, e4, d4⟩, e3, d3⟩, e2, d2⟩, e1, d1⟩
attribute [local irreducible] Gl Gc Gx Gs Runs Wt
attribute [local irreducible] dc qcC blkC idOf TreeR
theorem tlearn_ok {w : World} {F : Nat → Prop} {q : Nat} {t : Tr} {ea : Nat → Addr} {es : List Nat} [Has es 9] [Has es 12] (hE : GErr es w (fun k => ¬ F k) 251 ea) (h : stars [TreeR q t] w F) (hok : TOk t) {qs : List Value} {x : QC} (hq : RdQC w (fun k => ¬ F k) qs x) (hs : smQC x) :
    Calls Tryz.prog 57 #[.pointer (some ⟨q, 0, none⟩), .agg qs.toArray] w (Post w F (fun _ : Unit => eV 251 ea (learnE t x).1) (fun _ => [TreeR q (learnE t x).2])) := by
 have hq' := hq
 obtain ⟨av, nv, kv, rfl, _, _⟩ := hq'; have hle := hok.le
 have hcl := hok.cl
 refine g_enter (env := [(0, .pointer (some ⟨q, 0, none⟩)), (1, _)]) Tryz.func57 rfl h Tryz.ntmps57 rfl rfl ?_; refine gsr (gl_tree (by repeat (first | exact Pick.here | apply Pick.there)) (fun g ao co ac cc css qss h19 => ?_))
 refine zbN fun b3 => ?_; refine gl_fact (fun w' hw => St.elB hw (by repeat (first | exact Pick.here | apply Pick.there))) (fun hel => ?_)
 obtain ⟨cp, hgk, wp, Ap, hrp⟩ := lookP hel.1 hel.2 x.block; have icp := Len.of hrp.len
 have jcp := One.of hrp.one
 refine zxa ?_; refine gnt (gc_seq (gc_regionZ 12 ([blk q 137 (dc t.root ++ [.map (some g), .slice ao t.nodes.length co, .slice ac t.certs.length cc]), mapR g (encK digV (nodeV t.nodes css)), blk b3 47 (.int .i64 x.epoch :: .int .i64 x.round :: (dc x.block ++ [.slice av nv kv]))]) ?_)); refine yps 0 rfl zmv ?_; refine yps 1 rfl znc ?_; refine yps 2 rfl zfa ?_; refine yps 3 rfl zl ?_; refine yps 4 rfl zfa ?_; refine yps 5 rfl zL ?_; refine yps 6 rfl (r_val (v' := .tuple #[.agg cp.toArray, .bool (lkN x.block t.nodes).isSome]) (r_look (K := digV) (l := nodeV t.nodes css) (key := x.block) (z := .agg blkC.toArray) rfl rfl Ty.un_134 (by kernel_rfl) (by repeat (first | exact Pick.here | apply Pick.there))) hgk) ?_; refine yps 7 rfl zmv ?_; refine yps 8 rfl zex ?_; refine yps 9 rfl zex ?_; refine yos 10 rfl ?_; refine zal fun b5 => ?_; refine gl_eqc (cs' := blkC) (by repeat (first | exact Pick.here | apply Pick.there)) (by kernel_rfl) ?_; refine yxs ?_; refine yos 11 rfl ?_; refine zsA hrp.len hrp.one ?_; refine yxs ?_; refine yzs rfl ?_; refine zxa ?_; refine gnt (gc_seq (gc_block (gsr (zxm ?_)))); refine gp znt ?_; refine zxa ?_; refine gnt (gif rfl (fun hc19 => ?_) (fun hc19 => ?_))
 ·try simp only at hc19
  have hnl : (lkN x.block t.nodes).isSome = false := by simpa using hc19
  refine gsr (gp (r_ld1o rfl Ty.row_53 (hE.c 9 Has.h) (hE.n 9 Has.h)) ?_); refine zxa ?_; refine gnt (gc_ret (gx_block_ret ?_)); refine gx_then_ret (gx_ret1 rfl (by conv => lhs; whnf) ?_); have hl : learnE t x = (9, t) := learn_none hnl
  exact fun w' hw => ⟨(), by rw [hl], by rw [hl]; exact (hw.cz (M := [blk q 137 (dc t.root ++ [.map (some g), .slice ao t.nodes.length co, .slice ac t.certs.length cc]), mapR g (encK digV (nodeV t.nodes css)), ElR RdBlock css (t.nodes.map (fun p => p.2)), rowR 27 16 ao t.nodes.length co ((keysT t).map dc).flatten, rowR 47 19 ac t.certs.length cc qss.flatten, ElR RdQC qss t.certs]) (N := [TreeR q t]) (fun _ _ h => stars_tshut h19 h)).sel (.cons .here .nil)⟩
 ·try simp only at hc19
  obtain ⟨p, hp⟩ := Option.isSome_iff_exists.1 (by simpa using hc19 : (lkN x.block t.nodes).isSome = true); have hbo : bOf t x.block = p := by rw [bOf, hp]; rfl
  rw [hbo] at hrp; refine gsr (gp zL ?_); refine gp zfa ?_; refine gp zL ?_; refine gp (zLa (cs := cp)) ?_; refine zc (fun _ => ?_) (c := fun w1 F1 F2 h1 h2 hd hst => bfits_ok h1 (hq) hrp)
  refine gp znt ?_; refine zxa ?_; refine gnt (gif rfl (fun hc23 => ?_) (fun hc23 => ?_))
  ·try simp only at hc23
   have hf : ¬ fitsQ x x.block p = true := by simpa using hc23
   refine gsr (gp (r_ld1o rfl Ty.row_53 (hE.c 12 Has.h) (hE.n 12 Has.h)) ?_); refine zxa ?_; refine gnt (gc_ret (gx_block_ret ?_)); refine gx_then_ret (gx_ret1 rfl (by conv => lhs; whnf) ?_); have hl : learnE t x = (12, t) := learn_unfit hp hf
   exact fun w' hw => ⟨(), by rw [hl], by rw [hl]; exact (hw.cz (M := [blk q 137 (dc t.root ++ [.map (some g), .slice ao t.nodes.length co, .slice ac t.certs.length cc]), mapR g (encK digV (nodeV t.nodes css)), ElR RdBlock css (t.nodes.map (fun p => p.2)), rowR 27 16 ao t.nodes.length co ((keysT t).map dc).flatten, rowR 47 19 ac t.certs.length cc qss.flatten, ElR RdQC qss t.certs]) (N := [TreeR q t]) (fun _ _ h => stars_tshut h19 h)).sel (.cons .here .nil)⟩
  ·try simp only at hc23
   have hf : fitsQ x x.block p = true := by simpa using hc23
   refine gc_cz (M := [blk q 137 (dc t.root ++ [.map (some g), .slice ao t.nodes.length co, .slice ac t.certs.length cc]), mapR g (encK digV (nodeV t.nodes css)), ElR RdBlock css (t.nodes.map (fun p => p.2)), rowR 27 16 ao t.nodes.length co ((keysT t).map dc).flatten, rowR 47 19 ac t.certs.length cc qss.flatten, ElR RdQC qss t.certs]) (N := [TreeR q t]) (fun _ _ h => stars_tshut h19 h) ?_; refine gc_skip (gx_block_normal (gx_then (gc_seq (gsr (zxm ?_))))); refine gp zfa ?_; refine gp zL ?_; refine zc (fun x35 => ?_) (c := fun w1 F1 F2 h1 h2 hd hst => tcert_ok (d := x.block) (tr_rd h2 hd (by repeat (first | exact Pick.here | apply Pick.there))) hok h1)
   refine gl_pureR (fun hx35 => ?_)
   obtain ⟨hl35, ho35⟩ := hx35; replace hl35 : x35.length = 19 := hl35
   have i35 := Len.of hl35
   have j35 := One.of (show ∀ v ∈ x35, v.oneCell' = true from ho35)
   refine zxm ?_; refine gp zex ?_; refine gp zex ?_; refine zal fun b7 => ?_; refine gl_eqc (cs' := qcC) (by repeat (first | exact Pick.here | apply Pick.there)) (by kernel_rfl) ?_; refine zsN ?_; refine zxa ?_; refine zxs ?_; refine zxm ?_; refine gp znt ?_; refine gnt (gif rfl (fun hc39 => ?_) (fun hc39 => ?_))
   ·try simp only at hc39
    have hc : ¬ (certF x.block t.certs).isSome = true := by simpa using hc39
    refine gc_tree (by repeat (first | exact Pick.here | apply Pick.there)) (fun g ao co ac cc css qss h19 => ?_)
    refine gc_regionU 9 ([blk q 137 (dc t.root ++ [.map (some g), .slice ao t.nodes.length co, .slice ac t.certs.length cc]), blk b3 47 (.int .i64 x.epoch :: .int .i64 x.round :: (dc x.block ++ [.slice av nv kv]))]) ?_; refine ypu 0 rfl zmv ?_; refine ypu 1 rfl zmv ?_; refine ypu 2 rfl znc ?_; refine ypu 3 rfl zfa ?_; refine ypu 4 rfl zl ?_; refine ypu 5 rfl zL ?_; refine you 6 rfl ?_; refine zc (fun x46 => ?_) (c := fun w1 F1 F2 h1 h2 hd hst => copiedQC_ok h1 (hq.mv hst.still) hs)
    refine gl_pureR (fun hx46 => ?_)
    obtain ⟨hl46, ho46⟩ := hx46; replace hl46 : x46.length = 19 := hl46
    have i46 := Len.of hl46
    have j46 := One.of (show ∀ v ∈ x46, v.oneCell' = true from ho46)
    refine yxu ?_; refine you 7 rfl ?_; refine zeN fun b47 => ?_; refine yxu ?_; refine you 8 rfl ?_; refine zapo (fun a48 c48 => ?_)
    refine yxu ?_; refine yzu ?_; refine gp znc ?_; refine gp zfa ?_; refine zs1 ?_; refine zxs ?_; refine zxa ?_; refine gnt (gc_ret (gx_ret1 rfl (by conv => lhs; whnf) ?_)); have hl : learnE t x = (0, { t with certs := t.certs ++ [x] }) := learn_new hp hf hc
    exact fun w' hw => ⟨(), by rw [hl]; show Ending.returned _ = Ending.returned (eV _ _ 0); rw [eV_zero], by rw [hl]; exact (tree_cert (css := css) h19 hl46 hw (by repeat (first | exact Sel.nil | (apply Sel.cons; · (repeat (first | exact Pick.here | apply Pick.there)))))).sel (.cons .here .nil)⟩
   ·try simp only at hc39
    have hc : (certF x.block t.certs).isSome = true := by simpa using hc39
    refine gc_skip (gx_then (gsr (zxa ?_))); refine gnt (gc_ret (gx_ret1 rfl (by conv => lhs; whnf) ?_)); have hl : learnE t x = (0, t) := learn_has hp hf hc
    exact fun w' hw => ⟨(), by rw [hl]; show Ending.returned _ = Ending.returned (eV _ _ 0); rw [eV_zero], by rw [hl]; exact hw.z⟩
theorem tadd_ok {w : World} {F : Nat → Prop} {q : Nat} {t : Tr} {ea : Nat → Addr} {es : List Nat} [Has es 1] [Has es 4] [Has es 8] [Has es 9] [Has es 12] [Has es 14] [Has es 16] [Has es 17] (hE : GErr es w (fun k => ¬ F k) 251 ea) (hK : KR w (fun k => ¬ F k)) (h : stars [TreeR q t] w F) (hok : TOk t) {cs : List Value} {b : Block} (hb : RdBlock w (fun k => ¬ F k) cs b) (hs : (wBlock b ⟨0, []⟩).err = 0 → smBlk b) :
    Calls Tryz.prog 29 #[.pointer (some ⟨q, 0, none⟩), .agg cs.toArray] w (Post w F (fun _ : Unit => .tuple #[.agg (dc (addE t b (wBlock b ⟨0, []⟩).err (idOf b)).2.1).toArray, eV 251 ea (addE t b (wBlock b ⟨0, []⟩).err (idOf b)).1]) (fun _ => [TreeR q (addE t b (wBlock b ⟨0, []⟩).err (idOf b)).2.2])) := by
 have hb' := hb
 obtain ⟨qj, a1, n1, c1, a2, n2, c2, rfl, hj, hj2, hj3, hj4, hj5⟩ := hb'; have ij := Len.of hj.len
 have jj := One.of hj.one
 have hle := hok.le
 have hcl := hok.cl
 refine g_enter (env := [(0, .pointer (some ⟨q, 0, none⟩)), (1, _)]) Tryz.func29 rfl h Tryz.ntmps29 rfl rfl ?_; refine gsr (zbN fun b3 => ?_); refine zal fun b4 => ?_; refine zxa ?_; refine zxs ?_; refine zxm ?_; refine gp zL ?_; refine zc (fun _ => ?_) (c := fun w1 F1 F2 h1 h2 hd hst => task_ok (tr_rd h2 hd (by repeat (first | exact Pick.here | apply Pick.there))) hok (hE.mv hst.still) (hK.mv hst.still) h1 (hb.mv hst.still))
 refine zxm ?_; refine gp zex ?_; refine gp zex ?_; refine zal fun b6 => ?_; refine zsN ?_; refine zxa ?_; refine gnt (gc_seq (gsr (zxm ?_))); refine gp (r_bool (c := decide (¬ (askE t b (wBlock b ⟨0, []⟩).err (idOf b)) = 0)) (r_nenil rfl (by kernel_rfl)) (by simp)) ?_; refine gnt (gif rfl (fun hc15 => ?_) (fun hc15 => ?_))
 ·try simp only at hc15
  have ha : ¬ (askE t b (wBlock b ⟨0, []⟩).err (idOf b)) = 0 := by simpa using hc15
  refine gsr (gp (zba (cs := dc dig0) (hf := by kernel_rfl)) ?_); refine zxm ?_; refine zsN ?_; refine zxa ?_; refine gnt (gc_ret (gx_then_ret (gx_retct rfl rfl (by conv => lhs; whnf) (ldA Ty.row_27 Ty.sz_27) ?_))); have hl : (addE t b (wBlock b ⟨0, []⟩).err (idOf b)) = ((askE t b (wBlock b ⟨0, []⟩).err (idOf b)), dig0, t) := by unfold addE; rw [if_neg ha]
  exact fun w' hw => ⟨(), by rw [hl], by rw [hl]; exact hw.z⟩
 ·try simp only at hc15
  have ha : (askE t b (wBlock b ⟨0, []⟩).err (idOf b)) = 0 := by simpa using hc15
  obtain ⟨he0, hn, p, hp, _, _, _, hlt⟩ := askE_zero ha; have hs := hs he0
  refine gc_tree (by repeat (first | exact Pick.here | apply Pick.there)) (fun g ao co ac cc css qss h19 => ?_)
  refine gc_fact (fun w' hw => (St.elB hw (by repeat (first | exact Pick.here | apply Pick.there))).1) (fun hel => ?_)
  replace hel : css.length = t.nodes.length := by simpa using hel
  refine gc_skip (gx_then (gc_seq (gc_regionZ 7 ([blk q 137 (dc t.root ++ [.map (some g), .slice ao t.nodes.length co, .slice ac t.certs.length cc]), blk b6 27 (dc (idOf b)), blk b3 51 (.int .i64 b.epoch :: .int .i64 b.round :: (dc b.parent ++ (qj ++ [.slice a1 n1 c1, .slice a2 n2 c2])))]) ?_))); refine yps 0 rfl zmv ?_; refine yps 1 rfl znc ?_; refine yps 2 rfl zfa ?_; refine yps 3 rfl zl ?_; refine yps 4 rfl zL ?_; refine yps 5 rfl zL ?_; refine yos 6 rfl ?_; refine zc (fun x24 => ?_) (c := fun w1 F1 F2 h1 h2 hd hst => copied_ok h1 (hb.mv hst.still) hs)
  refine gl_pureR (fun hx24 => ?_)
  obtain ⟨hl24, ho24⟩ := hx24; replace hl24 : x24.length = 39 := hl24
  have i24 := Len.of hl24
  have j24 := One.of (show ∀ v ∈ x24, v.oneCell' = true from ho24)
  refine yxs ?_; refine yzs rfl ?_; refine gl_put (K := digV) (l := nodeV t.nodes css) (key := idOf b) (v := .agg x24.toArray) (wt0 rfl) rfl rfl rfl Ty.un_134 (by repeat (first | exact Pick.here | apply Pick.there)) ?_; refine gnt (gc_seq (gc_regionU 8 ([blk q 137 (dc t.root ++ [.map (some g), .slice ao t.nodes.length co, .slice ac t.certs.length cc]), blk b6 27 (dc (idOf b))]) ?_)); refine ypu 0 rfl zmv ?_; refine ypu 1 rfl zmv ?_; refine ypu 2 rfl znc ?_; refine ypu 3 rfl zfa ?_; refine ypu 4 rfl zl ?_; refine ypu 5 rfl zL ?_; refine you 6 rfl ?_; refine zeN fun b31 => ?_; refine yxu ?_; refine you 7 rfl ?_; refine zapo (fun a32 c32 => ?_)
  refine yxu ?_; refine yzu ?_; refine gp znc ?_; refine gp zfa ?_; refine zs1 ?_; refine gnt (gc_seq (gc_st (fun w' hw => tree_put (css := css) h19 hel hn hw (by repeat (first | exact Sel.nil | (apply Sel.cons; · (repeat (first | exact Pick.here | apply Pick.there)))))) ?_)); refine gc_regionZ 6 ([blk b6 27 (dc (idOf b)), blk b3 51 (.int .i64 b.epoch :: .int .i64 b.round :: (dc b.parent ++ (qj ++ [.slice a1 n1 c1, .slice a2 n2 c2])))]) ?_; refine yps 0 rfl zL ?_; refine yps 1 rfl zmv ?_; refine yps 2 rfl zfa ?_; refine yps 3 rfl (zL (sg := qj)) ?_; refine yos 4 rfl ?_; refine zc (fun _ => ?_) (c := fun w1 F1 F2 h1 h2 hd hst => tlearn_ok (hE.mv hst.still) h1 (putT_ok (p := idOf b) hok hn hp hlt hs) (hj.mv hst.still) hs.1)
  refine yxs ?_; refine yos 5 rfl ?_; refine zsN ?_; refine yxs ?_; refine yzs rfl ?_; refine zxa ?_; refine gnt (gc_ret (gx_retct rfl rfl (by conv => lhs; whnf) (ldA Ty.row_27 Ty.sz_27) ?_)); have hl : (addE t b (wBlock b ⟨0, []⟩).err (idOf b)) = ((learnE (putT t b (idOf b)) b.justify).1, idOf b, (learnE (putT t b (idOf b)) b.justify).2) := by unfold addE; rw [if_pos ha]
  exact fun w' hw => ⟨(), by rw [hl], by rw [hl]; exact hw.z⟩
end
end Go.Proofs.YtheonhgffglegaaGreatDoor
