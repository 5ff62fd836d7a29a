/- Part 4. What is proved: see the last part: for every input the law returns true, and the input reads as it did. -/
import Derived.Test.YtheonhgffglegaaDoorCr3
/- Walks, by program (wg.py) out of a spec. -/
namespace Go.Proofs.YtheonhgffglegaaDoor
open Go
set_option linter.unusedVariables false
set_option linter.unusedSimpArgs false

attribute [local irreducible] Gl Gc Gx Gs Runs Wt

attribute [local irreducible] dc qcC blkC idOf TreeR RdBlock RdQC gid fkT genC chC

set_option maxHeartbeats 400000 in
theorem alive15_ok {w : World} {F : Nat → Prop} (h : stars [] w F) {ea : Nat → Addr} {es : List Nat} [Has es 1] [Has es 4] [Has es 8] [Has es 9] [Has es 12] [Has es 14] [Has es 16] [Has es 17] (hE : GErr es w (fun k => ¬ F k) 139 ea) (hK : KR w (fun k => ¬ F k))  :
    Calls Tryd.prog 4 #[] w (Post w F (fun _ : Unit => .bool true) (fun _ => [])) := by
  refine g_enter (env := []) Tryd.func4 rfl h Tryd.ntmps4 rfl rfl ?_
  refine gsr ?_
  refine gp zas ?_
  refine gnt ?_
  refine gsr ?_
  refine zc (fun q => ?_) (c := fun w1 F1 F2 h1 h2 hd hst => genesis15_ok h1 (hE.mv hst.still) (hK.mv hst.still))
  have igen := Len.of genC_len
  have jgen := One.of (rdGen (w := w) (A := fun _ => True)).one
  refine gp zmv ?_
  refine gp zex ?_
  refine gp zex ?_
  refine gp zex ?_
  refine gp zex ?_
  refine zal fun b2 => ?_
  refine gl_eqc (cs' := blkC) (by repeat (first | exact Pick.here | apply Pick.there)) (by kernel_rfl) ?_
  refine zal fun b3 => ?_
  refine gp zas ?_
  refine zsA genC_len One.h ?_
  refine zsN ?_
  refine gp zas ?_
  refine gnt ?_
  refine gc_seq ?_
  refine gsr ?_
  refine gp zmv ?_
  refine gp (r_bool (c := false) znt rfl) ?_
  refine gnt ?_
  refine gc_condF rfl rfl ?_
  refine gc_skip ?_
  refine gx_then ?_
  refine gsr ?_
  refine gp (zba (cs := dc dig0) (hf := by kernel_rfl)) ?_
  refine zal fun b5 => ?_
  refine zsN ?_
  refine gnt ?_
  refine gc_seq ?_
  refine gsr ?_
  refine gp zmv ?_
  refine gnt ?_
  refine gc_block ?_
  refine gc_loop (α := Nat × List Value) (fun y => [pureR (y.1 ≤ 3 ∧ y.2.length = 39 ∧ ∀ v ∈ y.2, v.oneCell' = true), TreeR q (fkT y.1 0), blk b2 33 y.2, blk b3 26 (dc (idA y.1)), blk b5 26 (dc (if y.1 = 0 then dig0 else idA 1)), VlR RdBlock y.2 (blA y.1)]) (fun y => [(17, .int .i64 (y.1 : Int))]) [0, 6, 7, 18, 19, 20, 21, 22, 23, 24, 25, 26, 27, 28, 29, 30, 31, 32, 33, 34] (fun y => 3 - y.1) (0, genC) ?_ ?_ ?_
  · refine env_start (by kernel_rfl)
  · intro w' hw
    exact St.pureI (p := 0 ≤ 3 ∧ _ ∧ _) ⟨by decide, genC_len, One.h⟩ ((St.vl hw (rdGen (w := w') (A := fun _ => False))).sel (M := [TreeR q (fkT 0 0), blk b2 33 genC, blk b3 26 (dc gid), blk b5 26 (dc dig0), VlR RdBlock genC g0]) (by repeat (first | exact Sel.nil | (apply Sel.cons; · (repeat (first | exact Pick.here | apply Pick.there))))))
  · intro y u
    obtain ⟨k, cs⟩ := y
    refine gc_pureR (fun hk => ?_)
    obtain ⟨hk, hlc, hoc⟩ := hk
    replace hk : k ≤ 3 := hk
    replace hlc : cs.length = 39 := hlc
    have ic := Len.of hlc
    have jc := One.of (show ∀ v ∈ cs, v.oneCell' = true from hoc)
    have hrk := blA_round k
    refine gsr ?_
    refine gp zlt ?_
    refine gnt ?_
    refine gc_seq ?_
    refine gif rfl (fun hc18 => ?_) (fun hc18 => ?_)
    · try simp only at hc18
      have hk' : k < 3 := by omega
      refine gc_skip ?_
      refine gx_then ?_
      refine gc_seq ?_
      refine gc_block ?_
      refine gsr ?_
      refine gp zmv ?_
      refine gp zas ?_
      refine gnt ?_
      refine gsr ?_
      refine gp (zLa (cs := cs)) ?_
      refine gp zL ?_
      refine zc ?_ (c := fun w1 F1 F2 h1 h2 hd hst => child15_ok (b := blA k) (id := idA k) (on := 1) (tx := 1) h1 (vl_rd h2 hd (by repeat (first | exact Pick.here | apply Pick.there))) (by omega) (by decide))
      rintro ⟨b23, b24⟩
      have ich := Len.of (chC_len (blA k) (idA k) 1 b24)
      have jch := One.of (chC_one (blA k) (idA k) 1 b24)
      refine zsA (chC_len _ _ _ _) (chC_one _ _ _ _) ?_
      refine gnt ?_
      refine gsr ?_
      refine gp zas ?_
      refine gnt ?_
      refine gc_seq ?_
      refine gsr ?_
      refine gp zmv ?_
      refine gp (zLa (cs := chC (blA k) (idA k) 1 b24)) ?_
      refine zc (fun _ => ?_) (c := fun w1 F1 F2 h1 h2 hd hst => tadd_eq (b := blA (k + 1)) (hE.mv hst.still) (hK.mv hst.still) h1 (fkT_ok (by omega)) (rd_chC (b := blA k) (id := idA k) (on := 1) (tx := 1) (rd_row h2 hd (by repeat (first | exact Pick.here | apply Pick.there))) (rd_row h2 hd (by repeat (first | exact Pick.here | apply Pick.there)))) smB_ch (blA_err (by omega)) (blA_id (by omega)) (fkA (by omega)))
      refine gp zmv ?_
      refine gp zex ?_
      refine gp zex ?_
      refine zsN ?_
      refine gp zas ?_
      refine gnt ?_
      refine gsr ?_
      refine gp zmv ?_
      refine gp (r_bool (c := false) (r_nenil rfl (by kernel_rfl)) rfl) ?_
      refine gnt ?_
      refine gc_condF rfl rfl ?_
      refine gc_skip ?_
      refine gx_then ?_
      refine gsr ?_
      refine gp zmv ?_
      refine gp (r_bool (c := decide (k = 0)) zei (by rw [Bool.eq_iff_iff]; simp only [decide_eq_true_eq]; omega)) ?_
      refine gnt ?_
      refine gif rfl (fun hc32 => ?_) (fun hc32 => ?_)
      · try simp only at hc32
        have hk0 : k = 0 := by simpa using hc32
        refine gc_region ?_
        refine gp zL ?_
        refine zsN ?_
        refine gl_nil ?_
        refine gx_block_normal ?_
        refine gx_then ?_
        refine gc_region ?_
        refine gp zad ?_
        refine gp zmv ?_
        refine gl_nil ?_
        refine zrd ((k + 1, chC (blA k) (idA k) 1 b24)) ?_ ?_
        · show 3 - (k + 1) < 3 - k
          omega
        · obtain rfl : k = 0 := by omega
          intro w' hw
          have h1 := hw.conv (M := [rowR 53 1 (some ⟨b24, 0, none⟩) 1 1 [.slice (some ⟨b23, 0, none⟩) 1 1], rowR 5 1 (some ⟨b23, 0, none⟩) 1 1 [B8 1]]) (by repeat (first | exact Sel.nil | (apply Sel.cons; · (repeat (first | exact Pick.here | apply Pick.there))))) (fun _ _ => vl_chC (b := blA 0) (id := idA 0) (on := 1))
          exact St.pureI (p := 0 + 1 ≤ 3 ∧ _ ∧ _) ⟨by omega, chC_len _ _ _ _, chC_one _ _ _ _⟩ (h1.sel (M := [TreeR q (fkT (0 + 1) 0), blk b2 33 (chC (blA 0) (idA 0) 1 b24), blk b3 26 (dc (idA (0 + 1))), blk b5 26 (dc (idA (0 + 1))), VlR RdBlock (chC (blA 0) (idA 0) 1 b24) (blA (0 + 1))]) (by repeat (first | exact Sel.nil | (apply Sel.cons; · (repeat (first | exact Pick.here | apply Pick.there))))))
      · try simp only at hc32
        have hk0 : ¬ k = 0 := by simpa using hc32
        refine gc_skip ?_
        refine gx_block_normal ?_
        refine gx_then ?_
        refine gc_region ?_
        refine gp zad ?_
        refine gp zmv ?_
        refine gl_nil ?_
        refine zrd ((k + 1, chC (blA k) (idA k) 1 b24)) ?_ ?_
        · show 3 - (k + 1) < 3 - k
          omega
        · rw [if_neg (show ¬ k = 0 by omega)]
          intro w' hw
          have h1 := hw.conv (M := [rowR 53 1 (some ⟨b24, 0, none⟩) 1 1 [.slice (some ⟨b23, 0, none⟩) 1 1], rowR 5 1 (some ⟨b23, 0, none⟩) 1 1 [B8 1]]) (by repeat (first | exact Sel.nil | (apply Sel.cons; · (repeat (first | exact Pick.here | apply Pick.there))))) (fun _ _ => vl_chC (b := blA k) (id := idA k) (on := 1))
          exact St.pureI (p := k + 1 ≤ 3 ∧ _ ∧ _) ⟨by omega, chC_len _ _ _ _, chC_one _ _ _ _⟩ (h1.sel (M := [TreeR q (fkT (k + 1) 0), blk b2 33 (chC (blA k) (idA k) 1 b24), blk b3 26 (dc (idA (k + 1))), blk b5 26 (dc (idA 1)), VlR RdBlock (chC (blA k) (idA k) 1 b24) (blA (k + 1))]) (by repeat (first | exact Sel.nil | (apply Sel.cons; · (repeat (first | exact Pick.here | apply Pick.there))))))
    · try simp only at hc18
      have hk' : k = 3 := by omega
      subst hk'
      refine gc_exit ?_
      refine gx_then_exit ?_
      refine gx_round_exit ?_
      refine gx_block_hit ?_
      refine gx_then ?_
      refine gc_seq ?_
      refine gc_regionZ 7 ([blk b3 26 (dc (idA 3)), blk b5 26 (dc (if (3 : Nat) = 0 then dig0 else idA 1))]) ?_
      refine yps 0 rfl zmv ?_
      refine yps 1 rfl zL ?_
      refine yps 2 rfl (zbu (cs := .int .i64 1 :: .int .i64 3 :: (dc (idA 3) ++ [.slice none 0 0]))) ?_
      refine yps 4 rfl zL ?_
      refine yo2s 3 5 rfl rfl ?_ ?_
      · refine zc ?_ (c := fun w1 F1 F2 h1 h2 hd hst => tripe_ok (x := ⟨1, 3, idA 3, []⟩) (tr_rd h2 hd (by repeat (first | exact Pick.here | apply Pick.there))) (fkT_ok (show 3 ≤ 5 by decide)) h1 (rdQ1 1 3 (idA 3)) (by decide))
        rintro ⟨a38, c38⟩
        rw [ripeA]
        refine yxs ?_
        refine yos 5 rfl ?_
        refine zeN fun b40 => ?_
        refine yxs ?_
        refine yos 6 rfl ?_
        refine zc (fun _ => ?_) (c := fun w1 F1 F2 h1 h2 hd hst => same03_ok (l1 := [idA 1]) (l2 := [idA 1]) h1 (digs_of_row (rd_row h2 hd (by repeat (first | exact Pick.here | apply Pick.there)))) (digs_of_one (rd_row h2 hd (by repeat (first | exact Pick.here | apply Pick.there)))))
        refine yxs ?_
        refine yzs rfl ?_
        refine gp zas ?_
        refine gnt ?_
        refine gc_ret ?_
        refine gx_ret1 rfl (by conv => lhs; whnf) ?_
        exact fun w' hw => ⟨(), by simp, hw.sel (by repeat (first | exact Sel.nil | (apply Sel.cons; · (repeat (first | exact Pick.here | apply Pick.there)))))⟩
      · refine zeN fun b40 => ?_
        refine yxs ?_
        refine yos 3 rfl ?_
        refine zc ?_ (c := fun w1 F1 F2 h1 h2 hd hst => tripe_ok (x := ⟨1, 3, idA 3, []⟩) (tr_rd h2 hd (by repeat (first | exact Pick.here | apply Pick.there))) (fkT_ok (show 3 ≤ 5 by decide)) h1 (rdQ1 1 3 (idA 3)) (by decide))
        rintro ⟨a38, c38⟩
        rw [ripeA]
        refine yxs ?_
        refine yos 6 rfl ?_
        refine zc (fun _ => ?_) (c := fun w1 F1 F2 h1 h2 hd hst => same03_ok (l1 := [idA 1]) (l2 := [idA 1]) h1 (digs_of_row (rd_row h2 hd (by repeat (first | exact Pick.here | apply Pick.there)))) (digs_of_one (rd_row h2 hd (by repeat (first | exact Pick.here | apply Pick.there)))))
        refine yxs ?_
        refine yzs rfl ?_
        refine gp zas ?_
        refine gnt ?_
        refine gc_ret ?_
        refine gx_ret1 rfl (by conv => lhs; whnf) ?_
        exact fun w' hw => ⟨(), by simp, hw.sel (by repeat (first | exact Sel.nil | (apply Sel.cons; · (repeat (first | exact Pick.here | apply Pick.there)))))⟩

end Go.Proofs.YtheonhgffglegaaDoor

/- Plain words: a row of blocks, each below the one ahead of it, and its tree. No program in sight. -/
namespace Go.Proofs.YtheonhgffglegaaDoor
set_option linter.unusedVariables false
set_option linter.unusedSimpArgs false

theorem wFix_err {b : List UInt8} {s : WS} (h : s.err = 0) : (wFix b s).err = 0 := by unfold wFix; rw [if_pos h]; exact h
theorem wNum_err {n : Int} {wd : Nat} {s : WS} (h : s.err = 0) (h0 : 0 ≤ n) (h1 : n < 2 ^ (8 * wd)) : (wNum n wd s).err = 0 := by
  unfold wNum; rw [if_neg (by omega)]; exact wFix_err h
theorem wPut_nil {α : Type} {wX : α → WS → WS} {most : Nat} {s : WS} (h : s.err = 0) : (wPut wX [] most s).err = 0 := by
  unfold wPut; rw [if_neg (by simp)]; exact wNum_err h (by simp) (by simp)
theorem wPut_one {α : Type} {wX : α → WS → WS} {x : α} {most : Nat} {s : WS} (h : s.err = 0) (hm : 1 ≤ most) (hx : ∀ s : WS, s.err = 0 → (wX x s).err = 0) : (wPut wX [x] most s).err = 0 := by
  unfold wPut; rw [if_neg (by simp; omega)]; exact hx _ (wNum_err h (by simp) (by simp))
theorem blk_err {e r e2 r2 : Int} {p d : Dig} {tx : UInt8} (he : 0 ≤ e ∧ e < 4294967296) (hr : 0 ≤ r ∧ r < 281474976710656) (he2 : 0 ≤ e2 ∧ e2 < 4294967296) (hr2 : 0 ≤ r2 ∧ r2 < 281474976710656) :
    (wBlock ⟨e, r, p, ⟨e2, r2, d, []⟩, [[tx]], []⟩ ⟨0, []⟩).err = 0 := by
  have p4 : (2 : Int) ^ (8 * 4) = 4294967296 := by decide
  have p6 : (2 : Int) ^ (8 * 6) = 281474976710656 := by decide
  unfold wBlock wQC wAt wDig
  refine wPut_nil (wPut_one (wPut_nil (wFix_err (wNum_err (wNum_err (wFix_err (wNum_err (wNum_err rfl he.1 (by rw [p4]; exact he.2)) hr.1 (by rw [p6]; exact hr.2))) he2.1 (by rw [p4]; exact he2.2)) hr2.1 (by rw [p6]; exact hr2.2)))) (by decide) fun s hs => ?_)
  unfold wBytes
  rw [if_neg (by simp)]
  exact wFix_err (wNum_err hs (by simp) (by simp))

theorem askE_mk {t : Tr} {b p : Block} {id : Dig} (hn : lkN id t.nodes = none) (hp : lkN b.parent t.nodes = some p) (hf : fitsQ b.justify b.parent p = true) (he : b.epoch = p.epoch) (hr : p.round < b.round) (hl : t.nodes.length < 16) : askE t b 0 id = 0 := by
  unfold askE
  simp only [hn, hp, hf, he, Option.isSome_none, Bool.false_eq_true, if_false, if_true, and_self]
  rw [if_neg (by omega), if_neg (by omega)]
attribute [local irreducible] idOf gid
section
variable (st : Nat → Int)
def txN (k : Nat) : UInt8 := UInt8.ofNat ((k : Int) % 256).toNat
def lnB : Nat → Block
  | 0 => g0
  | k + 1 => chB (lnB k) (idOf (lnB k)) (st k) (txN k)
def lnI (k : Nat) : Dig := idOf (lnB st k)
def lnN (k : Nat) : List (Dig × Block) := (List.range (k + 1)).map fun i => (lnI st i, lnB st i)
def lnQ (i : Nat) : QC := ⟨1, (lnB st i).round, lnI st i, []⟩
def lnC (k : Nat) : List QC := (List.range (max 1 k)).map (lnQ st)
def lnT (k : Nat) : Tr := ⟨gid, lnN st k, lnC st k⟩
def lnD (k : Nat) : List Dig := (List.range (k + 1)).map (lnI st)
variable {st}
theorem lnI_zero : lnI st 0 = gid := g0_id
theorem lnB_zero : lnB st 0 = g0 := rfl
theorem lnB_succ (k : Nat) : lnB st (k + 1) = chB (lnB st k) (lnI st k) (st k) (txN k) := rfl
theorem lnD_succ (k : Nat) : lnD st (k + 1) = lnD st k ++ [lnI st (k + 1)] := by simp [lnD, List.range_succ]
theorem lnN_succ (k : Nat) : lnN st (k + 1) = lnN st k ++ [(lnI st (k + 1), lnB st (k + 1))] := by simp [lnN, List.range_succ]
theorem lnD_len (k : Nat) : (lnD st k).length = k + 1 := by simp [lnD]
theorem keys_ln (k : Nat) : keysT (lnT st k) = lnD st k := by simp [keysT, lnT, lnN, lnD, Function.comp_def]
theorem lnT_zero : lnT st 0 = fkT 0 0 := by
  have h : lnI st 0 = gid := lnI_zero
  have hq : lnQ st 0 = qcA 0 := by simp [lnQ, h, lnB, g0, qcA, idA]
  simp only [lnT, lnN, lnC, fkT]
  simp [List.range_succ, h, lnB, hq]
theorem ln_epoch : ∀ k, (lnB st k).epoch = 1
  | 0 => rfl
  | k + 1 => ln_epoch k
/-- Each step goes on, and not far. -/
structure StOk (st : Nat → Int) : Prop where
  lo : ∀ i, 1 ≤ st i
  hi : ∀ i, st i ≤ 1000
theorem ln_round (h : StOk st) : ∀ k, 0 ≤ (lnB st k).round ∧ (lnB st k).round ≤ 1000 * k
  | 0 => by simp [lnB, g0]
  | k + 1 => by
    have ih := ln_round h k
    have h1 := h.lo k; have h2 := h.hi k
    have e : (lnB st (k + 1)).round = (lnB st k).round + st k := rfl
    omega
theorem ln_mono (h : StOk st) : ∀ {i j : Nat}, i < j → (lnB st i).round < (lnB st j).round
  | i, 0, hij => by omega
  | i, j + 1, hij => by
    have e : (lnB st (j + 1)).round = (lnB st j).round + st j := rfl
    have h1 := h.lo j
    by_cases hh : i = j
    · subst hh; omega
    · have := ln_mono h (i := i) (j := j) (by omega); omega
theorem ln_err (h : StOk st) : ∀ k, k ≤ 100 → (wBlock (lnB st k) ⟨0, []⟩).err = 0
  | 0, _ => g0_err
  | k + 1, hk => by
    have h1 := ln_round h k; have h2 := ln_round h (k + 1); have he := ln_epoch (st := st) k
    rw [lnB_succ]
    have e : (lnB st (k + 1)).round = (lnB st k).round + st k := rfl
    exact blk_err (by omega) (by omega) (by omega) (by omega)
theorem ln_sm : ∀ k, smBlk (lnB st k)
  | 0 => smB_g0
  | k + 1 => smB_ch
theorem lnN_at {k i : Nat} (h : i ≤ k) : (lnN st k)[i]? = some (lnI st i, lnB st i) := by simp [lnN, show i < k + 1 by omega]
theorem ln_lk {k i : Nat} (hn : (lnD st k).Nodup) (h : i ≤ k) : lkN (lnI st i) (lnN st k) = some (lnB st i) := by
  refine lkN_at ?_ (lnN_at h)
  have := keys_ln (st := st) k
  simp only [keysT, lnT] at this
  rw [this]; exact hn
theorem ln_mem {k : Nat} {d : Dig} {b : Block} (h : lkN d (lnN st k) = some b) : ∃ i, i ≤ k ∧ d = lnI st i ∧ b = lnB st i := by
  obtain ⟨i, hi⟩ := lkN_some h
  have hlt := (List.getElem?_eq_some_iff.1 hi).1
  simp only [lnN, List.length_map, List.length_range] at hlt
  rw [lnN_at (by omega)] at hi
  cases hi
  exact ⟨i, by omega, rfl, rfl⟩
theorem lnT_ok {k : Nat} (hn : (lnD st k).Nodup) (hk : k < 16) : TOk (lnT st k) where
  nd := by rw [keys_ln]; exact hn
  hd := by
    have h0 := lnN_at (st := st) (Nat.zero_le k)
    cases hl : lnN st k with
    | nil => rw [hl] at h0; cases h0
    | cons p r =>
      rw [hl] at h0
      have h1 : p = (lnI st 0, lnB st 0) := Option.some.inj h0
      exact ⟨g0, r, by show lnN st k = _; rw [hl, h1, lnI_zero, lnB_zero]; rfl⟩
  par := fun i d b h => by
    have hlt := (List.getElem?_eq_some_iff.1 h).1
    simp only [lnT, lnN, List.length_map, List.length_range] at hlt
    have h' : (lnN st k)[i + 1]? = some (d, b) := h
    rw [lnN_at (by omega)] at h'
    cases h'
    exact ⟨i, lnB st i, Nat.le_refl _, lnN_at (by omega)⟩
  le := by simp [lnT, lnN]; omega
  ce := by simp [lnT, lnC]; omega
  cn := by
    have e : (lnC st k).map (fun q => q.block) = (lnD st k).take (max 1 k) := by
      simp only [lnC, lnD, List.map_map, ← List.map_take]
      rw [List.take_range, Nat.min_eq_left (by omega)]; rfl
    simp only [lnT]; rw [e]
    exact hn.sublist (List.take_sublist _ _)
  ck := fun q hq => by
    simp only [lnT, lnC, List.mem_map, List.mem_range] at hq
    obtain ⟨i, hi, rfl⟩ := hq
    rw [keys_ln]
    exact List.mem_map.2 ⟨i, List.mem_range.2 (by omega), rfl⟩
  sb := fun d b h => by obtain ⟨i, _, _, rfl⟩ := ln_mem h; exact ln_sm i
  sq := fun q hq => by
    simp only [lnT, lnC, List.mem_map] at hq
    obtain ⟨i, _, rfl⟩ := hq
    exact ⟨by simp [lnQ], fun s hs => by cases hs⟩
theorem certF_at {d : Dig} : ∀ {l : List QC} {i : Nat} {q : QC}, (l.map (fun q => q.block)).Nodup → l[i]? = some q → q.block = d → certF d l = some q
  | [], i, q, _, h, _ => by simp at h
  | x :: l, 0, q, _, h, he => by simp at h; subst h; simp [certF, he]
  | x :: l, i + 1, q, hn, h, he => by
    simp only [List.map_cons, List.nodup_cons] at hn
    simp only [List.getElem?_cons_succ] at h
    unfold certF
    rw [if_neg (fun e => hn.1 (by rw [e, ← he]; exact List.mem_map.2 ⟨q, List.mem_of_getElem? h, rfl⟩)), certF_at hn.2 h he]
/-- A further block is taken, as long as its id is a new one. -/
theorem ln_add (h : StOk st) {k : Nat} (hn : (lnD st k).Nodup) (hk : k < 15) (hnew : lnI st (k + 1) ∉ lnD st k) : addE (lnT st k) (lnB st (k + 1)) 0 (lnI st (k + 1)) = (0, lnI st (k + 1), lnT st (k + 1)) := by
  have hlk := ln_lk hn (Nat.le_refl k)
  have hnone : lkN (lnI st (k + 1)) (lnN st k) = none := lkN_none.2 (by
    have := keys_ln (st := st) k
    simp only [keysT, lnT] at this
    rw [this]; exact hnew)
  have hm := ln_mono h (Nat.lt_succ_self k)
  have hpar : (lnB st (k + 1)).parent = lnI st k := rfl
  have hjus : (lnB st (k + 1)).justify = lnQ st k := by rw [lnB_succ]; simp only [chB, lnQ, ln_epoch]
  have hep : (lnB st (k + 1)).epoch = (lnB st k).epoch := rfl
  have hfit : fitsQ (lnQ st k) (lnI st k) (lnB st k) = true := by simp [fitsQ, lnQ, ln_epoch]
  have hask : askE (lnT st k) (lnB st (k + 1)) 0 (lnI st (k + 1)) = 0 := by
    exact askE_mk (t := lnT st k) (p := lnB st k) hnone (by rw [hpar]; exact hlk) (by rw [hjus, hpar]; exact hfit) hep hm (by simp [lnT, lnN]; omega)
  have hput : (putT (lnT st k) (lnB st (k + 1)) (lnI st (k + 1))).nodes = lnN st (k + 1) := by rw [lnN_succ]; rfl
  have hlk2 : lkN (lnI st k) (putT (lnT st k) (lnB st (k + 1)) (lnI st (k + 1))).nodes = some (lnB st k) := by
    show lkN _ (lnN st k ++ _) = _
    rw [lkN_append, hlk]; rfl
  have hlearn : learnE (putT (lnT st k) (lnB st (k + 1)) (lnI st (k + 1))) (lnQ st k) = (0, lnT st (k + 1)) := by
    unfold learnE
    rw [show (lnQ st k).block = lnI st k from rfl, hlk2]
    simp only [hfit, if_true]
    congr 1
    have hok := lnT_ok hn (by omega)
    cases k with
    | zero =>
      have hc : certF (lnI st 0) (lnC st 0) = some (lnQ st 0) := certF_at (i := 0) hok.cn (by simp [lnC]) rfl
      rw [show (putT (lnT st 0) (lnB st (0 + 1)) (lnI st (0 + 1))).certs = lnC st 0 from rfl, hc]
      simp only [Option.isSome_some, if_true]
      show Tr.mk gid _ _ = Tr.mk gid _ _
      rw [lnN_succ]; rfl
    | succ k =>
      have hc : certF (lnI st (k + 1)) (lnC st (k + 1)) = none := certF_none.2 (by
        intro hm2
        obtain ⟨q, hq, e⟩ := List.mem_map.1 hm2
        simp only [lnC, List.mem_map, List.mem_range] at hq
        obtain ⟨i, hi, rfl⟩ := hq
        have hi' : i < k + 1 := by omega
        have h1 : (lnD st (k + 1))[i]? = some (lnI st i) := by simp [lnD, show i < k + 1 + 1 by omega]
        have h2 : (lnD st (k + 1))[k + 1]? = some (lnI st (k + 1)) := by simp [lnD]
        have e' : lnI st i = lnI st (k + 1) := e
        have := (List.getElem?_inj (i := i) (j := k + 1) (by rw [lnD_len]; omega) hn).1 (by rw [h1, h2, e'])
        omega)
      rw [show (putT (lnT st (k + 1)) (lnB st (k + 1 + 1)) (lnI st (k + 1 + 1))).certs = lnC st (k + 1) from rfl, hc]
      simp only [Option.isSome_none, Bool.false_eq_true, if_false]
      show Tr.mk gid _ _ = Tr.mk gid _ _
      congr 1
      · simp only [lnC]
        rw [show max 1 (k + 1) = k + 1 by omega, show max 1 (k + 1 + 1) = k + 1 + 1 by omega]
        simp [List.range_succ]
  unfold addE
  rw [if_pos hask, hjus, hlearn]
theorem ln_nodup {k : Nat} (hn : (lnD st k).Nodup) (hnew : lnI st (k + 1) ∉ lnD st k) : (lnD st (k + 1)).Nodup := by
  rw [lnD_succ]
  exact List.nodup_append.2 ⟨hn, by simp, fun x hx y hy e => by simp at hy; subst hy; subst e; exact hnew hx⟩
end
end Go.Proofs.YtheonhgffglegaaDoor

/- Walks, by program (wg.py) out of a spec. -/
namespace Go.Proofs.YtheonhgffglegaaDoor
open Go
set_option linter.unusedVariables false
set_option linter.unusedSimpArgs false


theorem lnI_def (st : Nat → Int) (i : Nat) : idOf (lnB st i) = lnI st i := rfl
theorem vl_ln {st : Nat → Int} {k b23 b24 e1 e2 : Nat} {w : World} {F : Nat → Prop} (h : stars [rowR e1 1 (some ⟨b24, 0, none⟩) 1 1 [.slice (some ⟨b23, 0, none⟩) 1 1], rowR e2 1 (some ⟨b23, 0, none⟩) 1 1 [B8 (txN k)]] w F) : stars [VlR RdBlock (chC (lnB st k) (lnI st k) (st k) b24) (lnB st (k + 1))] w F := vl_chC h
theorem St.vlOfB {w0 w : World} {F0 : Nat → Prop} {L L' : List Res} {cs : List Value} {x : Block} (h : St w0 F0 L w) (hp : Pick L (VlR RdBlock cs x) L') : ∃ w A, RdBlock w A cs x := by
  obtain ⟨F, hF, _⟩ := h
  obtain ⟨F1, h1, _⟩ := stars_pick hp hF
  exact ⟨w, F1, h1.1⟩
theorem txN_eq (k : Nat) : Value.int .u8 (IntKind.u8.wrap (k : Int)) = B8 (txN k) := byte_int
attribute [local irreducible] Gl Gc Gx Gs Runs Wt

attribute [local irreducible] dc qcC blkC idOf TreeR RdBlock RdQC gid fkT genC chC

set_option maxHeartbeats 400000 in
theorem has15_ok {w : World} {F : Nat → Prop} {a : Option Addr} {n c : Nat} {d : Dig} {l : List Dig} (h : stars [] w F) (hx : RdList (fun cs d => cs = dc d) w (fun k => ¬ F k) 16 a n l) :
    Calls Tryd.prog 8 #[.slice a n c, .agg (dc d).toArray] w (Post w F (fun _ : Unit => .bool (decide (d ∈ l))) (fun _ => [])) := by
  have hn := hx.len (by decide)
  have hm := hx.max
  simp only [maxLen] at hm
  refine g_enter (env := [(0, .slice a n c), (1, .agg (dc d).toArray)]) Tryd.func8 rfl h Tryd.ntmps8 rfl rfl ?_
  refine gsr ?_
  refine zbN fun b3 => ?_
  refine gp zas ?_
  refine gnt ?_
  refine gc_seq ?_
  refine gsr ?_
  refine gp zmv ?_
  refine gp zln ?_
  refine gp zmv ?_
  refine gnt ?_
  refine gc_block ?_
  refine gc_loop (α := Nat) (fun k => [pureR (k ≤ n ∧ ∀ i, i < k → l[i]? ≠ some d), blk b3 26 (dc d)]) (fun k => [(9, .int .i64 (k : Int))]) [4, 6, 10, 11, 12, 13, 14, 15, 16] (fun k => n - k) 0 ?_ ?_ ?_
  · refine env_start (by kernel_rfl)
  · exact zlp ⟨Nat.zero_le _, fun i hi => absurd hi (Nat.not_lt_zero _)⟩
  · intro k u
    refine gc_pureR (fun hk => ?_)
    replace hk : k ≤ n ∧ ∀ i, i < k → l[i]? ≠ some d := hk
    refine gsr ?_
    refine gp zlt ?_
    refine gnt ?_
    refine gc_seq ?_
    refine gif rfl (fun hc10 => ?_) (fun hc10 => ?_)
    · try simp only at hc10
      have hk' : k < n := by omega
      obtain ⟨g1, o1, ce1, d1, ha1, hA1, _, hra1, hl1, hdx, rfl⟩ := hx.elem (i := k) (by decide) hk'
      subst ha1
      refine gc_skip ?_
      refine gx_then ?_
      refine gc_seq ?_
      refine gc_block ?_
      refine gsr ?_
      refine gp (r_val (v' := .pointer (some ⟨g1, o1 + k * 16, none⟩)) zia (by simp)) ?_
      refine gp (r_ldNo (seg := dc d1) rfl Ty.row_26 Ty.sz_26 hra1 (dc_length _) (by decide) hA1) ?_
      refine zal fun b6 => ?_
      refine zsN ?_
      refine gnt ?_
      refine gsr ?_
      refine gp zL ?_
      refine gp zL ?_
      refine gp zed ?_
      refine gnt ?_
      refine gif rfl (fun hc15 => ?_) (fun hc15 => ?_)
      · try simp only at hc15
        have heq : d1 = d := by simpa using hc15
        subst heq
        have hin : d1 ∈ l := List.mem_of_getElem? hdx
        refine gsr ?_
        refine gp zas ?_
        refine gnt ?_
        refine gc_ret ?_
        refine gx_block_ret ?_
        refine gx_then_ret ?_
        refine gx_round_ret ?_
        refine gx_block_ret ?_
        refine gx_then_ret ?_
        refine gx_ret1 rfl (by conv => lhs; whnf) ?_
        exact fun w' hw => ⟨(), by rw [decide_eq_true hin], hw.sel (by repeat (first | exact Sel.nil | (apply Sel.cons; · (repeat (first | exact Pick.here | apply Pick.there)))))⟩
      · try simp only at hc15
        have hne : ¬ d1 = d := by simpa using hc15
        refine gc_skip ?_
        refine gx_block_normal ?_
        refine gx_then ?_
        refine gc_region ?_
        refine gp zad ?_
        refine gp zmv ?_
        refine gl_nil ?_
        refine zrd (k + 1) ?_ ?_
        · show n - (k + 1) < n - k
          omega
        · exact zlp (show k + 1 ≤ n ∧ ∀ i, i < k + 1 → l[i]? ≠ some d from ⟨by omega, fun i hi => (by by_cases h' : i < k; exact hk.2 i h'; (obtain rfl : i = k := by omega); rw [hdx]; intro e; cases e; exact hne rfl)⟩)
    · try simp only at hc10
      have hk' : k = n := by omega
      have hni : ¬ d ∈ l := fun hm => by obtain ⟨i, hi, he⟩ := List.mem_iff_getElem.1 hm; exact hk.2 i (by omega) (by rw [List.getElem?_eq_getElem hi, he])
      refine gc_exit ?_
      refine gx_then_exit ?_
      refine gx_round_exit ?_
      refine gx_block_hit ?_
      refine gx_then ?_
      refine gsr ?_
      refine gp zas ?_
      refine gnt ?_
      refine gc_ret ?_
      refine gx_ret1 rfl (by conv => lhs; whnf) ?_
      exact fun w' hw => ⟨(), by rw [decide_eq_false hni], hw.sel (by repeat (first | exact Sel.nil | (apply Sel.cons; · (repeat (first | exact Pick.here | apply Pick.there)))))⟩

end Go.Proofs.YtheonhgffglegaaDoor

/- Walks, by program (wg.py) out of a spec. -/
namespace Go.Proofs.YtheonhgffglegaaDoor
open Go
set_option linter.unusedVariables false
set_option linter.unusedSimpArgs false


theorem belowB_f {t : Tr} {d e : Dig} (h : ∀ j x, j < (upL t d).length → (upL t d)[j]? = some x → x.1 ≠ e) : belowB t d e = false := by
  unfold belowB
  apply decide_eq_false
  rintro ⟨h1, _⟩
  obtain ⟨x, hx, he⟩ := List.mem_map.1 h1
  obtain ⟨j, hj, hj2⟩ := List.mem_iff_getElem.1 hx
  exact h j x hj (by rw [List.getElem?_eq_getElem hj, hj2]) he
theorem belowB_t {t : Tr} {d e : Dig} {x : Dig × Block} {i : Nat} (h : (upL t d)[i]? = some x) (he : x.1 = e) : belowB t d e = !decide (d = e) := by
  have : e ∈ (upL t d).map (fun p => p.1) := List.mem_map.2 ⟨x, List.mem_of_getElem? h, he⟩
  unfold belowB
  by_cases hd : d = e
  · rw [decide_eq_false (fun hh => hh.2 hd), decide_eq_true hd]; rfl
  · rw [decide_eq_true ⟨this, hd⟩, decide_eq_false hd]; rfl
theorem notE_next {t : Tr} {d e : Dig} {i : Nat} {x : Dig × Block} (h : ∀ j x, j < i → (upL t d)[j]? = some x → x.1 ≠ e) (hx : (upL t d)[i]? = some x) (hn : ¬ x.1 = e) : ∀ j x, j < i + 1 → (upL t d)[j]? = some x → x.1 ≠ e := fun j y hj hy => by
  by_cases h' : j < i
  · exact h j y h' hy
  · obtain rfl : j = i := by omega
    rw [hx] at hy; cases hy; exact hn
/-- The k first of a row that pass. -/
def bwK (t : Tr) (d : Dig) (k : Nat) : Nat := (((keysT t).take k).filter fun i => belowB t i d).length
theorem bwK_all (t : Tr) (d : Dig) : bwK t d t.nodes.length = (belowL t d).length := by unfold bwK belowL; rw [List.take_of_length_le (by simp [keysT])]
theorem bwK_next {t : Tr} {d e : Dig} {k : Nat} (h : (keysT t)[k]? = some e) : bwK t d (k + 1) = if belowB t e d = true then bwK t d k + 1 else bwK t d k := by
  unfold bwK; rw [takeB_snoc h, List.filter_append, List.length_append]
  by_cases hb : belowB t e d = true <;> simp [hb]
theorem bwK_at {t : Tr} {d e : Dig} {k : Nat} (h : (keysT t)[k]? = some e) (hb : belowB t e d = true) : (belowL t d)[bwK t d k]? = some e := by
  have hk : k < (keysT t).length := (List.getElem?_eq_some_iff.1 h).1
  have e1 : belowL t d = ((keysT t).take k).filter (fun i => belowB t i d) ++ ((keysT t).drop k).filter (fun i => belowB t i d) := by
    unfold belowL; rw [← List.filter_append, List.take_append_drop]
  have e2 : (keysT t).drop k = e :: (keysT t).drop (k + 1) := by
    rw [List.drop_eq_getElem_cons hk]; congr 1; exact (List.getElem?_eq_some_iff.1 h).2
  rw [e1, e2, List.filter_cons, if_pos hb]
  unfold bwK
  rw [List.getElem?_append_right (Nat.le_refl _), Nat.sub_self]; rfl
def bwE (i : Nat) (x : Dig) : Array Value := #[.agg (dc x).toArray]
def bwG (t : Tr) (d : Dig) (i : Nat) (x : Dig) : List Res := [pureR ((belowL t d)[i]? = some x)]

attribute [local irreducible] Gl Gc Gx Gs Runs Wt

attribute [local irreducible] dc qcC blkC idOf TreeR belowB

set_option maxHeartbeats 400000 in
theorem tbelow_ok {w : World} {F : Nat → Prop} {q : Nat} {t : Tr} (hx : RdTree w (fun k => ¬ F k) q t) (hok : TOk t) {d e : Dig} (h : stars [] w F) :
    Calls Tryd.prog 45 #[.pointer (some ⟨q, 0, none⟩), .agg (dc d).toArray, .agg (dc e).toArray] w (Post w F (fun _ : Unit => .bool (belowB t d e)) (fun _ => [])) := by
  refine g_enterM (env := [(0, .pointer (some ⟨q, 0, none⟩)), (1, .agg (dc d).toArray), (2, .agg (dc e).toArray)]) Tryd.func45 rfl h Tryd.ntmps45 rfl rfl ?_
  refine gsr ?_
  refine zbN fun b4 => ?_
  refine zbN fun b5 => ?_
  refine zal fun b6 => ?_
  refine gnt ?_
  refine gc_seq ?_
  refine gsr ?_
  refine gp zmv ?_
  refine gp zL ?_
  refine zc ?_ (c := fun w1 F1 F2 h1 h2 hd hst => tup_ok (d := d) h1)
  rintro ⟨bx, by_⟩
  refine gnt ?_
  refine gc_block ?_
  refine gc_pI (p := ∀ j x, j < 0 → (upL t d)[j]? = some x → x.1 ≠ e) (fun j _ hj => absurd hj (Nat.not_lt_zero j)) ?_
  refine gc_range (own := [blk bx 24 [.pointer (some ⟨q, 0, none⟩)], blk by_ 26 (dc d)]) (fun i => [pureR (∀ j x, j < i → (upL t d)[j]? = some x → x.1 ≠ e), blk b4 26 (dc d), blk b5 26 (dc e), blk b6 4 [.bool false]]) (fun i cd => [pureR (cd = Code.ret), blk b6 4 [.bool (belowB t d e)]]) (by exact rfl) Ty.call_40 (by repeat (first | exact Sel.nil | (apply Sel.cons; · (repeat (first | exact Pick.here | apply Pick.there))))) (by intros; rfl) (fun lp J Jx w1 F1 F2 h1 h2 hd hst => up1_it (hx.mv hst.still) hok h1) ?_ ?_ ?_
  · intro lp rc rc' i y w1 F1 F2 h1 h2 hd hst
    try dsimp only [List.cons_append, List.nil_append, zipE]
    obtain ⟨f, cq⟩ := y
    refine gc_pure1 (p := upP t d i (f, cq)) (by repeat (first | exact Pick.here | apply Pick.there)) (fun hi => ?_)
    obtain ⟨_, pb, hget, _⟩ := hi
    refine gc_pure1 (p := ∀ j x, j < i → (upL t d)[j]? = some x → x.1 ≠ e) (by repeat (first | exact Pick.here | apply Pick.there)) (fun hI => ?_)
    refine gc_region ?_
    refine zal fun b7 => ?_
    refine zsN ?_
    refine gl_nil ?_
    refine gx_lp (by repeat (first | exact Pick.here | apply Pick.there)) ?_
    refine gx_begin ?_
    refine gc_block ?_
    refine gsr ?_
    refine gp zL ?_
    refine gp zL ?_
    refine gp zed ?_
    refine gnt ?_
    refine gif rfl (fun hc15 => ?_) (fun hc15 => ?_)
    · try simp only at hc15
      have hfe : f = e := by simpa using hc15
      have hbt := belowB_t hget hfe
      refine gsr ?_
      refine gp zL ?_
      refine gp zL ?_
      refine gp (r_bool (c := belowB t d e) znd (by rw [hbt])) ?_
      refine zs1 ?_
      refine gnt ?_
      refine gc_ret ?_
      refine gx_block_ret ?_
      refine gx_rdr ?_
      exact fun w' hw => (St.pureI (p := Code.ret = Code.ret) rfl (hw.sel (M := [blk b6 4 [.bool (belowB t d e)], lpR lp rc']) (by repeat (first | exact Sel.nil | (apply Sel.cons; · (repeat (first | exact Pick.here | apply Pick.there))))))).sel (by repeat (first | exact Sel.nil | (apply Sel.cons; · (repeat (first | exact Pick.here | apply Pick.there)))))
    · try simp only at hc15
      have hne : ¬ f = e := by simpa using hc15
      refine gc_skip ?_
      refine gx_block_normal ?_
      refine gx_rdn ?_
      exact fun w' hw => (St.pureI (p := ∀ j x, j < i + 1 → (upL t d)[j]? = some x → x.1 ≠ e) (notE_next hI hget hne) (hw.sel (M := [lpR lp rc', blk b4 26 (dc d), blk b5 26 (dc e), blk b6 4 [.bool false]]) (by repeat (first | exact Sel.nil | (apply Sel.cons; · (repeat (first | exact Pick.here | apply Pick.there))))))).sel (by repeat (first | exact Sel.nil | (apply Sel.cons; · (repeat (first | exact Pick.here | apply Pick.there)))))
  · intro bU2 y m hy
    try dsimp only [List.cons_append, List.nil_append]
    obtain ⟨yb, yd⟩ := y
    obtain rfl : m = (upL t d).length := by cases yb <;> simp_all [allOr]
    refine gx_pure1 (p := ∀ j x, j < (upL t d).length → (upL t d)[j]? = some x → x.1 ≠ e) (by repeat (first | exact Pick.here | apply Pick.there)) (fun hI => ?_)
    have hbf := belowB_f hI
    refine gx_block_normal ?_
    refine gx_thenM ?_
    refine gsr ?_
    refine zs1 ?_
    refine gnt ?_
    refine gc_ret ?_
    refine gx_mark (by repeat (first | exact Pick.here | apply Pick.there)) ?_
    refine gx_mark0 ?_
    refine gx_retc rfl rfl (ld_oneS Ty.row_4 (by repeat (first | exact Pick.here | apply Pick.there)) (by first | rfl | (simp only [List.getElem?_cons_succ, List.getElem?_cons_zero, List.cons_append, List.append_assoc, get_dc, get_L, Nat.reduceLeDiff, Nat.reduceSub, Nat.reduceAdd, Nat.le_refl]; rfl))) ?_
    exact fun w' hw => ⟨(), by rw [hbf], hw.sel (by repeat (first | exact Sel.nil | (apply Sel.cons; · (repeat (first | exact Pick.here | apply Pick.there)))))⟩
  · intro bU2 y i cd hy
    try dsimp only [List.cons_append, List.nil_append]
    refine gc_pure1 (p := cd = Code.ret) (by repeat (first | exact Pick.here | apply Pick.there)) (fun hX => ?_)
    obtain rfl := hX
    refine gc_ret ?_
    refine gx_block_ret ?_
    refine gx_then_ret ?_
    refine gx_mark (by repeat (first | exact Pick.here | apply Pick.there)) ?_
    refine gx_mark0 ?_
    refine gx_retc rfl rfl (ld_oneS Ty.row_4 (by repeat (first | exact Pick.here | apply Pick.there)) (by first | rfl | (simp only [List.getElem?_cons_succ, List.getElem?_cons_zero, List.cons_append, List.append_assoc, get_dc, get_L, Nat.reduceLeDiff, Nat.reduceSub, Nat.reduceAdd, Nat.le_refl]; rfl))) ?_
    exact ze ()

set_option maxHeartbeats 400000 in
theorem tBelow_ok {w : World} {F : Nat → Prop} {q : Nat} {d : Dig} (h : stars [] w F) :
    Calls Tryd.prog 25 #[.pointer (some ⟨q, 0, none⟩), .agg (dc d).toArray] w (Post w F (fun b : Nat × Nat => .func (.func 44) #[] #[.pointer (some ⟨b.1, 0, none⟩), .pointer (some ⟨b.2, 0, none⟩)]) (fun b => [blk b.1 24 [.pointer (some ⟨q, 0, none⟩)], blk b.2 26 (dc d)])) := by
  refine g_enter (env := [(0, .pointer (some ⟨q, 0, none⟩)), (1, .agg (dc d).toArray)]) Tryd.func25 rfl h Tryd.ntmps25 rfl rfl ?_
  refine gsr ?_
  refine zb1 fun b2 => ?_
  refine zbN fun b3 => ?_
  refine gp zas ?_
  refine gnt ?_
  refine gsr ?_
  refine gp zmf ?_
  refine gp zas ?_
  refine gnt ?_
  refine gc_ret ?_
  refine gx_ret1 rfl (by conv => lhs; whnf) ?_
  exact ze (b2, b3)

set_option maxHeartbeats 400000 in
theorem below1_ok {w : World} {F : Nat → Prop} {q : Nat} {t : Tr} (hx : RdTree w (fun k => ¬ F k) q t) (hok : TOk t) {d : Dig} {b1 b2 lp : Nat} {J : Nat → Res} {Jx : Res} (h : stars [blk b1 24 [.pointer (some ⟨q, 0, none⟩)], blk b2 26 (dc d), J 0] w F) (hy : RoundsAt Tryd.prog lp bwE (bwG t d) J Jx w F) :
    Calls Tryd.prog 44 #[.func (.yield lp) #[] #[], .pointer (some ⟨b1, 0, none⟩), .pointer (some ⟨b2, 0, none⟩)] w (Post w F (fun _ : Bool => .tuple #[]) (fun y => (match allOr (belowL t d).length y with | some m => J m | none => Jx) :: [blk b1 24 [.pointer (some ⟨q, 0, none⟩)], blk b2 26 (dc d)])) := by
  have hx' := hx
  obtain ⟨g, ao, co, ac, cc, css, hT⟩ := hx
  obtain ⟨hqA, hrt, h16, h17, h18⟩ := hT.cells
  have hle := hok.le
  have hcl := hok.cl
  have hce := hok.ce
  have hd16 : ∀ c ∈ (keysT t).map dc, List.length c = 16 := fun c hc => by obtain ⟨x, _, rfl⟩ := List.mem_map.1 hc; exact dc_length x
  have hkl : (keysT t).length = t.nodes.length := by simp [keysT]
  refine g_enter (env := [(0, .func (.yield lp) #[] #[]), (1, .pointer (some ⟨b1, 0, none⟩)), (2, .pointer (some ⟨b2, 0, none⟩))]) Tryd.func44 rfl h Tryd.ntmps44 rfl rfl ?_
  refine gsr ?_
  refine gp zl ?_
  refine gp znc ?_
  refine gp zfa ?_
  refine gp (r_ld1o rfl Ty.row_36 h17 hqA) ?_
  refine zc ?_ (c := fun w1 F1 F2 h1 h2 hd hst => cloneD_ok (xs := ((keysT t).map dc).flatten) h1 ((RdList.row (f := dc) hT.ord).mv hst.still) (flat_one dc_one _) (by omega))
  rintro ⟨a10, c10⟩
  refine gp zln ?_
  refine gp zmv ?_
  refine gnt ?_
  refine gc_block ?_
  refine gc_loop (α := Nat) (fun k => [pureR (k ≤ t.nodes.length), blk b1 24 [.pointer (some ⟨q, 0, none⟩)], blk b2 26 (dc d), rowR 26 16 a10 t.nodes.length c10 ((keysT t).map dc).flatten, J (bwK t d k)]) (fun k => [(12, .int .i64 (k : Int))]) [5, 13, 14, 15, 16, 17, 18, 19, 20, 21, 22, 23, 24, 25, 26] (fun k => t.nodes.length - k) 0 ?_ ?_ ?_
  · refine env_start (by kernel_rfl)
  · exact zlp (Nat.zero_le _)
  · intro k u
    refine gc_pureR (fun hk => ?_)
    replace hk : k ≤ t.nodes.length := hk
    refine gsr ?_
    refine gp zlt ?_
    refine gnt ?_
    refine gc_seq ?_
    refine gif rfl (fun hc13 => ?_) (fun hc13 => ?_)
    · try simp only at hc13
      have hk' : k < t.nodes.length := by omega
      obtain ⟨e, hke⟩ : ∃ e, (keysT t)[k]? = some e := ⟨(keysT t)[k]'(by omega), List.getElem?_eq_getElem (by omega)⟩
      have hkc : ((keysT t).map dc)[k]? = some (dc e) := by rw [List.getElem?_map, hke]; rfl
      have hbn0 := bwK_next (d := d) hke
      refine gc_fact (fun w' hw => St.rowAt (hw.sel (M := [rowR 26 16 a10 t.nodes.length c10 ((keysT t).map dc).flatten]) (by repeat (first | exact Sel.nil | (apply Sel.cons; · (repeat (first | exact Pick.here | apply Pick.there)))))) .here (by omega)) (fun hra => ?_)
      obtain ⟨_, ga, oa, ha⟩ := hra
      subst ha
      refine gc_skip ?_
      refine gx_then ?_
      refine gc_seq ?_
      refine gc_block ?_
      refine gsr ?_
      refine gp (r_val (v' := .pointer (some ⟨ga, oa + k * 16, none⟩)) zia (by simp)) ?_
      refine gp (r_ldRow (i := k) rfl Ty.row_26 Ty.sz_26 (by repeat (first | exact Pick.here | apply Pick.there)) hd16 hkc hk') ?_
      refine zal fun b5 => ?_
      refine zsA (dc_length _) (dc_one _) ?_
      refine gnt ?_
      refine gc_seq ?_
      by_cases hS : belowB t e d = true
      · have hbn := hbn0.trans (if_pos hS)
        refine gc_region ?_
        refine gp zl ?_
        refine gp zL ?_
        refine gp zL ?_
        refine zc (fun _ => ?_) (c := fun w1 F1 F2 h1 h2 hd hst => tbelow_ok (d := e) (e := d) (hx'.mv hst.still) hok h1)
        refine gp (r_bool (c := true) zmv hS) ?_
        refine gq zmv ?_
        refine gq zL ?_
        refine gl_pI (p := (belowL t d)[bwK t d k]? = some e) (bwK_at hke hS) ?_
        refine gyd hy (bwK t d k) e rfl (by repeat (first | exact Sel.nil | (apply Sel.cons; · (repeat (first | exact Pick.here | apply Pick.there))))) (fun x23 => ?_) (hw := wtgT rfl rfl rfl rfl)
        rcases x23 with _ | _
        · refine gq znt ?_
          refine gp zpk ?_
          refine gnt ?_
          refine gc_condT rfl rfl ?_
          refine gc_ret ?_
          refine gx_block_ret ?_
          refine gx_then_ret ?_
          refine gx_round_ret ?_
          refine gx_block_ret ?_
          refine gx_ret0 rfl ?_
          exact ze false
        · refine gq znt ?_
          refine gp zpk ?_
          refine gnt ?_
          refine gc_condF rfl rfl ?_
          refine gc_skip ?_
          refine gx_block_normal ?_
          refine gx_then ?_
          refine gc_region ?_
          refine gp zad ?_
          refine gp zmv ?_
          refine gl_nil ?_
          refine zrd (k + 1) ?_ ?_
          · show t.nodes.length - (k + 1) < t.nodes.length - k
            omega
          · rw [show bwK t d (k + 1) = _ from hbn]
            exact zlp (show k + 1 ≤ t.nodes.length by omega)
      · have hbn := hbn0.trans (if_neg hS)
        refine gc_region ?_
        refine gp zl ?_
        refine gp zL ?_
        refine gp zL ?_
        refine zc (fun _ => ?_) (c := fun w1 F1 F2 h1 h2 hd hst => tbelow_ok (d := e) (e := d) (hx'.mv hst.still) hok h1)
        refine gp (r_bool (c := false) zmv (by simpa using hS)) ?_
        refine gn ?_
        refine gn ?_
        refine gn ?_
        refine gn ?_
        refine gp zpk ?_
        refine gnt ?_
        refine gc_condF rfl rfl ?_
        refine gc_skip ?_
        refine gx_block_normal ?_
        refine gx_then ?_
        refine gc_region ?_
        refine gp zad ?_
        refine gp zmv ?_
        refine gl_nil ?_
        refine zrd (k + 1) ?_ ?_
        · show t.nodes.length - (k + 1) < t.nodes.length - k
          omega
        · rw [show bwK t d (k + 1) = _ from hbn]
          exact zlp (show k + 1 ≤ t.nodes.length by omega)
    · try simp only at hc13
      have hk' : k = t.nodes.length := by omega
      subst hk'
      refine gc_exit ?_
      refine gx_then_exit ?_
      refine gx_round_exit ?_
      refine gx_block_hit ?_
      refine gx_ret0' rfl ?_
      rw [bwK_all]
      exact ze true


theorem below1_it {w : World} {F : Nat → Prop} {q : Nat} {t : Tr} (hx : RdTree w (fun k => ¬ F k) q t) (hok : TOk t) {d : Dig} {b1 b2 lp : Nat} {J : Nat → Res} {Jx : Res} (h : stars [blk b1 24 [.pointer (some ⟨q, 0, none⟩)], blk b2 26 (dc d), J 0] w F) :
    IterAt Tryd.prog 44 #[.pointer (some ⟨b1, 0, none⟩), .pointer (some ⟨b2, 0, none⟩)] bwE (bwG t d) (allOr (belowL t d).length) (fun _ => [blk b1 24 [.pointer (some ⟨q, 0, none⟩)], blk b2 26 (dc d)]) (fun _ : Bool => .tuple #[]) lp J Jx w F := fun hy => by
  have h2 := below1_ok hx hok h hy
  exact h2

end Go.Proofs.YtheonhgffglegaaDoor

/- Walks, by program (wg.py) out of a spec. -/
namespace Go.Proofs.YtheonhgffglegaaDoor
open Go
set_option linter.unusedVariables false
set_option linter.unusedSimpArgs false


section
variable {P : Program} {w0 : World} {F0 : Nat → Prop} {L L' : List Res} {Q : Exit → Act → World → Prop} {n : Fm} {env : Env} {ops : Array Oper} {rest : List Oper} {d : Option Tmp} {ty : TypeId} {pos : String} {af : Array Edge} {gd : Option (Nat × Bool)}
theorem rowLen {A B : List (List Value)} {size m : Nat} (hs : 0 < size) (hc : ∀ c ∈ A ++ B, c.length = size) (h : (A ++ B).flatten.length = m * size) : A.length + B.length = m ∧ A.flatten.length = A.length * size ∧ B.flatten.length = B.length * size := by
  have h1 := flatten_len (size := size) hc
  rw [h1, List.length_append] at h
  exact ⟨Nat.eq_of_mul_eq_mul_right hs h, flatten_len fun c hA => hc c (List.mem_append_left _ hA), flatten_len fun c hB => hc c (List.mem_append_right _ hB)⟩
theorem row_shrink {e size m c : Nat} {a : Option Addr} {A B : List (List Value)} {w : World} {F : Nat → Prop} (hs : 0 < size) (hc : ∀ c ∈ A ++ B, c.length = size) (h : (rowR e size a m c (A ++ B).flatten).on w F) : (rowR e size a A.length c A.flatten).on w F := by
  obtain ⟨h1, h2, h3, h⟩ := h
  obtain ⟨e1, e2, e3⟩ := rowLen hs hc h1
  refine ⟨e2, by omega, h3, h.imp id fun ⟨g, o, cs, fz, ha, hF, hg, hz, hl, hx⟩ => ⟨g, o, cs, fz, ha, hF, hg, hz, hl, ?_⟩⟩
  have hm : A.length * size ≤ m * size := Nat.mul_le_mul_right size (by omega)
  have : ((cs.toList.drop o).take (m * size)).take (A.length * size) = A.flatten := by rw [hx, List.flatten_append, ← e2, List.take_left]
  rw [List.take_take, Nat.min_eq_left hm] at this
  exact this
theorem gl_clearRow {x : Operand} {T e' g o o2 e size m c mb cb : Nat} {zs : List Value} {A B : List (List Value)} (hw : Wt ops n env ⟨d, .call ⟨.builtin .clear, #[x], #[T]⟩, ty, pos, af, gd⟩ true) (hx : ev n env x = .slice (some ⟨g, o2, none⟩) mb cb) (ho : o2 = o + A.length * size) (hmb : mb = B.length)
    (ht : sliceT P T = some e') (hz : zcT P e' = some zs) (hs : 0 < size) (hzl : zs.length = size) (hz1 : ∀ v ∈ zs, v.oneCell' = true) (hc : ∀ c ∈ A ++ B, c.length = size) (hp : Pick L (rowR e size (some ⟨g, o, none⟩) m c (A ++ B).flatten) L')
    (k : Gl P w0 F0 (rowR e size (some ⟨g, o, none⟩) A.length c A.flatten :: L') ops Q rest n (pu d (.tuple #[]) env)) : Gl P w0 F0 L ops Q (⟨d, .call ⟨.builtin .clear, #[x], #[T]⟩, ty, pos, af, gd⟩ :: rest) n env := by
  subst hmb; subst ho
  by_cases hB : B = []
  · subst hB
    refine gl_eff hw (fun w hst => ⟨w, ?_, (hst.pick hp).mapL0 fun F hF => ?_⟩) k
    · simp only [execOp, resolve, invoke, builtin, Builtin.clear_, hx]
      simp [run_underlying (run_sliceT ht), Builtin.clear_, hx]
    · obtain ⟨F1, F2, h1, h2, h3, h4⟩ := hF
      exact ⟨F1, F2, row_shrink hs hc h1, h2, h3, h4⟩
  · have hBl : 0 < B.length := List.length_pos_iff.2 hB
    obtain ⟨z, hz0, hzc⟩ := zcT_some hz
    have hzs : z.cells.size = size := by rw [← Array.length_toList, hzc]; exact hzl
    have hZl : (Builtin.zeroCells z.cells B.length).toList.length = B.length * size := by simp [Builtin.zeroCells, hzs]
    have hZ1 : ∀ v ∈ (Builtin.zeroCells z.cells B.length).toList, v.oneCell' = true := fun v hv => by
      simp only [Builtin.zeroCells, Array.toList_map, List.mem_map] at hv
      obtain ⟨i, _, rfl⟩ := hv
      have hlt : i % z.cells.size < z.cells.size := Nat.mod_lt _ (by omega)
      rw [getElem!_pos z.cells _ hlt]
      exact hz1 _ (by rw [← hzc]; exact Array.getElem_mem_toList hlt)
    refine gl_eff hw (fun w hst => ?_) k
    obtain ⟨F, hF, hstp⟩ := hst
    obtain ⟨F1, ⟨hl1, hmc, hcm, hor⟩, _⟩ := stars_pick hp hF
    rcases hor with ⟨h, _⟩ | ⟨g', o', cs, fz, ha, hFg, hg, hzf, hcs, hxs⟩
    · cases h
    cases ha
    obtain ⟨e1, e2, e3⟩ := rowLen hs hc hl1
    have hms : m * size ≤ c * size := Nat.mul_le_mul_right size hmc
    have hm2 : m * size = A.length * size + B.length * size := by rw [← e1, Nat.add_mul]
    have hrun := run_storeCells_blk (P := P) (T := e) (fz := fz) g (o + A.length * size) (Builtin.zeroCells z.cells B.length).toList 0 cs.toList w (by simpa using hg) (by simpa using hzf) (by simp only [hZl, Array.length_toList]; omega) hZ1
    rw [Nat.add_zero] at hrun
    have hxs2 : (cs.toList.drop o).take (A.length * size) = A.flatten := by
      have : ((cs.toList.drop o).take (m * size)).take (A.length * size) = A.flatten := by rw [hxs, List.flatten_append, ← e2, List.take_left]
      rw [List.take_take, Nat.min_eq_left (by omega)] at this
      exact this
    have hsz : (updL cs.toList (o + A.length * size) (Builtin.zeroCells z.cells B.length).toList).length = cs.size := by rw [updL_length (by simp only [hZl, Array.length_toList]; omega)]; simp
    refine ⟨_, ?_, St.setR (g := g) (o' := .cells (updL cs.toList (o + A.length * size) (Builtin.zeroCells z.cells B.length).toList).toArray e fz) (r' := rowR e size (some ⟨g, o, none⟩) A.length c A.flatten) ⟨F, hF, hstp⟩ hp (fun F2 h2 => ?_) (fun w' F2 h2 hg' hk' => ?_)⟩
    · simp only [execOp, resolve, invoke, builtin, Builtin.clear_, hx]
      have hB0 : B.length ≠ 0 := by omega
      simp [run_underlying (run_sliceT ht), Builtin.clear_, hx, run_zeroT hz0, hrun, hB0]
    · obtain ⟨_, _, _, h2⟩ := h2
      rcases h2 with ⟨h, _⟩ | ⟨g', o', _, _, ha, hF2, _⟩
      · cases h
      · cases ha; exact ⟨(hF2 g).2 rfl, (Array.getElem?_eq_some_iff.1 hg).1⟩
    · obtain ⟨_, _, _, h2⟩ := h2
      rcases h2 with ⟨h, _⟩ | ⟨g', o', _, _, ha, hF2, _⟩
      · cases h
      · cases ha
        refine ⟨e2, by omega, hcm, .inr ⟨g, o, _, fz, rfl, hF2, hg', ?_, ?_, ?_⟩⟩
        · simpa [hsz] using hzf
        · simpa [hsz] using hcs
        · simp only [updL]
          rw [List.drop_append_of_le_length (by rw [List.length_take]; simp only [Array.length_toList]; omega), List.take_append_of_le_length (by rw [List.length_drop, List.length_take]; simp only [Array.length_toList]; omega), List.drop_take, Nat.add_sub_cancel_left, List.take_take, Nat.min_self, hxs2]
end


def mkS (l : List Dig) : List (Dig × Value) := l.map fun d => (d, .bool true)
theorem mkS_at (d : Dig) : ∀ (l : List Dig) (i : Nat), ((atK d (mkS l) i).map (fun x => x.2)).getD (.bool false) = .bool (decide (d ∈ l))
  | [], i => by simp [mkS, atK]
  | e :: l, i => by
    have ih := mkS_at d l (i + 1)
    by_cases h : d = e
    · subst h; simp [mkS, atK]
    · simp only [mkS, List.map_cons, atK]
      rw [if_neg (fun hh => h (by first | exact hh | exact hh.symm))]
      simp only [mkS] at ih
      rw [ih]; simp [h]
theorem mkS_get (d : Dig) (l : List Dig) : (getK d (mkS l)).getD (.bool false) = .bool (decide (d ∈ l)) := mkS_at d l 0
abbrev Cel := List Value × Dig
def kpL (l : List Dig) (zs : List Cel) : List Cel := zs.filter fun p => decide (p.2 ∈ l)
/-- The row while it is gone through: what is kept of the first j, behind it what stood there. -/
def rwL (l : List Dig) (zs : List Cel) (j : Nat) : List Cel := kpL l (zs.take j) ++ zs.drop (kpL l (zs.take j)).length
theorem kp_le (l : List Dig) (zs : List Cel) (j : Nat) : (kpL l (zs.take j)).length ≤ j := Nat.le_trans (List.length_filter_le _ _) (by rw [List.length_take]; omega)
theorem rw_at {l : List Dig} {zs : List Cel} {j : Nat} {p : Cel} (h : zs[j]? = some p) : (rwL l zs j)[j]? = some p := by
  unfold rwL
  have hl := kp_le l zs j
  rw [List.getElem?_append_right hl, List.getElem?_drop, show (kpL l (zs.take j)).length + (j - (kpL l (zs.take j)).length) = j by omega]; exact h
theorem kp_yes {l : List Dig} {zs : List Cel} {j : Nat} {p : Cel} (h : zs[j]? = some p) (hp : p.2 ∈ l) : kpL l (zs.take (j + 1)) = kpL l (zs.take j) ++ [p] := by
  unfold kpL; rw [takeB_snoc h, List.filter_append]; simp [hp]
theorem kp_no {l : List Dig} {zs : List Cel} {j : Nat} {p : Cel} (h : zs[j]? = some p) (hp : ¬ p.2 ∈ l) : kpL l (zs.take (j + 1)) = kpL l (zs.take j) := by
  unfold kpL; rw [takeB_snoc h, List.filter_append]; simp [hp]
theorem rw_no {l : List Dig} {zs : List Cel} {j : Nat} {p : Cel} (h : zs[j]? = some p) (hp : ¬ p.2 ∈ l) : rwL l zs (j + 1) = rwL l zs j := by unfold rwL; rw [kp_no h hp]
theorem rw_yes {l : List Dig} {zs : List Cel} {j : Nat} {p : Cel} (h : zs[j]? = some p) (hp : p.2 ∈ l) : rwL l zs (j + 1) = (rwL l zs j).set (kpL l (zs.take j)).length p := by
  have hl := kp_le l zs j
  have hj : j < zs.length := (List.getElem?_eq_some_iff.1 h).1
  unfold rwL
  rw [kp_yes h hp, List.length_append, List.set_append, if_neg (Nat.lt_irrefl _), Nat.sub_self, List.drop_eq_getElem_cons (show (kpL l (zs.take j)).length < zs.length by omega), List.set_cons_zero]
  simp
theorem rw_len (l : List Dig) (zs : List Cel) {j : Nat} (h : j ≤ zs.length) : (rwL l zs j).length = zs.length := by
  have hl := kp_le l zs j
  unfold rwL; rw [List.length_append, List.length_drop]; omega
theorem rw_all (l : List Dig) (zs : List Cel) : rwL l zs zs.length = kpL l zs ++ zs.drop (kpL l zs).length := by unfold rwL; rw [List.take_length]
theorem rw_mem {l : List Dig} {zs : List Cel} {j : Nat} {p : Cel} (h : p ∈ rwL l zs j) : p ∈ zs := by
  unfold rwL at h
  rcases List.mem_append.1 h with h | h
  · exact List.mem_of_mem_take (List.mem_filter.1 h).1
  · exact List.mem_of_mem_drop h
/-- All stay up to the first that doesn't. -/
theorem kp_first {l : List Dig} {zs : List Cel} {i : Nat} {p : Cel} (h : zs[i]? = some p) (hp : ¬ p.2 ∈ l) (ha : ∀ j e, j < i → zs[j]? = some e → e.2 ∈ l) : (kpL l (zs.take (i + 1))).length = i ∧ rwL l zs (i + 1) = zs := by
  have hi : i < zs.length := (List.getElem?_eq_some_iff.1 h).1
  have e1 : kpL l (zs.take i) = zs.take i := by
    unfold kpL
    refine List.filter_eq_self.2 fun e he => ?_
    obtain ⟨j, hj, hje⟩ := List.mem_iff_getElem.1 he
    rw [List.length_take] at hj
    exact decide_eq_true (ha j e (by omega) (by rw [← hje, List.getElem_take]; exact List.getElem?_eq_getElem (by omega)))
  have e2 : (kpL l (zs.take (i + 1))).length = i := by rw [kp_no h hp, e1, List.length_take]; omega
  refine ⟨e2, ?_⟩
  unfold rwL
  rw [e2, kp_no h hp, e1, List.take_append_drop]
theorem kp_lt {l : List Dig} {zs : List Cel} {i : Nat} {p : Cel} (h : zs[i]? = some p) (hp : ¬ p.2 ∈ l) : (kpL l zs).length < zs.length := by
  unfold kpL
  exact List.length_filter_lt_length_iff_exists.2 ⟨p, List.mem_of_getElem? h, by simp [hp]⟩
theorem kp_full {l : List Dig} {zs : List Cel} (h : ∀ j e, j < zs.length → zs[j]? = some e → e.2 ∈ l) : kpL l zs = zs := by
  unfold kpL
  refine List.filter_eq_self.2 fun e he => ?_
  obtain ⟨j, hj, hje⟩ := List.mem_iff_getElem.1 he
  exact decide_eq_true (h j e hj (by rw [← hje]; exact List.getElem?_eq_getElem hj))
def KeyD (c : List Value) (d : Dig) : Prop := c = dc d
def KeyQ (c : List Value) (d : Dig) : Prop := ∃ w A x, RdQC w A c x ∧ x.block = d
theorem map_set1 {zs : List Cel} {i : Nat} {p : Cel} : (zs.set i p).map (fun p => p.1) = (zs.map (fun p => p.1)).set i p.1 := by rw [List.map_set]


theorem flat_seg {size : Nat} {css : List (List Value)} {i : Nat} {c : List Value} (h : ∀ c ∈ css, c.length = size) (hi : css[i]? = some c) : (css.flatten.drop (i * size)).take size = c := by
  induction css generalizing i with
  | nil => simp at hi
  | cons d r ih =>
    have hd := h d (by simp)
    match i with
    | 0 => simp at hi; subst hi; simp [List.take_append, hd]
    | i + 1 =>
      simp at hi
      rw [List.flatten_cons, Nat.add_mul, Nat.one_mul, Nat.add_comm, ← List.drop_drop, List.drop_left' hd]
      exact ih (fun c hc => h c (by simp [hc])) hi
theorem z1_D : ∀ v ∈ zD, v.oneCell' = true := dc_one dig0
theorem z1_Q : ∀ v ∈ [Value.int .i64 0, .int .i64 0] ++ (zD ++ [.slice none 0 0]), v.oneCell' = true := all_app' (all_cons' rfl (all_cons' rfl all_nil')) (all_app' z1_D (all_cons' rfl all_nil'))

end Go.Proofs.YtheonhgffglegaaDoor

/- Walks, by program (wg.py) out of a spec. -/
namespace Go.Proofs.YtheonhgffglegaaDoor
open Go
set_option linter.unusedVariables false
set_option linter.unusedSimpArgs false

attribute [local irreducible] Gl Gc Gx Gs Runs Wt

attribute [local irreducible] dc qcC blkC idOf TreeR

set_option maxHeartbeats 400000 in
theorem prune1_ok {w : World} {F : Nat → Prop} {cs : List Value} {d : Dig} {bm gm : Nat} {l : List Dig} (h : stars [blk bm 72 [.map (some gm)], mapR gm (encK digV (mkS l))] w F) (hk : KeyD cs d) :
    Calls Tryd.prog 27 #[.agg cs.toArray, .pointer (some ⟨bm, 0, none⟩)] w (Post w F (fun _ : Unit => .bool (!decide (d ∈ l))) (fun _ => [blk bm 72 [.map (some gm)], mapR gm (encK digV (mkS l))])) := by
  obtain rfl := hk
  refine g_enter (env := [(0, _), (1, .pointer (some ⟨bm, 0, none⟩))]) Tryd.func27 rfl h Tryd.ntmps27 rfl rfl ?_
  refine gsr ?_
  refine zbN fun b2 => ?_
  refine gp zas ?_
  refine gnt ?_
  refine gsr ?_
  refine gp zl ?_
  refine gp zL ?_
  refine gp (r_val (v' := .bool (decide (d ∈ l))) (r_look (K := digV) (l := mkS l) (key := d) (z := .bool false) (b := false) rfl rfl Ty.un_72 (by kernel_rfl) (by repeat (first | exact Pick.here | apply Pick.there))) (mkS_get d l)) ?_
  refine gp znt ?_
  refine gp zas ?_
  refine gnt ?_
  refine gc_ret ?_
  refine gx_ret1 rfl (by conv => lhs; whnf) ?_
  exact ze ()

set_option maxHeartbeats 400000 in
theorem prune2_ok {w : World} {F : Nat → Prop} {cs : List Value} {d : Dig} {bm gm : Nat} {l : List Dig} (h : stars [blk bm 72 [.map (some gm)], mapR gm (encK digV (mkS l))] w F) (hk : KeyQ cs d) :
    Calls Tryd.prog 29 #[.agg cs.toArray, .pointer (some ⟨bm, 0, none⟩)] w (Post w F (fun _ : Unit => .bool (!decide (d ∈ l))) (fun _ => [blk bm 72 [.map (some gm)], mapR gm (encK digV (mkS l))])) := by
  obtain ⟨w', A', x, hq, rfl⟩ := hk
  obtain ⟨av, nv, kv, rfl, hq1, hq2⟩ := hq
  refine g_enter (env := [(0, _), (1, .pointer (some ⟨bm, 0, none⟩))]) Tryd.func29 rfl h Tryd.ntmps29 rfl rfl ?_
  refine gsr ?_
  refine zbN fun b2 => ?_
  refine gp zas ?_
  refine gnt ?_
  refine gsr ?_
  refine gp zl ?_
  refine gp zfa ?_
  refine gp zL ?_
  refine gp (r_val (v' := .bool (decide (x.block ∈ l))) (r_look (K := digV) (l := mkS l) (key := x.block) (z := .bool false) (b := false) rfl rfl Ty.un_72 (by kernel_rfl) (by repeat (first | exact Pick.here | apply Pick.there))) (mkS_get x.block l)) ?_
  refine gp znt ?_
  refine gp zas ?_
  refine gnt ?_
  refine gc_ret ?_
  refine gx_ret1 rfl (by conv => lhs; whnf) ?_
  exact ze ()

set_option maxHeartbeats 400000 in
theorem ixD_ok {w : World} {F : Nat → Prop} {a : Option Addr} {n c bm gm : Nat} {l : List Dig} {zs : List Cel} (h : stars [blk bm 72 [.map (some gm)], mapR gm (encK digV (mkS l))] w F) (hx : RdRow w (fun k => ¬ F k) 16 a n (zs.map (fun p => p.1)).flatten) (hz : ∀ p ∈ zs, List.length p.1 = 16 ∧ (∀ v ∈ p.1, v.oneCell' = true) ∧ KeyD p.1 p.2) (hn : n = zs.length) :
    Calls Tryd.prog 46 #[.slice a n c, .func (.func 27) #[] #[.pointer (some ⟨bm, 0, none⟩)]] w (Post w F (fun x : Int => .int .i64 x) (fun x => [pureR ((x = -1 ∧ ∀ j e, j < zs.length → zs[j]? = some e → e.2 ∈ l) ∨ ∃ i p, x = ((i : Nat) : Int) ∧ zs[i]? = some p ∧ ¬ p.2 ∈ l ∧ ∀ j e, j < i → zs[j]? = some e → e.2 ∈ l), blk bm 72 [.map (some gm)], mapR gm (encK digV (mkS l))])) := by
  have hmx := hx.2.1
  simp only [maxLen] at hmx
  have hc16 : ∀ c ∈ (zs.map (fun p => p.1)), List.length c = 16 := fun c hc => by obtain ⟨p, hp, rfl⟩ := List.mem_map.1 hc; exact (hz p hp).1
  refine g_enter (env := [(0, .slice a n c), (1, .func (.func 27) #[] #[.pointer (some ⟨bm, 0, none⟩)])]) Tryd.func46 rfl h Tryd.ntmps46 rfl rfl ?_
  refine gsr ?_
  refine gp zas ?_
  refine gnt ?_
  refine gc_seq ?_
  refine gsr ?_
  refine gp zmv ?_
  refine gp zln ?_
  refine gp zmv ?_
  refine gnt ?_
  refine gc_block ?_
  refine gc_loop (α := Nat) (fun k => [pureR (k ≤ n ∧ ∀ j e, j < k → zs[j]? = some e → e.2 ∈ l), blk bm 72 [.map (some gm)], mapR gm (encK digV (mkS l))]) (fun k => [(8, .int .i64 (k : Int))]) [4, 5, 9, 10, 11, 12, 13, 14, 15, 16, 17, 18] (fun k => n - k) 0 ?_ ?_ ?_
  · refine env_start (by kernel_rfl)
  · exact zlp ⟨Nat.zero_le _, fun j _ hj => absurd hj (Nat.not_lt_zero j)⟩
  · intro k u
    refine gc_pureR (fun hk => ?_)
    replace hk : k ≤ n ∧ ∀ j e, j < k → zs[j]? = some e → e.2 ∈ l := hk
    refine gsr ?_
    refine gp zlt ?_
    refine gnt ?_
    refine gc_seq ?_
    refine gif rfl (fun hc9 => ?_) (fun hc9 => ?_)
    · try simp only at hc9
      have hk' : k < n := by omega
      obtain ⟨pz, hzk⟩ : ∃ pz, zs[k]? = some pz := ⟨zs[k]'(by omega), List.getElem?_eq_getElem (by omega)⟩
      have hpm := List.mem_of_getElem? hzk
      have hpl := (hz pz hpm).1
      obtain ⟨ga, oa, ha, hA, _, hra⟩ := hx.elem hk'
      subst ha
      have i19 := Len.of hpl
      have j19 := One.of (hz pz hpm).2.1
      rw [flat_seg hc16 (show (zs.map (fun p => p.1))[k]? = some pz.1 by rw [List.getElem?_map, hzk]; rfl)] at hra
      refine gc_skip ?_
      refine gx_then ?_
      refine gc_seq ?_
      refine gc_block ?_
      refine gsr ?_
      refine gp zmv ?_
      refine gp zas ?_
      refine gnt ?_
      refine gsr ?_
      refine gp zmv ?_
      refine gp zmv ?_
      refine gp zmv ?_
      refine gp (r_val (v' := .pointer (some ⟨ga, oa + k * 16, none⟩)) zia (by simp)) ?_
      refine gp (r_ldNo (seg := pz.1) rfl Ty.row_26 Ty.sz_26 hra hpl (by decide) hA) ?_
      refine gl_call (wt0 rfl) (e_callv (us := [.pointer (some ⟨bm, 0, none⟩)]) rfl Ty.call_27 rfl) (by repeat (first | exact Sel.nil | (apply Sel.cons; · (repeat (first | exact Pick.here | apply Pick.there))))) (fun w1 F1 F2 h1 h2 hd hst => prune1_ok (d := pz.2) (l := l) h1 (hz pz hpm).2.2) ?_
      intro _
      refine gnt ?_
      refine gif rfl (fun hc16 => ?_) (fun hc16 => ?_)
      · refine gsr ?_
        refine gp zmv ?_
        refine gp zas ?_
        refine gnt ?_
        refine gc_ret ?_
        refine gx_block_ret ?_
        refine gx_then_ret ?_
        refine gx_round_ret ?_
        refine gx_block_ret ?_
        refine gx_then_ret ?_
        refine gx_ret1 rfl (by conv => lhs; whnf) ?_
        exact fun w' hw => ⟨(k : Int), rfl, St.pureI (.inr ⟨k, pz, rfl, hzk, by simpa using hc16, hk.2⟩) (hw.sel (by repeat (first | exact Sel.nil | (apply Sel.cons; · (repeat (first | exact Pick.here | apply Pick.there))))))⟩
      · refine gc_skip ?_
        refine gx_block_normal ?_
        refine gx_then ?_
        refine gc_region ?_
        refine gp zad ?_
        refine gp zmv ?_
        refine gl_nil ?_
        refine zrd (k + 1) ?_ ?_
        · show n - (k + 1) < n - k
          omega
        · exact zlp (show k + 1 ≤ n ∧ ∀ j e, j < k + 1 → zs[j]? = some e → e.2 ∈ l from ⟨by omega, fun j e hj he => (by by_cases h' : j < k; exact hk.2 j e h' he; (obtain rfl : j = k := by omega); rw [hzk] at he; cases he; simpa using hc16)⟩)
    · try simp only at hc9
      have hk' : k = n := by omega
      refine gc_exit ?_
      refine gx_then_exit ?_
      refine gx_round_exit ?_
      refine gx_block_hit ?_
      refine gx_then ?_
      refine gsr ?_
      refine gp zas ?_
      refine gnt ?_
      refine gc_ret ?_
      refine gx_ret1 rfl (by conv => lhs; whnf) ?_
      exact fun w' hw => ⟨-1, rfl, St.pureI (.inl ⟨rfl, fun j e hj he => hk.2 j e (by omega) he⟩) (hw.sel (by repeat (first | exact Sel.nil | (apply Sel.cons; · (repeat (first | exact Pick.here | apply Pick.there))))))⟩

set_option maxHeartbeats 400000 in
theorem delD_ok {w : World} {F : Nat → Prop} {a : Option Addr} {c bm gm : Nat} {l : List Dig} {zs : List Cel} (h : stars [blk bm 72 [.map (some gm)], mapR gm (encK digV (mkS l)), rowR 26 16 a zs.length c (zs.map (fun p => p.1)).flatten] w F) (hz : ∀ p ∈ zs, List.length p.1 = 16 ∧ (∀ v ∈ p.1, v.oneCell' = true) ∧ KeyD p.1 p.2) (hb : zs.length ≤ 1099511627776) :
    Calls Tryd.prog 26 #[.slice a zs.length c, .func (.func 27) #[] #[.pointer (some ⟨bm, 0, none⟩)]] w (Post w F (fun _ : Unit => .slice a (kpL l zs).length c) (fun _ => [blk bm 72 [.map (some gm)], mapR gm (encK digV (mkS l)), rowR 26 16 a (kpL l zs).length c ((kpL l zs).map (fun p => p.1)).flatten])) := by
  have hcA : ∀ c ∈ (zs.map (fun p => p.1)), List.length c = 16 := fun c hc => by obtain ⟨p, hp, rfl⟩ := List.mem_map.1 hc; exact (hz p hp).1
  have hcR : ∀ j, ∀ c ∈ (rwL l zs j).map (fun p => p.1), List.length c = 16 := fun j c hc => by obtain ⟨p, hp, rfl⟩ := List.mem_map.1 hc; exact (hz p (rw_mem hp)).1
  refine g_enter (env := [(0, .slice a zs.length c), (1, .func (.func 27) #[] #[.pointer (some ⟨bm, 0, none⟩)])]) Tryd.func26 rfl h Tryd.ntmps26 rfl rfl ?_
  refine gsr ?_
  refine gp zas ?_
  refine gnt ?_
  refine gsr ?_
  refine gp zmv ?_
  refine gp zmv ?_
  refine zc (fun x10 => ?_) (c := fun w1 F1 F2 h1 h2 hd hst => ixD_ok (l := l) (zs := zs) h1 (rd_row h2 hd (by repeat (first | exact Pick.here | apply Pick.there))) hz rfl)
  refine gl_pureR (fun hx10 => ?_)
  refine gp zas ?_
  refine gnt ?_
  refine gc_seq ?_
  refine gc_seq ?_
  by_cases hS : x10 = -1
  · have hful : kpL l zs = zs := kp_full (by rcases hx10 with h | ⟨i, p, h, _⟩; exact h.2; (exfalso; omega))
    refine gc_region ?_
    refine gp zmv ?_
    refine gp (r_bool (c := true) zei (decide_eq_true hS)) ?_
    refine gnt ?_
    refine gc_condT rfl rfl ?_
    refine gsr ?_
    refine gp zmv ?_
    refine gp zas ?_
    refine gnt ?_
    refine gc_ret ?_
    refine gx_then_ret ?_
    refine gx_ret1 rfl (by conv => lhs; whnf) ?_
    exact fun w' hw => ⟨(), by rw [hful], by rw [hful]; exact hw.sel (by repeat (first | exact Sel.nil | (apply Sel.cons; · (repeat (first | exact Pick.here | apply Pick.there)))))⟩
  · obtain ⟨i, pi, rfl, hi, hni, hall⟩ : ∃ i p, x10 = ((i : Nat) : Int) ∧ zs[i]? = some p ∧ ¬ p.2 ∈ l ∧ ∀ j e, j < i → zs[j]? = some e → e.2 ∈ l := by rcases hx10 with h | h; exact absurd h.1 hS; exact h
    have hil : i < zs.length := (List.getElem?_eq_some_iff.1 hi).1
    obtain ⟨hf1, hf2⟩ := kp_first hi hni hall
    have hkl := kp_lt hi hni
    refine gc_fact (fun w' hw => St.rowAt (hw.sel (M := [rowR 26 16 a zs.length c (zs.map (fun p => p.1)).flatten]) (by repeat (first | exact Sel.nil | (apply Sel.cons; · (repeat (first | exact Pick.here | apply Pick.there)))))) .here (by omega)) (fun hra => ?_)
    obtain ⟨hmc, ga, oa, ha⟩ := hra
    subst ha
    refine gc_region ?_
    refine gp zmv ?_
    refine gp (r_bool (c := false) zei (decide_eq_false hS)) ?_
    refine gnt ?_
    refine gc_condF rfl rfl ?_
    refine gc_skip ?_
    refine gx_then ?_
    refine gc_seq ?_
    refine gsr ?_
    refine gp zmv ?_
    refine gp (r_int (j := ((i + 1 : Nat) : Int)) zad (by omega)) ?_
    refine gp zas ?_
    refine gnt ?_
    refine gc_block ?_
    refine gc_loop (α := Nat × Nat) (fun y => [pureR (y.1 ≤ zs.length ∧ y.2 = (kpL l (zs.take y.1)).length), blk bm 72 [.map (some gm)], mapR gm (encK digV (mkS l)), rowR 26 16 (some ⟨ga, oa, none⟩) zs.length c ((rwL l zs y.1).map (fun p => p.1)).flatten]) (fun y => [(6, .int .i64 (y.1 : Int)), (5, .int .i64 (y.2 : Int))]) [7, 16, 17, 18, 19, 20, 21, 22, 23, 24, 25, 26, 27, 28, 29, 30, 31, 32, 33, 34, 35] (fun y => zs.length - y.1) (i + 1, i) ?_ ?_ ?_
    · refine env_start (by kernel_rfl)
    · simp only [hf2]
      exact zlp (show i + 1 ≤ zs.length ∧ i = (kpL l (zs.take (i + 1))).length from ⟨by omega, hf1.symm⟩)
    · intro y u
      obtain ⟨j, r⟩ := y
      refine gc_pureR (fun hk => ?_)
      obtain ⟨hk, hr⟩ := hk
      replace hk : j ≤ zs.length := hk
      replace hr : r = (kpL l (zs.take j)).length := hr
      have hkj := kp_le l zs j
      have hrl := rw_len l zs hk
      refine gc_seq ?_
      refine gsr ?_
      refine gp zmv ?_
      refine gp zmv ?_
      refine gp zln ?_
      refine gp zlt ?_
      refine gnt ?_
      refine gif rfl (fun hc19 => ?_) (fun hc19 => ?_)
      · try simp only at hc19
        have hk' : j < zs.length := by omega
        subst hr
        obtain ⟨pz, hzk⟩ : ∃ pz, zs[j]? = some pz := ⟨zs[j]'(by omega), List.getElem?_eq_getElem (by omega)⟩
        have hpm := List.mem_of_getElem? hzk
        have hpl := (hz pz hpm).1
        have i19 := Len.of hpl
        have j19 := One.of (hz pz hpm).2.1
        refine gc_skip ?_
        refine gx_then ?_
        refine gc_seq ?_
        refine gc_block ?_
        refine gsr ?_
        refine gp zmv ?_
        refine gp zmv ?_
        refine gp (r_val (v' := .pointer (some ⟨ga, oa + j * 16, none⟩)) zia (by simp)) ?_
        refine gp (r_ldRow (i := j) (cs := pz.1) rfl Ty.row_26 Ty.sz_26 (by repeat (first | exact Pick.here | apply Pick.there)) (hcR j) (by rw [List.getElem?_map, rw_at hzk]; rfl) hk') ?_
        refine zal fun b7 => ?_
        refine zsA hpl One.h ?_
        refine gnt ?_
        refine gsr ?_
        refine gp zmv ?_
        refine gp (zLa (cs := pz.1)) ?_
        refine gl_call (wt0 rfl) (e_callv (us := [.pointer (some ⟨bm, 0, none⟩)]) rfl Ty.call_27 rfl) (by repeat (first | exact Sel.nil | (apply Sel.cons; · (repeat (first | exact Pick.here | apply Pick.there))))) (fun w1 F1 F2 h1 h2 hd hst => prune1_ok (d := pz.2) (l := l) h1 (hz pz hpm).2.2) ?_
        intro _
        refine gp znt ?_
        refine gnt ?_
        refine gif rfl (fun hc29 => ?_) (fun hc29 => ?_)
        · try simp only at hc29
          have hin : pz.2 ∈ l := by simpa using hc29
          have hkn := kp_yes hzk hin
          have hrn := rw_yes hzk hin
          refine gsr ?_
          refine gp zmv ?_
          refine gp zmv ?_
          refine gp (zLa (cs := pz.1)) ?_
          refine gp (r_val (v' := .pointer (some ⟨ga, oa + (kpL l (zs.take j)).length * 16, none⟩)) zia (by simp)) ?_
          refine gl_stRow (i := (kpL l (zs.take j)).length) (css := (rwL l zs j).map (fun p => p.1)) (new := pz.1) (wt0 rfl) rfl rfl rfl Ty.sz_26 hpl One.h (hcR j) (by rw [List.length_map]; omega) (by repeat (first | exact Pick.here | apply Pick.there)) ?_
          rw [← map_set1, ← hrn]
          refine gnt ?_
          refine gc_region ?_
          refine gp zmv ?_
          refine gp (r_int (j := (((kpL l (zs.take (j + 1))).length : Nat) : Int)) zad (by rw [hkn, List.length_append]; simp)) ?_
          refine gp zas ?_
          refine gl_nil ?_
          refine gx_block_normal ?_
          refine gx_then ?_
          refine gc_region ?_
          refine gp zmv ?_
          refine gp zad ?_
          refine gp zas ?_
          refine gl_nil ?_
          refine zrd ((j + 1, (kpL l (zs.take (j + 1))).length)) ?_ ?_
          · show zs.length - (j + 1) < zs.length - j
            omega
          · simp only [hrn]
            exact zlp (show j + 1 ≤ zs.length ∧ True from ⟨by omega, trivial⟩)
        · try simp only at hc29
          have hin : ¬ pz.2 ∈ l := by simpa using hc29
          have hkn := kp_no hzk hin
          have hrn := rw_no hzk hin
          refine gc_skip ?_
          refine gx_block_normal ?_
          refine gx_then ?_
          refine gc_region ?_
          refine gp zmv ?_
          refine gp zad ?_
          refine gp zas ?_
          refine gl_nil ?_
          refine zrd ((j + 1, (kpL l (zs.take j)).length)) ?_ ?_
          · show zs.length - (j + 1) < zs.length - j
            omega
          · simp only [hrn]
            exact zlp (show j + 1 ≤ zs.length ∧ (kpL l (zs.take j)).length = (kpL l (zs.take (j + 1))).length from ⟨by omega, by rw [hkn]⟩)
      · try simp only at hc19
        obtain rfl : j = zs.length := by omega
        obtain rfl : r = (kpL l zs).length := by rw [hr, List.take_length]
        refine gc_exit ?_
        refine gx_then_exit ?_
        refine gx_round_exit ?_
        refine gx_block_hit ?_
        refine gx_then ?_
        refine gsr ?_
        refine gp zmv ?_
        refine gp zmv ?_
        refine gp (r_val (v' := .slice (some ⟨ga, oa + (kpL l zs).length * 16, none⟩) (zs.length - (kpL l zs).length) (c - (kpL l zs).length)) (r_slice_slice (a := some ⟨ga, oa, none⟩) (m := zs.length) (c := c) (l := (kpL l zs).length) (h := zs.length) rfl Ty.sl_36 Ty.sz_26 ⟨_, rfl⟩ rfl (by omega) (by omega)) (by rw [if_neg (by omega), Option.map_some, Addr.add_mid])) ?_
        refine gl_clearRow (A := (kpL l zs).map (fun p => p.1)) (B := (zs.drop (kpL l zs).length).map (fun p => p.1)) (size := 16) (e := 26) (o := oa) (m := zs.length) (c := c) (wt0 rfl) rfl (by rw [List.length_map]) (by rw [List.length_map, List.length_drop]) Ty.sl_36 Ty.zc_26 (by decide) (by kernel_rfl) (by intro v hv; exact z1_D v hv) (by rw [← List.map_append, ← rw_all]; exact hcR _) (by rw [← List.map_append, ← rw_all]; exact (by repeat (first | exact Pick.here | apply Pick.there))) ?_
        refine gnt ?_
        refine gsr ?_
        refine gp zmv ?_
        refine gp zmv ?_
        refine gp (r_val (v' := .slice (some ⟨ga, oa, none⟩) (kpL l zs).length c) (r_slice_slice (a := some ⟨ga, oa, none⟩) (m := zs.length) (c := c) (l := 0) (h := (kpL l zs).length) rfl Ty.sl_36 Ty.sz_26 rfl ⟨_, rfl⟩ (by omega) (by omega)) (by rw [Nat.zero_mul]; split <;> simp [Addr.add])) ?_
        refine gp zas ?_
        refine gnt ?_
        refine gc_ret ?_
        refine gx_ret1 rfl (by conv => lhs; whnf) ?_
        exact fun w' hw => ⟨(), rfl, by rw [List.length_map] at hw; exact hw.sel (by repeat (first | exact Sel.nil | (apply Sel.cons; · (repeat (first | exact Pick.here | apply Pick.there)))))⟩

set_option maxHeartbeats 400000 in
theorem ixQ_ok {w : World} {F : Nat → Prop} {a : Option Addr} {n c bm gm : Nat} {l : List Dig} {zs : List Cel} (h : stars [blk bm 72 [.map (some gm)], mapR gm (encK digV (mkS l))] w F) (hx : RdRow w (fun k => ¬ F k) 19 a n (zs.map (fun p => p.1)).flatten) (hz : ∀ p ∈ zs, List.length p.1 = 19 ∧ (∀ v ∈ p.1, v.oneCell' = true) ∧ KeyQ p.1 p.2) (hn : n = zs.length) :
    Calls Tryd.prog 42 #[.slice a n c, .func (.func 29) #[] #[.pointer (some ⟨bm, 0, none⟩)]] w (Post w F (fun x : Int => .int .i64 x) (fun x => [pureR ((x = -1 ∧ ∀ j e, j < zs.length → zs[j]? = some e → e.2 ∈ l) ∨ ∃ i p, x = ((i : Nat) : Int) ∧ zs[i]? = some p ∧ ¬ p.2 ∈ l ∧ ∀ j e, j < i → zs[j]? = some e → e.2 ∈ l), blk bm 72 [.map (some gm)], mapR gm (encK digV (mkS l))])) := by
  have hmx := hx.2.1
  simp only [maxLen] at hmx
  have hc19 : ∀ c ∈ (zs.map (fun p => p.1)), List.length c = 19 := fun c hc => by obtain ⟨p, hp, rfl⟩ := List.mem_map.1 hc; exact (hz p hp).1
  refine g_enter (env := [(0, .slice a n c), (1, .func (.func 29) #[] #[.pointer (some ⟨bm, 0, none⟩)])]) Tryd.func42 rfl h Tryd.ntmps42 rfl rfl ?_
  refine gsr ?_
  refine gp zas ?_
  refine gnt ?_
  refine gc_seq ?_
  refine gsr ?_
  refine gp zmv ?_
  refine gp zln ?_
  refine gp zmv ?_
  refine gnt ?_
  refine gc_block ?_
  refine gc_loop (α := Nat) (fun k => [pureR (k ≤ n ∧ ∀ j e, j < k → zs[j]? = some e → e.2 ∈ l), blk bm 72 [.map (some gm)], mapR gm (encK digV (mkS l))]) (fun k => [(8, .int .i64 (k : Int))]) [4, 5, 9, 10, 11, 12, 13, 14, 15, 16, 17, 18] (fun k => n - k) 0 ?_ ?_ ?_
  · refine env_start (by kernel_rfl)
  · exact zlp ⟨Nat.zero_le _, fun j _ hj => absurd hj (Nat.not_lt_zero j)⟩
  · intro k u
    refine gc_pureR (fun hk => ?_)
    replace hk : k ≤ n ∧ ∀ j e, j < k → zs[j]? = some e → e.2 ∈ l := hk
    refine gsr ?_
    refine gp zlt ?_
    refine gnt ?_
    refine gc_seq ?_
    refine gif rfl (fun hc9 => ?_) (fun hc9 => ?_)
    · try simp only at hc9
      have hk' : k < n := by omega
      obtain ⟨pz, hzk⟩ : ∃ pz, zs[k]? = some pz := ⟨zs[k]'(by omega), List.getElem?_eq_getElem (by omega)⟩
      have hpm := List.mem_of_getElem? hzk
      have hpl := (hz pz hpm).1
      obtain ⟨ga, oa, ha, hA, _, hra⟩ := hx.elem hk'
      subst ha
      have i19 := Len.of hpl
      have j19 := One.of (hz pz hpm).2.1
      rw [flat_seg hc19 (show (zs.map (fun p => p.1))[k]? = some pz.1 by rw [List.getElem?_map, hzk]; rfl)] at hra
      refine gc_skip ?_
      refine gx_then ?_
      refine gc_seq ?_
      refine gc_block ?_
      refine gsr ?_
      refine gp zmv ?_
      refine gp zas ?_
      refine gnt ?_
      refine gsr ?_
      refine gp zmv ?_
      refine gp zmv ?_
      refine gp zmv ?_
      refine gp (r_val (v' := .pointer (some ⟨ga, oa + k * 19, none⟩)) zia (by simp)) ?_
      refine gp (r_ldNo (seg := pz.1) rfl Ty.row_29 Ty.sz_29 hra hpl (by decide) hA) ?_
      refine gl_call (wt0 rfl) (e_callv (us := [.pointer (some ⟨bm, 0, none⟩)]) rfl Ty.call_29 rfl) (by repeat (first | exact Sel.nil | (apply Sel.cons; · (repeat (first | exact Pick.here | apply Pick.there))))) (fun w1 F1 F2 h1 h2 hd hst => prune2_ok (d := pz.2) (l := l) h1 (hz pz hpm).2.2) ?_
      intro _
      refine gnt ?_
      refine gif rfl (fun hc16 => ?_) (fun hc16 => ?_)
      · refine gsr ?_
        refine gp zmv ?_
        refine gp zas ?_
        refine gnt ?_
        refine gc_ret ?_
        refine gx_block_ret ?_
        refine gx_then_ret ?_
        refine gx_round_ret ?_
        refine gx_block_ret ?_
        refine gx_then_ret ?_
        refine gx_ret1 rfl (by conv => lhs; whnf) ?_
        exact fun w' hw => ⟨(k : Int), rfl, St.pureI (.inr ⟨k, pz, rfl, hzk, by simpa using hc16, hk.2⟩) (hw.sel (by repeat (first | exact Sel.nil | (apply Sel.cons; · (repeat (first | exact Pick.here | apply Pick.there))))))⟩
      · refine gc_skip ?_
        refine gx_block_normal ?_
        refine gx_then ?_
        refine gc_region ?_
        refine gp zad ?_
        refine gp zmv ?_
        refine gl_nil ?_
        refine zrd (k + 1) ?_ ?_
        · show n - (k + 1) < n - k
          omega
        · exact zlp (show k + 1 ≤ n ∧ ∀ j e, j < k + 1 → zs[j]? = some e → e.2 ∈ l from ⟨by omega, fun j e hj he => (by by_cases h' : j < k; exact hk.2 j e h' he; (obtain rfl : j = k := by omega); rw [hzk] at he; cases he; simpa using hc16)⟩)
    · try simp only at hc9
      have hk' : k = n := by omega
      refine gc_exit ?_
      refine gx_then_exit ?_
      refine gx_round_exit ?_
      refine gx_block_hit ?_
      refine gx_then ?_
      refine gsr ?_
      refine gp zas ?_
      refine gnt ?_
      refine gc_ret ?_
      refine gx_ret1 rfl (by conv => lhs; whnf) ?_
      exact fun w' hw => ⟨-1, rfl, St.pureI (.inl ⟨rfl, fun j e hj he => hk.2 j e (by omega) he⟩) (hw.sel (by repeat (first | exact Sel.nil | (apply Sel.cons; · (repeat (first | exact Pick.here | apply Pick.there))))))⟩

set_option maxHeartbeats 400000 in
theorem delQ_ok {w : World} {F : Nat → Prop} {a : Option Addr} {c bm gm : Nat} {l : List Dig} {zs : List Cel} (h : stars [blk bm 72 [.map (some gm)], mapR gm (encK digV (mkS l)), rowR 29 19 a zs.length c (zs.map (fun p => p.1)).flatten] w F) (hz : ∀ p ∈ zs, List.length p.1 = 19 ∧ (∀ v ∈ p.1, v.oneCell' = true) ∧ KeyQ p.1 p.2) (hb : zs.length ≤ 1099511627776) :
    Calls Tryd.prog 28 #[.slice a zs.length c, .func (.func 29) #[] #[.pointer (some ⟨bm, 0, none⟩)]] w (Post w F (fun _ : Unit => .slice a (kpL l zs).length c) (fun _ => [blk bm 72 [.map (some gm)], mapR gm (encK digV (mkS l)), rowR 29 19 a (kpL l zs).length c ((kpL l zs).map (fun p => p.1)).flatten])) := by
  have hcA : ∀ c ∈ (zs.map (fun p => p.1)), List.length c = 19 := fun c hc => by obtain ⟨p, hp, rfl⟩ := List.mem_map.1 hc; exact (hz p hp).1
  have hcR : ∀ j, ∀ c ∈ (rwL l zs j).map (fun p => p.1), List.length c = 19 := fun j c hc => by obtain ⟨p, hp, rfl⟩ := List.mem_map.1 hc; exact (hz p (rw_mem hp)).1
  refine g_enter (env := [(0, .slice a zs.length c), (1, .func (.func 29) #[] #[.pointer (some ⟨bm, 0, none⟩)])]) Tryd.func28 rfl h Tryd.ntmps28 rfl rfl ?_
  refine gsr ?_
  refine gp zas ?_
  refine gnt ?_
  refine gsr ?_
  refine gp zmv ?_
  refine gp zmv ?_
  refine zc (fun x10 => ?_) (c := fun w1 F1 F2 h1 h2 hd hst => ixQ_ok (l := l) (zs := zs) h1 (rd_row h2 hd (by repeat (first | exact Pick.here | apply Pick.there))) hz rfl)
  refine gl_pureR (fun hx10 => ?_)
  refine gp zas ?_
  refine gnt ?_
  refine gc_seq ?_
  refine gc_seq ?_
  by_cases hS : x10 = -1
  · have hful : kpL l zs = zs := kp_full (by rcases hx10 with h | ⟨i, p, h, _⟩; exact h.2; (exfalso; omega))
    refine gc_region ?_
    refine gp zmv ?_
    refine gp (r_bool (c := true) zei (decide_eq_true hS)) ?_
    refine gnt ?_
    refine gc_condT rfl rfl ?_
    refine gsr ?_
    refine gp zmv ?_
    refine gp zas ?_
    refine gnt ?_
    refine gc_ret ?_
    refine gx_then_ret ?_
    refine gx_ret1 rfl (by conv => lhs; whnf) ?_
    exact fun w' hw => ⟨(), by rw [hful], by rw [hful]; exact hw.sel (by repeat (first | exact Sel.nil | (apply Sel.cons; · (repeat (first | exact Pick.here | apply Pick.there)))))⟩
  · obtain ⟨i, pi, rfl, hi, hni, hall⟩ : ∃ i p, x10 = ((i : Nat) : Int) ∧ zs[i]? = some p ∧ ¬ p.2 ∈ l ∧ ∀ j e, j < i → zs[j]? = some e → e.2 ∈ l := by rcases hx10 with h | h; exact absurd h.1 hS; exact h
    have hil : i < zs.length := (List.getElem?_eq_some_iff.1 hi).1
    obtain ⟨hf1, hf2⟩ := kp_first hi hni hall
    have hkl := kp_lt hi hni
    refine gc_fact (fun w' hw => St.rowAt (hw.sel (M := [rowR 29 19 a zs.length c (zs.map (fun p => p.1)).flatten]) (by repeat (first | exact Sel.nil | (apply Sel.cons; · (repeat (first | exact Pick.here | apply Pick.there)))))) .here (by omega)) (fun hra => ?_)
    obtain ⟨hmc, ga, oa, ha⟩ := hra
    subst ha
    refine gc_region ?_
    refine gp zmv ?_
    refine gp (r_bool (c := false) zei (decide_eq_false hS)) ?_
    refine gnt ?_
    refine gc_condF rfl rfl ?_
    refine gc_skip ?_
    refine gx_then ?_
    refine gc_seq ?_
    refine gsr ?_
    refine gp zmv ?_
    refine gp (r_int (j := ((i + 1 : Nat) : Int)) zad (by omega)) ?_
    refine gp zas ?_
    refine gnt ?_
    refine gc_block ?_
    refine gc_loop (α := Nat × Nat) (fun y => [pureR (y.1 ≤ zs.length ∧ y.2 = (kpL l (zs.take y.1)).length), blk bm 72 [.map (some gm)], mapR gm (encK digV (mkS l)), rowR 29 19 (some ⟨ga, oa, none⟩) zs.length c ((rwL l zs y.1).map (fun p => p.1)).flatten]) (fun y => [(6, .int .i64 (y.1 : Int)), (5, .int .i64 (y.2 : Int))]) [7, 16, 17, 18, 19, 20, 21, 22, 23, 24, 25, 26, 27, 28, 29, 30, 31, 32, 33, 34, 35] (fun y => zs.length - y.1) (i + 1, i) ?_ ?_ ?_
    · refine env_start (by kernel_rfl)
    · simp only [hf2]
      exact zlp (show i + 1 ≤ zs.length ∧ i = (kpL l (zs.take (i + 1))).length from ⟨by omega, hf1.symm⟩)
    · intro y u
      obtain ⟨j, r⟩ := y
      refine gc_pureR (fun hk => ?_)
      obtain ⟨hk, hr⟩ := hk
      replace hk : j ≤ zs.length := hk
      replace hr : r = (kpL l (zs.take j)).length := hr
      have hkj := kp_le l zs j
      have hrl := rw_len l zs hk
      refine gc_seq ?_
      refine gsr ?_
      refine gp zmv ?_
      refine gp zmv ?_
      refine gp zln ?_
      refine gp zlt ?_
      refine gnt ?_
      refine gif rfl (fun hc19 => ?_) (fun hc19 => ?_)
      · try simp only at hc19
        have hk' : j < zs.length := by omega
        subst hr
        obtain ⟨pz, hzk⟩ : ∃ pz, zs[j]? = some pz := ⟨zs[j]'(by omega), List.getElem?_eq_getElem (by omega)⟩
        have hpm := List.mem_of_getElem? hzk
        have hpl := (hz pz hpm).1
        have i19 := Len.of hpl
        have j19 := One.of (hz pz hpm).2.1
        refine gc_skip ?_
        refine gx_then ?_
        refine gc_seq ?_
        refine gc_block ?_
        refine gsr ?_
        refine gp zmv ?_
        refine gp zmv ?_
        refine gp (r_val (v' := .pointer (some ⟨ga, oa + j * 19, none⟩)) zia (by simp)) ?_
        refine gp (r_ldRow (i := j) (cs := pz.1) rfl Ty.row_29 Ty.sz_29 (by repeat (first | exact Pick.here | apply Pick.there)) (hcR j) (by rw [List.getElem?_map, rw_at hzk]; rfl) hk') ?_
        refine zal fun b7 => ?_
        refine zsA hpl One.h ?_
        refine gnt ?_
        refine gsr ?_
        refine gp zmv ?_
        refine gp (zLa (cs := pz.1)) ?_
        refine gl_call (wt0 rfl) (e_callv (us := [.pointer (some ⟨bm, 0, none⟩)]) rfl Ty.call_29 rfl) (by repeat (first | exact Sel.nil | (apply Sel.cons; · (repeat (first | exact Pick.here | apply Pick.there))))) (fun w1 F1 F2 h1 h2 hd hst => prune2_ok (d := pz.2) (l := l) h1 (hz pz hpm).2.2) ?_
        intro _
        refine gp znt ?_
        refine gnt ?_
        refine gif rfl (fun hc29 => ?_) (fun hc29 => ?_)
        · try simp only at hc29
          have hin : pz.2 ∈ l := by simpa using hc29
          have hkn := kp_yes hzk hin
          have hrn := rw_yes hzk hin
          refine gsr ?_
          refine gp zmv ?_
          refine gp zmv ?_
          refine gp (zLa (cs := pz.1)) ?_
          refine gp (r_val (v' := .pointer (some ⟨ga, oa + (kpL l (zs.take j)).length * 19, none⟩)) zia (by simp)) ?_
          refine gl_stRow (i := (kpL l (zs.take j)).length) (css := (rwL l zs j).map (fun p => p.1)) (new := pz.1) (wt0 rfl) rfl rfl rfl Ty.sz_29 hpl One.h (hcR j) (by rw [List.length_map]; omega) (by repeat (first | exact Pick.here | apply Pick.there)) ?_
          rw [← map_set1, ← hrn]
          refine gnt ?_
          refine gc_region ?_
          refine gp zmv ?_
          refine gp (r_int (j := (((kpL l (zs.take (j + 1))).length : Nat) : Int)) zad (by rw [hkn, List.length_append]; simp)) ?_
          refine gp zas ?_
          refine gl_nil ?_
          refine gx_block_normal ?_
          refine gx_then ?_
          refine gc_region ?_
          refine gp zmv ?_
          refine gp zad ?_
          refine gp zas ?_
          refine gl_nil ?_
          refine zrd ((j + 1, (kpL l (zs.take (j + 1))).length)) ?_ ?_
          · show zs.length - (j + 1) < zs.length - j
            omega
          · simp only [hrn]
            exact zlp (show j + 1 ≤ zs.length ∧ True from ⟨by omega, trivial⟩)
        · try simp only at hc29
          have hin : ¬ pz.2 ∈ l := by simpa using hc29
          have hkn := kp_no hzk hin
          have hrn := rw_no hzk hin
          refine gc_skip ?_
          refine gx_block_normal ?_
          refine gx_then ?_
          refine gc_region ?_
          refine gp zmv ?_
          refine gp zad ?_
          refine gp zas ?_
          refine gl_nil ?_
          refine zrd ((j + 1, (kpL l (zs.take j)).length)) ?_ ?_
          · show zs.length - (j + 1) < zs.length - j
            omega
          · simp only [hrn]
            exact zlp (show j + 1 ≤ zs.length ∧ (kpL l (zs.take j)).length = (kpL l (zs.take (j + 1))).length from ⟨by omega, by rw [hkn]⟩)
      · try simp only at hc19
        obtain rfl : j = zs.length := by omega
        obtain rfl : r = (kpL l zs).length := by rw [hr, List.take_length]
        refine gc_exit ?_
        refine gx_then_exit ?_
        refine gx_round_exit ?_
        refine gx_block_hit ?_
        refine gx_then ?_
        refine gsr ?_
        refine gp zmv ?_
        refine gp zmv ?_
        refine gp (r_val (v' := .slice (some ⟨ga, oa + (kpL l zs).length * 19, none⟩) (zs.length - (kpL l zs).length) (c - (kpL l zs).length)) (r_slice_slice (a := some ⟨ga, oa, none⟩) (m := zs.length) (c := c) (l := (kpL l zs).length) (h := zs.length) rfl Ty.sl_59 Ty.sz_29 ⟨_, rfl⟩ rfl (by omega) (by omega)) (by rw [if_neg (by omega), Option.map_some, Addr.add_mid])) ?_
        refine gl_clearRow (A := (kpL l zs).map (fun p => p.1)) (B := (zs.drop (kpL l zs).length).map (fun p => p.1)) (size := 19) (e := 29) (o := oa) (m := zs.length) (c := c) (wt0 rfl) rfl (by rw [List.length_map]) (by rw [List.length_map, List.length_drop]) Ty.sl_59 Ty.zc_29 (by decide) (by kernel_rfl) (by intro v hv; exact z1_Q v hv) (by rw [← List.map_append, ← rw_all]; exact hcR _) (by rw [← List.map_append, ← rw_all]; exact (by repeat (first | exact Pick.here | apply Pick.there))) ?_
        refine gnt ?_
        refine gsr ?_
        refine gp zmv ?_
        refine gp zmv ?_
        refine gp (r_val (v' := .slice (some ⟨ga, oa, none⟩) (kpL l zs).length c) (r_slice_slice (a := some ⟨ga, oa, none⟩) (m := zs.length) (c := c) (l := 0) (h := (kpL l zs).length) rfl Ty.sl_59 Ty.sz_29 rfl ⟨_, rfl⟩ (by omega) (by omega)) (by rw [Nat.zero_mul]; split <;> simp [Addr.add])) ?_
        refine gp zas ?_
        refine gnt ?_
        refine gc_ret ?_
        refine gx_ret1 rfl (by conv => lhs; whnf) ?_
        exact fun w' hw => ⟨(), rfl, by rw [List.length_map] at hw; exact hw.sel (by repeat (first | exact Sel.nil | (apply Sel.cons; · (repeat (first | exact Pick.here | apply Pick.there)))))⟩

end Go.Proofs.YtheonhgffglegaaDoor

/- Walks, by program (wg.py) out of a spec. -/
namespace Go.Proofs.YtheonhgffglegaaDoor
open Go
set_option linter.unusedVariables false
set_option linter.unusedSimpArgs false


theorem delK_mid {k : Dig} {v : Value} : ∀ {A B : List (Dig × Value)}, (∀ p ∈ A, p.1 ≠ k) → delK k (A ++ (k, v) :: B) = A ++ B
  | [], B, _ => by simp [delK]
  | p :: A, B, h => by
    have h0 := h p (by simp)
    have ih := delK_mid (A := A) (B := B) (v := v) (k := k) (fun q hq => h q (by simp [hq]))
    simp only [List.cons_append, delK, if_neg (Ne.symm h0), ih]
/-- The map while its keys are gone through: of the first k what stays. -/
def prM (S : List Dig) (Z : List (Dig × Value)) (k : Nat) : List (Dig × Value) := (Z.take k).filter (fun p => decide (p.1 ∈ S)) ++ Z.drop k
theorem prM_zero (S : List Dig) (Z : List (Dig × Value)) : prM S Z 0 = Z := by simp [prM]
theorem prM_all {S : List Dig} {Z : List (Dig × Value)} {k : Nat} (h : Z.length = k) : prM S Z k = Z.filter (fun p => decide (p.1 ∈ S)) := by subst h; simp [prM]
theorem prM_yes {S : List Dig} {Z : List (Dig × Value)} {k : Nat} {p : Dig × Value} (h : Z[k]? = some p) (hp : p.1 ∈ S) : prM S Z (k + 1) = prM S Z k := by
  have hk : k < Z.length := (List.getElem?_eq_some_iff.1 h).1
  unfold prM
  rw [takeB_snoc h, List.filter_append, List.drop_eq_getElem_cons hk, (List.getElem?_eq_some_iff.1 h).2]
  simp [hp]
theorem prM_no {S : List Dig} {Z : List (Dig × Value)} {k : Nat} {p : Dig × Value} (h : Z[k]? = some p) (hp : ¬ p.1 ∈ S) (hn : (Z.map (fun p => p.1)).Nodup) : delK p.1 (prM S Z k) = prM S Z (k + 1) := by
  have hk : k < Z.length := (List.getElem?_eq_some_iff.1 h).1
  unfold prM
  rw [takeB_snoc h, List.filter_append, List.drop_eq_getElem_cons hk, (List.getElem?_eq_some_iff.1 h).2]
  obtain ⟨e, v⟩ := p
  rw [delK_mid (fun q hq => ?_)]
  · simp [hp]
  · intro he
    have hq2 := (List.mem_filter.1 hq).1
    obtain ⟨j, hj, hje⟩ := List.mem_iff_getElem.1 hq2
    rw [List.length_take] at hj
    rw [List.getElem_take] at hje
    have h1 : (Z.map (fun p => p.1))[j]? = some e := by rw [List.getElem?_map, List.getElem?_eq_getElem (by omega), hje]; exact congrArg some he
    have h2 : (Z.map (fun p => p.1))[k]? = some e := by rw [List.getElem?_map, h]; rfl
    have hjk : j = k := (List.getElem?_inj (by rw [List.length_map]; omega) hn).1 (h1.trans h2.symm)
    omega
def cssF (S : List Dig) (l : List (Dig × Block)) (css : List (List Value)) : List (List Value) := ((l.zip css).filter (fun p => decide (p.1.1 ∈ S))).map (fun p => p.2)
theorem nodeV_filter (S : List Dig) : ∀ {l : List (Dig × Block)} {css : List (List Value)}, css.length = l.length → (nodeV l css).filter (fun p => decide (p.1 ∈ S)) = nodeV (l.filter fun p => decide (p.1 ∈ S)) (cssF S l css) ∧ (cssF S l css).length = (l.filter fun p => decide (p.1 ∈ S)).length
  | [], [], _ => ⟨rfl, rfl⟩
  | [], _ :: _, h => by simp at h
  | _ :: _, [], h => by simp at h
  | p :: l, c :: css, h => by
    have ih := nodeV_filter S (l := l) (css := css) (by simpa using h)
    by_cases hp : p.1 ∈ S
    · refine ⟨?_, ?_⟩
      · have := ih.1
        simp only [nodeV, cssF] at this ⊢
        simp [hp, this]
      · have := ih.2
        simp only [cssF] at this ⊢
        simp [hp, this]
    · refine ⟨?_, ?_⟩
      · have := ih.1
        simp only [nodeV, cssF] at this ⊢
        simp [hp, this]
      · have := ih.2
        simp only [cssF] at this ⊢
        simp [hp, this]
theorem cssF_at {S : List Dig} {l : List (Dig × Block)} {css : List (List Value)} : ∀ {i : Nat} {c : List Value} {x : Dig × Block}, (cssF S l css)[i]? = some c → (l.filter fun p => decide (p.1 ∈ S))[i]? = some x → ∃ j : Nat, css[j]? = some c ∧ l[j]? = some x := by
  induction l generalizing css with
  | nil => intro i c x h; simp [cssF] at h
  | cons p l ih =>
    intro i c x h hx
    cases css with
    | nil => simp [cssF] at h
    | cons d css =>
      by_cases hp : p.1 ∈ S
      · simp only [cssF, List.zip_cons_cons, List.filter_cons, hp, decide_true, if_true, List.map_cons] at h hx
        match i with
        | 0 => simp at h hx; exact ⟨0, by simp [h], by simp [hx]⟩
        | i + 1 =>
          simp only [List.getElem?_cons_succ] at h hx
          obtain ⟨j, h1, h2⟩ := ih (css := css) h hx
          exact ⟨j + 1, by simpa using h1, by simpa using h2⟩
      · simp only [cssF, List.zip_cons_cons, List.filter_cons, hp, decide_false, Bool.false_eq_true, if_false] at h hx
        obtain ⟨j, h1, h2⟩ := ih (css := css) h hx
        exact ⟨j + 1, by simpa using h1, by simpa using h2⟩
/-- Certificates as cells and keys. -/
def qzL (qss : List (List Value)) (cs : List QC) : List Cel := qss.zip (cs.map fun q => q.block)
theorem qz_filter (S : List Dig) : ∀ {cs : List QC} {qss : List (List Value)}, qss.length = cs.length → (kpL S (qzL qss cs)).length = (cs.filter fun q => decide (q.block ∈ S)).length
  | [], [], _ => rfl
  | [], _ :: _, h => by simp at h
  | _ :: _, [], h => by simp at h
  | q :: cs, c :: qss, h => by
    have ih := qz_filter S (cs := cs) (qss := qss) (by simpa using h)
    simp only [kpL, qzL] at ih ⊢
    by_cases hp : q.block ∈ S <;> simp [hp, ih]
theorem qz_at {S : List Dig} {cs : List QC} {qss : List (List Value)} : ∀ {i : Nat} {c : List Value} {x : QC}, ((kpL S (qzL qss cs)).map (fun p => p.1))[i]? = some c → (cs.filter fun q => decide (q.block ∈ S))[i]? = some x → ∃ j : Nat, qss[j]? = some c ∧ cs[j]? = some x := by
  induction cs generalizing qss with
  | nil => intro i c x h; simp [qzL, kpL] at h
  | cons p l ih =>
    intro i c x h hx
    cases qss with
    | nil => simp [qzL, kpL] at h
    | cons d css =>
      by_cases hp : p.block ∈ S
      · simp only [qzL, kpL, List.map_cons, List.zip_cons_cons, List.filter_cons, hp, decide_true, if_true] at h hx
        match i with
        | 0 => simp at h hx; exact ⟨0, by simp [h], by simp [hx]⟩
        | i + 1 =>
          simp only [List.getElem?_cons_succ] at h hx
          obtain ⟨j, h1, h2⟩ := ih (qss := css) h hx
          exact ⟨j + 1, by simpa using h1, by simpa using h2⟩
      · simp only [qzL, kpL, List.map_cons, List.zip_cons_cons, List.filter_cons, hp, decide_false, Bool.false_eq_true, if_false] at h hx
        obtain ⟨j, h1, h2⟩ := ih (qss := css) h hx
        exact ⟨j + 1, by simpa using h1, by simpa using h2⟩
theorem qz_map {qss : List (List Value)} {cs : List QC} (h : qss.length = cs.length) : (qzL qss cs).map (fun p => p.1) = qss := by unfold qzL; rw [List.map_fst_zip]; simp [h]
def dzL (l : List Dig) : List Cel := l.map fun d => (dc d, d)
theorem dz_map (l : List Dig) : (dzL l).map (fun p => p.1) = l.map dc := by simp [dzL]
theorem dz_filter (S l : List Dig) : kpL S (dzL l) = dzL (l.filter fun d => decide (d ∈ S)) := by unfold kpL dzL; rw [List.filter_map]; rfl
theorem keys_filter (t : Tr) (S : List Dig) : (t.nodes.filter fun p => decide (p.1 ∈ S)).map (fun p => p.1) = (keysT t).filter fun d => decide (d ∈ S) := by unfold keysT; rw [List.filter_map]; rfl
theorem mkS_new {l : List Dig} {e : Dig} (h : ¬ e ∈ l) : putK e (.bool true) (mkS l) = mkS (l ++ [e]) := by
  have : ∀ i, atK e (mkS l) i = none := by
    induction l with
    | nil => intro i; rfl
    | cons a l ih =>
      intro i
      simp only [mkS, List.map_cons, atK]
      rw [if_neg (fun hh => h (by simp [hh]))]
      exact ih (fun hh => h (by simp [hh])) _
  rw [(atK_none (v := .bool true) (this 0)).1]; simp [mkS]
theorem below_new {t : Tr} (hok : TOk t) {d e : Dig} {i : Nat} (h : (belowL t d)[i]? = some e) : ¬ e ∈ d :: (belowL t d).take i := fun hm => by
  have hi : i < (belowL t d).length := (List.getElem?_eq_some_iff.1 h).1
  rcases List.mem_cons.1 hm with rfl | hm
  · have h2 := (List.mem_filter.1 (List.mem_of_getElem? h)).2
    exact (of_decide_eq_true h2).2 rfl
  · have hn : (belowL t d).Nodup := hok.nd.filter _
    obtain ⟨j, hj, hje⟩ := List.mem_iff_getElem.1 hm
    rw [List.length_take] at hj
    rw [List.getElem_take] at hje
    have hji : j = i := (List.getElem?_inj (by omega) hn).1 (by rw [List.getElem?_eq_getElem (by omega), hje, h])
    omega
theorem mkS_next {t : Tr} (hok : TOk t) {d e : Dig} {i : Nat} (h : (belowL t d)[i]? = some e) : putK e (.bool true) (mkS (d :: (belowL t d).take i)) = mkS (d :: (belowL t d).take (i + 1)) := by
  rw [mkS_new (below_new hok h), takeB_snoc h]; rfl

end Go.Proofs.YtheonhgffglegaaDoor

/- Walks, by program (wg.py) out of a spec. -/
namespace Go.Proofs.YtheonhgffglegaaDoor
open Go
set_option linter.unusedVariables false
set_option linter.unusedSimpArgs false


section
variable {P : Program} {w0 : World} {F0 : Nat → Prop} {L : List Res} {Q : Exit → Act → World → Prop} {n : Fm} {env : Env} {ops : Array Oper} {rest : List Oper} {t : Tmp} {ty : TypeId} {pos : String} {af : Array Edge} {gd : Option (Nat × Bool)}
variable {α : Type} [DecidableEq α] {K : α → Value}
theorem gl_deleteN {x y : Operand} {T kt kt' e g : Nat} {l : List (α × Value)} {L' : List Res} {key : α} [KeyT P kt K] (hw : Wt ops n env ⟨none, .call ⟨.builtin .delete, #[x, y], #[T, kt']⟩, ty, pos, af, gd⟩ true) (hx : ev n env x = .map (some g)) (hy : ev n env y = K key)
    (hm : P.underlying T = some (.map kt e)) (hp : Pick L (mapR g (encK K l)) L') (k : Gl P w0 F0 (mapR g (encK K (delK key l)) :: L') ops Q rest n env) : Gl P w0 F0 L ops Q (⟨none, .call ⟨.builtin .delete, #[x, y], #[T, kt']⟩, ty, pos, af, gd⟩ :: rest) n env :=
  gl_eff (v := .tuple #[]) hw (fun w hst => by
    obtain ⟨es, clock, hh, hk, hb, hn⟩ := hst.mapAt hp
    have hlt : g < w.heap.size := (Array.getElem?_eq_some_iff.1 hh).1
    have hf := KeyT.find (P := P) (T := kt) (K := K) w key es.toList l hk
    have hc := KeyT.check (P := P) (T := kt) (K := K) w es.isEmpty key
    cases ha : atK key l 0 with
    | none =>
      refine ⟨{ w with heap := w.heap.setIfInBounds g (.map es clock) }, ?_, hst.setR hp (fun F h => ⟨(h.1 g).2 rfl, hlt⟩) (fun w' F h hg' _ => ⟨h.1, _, _, hg', by rw [delK_none ha]; exact hk, hb, hn⟩)⟩
      simp only [execOp, resolve, invoke, builtin, Builtin.delete_, hx, hy]
      simp [hx, hy, Builtin.delete_, run_underlying hm, MapKept.run_getObj_map hh, hc, hf, ha, MapKept.run_setObj_map _ hh]
    | some p =>
      obtain ⟨j, u0⟩ := p
      obtain ⟨m, rfl, h2, _, h3⟩ := atK_some (v := .nilIface) ha
      rw [Nat.zero_add] at ha
      have htl : (es.eraseIdxIfInBounds m).toList = es.toList.eraseIdx m := by simp
      refine ⟨{ w with heap := w.heap.setIfInBounds g (.map (es.eraseIdxIfInBounds m) clock) }, ?_, hst.setR hp (fun F h => ⟨(h.1 g).2 rfl, hlt⟩) (fun w' F h hg' _ => ⟨h.1, _, _, hg', ?_, ?_, ?_⟩)⟩
      · simp only [execOp, resolve, invoke, builtin, Builtin.delete_, hx, hy]
        simp [hx, hy, Builtin.delete_, run_underlying hm, MapKept.run_getObj_map hh, hc, hf, ha, MapKept.run_setObj_map _ hh]
      · rw [h3, encK_erase, ← hk, kvs, kvs, htl, map_eraseIdx]
      · intro z hz
        rw [htl] at hz
        exact hb z (List.mem_of_mem_eraseIdx hz)
      · rw [htl]
        exact (List.eraseIdx_sublist es.toList m).map _ |>.nodup hn) k
end

def outK (t : Tr) (d : Dig) (k : Nat) : List Dig := ((keysT t).take k).filter fun i => decide (i ∉ staysL t d)
theorem outK_all (t : Tr) (d : Dig) : outK t d t.nodes.length = pruneOut t d := by unfold outK pruneOut; rw [List.take_of_length_le (by simp [keysT])]
theorem outK_yes {t : Tr} {d e : Dig} {k : Nat} (h : (keysT t)[k]? = some e) (hn : ¬ e ∈ staysL t d) : outK t d (k + 1) = outK t d k ++ [e] := by unfold outK; rw [takeB_snoc h, List.filter_append]; simp [hn]
theorem outK_no {t : Tr} {d e : Dig} {k : Nat} (h : (keysT t)[k]? = some e) (hn : e ∈ staysL t d) : outK t d (k + 1) = outK t d k := by unfold outK; rw [takeB_snoc h, List.filter_append]; simp [hn]
theorem outK_len (t : Tr) (d : Dig) (k : Nat) : (outK t d k).length ≤ t.nodes.length := by
  have h1 := List.length_filter_le (fun i => decide (i ∉ staysL t d)) ((keysT t).take k)
  rw [List.length_take] at h1
  have : (keysT t).length = t.nodes.length := by simp [keysT]
  unfold outK; omega
theorem nodeV_at {t : Tr} {css : List (List Value)} (hl : css.length = t.nodes.length) {k : Nat} {e : Dig} (h : (keysT t)[k]? = some e) : ∃ v, (nodeV t.nodes css)[k]? = some (e, v) := by
  have hk : k < t.nodes.length := by have := (List.getElem?_eq_some_iff.1 h).1; simpa [keysT] using this
  refine ⟨(css.map fun c => Value.agg c.toArray)[k]'(by rw [List.length_map]; omega), ?_⟩
  unfold nodeV
  rw [List.getElem?_zip_eq_some]
  exact ⟨h, List.getElem?_eq_getElem _⟩
theorem nodeV_keys {t : Tr} {css : List (List Value)} (hl : css.length = t.nodes.length) : (nodeV t.nodes css).map (fun p => p.1) = keysT t := by
  unfold nodeV keysT; rw [List.map_fst_zip]; simp [hl]
theorem nodeV_length {t : Tr} {css : List (List Value)} (hl : css.length = t.nodes.length) : (nodeV t.nodes css).length = t.nodes.length := by simp [nodeV, hl]
theorem prune_shut {q : Nat} {t : Tr} {d : Dig} {g : Nat} {ao : Option Addr} {co : Nat} {ac : Option Addr} {cc : Nat} {css qss : List (List Value)} {w : World} {F : Nat → Prop} (h19 : ∀ c ∈ qss, List.length c = 19) (hcl : css.length = t.nodes.length) (hql : qss.length = t.certs.length)
    (h : stars [blk q 61 (dc d ++ [.map (some g), .slice ao ((keysT t).filter fun e => decide (e ∈ staysL t d)).length co, .slice ac (t.certs.filter fun x => decide (x.block ∈ staysL t d)).length cc]), mapR g (encK digV (prM (staysL t d) (nodeV t.nodes css) t.nodes.length)), ElR RdBlock css (t.nodes.map (fun p => p.2)), rowR 26 16 ao ((keysT t).filter fun e => decide (e ∈ staysL t d)).length co (((keysT t).filter fun e => decide (e ∈ staysL t d)).map dc).flatten,
      rowR 29 19 ac (t.certs.filter fun x => decide (x.block ∈ staysL t d)).length cc ((kpL (staysL t d) (qzL qss t.certs)).map (fun p => p.1)).flatten, ElR RdQC qss t.certs] w F) : stars [TreeR q (prunedT t d)] w F := by
  have hkf : ((keysT t).filter fun e => decide (e ∈ staysL t d)).length = (t.nodes.filter fun p => decide (p.1 ∈ staysL t d)).length := by rw [← keys_filter, List.length_map]
  have hnv := nodeV_filter (staysL t d) hcl
  have hqf := qz_filter (staysL t d) hql
  rw [prM_all (nodeV_length hcl), hnv.1, hkf, ← keys_filter] at h
  obtain ⟨F1, R1, h1, k1, e1, d1⟩ := h
  obtain ⟨F2, R2, h2, k2, e2, d2⟩ := k1
  obtain ⟨F3, R3, ⟨⟨h3l, h3⟩, h3o⟩, k3, e3, d3⟩ := k2
  obtain ⟨F4, R4, h4, k4, e4, d4⟩ := k3
  obtain ⟨F5, R5, h5, k5, e5, d5⟩ := k4
  obtain ⟨F6, R6, ⟨⟨h6l, h6⟩, h6o⟩, k6, e6, d6⟩ := k5
  refine tree_shut (g := g) (ao := ao) (co := co) (ac := ac) (cc := cc) (css := cssF (staysL t d) t.nodes css) (qss := (kpL (staysL t d) (qzL qss t.certs)).map (fun p => p.1)) (fun c hc => ?_) ?_
  · obtain ⟨p, hp, rfl⟩ := List.mem_map.1 hc
    have := (List.mem_filter.1 hp).1
    exact h19 _ (by obtain ⟨a, b⟩ := p; exact (List.of_mem_zip this).1)
  · exact ⟨F1, R1, h1, ⟨F2, R2, h2, ⟨F3, R3, ⟨⟨by simp [prunedT, hnv.2], fun i c x hc hx => by
      simp only [prunedT, List.getElem?_map, Option.map_eq_some_iff] at hx
      obtain ⟨y, hy, rfl⟩ := hx
      obtain ⟨j, h1, h2⟩ := cssF_at hc hy
      exact h3 j c y.2 h1 (by rw [List.getElem?_map, h2]; rfl)⟩, h3o⟩, ⟨F4, R4, h4, ⟨F5, R5, h5, ⟨F6, R6, ⟨⟨by rw [List.length_map, hqf]; rfl, fun i c x hc hx => by
      obtain ⟨j, h1, h2⟩ := qz_at hc hx
      exact h6 j c x h1 h2⟩, h6o⟩, k6, e6, d6⟩, e5, d5⟩, e4, d4⟩, e3, d3⟩, e2, d2⟩, e1, d1⟩
section
variable {w : World} {F : Nat → Prop} {a : Option Addr} {n c bm gm : Nat} {l : List Dig}
theorem prD_ok {ks : List Dig} (h : stars [blk bm 72 [.map (some gm)], mapR gm (encK digV (mkS l)), rowR 26 16 a n c (ks.map dc).flatten] w F) (hn : n = ks.length) (hb : n ≤ 1099511627776) :
    Calls Tryd.prog 26 #[.slice a n c, .func (.func 27) #[] #[.pointer (some ⟨bm, 0, none⟩)]] w (Post w F (fun _ : Unit => .slice a (ks.filter fun e => decide (e ∈ l)).length c) (fun _ => [blk bm 72 [.map (some gm)], mapR gm (encK digV (mkS l)), rowR 26 16 a (ks.filter fun e => decide (e ∈ l)).length c ((ks.filter fun e => decide (e ∈ l)).map dc).flatten])) := by
  have hl : n = (dzL ks).length := by rw [hn]; simp [dzL]
  subst hl
  have h1 := delD_ok (l := l) (zs := dzL ks) (a := a) (c := c) (bm := bm) (gm := gm) (by rw [dz_map]; exact h) (fun p hp => by
    obtain ⟨d, _, rfl⟩ := List.mem_map.1 hp
    exact ⟨dc_length d, dc_one d, rfl⟩) hb
  rw [dz_filter, dz_map] at h1
  have h2 : ∀ ks : List Dig, (dzL ks).length = ks.length := fun ks => by simp [dzL]
  rw [h2 (ks.filter fun e => decide (e ∈ l))] at h1
  exact h1
theorem prQ_ok {cs : List QC} {qss : List (List Value)} (h : stars [blk bm 72 [.map (some gm)], mapR gm (encK digV (mkS l)), rowR 29 19 a n c qss.flatten] w F) (hn : n = cs.length) (hql : qss.length = cs.length) (h19 : ∀ c ∈ qss, List.length c = 19) (hel : ∀ (i : Nat) c x, qss[i]? = some c → cs[i]? = some x → ∃ w A, RdQC w A c x) (hb : n ≤ 1099511627776) :
    Calls Tryd.prog 28 #[.slice a n c, .func (.func 29) #[] #[.pointer (some ⟨bm, 0, none⟩)]] w (Post w F (fun _ : Unit => .slice a (cs.filter fun x => decide (x.block ∈ l)).length c) (fun _ => [blk bm 72 [.map (some gm)], mapR gm (encK digV (mkS l)), rowR 29 19 a (cs.filter fun x => decide (x.block ∈ l)).length c ((kpL l (qzL qss cs)).map (fun p => p.1)).flatten])) := by
  have hl : n = (qzL qss cs).length := by rw [hn]; simp [qzL, hql]
  subst hl
  have h1 := delQ_ok (l := l) (zs := qzL qss cs) (a := a) (c := c) (bm := bm) (gm := gm) (by rw [qz_map hql]; exact h) (fun p hp => by
    obtain ⟨i, hi, hp⟩ := List.mem_iff_getElem.1 hp
    have hi2 : i < qss.length := by simp [qzL] at hi; omega
    have hi3 : i < cs.length := by omega
    have e : p = (qss[i], (cs[i]).block) := by rw [← hp]; simp [qzL]
    obtain ⟨w', A', hr⟩ := hel i _ _ (List.getElem?_eq_getElem hi2) (List.getElem?_eq_getElem hi3)
    subst e
    exact ⟨h19 _ (List.getElem_mem hi2), hr.one, w', A', _, hr, rfl⟩) hb
  rw [qz_filter l hql] at h1
  exact h1
end

end Go.Proofs.YtheonhgffglegaaDoor

/- Walks, by program (wg.py) out of a spec. -/
namespace Go.Proofs.YtheonhgffglegaaDoor
open Go
set_option linter.unusedVariables false
set_option linter.unusedSimpArgs false

attribute [local irreducible] Gl Gc Gx Gs Runs Wt

attribute [local irreducible] dc qcC blkC idOf TreeR belowB

set_option maxHeartbeats 400000 in
theorem tprune_ok {w : World} {F : Nat → Prop} {q : Nat} {t : Tr} {ea : Nat → Addr} {es : List Nat} [Has es 9] [Has es 12] (hE : GErr es w (fun k => ¬ F k) 139 ea) (h : stars [TreeR q t] w F) (hok : TOk t) {d : Dig} (hS : (lkN d t.nodes).isSome = true) (hC : (certF d t.certs).isSome = true) :
    Calls Tryd.prog 12 #[.pointer (some ⟨q, 0, none⟩), .agg (dc d).toArray] w (Post w F (fun r : Option Addr × Nat => .tuple #[.slice r.1 (pruneOut t d).length r.2, eV 139 ea 0]) (fun r => [TreeR q (prunedT t d), rowR 26 16 r.1 (pruneOut t d).length r.2 ((pruneOut t d).map dc).flatten])) := by
  have hle := hok.le
  have hcl := hok.cl
  have hkl : (keysT t).length = t.nodes.length := by simp [keysT]
  have hd16 : ∀ c ∈ (keysT t).map dc, List.length c = 16 := fun c hc => by obtain ⟨x, _, rfl⟩ := List.mem_map.1 hc; exact dc_length x
  refine g_enterM (env := [(0, .pointer (some ⟨q, 0, none⟩)), (1, .agg (dc d).toArray)]) Tryd.func12 rfl h Tryd.ntmps12 rfl rfl ?_
  refine gsr ?_
  refine gl_tree (by repeat (first | exact Pick.here | apply Pick.there)) (fun g ao co ac cc css qss h19 => ?_)
  refine zbN fun b3 => ?_
  refine gl_fact (fun w' hw => St.elB hw (by repeat (first | exact Pick.here | apply Pick.there))) (fun hel => ?_)
  obtain ⟨cp, hgk, wp, Ap, hrp⟩ := lookP hel.1 hel.2 d
  have icp := Len.of hrp.len
  have jcp := One.of hrp.one
  refine gp zas ?_
  refine gp zas ?_
  refine gnt ?_
  refine gc_seq ?_
  refine gc_seq ?_
  refine gc_regionZ 11 ([blk q 61 (dc t.root ++ [.map (some g), .slice ao t.nodes.length co, .slice ac t.certs.length cc]), mapR g (encK digV (nodeV t.nodes css)), blk b3 26 (dc d)]) ?_
  refine yps 0 rfl zmv ?_
  refine yps 1 rfl znc ?_
  refine yps 2 rfl zfa ?_
  refine yps 3 rfl zl ?_
  refine yps 4 rfl zL ?_
  refine yps 5 rfl (r_val (v' := .tuple #[.agg cp.toArray, .bool (lkN d t.nodes).isSome]) (r_look (K := digV) (l := nodeV t.nodes css) (key := d) (z := .agg blkC.toArray) rfl rfl Ty.un_58 (by kernel_rfl) (by repeat (first | exact Pick.here | apply Pick.there))) hgk) ?_
  refine yps 6 rfl zmv ?_
  refine yps 7 rfl zex ?_
  refine yps 8 rfl zex ?_
  refine yos 9 rfl ?_
  refine zal fun b6 => ?_
  refine gl_eqc (cs' := blkC) (by repeat (first | exact Pick.here | apply Pick.there)) (by kernel_rfl) ?_
  refine yxs ?_
  refine yos 10 rfl ?_
  refine zsA hrp.len hrp.one ?_
  refine yxs ?_
  refine yzs rfl ?_
  refine gp zas ?_
  refine gnt ?_
  refine gsr ?_
  refine gp zmv ?_
  refine gp (r_bool (c := false) znt (by rw [hS]; rfl)) ?_
  refine gnt ?_
  refine gc_condF rfl rfl ?_
  refine gc_skip ?_
  refine gx_then ?_
  refine gc_seq ?_
  refine gc_seq ?_
  refine gc_conv (M := [blk q 61 (dc t.root ++ [.map (some g), .slice ao t.nodes.length co, .slice ac t.certs.length cc]), mapR g (encK digV (nodeV t.nodes css)), ElR RdBlock css (t.nodes.map (fun p => p.2)), rowR 26 16 ao t.nodes.length co ((keysT t).map dc).flatten, rowR 29 19 ac t.certs.length cc qss.flatten, ElR RdQC qss t.certs]) (N := [TreeR q t]) (by repeat (first | exact Sel.nil | (apply Sel.cons; · (repeat (first | exact Pick.here | apply Pick.there))))) (fun _ _ h => stars_tshut h19 h) ?_
  refine gc_region ?_
  refine gp zmv ?_
  refine gp zL ?_
  refine zc (fun x30 => ?_) (c := fun w1 F1 F2 h1 h2 hd hst => tcert_ok (d := d) (tr_rd h2 hd (by repeat (first | exact Pick.here | apply Pick.there))) hok h1)
  refine gl_pureR (fun hx30 => ?_)
  obtain ⟨hl30, ho30⟩ := hx30
  replace hl30 : x30.length = 19 := hl30
  have i30 := Len.of hl30
  have j30 := One.of (show ∀ v ∈ x30, v.oneCell' = true from ho30)
  refine gp zmv ?_
  refine gp zex ?_
  refine gp zex ?_
  refine zal fun b8 => ?_
  refine gl_eqc (cs' := qcC) (by repeat (first | exact Pick.here | apply Pick.there)) (by kernel_rfl) ?_
  refine zsN ?_
  refine gp zas ?_
  refine gnt ?_
  refine gsr ?_
  refine gp zmv ?_
  refine gp (r_bool (c := false) znt (by rw [hC]; rfl)) ?_
  refine gnt ?_
  refine gc_condF rfl rfl ?_
  refine gc_skip ?_
  refine gx_then ?_
  refine gsr ?_
  refine gl_mkMap (wt0 rfl) (fun g36 => ?_)
  refine gp zL ?_
  refine gl_ins (K := digV) (l := []) (key := d) (v := .bool true) (wt0 rfl) rfl rfl rfl Ty.un_72 (by repeat (first | exact Pick.here | apply Pick.there)) ?_
  refine gl_conv (M := [mapR g36 (encK digV (putK d (.bool true) []))]) (N := [mapR g36 (encK digV (mkS (d :: (belowL t d).take 0)))]) (by repeat (first | exact Sel.nil | (apply Sel.cons; · (repeat (first | exact Pick.here | apply Pick.there))))) (fun _ _ h => h) ?_
  refine gp zmv ?_
  refine zal fun b10 => ?_
  refine zs1 ?_
  refine gnt ?_
  refine gc_seq ?_
  refine gsr ?_
  refine gp zmv ?_
  refine gp zL ?_
  refine zc ?_ (c := fun w1 F1 F2 h1 h2 hd hst => tBelow_ok (d := d) h1)
  rintro ⟨bx, by_⟩
  refine gnt ?_
  refine gc_block ?_
  refine gc_range (own := [blk bx 24 [.pointer (some ⟨q, 0, none⟩)], blk by_ 26 (dc d)]) (fun i => [blk b10 72 [.map (some g36)], mapR g36 (encK digV (mkS (d :: (belowL t d).take i)))]) (fun _ _ => [pureR False]) (by exact rfl) Ty.call_44 (by repeat (first | exact Sel.nil | (apply Sel.cons; · (repeat (first | exact Pick.here | apply Pick.there))))) (by intros; rfl) (fun lp J Jx w1 F1 F2 h1 h2 hd hst => below1_it (tr_rd h2 hd (by repeat (first | exact Pick.here | apply Pick.there))) hok h1) ?_ ?_ ?_
  · intro lp rc rc' i y w1 F1 F2 h1 h2 hd hst
    try dsimp only [List.cons_append, List.nil_append, zipE]
    refine gc_pure1 (p := (belowL t d)[i]? = some y) (by repeat (first | exact Pick.here | apply Pick.there)) (fun hy => ?_)
    refine gc_region ?_
    refine zal fun b11 => ?_
    refine zsN ?_
    refine gl_nil ?_
    refine gx_lp (by repeat (first | exact Pick.here | apply Pick.there)) ?_
    refine gx_begin ?_
    refine gc_block ?_
    refine gc_region ?_
    refine gp zl ?_
    refine gp zL ?_
    refine gl_put (K := digV) (l := mkS (d :: (belowL t d).take i)) (key := y) (v := .bool true) (wt0 rfl) rfl rfl rfl Ty.un_72 (by repeat (first | exact Pick.here | apply Pick.there)) ?_
    rw [mkS_next hok hy]
    refine gl_nil ?_
    refine gx_block_normal ?_
    refine gx_rdn ?_
    exact fun w' hw => hw.sel (by repeat (first | exact Sel.nil | (apply Sel.cons; · (repeat (first | exact Pick.here | apply Pick.there)))))
  · intro bU9 y m hy
    try dsimp only [List.cons_append, List.nil_append]
    obtain rfl : m = (belowL t d).length := by cases y <;> simp_all [allOr]
    refine gx_block_normal ?_
    refine gx_thenM ?_
    refine gc_seq ?_
    refine gc_conv (M := [mapR g36 (encK digV (mkS (d :: (belowL t d).take (belowL t d).length)))]) (N := [mapR g36 (encK digV (mkS (staysL t d)))]) (by repeat (first | exact Sel.nil | (apply Sel.cons; · (repeat (first | exact Pick.here | apply Pick.there))))) (fun _ _ h => by rw [List.take_length] at h; exact h) ?_
    refine gc_region ?_
    refine gp zas ?_
    refine gnt ?_
    refine gc_seq ?_
    refine gc_seq ?_
    refine gc_tree (by repeat (first | exact Pick.here | apply Pick.there)) (fun g ao co ac cc css qss h19 => ?_)
    refine gc_fact (fun w' hw => (St.elB hw (by repeat (first | exact Pick.here | apply Pick.there))).1) (fun hcss => ?_)
    replace hcss : css.length = t.nodes.length := by simpa using hcss
    have hndz : ((nodeV t.nodes css).map (fun p => p.1)).Nodup := by rw [nodeV_keys hcss]; exact hok.nd
    refine gc_region ?_
    refine gp zmv ?_
    refine gp znc ?_
    refine gp zfa ?_
    refine gp zl ?_
    refine gp zln ?_
    refine gp zmv ?_
    refine gnt ?_
    refine gc_block ?_
    refine gc_loop (α := Nat × (Option Addr × Nat) × Nat) (fun y => [pureR (y.1 ≤ t.nodes.length ∧ y.2.2 = (outK t d y.1).length), blk q 61 (dc t.root ++ [.map (some g), .slice ao t.nodes.length co, .slice ac t.certs.length cc]), mapR g (encK digV (prM (staysL t d) (nodeV t.nodes css) y.1)), ElR RdBlock css (t.nodes.map (fun p => p.2)), rowR 26 16 ao t.nodes.length co ((keysT t).map dc).flatten, rowR 29 19 ac t.certs.length cc qss.flatten, ElR RdQC qss t.certs, blk b10 72 [.map (some g36)], mapR g36 (encK digV (mkS (staysL t d))), blk b3 26 (dc d), rowR 26 16 y.2.1.1 y.2.2 y.2.1.2 ((outK t d y.1).map dc).flatten, dfR bU9]) (fun y => [(50, .int .i64 (y.1 : Int)), (12, .slice y.2.1.1 y.2.2 y.2.1.2)]) [14, 51, 52, 53, 54, 55, 56, 57, 58, 59, 60, 61, 62, 63, 64, 65, 66, 67] (fun y => t.nodes.length - y.1) (0, (none, 0), 0) ?_ ?_ ?_
    · refine env_start (by kernel_rfl)
    · intro w' hw
      refine St.pureI (p := 0 ≤ t.nodes.length ∧ 0 = (outK t d 0).length) ⟨Nat.zero_le _, rfl⟩ ?_
      rw [show prM (staysL t d) (nodeV t.nodes css) (0, ((none : Option Addr), 0), 0).1 = nodeV t.nodes css from prM_zero _ _]
      exact hw.rowNil.sel (by repeat (first | exact Sel.nil | (apply Sel.cons; · (repeat (first | exact Pick.here | apply Pick.there)))))
    · intro y u
      obtain ⟨k, ⟨a12, c12⟩, r⟩ := y
      refine gc_pureR (fun hk => ?_)
      obtain ⟨hk, hr⟩ := hk
      replace hk : k ≤ t.nodes.length := hk
      replace hr : r = (outK t d k).length := hr
      have hol := outK_len t d k
      refine gsr ?_
      refine gp zlt ?_
      refine gnt ?_
      refine gc_seq ?_
      refine gif rfl (fun hc51 => ?_) (fun hc51 => ?_)
      · try simp only at hc51
        have hk' : k < t.nodes.length := by omega
        obtain ⟨e, hke⟩ : ∃ e, (keysT t)[k]? = some e := ⟨(keysT t)[k]'(by omega), List.getElem?_eq_getElem (by omega)⟩
        have hkc : ((keysT t).map dc)[k]? = some (dc e) := by rw [List.getElem?_map, hke]; rfl
        obtain ⟨vz, hzk⟩ := nodeV_at hcss hke
        refine gc_fact (fun w' hw => St.rowAt (hw.sel (M := [rowR 26 16 ao t.nodes.length co ((keysT t).map dc).flatten]) (by repeat (first | exact Sel.nil | (apply Sel.cons; · (repeat (first | exact Pick.here | apply Pick.there)))))) .here (by omega)) (fun hra => ?_)
        obtain ⟨_, ga, oa, ha⟩ := hra
        refine gc_skip ?_
        refine gx_then ?_
        refine gc_seq ?_
        refine gc_block ?_
        refine gsr ?_
        refine gp (r_val (v' := .pointer (some ⟨ga, oa + k * 16, none⟩)) (zia (hx := by rw [← ha]; rfl)) (by simp)) ?_
        refine gp (r_ldRow (i := k) (g := ga) (o := oa) rfl Ty.row_26 Ty.sz_26 (by rw [← ha]; exact (by repeat (first | exact Pick.here | apply Pick.there))) hd16 hkc hk') ?_
        refine zal fun b14 => ?_
        refine zsA (dc_length _) (dc_one _) ?_
        refine gnt ?_
        refine gsr ?_
        refine gp zl ?_
        refine gp zL ?_
        refine gp (r_val (v' := .bool (decide (e ∈ (staysL t d)))) (r_look (K := digV) (l := mkS (staysL t d)) (key := e) (z := .bool false) (b := false) rfl rfl Ty.un_72 (by kernel_rfl) (by repeat (first | exact Pick.here | apply Pick.there))) (mkS_get e (staysL t d))) ?_
        refine gp znt ?_
        refine gnt ?_
        refine gif rfl (fun hc57 => ?_) (fun hc57 => ?_)
        · try simp only at hc57
          have hne : ¬ e ∈ (staysL t d) := by simpa using hc57
          have hon := outK_yes hke hne
          have hpn := (prM_no hzk hne hndz).symm
          refine gsr ?_
          refine gp zmv ?_
          refine gp zL ?_
          refine zeN fun b60 => ?_
          have hrx : ((k, ((a12, c12) : Option Addr × Nat), r) : Nat × (Option Addr × Nat) × Nat).2.2 ≤ 16 := (by show r ≤ 16; omega)
          refine zapo (fun a61 c61 => ?_)
          refine gp zas ?_
          refine gnt ?_
          refine gc_regionH ([blk q 61 (dc t.root ++ [.map (some g), .slice ao t.nodes.length co, .slice ac t.certs.length cc]), blk b14 26 (dc e)]) ?_
          refine yp 0 rfl zmv ?_
          refine yp 1 rfl znc ?_
          refine yp 2 rfl zfa ?_
          refine yp 3 rfl zl ?_
          refine yp 4 rfl zL ?_
          refine yo 5 rfl ?_
          refine gl_deleteN (K := digV) (l := prM (staysL t d) (nodeV t.nodes css) k) (key := e) (wt0 rfl) rfl rfl Ty.un_58 (by repeat (first | exact Pick.here | apply Pick.there)) ?_
          refine yx ?_
          refine yd ?_
          refine gx_block_normal ?_
          refine gx_then ?_
          refine gc_region ?_
          refine gp zad ?_
          refine gp zmv ?_
          refine gl_nil ?_
          refine zrd ((k + 1, (a61, c61), r + 1)) ?_ ?_
          · show t.nodes.length - (k + 1) < t.nodes.length - k
            omega
          · simp only [hon, hpn]
            rw [show ((outK t d k ++ [e]).map dc).flatten = ((outK t d k).map dc).flatten ++ dc e by simp]
            exact zlp (show k + 1 ≤ t.nodes.length ∧ r + 1 = (outK t d k ++ [e]).length from ⟨by omega, by simp [hr]⟩)
        · try simp only at hc57
          have hne : e ∈ (staysL t d) := by simpa using hc57
          have hon := outK_no hke hne
          have hpn := prM_yes hzk hne
          refine gc_skip ?_
          refine gx_block_normal ?_
          refine gx_then ?_
          refine gc_region ?_
          refine gp zad ?_
          refine gp zmv ?_
          refine gl_nil ?_
          refine zrd ((k + 1, (a12, c12), r)) ?_ ?_
          · show t.nodes.length - (k + 1) < t.nodes.length - k
            omega
          · simp only [hon, hpn]
            exact zlp (show k + 1 ≤ t.nodes.length ∧ r = (outK t d k).length from ⟨by omega, hr⟩)
      · try simp only at hc51
        obtain rfl : k = t.nodes.length := by omega
        rw [outK_all] at hr
        subst hr
        refine gc_exit ?_
        refine gx_then_exit ?_
        refine gx_round_exit ?_
        refine gx_block_hit ?_
        refine gx_then ?_
        refine gsr ?_
        refine gp zmv ?_
        refine gp zL ?_
        refine gp znc ?_
        refine gp zfa ?_
        refine zsN ?_
        refine gnt ?_
        refine gc_seq ?_
        refine gc_fact (fun w' hw => St.el (rd := RdQC) hw (by repeat (first | exact Pick.here | apply Pick.there))) (fun helq => ?_)
        obtain ⟨hql, helq⟩ := helq
        refine gc_region ?_
        refine gp zmv ?_
        refine gp zmv ?_
        refine gp znc ?_
        refine gp zfa ?_
        refine gp zl ?_
        refine gp zmf ?_
        refine zc (fun _ => ?_) (c := fun w1 F1 F2 h1 h2 hd hst => prD_ok (ks := keysT t) (l := (staysL t d)) (bm := b10) (gm := g36) h1 hkl.symm (by omega))
        refine gp znc ?_
        refine gp zfa ?_
        refine zs1 ?_
        refine gnt ?_
        refine gsr ?_
        refine gp zmv ?_
        refine gp zmv ?_
        refine gp znc ?_
        refine gp zfa ?_
        refine gp zl ?_
        refine gp zmf ?_
        refine zc (fun _ => ?_) (c := fun w1 F1 F2 h1 h2 hd hst => prQ_ok (cs := t.certs) (qss := qss) (l := (staysL t d)) (bm := b10) (gm := g36) h1 rfl hql h19 helq (by omega))
        refine gp znc ?_
        refine gp zfa ?_
        refine zs1 ?_
        refine gnt ?_
        refine gsr ?_
        refine gp zmv ?_
        refine gp zas ?_
        refine gp zas ?_
        refine gnt ?_
        refine gc_ret ?_
        refine gx_mark (by repeat (first | exact Pick.here | apply Pick.there)) ?_
        refine gx_mark0 ?_
        refine gx_ret2 rfl (by conv => lhs; whnf) (by conv => lhs; whnf) ?_
        intro w' hw
        have h3 := hw.conv (M := [blk q 61 (dc d ++ [.map (some g), .slice ao ((keysT t).filter fun e => decide (e ∈ staysL t d)).length co, .slice ac (t.certs.filter fun x => decide (x.block ∈ staysL t d)).length cc]), mapR g (encK digV (prM (staysL t d) (nodeV t.nodes css) t.nodes.length)), ElR RdBlock css (t.nodes.map (fun p => p.2)), rowR 26 16 ao ((keysT t).filter fun e => decide (e ∈ staysL t d)).length co (((keysT t).filter fun e => decide (e ∈ staysL t d)).map dc).flatten, rowR 29 19 ac (t.certs.filter fun x => decide (x.block ∈ staysL t d)).length cc ((kpL (staysL t d) (qzL qss t.certs)).map (fun p => p.1)).flatten, ElR RdQC qss t.certs]) (by repeat (first | exact Sel.nil | (apply Sel.cons; · (repeat (first | exact Pick.here | apply Pick.there))))) (fun _ _ h => prune_shut h19 hcss hql h)
        rw [outK_all] at h3
        exact ⟨(a12, c12), by rw [eV_zero], h3.sel (by repeat (first | exact Sel.nil | (apply Sel.cons; · (repeat (first | exact Pick.here | apply Pick.there)))))⟩
  · exact fun _ _ _ _ _ => gc_noway

end Go.Proofs.YtheonhgffglegaaDoor

/- Walks, by program (wg.py) out of a spec. -/
namespace Go.Proofs.YtheonhgffglegaaDoor
open Go
set_option linter.unusedVariables false
set_option linter.unusedSimpArgs false


/-- A branch: its blocks, their ids, the trees. -/
structure Brn (tx : UInt8) (bl : Nat → Block) (id : Nat → Dig) (T : Nat → Tr) : Prop where
  b0 : bl 0 = g0
  i0 : id 0 = gid
  bs : ∀ k, bl (k + 1) = chB (bl k) (id k) 1 tx
  rd : ∀ k, (bl k).round = (k : Int)
  er : ∀ k, k ≤ 5 → (wBlock (bl k) ⟨0, []⟩).err = 0
  ii : ∀ k, k ≤ 5 → idOf (bl k) = id k
  ok : ∀ k, k ≤ 5 → TOk (T k)
  ad : ∀ k, k < 5 → addE (T k) (bl (k + 1)) 0 (id (k + 1)) = (0, id (k + 1), T (k + 1))

attribute [local irreducible] Gl Gc Gx Gs Runs Wt

attribute [local irreducible] dc qcC blkC idOf TreeR gid fkT genC


end Go.Proofs.YtheonhgffglegaaDoor

/- Walks, by program (wg.py) out of a spec. -/
namespace Go.Proofs.YtheonhgffglegaaDoor
open Go
set_option linter.unusedVariables false
set_option linter.unusedSimpArgs false


def parB (l : List (Dig × Block)) : Bool := (List.range l.length).all fun i => match l[i + 1]? with
  | none => true
  | some x => (List.range (i + 1)).any fun j => match l[j]? with
    | some y => decide (y.1 = x.2.parent)
    | none => false
theorem parB_ok {l : List (Dig × Block)} (h : parB l = true) : ∀ (i : Nat) (d : Dig) (b : Block), l[i + 1]? = some (d, b) → ∃ (j : Nat) (p : Block), j ≤ i ∧ l[j]? = some (b.parent, p) := fun i d b hi => by
  have hlt := (List.getElem?_eq_some_iff.1 hi).1
  have h1 := List.all_eq_true.1 h i (List.mem_range.2 (by omega))
  rw [hi] at h1
  obtain ⟨j, hj, h2⟩ := List.any_eq_true.1 h1
  split at h2
  · rename_i y hy
    have he : y.1 = b.parent := of_decide_eq_true h2
    exact ⟨j, y.2, by have := List.mem_range.1 hj; omega, by rw [hy, ← he]⟩
  · cases h2
theorem lkN_in {d : Dig} {b : Block} : ∀ {l : List (Dig × Block)}, lkN d l = some b → (d, b) ∈ l
  | p :: l, h => by
    unfold lkN at h
    split at h
    · rename_i he; cases h; obtain ⟨x, y⟩ := p; simp at he; subst he; exact List.mem_cons_self
    · exact List.mem_cons_of_mem _ (lkN_in h)
theorem lkN_of {d : Dig} {b : Block} : ∀ {l : List (Dig × Block)}, (l.map (fun p => p.1)).Nodup → (d, b) ∈ l → lkN d l = some b
  | p :: l, hn, h => by
    unfold lkN
    simp only [List.map_cons, List.nodup_cons] at hn
    rcases List.mem_cons.1 h with h | h
    · subst h; simp
    · rw [if_neg]
      · exact lkN_of hn.2 h
      · intro he; exact hn.1 (List.mem_map.2 ⟨_, h, by simp [he]⟩)
theorem pruned_ok {t : Tr} (h : TOk t) {d : Dig} (hh : ((prunedT t d).nodes.head?.map (fun p => p.1)) = some d) (hp : parB (prunedT t d).nodes = true) (hc : 0 < (prunedT t d).certs.length) : TOk (prunedT t d) where
  nd := by rw [show keysT (prunedT t d) = (keysT t).filter (fun e => decide (e ∈ staysL t d)) from keys_filter t (staysL t d)]; exact h.nd.filter _
  hd := by
    cases hn : (prunedT t d).nodes with
    | nil => rw [hn] at hh; cases hh
    | cons p r => rw [hn] at hh; obtain ⟨x, y⟩ := p; simp at hh; subst hh; exact ⟨y, r, rfl⟩
  par := parB_ok hp
  le := Nat.le_trans (List.length_filter_le _ _) h.le
  ce := hc
  cn := (List.filter_sublist.map _).nodup h.cn
  ck := fun q hq => by
    have h1 := List.mem_filter.1 hq
    rw [show keysT (prunedT t d) = (keysT t).filter (fun e => decide (e ∈ staysL t d)) from keys_filter t (staysL t d)]
    exact List.mem_filter.2 ⟨h.ck q h1.1, h1.2⟩
  sb := fun e b he => h.sb e b (lkN_of h.nd (List.mem_filter.1 (lkN_in he)).1)
  sq := fun q hq => h.sq q (List.mem_filter.1 hq).1
end Go.Proofs.YtheonhgffglegaaDoor

/- Plain words: a row of blocks in a tree: the way up from one of them, what is ripe. -/
namespace Go.Proofs.YtheonhgffglegaaDoor
attribute [local irreducible] idOf gid
set_option linter.unusedVariables false
set_option linter.unusedSimpArgs false
section
variable {st : Nat → Int}
theorem ln_inj {k i j : Nat} (hn : (lnD st k).Nodup) (hi : i ≤ k) (hj : j ≤ k) (h : lnI st i = lnI st j) : i = j := by
  have h1 : (lnD st k)[i]? = some (lnI st i) := by simp [lnD, show i < k + 1 by omega]
  have h2 : (lnD st k)[j]? = some (lnI st j) := by simp [lnD, show j < k + 1 by omega]
  exact (List.getElem?_inj (by simp [lnD]; omega) hn).1 (by rw [h1, h2, h])
theorem ln_parent (k : Nat) : (lnB st (k + 1)).parent = lnI st k := rfl
def lnUp (st : Nat → Int) : Nat → List (Dig × Block)
  | 0 => [(lnI st 0, lnB st 0)]
  | i + 1 => (lnI st (i + 1), lnB st (i + 1)) :: lnUp st i
theorem ln_ne0 {k i : Nat} (hn : (lnD st k).Nodup) (h : i + 1 ≤ k) : ¬ lnI st (i + 1) = (lnT st k).root := fun e => by
  have e2 : lnI st (i + 1) = lnI st 0 := e.trans (lnI_zero (st := st)).symm
  have := ln_inj hn h (Nat.zero_le _) e2
  omega
attribute [local irreducible] lnB lnI
theorem ln_up {k : Nat} (hn : (lnD st k).Nodup) (hk : k < 16) : ∀ {i : Nat}, i ≤ k → upL (lnT st k) (lnI st i) = lnUp st i
  | 0, h => by
    rw [upL_step (lnT_ok hn hk) (ln_lk hn h), if_pos (show lnI st 0 = (lnT st k).root from lnI_zero)]; rfl
  | i + 1, h => by
    rw [upL_step (lnT_ok hn hk) (ln_lk hn h), if_neg (ln_ne0 hn h), ln_parent, ln_up hn hk (by omega)]; rfl
theorem lnUp_keys (st : Nat → Int) : ∀ i, ((lnUp st i).map fun p => p.1).reverse = (List.range (i + 1)).map (lnI st)
  | 0 => rfl
  | i + 1 => by
    have ih := lnUp_keys st i
    rw [lnUp, List.map_cons, List.reverse_cons, ih, List.range_succ (n := i + 1), List.map_append]; rfl
theorem lnUp_mem {i : Nat} {d : Dig} : d ∈ (lnUp st i).map (fun p => p.1) ↔ ∃ j, j ≤ i ∧ d = lnI st j := by
  rw [← List.mem_reverse, lnUp_keys, List.mem_map]
  constructor
  · rintro ⟨j, hj, rfl⟩; exact ⟨j, by have := List.mem_range.1 hj; omega, rfl⟩
  · rintro ⟨j, hj, rfl⟩; exact ⟨j, List.mem_range.2 (by omega), rfl⟩
/-- The ids from one place to another. -/
def lnR (st : Nat → Int) (a b : Nat) : List Dig := (List.range' a (b - a)).map (lnI st)
theorem filter_path {k : Nat} (hn : (lnD st k).Nodup) : ∀ {i : Nat}, i ≤ k → (((List.range (i + 1)).map (lnI st)).filter fun d => decide (d ≠ gid)) = lnR st 1 (i + 1)
  | 0, _ => by simp [lnR, lnI_zero]
  | i + 1, h => by
    have ih := filter_path hn (i := i) (by omega)
    rw [List.range_succ, List.map_append, List.filter_append, ih]
    have : ¬ lnI st (i + 1) = gid := ln_ne0 hn h
    simp only [List.map_cons, List.map_nil, List.filter_cons, this, ne_eq, not_false_eq_true, decide_true, if_true, List.filter_nil]
    unfold lnR
    rw [show i + 1 + 1 - 1 = (i + 1 - 1) + 1 by omega, List.range'_concat, List.map_append]
    simp [Nat.add_comm]
theorem ln_path {k : Nat} (hn : (lnD st k).Nodup) (hk : k < 16) {i : Nat} (hi : i ≤ k) : pathL (lnT st k) (lnI st i) = lnR st 1 (i + 1) := by
  unfold pathL
  rw [ln_up hn hk hi, ← List.filter_reverse, lnUp_keys]
  exact filter_path hn hi
theorem lnQ_fits (k : Nat) (h : (lnB st k).epoch = 1) : fitsQ ⟨1, (lnB st k).round, lnI st k, []⟩ (lnI st k) (lnB st k) = true := by simp [fitsQ, h]
def ripeOk (st : Nat → Int) (k : Nat) : Prop := 3 ≤ k ∧ (lnB st k).round = (lnB st (k - 1)).round + 1 ∧ (lnB st (k - 1)).round = (lnB st (k - 2)).round + 1
theorem ln_ripe {k : Nat} (hn : (lnD st k).Nodup) (hk : k < 16) (h : ripeOk st k) : ripeL (lnT st k) ⟨1, (lnB st k).round, lnI st k, []⟩ = lnR st 1 (k - 1) := by
  obtain ⟨h3, ha, hb⟩ := h
  obtain ⟨j, rfl⟩ : ∃ j, k = j + 1 + 1 + 1 := ⟨k - 3, by omega⟩
  simp only [show j + 1 + 1 + 1 - 1 = j + 1 + 1 by omega, show j + 1 + 1 + 1 - 2 = j + 1 by omega] at ha hb ⊢
  have hl := ln_lk hn (Nat.le_refl (j + 1 + 1 + 1))
  have hu := ln_up hn hk (Nat.le_refl (j + 1 + 1 + 1))
  unfold ripeL
  simp only [show lkN (lnI st (j + 1 + 1 + 1)) (lnT st (j + 1 + 1 + 1)).nodes = some (lnB st (j + 1 + 1 + 1)) from hl, lnQ_fits _ (ln_epoch _), if_true, hu, lnUp]
  rw [if_pos ⟨trivial, by omega, by omega, ln_ne0 hn (by omega)⟩, ln_path hn hk (by omega)]
theorem ln_unripe {k : Nat} (hn : (lnD st k).Nodup) (hk : k < 16) (h : ¬ ripeOk st k) : ripeL (lnT st k) ⟨1, (lnB st k).round, lnI st k, []⟩ = [] := by
  have hl := ln_lk hn (Nat.le_refl k)
  have hu := ln_up hn hk (Nat.le_refl k)
  unfold ripeL
  simp only [show lkN (lnI st k) (lnT st k).nodes = some (lnB st k) from hl, lnQ_fits _ (ln_epoch _), if_true, hu]
  match k, h with
  | 0, _ => rfl
  | 1, _ => rfl
  | 2, _ =>
    simp only [lnUp]
    rw [if_neg]
    rintro ⟨_, _, _, h4⟩
    exact h4 (lnI_zero (st := st))
  | j + 3, h =>
    simp only [lnUp]
    rw [if_neg]
    rintro ⟨_, h2, h3, _⟩
    have e2 : (lnB st (j + 2)).round = (lnB st (j + 3)).round - 1 := h2
    have e3 : (lnB st (j + 1)).round = (lnB st (j + 3)).round - 2 := h3
    exact h ⟨by omega, by show (lnB st (j + 3)).round = (lnB st (j + 2)).round + 1; omega, by show (lnB st (j + 2)).round = (lnB st (j + 1)).round + 1; omega⟩
end
end Go.Proofs.YtheonhgffglegaaDoor

/- Plain words: a row of blocks in a tree: what is below one of them, what is left when it is pruned. -/
namespace Go.Proofs.YtheonhgffglegaaDoor
attribute [local irreducible] idOf gid lnB lnI
set_option linter.unusedVariables false
set_option linter.unusedSimpArgs false
section
variable {st : Nat → Int}
theorem ln_belowB {k : Nat} (hn : (lnD st k).Nodup) (hk : k < 16) {i p : Nat} (hi : i ≤ k) (hp : p ≤ k) : belowB (lnT st k) (lnI st i) (lnI st p) = decide (p < i) := by
  unfold belowB
  rw [ln_up hn hk hi]
  apply decide_eq_decide.2
  rw [lnUp_mem]
  constructor
  · rintro ⟨⟨j, hj, he⟩, hne⟩
    have := ln_inj hn hp (by omega) he
    subst this
    rcases Nat.lt_or_ge p i with h | h
    · exact h
    · exact absurd (by rw [show i = p by omega]) hne
  · intro h
    exact ⟨⟨p, by omega, rfl⟩, fun e => by have := ln_inj hn hi hp e; omega⟩
theorem range_ge {p : Nat} : ∀ {n : Nat}, (List.range n).filter (fun i => decide (p ≤ i)) = List.range' p (n - p)
  | 0 => by simp
  | n + 1 => by
    rw [List.range_succ, List.filter_append, range_ge]
    by_cases h : p ≤ n
    · rw [show n + 1 - p = (n - p) + 1 by omega, List.range'_concat]
      simp [h, show p + (n - p) = n by omega]
    · simp [h, show n + 1 - p = n - p by omega]
theorem range_lt {p : Nat} : ∀ {n : Nat}, p ≤ n → (List.range n).filter (fun i => decide (¬ p ≤ i)) = List.range' 0 p
  | 0, h => by simp [show p = 0 by omega]
  | n + 1, h => by
    rw [List.range_succ, List.filter_append]
    by_cases h2 : p ≤ n
    · rw [range_lt h2]; simp [h2]
    · obtain rfl : p = n + 1 := by omega
      have : (List.range n).filter (fun i => decide (¬ n + 1 ≤ i)) = List.range n := List.filter_eq_self.2 fun i hi => by have := List.mem_range.1 hi; simp; omega
      rw [this, List.range'_concat]
      simp [List.range_eq_range']
theorem ln_stays {k : Nat} (hn : (lnD st k).Nodup) (hk : k < 16) {i p : Nat} (hi : i ≤ k) (hp : p ≤ k) : lnI st i ∈ staysL (lnT st k) (lnI st p) ↔ p ≤ i := by
  unfold staysL belowL
  rw [List.mem_cons, List.mem_filter, keys_ln, ln_belowB hn hk hi hp]
  constructor
  · rintro (e | ⟨_, h⟩)
    · have := ln_inj hn hi hp e; omega
    · have := of_decide_eq_true h; omega
  · intro h
    by_cases e : i = p
    · exact .inl (by rw [e])
    · exact .inr ⟨List.mem_map.2 ⟨i, List.mem_range.2 (by omega), rfl⟩, decide_eq_true (by omega)⟩
theorem ln_pkeys {k : Nat} (hn : (lnD st k).Nodup) (hk : k < 16) {p : Nat} (hp : p ≤ k) : keysT (prunedT (lnT st k) (lnI st p)) = lnR st p (k + 1) := by
  have e : keysT (prunedT (lnT st k) (lnI st p)) = (keysT (lnT st k)).filter (fun e => decide (e ∈ staysL (lnT st k) (lnI st p))) := by
    unfold keysT prunedT; rw [List.filter_map]; rfl
  rw [e, keys_ln, lnD, List.filter_map, lnR, ← range_ge (n := k + 1)]
  congr 1
  exact List.filter_congr fun i hi => decide_eq_decide.2 (ln_stays hn hk (by have := List.mem_range.1 hi; omega) hp)
theorem ln_pout {k : Nat} (hn : (lnD st k).Nodup) (hk : k < 16) {p : Nat} (hp : p ≤ k) : pruneOut (lnT st k) (lnI st p) = lnR st 0 p := by
  unfold pruneOut
  rw [keys_ln, lnD, List.filter_map, lnR, Nat.sub_zero, ← range_lt (n := k + 1) (by omega)]
  congr 1
  exact List.filter_congr fun i hi => decide_eq_decide.2 (not_congr (ln_stays hn hk (by have := List.mem_range.1 hi; omega) hp))
end
end Go.Proofs.YtheonhgffglegaaDoor

/- The engine, part W: a field of a struct that is at hand as a value; small readings of what is owned. -/
namespace Go.Proofs.YtheonhgffglegaaDoor
open Go
set_option linter.unusedVariables false
set_option linter.unusedSimpArgs false
def fpT (P : Program) (s f : Nat) : Option (Nat × Nat) := (P.underlying s).bind fun d => match d with
  | .struct fs => (fs[f]?).map fun x => (x.type, x.offset)
  | _ => none
section
variable {P : Program} {w0 : World} {F0 : Nat → Prop} {L : List Res} {n : Fm} {env : Env} {ty : TypeId} {pos : String} {af : Array Edge} {gd : Option (Nat × Bool)} {d : Option Tmp}
theorem r_field1 {x : Operand} {S f T k : Nat} {cs : List Value} {v : Value} (hx : ev n env x = .agg cs.toArray) (hf : fpT P S f = some (T, k)) (hr : rowT P T = some false) (hv : cs[k]? = some v) : Runs P w0 F0 L n env ⟨d, .field S x f, ty, pos, af, gd⟩ v := fun w _ => by
  unfold fpT at hf
  cases hu : P.underlying S with
  | none => simp [hu] at hf
  | some dsc =>
    cases dsc <;> simp [hu] at hf
    rename_i fs
    obtain ⟨x', hfl, ht, hk⟩ := hf
    subst ht hk
    simp only [execOp, hx, Instr.field, Sem.run_bind, run_underlying hu, Result.andThen_ok, hfl]
    simp [asAgg, run_part1 hr hv]
end
end Go.Proofs.YtheonhgffglegaaDoor

