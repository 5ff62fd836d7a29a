/- Part 5. What is proved: see the last part: for every input the law returns true, and the input reads as it did. -/
import Derived.Test.YtobjojeliibinaaDoorCo4
import Derived.Test.YtobjojeliibinaaDoorCards
import Derived.Test.YtobjojeliibinaaDoorTie
import Derived.Deep.DeepHandedRow
import Derived.Deep.DeepWitnessRowRef
/- Walks, by program (wg.py) out of a spec. -/
namespace Go.Proofs.YtobjojeliibinaaDoor
open Go
set_option linter.unusedVariables false
set_option linter.unusedSimpArgs false

attribute [local irreducible] Gl Gc Gx Gs Runs Wt

attribute [local irreducible] dc qcC blkC idOf TreeR RdBlock RdQC gid fkT genC chC stC lnI lnB lnT lnD on3 st3

set_option maxHeartbeats 400000 in
theorem blocksOnce_ok {w : World} {F : Nat → Prop} {a : Option Addr} {n c : Nat} {l : List Int} {at_ : Int} (h : stars [] w F) {ea : Nat → Addr} {es : List Nat} [Has es 1] [Has es 4] [Has es 8] [Has es 9] [Has es 12] [Has es 14] [Has es 16] [Has es 17] (hE : GErr es w (fun k => ¬ F k) 146 ea) (hK : KR w (fun k => ¬ F k)) (hx : RdRow w (fun k => ¬ F k) 1 a n (l.map (Value.int .i64))) :
    Calls Tryd.prog 3 #[.slice a n c, .int .i64 at_] w (Post w F (fun _ : Unit => .bool true) (fun _ => [])) := by
  have hnl : n = l.length := by have := hx.1; simp at this; omega
  have hmx := hx.2.1
  simp only [maxLen] at hmx
  have hso := st3_ok l
  refine g_enter (env := [(0, .slice a n c), (1, .int .i64 at_)]) Tryd.func3 rfl h Tryd.ntmps3 rfl rfl ?_
  refine gsr ?_
  refine gp zas ?_
  refine gnt ?_
  refine gc_seq ?_
  refine gsr ?_
  refine zc (fun _ => ?_) (c := fun w1 F1 F2 h1 h2 hd hst => alive15_ok h1 (hE.mv hst.still) (hK.mv hst.still))
  refine gp znt ?_
  refine gnt ?_
  refine gc_condF rfl rfl ?_
  refine gc_skip ?_
  refine gx_then ?_
  refine gc_seq ?_
  refine gsr ?_
  refine gp zmv ?_
  refine gp zln ?_
  refine gp zgt ?_
  refine gnt ?_
  refine gif rfl (fun hc25 => ?_) (fun hc25 => ?_)
  · refine gsr ?_
    refine gp zas ?_
    refine gnt ?_
    refine gc_ret ?_
    refine gx_then_ret ?_
    refine gx_ret1 rfl (by conv => lhs; whnf) ?_
    exact ze ()
  · try simp only at hc25
    have hn12 : n ≤ 12 := by omega
    refine gc_skip ?_
    refine gx_then ?_
    refine gsr ?_
    refine zc (fun q => ?_) (c := fun w1 F1 F2 h1 h2 hd hst => genesis15_ok h1 (hE.mv hst.still) (hK.mv hst.still))
    have igen := Len.of genC_len
    have jgen := One.of (rdGen (w := w) (A := fun _ => True)).one
    refine gp zmv ?_
    refine gp zex ?_
    refine gp zex ?_
    refine gp zex ?_
    refine gp zex ?_
    refine zal fun b6 => ?_
    refine gl_eqc (cs' := blkC) (by repeat (first | exact Pick.here | apply Pick.there)) (by kernel_rfl) ?_
    refine zal fun b7 => ?_
    refine gp zas ?_
    refine zsA genC_len One.h ?_
    refine zsN ?_
    refine gp zas ?_
    refine gnt ?_
    refine gc_seq ?_
    refine gsr ?_
    refine gp zmv ?_
    refine gp (r_bool (c := false) znt rfl) ?_
    refine gnt ?_
    refine gc_condF rfl rfl ?_
    refine gc_skip ?_
    refine gx_then ?_
    refine gc_seq ?_
    refine gc_regionZ 4 ([blk b7 26 (dc gid)]) ?_
    refine yps 1 rfl zL ?_
    refine yo2s 0 2 rfl rfl ?_ ?_
    · refine ze0 fun b34 => ?_
      refine yxs ?_
      refine yps 3 rfl zas ?_
      refine yos 2 rfl ?_
      refine zeN fun b36 => ?_
      refine yxs ?_
      refine yzs rfl ?_
      refine gp zas ?_
      refine gnt ?_
      refine gc_seq ?_
      refine gsr ?_
      refine gp zmv ?_
      refine gp zln ?_
      refine gp zmv ?_
      refine gnt ?_
      refine gc_block ?_
      refine gc_loop (α := Nat × (Option Addr × Nat) × (Option Addr × Nat) × List (List Value) × List Value) (fun y => [pureR (y.1 ≤ n ∧ (y.2.2.2.2.length = 39 ∧ ∀ v ∈ y.2.2.2.2, v.oneCell' = true) ∧ (∀ c ∈ y.2.2.2.1, List.length c = 39) ∧ (lnD (st3 l) y.1).Nodup ∧ ∃ w A, RdBlock w A y.2.2.2.2 (lnB (st3 l) y.1)), TreeR q (lnT (st3 l) y.1), blk b6 33 y.2.2.2.2, blk b7 26 (dc (lnI (st3 l) y.1)), rowR 33 39 y.2.1.1 y.1 y.2.1.2 y.2.2.2.1.flatten, ElR RdBlock y.2.2.2.1 (lnA (st3 l) y.1), rowR 26 16 y.2.2.1.1 (y.1 + 1) y.2.2.1.2 ((lnD (st3 l) y.1).map dc).flatten]) (fun y => [(39, .int .i64 (y.1 : Int)), (9, .slice y.2.1.1 y.1 y.2.1.2), (10, .slice y.2.2.1.1 (y.1 + 1) y.2.2.1.2)]) [4, 11, 12, 13, 14, 40, 41, 42, 43, 44, 45, 46, 47, 48, 49, 50, 51, 52, 53, 54, 55, 56, 57, 58, 59, 60, 61, 62, 63, 64, 65, 66, 67, 68, 69, 70, 71, 72, 73, 74, 75, 76, 77, 78, 79, 80, 81, 82, 83, 84] (fun y => n - y.1) (0, (some ⟨b34, 0, none⟩, 0), (some ⟨b36, 0, none⟩, 1), [], genC) ?_ ?_ ?_
      · refine env_start (by kernel_rfl)
      · intro w' hw
        have hw := St.mapL hw (fun F' hF' => el_nil (rd := RdBlock) hF')
        refine St.pureI (p := 0 ≤ n ∧ (genC.length = 39 ∧ ∀ v ∈ genC, v.oneCell' = true) ∧ (∀ c ∈ ([] : List (List Value)), List.length c = 39) ∧ (lnD (st3 l) 0).Nodup ∧ ∃ w A, RdBlock w A genC (lnB (st3 l) 0)) ⟨Nat.zero_le _, ⟨genC_len, One.h⟩, by simp, by simp [lnD, List.range_succ], w, fun _ => True, by rw [lnB_zero]; exact rdGen⟩ ?_
        have e1 : lnT (st3 l) 0 = fkT 0 0 := lnT_zero
        have e2 : lnI (st3 l) 0 = gid := lnI_zero
        have e3 : ((lnD (st3 l) 0).map dc).flatten = dc gid := by simp [lnD, List.range_succ, e2]
        show St w F [TreeR q (lnT (st3 l) 0), blk b6 33 genC, blk b7 26 (dc (lnI (st3 l) 0)), rowR 33 39 (some ⟨b34, 0, none⟩) 0 0 [], ElR RdBlock [] (lnA (st3 l) 0), rowR 26 16 (some ⟨b36, 0, none⟩) 1 1 ((lnD (st3 l) 0).map dc).flatten] w'
        rw [e1, e2, e3]
        exact hw.sel (by repeat (first | exact Sel.nil | (apply Sel.cons; · (repeat (first | exact Pick.here | apply Pick.there)))))
      · intro y u
        obtain ⟨k, ⟨a9, c9⟩, ⟨a10, c10⟩, css, cs⟩ := y
        refine gc_pureR (fun hk => ?_)
        obtain ⟨hk, ⟨hlc, hoc⟩, hcs, hnd, wq, Aq, hrd⟩ := hk
        replace hk : k ≤ n := hk
        replace hlc : cs.length = 39 := hlc
        replace hcs : ∀ x ∈ css, List.length x = 39 := hcs
        replace hnd : (lnD (st3 l) k).Nodup := hnd
        replace hrd : RdBlock wq Aq cs (lnB (st3 l) k) := hrd
        have ic := Len.of hlc
        have jc := One.of (show ∀ v ∈ cs, v.oneCell' = true from hoc)
        have hrn := ln_round hso k
        refine gsr ?_
        refine gp zlt ?_
        refine gnt ?_
        refine gc_seq ?_
        refine gif rfl (fun hc40 => ?_) (fun hc40 => ?_)
        · try simp only at hc40
          have hk' : k < n := by omega
          obtain ⟨ga, oa, ha, hA, _, hra⟩ := hx.elem hk'
          subst ha
          have hce := hra 0 (.int .i64 (l.getD k 0)) (by simp [List.getElem?_take, List.getD, show k < l.length by omega])
          obtain ⟨hs1, hs2, hs3⟩ := on3_eq (l.getD k 0)
          have hstk := st3_at l k
          refine gc_skip ?_
          refine gx_then ?_
          refine gc_seq ?_
          refine gc_block ?_
          refine gsr ?_
          refine gp zmv ?_
          refine gp (r_val (v' := .pointer (some ⟨ga, oa + k * 1, none⟩)) zia (by simp)) ?_
          refine gp (r_ld1o rfl Ty.row_3 hce hA) ?_
          refine gp zas ?_
          refine gp zas ?_
          refine gnt ?_
          refine gsr ?_
          refine gp (zLa (cs := cs)) ?_
          refine gp zL ?_
          refine gp zmv ?_
          refine gp zci ?_
          refine gp (r_int (j := ((on3 (l.getD k 0) - 1 : Nat) : Int)) zrm hs1) ?_
          refine gp (r_int (j := ((on3 (l.getD k 0) - 1 : Nat) : Int)) zci (wrap_i64 (by omega) (by omega))) ?_
          refine gp (r_int (j := st3 l k) zad (by rw [hstk]; omega)) ?_
          refine gp zmv ?_
          refine gp (r_val zci (txN_eq k)) ?_
          refine zc ?_ (c := fun w1 F1 F2 h1 h2 hd hst => child15_ok (b := lnB (st3 l) k) (id := lnI (st3 l) k) (on := st3 l k) (tx := txN k) h1 hrd (by omega) (by rw [hstk]; omega))
          rintro ⟨b23, b24⟩
          have ich := Len.of (chC_len (lnB (st3 l) k) (lnI (st3 l) k) (st3 l k) b24)
          have jch := One.of (chC_one (lnB (st3 l) k) (lnI (st3 l) k) (st3 l k) b24)
          refine gl_conv (M := [rowR 54 1 (some ⟨b24, 0, none⟩) 1 1 [.slice (some ⟨b23, 0, none⟩) 1 1], rowR 5 1 (some ⟨b23, 0, none⟩) 1 1 [B8 (txN k)]]) (N := [VlR RdBlock (chC (lnB (st3 l) k) (lnI (st3 l) k) ((st3 l) k) b24) (lnB (st3 l) (k + 1))]) (by repeat (first | exact Sel.nil | (apply Sel.cons; · (repeat (first | exact Pick.here | apply Pick.there))))) (fun _ _ => vl_ln) ?_
          refine zsA (chC_len _ _ _ _) (chC_one _ _ _ _) ?_
          refine gnt ?_
          refine gsr ?_
          refine gp (zLa (cs := (chC (lnB (st3 l) k) (lnI (st3 l) k) ((st3 l) k) b24))) ?_
          refine zc (fun _ => ?_) (c := fun w1 F1 F2 h1 h2 hd hst => id_ok (x := lnB (st3 l) (k + 1)) h1 (hE.mv hst.still) (hK.mv hst.still) (vl_rd h2 hd (by repeat (first | exact Pick.here | apply Pick.there))))
          rw [ln_err hso (k + 1) (by omega), lnI_def]
          refine gp zmv ?_
          refine gp zex ?_
          refine gp zex ?_
          refine zal fun b13 => ?_
          refine zsN ?_
          refine gp zas ?_
          refine gnt ?_
          refine gc_seq ?_
          refine gsr ?_
          refine gp zmv ?_
          refine gp (r_bool (c := false) (r_nenil rfl (by kernel_rfl)) rfl) ?_
          refine gp zmv ?_
          refine gq zmv ?_
          refine gq zL ?_
          refine zc (fun _ => ?_) (c := fun w1 F1 F2 h1 h2 hd hst => has15_ok (d := lnI (st3 l) (k + 1)) (l := lnD (st3 l) k) h1 (digs_of_row (rd_row h2 hd (by repeat (first | exact Pick.here | apply Pick.there)))))
          refine gp zpk ?_
          refine gnt ?_
          refine gif rfl (fun hc65 => ?_) (fun hc65 => ?_)
          · refine gsr ?_
            refine gp zmv ?_
            refine gp (r_bool (c := true) (r_eqnil (k := 0) rfl (by kernel_rfl)) rfl) ?_
            refine gp zas ?_
            refine gnt ?_
            refine gc_ret ?_
            refine gx_then_ret ?_
            refine gx_block_ret ?_
            refine gx_then_ret ?_
            refine gx_round_ret ?_
            refine gx_block_ret ?_
            refine gx_then_ret ?_
            refine gx_ret1 rfl (by conv => lhs; whnf) ?_
            exact ze ()
          · try simp only at hc65
            have hnew : ¬ lnI (st3 l) (k + 1) ∈ lnD (st3 l) k := by simpa using hc65
            refine gc_skip ?_
            refine gx_then ?_
            refine gc_seq ?_
            refine gsr ?_
            refine gp zmv ?_
            refine gp (zLa (cs := (chC (lnB (st3 l) k) (lnI (st3 l) k) ((st3 l) k) b24))) ?_
            refine zc (fun _ => ?_) (c := fun w1 F1 F2 h1 h2 hd hst => tadd_eq (b := lnB (st3 l) (k + 1)) (hE.mv hst.still) (hK.mv hst.still) h1 (lnT_ok hnd (by omega)) (vl_rd h2 hd (by repeat (first | exact Pick.here | apply Pick.there))) (ln_sm _) (ln_err hso (k + 1) (by omega)) (lnI_def _ _) (ln_add hso hnd (by omega) hnew))
            refine gp zmv ?_
            refine gp zex ?_
            refine gp zex ?_
            refine zsN ?_
            refine gp zas ?_
            refine gnt ?_
            refine gsr ?_
            refine gp zmv ?_
            refine gp (r_bool (c := false) (r_nenil rfl (by kernel_rfl)) rfl) ?_
            refine gnt ?_
            refine gc_condF rfl rfl ?_
            refine gc_skip ?_
            refine gx_then ?_
            refine gc_regionZ 9 ([blk b6 33 (chC (lnB (st3 l) k) (lnI (st3 l) k) ((st3 l) k) b24), blk b7 26 (dc (lnI (st3 l) (k + 1)))]) ?_
            refine yps 0 rfl zmv ?_
            refine yps 1 rfl (zLa (cs := (chC (lnB (st3 l) k) (lnI (st3 l) k) ((st3 l) k) b24))) ?_
            refine yps 4 rfl zmv ?_
            refine yps 5 rfl zL ?_
            refine yo2s 2 6 rfl rfl ?_ ?_
            · refine zeN fun b78 => ?_
              refine yxs ?_
              refine yo2s 3 6 rfl rfl ?_ ?_
              · refine zapo (fun a79 c79 => ?_)
                refine yxs ?_
                refine yos 6 rfl ?_
                refine zeN fun b82 => ?_
                refine yxs ?_
                refine yos 7 rfl ?_
                refine zapo (fun a83 c83 => ?_)
                refine yxs ?_
                refine yps 8 rfl zas ?_
                refine yzs rfl ?_
                refine gp zas ?_
                refine gl_nil ?_
                refine gx_block_normal ?_
                refine gx_then ?_
                refine gc_region ?_
                refine gp zad ?_
                refine gp zmv ?_
                refine gl_nil ?_
                refine zrd ((k + 1, (a79, c79), (a83, c83), css ++ [(chC (lnB (st3 l) k) (lnI (st3 l) k) ((st3 l) k) b24)], (chC (lnB (st3 l) k) (lnI (st3 l) k) ((st3 l) k) b24))) ?_ ?_
                · show n - (k + 1) < n - k
                  omega
                · intro w' hw
                  obtain ⟨wv, Av, hvr⟩ := St.vlOfB (cs := (chC (lnB (st3 l) k) (lnI (st3 l) k) ((st3 l) k) b24)) (x := lnB (st3 l) (k + 1)) hw (by repeat (first | exact Pick.here | apply Pick.there))
                  have h3 := hw.conv (M := [ElR RdBlock css (lnA (st3 l) k), VlR RdBlock (chC (lnB (st3 l) k) (lnI (st3 l) k) ((st3 l) k) b24) (lnB (st3 l) (k + 1))]) (by repeat (first | exact Sel.nil | (apply Sel.cons; · (repeat (first | exact Pick.here | apply Pick.there))))) (fun _ _ => el_snoc)
                  refine St.pureI (p := k + 1 ≤ n ∧ _ ∧ _ ∧ _ ∧ _) ⟨by omega, ⟨chC_len _ _ _ _, chC_one _ _ _ _⟩, fun x hx => (by rcases List.mem_append.1 hx with h | h; exact hcs x h; (simp at h; subst h; exact chC_len _ _ _ _)), ln_nodup hnd hnew, wv, Av, hvr⟩ ?_
                  have e1 : (css ++ [(chC (lnB (st3 l) k) (lnI (st3 l) k) ((st3 l) k) b24)]).flatten = css.flatten ++ (chC (lnB (st3 l) k) (lnI (st3 l) k) ((st3 l) k) b24) := by simp
                  have e2 : ((lnD (st3 l) (k + 1)).map dc).flatten = ((lnD (st3 l) k).map dc).flatten ++ dc (lnI (st3 l) (k + 1)) := by rw [lnD_succ]; simp
                  show St w F [TreeR q (lnT (st3 l) (k + 1)), blk b6 33 (chC (lnB (st3 l) k) (lnI (st3 l) k) ((st3 l) k) b24), blk b7 26 (dc (lnI (st3 l) (k + 1))), rowR 33 39 a79 (k + 1) c79 (css ++ [(chC (lnB (st3 l) k) (lnI (st3 l) k) ((st3 l) k) b24)]).flatten, ElR RdBlock (css ++ [(chC (lnB (st3 l) k) (lnI (st3 l) k) ((st3 l) k) b24)]) (lnA (st3 l) (k + 1)), rowR 26 16 a83 (k + 1 + 1) c83 ((lnD (st3 l) (k + 1)).map dc).flatten] w'
                  rw [e1, e2, lnA_succ]
                  exact h3.sel (by repeat (first | exact Sel.nil | (apply Sel.cons; · (repeat (first | exact Pick.here | apply Pick.there)))))
              · refine zeN fun b82 => ?_
                refine yxs ?_
                refine yos 3 rfl ?_
                refine zapo (fun a79 c79 => ?_)
                refine yxs ?_
                refine yos 7 rfl ?_
                refine zapo (fun a83 c83 => ?_)
                refine yxs ?_
                refine yps 8 rfl zas ?_
                refine yzs rfl ?_
                refine gp zas ?_
                refine gl_nil ?_
                refine gx_block_normal ?_
                refine gx_then ?_
                refine gc_region ?_
                refine gp zad ?_
                refine gp zmv ?_
                refine gl_nil ?_
                refine zrd ((k + 1, (a79, c79), (a83, c83), css ++ [(chC (lnB (st3 l) k) (lnI (st3 l) k) ((st3 l) k) b24)], (chC (lnB (st3 l) k) (lnI (st3 l) k) ((st3 l) k) b24))) ?_ ?_
                · show n - (k + 1) < n - k
                  omega
                · intro w' hw
                  obtain ⟨wv, Av, hvr⟩ := St.vlOfB (cs := (chC (lnB (st3 l) k) (lnI (st3 l) k) ((st3 l) k) b24)) (x := lnB (st3 l) (k + 1)) hw (by repeat (first | exact Pick.here | apply Pick.there))
                  have h3 := hw.conv (M := [ElR RdBlock css (lnA (st3 l) k), VlR RdBlock (chC (lnB (st3 l) k) (lnI (st3 l) k) ((st3 l) k) b24) (lnB (st3 l) (k + 1))]) (by repeat (first | exact Sel.nil | (apply Sel.cons; · (repeat (first | exact Pick.here | apply Pick.there))))) (fun _ _ => el_snoc)
                  refine St.pureI (p := k + 1 ≤ n ∧ _ ∧ _ ∧ _ ∧ _) ⟨by omega, ⟨chC_len _ _ _ _, chC_one _ _ _ _⟩, fun x hx => (by rcases List.mem_append.1 hx with h | h; exact hcs x h; (simp at h; subst h; exact chC_len _ _ _ _)), ln_nodup hnd hnew, wv, Av, hvr⟩ ?_
                  have e1 : (css ++ [(chC (lnB (st3 l) k) (lnI (st3 l) k) ((st3 l) k) b24)]).flatten = css.flatten ++ (chC (lnB (st3 l) k) (lnI (st3 l) k) ((st3 l) k) b24) := by simp
                  have e2 : ((lnD (st3 l) (k + 1)).map dc).flatten = ((lnD (st3 l) k).map dc).flatten ++ dc (lnI (st3 l) (k + 1)) := by rw [lnD_succ]; simp
                  show St w F [TreeR q (lnT (st3 l) (k + 1)), blk b6 33 (chC (lnB (st3 l) k) (lnI (st3 l) k) ((st3 l) k) b24), blk b7 26 (dc (lnI (st3 l) (k + 1))), rowR 33 39 a79 (k + 1) c79 (css ++ [(chC (lnB (st3 l) k) (lnI (st3 l) k) ((st3 l) k) b24)]).flatten, ElR RdBlock (css ++ [(chC (lnB (st3 l) k) (lnI (st3 l) k) ((st3 l) k) b24)]) (lnA (st3 l) (k + 1)), rowR 26 16 a83 (k + 1 + 1) c83 ((lnD (st3 l) (k + 1)).map dc).flatten] w'
                  rw [e1, e2, lnA_succ]
                  exact h3.sel (by repeat (first | exact Sel.nil | (apply Sel.cons; · (repeat (first | exact Pick.here | apply Pick.there)))))
            · refine zeN fun b82 => ?_
              refine yxs ?_
              refine yos 2 rfl ?_
              refine zeN fun b78 => ?_
              refine yxs ?_
              refine yos 3 rfl ?_
              refine zapo (fun a79 c79 => ?_)
              refine yxs ?_
              refine yos 7 rfl ?_
              refine zapo (fun a83 c83 => ?_)
              refine yxs ?_
              refine yps 8 rfl zas ?_
              refine yzs rfl ?_
              refine gp zas ?_
              refine gl_nil ?_
              refine gx_block_normal ?_
              refine gx_then ?_
              refine gc_region ?_
              refine gp zad ?_
              refine gp zmv ?_
              refine gl_nil ?_
              refine zrd ((k + 1, (a79, c79), (a83, c83), css ++ [(chC (lnB (st3 l) k) (lnI (st3 l) k) ((st3 l) k) b24)], (chC (lnB (st3 l) k) (lnI (st3 l) k) ((st3 l) k) b24))) ?_ ?_
              · show n - (k + 1) < n - k
                omega
              · intro w' hw
                obtain ⟨wv, Av, hvr⟩ := St.vlOfB (cs := (chC (lnB (st3 l) k) (lnI (st3 l) k) ((st3 l) k) b24)) (x := lnB (st3 l) (k + 1)) hw (by repeat (first | exact Pick.here | apply Pick.there))
                have h3 := hw.conv (M := [ElR RdBlock css (lnA (st3 l) k), VlR RdBlock (chC (lnB (st3 l) k) (lnI (st3 l) k) ((st3 l) k) b24) (lnB (st3 l) (k + 1))]) (by repeat (first | exact Sel.nil | (apply Sel.cons; · (repeat (first | exact Pick.here | apply Pick.there))))) (fun _ _ => el_snoc)
                refine St.pureI (p := k + 1 ≤ n ∧ _ ∧ _ ∧ _ ∧ _) ⟨by omega, ⟨chC_len _ _ _ _, chC_one _ _ _ _⟩, fun x hx => (by rcases List.mem_append.1 hx with h | h; exact hcs x h; (simp at h; subst h; exact chC_len _ _ _ _)), ln_nodup hnd hnew, wv, Av, hvr⟩ ?_
                have e1 : (css ++ [(chC (lnB (st3 l) k) (lnI (st3 l) k) ((st3 l) k) b24)]).flatten = css.flatten ++ (chC (lnB (st3 l) k) (lnI (st3 l) k) ((st3 l) k) b24) := by simp
                have e2 : ((lnD (st3 l) (k + 1)).map dc).flatten = ((lnD (st3 l) k).map dc).flatten ++ dc (lnI (st3 l) (k + 1)) := by rw [lnD_succ]; simp
                show St w F [TreeR q (lnT (st3 l) (k + 1)), blk b6 33 (chC (lnB (st3 l) k) (lnI (st3 l) k) ((st3 l) k) b24), blk b7 26 (dc (lnI (st3 l) (k + 1))), rowR 33 39 a79 (k + 1) c79 (css ++ [(chC (lnB (st3 l) k) (lnI (st3 l) k) ((st3 l) k) b24)]).flatten, ElR RdBlock (css ++ [(chC (lnB (st3 l) k) (lnI (st3 l) k) ((st3 l) k) b24)]) (lnA (st3 l) (k + 1)), rowR 26 16 a83 (k + 1 + 1) c83 ((lnD (st3 l) (k + 1)).map dc).flatten] w'
                rw [e1, e2, lnA_succ]
                exact h3.sel (by repeat (first | exact Sel.nil | (apply Sel.cons; · (repeat (first | exact Pick.here | apply Pick.there)))))
        · try simp only at hc40
          have hk' : k = n := by omega
          subst hk'
          refine gc_exit ?_
          refine gx_then_exit ?_
          refine gx_round_exit ?_
          refine gx_block_hit ?_
          refine gx_then ?_
          refine gsr ?_
          refine gp zmv ?_
          refine zc ?_ (c := fun w1 F1 F2 h1 h2 hd hst => tids_ok (tr_rd h2 hd (by repeat (first | exact Pick.here | apply Pick.there))) (lnT_ok hnd (by omega)) h1)
          rintro ⟨a86, c86⟩
          refine gp zas ?_
          refine gnt ?_
          refine gc_seq ?_
          refine gsr ?_
          refine gp zmv ?_
          refine gp zln ?_
          refine gp zgt ?_
          refine gnt ?_
          refine gif rfl (fun hc89 => ?_) (fun hc89 => ?_)
          · try simp only at hc89
            have hn0 : 0 < k := by omega
            obtain ⟨hi1, hi2⟩ := u64_rem at_ (m := k) hn0
            refine gc_fact (fun w' hw => (St.el (rd := RdBlock) hw (by repeat (first | exact Pick.here | apply Pick.there))).1) (fun hcl => ?_)
            replace hcl : css.length = k := by rw [hcl]; simp [lnA]
            obtain ⟨ix, hix⟩ : ∃ ix, ix = ((IntKind.u64.wrap at_).tmod (k : Int)).toNat := ⟨_, rfl⟩
            rw [← hix] at hi1 hi2
            have hci : css[ix]? = some (css[ix]'(by omega)) := List.getElem?_eq_getElem (by omega)
            generalize hce : css[ix]'(by omega) = ce at hci
            have hl39 := hcs ce (List.mem_of_getElem? hci)
            have ice := Len.of hl39
            refine gc_fact (fun w' hw => (St.el (rd := RdBlock) hw (by repeat (first | exact Pick.here | apply Pick.there))).2 ix ce (lnB (st3 l) (ix + 1)) hci (lnA_at hi2)) (fun hre => ?_)
            obtain ⟨we, Ae, hre⟩ := hre
            have jce := One.of hre.one
            refine gc_fact (fun w' hw => St.rowAt (hw.sel (M := [rowR 33 39 a9 k c9 css.flatten]) (by repeat (first | exact Sel.nil | (apply Sel.cons; · (repeat (first | exact Pick.here | apply Pick.there)))))) .here (by omega)) (fun hra => ?_)
            obtain ⟨_, ga, oa, ha⟩ := hra
            subst ha
            refine gsr ?_
            refine gp zmv ?_
            refine gp zmv ?_
            refine gp zmv ?_
            refine gp zci ?_
            refine gp zmv ?_
            refine gp zln ?_
            refine gp (r_int (j := (k : Int)) zci (wrap_u64 (by omega) (by omega))) ?_
            refine gp (r_int (j := ((ix : Nat) : Int)) zrm hi1) ?_
            refine gp (r_int (j := ((ix : Nat) : Int)) zci (wrap_i64 (by omega) (by omega))) ?_
            refine gp (r_val (v' := .pointer (some ⟨ga, oa + ix * 39, none⟩)) zia (by simp)) ?_
            refine gp (r_ldRow (i := ix) rfl Ty.row_33 Ty.sz_33 (by repeat (first | exact Pick.here | apply Pick.there)) hcs hci hi2) ?_
            refine zc (fun _ => ?_) (c := fun w1 F1 F2 h1 h2 hd hst => tadd_eq (b := lnB (st3 l) (ix + 1)) (hE.mv hst.still) (hK.mv hst.still) h1 (lnT_ok hnd (by omega)) (el_rd h2 hd (by repeat (first | exact Pick.here | apply Pick.there)) hci (lnA_at hi2)) (ln_sm _) (ln_err hso (ix + 1) (by omega)) (lnI_def _ _) (ln_twice (i := ix + 1) hnd (by omega)))
            refine gp zmv ?_
            refine gp zex ?_
            refine gp zex ?_
            refine zal fun b16 => ?_
            refine zsN ?_
            refine gp zas ?_
            refine gnt ?_
            refine gsr ?_
            refine gp zmv ?_
            refine gp (r_bool (c := false) (r_eqnil (k := 17) rfl (by kernel_rfl)) rfl) ?_
            refine gnt ?_
            refine gc_condF rfl rfl ?_
            refine gc_skip ?_
            refine gx_then ?_
            refine gsr ?_
            refine gp (zLa (cs := cs)) ?_
            refine gp zL ?_
            refine zc ?_ (c := fun w1 F1 F2 h1 h2 hd hst => child15_ok (b := lnB (st3 l) k) (id := lnI (st3 l) k) (on := 1) (tx := 99) h1 hrd (by omega) (by decide))
            rintro ⟨b23, b24⟩
            have ich := Len.of (stC_len (lnB (st3 l) k) (lnI (st3 l) k) (lnI (st3 l) k) 1 b24)
            have jch := One.of (stC_one (lnB (st3 l) k) (lnI (st3 l) k) (lnI (st3 l) k) 1 b24)
            rw [stC_ch]
            refine zal fun b18 => ?_
            refine gl_eqc (cs' := blkC) (by repeat (first | exact Pick.here | apply Pick.there)) (by kernel_rfl) ?_
            refine zsA (stC_len _ _ _ _ _) (stC_one _ _ _ _ _) ?_
            refine gnt ?_
            refine gsr ?_
            refine gp zfa ?_
            refine gp zib ?_
            refine gp (zl (v := B8 ((lnI (st3 l) k).l.getD 0 0)) (hv := stC_at _ _ _ _ _)) ?_
            refine gp (r_val (r_add rfl rfl) (b8_succ0 _)) ?_
            refine gp zfa ?_
            refine gp zib ?_
            refine gl_store1 (wt0 rfl) rfl rfl rfl Ty.sz_5 (by repeat (first | exact Pick.here | apply Pick.there)) (by rw [stC_len]; decide) (stC_up1 _ _ _ _ _) ?_
            refine gnt ?_
            refine gsr ?_
            refine gp zfa ?_
            refine gp (zL (sg := dc (bump0 (lnI (st3 l) k))) (hg := stC_par _ _ _ _ _) (hl := dc_length _)) ?_
            refine gp zfa ?_
            refine gp zfa ?_
            refine gl_storeN (wt0 rfl) rfl rfl Ty.sz_26 (dc_length _) (by repeat (first | exact Pick.here | apply Pick.there)) (by rw [stC_len]; decide) (dc_one _) (stC_up2 _ _ _ _ _) ?_
            refine gnt ?_
            refine gc_seq ?_
            refine gsr ?_
            obtain ⟨er, her, hadd⟩ := ln_stray hso hnd (bump0_ne (lnI (st3 l) k)) (lnI (st3 l) k) 1 99 (wBlock (strayB (lnB (st3 l) k) (lnI (st3 l) k) (bump0 (lnI (st3 l) k)) 1 99) ⟨0, []⟩).err (idOf (strayB (lnB (st3 l) k) (lnI (st3 l) k) (bump0 (lnI (st3 l) k)) 1 99))
            refine gp zmv ?_
            refine gp (zLa (cs := stC (lnB (st3 l) k) (bump0 (lnI (st3 l) k)) (bump0 (lnI (st3 l) k)) 1 b24) (hl := stC_len _ _ _ _ _)) ?_
            refine zc (fun _ => ?_) (c := fun w1 F1 F2 h1 h2 hd hst => tadd_any (b := strayB (lnB (st3 l) k) (lnI (st3 l) k) (bump0 (lnI (st3 l) k)) 1 99) (hE.mv hst.still) (hK.mv hst.still) h1 (lnT_ok hnd (by omega)) (rd_stC (rd_row h2 hd (by repeat (first | exact Pick.here | apply Pick.there))) (rd_row h2 hd (by repeat (first | exact Pick.here | apply Pick.there)))) sm_stray hadd)
            refine gp zmv ?_
            refine gp zex ?_
            refine gp zex ?_
            refine zal fun b19 => ?_
            refine zsN ?_
            refine gp zas ?_
            refine gnt ?_
            refine gsr ?_
            refine gp zmv ?_
            refine gp (r_bool (c := false) (r_eqnil (k := er) rfl (by kernel_rfl)) (by simpa using her)) ?_
            refine gp zmv ?_
            refine gn ?_
            refine gn ?_
            refine gn ?_
            refine gn ?_
            refine gn ?_
            refine gp zpk ?_
            refine gnt ?_
            refine gc_condF rfl rfl ?_
            refine gc_skip ?_
            refine gx_then ?_
            refine gsr ?_
            refine gp zmv ?_
            refine zc ?_ (c := fun w1 F1 F2 h1 h2 hd hst => tids_ok (tr_rd h2 hd (by repeat (first | exact Pick.here | apply Pick.there))) (lnT_ok hnd (by omega)) h1)
            rintro ⟨a136, c136⟩
            refine gp zmv ?_
            refine zc (fun _ => ?_) (c := fun w1 F1 F2 h1 h2 hd hst => same03_ok (l1 := keysT (lnT (st3 l) k)) (l2 := keysT (lnT (st3 l) k)) h1 (digs_of_row (rd_row h2 hd (by repeat (first | exact Pick.here | apply Pick.there)))) (digs_of_row (rd_row h2 hd (by repeat (first | exact Pick.here | apply Pick.there)))))
            refine gp zas ?_
            refine gnt ?_
            refine gc_ret ?_
            refine gx_ret1 rfl (by conv => lhs; whnf) ?_
            exact fun w' hw => ⟨(), by simp, hw.sel (by repeat (first | exact Sel.nil | (apply Sel.cons; · (repeat (first | exact Pick.here | apply Pick.there)))))⟩
          · refine gc_skip ?_
            refine gx_then ?_
            refine gsr ?_
            refine gp (zLa (cs := cs)) ?_
            refine gp zL ?_
            refine zc ?_ (c := fun w1 F1 F2 h1 h2 hd hst => child15_ok (b := lnB (st3 l) k) (id := lnI (st3 l) k) (on := 1) (tx := 99) h1 hrd (by omega) (by decide))
            rintro ⟨b23, b24⟩
            have ich := Len.of (stC_len (lnB (st3 l) k) (lnI (st3 l) k) (lnI (st3 l) k) 1 b24)
            have jch := One.of (stC_one (lnB (st3 l) k) (lnI (st3 l) k) (lnI (st3 l) k) 1 b24)
            rw [stC_ch]
            refine zal fun b18 => ?_
            refine gl_eqc (cs' := blkC) (by repeat (first | exact Pick.here | apply Pick.there)) (by kernel_rfl) ?_
            refine zsA (stC_len _ _ _ _ _) (stC_one _ _ _ _ _) ?_
            refine gnt ?_
            refine gsr ?_
            refine gp zfa ?_
            refine gp zib ?_
            refine gp (zl (v := B8 ((lnI (st3 l) k).l.getD 0 0)) (hv := stC_at _ _ _ _ _)) ?_
            refine gp (r_val (r_add rfl rfl) (b8_succ0 _)) ?_
            refine gp zfa ?_
            refine gp zib ?_
            refine gl_store1 (wt0 rfl) rfl rfl rfl Ty.sz_5 (by repeat (first | exact Pick.here | apply Pick.there)) (by rw [stC_len]; decide) (stC_up1 _ _ _ _ _) ?_
            refine gnt ?_
            refine gsr ?_
            refine gp zfa ?_
            refine gp (zL (sg := dc (bump0 (lnI (st3 l) k))) (hg := stC_par _ _ _ _ _) (hl := dc_length _)) ?_
            refine gp zfa ?_
            refine gp zfa ?_
            refine gl_storeN (wt0 rfl) rfl rfl Ty.sz_26 (dc_length _) (by repeat (first | exact Pick.here | apply Pick.there)) (by rw [stC_len]; decide) (dc_one _) (stC_up2 _ _ _ _ _) ?_
            refine gnt ?_
            refine gc_seq ?_
            refine gsr ?_
            obtain ⟨er, her, hadd⟩ := ln_stray hso hnd (bump0_ne (lnI (st3 l) k)) (lnI (st3 l) k) 1 99 (wBlock (strayB (lnB (st3 l) k) (lnI (st3 l) k) (bump0 (lnI (st3 l) k)) 1 99) ⟨0, []⟩).err (idOf (strayB (lnB (st3 l) k) (lnI (st3 l) k) (bump0 (lnI (st3 l) k)) 1 99))
            refine gp zmv ?_
            refine gp (zLa (cs := stC (lnB (st3 l) k) (bump0 (lnI (st3 l) k)) (bump0 (lnI (st3 l) k)) 1 b24) (hl := stC_len _ _ _ _ _)) ?_
            refine zc (fun _ => ?_) (c := fun w1 F1 F2 h1 h2 hd hst => tadd_any (b := strayB (lnB (st3 l) k) (lnI (st3 l) k) (bump0 (lnI (st3 l) k)) 1 99) (hE.mv hst.still) (hK.mv hst.still) h1 (lnT_ok hnd (by omega)) (rd_stC (rd_row h2 hd (by repeat (first | exact Pick.here | apply Pick.there))) (rd_row h2 hd (by repeat (first | exact Pick.here | apply Pick.there)))) sm_stray hadd)
            refine gp zmv ?_
            refine gp zex ?_
            refine gp zex ?_
            refine zal fun b19 => ?_
            refine zsN ?_
            refine gp zas ?_
            refine gnt ?_
            refine gsr ?_
            refine gp zmv ?_
            refine gp (r_bool (c := false) (r_eqnil (k := er) rfl (by kernel_rfl)) (by simpa using her)) ?_
            refine gp zmv ?_
            refine gn ?_
            refine gn ?_
            refine gn ?_
            refine gn ?_
            refine gn ?_
            refine gp zpk ?_
            refine gnt ?_
            refine gc_condF rfl rfl ?_
            refine gc_skip ?_
            refine gx_then ?_
            refine gsr ?_
            refine gp zmv ?_
            refine zc ?_ (c := fun w1 F1 F2 h1 h2 hd hst => tids_ok (tr_rd h2 hd (by repeat (first | exact Pick.here | apply Pick.there))) (lnT_ok hnd (by omega)) h1)
            rintro ⟨a136, c136⟩
            refine gp zmv ?_
            refine zc (fun _ => ?_) (c := fun w1 F1 F2 h1 h2 hd hst => same03_ok (l1 := keysT (lnT (st3 l) k)) (l2 := keysT (lnT (st3 l) k)) h1 (digs_of_row (rd_row h2 hd (by repeat (first | exact Pick.here | apply Pick.there)))) (digs_of_row (rd_row h2 hd (by repeat (first | exact Pick.here | apply Pick.there)))))
            refine gp zas ?_
            refine gnt ?_
            refine gc_ret ?_
            refine gx_ret1 rfl (by conv => lhs; whnf) ?_
            exact fun w' hw => ⟨(), by simp, hw.sel (by repeat (first | exact Sel.nil | (apply Sel.cons; · (repeat (first | exact Pick.here | apply Pick.there)))))⟩
    · refine zeN fun b36 => ?_
      refine yxs ?_
      refine yos 0 rfl ?_
      refine ze0 fun b34 => ?_
      refine yxs ?_
      refine yps 3 rfl zas ?_
      refine yzs rfl ?_
      refine gp zas ?_
      refine gnt ?_
      refine gc_seq ?_
      refine gsr ?_
      refine gp zmv ?_
      refine gp zln ?_
      refine gp zmv ?_
      refine gnt ?_
      refine gc_block ?_
      refine gc_loop (α := Nat × (Option Addr × Nat) × (Option Addr × Nat) × List (List Value) × List Value) (fun y => [pureR (y.1 ≤ n ∧ (y.2.2.2.2.length = 39 ∧ ∀ v ∈ y.2.2.2.2, v.oneCell' = true) ∧ (∀ c ∈ y.2.2.2.1, List.length c = 39) ∧ (lnD (st3 l) y.1).Nodup ∧ ∃ w A, RdBlock w A y.2.2.2.2 (lnB (st3 l) y.1)), TreeR q (lnT (st3 l) y.1), blk b6 33 y.2.2.2.2, blk b7 26 (dc (lnI (st3 l) y.1)), rowR 33 39 y.2.1.1 y.1 y.2.1.2 y.2.2.2.1.flatten, ElR RdBlock y.2.2.2.1 (lnA (st3 l) y.1), rowR 26 16 y.2.2.1.1 (y.1 + 1) y.2.2.1.2 ((lnD (st3 l) y.1).map dc).flatten]) (fun y => [(39, .int .i64 (y.1 : Int)), (9, .slice y.2.1.1 y.1 y.2.1.2), (10, .slice y.2.2.1.1 (y.1 + 1) y.2.2.1.2)]) [4, 11, 12, 13, 14, 40, 41, 42, 43, 44, 45, 46, 47, 48, 49, 50, 51, 52, 53, 54, 55, 56, 57, 58, 59, 60, 61, 62, 63, 64, 65, 66, 67, 68, 69, 70, 71, 72, 73, 74, 75, 76, 77, 78, 79, 80, 81, 82, 83, 84] (fun y => n - y.1) (0, (some ⟨b34, 0, none⟩, 0), (some ⟨b36, 0, none⟩, 1), [], genC) ?_ ?_ ?_
      · refine env_start (by kernel_rfl)
      · intro w' hw
        have hw := St.mapL hw (fun F' hF' => el_nil (rd := RdBlock) hF')
        refine St.pureI (p := 0 ≤ n ∧ (genC.length = 39 ∧ ∀ v ∈ genC, v.oneCell' = true) ∧ (∀ c ∈ ([] : List (List Value)), List.length c = 39) ∧ (lnD (st3 l) 0).Nodup ∧ ∃ w A, RdBlock w A genC (lnB (st3 l) 0)) ⟨Nat.zero_le _, ⟨genC_len, One.h⟩, by simp, by simp [lnD, List.range_succ], w, fun _ => True, by rw [lnB_zero]; exact rdGen⟩ ?_
        have e1 : lnT (st3 l) 0 = fkT 0 0 := lnT_zero
        have e2 : lnI (st3 l) 0 = gid := lnI_zero
        have e3 : ((lnD (st3 l) 0).map dc).flatten = dc gid := by simp [lnD, List.range_succ, e2]
        show St w F [TreeR q (lnT (st3 l) 0), blk b6 33 genC, blk b7 26 (dc (lnI (st3 l) 0)), rowR 33 39 (some ⟨b34, 0, none⟩) 0 0 [], ElR RdBlock [] (lnA (st3 l) 0), rowR 26 16 (some ⟨b36, 0, none⟩) 1 1 ((lnD (st3 l) 0).map dc).flatten] w'
        rw [e1, e2, e3]
        exact hw.sel (by repeat (first | exact Sel.nil | (apply Sel.cons; · (repeat (first | exact Pick.here | apply Pick.there)))))
      · intro y u
        obtain ⟨k, ⟨a9, c9⟩, ⟨a10, c10⟩, css, cs⟩ := y
        refine gc_pureR (fun hk => ?_)
        obtain ⟨hk, ⟨hlc, hoc⟩, hcs, hnd, wq, Aq, hrd⟩ := hk
        replace hk : k ≤ n := hk
        replace hlc : cs.length = 39 := hlc
        replace hcs : ∀ x ∈ css, List.length x = 39 := hcs
        replace hnd : (lnD (st3 l) k).Nodup := hnd
        replace hrd : RdBlock wq Aq cs (lnB (st3 l) k) := hrd
        have ic := Len.of hlc
        have jc := One.of (show ∀ v ∈ cs, v.oneCell' = true from hoc)
        have hrn := ln_round hso k
        refine gsr ?_
        refine gp zlt ?_
        refine gnt ?_
        refine gc_seq ?_
        refine gif rfl (fun hc40 => ?_) (fun hc40 => ?_)
        · try simp only at hc40
          have hk' : k < n := by omega
          obtain ⟨ga, oa, ha, hA, _, hra⟩ := hx.elem hk'
          subst ha
          have hce := hra 0 (.int .i64 (l.getD k 0)) (by simp [List.getElem?_take, List.getD, show k < l.length by omega])
          obtain ⟨hs1, hs2, hs3⟩ := on3_eq (l.getD k 0)
          have hstk := st3_at l k
          refine gc_skip ?_
          refine gx_then ?_
          refine gc_seq ?_
          refine gc_block ?_
          refine gsr ?_
          refine gp zmv ?_
          refine gp (r_val (v' := .pointer (some ⟨ga, oa + k * 1, none⟩)) zia (by simp)) ?_
          refine gp (r_ld1o rfl Ty.row_3 hce hA) ?_
          refine gp zas ?_
          refine gp zas ?_
          refine gnt ?_
          refine gsr ?_
          refine gp (zLa (cs := cs)) ?_
          refine gp zL ?_
          refine gp zmv ?_
          refine gp zci ?_
          refine gp (r_int (j := ((on3 (l.getD k 0) - 1 : Nat) : Int)) zrm hs1) ?_
          refine gp (r_int (j := ((on3 (l.getD k 0) - 1 : Nat) : Int)) zci (wrap_i64 (by omega) (by omega))) ?_
          refine gp (r_int (j := st3 l k) zad (by rw [hstk]; omega)) ?_
          refine gp zmv ?_
          refine gp (r_val zci (txN_eq k)) ?_
          refine zc ?_ (c := fun w1 F1 F2 h1 h2 hd hst => child15_ok (b := lnB (st3 l) k) (id := lnI (st3 l) k) (on := st3 l k) (tx := txN k) h1 hrd (by omega) (by rw [hstk]; omega))
          rintro ⟨b23, b24⟩
          have ich := Len.of (chC_len (lnB (st3 l) k) (lnI (st3 l) k) (st3 l k) b24)
          have jch := One.of (chC_one (lnB (st3 l) k) (lnI (st3 l) k) (st3 l k) b24)
          refine gl_conv (M := [rowR 54 1 (some ⟨b24, 0, none⟩) 1 1 [.slice (some ⟨b23, 0, none⟩) 1 1], rowR 5 1 (some ⟨b23, 0, none⟩) 1 1 [B8 (txN k)]]) (N := [VlR RdBlock (chC (lnB (st3 l) k) (lnI (st3 l) k) ((st3 l) k) b24) (lnB (st3 l) (k + 1))]) (by repeat (first | exact Sel.nil | (apply Sel.cons; · (repeat (first | exact Pick.here | apply Pick.there))))) (fun _ _ => vl_ln) ?_
          refine zsA (chC_len _ _ _ _) (chC_one _ _ _ _) ?_
          refine gnt ?_
          refine gsr ?_
          refine gp (zLa (cs := (chC (lnB (st3 l) k) (lnI (st3 l) k) ((st3 l) k) b24))) ?_
          refine zc (fun _ => ?_) (c := fun w1 F1 F2 h1 h2 hd hst => id_ok (x := lnB (st3 l) (k + 1)) h1 (hE.mv hst.still) (hK.mv hst.still) (vl_rd h2 hd (by repeat (first | exact Pick.here | apply Pick.there))))
          rw [ln_err hso (k + 1) (by omega), lnI_def]
          refine gp zmv ?_
          refine gp zex ?_
          refine gp zex ?_
          refine zal fun b13 => ?_
          refine zsN ?_
          refine gp zas ?_
          refine gnt ?_
          refine gc_seq ?_
          refine gsr ?_
          refine gp zmv ?_
          refine gp (r_bool (c := false) (r_nenil rfl (by kernel_rfl)) rfl) ?_
          refine gp zmv ?_
          refine gq zmv ?_
          refine gq zL ?_
          refine zc (fun _ => ?_) (c := fun w1 F1 F2 h1 h2 hd hst => has15_ok (d := lnI (st3 l) (k + 1)) (l := lnD (st3 l) k) h1 (digs_of_row (rd_row h2 hd (by repeat (first | exact Pick.here | apply Pick.there)))))
          refine gp zpk ?_
          refine gnt ?_
          refine gif rfl (fun hc65 => ?_) (fun hc65 => ?_)
          · refine gsr ?_
            refine gp zmv ?_
            refine gp (r_bool (c := true) (r_eqnil (k := 0) rfl (by kernel_rfl)) rfl) ?_
            refine gp zas ?_
            refine gnt ?_
            refine gc_ret ?_
            refine gx_then_ret ?_
            refine gx_block_ret ?_
            refine gx_then_ret ?_
            refine gx_round_ret ?_
            refine gx_block_ret ?_
            refine gx_then_ret ?_
            refine gx_ret1 rfl (by conv => lhs; whnf) ?_
            exact ze ()
          · try simp only at hc65
            have hnew : ¬ lnI (st3 l) (k + 1) ∈ lnD (st3 l) k := by simpa using hc65
            refine gc_skip ?_
            refine gx_then ?_
            refine gc_seq ?_
            refine gsr ?_
            refine gp zmv ?_
            refine gp (zLa (cs := (chC (lnB (st3 l) k) (lnI (st3 l) k) ((st3 l) k) b24))) ?_
            refine zc (fun _ => ?_) (c := fun w1 F1 F2 h1 h2 hd hst => tadd_eq (b := lnB (st3 l) (k + 1)) (hE.mv hst.still) (hK.mv hst.still) h1 (lnT_ok hnd (by omega)) (vl_rd h2 hd (by repeat (first | exact Pick.here | apply Pick.there))) (ln_sm _) (ln_err hso (k + 1) (by omega)) (lnI_def _ _) (ln_add hso hnd (by omega) hnew))
            refine gp zmv ?_
            refine gp zex ?_
            refine gp zex ?_
            refine zsN ?_
            refine gp zas ?_
            refine gnt ?_
            refine gsr ?_
            refine gp zmv ?_
            refine gp (r_bool (c := false) (r_nenil rfl (by kernel_rfl)) rfl) ?_
            refine gnt ?_
            refine gc_condF rfl rfl ?_
            refine gc_skip ?_
            refine gx_then ?_
            refine gc_regionZ 9 ([blk b6 33 (chC (lnB (st3 l) k) (lnI (st3 l) k) ((st3 l) k) b24), blk b7 26 (dc (lnI (st3 l) (k + 1)))]) ?_
            refine yps 0 rfl zmv ?_
            refine yps 1 rfl (zLa (cs := (chC (lnB (st3 l) k) (lnI (st3 l) k) ((st3 l) k) b24))) ?_
            refine yps 4 rfl zmv ?_
            refine yps 5 rfl zL ?_
            refine yo2s 2 6 rfl rfl ?_ ?_
            · refine zeN fun b78 => ?_
              refine yxs ?_
              refine yo2s 3 6 rfl rfl ?_ ?_
              · refine zapo (fun a79 c79 => ?_)
                refine yxs ?_
                refine yos 6 rfl ?_
                refine zeN fun b82 => ?_
                refine yxs ?_
                refine yos 7 rfl ?_
                refine zapo (fun a83 c83 => ?_)
                refine yxs ?_
                refine yps 8 rfl zas ?_
                refine yzs rfl ?_
                refine gp zas ?_
                refine gl_nil ?_
                refine gx_block_normal ?_
                refine gx_then ?_
                refine gc_region ?_
                refine gp zad ?_
                refine gp zmv ?_
                refine gl_nil ?_
                refine zrd ((k + 1, (a79, c79), (a83, c83), css ++ [(chC (lnB (st3 l) k) (lnI (st3 l) k) ((st3 l) k) b24)], (chC (lnB (st3 l) k) (lnI (st3 l) k) ((st3 l) k) b24))) ?_ ?_
                · show n - (k + 1) < n - k
                  omega
                · intro w' hw
                  obtain ⟨wv, Av, hvr⟩ := St.vlOfB (cs := (chC (lnB (st3 l) k) (lnI (st3 l) k) ((st3 l) k) b24)) (x := lnB (st3 l) (k + 1)) hw (by repeat (first | exact Pick.here | apply Pick.there))
                  have h3 := hw.conv (M := [ElR RdBlock css (lnA (st3 l) k), VlR RdBlock (chC (lnB (st3 l) k) (lnI (st3 l) k) ((st3 l) k) b24) (lnB (st3 l) (k + 1))]) (by repeat (first | exact Sel.nil | (apply Sel.cons; · (repeat (first | exact Pick.here | apply Pick.there))))) (fun _ _ => el_snoc)
                  refine St.pureI (p := k + 1 ≤ n ∧ _ ∧ _ ∧ _ ∧ _) ⟨by omega, ⟨chC_len _ _ _ _, chC_one _ _ _ _⟩, fun x hx => (by rcases List.mem_append.1 hx with h | h; exact hcs x h; (simp at h; subst h; exact chC_len _ _ _ _)), ln_nodup hnd hnew, wv, Av, hvr⟩ ?_
                  have e1 : (css ++ [(chC (lnB (st3 l) k) (lnI (st3 l) k) ((st3 l) k) b24)]).flatten = css.flatten ++ (chC (lnB (st3 l) k) (lnI (st3 l) k) ((st3 l) k) b24) := by simp
                  have e2 : ((lnD (st3 l) (k + 1)).map dc).flatten = ((lnD (st3 l) k).map dc).flatten ++ dc (lnI (st3 l) (k + 1)) := by rw [lnD_succ]; simp
                  show St w F [TreeR q (lnT (st3 l) (k + 1)), blk b6 33 (chC (lnB (st3 l) k) (lnI (st3 l) k) ((st3 l) k) b24), blk b7 26 (dc (lnI (st3 l) (k + 1))), rowR 33 39 a79 (k + 1) c79 (css ++ [(chC (lnB (st3 l) k) (lnI (st3 l) k) ((st3 l) k) b24)]).flatten, ElR RdBlock (css ++ [(chC (lnB (st3 l) k) (lnI (st3 l) k) ((st3 l) k) b24)]) (lnA (st3 l) (k + 1)), rowR 26 16 a83 (k + 1 + 1) c83 ((lnD (st3 l) (k + 1)).map dc).flatten] w'
                  rw [e1, e2, lnA_succ]
                  exact h3.sel (by repeat (first | exact Sel.nil | (apply Sel.cons; · (repeat (first | exact Pick.here | apply Pick.there)))))
              · refine zeN fun b82 => ?_
                refine yxs ?_
                refine yos 3 rfl ?_
                refine zapo (fun a79 c79 => ?_)
                refine yxs ?_
                refine yos 7 rfl ?_
                refine zapo (fun a83 c83 => ?_)
                refine yxs ?_
                refine yps 8 rfl zas ?_
                refine yzs rfl ?_
                refine gp zas ?_
                refine gl_nil ?_
                refine gx_block_normal ?_
                refine gx_then ?_
                refine gc_region ?_
                refine gp zad ?_
                refine gp zmv ?_
                refine gl_nil ?_
                refine zrd ((k + 1, (a79, c79), (a83, c83), css ++ [(chC (lnB (st3 l) k) (lnI (st3 l) k) ((st3 l) k) b24)], (chC (lnB (st3 l) k) (lnI (st3 l) k) ((st3 l) k) b24))) ?_ ?_
                · show n - (k + 1) < n - k
                  omega
                · intro w' hw
                  obtain ⟨wv, Av, hvr⟩ := St.vlOfB (cs := (chC (lnB (st3 l) k) (lnI (st3 l) k) ((st3 l) k) b24)) (x := lnB (st3 l) (k + 1)) hw (by repeat (first | exact Pick.here | apply Pick.there))
                  have h3 := hw.conv (M := [ElR RdBlock css (lnA (st3 l) k), VlR RdBlock (chC (lnB (st3 l) k) (lnI (st3 l) k) ((st3 l) k) b24) (lnB (st3 l) (k + 1))]) (by repeat (first | exact Sel.nil | (apply Sel.cons; · (repeat (first | exact Pick.here | apply Pick.there))))) (fun _ _ => el_snoc)
                  refine St.pureI (p := k + 1 ≤ n ∧ _ ∧ _ ∧ _ ∧ _) ⟨by omega, ⟨chC_len _ _ _ _, chC_one _ _ _ _⟩, fun x hx => (by rcases List.mem_append.1 hx with h | h; exact hcs x h; (simp at h; subst h; exact chC_len _ _ _ _)), ln_nodup hnd hnew, wv, Av, hvr⟩ ?_
                  have e1 : (css ++ [(chC (lnB (st3 l) k) (lnI (st3 l) k) ((st3 l) k) b24)]).flatten = css.flatten ++ (chC (lnB (st3 l) k) (lnI (st3 l) k) ((st3 l) k) b24) := by simp
                  have e2 : ((lnD (st3 l) (k + 1)).map dc).flatten = ((lnD (st3 l) k).map dc).flatten ++ dc (lnI (st3 l) (k + 1)) := by rw [lnD_succ]; simp
                  show St w F [TreeR q (lnT (st3 l) (k + 1)), blk b6 33 (chC (lnB (st3 l) k) (lnI (st3 l) k) ((st3 l) k) b24), blk b7 26 (dc (lnI (st3 l) (k + 1))), rowR 33 39 a79 (k + 1) c79 (css ++ [(chC (lnB (st3 l) k) (lnI (st3 l) k) ((st3 l) k) b24)]).flatten, ElR RdBlock (css ++ [(chC (lnB (st3 l) k) (lnI (st3 l) k) ((st3 l) k) b24)]) (lnA (st3 l) (k + 1)), rowR 26 16 a83 (k + 1 + 1) c83 ((lnD (st3 l) (k + 1)).map dc).flatten] w'
                  rw [e1, e2, lnA_succ]
                  exact h3.sel (by repeat (first | exact Sel.nil | (apply Sel.cons; · (repeat (first | exact Pick.here | apply Pick.there)))))
            · refine zeN fun b82 => ?_
              refine yxs ?_
              refine yos 2 rfl ?_
              refine zeN fun b78 => ?_
              refine yxs ?_
              refine yos 3 rfl ?_
              refine zapo (fun a79 c79 => ?_)
              refine yxs ?_
              refine yos 7 rfl ?_
              refine zapo (fun a83 c83 => ?_)
              refine yxs ?_
              refine yps 8 rfl zas ?_
              refine yzs rfl ?_
              refine gp zas ?_
              refine gl_nil ?_
              refine gx_block_normal ?_
              refine gx_then ?_
              refine gc_region ?_
              refine gp zad ?_
              refine gp zmv ?_
              refine gl_nil ?_
              refine zrd ((k + 1, (a79, c79), (a83, c83), css ++ [(chC (lnB (st3 l) k) (lnI (st3 l) k) ((st3 l) k) b24)], (chC (lnB (st3 l) k) (lnI (st3 l) k) ((st3 l) k) b24))) ?_ ?_
              · show n - (k + 1) < n - k
                omega
              · intro w' hw
                obtain ⟨wv, Av, hvr⟩ := St.vlOfB (cs := (chC (lnB (st3 l) k) (lnI (st3 l) k) ((st3 l) k) b24)) (x := lnB (st3 l) (k + 1)) hw (by repeat (first | exact Pick.here | apply Pick.there))
                have h3 := hw.conv (M := [ElR RdBlock css (lnA (st3 l) k), VlR RdBlock (chC (lnB (st3 l) k) (lnI (st3 l) k) ((st3 l) k) b24) (lnB (st3 l) (k + 1))]) (by repeat (first | exact Sel.nil | (apply Sel.cons; · (repeat (first | exact Pick.here | apply Pick.there))))) (fun _ _ => el_snoc)
                refine St.pureI (p := k + 1 ≤ n ∧ _ ∧ _ ∧ _ ∧ _) ⟨by omega, ⟨chC_len _ _ _ _, chC_one _ _ _ _⟩, fun x hx => (by rcases List.mem_append.1 hx with h | h; exact hcs x h; (simp at h; subst h; exact chC_len _ _ _ _)), ln_nodup hnd hnew, wv, Av, hvr⟩ ?_
                have e1 : (css ++ [(chC (lnB (st3 l) k) (lnI (st3 l) k) ((st3 l) k) b24)]).flatten = css.flatten ++ (chC (lnB (st3 l) k) (lnI (st3 l) k) ((st3 l) k) b24) := by simp
                have e2 : ((lnD (st3 l) (k + 1)).map dc).flatten = ((lnD (st3 l) k).map dc).flatten ++ dc (lnI (st3 l) (k + 1)) := by rw [lnD_succ]; simp
                show St w F [TreeR q (lnT (st3 l) (k + 1)), blk b6 33 (chC (lnB (st3 l) k) (lnI (st3 l) k) ((st3 l) k) b24), blk b7 26 (dc (lnI (st3 l) (k + 1))), rowR 33 39 a79 (k + 1) c79 (css ++ [(chC (lnB (st3 l) k) (lnI (st3 l) k) ((st3 l) k) b24)]).flatten, ElR RdBlock (css ++ [(chC (lnB (st3 l) k) (lnI (st3 l) k) ((st3 l) k) b24)]) (lnA (st3 l) (k + 1)), rowR 26 16 a83 (k + 1 + 1) c83 ((lnD (st3 l) (k + 1)).map dc).flatten] w'
                rw [e1, e2, lnA_succ]
                exact h3.sel (by repeat (first | exact Sel.nil | (apply Sel.cons; · (repeat (first | exact Pick.here | apply Pick.there)))))
        · try simp only at hc40
          have hk' : k = n := by omega
          subst hk'
          refine gc_exit ?_
          refine gx_then_exit ?_
          refine gx_round_exit ?_
          refine gx_block_hit ?_
          refine gx_then ?_
          refine gsr ?_
          refine gp zmv ?_
          refine zc ?_ (c := fun w1 F1 F2 h1 h2 hd hst => tids_ok (tr_rd h2 hd (by repeat (first | exact Pick.here | apply Pick.there))) (lnT_ok hnd (by omega)) h1)
          rintro ⟨a86, c86⟩
          refine gp zas ?_
          refine gnt ?_
          refine gc_seq ?_
          refine gsr ?_
          refine gp zmv ?_
          refine gp zln ?_
          refine gp zgt ?_
          refine gnt ?_
          refine gif rfl (fun hc89 => ?_) (fun hc89 => ?_)
          · try simp only at hc89
            have hn0 : 0 < k := by omega
            obtain ⟨hi1, hi2⟩ := u64_rem at_ (m := k) hn0
            refine gc_fact (fun w' hw => (St.el (rd := RdBlock) hw (by repeat (first | exact Pick.here | apply Pick.there))).1) (fun hcl => ?_)
            replace hcl : css.length = k := by rw [hcl]; simp [lnA]
            obtain ⟨ix, hix⟩ : ∃ ix, ix = ((IntKind.u64.wrap at_).tmod (k : Int)).toNat := ⟨_, rfl⟩
            rw [← hix] at hi1 hi2
            have hci : css[ix]? = some (css[ix]'(by omega)) := List.getElem?_eq_getElem (by omega)
            generalize hce : css[ix]'(by omega) = ce at hci
            have hl39 := hcs ce (List.mem_of_getElem? hci)
            have ice := Len.of hl39
            refine gc_fact (fun w' hw => (St.el (rd := RdBlock) hw (by repeat (first | exact Pick.here | apply Pick.there))).2 ix ce (lnB (st3 l) (ix + 1)) hci (lnA_at hi2)) (fun hre => ?_)
            obtain ⟨we, Ae, hre⟩ := hre
            have jce := One.of hre.one
            refine gc_fact (fun w' hw => St.rowAt (hw.sel (M := [rowR 33 39 a9 k c9 css.flatten]) (by repeat (first | exact Sel.nil | (apply Sel.cons; · (repeat (first | exact Pick.here | apply Pick.there)))))) .here (by omega)) (fun hra => ?_)
            obtain ⟨_, ga, oa, ha⟩ := hra
            subst ha
            refine gsr ?_
            refine gp zmv ?_
            refine gp zmv ?_
            refine gp zmv ?_
            refine gp zci ?_
            refine gp zmv ?_
            refine gp zln ?_
            refine gp (r_int (j := (k : Int)) zci (wrap_u64 (by omega) (by omega))) ?_
            refine gp (r_int (j := ((ix : Nat) : Int)) zrm hi1) ?_
            refine gp (r_int (j := ((ix : Nat) : Int)) zci (wrap_i64 (by omega) (by omega))) ?_
            refine gp (r_val (v' := .pointer (some ⟨ga, oa + ix * 39, none⟩)) zia (by simp)) ?_
            refine gp (r_ldRow (i := ix) rfl Ty.row_33 Ty.sz_33 (by repeat (first | exact Pick.here | apply Pick.there)) hcs hci hi2) ?_
            refine zc (fun _ => ?_) (c := fun w1 F1 F2 h1 h2 hd hst => tadd_eq (b := lnB (st3 l) (ix + 1)) (hE.mv hst.still) (hK.mv hst.still) h1 (lnT_ok hnd (by omega)) (el_rd h2 hd (by repeat (first | exact Pick.here | apply Pick.there)) hci (lnA_at hi2)) (ln_sm _) (ln_err hso (ix + 1) (by omega)) (lnI_def _ _) (ln_twice (i := ix + 1) hnd (by omega)))
            refine gp zmv ?_
            refine gp zex ?_
            refine gp zex ?_
            refine zal fun b16 => ?_
            refine zsN ?_
            refine gp zas ?_
            refine gnt ?_
            refine gsr ?_
            refine gp zmv ?_
            refine gp (r_bool (c := false) (r_eqnil (k := 17) rfl (by kernel_rfl)) rfl) ?_
            refine gnt ?_
            refine gc_condF rfl rfl ?_
            refine gc_skip ?_
            refine gx_then ?_
            refine gsr ?_
            refine gp (zLa (cs := cs)) ?_
            refine gp zL ?_
            refine zc ?_ (c := fun w1 F1 F2 h1 h2 hd hst => child15_ok (b := lnB (st3 l) k) (id := lnI (st3 l) k) (on := 1) (tx := 99) h1 hrd (by omega) (by decide))
            rintro ⟨b23, b24⟩
            have ich := Len.of (stC_len (lnB (st3 l) k) (lnI (st3 l) k) (lnI (st3 l) k) 1 b24)
            have jch := One.of (stC_one (lnB (st3 l) k) (lnI (st3 l) k) (lnI (st3 l) k) 1 b24)
            rw [stC_ch]
            refine zal fun b18 => ?_
            refine gl_eqc (cs' := blkC) (by repeat (first | exact Pick.here | apply Pick.there)) (by kernel_rfl) ?_
            refine zsA (stC_len _ _ _ _ _) (stC_one _ _ _ _ _) ?_
            refine gnt ?_
            refine gsr ?_
            refine gp zfa ?_
            refine gp zib ?_
            refine gp (zl (v := B8 ((lnI (st3 l) k).l.getD 0 0)) (hv := stC_at _ _ _ _ _)) ?_
            refine gp (r_val (r_add rfl rfl) (b8_succ0 _)) ?_
            refine gp zfa ?_
            refine gp zib ?_
            refine gl_store1 (wt0 rfl) rfl rfl rfl Ty.sz_5 (by repeat (first | exact Pick.here | apply Pick.there)) (by rw [stC_len]; decide) (stC_up1 _ _ _ _ _) ?_
            refine gnt ?_
            refine gsr ?_
            refine gp zfa ?_
            refine gp (zL (sg := dc (bump0 (lnI (st3 l) k))) (hg := stC_par _ _ _ _ _) (hl := dc_length _)) ?_
            refine gp zfa ?_
            refine gp zfa ?_
            refine gl_storeN (wt0 rfl) rfl rfl Ty.sz_26 (dc_length _) (by repeat (first | exact Pick.here | apply Pick.there)) (by rw [stC_len]; decide) (dc_one _) (stC_up2 _ _ _ _ _) ?_
            refine gnt ?_
            refine gc_seq ?_
            refine gsr ?_
            obtain ⟨er, her, hadd⟩ := ln_stray hso hnd (bump0_ne (lnI (st3 l) k)) (lnI (st3 l) k) 1 99 (wBlock (strayB (lnB (st3 l) k) (lnI (st3 l) k) (bump0 (lnI (st3 l) k)) 1 99) ⟨0, []⟩).err (idOf (strayB (lnB (st3 l) k) (lnI (st3 l) k) (bump0 (lnI (st3 l) k)) 1 99))
            refine gp zmv ?_
            refine gp (zLa (cs := stC (lnB (st3 l) k) (bump0 (lnI (st3 l) k)) (bump0 (lnI (st3 l) k)) 1 b24) (hl := stC_len _ _ _ _ _)) ?_
            refine zc (fun _ => ?_) (c := fun w1 F1 F2 h1 h2 hd hst => tadd_any (b := strayB (lnB (st3 l) k) (lnI (st3 l) k) (bump0 (lnI (st3 l) k)) 1 99) (hE.mv hst.still) (hK.mv hst.still) h1 (lnT_ok hnd (by omega)) (rd_stC (rd_row h2 hd (by repeat (first | exact Pick.here | apply Pick.there))) (rd_row h2 hd (by repeat (first | exact Pick.here | apply Pick.there)))) sm_stray hadd)
            refine gp zmv ?_
            refine gp zex ?_
            refine gp zex ?_
            refine zal fun b19 => ?_
            refine zsN ?_
            refine gp zas ?_
            refine gnt ?_
            refine gsr ?_
            refine gp zmv ?_
            refine gp (r_bool (c := false) (r_eqnil (k := er) rfl (by kernel_rfl)) (by simpa using her)) ?_
            refine gp zmv ?_
            refine gn ?_
            refine gn ?_
            refine gn ?_
            refine gn ?_
            refine gn ?_
            refine gp zpk ?_
            refine gnt ?_
            refine gc_condF rfl rfl ?_
            refine gc_skip ?_
            refine gx_then ?_
            refine gsr ?_
            refine gp zmv ?_
            refine zc ?_ (c := fun w1 F1 F2 h1 h2 hd hst => tids_ok (tr_rd h2 hd (by repeat (first | exact Pick.here | apply Pick.there))) (lnT_ok hnd (by omega)) h1)
            rintro ⟨a136, c136⟩
            refine gp zmv ?_
            refine zc (fun _ => ?_) (c := fun w1 F1 F2 h1 h2 hd hst => same03_ok (l1 := keysT (lnT (st3 l) k)) (l2 := keysT (lnT (st3 l) k)) h1 (digs_of_row (rd_row h2 hd (by repeat (first | exact Pick.here | apply Pick.there)))) (digs_of_row (rd_row h2 hd (by repeat (first | exact Pick.here | apply Pick.there)))))
            refine gp zas ?_
            refine gnt ?_
            refine gc_ret ?_
            refine gx_ret1 rfl (by conv => lhs; whnf) ?_
            exact fun w' hw => ⟨(), by simp, hw.sel (by repeat (first | exact Sel.nil | (apply Sel.cons; · (repeat (first | exact Pick.here | apply Pick.there)))))⟩
          · refine gc_skip ?_
            refine gx_then ?_
            refine gsr ?_
            refine gp (zLa (cs := cs)) ?_
            refine gp zL ?_
            refine zc ?_ (c := fun w1 F1 F2 h1 h2 hd hst => child15_ok (b := lnB (st3 l) k) (id := lnI (st3 l) k) (on := 1) (tx := 99) h1 hrd (by omega) (by decide))
            rintro ⟨b23, b24⟩
            have ich := Len.of (stC_len (lnB (st3 l) k) (lnI (st3 l) k) (lnI (st3 l) k) 1 b24)
            have jch := One.of (stC_one (lnB (st3 l) k) (lnI (st3 l) k) (lnI (st3 l) k) 1 b24)
            rw [stC_ch]
            refine zal fun b18 => ?_
            refine gl_eqc (cs' := blkC) (by repeat (first | exact Pick.here | apply Pick.there)) (by kernel_rfl) ?_
            refine zsA (stC_len _ _ _ _ _) (stC_one _ _ _ _ _) ?_
            refine gnt ?_
            refine gsr ?_
            refine gp zfa ?_
            refine gp zib ?_
            refine gp (zl (v := B8 ((lnI (st3 l) k).l.getD 0 0)) (hv := stC_at _ _ _ _ _)) ?_
            refine gp (r_val (r_add rfl rfl) (b8_succ0 _)) ?_
            refine gp zfa ?_
            refine gp zib ?_
            refine gl_store1 (wt0 rfl) rfl rfl rfl Ty.sz_5 (by repeat (first | exact Pick.here | apply Pick.there)) (by rw [stC_len]; decide) (stC_up1 _ _ _ _ _) ?_
            refine gnt ?_
            refine gsr ?_
            refine gp zfa ?_
            refine gp (zL (sg := dc (bump0 (lnI (st3 l) k))) (hg := stC_par _ _ _ _ _) (hl := dc_length _)) ?_
            refine gp zfa ?_
            refine gp zfa ?_
            refine gl_storeN (wt0 rfl) rfl rfl Ty.sz_26 (dc_length _) (by repeat (first | exact Pick.here | apply Pick.there)) (by rw [stC_len]; decide) (dc_one _) (stC_up2 _ _ _ _ _) ?_
            refine gnt ?_
            refine gc_seq ?_
            refine gsr ?_
            obtain ⟨er, her, hadd⟩ := ln_stray hso hnd (bump0_ne (lnI (st3 l) k)) (lnI (st3 l) k) 1 99 (wBlock (strayB (lnB (st3 l) k) (lnI (st3 l) k) (bump0 (lnI (st3 l) k)) 1 99) ⟨0, []⟩).err (idOf (strayB (lnB (st3 l) k) (lnI (st3 l) k) (bump0 (lnI (st3 l) k)) 1 99))
            refine gp zmv ?_
            refine gp (zLa (cs := stC (lnB (st3 l) k) (bump0 (lnI (st3 l) k)) (bump0 (lnI (st3 l) k)) 1 b24) (hl := stC_len _ _ _ _ _)) ?_
            refine zc (fun _ => ?_) (c := fun w1 F1 F2 h1 h2 hd hst => tadd_any (b := strayB (lnB (st3 l) k) (lnI (st3 l) k) (bump0 (lnI (st3 l) k)) 1 99) (hE.mv hst.still) (hK.mv hst.still) h1 (lnT_ok hnd (by omega)) (rd_stC (rd_row h2 hd (by repeat (first | exact Pick.here | apply Pick.there))) (rd_row h2 hd (by repeat (first | exact Pick.here | apply Pick.there)))) sm_stray hadd)
            refine gp zmv ?_
            refine gp zex ?_
            refine gp zex ?_
            refine zal fun b19 => ?_
            refine zsN ?_
            refine gp zas ?_
            refine gnt ?_
            refine gsr ?_
            refine gp zmv ?_
            refine gp (r_bool (c := false) (r_eqnil (k := er) rfl (by kernel_rfl)) (by simpa using her)) ?_
            refine gp zmv ?_
            refine gn ?_
            refine gn ?_
            refine gn ?_
            refine gn ?_
            refine gn ?_
            refine gp zpk ?_
            refine gnt ?_
            refine gc_condF rfl rfl ?_
            refine gc_skip ?_
            refine gx_then ?_
            refine gsr ?_
            refine gp zmv ?_
            refine zc ?_ (c := fun w1 F1 F2 h1 h2 hd hst => tids_ok (tr_rd h2 hd (by repeat (first | exact Pick.here | apply Pick.there))) (lnT_ok hnd (by omega)) h1)
            rintro ⟨a136, c136⟩
            refine gp zmv ?_
            refine zc (fun _ => ?_) (c := fun w1 F1 F2 h1 h2 hd hst => same03_ok (l1 := keysT (lnT (st3 l) k)) (l2 := keysT (lnT (st3 l) k)) h1 (digs_of_row (rd_row h2 hd (by repeat (first | exact Pick.here | apply Pick.there)))) (digs_of_row (rd_row h2 hd (by repeat (first | exact Pick.here | apply Pick.there)))))
            refine gp zas ?_
            refine gnt ?_
            refine gc_ret ?_
            refine gx_ret1 rfl (by conv => lhs; whnf) ?_
            exact fun w' hw => ⟨(), by simp, hw.sel (by repeat (first | exact Sel.nil | (apply Sel.cons; · (repeat (first | exact Pick.here | apply Pick.there)))))⟩

end Go.Proofs.YtobjojeliibinaaDoor

/- BlocksOnce: for every input the law returns true, and the input reads as it did: the row and its card. -/
namespace Go.Proofs.YtobjojeliibinaaDoor
open Go
open Go.ChangeShapes Go.WideShapes Go.ChangeAt Go.RowKit
set_option linter.unusedVariables false

/-- One world that fits: the settled one, the listed variables as their initialisers lay them. -/
noncomputable def blocksOnce_world (os : Os) : World :=
  let w0 := World.holding Tryd.prog os ⟨#[.cells #[.string ⟨#[113, 117, 111, 114, 97, 116, 101, 58, 32, 114, 97, 110, 103, 101]⟩] 165, .cells #[.string ⟨#[113, 117, 111, 114, 97, 116, 101, 58, 32, 102, 111, 114, 109]⟩] 165, .cells #[.string ⟨#[113, 117, 111, 114, 97, 116, 101, 58, 32, 102, 117, 108, 108]⟩] 165, .cells #[.string ⟨#[113, 117, 111, 114, 97, 116, 101, 58, 32, 110, 111, 110, 101]⟩] 165, .cells #[.string ⟨#[113, 117, 111, 114, 97, 116, 101, 58, 32, 112, 114, 111, 111, 102]⟩] 165, .cells #[.string ⟨#[113, 117, 111, 114, 97, 116, 101, 58, 32, 114, 111, 117, 110, 100]⟩] 165, .cells #[.string ⟨#[113, 117, 111, 114, 97, 116, 101, 58, 32, 112, 97, 114, 101, 110, 116]⟩] 165, .cells #[.string ⟨#[113, 117, 111, 114, 97, 116, 101, 58, 32, 116, 119, 105, 99, 101]⟩] 165], #[], []⟩
  { w0 with heap := ((((((((w0.heap.modify 7 fun
      | .cells _ t fz => .cells #[.iface 146 (.pointer (some ⟨lowB + 0, 0, none⟩))] t fz
      | o => o).modify 2 fun
      | .cells _ t fz => .cells #[.iface 146 (.pointer (some ⟨lowB + 1, 0, none⟩))] t fz
      | o => o).modify 6 fun
      | .cells _ t fz => .cells #[.iface 146 (.pointer (some ⟨lowB + 2, 0, none⟩))] t fz
      | o => o).modify 0 fun
      | .cells _ t fz => .cells #[.iface 146 (.pointer (some ⟨lowB + 3, 0, none⟩))] t fz
      | o => o).modify 1 fun
      | .cells _ t fz => .cells #[.iface 146 (.pointer (some ⟨lowB + 4, 0, none⟩))] t fz
      | o => o).modify 5 fun
      | .cells _ t fz => .cells #[.iface 146 (.pointer (some ⟨lowB + 5, 0, none⟩))] t fz
      | o => o).modify 4 fun
      | .cells _ t fz => .cells #[.iface 146 (.pointer (some ⟨lowB + 6, 0, none⟩))] t fz
      | o => o).modify 3 fun
      | .cells _ t fz => .cells #[.iface 146 (.pointer (some ⟨lowB + 7, 0, none⟩))] t fz
      | o => o).modify 8 fun
      | .cells _ t fz => .cells (kc.map W32).toArray t fz
      | o => o }
def blocksOnce_args : Array Value := #[.slice none 0 0, .int .i64 0]
theorem blocksOnce_laid (os : Os) (args : Array Value) : laidMet Tryd.prog Rows.blocksOnceRow.laid ((blocksOnce_world os).forCall (fun _ _ => 0) ⟨#[], args, []⟩).memory :=
  laidMet_of_run' 8 (by kernel_rfl) (by kernel_rfl)
theorem blocksOnce_reads (os : Os) {H : Type} (enc : TypeId × Value → H) : ∃ places, DataW.whole enc Tryd.prog ((blocksOnce_world os).forCall (fun _ _ => 0) ⟨#[], blocksOnce_args, []⟩).memory Tryd.f3.params.toList Rows.blocksOnceSpec.vars false blocksOnce_args.toList 8 = some ([.nil, .lit (.int .i64 0)], [], places) :=
  ⟨[], by kernel_rfl⟩
set_option maxRecDepth 20000 in
theorem blocksOnce_contract (H : Type) (enc : TypeId × Value → H) (W : World) (base : Nat) (args : Array Value) (ds gs : List (DataW H)) (before : List MemPlace)
    (hval : ∀ (j : Nat) t v, Tryd.f3.params[j]? = some t → args[j]? = some v → Value.okWide Tryd.prog W .any base t v)
    (hW : DataW.Whole enc Tryd.prog Tryd.f3.params.toList Rows.blocksOnceSpec.vars false W args.toList ds gs before) (hL : laidMetH Tryd.prog Rows.blocksOnceRow.laid W) :
    Calls Tryd.prog 3 args W fun e W' => ∃ v, e = .returned v ∧ Rows.blocksOnceSpec.post enc Tryd.prog Tryd.f3 false true false false W args v W' := by
  have hW' := hW
  have hlt : ∀ p ∈ before, p.block < W.heap.size := fun p hp => hW.lt p hp
  obtain ⟨p, q, hA0, hV, rfl, hfz, hnd⟩ := hW
  have hA : DataW.TrodAll enc Tryd.prog W 0 (fun _ => true) true Tryd.f3.params.toList args.toList ds p := hA0
  rw [Tryd.params3] at hA hval
  obtain ⟨v0, vs0, d0, ds0, p0, q0, hargs, rfl, rfl, h0, r0⟩ := trodAll_cons hA
  obtain ⟨v1, vs1, d1, ds1, p1, q1, rfl, rfl, rfl, h1, r1⟩ := trodAll_cons r0
  obtain ⟨rfl, rfl, rfl⟩ := trodAll_nil r1
  obtain rfl : args = #[v0, v1] := by cases args; simp_all
  obtain ⟨rfl, rfl⟩ := trodVars_none hV
  obtain ⟨a0, m0, c0, rfl⟩ := okWide_slice (run_sliceT Ty.sl_22) (hval 0 22 v0 rfl rfl)
  obtain ⟨x0, hx0⟩ : ∃ x, RdRowC (Value.int .i64) W TT [.slice a0 m0 c0] x := by obtain ⟨fuel, hf⟩ := h0; exact o_rints fuel _ _ hf
  obtain ⟨n1, rfl, _, _, wf1⟩ := open_int Ty.un_3 (hval 1 3 v1 rfl rfl) h1
  have hL' : laidMet Tryd.prog Rows.blocksOnceRow.laid W := hL
  obtain ⟨a_1, s_1, c_1, _, _⟩ := laid_err (g := 7) hL' (by kernel_rfl) (by kernel_rfl)
  obtain ⟨a_4, s_4, c_4, _, _⟩ := laid_err (g := 2) hL'.tail (by kernel_rfl) (by kernel_rfl)
  obtain ⟨a_8, s_8, c_8, _, _⟩ := laid_err (g := 6) hL'.tail.tail (by kernel_rfl) (by kernel_rfl)
  obtain ⟨a_9, s_9, c_9, _, _⟩ := laid_err (g := 0) hL'.tail.tail.tail (by kernel_rfl) (by kernel_rfl)
  obtain ⟨a_12, s_12, c_12, _, _⟩ := laid_err (g := 1) hL'.tail.tail.tail.tail (by kernel_rfl) (by kernel_rfl)
  obtain ⟨a_14, s_14, c_14, _, _⟩ := laid_err (g := 5) hL'.tail.tail.tail.tail.tail (by kernel_rfl) (by kernel_rfl)
  obtain ⟨a_16, s_16, c_16, _, _⟩ := laid_err (g := 4) hL'.tail.tail.tail.tail.tail.tail (by kernel_rfl) (by kernel_rfl)
  obtain ⟨a_17, s_17, c_17, _, _⟩ := laid_err (g := 3) hL'.tail.tail.tail.tail.tail.tail.tail (by kernel_rfl) (by kernel_rfl)
  have hK := laid_kr hL'.tail.tail.tail.tail.tail.tail.tail.tail
  have hE : GErr [1, 4, 8, 9, 12, 14, 16, 17] W (fun k => ¬ (fun _ : Nat => False) k) 146 (fun i => if i = 1 then a_1 else if i = 4 then a_4 else if i = 8 then a_8 else if i = 9 then a_9 else if i = 12 then a_12 else if i = 14 then a_14 else if i = 16 then a_16 else a_17) := by
    refine ⟨fun i hi => ?_, fun i _ => id⟩
    simp only [List.mem_cons, List.not_mem_nil, or_false] at hi
    rcases hi with rfl | rfl | rfl | rfl | rfl | rfl | rfl | rfl
    · unfold eV; exact c_1
    · unfold eV; exact c_4
    · unfold eV; exact c_8
    · unfold eV; exact c_9
    · unfold eV; exact c_12
    · unfold eV; exact c_14
    · unfold eV; exact c_16
    · unfold eV; exact c_17
  have walk := blocksOnce_ok (c := c0) (at_ := n1) no_res hE hK (hx0.row.mv still_id)
  refine Calls.mono (show Calls Tryd.prog 3 #[.slice a0 m0 c0, .int .i64 n1] W _ from walk) fun e W' ⟨_, he, hs⟩ => ?_
  subst he
  have bel := below_of hs
  have eF : Rows.blocksOnceSpec.fn H ([d0, d1] ++ []) = { results := [.lit (.bool true)], args := [d0, d1] } := rfl
  have l0 : ∀ z ∈ p0, z.block < W.heap.size := fun z hz => hlt z (by simp [hz])
  have l1 : ∀ z ∈ p1, z.block < W.heap.size := fun z hz => hlt z (by simp [hz])
  refine ⟨_, rfl, _, _, _, [], p0 ++ (p1 ++ ([])), [], hW', ?_, ?_, ?_, bel.frame _, fun h => by cases h⟩
  · rw [eF]; exact trodAll_cons_mk (shut_bool Tryd.underlying4 _) trodAll_mk0
  · rw [eF, Tryd.params3]
    exact trodAll_cons_mk (Below.trod laidOut (by kernel_rfl) (of_decide_eq_true (by kernel_rfl)) h0 bel l0) (trodAll_cons_mk (Below.trod laidOut (by kernel_rfl) (of_decide_eq_true (by kernel_rfl)) h1 bel l1) (trodAll_mk0))
  · rw [eF]; rfl

set_option maxRecDepth 100000 in
theorem blocksOnce_lifted (os : Os) (started : os.Started) (H : Type) (enc : TypeId × Value → H) (F : Stop.Interp) :
    ReturnsInHanded {} Tryd.checked os 3 .any ((OpenSpec.ofChange Rows.blocksOnceSpec).preRow enc Tryd.prog Tryd.f3 Rows.blocksOnceRow.domain false Rows.blocksOnceRow.laid) (((OpenSpec.ofChange Rows.blocksOnceSpec).at F).post enc Tryd.prog Tryd.f3 false true false false) := by
  obtain ⟨places, hx⟩ := blocksOnce_reads os enc
  refine returnsInHanded_of_row (C := Tryd.checked) (s := OpenSpec.ofChange Rows.blocksOnceSpec) own started (by kernel_rfl) Tryd.func3
    (witness_row_atRef (enc := enc) (C := Tryd.checked) false (blocksOnce_world os) blocksOnce_args rfl (by kernel_rfl) (by kernel_rfl) (by kernel_rfl)
      (OpenSpec.preRow_of_cond 8 hx (by kernel_rfl) (fun k hk => by cases hk) (by kernel_rfl) (blocksOnce_laid os _))) ?_
  intro W base args ds gs before hval hW _ _ _ hL _ _
  exact blocksOnce_contract H enc W base args ds gs before hval hW hL

theorem blocksOnce_said : Rows.BlocksOnceSaid :=
  OpenClaim.holds_of_cond 3 Tryd.f3 rfl rfl rfl rfl rfl rfl rfl ⟨rfl, rfl, rfl, rfl, rfl⟩ rfl rfl rfl rfl rfl (by kernel_rfl) Tryd.func3 (by kernel_rfl)
    (of_decide_eq_true (by kernel_rfl)) (by unfold Func.isWrapper; first | (rw [if_pos (by decide +kernel)]; kernel_rfl) | (rw [if_neg (by decide +kernel)]; exact ⟨rfl, rfl⟩))
    (fun os started H enc _ F => by rw [OpenClaim.pre_eq_preRow]; exact blocksOnce_lifted os started H enc F)
theorem blocksOnce_plain (f : FuncId) (fn : Func) (hf : Tryd.pinned.checked.prog.funcNamed "quorate/quoratelaw15.BlocksOnce" = some f) (hfn : Tryd.pinned.checked.prog.funcs[f]? = some fn) :
    false = Tryd.pinned.checked.prog.looks [] ∧ ∀ (j : Nat) t, fn.params[j]? = some t → Tryd.pinned.checked.prog.wantsStandIn t = false := by
  obtain rfl : f = 3 := Option.some.inj ((show Tryd.prog.funcNamed "quorate/quoratelaw15.BlocksOnce" = some 3 by kernel_rfl).symm.trans hf) |>.symm
  obtain rfl : fn = Tryd.f3 := (Option.some.inj (Tryd.func3.symm.trans hfn)).symm
  refine ⟨by kernel_rfl, fun j t ht => ?_⟩
  rw [Tryd.params3] at ht
  have hm := Array.mem_of_getElem? ht
  have h : t = 22 ∨ t = 3 := by simpa using hm
  rcases h with rfl | rfl
  · exact (show Tryd.prog.wantsStandIn 22 = false by kernel_rfl)
  · exact (show Tryd.prog.wantsStandIn 3 = false by kernel_rfl)
theorem blocksOnce_holds : Rows.BlocksOnceCardSaid :=
  Claim7.holds_tied_plain_at .later [] _ _ _ _ blocksOnce_said (fun _ h => by cases h) (by kernel_rfl) (fun _ h => by cases h) blocksOnce_row_tie rfl ⟨rfl, rfl⟩ (by kernel_rfl) rfl blocksOnce_plain (by kernel_rfl)
#print axioms blocksOnce_holds
end Go.Proofs.YtobjojeliibinaaDoor

