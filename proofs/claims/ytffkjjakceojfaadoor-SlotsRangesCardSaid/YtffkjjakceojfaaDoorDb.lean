/- Walks, by program (wg.py) out of a spec. -/
import Derived.Test.YtffkjjakceojfaaDoorDa
namespace Go.Proofs.YtffkjjakceojfaaDoor
open Go
set_option linter.unusedVariables false
set_option linter.unusedSimpArgs false

attribute [local irreducible] Gl Gc Gx Gs Runs Wt

set_option maxHeartbeats 400000 in
theorem unsynced_ok {w : World} {F : Nat → Prop} {g : Nat} {d : DS} (h : stars [DiskR g d] w F) (hk : DOk d) :
    Calls Tryd.prog 36 #[.pointer (some ⟨g, 0, none⟩)] w (Post w F (fun r : Option Addr × Nat => .slice r.1 d.ws.length r.2) (fun r => [rowR 3 1 r.1 d.ws.length r.2 ((sortZ (keysW d.ws)).map (Value.int .i64)), DiskR g d])) := by
  obtain ⟨b, m, h⟩ := dk_open h
  refine g_enter (env := [(0, .pointer (some ⟨g, 0, none⟩))]) Tryd.func36 rfl h Tryd.ntmps36 rfl rfl ?_
  refine gsr ?_
  refine gp zas ?_
  refine gnt ?_
  refine gsr ?_
  refine gp zmv ?_
  refine gp znc ?_
  refine gp zfa ?_
  refine gp zl ?_
  refine zc (fun b7 => ?_) (c := fun w1 F1 F2 h1 h2 hd hst => keys_ok (m := m) h1)
  refine zc ?_ (c := fun w1 F1 F2 h1 h2 hd hst => sortedK_ok (l := encW d.ws) h1 (by rw [encW_keys]; exact hk.nd) (encW_range hk) (encW_len hk))
  rintro ⟨a8, c8⟩
  rw [encW_keys]
  rw [show (encW d.ws).length = d.ws.length from List.length_map _]
  refine gp zas ?_
  refine gnt ?_
  refine gc_ret ?_
  refine gx_ret1 rfl (by conv => lhs; whnf) ?_
  exact fun w' hw => ⟨(a8, c8), rfl, (St.dk (L := [rowR 3 1 a8 d.ws.length c8 ((sortZ (keysW d.ws)).map (Value.int .i64))]) (hw.sel (by repeat (first | exact Sel.nil | (apply Sel.cons; · (repeat (first | exact Pick.here | apply Pick.there)))))) rfl rfl rfl rfl rfl rfl).sel (by repeat (first | exact Sel.nil | (apply Sel.cons; · (repeat (first | exact Pick.here | apply Pick.there)))))⟩

set_option maxHeartbeats 400000 in
theorem sync_ok' {w : World} {F : Nat → Prop} {g : Nat} {d : DS} (h : stars [DiskR g d] w F) (hk : DOk d) {ea : Nat → Addr} {es : List Nat} [Has es 1] [Has es 6] (hE : GErr es w (fun k => ¬ F k) 139 ea) :
    Calls Tryd.prog 27 #[.pointer (some ⟨g, 0, none⟩)] w (Post w F (fun _ : Unit => eV 139 ea (if (oper d).off then 6 else 0)) (fun _ => [DiskR g d.syncd])) := by
  refine g_enter (env := [(0, .pointer (some ⟨g, 0, none⟩))]) Tryd.func27 rfl h Tryd.ntmps27 rfl rfl ?_
  refine gsr ?_
  refine gp zas ?_
  refine gnt ?_
  refine gc_seq ?_
  refine gsr ?_
  refine gp zmv ?_
  refine zc (fun _ => ?_) (c := fun w1 F1 F2 h1 h2 hd hst => operate_ok h1 hk (hE.mv hst.still))
  refine gp zas ?_
  refine gnt ?_
  refine gsr ?_
  refine gp zmv ?_
  refine gp (r_bool (c := (oper d).off) (r_nenil rfl (by kernel_rfl)) (by cases (oper d).off <;> rfl)) ?_
  refine gnt ?_
  refine gif rfl (fun hc9 => ?_) (fun hc9 => ?_)
  · refine gsr ?_
    refine gp zmv ?_
    refine gp zas ?_
    refine gnt ?_
    refine gc_ret ?_
    refine gx_then_ret ?_
    refine gx_ret1 rfl (by conv => lhs; whnf) ?_
    exact fun w' hw => ⟨(), by rw [if_pos hc9], by rw [DS.syncd, if_pos hc9]; exact hw.sel (by repeat (first | exact Sel.nil | (apply Sel.cons; · (repeat (first | exact Pick.here | apply Pick.there)))))⟩
  · try simp only at hc9
    have hk2 := oper_ok hk
    have ed : d.syncd = (oper d).sync := by rw [DS.syncd, if_neg (by rw [hc9]; decide)]
    generalize hd2 : oper d = d2 at *
    refine gc_dk (by repeat (first | exact Pick.here | apply Pick.there)) (fun b m => ?_)
    refine gc_skip ?_
    refine gx_then ?_
    refine gc_seq ?_
    refine gsr ?_
    refine gp zmv ?_
    refine gp znc ?_
    refine gp zfa ?_
    refine gp zl ?_
    refine gl_range (wt0 rfl) rfl Ty.un_58 (by repeat (first | exact Pick.here | apply Pick.there)) (fun r => ?_)
    refine gnt ?_
    refine gc_block ?_
    refine gc_loop (α := List (Int × Sec) × (Nat → Sec) × Option (Value × Value)) (fun q => [pureR (SyncInv d2 q.1 q.2.1), blk g 60 [.slice (some ⟨b, 0, none⟩) d2.n d2.n, .map (some m), .bool d2.off, .bool d2.armed, .int .i64 d2.left], blk b 37 (secs d2.n q.2.1), itR r m (encK (Value.int .i64) (encW d2.ws)) (encK (Value.int .i64) (encW q.1)) q.2.2]) (fun q => []) [4, 5, 16, 17, 18, 19, 20, 21, 22, 23, 24, 25, 26, 27] (fun q => q.1.length) (d2.ws, d2.ss, none) ?_ ?_ ?_
    · refine env_start (by kernel_rfl)
    · exact zlp (SyncInv.start d2)
    · intro q u
      obtain ⟨lw, f, la⟩ := q
      refine gc_pureR (fun hi => ?_)
      replace hi : SyncInv d2 lw f := hi
      refine gsr ?_
      refine gl_nextO (wt0 rfl) rfl (by repeat (first | exact Pick.here | apply Pick.there)) (fun o16 h16 => ?_)
      rcases o16 with _ | ⟨A', p, B'⟩
      · have h16 : encK (Value.int .i64) (encW lw) = [] := h16
        have hlw := encKW_nil h16
        subst hlw
        refine gp zex ?_
        refine gnt ?_
        refine gc_seq ?_
        refine gc_condF rfl rfl ?_
        refine gc_exit ?_
        refine gx_then_exit ?_
        refine gx_round_exit ?_
        refine gx_block_hit ?_
        refine gx_then ?_
        refine gsr ?_
        refine gl_itMap (by repeat (first | exact Pick.here | apply Pick.there)) ?_
        refine gp zmv ?_
        refine gp znc ?_
        refine gp zfa ?_
        refine gp zl ?_
        refine gl_clear (wt0 rfl) rfl Ty.un_58 (by repeat (first | exact Pick.here | apply Pick.there)) ?_
        refine gnt ?_
        refine gsr ?_
        refine gp zas ?_
        refine gnt ?_
        refine gc_ret ?_
        refine gx_ret1 rfl (by conv => lhs; whnf) ?_
        exact fun w' hw => ⟨(), by rw [if_neg (by rw [hc9]; decide), eV_zero], by rw [ed]; exact St.dk (d := d2.sync) (hw.sel (by repeat (first | exact Sel.nil | (apply Sel.cons; · (repeat (first | exact Pick.here | apply Pick.there)))))) rfl rfl rfl rfl (secs_ext fun i hi' => hi.done i) rfl⟩
      · have h16 : encK (Value.int .i64) (encW lw) = A' ++ p :: B' := h16
        obtain ⟨A, kk, v, B, rfl, rfl, rfl, rfl⟩ := encKW_split h16
        have hkk := hi.key hk2
        refine gp zex ?_
        refine gnt ?_
        refine gc_seq ?_
        refine gc_condT rfl rfl ?_
        refine gc_skip ?_
        refine gx_then ?_
        refine gc_block ?_
        refine gsr ?_
        refine gp (r_entry rfl (by repeat (first | exact Pick.here | apply Pick.there))) ?_
        refine gp zex ?_
        refine gp zex ?_
        refine zal fun b5 => ?_
        refine gp zas ?_
        refine zsA (sc_length _) (sc_one _) ?_
        refine gnt ?_
        refine gc_regionT 7 (by kernel_rfl) (by kernel_rfl) ?_
        refine sp zmv ?_
        refine sp znc ?_
        refine sp zfa ?_
        refine sp (zl) ?_
        refine sp zmv ?_
        refine sp zL ?_
        refine sp (zia) ?_
        refine gs_nil ?_
        refine gl_stS (m := d2.n) (f := f) (v := v) kk.toNat (by omega) ?_
        refine gl_nil ?_
        refine gx_block_normal ?_
        refine zrd ((A ++ B, updS f kk.toNat v, some (Value.int .i64 kk, scV v))) ?_ ?_
        · simp
        · have eAB : encK (Value.int .i64) (encW (A ++ B)) = encK (Value.int .i64) (encW A) ++ encK (Value.int .i64) (encW B) := by simp [encK, encW]
          simp only [eAB]
          exact zlp (hi.step hk2)

set_option maxHeartbeats 400000 in
theorem crash_ok' {w : World} {F : Nat → Prop} {g : Nat} {d : DS} (h : stars [DiskR g d] w F) (hk : DOk d) {kb : List Bool} {ak : Option Addr} {nk ck : Nat} (hb : RdRow w (fun k => ¬ F k) 1 ak nk (kb.map Value.bool)) :
    Calls Tryd.prog 25 #[.pointer (some ⟨g, 0, none⟩), .slice ak nk ck] w (Post w F (fun _ : Unit => .tuple #[]) (fun _ => [DiskR g (d.crash kb)])) := by
  have hnk : nk = kb.length := by have := hb.1; simp at this; omega
  have hsl := sortZ_len d
  have hwl := ws_len hk
  have hn4 := hk.n
  refine g_enter (env := [(0, .pointer (some ⟨g, 0, none⟩)), (1, .slice ak nk ck)]) Tryd.func25 rfl h Tryd.ntmps25 rfl rfl ?_
  refine gc_seq ?_
  refine gsr ?_
  refine gp zmv ?_
  refine zc ?_ (c := fun w1 F1 F2 h1 h2 hd hst => unsynced_ok h1 hk)
  rintro ⟨a7, c7⟩
  refine gl_dk (by repeat (first | exact Pick.here | apply Pick.there)) (fun b m => ?_)
  refine gp zln ?_
  refine gp zmv ?_
  refine gnt ?_
  refine gc_block ?_
  refine gc_loop (α := Nat) (fun j => [pureR (j ≤ d.ws.length), blk g 60 [.slice (some ⟨b, 0, none⟩) d.n d.n, .map (some m), .bool d.off, .bool d.armed, .int .i64 d.left], blk b 37 (secs d.n (keepF (sortZ (keysW d.ws)) kb d.ws d.ss j)), mapR m (encK (Value.int .i64) (encW d.ws)), rowR 3 1 a7 d.ws.length c7 ((sortZ (keysW d.ws)).map (Value.int .i64))]) (fun j => [(9, .int .i64 (j : Int))]) [4, 5, 10, 11, 12, 13, 14, 15, 16, 17, 18, 19, 20, 21, 22, 23, 24, 25, 26, 27, 28, 29, 30, 31, 32, 33, 34, 35, 36] (fun j => d.ws.length - j) 0 ?_ ?_ ?_
  · refine env_start (by kernel_rfl)
  · exact zlp (Nat.zero_le _)
  · intro j u
    refine gc_pureR (fun hj => ?_)
    replace hj : j ≤ d.ws.length := hj
    refine gsr ?_
    refine gp zlt ?_
    refine gnt ?_
    refine gc_seq ?_
    refine gif rfl (fun hc10 => ?_) (fun hc10 => ?_)
    · try simp only at hc10
      have hj' : j < d.ws.length := by omega
      have hkk := sortZ_key hk (j := j) (by omega)
      refine gc_fact (p := ∃ ga oa, a7 = some ⟨ga, oa, none⟩) (fun w hw => (by obtain ⟨ga, oa, ha, _⟩ := (hw.row (a := a7) (by repeat (first | exact Pick.here | apply Pick.there))).2.2 (by omega); exact ⟨ga, oa, ha⟩)) (fun hx7 => ?_)
      obtain ⟨ga, oa, ha⟩ := hx7
      subst ha
      refine gc_skip ?_
      refine gx_then ?_
      refine gc_seq ?_
      refine gc_block ?_
      refine gsr ?_
      refine gp zmv ?_
      refine gp (zia) ?_
      refine gp (r_ld1r (v := .int .i64 ((sortZ (keysW d.ws)).getD j 0)) rfl Ty.row_3 (by repeat (first | exact Pick.here | apply Pick.there)) (by simp [List.getD, hsl, hj'])) ?_
      refine gp zas ?_
      refine gp zas ?_
      refine gnt ?_
      refine gc_seq ?_
      by_cases hjn : j < nk
      · obtain ⟨gk, ok, hak, hAk, _, hrk⟩ := hb.elem hjn
        subst hak
        refine gc_region ?_
        refine gp zmv ?_
        refine gp zmv ?_
        refine gp zln ?_
        refine gp (r_bool (c := true) zlt (decide_eq_true (by omega))) ?_
        refine gp zmv ?_
        refine gq zmv ?_
        refine gq zmv ?_
        refine gq (zia) ?_
        refine gq (r_ld1o (v := .bool (kb.getD j false)) rfl Ty.row_4 (hrk 0 _ (by simp [List.getD, ← hnk, hjn, show j < kb.length by omega])) hAk) ?_
        refine gp zpk ?_
        refine gnt ?_
        refine gif rfl (fun hc23 => ?_) (fun hc23 => ?_)
        · refine gc_regionT 12 (by kernel_rfl) (by kernel_rfl) ?_
          refine sp zmv ?_
          refine sp znc ?_
          refine sp zfa ?_
          refine sp zl ?_
          refine sp zmv ?_
          refine sp zmv ?_
          refine sp znc ?_
          refine sp zfa ?_
          refine sp zl ?_
          refine sp zmv ?_
          refine sp (r_lookW1 rfl rfl (by repeat (first | exact Pick.here | apply Pick.there))) ?_
          refine sp (zia) ?_
          refine gs_nil ?_
          refine gl_stS (m := d.n) ((sortZ (keysW d.ws)).getD j 0).toNat (by omega) ?_
          refine gl_nil ?_
          refine gx_block_normal ?_
          refine gx_then ?_
          refine gc_region ?_
          refine gp zad ?_
          refine gp zmv ?_
          refine gl_nil ?_
          refine zrd (j + 1) ?_ ?_
          · show d.ws.length - (j + 1) < d.ws.length - j
            omega
          · simp only [keepF_yes hc23]
            exact zlp (show j + 1 ≤ d.ws.length by omega)
        · refine gc_skip ?_
          refine gx_block_normal ?_
          refine gx_then ?_
          refine gc_region ?_
          refine gp zad ?_
          refine gp zmv ?_
          refine gl_nil ?_
          refine zrd (j + 1) ?_ ?_
          · show d.ws.length - (j + 1) < d.ws.length - j
            omega
          · simp only [keepF_no (show kb.getD j false = false by exact hc23)]
            exact zlp (show j + 1 ≤ d.ws.length by omega)
      · refine gc_region ?_
        refine gp zmv ?_
        refine gp zmv ?_
        refine gp zln ?_
        refine gp (r_bool (c := false) zlt (decide_eq_false (by omega))) ?_
        refine gp zmv ?_
        refine gn ?_
        refine gn ?_
        refine gn ?_
        refine gn ?_
        refine gp zpk ?_
        refine gnt ?_
        refine gc_condF rfl rfl ?_
        refine gc_skip ?_
        refine gx_block_normal ?_
        refine gx_then ?_
        refine gc_region ?_
        refine gp zad ?_
        refine gp zmv ?_
        refine gl_nil ?_
        refine zrd (j + 1) ?_ ?_
        · show d.ws.length - (j + 1) < d.ws.length - j
          omega
        · simp only [keepF_no (show kb.getD j false = false by (have h9 : kb[j]? = none := List.getElem?_eq_none (by omega)); simp only [List.getD, h9, Option.getD_none])]
          exact zlp (show j + 1 ≤ d.ws.length by omega)
    · try simp only at hc10
      have hj' : j = d.ws.length := by omega
      refine gc_exit ?_
      refine gx_then_exit ?_
      refine gx_round_exit ?_
      refine gx_block_hit ?_
      refine gx_then ?_
      refine gsr ?_
      refine gp zmv ?_
      refine gp znc ?_
      refine gp zfa ?_
      refine gp zl ?_
      refine gl_clear (wt0 rfl) rfl Ty.un_58 (by repeat (first | exact Pick.here | apply Pick.there)) ?_
      refine gnt ?_
      refine gc_region ?_
      refine gp zmv ?_
      refine gp zmv ?_
      refine gp znc ?_
      refine gp zfa ?_
      refine zs1 ?_
      refine gp znc ?_
      refine gp zfa ?_
      refine zs1 ?_
      refine gl_nil ?_
      refine gx_ret0' rfl ?_
      exact fun w' hw => ⟨(), rfl, St.dk (d := d.crash kb) (hw.sel (by repeat (first | exact Sel.nil | (apply Sel.cons; · (repeat (first | exact Pick.here | apply Pick.there)))))) rfl rfl rfl rfl (by rw [hj', ← hsl]; rfl) rfl⟩

end Go.Proofs.YtffkjjakceojfaaDoor
