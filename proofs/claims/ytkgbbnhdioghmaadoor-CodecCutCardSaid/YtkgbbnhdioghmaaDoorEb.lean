/- Walks, by program (wg.py) out of a spec. -/
import Derived.Test.YtkgbbnhdioghmaaDoorEa
import Derived.Test.YtkgbbnhdioghmaaDoorKa
import Derived.Test.YtkgbbnhdioghmaaDoorIa
namespace Go.Proofs.YtkgbbnhdioghmaaDoor
open Go
set_option linter.unusedVariables false
set_option linter.unusedSimpArgs false


/-- The errors' variables: all eighteen of the library, each its own. -/
structure NErr (w : World) (A : Nat → Prop) (ea : Nat → Addr) : Prop where
  g : GErr [1, 2, 3, 4, 5, 6, 7, 8, 9, 10, 11, 12, 13, 14, 15, 16, 17, 18] w A 246 ea
  c : ∀ i, 1 ≤ i → i ≤ 18 → (∃ c t, w.heap[(ea i).block]? = some (.cells c t (0, 0))) ∧ A (ea i).block
  j : ∀ i j, 1 ≤ i → i ≤ 18 → 1 ≤ j → j ≤ 18 → ea i = ea j → i = j
theorem NErr.mv {w w' : World} {A A' : Nat → Prop} {ea : Nat → Addr} (h : NErr w A ea) (k : Still w A w' A') : NErr w' A' ea :=
  ⟨h.g.mv k, fun i h1 h2 => by
    obtain ⟨⟨c, t, hc⟩, hA⟩ := h.c i h1 h2
    have hlt : (ea i).block < w.heap.size := (Array.getElem?_eq_some_iff.1 hc).1
    obtain ⟨e, hA'⟩ := k _ hlt hA
    exact ⟨⟨c, t, by rw [e]; exact hc⟩, hA'⟩, h.j⟩
theorem errIs_ok {w : World} {F : Nat → Prop} {ea : Nat → Addr} {n m : Nat} (h : stars [] w F) (hN : NErr w (fun k => ¬ F k) ea) (n1 : 1 ≤ n) (n2 : n ≤ 18) (m1 : 1 ≤ m) (m2 : m ≤ 18) :
    Calls Tryd.prog 72 #[eV 246 ea n, eV 246 ea m] w (Post w F (fun _ : Unit => .bool (decide (n = m))) (fun _ => [])) := by
  have en : eV 246 ea n = .iface 246 (.pointer (some (ea n))) := by cases n with | zero => omega | succ n => unfold eV; rfl
  have em : eV 246 ea m = .iface 246 (.pointer (some (ea m))) := by cases m with | zero => omega | succ n => unfold eV; rfl
  rw [en, em]
  by_cases hnm : n = m
  · subst hnm
    exact Calls.mono (is_same (ea n) w) fun e w' ⟨he, hw⟩ => ⟨(), by rw [he, decide_eq_true rfl], by rw [hw]; exact St.init h⟩
  · obtain ⟨⟨c1, t1, h1⟩, _⟩ := hN.c n n1 n2
    obtain ⟨⟨c2, t2, h2⟩, _⟩ := hN.c m m1 m2
    exact Calls.mono (is_other (ea n) (ea m) c1 c2 t1 t2 w (fun e => hnm (hN.j n m n1 n2 m1 m2 e)) h1 h2) fun e w' ⟨he, hw⟩ => ⟨(), by rw [he, decide_eq_false hnm], by rw [hw]; exact St.init h⟩
abbrev E18 : List Nat := [1, 2, 3, 4, 5, 6, 7, 8, 9, 10, 11, 12, 13, 14, 15, 16, 17, 18]

attribute [local irreducible] Gl Gc Gx Gs Runs Wt

set_option maxHeartbeats 400000 in
theorem errNum_ok {w : World} {F : Nat → Prop} {ea : Nat → Addr} {n : Nat} (h : stars [] w F) (hN : NErr w (fun k => ¬ F k) ea) (hn : n ≤ 18) :
    Calls Tryd.prog 35 #[eV 246 ea n] w (Post w F (fun _ : Unit => .int .i64 (n : Int)) (fun _ => [])) := by
  have hE := hN.g
  refine g_enter (env := [(0, eV 246 ea n)]) Tryd.func35 rfl h Tryd.ntmps35 rfl rfl ?_
  refine gsr ?_
  refine gp zas ?_
  refine gnt ?_
  refine gc_seq ?_
  refine gsr ?_
  refine gp zmv ?_
  refine gp (r_bool (c := decide (n = 0)) (r_eqnil rfl (by kernel_rfl)) rfl) ?_
  refine gnt ?_
  refine gif rfl (fun hc7 => ?_) (fun hc7 => ?_)
  · refine gsr ?_
    refine gp zas ?_
    refine gnt ?_
    refine gc_ret ?_
    refine gx_then_ret ?_
    refine gx_ret1 rfl (by conv => lhs; whnf) ?_
    have hn0 : n = 0 := hc7
    subst hn0
    exact ze ()
  · try simp only at hc7
    have hn0 : n ≠ 0 := hc7
    refine gc_skip ?_
    refine gx_then ?_
    refine gsr ?_
    refine gp (r_ld1o rfl Ty.row_35 (hE.c 1 Has.h) (hE.n 1 Has.h)) ?_
    refine gp (r_ld1o rfl Ty.row_35 (hE.c 2 Has.h) (hE.n 2 Has.h)) ?_
    refine gp (r_ld1o rfl Ty.row_35 (hE.c 3 Has.h) (hE.n 3 Has.h)) ?_
    refine gp (r_ld1o rfl Ty.row_35 (hE.c 4 Has.h) (hE.n 4 Has.h)) ?_
    refine gp (r_ld1o rfl Ty.row_35 (hE.c 5 Has.h) (hE.n 5 Has.h)) ?_
    refine gp (r_ld1o rfl Ty.row_35 (hE.c 6 Has.h) (hE.n 6 Has.h)) ?_
    refine gp (r_ld1o rfl Ty.row_35 (hE.c 7 Has.h) (hE.n 7 Has.h)) ?_
    refine gp (r_ld1o rfl Ty.row_35 (hE.c 8 Has.h) (hE.n 8 Has.h)) ?_
    refine gp (r_ld1o rfl Ty.row_35 (hE.c 9 Has.h) (hE.n 9 Has.h)) ?_
    refine gp (r_ld1o rfl Ty.row_35 (hE.c 10 Has.h) (hE.n 10 Has.h)) ?_
    refine gp (r_ld1o rfl Ty.row_35 (hE.c 11 Has.h) (hE.n 11 Has.h)) ?_
    refine gp (r_ld1o rfl Ty.row_35 (hE.c 12 Has.h) (hE.n 12 Has.h)) ?_
    refine gp (r_ld1o rfl Ty.row_35 (hE.c 13 Has.h) (hE.n 13 Has.h)) ?_
    refine gp (r_ld1o rfl Ty.row_35 (hE.c 14 Has.h) (hE.n 14 Has.h)) ?_
    refine gp (r_ld1o rfl Ty.row_35 (hE.c 15 Has.h) (hE.n 15 Has.h)) ?_
    refine gp (r_ld1o rfl Ty.row_35 (hE.c 16 Has.h) (hE.n 16 Has.h)) ?_
    refine gp (r_ld1o rfl Ty.row_35 (hE.c 17 Has.h) (hE.n 17 Has.h)) ?_
    refine gp (r_ld1o rfl Ty.row_35 (hE.c 18 Has.h) (hE.n 18 Has.h)) ?_
    refine gl_bslice (s := 1) (e := 35) (len := 18) (cs := ((List.range 18).map fun i => eV 246 ea (i + 1))) (z := [.nilIface]) (wt0 rfl) Ty.sl_142 (by kernel_rfl) (by decide) (by decide) (by decide) (by kernel_rfl) (by kernel_rfl) rfl (fun b26 => ?_)
    refine gp zas ?_
    refine gnt ?_
    refine gc_seq ?_
    refine gsr ?_
    refine gp zmv ?_
    refine gp zln ?_
    refine gp zmv ?_
    refine gnt ?_
    refine gc_block ?_
    refine gc_loop (α := Nat) (fun k => [pureR (k ≤ 18 ∧ k < n), rowR 35 1 (some ⟨b26, 0, none⟩) 18 18 ((List.range 18).map fun i => eV 246 ea (i + 1))]) (fun k => [(29, .int .i64 (k : Int))]) [2, 4, 5, 30, 31, 32, 33, 34, 35, 36, 37, 38, 39] (fun k => 18 - k) 0 ?_ ?_ ?_
    · refine env_start (by kernel_rfl)
    · exact fun w' hw => zlp ⟨Nat.zero_le _, by omega⟩ (by repeat (first | exact Sel.nil | (apply Sel.cons; · (repeat (first | exact Pick.here | apply Pick.there))))) w' hw
    · intro k u
      refine gc_pureR (fun hk => ?_)
      obtain ⟨hk, hkn⟩ := hk
      replace hk : k ≤ 18 := hk
      replace hkn : k < n := hkn
      refine gsr ?_
      refine gp zlt ?_
      refine gnt ?_
      refine gc_seq ?_
      refine gif rfl (fun hc30 => ?_) (fun hc30 => ?_)
      · try simp only at hc30
        have hk' : k < 18 := by omega
        refine gc_skip ?_
        refine gx_then ?_
        refine gc_seq ?_
        refine gc_block ?_
        refine gsr ?_
        refine gp zmv ?_
        refine gp (zia) ?_
        refine gp (r_ld1r (v := eV 246 ea (k + 1)) rfl Ty.row_35 (by repeat (first | exact Pick.here | apply Pick.there)) (by simp [hk'])) ?_
        refine gp zas ?_
        refine gp zas ?_
        refine gnt ?_
        refine gsr ?_
        refine gp zmv ?_
        refine gp zmv ?_
        refine zc (fun _ => ?_) (c := fun w1 F1 F2 h1 h2 hd hst => errIs_ok (n := n) (m := k + 1) h1 (hN.mv hst.still) (by omega) (by omega) (by omega) (by omega))
        refine gnt ?_
        refine gif rfl (fun hc36 => ?_) (fun hc36 => ?_)
        · refine gsr ?_
          refine gp zmv ?_
          refine gp zad ?_
          refine gp zas ?_
          refine gnt ?_
          refine gc_ret ?_
          refine gx_block_ret ?_
          refine gx_then_ret ?_
          refine gx_round_ret ?_
          refine gx_block_ret ?_
          refine gx_then_ret ?_
          refine gx_ret1 rfl (by conv => lhs; whnf) ?_
          have e : n = k + 1 := hc36
          subst e
          exact ze ()
        · refine gc_skip ?_
          refine gx_block_normal ?_
          refine gx_then ?_
          refine gc_region ?_
          refine gp zad ?_
          refine gp zmv ?_
          refine gl_nil ?_
          refine zrd (k + 1) ?_ ?_
          · show 18 - (k + 1) < 18 - k
            omega
          · exact fun w' hw => zlp ⟨by show k + 1 ≤ 18; omega, by show k + 1 < n; omega⟩ (by repeat (first | exact Sel.nil | (apply Sel.cons; · (repeat (first | exact Pick.here | apply Pick.there))))) w' hw
      · refine gc_exit ?_
        refine gx_then_exit ?_
        refine gx_round_exit ?_
        refine gx_block_hit ?_
        refine gx_then ?_
        refine gsr ?_
        refine gp zas ?_
        refine gnt ?_
        refine gc_ret ?_
        refine gx_ret1 rfl (by conv => lhs; whnf) ?_
        exact absurd hkn (by omega)


theorem wOut_max {x : Msg} (h3 : x.chg.blocks.length = 3) : (wOut (wEnc x)).length ≤ 33687 := by
  have e0 := wMsg_len x h3 ⟨0, []⟩
  simp only [List.length_nil] at e0
  by_cases he : (wEnc x).err = 0
  · rw [wOut, if_pos he]
    by_cases hk : x.kind < 1 ∨ 6 < x.kind
    · rw [wEnc, if_pos hk]; simp
    · rw [wEnc, if_neg hk]; omega
  · rw [wOut, if_neg he]; simp
theorem cut_law {x : Msg} (h3 : x.chg.blocks.length = 3) (he : (wEnc x).err = 0) :
    0 < (wOut (wEnc x)).length ∧ (∀ k, k < (wOut (wEnc x)).length → allE pMsg (msg0 0) ((wOut (wEnc x)).take k) = (2, msg0 0)) ∧ (allE pMsg (msg0 0) (wOut (wEnc x))).1 = 0 ∧ (∀ m, m ≠ [] → allE pMsg (msg0 0) (wOut (wEnc x) ++ m) = (3, msg0 0)) := by
  have hk : ¬ (x.kind < 1 ∨ 6 < x.kind) := fun h => by rw [wEnc, if_pos h] at he; simp at he
  have e : wEnc x = wMsg x ⟨0, []⟩ := by rw [wEnc, if_neg hk]
  have ho : wOut (wEnc x) = (wMsg x ⟨0, []⟩).bs := by rw [wOut, if_pos he, e]
  rw [e] at he
  have hall := pAll_enc (enc_msg x h3 (by omega) (by omega)) he
  obtain ⟨_, _, _, _, ⟨c, t, hb, _⟩, _⟩ := dec_msg _ _ _ (pAll_ok hall)
  rw [ho]
  refine ⟨by rw [hb]; simp, fun k hk => ?_, by unfold allE; rw [hall], fun m hm => ?_⟩
  · unfold allE; rw [pAll_cut hall loc_msg hk]
  · unfold allE; rw [pAll_more hall loc_msg hm]
theorem RdMsg.head {w : World} {A : Nat → Prop} {cs : List Value} {x : Msg} (h : RdMsg w A cs x) : ∃ rest, cs = .int .i64 x.kind :: rest := by
  obtain ⟨v, t, p, r, c, h1, _⟩ := h; exact ⟨_, h1⟩
theorem RdRow.pre8 {w : World} {A : Nat → Prop} {h c : Nat} {a : Option Addr} {bs : List UInt8} (hr : RdRow w A 1 a bs.length (bs.map B8)) (h2 : h ≤ bs.length) (h3 : bs.length ≤ c) :
    RdRow w A 1 (if c = 0 then a else a.map (·.add (0 * 1))) h ((bs.take h).map B8) := by
  have := hr.cut8 (l := 0) (h := h) (Nat.zero_le _) h2 h3
  rwa [List.drop_zero, Nat.sub_zero] at this
theorem u64_range (x : Int) : 0 ≤ IntKind.u64.wrap x ∧ IntKind.u64.wrap x < 18446744073709551616 := by
  simp only [IntKind.wrap, IntKind.bits, IntKind.signed]; simp; omega
theorem RdMsg.one {w : World} {A : Nat → Prop} {cs : List Value} {x : Msg} (h : RdMsg w A cs x) : ∀ v ∈ cs, v.oneCell' = true := by
  obtain ⟨cv1, ct1, cp1, br1, cc1, rfl, hv1, ht1, hp1, hbr1, hcc1⟩ := h
  obtain ⟨sv1, rfl, gv1, rfl, hgv1⟩ := hv1
  obtain ⟨qt1, tt1, st1, rfl, hqt1, htt1, gt1, rfl, hgt1⟩ := ht1
  obtain ⟨bp1, tp1, sp1, rfl, hbp1, htp1, gp1, rfl, hgp1⟩ := hp1
  have jlgv1 := One.of hgv1.one
  have jlqt1 := One.of hqt1.one
  have jltt1 := One.of htt1.one
  have jlgt1 := One.of hgt1.one
  have jlbp1 := One.of hbp1.one
  have jltp1 := One.of htp1.one
  have jlgp1 := One.of hgp1.one
  have jlbr1 := One.of hbr1.one
  have jlcc1 := One.of hcc1.one'
  simp only [List.cons_append, List.append_assoc]
  repeat (first | exact One.h | refine all_app' (dc_one _) ?_ | refine all_app' One.h ?_ | refine all_cons' rfl ?_)

attribute [local irreducible] voteC tmoC propC blkC chgC sgnC tcC qcC dc msgC

set_option maxHeartbeats 400000 in
theorem codecCut_ok {w : World} {F : Nat → Prop} {ea : Nat → Addr} {cs : List Value} {x : Msg} {n : Int} {am : Option Addr} {nm cm : Nat} {bm : List UInt8} (h : stars [] w F) (hN : NErr w (fun k => ¬ F k) ea) (hx : RdMsg w (fun k => ¬ F k) cs x) (hm : RdRow w (fun k => ¬ F k) 1 am nm (bm.map B8)) :
    Calls Tryd.prog 8 #[.agg cs.toArray, .int .i64 n, .slice am nm cm] w (Post w F (fun _ : Unit => .bool true) (fun _ => [])) := by
  have hE := hN.g
  have hnm : nm = bm.length := by have := hm.1; simp at this; omega
  obtain ⟨rest, rfl⟩ := hx.head
  have lr : rest.length = 303 := by have := hx.len; simpa using this
  have on0 := hx.one
  have ir := Len.of lr
  have jr := One.of (fun v hv => on0 v (List.mem_cons_of_mem _ hv))
  refine g_enter (env := [(0, .agg (List.toArray (.int .i64 x.kind :: rest))), (1, .int .i64 n), (2, .slice am nm cm)]) Tryd.func8 rfl h Tryd.ntmps8 rfl rfl ?_
  refine gsr ?_
  refine zbN fun b3 => ?_
  refine gp zas ?_
  refine gnt ?_
  refine gc_seq ?_
  refine gsr ?_
  refine zc (fun _ => ?_) (c := fun w1 F1 F2 h1 h2 hd hst => alive09_ok h1 (hE.mv hst.still))
  refine gp znt ?_
  refine gnt ?_
  refine gc_condF rfl rfl ?_
  refine gc_skip ?_
  refine gx_then ?_
  refine gc_seq ?_
  refine gsr ?_
  refine gp zL ?_
  refine zc (fun r16 => ?_) (c := fun w1 F1 F2 h1 h2 hd hst => big_ok h1 (hx.mv hst.still))
  rcases r16 with _ | _
  · refine gp zmv ?_
    refine gq zmv ?_
    refine gq zln ?_
    refine gq zgt ?_
    refine gp zpk ?_
    refine gnt ?_
    refine gif rfl (fun hc21 => ?_) (fun hc21 => ?_)
    · refine gsr ?_
      refine gp zas ?_
      refine gnt ?_
      refine gc_ret ?_
      refine gx_then_ret ?_
      refine gx_ret1 rfl (by conv => lhs; whnf) ?_
      exact ze ()
    · refine gc_skip ?_
      refine gx_then ?_
      refine gsr ?_
      refine gp zL ?_
      refine zc ?_ (c := fun w1 F1 F2 h1 h2 hd hst => encode_ok h1 (hE.mv hst.still) (hx.mv hst.still))
      rintro ⟨a24, c24⟩
      refine gp zmv ?_
      refine gp zex ?_
      refine gp zex ?_
      refine gp zas ?_
      refine gp zas ?_
      refine gnt ?_
      refine gc_seq ?_
      refine gsr ?_
      refine gp zmv ?_
      refine gp (r_bool (c := decide (¬ (wEnc x).err = 0)) (r_nenil rfl (by kernel_rfl)) (by simp)) ?_
      refine gnt ?_
      refine gif rfl (fun hc28 => ?_) (fun hc28 => ?_)
      · refine gsr ?_
        refine gp zas ?_
        refine gnt ?_
        refine gc_ret ?_
        refine gx_then_ret ?_
        refine gx_ret1 rfl (by conv => lhs; whnf) ?_
        exact ze ()
      · try simp only at hc28
        have he : (wEnc x).err = 0 := by omega
        obtain ⟨hlen, hcut, hok, hmore⟩ := cut_law hx.three he
        have hmx := wOut_max hx.three
        have hnm100 : nm ≤ 100 := by omega
        refine gc_fact (p := (wOut (wEnc x)).length ≤ c24) (fun w hw => (hw.rowLe (e := 5) (size := 1) (a := a24) (m := (wOut (wEnc x)).length) (c := c24) (xs := (wOut (wEnc x)).map B8) (by repeat (first | exact Pick.here | apply Pick.there))).1) (fun hcap => ?_)
        obtain ⟨hA0, hA1⟩ := u64_range n
        obtain ⟨k0, hk0⟩ : ∃ k0 : Nat, (IntKind.u64.wrap n).tmod ((wOut (wEnc x)).length : Int) = (k0 : Int) := ⟨((IntKind.u64.wrap n).tmod ((wOut (wEnc x)).length : Int)).toNat, by rw [Int.toNat_of_nonneg (Int.tmod_nonneg _ hA0)]⟩
        have hk1 : k0 < (wOut (wEnc x)).length := by have := Int.tmod_lt_of_pos (IntKind.u64.wrap n) (show (0 : Int) < ((wOut (wEnc x)).length : Int) by omega); omega
        refine gc_skip ?_
        refine gx_then ?_
        refine gsr ?_
        refine gp zmv ?_
        refine gp (r_int zci rfl) ?_
        refine gp zmv ?_
        refine gp zln ?_
        refine gp (r_int (j := ((wOut (wEnc x)).length : Int)) zci (wrap_u64 (by omega) (by omega))) ?_
        refine gp (r_int zrm hk0) ?_
        refine gp (r_int (j := (k0 : Int)) zci (wrap_i64 (by omega) (by omega))) ?_
        refine gp zas ?_
        refine gnt ?_
        refine gsr ?_
        refine gp zmv ?_
        refine gp zmv ?_
        refine gp (r_slice_slice (a := a24) (m := (wOut (wEnc x)).length) (c := c24) (l := 0) (h := k0) rfl Ty.sl_33 Ty.sz_5 rfl ⟨_, rfl⟩ (by omega) (by omega)) ?_
        refine zc (fun q40 => ?_) (c := fun w1 F1 F2 h1 h2 hd hst => decode_ok (n := k0) (b := (wOut (wEnc x)).take k0) h1 (hE.mv hst.still) ((rd_row h2 hd (by repeat (first | exact Pick.here | apply Pick.there))).pre8 (by omega) hcap) (by omega))
        rw [hcut k0 hk1]
        refine gl_pureR (fun hq40 => ?_)
        have i40 := Len.of hq40.1
        have j40 := One.of hq40.2
        refine gp zmv ?_
        refine gp zex ?_
        refine gp zex ?_
        refine zal fun b9 => ?_
        refine zsN ?_
        refine gp zas ?_
        refine gnt ?_
        refine gsr ?_
        refine ze0 (fun b44 => ?_)
        refine gp zmv ?_
        refine zapo (a2 := a24) (c2 := c24) (news := (wOut (wEnc x)).map B8) (fun a46 c46 => ?_) (h1 := one_B8 _)
        refine gp zmv ?_
        refine gl_append (xs := [] ++ (wOut (wEnc x)).map B8) (news := bm.map B8) (wt0 rfl) rfl rfl (by repeat (first | exact Pick.here | apply Pick.there)) ELT.h (fun w hw => hw.rdOld hm) (one_B8 _) (by simp only [maxLen]; omega) (by omega) (fun a48 c48 => ?_)
        refine zc (fun q49 => ?_) (c := fun w1 F1 F2 h1 h2 hd hst => decode_ok (b := (wOut (wEnc x)) ++ bm) h1 (hE.mv hst.still) (by have hr := rd_row h2 hd (xs := [] ++ (wOut (wEnc x)).map B8 ++ bm.map B8) (by repeat (first | exact Pick.here | apply Pick.there)); rw [List.nil_append, ← List.map_append] at hr; exact hr) (by omega))
        refine gl_pureR (fun hq49 => ?_)
        have i49 := Len.of hq49.1
        have j49 := One.of hq49.2
        refine gp zmv ?_
        refine gp zex ?_
        refine gp zex ?_
        refine zal fun b11 => ?_
        refine zsN ?_
        refine gp zas ?_
        refine gnt ?_
        refine gc_seq ?_
        by_cases hbm : bm = []
        · refine gc_region ?_
          refine gp zmv ?_
          refine zc (fun _ => ?_) (c := fun w1 F1 F2 h1 h2 hd hst => errNum_ok (n := 2) h1 (hN.mv hst.still) (by decide))
          refine gp (r_bool (c := true) zei rfl) ?_
          refine gp zmv ?_
          refine gq zmv ?_
          refine gq zln ?_
          refine gq (r_bool (c := true) zei (by rw [hnm, hbm]; rfl)) ?_
          refine gq zmv ?_
          refine gq zmv ?_
          refine gq (r_bool (c := true) (r_eqnil rfl (by kernel_rfl)) (by rw [hbm, List.append_nil, hok]; rfl)) ?_
          refine gq zpk ?_
          refine gq zmv ?_
          refine gn ?_
          refine gn ?_
          refine gn ?_
          refine gn ?_
          refine gn ?_
          refine gn ?_
          refine gn ?_
          refine gn ?_
          refine gq zpk ?_
          refine gp zpk ?_
          refine gp zas ?_
          refine gnt ?_
          refine gc_ret ?_
          refine gx_ret1 rfl (by conv => lhs; whnf) ?_
          exact ze ()
        · refine gc_region ?_
          refine gp zmv ?_
          refine zc (fun _ => ?_) (c := fun w1 F1 F2 h1 h2 hd hst => errNum_ok (n := 2) h1 (hN.mv hst.still) (by decide))
          refine gp (r_bool (c := true) zei rfl) ?_
          refine gp zmv ?_
          refine gq zmv ?_
          refine gq zln ?_
          refine gq (r_bool (c := false) zei (decide_eq_false (by have := List.length_pos_iff.2 hbm; omega))) ?_
          refine gq zmv ?_
          refine gn ?_
          refine gn ?_
          refine gq zpk ?_
          refine gq zmv ?_
          refine gq zmv ?_
          refine gq zln ?_
          refine gq (r_bool (c := true) zgt (decide_eq_true (by have := List.length_pos_iff.2 hbm; omega))) ?_
          refine gq zmv ?_
          refine gq zmv ?_
          refine zc (fun _ => ?_) (c := fun w1 F1 F2 h1 h2 hd hst => (by rw [hmore bm hbm]; exact errNum_ok (n := 3) h1 (hN.mv hst.still) (by decide)))
          refine gq (r_bool (c := true) zei rfl) ?_
          refine gq zpk ?_
          refine gq zpk ?_
          refine gp zpk ?_
          refine gp zas ?_
          refine gnt ?_
          refine gc_ret ?_
          refine gx_ret1 rfl (by conv => lhs; whnf) ?_
          exact ze ()
  · refine gp zmv ?_
    refine gn ?_
    refine gn ?_
    refine gn ?_
    refine gp zpk ?_
    refine gnt ?_
    refine gc_condT rfl rfl ?_
    refine gsr ?_
    refine gp zas ?_
    refine gnt ?_
    refine gc_ret ?_
    refine gx_then_ret ?_
    refine gx_ret1 rfl (by conv => lhs; whnf) ?_
    exact ze ()

end Go.Proofs.YtkgbbnhdioghmaaDoor
