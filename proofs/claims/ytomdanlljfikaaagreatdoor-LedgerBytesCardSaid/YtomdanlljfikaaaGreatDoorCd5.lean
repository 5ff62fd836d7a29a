/- Part 5. What is proved: see the last part: for every input the law returns true, and the input reads as it did. -/
import Derived.Test.YtomdanlljfikaaaGreatDoorCd4
namespace Go.Proofs.YtomdanlljfikaaaGreatDoor
open Go
set_option linter.unusedVariables false
set_option linter.unusedSimpArgs false
set_option linter.unusedSectionVars false
set_option maxHeartbeats 400000
section
section
variable {P : Program} {w0 : World} {F0 : Nat → Prop} {L : List Res} {Q : Exit → Act → World → Prop} {n : Fm} {env : Env}
theorem gx_retcct {fn : Func} {R : Ending → World → Prop} {t u s : Tmp} {T U : TypeId} {a b : Addr} {v x y : Value} (hr : fn.results = #[.cell t T, .cell u U, .tmp s]) (ht : ev n env (.tmp t) = .pointer (some a)) (hx : ev n env (.tmp u) = .pointer (some b)) (hy : ev n env (.tmp s) = y)
    (hl : ∀ w, St w0 F0 L w → (loadVar T a).run P w = .ok v w) (hl2 : ∀ w, St w0 F0 L w → (loadVar U b).run P w = .ok x w) (hR : ∀ w, St w0 F0 L w → R (.returned (.tuple #[v, x, y])) w) (hd : n.ds = [] := by rfl) : Gx w0 F0 L (bodyPost P fn R) .ret n env :=
  gx_end (fun w hw => by simp [results, hr, fr_tmp' ht, fr_tmp' hx, fr_tmp' hy, asAddr, hl w hw, hl2 w hw]) hR hd
theorem r_ldRow {d : Option Tmp} {ty : TypeId} {pos : String} {af : Array Edge} {gd : Option (Nat × Bool)} {x : Operand} {T e g o m c s i : Nat} {css : List (List Value)} {cs : List Value} {L' : List Res} (hx : ev n env x = .pointer (some ⟨g, o + i * s, none⟩)) (hr : rowT P T = some true) (hs : szT P T = some s)
    (hp : Pick L (rowR e s (some ⟨g, o, none⟩) m c css.flatten) L') (hcs : ∀ c ∈ css, c.length = s) (hi : css[i]? = some cs) (him : i < m) : Runs P w0 F0 L n env ⟨d, .load T x, ty, pos, af, gd⟩ (.agg cs.toArray) := r_load hx fun w hw => by
  obtain ⟨g', o', ha, _, _, hra⟩ := (hw.row hp).elem him
  cases ha
  rw [flatten_at hcs hi] at hra
  exact run_loadVar_agg hr hs (hcs cs (List.mem_of_getElem? hi)) fun j v hj => hra j v hj
end
theorem el_rd {α : Type} {rd : World → (Nat → Prop) → List Value → α → Prop} [RdK rd] {L L' : List Res} {w : World} {F1 F2 : Nat → Prop} {css : List (List Value)} {l : List α} {i : Nat} {c : List Value} {x : α} (h2 : stars L w F2) (hd : ∀ k, F1 k → ¬ F2 k) (hp : Pick L (ElR rd css l) L') (hc : css[i]? = some c) (hx : l[i]? = some x) : rd w (fun k => ¬ F1 k) c x := by
  obtain ⟨G1, G2, ⟨⟨_, h⟩, _⟩, _, hF, _⟩ := hp.stars h2
  exact RdK.mv (h i c x hc hx) fun k _ hk => ⟨rfl, fun h1 => hd k h1 ((hF k).2 (.inl hk))⟩
theorem St.el {α : Type} {rd : World → (Nat → Prop) → List Value → α → Prop} [RdK rd] {w0 w : World} {F0 : Nat → Prop} {L L' : List Res} {css : List (List Value)} {l : List α} (h : St w0 F0 L w) (hp : Pick L (ElR rd css l) L') : css.length = l.length ∧ ∀ (i : Nat) (c : List Value) (x : α), css[i]? = some c → l[i]? = some x → ∃ w A, rd w A c x := by
  obtain ⟨F, hF, _⟩ := h
  obtain ⟨F1, ⟨⟨h1, h2⟩, _⟩, _⟩ := stars_pick hp hF
  exact ⟨h1, fun i c x hc hx => ⟨w, F1, h2 i c x hc hx⟩⟩
theorem rec_bs {r : LRec} (h : r.Ok) : allE pBlock blk0 r.bs = (0, r.b) := allE_ok (block_enc h.eb)
theorem rec_cs {r : LRec} (h : r.Ok) : allE pBlock blk0 r.cs = (0, certB r.c) := allE_ok (block_enc h.ec)
theorem vl_just {cs : List Value} {c : QC} {w : World} {F : Nat → Prop} (h : stars [VlR RdBlock cs (certB c)] w F) : stars [VlR RdQC ((cs.drop 18).take 19) c] w F := rdR_mk (show RdQC w F _ c from rd_just (stars_one' h).1) h
attribute [local irreducible] Gl Gc Gx Gs Runs Wt
attribute [local irreducible] dc RdRec RdBlock RdQC blkC qcC allE
theorem get_some {w : World} {F : Nat → Prop} {q g : Nat} {l : LS} (h : stars [LedR q g l] w F) {ea : Nat → Addr} {es : List Nat} [Has es 1] [Has es 2] [Has es 3] [Has es 4] (hE : GErr es w (fun k => ¬ F k) 261 ea) {i : Nat} {r : LRec} (hr : l.rs[i]? = some r) (hok : r.Ok) :
    Calls Tryz.prog 18 #[.pointer (some ⟨q, 0, none⟩), .int .i64 (i : Int)] w (Post w F (fun x : List Value × List Value => .tuple #[.agg x.1.toArray, .agg x.2.toArray, eV 261 ea 0]) (fun x => [pureR ((x.1.length = 39 ∧ ∀ v ∈ x.1, v.oneCell' = true) ∧ x.2.length = 19 ∧ ∀ v ∈ x.2, v.oneCell' = true), VlR RdBlock x.1 r.b, VlR RdQC x.2 r.c, LedR q g l])) := by
 obtain ⟨a0, m0, css, h18, h⟩ := led_open h; have hil : i < l.rs.length := (List.getElem?_eq_some_iff.1 hr).1
 have hbl := bs_len r
 have hcl := cs_len r
 refine g_enter (env := [(0, .pointer (some ⟨q, 0, none⟩)), (1, .int .i64 (i : Int))]) Tryz.func18 rfl h Tryz.ntmps18 rfl rfl ?_; refine gsr (zal fun b4 => ?_); refine zal fun b5 => ?_; refine zxa ?_; refine gnt (gc_seq (gsr (zxm ?_))); refine gp (r_bool (c := false) zlt (decide_eq_false (by omega))) ?_; refine zxm ?_; refine gq zmv ?_; refine gq zmv ?_; refine gq znc ?_; refine gq zfa ?_; refine gq zl ?_; refine gq zln ?_; refine gq (r_bool (c := false) zge (decide_eq_false (by omega))) ?_; refine gp zpk ?_; refine gnt (gc_condF rfl rfl ?_); refine gc_skip (gx_then (gsr (gl_fact (fun w' hw => St.el (rd := RdRec) hw (by repeat (first | exact Pick.here | apply Pick.there))) (fun hel => ?_))))
 obtain ⟨hlen, hel⟩ := hel; have hci : css[i]? = some (css[i]'(by omega)) := List.getElem?_eq_getElem (by omega)
 generalize hcse : css[i]'(by omega) = ce at hci
 have hl18 := h18 ce (List.mem_of_getElem? hci)
 obtain ⟨wv, A, hrd⟩ := hel i ce r hci hr; unfold RdRec at hrd
 obtain ⟨a1, n1, c1, a2, n2, c2, rfl, k1, k2, hb1, hb2⟩ := hrd; have hn1 : n1 = r.bs.length := by have := hb1.1; simp at this; omega
 have hn2 : n2 = r.cs.length := by have := hb2.1; simp at this; omega
 refine gl_fact (fun w' hw => St.rowAt (hw.sel (M := [rowR 92 18 a0 l.rs.length m0 css.flatten]) (by repeat (first | exact Sel.nil | (apply Sel.cons; · (repeat (first | exact Pick.here | apply Pick.there)))))) .here (by omega)) (fun hra => ?_)
 obtain ⟨_, gr, or_, ha⟩ := hra; subst ha; refine zxm ?_; refine gp znc ?_; refine gp zfa ?_; refine gp zl ?_; refine zxm ?_; refine gp (r_val (v' := .pointer (some ⟨gr, or_ + i * 18, none⟩)) zia (by simp)) ?_; refine gp (r_ldRow (i := i) rfl Ty.row_92 Ty.sz_92 (by repeat (first | exact Pick.here | apply Pick.there)) h18 hci hil) ?_; refine zal fun b7 => ?_; refine zsN ?_; refine zxs ?_; refine gp zfa ?_; refine gp zl ?_; refine zc (fun q35 => ?_) (c := fun w1 F1 F2 h1 h2 hd hst => readBlock_ok (b := r.bs) h1 (hE.mv hst.still) (rd_rows (el_rd h2 hd (by repeat (first | exact Pick.here | apply Pick.there)) hci hr)).1 (by omega))
 refine gl_pureR (fun hq35 => ?_)
 obtain ⟨hl35, ho35⟩ := hq35; replace hl35 : q35.length = 39 := hl35
 have i35 := Len.of hl35
 have j35 := One.of (show ∀ v ∈ q35, v.oneCell' = true from ho35)
 rw [rec_bs hok]; refine zxm ?_; refine gp zex ?_; refine gp zex ?_; refine zal fun b8 => ?_; refine zsN ?_; refine zxa ?_; refine gnt (gc_seq (gsr (zxm ?_))); refine gp (r_bool (c := false) (r_nenil rfl (by kernel_rfl)) rfl) ?_; refine gnt (gc_condF rfl rfl ?_); refine gc_skip (gx_then (gsr (gp zfa ?_))); refine gp zl ?_; refine zc (fun q46 => ?_) (c := fun w1 F1 F2 h1 h2 hd hst => readBlock_ok (b := r.cs) h1 (hE.mv hst.still) (rd_rows (el_rd h2 hd (by repeat (first | exact Pick.here | apply Pick.there)) hci hr)).2.1 (by omega))
 refine gl_pureR (fun hq46 => ?_)
 obtain ⟨hl46, ho46⟩ := hq46; replace hl46 : q46.length = 39 := hl46
 have i46 := Len.of hl46
 have j46 := One.of (show ∀ v ∈ q46, v.oneCell' = true from ho46)
 rw [rec_cs hok]; have i51 := Len.of (show ((q46.drop 18).take 19).length = 19 by rw [List.length_take, List.length_drop]; omega)
 have j51 := One.of (show ∀ v ∈ (q46.drop 18).take 19, v.oneCell' = true from fun v hv => ho46 v (List.mem_of_mem_drop (List.mem_of_mem_take hv)))
 refine zxm ?_; refine gp zex ?_; refine gp zex ?_; refine zal fun b10 => ?_; refine zsN ?_; refine zxa ?_; refine gnt (gc_seq (gc_regionZ 6 ([blk b8 45 q35, blk b10 45 q46]) ?_)); refine yps 0 rfl (zLa (cs := q35)) ?_; refine yps 1 rfl zfa ?_; refine yps 2 rfl (zL (sg := (q46.drop 18).take 19) (hg := rfl)) ?_; refine yps 3 rfl zmv ?_; refine yos 4 rfl ?_; refine zsN ?_; refine yxs ?_; refine yos 5 rfl ?_; refine zsN ?_; refine yxs ?_; refine yzs rfl ?_; refine zxa ?_; refine gnt (gc_ret (gx_retcct rfl rfl rfl (by conv => lhs; whnf) (ldA Ty.row_45 Ty.sz_45) (ldA Ty.row_41 Ty.sz_41) ?_))
 intro w' hw; have hw2 := hw.conv (M := [VlR RdBlock q46 (certB r.c)]) (by repeat (first | exact Sel.nil | (apply Sel.cons; · (repeat (first | exact Pick.here | apply Pick.there))))) (fun _ _ => vl_just)
 exact ⟨(q35, (q46.drop 18).take 19), rfl, (St.led (L := [pureR ((q35.length = 39 ∧ ∀ v ∈ q35, v.oneCell' = true) ∧ ((q46.drop 18).take 19).length = 19 ∧ ∀ v ∈ (q46.drop 18).take 19, v.oneCell' = true), VlR RdBlock q35 r.b, VlR RdQC ((q46.drop 18).take 19) r.c]) ((St.pureI (p := ((q35.length = 39 ∧ ∀ v ∈ q35, v.oneCell' = true) ∧ ((q46.drop 18).take 19).length = 19 ∧ ∀ v ∈ (q46.drop 18).take 19, v.oneCell' = true)) ⟨⟨hl35, ho35⟩, Len.h, One.h⟩ hw2).sel (M := ledL q g l.base l.e _ l.rs.length m0 css l.rs [pureR ((q35.length = 39 ∧ ∀ v ∈ q35, v.oneCell' = true) ∧ ((q46.drop 18).take 19).length = 19 ∧ ∀ v ∈ (q46.drop 18).take 19, v.oneCell' = true), VlR RdBlock q35 r.b, VlR RdQC ((q46.drop 18).take 19) r.c]) (by repeat (first | exact Sel.nil | (apply Sel.cons; · (repeat (first | exact Pick.here | apply Pick.there)))))) h18 rfl rfl rfl rfl).z⟩
end
section
structure Calm (d : DS) : Prop where
  ar : d.armed = false
  on : d.off = false
  ok : DOk d
theorem at_write {d : DS} {i j : Nat} {v : Sec} : (d.write (i : Int) v).at j = if j = i then v else d.at j := by
  simp only [DS.at, DS.write, lookW_put]
  by_cases h : j = i
  · subst h; simp
  · rw [if_neg h, if_neg (by omega)]
theorem at_sync {d : DS} {j : Nat} : d.sync.at j = d.at j := rfl
theorem Calm.wr {d : DS} (h : Calm d) {i : Nat} {v : Sec} (hi : i < d.n) : d.wr (i : Int) v = (0, d.write (i : Int) v) ∧ Calm (d.write (i : Int) v) :=
  ⟨wr_calm h.ar h.on (has_iff.2 ⟨by omega, by omega⟩), h.ar, h.on, write_ok h.ok (by omega) (by omega)⟩
theorem Calm.sync {d : DS} (h : Calm d) : d.syncd = d.sync ∧ Calm d.sync ∧ (oper d).off = false := ⟨syncd_calm h.ar h.on, ⟨h.ar, h.on, sync_ok h.ok⟩, by rw [oper_calm h.ar]; exact h.on⟩
theorem wdat_calm {d : DS} (h : Calm d) (e : Nat) (x : List UInt8) : ∀ i, e + 1 + i ≤ d.n → (wdat d e x i).1 = 0 ∧ Calm (wdat d e x i).2 ∧ (wdat d e x i).2.n = d.n ∧ ∀ j, (wdat d e x i).2.at j = if e + 1 ≤ j ∧ j < e + 1 + i then secData x (j - (e + 1)) else d.at j
  | 0, _ => ⟨rfl, h, rfl, fun j => by rw [if_neg (by omega), wdat_zero]⟩
  | i + 1, hi => by
    obtain ⟨h0, hc, hn, ha⟩ := wdat_calm h e x i (by omega)
    obtain ⟨hw, hc2⟩ := hc.wr (i := e + 1 + i) (v := secData x i) (by omega)
    rw [wdat_step h0, hw]
    refine ⟨rfl, hc2, hn, fun j => ?_⟩
    show ((wdat d e x i).2.write ((e + 1 + i : Nat) : Int) (secData x i)).at j = _
    rw [at_write, ha]
    by_cases h1 : j = e + 1 + i
    · subst h1; rw [if_pos rfl, if_pos (by omega), Nat.add_sub_cancel_left]
    · rw [if_neg h1]
      by_cases h2 : e + 1 ≤ j ∧ j < e + 1 + i
      · rw [if_pos h2, if_pos (by omega)]
      · rw [if_neg h2, if_neg (by omega)]
def appF (d : DS) (l : LS) (r : LRec) (j : Nat) : Sec :=
  if j = l.e then headL l.rs.length r.data else if j = l.e + lenR r then sec0 else if l.e + 1 ≤ j ∧ j < l.e + lenR r then secData r.data (j - (l.e + 1)) else d.at j
def LS.add (l : LS) (r : LRec) : LS := ⟨l.base, l.rs ++ [r], l.e + lenR r⟩
theorem appD_calm {d : DS} {l : LS} {r : LRec} (h : Calm d) (hf : nsec r.data.length + 2 ≤ d.n - l.e) : ∃ d', appD d l r = (0, d', l.add r) ∧ Calm d' ∧ d'.n = d.n ∧ d'.ws = [] ∧ ∀ j, d'.at j = appF d l r j := by
  have hl : lenR r = 1 + nsec r.data.length := rfl
  obtain ⟨h0, hc, hn, ha⟩ := wdat_calm h l.e r.data (nsec r.data.length) (by omega)
  obtain ⟨d1, hd1⟩ : ∃ d1, d1 = (wdat d l.e r.data (nsec r.data.length)).2 := ⟨_, rfl⟩
  rw [← hd1] at hc hn ha
  obtain ⟨hw2, hc2⟩ := hc.wr (i := l.e + lenR r) (v := sec0) (by omega)
  obtain ⟨hs3, hc3, ho3⟩ := hc2.sync
  obtain ⟨hw4, hc4⟩ := hc3.wr (i := l.e) (v := headL l.rs.length r.data) (by show l.e < d1.n; omega)
  obtain ⟨hs5, hc5, ho5⟩ := hc4.sync
  refine ⟨_, ?_, hc5, hn, rfl, fun j => ?_⟩
  · unfold appD
    rw [if_pos h0, ← hd1]
    unfold appE
    rw [hw2, if_pos rfl]
    unfold appM
    rw [if_neg (by rw [ho3]; decide), hs3]
    unfold appH
    rw [hw4, if_pos rfl]
    unfold appS
    rw [if_neg (by rw [ho5]; decide), hs5]
    rfl
  · rw [at_sync, at_write, at_sync, at_write, ha]
    unfold appF
    by_cases h1 : j = l.e
    · rw [if_pos h1, if_pos h1]
    · rw [if_neg h1, if_neg h1]
      by_cases h2 : j = l.e + lenR r
      · rw [if_pos h2, if_pos h2]
      · rw [if_neg h2, if_neg h2, hl, show l.e + (1 + nsec r.data.length) = l.e + 1 + nsec r.data.length by omega]
structure LInv (d : DS) (l : LS) (bs : Nat) : Prop where
  ba : l.base = (bs : Int)
  lo : LOk d.at bs l.rs
  e : l.e = bs + tot l.rs
  lt : l.e < d.n
theorem tot_snoc (rs : List LRec) (r : LRec) : tot (rs ++ [r]) = tot rs + lenR r := by simp [tot]
theorem secsR_at {h i : Nat} {r : LRec} (hi : i < nsec r.data.length) : (secsR h r).getD (i + 1) sec0 = secData r.data i := by
  simp [secsR, List.getD, hi]
theorem LInv.add {d d' : DS} {l : LS} {bs : Nat} {r : LRec} (h : LInv d l bs) (hr : r.Ok) (hf : nsec r.data.length + 2 ≤ d.n - l.e) (hn : d'.n = d.n) (ha : ∀ j, d'.at j = appF d l r j) : LInv d' (l.add r) bs := by
  have hl : lenR r = 1 + nsec r.data.length := rfl
  have he := h.e
  refine ⟨h.ba, ⟨fun x hx => ?_, fun i hi => ?_, ?_⟩, by show l.e + lenR r = bs + tot (l.rs ++ [r]); rw [tot_snoc]; omega, by show l.e + lenR r < d'.n; omega⟩
  · rcases List.mem_append.1 hx with hx | hx
    · exact h.lo.ok x hx
    · simp at hx; subst hx; exact hr
  · replace hi : i < tot (l.rs ++ [r]) := hi
    rw [tot_snoc] at hi
    show d'.at (bs + i) = (secsOf 0 (l.rs ++ [r])).getD i sec0
    rw [ha, secsOf_app, Nat.zero_add]
    by_cases h1 : i < tot l.rs
    · rw [appF, if_neg (by omega), if_neg (by omega), if_neg (by omega), h.lo.at' i h1]
      simp only [List.getD]
      rw [List.getElem?_append_left (by rw [secsOf_len]; exact h1)]
    · obtain ⟨k, rfl⟩ : ∃ k, i = tot l.rs + k := ⟨i - tot l.rs, by omega⟩
      have e1 : (secsOf 0 l.rs ++ secsOf l.rs.length [r]).getD (tot l.rs + k) sec0 = (secsR l.rs.length r).getD k sec0 := by
        simp only [List.getD]
        rw [List.getElem?_append_right (by rw [secsOf_len]; omega), secsOf_len, Nat.add_sub_cancel_left]
        simp [secsOf]
      rw [e1, appF]
      cases k with
      | zero => rw [if_pos (by omega)]; rfl
      | succ k => rw [if_neg (by omega), if_neg (by omega), if_pos (by omega), secsR_at (by omega)]; congr 1; omega
  · show d'.at (bs + tot (l.rs ++ [r])) = sec0
    rw [ha, tot_snoc, appF, if_neg (by omega), if_pos (by omega)]
theorem tot_ge : ∀ (rs : List LRec), 2 * rs.length ≤ tot rs
  | [] => Nat.le_refl _
  | r :: l => by
    have := tot_ge l
    have hd := data_len r
    have : 1 ≤ nsec r.data.length := by unfold nsec; omega
    show 2 * (l.length + 1) ≤ lenR r + tot l
    unfold lenR; omega
theorem LInv.ln {d : DS} {l : LS} {bs : Nat} (h : LInv d l bs) (hk : DOk d) : l.rs.length ≤ 2048 := by
  have := tot_ge l.rs; have := h.lt; have := h.e; have := hk.n; omega
theorem LInv.op {d : DS} {l : LS} {bs : Nat} (h : LInv d l bs) : openE d (bs : Int) = (0, l) := by
  have hlt := h.lt
  have he := h.e
  have hh := lopen_ok h.lo (by omega)
  rw [openE, if_pos (has_iff.2 ⟨by omega, by omega⟩), Int.toNat_natCast, hh]
  simp only [Prod.mk.injEq, true_and]
  rw [← he, ← h.ba]
theorem fmt_calm {d : DS} {bs : Nat} (h : Calm d) (hb : bs < d.n) : ∃ d', fmtL d (bs : Int) = (0, d') ∧ Calm d' ∧ d'.n = d.n ∧ d'.ws = [] ∧ LInv d' ⟨bs, [], bs⟩ bs := by
  obtain ⟨hw, hc⟩ := h.wr (i := bs) (v := sec0) hb
  obtain ⟨hs, hc2, ho⟩ := hc.sync
  refine ⟨(d.write (bs : Int) sec0).sync, ?_, hc2, rfl, rfl, rfl, ⟨by simp, fun i hi => absurd hi (Nat.not_lt_zero _), ?_⟩, rfl, hb⟩
  · rw [fmtL, if_pos (has_iff.2 ⟨by omega, by omega⟩), hw, if_pos rfl, if_neg (by rw [ho]; decide), hs]
  · show ((d.write (bs : Int) sec0).sync).at (bs + 0) = sec0
    rw [at_sync, at_write, if_pos (by omega)]
def Wr (f : WS → WS) (n : Nat) : Prop := ∀ s, s.err = 0 → (f s).err = 0 ∧ (f s).bs.length = s.bs.length + n
theorem Wr.fix (b : List UInt8) : Wr (wFix b) b.length := fun s h => by rw [wFix_of h]; simp
theorem Wr.num {v : Int} {wd : Nat} (h0 : 0 ≤ v) (h : v < 2 ^ (8 * wd)) : Wr (wNum v wd) wd := fun s hs => by
  unfold wNum
  rw [if_neg (by omega)]
  have := Wr.fix (beN v wd) s hs
  rwa [beN_length] at this
theorem Wr.then {f g : WS → WS} {n m : Nat} (hf : Wr f n) (hg : Wr g m) : Wr (fun s => g (f s)) (n + m) := fun s hs => by
  obtain ⟨h1, h2⟩ := hf s hs
  obtain ⟨h3, h4⟩ := hg (f s) h1
  exact ⟨h3, by rw [h4, h2, Nat.add_assoc]⟩
theorem Wr.dig (d : Dig) : Wr (wDig d) 16 := fun s hs => by have := Wr.fix d.l s hs; rwa [d.h] at this
theorem Wr.fold {α : Type} {wX : α → WS → WS} {c : Nat} : ∀ {l : List α}, (∀ x ∈ l, Wr (wX x) c) → Wr (fun s => l.foldl (fun s x => wX x s) s) (l.length * c)
  | [], _ => fun s hs => ⟨hs, by simp⟩
  | x :: l, h => by
    have h1 := (h x (by simp)).then (Wr.fold (l := l) fun y hy => h y (by simp [hy]))
    rw [show (x :: l).length * c = c + l.length * c by rw [List.length_cons, Nat.add_mul, Nat.one_mul, Nat.add_comm]]
    exact h1
theorem Wr.put {α : Type} {wX : α → WS → WS} {c most : Nat} {l : List α} (hl : l.length ≤ most) (h2 : l.length ≤ 255) (h : ∀ x ∈ l, Wr (wX x) c) : Wr (wPut wX l most) (1 + l.length * c) := fun s hs => by
  unfold wPut
  rw [if_neg (by omega)]
  exact (Wr.num (v := (l.length : Int)) (wd := 1) (by omega) (by show (l.length : Int) < 256; omega)).then (Wr.fold h) s hs
theorem Wr.bytes {b : List UInt8} {most : Nat} (h : b.length ≤ most) (hm : most ≤ 65535) : Wr (wBytes b most) (2 + b.length) := fun s hs => by
  unfold wBytes
  rw [if_neg (by omega)]
  exact (Wr.num (v := (b.length : Int)) (wd := 2) (by omega) (by show (b.length : Int) < 65536; omega)).then (Wr.fix b) s hs
def sgE : Signed := ⟨0, 0, List.replicate 5 dig0, []⟩
def rndU (i : Int) : Nat := ((IntKind.u64.wrap i).tmod 1000).toNat
def vts (i : Int) : Nat := ((IntKind.u64.wrap i).tmod 4).toNat
theorem u64_rem (a : Int) {m : Nat} (hm : 0 < m) : (IntKind.u64.wrap a).tmod (m : Int) = ((((IntKind.u64.wrap a).tmod (m : Int)).toNat : Nat) : Int) ∧ ((IntKind.u64.wrap a).tmod (m : Int)).toNat < m := by
  have h0 : 0 ≤ IntKind.u64.wrap a := by simp [IntKind.wrap, IntKind.bits, IntKind.signed]; omega
  have h1 := Int.tmod_lt_of_pos (IntKind.u64.wrap a) (show (0 : Int) < (m : Int) by omega)
  have h2 := Int.tmod_nonneg (m : Int) h0
  omega
theorem rndU_eq (i : Int) : (IntKind.u64.wrap i).tmod 1000 = (rndU i : Int) := (u64_rem i (m := 1000) (by decide)).1
theorem vts_eq (i : Int) : (IntKind.u64.wrap i).tmod 4 = (vts i : Int) := (u64_rem i (m := 4) (by decide)).1
def smB (n : Nat) (tx : UInt8) : Block := ⟨1, n, dig0, qc0, [[tx]], []⟩
def smC (n : Nat) (tx : UInt8) (v : Nat) : QC := ⟨1, n, idOf (smB n tx), List.replicate v sgE⟩
def smR (n : Nat) (tx : UInt8) (v : Nat) : LRec := ⟨smB n tx, smC n tx v⟩
theorem wr_at {n : Nat} (h : n < 1000) : Wr (wAt 1 n) 10 :=
  (Wr.num (v := 1) (wd := 4) (by decide) (by decide)).then (Wr.num (v := (n : Int)) (wd := 6) (by omega) (by show (n : Int) < 281474976710656; omega))
theorem wr_at0 : Wr (wAt 0 0) 10 := (Wr.num (v := 0) (wd := 4) (by decide) (by decide)).then (Wr.num (v := 0) (wd := 6) (by decide) (by decide))
theorem wr_qc0 : Wr (wQC qc0) 27 := (wr_at0.then (Wr.dig dig0)).then (Wr.put (l := ([] : List Signed)) (c := 0) (by simp) (by simp) (by simp))
theorem wr_smB {n : Nat} {tx : UInt8} (h : n < 1000) : Wr (wBlock (smB n tx)) 58 :=
  ((((wr_at h).then (Wr.dig dig0)).then wr_qc0).then (Wr.put (l := [[tx]]) (most := 4) (c := 3) (by simp) (by simp) (fun x hx => by simp at hx; subst hx; exact Wr.bytes (by simp) (by decide)))).then
    (Wr.put (l := ([] : List Vdr)) (c := 0) (by simp) (by simp) (by simp))
theorem wr_sgE : Wr (wSigned sgE) 84 := fun s hs => by
  have h1 := Wr.num (v := 0) (wd := 1) (by decide) (by decide) s hs
  have h2 := Wr.num (v := 0) (wd := 1) (by decide) (by decide) _ h1.1
  have h3 := Wr.put (wX := wDig) (l := List.replicate 5 dig0) (most := 68) (c := 16) (by simp) (by simp) (fun x _ => Wr.dig x) _ h2.1
  have h4 := Wr.put (wX := wDig) (l := ([] : List Dig)) (most := 5) (c := 0) (by simp) (by simp) (by simp) _ h3.1
  show (wPut wDig [] 5 (wPut wDig (List.replicate 5 dig0) 68 (wNum 0 1 (wNum 0 1 s)))).err = 0 ∧ (wPut wDig [] 5 (wPut wDig (List.replicate 5 dig0) 68 (wNum 0 1 (wNum 0 1 s)))).bs.length = _
  refine ⟨h4.1, h4.2.trans ?_⟩
  rw [h3.2, h2.2, h1.2]; simp
theorem wr_votes (v : Nat) (hv : v < 4) : Wr (wPut wSigned (List.replicate v sgE) 7) (1 + v * 84) := fun s hs => by
  have h := Wr.put (wX := wSigned) (l := List.replicate v sgE) (most := 7) (c := 84) (by simp; omega) (by simp; omega) (fun x hx => by rw [List.eq_of_mem_replicate hx]; exact wr_sgE) s hs
  rwa [List.length_replicate] at h
attribute [local irreducible] wAt wDig wPut wSigned wBytes wVdr in
theorem wr_smC {n v : Nat} {tx : UInt8} (h : n < 1000) (hv : v < 4) : Wr (wBlock (certB (smC n tx v))) (55 + 84 * v) := fun s hs => by
  have h1 := wr_at0 s hs
  have h2 := Wr.dig dig0 _ h1.1
  have h3 := wr_at h _ h2.1
  have h4 := Wr.dig (idOf (smB n tx)) _ h3.1
  have h5 := wr_votes v hv _ h4.1
  have h6 := Wr.put (wX := fun t => wBytes t 16) (l := ([] : List (List UInt8))) (most := 4) (c := 0) (by simp) (by simp) (by simp) _ h5.1
  have h7 := Wr.put (wX := wVdr) (l := ([] : List Vdr)) (most := 7) (c := 0) (by simp) (by simp) (by simp) _ h6.1
  refine ⟨h7.1, h7.2.trans ?_⟩
  rw [h6.2, h5.2, h4.2, h3.2, h2.2, h1.2]; simp; omega
theorem sm_ok {n v : Nat} {tx : UInt8} (h : n < 1000) (hv : v < 4) : (smR n tx v).Ok := ⟨(wr_smB h ⟨0, []⟩ rfl).1, (wr_smC h hv ⟨0, []⟩ rfl).1, by simp only [smR, smC], by simp only [smR, smC, smB], by simp only [smR, smC, smB]⟩
theorem sm_len {n v : Nat} {tx : UInt8} (h : n < 1000) (hv : v < 4) : (smR n tx v).data.length = 117 + 84 * v := by
  have h1 := (wr_smB (tx := tx) h ⟨0, []⟩ rfl).2
  have h2 := (wr_smC (tx := tx) h hv ⟨0, []⟩ rfl).2
  rw [LRec.data, dataL_len]
  show 4 + (wBlock (smB n tx) ⟨0, []⟩).bs.length + (wBlock (certB (smC n tx v)) ⟨0, []⟩).bs.length = _
  rw [h1, h2]; simp; omega
theorem sm_sec {n v : Nat} {tx : UInt8} (h : n < 1000) (hv : v < 4) : nsec (smR n tx v).data.length ≤ 6 := by rw [sm_len h hv]; unfold nsec; omega
theorem rnd_lt (i : Int) : rndU i < 1000 := (u64_rem i (m := 1000) (by decide)).2
theorem vts_lt (i : Int) : vts i < 4 := (u64_rem i (m := 4) (by decide)).2
theorem app_ok {d : DS} {l : LS} {b : Block} {c : QC} (hm : madeE b c = 0) (h2 : l.rs.length < 200) (hf : nsec (⟨b, c⟩ : LRec).data.length + 2 ≤ d.n - l.e) : appL d l b c = appD d l ⟨b, c⟩ := by
  unfold appL; rw [if_pos hm, if_neg (fun h => h.elim (fun h' => by omega) (fun h' => h' hf))]
end
section
abbrev lsOf (bs : Nat) (rs : List LRec) : LS := ⟨(bs : Int), rs, bs + tot rs⟩
structure LdOk (d : DS) (n bs : Nat) (rs : List LRec) : Prop where
  c : Calm d
  n : d.n = n
  ws : d.ws = []
  i : LInv d (lsOf bs rs) bs
def LdR (q g n bs : Nat) (rs : List LRec) : Res := exR fun d : DS => allR [pureR (LdOk d n bs rs), LedR q g (lsOf bs rs), DiskR g d]
section
variable {w w0 : World} {F F0 : Nat → Prop} {q g n bs : Nat} {rs : List LRec} {L : List Res} {ea : Nat → Addr} {es : List Nat}
theorem ld_open (h : stars (LdR q g n bs rs :: L) w F) : ∃ d, LdOk d n bs rs ∧ stars (LedR q g (lsOf bs rs) :: DiskR g d :: L) w F := by
  obtain ⟨d, h⟩ := stars_ex h
  obtain ⟨h1, h2⟩ := stars_pure (stars_all h)
  exact ⟨d, h1, h2⟩
theorem ld_shut {d : DS} (hd : LdOk d n bs rs) (h : stars (LedR q g (lsOf bs rs) :: DiskR g d :: L) w F) : stars (LdR q g n bs rs :: L) w F := stars_ex_mk d (stars_all_mk (stars_pure_mk hd h))
theorem St.ld {d : DS} (h : St w0 F0 (LedR q g (lsOf bs rs) :: DiskR g d :: L) w) (hd : LdOk d n bs rs) : St w0 F0 (LdR q g n bs rs :: L) w := h.mapL fun F hF => ld_shut hd hF
theorem tot_lt {d : DS} (h : LdOk d n bs rs) : bs + tot rs < n := by have := h.i.lt; rw [h.n] at this; exact this
theorem disk0_calm {n : Nat} (h : n ≤ 4096) : Calm ⟨n, fun _ => sec0, [], false, false, 0⟩ := ⟨rfl, rfl, h, by simp [keysW], by simp [keysW], (fun h => by cases h), by show (-9223372036854775808 : Int) ≤ 0 ∧ (0 : Int) ≤ 9223372036854775807; decide⟩
theorem fmtC (h : stars [DiskR g ⟨n, fun _ => sec0, [], false, false, 0⟩] w F) (hn : n ≤ 4096) (hb : bs < n) [Has es 1] [Has es 6] (hE : GErr es w (fun k => ¬ F k) 261 ea) :
    Calls Tryz.prog 7 #[.pointer (some ⟨g, 0, none⟩), .int .i64 (bs : Int)] w (Post w F (fun q : Nat => .tuple #[.pointer (some ⟨q, 0, none⟩), eV 261 ea 0]) (fun q => [LdR q g n bs []])) := by
  have hc := disk0_calm hn
  obtain ⟨d', e, h1, h2, h3, h4⟩ := fmt_calm hc hb
  refine Calls.mono (formatL_ok (b := (bs : Int)) h hc.ok hE) ?_
  rintro o w' ⟨q, ho, hs⟩
  simp only [e, if_true] at ho hs
  exact ⟨q, ho, St.ld (rs := []) (n := n) (L := []) (show St w F [LedR q g (lsOf bs []), DiskR g d'] w' from hs) ⟨h1, h2, h3, h4⟩⟩
theorem appC {cs qs : List Value} {b : Block} {c : QC} (h : stars [LdR q g n bs rs] w F) [Has es 1] [Has es 4] [Has es 6] [Has es 8] [Has es 12] (hE : GErr es w (fun k => ¬ F k) 261 ea) (hK : KR w (fun k => ¬ F k)) (hx : RdBlock w (fun k => ¬ F k) cs b) (hq : RdQC w (fun k => ¬ F k) qs c)
    (hr : (⟨b, c⟩ : LRec).Ok) (h2 : rs.length < 200) (hf : bs + tot rs + nsec (⟨b, c⟩ : LRec).data.length + 2 ≤ n) :
    Calls Tryz.prog 10 #[.pointer (some ⟨q, 0, none⟩), .agg cs.toArray, .agg qs.toArray] w (Post w F (fun _ : Unit => eV 261 ea 0) (fun _ => [LdR q g n bs (rs ++ [⟨b, c⟩])])) := by
  obtain ⟨d, hd, h⟩ := ld_open h
  have hfit : nsec (⟨b, c⟩ : LRec).data.length + 2 ≤ d.n - (lsOf bs rs).e := by rw [hd.n]; show _ ≤ n - (bs + tot rs); omega
  obtain ⟨d', e, h1, h3, h4, h5⟩ := appD_calm (l := lsOf bs rs) hd.c hfit
  have e2 := (app_ok (d := d) (l := lsOf bs rs) (made_zero hr) h2 hfit).trans e
  refine Calls.mono (append_ok (l := lsOf bs rs) h hd.c.ok hE hK hx hq hd.i.lt (by show rs.length < _; omega)) ?_
  rintro o w' ⟨x, ho, hs⟩
  simp only [e2] at ho hs
  have hi := hd.i.add (d' := d') hr hfit h3 h5
  have el : (lsOf bs rs).add ⟨b, c⟩ = lsOf bs (rs ++ [⟨b, c⟩]) := by simp only [LS.add, lsOf, tot_snoc, Nat.add_assoc]
  rw [el] at hi hs
  exact ⟨(), ho, St.ld hs ⟨h1, by rw [h3, hd.n], h4, hi⟩⟩
theorem openC (h : stars [LdR q g n bs rs] w F) [Has es 1] [Has es 2] [Has es 3] [Has es 4] [Has es 6] [Has es 7] [Has es 12] (hE : GErr es w (fun k => ¬ F k) 261 ea) (hK : KR w (fun k => ¬ F k)) :
    Calls Tryz.prog 14 #[.pointer (some ⟨g, 0, none⟩), .int .i64 (bs : Int)] w (Post w F (fun p : Nat => .tuple #[.pointer (some ⟨p, 0, none⟩), eV 261 ea 0]) (fun p => [LdR p g n bs rs, LedR q g (lsOf bs rs)])) := by
  obtain ⟨d, hd, h⟩ := ld_open h
  obtain ⟨F1, F2, h1, h2, hF, hdj⟩ := (Pick.there (x := LedR q g (lsOf bs rs)) (Pick.here (r := DiskR g d) (L := []))).stars h
  have hst : Still w (fun k => ¬ F k) w (fun k => ¬ F1 k) := fun k _ hk => ⟨rfl, fun h' => hk ((hF k).2 (.inl h'))⟩
  have hc := calls_frame (lopen_ok' (b := (bs : Int)) (stars_one h1) hd.c.ok (hE.mv hst) (hK.mv hst) hd.c.on) h2 hF hdj
  refine Calls.mono hc ?_
  rintro o w' ⟨p, ho, hs⟩
  have e := hd.i.op
  simp only [e, if_true] at ho hs
  exact ⟨p, ho, St.ld hs hd⟩
theorem lenC (h : stars [LdR q g n bs rs] w F) : Calls Tryz.prog 17 #[.pointer (some ⟨q, 0, none⟩)] w (Post w F (fun _ : Unit => .int .i64 (rs.length : Int)) (fun _ => [LdR q g n bs rs])) := by
  obtain ⟨d, hd, h⟩ := ld_open h
  obtain ⟨F1, F2, h1, h2, hF, hdj⟩ := h
  refine Calls.mono (calls_frame (lenL_ok (stars_one h1)) h2 hF hdj) ?_
  rintro o w' ⟨x, ho, hs⟩
  exact ⟨(), ho, St.ld hs hd⟩
theorem crashC (h : stars [LdR q g n bs rs] w F) : Calls Tryz.prog 25 #[.pointer (some ⟨g, 0, none⟩), .slice none 0 0] w (Post w F (fun _ : Unit => .tuple #[]) (fun _ => [LdR q g n bs rs])) := by
  obtain ⟨d, hd, h⟩ := ld_open h
  obtain ⟨F1, F2, h1, h2, hF, hdj⟩ := (Pick.there (x := LedR q g (lsOf bs rs)) (Pick.here (r := DiskR g d) (L := []))).stars h
  refine Calls.mono (calls_frame (crash_ok' (kb := []) (stars_one h1) hd.c.ok RdRow.nil) h2 hF hdj) ?_
  rintro o w' ⟨x, ho, hs⟩
  have e : d.crash [] = d := by
    rw [crash_idle hd.ws]
    have := hd.c.ar; have := hd.c.on
    cases d; simp_all
  rw [e] at hs
  exact ⟨(), ho, St.ld (hs.sel (.cons (.there .here) (.cons .here .nil))) hd⟩
end
end
section
def smL (b : Nat) (n : Nat) : List Value := .int .i64 1 :: .int .i64 (n : Int) :: (dc dig0 ++ (qcC ++ [.slice (some ⟨b, 0, none⟩) 1 1, .slice none 0 0]))
theorem smL_len (b n : Nat) : (smL b n).length = 39 := by simp [smL, dc_length, qcC, dc_length]
theorem smL_one (b n : Nat) : ∀ v ∈ smL b n, v.oneCell' = true := all_cons' rfl (all_cons' rfl (all_app' (dc_one _) (all_app' (rdQC0 (w := default) (A := fun _ => True)).one (all_cons' rfl (all_cons' rfl all_nil')))))
theorem rd_smL {w : World} {A : Nat → Prop} {b c n : Nat} {tx : UInt8} (h1 : RdRow w A 1 (some ⟨b, 0, none⟩) 1 [.slice (some ⟨c, 0, none⟩) 1 1]) (h2 : RdRow w A 1 (some ⟨c, 0, none⟩) 1 [B8 tx]) : RdBlock w A (smL b n) (smB n tx) :=
  ⟨qcC, some ⟨b, 0, none⟩, 1, 1, none, 0, 0, rfl, rdQC0, Nat.le_refl _, ⟨[[.slice (some ⟨c, 0, none⟩) 1 1]], h1, by simp, rfl, fun i x y hx hy => by
    match i with
    | 0 => simp at hx; subst hx; cases hy; exact ⟨_, _, _, rfl, Nat.le_refl _, h2⟩
    | i + 1 => simp at hx⟩, Nat.le_refl _, RdList.nil⟩
theorem smL_at (b n : Nat) : (smL b n)[0 + 1]? = some (.int .i64 (n : Int)) := rfl
theorem vl_smL {w : World} {F : Nat → Prop} {b c n e1 e2 : Nat} {tx : UInt8} (h : stars [rowR e1 1 (some ⟨b, 0, none⟩) 1 1 [.slice (some ⟨c, 0, none⟩) 1 1], rowR e2 1 (some ⟨c, 0, none⟩) 1 1 [B8 tx]] w F) : stars [VlR RdBlock (smL b n) (smB n tx)] w F := by
  obtain ⟨F1, F2, h1, h2, hF⟩ := stars_two h
  exact rdR_mk (rd_smL ((rowR.rd h1).mv (still_sub fun k hk => (hF k).2 (.inl hk))) ((rowR.rd h2).mv (still_sub fun k hk => (hF k).2 (.inr hk)))) h
def smQ (id : Dig) (n : Nat) (a : Option Addr) (k c : Nat) : List Value := .int .i64 1 :: .int .i64 (n : Int) :: (dc id ++ [.slice a k c])
theorem smQ_len (id : Dig) (n : Nat) (a : Option Addr) (k c : Nat) : (smQ id n a k c).length = 19 := by simp [smQ, dc_length]
theorem smQ_one (id : Dig) (n : Nat) (a : Option Addr) (k c : Nat) : ∀ v ∈ smQ id n a k c, v.oneCell' = true := all_cons' rfl (all_cons' rfl (all_app' (dc_one _) (all_cons' rfl all_nil')))
theorem smQ_at (id : Dig) (n : Nat) (a : Option Addr) (k c : Nat) : (smQ id n a k c)[0 + 18]? = some (.slice a k c) := by simp [smQ, get_dc]
theorem smQ_upd (id : Dig) (n : Nat) (a a' : Option Addr) (k c k' c' : Nat) : List.take 18 (smQ id n a k c) ++ [.slice a' k' c'] = smQ id n a' k' c' := by
  have h1 : List.take 16 (dc id ++ [Value.slice a k c]) = dc id := List.take_left' (dc_length id)
  simp [smQ, h1]
def rec0 : List Value := blkC ++ qcC
instance : Len rec0 58 := ⟨by simp [rec0, blkC, qcC, dc_length]⟩
def sgL (b : Nat) : List Value := [.int .i64 0, .int .i64 0, .slice (some ⟨b, 0, none⟩) 5 5, .slice none 0 0]
theorem vl_sgL {w : World} {F : Nat → Prop} {b T : Nat} (h : stars [blk b T (List.replicate 5 (dc dig0)).flatten] w F) : stars [VlR RdSigned (sgL b) sgE] w F := by
  have h1 := stars_one' h
  have hl : (List.replicate 5 (dc dig0)).flatten.length = 80 := by decide
  have hr : RdRow w F 16 (some ⟨b, 0, none⟩) 5 (List.replicate 5 (dc dig0)).flatten := RdRow.of_blk h1 (n := 5) (size := 16) (o := 0) (by rw [List.drop_zero, List.take_of_length_le (by omega)]) (by omega) (by decide)
  refine rdR_mk ⟨[.int .i64 0, .slice (some ⟨b, 0, none⟩) 5 5, .slice none 0 0], rfl, some ⟨b, 0, none⟩, 5, 5, none, 0, 0, rfl, Nat.le_refl _, Nat.le_refl _, ?_, RdList.nil⟩ h
  exact ⟨List.replicate 5 (dc dig0), hr, fun c hc => by rw [List.eq_of_mem_replicate hc]; exact dc_length _, by simp [sgE], fun i c x hc hx => by
    have h3 := List.eq_of_mem_replicate (List.mem_of_getElem? hc)
    have h4 : x = dig0 := List.eq_of_mem_replicate (n := 5) (List.mem_of_getElem? hx)
    rw [h3, h4]; rfl⟩
theorem vl_smQ {w : World} {F : Nat → Prop} {e k c n : Nat} {id : Dig} {a : Option Addr} {css : List (List Value)} (h4 : ∀ x ∈ css, List.length x = 4) (h : stars [rowR e 4 a k c css.flatten, ElR RdSigned css (List.replicate k sgE)] w F) :
    stars [VlR RdQC (smQ id n a k c) ⟨1, n, id, List.replicate k sgE⟩] w F := by
  have hk : k ≤ c := by obtain ⟨_, _, h1, _⟩ := h; exact h1.2.1
  exact vl_qc hk (ls_of h4 h)
theorem rep_snoc (k : Nat) : List.replicate k sgE ++ [sgE] = List.replicate (k + 1) sgE := by rw [List.replicate_succ']
attribute [local irreducible] Gl Gc Gx Gs Runs Wt
attribute [local irreducible] dc RdRec RdBlock RdQC RdSigned blkC qcC allE smL smQ idOf
theorem small_ok {w : World} {F : Nat → Prop} {i v : Int} {tx : UInt8} (h : stars [] w F) {ea : Nat → Addr} {es : List Nat} [Has es 1] (hE : GErr es w (fun k => ¬ F k) 261 ea) (hK : KR w (fun k => ¬ F k))  :
    Calls Tryz.prog 8 #[.int .i64 i, B8 tx, .int .i64 v] w (Post w F (fun x : List Value × List Value => .agg (x.1 ++ x.2).toArray) (fun x => [pureR ((x.1.length = 39 ∧ ∀ v ∈ x.1, v.oneCell' = true) ∧ x.2.length = 19 ∧ ∀ v ∈ x.2, v.oneCell' = true), VlR RdBlock x.1 (smR (rndU i) tx (vts v)).b, VlR RdQC x.2 (smR (rndU i) tx (vts v)).c])) := by
 have hrn := rnd_lt i
 have hvt := vts_lt v
 refine g_enter (env := [(0, .int .i64 i), (1, B8 tx), (2, .int .i64 v)]) Tryz.func8 rfl h Tryz.ntmps8 rfl rfl ?_; refine gsr (zal fun b6 => ?_); refine gl_eqc (cs' := rec0) (by repeat (first | exact Pick.here | apply Pick.there)) (by kernel_rfl) ?_; refine zxs ?_; refine zxm ?_; refine gp zci ?_; refine gp (r_int (j := (rndU i : Int)) zrm (rndU_eq i)) ?_; refine gp (r_int (j := (rndU i : Int)) zci (wrap_i64 (by omega) (by omega))) ?_; refine zxm ?_; refine ze1 fun b16 => ?_; refine ze1 fun b17 => ?_; refine gp zbu ?_; refine zal fun b7 => ?_; refine zsN ?_; refine gl_eqc (cs' := smL b17 (rndU i)) (by repeat (first | exact Pick.here | apply Pick.there)) (by kernel_rfl) ?_; have i7 := Len.of (smL_len b17 (rndU i))
 have j7 := One.of (smL_one b17 (rndU i))
 refine zxs ?_; refine gp (zLa (cs := smL b17 (rndU i))) ?_; refine zc (fun _ => ?_) (c := fun w1 F1 F2 h1 h2 hd hst => id_ok (x := smB (rndU i) tx) h1 (hE.mv hst.still) (hK.mv hst.still) (rd_smL (rd_row h2 hd (by repeat (first | exact Pick.here | apply Pick.there))) (rd_row h2 hd (by repeat (first | exact Pick.here | apply Pick.there)))))
 refine zxm ?_; refine gp zex ?_; refine gp zex ?_; refine zal fun b8 => ?_; refine zsN ?_; refine zxa ?_; refine zxs ?_; refine gp zfa ?_; refine gp (zl (v := .int .i64 (rndU i : Int)) (hv := smL_at _ _)) ?_; refine gp zL ?_; refine gp zbu ?_; refine zal fun b10 => ?_; refine zsN ?_; refine gl_eqc (cs' := smQ (idOf (smB (rndU i) tx)) (rndU i) none 0 0) (by repeat (first | exact Pick.here | apply Pick.there)) (by kernel_rfl) ?_; refine gnt (gc_seq (gsr (zxm ?_))); refine gp zci ?_; refine gp (r_int (j := (vts v : Int)) zrm (vts_eq v)) ?_; refine gp (r_int (j := (vts v : Int)) zci (wrap_i64 (by omega) (by omega))) ?_; refine zxm ?_; refine gnt (gc_block (gc_loop (α := Nat × Option Addr × Nat × List (List Value)) (fun y => [pureR (y.1 ≤ vts v ∧ ∀ c ∈ y.2.2.2, List.length c = 4), blk b10 41 (smQ (idOf (smB (rndU i) tx)) (rndU i) y.2.1 y.1 y.2.2.1), rowR 86 4 y.2.1 y.1 y.2.2.1 y.2.2.2.flatten, ElR RdSigned y.2.2.2 (List.replicate y.1 sgE), blk b7 45 (smL b17 (rndU i)), rowR 49 1 (some ⟨b17, 0, none⟩) 1 1 [.slice (some ⟨b16, 0, none⟩) 1 1], rowR 5 1 (some ⟨b16, 0, none⟩) 1 1 [B8 tx], blk b6 47 rec0]) (fun y => [(32, .int .i64 (y.1 : Int))]) [33, 34, 35, 36, 37, 38, 39, 40, 41, 42] (fun y => vts v - y.1) (0, none, 0, []) ?_ ?_ ?_))
 ·refine env_start (by kernel_rfl)
 ·intro w' hw; have hw := St.mapL hw (fun F' hF' => el_nil (rd := RdSigned) hF')
  exact St.pureI ⟨Nat.zero_le _, by simp⟩ ((hw.rowNil (e := 86) (size := 4)).z)
 ·intro y u; obtain ⟨k, a, c, css⟩ := y; refine gc_pureR (fun hk => ?_)
  obtain ⟨hk, hcs⟩ := hk; replace hk : k ≤ vts v := hk
  replace hcs : ∀ x ∈ css, List.length x = 4 := hcs
  refine gsr (gp zlt ?_); refine gnt (gc_seq (gif rfl (fun hc33 => ?_) (fun hc33 => ?_)))
  ·try simp only at hc33
   have hk' : k < vts v := by omega
   have i10 := Len.of (smQ_len (idOf (smB (rndU i) tx)) (rndU i) a k c)
   refine gc_skip (gx_then (gc_seq (gc_block (gc_regionU 6 ([blk b10 41 (smQ (idOf (smB (rndU i) tx)) (rndU i) a k c)]) ?_)))); refine ypu 0 rfl zfa ?_; refine ypu 1 rfl (zl (v := .slice a k c) (hv := smQ_at _ _ _ _ _)) ?_; refine you 2 rfl ?_; refine gl_mkN (m := 5) (z := .agg (List.replicate 16 (Value.int .u8 0)).toArray) (wt0 rfl) ELT.h (by kernel_rfl) rfl rfl (by omega) (by omega) (by omega) (fun b36 => ?_)
   refine gl_eqc (cs' := (List.replicate 5 (dc dig0)).flatten) (by repeat (first | exact Pick.here | apply Pick.there)) (by kernel_rfl) ?_; refine yxu ?_; refine ypu 3 rfl zbu ?_; refine ypu 4 rfl zbu ?_; refine you 5 rfl ?_; refine zeN fun b39 => ?_; refine yxu ?_; refine yzu ?_; refine zapo (news := sgL b36) (h1 := all_cons' rfl (all_cons' rfl (all_cons' rfl (all_cons' rfl all_nil')))) (fun a40 c40 => ?_)
   refine gp zfa ?_; refine zs1 ?_; refine gl_eqc (g := b10) (cs' := smQ (idOf (smB (rndU i) tx)) (rndU i) a40 (k + 1) c40) (by repeat (first | exact Pick.here | apply Pick.there)) (by exact smQ_upd _ _ a a40 k c (k + 1) c40) ?_; refine gl_nil (gx_block_normal (gx_then (gc_region (gp zad ?_)))); refine zxm ?_; refine gl_nil (zrd ((k + 1, a40, c40, css ++ [sgL b36])) ?_ ?_)
   ·show vts v - (k + 1) < vts v - k
    omega
   ·intro w' hw; have h1 := hw.conv (M := [blk b36 38 (List.replicate 5 (dc dig0)).flatten]) (by repeat (first | exact Sel.nil | (apply Sel.cons; · (repeat (first | exact Pick.here | apply Pick.there))))) (fun _ _ => vl_sgL)
    have h2 := h1.conv (M := [ElR RdSigned css (List.replicate k sgE), VlR RdSigned (sgL b36) sgE]) (by repeat (first | exact Sel.nil | (apply Sel.cons; · (repeat (first | exact Pick.here | apply Pick.there))))) (fun _ _ => el_snoc)
    rw [rep_snoc] at h2; refine St.pureI ⟨show k + 1 ≤ vts v by omega, fun x hx => (by rcases List.mem_append.1 hx with h | h; exact hcs x h; (simp at h; subst h; rfl))⟩ ?_; rw [show (css ++ [sgL b36]).flatten = css.flatten ++ sgL b36 by simp]; exact h2.z
  ·try simp only at hc33
   have hk' : k = vts v := by omega
   subst hk'; refine gc_exit ?_; refine gx_then_exit ?_; refine gx_round_exit ?_; refine gx_block_hit ?_; refine gx_then (gsr ?_); have i10 := Len.of (smQ_len (idOf (smB (rndU i) tx)) (rndU i) a (vts v) c)
   have j10 := One.of (smQ_one (idOf (smB (rndU i) tx)) (rndU i) a (vts v) c)
   refine gp (zLa (cs := smL b17 (rndU i))) ?_; refine gp (zLa (cs := smQ (idOf (smB (rndU i) tx)) (rndU i) a (vts v) c)) ?_; refine gp zbu ?_; refine zsN ?_; refine gnt (gc_ret (gx_retc rfl rfl (ldA Ty.row_47 Ty.sz_47) ?_)); intro w' hw; have h1 := hw.conv (M := [rowR 49 1 (some ⟨b17, 0, none⟩) 1 1 [.slice (some ⟨b16, 0, none⟩) 1 1], rowR 5 1 (some ⟨b16, 0, none⟩) 1 1 [B8 tx]]) (by repeat (first | exact Sel.nil | (apply Sel.cons; · (repeat (first | exact Pick.here | apply Pick.there))))) (fun _ _ => vl_smL (n := rndU i))
   have h2 := h1.conv (M := [rowR 86 4 a (vts v) c css.flatten, ElR RdSigned css (List.replicate (vts v) sgE)]) (by repeat (first | exact Sel.nil | (apply Sel.cons; · (repeat (first | exact Pick.here | apply Pick.there))))) (fun _ _ => vl_smQ (id := idOf (smB (rndU i) tx)) (n := rndU i) hcs)
   exact ⟨(smL b17 (rndU i), smQ (idOf (smB (rndU i) tx)) (rndU i) a (vts v) c), rfl, St.pureI ⟨⟨smL_len _ _, smL_one _ _⟩, smQ_len _ _ _ _ _, smQ_one _ _ _ _ _⟩ (h2.z)⟩
end
section
def recsA (f : Nat → LRec) (k : Nat) : List LRec := (List.range k).map f
theorem recsA_succ (f : Nat → LRec) (k : Nat) : recsA f (k + 1) = recsA f k ++ [f k] := by simp [recsA, List.range_succ]
theorem recsA_len (f : Nat → LRec) (k : Nat) : (recsA f k).length = k := by simp [recsA]
theorem recsA_tot {f : Nat → LRec} (h : ∀ i, lenR (f i) ≤ 7) : ∀ k, tot (recsA f k) ≤ 7 * k
  | 0 => Nat.le_refl _
  | k + 1 => by rw [recsA_succ, tot_snoc]; have := recsA_tot h k; have := h k; omega
theorem lenR_sm (i v : Int) (tx : UInt8) : lenR (smR (rndU i) tx (vts v)) ≤ 7 := by have := sm_sec (n := rndU i) (tx := tx) (rnd_lt i) (vts_lt v); rw [lenR_eq]; omega
theorem smU_ok (i v : Int) (tx : UInt8) : (smR (rndU i) tx (vts v)).Ok := sm_ok (rnd_lt i) (vts_lt v)
theorem recsA_zero (f : Nat → LRec) : recsA f 0 = [] := rfl
def alF (i : Nat) : LRec := smR (rndU ((i + 1 : Nat) : Int)) 7 (vts 0)
theorem al_len (i : Nat) : lenR (alF i) ≤ 7 := lenR_sm _ _ _
theorem alF_eq (i : Nat) : alF i = smR (rndU ((i + 1 : Nat) : Int)) 7 (vts 0) := rfl
def secN (a : Int) : Nat := 2 + ((IntKind.u64.wrap a).tmod 100).toNat
def fuF (v : Int) (tx : UInt8) (i : Nat) : LRec := smR (rndU (i : Int)) tx (vts v)
attribute [local irreducible] Gl Gc Gx Gs Runs Wt
attribute [local irreducible] dc RdRec RdBlock RdQC blkC qcC allE smR recsA alF fuF secN tot rndU vts LdR
theorem alive18_ok {w : World} {F : Nat → Prop} (h : stars [] w F) {ea : Nat → Addr} {es : List Nat} [Has es 1] [Has es 2] [Has es 3] [Has es 4] [Has es 6] [Has es 7] [Has es 8] [Has es 12] (hE : GErr es w (fun k => ¬ F k) 261 ea) (hK : KR w (fun k => ¬ F k))  :
    Calls Tryz.prog 5 #[] w (Post w F (fun _ : Unit => .bool true) (fun _ => [])) := by
 refine g_enter (env := []) Tryz.func5 rfl h Tryz.ntmps5 rfl rfl ?_; refine gsr (zxa ?_); refine zxs ?_; refine zc (fun g => ?_) (c := fun w1 F1 F2 h1 h2 hd hst => new_ok (ea := ea) (n := 40) h1 (by decide) (by decide))
 refine zxm ?_; refine gp zex ?_; refine gp zex ?_; refine zxa ?_; refine zxa ?_; refine gnt (gc_seq (gsr (zxm ?_))); refine gp (r_bool (c := false) (r_nenil rfl (by kernel_rfl)) rfl) ?_; refine zxm ?_; refine gq zmv ?_; refine gq (r_bool (c := false) (r_eqpn rfl Ty.un_25) rfl) ?_; refine gp zpk ?_; refine gnt (gc_condF rfl rfl ?_); refine gc_skip (gx_then (gsr (zxm ?_))); refine zc (fun q => ?_) (c := fun w1 F1 F2 h1 h2 hd hst => fmtC (n := 40) (bs := 0) h1 (by decide) (by decide) (hE.mv hst.still))
 refine zxm ?_; refine gp zex ?_; refine gp zex ?_; refine zxa ?_; refine zxa ?_; refine gnt (gc_seq (gsr (zxm ?_))); refine gp (r_bool (c := false) (r_nenil rfl (by kernel_rfl)) rfl) ?_; refine zxm ?_; refine gq zmv ?_; refine gq (r_bool (c := false) (r_eqpn rfl Ty.un_30) rfl) ?_; refine gp zpk ?_; refine gnt (gc_condF rfl rfl ?_); refine gc_skip (gx_then (gc_seq (gsr (zxm ?_)))); refine gnt (gc_block (gc_loop (α := Nat) (fun k => [pureR (k ≤ 2), LdR q g 40 0 (recsA alF k)]) (fun k => [(27, .int .i64 (k : Int))]) [0, 4, 5, 28, 29, 30, 31, 32, 33, 34, 35, 36, 37, 38, 39, 40] (fun k => 2 - k) 0 ?_ ?_ ?_))
 ·refine env_start (by kernel_rfl)
 ·simp only [recsA_zero]
  exact zlp (Nat.zero_le _)
 ·intro k u; refine gc_pureR (fun hk => ?_)
  replace hk : k ≤ 2 := hk
  have hlen := recsA_len alF k
  have htot := recsA_tot al_len k
  have hsec := sm_sec (tx := 7) (rnd_lt ((k + 1 : Nat) : Int)) (vts_lt 0)
  refine gsr (gp zlt ?_); refine gnt (gc_seq (gif rfl (fun hc28 => ?_) (fun hc28 => ?_)))
  ·try simp only at hc28
   have hk' : k < 2 := by omega
   refine gc_skip (gx_then (gc_seq (gc_block (gsr (zxm ?_))))); refine zxa ?_; refine zxs ?_; refine zxm ?_; refine gp (r_int (j := ((k + 1 : Nat) : Int)) zad (by omega)) ?_; refine zc ?_ (c := fun w1 F1 F2 h1 h2 hd hst => small_ok (i := ((k + 1 : Nat) : Int)) (v := 0) (tx := 7) h1 (hE.mv hst.still) (hK.mv hst.still))
   rintro ⟨xb, xc⟩
   refine gl_pureR (fun hxx => ?_)
   obtain ⟨⟨hlb, hob⟩, hlc, hoc⟩ := hxx; replace hlb : xb.length = 39 := hlb
   replace hlc : xc.length = 19 := hlc
   have ib := Len.of hlb
   have jb := One.of (show ∀ v ∈ xb, v.oneCell' = true from hob)
   have ic := Len.of hlc
   have jc := One.of (show ∀ v ∈ xc, v.oneCell' = true from hoc)
   refine zal fun b5 => ?_; refine zsN ?_; refine zxs ?_; refine zxm ?_; refine gp zfa ?_; refine gp (zL (sg := xb)) ?_; refine gp zfa ?_; refine gp (zL (sg := xc)) ?_; refine zc (fun _ => ?_) (c := fun w1 F1 F2 h1 h2 hd hst => appC (b := (smR (rndU ((k + 1 : Nat) : Int)) 7 (vts 0)).b) (c := (smR (rndU ((k + 1 : Nat) : Int)) 7 (vts 0)).c) h1 (hE.mv hst.still) (hK.mv hst.still) (vl_rd h2 hd (by repeat (first | exact Pick.here | apply Pick.there))) (vl_rd h2 hd (by repeat (first | exact Pick.here | apply Pick.there))) (smU_ok _ _ _) (by omega) (by show 0 + tot (recsA alF k) + nsec (smR (rndU ((k + 1 : Nat) : Int)) 7 (vts 0)).data.length + 2 ≤ 40; omega))
   refine gp (r_bool (c := false) (r_nenil rfl (by kernel_rfl)) rfl) ?_; refine gnt (gc_condF rfl rfl ?_); refine gc_skip (gx_block_normal (gx_then (gc_region (gp zad ?_)))); refine zxm ?_; refine gl_nil (zrd (k + 1) ?_ ?_)
   ·show 2 - (k + 1) < 2 - k
    omega
   ·simp only [recsA_succ, alF_eq]
    exact zlp (show k + 1 ≤ 2 by omega)
  ·try simp only at hc28
   have hk' : k = 2 := by omega
   subst hk'; refine gc_exit ?_; refine gx_then_exit ?_; refine gx_round_exit ?_; refine gx_block_hit ?_; refine gx_then (gsr (zxm ?_)); refine zc (fun _ => ?_) (c := fun w1 F1 F2 h1 h2 hd hst => crashC h1)
   refine zxs ?_; refine zxm ?_; refine zc (fun p => ?_) (c := fun w1 F1 F2 h1 h2 hd hst => openC h1 (hE.mv hst.still) (hK.mv hst.still))
   refine zxm ?_; refine gp zex ?_; refine gp zex ?_; refine zxa ?_; refine zxa ?_; refine zxs ?_; refine zxm ?_; refine gp (r_bool (c := true) (r_eqnil (k := 0) rfl (by kernel_rfl)) rfl) ?_; refine zxm ?_; refine gq zmv ?_; refine gq (r_bool (c := true) (r_nepn rfl Ty.un_30) rfl) ?_; refine gp zpk ?_; refine zxm ?_; refine gq zmv ?_; refine zc (fun _ => ?_) (c := fun w1 F1 F2 h1 h2 hd hst => lenC h1)
   refine gq (r_bool (c := true) zei (by simp [recsA_len])) ?_; refine gp zpk ?_; refine zxa ?_; refine gnt (gc_ret (gx_ret1 rfl (by conv => lhs; whnf) ?_)); exact ze ()
end
section
theorem take_eq_succ {α : Type} {l m : List α} {k : Nat} {x : α} (h : l.take k = m.take k) (h1 : l[k]? = some x) (h2 : m[k]? = some x) : l.take (k + 1) = m.take (k + 1) := by
  rw [List.take_add_one, List.take_add_one, h, h1, h2]
theorem range_left {w : World} {g o : Nat} {xs ys : List Value} (h : w.rangeAt g o (xs ++ ys)) : w.rangeAt g o xs := fun j v hj => h j v (by
  rw [List.getElem?_append_left (List.getElem?_eq_some_iff.1 hj).1]; exact hj)
theorem range_right {w : World} {g o : Nat} {xs ys : List Value} (h : w.rangeAt g o (xs ++ ys)) : w.rangeAt g (o + xs.length) ys := fun j v hj => by
  have := h (xs.length + j) v (by rw [List.getElem?_append_right (by omega)]; simpa using hj)
  rwa [← Nat.add_assoc] at this
theorem range_at {w : World} {g o : Nat} {xs : List Value} (h : w.rangeAt g o xs) {j : Nat} {v : Value} (hj : xs[j]? = some v) : w.cell? ⟨g, o + j, none⟩ = some v := h j v hj
attribute [local irreducible] Gl Gc Gx Gs Runs Wt
theorem sameDigs_ok {w : World} {F : Nat → Prop} {n1 c1 n2 c2 : Nat} {a1 a2 : Option Addr} {l1 l2 : List Dig} (h : stars [] w F) (hx : RdList (RdDig) w (fun k => ¬ F k) 16 a1 n1 l1) (hy : RdList (RdDig) w (fun k => ¬ F k) 16 a2 n2 l2) :
    Calls Tryz.prog 138 #[.slice a1 n1 c1, .slice a2 n2 c2] w (Post w F (fun _ : Unit => .bool (decide (l1 = l2))) (fun _ => [])) := by
 have hn1 := hx.len (by decide)
 have hn2 := hy.len (by decide)
 have hm1 := hx.max
 simp only [maxLen] at hm1
 refine g_enter (env := [(0, .slice a1 n1 c1), (1, .slice a2 n2 c2)]) Tryz.func138 rfl h Tryz.ntmps138 rfl rfl ?_; refine gsr (zxa ?_); refine gnt (gc_seq (gsr (zxm ?_))); refine gp zln ?_; refine zxm ?_; refine gp zln ?_; refine gp zni ?_; refine gnt (gif rfl (fun hc10 => ?_) (fun hc10 => ?_))
 ·refine gsr (zxa ?_); refine gnt (gc_ret (gx_then_ret (gx_ret1 rfl (by conv => lhs; whnf) ?_))); have e : decide (l1 = l2) = false := decide_eq_false (fun h => by rw [h] at hn1; (try simp only at hc10); omega)
  rw [e]; exact ze ()
 ·have hnn : n1 = n2 := by (try simp only at hc10); omega
  refine gc_skip (gx_then (gc_seq (gsr (zxm ?_)))); refine gp zln ?_; refine zxm ?_; refine gnt (gc_block (gc_loop (α := Nat) (fun k => [pureR (k ≤ n1 ∧ l1.take k = l2.take k)]) (fun k => [(13, .int .i64 (k : Int))]) [4, 5, 14, 15, 16, 17, 18, 19, 20, 21, 22, 23, 24, 25] (fun k => n1 - k) 0 ?_ ?_ ?_))
  ·refine env_start (by kernel_rfl)
  ·rintro w' hw
   obtain ⟨F', hF', hst'⟩ := hw.sel (M := []) (by repeat (first | exact Sel.nil | (apply Sel.cons; · (repeat (first | exact Pick.here | apply Pick.there))))); exact ⟨F', stars_pure_mk ⟨Nat.zero_le _, rfl⟩ hF', hst'⟩
  ·intro k u; refine gc_pureR (fun hk => ?_)
   replace hk : k ≤ n1 ∧ l1.take k = l2.take k := hk
   refine gsr (gp zlt ?_); refine gnt (gc_seq (gif rfl (fun hc14 => ?_) (fun hc14 => ?_)))
   ·have hk' : k < n1 := by (try simp only at hc14); omega
    obtain ⟨g1, o1, cs1, x, ha1, hA1, hg1, hra1, hcl1, hl1, hrd1⟩ := hx.elem (by decide) hk'; obtain ⟨g2, o2, cs2, y, ha2, hA2, hg2, hra2, hcl2, hl2, hrd2⟩ := hy.elem (i := k) (by decide) (by omega); subst ha1; subst ha2; unfold RdDig at hrd1 hrd2
    subst hrd1; subst hrd2; refine gc_skip (gx_then (gc_seq (gc_block (gsr (zxm ?_))))); refine zxa ?_; refine gnt (gc_seq (gc_regionS (by kernel_rfl) (by kernel_rfl) ?_)); refine sp zmv ?_; refine sp zmv ?_; refine sp (r_indexAddr_slice rfl rfl Ty.sl_82 Ty.sz_38 (by omega) (by omega)) ?_; refine sp (r_ldNo rfl Ty.row_38 Ty.sz_38 hra1 hcl1 (by decide) hA1) ?_; refine sp zmv ?_; refine sp zmv ?_; refine sp (r_indexAddr_slice rfl rfl Ty.sl_82 Ty.sz_38 (by omega) (by omega)) ?_; refine sp (r_ldNo rfl Ty.row_38 Ty.sz_38 hra2 hcl2 (by decide) hA2) ?_; refine sp znd ?_; refine gs_nil ?_; refine gx_then (gif rfl (fun hc24 => ?_) (fun hc24 => ?_))
    ·refine gsr (zxa ?_); refine gnt (gc_ret (gx_block_ret ?_)); refine gx_then_ret (gx_round_ret ?_); refine gx_block_ret ?_; refine gx_then_ret (gx_ret1 rfl (by conv => lhs; whnf) ?_); have e : decide (l1 = l2) = false := decide_eq_false (fun h => by rw [h, hl2] at hl1; exact hc24 (Option.some.inj hl1).symm)
     rw [e]; exact ze ()
    ·refine gc_skip (gx_block_normal (gx_then (gc_region (gp zad ?_)))); refine zxm ?_; refine gl_nil (zrd (k + 1) ?_ ?_)
     ·show n1 - (k + 1) < n1 - k
      omega
     ·rintro w' hw
      obtain ⟨F', hF', hst'⟩ := hw.sel (M := []) (by repeat (first | exact Sel.nil | (apply Sel.cons; · (repeat (first | exact Pick.here | apply Pick.there))))); refine ⟨F', stars_pure_mk ⟨show k + 1 ≤ n1 by omega, ?_⟩ hF', hst'⟩
      have hxy : x = y := hc24
      subst hxy; exact take_eq_succ hk.2 hl1 hl2
   ·refine gc_exit ?_; refine gx_then_exit ?_; refine gx_round_exit ?_; refine gx_block_hit ?_; refine gx_then (gsr (zxa ?_)); refine gnt (gc_ret (gx_ret1 rfl (by conv => lhs; whnf) ?_)); have e : decide (l1 = l2) = true := decide_eq_true (by have h1 := hk.2; have hk' : k = n1 := (by (try simp only at hc14); omega); rw [List.take_of_length_le (by omega), List.take_of_length_le (by omega)] at h1; exact h1)
    rw [e]; exact ze ()
theorem sameLists_ok {w : World} {F : Nat → Prop} {n1 c1 n2 c2 : Nat} {a1 a2 : Option Addr} {l1 l2 : List (List UInt8)} (h : stars [] w F) (hx : RdList (RdBytes w (fun k => ¬ F k)) w (fun k => ¬ F k) 1 a1 n1 l1) (hy : RdList (RdBytes w (fun k => ¬ F k)) w (fun k => ¬ F k) 1 a2 n2 l2) :
    Calls Tryz.prog 80 #[.slice a1 n1 c1, .slice a2 n2 c2] w (Post w F (fun _ : Unit => .bool (decide (l1 = l2))) (fun _ => [])) := by
 have hn1 := hx.len (by decide)
 have hn2 := hy.len (by decide)
 have hm1 := hx.max
 simp only [maxLen] at hm1
 refine g_enter (env := [(0, .slice a1 n1 c1), (1, .slice a2 n2 c2)]) Tryz.func80 rfl h Tryz.ntmps80 rfl rfl ?_; refine gsr (zxa ?_); refine gnt (gc_seq (gsr (zxm ?_))); refine gp zln ?_; refine zxm ?_; refine gp zln ?_; refine gp zni ?_; refine gnt (gif rfl (fun hc10 => ?_) (fun hc10 => ?_))
 ·refine gsr (zxa ?_); refine gnt (gc_ret (gx_then_ret (gx_ret1 rfl (by conv => lhs; whnf) ?_))); have e : decide (l1 = l2) = false := decide_eq_false (fun h => by rw [h] at hn1; (try simp only at hc10); omega)
  rw [e]; exact ze ()
 ·have hnn : n1 = n2 := by (try simp only at hc10); omega
  refine gc_skip (gx_then (gc_seq (gsr (zxm ?_)))); refine gp zln ?_; refine zxm ?_; refine gnt (gc_block (gc_loop (α := Nat) (fun k => [pureR (k ≤ n1 ∧ l1.take k = l2.take k)]) (fun k => [(13, .int .i64 (k : Int))]) [4, 5, 14, 15, 16, 17, 18, 19, 20, 21, 22, 23, 24, 25, 26, 27] (fun k => n1 - k) 0 ?_ ?_ ?_))
  ·refine env_start (by kernel_rfl)
  ·rintro w' hw
   obtain ⟨F', hF', hst'⟩ := hw.sel (M := []) (by repeat (first | exact Sel.nil | (apply Sel.cons; · (repeat (first | exact Pick.here | apply Pick.there))))); exact ⟨F', stars_pure_mk ⟨Nat.zero_le _, rfl⟩ hF', hst'⟩
  ·intro k u; refine gc_pureR (fun hk => ?_)
   replace hk : k ≤ n1 ∧ l1.take k = l2.take k := hk
   refine gsr (gp zlt ?_); refine gnt (gc_seq (gif rfl (fun hc14 => ?_) (fun hc14 => ?_)))
   ·have hk' : k < n1 := by (try simp only at hc14); omega
    obtain ⟨g1, o1, cs1, x, ha1, hA1, hg1, hra1, hcl1, hl1, hrd1⟩ := hx.elem (by decide) hk'; obtain ⟨g2, o2, cs2, y, ha2, hA2, hg2, hra2, hcl2, hl2, hrd2⟩ := hy.elem (i := k) (by decide) (by omega); subst ha1; subst ha2; obtain ⟨a1', n1', c1', rfl, hn1', hb1⟩ := hrd1; obtain ⟨a2', n2', c2', rfl, hn2', hb2⟩ := hrd2; refine gc_skip (gx_then (gc_seq (gc_block (gsr (zxm ?_))))); refine zxa ?_; refine gnt (gc_seq (gc_regionS (by kernel_rfl) (by kernel_rfl) ?_)); refine sp zmv ?_; refine sp zmv ?_; refine sp (r_indexAddr_slice rfl rfl Ty.sl_42 Ty.sz_49 (by omega) (by omega)) ?_; refine sp (r_ld1o rfl Ty.row_49 (hra1 0 _ rfl) hA1) ?_; refine sp (r_str rfl Ty.sl_49 Ty.un_5 (by kernel_rfl) (fun w hw => hw.rdOld hb1)) ?_; refine sp zmv ?_; refine sp zmv ?_; refine sp (r_indexAddr_slice rfl rfl Ty.sl_42 Ty.sz_49 (by omega) (by omega)) ?_; refine sp (r_ld1o rfl Ty.row_49 (hra2 0 _ rfl) hA2) ?_; refine sp (r_str rfl Ty.sl_49 Ty.un_5 (by kernel_rfl) (fun w hw => hw.rdOld hb2)) ?_; refine sp zns ?_; refine gs_nil ?_; refine gx_then (gif rfl (fun hc26 => ?_) (fun hc26 => ?_))
    ·refine gsr (zxa ?_); refine gnt (gc_ret (gx_block_ret ?_)); refine gx_then_ret (gx_round_ret ?_); refine gx_block_ret ?_; refine gx_then_ret (gx_ret1 rfl (by conv => lhs; whnf) ?_); have e : decide (l1 = l2) = false := decide_eq_false (fun h => by rw [h, hl2] at hl1; exact hc26 (Option.some.inj hl1).symm)
     rw [e]; exact ze ()
    ·refine gc_skip (gx_block_normal (gx_then (gc_region (gp zad ?_)))); refine zxm ?_; refine gl_nil (zrd (k + 1) ?_ ?_)
     ·show n1 - (k + 1) < n1 - k
      omega
     ·rintro w' hw
      obtain ⟨F', hF', hst'⟩ := hw.sel (M := []) (by repeat (first | exact Sel.nil | (apply Sel.cons; · (repeat (first | exact Pick.here | apply Pick.there))))); refine ⟨F', stars_pure_mk ⟨show k + 1 ≤ n1 by omega, ?_⟩ hF', hst'⟩
      have hxy : x = y := hc26
      subst hxy; exact take_eq_succ hk.2 hl1 hl2
   ·refine gc_exit ?_; refine gx_then_exit ?_; refine gx_round_exit ?_; refine gx_block_hit ?_; refine gx_then (gsr (zxa ?_)); refine gnt (gc_ret (gx_ret1 rfl (by conv => lhs; whnf) ?_)); have e : decide (l1 = l2) = true := decide_eq_true (by have h1 := hk.2; have hk' : k = n1 := (by (try simp only at hc14); omega); rw [List.take_of_length_le (by omega), List.take_of_length_le (by omega)] at h1; exact h1)
    rw [e]; exact ze ()
theorem sameVdrs_ok {w : World} {F : Nat → Prop} {n1 c1 n2 c2 : Nat} {a1 a2 : Option Addr} {l1 l2 : List Vdr} (h : stars [] w F) (hx : RdList (RdVdr) w (fun k => ¬ F k) 17 a1 n1 l1) (hy : RdList (RdVdr) w (fun k => ¬ F k) 17 a2 n2 l2) :
    Calls Tryz.prog 81 #[.slice a1 n1 c1, .slice a2 n2 c2] w (Post w F (fun _ : Unit => .bool (decide (l1 = l2))) (fun _ => [])) := by
 have hn1 := hx.len (by decide)
 have hn2 := hy.len (by decide)
 have hm1 := hx.max
 simp only [maxLen] at hm1
 refine g_enter (env := [(0, .slice a1 n1 c1), (1, .slice a2 n2 c2)]) Tryz.func81 rfl h Tryz.ntmps81 rfl rfl ?_; refine gsr (zxa ?_); refine gnt (gc_seq (gsr (zxm ?_))); refine gp zln ?_; refine zxm ?_; refine gp zln ?_; refine gp zni ?_; refine gnt (gif rfl (fun hc10 => ?_) (fun hc10 => ?_))
 ·refine gsr (zxa ?_); refine gnt (gc_ret (gx_then_ret (gx_ret1 rfl (by conv => lhs; whnf) ?_))); have e : decide (l1 = l2) = false := decide_eq_false (fun h => by rw [h] at hn1; (try simp only at hc10); omega)
  rw [e]; exact ze ()
 ·have hnn : n1 = n2 := by (try simp only at hc10); omega
  refine gc_skip (gx_then (gc_seq (gsr (zxm ?_)))); refine gp zln ?_; refine zxm ?_; refine gnt (gc_block (gc_loop (α := Nat) (fun k => [pureR (k ≤ n1 ∧ l1.take k = l2.take k)]) (fun k => [(13, .int .i64 (k : Int))]) [4, 5, 14, 15, 16, 17, 18, 19, 20, 21, 22, 23, 24, 25, 26, 27, 28, 29, 30, 31, 32, 33, 34, 35, 36, 37, 38, 39, 40] (fun k => n1 - k) 0 ?_ ?_ ?_))
  ·refine env_start (by kernel_rfl)
  ·rintro w' hw
   obtain ⟨F', hF', hst'⟩ := hw.sel (M := []) (by repeat (first | exact Sel.nil | (apply Sel.cons; · (repeat (first | exact Pick.here | apply Pick.there))))); exact ⟨F', stars_pure_mk ⟨Nat.zero_le _, rfl⟩ hF', hst'⟩
  ·intro k u; refine gc_pureR (fun hk => ?_)
   replace hk : k ≤ n1 ∧ l1.take k = l2.take k := hk
   refine gsr (gp zlt ?_); refine gnt (gc_seq (gif rfl (fun hc14 => ?_) (fun hc14 => ?_)))
   ·have hk' : k < n1 := by (try simp only at hc14); omega
    obtain ⟨g1, o1, cs1, x, ha1, hA1, hg1, hra1, hcl1, hl1, hrd1⟩ := hx.elem (by decide) hk'; obtain ⟨g2, o2, cs2, y, ha2, hA2, hg2, hra2, hcl2, hl2, hrd2⟩ := hy.elem (i := k) (by decide) (by omega); subst ha1; subst ha2; unfold RdVdr at hrd1 hrd2
    subst hrd1; subst hrd2; refine gc_skip (gx_then (gc_seq (gc_block (gsr (zxm ?_))))); refine zxa ?_; refine gnt (gc_seq ?_); by_cases hsp6 : x.key = y.key
    ·refine gc_regionS (by kernel_rfl) (by kernel_rfl) ?_; refine sp zmv ?_; refine sp zmv ?_; refine sp (r_indexAddr_slice rfl rfl Ty.sl_43 Ty.sz_152 (by omega) (by omega)) ?_; refine sp zfa ?_; refine sp (r_ldNo rfl Ty.row_38 Ty.sz_38 (range_left hra1) (dc_length _) (by decide) hA1) ?_; refine sp zmv ?_; refine sp zmv ?_; refine sp (r_indexAddr_slice rfl rfl Ty.sl_43 Ty.sz_152 (by omega) (by omega)) ?_; refine sp zfa ?_; refine sp (r_ldNo rfl Ty.row_38 Ty.sz_38 (range_left hra2) (dc_length _) (by decide) hA2) ?_; refine sp (r_bool (b := !decide (x.key = y.key)) (c := false) (r_neq_dig rfl rfl Ty.arr_38 Ty.un_5 Ty.sz_5 (by kernel_rfl)) (by simp [hsp6])) ?_; refine sp zmv ?_; refine sq zmv ?_; refine sq zmv ?_; refine sq (r_indexAddr_slice rfl rfl Ty.sl_43 Ty.sz_152 (by omega) (by omega)) ?_; refine sq zfa ?_; refine sq (r_ld1o rfl Ty.row_3 (range_at hra1 (j := 16) (by first | rfl | (simp only [List.getElem?_cons_succ, List.getElem?_cons_zero, List.cons_append, List.append_assoc, get_dc, get_L, Nat.reduceLeDiff, Nat.reduceSub, Nat.reduceAdd, Nat.le_refl]; rfl))) hA1) ?_
     refine sq zmv ?_; refine sq zmv ?_; refine sq (r_indexAddr_slice rfl rfl Ty.sl_43 Ty.sz_152 (by omega) (by omega)) ?_; refine sq zfa ?_; refine sq (r_ld1o rfl Ty.row_3 (range_at hra2 (j := 16) (by first | rfl | (simp only [List.getElem?_cons_succ, List.getElem?_cons_zero, List.cons_append, List.append_assoc, get_dc, get_L, Nat.reduceLeDiff, Nat.reduceSub, Nat.reduceAdd, Nat.le_refl]; rfl))) hA2) ?_
     refine sq zni ?_; refine sp zpk ?_; refine gs_nil ?_; refine gx_then (gif rfl (fun hc39 => ?_) (fun hc39 => ?_))
     ·refine gsr (zxa ?_); refine gnt (gc_ret (gx_block_ret ?_)); refine gx_then_ret (gx_round_ret ?_); refine gx_block_ret ?_; refine gx_then_ret (gx_ret1 rfl (by conv => lhs; whnf) ?_); have e : decide (l1 = l2) = false := decide_eq_false (fun h => by rw [h, hl2] at hl1; exact hc39 (by rw [Option.some.inj hl1]))
      rw [e]; exact ze ()
     ·refine gc_skip (gx_block_normal (gx_then (gc_region (gp zad ?_)))); refine zxm ?_; refine gl_nil (zrd (k + 1) ?_ ?_)
      ·show n1 - (k + 1) < n1 - k
       omega
      ·rintro w' hw
       obtain ⟨F', hF', hst'⟩ := hw.sel (M := []) (by repeat (first | exact Sel.nil | (apply Sel.cons; · (repeat (first | exact Pick.here | apply Pick.there))))); refine ⟨F', stars_pure_mk ⟨show k + 1 ≤ n1 by omega, ?_⟩ hF', hst'⟩
       have hxy : x = y := by (try simp only at hc39); cases x; cases y; simp_all
       subst hxy; exact take_eq_succ hk.2 hl1 hl2
    ·refine gc_regionS (by kernel_rfl) (by kernel_rfl) ?_; refine sp zmv ?_; refine sp zmv ?_; refine sp (r_indexAddr_slice rfl rfl Ty.sl_43 Ty.sz_152 (by omega) (by omega)) ?_; refine sp zfa ?_; refine sp (r_ldNo rfl Ty.row_38 Ty.sz_38 (range_left hra1) (dc_length _) (by decide) hA1) ?_; refine sp zmv ?_; refine sp zmv ?_; refine sp (r_indexAddr_slice rfl rfl Ty.sl_43 Ty.sz_152 (by omega) (by omega)) ?_; refine sp zfa ?_; refine sp (r_ldNo rfl Ty.row_38 Ty.sz_38 (range_left hra2) (dc_length _) (by decide) hA2) ?_; refine sp (r_bool (b := !decide (x.key = y.key)) (c := true) (r_neq_dig rfl rfl Ty.arr_38 Ty.un_5 Ty.sz_5 (by kernel_rfl)) (by simp [hsp6])) ?_; refine sp zmv ?_; refine sn ?_; refine sn ?_; refine sn ?_; refine sn ?_; refine sn ?_; refine sn ?_; refine sn ?_; refine sn ?_; refine sn ?_; refine sn ?_; refine sn ?_; refine sp zpk ?_; refine gs_nil ?_; refine gx_then (gc_condT rfl rfl ?_); refine gsr (zxa ?_); refine gnt (gc_ret (gx_block_ret ?_)); refine gx_then_ret (gx_round_ret ?_); refine gx_block_ret ?_; refine gx_then_ret (gx_ret1 rfl (by conv => lhs; whnf) ?_); have e : decide (l1 = l2) = false := decide_eq_false (fun h => by rw [h, hl2] at hl1; exact hsp6 (by rw [Option.some.inj hl1]))
     rw [e]; exact ze ()
   ·refine gc_exit ?_; refine gx_then_exit ?_; refine gx_round_exit ?_; refine gx_block_hit ?_; refine gx_then (gsr (zxa ?_)); refine gnt (gc_ret (gx_ret1 rfl (by conv => lhs; whnf) ?_)); have e : decide (l1 = l2) = true := decide_eq_true (by have h1 := hk.2; have hk' : k = n1 := (by (try simp only at hc14); omega); rw [List.take_of_length_le (by omega), List.take_of_length_le (by omega)] at h1; exact h1)
    rw [e]; exact ze ()
end
section
attribute [local irreducible] Gl Gc Gx Gs Runs Wt
theorem sameSig_ok {w : World} {F : Nat → Prop} {cs1 cs2 : List Value} {x y : Sig} (h : stars [] w F) (hx : RdSig w (fun k => ¬ F k) cs1 x) (hy : RdSig w (fun k => ¬ F k) cs2 y) :
    Calls Tryz.prog 116 #[.agg cs1.toArray, .agg cs2.toArray] w (Post w F (fun _ : Unit => .bool (decide (x = y))) (fun _ => [])) := by
 obtain ⟨a1, n1, c1, a2, n2, c2, rfl, hk1, hk2, hd1, hd2⟩ := hx; obtain ⟨b1, m1, d1, b2, m2, d2, rfl, hj1, hj2, he1, he2⟩ := hy; refine g_enter (env := [(0, .agg (List.toArray ([.int .i64 x.leaf, .slice a1 n1 c1, .slice a2 n2 c2]))), (1, .agg (List.toArray ([.int .i64 y.leaf, .slice b1 m1 d1, .slice b2 m2 d2])))]) Tryz.func116 rfl h Tryz.ntmps116 rfl rfl ?_; refine gsr (zbN fun b2 => ?_); refine zbN fun b3 => ?_; refine zxa ?_; refine gnt (gc_seq ?_); by_cases hsq0 : x.leaf = y.leaf
 ·by_cases hsq1 : x.chains = y.chains
  ·refine gc_region (gp zfa ?_); refine gp zl ?_; refine gp zfa ?_; refine gp zl ?_; refine gp (r_bool (r_eql_int rfl rfl) (decide_eq_true hsq0)) ?_; refine zxm ?_; refine gq zfa ?_; refine gq zl ?_; refine gq zfa ?_; refine gq zl ?_; refine zc (fun _ => ?_) (c := fun w1 F1 F2 h1 h2 hd hst => sameDigs_ok h1 (hd1.mv hst.still) (he1.mv hst.still))
   rw [decide_eq_true hsq1]; refine gp zpk ?_; refine zxm ?_; refine gq zfa ?_; refine gq zl ?_; refine gq zfa ?_; refine gq zl ?_; refine zc (fun _ => ?_) (c := fun w1 F1 F2 h1 h2 hd hst => sameDigs_ok h1 (hd2.mv hst.still) (he2.mv hst.still))
   refine gp zpk ?_; refine zxa ?_; refine gnt (gc_ret (gx_ret1 rfl (by conv => lhs; whnf) ?_)); have e : decide (x = y) = decide (x.path = y.path) := by obtain ⟨⟩ := x; obtain ⟨⟩ := y; simp_all
   rw [e]; exact ze ()
  ·refine gc_region (gp zfa ?_); refine gp zl ?_; refine gp zfa ?_; refine gp zl ?_; refine gp (r_bool (r_eql_int rfl rfl) (decide_eq_true hsq0)) ?_; refine zxm ?_; refine gq zfa ?_; refine gq zl ?_; refine gq zfa ?_; refine gq zl ?_; refine zc (fun _ => ?_) (c := fun w1 F1 F2 h1 h2 hd hst => sameDigs_ok h1 (hd1.mv hst.still) (he1.mv hst.still))
   rw [decide_eq_false hsq1]; refine gp zpk ?_; refine zxm ?_; refine gn ?_; refine gn ?_; refine gn ?_; refine gn ?_; refine gn ?_; refine gp zpk ?_; refine zxa ?_; refine gnt (gc_ret (gx_ret1 rfl (by conv => lhs; whnf) ?_)); have e : decide (x = y) = false := decide_eq_false (fun h => hsq1 (by rw [h]))
   rw [e]; exact ze ()
 ·refine gc_region (gp zfa ?_); refine gp zl ?_; refine gp zfa ?_; refine gp zl ?_; refine gp (r_bool (r_eql_int rfl rfl) (decide_eq_false hsq0)) ?_; refine zxm ?_; refine gn ?_; refine gn ?_; refine gn ?_; refine gn ?_; refine gn ?_; refine gp zpk ?_; refine zxm ?_; refine gn ?_; refine gn ?_; refine gn ?_; refine gn ?_; refine gn ?_; refine gp zpk ?_; refine zxa ?_; refine gnt (gc_ret (gx_ret1 rfl (by conv => lhs; whnf) ?_)); have e : decide (x = y) = false := decide_eq_false (fun h => hsq0 (by rw [h]))
  rw [e]; exact ze ()
theorem sameSigneds_ok {w : World} {F : Nat → Prop} {n1 c1 n2 c2 : Nat} {a1 a2 : Option Addr} {l1 l2 : List Signed} (h : stars [] w F) (hx : RdList (RdSigned w (fun k => ¬ F k)) w (fun k => ¬ F k) 4 a1 n1 l1) (hy : RdList (RdSigned w (fun k => ¬ F k)) w (fun k => ¬ F k) 4 a2 n2 l2) :
    Calls Tryz.prog 82 #[.slice a1 n1 c1, .slice a2 n2 c2] w (Post w F (fun _ : Unit => .bool (decide (l1 = l2))) (fun _ => [])) := by
 have hn1 := hx.len (by decide)
 have hn2 := hy.len (by decide)
 have hm1 := hx.max
 simp only [maxLen] at hm1
 refine g_enter (env := [(0, .slice a1 n1 c1), (1, .slice a2 n2 c2)]) Tryz.func82 rfl h Tryz.ntmps82 rfl rfl ?_; refine gsr (zxa ?_); refine gnt (gc_seq (gsr (zxm ?_))); refine gp zln ?_; refine zxm ?_; refine gp zln ?_; refine gp zni ?_; refine gnt (gif rfl (fun hc10 => ?_) (fun hc10 => ?_))
 ·refine gsr (zxa ?_); refine gnt (gc_ret (gx_then_ret (gx_ret1 rfl (by conv => lhs; whnf) ?_))); have e : decide (l1 = l2) = false := decide_eq_false (fun h => by rw [h] at hn1; (try simp only at hc10); omega)
  rw [e]; exact ze ()
 ·have hnn : n1 = n2 := by (try simp only at hc10); omega
  refine gc_skip (gx_then (gc_seq (gsr (zxm ?_)))); refine gp zln ?_; refine zxm ?_; refine gnt (gc_block (gc_loop (α := Nat) (fun k => [pureR (k ≤ n1 ∧ l1.take k = l2.take k)]) (fun k => [(13, .int .i64 (k : Int))]) [4, 5, 14, 15, 16, 17, 18, 19, 20, 21, 22, 23, 24, 25, 26, 27, 28, 29, 30, 31, 32, 33, 34, 35, 36, 37, 38, 39, 40, 41] (fun k => n1 - k) 0 ?_ ?_ ?_))
  ·refine env_start (by kernel_rfl)
  ·rintro w' hw
   obtain ⟨F', hF', hst'⟩ := hw.sel (M := []) (by repeat (first | exact Sel.nil | (apply Sel.cons; · (repeat (first | exact Pick.here | apply Pick.there))))); exact ⟨F', stars_pure_mk ⟨Nat.zero_le _, rfl⟩ hF', hst'⟩
  ·intro k u; refine gc_pureR (fun hk => ?_)
   replace hk : k ≤ n1 ∧ l1.take k = l2.take k := hk
   refine gsr (gp zlt ?_); refine gnt (gc_seq (gif rfl (fun hc14 => ?_) (fun hc14 => ?_)))
   ·have hk' : k < n1 := by (try simp only at hc14); omega
    obtain ⟨g1, o1, cs1, x, ha1, hA1, hg1, hra1, hcl1, hl1, hrd1⟩ := hx.elem (by decide) hk'; obtain ⟨g2, o2, cs2, y, ha2, hA2, hg2, hra2, hcl2, hl2, hrd2⟩ := hy.elem (i := k) (by decide) (by omega); subst ha1; subst ha2; obtain ⟨s1, rfl, hs1⟩ := hrd1; obtain ⟨s2, rfl, hs2⟩ := hrd2; refine gc_skip (gx_then (gc_seq (gc_block (gsr (zxm ?_))))); refine zxa ?_; refine gnt (gc_seq ?_); by_cases hsp6 : x.who = y.who
    ·refine gc_regionT 22 (by kernel_rfl) (by kernel_rfl) ?_; refine sp zmv ?_; refine sp zmv ?_; refine sp (r_indexAddr_slice rfl rfl Ty.sl_39 Ty.sz_86 (by omega) (by omega)) ?_; refine sp zfa ?_; refine sp (r_ld1o rfl Ty.row_3 (range_at hra1 (j := 0) (by first | rfl | (simp only [List.getElem?_cons_succ, List.getElem?_cons_zero, List.cons_append, List.append_assoc, get_dc, get_L, Nat.reduceLeDiff, Nat.reduceSub, Nat.reduceAdd, Nat.le_refl]; rfl))) hA1) ?_
     refine sp zmv ?_; refine sp zmv ?_; refine sp (r_indexAddr_slice rfl rfl Ty.sl_39 Ty.sz_86 (by omega) (by omega)) ?_; refine sp zfa ?_; refine sp (r_ld1o rfl Ty.row_3 (range_at hra2 (j := 0) (by first | rfl | (simp only [List.getElem?_cons_succ, List.getElem?_cons_zero, List.cons_append, List.append_assoc, get_dc, get_L, Nat.reduceLeDiff, Nat.reduceSub, Nat.reduceAdd, Nat.le_refl]; rfl))) hA2) ?_
     refine sp (r_bool (b := !decide (x.who = y.who)) (c := false) (r_neq_int rfl rfl) (by simp [hsp6])) ?_; refine sp zmv ?_; refine sq zmv ?_; refine sq zmv ?_; refine sq (r_indexAddr_slice rfl rfl Ty.sl_39 Ty.sz_86 (by omega) (by omega)) ?_; refine sq zfa ?_; refine sq (r_ldNo rfl Ty.row_84 Ty.sz_84 (range_right (xs := [_]) hra1) hs1.len (by decide) hA1) ?_; refine sq zmv ?_; refine sq zmv ?_; refine sq (r_indexAddr_slice rfl rfl Ty.sl_39 Ty.sz_86 (by omega) (by omega)) ?_; refine sq zfa ?_; refine sq (r_ldNo rfl Ty.row_84 Ty.sz_84 (range_right (xs := [_]) hra2) hs2.len (by decide) hA2) ?_; refine gs_nil ?_; refine zc (fun _ => ?_) (c := fun w1 F1 F2 h1 h2 hd hst => sameSig_ok (x := x.sig) (y := y.sig) h1 (hs1.mv hst.still) (hs2.mv hst.still))
     refine gq znt ?_; refine gp zpk ?_; refine gnt (gif rfl (fun hc40 => ?_) (fun hc40 => ?_))
     ·refine gsr (zxa ?_); refine gnt (gc_ret (gx_block_ret ?_)); refine gx_then_ret (gx_round_ret ?_); refine gx_block_ret ?_; refine gx_then_ret (gx_ret1 rfl (by conv => lhs; whnf) ?_); have e : decide (l1 = l2) = false := decide_eq_false (fun h => by rw [h, hl2] at hl1; exact (by simpa using hc40 : ¬ x.sig = y.sig) (by rw [Option.some.inj hl1]))
      rw [e]; exact ze ()
     ·refine gc_skip (gx_block_normal (gx_then (gc_region (gp zad ?_)))); refine zxm ?_; refine gl_nil (zrd (k + 1) ?_ ?_)
      ·show n1 - (k + 1) < n1 - k
       omega
      ·rintro w' hw
       obtain ⟨F', hF', hst'⟩ := hw.sel (M := []) (by repeat (first | exact Sel.nil | (apply Sel.cons; · (repeat (first | exact Pick.here | apply Pick.there))))); refine ⟨F', stars_pure_mk ⟨show k + 1 ≤ n1 by omega, ?_⟩ hF', hst'⟩
       have hxy : x = y := by (cases x; cases y; simp_all)
       subst hxy; exact take_eq_succ hk.2 hl1 hl2
    ·refine gc_regionT 22 (by kernel_rfl) (by kernel_rfl) ?_; refine sp zmv ?_; refine sp zmv ?_; refine sp (r_indexAddr_slice rfl rfl Ty.sl_39 Ty.sz_86 (by omega) (by omega)) ?_; refine sp zfa ?_; refine sp (r_ld1o rfl Ty.row_3 (range_at hra1 (j := 0) (by first | rfl | (simp only [List.getElem?_cons_succ, List.getElem?_cons_zero, List.cons_append, List.append_assoc, get_dc, get_L, Nat.reduceLeDiff, Nat.reduceSub, Nat.reduceAdd, Nat.le_refl]; rfl))) hA1) ?_
     refine sp zmv ?_; refine sp zmv ?_; refine sp (r_indexAddr_slice rfl rfl Ty.sl_39 Ty.sz_86 (by omega) (by omega)) ?_; refine sp zfa ?_; refine sp (r_ld1o rfl Ty.row_3 (range_at hra2 (j := 0) (by first | rfl | (simp only [List.getElem?_cons_succ, List.getElem?_cons_zero, List.cons_append, List.append_assoc, get_dc, get_L, Nat.reduceLeDiff, Nat.reduceSub, Nat.reduceAdd, Nat.le_refl]; rfl))) hA2) ?_
     refine sp (r_bool (b := !decide (x.who = y.who)) (c := true) (r_neq_int rfl rfl) (by simp [hsp6])) ?_; refine sp zmv ?_; refine sn ?_; refine sn ?_; refine sn ?_; refine sn ?_; refine sn ?_; refine sn ?_; refine sn ?_; refine sn ?_; refine sn ?_; refine sn ?_; refine gs_nil ?_; refine gn ?_; refine gn ?_; refine gp zpk ?_; refine gnt (gc_condT rfl rfl ?_); refine gsr (zxa ?_); refine gnt (gc_ret (gx_block_ret ?_)); refine gx_then_ret (gx_round_ret ?_); refine gx_block_ret ?_; refine gx_then_ret (gx_ret1 rfl (by conv => lhs; whnf) ?_); have e : decide (l1 = l2) = false := decide_eq_false (fun h => by rw [h, hl2] at hl1; exact hsp6 (by rw [Option.some.inj hl1]))
     rw [e]; exact ze ()
   ·refine gc_exit ?_; refine gx_then_exit ?_; refine gx_round_exit ?_; refine gx_block_hit ?_; refine gx_then (gsr (zxa ?_)); refine gnt (gc_ret (gx_ret1 rfl (by conv => lhs; whnf) ?_)); have e : decide (l1 = l2) = true := decide_eq_true (by have h1 := hk.2; have hk' : k = n1 := (by (try simp only at hc14); omega); rw [List.take_of_length_le (by omega), List.take_of_length_le (by omega)] at h1; exact h1)
    rw [e]; exact ze ()
theorem sameQC_ok {w : World} {F : Nat → Prop} {cs1 cs2 : List Value} {x y : QC} (h : stars [] w F) (hx : RdQC w (fun k => ¬ F k) cs1 x) (hy : RdQC w (fun k => ¬ F k) cs2 y) :
    Calls Tryz.prog 47 #[.agg cs1.toArray, .agg cs2.toArray] w (Post w F (fun _ : Unit => .bool (decide (x = y))) (fun _ => [])) := by
 obtain ⟨a1, n1, c1, rfl, hk1, hd1⟩ := hx; obtain ⟨b1, m1, d1, rfl, hj1, he1⟩ := hy; refine g_enter (env := [(0, .agg (List.toArray (.int .i64 x.epoch :: .int .i64 x.round :: (dc x.block ++ [.slice a1 n1 c1])))), (1, .agg (List.toArray (.int .i64 y.epoch :: .int .i64 y.round :: (dc y.block ++ [.slice b1 m1 d1]))))]) Tryz.func47 rfl h Tryz.ntmps47 rfl rfl ?_; refine gsr (zbN fun b2 => ?_); refine zbN fun b3 => ?_; refine zxa ?_; refine gnt (gc_seq ?_); by_cases hsq0 : x.epoch = y.epoch
 ·by_cases hsq1 : x.round = y.round
  ·by_cases hsq2 : x.block = y.block
   ·refine gc_region (gp zfa ?_); refine gp zl ?_; refine gp zfa ?_; refine gp zl ?_; refine gp (r_bool (r_eql_int rfl rfl) (decide_eq_true hsq0)) ?_; refine zxm ?_; refine gq zfa ?_; refine gq zl ?_; refine gq zfa ?_; refine gq zl ?_; refine gq (r_bool (r_eql_int rfl rfl) (decide_eq_true hsq1)) ?_; refine gp zpk ?_; refine zxm ?_; refine gq zfa ?_; refine gq zL ?_; refine gq zfa ?_; refine gq zL ?_; refine gq (r_bool (r_eql_dig rfl rfl Ty.arr_38 Ty.un_5 Ty.sz_5 (by kernel_rfl)) (decide_eq_true hsq2)) ?_; refine gp zpk ?_; refine zxm ?_; refine gq zfa ?_; refine gq zl ?_; refine gq zfa ?_; refine gq zl ?_; refine zc (fun _ => ?_) (c := fun w1 F1 F2 h1 h2 hd hst => sameSigneds_ok h1 (RdList.mv hd1 hst.still fun _ _ h => h.mv hst.still) (RdList.mv he1 hst.still fun _ _ h => h.mv hst.still))
    refine gp zpk ?_; refine zxa ?_; refine gnt (gc_ret (gx_ret1 rfl (by conv => lhs; whnf) ?_)); have e : decide (x = y) = decide (x.votes = y.votes) := by obtain ⟨⟩ := x; obtain ⟨⟩ := y; simp_all
    rw [e]; exact ze ()
   ·refine gc_region (gp zfa ?_); refine gp zl ?_; refine gp zfa ?_; refine gp zl ?_; refine gp (r_bool (r_eql_int rfl rfl) (decide_eq_true hsq0)) ?_; refine zxm ?_; refine gq zfa ?_; refine gq zl ?_; refine gq zfa ?_; refine gq zl ?_; refine gq (r_bool (r_eql_int rfl rfl) (decide_eq_true hsq1)) ?_; refine gp zpk ?_; refine zxm ?_; refine gq zfa ?_; refine gq zL ?_; refine gq zfa ?_; refine gq zL ?_; refine gq (r_bool (r_eql_dig rfl rfl Ty.arr_38 Ty.un_5 Ty.sz_5 (by kernel_rfl)) (decide_eq_false hsq2)) ?_; refine gp zpk ?_; refine zxm ?_; refine gn ?_; refine gn ?_; refine gn ?_; refine gn ?_; refine gn ?_; refine gp zpk ?_; refine zxa ?_; refine gnt (gc_ret (gx_ret1 rfl (by conv => lhs; whnf) ?_)); have e : decide (x = y) = false := decide_eq_false (fun h => hsq2 (by rw [h]))
    rw [e]; exact ze ()
  ·refine gc_region (gp zfa ?_); refine gp zl ?_; refine gp zfa ?_; refine gp zl ?_; refine gp (r_bool (r_eql_int rfl rfl) (decide_eq_true hsq0)) ?_; refine zxm ?_; refine gq zfa ?_; refine gq zl ?_; refine gq zfa ?_; refine gq zl ?_; refine gq (r_bool (r_eql_int rfl rfl) (decide_eq_false hsq1)) ?_; refine gp zpk ?_; refine zxm ?_; refine gn ?_; refine gn ?_; refine gn ?_; refine gn ?_; refine gn ?_; refine gp zpk ?_; refine zxm ?_; refine gn ?_; refine gn ?_; refine gn ?_; refine gn ?_; refine gn ?_; refine gp zpk ?_; refine zxa ?_; refine gnt (gc_ret (gx_ret1 rfl (by conv => lhs; whnf) ?_)); have e : decide (x = y) = false := decide_eq_false (fun h => hsq1 (by rw [h]))
   rw [e]; exact ze ()
 ·refine gc_region (gp zfa ?_); refine gp zl ?_; refine gp zfa ?_; refine gp zl ?_; refine gp (r_bool (r_eql_int rfl rfl) (decide_eq_false hsq0)) ?_; refine zxm ?_; refine gn ?_; refine gn ?_; refine gn ?_; refine gn ?_; refine gn ?_; refine gp zpk ?_; refine zxm ?_; refine gn ?_; refine gn ?_; refine gn ?_; refine gn ?_; refine gn ?_; refine gp zpk ?_; refine zxm ?_; refine gn ?_; refine gn ?_; refine gn ?_; refine gn ?_; refine gn ?_; refine gp zpk ?_; refine zxa ?_; refine gnt (gc_ret (gx_ret1 rfl (by conv => lhs; whnf) ?_)); have e : decide (x = y) = false := decide_eq_false (fun h => hsq0 (by rw [h]))
  rw [e]; exact ze ()
theorem sameBlock_ok {w : World} {F : Nat → Prop} {cs1 cs2 : List Value} {x y : Block} (h : stars [] w F) (hx : RdBlock w (fun k => ¬ F k) cs1 x) (hy : RdBlock w (fun k => ¬ F k) cs2 y) :
    Calls Tryz.prog 46 #[.agg cs1.toArray, .agg cs2.toArray] w (Post w F (fun _ : Unit => .bool (decide (x = y))) (fun _ => [])) := by
 obtain ⟨q, a1, n1, c1, a2, n2, c2, rfl, hq, hk1, hd1, hk2, hd2⟩ := hx; obtain ⟨r, b1, m1, d1, b2, m2, d2, rfl, hr, hj1, he1, hj2, he2⟩ := hy; have lq := hq.len
 have lr := hr.len
 have z_lq := Len.of lq
 have z_lr := Len.of lr
 refine g_enter (env := [(0, .agg (List.toArray (.int .i64 x.epoch :: .int .i64 x.round :: (dc x.parent ++ (q ++ [.slice a1 n1 c1, .slice a2 n2 c2]))))), (1, .agg (List.toArray (.int .i64 y.epoch :: .int .i64 y.round :: (dc y.parent ++ (r ++ [.slice b1 m1 d1, .slice b2 m2 d2])))))]) Tryz.func46 rfl h Tryz.ntmps46 rfl rfl ?_; refine gsr (zbN fun b2 => ?_); refine zbN fun b3 => ?_; refine zxa ?_; refine gnt (gc_seq ?_); by_cases hsq0 : x.epoch = y.epoch
 ·by_cases hsq1 : x.round = y.round
  ·by_cases hsq2 : x.parent = y.parent
   ·by_cases hsq3 : x.justify = y.justify
    ·by_cases hsq4 : x.payload = y.payload
     ·refine gc_region (gp zfa ?_); refine gp zl ?_; refine gp zfa ?_; refine gp zl ?_; refine gp (r_bool (r_eql_int rfl rfl) (decide_eq_true hsq0)) ?_; refine zxm ?_; refine gq zfa ?_; refine gq zl ?_; refine gq zfa ?_; refine gq zl ?_; refine gq (r_bool (r_eql_int rfl rfl) (decide_eq_true hsq1)) ?_; refine gp zpk ?_; refine zxm ?_; refine gq zfa ?_; refine gq zL ?_; refine gq zfa ?_; refine gq zL ?_; refine gq (r_bool (r_eql_dig rfl rfl Ty.arr_38 Ty.un_5 Ty.sz_5 (by kernel_rfl)) (decide_eq_true hsq2)) ?_; refine gp zpk ?_; refine zxm ?_; refine gq zfa ?_; refine gq zL ?_; refine gq zfa ?_; refine gq zL ?_; refine zc (fun _ => ?_) (c := fun w1 F1 F2 h1 h2 hd hst => sameQC_ok h1 (hq.mv hst.still) (hr.mv hst.still))
      rw [decide_eq_true hsq3]; refine gp zpk ?_; refine zxm ?_; refine gq zfa ?_; refine gq zl ?_; refine gq zfa ?_; refine gq zl ?_; refine zc (fun _ => ?_) (c := fun w1 F1 F2 h1 h2 hd hst => sameLists_ok h1 (RdList.mv hd1 hst.still fun _ _ h => h.mv hst.still) (RdList.mv he1 hst.still fun _ _ h => h.mv hst.still))
      rw [decide_eq_true hsq4]; refine gp zpk ?_; refine zxm ?_; refine gq zfa ?_; refine gq zl ?_; refine gq zfa ?_; refine gq zl ?_; refine zc (fun _ => ?_) (c := fun w1 F1 F2 h1 h2 hd hst => sameVdrs_ok h1 (RdList.mv hd2 hst.still fun _ _ h => h) (RdList.mv he2 hst.still fun _ _ h => h))
      refine gp zpk ?_; refine zxa ?_; refine gnt (gc_ret (gx_ret1 rfl (by conv => lhs; whnf) ?_)); have e : decide (x = y) = decide (x.next = y.next) := by obtain ⟨⟩ := x; obtain ⟨⟩ := y; simp_all
      rw [e]; exact ze ()
     ·refine gc_region (gp zfa ?_); refine gp zl ?_; refine gp zfa ?_; refine gp zl ?_; refine gp (r_bool (r_eql_int rfl rfl) (decide_eq_true hsq0)) ?_; refine zxm ?_; refine gq zfa ?_; refine gq zl ?_; refine gq zfa ?_; refine gq zl ?_; refine gq (r_bool (r_eql_int rfl rfl) (decide_eq_true hsq1)) ?_; refine gp zpk ?_; refine zxm ?_; refine gq zfa ?_; refine gq zL ?_; refine gq zfa ?_; refine gq zL ?_; refine gq (r_bool (r_eql_dig rfl rfl Ty.arr_38 Ty.un_5 Ty.sz_5 (by kernel_rfl)) (decide_eq_true hsq2)) ?_; refine gp zpk ?_; refine zxm ?_; refine gq zfa ?_; refine gq zL ?_; refine gq zfa ?_; refine gq zL ?_; refine zc (fun _ => ?_) (c := fun w1 F1 F2 h1 h2 hd hst => sameQC_ok h1 (hq.mv hst.still) (hr.mv hst.still))
      rw [decide_eq_true hsq3]; refine gp zpk ?_; refine zxm ?_; refine gq zfa ?_; refine gq zl ?_; refine gq zfa ?_; refine gq zl ?_; refine zc (fun _ => ?_) (c := fun w1 F1 F2 h1 h2 hd hst => sameLists_ok h1 (RdList.mv hd1 hst.still fun _ _ h => h.mv hst.still) (RdList.mv he1 hst.still fun _ _ h => h.mv hst.still))
      rw [decide_eq_false hsq4]; refine gp zpk ?_; refine zxm ?_; refine gn ?_; refine gn ?_; refine gn ?_; refine gn ?_; refine gn ?_; refine gp zpk ?_; refine zxa ?_; refine gnt (gc_ret (gx_ret1 rfl (by conv => lhs; whnf) ?_)); have e : decide (x = y) = false := decide_eq_false (fun h => hsq4 (by rw [h]))
      rw [e]; exact ze ()
    ·refine gc_region (gp zfa ?_); refine gp zl ?_; refine gp zfa ?_; refine gp zl ?_; refine gp (r_bool (r_eql_int rfl rfl) (decide_eq_true hsq0)) ?_; refine zxm ?_; refine gq zfa ?_; refine gq zl ?_; refine gq zfa ?_; refine gq zl ?_; refine gq (r_bool (r_eql_int rfl rfl) (decide_eq_true hsq1)) ?_; refine gp zpk ?_; refine zxm ?_; refine gq zfa ?_; refine gq zL ?_; refine gq zfa ?_; refine gq zL ?_; refine gq (r_bool (r_eql_dig rfl rfl Ty.arr_38 Ty.un_5 Ty.sz_5 (by kernel_rfl)) (decide_eq_true hsq2)) ?_; refine gp zpk ?_; refine zxm ?_; refine gq zfa ?_; refine gq zL ?_; refine gq zfa ?_; refine gq zL ?_; refine zc (fun _ => ?_) (c := fun w1 F1 F2 h1 h2 hd hst => sameQC_ok h1 (hq.mv hst.still) (hr.mv hst.still))
     rw [decide_eq_false hsq3]; refine gp zpk ?_; refine zxm ?_; refine gn ?_; refine gn ?_; refine gn ?_; refine gn ?_; refine gn ?_; refine gp zpk ?_; refine zxm ?_; refine gn ?_; refine gn ?_; refine gn ?_; refine gn ?_; refine gn ?_; refine gp zpk ?_; refine zxa ?_; refine gnt (gc_ret (gx_ret1 rfl (by conv => lhs; whnf) ?_)); have e : decide (x = y) = false := decide_eq_false (fun h => hsq3 (by rw [h]))
     rw [e]; exact ze ()
   ·refine gc_region (gp zfa ?_); refine gp zl ?_; refine gp zfa ?_; refine gp zl ?_; refine gp (r_bool (r_eql_int rfl rfl) (decide_eq_true hsq0)) ?_; refine zxm ?_; refine gq zfa ?_; refine gq zl ?_; refine gq zfa ?_; refine gq zl ?_; refine gq (r_bool (r_eql_int rfl rfl) (decide_eq_true hsq1)) ?_; refine gp zpk ?_; refine zxm ?_; refine gq zfa ?_; refine gq zL ?_; refine gq zfa ?_; refine gq zL ?_; refine gq (r_bool (r_eql_dig rfl rfl Ty.arr_38 Ty.un_5 Ty.sz_5 (by kernel_rfl)) (decide_eq_false hsq2)) ?_; refine gp zpk ?_; refine zxm ?_; refine gn ?_; refine gn ?_; refine gn ?_; refine gn ?_; refine gn ?_; refine gp zpk ?_; refine zxm ?_; refine gn ?_; refine gn ?_; refine gn ?_; refine gn ?_; refine gn ?_; refine gp zpk ?_; refine zxm ?_; refine gn ?_; refine gn ?_; refine gn ?_; refine gn ?_; refine gn ?_; refine gp zpk ?_; refine zxa ?_; refine gnt (gc_ret (gx_ret1 rfl (by conv => lhs; whnf) ?_)); have e : decide (x = y) = false := decide_eq_false (fun h => hsq2 (by rw [h]))
    rw [e]; exact ze ()
  ·refine gc_region (gp zfa ?_); refine gp zl ?_; refine gp zfa ?_; refine gp zl ?_; refine gp (r_bool (r_eql_int rfl rfl) (decide_eq_true hsq0)) ?_; refine zxm ?_; refine gq zfa ?_; refine gq zl ?_; refine gq zfa ?_; refine gq zl ?_; refine gq (r_bool (r_eql_int rfl rfl) (decide_eq_false hsq1)) ?_; refine gp zpk ?_; refine zxm ?_; refine gn ?_; refine gn ?_; refine gn ?_; refine gn ?_; refine gn ?_; refine gp zpk ?_; refine zxm ?_; refine gn ?_; refine gn ?_; refine gn ?_; refine gn ?_; refine gn ?_; refine gp zpk ?_; refine zxm ?_; refine gn ?_; refine gn ?_; refine gn ?_; refine gn ?_; refine gn ?_; refine gp zpk ?_; refine zxm ?_; refine gn ?_; refine gn ?_; refine gn ?_; refine gn ?_; refine gn ?_; refine gp zpk ?_; refine zxa ?_; refine gnt (gc_ret (gx_ret1 rfl (by conv => lhs; whnf) ?_)); have e : decide (x = y) = false := decide_eq_false (fun h => hsq1 (by rw [h]))
   rw [e]; exact ze ()
 ·refine gc_region (gp zfa ?_); refine gp zl ?_; refine gp zfa ?_; refine gp zl ?_; refine gp (r_bool (r_eql_int rfl rfl) (decide_eq_false hsq0)) ?_; refine zxm ?_; refine gn ?_; refine gn ?_; refine gn ?_; refine gn ?_; refine gn ?_; refine gp zpk ?_; refine zxm ?_; refine gn ?_; refine gn ?_; refine gn ?_; refine gn ?_; refine gn ?_; refine gp zpk ?_; refine zxm ?_; refine gn ?_; refine gn ?_; refine gn ?_; refine gn ?_; refine gn ?_; refine gp zpk ?_; refine zxm ?_; refine gn ?_; refine gn ?_; refine gn ?_; refine gn ?_; refine gn ?_; refine gp zpk ?_; refine zxm ?_; refine gn ?_; refine gn ?_; refine gn ?_; refine gn ?_; refine gn ?_; refine gp zpk ?_; refine zxa ?_; refine gnt (gc_ret (gx_ret1 rfl (by conv => lhs; whnf) ?_)); have e : decide (x = y) = false := decide_eq_false (fun h => hsq0 (by rw [h]))
  rw [e]; exact ze ()
end
section
def smO (o : Op18) : LRec := smR (rndU o.round) o.tx (vts o.votes)
def agR (l : List Op18) (k : Nat) : List LRec := (l.take k).map smO
theorem agR_zero (l : List Op18) : agR l 0 = [] := rfl
theorem agR_succ {l : List Op18} {k : Nat} {o : Op18} (h : l[k]? = some o) : agR l (k + 1) = agR l k ++ [smO o] := by simp [agR, List.take_add_one, h]
theorem agR_len {l : List Op18} {k : Nat} (h : k ≤ l.length) : (agR l k).length = k := by simp [agR]; omega
theorem agR_tot (l : List Op18) : ∀ k, tot (agR l k) ≤ 7 * k
  | 0 => Nat.le_refl _
  | k + 1 => by
    have ih := agR_tot l k
    cases h : l[k]? with
    | none =>
      have e : agR l (k + 1) = agR l k := by simp [agR, List.take_add_one, h]
      rw [e]; omega
    | some o => rw [agR_succ h, tot_snoc]; have := lenR_sm o.round o.votes o.tx; unfold smO; omega
theorem smO_eq (o : Op18) : smR (rndU o.round) o.tx (vts o.votes) = smO o := rfl
theorem smO_sec (o : Op18) : nsec (smO o).data.length ≤ 6 := sm_sec (rnd_lt o.round) (vts_lt o.votes)
theorem smO_ok (o : Op18) : (smO o).Ok := smU_ok _ _ _
def bump (d : Dig) : Dig := ⟨d.l.set 3 (d.l.getD 3 0 + 1), by rw [List.length_set, d.h]⟩
attribute [local irreducible] wAt wDig wPut wSigned wBytes wVdr in
attribute [local irreducible] Gl Gc Gx Gs Runs Wt
attribute [local irreducible] dc RdBlock RdQC
theorem same18_ok {w : World} {F : Nat → Prop} {xb1 xb2 xc1 xc2 : List Value} {x y : LRec} (h : stars [] w F) (l1 : xb1.length = 39) (l2 : xb2.length = 39) (l3 : xc1.length = 19) (l4 : xc2.length = 19) (o1 : ∀ v ∈ xb1, v.oneCell' = true) (o2 : ∀ v ∈ xb2, v.oneCell' = true) (o3 : ∀ v ∈ xc1, v.oneCell' = true) (o4 : ∀ v ∈ xc2, v.oneCell' = true) (hx : RdBlock w (fun k => ¬ F k) xb1 x.b) (hy : RdBlock w (fun k => ¬ F k) xb2 y.b) (hp : RdQC w (fun k => ¬ F k) xc1 x.c) (hq : RdQC w (fun k => ¬ F k) xc2 y.c) :
    Calls Tryz.prog 19 #[.agg (xb1 ++ xc1).toArray, .agg (xb2 ++ xc2).toArray] w (Post w F (fun _ : Unit => .bool (decide (x.b = y.b ∧ x.c = y.c))) (fun _ => [])) := by
 have i1 := Len.of l1
 have i2 := Len.of l2
 have i3 := Len.of l3
 have i4 := Len.of l4
 have j1 := One.of o1
 have j2 := One.of o2
 have j3 := One.of o3
 have j4 := One.of o4
 refine g_enter (env := [(0, .agg (xb1 ++ xc1).toArray), (1, .agg (xb2 ++ xc2).toArray)]) Tryz.func19 rfl h Tryz.ntmps19 rfl rfl ?_; refine gsr (zbN fun b2 => ?_); refine zbN fun b3 => ?_; refine zxa ?_; refine gnt (gc_seq ?_); by_cases hS : x.b = y.b
 ·refine gc_region (gp zfa ?_); refine gp (zL (sg := xb1)) ?_; refine gp zfa ?_; refine gp (zL (sg := xb2)) ?_; refine zc (fun _ => ?_) (c := fun w1 F1 F2 h1 h2 hd hst => sameBlock_ok h1 (hx.mv hst.still) (hy.mv hst.still))
  refine gp (r_bool (c := true) zmv (decide_eq_true hS)) ?_; refine gq zfa ?_; refine gq (zL (sg := xc1)) ?_; refine gq zfa ?_; refine gq (zL (sg := xc2)) ?_; refine zc (fun _ => ?_) (c := fun w1 F1 F2 h1 h2 hd hst => sameQC_ok h1 (hp.mv hst.still) (hq.mv hst.still))
  refine gp zpk ?_; refine zxa ?_; refine gnt (gc_ret (gx_ret1 rfl (by conv => lhs; whnf) ?_)); exact fun w' hw => ⟨(), by simp [hS], hw.z⟩
 ·refine gc_region (gp zfa ?_); refine gp (zL (sg := xb1)) ?_; refine gp zfa ?_; refine gp (zL (sg := xb2)) ?_; refine zc (fun _ => ?_) (c := fun w1 F1 F2 h1 h2 hd hst => sameBlock_ok h1 (hx.mv hst.still) (hy.mv hst.still))
  refine gp (r_bool (c := false) zmv (decide_eq_false hS)) ?_; refine gn ?_; refine gn ?_; refine gn ?_; refine gn ?_; refine gn ?_; refine gp zpk ?_; refine zxa ?_; refine gnt (gc_ret (gx_ret1 rfl (by conv => lhs; whnf) ?_)); exact fun w' hw => ⟨(), by simp [hS], hw.z⟩
end
section
attribute [local irreducible] Gl Gc Gx Gs Runs Wt
set_option maxHeartbeats 1000000 in
set_option maxRecDepth 20000 in
theorem rsum_ok {w : World} {F : Nat → Prop} {b : List UInt8} (h : stars [] w F) (hb : b.length ≤ 1099511627776) :
    Calls Tryz.prog 63 #[.string (str b)] w (Post w F (fun _ : Unit => .agg (fnc B8 32 (outByte (takes Kc v0 (refPad b)).1)).toArray) (fun _ => [])) := by
 have hp63 := padN_le b.length
 have hpl := refPad_length b
 refine g_enter (env := [(0, .string (str b))]) Tryz.func63 rfl h Tryz.ntmps63 rfl rfl ?_; refine gsr (zal fun b2 => ?_); refine zxs ?_; refine zxm ?_; refine gp zlS ?_; refine gp (r_int zci (wrap_u64 (by omega) (by omega))) ?_; refine gp (r_int (r_mul rfl rfl) (show IntKind.u64.wrap ((b.length : Int) * 8) = ((b.length * 8 : Nat) : Int) by rw [wrap_u64 (by omega) (by omega)]; omega)) ?_; refine zxa ?_; refine zxs ?_; refine zxm ?_; refine zob fun g28 c28 => ?_; refine ze1 fun b29 => ?_; refine zapo (news := [.int .u8 128]) (fun a30 c30 => ?_)
 refine zxa ?_; refine gnt (gc_seq (gc_block (gc_loop (α := Nat × Option Addr × Nat) (fun x => [pureR (x.1 ≤ padN b.length), rowR 5 1 x.2.1 (b.length + 1 + x.1) x.2.2 ((rPadRow b x.1).map B8), blk b2 142 (List.replicate 32 (.int .u8 0))]) (fun x => [(4, .slice x.2.1 (b.length + 1 + x.1) x.2.2)]) [31, 32, 33, 34, 35, 36, 37] (fun x => padN b.length - x.1) (0, a30, c30) ?_ ?_ ?_)))
 ·refine env_start (by kernel_rfl)
 ·exact zlq (Nat.zero_le _) (M' := [rowR 5 1 a30 (b.length + 1) c30 (b.map B8 ++ [.int .u8 128]), blk b2 142 (List.replicate 32 (.int .u8 0))]) (by simp [rPadRow]; rfl)
 ·intro x u; obtain ⟨k, a4, c4⟩ := x; refine gc_pureR (fun hk => ?_)
  replace hk : k ≤ padN b.length := hk
  refine gc_seq (gsr (zxm ?_)); refine gp (r_int zln (show ((b.length + 1 + k : Nat) : Int) = ((b.length + 1 + k : Nat) : Int) from rfl)) ?_; refine gp (r_int zrm (rem_nat (m := b.length + 1 + k) (k := 64))) ?_; refine gp zni ?_; refine gnt (gif rfl (fun hc34 => ?_) (fun hc34 => ?_))
  ·try simp only at hc34
   have hk' : k < padN b.length := by have := pad_hit' hk; omega
   refine gc_skip (gx_then (gc_block (gc_region (zxm ?_)))); refine ze1 fun b36 => ?_; refine zapo (news := [.int .u8 0]) (fun a37 c37 => ?_)
   refine zxa ?_; refine gl_nil (gx_block_normal (zrd ((k + 1, a37, c37)) ?_ ?_))
   ·show padN b.length - (k + 1) < padN b.length - k
    omega
   ·exact zlq (show k + 1 ≤ padN b.length by omega) (by rw [rPadRow_succ] <;> rfl)
  ·try simp only at hc34
   have hk' : k = padN b.length := by have := pad_hit' hk; omega
   subst hk'; refine gc_exit ?_; refine gx_then_exit ?_; refine gx_round_exit ?_; refine gx_block_hit ?_; refine gx_then (gc_seq (gsr (zxa ?_))); refine gnt (gc_block (gc_loop (α := Nat × Option Addr × Nat) (fun x => [pureR (x.1 ≤ 8), rowR 5 1 x.2.1 (b.length + 1 + padN b.length + x.1) x.2.2 ((rLenRow b x.1).map B8), blk b2 142 (List.replicate 32 (.int .u8 0))]) (fun x => [(4, .slice x.2.1 (b.length + 1 + padN b.length + x.1) x.2.2), (5, .int .i64 (x.1 : Int))]) [38, 39, 40, 41, 42, 43, 44, 45, 46, 47, 48, 49, 50, 51] (fun x => 8 - x.1) (0, a4, c4) ?_ ?_ ?_))
   ·refine env_start (by kernel_rfl)
   ·exact zlq (Nat.zero_le _) (by rw [rLenRow_zero] <;> rfl)
   ·intro x u; obtain ⟨k, a5, c5⟩ := x; refine gc_pureR (fun hk => ?_)
    replace hk : k ≤ 8 := hk
    refine gc_seq (gsr (zxm ?_)); refine gp zlt ?_; refine gnt (gif rfl (fun hc39 => ?_) (fun hc39 => ?_))
    ·try simp only at hc39
     have hk' : k < 8 := by omega
     refine gc_skip (gx_then (gc_seq (gc_block (gc_region (zxm ?_))))); refine zxm ?_; refine zxm ?_; refine gp zml ?_; refine gp zsb ?_; refine gp (r_int zci (show IntKind.u64.wrap (56 - 8 * (k : Int)) = 8 * (7 - (k : Int)) by rw [wrap_u64 (by omega) (by omega)]; omega)) ?_; refine gp zhr ?_; refine gp (r_val zci (byte_shrU (j := 7 - k) (i := 7 - (k : Int)) (by omega) (by omega))) ?_; refine ze1 fun b50 => ?_; refine zapo (news := [B8 (UInt8.ofNat (b.length * 8 / 2 ^ (8 * (7 - k))))]) (fun a51 c51 => ?_)
     refine zxa ?_; refine gl_nil (gx_block_normal (gx_then (gc_region (zxm ?_)))); refine gp zad ?_; refine zxa ?_; refine gl_nil (zrd ((k + 1, a51, c51)) ?_ ?_)
     ·show 8 - (k + 1) < 8 - k
      omega
     ·exact zlq (show k + 1 ≤ 8 by omega) (by rw [rLenRow_succ] <;> rfl)
    ·try simp only at hc39
     have hk' : k = 8 := by omega
     subst hk'; refine gc_exit ?_; refine gx_then_exit ?_; refine gx_round_exit ?_; refine gx_block_hit ?_; refine gx_then (gsr (gp (r_buildA (cs := List.replicate 64 (.int .u32 0)) Ty.zc_189 Ty.arr_189 Ty.sz_188 (by kernel_rfl)) ?_)); refine zal fun b6 => ?_; refine zsA (new := List.replicate 64 (.int .u32 0)) List.length_replicate (rep_one rfl) ?_; refine zxs ?_; refine gp (r_buildA (cs := v8c v0) Ty.zc_190 Ty.arr_190 Ty.sz_188 (by kernel_rfl)) ?_; refine zal fun b7 => ?_; refine zsA (v8c_length _) (v8c_one _) ?_; refine zxs ?_; refine gp (r_buildA (cs := List.replicate 64 (.int .u32 0)) Ty.zc_189 Ty.arr_189 Ty.sz_188 (by kernel_rfl)) ?_; refine zal fun b8 => ?_; refine zsA (new := List.replicate 64 (.int .u32 0)) List.length_replicate (rep_one rfl) ?_; refine gnt (gc_seq (gsr (zxm ?_))); refine gnt (gc_block (gc_loop (α := Nat) (fun k => [pureR (k ≤ 64), blk b8 189 (fnc W32 64 (pfx Kc (fun _ => 0) k)), blk b7 190 (v8c v0), blk b6 189 (List.replicate 64 (.int .u32 0)), rowR 5 1 a5 (b.length + 1 + padN b.length + 8) c5 ((refPad b).map B8), blk b2 142 (List.replicate 32 (.int .u8 0))]) (fun k => [(55, .int .i64 (k : Int))]) [9, 56, 57, 58, 59, 60, 61, 62] (fun k => 64 - k) 0 ?_ ?_ ?_))
     ·refine env_start (by kernel_rfl)
     ·exact zlq (Nat.zero_le _) (M' := [blk b8 189 (List.replicate 64 (.int .u32 0)), blk b7 190 (v8c v0), blk b6 189 (List.replicate 64 (.int .u32 0)), rowR 5 1 a5 (b.length + 1 + padN b.length + 8) c5 ((refPad b).map B8), blk b2 142 (List.replicate 32 (.int .u8 0))]) (by rw [pfx_zero, fnc_const] <;> rfl)
     ·intro k u; refine gc_pureR (fun hk => ?_)
      replace hk : k ≤ 64 := hk
      refine gsr (gp zlt ?_); refine gnt (gc_seq (gif rfl (fun hc56 => ?_) (fun hc56 => ?_)))
      ·try simp only at hc56
       have hk' : k < 64 := by omega
       refine gc_skip (gx_then (gc_seq (gc_block (gsr (zxm ?_))))); refine zxa ?_; refine gnt (gc_region (zxm ?_)); refine zxm ?_; refine zc (fun _ => ?_) (c := fun w1 F1 F2 h1 h2 hd hst => k_ok (i := k) h1 hk')
       refine gp (r_indexAddr_arr rfl rfl Ty.arr_189 Ty.sz_188 (by omega) (by omega)) ?_; refine gl_store1 (wt0 rfl) rfl rfl rfl Ty.sz_188 (by repeat (first | exact Pick.here | apply Pick.there)) (by rw [fnc_length]; omega) (pfx_set (k := k) (by omega) (by omega) rfl) ?_; refine gl_nil (gx_block_normal (gx_then (gc_region (gp zad ?_)))); refine zxm ?_; refine gl_nil (zrd (k + 1) ?_ ?_)
       ·show 64 - (k + 1) < 64 - k
        omega
       ·exact zlp (show k + 1 ≤ 64 by omega)
      ·try simp only at hc56
       have hk' : k = 64 := by omega
       subst hk'; refine gc_exit ?_; refine gx_then_exit ?_; refine gx_round_exit ?_; refine gx_block_hit ?_; refine gx_then (gc_seq (gc_block (gc_loop (α := V8 × List UInt8 × Option Addr × Nat × Nat × (Nat → UInt32)) (fun x => [pureR (takes Kc x.1 x.2.1 = takes Kc v0 (refPad b) ∧ x.2.1.length % 64 = 0 ∧ x.2.1.length ≤ 1099511627906 ∧ x.2.2.2.1 = x.2.1.length), rowR 5 1 x.2.2.1 x.2.2.2.1 x.2.2.2.2.1 (x.2.1.map B8), blk b6 189 (fnc W32 64 x.2.2.2.2.2), blk b7 190 (v8c x.1), blk b8 189 (fnc W32 64 Kc), blk b2 142 (List.replicate 32 (.int .u8 0))]) (fun x => [(4, .slice x.2.2.1 x.2.2.2.1 x.2.2.2.2.1)]) [10, 11, 12, 13, 14, 15, 16, 17, 18, 19, 20, 63, 64, 65, 66, 67, 68, 69, 70, 71, 72, 73, 74, 75, 76, 77, 78, 79, 80, 81, 82, 83, 84, 85, 86, 87, 88, 89, 90, 91, 92, 93, 94, 95, 96, 97, 98, 99, 100, 101, 102, 103, 104, 105, 106, 107, 108, 109, 110, 111, 112, 113, 114, 115, 116, 117, 118, 119, 120, 121, 122, 123, 124, 125, 126, 127, 128, 129, 130, 131, 132, 133, 134, 135, 136, 137, 138, 139, 140, 141, 142, 143, 144, 145, 146, 147, 148, 149, 150, 151, 152, 153, 154, 155, 156, 157, 158, 159, 160, 161, 162, 163, 164, 165, 166, 167, 168, 169, 170, 171, 172, 173, 174, 175, 176, 177, 178, 179, 180, 181, 182, 183, 184, 185, 186, 187, 188, 189, 190, 191, 192, 193, 194, 195, 196, 197, 198, 199, 200, 201, 202, 203, 204, 205, 206, 207, 208, 209, 210, 211, 212, 213, 214, 215, 216, 217, 218, 219, 220, 221, 222, 223, 224, 225, 226, 227, 228, 229, 230, 231, 232, 233, 234, 235, 236, 237, 238, 239, 240, 241, 242, 243, 244, 245, 246, 247, 248, 249, 250] (fun x => x.2.1.length) (v0, refPad b, a5, b.length + 1 + padN b.length + 8, c5, fun _ => 0) ?_ ?_ ?_)))
       ·refine env_start (by kernel_rfl)
       ·exact zlq (M' := [rowR 5 1 a5 (b.length + 1 + padN b.length + 8) c5 ((refPad b).map B8), blk b6 189 (List.replicate 64 (.int .u32 0)), blk b7 190 (v8c v0), blk b8 189 (fnc W32 64 (pfx Kc (fun _ => 0) 64)), blk b2 142 (List.replicate 32 (.int .u8 0))]) ⟨rfl, (by show (refPad b).length % 64 = 0; have := (pad_hit' (m := b.length) (Nat.le_refl _)).2 rfl; omega), (by show (refPad b).length ≤ _; omega), hpl.symm⟩ (by rw [pfx_full]; simp only [fnc_const]; rfl)
       ·intro x u; obtain ⟨v, r, a6, n6, c6, T⟩ := x; refine gc_pureR (fun hk => ?_)
        replace hk : takes Kc v r = takes Kc v0 (refPad b) ∧ r.length % 64 = 0 ∧ r.length ≤ 1099511627906 ∧ n6 = r.length := hk
        obtain ⟨hko, hk64, hkb, rfl⟩ := hk; refine gc_fact (p := r.length ≤ c6) (fun w hw => (hw.rowLe (e := 5) (size := 1) (a := a6) (m := r.length) (c := c6) (xs := r.map B8) (by repeat (first | exact Pick.here | apply Pick.there))).1) (fun hc6 => ?_)
        refine gc_seq (gsr (zxm ?_)); refine gp zln ?_; refine gp zgt ?_; refine gnt (gif rfl (fun hc65 => ?_) (fun hc65 => ?_))
        ·try simp only at hc65
         have hk' : 64 ≤ r.length := by omega
         refine gc_fact (p := ∃ g o, a6 = some ⟨g, o, none⟩) (fun w hw => (by obtain ⟨g, o, e, _⟩ := (hw.row (a := a6) (m := r.length) (c := c6) (xs := r.map B8) (by repeat (first | exact Pick.here | apply Pick.there))).2.2 (by omega); exact ⟨g, o, e⟩)) (fun ha => ?_)
         obtain ⟨g6, o6, rfl⟩ := ha; refine gc_skip (gx_then (gc_block (gc_seq (gsr (zxa ?_))))); refine gnt (gc_block (gc_loop (α := Nat) (fun k => [pureR (k ≤ 16), blk b6 189 (fnc W32 64 (pfx (sch (r.take 64)) T k)), blk b7 190 (v8c v), blk b8 189 (fnc W32 64 Kc), blk b2 142 (List.replicate 32 (.int .u8 0)), rowR 5 1 (some ⟨g6, o6, none⟩) r.length c6 (r.map B8)]) (fun k => [(10, .int .i64 (k : Int))]) [66, 67, 68, 69, 70, 71, 72, 73, 74, 75, 76, 77, 78, 79, 80, 81, 82, 83, 84, 85, 86, 87, 88, 89, 90, 91, 92, 93, 94, 95, 96, 97, 98, 99, 100, 101, 102, 103, 104] (fun k => 16 - k) 0 ?_ ?_ ?_))
         ·refine env_start (by kernel_rfl)
         ·exact zlq (Nat.zero_le _) (by rw [pfx_zero])
         ·intro k u; refine gc_pureR (fun hk => ?_)
          replace hk : k ≤ 16 := hk
          refine gc_seq (gsr (zxm ?_)); refine gp zlt ?_; refine gnt (gif rfl (fun hc67 => ?_) (fun hc67 => ?_))
          ·try simp only at hc67
           have hk' : k < 16 := by omega
           refine gc_skip (gx_then (gc_seq (gc_block (gc_regionT 35 (by kernel_rfl) (by kernel_rfl) ?_)))); refine sp zmv ?_; refine sp zmv ?_; refine sp zmv ?_; refine sp zml ?_; refine sp (zia (m := r.length)) ?_; refine sp (r_ld1r (v := B8 (r.getD (4 * k) 0)) rfl Ty.row_5 (by repeat (first | exact Pick.here | apply Pick.there)) (row_byte (by omega) (by omega))) ?_; refine sp (r_conv8w rfl Ty.un_5 Ty.un_188) ?_; refine sp (r_mulw (b := 16777216) rfl rfl) ?_; refine sp zmv ?_; refine sp zmv ?_; refine sp zml ?_; refine sp zad ?_; refine sp (zia (m := r.length)) ?_; refine sp (r_ld1r (v := B8 (r.getD (4 * k + 1) 0)) rfl Ty.row_5 (by repeat (first | exact Pick.here | apply Pick.there)) (row_byte (by omega) (by omega))) ?_; refine sp (r_conv8w rfl Ty.un_5 Ty.un_188) ?_; refine sp (r_mulw (b := 65536) rfl rfl) ?_; refine sp zwa ?_; refine sp zmv ?_; refine sp zmv ?_; refine sp zml ?_; refine sp zad ?_; refine sp (zia (m := r.length)) ?_; refine sp (r_ld1r (v := B8 (r.getD (4 * k + 2) 0)) rfl Ty.row_5 (by repeat (first | exact Pick.here | apply Pick.there)) (row_byte (by omega) (by omega))) ?_; refine sp (r_conv8w rfl Ty.un_5 Ty.un_188) ?_; refine sp (r_mulw (b := 256) rfl rfl) ?_; refine sp zwa ?_; refine sp zmv ?_; refine sp zmv ?_; refine sp zml ?_; refine sp zad ?_; refine sp (zia (m := r.length)) ?_; refine sp (r_ld1r (v := B8 (r.getD (4 * k + 3) 0)) rfl Ty.row_5 (by repeat (first | exact Pick.here | apply Pick.there)) (row_byte (by omega) (by omega))) ?_; refine sp (r_conv8w rfl Ty.un_5 Ty.un_188) ?_; refine sp zwa ?_; refine sp (r_indexAddr_arr rfl rfl Ty.arr_189 Ty.sz_188 (by omega) (by omega)) ?_; refine gs_nil ?_; refine gl_store1 (wt0 rfl) rfl rfl rfl Ty.sz_188 (by repeat (first | exact Pick.here | apply Pick.there)) (by rw [fnc_length]; omega) (pfx_set (k := k) (by omega) (by omega) (congrArg W32 (word_take hk' (by omega)))) ?_; refine gl_nil (gx_block_normal (gx_then (gc_region (zxm ?_)))); refine gp zad ?_
           refine zxa ?_; refine gl_nil (zrd (k + 1) ?_ ?_)
           ·show 16 - (k + 1) < 16 - k
            omega
           ·exact zlp (show k + 1 ≤ 16 by omega)
          ·try simp only at hc67
           have hk' : k = 16 := by omega
           subst hk'; refine gc_exit ?_; refine gx_then_exit ?_; refine gx_round_exit ?_; refine gx_block_hit ?_; refine gx_then (gc_seq (gsr (zxa ?_))); refine gnt (gc_block (gc_loop (α := Nat) (fun k => [pureR (16 ≤ k ∧ k ≤ 64), blk b6 189 (fnc W32 64 (pfx (sch (r.take 64)) T k)), blk b7 190 (v8c v), blk b8 189 (fnc W32 64 Kc), blk b2 142 (List.replicate 32 (.int .u8 0)), rowR 5 1 (some ⟨g6, o6, none⟩) r.length c6 (r.map B8)]) (fun k => [(11, .int .i64 (k : Int))]) [12, 13, 105, 106, 107, 108, 109, 110, 111, 112, 113, 114, 115, 116, 117, 118, 119, 120, 121, 122, 123, 124, 125, 126, 127, 128, 129, 130, 131, 132, 133, 134, 135, 136, 137, 138, 139, 140, 141, 142, 143, 144, 145] (fun k => 64 - k) 16 ?_ ?_ ?_))
           ·refine env_start (by kernel_rfl)
           ·exact zlp ⟨Nat.le_refl _, by decide⟩
           ·intro k u; refine gc_pureR (fun hk => ?_)
            replace hk : 16 ≤ k ∧ k ≤ 64 := hk
            refine gc_seq (gsr (zxm ?_)); refine gp zlt ?_; refine gnt (gif rfl (fun hc106 => ?_) (fun hc106 => ?_))
            ·try simp only at hc106
             have hk' : k < 64 := by omega
             refine gc_skip (gx_then (gc_seq (gc_block (gc_seq (gc_regionS (by kernel_rfl) (by kernel_rfl) ?_))))); refine sp zmv ?_; refine sp zsb ?_; refine sp (r_indexAddr_arr rfl rfl Ty.arr_189 Ty.sz_188 (by omega) (by omega)) ?_; refine sp (r_ld1 (v := W32 (sch (r.take 64) (k - 15))) rfl Ty.row_188 (by repeat (first | exact Pick.here | apply Pick.there)) (pfx_get (by omega) (by omega) (by omega))) ?_; refine sp zmv ?_; refine sp zsb ?_; refine sp (r_indexAddr_arr rfl rfl Ty.arr_189 Ty.sz_188 (by omega) (by omega)) ?_; refine sp (r_ld1 (v := W32 (sch (r.take 64) (k - 2))) rfl Ty.row_188 (by repeat (first | exact Pick.here | apply Pick.there)) (pfx_get (by omega) (by omega) (by omega))) ?_; refine sp zas ?_; refine sp zas ?_; refine gs_nil ?_; refine gx_then (gc_regionZ 29 ([blk b6 189 (fnc W32 64 (pfx (sch (r.take 64)) T k))]) ?_); refine yps 0 rfl zmv ?_; refine yps 1 rfl zmv ?_; refine yps 2 rfl zsb ?_; refine yps 3 rfl (r_indexAddr_arr rfl rfl Ty.arr_189 Ty.sz_188 (by omega) (by omega)) ?_; refine yps 4 rfl (r_ld1 (v := W32 (sch (r.take 64) (k - 16))) rfl Ty.row_188 (by repeat (first | exact Pick.here | apply Pick.there)) (pfx_get (by omega) (by omega) (by omega))) ?_; refine yps 5 rfl zmv ?_; refine yps 7 rfl zmv ?_; refine yps 10 rfl zmv ?_; refine yps 11 rfl (r_shrw (j := 3) rfl rfl rfl (by decide)) ?_; refine yps 14 rfl zmv ?_; refine yps 15 rfl zsb ?_; refine yps 16 rfl (r_indexAddr_arr rfl rfl Ty.arr_189 Ty.sz_188 (by omega) (by omega)) ?_; refine yps 17 rfl (r_ld1 (v := W32 (sch (r.take 64) (k - 7))) rfl Ty.row_188 (by repeat (first | exact Pick.here | apply Pick.there)) (pfx_get (by omega) (by omega) (by omega))) ?_; refine yps 19 rfl zmv ?_; refine yps 21 rfl zmv ?_; refine yps 24 rfl zmv ?_; refine yps 25 rfl (r_shrw (j := 10) rfl rfl rfl (by decide)) ?_; refine yos 6 rfl ?_; refine zc (fun _ => ?_) (c := fun w1 F1 F2 h1 h2 hd hst => right_ok (j := 7) h1 (by decide) (by decide))
             refine yxs ?_; refine yos 8 rfl ?_; refine zc (fun _ => ?_) (c := fun w1 F1 F2 h1 h2 hd hst => right_ok (j := 18) h1 (by decide) (by decide))
             refine yxs ?_; refine yps 9 rfl zwx ?_; refine yps 12 rfl zwx ?_; refine yps 13 rfl zwa ?_; refine yps 18 rfl zwa ?_; refine yos 20 rfl ?_; refine zc (fun _ => ?_) (c := fun w1 F1 F2 h1 h2 hd hst => right_ok (j := 17) h1 (by decide) (by decide))
             refine yxs ?_; refine yos 22 rfl ?_; refine zc (fun _ => ?_) (c := fun w1 F1 F2 h1 h2 hd hst => right_ok (j := 19) h1 (by decide) (by decide))
             refine yxs ?_; refine yps 23 rfl zwx ?_; refine yps 26 rfl zwx ?_; refine yps 27 rfl zwa ?_; refine yps 28 rfl (r_indexAddr_arr rfl rfl Ty.arr_189 Ty.sz_188 (by omega) (by omega)) ?_; refine yzs rfl ?_; refine gl_store1 (wt0 rfl) rfl rfl rfl Ty.sz_188 (by repeat (first | exact Pick.here | apply Pick.there)) (by rw [fnc_length]; omega) (pfx_set (k := k) (by omega) (by omega) (congrArg W32 (sch_hi hk.1).symm)) ?_; refine gl_nil (gx_block_normal (gx_then (gc_region (zxm ?_)))); refine gp zad ?_; refine zxa ?_; refine gl_nil (zrd (k + 1) ?_ ?_)
             ·show 64 - (k + 1) < 64 - k
              omega
             ·exact zlp (show 16 ≤ k + 1 ∧ k + 1 ≤ 64 by omega)
            ·try simp only at hc106
             have hk' : k = 64 := by omega
             subst hk'; refine gc_exit ?_; refine gx_then_exit ?_; refine gx_round_exit ?_; refine gx_block_hit ?_; refine gx_then (gsr (gp (zLa (cs := v8c v)) ?_)); refine zal fun b14 => ?_; refine zsA (v8c_length _) (v8c_one _) ?_; refine gnt (gc_seq (gsr (zxa ?_))); refine gnt (gc_block (gc_loop (α := Nat) (fun k => [pureR (k ≤ 64), blk b14 190 (v8c (rnds Kc (sch (r.take 64)) v k)), blk b6 189 (fnc W32 64 (pfx (sch (r.take 64)) T 64)), blk b7 190 (v8c v), blk b8 189 (fnc W32 64 Kc), blk b2 142 (List.replicate 32 (.int .u8 0)), rowR 5 1 (some ⟨g6, o6, none⟩) r.length c6 (r.map B8)]) (fun k => [(15, .int .i64 (k : Int))]) [16, 17, 18, 19, 147, 148, 149, 150, 151, 152, 153, 154, 155, 156, 157, 158, 159, 160, 161, 162, 163, 164, 165, 166, 167, 168, 169, 170, 171, 172, 173, 174, 175, 176, 177, 178, 179, 180, 181, 182, 183, 184, 185, 186, 187, 188, 189, 190, 191, 192, 193, 194, 195, 196, 197, 198, 199, 200, 201, 202, 203, 204, 205, 206, 207, 208, 209, 210, 211, 212, 213, 214, 215, 216, 217, 218, 219, 220, 221, 222, 223, 224, 225, 226, 227, 228, 229, 230, 231, 232, 233, 234, 235, 236] (fun k => 64 - k) 0 ?_ ?_ ?_))
             ·refine env_start (by kernel_rfl)
             ·exact zlp (by first | exact Nat.zero_le _ | omega)
             ·intro k u; refine gc_pureR (fun hk => ?_)
              replace hk : k ≤ 64 := hk
              refine gc_seq (gsr (zxm ?_)); refine gp zlt ?_; refine gnt (gif rfl (fun hc148 => ?_) (fun hc148 => ?_))
              ·try simp only at hc148
               have hk' : k < 64 := by omega
               refine gc_skip (gx_then (gc_seq (gc_block (gsr (gp zib ?_))))); refine gp zl ?_; refine gp zib ?_; refine gp zl ?_; refine gp zwn ?_; refine gp zib ?_; refine gp zl ?_; refine gp zwc ?_; refine gp zib ?_; refine gp zl ?_; refine gp zwn ?_; refine gp zwx ?_; refine zxa ?_; refine zxs ?_; refine gp zib ?_; refine gp zl ?_; refine gp zib ?_; refine gp zl ?_; refine gp zwn ?_; refine gp zib ?_; refine gp zl ?_; refine gp zib ?_; refine gp zl ?_; refine gp zwn ?_; refine gp zwx ?_; refine gp zib ?_; refine gp zl ?_; refine gp zib ?_; refine gp zl ?_; refine gp zwn ?_; refine gp zwx ?_; refine zxa ?_; refine gnt (gc_seq (gc_regionZ 24 ([blk b14 190 (v8c (rnds Kc (sch (r.take 64)) v k)), blk b6 189 (fnc W32 64 (pfx (sch (r.take 64)) T 64)), blk b8 189 (fnc W32 64 Kc)]) ?_)); refine yps 0 rfl zib ?_; refine yps 1 rfl zl ?_; refine yps 2 rfl zib ?_; refine yps 3 rfl zl ?_; refine yps 5 rfl zib ?_; refine yps 6 rfl zl ?_; refine yps 9 rfl zib ?_; refine yps 10 rfl zl ?_; refine yps 14 rfl zmv ?_; refine yps 16 rfl zmv ?_; refine yps 17 rfl (r_indexAddr_arr rfl rfl Ty.arr_189 Ty.sz_188 (by omega) (by omega)) ?_; refine yps 18 rfl (r_ld1 (v := W32 (Kc k)) rfl Ty.row_188 (by repeat (first | exact Pick.here | apply Pick.there)) (by rw [show 0 + (k : Int).toNat * 1 = k by omega]; exact fnc_get hk')) ?_; refine yps 20 rfl zmv ?_; refine yps 21 rfl (r_indexAddr_arr rfl rfl Ty.arr_189 Ty.sz_188 (by omega) (by omega)) ?_; refine yps 22 rfl (r_ld1 (v := W32 (sch (r.take 64) (k))) rfl Ty.row_188 (by repeat (first | exact Pick.here | apply Pick.there)) (pfx_get (by omega) (by omega) (by omega))) ?_; refine yos 4 rfl ?_; refine zc (fun _ => ?_) (c := fun w1 F1 F2 h1 h2 hd hst => right_ok (j := 6) h1 (by decide) (by decide))
               refine yxs ?_; refine yos 7 rfl ?_; refine zc (fun _ => ?_) (c := fun w1 F1 F2 h1 h2 hd hst => right_ok (j := 11) h1 (by decide) (by decide))
               refine yxs ?_; refine yps 8 rfl zwx ?_; refine yos 11 rfl ?_; refine zc (fun _ => ?_) (c := fun w1 F1 F2 h1 h2 hd hst => right_ok (j := 25) h1 (by decide) (by decide))
               refine yxs ?_; refine yps 12 rfl zwx ?_; refine yps 13 rfl zwa ?_; refine yps 15 rfl zwa ?_; refine yps 19 rfl zwa ?_; refine yps 23 rfl zwa ?_; refine yzs rfl ?_; refine zxa ?_; refine gnt (gc_seq (gc_regionZ 13 ([blk b14 190 (v8c (rnds Kc (sch (r.take 64)) v k))]) ?_)); refine yps 0 rfl zib ?_; refine yps 1 rfl zl ?_; refine yps 3 rfl zib ?_; refine yps 4 rfl zl ?_; refine yps 7 rfl zib ?_; refine yps 8 rfl zl ?_; refine yps 11 rfl zmv ?_; refine yos 2 rfl ?_; refine zc (fun _ => ?_) (c := fun w1 F1 F2 h1 h2 hd hst => right_ok (j := 2) h1 (by decide) (by decide))
               refine yxs ?_; refine yos 5 rfl ?_; refine zc (fun _ => ?_) (c := fun w1 F1 F2 h1 h2 hd hst => right_ok (j := 13) h1 (by decide) (by decide))
               refine yxs ?_; refine yps 6 rfl zwx ?_; refine yos 9 rfl ?_; refine zc (fun _ => ?_) (c := fun w1 F1 F2 h1 h2 hd hst => right_ok (j := 22) h1 (by decide) (by decide))
               refine yxs ?_; refine yps 10 rfl zwx ?_; refine yps 12 rfl zwa ?_; refine yzs rfl ?_; refine zxa ?_; refine gnt (gc_region (zxm ?_)); refine zxm ?_; refine gp zwa ?_; refine gp zib ?_; refine gp zl ?_; refine gp zib ?_; refine gp zl ?_; refine gp zib ?_; refine gp zl ?_; refine gp zib ?_; refine gp zl ?_; refine zxm ?_; refine gp zwa ?_; refine gp zib ?_; refine gp zl ?_; refine gp zib ?_; refine gp zl ?_; refine gp zib ?_; refine gp zl ?_; refine gp (r_buildA (cs := v8c (rnds Kc (sch (r.take 64)) v (k + 1))) Ty.zc_190 Ty.arr_190 Ty.sz_188 rfl) ?_; refine zsA (v8c_length _) (v8c_one _) ?_; refine gl_nil (gx_block_normal (gx_then (gc_region (zxm ?_)))); refine gp zad ?_; refine zxa ?_; refine gl_nil (zrd (k + 1) ?_ ?_)
               ·show 64 - (k + 1) < 64 - k
                omega
               ·exact zlp (show k + 1 ≤ 64 by omega)
              ·try simp only at hc148
               have hk' : k = 64 := by omega
               subst hk'; refine gc_exit ?_; refine gx_then_exit ?_; refine gx_round_exit ?_; refine gx_block_hit ?_; refine gx_then (gc_seq (gsr (zxm ?_))); refine gnt (gc_block ?_); generalize hV : rnds Kc (sch (r.take 64)) v 64 = V
               refine gc_loop (α := Nat) (fun k => [pureR (k ≤ 8), blk b7 190 (fnc W32 8 (pfx (v.add V).get v.get k)), blk b14 190 (v8c V), blk b6 189 (fnc W32 64 (pfx (sch (r.take 64)) T 64)), blk b8 189 (fnc W32 64 Kc), blk b2 142 (List.replicate 32 (.int .u8 0)), rowR 5 1 (some ⟨g6, o6, none⟩) r.length c6 (r.map B8)]) (fun k => [(237, .int .i64 (k : Int))]) [20, 238, 239, 240, 241, 242, 243, 244, 245, 246, 247, 248] (fun k => 8 - k) 0 ?_ ?_ ?_
               ·refine env_start (by kernel_rfl)
               ·exact zlq (Nat.zero_le _) (by rw [pfx_zero] <;> rfl)
               ·intro k u; refine gc_pureR (fun hk => ?_)
                replace hk : k ≤ 8 := hk
                refine gsr (gp zlt ?_); refine gnt (gc_seq (gif rfl (fun hc238 => ?_) (fun hc238 => ?_)))
                ·try simp only at hc238
                 have hk' : k < 8 := by omega
                 refine gc_skip (gx_then (gc_seq (gc_block (gsr (zxm ?_))))); refine zxa ?_; refine gnt (gc_regionT 8 (by kernel_rfl) (by kernel_rfl) ?_); refine sp zmv ?_; refine sp (r_indexAddr_arr rfl rfl Ty.arr_190 Ty.sz_188 (by omega) (by omega)) ?_; refine sp (r_ld1 (v := W32 (v.get k)) rfl Ty.row_188 (by repeat (first | exact Pick.here | apply Pick.there)) (pfx_get2 (by omega) (by omega) (by omega))) ?_; refine sp zmv ?_; refine sp (r_indexAddr_arr rfl rfl Ty.arr_190 Ty.sz_188 (by omega) (by omega)) ?_; refine sp (r_ld1 (v := W32 (V.get k)) rfl Ty.row_188 (by repeat (first | exact Pick.here | apply Pick.there)) (by rw [show 0 + (k : Int).toNat * 1 = k by omega]; exact fnc_get (V := W32) (f := V.get) hk')) ?_; refine sp zwa ?_; refine sp (r_indexAddr_arr rfl rfl Ty.arr_190 Ty.sz_188 (by omega) (by omega)) ?_; refine gs_nil ?_; refine gl_store1 (wt0 rfl) rfl rfl rfl Ty.sz_188 (by repeat (first | exact Pick.here | apply Pick.there)) (by rw [fnc_length]; omega) (pfx_set (k := k) (by omega) (by omega) (congrArg W32 (V8.add_get _ _ _).symm)) ?_; refine gl_nil (gx_block_normal (gx_then (gc_region (gp zad ?_)))); refine zxm ?_; refine gl_nil (zrd (k + 1) ?_ ?_)
                 ·show 8 - (k + 1) < 8 - k
                  omega
                 ·exact zlp (show k + 1 ≤ 8 by omega)
                ·try simp only at hc238
                 have hk' : k = 8 := by omega
                 subst hk'; have e8 : fnc W32 8 (pfx (v.add V).get v.get 8) = v8c (take64 Kc v (r.take 64)) := by rw [pfx_full, ← hV]; rfl
                 rw [e8]; refine gc_exit ?_; refine gx_then_exit ?_; refine gx_round_exit ?_; refine gx_block_hit ?_; refine gx_then (gc_region (zxm ?_)); refine gp (r_slice_slice (a := some ⟨g6, o6, none⟩) (m := r.length) (c := c6) (l := 64) (h := r.length) rfl Ty.sl_49 Ty.sz_5 ⟨_, rfl⟩ rfl (by omega) (by omega)) ?_; refine zxa ?_; refine gl_nil (gx_block_normal ?_); have hdl : (r.drop 64).length = r.length - 64 := List.length_drop
                 refine zrd ((take64 Kc v (r.take 64), r.drop 64, (if c6 = 64 then some ⟨g6, o6, none⟩ else (some (⟨g6, o6, none⟩ : Addr)).map (·.add (64 * 1))), r.length - 64, c6 - 64, sch (r.take 64))) ?_ ?_
                 ·show (r.drop 64).length < r.length
                  omega
                 ·rintro w' hw
                  obtain ⟨F', hF', hst'⟩ := hw.sel (M := [rowR 5 1 (some ⟨g6, o6, none⟩) r.length c6 (r.map B8), blk b6 189 _, blk b7 190 (v8c (take64 Kc v (r.take 64))), blk b8 189 (fnc W32 64 Kc), blk b2 142 (List.replicate 32 (.int .u8 0))]) (by repeat (first | exact Sel.nil | (apply Sel.cons; · (repeat (first | exact Pick.here | apply Pick.there))))); refine ⟨F', stars_pure_mk ⟨?_, ?_, ?_, hdl.symm⟩ ?_, hst'⟩
                  ·rw [← hko, takes.eq_1 Kc v r, dif_pos (by omega)]
                  ·show (r.drop 64).length % 64 = 0; omega
                  ·show (r.drop 64).length ≤ _; omega
                  ·have := stars_tail8 (l := 64) (by omega) hF'
                   rw [pfx_full] at this; exact this
        ·try simp only at hc65
         have hk' : r = [] := List.eq_nil_of_length_eq_zero (by omega)
         have hV : (takes Kc v0 (refPad b)).1 = v := by rw [← hko, hk', takes_nil]
         rw [hV]; refine gc_exit ?_; refine gx_then_exit ?_; refine gx_round_exit ?_; refine gx_block_hit ?_; refine gx_then (gsr (gp (r_buildA (cs := List.replicate 32 (.int .u8 0)) Ty.zc_142 Ty.arr_142 Ty.sz_5 (by kernel_rfl)) ?_)); refine zal fun b21 => ?_; refine zsA (new := List.replicate 32 (.int .u8 0)) List.length_replicate (rep_one rfl) ?_; refine gnt (gc_seq (gsr (zxm ?_))); refine gnt (gc_block (gc_loop (α := Nat) (fun k => [pureR (k ≤ 32), blk b21 142 (fnc B8 32 (pfx (outByte v) (fun _ => 0) k)), blk b7 190 (v8c v), blk b2 142 (List.replicate 32 (.int .u8 0))]) (fun k => [(252, .int .i64 (k : Int))]) [22, 253, 254, 255, 256, 257, 258, 259, 260, 261, 262, 263, 264, 265, 266, 267, 268] (fun k => 32 - k) 0 ?_ ?_ ?_))
         ·refine env_start (by kernel_rfl)
         ·exact zlq (Nat.zero_le _) (by rw [pfx_zero, fnc_const] <;> rfl)
         ·intro k u; refine gc_pureR (fun hk => ?_)
          replace hk : k ≤ 32 := hk
          refine gsr (gp zlt ?_); refine gnt (gc_seq (gif rfl (fun hc253 => ?_) (fun hc253 => ?_)))
          ·try simp only at hc253
           have hk' : k < 32 := by omega
           refine gc_skip (gx_then (gc_seq (gc_block (gsr (zxm ?_))))); refine zxa ?_; refine gnt (gc_region (zxm ?_)); refine zxm ?_; refine gp (r_int zqu ((congrArg IntKind.i64.wrap (quo_nat (m := k) (k := 4))).trans (wrap_i64 (by omega) (by omega)))) ?_; refine gp (r_indexAddr_arr rfl rfl Ty.arr_190 Ty.sz_188 (by omega) (by omega)) ?_; refine gp (r_ld1 (v := W32 (v.get (k / 4))) rfl Ty.row_188 (by repeat (first | exact Pick.here | apply Pick.there)) (by rw [show 0 + ((k / 4 : Nat) : Int).toNat * 1 = k / 4 by omega]; exact fnc_get (V := W32) (m := 8) (f := v.get) (by omega))) ?_; refine zxm ?_; refine gp (r_int zrm (rem_nat (m := k) (k := 4))) ?_; refine gp zml ?_; refine gp zsb ?_; refine gp (r_int zci (wrap_u64 (by omega) (by omega))) ?_; refine gp (r_shrw (j := 24 - 8 * (k % 4)) rfl rfl (by omega) (by omega)) ?_; refine gp (r_convw8 rfl Ty.un_188 Ty.un_5) ?_; refine gp (r_indexAddr_arr rfl rfl Ty.arr_142 Ty.sz_5 (by omega) (by omega)) ?_; refine gl_store1 (wt0 rfl) rfl rfl rfl Ty.sz_5 (by repeat (first | exact Pick.here | apply Pick.there)) (by rw [fnc_length]; omega) (pfx_set (k := k) (by omega) (by omega) rfl) ?_; refine gl_nil (gx_block_normal (gx_then (gc_region (gp zad ?_)))); refine zxm ?_; refine gl_nil (zrd (k + 1) ?_ ?_)
           ·show 32 - (k + 1) < 32 - k
            omega
           ·exact zlp (show k + 1 ≤ 32 by omega)
          ·try simp only at hc253
           have hk' : k = 32 := by omega
           subst hk'; refine gc_exit ?_; refine gx_then_exit ?_; refine gx_round_exit ?_; refine gx_block_hit ?_; refine gx_then (gsr (gp (zLa (cs := fnc B8 32 _)) ?_)); refine zsA fnc_length (fnc_one fun _ => rfl) ?_; refine gnt (gc_ret (gx_retc rfl rfl (ld_aggS Ty.row_142 Ty.sz_142 (by repeat (first | exact Pick.here | apply Pick.there)) (seg_all fnc_length) fnc_length) ?_)); rw [pfx_full]; exact ze ()
end
section
def RdStr (cs : List Value) (b : List UInt8) : Prop := cs = [.string (str b)]
inductive All2 {α : Type} (rd : List Value → α → Prop) : List Value → List α → Prop
  | nil : All2 rd [] []
  | cons {v : Value} {x : α} {vs : List Value} {l : List α} : rd [v] x → All2 rd vs l → All2 rd (v :: vs) (x :: l)
theorem All2.len {α : Type} {rd : List Value → α → Prop} {vs : List Value} {l : List α} (h : All2 rd vs l) : vs.length = l.length := by
  induction h with
  | nil => rfl
  | cons _ _ ih => simp [ih]
theorem All2.at {α : Type} {rd : List Value → α → Prop} {vs : List Value} {l : List α} (h : All2 rd vs l) : ∀ (i : Nat) (v : Value) (x : α), vs[i]? = some v → l[i]? = some x → rd [v] x := by
  induction h with
  | nil => intro i v x h1 _; simp at h1
  | cons h1 _ ih =>
    intro i v x hv hx
    cases i with
    | zero => simp at hv hx; subst hv; subst hx; exact h1
    | succ i => exact ih i v x (by simpa using hv) (by simpa using hx)
theorem RdList.of1 {α : Type} {rd : List Value → α → Prop} {w : World} {A : Nat → Prop} {a : Option Addr} {n : Nat} {vs : List Value} {l : List α} (hr : RdRow w A 1 a n vs) (h : All2 rd vs l) : RdList rd w A 1 a n l := by
  refine ⟨vs.map fun v => [v], ?_, by simp, by simp [h.len], fun i c x h1 h2 => ?_⟩
  · have e : (vs.map fun v => [v]).flatten = vs := by
      clear hr h
      induction vs with
      | nil => rfl
      | cons v r ih => simp [ih]
    rw [e]; exact hr
  · rw [List.getElem?_map] at h1
    cases hv : vs[i]? with
    | none => rw [hv] at h1; cases h1
    | some v => rw [hv] at h1; simp at h1; subst h1; exact h.at i v x hv h2
theorem framed_succ (dom : Int) (parts : List (List UInt8)) {k : Nat} {p : List UInt8} (h : parts[k]? = some p) : framed dom (parts.take (k + 1)) = framed dom (parts.take k) ++ (part4 p.length ++ p) := by
  rw [List.take_add_one, h]; simp [framed]
theorem framed_length (dom : Int) (parts : List (List UInt8)) : (framed dom parts).length = 1 + pcost parts := by
  simp only [framed, List.length_cons]
  have : (parts.flatMap fun p => part4 p.length ++ p).length = pcost parts := by
    induction parts with
    | nil => rfl
    | cons p l ih =>
      rw [List.flatMap_cons, List.length_append, ih]
      simp only [List.length_append, pcost, List.map_cons, List.sum_cons, part4, List.length_cons, List.length_nil]; omega
  omega
theorem of_cut (dom : Int) (parts : List (List UInt8)) : fnc B8 16 (outByte (takes Kc v0 (refPad (framed dom parts))).1) = dc (dOf Kc dom parts) := by
  have e : (dOf Kc dom parts).l = (refSum Kc (framed dom parts)).take 16 := hOf_ref Kc dom parts
  rw [dc, e, refSum]
  simp [fnc, ← List.map_take, List.take_range]
theorem RdBytes.row {L L' : List Res} {w : World} {F1 F2 : Nat → Prop} {e n c : Nat} {a : Option Addr} {b : List UInt8} (h2 : stars L w F2) (hd : ∀ k, F1 k → ¬ F2 k) (hp : Pick L (rowR e 1 a n c (b.map B8)) L') : RdBytes w (fun k => ¬ F1 k) [.slice a n c] b :=
  ⟨_, _, _, rfl, rd_le h2 hp, rd_row h2 hd hp⟩
theorem RdBytes.dig {L L' : List Res} {w : World} {F1 F2 : Nat → Prop} {g T : Nat} {d : Dig} (h2 : stars L w F2) (hd : ∀ k, F1 k → ¬ F2 k) (hp : Pick L (blk g T (dc d)) L') : RdBytes w (fun k => ¬ F1 k) [.slice (some ⟨g, 0 + 0 * 1, none⟩) (16 - 0) (16 - 0)] d.l :=
  ⟨_, _, _, rfl, Nat.le_refl _, rd_blk h2 hd hp (by simp only [dc, List.drop_zero]; exact List.take_of_length_le (by simp [d.h])) (by simp [d.h]) (by decide)⟩
attribute [local irreducible] Gl Gc Gx Gs Runs Wt
theorem framed_ok {w : World} {F : Nat → Prop} {dom : Int} {parts : List (List UInt8)} {a : Option Addr} {n c : Nat} (h : stars [] w F) (hx : RdList RdStr w (fun k => ¬ F k) 1 a n parts) (hb : 1 + pcost parts ≤ 1099511627776) :
    Calls Tryz.prog 64 #[.int .i64 dom, .slice a n c] w (Post w F (fun _ : Unit => .string (str (framed dom parts))) (fun _ => [])) := by
 have hnl := hx.len (by decide)
 have hm1 := hx.max
 simp only [maxLen] at hm1
 refine g_enter (env := [(0, .int .i64 dom), (1, .slice a n c)]) Tryz.func64 rfl h Tryz.ntmps64 rfl rfl ?_; refine gsr (zxa ?_); refine zxs ?_; refine zxm ?_; refine gp (r_val zci byte_int) ?_; refine ze1 fun b11 => ?_; refine gp (zso (b := [UInt8.ofNat (dom % 256).toNat])) ?_; refine zxa ?_; refine gnt (gc_seq (gsr (zxm ?_))); refine gp zln ?_; refine zxm ?_; refine gnt (gc_block (gc_loop (α := Nat) (fun k => [pureR (k ≤ n)]) (fun k => [(15, .int .i64 (k : Int)), (5, .string (str (framed dom (parts.take k))))]) [7, 8, 16, 17, 18, 19, 20, 21, 22, 23, 24, 25, 26, 27, 28, 29, 30, 31, 32, 33, 34, 35, 36, 37, 38, 39] (fun k => n - k) 0 ?_ ?_ ?_))
 ·refine env_start (by kernel_rfl)
 ·exact zlp (by first | exact Nat.zero_le _ | omega)
 ·intro k u; refine gc_pureR (fun hk => ?_)
  replace hk : k ≤ n := hk
  refine gsr (gp zlt ?_); refine gnt (gc_seq (gif rfl (fun hc16 => ?_) (fun hc16 => ?_)))
  ·try simp only at hc16
   have hk' : k < n := by omega
   obtain ⟨ga, o, cs, y, ha, hA, hg, hra, hcl, hly, hrd⟩ := hx.elem (by decide) hk'; subst ha; unfold RdStr at hrd
   subst hrd; have hpc := pcost_take hly
   have hfl := framed_length dom (parts.take k)
   refine gc_skip (gx_then (gc_seq (gc_block (gsr (gp zia ?_))))); refine gp (r_ld1o rfl Ty.row_9 (hra 0 _ rfl) hA) ?_; refine zxa ?_; refine zxs ?_; refine zxm ?_; refine gp zlS ?_; refine gp (r_int zci (wrap_u64 (by omega) (by omega))) ?_; refine zxa ?_; refine gnt (gc_region (zxm ?_)); refine zxm ?_; refine gp (r_int zqu ((congrArg IntKind.u64.wrap (quo_nat (m := y.length) (k := 16777216))).trans (wrap_u64 (by omega) (by omega)))) ?_; refine gp (r_val zci byte_nat) ?_; refine zxm ?_; refine gp (r_int zqu ((congrArg IntKind.u64.wrap (quo_nat (m := y.length) (k := 65536))).trans (wrap_u64 (by omega) (by omega)))) ?_; refine gp (r_val zci byte_nat) ?_; refine zxm ?_; refine gp (r_int zqu ((congrArg IntKind.u64.wrap (quo_nat (m := y.length) (k := 256))).trans (wrap_u64 (by omega) (by omega)))) ?_; refine gp (r_val zci byte_nat) ?_; refine zxm ?_; refine gp (r_val zci byte_nat) ?_; refine gl_bsls (vs := (part4 y.length).map B8) (wt0 rfl) Ty.sl_49 Ty.sz_5 Ty.zc_5 rfl rfl (one_B8 _) rfl rfl rfl ?_; intro b34; refine gp (zso (b := part4 y.length)) ?_; refine zxm ?_; refine gp (zcat (a := part4 y.length) (b := y) (hl := by simp only [part4, List.length_cons, List.length_nil]; omega)) ?_; refine gp (r_val (zcat (hl := by simp only [part4, List.length_append, List.length_cons, List.length_nil]; omega)) (congrArg (fun l => Value.string (str l)) (framed_succ dom parts hly).symm)) ?_; refine zxa ?_; refine gl_nil (gx_block_normal (gx_then (gc_region (gp zad ?_)))); refine zxm ?_; refine gl_nil (zrd (k + 1) ?_ ?_)
   ·show n - (k + 1) < n - k
    omega
   ·exact zlp (show k + 1 ≤ n by omega)
  ·try simp only at hc16
   have hk' : k = parts.length := by omega
   subst hk'; refine gc_exit ?_; refine gx_then_exit ?_; refine gx_round_exit ?_; refine gx_block_hit ?_; refine gx_then (gsr (zxm ?_)); refine zxa ?_; refine gnt (gc_ret (gx_ret1 rfl (by conv => lhs; whnf) ?_)); rw [List.take_length]; exact ze ()
theorem of2_ok {w : World} {F : Nat → Prop} {dom : Int} {parts : List (List UInt8)} {a : Option Addr} {n c : Nat} (h : stars [] w F) (hx : RdList RdStr w (fun k => ¬ F k) 1 a n parts) (hb : 1 + pcost parts ≤ 1099511627776) :
    Calls Tryz.prog 37 #[.int .i64 dom, .slice a n c] w (Post w F (fun _ : Unit => .agg (dc (dOf Kc dom parts)).toArray) (fun _ => [])) := by
 refine g_enter (env := [(0, .int .i64 dom), (1, .slice a n c)]) Tryz.func37 rfl h Tryz.ntmps37 rfl rfl ?_; refine gsr (zal fun b4 => ?_); refine zxs ?_; refine zxm ?_; refine zxm ?_; refine zc (fun _ => ?_) (c := fun w1 F1 F2 h1 h2 hd hst => framed_ok h1 (RdList.mv hx hst.still fun _ _ h => h) hb)
 refine zc (fun _ => ?_) (c := fun w1 F1 F2 h1 h2 hd hst => rsum_ok h1 (by rw [framed_length]; omega))
 generalize hV : (takes Kc v0 (refPad (framed dom parts))).1 = V
 refine zal fun b5 => ?_; refine zsA fnc_length (fnc_one fun _ => rfl) ?_; refine zxs ?_; refine gp (r_buildA (cs := zD) Ty.zc_38 Ty.arr_38 Ty.sz_5 (by kernel_rfl)) ?_; refine zal fun b6 => ?_; refine zsA (new := zD) rfl (dc_one dig0) ?_; refine gnt (gc_seq (gsr (zxm ?_))); refine gnt (gc_block (gc_loop (α := Nat) (fun k => [pureR (k ≤ 16), blk b6 38 (fnc B8 16 (pfx (outByte V) (fun _ => 0) k)), blk b5 142 (fnc B8 32 (outByte V)), blk b4 38 zD]) (fun k => [(13, .int .i64 (k : Int))]) [7, 14, 15, 16, 17, 18, 19, 20, 21] (fun k => 16 - k) 0 ?_ ?_ ?_))
 ·refine env_start (by kernel_rfl)
 ·exact zlq (Nat.zero_le _) (M' := [blk b6 38 zD, blk b5 142 (fnc B8 32 (outByte V)), blk b4 38 zD]) (by rw [pfx_zero, fnc_const] <;> rfl)
 ·intro k u; refine gc_pureR (fun hk => ?_)
  replace hk : k ≤ 16 := hk
  refine gsr (gp zlt ?_); refine gnt (gc_seq (gif rfl (fun hc14 => ?_) (fun hc14 => ?_)))
  ·try simp only at hc14
   have hk' : k < 16 := by omega
   refine gc_skip (gx_then (gc_seq (gc_block (gsr (zxm ?_))))); refine zxa ?_; refine gnt (gc_region (zxm ?_)); refine zxm ?_; refine gp zib ?_; refine gp (r_ld1 (v := B8 (outByte V k)) rfl Ty.row_5 (by repeat (first | exact Pick.here | apply Pick.there)) (by rw [show 0 + (k : Int).toNat * 1 = k by omega]; exact fnc_get (V := B8) (f := outByte V) (by omega))) ?_; refine gp zib ?_; refine gl_store1 (wt0 rfl) rfl rfl rfl Ty.sz_5 (by repeat (first | exact Pick.here | apply Pick.there)) (by rw [fnc_length]; omega) (pfx_set (k := k) (by omega) (by omega) rfl) ?_; refine gl_nil (gx_block_normal (gx_then (gc_region (gp zad ?_)))); refine zxm ?_; refine gl_nil (zrd (k + 1) ?_ ?_)
   ·show 16 - (k + 1) < 16 - k
    omega
   ·exact zlp (show k + 1 ≤ 16 by omega)
  ·try simp only at hc14
   have hk' : k = 16 := by omega
   subst hk'; have e : fnc B8 16 (pfx (outByte V) (fun _ => 0) 16) = dc (dOf Kc dom parts) := by rw [pfx_full, ← hV]; exact of_cut dom parts
   rw [e]; refine gc_exit ?_; refine gx_then_exit ?_; refine gx_round_exit ?_; refine gx_block_hit ?_; refine gx_then (gsr (gp (zLa (cs := dc (dOf Kc dom parts))) ?_)); refine zsA (dc_length _) (dc_one _) ?_; refine gnt (gc_ret (gx_retc rfl rfl (ldA Ty.row_38 Ty.sz_38) ?_)); exact ze ()
end
section
def datE (b : Block) (c : QC) : List UInt8 := if madeE b c = 0 then (⟨b, c⟩ : LRec).data else []
theorem datE_len (b : Block) (c : QC) : (datE b c).length ≤ 16974 := by
  unfold datE; split
  · exact (data_len ⟨b, c⟩).2
  · simp
theorem rc_0 {e r : Value} {t l : List Value} : (e :: r :: t ++ l)[0]? = some e := rfl
theorem rc_1 {e r : Value} {t l : List Value} : (e :: r :: t ++ l)[1]? = some r := rfl
theorem rc_39 {xb t : List Value} {e r : Value} (h : xb.length = 39) : (xb ++ e :: r :: t)[39]? = some e := by rw [List.getElem?_append_right (by omega), h]; rfl
theorem rc_40 {xb t : List Value} {e r : Value} (h : xb.length = 39) : (xb ++ e :: r :: t)[40]? = some r := by rw [List.getElem?_append_right (by omega), h]; rfl
theorem rc_41 {xb t : List Value} {e r : Value} {d : Dig} (h : xb.length = 39) : ((xb ++ e :: r :: (dc d ++ t)).drop 41).take 16 = dc d := by
  rw [List.drop_append, List.drop_eq_nil_of_le (by omega), h]
  show List.take 16 (dc d ++ t) = dc d
  exact List.take_left' (dc_length d)
theorem i64_nat {n : Nat} (h : n ≤ 1099511627776) : I64 (n : Int) := by unfold I64; omega
theorem data_flat {a b : List UInt8} : ((beN (a.length : Int) 2 ++ a) ++ beN (b.length : Int) 2) ++ b = dataL a b := by simp [dataL]
attribute [local irreducible] Gl Gc Gx Gs Runs Wt
theorem rid_ok {w : World} {F : Nat → Prop} {cs : List Value} {x : Block} (h : stars [] w F) (hx : RdBlock w (fun k => ¬ F k) cs x) (ho : OkBlock x) :
    Calls Tryz.prog 30 #[.agg cs.toArray] w (Post w F (fun _ : Unit => .tuple #[.agg (dc (idOf x)).toArray, .int .i64 ((wBlock x ⟨0, []⟩).err : Int)]) (fun _ => [])) := by
 have hl := hx.len
 have il := Len.of hl
 have jl := One.of hx.one
 have hmx := block_max x
 refine g_enter (env := [(0, .agg cs.toArray)]) Tryz.func30 rfl h Tryz.ntmps30 rfl rfl ?_; refine gsr (zbN fun b1 => ?_); refine zal fun b2 => ?_; refine zxa ?_; refine zxs ?_; refine gp (zLa (cs := cs)) ?_; refine zc ?_ (c := fun w1 F1 F2 h1 h2 hd hst => obytes_ok h1 (hx.mv hst.still) ho)
 rintro ⟨a8, c8⟩
 refine zxm ?_; refine gp zex ?_; refine gp zex ?_; refine zxa ?_; refine zxa ?_; refine gnt (gc_seq (gc_seq ?_)); by_cases he : (wBlock x ⟨0, []⟩).err = 0
 ·refine gc_region (zxm ?_); refine gp (r_bool (c := false) zni (by simp [he])) ?_; refine gnt (gc_condF rfl rfl ?_); refine gc_skip (gx_then (gsr (zxm ?_))); refine gp (zso (b := wOut (wBlock x ⟨0, []⟩))) ?_; refine ze1 fun b17 => ?_; refine zc (fun _ => ?_) (c := fun w1 F1 F2 h1 h2 hd hst => of2_ok (parts := [wOut (wBlock x ⟨0, []⟩)]) h1 (.of1 (rd_row (xs := [.string (str (wOut (wBlock x ⟨0, []⟩)))]) h2 hd (by repeat (first | exact Pick.here | apply Pick.there))) (.cons rfl .nil)) (by simp only [pcost, List.map_cons, List.map_nil, List.sum_cons, List.sum_nil]; omega))
  refine zsA (dc_length _) (dc_one _) ?_; refine zxa ?_; refine gnt (gc_ret (gx_retct rfl rfl (by conv => lhs; whnf) (ldA Ty.row_38 Ty.sz_38) ?_)); have e : idOf x = dOf Kc 6 [wOut (wBlock x ⟨0, []⟩)] := by rw [idOf, if_pos he, wOut, if_pos he]
  rw [e]; exact fun w' hw => ⟨(), by rw [he]; rfl, hw.z⟩
 ·refine gc_region (zxm ?_); refine gp (r_bool (c := true) zni (by simp [he])) ?_; refine gnt (gc_condT rfl rfl ?_); refine gsr (gp (r_buildA (cs := dc dig0) Ty.zc_38 Ty.arr_38 Ty.sz_5 (by kernel_rfl)) ?_); refine zxm ?_; refine zsA (dc_length _) (dc_one _) ?_; refine zxa ?_; refine gnt (gc_ret (gx_then_ret (gx_retct rfl rfl (by conv => lhs; whnf) (ldA Ty.row_38 Ty.sz_38) ?_))); have e : idOf x = dig0 := by rw [idOf, if_neg he]
  rw [e]; exact ze ()
attribute [local irreducible] dc blkC qcC allE idOf
theorem data18_ok {w : World} {F : Nat → Prop} {xb xc : List Value} {b : Block} {c : QC} (h : stars [] w F) (hx : RdBlock w (fun k => ¬ F k) xb b) (hq : RdQC w (fun k => ¬ F k) xc c) (ob : OkBlock b) (oc : OkQC c) :
    Calls Tryz.prog 9 #[.agg (xb ++ xc).toArray] w (Post w F (fun p : Option Addr × Nat => .tuple #[.slice p.1 (datE b c).length p.2, .int .i64 (madeE b c : Int)]) (fun p => [rowR 5 1 p.1 (datE b c).length p.2 ((datE b c).map B8)])) := by
 have hx' := hx
 have hq' := hq
 obtain ⟨av, nv, kv, rfl, hq1, hq2⟩ := hq'; obtain ⟨q, a1, n1, c1, a2, n2, c2, rfl, hx1, hx2, hx3, hx4, hx5⟩ := hx'; have hl2 := hx1.len
 have il2 := Len.of hl2
 have jl2 := One.of hx1.one
 have hlx := hx.len
 have ilx := Len.of hlx
 have jlx := One.of hx.one
 have hlq := hq.len
 have ilq := Len.of hlq
 have jlq := One.of hq.one
 have occ : OkBlock (certB c) := ⟨(show I64 (0 : Int) by unfold I64; decide), (show I64 (0 : Int) by unfold I64; decide), oc, fun x hx => by cases hx⟩
 have hb1 := bs_len ⟨b, c⟩
 have hb2 := cs_len ⟨b, c⟩
 refine g_enter (env := [(0, .agg (List.toArray ((.int .i64 b.epoch :: .int .i64 b.round :: (dc b.parent ++ (q ++ [.slice a1 n1 c1, .slice a2 n2 c2]))) ++ (.int .i64 c.epoch :: .int .i64 c.round :: (dc c.block ++ [.slice av nv kv])))))]) Tryz.func9 rfl h Tryz.ntmps9 rfl rfl ?_; refine gsr (zbN fun b1 => ?_); refine zxa ?_; refine zxa ?_; refine zxs ?_; refine gp zfa ?_; refine gp (zL (sg := (.int .i64 b.epoch :: .int .i64 b.round :: (dc b.parent ++ (q ++ [.slice a1 n1 c1, .slice a2 n2 c2]))))) ?_; refine zc ?_ (c := fun w1 F1 F2 h1 h2 hd hst => obytes_ok h1 (hx.mv hst.still) ob)
 rintro ⟨a14, c14⟩
 refine zxm ?_; refine gp zex ?_; refine gp zex ?_; refine zxa ?_; refine zxa ?_; refine zxs ?_; refine gp zfa ?_; refine gp (zL (sg := (.int .i64 c.epoch :: .int .i64 c.round :: (dc c.block ++ [.slice av nv kv])))) ?_; refine gp zbu ?_; refine zc ?_ (c := fun w1 F1 F2 h1 h2 hd hst => obytes_ok (x := certB c) h1 (rd_cert (cs := .int .i64 0 :: .int .i64 0 :: (zD ++ (.int .i64 c.epoch :: .int .i64 c.round :: (dc c.block ++ [.slice av nv kv, .slice none 0 0, .slice none 0 0])))) (hq.mv hst.still) (by simp)) occ)
 rintro ⟨a21, c21⟩
 refine zxm ?_; refine gp zex ?_; refine gp zex ?_; refine zxa ?_; refine zxa ?_; refine gnt (gc_seq (gc_seq ?_)); by_cases e1 : (wBlock b ⟨0, []⟩).err = 0
 ·by_cases e2 : (wBlock (certB c) ⟨0, []⟩).err = 0
  ·refine gc_region (zxm ?_); refine gp (r_bool (c := false) zni (by simp [e1])) ?_; refine zxm ?_; refine gq zmv ?_; refine gq (r_bool (c := false) zni (by simp [e2])) ?_; refine gp zpk ?_; refine gnt (gc_condF rfl rfl ?_); refine gc_skip (gx_then (gsr (gp zfa ?_))); refine gp (zL (sg := (.int .i64 b.epoch :: .int .i64 b.round :: (dc b.parent ++ (q ++ [.slice a1 n1 c1, .slice a2 n2 c2]))))) ?_; refine zc (fun _ => ?_) (c := fun w1 F1 F2 h1 h2 hd hst => rid_ok h1 (hx.mv hst.still) ob)
   refine zxm ?_; refine gp zex ?_; refine gp zex ?_; refine zal fun b8 => ?_; refine zsA (dc_length _) (dc_one _) ?_; refine zxa ?_; refine gnt (gc_seq (gc_seq ?_)); by_cases hS1 : c.block = idOf b
   ·by_cases hS2 : c.epoch = b.epoch
    ·by_cases hS3 : c.round = b.round
     ·refine gc_region (gp zfa ?_); refine gp zfa ?_; refine gp (zL (sg := dc c.block) (hg := rc_41 hlx)) ?_; refine gp zL ?_; refine gp (r_bool (c := false) znd (by simp [hS1])) ?_; refine zxm ?_; refine gq zfa ?_; refine gq zfa ?_; refine gq (zl (v := .int .i64 c.epoch) (hv := rc_39 hlx)) ?_; refine gq zfa ?_; refine gq zfa ?_; refine gq (zl (v := .int .i64 b.epoch) (hv := rc_0)) ?_; refine gq (r_bool (c := false) zni (by simp [hS2])) ?_; refine gp zpk ?_; refine zxm ?_; refine gq zfa ?_; refine gq zfa ?_; refine gq (zl (v := .int .i64 c.round) (hv := rc_40 hlx)) ?_; refine gq zfa ?_; refine gq zfa ?_; refine gq (zl (v := .int .i64 b.round) (hv := rc_1)) ?_; refine gq (r_bool (c := false) zni (by simp [hS3])) ?_; refine gp zpk ?_; refine gnt (gc_condF rfl rfl ?_); refine gc_skip (gx_then (gsr ?_)); have he : madeE b c = 0 := by unfold madeE blkW; rw [if_neg (by simpa using e1), if_neg (by simpa using e2), if_pos ⟨hS1, hS2, hS3⟩]
      obtain ⟨B, hB⟩ : ∃ B, B = (wOut (wBlock b ⟨0, []⟩)) := ⟨_, rfl⟩; obtain ⟨C, hC⟩ : ∃ C, C = (wOut (wBlock (certB c) ⟨0, []⟩)) := ⟨_, rfl⟩; rw [← hB, ← hC]; have hBl : B.length ≤ 8485 := by rw [hB, wOut, if_pos e1]; exact hb1
      have hCl : C.length ≤ 8485 := by rw [hC, wOut, if_pos e2]; exact hb2
      have hd : datE b c = dataL B C := by rw [datE, if_pos he, LRec.data, LRec.bs, LRec.cs, hB, hC, wOut, wOut, if_pos e1, if_pos e2]; rfl
      refine zxm ?_; refine gp zln ?_; refine zc (fun b61 => ?_) (c := fun w1 F1 F2 h1 h2 hd hst => refNumber_ok (n := (B.length : Int)) (wd := 2) h1 (by decide) (by decide) (i64_nat (by omega)) (by omega))
      refine zxm ?_; refine zapo (a2 := a14) (c2 := c14) (news := B.map B8) (fun a63 c63 => ?_) (h1 := one_B8 _)
      refine zxa ?_; refine zxs ?_; refine zxm ?_; refine zxm ?_; refine gp zln ?_; refine zc (fun b67 => ?_) (c := fun w1 F1 F2 h1 h2 hd hst => refNumber_ok (n := (C.length : Int)) (wd := 2) h1 (by decide) (by decide) (i64_nat (by omega)) (by omega))
      refine zapo (a2 := some ⟨b67, 0, none⟩) (c2 := 2) (news := (beN (C.length : Int) 2).map B8) (fun a68 c68 => ?_) (h1 := one_B8 _)
      refine zxa ?_; refine zxs ?_; refine zxm ?_; refine zxm ?_; refine zapo (a2 := a21) (c2 := c21) (news := C.map B8) (fun a71 c71 => ?_) (h1 := one_B8 _)
      refine zxa ?_; refine zxa ?_; refine gnt (gc_ret (gx_ret2 rfl (by conv => lhs; whnf) (by conv => lhs; whnf) ?_)); have hlen : (datE b c).length = 2 + B.length + 2 + C.length := by rw [hd, dataL_len]; omega
      have hmp : (datE b c).map B8 = (((beN (B.length : Int) 2).map B8 ++ B.map B8) ++ (beN (C.length : Int) 2).map B8) ++ C.map B8 := by rw [hd, ← data_flat]; simp
      exact fun w' hw => ⟨(a71, c71), by rw [he, hlen]; rfl, by rw [hlen, hmp]; exact hw.z⟩
     ·refine gc_region (gp zfa ?_); refine gp zfa ?_; refine gp (zL (sg := dc c.block) (hg := rc_41 hlx)) ?_; refine gp zL ?_; refine gp (r_bool (c := false) znd (by simp [hS1])) ?_; refine zxm ?_; refine gq zfa ?_; refine gq zfa ?_; refine gq (zl (v := .int .i64 c.epoch) (hv := rc_39 hlx)) ?_; refine gq zfa ?_; refine gq zfa ?_; refine gq (zl (v := .int .i64 b.epoch) (hv := rc_0)) ?_; refine gq (r_bool (c := false) zni (by simp [hS2])) ?_; refine gp zpk ?_; refine zxm ?_; refine gq zfa ?_; refine gq zfa ?_; refine gq (zl (v := .int .i64 c.round) (hv := rc_40 hlx)) ?_; refine gq zfa ?_; refine gq zfa ?_; refine gq (zl (v := .int .i64 b.round) (hv := rc_1)) ?_; refine gq (r_bool (c := true) zni (by simp [hS3])) ?_; refine gp zpk ?_; refine gnt (gc_condT rfl rfl ?_); refine gsr (zxa ?_); refine zxa ?_; refine gnt (gc_ret (gx_then_ret (gx_ret2 rfl (by conv => lhs; whnf) (by conv => lhs; whnf) ?_))); have he : madeE b c = 12 := by unfold madeE blkW; rw [if_neg (by simpa using e1), if_neg (by simpa using e2), if_neg (fun h => by simp_all)]
      exact fun w' hw => ⟨(none, 0), by rw [he, datE, if_neg (by rw [he]; decide)]; rfl, by rw [datE, if_neg (by rw [he]; decide)]; exact hw.rowNil.z⟩
    ·refine gc_region (gp zfa ?_); refine gp zfa ?_; refine gp (zL (sg := dc c.block) (hg := rc_41 hlx)) ?_; refine gp zL ?_; refine gp (r_bool (c := false) znd (by simp [hS1])) ?_; refine zxm ?_; refine gq zfa ?_; refine gq zfa ?_; refine gq (zl (v := .int .i64 c.epoch) (hv := rc_39 hlx)) ?_; refine gq zfa ?_; refine gq zfa ?_; refine gq (zl (v := .int .i64 b.epoch) (hv := rc_0)) ?_; refine gq (r_bool (c := true) zni (by simp [hS2])) ?_; refine gp zpk ?_; refine zxm ?_; refine gn ?_; refine gn ?_; refine gn ?_; refine gn ?_; refine gn ?_; refine gn ?_; refine gn ?_; refine gp zpk ?_; refine gnt (gc_condT rfl rfl ?_); refine gsr (zxa ?_); refine zxa ?_; refine gnt (gc_ret (gx_then_ret (gx_ret2 rfl (by conv => lhs; whnf) (by conv => lhs; whnf) ?_))); have he : madeE b c = 12 := by unfold madeE blkW; rw [if_neg (by simpa using e1), if_neg (by simpa using e2), if_neg (fun h => by simp_all)]
     exact fun w' hw => ⟨(none, 0), by rw [he, datE, if_neg (by rw [he]; decide)]; rfl, by rw [datE, if_neg (by rw [he]; decide)]; exact hw.rowNil.z⟩
   ·refine gc_region (gp zfa ?_); refine gp zfa ?_; refine gp (zL (sg := dc c.block) (hg := rc_41 hlx)) ?_; refine gp zL ?_; refine gp (r_bool (c := true) znd (by simp [hS1])) ?_; refine zxm ?_; refine gn ?_; refine gn ?_; refine gn ?_; refine gn ?_; refine gn ?_; refine gn ?_; refine gn ?_; refine gp zpk ?_; refine zxm ?_; refine gn ?_; refine gn ?_; refine gn ?_; refine gn ?_; refine gn ?_; refine gn ?_; refine gn ?_; refine gp zpk ?_; refine gnt (gc_condT rfl rfl ?_); refine gsr (zxa ?_); refine zxa ?_; refine gnt (gc_ret (gx_then_ret (gx_ret2 rfl (by conv => lhs; whnf) (by conv => lhs; whnf) ?_))); have he : madeE b c = 12 := by unfold madeE blkW; rw [if_neg (by simpa using e1), if_neg (by simpa using e2), if_neg (fun h => by simp_all)]
    exact fun w' hw => ⟨(none, 0), by rw [he, datE, if_neg (by rw [he]; decide)]; rfl, by rw [datE, if_neg (by rw [he]; decide)]; exact hw.rowNil.z⟩
  ·refine gc_region (zxm ?_); refine gp (r_bool (c := false) zni (by simp [e1])) ?_; refine zxm ?_; refine gq zmv ?_; refine gq (r_bool (c := true) zni (by simp [e2])) ?_; refine gp zpk ?_; refine gnt (gc_condT rfl rfl ?_); refine gsr (zxa ?_); refine zxa ?_; refine gnt (gc_ret (gx_then_ret (gx_ret2 rfl (by conv => lhs; whnf) (by conv => lhs; whnf) ?_))); have he : madeE b c = 4 := by unfold madeE blkW; rw [if_neg (by simpa using e1), if_pos e2]
   exact fun w' hw => ⟨(none, 0), by rw [he, datE, if_neg (by rw [he]; decide)]; rfl, by rw [datE, if_neg (by rw [he]; decide)]; exact hw.rowNil.z⟩
 ·refine gc_region (zxm ?_); refine gp (r_bool (c := true) zni (by simp [e1])) ?_; refine zxm ?_; refine gn ?_; refine gn ?_; refine gp zpk ?_; refine gnt (gc_condT rfl rfl ?_); refine gsr (zxa ?_); refine zxa ?_; refine gnt (gc_ret (gx_then_ret (gx_ret2 rfl (by conv => lhs; whnf) (by conv => lhs; whnf) ?_))); have he : madeE b c = 4 := by unfold madeE blkW; rw [if_pos e1]
  exact fun w' hw => ⟨(none, 0), by rw [he, datE, if_neg (by rw [he]; decide)]; rfl, by rw [datE, if_neg (by rw [he]; decide)]; exact hw.rowNil.z⟩
end
section
def cpR (p l : List UInt8) (m i : Nat) : List Value := ((p ++ l.take i) ++ List.replicate (m - p.length - i) 0).map B8
theorem cpR_len {p l : List UInt8} {m i : Nat} (hi : i ≤ l.length) (hm : p.length + i ≤ m) : (cpR p l m i).length = m := by
  simp only [cpR, List.length_map, List.length_append, List.length_take, List.length_replicate]; omega
theorem cpR_store {p l : List UInt8} {m i o : Nat} (hi : i < l.length) (hm : p.length + i < m) (ho : o = p.length + i) : updL (cpR p l m i) o [B8 (l.getD i 0)] = cpR p l m (i + 1) := by
  subst ho
  show updL (((p ++ l.take i) ++ List.replicate (m - p.length - i) 0).map B8) (p.length + i) ([l.getD i 0].map B8) = _
  rw [updL_updY]
  have hl : (p ++ l.take i).length = p.length + i := by rw [List.length_append, List.length_take]; omega
  obtain ⟨r, hr⟩ : ∃ r, m - p.length - i = r + 1 := ⟨m - p.length - i - 1, by omega⟩
  have ht : l.take (i + 1) = l.take i ++ [l.getD i 0] := by rw [List.take_add_one, List.getElem?_eq_getElem hi]; simp [List.getD, hi]
  unfold updY cpR
  rw [List.take_left' hl, List.drop_append, List.drop_eq_nil_of_le (by rw [hl]; simp), hl, hr, ht, show m - p.length - (i + 1) = r by omega]
  simp [List.replicate_succ]
theorem cpR_zero (l : List UInt8) : sc sec0 = cpR [] l 64 0 := by
  show _ = (([] ++ l.take 0) ++ List.replicate 64 0).map B8
  rw [List.take_zero]; rfl
theorem cpR_next {p l l' : List UInt8} {m n : Nat} (hn : n = l.length) : cpR p l m n = cpR (p ++ l) l' m 0 := by
  subst hn
  simp only [cpR, List.take_length, List.take_zero, List.append_nil, List.length_append, Nat.sub_zero, Nat.sub_sub]
theorem cpR_head (k : Nat) (d : List UInt8) : cpR (firstL k d) (dOf Kc 10 [firstL k d, d]).l 64 16 = sc (headL k d) := by
  have hd := (dOf Kc 10 [firstL k d, d]).h
  have hf := firstL_len k d
  simp only [cpR, sc, headL]
  rw [List.take_of_length_le (by omega), hf]
  simp
theorem cpR_sec {d : List UInt8} {i j : Nat} (hi : i = min 64 (d.length - 64 * j)) : cpR [] (d.drop (64 * j)) 64 i = sc (secData d j) := by
  have hl : (d.drop (64 * j)).length = d.length - 64 * j := List.length_drop
  have e : (d.drop (64 * j)).take i = (d.drop (64 * j)).take 64 := by
    rw [hi, ← hl, List.take_eq_take_min (i := 64)]
  have e2 : ((d.drop (64 * j)).take 64).length = i := by rw [List.length_take, hl]; omega
  simp only [cpR, sc, secData]
  rw [e, e2]; simp
theorem dc_at {d : Dig} {i : Nat} (h : i < 16) : (dc d)[(i : Int).toNat * 1]? = some (B8 (d.l.getD i 0)) := by
  have hd := d.h
  simp [dc, List.getD, show i < d.l.length by omega]
def secsP (k : Nat) (d : List UInt8) (j : Nat) : List Sec := headL k d :: (List.range j).map (secData d)
def scs (l : List Sec) : List Value := (l.map sc).flatten
theorem scs_app (a b : List Sec) : scs (a ++ b) = scs a ++ scs b := by simp [scs]
theorem secsP_succ (k : Nat) (d : List UInt8) (j : Nat) : secsP k d (j + 1) = secsP k d j ++ [secData d j] := by simp [secsP, List.range_succ]
theorem scs_succ (k : Nat) (d : List UInt8) (j : Nat) : scs (secsP k d (j + 1)) = scs (secsP k d j) ++ sc (secData d j) := by rw [secsP_succ, scs_app]; simp [scs]
theorem scs_zero (k : Nat) (d : List UInt8) : scs (secsP k d 0) = sc (headL k d) := by simp [scs, secsP]
attribute [local irreducible] Gl Gc Gx Gs Runs Wt
attribute [local irreducible] dc blkC qcC allE idOf
theorem sectors18_ok {w : World} {F : Nat → Prop} {a : Option Addr} {n cc k : Nat} {d : List UInt8} (h : stars [] w F) (hx : RdRow w (fun k => ¬ F k) 1 a n (d.map B8)) (hk : k < 4294967296) (hd0 : d.length ≤ 16974) :
    Calls Tryz.prog 11 #[.int .i64 (k : Int), .slice a n cc] w (Post w F (fun p : Option Addr × Nat => .slice p.1 (1 + nsec d.length) p.2) (fun p => [rowR 54 64 p.1 (1 + nsec d.length) p.2 (scs (secsP k d (nsec d.length)))])) := by
 have hn : n = d.length := by have := hx.1; simp at this; omega
 subst hn; have h8 := firstL_len k d
 have hdh := (dOf Kc 10 [firstL k d, d]).h
 have hns : d.length ≤ 64 * nsec d.length ∧ 64 * nsec d.length < d.length + 64 := by unfold nsec; omega
 refine g_enter (env := [(0, .int .i64 (k : Int)), (1, .slice a d.length cc)]) Tryz.func11 rfl h Tryz.ntmps11 rfl rfl ?_; refine gsr (zxa ?_); refine zxs ?_; refine gp (zba (cs := sc sec0) (by exact rfl)) ?_; refine zal fun b5 => ?_; refine zsA (new := sc (sec0)) (sc_length _) (sc_one _) ?_; refine gl_eqc (cs' := cpR [] (firstL k d) 64 0) (by repeat (first | exact Pick.here | apply Pick.there)) (cpR_zero _) ?_; refine zxs ?_; refine zxm ?_; refine gp zln ?_; refine zc (fun b19 => ?_) (c := fun w1 F1 F2 h1 h2 hd hst => refNumber_ok (n := (d.length : Int)) (wd := 4) h1 (by decide) (by decide) (i64_nat (by omega)) (by omega))
 refine zxm ?_; refine zc (fun b21 => ?_) (c := fun w1 F1 F2 h1 h2 hd hst => refNumber_ok (n := (k : Int)) (wd := 4) h1 (by decide) (by decide) (i64_nat (by omega)) (by omega))
 refine zapo (a2 := some ⟨b21, 0, none⟩) (c2 := 4) (news := (beN (k : Int) 4).map B8) (fun a22 c22 => ?_) (h1 := one_B8 _)
 rw [← List.map_append, show beN (d.length : Int) 4 ++ beN (k : Int) 4 = firstL k d from rfl]; refine gl_fact (fun w' hw => St.rowAt (hw.sel (M := [rowR 5 1 a22 (4 + 4) c22 ((firstL k d).map B8)]) (by repeat (first | exact Sel.nil | (apply Sel.cons; · (repeat (first | exact Pick.here | apply Pick.there)))))) .here (by omega)) (fun hra => ?_)
 obtain ⟨hnc, ga, oa, ha⟩ := hra; subst ha; refine zxa ?_; refine gnt (gc_seq (gsr (zxm ?_))); refine gp zln ?_; refine zxm ?_; refine gnt (gc_block (gc_loop (α := Nat) (fun i => [pureR (i ≤ 8), blk b5 54 (cpR [] (firstL k d) 64 i), rowR 5 1 (some ⟨ga, oa, none⟩) (4 + 4) c22 ((firstL k d).map B8)]) (fun i => [(25, .int .i64 (i : Int))]) [7, 8, 26, 27, 28, 29, 30, 31, 32, 33] (fun i => 8 - i) 0 ?_ ?_ ?_))
 ·refine env_start (by kernel_rfl)
 ·exact zlp (Nat.zero_le _)
 ·intro i u; refine gc_pureR (fun hi => ?_)
  replace hi : i ≤ 8 := hi
  refine gsr (gp zlt ?_); refine gnt (gc_seq (gif rfl (fun hc26 => ?_) (fun hc26 => ?_)))
  ·try simp only at hc26
   have hi' : i < 8 := by omega
   refine gc_skip (gx_then (gc_seq (gc_block (gsr (zxm ?_))))); refine gp (r_val (v' := .pointer (some ⟨ga, oa + i, none⟩)) zia (by simp)) ?_; refine gp (r_ld1r (v := B8 ((firstL k d).getD i 0)) rfl Ty.row_5 (by repeat (first | exact Pick.here | apply Pick.there)) (by simp [List.getD, show i < (firstL k d).length by omega])) ?_; refine zxa ?_; refine zxa ?_; refine gnt (gc_region (zxm ?_)); refine zxm ?_; refine gp zib ?_; refine gl_store1 (wt0 rfl) rfl rfl rfl Ty.sz_5 (by repeat (first | exact Pick.here | apply Pick.there)) (by rw [cpR_len (by omega) (by simp; omega)]; omega) (cpR_store (by omega) (by simp; omega) (by simp)) ?_; refine gl_nil (gx_block_normal (gx_then (gc_region (gp zad ?_)))); refine zxm ?_; refine gl_nil (zrd (i + 1) ?_ ?_)
   ·show 8 - (i + 1) < 8 - i
    omega
   ·exact zlp (show i + 1 ≤ 8 by omega)
  ·try simp only at hc26
   have hi' : i = 8 := by omega
   subst hi'; refine gc_exit ?_; refine gx_then_exit ?_; refine gx_round_exit ?_; refine gx_block_hit ?_; refine gx_then (gsr (zxm ?_)); refine gp (zso (b := (firstL k d))) ?_; refine zxm ?_; refine gp (r_str rfl Ty.sl_49 Ty.un_5 (by kernel_rfl) (fun w hw => hw.rdOld hx)) ?_; refine gl_bsls (vs := [.string (str ((firstL k d))), .string (str (d))]) (wt0 rfl) Ty.sl_141 Ty.sz_9 Ty.zc_9 rfl rfl (all_cons' rfl (all_cons' rfl all_nil')) rfl rfl rfl ?_; intro b38; refine zc (fun _ => ?_) (c := fun w1 F1 F2 h1 h2 hd hst => of2_ok (dom := 10) (parts := [(firstL k d), d]) h1 (.of1 (rd_row (xs := [.string (str ((firstL k d))), .string (str (d))]) h2 hd (by repeat (first | exact Pick.here | apply Pick.there))) (.cons rfl (.cons rfl .nil))) (by simp only [pcost, List.map_cons, List.map_nil, List.sum_cons, List.sum_nil]; omega))
   refine zal fun b9 => ?_; refine zsA (dc_length _) (dc_one _) ?_; refine gnt (gc_seq (gsr (gp (zLa (cs := dc (dOf Kc 10 [firstL k d, d]))) ?_))); refine zxm ?_; refine gnt (gc_block (gc_loop (α := Nat) (fun i => [pureR (i ≤ 16), blk b5 54 (cpR (firstL k d) (dOf Kc 10 [firstL k d, d]).l 64 i)]) (fun i => [(41, .int .i64 (i : Int))]) [10, 11, 42, 43, 44, 45, 46, 47, 48, 49] (fun i => 16 - i) 0 ?_ ?_ ?_))
   ·refine env_start (by kernel_rfl)
   ·rw [cpR_next (l' := (dOf Kc 10 [firstL k d, d]).l) h8.symm, List.nil_append]; exact zlp (Nat.zero_le _)
   ·intro i u; refine gc_pureR (fun hi => ?_)
    replace hi : i ≤ 16 := hi
    refine gsr (gp zlt ?_); refine gnt (gc_seq (gif rfl (fun hc42 => ?_) (fun hc42 => ?_)))
    ·try simp only at hc42
     have hi' : i < 16 := by omega
     refine gc_skip (gx_then (gc_seq (gc_block (gsr (zxm ?_))))); refine gp (r_index1 (v := B8 ((dOf Kc 10 [firstL k d, d]).l.getD i 0)) rfl rfl Ty.arr_38 Ty.sz_5 Ty.row_5 (by omega) (by omega) (dc_at hi')) ?_; refine zxa ?_; refine zxa ?_; refine gnt (gc_region (zxm ?_)); refine gp (r_int (j := ((8 + i : Nat) : Int)) zad (by omega)) ?_; refine zxm ?_; refine gp (zib (m := 64)) ?_; refine gl_store1 (wt0 rfl) rfl rfl rfl Ty.sz_5 (by repeat (first | exact Pick.here | apply Pick.there)) (by rw [cpR_len (by omega) (by omega)]; omega) (cpR_store (by omega) (by omega) (by omega)) ?_; refine gl_nil (gx_block_normal (gx_then (gc_region (gp zad ?_)))); refine zxm ?_; refine gl_nil (zrd (i + 1) ?_ ?_)
     ·show 16 - (i + 1) < 16 - i
      omega
     ·exact zlp (show i + 1 ≤ 16 by omega)
    ·try simp only at hc42
     have hi' : i = 16 := by omega
     subst hi'; rw [cpR_head]; refine gc_exit ?_; refine gx_then_exit ?_; refine gx_round_exit ?_; refine gx_block_hit ?_; refine gx_then (gsr (gp (zLa (cs := sc (headL k d))) ?_)); refine zeN fun b51 => ?_; refine zxa ?_; refine gnt (gc_seq (gsr (zxa ?_))); refine gnt (gc_block (gc_loop (α := Nat × Option Addr × Nat) (fun y => [pureR (y.1 ≤ nsec d.length), rowR 54 64 y.2.1 (1 + y.1) y.2.2 (scs (secsP k d y.1))]) (fun y => [(13, .int .i64 ((64 * y.1 : Nat) : Int)), (12, .slice y.2.1 (1 + y.1) y.2.2)]) [14, 15, 52, 53, 54, 55, 56, 57, 58, 59, 60, 61, 62, 63, 64, 65, 66, 67, 68, 69, 70, 71, 72, 73, 74, 75, 76, 77, 78, 79, 80, 81, 82] (fun y => nsec d.length - y.1) (0, some ⟨b51, 0, none⟩, 1) ?_ ?_ ?_))
     ·refine env_start (by kernel_rfl)
     ·rw [← scs_zero k d]; exact zlp (Nat.zero_le _)
     ·intro y u; obtain ⟨j, a, c⟩ := y; refine gc_pureR (fun hj => ?_)
      replace hj : j ≤ nsec d.length := hj
      refine gc_seq (gsr (zxm ?_)); refine zxm ?_; refine gp zln ?_; refine gp zlt ?_; refine gnt (gif rfl (fun hc55 => ?_) (fun hc55 => ?_))
      ·try simp only at hc55
       have hj' : j < nsec d.length := by omega
       refine gc_skip (gx_then (gc_seq (gc_block (gsr (gp (zba (cs := sc sec0) (by exact rfl)) ?_))))); refine zal fun b14 => ?_; refine zsA (new := sc (sec0)) (sc_length _) (sc_one _) ?_; refine gl_eqc (cs' := cpR [] (d.drop (64 * j)) 64 0) (by repeat (first | exact Pick.here | apply Pick.there)) (cpR_zero _) ?_; refine gnt (gc_seq (gsr (zxa ?_))); refine gnt (gc_block (gc_loop (α := Nat) (fun i => [pureR (i ≤ 64 ∧ 64 * j + i ≤ d.length), blk b14 54 (cpR [] (d.drop (64 * j)) 64 i), rowR 54 64 a (1 + j) c (scs (secsP k d j))]) (fun i => [(15, .int .i64 (i : Int))]) [59, 60, 61, 62, 63, 64, 65, 66, 67, 68, 69, 70, 71, 72, 73, 74, 75, 76, 77, 78] (fun i => 64 - i) 0 ?_ ?_ ?_))
       ·refine env_start (by kernel_rfl)
       ·exact zlp (show 0 ≤ 64 ∧ 64 * j + 0 ≤ d.length by omega)
       ·intro i u; refine gc_pureR (fun hi => ?_)
        replace hi : i ≤ 64 ∧ 64 * j + i ≤ d.length := hi
        refine gc_seq (gc_seq ?_); by_cases hS : i < 64
        ·refine gc_region (zxm ?_); refine gp (r_bool (c := true) zlt (decide_eq_true (by omega))) ?_; refine zxm ?_; refine gq zmv ?_; refine gq zmv ?_; refine gq (r_int (j := ((64 * j + i : Nat) : Int)) zad (by omega)) ?_; refine gq zmv ?_; refine gq zln ?_; refine gq zlt ?_; refine gp zpk ?_; refine gnt (gif rfl (fun hc68 => ?_) (fun hc68 => ?_))
         ·try simp only at hc68
          have hi' : i < 64 ∧ 64 * j + i < d.length := by omega
          have hdl : (d.drop (64 * j)).length = d.length - 64 * j := List.length_drop
          have hgd : (d.drop (64 * j)).getD i 0 = d.getD (64 * j + i) 0 := by simp [List.getD, List.getElem?_drop]
          obtain ⟨gx, ox, hax, hAx, hcx⟩ := rd_byte hx hi'.2; subst hax; refine gc_skip (gx_then (gc_seq (gc_block (gc_region (zxm ?_))))); refine zxm ?_; refine zxm ?_; refine zxm ?_; refine gp (r_int (j := ((64 * j + i : Nat) : Int)) zad (by omega)) ?_; refine gp (r_val (v' := .pointer (some ⟨gx, ox + (64 * j + i), none⟩)) zia (by simp)) ?_; refine gp (r_ld1o (v := B8 ((d.drop (64 * j)).getD i 0)) rfl Ty.row_5 (by rw [hgd]; simpa using hcx) hAx) ?_; refine gp (zib (m := 64)) ?_; refine gl_store1 (wt0 rfl) rfl rfl rfl Ty.sz_5 (by repeat (first | exact Pick.here | apply Pick.there)) (by rw [cpR_len (by omega) (by simp; omega)]; omega) (cpR_store (by omega) (by simp; omega) (by simp)) ?_; refine gl_nil (gx_block_normal (gx_then (gc_region (zxm ?_)))); refine gp zad ?_; refine zxa ?_; refine gl_nil (zrd (i + 1) ?_ ?_)
          ·show 64 - (i + 1) < 64 - i
           omega
          ·exact zlp (show i + 1 ≤ 64 ∧ 64 * j + (i + 1) ≤ d.length by omega)
         ·refine gc_exit ?_; refine gx_then_exit ?_; refine gx_round_exit ?_; refine gx_block_hit ?_; refine gx_then (gc_region ?_); have hm' : i = min 64 (d.length - 64 * j) := by omega
          rw [cpR_sec hm']; refine zxm ?_; refine gp (zLa (cs := sc (secData d j))) ?_; refine zeN fun b81 => ?_; refine zapo (a2 := some ⟨b81, 0, none⟩) (c2 := 1) (news := sc (secData d j)) (fun a82 c82 => ?_) (h1 := sc_one _)
          rw [show 1 + j + 1 = 1 + (j + 1) by omega]; refine zxa ?_; refine gl_nil (gx_block_normal (gx_then (gc_region (zxm ?_)))); refine gp (r_int (j := ((64 * (j + 1) : Nat) : Int)) zad (by omega)) ?_; refine zxa ?_; refine gl_nil (zrd ((j + 1, a82, c82)) ?_ ?_)
          ·show nsec d.length - (j + 1) < nsec d.length - j
           omega
          ·rw [← scs_succ]; exact zlp (show j + 1 ≤ nsec d.length by omega)
        ·refine gc_region (zxm ?_); refine gp (r_bool (c := false) zlt (decide_eq_false (by omega))) ?_; refine zxm ?_; refine gn ?_; refine gn ?_; refine gn ?_; refine gn ?_; refine gn ?_; refine gn ?_; refine gp zpk ?_; refine gnt (gc_condF rfl rfl ?_); refine gc_exit ?_; refine gx_then_exit ?_; refine gx_round_exit ?_; refine gx_block_hit ?_; refine gx_then (gc_region ?_); have hm' : i = min 64 (d.length - 64 * j) := by omega
         rw [cpR_sec hm']; refine zxm ?_; refine gp (zLa (cs := sc (secData d j))) ?_; refine zeN fun b81 => ?_; refine zapo (a2 := some ⟨b81, 0, none⟩) (c2 := 1) (news := sc (secData d j)) (fun a82 c82 => ?_) (h1 := sc_one _)
         rw [show 1 + j + 1 = 1 + (j + 1) by omega]; refine zxa ?_; refine gl_nil (gx_block_normal (gx_then (gc_region (zxm ?_)))); refine gp (r_int (j := ((64 * (j + 1) : Nat) : Int)) zad (by omega)) ?_; refine zxa ?_; refine gl_nil (zrd ((j + 1, a82, c82)) ?_ ?_)
         ·show nsec d.length - (j + 1) < nsec d.length - j
          omega
         ·rw [← scs_succ]; exact zlp (show j + 1 ≤ nsec d.length by omega)
      ·try simp only at hc55
       have hj' : j = nsec d.length := by omega
       subst hj'; refine gc_exit ?_; refine gx_then_exit ?_; refine gx_round_exit ?_; refine gx_block_hit ?_; refine gx_then (gsr (zxm ?_)); refine zxa ?_; refine gnt (gc_ret (gx_ret1 rfl (by conv => lhs; whnf) ?_)); exact fun w' hw => ⟨(a, c), rfl, hw.z⟩
end
section
theorem valN_step {l : List UInt8} {k : Nat} (h : k < l.length) : valN (l.take (k + 1)) = valN (l.take k) * 256 + (l.getD k 0).toNat := by
  rw [take_snoc h]; unfold valN; rw [List.foldl_append]; rfl
structure RS where
  pos : Nat
  err : Nat
def RS.st (B : List UInt8) (r : RS) : RSt := if r.err = 0 then .ok (B.drop r.pos) else .error r.err
def InR (g : Nat) (a : Option Addr) (c : Nat) (B : List UInt8) (σ : RSt) : Res := exR fun r : RS => allR [pureR (r.st B = σ ∧ r.pos ≤ B.length), blk g 111 [.slice a B.length c, .int .i64 (r.pos : Int), .int .i64 (r.err : Int)]]
theorem st_err {B : List UInt8} {r : RS} {σ : RSt} (h : r.st B = σ) : errOf σ = r.err := by
  subst h; unfold RS.st; split
  · rename_i he; exact he.symm
  · rfl
section
variable {g c : Nat} {a : Option Addr} {B : List UInt8} {σ : RSt} {w : World} {F : Nat → Prop} {L : List Res}
theorem in_open (h : stars (InR g a c B σ :: L) w F) : ∃ r : RS, r.st B = σ ∧ r.pos ≤ B.length ∧ stars (blk g 111 [.slice a B.length c, .int .i64 (r.pos : Int), .int .i64 (r.err : Int)] :: L) w F := by
  obtain ⟨r, h⟩ := stars_ex h
  obtain ⟨⟨h1, h2⟩, h3⟩ := stars_pure (stars_all h)
  exact ⟨r, h1, h2, h3⟩
theorem in_mk {r : RS} {i k : Int} (h : stars (blk g 111 [.slice a B.length c, .int .i64 i, .int .i64 k] :: L) w F) (hi : i = (r.pos : Int)) (hk : k = (r.err : Int)) (hs : r.st B = σ) (hp : r.pos ≤ B.length) : stars (InR g a c B σ :: L) w F := by
  subst hi; subst hk
  exact stars_ex_mk r (stars_all_mk (stars_pure_mk ⟨hs, hp⟩ h))
theorem St.inr {w0 : World} {F0 : Nat → Prop} (r : RS) {i k : Int} (h : St w0 F0 (blk g 111 [.slice a B.length c, .int .i64 i, .int .i64 k] :: L) w) (hi : i = (r.pos : Int)) (hk : k = (r.err : Int)) (hs : r.st B = σ) (hp : r.pos ≤ B.length) : St w0 F0 (InR g a c B σ :: L) w :=
  h.mapL fun F hF => in_mk hF hi hk hs hp
theorem r_inerr {P : Program} {w0 : World} {F0 : Nat → Prop} {n : Fm} {env : Env} {d : Option Tmp} {ty : TypeId} {pos : String} {af : Array Edge} {gd : Option (Nat × Bool)} {x : Operand} {T : Nat} {L' : List Res} (hx : ev n env x = .pointer (some ⟨g, 2, none⟩)) (hr : rowT P T = some false) (hp : Pick L (InR g a c B σ) L') :
    Runs P w0 F0 L n env ⟨d, .load T x, ty, pos, af, gd⟩ (.int .i64 (errOf σ : Int)) := r_load hx fun w hs => run_loadVar_one hr (by
  obtain ⟨F, hF, _⟩ := hs
  obtain ⟨r, h1, h2, h3⟩ := in_open (hp.stars hF)
  obtain ⟨F1, F2, hb, _⟩ := h3
  rw [cell_blk hb, st_err h1]; rfl)
end
theorem take_short {n : Nat} {b : List UInt8} (h : b.length < n) : pTake n b = .error 2 := by unfold pTake; rw [if_pos h]
theorem take_long {n : Nat} {b : List UInt8} (h : ¬ b.length < n) : pTake n b = .ok (b.take n, b.drop n) := by unfold pTake; rw [if_neg h]
theorem num_short {n : Nat} {b : List UInt8} (h : b.length < n) : pNum n b = .error 2 := by unfold pNum; exact pBind_err (take_short h)
theorem num_long {n : Nat} {b : List UInt8} (h : ¬ b.length < n) : pNum n b = .ok ((valN (b.take n) : Int), b.drop n) := by unfold pNum; rw [pBind_eq (take_long h)]; rfl
def mSt (most : Nat) (σ : RSt) (x : Nat) : RSt := if errOf (rstep (pNum 1) σ) = 0 ∧ most < x then failE 1 (rstep (pNum 1) σ) else rstep (pNum 1) σ
attribute [local irreducible] Gl Gc Gx Gs Runs Wt
theorem ofail_ok {w : World} {F : Nat → Prop} {g : Nat} {v u : Value} {k e : Int} (h : stars [blk g 111 [v, u, .int .i64 k]] w F) :
    Calls Tryz.prog 70 #[.pointer (some ⟨g, 0, none⟩), .int .i64 e] w (Post w F (fun _ : Unit => .tuple #[]) (fun _ => [blk g 111 [v, u, .int .i64 (if k = 0 then e else k)]])) := by
 refine g_enter (env := [(0, .pointer (some ⟨g, 0, none⟩)), (1, .int .i64 e)]) Tryz.func70 rfl h Tryz.ntmps70 rfl rfl ?_; refine gc_seq ?_; by_cases he : k = 0
 ·refine gc_region (zxm ?_); refine gp znc ?_; refine gp zfa ?_; refine gp zl ?_; refine gp (r_bool (c := true) zei (decide_eq_true he)) ?_; refine gnt (gc_condT rfl rfl ?_); refine gc_region (zxm ?_); refine zxm ?_; refine gp znc ?_; refine gp zfa ?_; refine zs1 ?_; refine gl_nil (gx_ret0' rfl ?_); rw [if_pos he]; exact ze ()
 ·refine gc_region (zxm ?_); refine gp znc ?_; refine gp zfa ?_; refine gp zl ?_; refine gp (r_bool (c := false) zei (decide_eq_false he)) ?_; refine gnt (gc_condF rfl rfl ?_); refine gc_skip (gx_ret0' rfl ?_); rw [if_neg he]; exact ze ()
theorem ofailIn_ok {w : World} {F : Nat → Prop} {g c : Nat} {a : Option Addr} {B : List UInt8} {σ : RSt} (h : stars [InR g a c B σ] w F) {e : Nat} (hfe : ¬ e = 0) :
    Calls Tryz.prog 70 #[.pointer (some ⟨g, 0, none⟩), .int .i64 (e : Int)] w (Post w F (fun _ : Unit => .tuple #[]) (fun _ => [InR g a c B (failE e σ)])) := by
 obtain ⟨r, hs, hat, h'⟩ := in_open h; refine g_enter (env := [(0, .pointer (some ⟨g, 0, none⟩)), (1, .int .i64 (e : Int))]) Tryz.func70 rfl h' Tryz.ntmps70 rfl rfl ?_; refine gc_seq ?_; by_cases he : r.err = 0
 ·refine gc_region (zxm ?_); refine gp znc ?_; refine gp zfa ?_; refine gp zl ?_; refine gp (r_bool (c := true) zei (decide_eq_true (by omega))) ?_; refine gnt (gc_condT rfl rfl ?_); refine gc_region (zxm ?_); refine zxm ?_; refine gp znc ?_; refine gp zfa ?_; refine zs1 ?_; refine gl_nil (gx_ret0' rfl ?_); have e1 : σ = .ok (B.drop r.pos) := by rw [← hs, RS.st, if_pos he]
  subst e1; exact fun w' hw => ⟨(), rfl, St.inr ⟨r.pos, e⟩ (hw.z) rfl rfl (by rw [RS.st, if_neg hfe]; rfl) hat⟩
 ·refine gc_region (zxm ?_); refine gp znc ?_; refine gp zfa ?_; refine gp zl ?_; refine gp (r_bool (c := false) zei (decide_eq_false (by omega))) ?_; refine gnt (gc_condF rfl rfl ?_); refine gc_skip (gx_ret0' rfl ?_); have e1 : σ = .error r.err := by rw [← hs, RS.st, if_neg he]
  subst e1; exact fun w' hw => ⟨(), rfl, St.inr r (hw.z) rfl rfl (by rw [RS.st, if_neg he]; rfl) hat⟩
theorem oleft_ok {w : World} {F : Nat → Prop} {g c n p : Nat} {a : Option Addr} {k : Int} (h : stars [blk g 111 [.slice a n c, .int .i64 (p : Int), .int .i64 k]] w F) (hp : p ≤ n) (hn : n ≤ 40000) :
    Calls Tryz.prog 75 #[.pointer (some ⟨g, 0, none⟩)] w (Post w F (fun _ : Unit => .int .i64 ((n - p : Nat) : Int)) (fun _ => [blk g 111 [.slice a n c, .int .i64 (p : Int), .int .i64 k]])) := by
 refine g_enter (env := [(0, .pointer (some ⟨g, 0, none⟩))]) Tryz.func75 rfl h Tryz.ntmps75 rfl rfl ?_; refine gsr (zxa ?_); refine gnt (gc_seq (gc_regionS (by kernel_rfl) (by kernel_rfl) ?_)); refine sp zmv ?_; refine sp znc ?_; refine sp zfa ?_; refine sp zl ?_; refine sp zln ?_; refine sp zmv ?_; refine sp znc ?_; refine sp zfa ?_; refine sp zl ?_; refine sp (r_int (j := ((n - p : Nat) : Int)) zsb (by omega)) ?_; refine sp zas ?_; refine gs_nil ?_; refine gx_then (gc_ret (gx_ret1 rfl (by conv => lhs; whnf) ?_)); exact ze ()
theorem inum_ok {w : World} {F : Nat → Prop} {g c : Nat} {a : Option Addr} {B : List UInt8} {σ : RSt} (h : stars [InR g a c B σ] w F) (hB : RdRow w (fun k => ¬ F k) 1 a B.length (B.map B8)) (hc : B.length ≤ c) (hl : B.length ≤ 40000) {wd : Nat} (h1 : 1 ≤ wd) (h7 : wd ≤ 6) :
    Calls Tryz.prog 69 #[.pointer (some ⟨g, 0, none⟩), .int .i64 (wd : Int)] w (Post w F (fun x : Nat => .int .i64 (x : Int)) (fun x => [pureR (Ag (pNum wd) σ (x : Int) ∧ x < 256 ^ wd), InR g a c B (rstep (pNum wd) σ)])) := by
 obtain ⟨r, hs, hat, h'⟩ := in_open h; have hpow : 0 < 256 ^ wd := Nat.pow_pos (by decide)
 refine g_enter (env := [(0, .pointer (some ⟨g, 0, none⟩)), (1, .int .i64 (wd : Int))]) Tryz.func69 rfl h' Tryz.ntmps69 rfl rfl ?_; refine gsr (zxa ?_); refine gnt (gc_seq (gsr (zxm ?_))); refine gp (r_bool (c := false) zlt (decide_eq_false (by omega))) ?_; refine zxm ?_; refine gq zmv ?_; refine gq (r_bool (c := false) zgt (decide_eq_false (by omega))) ?_; refine gp zpk ?_; refine gnt (gc_condF rfl rfl ?_); refine gc_skip (gx_then (gc_seq (gc_seq ?_))); by_cases he : r.err = 0
 ·by_cases hq : B.length - r.pos < wd
  ·refine gc_region (zxm ?_); refine gp znc ?_; refine gp zfa ?_; refine gp zl ?_; refine gp (r_bool (c := true) zei (decide_eq_true (by omega))) ?_; refine zxm ?_; refine gq zmv ?_; refine zc (fun _ => ?_) (c := fun w1 F1 F2 h1 h2 hd hst => oleft_ok h1 hat hl)
   refine gq zmv ?_; refine gq (r_bool (c := true) zlt (decide_eq_true (by omega))) ?_; refine gp zpk ?_; refine gnt (gc_condT rfl rfl ?_); refine gc_region (zxm ?_); refine zc (fun _ => ?_) (c := fun w1 F1 F2 h1 h2 hd hst => ofail_ok h1)
   rw [if_pos (show (r.err : Int) = 0 by omega)]; refine gnt (gc_seq (gc_seq (gc_regionS (by kernel_rfl) (by kernel_rfl) ?_))); refine sp zmv ?_; refine sp znc ?_; refine sp zfa ?_; refine sp zl ?_; refine sp (r_bool (c := false) zei rfl) ?_; refine sp zmv ?_; refine sn ?_; refine sn ?_; refine sp zpk ?_; refine sp zmv ?_; refine sn ?_; refine sn ?_; refine sn ?_; refine sn ?_; refine sn ?_; refine sn ?_; refine sn ?_; refine sn ?_; refine sn ?_; refine sn ?_; refine sn ?_; refine sp zpk ?_; refine gs_nil ?_; refine gx_then (gc_condF rfl rfl ?_); refine gc_skip (gx_then (gc_seq (gsr (zxm ?_)))); refine gp znc ?_; refine gp zfa ?_; refine gp zl ?_; refine gp (r_bool (c := true) zni rfl) ?_; refine gnt (gc_condT rfl rfl ?_); refine gsr (zxa ?_); refine gnt (gc_ret (gx_then_ret (gx_ret1 rfl (by conv => lhs; whnf) ?_))); have e1 : σ = .ok (B.drop r.pos) := by rw [← hs, RS.st, if_pos he]
   subst e1; have hsh : pNum wd (B.drop r.pos) = .error 2 := num_short (by rw [List.length_drop]; exact hq)
   exact fun w' hw => ⟨0, rfl, St.pureI ⟨Ag.ne hsh _, hpow⟩ (St.inr ⟨r.pos, 2⟩ (hw.z) rfl rfl (by rw [RS.st, if_neg (by simp)]; simp only [rstep, hsh]) hat)⟩
  ·refine gc_region (zxm ?_); refine gp znc ?_; refine gp zfa ?_; refine gp zl ?_; refine gp (r_bool (c := true) zei (decide_eq_true (by omega))) ?_; refine zxm ?_; refine gq zmv ?_; refine zc (fun _ => ?_) (c := fun w1 F1 F2 h1 h2 hd hst => oleft_ok h1 hat hl)
   refine gq zmv ?_; refine gq (r_bool (c := false) zlt (decide_eq_false (by omega))) ?_; refine gp zpk ?_; refine gnt (gc_condF rfl rfl ?_); refine gc_skip (gx_then (gc_seq (gc_seq (gc_regionS (by kernel_rfl) (by kernel_rfl) ?_)))); refine sp zmv ?_; refine sp znc ?_; refine sp zfa ?_; refine sp zl ?_; refine sp (r_bool (c := true) zei (decide_eq_true (by omega))) ?_; refine sp zmv ?_; refine sq zmv ?_; refine sq (r_bool (c := false) zei (decide_eq_false (by omega))) ?_; refine sp zpk ?_; refine sp zmv ?_; refine sn ?_; refine sn ?_; refine sn ?_; refine sn ?_; refine sn ?_; refine sn ?_; refine sn ?_; refine sn ?_; refine sn ?_; refine sn ?_; refine sn ?_; refine sp zpk ?_; refine gs_nil ?_; refine gx_then (gc_condF rfl rfl ?_); refine gc_skip (gx_then (gc_seq (gsr (zxm ?_)))); refine gp znc ?_; refine gp zfa ?_; refine gp zl ?_; refine gp (r_bool (c := false) zni (by simp [he])) ?_; refine gnt (gc_condF rfl rfl ?_); refine gc_skip (gx_then (gsr (zxa ?_))); refine gnt (gc_seq (gsr (zxa ?_))); refine gnt (gc_block (gc_loop (α := Nat) (fun k => [pureR (k ≤ wd), blk g 111 [.slice a B.length c, .int .i64 ((r.pos + k : Nat) : Int), .int .i64 (r.err : Int)]]) (fun k => [(6, .int .i64 (k : Int)), (5, .int .i64 ((valN ((B.drop r.pos).take k) : Nat) : Int))]) [57, 58, 59, 60, 61, 62, 63, 64, 65, 66, 67, 68, 69, 70, 71, 72, 73, 74, 75, 76, 77, 78, 79, 80, 81, 82] (fun k => wd - k) 0 ?_ ?_ ?_))
   ·refine env_start (by kernel_rfl)
   ·exact zlp (Nat.zero_le _)
   ·intro k u; refine gc_pureR (fun hk => ?_)
    replace hk : k ≤ wd := hk
    refine gc_seq (gsr (zxm ?_)); refine zxm ?_; refine gp zlt ?_; refine gnt (gif rfl (fun hc59 => ?_) (fun hc59 => ?_))
    ·try simp only at hc59
     have hk' : k < wd := by omega
     obtain ⟨ga, o, ha, hA, hg, hra⟩ := hB.2.2 (by omega); subst ha; have hb8 := (B.getD (r.pos + k) 0).toNat_lt
     have hlk : ((B.drop r.pos).take k).length = k := by rw [List.length_take, List.length_drop]; omega
     have hv1 := valN_lt ((B.drop r.pos).take k)
     rw [hlk] at hv1; have hv2 : 256 ^ k ≤ 256 ^ 5 := Nat.pow_le_pow_right (by decide) (by omega)
     have hv3 : (256 : Nat) ^ 5 = 1099511627776 := by decide
     have hst : valN ((B.drop r.pos).take (k + 1)) = valN ((B.drop r.pos).take k) * 256 + (B.getD (r.pos + k) 0).toNat := by rw [valN_step (by rw [List.length_drop]; omega)]; simp [List.getD, List.getElem?_drop]
     refine gc_skip (gx_then (gc_seq (gc_block (gc_seq (gc_regionS (by kernel_rfl) (by kernel_rfl) ?_))))); refine sp zmv ?_; refine sp zml ?_; refine sp zmv ?_; refine sp znc ?_; refine sp zfa ?_; refine sp zl ?_; refine sp zmv ?_; refine sp znc ?_; refine sp zfa ?_; refine sp zl ?_; refine sp (r_indexAddr_slice rfl rfl Ty.sl_49 Ty.sz_5 (by omega) (by omega)) ?_; refine sp (r_ld1o (v := B8 (B.getD (r.pos + k) 0)) rfl Ty.row_5 (cellb hra (j := r.pos + k) (by omega) (by omega)) hA) ?_; refine sp (r_int (j := ((B.getD (r.pos + k) 0).toNat : Int)) zci (wrap_i64 (by omega) (by omega))) ?_; refine sp (r_int (j := ((valN ((B.drop r.pos).take (k + 1)) : Nat) : Int)) zad (by omega)) ?_; refine sp zas ?_; refine gs_nil ?_; refine gx_then (gc_region (zxm ?_)); refine gp znc ?_; refine gp zfa ?_; refine gp zl ?_; refine gp (r_int (j := ((r.pos + (k + 1) : Nat) : Int)) zad (by omega)) ?_; refine gp znc ?_; refine gp zfa ?_; refine zs1 ?_; refine gl_nil (gx_block_normal (gx_then (gc_region (zxm ?_)))); refine gp zad ?_; refine zxa ?_; refine gl_nil (zrd (k + 1) ?_ ?_)
     ·show wd - (k + 1) < wd - k
      omega
     ·exact zlp (show k + 1 ≤ wd by omega)
    ·try simp only at hc59
     have hk' : k = wd := by omega
     subst hk'; refine gc_exit ?_; refine gx_then_exit ?_; refine gx_round_exit ?_; refine gx_block_hit ?_; refine gx_then (gsr (zxm ?_)); refine zxa ?_; refine gnt (gc_ret (gx_ret1 rfl (by conv => lhs; whnf) ?_)); have e1 : σ = .ok (B.drop r.pos) := by rw [← hs, RS.st, if_pos he]
     subst e1; have hlg : pNum k (B.drop r.pos) = .ok ((valN ((B.drop r.pos).take k) : Int), (B.drop r.pos).drop k) := num_long (by rw [List.length_drop]; exact hq)
     have hvl := valN_lt ((B.drop r.pos).take k)
     rw [show ((B.drop r.pos).take k).length = k by rw [List.length_take, List.length_drop]; omega] at hvl; exact fun w' hw => ⟨valN ((B.drop r.pos).take k), rfl, St.pureI ⟨Ag.of hlg, hvl⟩ (St.inr ⟨r.pos + k, r.err⟩ (hw.z) rfl rfl (by rw [RS.st, if_pos he]; simp only [rstep, hlg, List.drop_drop]) (by show r.pos + k ≤ B.length; omega))⟩
 ·refine gc_region (zxm ?_); refine gp znc ?_; refine gp zfa ?_; refine gp zl ?_; refine gp (r_bool (c := false) zei (decide_eq_false (by omega))) ?_; refine zxm ?_; refine gn ?_; refine gn ?_; refine gn ?_; refine gn ?_; refine gp zpk ?_; refine gnt (gc_condF rfl rfl ?_); refine gc_skip (gx_then (gc_seq (gc_seq (gc_regionS (by kernel_rfl) (by kernel_rfl) ?_)))); refine sp zmv ?_; refine sp znc ?_; refine sp zfa ?_; refine sp zl ?_; refine sp (r_bool (c := false) zei (decide_eq_false (by omega))) ?_; refine sp zmv ?_; refine sn ?_; refine sn ?_; refine sp zpk ?_; refine sp zmv ?_; refine sn ?_; refine sn ?_; refine sn ?_; refine sn ?_; refine sn ?_; refine sn ?_; refine sn ?_; refine sn ?_; refine sn ?_; refine sn ?_; refine sn ?_; refine sp zpk ?_; refine gs_nil ?_; refine gx_then (gc_condF rfl rfl ?_); refine gc_skip (gx_then (gc_seq (gsr (zxm ?_)))); refine gp znc ?_; refine gp zfa ?_; refine gp zl ?_; refine gp (r_bool (c := true) zni (by simp [he])) ?_; refine gnt (gc_condT rfl rfl ?_); refine gsr (zxa ?_); refine gnt (gc_ret (gx_then_ret (gx_ret1 rfl (by conv => lhs; whnf) ?_))); have e1 : σ = .error r.err := by rw [← hs, RS.st, if_neg he]
  subst e1; exact fun w' hw => ⟨0, rfl, St.pureI ⟨Ag.error _, hpow⟩ (St.inr r (hw.z) rfl rfl (by rw [RS.st, if_neg he]; rfl) hat)⟩
end
section
theorem done_ok0 {B : List UInt8} {p : Nat} (h : B.length ≤ p) : doneE (.ok (B.drop p)) = 0 := by rw [List.drop_eq_nil_of_le h]; rfl
theorem done_ok3 {B : List UInt8} {p : Nat} (h : p < B.length) : doneE (.ok (B.drop p)) = 3 := by
  cases hd : B.drop p with
  | nil => have := congrArg List.length hd; rw [List.length_drop] at this; simp at this; omega
  | cons x l => rfl
theorem in_nz {g c : Nat} {a : Option Addr} {B : List UInt8} {σ : RSt} {w : World} {F : Nat → Prop} {L : List Res} (h : stars (InR g a c B σ :: L) w F) : σ ≠ .error 0 := by
  obtain ⟨r, h1, _, _⟩ := in_open h
  rw [← h1]; unfold RS.st; split
  · intro e; cases e
  · rename_i hne; intro e; injection e with e; exact hne e
theorem rstep_nz {α : Type} {p : PR α} (hp : NoZ p) {σ : RSt} (h : σ ≠ .error 0) : rstep p σ ≠ .error 0 := by
  cases σ with
  | error e => exact h
  | ok b =>
    intro he
    simp only [rstep] at he
    cases hb : p b with
    | error e => rw [hb] at he; injection he with he; subst he; exact hp b hb
    | ok x => rw [hb] at he; cases he
theorem fail_one {σ : RSt} (h : errOf σ = 0) (hn : σ ≠ .error 0) : errOf (failE 1 σ) ≠ 0 := by
  cases σ with
  | ok b => simp [failE, errOf]
  | error e => simp only [errOf] at h; subst h; exact absurd rfl hn
attribute [local irreducible] Gl Gc Gx Gs Runs Wt
theorem ifixed_ok {w : World} {F : Nat → Prop} {g c : Nat} {a : Option Addr} {B : List UInt8} {σ : RSt} (h : stars [InR g a c B σ] w F) (hB : RdRow w (fun k => ¬ F k) 1 a B.length (B.map B8)) (hc : B.length ≤ c) (hl : B.length ≤ 40000) {n : Nat} (hn : n ≤ 70000) :
    Calls Tryz.prog 71 #[.pointer (some ⟨g, 0, none⟩), .int .i64 (n : Int)] w (Post w F (fun p : Option Addr × Nat × List UInt8 => .slice p.1 p.2.2.length p.2.1) (fun p => [pureR (Ag (pTake n) σ p.2.2 ∧ p.2.2.length ≤ n ∧ p.2.2.length ≤ B.length), rowR 5 1 p.1 p.2.2.length p.2.1 (p.2.2.map B8), InR g a c B (rstep (pTake n) σ)])) := by
 obtain ⟨r, hs, hat, h'⟩ := in_open h; refine g_enter (env := [(0, .pointer (some ⟨g, 0, none⟩)), (1, .int .i64 (n : Int))]) Tryz.func71 rfl h' Tryz.ntmps71 rfl rfl ?_; refine gsr (zxa ?_); refine gnt (gc_seq (gsr (zxm ?_))); refine gp (r_bool (c := false) zlt (decide_eq_false (by omega))) ?_; refine gnt (gc_condF rfl rfl ?_); refine gc_skip (gx_then (gc_seq (gc_seq ?_))); by_cases he : r.err = 0
 ·by_cases hq : B.length - r.pos < n
  ·refine gc_region (zxm ?_); refine gp znc ?_; refine gp zfa ?_; refine gp zl ?_; refine gp (r_bool (c := true) zei (decide_eq_true (by omega))) ?_; refine zxm ?_; refine gq zmv ?_; refine zc (fun _ => ?_) (c := fun w1 F1 F2 h1 h2 hd hst => oleft_ok h1 hat hl)
   refine gq zmv ?_; refine gq (r_bool (c := true) zlt (decide_eq_true (by omega))) ?_; refine gp zpk ?_; refine gnt (gc_condT rfl rfl ?_); refine gc_region (zxm ?_); refine zc (fun _ => ?_) (c := fun w1 F1 F2 h1 h2 hd hst => ofail_ok h1)
   rw [if_pos (show (r.err : Int) = 0 by omega)]; refine gnt (gc_seq (gsr (zxm ?_))); refine gp znc ?_; refine gp zfa ?_; refine gp zl ?_; refine gp (r_bool (c := true) zni rfl) ?_; refine gnt (gc_condT rfl rfl ?_); refine gsr (zxa ?_); refine gnt (gc_ret (gx_then_ret (gx_ret1 rfl (by conv => lhs; whnf) ?_))); have e1 : σ = .ok (B.drop r.pos) := by rw [← hs, RS.st, if_pos he]
   subst e1; have hsh : pTake n (B.drop r.pos) = .error 2 := take_short (by rw [List.length_drop]; exact hq)
   exact fun w' hw => ⟨(none, 0, []), rfl, St.pureI ⟨Ag.ne hsh _, Nat.zero_le _, Nat.zero_le _⟩ (St.rowNil (St.inr ⟨r.pos, 2⟩ (hw.z) rfl rfl (by rw [RS.st, if_neg (by simp)]; simp only [rstep, hsh]) hat))⟩
  ·refine gc_region (zxm ?_); refine gp znc ?_; refine gp zfa ?_; refine gp zl ?_; refine gp (r_bool (c := true) zei (decide_eq_true (by omega))) ?_; refine zxm ?_; refine gq zmv ?_; refine zc (fun _ => ?_) (c := fun w1 F1 F2 h1 h2 hd hst => oleft_ok h1 hat hl)
   refine gq zmv ?_; refine gq (r_bool (c := false) zlt (decide_eq_false (by omega))) ?_; refine gp zpk ?_; refine gnt (gc_condF rfl rfl ?_); refine gc_skip (gx_then (gc_seq (gsr (zxm ?_)))); refine gp znc ?_; refine gp zfa ?_; refine gp zl ?_; refine gp (r_bool (c := false) zni (by simp [he])) ?_; refine gnt (gc_condF rfl rfl ?_); refine gc_skip (gx_then (gc_seq (gc_regionZ 17 ([blk g 111 [.slice a B.length c, .int .i64 (r.pos : Int), .int .i64 (r.err : Int)]]) ?_))); refine yps 1 rfl zmv ?_; refine yps 2 rfl znc ?_; refine yps 3 rfl zfa ?_; refine yps 4 rfl zl ?_; refine yps 5 rfl zmv ?_; refine yps 6 rfl znc ?_; refine yps 7 rfl zfa ?_; refine yps 8 rfl zl ?_; refine yps 9 rfl zmv ?_; refine yps 10 rfl znc ?_; refine yps 11 rfl zfa ?_; refine yps 12 rfl zl ?_; refine yps 13 rfl zmv ?_; refine yps 14 rfl (r_int (j := ((r.pos + n : Nat) : Int)) zad (by omega)) ?_; refine yps 15 rfl (r_slice_slice (a := a) (m := B.length) (c := c) (l := r.pos) (h := r.pos + n) rfl Ty.sl_49 Ty.sz_5 ⟨_, rfl⟩ ⟨_, rfl⟩ (by omega) (by omega)) ?_; refine yos 0 rfl ?_; refine ze0 fun b28 => ?_; refine yxs ?_; refine yos 16 rfl ?_; have hcut := hB.cut8 (l := r.pos) (h := r.pos + n) (c := c) (by omega) (by omega) hc
   refine gl_append (xs := []) (news := ((B.drop r.pos).take (r.pos + n - r.pos)).map B8) (wt0 rfl) rfl rfl (by repeat (first | exact Pick.here | apply Pick.there)) ELT.h (fun w hw => hw.rdOld hcut) (one_B8 _) (by simp only [maxLen]; omega) (by omega) (fun a44 c44 => ?_)
   rw [Nat.zero_add, List.nil_append, show r.pos + n - r.pos = n by omega]; refine yxs ?_; refine yzs rfl ?_; refine zxa ?_; refine zxs ?_; refine zxm ?_; refine gp znc ?_; refine gp zfa ?_; refine gp zl ?_; refine zxm ?_; refine gp (r_int (j := ((r.pos + n : Nat) : Int)) zad (by omega)) ?_; refine gp znc ?_; refine gp zfa ?_; refine zs1 ?_; refine zxs ?_; refine zxm ?_; refine zxa ?_; refine gnt (gc_ret (gx_ret1 rfl (by conv => lhs; whnf) ?_)); have e1 : σ = .ok (B.drop r.pos) := by rw [← hs, RS.st, if_pos he]
   subst e1; have hlg : pTake n (B.drop r.pos) = .ok ((B.drop r.pos).take n, (B.drop r.pos).drop n) := take_long (by rw [List.length_drop]; exact hq)
   have e3 : n = ((B.drop r.pos).take n).length := by rw [List.length_take, List.length_drop]; omega
   intro w' hw; have h2 := St.inr (a := a) (c := c) (B := B) (σ := rstep (pTake n) (.ok (B.drop r.pos))) ⟨r.pos + n, r.err⟩ (hw.sel (M := [_, rowR 5 1 a44 n c44 (((B.drop r.pos).take n).map B8)]) (by repeat (first | exact Sel.nil | (apply Sel.cons; · (repeat (first | exact Pick.here | apply Pick.there)))))) rfl rfl (by rw [RS.st, if_pos he]; simp only [rstep, hlg, List.drop_drop]) (by show r.pos + n ≤ B.length; omega)
   have h3 : St w F [rowR 5 1 a44 n c44 (((B.drop r.pos).take n).map B8), InR g a c B (rstep (pTake n) (.ok (B.drop r.pos)))] w' := st_swap h2
   refine ⟨(a44, c44, (B.drop r.pos).take n), by simp only; rw [← e3], St.pureI ⟨Ag.of hlg, by simp only; omega, by simp only; omega⟩ ?_⟩
   simp only
   rw [← e3]; exact h3
 ·refine gc_region (zxm ?_); refine gp znc ?_; refine gp zfa ?_; refine gp zl ?_; refine gp (r_bool (c := false) zei (decide_eq_false (by omega))) ?_; refine zxm ?_; refine gn ?_; refine gn ?_; refine gn ?_; refine gn ?_; refine gp zpk ?_; refine gnt (gc_condF rfl rfl ?_); refine gc_skip (gx_then (gc_seq (gsr (zxm ?_)))); refine gp znc ?_; refine gp zfa ?_; refine gp zl ?_; refine gp (r_bool (c := true) zni (by simp [he])) ?_; refine gnt (gc_condT rfl rfl ?_); refine gsr (zxa ?_); refine gnt (gc_ret (gx_then_ret (gx_ret1 rfl (by conv => lhs; whnf) ?_))); have e1 : σ = .error r.err := by rw [← hs, RS.st, if_neg he]
  subst e1; exact fun w' hw => ⟨(none, 0, []), rfl, St.pureI ⟨Ag.error _, Nat.zero_le _, Nat.zero_le _⟩ (St.rowNil (St.inr r (hw.z) rfl rfl (by rw [RS.st, if_neg he]; rfl) hat))⟩
theorem ibytes_ok {w : World} {F : Nat → Prop} {g c : Nat} {a : Option Addr} {B : List UInt8} {σ : RSt} (h : stars [InR g a c B σ] w F) (hB : RdRow w (fun k => ¬ F k) 1 a B.length (B.map B8)) (hc : B.length ≤ c) (hl : B.length ≤ 40000) {most : Nat} (hm : most ≤ 65535) :
    Calls Tryz.prog 41 #[.pointer (some ⟨g, 0, none⟩), .int .i64 (most : Int)] w (Post w F (fun p : Option Addr × Nat × List UInt8 => .slice p.1 p.2.2.length p.2.1) (fun p => [pureR (Ag (pBytes most) σ p.2.2 ∧ p.2.2.length ≤ B.length), rowR 5 1 p.1 p.2.2.length p.2.1 (p.2.2.map B8), InR g a c B (rstep (pBytes most) σ)])) := by
 refine g_enter (env := [(0, .pointer (some ⟨g, 0, none⟩)), (1, .int .i64 (most : Int))]) Tryz.func41 rfl h Tryz.ntmps41 rfl rfl ?_; refine gsr (zxa ?_); refine zxs ?_; refine zxm ?_; refine zc (fun x => ?_) (c := fun w1 F1 F2 h1 h2 hd hst => inum_ok (wd := 2) h1 (hB.mv hst.still) hc hl (by decide) (by decide))
 refine gl_pureR (fun hp7 => ?_)
 obtain ⟨hx7, hlx⟩ := hp7; replace hlx : x < 65536 := hlx
 refine zxa ?_; refine gnt (gc_seq (gc_seq ?_)); by_cases he : errOf (rstep (pNum 2) σ) = 0
 ·by_cases hq : most < x
  ·refine gc_region (zxm ?_); refine gp znc ?_; refine gp zfa ?_; refine gp (r_inerr rfl Ty.row_3 (by repeat (first | exact Pick.here | apply Pick.there))) ?_; refine gp (r_bool (c := true) zei (decide_eq_true (by omega))) ?_; refine zxm ?_; refine gq zmv ?_; refine gq zmv ?_; refine gq (r_bool (c := true) zgt (decide_eq_true (by omega))) ?_; refine gp zpk ?_; refine gnt (gc_condT rfl rfl ?_); refine gc_region (zxm ?_); refine zc (fun _ => ?_) (c := fun w1 F1 F2 h1 h2 hd hst => ofailIn_ok (e := 1) h1 (by decide))
   refine zxs ?_; refine zxm ?_; refine zxm ?_; refine zc ?_ (c := fun w1 F1 F2 h1 h2 hd hst => ifixed_ok (n := x) h1 (hB.mv hst.still) hc hl (by omega))
   rintro ⟨a22, c22, l22⟩
   refine gl_pureR (fun hp22 => ?_)
   obtain ⟨g22, hl22, hlb22⟩ := hp22; replace hlb22 : l22.length ≤ B.length := hlb22
   replace g22 : Ag (pTake x) _ l22 := g22
   refine zxa ?_; refine gnt (gc_ret (gx_ret1 rfl (by conv => lhs; whnf) ?_)); have hcs : (if errOf (rstep (pNum 2) σ) = 0 ∧ most < x then failE 1 (rstep (pNum 2) σ) else rstep (pNum 2) σ) = failE 1 (rstep (pNum 2) σ) := by rw [if_pos ⟨he, hq⟩]
   have hfin := bytes_fin hx7 hcs g22
   rw [hfin.1]; exact fun w' hw => ⟨(a22, c22, l22), rfl, St.pureI ⟨hfin.2, hlb22⟩ (hw.z)⟩
  ·refine gc_region (zxm ?_); refine gp znc ?_; refine gp zfa ?_; refine gp (r_inerr rfl Ty.row_3 (by repeat (first | exact Pick.here | apply Pick.there))) ?_; refine gp (r_bool (c := true) zei (decide_eq_true (by omega))) ?_; refine zxm ?_; refine gq zmv ?_; refine gq zmv ?_; refine gq (r_bool (c := false) zgt (decide_eq_false (by omega))) ?_; refine gp zpk ?_; refine gnt (gc_condF rfl rfl ?_); refine gc_skip (gx_then (gsr (zxm ?_))); refine zxm ?_; refine zc ?_ (c := fun w1 F1 F2 h1 h2 hd hst => ifixed_ok (n := x) h1 (hB.mv hst.still) hc hl (by omega))
   rintro ⟨a22, c22, l22⟩
   refine gl_pureR (fun hp22 => ?_)
   obtain ⟨g22, hl22, hlb22⟩ := hp22; replace hlb22 : l22.length ≤ B.length := hlb22
   replace g22 : Ag (pTake x) _ l22 := g22
   refine zxa ?_; refine gnt (gc_ret (gx_ret1 rfl (by conv => lhs; whnf) ?_)); have hcs : (if errOf (rstep (pNum 2) σ) = 0 ∧ most < x then failE 1 (rstep (pNum 2) σ) else rstep (pNum 2) σ) = rstep (pNum 2) σ := by rw [if_neg (fun hh => hq hh.2)]
   have hfin := bytes_fin hx7 hcs g22
   rw [hfin.1]; exact fun w' hw => ⟨(a22, c22, l22), rfl, St.pureI ⟨hfin.2, hlb22⟩ (hw.z)⟩
 ·refine gc_region (zxm ?_); refine gp znc ?_; refine gp zfa ?_; refine gp (r_inerr rfl Ty.row_3 (by repeat (first | exact Pick.here | apply Pick.there))) ?_; refine gp (r_bool (c := false) zei (decide_eq_false (by omega))) ?_; refine zxm ?_; refine gn ?_; refine gn ?_; refine gn ?_; refine gp zpk ?_; refine gnt (gc_condF rfl rfl ?_); refine gc_skip (gx_then (gsr (zxm ?_))); refine zxm ?_; refine zc ?_ (c := fun w1 F1 F2 h1 h2 hd hst => ifixed_ok (n := x) h1 (hB.mv hst.still) hc hl (by omega))
  rintro ⟨a22, c22, l22⟩
  refine gl_pureR (fun hp22 => ?_)
  obtain ⟨g22, hl22, hlb22⟩ := hp22; replace hlb22 : l22.length ≤ B.length := hlb22
  replace g22 : Ag (pTake x) _ l22 := g22
  refine zxa ?_; refine gnt (gc_ret (gx_ret1 rfl (by conv => lhs; whnf) ?_)); have hcs : (if errOf (rstep (pNum 2) σ) = 0 ∧ most < x then failE 1 (rstep (pNum 2) σ) else rstep (pNum 2) σ) = rstep (pNum 2) σ := by rw [if_neg (fun hh => he hh.1)]
  have hfin := bytes_fin hx7 hcs g22
  rw [hfin.1]; exact fun w' hw => ⟨(a22, c22, l22), rfl, St.pureI ⟨hfin.2, hlb22⟩ (hw.z)⟩
theorem imany_ok {w : World} {F : Nat → Prop} {g c : Nat} {a : Option Addr} {B : List UInt8} {σ : RSt} (h : stars [InR g a c B σ] w F) (hB : RdRow w (fun k => ¬ F k) 1 a B.length (B.map B8)) (hc : B.length ≤ c) (hl : B.length ≤ 40000) {most : Nat} (hm : most ≤ 255) :
    Calls Tryz.prog 74 #[.pointer (some ⟨g, 0, none⟩), .int .i64 (most : Int)] w (Post w F (fun p : Nat × Nat => .int .i64 (p.1 : Int)) (fun p => [pureR (Ag (pNum 1) σ (p.2 : Int) ∧ (p.1 = p.2 ∨ errOf (mSt most σ p.2) ≠ 0) ∧ p.1 ≤ 255), InR g a c B (mSt most σ p.2)])) := by
 have hnz := in_nz h
 refine g_enter (env := [(0, .pointer (some ⟨g, 0, none⟩)), (1, .int .i64 (most : Int))]) Tryz.func74 rfl h Tryz.ntmps74 rfl rfl ?_; refine gsr (zxa ?_); refine zxs ?_; refine zxm ?_; refine zc (fun x => ?_) (c := fun w1 F1 F2 h1 h2 hd hst => inum_ok (wd := 1) h1 (hB.mv hst.still) hc hl (by decide) (by decide))
 refine gl_pureR (fun hp7 => ?_)
 obtain ⟨hx7, hlx⟩ := hp7; replace hlx : x < 256 := hlx
 refine zxa ?_; refine gnt (gc_seq (gc_seq ?_)); by_cases he : errOf (rstep (pNum 1) σ) = 0
 ·by_cases hq : most < x
  ·refine gc_region (zxm ?_); refine gp znc ?_; refine gp zfa ?_; refine gp (r_inerr rfl Ty.row_3 (by repeat (first | exact Pick.here | apply Pick.there))) ?_; refine gp (r_bool (c := true) zei (decide_eq_true (by omega))) ?_; refine zxm ?_; refine gq zmv ?_; refine gq zmv ?_; refine gq (r_bool (c := true) zgt (decide_eq_true (by omega))) ?_; refine gp zpk ?_; refine gnt (gc_condT rfl rfl ?_); refine gsr (zxm ?_); refine zc (fun _ => ?_) (c := fun w1 F1 F2 h1 h2 hd hst => ofailIn_ok (e := 1) h1 (by decide))
   refine zxs ?_; refine zxa ?_; refine gnt (gc_ret (gx_then_ret (gx_ret1 rfl (by conv => lhs; whnf) ?_))); have e : mSt most σ x = failE 1 (rstep (pNum 1) σ) := by unfold mSt; rw [if_pos ⟨he, hq⟩]
   exact fun w' hw => ⟨(0, x), rfl, St.pureI ⟨hx7, .inr (by rw [e]; exact fail_one he (rstep_nz (noz_num 1) hnz)), Nat.zero_le _⟩ (by simp only; rw [e]; exact hw.z)⟩
  ·refine gc_region (zxm ?_); refine gp znc ?_; refine gp zfa ?_; refine gp (r_inerr rfl Ty.row_3 (by repeat (first | exact Pick.here | apply Pick.there))) ?_; refine gp (r_bool (c := true) zei (decide_eq_true (by omega))) ?_; refine zxm ?_; refine gq zmv ?_; refine gq zmv ?_; refine gq (r_bool (c := false) zgt (decide_eq_false (by omega))) ?_; refine gp zpk ?_; refine gnt (gc_condF rfl rfl ?_); refine gc_skip (gx_then (gsr (zxm ?_))); refine zxa ?_; refine gnt (gc_ret (gx_ret1 rfl (by conv => lhs; whnf) ?_)); have e : mSt most σ x = rstep (pNum 1) σ := by unfold mSt; rw [if_neg (fun hh => hq hh.2)]
   exact fun w' hw => ⟨(x, x), rfl, St.pureI ⟨hx7, .inl rfl, by show x ≤ 255; omega⟩ (by simp only; rw [e]; exact hw.z)⟩
 ·refine gc_region (zxm ?_); refine gp znc ?_; refine gp zfa ?_; refine gp (r_inerr rfl Ty.row_3 (by repeat (first | exact Pick.here | apply Pick.there))) ?_; refine gp (r_bool (c := false) zei (decide_eq_false (by omega))) ?_; refine zxm ?_; refine gn ?_; refine gn ?_; refine gn ?_; refine gp zpk ?_; refine gnt (gc_condF rfl rfl ?_); refine gc_skip (gx_then (gsr (zxm ?_))); refine zxa ?_; refine gnt (gc_ret (gx_ret1 rfl (by conv => lhs; whnf) ?_)); have e : mSt most σ x = rstep (pNum 1) σ := by unfold mSt; rw [if_neg (fun hh => he hh.1)]
  exact fun w' hw => ⟨(x, x), rfl, St.pureI ⟨hx7, .inl rfl, by show x ≤ 255; omega⟩ (by simp only; rw [e]; exact hw.z)⟩
theorem idone_ok {w : World} {F : Nat → Prop} {g c : Nat} {a : Option Addr} {B : List UInt8} {σ : RSt} (h : stars [InR g a c B σ] w F) (hB : RdRow w (fun k => ¬ F k) 1 a B.length (B.map B8)) (hc : B.length ≤ c) (hl : B.length ≤ 40000)  :
    Calls Tryz.prog 43 #[.pointer (some ⟨g, 0, none⟩)] w (Post w F (fun _ : Unit => .int .i64 (doneE σ : Int)) (fun _ => [InR g a c B σ])) := by
 obtain ⟨r, hs, hat, h'⟩ := in_open h; refine g_enter (env := [(0, .pointer (some ⟨g, 0, none⟩))]) Tryz.func43 rfl h' Tryz.ntmps43 rfl rfl ?_; refine gsr (zxa ?_); refine gnt (gc_seq (gc_seq ?_)); by_cases he : r.err = 0
 ·by_cases hq : r.pos < B.length
  ·refine gc_region (zxm ?_); refine gp znc ?_; refine gp zfa ?_; refine gp zl ?_; refine gp (r_bool (c := true) zei (decide_eq_true (by omega))) ?_; refine zxm ?_; refine gq zmv ?_; refine zc (fun _ => ?_) (c := fun w1 F1 F2 h1 h2 hd hst => oleft_ok h1 hat hl)
   refine gq (r_bool (c := true) zgt (decide_eq_true (by omega))) ?_; refine gp zpk ?_; refine gnt (gc_condT rfl rfl ?_); refine gsr (zxa ?_); refine gnt (gc_ret (gx_then_ret (gx_ret1 rfl (by conv => lhs; whnf) ?_))); have e1 : σ = .ok (B.drop r.pos) := by rw [← hs, RS.st, if_pos he]
   have e2 : doneE σ = 3 := by rw [e1]; exact done_ok3 hq
   rw [e2]; exact fun w' hw => ⟨(), rfl, St.inr r (hw.z) rfl rfl hs hat⟩
  ·refine gc_region (zxm ?_); refine gp znc ?_; refine gp zfa ?_; refine gp zl ?_; refine gp (r_bool (c := true) zei (decide_eq_true (by omega))) ?_; refine zxm ?_; refine gq zmv ?_; refine zc (fun _ => ?_) (c := fun w1 F1 F2 h1 h2 hd hst => oleft_ok h1 hat hl)
   refine gq (r_bool (c := false) zgt (decide_eq_false (by omega))) ?_; refine gp zpk ?_; refine gnt (gc_condF rfl rfl ?_); refine gc_skip (gx_then (gsr (zxm ?_))); refine gp znc ?_; refine gp zfa ?_; refine gp zl ?_; refine zxa ?_; refine gnt (gc_ret (gx_ret1 rfl (by conv => lhs; whnf) ?_)); have e1 : σ = .ok (B.drop r.pos) := by rw [← hs, RS.st, if_pos he]
   have e2 : doneE σ = r.err := by rw [e1, he]; exact done_ok0 (by omega)
   rw [e2]; exact fun w' hw => ⟨(), rfl, St.inr r (hw.z) rfl rfl hs hat⟩
 ·refine gc_region (zxm ?_); refine gp znc ?_; refine gp zfa ?_; refine gp zl ?_; refine gp (r_bool (c := false) zei (decide_eq_false (by omega))) ?_; refine zxm ?_; refine gn ?_; refine gn ?_; refine gn ?_; refine gp zpk ?_; refine gnt (gc_condF rfl rfl ?_); refine gc_skip (gx_then (gsr (zxm ?_))); refine gp znc ?_; refine gp zfa ?_; refine gp zl ?_; refine zxa ?_; refine gnt (gc_ret (gx_ret1 rfl (by conv => lhs; whnf) ?_)); have e1 : σ = .error r.err := by rw [← hs, RS.st, if_neg he]
  subst e1; exact fun w' hw => ⟨(), rfl, St.inr r (hw.z) rfl rfl hs hat⟩
end
section
theorem dig_store {l : List UInt8} {k o : Nat} (h : k < l.length) (hl : l.length ≤ 16) (ho : o = k) : updL (updL zD 0 ((l.take k).map B8)) o [B8 (l.getD k 0)] = updL zD 0 ((l.take (k + 1)).map B8) := by
  subst ho
  have h1 : ((l.take o).map B8).length = o := by rw [List.length_map, List.length_take]; omega
  have h2 : ((l.take (o + 1)).map B8).length = o + 1 := by rw [List.length_map, List.length_take]; omega
  simp only [updL, List.take_zero, List.nil_append, Nat.zero_add, h1, h2, List.length_singleton]
  rw [List.take_append_of_le_length (by omega), List.take_of_length_le (by omega), List.drop_append, List.drop_eq_nil_of_le (by omega), h1, List.drop_drop, take_snoc h]
  simp only [List.map_append, List.map_cons, List.map_nil, List.append_assoc, List.nil_append, List.cons_append]
  rw [show o + (o + 1 - o) = o + 1 by omega]
theorem i64_num {x wd : Nat} (h6 : wd ≤ 6) (h : x < 256 ^ wd) : I64 (x : Int) := by
  have : 256 ^ wd ≤ 256 ^ 6 := Nat.pow_le_pow_right (by decide) h6
  unfold I64; omega
attribute [local irreducible] Gl Gc Gx Gs Runs Wt
theorem idigest_ok {w : World} {F : Nat → Prop} {g c : Nat} {a : Option Addr} {B : List UInt8} {σ : RSt} (h : stars [InR g a c B σ] w F) (hB : RdRow w (fun k => ¬ F k) 1 a B.length (B.map B8)) (hc : B.length ≤ c) (hl : B.length ≤ 40000)  :
    Calls Tryz.prog 72 #[.agg (List.toArray [.pointer (some ⟨g, 0, none⟩)])] w (Post w F (fun r : Dig => .agg (dc r).toArray) (fun r => [pureR (Ag pDig σ r), InR g a c B (rstep pDig σ)])) := by
 refine g_enter (env := [(0, .agg (List.toArray [.pointer (some ⟨g, 0, none⟩)]))]) Tryz.func72 rfl h Tryz.ntmps72 rfl rfl ?_; refine gsr (zbN fun b1 => ?_); refine zal fun b2 => ?_; refine zxs ?_; refine gp (r_buildA (cs := zD) Ty.zc_38 Ty.arr_38 Ty.sz_5 (by kernel_rfl)) ?_; refine zal fun b3 => ?_; refine zsA (new := zD) rfl (dc_one dig0) ?_; refine gnt (gc_seq (gsr (gp zfa ?_))); refine gp zl ?_; refine zc ?_ (c := fun w1 F1 F2 h1 h2 hd hst => ifixed_ok (n := 16) h1 (hB.mv hst.still) hc hl (by decide))
 rintro ⟨a9, c9, l9⟩
 refine gl_pureR (fun hp9 => ?_)
 obtain ⟨g9, hl9, _⟩ := hp9; replace hl9 : l9.length ≤ 16 := hl9
 replace g9 : Ag (pTake 16) σ l9 := g9
 refine gp zln ?_; refine zxm ?_; refine gnt (gc_block (gc_loop (α := Nat) (fun k => [pureR (k ≤ l9.length), rowR 5 1 a9 l9.length c9 (l9.map B8), blk b3 38 (updL zD 0 ((l9.take k).map B8)), blk b2 38 zD, InR g a c B (rstep (pTake 16) σ)]) (fun k => [(11, .int .i64 (k : Int))]) [4, 5, 12, 13, 14, 15, 16, 17, 18, 19] (fun k => l9.length - k) 0 ?_ ?_ ?_))
 ·refine env_start (by kernel_rfl)
 ·exact zlp (Nat.zero_le _)
 ·intro k u; refine gc_pureR (fun hk => ?_)
  replace hk : k ≤ l9.length := hk
  refine gsr (gp zlt ?_); refine gnt (gc_seq (gif rfl (fun hc12 => ?_) (fun hc12 => ?_)))
  ·try simp only at hc12
   have hk' : k < l9.length := by omega
   refine gc_fact (p := ∃ g o, a9 = some ⟨g, o, none⟩) (fun w hw => (by obtain ⟨g, o, e, _⟩ := (hw.row (a := a9) (m := l9.length) (c := c9) (xs := l9.map B8) (by repeat (first | exact Pick.here | apply Pick.there))).2.2 (by omega); exact ⟨g, o, e⟩)) (fun ha => ?_)
   obtain ⟨g7, o7, rfl⟩ := ha; refine gc_skip (gx_then (gc_seq (gc_block (gsr (zxm ?_))))); refine gp (zia) ?_; refine gp (r_ld1r (v := B8 (l9.getD k 0)) rfl Ty.row_5 (by repeat (first | exact Pick.here | apply Pick.there)) (by rw [show (k : Int).toNat * 1 = k by omega, List.getElem?_map, List.getElem?_eq_getElem hk']; simp [List.getD, List.getElem?_eq_getElem hk'])) ?_
   refine zxa ?_; refine zxa ?_; refine gnt (gc_region (zxm ?_)); refine zxm ?_; refine gp (zib) ?_; refine gl_store1 (wt0 rfl) rfl rfl rfl Ty.sz_5 (by repeat (first | exact Pick.here | apply Pick.there)) (by rw [updL_length (by rw [zD_length, List.length_map, List.length_take]; omega), zD_length]; omega) (dig_store hk' hl9 (by omega)) ?_; refine gl_nil (gx_block_normal (gx_then (gc_region (gp zad ?_)))); refine zxm ?_; refine gl_nil (zrd (k + 1) ?_ ?_)
   ·show l9.length - (k + 1) < l9.length - k
    omega
   ·exact zlp (show k + 1 ≤ l9.length by omega)
  ·try simp only at hc12
   have hk' : k = l9.length := by omega
   subst hk'; rw [List.take_length, padDig_cells hl9]; refine gc_exit ?_; refine gx_then_exit ?_; refine gx_round_exit ?_; refine gx_block_hit ?_; refine gx_then (gsr (gp (zLa (cs := dc (padDig l9))) ?_)); refine zsA (dc_length _) (dc_one _) ?_; refine gnt (gc_ret (gx_retc rfl rfl (ldA Ty.row_38 Ty.sz_38) ?_)); rw [rstep_dig g9]; exact fun w' hw => ⟨padDig l9, rfl, St.pureI (ag_dig g9) (hw.z)⟩
theorem idigests_ok {w : World} {F : Nat → Prop} {g c : Nat} {a : Option Addr} {B : List UInt8} {σ : RSt} (h : stars [InR g a c B σ] w F) (hB : RdRow w (fun k => ¬ F k) 1 a B.length (B.map B8)) (hc : B.length ≤ c) (hl : B.length ≤ 40000) {most : Nat} (hm : most ≤ 255) :
    Calls Tryz.prog 148 #[.agg (List.toArray [.pointer (some ⟨g, 0, none⟩)]), .int .i64 (most : Int)] w (Post w F (fun r : Option Addr × Nat × Nat × List Dig => .slice r.1 r.2.1 r.2.2.1) (fun r => [pureR (Ag (pList pDig most) σ r.2.2.2 ∧ r.2.1 ≤ r.2.2.1 ∧ r.2.1 = r.2.2.2.length), LsR (fun _ _ => RdDig) 16 r.1 r.2.1 r.2.2.2, InR g a c B (rstep (pList pDig most) σ)])) := by
 refine g_enter (env := [(0, .agg (List.toArray [.pointer (some ⟨g, 0, none⟩)])), (1, .int .i64 (most : Int))]) Tryz.func148 rfl h Tryz.ntmps148 rfl rfl ?_; refine gsr (zbN fun b2 => ?_); refine zxa ?_; refine zxs ?_; refine ze0 fun b8 => ?_; refine zxa ?_; refine zxs ?_; refine gp zfa ?_; refine gp zl ?_; refine zxm ?_; refine zc ?_ (c := fun w1 F1 F2 h1 h2 hd hst => imany_ok (most := most) h1 (hB.mv hst.still) hc hl hm)
 rintro ⟨vx, x⟩
 refine gl_pureR (fun hp12 => ?_)
 obtain ⟨hxx, hvx, hwx⟩ := hp12; replace hxx : Ag (pNum 1) _ (x : Int) := hxx
 replace hvx : vx = x ∨ errOf (mSt most _ x) ≠ 0 := hvx
 replace hwx : vx ≤ 255 := hwx
 refine zxa ?_; refine gnt (gc_seq (gsr (zxa ?_))); refine gnt (gc_block (gc_loop (α := Nat × RSt × Option Addr × Nat × List (List Value) × List Dig) (fun y => [pureR (y.1 ≤ vx ∧ (vx = x ∨ errOf y.2.1 ≠ 0) ∧ Many pDig x (mSt most σ x) (x - y.1) y.2.1 y.2.2.2.2.2 ∧ (∀ c ∈ y.2.2.2.2.1, c.length = 16 ∧ ∀ v ∈ c, v.oneCell' = true) ∧ y.2.2.2.2.2.length = y.1 ∧ ∀ x ∈ y.2.2.2.2.2, (fun _ : Dig => True) x), rowR 38 16 y.2.2.1 y.1 y.2.2.2.1 y.2.2.2.2.1.flatten, ElR (fun _ _ => RdDig) y.2.2.2.2.1 y.2.2.2.2.2, blk b2 114 [.pointer (some ⟨g, 0, none⟩)], InR g a c B y.2.1]) (fun y => [(7, .int .i64 (y.1 : Int)), (5, .slice y.2.2.1 y.1 y.2.2.2.1)]) [13, 14, 15, 16, 17, 18, 19, 20, 21, 22, 23, 24, 25, 26, 27, 28, 29, 30] (fun y => vx - y.1) (0, (mSt most σ x), some ⟨b8, 0, none⟩, 0, [], []) ?_ ?_ ?_))
 ·refine env_start (by kernel_rfl)
 ·exact fun w' hw => zlp ⟨Nat.zero_le _, hvx, Many.start, (by intro c hc; cases hc), rfl, (by intro x hx; cases hx)⟩ (by repeat (first | exact Sel.nil | (apply Sel.cons; · (repeat (first | exact Pick.here | apply Pick.there))))) w' (hw.mapL fun F' hF' => el_nil (rd := fun _ _ => RdDig) hF')
 ·intro y u; obtain ⟨ky, τy, ay, cy, cssy, ly⟩ := y; refine gc_pureR (fun hk => ?_)
  obtain ⟨hky, hvxy, hmanyy, hcs0, hlly, hokly⟩ := hk; replace hokly : ∀ x ∈ ly, (fun _ : Dig => True) x := hokly
  replace hky : ky ≤ vx := hky
  replace hlly : ly.length = ky := hlly
  have hcs1y : ∀ c ∈ cssy, ∀ v ∈ c, v.oneCell' = true := fun c hc => (hcs0 c hc).2
  have hcssy : ∀ c ∈ cssy, c.length = 16 := fun c hc => (hcs0 c hc).1
  replace hvxy : vx = x ∨ errOf τy ≠ 0 := hvxy
  replace hmanyy : Many pDig x (mSt most σ x) (x - ky) τy ly := hmanyy
  refine gc_seq (gc_seq ?_); by_cases hkxy : ky < vx
  ·refine gc_region (zxm ?_); refine zxm ?_; refine gp (r_bool (c := true) zlt (decide_eq_true (by omega))) ?_; refine zxm ?_; refine gq zfa ?_; refine gq zl ?_; refine gq znc ?_; refine gq zfa ?_; refine gq (r_inerr rfl Ty.row_3 (by repeat (first | exact Pick.here | apply Pick.there))) ?_; refine gq zei ?_; refine gp zpk ?_; refine gnt (gif rfl (fun hc23 => ?_) (fun hc23 => ?_))
   ·try simp only at hc23
    have he2 : errOf τy = 0 := by omega
    have hvq : vx = x := hvxy.resolve_right (fun h => h he2)
    refine gc_skip (gx_then (gc_seq (gc_block (gc_region (zxm ?_))))); refine gp zL ?_; refine zc (fun v => ?_) (c := fun w1 F1 F2 h1 h2 hd hst => idigest_ok h1 (hB.mv hst.still) hc hl)
    refine gl_pureR (fun hag => ?_)
    obtain ⟨cs, hcs⟩ : ∃ cs, cs = dc v := ⟨_, rfl⟩; have hcl : cs.length = 16 := by rw [hcs]; exact dc_length _
    have hco : ∀ v ∈ cs, v.oneCell' = true := by rw [hcs]; exact dc_one _
    have hok : (fun _ : Dig => True) v := trivial
    rw [← hcs]; have i1 := Len.of hcl
    have i2 := One.of hco
    refine gl_conv (M := []) (N := [VlR (fun _ _ => RdDig) cs v]) Sel.nil (fun w F hF => vl_pure (show RdDig cs v from hcs) hF) ?_; refine zeN fun b29 => ?_; refine zapo (news := cs) (fun a30 c30 => ?_)
    refine zxa ?_; refine gl_nil (gx_block_normal (gx_then (gc_region (zxm ?_)))); refine gp zad ?_; refine zxa ?_; refine gl_nil (zrd ((ky + 1, rstep pDig τy, a30, c30, cssy ++ [cs], ly ++ [v])) ?_ ?_)
    ·show vx - (ky + 1) < vx - ky
     omega
    ·rintro w' hw
     have h1 := hw.conv (M := [ElR (fun _ _ => RdDig) cssy ly, VlR (fun _ _ => RdDig) cs v]) (by repeat (first | exact Sel.nil | (apply Sel.cons; · (repeat (first | exact Pick.here | apply Pick.there))))) (fun _ _ => el_snoc)
     refine zlq (M' := [rowR 38 16 a30 (ky + 1) c30 (cssy.flatten ++ cs), ElR (fun _ _ => RdDig) (cssy ++ [cs]) (ly ++ [v]), blk b2 114 [.pointer (some ⟨g, 0, none⟩)], InR g a c B (rstep pDig τy)]) ⟨?_, ?_, ?_, ?_, ?_, ?_⟩ (by simp) (by repeat (first | exact Sel.nil | (apply Sel.cons; · (repeat (first | exact Pick.here | apply Pick.there))))) w' h1
     ·show ky + 1 ≤ vx; omega
     ·exact .inl hvq
     ·rw [show x - ky = x - (ky + 1) + 1 by omega] at hmanyy; exact hmanyy.next hag
     ·intro c' hc'; rcases List.mem_append.1 hc' with h | h; exact ⟨hcssy c' h, hcs1y c' h⟩; rw [List.mem_singleton.1 h]; exact ⟨hcl, hco⟩
     ·simp [hlly]
     ·intro x hx; rcases List.mem_append.1 hx with h | h; exact hokly x h; (have e := List.mem_singleton.1 h; subst e; exact hok)
   ·try simp only at hc23
    have he2 : ¬ errOf τy = 0 := by omega
    refine gc_exit ?_; refine gx_then_exit ?_; refine gx_round_exit ?_; refine gx_block_hit ?_; refine gx_then (gsr (zxm ?_)); refine zxa ?_; refine gnt (gc_ret (gx_ret1 rfl (by conv => lhs; whnf) ?_)); have hcs2 : (if errOf (rstep (pNum 1) σ) = 0 ∧ most < x then failE 1 (rstep (pNum 1) σ) else rstep (pNum 1) σ) = mSt most σ x := rfl
    have hdy : rstep (pMany pDig x) (mSt most σ x) = τy ∧ Ag (pMany pDig x) (mSt most σ x) ly := by by_cases he3 : errOf τy = 0 <;> first | (have hb := hmanyy.bad he3; exact ⟨hb.1, hb.2 _⟩) | (have hvq := hvxy.resolve_right (fun h => h he3); have hm0 : x - ky = 0 := (by omega); rw [hm0] at hmanyy; exact hmanyy.done)
    have hfiny := list_fin hxx hcs2 hdy
    rw [hfiny.1]; intro w' hw; have hle := (hw.rowLe (e := 38) (size := 16) (a := ay) (m := ky) (c := cy) (xs := cssy.flatten) (by repeat (first | exact Pick.here | apply Pick.there))).1
    exact ⟨(ay, ky, cy, ly), rfl, St.pureI ⟨hfiny.2, hle, hlly.symm⟩ ((hw.conv (M := [rowR 38 16 ay ky cy cssy.flatten, ElR (fun _ _ => RdDig) cssy ly]) (by repeat (first | exact Sel.nil | (apply Sel.cons; · (repeat (first | exact Pick.here | apply Pick.there))))) (fun _ _ => ls_of hcssy)).z)⟩
  ·refine gc_region (zxm ?_); refine zxm ?_; refine gp (r_bool (c := false) zlt (decide_eq_false (by omega))) ?_; refine zxm ?_; refine gn ?_; refine gn ?_; refine gn ?_; refine gn ?_; refine gn ?_; refine gn ?_; refine gp zpk ?_; refine gnt (gc_condF rfl rfl ?_); refine gc_exit ?_; refine gx_then_exit ?_; refine gx_round_exit ?_; refine gx_block_hit ?_; refine gx_then (gsr (zxm ?_)); refine zxa ?_; refine gnt (gc_ret (gx_ret1 rfl (by conv => lhs; whnf) ?_)); have hcs2 : (if errOf (rstep (pNum 1) σ) = 0 ∧ most < x then failE 1 (rstep (pNum 1) σ) else rstep (pNum 1) σ) = mSt most σ x := rfl
   have hdy : rstep (pMany pDig x) (mSt most σ x) = τy ∧ Ag (pMany pDig x) (mSt most σ x) ly := by by_cases he3 : errOf τy = 0 <;> first | (have hb := hmanyy.bad he3; exact ⟨hb.1, hb.2 _⟩) | (have hvq := hvxy.resolve_right (fun h => h he3); have hm0 : x - ky = 0 := (by omega); rw [hm0] at hmanyy; exact hmanyy.done)
   have hfiny := list_fin hxx hcs2 hdy
   rw [hfiny.1]; intro w' hw; have hle := (hw.rowLe (e := 38) (size := 16) (a := ay) (m := ky) (c := cy) (xs := cssy.flatten) (by repeat (first | exact Pick.here | apply Pick.there))).1
   exact ⟨(ay, ky, cy, ly), rfl, St.pureI ⟨hfiny.2, hle, hlly.symm⟩ ((hw.conv (M := [rowR 38 16 ay ky cy cssy.flatten, ElR (fun _ _ => RdDig) cssy ly]) (by repeat (first | exact Sel.nil | (apply Sel.cons; · (repeat (first | exact Pick.here | apply Pick.there))))) (fun _ _ => ls_of hcssy)).z)⟩
end
end Go.Proofs.YtomdanlljfikaaaGreatDoor
