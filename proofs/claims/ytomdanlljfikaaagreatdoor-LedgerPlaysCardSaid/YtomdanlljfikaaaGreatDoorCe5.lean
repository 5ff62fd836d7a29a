/- Part 5. What is proved: see the last part: for every input the law returns true, and the input reads as it did. -/
import Derived.Test.YtomdanlljfikaaaGreatDoorCe4
namespace Go.Proofs.YtomdanlljfikaaaGreatDoor
open Go
set_option linter.unusedVariables false
set_option linter.unusedSimpArgs false
set_option linter.unusedSectionVars false
set_option maxHeartbeats 400000
section
section
variable {P : Program} {w0 : World} {F0 : Nat → Prop} {L : List Res} {Q : Exit → Act → World → Prop} {n : Fm} {env : Env}
theorem gx_retcct {fn : Func} {R : Ending → World → Prop} {t u s : Tmp} {T U : TypeId} {a b : Addr} {v x y : Value} (hr : fn.results = #[.cell t T, .cell u U, .tmp s]) (ht : ev n env (.tmp t) = .pointer (some a)) (hx : ev n env (.tmp u) = .pointer (some b)) (hy : ev n env (.tmp s) = y)
    (hl : ∀ w, St w0 F0 L w → (loadVar T a).run P w = .ok v w) (hl2 : ∀ w, St w0 F0 L w → (loadVar U b).run P w = .ok x w) (hR : ∀ w, St w0 F0 L w → R (.returned (.tuple #[v, x, y])) w) (hd : n.ds = [] := by rfl) : Gx w0 F0 L (bodyPost P fn R) .ret n env :=
  gx_end (fun w hw => by simp [results, hr, fr_tmp' ht, fr_tmp' hx, fr_tmp' hy, asAddr, hl w hw, hl2 w hw]) hR hd
theorem r_ldRow {d : Option Tmp} {ty : TypeId} {pos : String} {af : Array Edge} {gd : Option (Nat × Bool)} {x : Operand} {T e g o m c s i : Nat} {css : List (List Value)} {cs : List Value} {L' : List Res} (hx : ev n env x = .pointer (some ⟨g, o + i * s, none⟩)) (hr : rowT P T = some true) (hs : szT P T = some s)
    (hp : Pick L (rowR e s (some ⟨g, o, none⟩) m c css.flatten) L') (hcs : ∀ c ∈ css, c.length = s) (hi : css[i]? = some cs) (him : i < m) : Runs P w0 F0 L n env ⟨d, .load T x, ty, pos, af, gd⟩ (.agg cs.toArray) := r_load hx fun w hw => by
  obtain ⟨g', o', ha, _, _, hra⟩ := (hw.row hp).elem him
  cases ha
  rw [flatten_at hcs hi] at hra
  exact run_loadVar_agg hr hs (hcs cs (List.mem_of_getElem? hi)) fun j v hj => hra j v hj
end
theorem el_rd {α : Type} {rd : World → (Nat → Prop) → List Value → α → Prop} [RdK rd] {L L' : List Res} {w : World} {F1 F2 : Nat → Prop} {css : List (List Value)} {l : List α} {i : Nat} {c : List Value} {x : α} (h2 : stars L w F2) (hd : ∀ k, F1 k → ¬ F2 k) (hp : Pick L (ElR rd css l) L') (hc : css[i]? = some c) (hx : l[i]? = some x) : rd w (fun k => ¬ F1 k) c x := by
  obtain ⟨G1, G2, ⟨⟨_, h⟩, _⟩, _, hF, _⟩ := hp.stars h2
  exact RdK.mv (h i c x hc hx) fun k _ hk => ⟨rfl, fun h1 => hd k h1 ((hF k).2 (.inl hk))⟩
theorem St.el {α : Type} {rd : World → (Nat → Prop) → List Value → α → Prop} [RdK rd] {w0 w : World} {F0 : Nat → Prop} {L L' : List Res} {css : List (List Value)} {l : List α} (h : St w0 F0 L w) (hp : Pick L (ElR rd css l) L') : css.length = l.length ∧ ∀ (i : Nat) (c : List Value) (x : α), css[i]? = some c → l[i]? = some x → ∃ w A, rd w A c x := by
  obtain ⟨F, hF, _⟩ := h
  obtain ⟨F1, ⟨⟨h1, h2⟩, _⟩, _⟩ := stars_pick hp hF
  exact ⟨h1, fun i c x hc hx => ⟨w, F1, h2 i c x hc hx⟩⟩
theorem rec_bs {r : LRec} (h : r.Ok) : allE pBlock blk0 r.bs = (0, r.b) := allE_ok (block_enc h.eb)
theorem rec_cs {r : LRec} (h : r.Ok) : allE pBlock blk0 r.cs = (0, certB r.c) := allE_ok (block_enc h.ec)
theorem vl_just {cs : List Value} {c : QC} {w : World} {F : Nat → Prop} (h : stars [VlR RdBlock cs (certB c)] w F) : stars [VlR RdQC ((cs.drop 18).take 19) c] w F := rdR_mk (show RdQC w F _ c from rd_just (stars_one' h).1) h
def blkAt (rs : List LRec) (i : Nat) : Block := (rs[i]?.map (·.b)).getD blk0
theorem blkAt_eq {rs : List LRec} {i : Nat} {r : LRec} (h : rs[i]? = some r) : blkAt rs i = r.b := by rw [blkAt, h]; rfl
def findL (id : Dig) : Nat → List LRec → Int
  | _, [] => -1
  | k, r :: l => if idOf r.b = id then (k : Int) else findL id (k + 1) l
theorem findL_at {id : Dig} : ∀ (rs : List LRec) (k j : Nat), (∀ i, i < j → ∀ r, rs[i]? = some r → idOf r.b ≠ id) → j ≤ rs.length → findL id k rs = findL id (k + j) (rs.drop j)
  | [], k, j, _, hj => by have : j = 0 := by simpa using hj
                          subst this; rfl
  | r :: l, k, 0, _, _ => rfl
  | r :: l, k, j + 1, h, hj => by
    have h0 := h 0 (by omega) r rfl
    rw [findL, if_neg h0, List.drop_succ_cons, findL_at l (k + 1) j (fun i hi r' hr => h (i + 1) (by omega) r' (by simpa using hr)) (by simpa using hj), show k + 1 + j = k + (j + 1) by omega]
theorem findL_hit {id : Dig} {rs : List LRec} {j : Nat} {r : LRec} (h : ∀ i, i < j → ∀ r, rs[i]? = some r → idOf r.b ≠ id) (hr : rs[j]? = some r) (he : idOf r.b = id) : findL id 0 rs = (j : Int) := by
  have hlt := (List.getElem?_eq_some_iff.1 hr).1
  rw [findL_at rs 0 j h (by omega), Nat.zero_add]
  have : rs.drop j = r :: rs.drop (j + 1) := by rw [List.drop_eq_getElem_cons hlt, (List.getElem?_eq_some_iff.1 hr).2]
  rw [this, findL, if_pos he]
theorem findL_miss {id : Dig} {rs : List LRec} (h : ∀ i, i < rs.length → ∀ r, rs[i]? = some r → idOf r.b ≠ id) : findL id 0 rs = -1 := by
  rw [findL_at rs 0 rs.length h (Nat.le_refl _), List.drop_length]; rfl
attribute [local irreducible] Gl Gc Gx Gs Runs Wt
attribute [local irreducible] dc RdRec RdBlock RdQC blkC qcC allE
theorem get_some {w : World} {F : Nat → Prop} {q g : Nat} {l : LS} (h : stars [LedR q g l] w F) {ea : Nat → Addr} {es : List Nat} [Has es 1] [Has es 2] [Has es 3] [Has es 4] (hE : GErr es w (fun k => ¬ F k) 261 ea) {i : Nat} {r : LRec} (hr : l.rs[i]? = some r) (hok : r.Ok) :
    Calls Tryz.prog 18 #[.pointer (some ⟨q, 0, none⟩), .int .i64 (i : Int)] w (Post w F (fun x : List Value × List Value => .tuple #[.agg x.1.toArray, .agg x.2.toArray, eV 261 ea 0]) (fun x => [pureR ((x.1.length = 39 ∧ ∀ v ∈ x.1, v.oneCell' = true) ∧ x.2.length = 19 ∧ ∀ v ∈ x.2, v.oneCell' = true), VlR RdBlock x.1 r.b, VlR RdQC x.2 r.c, LedR q g l])) := by
 obtain ⟨a0, m0, css, h18, h⟩ := led_open h; have hil : i < l.rs.length := (List.getElem?_eq_some_iff.1 hr).1
 have hbl := bs_len r
 have hcl := cs_len r
 refine g_enter (env := [(0, .pointer (some ⟨q, 0, none⟩)), (1, .int .i64 (i : Int))]) Tryz.func18 rfl h Tryz.ntmps18 rfl rfl ?_; refine gsr (zal fun b4 => ?_); refine zal fun b5 => ?_; refine zxa ?_; refine gnt (gc_seq (gsr (zxm ?_))); refine gp (r_bool (c := false) zlt (decide_eq_false (by omega))) ?_; refine zxm ?_; refine gq zmv ?_; refine gq zmv ?_; refine gq znc ?_; refine gq zfa ?_; refine gq zl ?_; refine gq zln ?_; refine gq (r_bool (c := false) zge (decide_eq_false (by omega))) ?_; refine gp zpk ?_; refine gnt (gc_condF rfl rfl ?_); refine gc_skip (gx_then (gsr (gl_fact (fun w' hw => St.el (rd := RdRec) hw (by repeat (first | exact Pick.here | apply Pick.there))) (fun hel => ?_))))
 obtain ⟨hlen, hel⟩ := hel; have hci : css[i]? = some (css[i]'(by omega)) := List.getElem?_eq_getElem (by omega)
 generalize hcse : css[i]'(by omega) = ce at hci
 have hl18 := h18 ce (List.mem_of_getElem? hci)
 obtain ⟨wv, A, hrd⟩ := hel i ce r hci hr; unfold RdRec at hrd
 obtain ⟨a1, n1, c1, a2, n2, c2, rfl, k1, k2, hb1, hb2⟩ := hrd; have hn1 : n1 = r.bs.length := by have := hb1.1; simp at this; omega
 have hn2 : n2 = r.cs.length := by have := hb2.1; simp at this; omega
 refine gl_fact (fun w' hw => St.rowAt (hw.sel (M := [rowR 92 18 a0 l.rs.length m0 css.flatten]) (by repeat (first | exact Sel.nil | (apply Sel.cons; · (repeat (first | exact Pick.here | apply Pick.there)))))) .here (by omega)) (fun hra => ?_)
 obtain ⟨_, gr, or_, ha⟩ := hra; subst ha; refine zxm ?_; refine gp znc ?_; refine gp zfa ?_; refine gp zl ?_; refine zxm ?_; refine gp (r_val (v' := .pointer (some ⟨gr, or_ + i * 18, none⟩)) zia (by simp)) ?_; refine gp (r_ldRow (i := i) rfl Ty.row_92 Ty.sz_92 (by repeat (first | exact Pick.here | apply Pick.there)) h18 hci hil) ?_; refine zal fun b7 => ?_; refine zsN ?_; refine zxs ?_; refine gp zfa ?_; refine gp zl ?_; refine zc (fun q35 => ?_) (c := fun w1 F1 F2 h1 h2 hd hst => readBlock_ok (b := r.bs) h1 (hE.mv hst.still) (rd_rows (el_rd h2 hd (by repeat (first | exact Pick.here | apply Pick.there)) hci hr)).1 (by omega))
 refine gl_pureR (fun hq35 => ?_)
 obtain ⟨hl35, ho35⟩ := hq35; replace hl35 : q35.length = 39 := hl35
 have i35 := Len.of hl35
 have j35 := One.of (show ∀ v ∈ q35, v.oneCell' = true from ho35)
 rw [rec_bs hok]; refine zxm ?_; refine gp zex ?_; refine gp zex ?_; refine zal fun b8 => ?_; refine zsN ?_; refine zxa ?_; refine gnt (gc_seq (gsr (zxm ?_))); refine gp (r_bool (c := false) (r_nenil rfl (by kernel_rfl)) rfl) ?_; refine gnt (gc_condF rfl rfl ?_); refine gc_skip (gx_then (gsr (gp zfa ?_))); refine gp zl ?_; refine zc (fun q46 => ?_) (c := fun w1 F1 F2 h1 h2 hd hst => readBlock_ok (b := r.cs) h1 (hE.mv hst.still) (rd_rows (el_rd h2 hd (by repeat (first | exact Pick.here | apply Pick.there)) hci hr)).2.1 (by omega))
 refine gl_pureR (fun hq46 => ?_)
 obtain ⟨hl46, ho46⟩ := hq46; replace hl46 : q46.length = 39 := hl46
 have i46 := Len.of hl46
 have j46 := One.of (show ∀ v ∈ q46, v.oneCell' = true from ho46)
 rw [rec_cs hok]; have i51 := Len.of (show ((q46.drop 18).take 19).length = 19 by rw [List.length_take, List.length_drop]; omega)
 have j51 := One.of (show ∀ v ∈ (q46.drop 18).take 19, v.oneCell' = true from fun v hv => ho46 v (List.mem_of_mem_drop (List.mem_of_mem_take hv)))
 refine zxm ?_; refine gp zex ?_; refine gp zex ?_; refine zal fun b10 => ?_; refine zsN ?_; refine zxa ?_; refine gnt (gc_seq (gc_regionZ 6 ([blk b8 45 q35, blk b10 45 q46]) ?_)); refine yps 0 rfl (zLa (cs := q35)) ?_; refine yps 1 rfl zfa ?_; refine yps 2 rfl (zL (sg := (q46.drop 18).take 19) (hg := rfl)) ?_; refine yps 3 rfl zmv ?_; refine yos 4 rfl ?_; refine zsN ?_; refine yxs ?_; refine yos 5 rfl ?_; refine zsN ?_; refine yxs ?_; refine yzs rfl ?_; refine zxa ?_; refine gnt (gc_ret (gx_retcct rfl rfl rfl (by conv => lhs; whnf) (ldA Ty.row_45 Ty.sz_45) (ldA Ty.row_41 Ty.sz_41) ?_))
 intro w' hw; have hw2 := hw.conv (M := [VlR RdBlock q46 (certB r.c)]) (by repeat (first | exact Sel.nil | (apply Sel.cons; · (repeat (first | exact Pick.here | apply Pick.there))))) (fun _ _ => vl_just)
 exact ⟨(q35, (q46.drop 18).take 19), rfl, (St.led (L := [pureR ((q35.length = 39 ∧ ∀ v ∈ q35, v.oneCell' = true) ∧ ((q46.drop 18).take 19).length = 19 ∧ ∀ v ∈ (q46.drop 18).take 19, v.oneCell' = true), VlR RdBlock q35 r.b, VlR RdQC ((q46.drop 18).take 19) r.c]) ((St.pureI (p := ((q35.length = 39 ∧ ∀ v ∈ q35, v.oneCell' = true) ∧ ((q46.drop 18).take 19).length = 19 ∧ ∀ v ∈ (q46.drop 18).take 19, v.oneCell' = true)) ⟨⟨hl35, ho35⟩, Len.h, One.h⟩ hw2).sel (M := ledL q g l.base l.e _ l.rs.length m0 css l.rs [pureR ((q35.length = 39 ∧ ∀ v ∈ q35, v.oneCell' = true) ∧ ((q46.drop 18).take 19).length = 19 ∧ ∀ v ∈ (q46.drop 18).take 19, v.oneCell' = true), VlR RdBlock q35 r.b, VlR RdQC ((q46.drop 18).take 19) r.c]) (by repeat (first | exact Sel.nil | (apply Sel.cons; · (repeat (first | exact Pick.here | apply Pick.there)))))) h18 rfl rfl rfl rfl).z⟩
theorem get_none {w : World} {F : Nat → Prop} {q g : Nat} {l : LS} (h : stars [LedR q g l] w F) {ea : Nat → Addr} {es : List Nat} [Has es 9] (hE : GErr es w (fun k => ¬ F k) 261 ea) {i : Int} (hr : i < 0 ∨ (l.rs.length : Int) ≤ i) :
    Calls Tryz.prog 18 #[.pointer (some ⟨q, 0, none⟩), .int .i64 i] w (Post w F (fun _ : Unit => .tuple #[.agg blkC.toArray, .agg qcC.toArray, eV 261 ea 9]) (fun _ => [LedR q g l])) := by
 obtain ⟨a0, m0, css, h18, h⟩ := led_open h; refine g_enter (env := [(0, .pointer (some ⟨q, 0, none⟩)), (1, .int .i64 i)]) Tryz.func18 rfl h Tryz.ntmps18 rfl rfl ?_; refine gsr (zal fun b4 => ?_); refine gl_eqc (cs' := blkC) (by repeat (first | exact Pick.here | apply Pick.there)) (by kernel_rfl) ?_; refine zal fun b5 => ?_; refine gl_eqc (cs' := qcC) (by repeat (first | exact Pick.here | apply Pick.there)) (by kernel_rfl) ?_; refine zxa ?_; refine gnt (gc_seq (gc_seq ?_)); by_cases hi0 : i < 0
 ·refine gc_region (zxm ?_); refine gp (r_bool (c := true) zlt (decide_eq_true hi0)) ?_; refine zxm ?_; refine gn ?_; refine gn ?_; refine gn ?_; refine gn ?_; refine gn ?_; refine gn ?_; refine gn ?_; refine gp zpk ?_; refine gnt (gc_condT rfl rfl ?_); refine gc_seq (gc_regionZ 5 [] ?_); refine yps 0 rfl zbu ?_; refine yps 1 rfl zbu ?_; refine yps 2 rfl (r_ld1o rfl Ty.row_27 (hE.c 9 Has.h) (hE.n 9 Has.h)) ?_; refine yos 3 rfl ?_; refine zsN ?_; refine yxs ?_; refine yos 4 rfl ?_; refine zsN ?_; refine yxs ?_; refine yzs rfl ?_; refine zxa ?_; refine gnt (gc_ret (gx_then_ret (gx_retcct rfl rfl rfl (by conv => lhs; whnf) (ldA Ty.row_45 Ty.sz_45) (ldA Ty.row_41 Ty.sz_41) ?_)))
  exact fun w' hw => ⟨(), by kernel_rfl, St.led (hw.z) h18 rfl rfl rfl rfl⟩
 ·refine gc_region (zxm ?_); refine gp (r_bool (c := false) zlt (decide_eq_false hi0)) ?_; refine zxm ?_; refine gq zmv ?_; refine gq zmv ?_; refine gq znc ?_; refine gq zfa ?_; refine gq zl ?_; refine gq zln ?_; refine gq (r_bool (c := true) zge (decide_eq_true (by omega))) ?_; refine gp zpk ?_; refine gnt (gc_condT rfl rfl ?_); refine gc_seq (gc_regionZ 5 [] ?_); refine yps 0 rfl zbu ?_; refine yps 1 rfl zbu ?_; refine yps 2 rfl (r_ld1o rfl Ty.row_27 (hE.c 9 Has.h) (hE.n 9 Has.h)) ?_; refine yos 3 rfl ?_; refine zsN ?_; refine yxs ?_; refine yos 4 rfl ?_; refine zsN ?_; refine yxs ?_; refine yzs rfl ?_; refine zxa ?_; refine gnt (gc_ret (gx_then_ret (gx_retcct rfl rfl rfl (by conv => lhs; whnf) (ldA Ty.row_45 Ty.sz_45) (ldA Ty.row_41 Ty.sz_41) ?_)))
  exact fun w' hw => ⟨(), by kernel_rfl, St.led (hw.z) h18 rfl rfl rfl rfl⟩
theorem find1_ok {w : World} {F : Nat → Prop} {cs : List Value} {a id : Dig} {t : List Value} {bi : Nat} (h : stars [blk bi 38 (dc id)] w F) (hc : cs = dc a ++ t) (hl : cs.length = 18) (ho : ∀ v ∈ cs, v.oneCell' = true) :
    Calls Tryz.prog 84 #[.agg cs.toArray, .pointer (some ⟨bi, 0, none⟩)] w (Post w F (fun _ : Unit => .bool (decide (a = id))) (fun _ => [blk bi 38 (dc id)])) := by
 have il := Len.of hl
 have jl := One.of ho
 refine g_enter (env := [(0, .agg cs.toArray), (1, .pointer (some ⟨bi, 0, none⟩))]) Tryz.func84 rfl h Tryz.ntmps84 rfl rfl ?_; refine gsr (zbN fun b2 => ?_); refine zxa ?_; refine zxs ?_; subst hc; have hlt : t.length = 2 := by simp [dc_length] at hl; omega
 have ilt := Len.of hlt
 refine gp zfa ?_; refine gp zL ?_; refine gp zL ?_; refine gp zed ?_; refine zxa ?_; refine gnt (gc_ret (gx_ret1 rfl (by conv => lhs; whnf) ?_)); exact ze ()
theorem indexFunc_ok {w : World} {F : Nat → Prop} {a : Option Addr} {n c bi : Nat} {id : Dig} {rs : List LRec} (h : stars [blk bi 38 (dc id)] w F) (hx : RdList (RdRec w (fun k => ¬ F k)) w (fun k => ¬ F k) 18 a n rs) :
    Calls Tryz.prog 83 #[.slice a n c, .func (.func 84) #[] #[.pointer (some ⟨bi, 0, none⟩)]] w (Post w F (fun _ : Unit => .int .i64 (findL id 0 rs)) (fun _ => [blk bi 38 (dc id)])) := by
 have hn := hx.len (by decide)
 have hmx := hx.max
 simp only [maxLen] at hmx
 refine g_enter (env := [(0, .slice a n c), (1, .func (.func 84) #[] #[.pointer (some ⟨bi, 0, none⟩)])]) Tryz.func83 rfl h Tryz.ntmps83 rfl rfl ?_; refine gsr (zxa ?_); refine gnt (gc_seq (gsr (zxm ?_))); refine gp zln ?_; refine zxm ?_; refine gnt (gc_block (gc_loop (α := Nat) (fun k => [pureR (k ≤ n ∧ ∀ i, i < k → ∀ r, rs[i]? = some r → idOf r.b ≠ id), blk bi 38 (dc id)]) (fun k => [(8, .int .i64 (k : Int))]) [4, 5, 9, 10, 11, 12, 13, 14, 15, 16, 17, 18] (fun k => n - k) 0 ?_ ?_ ?_))
 ·refine env_start (by kernel_rfl)
 ·exact zlp ⟨Nat.zero_le _, fun i hi => absurd hi (Nat.not_lt_zero _)⟩
 ·intro k u; refine gc_pureR (fun hk => ?_)
  replace hk : k ≤ n ∧ ∀ i, i < k → ∀ r, rs[i]? = some r → idOf r.b ≠ id := hk
  refine gsr (gp zlt ?_); refine gnt (gc_seq (gif rfl (fun hc9 => ?_) (fun hc9 => ?_)))
  ·try simp only at hc9
   have hk' : k < n := by omega
   obtain ⟨ga, oa, ce, r, ha, hA, _, hra, hl18, hr, hrd⟩ := hx.elem (i := k) (by decide) hk'; subst ha; have ho18 := hrd.one
   have hrd2 := hrd
   unfold RdRec at hrd2
   obtain ⟨a1, n1, c1, a2, n2, c2, hce, _⟩ := hrd2; refine gc_skip (gx_then (gc_seq (gc_block (gsr (zxm ?_))))); refine zxa ?_; refine zxs ?_; refine zxm ?_; refine zxm ?_; refine zxm ?_; refine gp (r_val (v' := .pointer (some ⟨ga, oa + k * 18, none⟩)) zia (by simp)) ?_; refine gp (r_ldNo (seg := ce) rfl Ty.row_92 Ty.sz_92 hra hl18 (by decide) hA) ?_; refine gl_call (wt0 rfl) (e_callv (us := [.pointer (some ⟨bi, 0, none⟩)]) rfl Ty.call_84 rfl) (by repeat (first | exact Sel.nil | (apply Sel.cons; · (repeat (first | exact Pick.here | apply Pick.there))))) (fun w1 F1 F2 h1 h2 hd hst => find1_ok (a := idOf r.b) (id := id) h1 hce hl18 ho18) ?_; intro _; refine gnt (gif rfl (fun hc16 => ?_) (fun hc16 => ?_))
   ·try simp only at hc16
    have hf := findL_hit hk.2 hr (by simpa using hc16)
    refine gsr (zxm ?_); refine zxa ?_; refine gnt (gc_ret (gx_block_ret ?_)); refine gx_then_ret (gx_round_ret ?_); refine gx_block_ret ?_; refine gx_then_ret (gx_ret1 rfl (by conv => lhs; whnf) ?_); exact fun w' hw => ⟨(), by rw [hf], hw.z⟩
   ·refine gc_skip (gx_block_normal (gx_then (gc_region (gp zad ?_)))); refine zxm ?_; refine gl_nil (zrd (k + 1) ?_ ?_)
    ·show n - (k + 1) < n - k
     omega
    ·exact zlp (show k + 1 ≤ n ∧ ∀ i, i < k + 1 → ∀ r, rs[i]? = some r → idOf r.b ≠ id from ⟨by omega, fun i hi r' hr' => (by by_cases h' : i < k; exact hk.2 i h' r' hr'; (obtain rfl : i = k := by omega); rw [hr] at hr'; cases hr'; simpa using hc16)⟩)
  ·try simp only at hc9
   have hk' : k = n := by omega
   have hf := findL_miss (id := id) (rs := rs) (fun i hi => hk.2 i (by omega))
   refine gc_exit ?_; refine gx_then_exit ?_; refine gx_round_exit ?_; refine gx_block_hit ?_; refine gx_then (gsr (zxa ?_)); refine gnt (gc_ret (gx_ret1 rfl (by conv => lhs; whnf) ?_)); exact fun w' hw => ⟨(), by rw [hf], hw.z⟩
end
section
def allE_ (i : Nat) (x : List Value) : Array Value := #[.int .i64 (i : Int), .agg x.toArray]
def allG (rs : List LRec) (i : Nat) (x : List Value) : List Res := [pureR (i < rs.length ∧ x.length = 39 ∧ ∀ v ∈ x, v.oneCell' = true), VlR RdBlock x (blkAt rs i)]
attribute [local irreducible] Gl Gc Gx Gs Runs Wt
attribute [local irreducible] dc RdRec RdBlock RdQC blkC qcC allE
theorem find_ok {w : World} {F : Nat → Prop} {q g : Nat} {l : LS} {id : Dig} (h : stars [LedR q g l] w F) :
    Calls Tryz.prog 50 #[.pointer (some ⟨q, 0, none⟩), .agg (dc id).toArray] w (Post w F (fun _ : Unit => .int .i64 (findL id 0 l.rs)) (fun _ => [LedR q g l])) := by
 obtain ⟨a0, m0, css, h18, h⟩ := led_open h; refine g_enter (env := [(0, .pointer (some ⟨q, 0, none⟩)), (1, .agg (dc id).toArray)]) Tryz.func50 rfl h Tryz.ntmps50 rfl rfl ?_; refine gsr (zbN fun b3 => ?_); refine zxa ?_; refine zxs ?_; refine zxm ?_; refine gp znc ?_; refine gp zfa ?_; refine gp zl ?_; refine gp zmf ?_; refine gl_fact (fun w' hw => (St.el (rd := RdRec) hw (by repeat (first | exact Pick.here | apply Pick.there))).1) (fun hlen => ?_)
 refine zc (fun _ => ?_) (c := fun w1 F1 F2 h1 h2 hd hst => indexFunc_ok (id := id) (rs := l.rs) h1 ⟨css, rd_row h2 hd (by repeat (first | exact Pick.here | apply Pick.there)), h18, hlen, fun i c x hc hx => el_rd (rd := RdRec) h2 hd (by repeat (first | exact Pick.here | apply Pick.there)) hc hx⟩)
 refine zxa ?_; refine gnt (gc_ret (gx_ret1 rfl (by conv => lhs; whnf) ?_)); exact fun w' hw => ⟨(), rfl, St.led (hw.z) h18 rfl rfl rfl rfl⟩
theorem all_ok {w : World} {F : Nat → Prop} {q : Nat} (h : stars [] w F) :
    Calls Tryz.prog 51 #[.pointer (some ⟨q, 0, none⟩)] w (Post w F (fun b : Nat => .func (.func 85) #[] #[.pointer (some ⟨b, 0, none⟩)]) (fun b => [blk b 30 [.pointer (some ⟨q, 0, none⟩)]])) := by
 refine g_enter (env := [(0, .pointer (some ⟨q, 0, none⟩))]) Tryz.func51 rfl h Tryz.ntmps51 rfl rfl ?_; refine gsr (zb1 fun b1 => ?_); refine zxa ?_; refine zxs ?_; refine gp zmf ?_; refine zxa ?_; refine gnt (gc_ret (gx_ret1 rfl (by conv => lhs; whnf) ?_)); exact ze b1
theorem all1_ok {w : World} {F : Nat → Prop} {q g : Nat} {l : LS} {bx lp : Nat} {J : Nat → Res} {Jx : Res} (h : stars [blk bx 30 [.pointer (some ⟨q, 0, none⟩)], LedR q g l, J 0] w F) {ea : Nat → Addr} {es : List Nat} [Has es 1] [Has es 2] [Has es 3] [Has es 4] (hE : GErr es w (fun k => ¬ F k) 261 ea) (hok : ∀ r ∈ l.rs, r.Ok) (hln : l.rs.length < 4294967296) (hy : RoundsAt Tryz.prog lp allE_ (allG l.rs) J Jx w F) :
    Calls Tryz.prog 85 #[.func (.yield lp) #[] #[], .pointer (some ⟨bx, 0, none⟩)] w (Post w F (fun _ : Bool => .tuple #[]) (fun y => (match allOr l.rs.length y with | some m => J m | none => Jx) :: [blk bx 30 [.pointer (some ⟨q, 0, none⟩)], LedR q g l])) := by
 refine g_enter (env := [(0, .func (.yield lp) #[] #[]), (1, .pointer (some ⟨bx, 0, none⟩))]) Tryz.func85 rfl h Tryz.ntmps85 rfl rfl ?_; refine gsr (gl_led (by repeat (first | exact Pick.here | apply Pick.there)) (fun a0 m0 css h18 => ?_))
 refine gp zl ?_; refine gp znc ?_; refine gp zfa ?_; refine gp zl ?_; refine gp zln ?_; refine gl_cz (M := [blk q 99 [.pointer (some ⟨g, 0, none⟩), .int .i64 l.base, .int .i64 l.e, .slice a0 l.rs.length m0], rowR 92 18 a0 l.rs.length m0 css.flatten, ElR RdRec css l.rs]) (N := [LedR q g l]) (fun w' F' hh => ?_) ?_
 ·exact stars_ex_mk ((a0, m0), css) (stars_all_mk (stars_pure_mk h18 hh))
 refine zxm ?_; refine gnt (gc_block (gc_loop (α := Nat) (fun k => [pureR (k ≤ l.rs.length), blk bx 30 [.pointer (some ⟨q, 0, none⟩)], LedR q g l, J k]) (fun k => [(12, .int .i64 (k : Int))]) [3, 4, 5, 6, 13, 14, 15, 16, 17, 18, 19, 20, 21, 22, 23, 24, 25, 26, 27, 28, 29, 30, 31] (fun k => l.rs.length - k) 0 ?_ ?_ ?_))
 ·refine env_start (by kernel_rfl)
 ·exact zlp (Nat.zero_le _)
 ·intro k u; refine gc_pureR (fun hk => ?_)
  replace hk : k ≤ l.rs.length := hk
  refine gsr (gp zlt ?_); refine gnt (gc_seq (gif rfl (fun hc13 => ?_) (fun hc13 => ?_)))
  ·try simp only at hc13
   have hk' : k < l.rs.length := by omega
   have hr : l.rs[k]? = some (l.rs[k]'hk') := List.getElem?_eq_getElem hk'
   have hrk := hok _ (List.mem_of_getElem? hr)
   refine gc_skip (gx_then (gc_seq (gc_block (gsr (zxm ?_))))); refine zxa ?_; refine zxs ?_; refine gp zl ?_; refine zxm ?_; refine zc ?_ (c := fun w1 F1 F2 h1 h2 hd hst => get_some (i := k) h1 (hE.mv hst.still) hr hrk)
   rintro ⟨x, y⟩
   refine gl_pureR (fun hxy => ?_)
   obtain ⟨⟨hlx, hox⟩, hly, hoy⟩ := hxy; replace hlx : x.length = 39 := hlx
   replace hly : y.length = 19 := hly
   have ix := Len.of hlx
   have jx := One.of (show ∀ v ∈ x, v.oneCell' = true from hox)
   have iy := Len.of hly
   have jy := One.of (show ∀ v ∈ y, v.oneCell' = true from hoy)
   rw [← blkAt_eq hr]; refine zxm ?_; refine gp zex ?_; refine gp zex ?_; refine gp zex ?_; refine zal fun b4 => ?_; refine zal fun b5 => ?_; refine zsN ?_; refine zsN ?_; refine zxa ?_; refine zxs ?_; refine zxm ?_; refine gp (r_bool (c := false) (r_nenil rfl (by kernel_rfl)) rfl) ?_; refine zxm ?_; refine gq zmv ?_; refine gq zmv ?_; refine gq (zLa (cs := x)) ?_; refine gl_pI (p := k < l.rs.length ∧ x.length = 39 ∧ ∀ v ∈ x, v.oneCell' = true) ⟨hk', hlx, hox⟩ ?_; refine gyd hy k x rfl (by repeat (first | exact Sel.nil | (apply Sel.cons; · (repeat (first | exact Pick.here | apply Pick.there))))) (fun x28 => ?_) (hw := wtgT rfl rfl rfl rfl)
   rcases x28 with _ | _
   ·refine gq znt ?_; refine gp zpk ?_; refine gnt (gc_condT rfl rfl ?_); refine gc_ret (gx_block_ret ?_); refine gx_then_ret (gx_round_ret ?_); refine gx_block_ret ?_; refine gx_ret0 rfl ?_; exact ze false
   ·refine gq znt ?_; refine gp zpk ?_; refine gnt (gc_condF rfl rfl ?_); refine gc_skip (gx_block_normal (gx_then (gc_region (gp zad ?_)))); refine zxm ?_; refine gl_nil (zrd (k + 1) ?_ ?_)
    ·show l.rs.length - (k + 1) < l.rs.length - k
     omega
    ·exact zlp (show k + 1 ≤ l.rs.length by omega)
  ·try simp only at hc13
   have hk' : k = l.rs.length := by omega
   subst hk'; refine gc_exit ?_; refine gx_then_exit ?_; refine gx_round_exit ?_; refine gx_block_hit ?_; refine gx_ret0' rfl ?_; exact ze true
theorem all1_it {w : World} {F : Nat → Prop} {q g : Nat} {l : LS} {bx lp : Nat} {J : Nat → Res} {Jx : Res} (h : stars [blk bx 30 [.pointer (some ⟨q, 0, none⟩)], LedR q g l, J 0] w F) {ea : Nat → Addr} {es : List Nat} [Has es 1] [Has es 2] [Has es 3] [Has es 4] (hE : GErr es w (fun k => ¬ F k) 261 ea) (hok : ∀ r ∈ l.rs, r.Ok) (hln : l.rs.length < 4294967296) :
    IterAt Tryz.prog 85 #[.pointer (some ⟨bx, 0, none⟩)] allE_ (allG l.rs) (allOr l.rs.length) (fun _ => [blk bx 30 [.pointer (some ⟨q, 0, none⟩)], LedR q g l]) (fun _ : Bool => .tuple #[]) lp J Jx w F := fun hy => by
  have h2 := all1_ok h hE hok hln hy
  exact h2
end
section
structure Calm (d : DS) : Prop where
  ar : d.armed = false
  on : d.off = false
  ok : DOk d
theorem at_write {d : DS} {i j : Nat} {v : Sec} : (d.write (i : Int) v).at j = if j = i then v else d.at j := by
  simp only [DS.at, DS.write, lookW_put]
  by_cases h : j = i
  · subst h; simp
  · rw [if_neg h, if_neg (by omega)]
theorem at_sync {d : DS} {j : Nat} : d.sync.at j = d.at j := rfl
theorem Calm.wr {d : DS} (h : Calm d) {i : Nat} {v : Sec} (hi : i < d.n) : d.wr (i : Int) v = (0, d.write (i : Int) v) ∧ Calm (d.write (i : Int) v) :=
  ⟨wr_calm h.ar h.on (has_iff.2 ⟨by omega, by omega⟩), h.ar, h.on, write_ok h.ok (by omega) (by omega)⟩
theorem Calm.sync {d : DS} (h : Calm d) : d.syncd = d.sync ∧ Calm d.sync ∧ (oper d).off = false := ⟨syncd_calm h.ar h.on, ⟨h.ar, h.on, sync_ok h.ok⟩, by rw [oper_calm h.ar]; exact h.on⟩
theorem wdat_calm {d : DS} (h : Calm d) (e : Nat) (x : List UInt8) : ∀ i, e + 1 + i ≤ d.n → (wdat d e x i).1 = 0 ∧ Calm (wdat d e x i).2 ∧ (wdat d e x i).2.n = d.n ∧ ∀ j, (wdat d e x i).2.at j = if e + 1 ≤ j ∧ j < e + 1 + i then secData x (j - (e + 1)) else d.at j
  | 0, _ => ⟨rfl, h, rfl, fun j => by rw [if_neg (by omega), wdat_zero]⟩
  | i + 1, hi => by
    obtain ⟨h0, hc, hn, ha⟩ := wdat_calm h e x i (by omega)
    obtain ⟨hw, hc2⟩ := hc.wr (i := e + 1 + i) (v := secData x i) (by omega)
    rw [wdat_step h0, hw]
    refine ⟨rfl, hc2, hn, fun j => ?_⟩
    show ((wdat d e x i).2.write ((e + 1 + i : Nat) : Int) (secData x i)).at j = _
    rw [at_write, ha]
    by_cases h1 : j = e + 1 + i
    · subst h1; rw [if_pos rfl, if_pos (by omega), Nat.add_sub_cancel_left]
    · rw [if_neg h1]
      by_cases h2 : e + 1 ≤ j ∧ j < e + 1 + i
      · rw [if_pos h2, if_pos (by omega)]
      · rw [if_neg h2, if_neg (by omega)]
def appF (d : DS) (l : LS) (r : LRec) (j : Nat) : Sec :=
  if j = l.e then headL l.rs.length r.data else if j = l.e + lenR r then sec0 else if l.e + 1 ≤ j ∧ j < l.e + lenR r then secData r.data (j - (l.e + 1)) else d.at j
def LS.add (l : LS) (r : LRec) : LS := ⟨l.base, l.rs ++ [r], l.e + lenR r⟩
theorem appD_calm {d : DS} {l : LS} {r : LRec} (h : Calm d) (hf : nsec r.data.length + 2 ≤ d.n - l.e) : ∃ d', appD d l r = (0, d', l.add r) ∧ Calm d' ∧ d'.n = d.n ∧ d'.ws = [] ∧ ∀ j, d'.at j = appF d l r j := by
  have hl : lenR r = 1 + nsec r.data.length := rfl
  obtain ⟨h0, hc, hn, ha⟩ := wdat_calm h l.e r.data (nsec r.data.length) (by omega)
  obtain ⟨d1, hd1⟩ : ∃ d1, d1 = (wdat d l.e r.data (nsec r.data.length)).2 := ⟨_, rfl⟩
  rw [← hd1] at hc hn ha
  obtain ⟨hw2, hc2⟩ := hc.wr (i := l.e + lenR r) (v := sec0) (by omega)
  obtain ⟨hs3, hc3, ho3⟩ := hc2.sync
  obtain ⟨hw4, hc4⟩ := hc3.wr (i := l.e) (v := headL l.rs.length r.data) (by show l.e < d1.n; omega)
  obtain ⟨hs5, hc5, ho5⟩ := hc4.sync
  refine ⟨_, ?_, hc5, hn, rfl, fun j => ?_⟩
  · unfold appD
    rw [if_pos h0, ← hd1]
    unfold appE
    rw [hw2, if_pos rfl]
    unfold appM
    rw [if_neg (by rw [ho3]; decide), hs3]
    unfold appH
    rw [hw4, if_pos rfl]
    unfold appS
    rw [if_neg (by rw [ho5]; decide), hs5]
    rfl
  · rw [at_sync, at_write, at_sync, at_write, ha]
    unfold appF
    by_cases h1 : j = l.e
    · rw [if_pos h1, if_pos h1]
    · rw [if_neg h1, if_neg h1]
      by_cases h2 : j = l.e + lenR r
      · rw [if_pos h2, if_pos h2]
      · rw [if_neg h2, if_neg h2, hl, show l.e + (1 + nsec r.data.length) = l.e + 1 + nsec r.data.length by omega]
structure LInv (d : DS) (l : LS) (bs : Nat) : Prop where
  ba : l.base = (bs : Int)
  lo : LOk d.at bs l.rs
  e : l.e = bs + tot l.rs
  lt : l.e < d.n
theorem tot_snoc (rs : List LRec) (r : LRec) : tot (rs ++ [r]) = tot rs + lenR r := by simp [tot]
theorem secsR_at {h i : Nat} {r : LRec} (hi : i < nsec r.data.length) : (secsR h r).getD (i + 1) sec0 = secData r.data i := by
  simp [secsR, List.getD, hi]
theorem LInv.add {d d' : DS} {l : LS} {bs : Nat} {r : LRec} (h : LInv d l bs) (hr : r.Ok) (hf : nsec r.data.length + 2 ≤ d.n - l.e) (hn : d'.n = d.n) (ha : ∀ j, d'.at j = appF d l r j) : LInv d' (l.add r) bs := by
  have hl : lenR r = 1 + nsec r.data.length := rfl
  have he := h.e
  refine ⟨h.ba, ⟨fun x hx => ?_, fun i hi => ?_, ?_⟩, by show l.e + lenR r = bs + tot (l.rs ++ [r]); rw [tot_snoc]; omega, by show l.e + lenR r < d'.n; omega⟩
  · rcases List.mem_append.1 hx with hx | hx
    · exact h.lo.ok x hx
    · simp at hx; subst hx; exact hr
  · replace hi : i < tot (l.rs ++ [r]) := hi
    rw [tot_snoc] at hi
    show d'.at (bs + i) = (secsOf 0 (l.rs ++ [r])).getD i sec0
    rw [ha, secsOf_app, Nat.zero_add]
    by_cases h1 : i < tot l.rs
    · rw [appF, if_neg (by omega), if_neg (by omega), if_neg (by omega), h.lo.at' i h1]
      simp only [List.getD]
      rw [List.getElem?_append_left (by rw [secsOf_len]; exact h1)]
    · obtain ⟨k, rfl⟩ : ∃ k, i = tot l.rs + k := ⟨i - tot l.rs, by omega⟩
      have e1 : (secsOf 0 l.rs ++ secsOf l.rs.length [r]).getD (tot l.rs + k) sec0 = (secsR l.rs.length r).getD k sec0 := by
        simp only [List.getD]
        rw [List.getElem?_append_right (by rw [secsOf_len]; omega), secsOf_len, Nat.add_sub_cancel_left]
        simp [secsOf]
      rw [e1, appF]
      cases k with
      | zero => rw [if_pos (by omega)]; rfl
      | succ k => rw [if_neg (by omega), if_neg (by omega), if_pos (by omega), secsR_at (by omega)]; congr 1; omega
  · show d'.at (bs + tot (l.rs ++ [r])) = sec0
    rw [ha, tot_snoc, appF, if_neg (by omega), if_pos (by omega)]
theorem tot_ge : ∀ (rs : List LRec), 2 * rs.length ≤ tot rs
  | [] => Nat.le_refl _
  | r :: l => by
    have := tot_ge l
    have hd := data_len r
    have : 1 ≤ nsec r.data.length := by unfold nsec; omega
    show 2 * (l.length + 1) ≤ lenR r + tot l
    unfold lenR; omega
theorem LInv.ln {d : DS} {l : LS} {bs : Nat} (h : LInv d l bs) (hk : DOk d) : l.rs.length ≤ 2048 := by
  have := tot_ge l.rs; have := h.lt; have := h.e; have := hk.n; omega
theorem LInv.op {d : DS} {l : LS} {bs : Nat} (h : LInv d l bs) : openE d (bs : Int) = (0, l) := by
  have hlt := h.lt
  have he := h.e
  have hh := lopen_ok h.lo (by omega)
  rw [openE, if_pos (has_iff.2 ⟨by omega, by omega⟩), Int.toNat_natCast, hh]
  simp only [Prod.mk.injEq, true_and]
  rw [← he, ← h.ba]
theorem fmt_calm {d : DS} {bs : Nat} (h : Calm d) (hb : bs < d.n) : ∃ d', fmtL d (bs : Int) = (0, d') ∧ Calm d' ∧ d'.n = d.n ∧ d'.ws = [] ∧ LInv d' ⟨bs, [], bs⟩ bs := by
  obtain ⟨hw, hc⟩ := h.wr (i := bs) (v := sec0) hb
  obtain ⟨hs, hc2, ho⟩ := hc.sync
  refine ⟨(d.write (bs : Int) sec0).sync, ?_, hc2, rfl, rfl, rfl, ⟨by simp, fun i hi => absurd hi (Nat.not_lt_zero _), ?_⟩, rfl, hb⟩
  · rw [fmtL, if_pos (has_iff.2 ⟨by omega, by omega⟩), hw, if_pos rfl, if_neg (by rw [ho]; decide), hs]
  · show ((d.write (bs : Int) sec0).sync).at (bs + 0) = sec0
    rw [at_sync, at_write, if_pos (by omega)]
def Wr (f : WS → WS) (n : Nat) : Prop := ∀ s, s.err = 0 → (f s).err = 0 ∧ (f s).bs.length = s.bs.length + n
theorem Wr.fix (b : List UInt8) : Wr (wFix b) b.length := fun s h => by rw [wFix_of h]; simp
theorem Wr.num {v : Int} {wd : Nat} (h0 : 0 ≤ v) (h : v < 2 ^ (8 * wd)) : Wr (wNum v wd) wd := fun s hs => by
  unfold wNum
  rw [if_neg (by omega)]
  have := Wr.fix (beN v wd) s hs
  rwa [beN_length] at this
theorem Wr.then {f g : WS → WS} {n m : Nat} (hf : Wr f n) (hg : Wr g m) : Wr (fun s => g (f s)) (n + m) := fun s hs => by
  obtain ⟨h1, h2⟩ := hf s hs
  obtain ⟨h3, h4⟩ := hg (f s) h1
  exact ⟨h3, by rw [h4, h2, Nat.add_assoc]⟩
theorem Wr.dig (d : Dig) : Wr (wDig d) 16 := fun s hs => by have := Wr.fix d.l s hs; rwa [d.h] at this
theorem Wr.fold {α : Type} {wX : α → WS → WS} {c : Nat} : ∀ {l : List α}, (∀ x ∈ l, Wr (wX x) c) → Wr (fun s => l.foldl (fun s x => wX x s) s) (l.length * c)
  | [], _ => fun s hs => ⟨hs, by simp⟩
  | x :: l, h => by
    have h1 := (h x (by simp)).then (Wr.fold (l := l) fun y hy => h y (by simp [hy]))
    rw [show (x :: l).length * c = c + l.length * c by rw [List.length_cons, Nat.add_mul, Nat.one_mul, Nat.add_comm]]
    exact h1
theorem Wr.put {α : Type} {wX : α → WS → WS} {c most : Nat} {l : List α} (hl : l.length ≤ most) (h2 : l.length ≤ 255) (h : ∀ x ∈ l, Wr (wX x) c) : Wr (wPut wX l most) (1 + l.length * c) := fun s hs => by
  unfold wPut
  rw [if_neg (by omega)]
  exact (Wr.num (v := (l.length : Int)) (wd := 1) (by omega) (by show (l.length : Int) < 256; omega)).then (Wr.fold h) s hs
theorem Wr.bytes {b : List UInt8} {most : Nat} (h : b.length ≤ most) (hm : most ≤ 65535) : Wr (wBytes b most) (2 + b.length) := fun s hs => by
  unfold wBytes
  rw [if_neg (by omega)]
  exact (Wr.num (v := (b.length : Int)) (wd := 2) (by omega) (by show (b.length : Int) < 65536; omega)).then (Wr.fix b) s hs
def sgE : Signed := ⟨0, 0, List.replicate 5 dig0, []⟩
def rndU (i : Int) : Nat := ((IntKind.u64.wrap i).tmod 1000).toNat
def vts (i : Int) : Nat := ((IntKind.u64.wrap i).tmod 4).toNat
theorem u64_rem (a : Int) {m : Nat} (hm : 0 < m) : (IntKind.u64.wrap a).tmod (m : Int) = ((((IntKind.u64.wrap a).tmod (m : Int)).toNat : Nat) : Int) ∧ ((IntKind.u64.wrap a).tmod (m : Int)).toNat < m := by
  have h0 : 0 ≤ IntKind.u64.wrap a := by simp [IntKind.wrap, IntKind.bits, IntKind.signed]; omega
  have h1 := Int.tmod_lt_of_pos (IntKind.u64.wrap a) (show (0 : Int) < (m : Int) by omega)
  have h2 := Int.tmod_nonneg (m : Int) h0
  omega
theorem rndU_eq (i : Int) : (IntKind.u64.wrap i).tmod 1000 = (rndU i : Int) := (u64_rem i (m := 1000) (by decide)).1
theorem vts_eq (i : Int) : (IntKind.u64.wrap i).tmod 4 = (vts i : Int) := (u64_rem i (m := 4) (by decide)).1
def smB (n : Nat) (tx : UInt8) : Block := ⟨1, n, dig0, qc0, [[tx]], []⟩
def smC (n : Nat) (tx : UInt8) (v : Nat) : QC := ⟨1, n, idOf (smB n tx), List.replicate v sgE⟩
def smR (n : Nat) (tx : UInt8) (v : Nat) : LRec := ⟨smB n tx, smC n tx v⟩
theorem wr_at {n : Nat} (h : n < 1000) : Wr (wAt 1 n) 10 :=
  (Wr.num (v := 1) (wd := 4) (by decide) (by decide)).then (Wr.num (v := (n : Int)) (wd := 6) (by omega) (by show (n : Int) < 281474976710656; omega))
theorem wr_at0 : Wr (wAt 0 0) 10 := (Wr.num (v := 0) (wd := 4) (by decide) (by decide)).then (Wr.num (v := 0) (wd := 6) (by decide) (by decide))
theorem wr_qc0 : Wr (wQC qc0) 27 := (wr_at0.then (Wr.dig dig0)).then (Wr.put (l := ([] : List Signed)) (c := 0) (by simp) (by simp) (by simp))
theorem wr_smB {n : Nat} {tx : UInt8} (h : n < 1000) : Wr (wBlock (smB n tx)) 58 :=
  ((((wr_at h).then (Wr.dig dig0)).then wr_qc0).then (Wr.put (l := [[tx]]) (most := 4) (c := 3) (by simp) (by simp) (fun x hx => by simp at hx; subst hx; exact Wr.bytes (by simp) (by decide)))).then
    (Wr.put (l := ([] : List Vdr)) (c := 0) (by simp) (by simp) (by simp))
theorem wr_sgE : Wr (wSigned sgE) 84 := fun s hs => by
  have h1 := Wr.num (v := 0) (wd := 1) (by decide) (by decide) s hs
  have h2 := Wr.num (v := 0) (wd := 1) (by decide) (by decide) _ h1.1
  have h3 := Wr.put (wX := wDig) (l := List.replicate 5 dig0) (most := 68) (c := 16) (by simp) (by simp) (fun x _ => Wr.dig x) _ h2.1
  have h4 := Wr.put (wX := wDig) (l := ([] : List Dig)) (most := 5) (c := 0) (by simp) (by simp) (by simp) _ h3.1
  show (wPut wDig [] 5 (wPut wDig (List.replicate 5 dig0) 68 (wNum 0 1 (wNum 0 1 s)))).err = 0 ∧ (wPut wDig [] 5 (wPut wDig (List.replicate 5 dig0) 68 (wNum 0 1 (wNum 0 1 s)))).bs.length = _
  refine ⟨h4.1, h4.2.trans ?_⟩
  rw [h3.2, h2.2, h1.2]; simp
theorem wr_votes (v : Nat) (hv : v < 4) : Wr (wPut wSigned (List.replicate v sgE) 7) (1 + v * 84) := fun s hs => by
  have h := Wr.put (wX := wSigned) (l := List.replicate v sgE) (most := 7) (c := 84) (by simp; omega) (by simp; omega) (fun x hx => by rw [List.eq_of_mem_replicate hx]; exact wr_sgE) s hs
  rwa [List.length_replicate] at h
attribute [local irreducible] wAt wDig wPut wSigned wBytes wVdr in
theorem wr_smC {n v : Nat} {tx : UInt8} (h : n < 1000) (hv : v < 4) : Wr (wBlock (certB (smC n tx v))) (55 + 84 * v) := fun s hs => by
  have h1 := wr_at0 s hs
  have h2 := Wr.dig dig0 _ h1.1
  have h3 := wr_at h _ h2.1
  have h4 := Wr.dig (idOf (smB n tx)) _ h3.1
  have h5 := wr_votes v hv _ h4.1
  have h6 := Wr.put (wX := fun t => wBytes t 16) (l := ([] : List (List UInt8))) (most := 4) (c := 0) (by simp) (by simp) (by simp) _ h5.1
  have h7 := Wr.put (wX := wVdr) (l := ([] : List Vdr)) (most := 7) (c := 0) (by simp) (by simp) (by simp) _ h6.1
  refine ⟨h7.1, h7.2.trans ?_⟩
  rw [h6.2, h5.2, h4.2, h3.2, h2.2, h1.2]; simp; omega
theorem sm_ok {n v : Nat} {tx : UInt8} (h : n < 1000) (hv : v < 4) : (smR n tx v).Ok := ⟨(wr_smB h ⟨0, []⟩ rfl).1, (wr_smC h hv ⟨0, []⟩ rfl).1, by simp only [smR, smC], by simp only [smR, smC, smB], by simp only [smR, smC, smB]⟩
theorem sm_len {n v : Nat} {tx : UInt8} (h : n < 1000) (hv : v < 4) : (smR n tx v).data.length = 117 + 84 * v := by
  have h1 := (wr_smB (tx := tx) h ⟨0, []⟩ rfl).2
  have h2 := (wr_smC (tx := tx) h hv ⟨0, []⟩ rfl).2
  rw [LRec.data, dataL_len]
  show 4 + (wBlock (smB n tx) ⟨0, []⟩).bs.length + (wBlock (certB (smC n tx v)) ⟨0, []⟩).bs.length = _
  rw [h1, h2]; simp; omega
theorem sm_sec {n v : Nat} {tx : UInt8} (h : n < 1000) (hv : v < 4) : nsec (smR n tx v).data.length ≤ 6 := by rw [sm_len h hv]; unfold nsec; omega
theorem rnd_lt (i : Int) : rndU i < 1000 := (u64_rem i (m := 1000) (by decide)).2
theorem vts_lt (i : Int) : vts i < 4 := (u64_rem i (m := 4) (by decide)).2
theorem app_ok {d : DS} {l : LS} {b : Block} {c : QC} (hm : madeE b c = 0) (h2 : l.rs.length < 200) (hf : nsec (⟨b, c⟩ : LRec).data.length + 2 ≤ d.n - l.e) : appL d l b c = appD d l ⟨b, c⟩ := by
  unfold appL; rw [if_pos hm, if_neg (fun h => h.elim (fun h' => by omega) (fun h' => h' hf))]
end
section
abbrev lsOf (bs : Nat) (rs : List LRec) : LS := ⟨(bs : Int), rs, bs + tot rs⟩
structure LdOk (d : DS) (n bs : Nat) (rs : List LRec) : Prop where
  c : Calm d
  n : d.n = n
  ws : d.ws = []
  i : LInv d (lsOf bs rs) bs
def LdR (q g n bs : Nat) (rs : List LRec) : Res := exR fun d : DS => allR [pureR (LdOk d n bs rs), LedR q g (lsOf bs rs), DiskR g d]
section
variable {w w0 : World} {F F0 : Nat → Prop} {q g n bs : Nat} {rs : List LRec} {L : List Res} {ea : Nat → Addr} {es : List Nat}
theorem ld_open (h : stars (LdR q g n bs rs :: L) w F) : ∃ d, LdOk d n bs rs ∧ stars (LedR q g (lsOf bs rs) :: DiskR g d :: L) w F := by
  obtain ⟨d, h⟩ := stars_ex h
  obtain ⟨h1, h2⟩ := stars_pure (stars_all h)
  exact ⟨d, h1, h2⟩
theorem ld_shut {d : DS} (hd : LdOk d n bs rs) (h : stars (LedR q g (lsOf bs rs) :: DiskR g d :: L) w F) : stars (LdR q g n bs rs :: L) w F := stars_ex_mk d (stars_all_mk (stars_pure_mk hd h))
theorem St.ld {d : DS} (h : St w0 F0 (LedR q g (lsOf bs rs) :: DiskR g d :: L) w) (hd : LdOk d n bs rs) : St w0 F0 (LdR q g n bs rs :: L) w := h.mapL fun F hF => ld_shut hd hF
theorem tot_lt {d : DS} (h : LdOk d n bs rs) : bs + tot rs < n := by have := h.i.lt; rw [h.n] at this; exact this
theorem disk0_calm {n : Nat} (h : n ≤ 4096) : Calm ⟨n, fun _ => sec0, [], false, false, 0⟩ := ⟨rfl, rfl, h, by simp [keysW], by simp [keysW], (fun h => by cases h), by show (-9223372036854775808 : Int) ≤ 0 ∧ (0 : Int) ≤ 9223372036854775807; decide⟩
theorem fmtC (h : stars [DiskR g ⟨n, fun _ => sec0, [], false, false, 0⟩] w F) (hn : n ≤ 4096) (hb : bs < n) [Has es 1] [Has es 6] (hE : GErr es w (fun k => ¬ F k) 261 ea) :
    Calls Tryz.prog 7 #[.pointer (some ⟨g, 0, none⟩), .int .i64 (bs : Int)] w (Post w F (fun q : Nat => .tuple #[.pointer (some ⟨q, 0, none⟩), eV 261 ea 0]) (fun q => [LdR q g n bs []])) := by
  have hc := disk0_calm hn
  obtain ⟨d', e, h1, h2, h3, h4⟩ := fmt_calm hc hb
  refine Calls.mono (formatL_ok (b := (bs : Int)) h hc.ok hE) ?_
  rintro o w' ⟨q, ho, hs⟩
  simp only [e, if_true] at ho hs
  exact ⟨q, ho, St.ld (rs := []) (n := n) (L := []) (show St w F [LedR q g (lsOf bs []), DiskR g d'] w' from hs) ⟨h1, h2, h3, h4⟩⟩
theorem appC {cs qs : List Value} {b : Block} {c : QC} (h : stars [LdR q g n bs rs] w F) [Has es 1] [Has es 4] [Has es 6] [Has es 8] [Has es 12] (hE : GErr es w (fun k => ¬ F k) 261 ea) (hK : KR w (fun k => ¬ F k)) (hx : RdBlock w (fun k => ¬ F k) cs b) (hq : RdQC w (fun k => ¬ F k) qs c)
    (hr : (⟨b, c⟩ : LRec).Ok) (h2 : rs.length < 200) (hf : bs + tot rs + nsec (⟨b, c⟩ : LRec).data.length + 2 ≤ n) :
    Calls Tryz.prog 10 #[.pointer (some ⟨q, 0, none⟩), .agg cs.toArray, .agg qs.toArray] w (Post w F (fun _ : Unit => eV 261 ea 0) (fun _ => [LdR q g n bs (rs ++ [⟨b, c⟩])])) := by
  obtain ⟨d, hd, h⟩ := ld_open h
  have hfit : nsec (⟨b, c⟩ : LRec).data.length + 2 ≤ d.n - (lsOf bs rs).e := by rw [hd.n]; show _ ≤ n - (bs + tot rs); omega
  obtain ⟨d', e, h1, h3, h4, h5⟩ := appD_calm (l := lsOf bs rs) hd.c hfit
  have e2 := (app_ok (d := d) (l := lsOf bs rs) (made_zero hr) h2 hfit).trans e
  refine Calls.mono (append_ok (l := lsOf bs rs) h hd.c.ok hE hK hx hq hd.i.lt (by show rs.length < _; omega)) ?_
  rintro o w' ⟨x, ho, hs⟩
  simp only [e2] at ho hs
  have hi := hd.i.add (d' := d') hr hfit h3 h5
  have el : (lsOf bs rs).add ⟨b, c⟩ = lsOf bs (rs ++ [⟨b, c⟩]) := by simp only [LS.add, lsOf, tot_snoc, Nat.add_assoc]
  rw [el] at hi hs
  exact ⟨(), ho, St.ld hs ⟨h1, by rw [h3, hd.n], h4, hi⟩⟩
theorem openC (h : stars [LdR q g n bs rs] w F) [Has es 1] [Has es 2] [Has es 3] [Has es 4] [Has es 6] [Has es 7] [Has es 12] (hE : GErr es w (fun k => ¬ F k) 261 ea) (hK : KR w (fun k => ¬ F k)) :
    Calls Tryz.prog 14 #[.pointer (some ⟨g, 0, none⟩), .int .i64 (bs : Int)] w (Post w F (fun p : Nat => .tuple #[.pointer (some ⟨p, 0, none⟩), eV 261 ea 0]) (fun p => [LdR p g n bs rs, LedR q g (lsOf bs rs)])) := by
  obtain ⟨d, hd, h⟩ := ld_open h
  obtain ⟨F1, F2, h1, h2, hF, hdj⟩ := (Pick.there (x := LedR q g (lsOf bs rs)) (Pick.here (r := DiskR g d) (L := []))).stars h
  have hst : Still w (fun k => ¬ F k) w (fun k => ¬ F1 k) := fun k _ hk => ⟨rfl, fun h' => hk ((hF k).2 (.inl h'))⟩
  have hc := calls_frame (lopen_ok' (b := (bs : Int)) (stars_one h1) hd.c.ok (hE.mv hst) (hK.mv hst) hd.c.on) h2 hF hdj
  refine Calls.mono hc ?_
  rintro o w' ⟨p, ho, hs⟩
  have e := hd.i.op
  simp only [e, if_true] at ho hs
  exact ⟨p, ho, St.ld hs hd⟩
theorem lenC (h : stars [LdR q g n bs rs] w F) : Calls Tryz.prog 17 #[.pointer (some ⟨q, 0, none⟩)] w (Post w F (fun _ : Unit => .int .i64 (rs.length : Int)) (fun _ => [LdR q g n bs rs])) := by
  obtain ⟨d, hd, h⟩ := ld_open h
  obtain ⟨F1, F2, h1, h2, hF, hdj⟩ := h
  refine Calls.mono (calls_frame (lenL_ok (stars_one h1)) h2 hF hdj) ?_
  rintro o w' ⟨x, ho, hs⟩
  exact ⟨(), ho, St.ld hs hd⟩
theorem crashC (h : stars [LdR q g n bs rs] w F) : Calls Tryz.prog 25 #[.pointer (some ⟨g, 0, none⟩), .slice none 0 0] w (Post w F (fun _ : Unit => .tuple #[]) (fun _ => [LdR q g n bs rs])) := by
  obtain ⟨d, hd, h⟩ := ld_open h
  obtain ⟨F1, F2, h1, h2, hF, hdj⟩ := (Pick.there (x := LedR q g (lsOf bs rs)) (Pick.here (r := DiskR g d) (L := []))).stars h
  refine Calls.mono (calls_frame (crash_ok' (kb := []) (stars_one h1) hd.c.ok RdRow.nil) h2 hF hdj) ?_
  rintro o w' ⟨x, ho, hs⟩
  have e : d.crash [] = d := by
    rw [crash_idle hd.ws]
    have := hd.c.ar; have := hd.c.on
    cases d; simp_all
  rw [e] at hs
  exact ⟨(), ho, St.ld (hs.sel (.cons (.there .here) (.cons .here .nil))) hd⟩
end
end
section
def smL (b : Nat) (n : Nat) : List Value := .int .i64 1 :: .int .i64 (n : Int) :: (dc dig0 ++ (qcC ++ [.slice (some ⟨b, 0, none⟩) 1 1, .slice none 0 0]))
theorem smL_len (b n : Nat) : (smL b n).length = 39 := by simp [smL, dc_length, qcC, dc_length]
theorem smL_one (b n : Nat) : ∀ v ∈ smL b n, v.oneCell' = true := all_cons' rfl (all_cons' rfl (all_app' (dc_one _) (all_app' (rdQC0 (w := default) (A := fun _ => True)).one (all_cons' rfl (all_cons' rfl all_nil')))))
theorem rd_smL {w : World} {A : Nat → Prop} {b c n : Nat} {tx : UInt8} (h1 : RdRow w A 1 (some ⟨b, 0, none⟩) 1 [.slice (some ⟨c, 0, none⟩) 1 1]) (h2 : RdRow w A 1 (some ⟨c, 0, none⟩) 1 [B8 tx]) : RdBlock w A (smL b n) (smB n tx) :=
  ⟨qcC, some ⟨b, 0, none⟩, 1, 1, none, 0, 0, rfl, rdQC0, Nat.le_refl _, ⟨[[.slice (some ⟨c, 0, none⟩) 1 1]], h1, by simp, rfl, fun i x y hx hy => by
    match i with
    | 0 => simp at hx; subst hx; cases hy; exact ⟨_, _, _, rfl, Nat.le_refl _, h2⟩
    | i + 1 => simp at hx⟩, Nat.le_refl _, RdList.nil⟩
theorem smL_at (b n : Nat) : (smL b n)[0 + 1]? = some (.int .i64 (n : Int)) := rfl
theorem vl_smL {w : World} {F : Nat → Prop} {b c n e1 e2 : Nat} {tx : UInt8} (h : stars [rowR e1 1 (some ⟨b, 0, none⟩) 1 1 [.slice (some ⟨c, 0, none⟩) 1 1], rowR e2 1 (some ⟨c, 0, none⟩) 1 1 [B8 tx]] w F) : stars [VlR RdBlock (smL b n) (smB n tx)] w F := by
  obtain ⟨F1, F2, h1, h2, hF⟩ := stars_two h
  exact rdR_mk (rd_smL ((rowR.rd h1).mv (still_sub fun k hk => (hF k).2 (.inl hk))) ((rowR.rd h2).mv (still_sub fun k hk => (hF k).2 (.inr hk)))) h
def smQ (id : Dig) (n : Nat) (a : Option Addr) (k c : Nat) : List Value := .int .i64 1 :: .int .i64 (n : Int) :: (dc id ++ [.slice a k c])
theorem smQ_len (id : Dig) (n : Nat) (a : Option Addr) (k c : Nat) : (smQ id n a k c).length = 19 := by simp [smQ, dc_length]
theorem smQ_one (id : Dig) (n : Nat) (a : Option Addr) (k c : Nat) : ∀ v ∈ smQ id n a k c, v.oneCell' = true := all_cons' rfl (all_cons' rfl (all_app' (dc_one _) (all_cons' rfl all_nil')))
theorem smQ_at (id : Dig) (n : Nat) (a : Option Addr) (k c : Nat) : (smQ id n a k c)[0 + 18]? = some (.slice a k c) := by simp [smQ, get_dc]
theorem smQ_upd (id : Dig) (n : Nat) (a a' : Option Addr) (k c k' c' : Nat) : List.take 18 (smQ id n a k c) ++ [.slice a' k' c'] = smQ id n a' k' c' := by
  have h1 : List.take 16 (dc id ++ [Value.slice a k c]) = dc id := List.take_left' (dc_length id)
  simp [smQ, h1]
def rec0 : List Value := blkC ++ qcC
instance : Len rec0 58 := ⟨by simp [rec0, blkC, qcC, dc_length]⟩
def sgL (b : Nat) : List Value := [.int .i64 0, .int .i64 0, .slice (some ⟨b, 0, none⟩) 5 5, .slice none 0 0]
theorem vl_sgL {w : World} {F : Nat → Prop} {b T : Nat} (h : stars [blk b T (List.replicate 5 (dc dig0)).flatten] w F) : stars [VlR RdSigned (sgL b) sgE] w F := by
  have h1 := stars_one' h
  have hl : (List.replicate 5 (dc dig0)).flatten.length = 80 := by decide
  have hr : RdRow w F 16 (some ⟨b, 0, none⟩) 5 (List.replicate 5 (dc dig0)).flatten := RdRow.of_blk h1 (n := 5) (size := 16) (o := 0) (by rw [List.drop_zero, List.take_of_length_le (by omega)]) (by omega) (by decide)
  refine rdR_mk ⟨[.int .i64 0, .slice (some ⟨b, 0, none⟩) 5 5, .slice none 0 0], rfl, some ⟨b, 0, none⟩, 5, 5, none, 0, 0, rfl, Nat.le_refl _, Nat.le_refl _, ?_, RdList.nil⟩ h
  exact ⟨List.replicate 5 (dc dig0), hr, fun c hc => by rw [List.eq_of_mem_replicate hc]; exact dc_length _, by simp [sgE], fun i c x hc hx => by
    have h3 := List.eq_of_mem_replicate (List.mem_of_getElem? hc)
    have h4 : x = dig0 := List.eq_of_mem_replicate (n := 5) (List.mem_of_getElem? hx)
    rw [h3, h4]; rfl⟩
theorem vl_smQ {w : World} {F : Nat → Prop} {e k c n : Nat} {id : Dig} {a : Option Addr} {css : List (List Value)} (h4 : ∀ x ∈ css, List.length x = 4) (h : stars [rowR e 4 a k c css.flatten, ElR RdSigned css (List.replicate k sgE)] w F) :
    stars [VlR RdQC (smQ id n a k c) ⟨1, n, id, List.replicate k sgE⟩] w F := by
  have hk : k ≤ c := by obtain ⟨_, _, h1, _⟩ := h; exact h1.2.1
  exact vl_qc hk (ls_of h4 h)
theorem rep_snoc (k : Nat) : List.replicate k sgE ++ [sgE] = List.replicate (k + 1) sgE := by rw [List.replicate_succ']
attribute [local irreducible] Gl Gc Gx Gs Runs Wt
attribute [local irreducible] dc RdRec RdBlock RdQC RdSigned blkC qcC allE smL smQ idOf
theorem small_ok {w : World} {F : Nat → Prop} {i v : Int} {tx : UInt8} (h : stars [] w F) {ea : Nat → Addr} {es : List Nat} [Has es 1] (hE : GErr es w (fun k => ¬ F k) 261 ea) (hK : KR w (fun k => ¬ F k))  :
    Calls Tryz.prog 8 #[.int .i64 i, B8 tx, .int .i64 v] w (Post w F (fun x : List Value × List Value => .agg (x.1 ++ x.2).toArray) (fun x => [pureR ((x.1.length = 39 ∧ ∀ v ∈ x.1, v.oneCell' = true) ∧ x.2.length = 19 ∧ ∀ v ∈ x.2, v.oneCell' = true), VlR RdBlock x.1 (smR (rndU i) tx (vts v)).b, VlR RdQC x.2 (smR (rndU i) tx (vts v)).c])) := by
 have hrn := rnd_lt i
 have hvt := vts_lt v
 refine g_enter (env := [(0, .int .i64 i), (1, B8 tx), (2, .int .i64 v)]) Tryz.func8 rfl h Tryz.ntmps8 rfl rfl ?_; refine gsr (zal fun b6 => ?_); refine gl_eqc (cs' := rec0) (by repeat (first | exact Pick.here | apply Pick.there)) (by kernel_rfl) ?_; refine zxs ?_; refine zxm ?_; refine gp zci ?_; refine gp (r_int (j := (rndU i : Int)) zrm (rndU_eq i)) ?_; refine gp (r_int (j := (rndU i : Int)) zci (wrap_i64 (by omega) (by omega))) ?_; refine zxm ?_; refine ze1 fun b16 => ?_; refine ze1 fun b17 => ?_; refine gp zbu ?_; refine zal fun b7 => ?_; refine zsN ?_; refine gl_eqc (cs' := smL b17 (rndU i)) (by repeat (first | exact Pick.here | apply Pick.there)) (by kernel_rfl) ?_; have i7 := Len.of (smL_len b17 (rndU i))
 have j7 := One.of (smL_one b17 (rndU i))
 refine zxs ?_; refine gp (zLa (cs := smL b17 (rndU i))) ?_; refine zc (fun _ => ?_) (c := fun w1 F1 F2 h1 h2 hd hst => id_ok (x := smB (rndU i) tx) h1 (hE.mv hst.still) (hK.mv hst.still) (rd_smL (rd_row h2 hd (by repeat (first | exact Pick.here | apply Pick.there))) (rd_row h2 hd (by repeat (first | exact Pick.here | apply Pick.there)))))
 refine zxm ?_; refine gp zex ?_; refine gp zex ?_; refine zal fun b8 => ?_; refine zsN ?_; refine zxa ?_; refine zxs ?_; refine gp zfa ?_; refine gp (zl (v := .int .i64 (rndU i : Int)) (hv := smL_at _ _)) ?_; refine gp zL ?_; refine gp zbu ?_; refine zal fun b10 => ?_; refine zsN ?_; refine gl_eqc (cs' := smQ (idOf (smB (rndU i) tx)) (rndU i) none 0 0) (by repeat (first | exact Pick.here | apply Pick.there)) (by kernel_rfl) ?_; refine gnt (gc_seq (gsr (zxm ?_))); refine gp zci ?_; refine gp (r_int (j := (vts v : Int)) zrm (vts_eq v)) ?_; refine gp (r_int (j := (vts v : Int)) zci (wrap_i64 (by omega) (by omega))) ?_; refine zxm ?_; refine gnt (gc_block (gc_loop (α := Nat × Option Addr × Nat × List (List Value)) (fun y => [pureR (y.1 ≤ vts v ∧ ∀ c ∈ y.2.2.2, List.length c = 4), blk b10 41 (smQ (idOf (smB (rndU i) tx)) (rndU i) y.2.1 y.1 y.2.2.1), rowR 86 4 y.2.1 y.1 y.2.2.1 y.2.2.2.flatten, ElR RdSigned y.2.2.2 (List.replicate y.1 sgE), blk b7 45 (smL b17 (rndU i)), rowR 49 1 (some ⟨b17, 0, none⟩) 1 1 [.slice (some ⟨b16, 0, none⟩) 1 1], rowR 5 1 (some ⟨b16, 0, none⟩) 1 1 [B8 tx], blk b6 47 rec0]) (fun y => [(32, .int .i64 (y.1 : Int))]) [33, 34, 35, 36, 37, 38, 39, 40, 41, 42] (fun y => vts v - y.1) (0, none, 0, []) ?_ ?_ ?_))
 ·refine env_start (by kernel_rfl)
 ·intro w' hw; have hw := St.mapL hw (fun F' hF' => el_nil (rd := RdSigned) hF')
  exact St.pureI ⟨Nat.zero_le _, by simp⟩ ((hw.rowNil (e := 86) (size := 4)).z)
 ·intro y u; obtain ⟨k, a, c, css⟩ := y; refine gc_pureR (fun hk => ?_)
  obtain ⟨hk, hcs⟩ := hk; replace hk : k ≤ vts v := hk
  replace hcs : ∀ x ∈ css, List.length x = 4 := hcs
  refine gsr (gp zlt ?_); refine gnt (gc_seq (gif rfl (fun hc33 => ?_) (fun hc33 => ?_)))
  ·try simp only at hc33
   have hk' : k < vts v := by omega
   have i10 := Len.of (smQ_len (idOf (smB (rndU i) tx)) (rndU i) a k c)
   refine gc_skip (gx_then (gc_seq (gc_block (gc_regionU 6 ([blk b10 41 (smQ (idOf (smB (rndU i) tx)) (rndU i) a k c)]) ?_)))); refine ypu 0 rfl zfa ?_; refine ypu 1 rfl (zl (v := .slice a k c) (hv := smQ_at _ _ _ _ _)) ?_; refine you 2 rfl ?_; refine gl_mkN (m := 5) (z := .agg (List.replicate 16 (Value.int .u8 0)).toArray) (wt0 rfl) ELT.h (by kernel_rfl) rfl rfl (by omega) (by omega) (by omega) (fun b36 => ?_)
   refine gl_eqc (cs' := (List.replicate 5 (dc dig0)).flatten) (by repeat (first | exact Pick.here | apply Pick.there)) (by kernel_rfl) ?_; refine yxu ?_; refine ypu 3 rfl zbu ?_; refine ypu 4 rfl zbu ?_; refine you 5 rfl ?_; refine zeN fun b39 => ?_; refine yxu ?_; refine yzu ?_; refine zapo (news := sgL b36) (h1 := all_cons' rfl (all_cons' rfl (all_cons' rfl (all_cons' rfl all_nil')))) (fun a40 c40 => ?_)
   refine gp zfa ?_; refine zs1 ?_; refine gl_eqc (g := b10) (cs' := smQ (idOf (smB (rndU i) tx)) (rndU i) a40 (k + 1) c40) (by repeat (first | exact Pick.here | apply Pick.there)) (by exact smQ_upd _ _ a a40 k c (k + 1) c40) ?_; refine gl_nil (gx_block_normal (gx_then (gc_region (gp zad ?_)))); refine zxm ?_; refine gl_nil (zrd ((k + 1, a40, c40, css ++ [sgL b36])) ?_ ?_)
   ·show vts v - (k + 1) < vts v - k
    omega
   ·intro w' hw; have h1 := hw.conv (M := [blk b36 38 (List.replicate 5 (dc dig0)).flatten]) (by repeat (first | exact Sel.nil | (apply Sel.cons; · (repeat (first | exact Pick.here | apply Pick.there))))) (fun _ _ => vl_sgL)
    have h2 := h1.conv (M := [ElR RdSigned css (List.replicate k sgE), VlR RdSigned (sgL b36) sgE]) (by repeat (first | exact Sel.nil | (apply Sel.cons; · (repeat (first | exact Pick.here | apply Pick.there))))) (fun _ _ => el_snoc)
    rw [rep_snoc] at h2; refine St.pureI ⟨show k + 1 ≤ vts v by omega, fun x hx => (by rcases List.mem_append.1 hx with h | h; exact hcs x h; (simp at h; subst h; rfl))⟩ ?_; rw [show (css ++ [sgL b36]).flatten = css.flatten ++ sgL b36 by simp]; exact h2.z
  ·try simp only at hc33
   have hk' : k = vts v := by omega
   subst hk'; refine gc_exit ?_; refine gx_then_exit ?_; refine gx_round_exit ?_; refine gx_block_hit ?_; refine gx_then (gsr ?_); have i10 := Len.of (smQ_len (idOf (smB (rndU i) tx)) (rndU i) a (vts v) c)
   have j10 := One.of (smQ_one (idOf (smB (rndU i) tx)) (rndU i) a (vts v) c)
   refine gp (zLa (cs := smL b17 (rndU i))) ?_; refine gp (zLa (cs := smQ (idOf (smB (rndU i) tx)) (rndU i) a (vts v) c)) ?_; refine gp zbu ?_; refine zsN ?_; refine gnt (gc_ret (gx_retc rfl rfl (ldA Ty.row_47 Ty.sz_47) ?_)); intro w' hw; have h1 := hw.conv (M := [rowR 49 1 (some ⟨b17, 0, none⟩) 1 1 [.slice (some ⟨b16, 0, none⟩) 1 1], rowR 5 1 (some ⟨b16, 0, none⟩) 1 1 [B8 tx]]) (by repeat (first | exact Sel.nil | (apply Sel.cons; · (repeat (first | exact Pick.here | apply Pick.there))))) (fun _ _ => vl_smL (n := rndU i))
   have h2 := h1.conv (M := [rowR 86 4 a (vts v) c css.flatten, ElR RdSigned css (List.replicate (vts v) sgE)]) (by repeat (first | exact Sel.nil | (apply Sel.cons; · (repeat (first | exact Pick.here | apply Pick.there))))) (fun _ _ => vl_smQ (id := idOf (smB (rndU i) tx)) (n := rndU i) hcs)
   exact ⟨(smL b17 (rndU i), smQ (idOf (smB (rndU i) tx)) (rndU i) a (vts v) c), rfl, St.pureI ⟨⟨smL_len _ _, smL_one _ _⟩, smQ_len _ _ _ _ _, smQ_one _ _ _ _ _⟩ (h2.z)⟩
end
section
def recsA (f : Nat → LRec) (k : Nat) : List LRec := (List.range k).map f
theorem recsA_succ (f : Nat → LRec) (k : Nat) : recsA f (k + 1) = recsA f k ++ [f k] := by simp [recsA, List.range_succ]
theorem recsA_len (f : Nat → LRec) (k : Nat) : (recsA f k).length = k := by simp [recsA]
theorem recsA_tot {f : Nat → LRec} (h : ∀ i, lenR (f i) ≤ 7) : ∀ k, tot (recsA f k) ≤ 7 * k
  | 0 => Nat.le_refl _
  | k + 1 => by rw [recsA_succ, tot_snoc]; have := recsA_tot h k; have := h k; omega
theorem lenR_sm (i v : Int) (tx : UInt8) : lenR (smR (rndU i) tx (vts v)) ≤ 7 := by have := sm_sec (n := rndU i) (tx := tx) (rnd_lt i) (vts_lt v); rw [lenR_eq]; omega
theorem smU_ok (i v : Int) (tx : UInt8) : (smR (rndU i) tx (vts v)).Ok := sm_ok (rnd_lt i) (vts_lt v)
theorem recsA_zero (f : Nat → LRec) : recsA f 0 = [] := rfl
def alF (i : Nat) : LRec := smR (rndU ((i + 1 : Nat) : Int)) 7 (vts 0)
theorem al_len (i : Nat) : lenR (alF i) ≤ 7 := lenR_sm _ _ _
theorem alF_eq (i : Nat) : alF i = smR (rndU ((i + 1 : Nat) : Int)) 7 (vts 0) := rfl
def secN (a : Int) : Nat := 2 + ((IntKind.u64.wrap a).tmod 100).toNat
def fuF (v : Int) (tx : UInt8) (i : Nat) : LRec := smR (rndU (i : Int)) tx (vts v)
attribute [local irreducible] Gl Gc Gx Gs Runs Wt
attribute [local irreducible] dc RdRec RdBlock RdQC blkC qcC allE smR recsA alF fuF secN tot rndU vts LdR
theorem alive18_ok {w : World} {F : Nat → Prop} (h : stars [] w F) {ea : Nat → Addr} {es : List Nat} [Has es 1] [Has es 2] [Has es 3] [Has es 4] [Has es 6] [Has es 7] [Has es 8] [Has es 12] (hE : GErr es w (fun k => ¬ F k) 261 ea) (hK : KR w (fun k => ¬ F k))  :
    Calls Tryz.prog 5 #[] w (Post w F (fun _ : Unit => .bool true) (fun _ => [])) := by
 refine g_enter (env := []) Tryz.func5 rfl h Tryz.ntmps5 rfl rfl ?_; refine gsr (zxa ?_); refine zxs ?_; refine zc (fun g => ?_) (c := fun w1 F1 F2 h1 h2 hd hst => new_ok (ea := ea) (n := 40) h1 (by decide) (by decide))
 refine zxm ?_; refine gp zex ?_; refine gp zex ?_; refine zxa ?_; refine zxa ?_; refine gnt (gc_seq (gsr (zxm ?_))); refine gp (r_bool (c := false) (r_nenil rfl (by kernel_rfl)) rfl) ?_; refine zxm ?_; refine gq zmv ?_; refine gq (r_bool (c := false) (r_eqpn rfl Ty.un_25) rfl) ?_; refine gp zpk ?_; refine gnt (gc_condF rfl rfl ?_); refine gc_skip (gx_then (gsr (zxm ?_))); refine zc (fun q => ?_) (c := fun w1 F1 F2 h1 h2 hd hst => fmtC (n := 40) (bs := 0) h1 (by decide) (by decide) (hE.mv hst.still))
 refine zxm ?_; refine gp zex ?_; refine gp zex ?_; refine zxa ?_; refine zxa ?_; refine gnt (gc_seq (gsr (zxm ?_))); refine gp (r_bool (c := false) (r_nenil rfl (by kernel_rfl)) rfl) ?_; refine zxm ?_; refine gq zmv ?_; refine gq (r_bool (c := false) (r_eqpn rfl Ty.un_30) rfl) ?_; refine gp zpk ?_; refine gnt (gc_condF rfl rfl ?_); refine gc_skip (gx_then (gc_seq (gsr (zxm ?_)))); refine gnt (gc_block (gc_loop (α := Nat) (fun k => [pureR (k ≤ 2), LdR q g 40 0 (recsA alF k)]) (fun k => [(27, .int .i64 (k : Int))]) [0, 4, 5, 28, 29, 30, 31, 32, 33, 34, 35, 36, 37, 38, 39, 40] (fun k => 2 - k) 0 ?_ ?_ ?_))
 ·refine env_start (by kernel_rfl)
 ·simp only [recsA_zero]
  exact zlp (Nat.zero_le _)
 ·intro k u; refine gc_pureR (fun hk => ?_)
  replace hk : k ≤ 2 := hk
  have hlen := recsA_len alF k
  have htot := recsA_tot al_len k
  have hsec := sm_sec (tx := 7) (rnd_lt ((k + 1 : Nat) : Int)) (vts_lt 0)
  refine gsr (gp zlt ?_); refine gnt (gc_seq (gif rfl (fun hc28 => ?_) (fun hc28 => ?_)))
  ·try simp only at hc28
   have hk' : k < 2 := by omega
   refine gc_skip (gx_then (gc_seq (gc_block (gsr (zxm ?_))))); refine zxa ?_; refine zxs ?_; refine zxm ?_; refine gp (r_int (j := ((k + 1 : Nat) : Int)) zad (by omega)) ?_; refine zc ?_ (c := fun w1 F1 F2 h1 h2 hd hst => small_ok (i := ((k + 1 : Nat) : Int)) (v := 0) (tx := 7) h1 (hE.mv hst.still) (hK.mv hst.still))
   rintro ⟨xb, xc⟩
   refine gl_pureR (fun hxx => ?_)
   obtain ⟨⟨hlb, hob⟩, hlc, hoc⟩ := hxx; replace hlb : xb.length = 39 := hlb
   replace hlc : xc.length = 19 := hlc
   have ib := Len.of hlb
   have jb := One.of (show ∀ v ∈ xb, v.oneCell' = true from hob)
   have ic := Len.of hlc
   have jc := One.of (show ∀ v ∈ xc, v.oneCell' = true from hoc)
   refine zal fun b5 => ?_; refine zsN ?_; refine zxs ?_; refine zxm ?_; refine gp zfa ?_; refine gp (zL (sg := xb)) ?_; refine gp zfa ?_; refine gp (zL (sg := xc)) ?_; refine zc (fun _ => ?_) (c := fun w1 F1 F2 h1 h2 hd hst => appC (b := (smR (rndU ((k + 1 : Nat) : Int)) 7 (vts 0)).b) (c := (smR (rndU ((k + 1 : Nat) : Int)) 7 (vts 0)).c) h1 (hE.mv hst.still) (hK.mv hst.still) (vl_rd h2 hd (by repeat (first | exact Pick.here | apply Pick.there))) (vl_rd h2 hd (by repeat (first | exact Pick.here | apply Pick.there))) (smU_ok _ _ _) (by omega) (by show 0 + tot (recsA alF k) + nsec (smR (rndU ((k + 1 : Nat) : Int)) 7 (vts 0)).data.length + 2 ≤ 40; omega))
   refine gp (r_bool (c := false) (r_nenil rfl (by kernel_rfl)) rfl) ?_; refine gnt (gc_condF rfl rfl ?_); refine gc_skip (gx_block_normal (gx_then (gc_region (gp zad ?_)))); refine zxm ?_; refine gl_nil (zrd (k + 1) ?_ ?_)
   ·show 2 - (k + 1) < 2 - k
    omega
   ·simp only [recsA_succ, alF_eq]
    exact zlp (show k + 1 ≤ 2 by omega)
  ·try simp only at hc28
   have hk' : k = 2 := by omega
   subst hk'; refine gc_exit ?_; refine gx_then_exit ?_; refine gx_round_exit ?_; refine gx_block_hit ?_; refine gx_then (gsr (zxm ?_)); refine zc (fun _ => ?_) (c := fun w1 F1 F2 h1 h2 hd hst => crashC h1)
   refine zxs ?_; refine zxm ?_; refine zc (fun p => ?_) (c := fun w1 F1 F2 h1 h2 hd hst => openC h1 (hE.mv hst.still) (hK.mv hst.still))
   refine zxm ?_; refine gp zex ?_; refine gp zex ?_; refine zxa ?_; refine zxa ?_; refine zxs ?_; refine zxm ?_; refine gp (r_bool (c := true) (r_eqnil (k := 0) rfl (by kernel_rfl)) rfl) ?_; refine zxm ?_; refine gq zmv ?_; refine gq (r_bool (c := true) (r_nepn rfl Ty.un_30) rfl) ?_; refine gp zpk ?_; refine zxm ?_; refine gq zmv ?_; refine zc (fun _ => ?_) (c := fun w1 F1 F2 h1 h2 hd hst => lenC h1)
   refine gq (r_bool (c := true) zei (by simp [recsA_len])) ?_; refine gp zpk ?_; refine zxa ?_; refine gnt (gc_ret (gx_ret1 rfl (by conv => lhs; whnf) ?_)); exact ze ()
end
section
theorem take_eq_succ {α : Type} {l m : List α} {k : Nat} {x : α} (h : l.take k = m.take k) (h1 : l[k]? = some x) (h2 : m[k]? = some x) : l.take (k + 1) = m.take (k + 1) := by
  rw [List.take_add_one, List.take_add_one, h, h1, h2]
theorem range_left {w : World} {g o : Nat} {xs ys : List Value} (h : w.rangeAt g o (xs ++ ys)) : w.rangeAt g o xs := fun j v hj => h j v (by
  rw [List.getElem?_append_left (List.getElem?_eq_some_iff.1 hj).1]; exact hj)
theorem range_right {w : World} {g o : Nat} {xs ys : List Value} (h : w.rangeAt g o (xs ++ ys)) : w.rangeAt g (o + xs.length) ys := fun j v hj => by
  have := h (xs.length + j) v (by rw [List.getElem?_append_right (by omega)]; simpa using hj)
  rwa [← Nat.add_assoc] at this
theorem range_at {w : World} {g o : Nat} {xs : List Value} (h : w.rangeAt g o xs) {j : Nat} {v : Value} (hj : xs[j]? = some v) : w.cell? ⟨g, o + j, none⟩ = some v := h j v hj
attribute [local irreducible] Gl Gc Gx Gs Runs Wt
theorem sameDigs_ok {w : World} {F : Nat → Prop} {n1 c1 n2 c2 : Nat} {a1 a2 : Option Addr} {l1 l2 : List Dig} (h : stars [] w F) (hx : RdList (RdDig) w (fun k => ¬ F k) 16 a1 n1 l1) (hy : RdList (RdDig) w (fun k => ¬ F k) 16 a2 n2 l2) :
    Calls Tryz.prog 138 #[.slice a1 n1 c1, .slice a2 n2 c2] w (Post w F (fun _ : Unit => .bool (decide (l1 = l2))) (fun _ => [])) := by
 have hn1 := hx.len (by decide)
 have hn2 := hy.len (by decide)
 have hm1 := hx.max
 simp only [maxLen] at hm1
 refine g_enter (env := [(0, .slice a1 n1 c1), (1, .slice a2 n2 c2)]) Tryz.func138 rfl h Tryz.ntmps138 rfl rfl ?_; refine gsr (zxa ?_); refine gnt (gc_seq (gsr (zxm ?_))); refine gp zln ?_; refine zxm ?_; refine gp zln ?_; refine gp zni ?_; refine gnt (gif rfl (fun hc10 => ?_) (fun hc10 => ?_))
 ·refine gsr (zxa ?_); refine gnt (gc_ret (gx_then_ret (gx_ret1 rfl (by conv => lhs; whnf) ?_))); have e : decide (l1 = l2) = false := decide_eq_false (fun h => by rw [h] at hn1; (try simp only at hc10); omega)
  rw [e]; exact ze ()
 ·have hnn : n1 = n2 := by (try simp only at hc10); omega
  refine gc_skip (gx_then (gc_seq (gsr (zxm ?_)))); refine gp zln ?_; refine zxm ?_; refine gnt (gc_block (gc_loop (α := Nat) (fun k => [pureR (k ≤ n1 ∧ l1.take k = l2.take k)]) (fun k => [(13, .int .i64 (k : Int))]) [4, 5, 14, 15, 16, 17, 18, 19, 20, 21, 22, 23, 24, 25] (fun k => n1 - k) 0 ?_ ?_ ?_))
  ·refine env_start (by kernel_rfl)
  ·rintro w' hw
   obtain ⟨F', hF', hst'⟩ := hw.sel (M := []) (by repeat (first | exact Sel.nil | (apply Sel.cons; · (repeat (first | exact Pick.here | apply Pick.there))))); exact ⟨F', stars_pure_mk ⟨Nat.zero_le _, rfl⟩ hF', hst'⟩
  ·intro k u; refine gc_pureR (fun hk => ?_)
   replace hk : k ≤ n1 ∧ l1.take k = l2.take k := hk
   refine gsr (gp zlt ?_); refine gnt (gc_seq (gif rfl (fun hc14 => ?_) (fun hc14 => ?_)))
   ·have hk' : k < n1 := by (try simp only at hc14); omega
    obtain ⟨g1, o1, cs1, x, ha1, hA1, hg1, hra1, hcl1, hl1, hrd1⟩ := hx.elem (by decide) hk'; obtain ⟨g2, o2, cs2, y, ha2, hA2, hg2, hra2, hcl2, hl2, hrd2⟩ := hy.elem (i := k) (by decide) (by omega); subst ha1; subst ha2; unfold RdDig at hrd1 hrd2
    subst hrd1; subst hrd2; refine gc_skip (gx_then (gc_seq (gc_block (gsr (zxm ?_))))); refine zxa ?_; refine gnt (gc_seq (gc_regionS (by kernel_rfl) (by kernel_rfl) ?_)); refine sp zmv ?_; refine sp zmv ?_; refine sp (r_indexAddr_slice rfl rfl Ty.sl_82 Ty.sz_38 (by omega) (by omega)) ?_; refine sp (r_ldNo rfl Ty.row_38 Ty.sz_38 hra1 hcl1 (by decide) hA1) ?_; refine sp zmv ?_; refine sp zmv ?_; refine sp (r_indexAddr_slice rfl rfl Ty.sl_82 Ty.sz_38 (by omega) (by omega)) ?_; refine sp (r_ldNo rfl Ty.row_38 Ty.sz_38 hra2 hcl2 (by decide) hA2) ?_; refine sp znd ?_; refine gs_nil ?_; refine gx_then (gif rfl (fun hc24 => ?_) (fun hc24 => ?_))
    ·refine gsr (zxa ?_); refine gnt (gc_ret (gx_block_ret ?_)); refine gx_then_ret (gx_round_ret ?_); refine gx_block_ret ?_; refine gx_then_ret (gx_ret1 rfl (by conv => lhs; whnf) ?_); have e : decide (l1 = l2) = false := decide_eq_false (fun h => by rw [h, hl2] at hl1; exact hc24 (Option.some.inj hl1).symm)
     rw [e]; exact ze ()
    ·refine gc_skip (gx_block_normal (gx_then (gc_region (gp zad ?_)))); refine zxm ?_; refine gl_nil (zrd (k + 1) ?_ ?_)
     ·show n1 - (k + 1) < n1 - k
      omega
     ·rintro w' hw
      obtain ⟨F', hF', hst'⟩ := hw.sel (M := []) (by repeat (first | exact Sel.nil | (apply Sel.cons; · (repeat (first | exact Pick.here | apply Pick.there))))); refine ⟨F', stars_pure_mk ⟨show k + 1 ≤ n1 by omega, ?_⟩ hF', hst'⟩
      have hxy : x = y := hc24
      subst hxy; exact take_eq_succ hk.2 hl1 hl2
   ·refine gc_exit ?_; refine gx_then_exit ?_; refine gx_round_exit ?_; refine gx_block_hit ?_; refine gx_then (gsr (zxa ?_)); refine gnt (gc_ret (gx_ret1 rfl (by conv => lhs; whnf) ?_)); have e : decide (l1 = l2) = true := decide_eq_true (by have h1 := hk.2; have hk' : k = n1 := (by (try simp only at hc14); omega); rw [List.take_of_length_le (by omega), List.take_of_length_le (by omega)] at h1; exact h1)
    rw [e]; exact ze ()
theorem sameLists_ok {w : World} {F : Nat → Prop} {n1 c1 n2 c2 : Nat} {a1 a2 : Option Addr} {l1 l2 : List (List UInt8)} (h : stars [] w F) (hx : RdList (RdBytes w (fun k => ¬ F k)) w (fun k => ¬ F k) 1 a1 n1 l1) (hy : RdList (RdBytes w (fun k => ¬ F k)) w (fun k => ¬ F k) 1 a2 n2 l2) :
    Calls Tryz.prog 80 #[.slice a1 n1 c1, .slice a2 n2 c2] w (Post w F (fun _ : Unit => .bool (decide (l1 = l2))) (fun _ => [])) := by
 have hn1 := hx.len (by decide)
 have hn2 := hy.len (by decide)
 have hm1 := hx.max
 simp only [maxLen] at hm1
 refine g_enter (env := [(0, .slice a1 n1 c1), (1, .slice a2 n2 c2)]) Tryz.func80 rfl h Tryz.ntmps80 rfl rfl ?_; refine gsr (zxa ?_); refine gnt (gc_seq (gsr (zxm ?_))); refine gp zln ?_; refine zxm ?_; refine gp zln ?_; refine gp zni ?_; refine gnt (gif rfl (fun hc10 => ?_) (fun hc10 => ?_))
 ·refine gsr (zxa ?_); refine gnt (gc_ret (gx_then_ret (gx_ret1 rfl (by conv => lhs; whnf) ?_))); have e : decide (l1 = l2) = false := decide_eq_false (fun h => by rw [h] at hn1; (try simp only at hc10); omega)
  rw [e]; exact ze ()
 ·have hnn : n1 = n2 := by (try simp only at hc10); omega
  refine gc_skip (gx_then (gc_seq (gsr (zxm ?_)))); refine gp zln ?_; refine zxm ?_; refine gnt (gc_block (gc_loop (α := Nat) (fun k => [pureR (k ≤ n1 ∧ l1.take k = l2.take k)]) (fun k => [(13, .int .i64 (k : Int))]) [4, 5, 14, 15, 16, 17, 18, 19, 20, 21, 22, 23, 24, 25, 26, 27] (fun k => n1 - k) 0 ?_ ?_ ?_))
  ·refine env_start (by kernel_rfl)
  ·rintro w' hw
   obtain ⟨F', hF', hst'⟩ := hw.sel (M := []) (by repeat (first | exact Sel.nil | (apply Sel.cons; · (repeat (first | exact Pick.here | apply Pick.there))))); exact ⟨F', stars_pure_mk ⟨Nat.zero_le _, rfl⟩ hF', hst'⟩
  ·intro k u; refine gc_pureR (fun hk => ?_)
   replace hk : k ≤ n1 ∧ l1.take k = l2.take k := hk
   refine gsr (gp zlt ?_); refine gnt (gc_seq (gif rfl (fun hc14 => ?_) (fun hc14 => ?_)))
   ·have hk' : k < n1 := by (try simp only at hc14); omega
    obtain ⟨g1, o1, cs1, x, ha1, hA1, hg1, hra1, hcl1, hl1, hrd1⟩ := hx.elem (by decide) hk'; obtain ⟨g2, o2, cs2, y, ha2, hA2, hg2, hra2, hcl2, hl2, hrd2⟩ := hy.elem (i := k) (by decide) (by omega); subst ha1; subst ha2; obtain ⟨a1', n1', c1', rfl, hn1', hb1⟩ := hrd1; obtain ⟨a2', n2', c2', rfl, hn2', hb2⟩ := hrd2; refine gc_skip (gx_then (gc_seq (gc_block (gsr (zxm ?_))))); refine zxa ?_; refine gnt (gc_seq (gc_regionS (by kernel_rfl) (by kernel_rfl) ?_)); refine sp zmv ?_; refine sp zmv ?_; refine sp (r_indexAddr_slice rfl rfl Ty.sl_42 Ty.sz_49 (by omega) (by omega)) ?_; refine sp (r_ld1o rfl Ty.row_49 (hra1 0 _ rfl) hA1) ?_; refine sp (r_str rfl Ty.sl_49 Ty.un_5 (by kernel_rfl) (fun w hw => hw.rdOld hb1)) ?_; refine sp zmv ?_; refine sp zmv ?_; refine sp (r_indexAddr_slice rfl rfl Ty.sl_42 Ty.sz_49 (by omega) (by omega)) ?_; refine sp (r_ld1o rfl Ty.row_49 (hra2 0 _ rfl) hA2) ?_; refine sp (r_str rfl Ty.sl_49 Ty.un_5 (by kernel_rfl) (fun w hw => hw.rdOld hb2)) ?_; refine sp zns ?_; refine gs_nil ?_; refine gx_then (gif rfl (fun hc26 => ?_) (fun hc26 => ?_))
    ·refine gsr (zxa ?_); refine gnt (gc_ret (gx_block_ret ?_)); refine gx_then_ret (gx_round_ret ?_); refine gx_block_ret ?_; refine gx_then_ret (gx_ret1 rfl (by conv => lhs; whnf) ?_); have e : decide (l1 = l2) = false := decide_eq_false (fun h => by rw [h, hl2] at hl1; exact hc26 (Option.some.inj hl1).symm)
     rw [e]; exact ze ()
    ·refine gc_skip (gx_block_normal (gx_then (gc_region (gp zad ?_)))); refine zxm ?_; refine gl_nil (zrd (k + 1) ?_ ?_)
     ·show n1 - (k + 1) < n1 - k
      omega
     ·rintro w' hw
      obtain ⟨F', hF', hst'⟩ := hw.sel (M := []) (by repeat (first | exact Sel.nil | (apply Sel.cons; · (repeat (first | exact Pick.here | apply Pick.there))))); refine ⟨F', stars_pure_mk ⟨show k + 1 ≤ n1 by omega, ?_⟩ hF', hst'⟩
      have hxy : x = y := hc26
      subst hxy; exact take_eq_succ hk.2 hl1 hl2
   ·refine gc_exit ?_; refine gx_then_exit ?_; refine gx_round_exit ?_; refine gx_block_hit ?_; refine gx_then (gsr (zxa ?_)); refine gnt (gc_ret (gx_ret1 rfl (by conv => lhs; whnf) ?_)); have e : decide (l1 = l2) = true := decide_eq_true (by have h1 := hk.2; have hk' : k = n1 := (by (try simp only at hc14); omega); rw [List.take_of_length_le (by omega), List.take_of_length_le (by omega)] at h1; exact h1)
    rw [e]; exact ze ()
theorem sameVdrs_ok {w : World} {F : Nat → Prop} {n1 c1 n2 c2 : Nat} {a1 a2 : Option Addr} {l1 l2 : List Vdr} (h : stars [] w F) (hx : RdList (RdVdr) w (fun k => ¬ F k) 17 a1 n1 l1) (hy : RdList (RdVdr) w (fun k => ¬ F k) 17 a2 n2 l2) :
    Calls Tryz.prog 81 #[.slice a1 n1 c1, .slice a2 n2 c2] w (Post w F (fun _ : Unit => .bool (decide (l1 = l2))) (fun _ => [])) := by
 have hn1 := hx.len (by decide)
 have hn2 := hy.len (by decide)
 have hm1 := hx.max
 simp only [maxLen] at hm1
 refine g_enter (env := [(0, .slice a1 n1 c1), (1, .slice a2 n2 c2)]) Tryz.func81 rfl h Tryz.ntmps81 rfl rfl ?_; refine gsr (zxa ?_); refine gnt (gc_seq (gsr (zxm ?_))); refine gp zln ?_; refine zxm ?_; refine gp zln ?_; refine gp zni ?_; refine gnt (gif rfl (fun hc10 => ?_) (fun hc10 => ?_))
 ·refine gsr (zxa ?_); refine gnt (gc_ret (gx_then_ret (gx_ret1 rfl (by conv => lhs; whnf) ?_))); have e : decide (l1 = l2) = false := decide_eq_false (fun h => by rw [h] at hn1; (try simp only at hc10); omega)
  rw [e]; exact ze ()
 ·have hnn : n1 = n2 := by (try simp only at hc10); omega
  refine gc_skip (gx_then (gc_seq (gsr (zxm ?_)))); refine gp zln ?_; refine zxm ?_; refine gnt (gc_block (gc_loop (α := Nat) (fun k => [pureR (k ≤ n1 ∧ l1.take k = l2.take k)]) (fun k => [(13, .int .i64 (k : Int))]) [4, 5, 14, 15, 16, 17, 18, 19, 20, 21, 22, 23, 24, 25, 26, 27, 28, 29, 30, 31, 32, 33, 34, 35, 36, 37, 38, 39, 40] (fun k => n1 - k) 0 ?_ ?_ ?_))
  ·refine env_start (by kernel_rfl)
  ·rintro w' hw
   obtain ⟨F', hF', hst'⟩ := hw.sel (M := []) (by repeat (first | exact Sel.nil | (apply Sel.cons; · (repeat (first | exact Pick.here | apply Pick.there))))); exact ⟨F', stars_pure_mk ⟨Nat.zero_le _, rfl⟩ hF', hst'⟩
  ·intro k u; refine gc_pureR (fun hk => ?_)
   replace hk : k ≤ n1 ∧ l1.take k = l2.take k := hk
   refine gsr (gp zlt ?_); refine gnt (gc_seq (gif rfl (fun hc14 => ?_) (fun hc14 => ?_)))
   ·have hk' : k < n1 := by (try simp only at hc14); omega
    obtain ⟨g1, o1, cs1, x, ha1, hA1, hg1, hra1, hcl1, hl1, hrd1⟩ := hx.elem (by decide) hk'; obtain ⟨g2, o2, cs2, y, ha2, hA2, hg2, hra2, hcl2, hl2, hrd2⟩ := hy.elem (i := k) (by decide) (by omega); subst ha1; subst ha2; unfold RdVdr at hrd1 hrd2
    subst hrd1; subst hrd2; refine gc_skip (gx_then (gc_seq (gc_block (gsr (zxm ?_))))); refine zxa ?_; refine gnt (gc_seq ?_); by_cases hsp6 : x.key = y.key
    ·refine gc_regionS (by kernel_rfl) (by kernel_rfl) ?_; refine sp zmv ?_; refine sp zmv ?_; refine sp (r_indexAddr_slice rfl rfl Ty.sl_43 Ty.sz_152 (by omega) (by omega)) ?_; refine sp zfa ?_; refine sp (r_ldNo rfl Ty.row_38 Ty.sz_38 (range_left hra1) (dc_length _) (by decide) hA1) ?_; refine sp zmv ?_; refine sp zmv ?_; refine sp (r_indexAddr_slice rfl rfl Ty.sl_43 Ty.sz_152 (by omega) (by omega)) ?_; refine sp zfa ?_; refine sp (r_ldNo rfl Ty.row_38 Ty.sz_38 (range_left hra2) (dc_length _) (by decide) hA2) ?_; refine sp (r_bool (b := !decide (x.key = y.key)) (c := false) (r_neq_dig rfl rfl Ty.arr_38 Ty.un_5 Ty.sz_5 (by kernel_rfl)) (by simp [hsp6])) ?_; refine sp zmv ?_; refine sq zmv ?_; refine sq zmv ?_; refine sq (r_indexAddr_slice rfl rfl Ty.sl_43 Ty.sz_152 (by omega) (by omega)) ?_; refine sq zfa ?_; refine sq (r_ld1o rfl Ty.row_3 (range_at hra1 (j := 16) (by first | rfl | (simp only [List.getElem?_cons_succ, List.getElem?_cons_zero, List.cons_append, List.append_assoc, get_dc, get_L, Nat.reduceLeDiff, Nat.reduceSub, Nat.reduceAdd, Nat.le_refl]; rfl))) hA1) ?_
     refine sq zmv ?_; refine sq zmv ?_; refine sq (r_indexAddr_slice rfl rfl Ty.sl_43 Ty.sz_152 (by omega) (by omega)) ?_; refine sq zfa ?_; refine sq (r_ld1o rfl Ty.row_3 (range_at hra2 (j := 16) (by first | rfl | (simp only [List.getElem?_cons_succ, List.getElem?_cons_zero, List.cons_append, List.append_assoc, get_dc, get_L, Nat.reduceLeDiff, Nat.reduceSub, Nat.reduceAdd, Nat.le_refl]; rfl))) hA2) ?_
     refine sq zni ?_; refine sp zpk ?_; refine gs_nil ?_; refine gx_then (gif rfl (fun hc39 => ?_) (fun hc39 => ?_))
     ·refine gsr (zxa ?_); refine gnt (gc_ret (gx_block_ret ?_)); refine gx_then_ret (gx_round_ret ?_); refine gx_block_ret ?_; refine gx_then_ret (gx_ret1 rfl (by conv => lhs; whnf) ?_); have e : decide (l1 = l2) = false := decide_eq_false (fun h => by rw [h, hl2] at hl1; exact hc39 (by rw [Option.some.inj hl1]))
      rw [e]; exact ze ()
     ·refine gc_skip (gx_block_normal (gx_then (gc_region (gp zad ?_)))); refine zxm ?_; refine gl_nil (zrd (k + 1) ?_ ?_)
      ·show n1 - (k + 1) < n1 - k
       omega
      ·rintro w' hw
       obtain ⟨F', hF', hst'⟩ := hw.sel (M := []) (by repeat (first | exact Sel.nil | (apply Sel.cons; · (repeat (first | exact Pick.here | apply Pick.there))))); refine ⟨F', stars_pure_mk ⟨show k + 1 ≤ n1 by omega, ?_⟩ hF', hst'⟩
       have hxy : x = y := by (try simp only at hc39); cases x; cases y; simp_all
       subst hxy; exact take_eq_succ hk.2 hl1 hl2
    ·refine gc_regionS (by kernel_rfl) (by kernel_rfl) ?_; refine sp zmv ?_; refine sp zmv ?_; refine sp (r_indexAddr_slice rfl rfl Ty.sl_43 Ty.sz_152 (by omega) (by omega)) ?_; refine sp zfa ?_; refine sp (r_ldNo rfl Ty.row_38 Ty.sz_38 (range_left hra1) (dc_length _) (by decide) hA1) ?_; refine sp zmv ?_; refine sp zmv ?_; refine sp (r_indexAddr_slice rfl rfl Ty.sl_43 Ty.sz_152 (by omega) (by omega)) ?_; refine sp zfa ?_; refine sp (r_ldNo rfl Ty.row_38 Ty.sz_38 (range_left hra2) (dc_length _) (by decide) hA2) ?_; refine sp (r_bool (b := !decide (x.key = y.key)) (c := true) (r_neq_dig rfl rfl Ty.arr_38 Ty.un_5 Ty.sz_5 (by kernel_rfl)) (by simp [hsp6])) ?_; refine sp zmv ?_; refine sn ?_; refine sn ?_; refine sn ?_; refine sn ?_; refine sn ?_; refine sn ?_; refine sn ?_; refine sn ?_; refine sn ?_; refine sn ?_; refine sn ?_; refine sp zpk ?_; refine gs_nil ?_; refine gx_then (gc_condT rfl rfl ?_); refine gsr (zxa ?_); refine gnt (gc_ret (gx_block_ret ?_)); refine gx_then_ret (gx_round_ret ?_); refine gx_block_ret ?_; refine gx_then_ret (gx_ret1 rfl (by conv => lhs; whnf) ?_); have e : decide (l1 = l2) = false := decide_eq_false (fun h => by rw [h, hl2] at hl1; exact hsp6 (by rw [Option.some.inj hl1]))
     rw [e]; exact ze ()
   ·refine gc_exit ?_; refine gx_then_exit ?_; refine gx_round_exit ?_; refine gx_block_hit ?_; refine gx_then (gsr (zxa ?_)); refine gnt (gc_ret (gx_ret1 rfl (by conv => lhs; whnf) ?_)); have e : decide (l1 = l2) = true := decide_eq_true (by have h1 := hk.2; have hk' : k = n1 := (by (try simp only at hc14); omega); rw [List.take_of_length_le (by omega), List.take_of_length_le (by omega)] at h1; exact h1)
    rw [e]; exact ze ()
end
section
attribute [local irreducible] Gl Gc Gx Gs Runs Wt
theorem sameSig_ok {w : World} {F : Nat → Prop} {cs1 cs2 : List Value} {x y : Sig} (h : stars [] w F) (hx : RdSig w (fun k => ¬ F k) cs1 x) (hy : RdSig w (fun k => ¬ F k) cs2 y) :
    Calls Tryz.prog 116 #[.agg cs1.toArray, .agg cs2.toArray] w (Post w F (fun _ : Unit => .bool (decide (x = y))) (fun _ => [])) := by
 obtain ⟨a1, n1, c1, a2, n2, c2, rfl, hk1, hk2, hd1, hd2⟩ := hx; obtain ⟨b1, m1, d1, b2, m2, d2, rfl, hj1, hj2, he1, he2⟩ := hy; refine g_enter (env := [(0, .agg (List.toArray ([.int .i64 x.leaf, .slice a1 n1 c1, .slice a2 n2 c2]))), (1, .agg (List.toArray ([.int .i64 y.leaf, .slice b1 m1 d1, .slice b2 m2 d2])))]) Tryz.func116 rfl h Tryz.ntmps116 rfl rfl ?_; refine gsr (zbN fun b2 => ?_); refine zbN fun b3 => ?_; refine zxa ?_; refine gnt (gc_seq ?_); by_cases hsq0 : x.leaf = y.leaf
 ·by_cases hsq1 : x.chains = y.chains
  ·refine gc_region (gp zfa ?_); refine gp zl ?_; refine gp zfa ?_; refine gp zl ?_; refine gp (r_bool (r_eql_int rfl rfl) (decide_eq_true hsq0)) ?_; refine zxm ?_; refine gq zfa ?_; refine gq zl ?_; refine gq zfa ?_; refine gq zl ?_; refine zc (fun _ => ?_) (c := fun w1 F1 F2 h1 h2 hd hst => sameDigs_ok h1 (hd1.mv hst.still) (he1.mv hst.still))
   rw [decide_eq_true hsq1]; refine gp zpk ?_; refine zxm ?_; refine gq zfa ?_; refine gq zl ?_; refine gq zfa ?_; refine gq zl ?_; refine zc (fun _ => ?_) (c := fun w1 F1 F2 h1 h2 hd hst => sameDigs_ok h1 (hd2.mv hst.still) (he2.mv hst.still))
   refine gp zpk ?_; refine zxa ?_; refine gnt (gc_ret (gx_ret1 rfl (by conv => lhs; whnf) ?_)); have e : decide (x = y) = decide (x.path = y.path) := by obtain ⟨⟩ := x; obtain ⟨⟩ := y; simp_all
   rw [e]; exact ze ()
  ·refine gc_region (gp zfa ?_); refine gp zl ?_; refine gp zfa ?_; refine gp zl ?_; refine gp (r_bool (r_eql_int rfl rfl) (decide_eq_true hsq0)) ?_; refine zxm ?_; refine gq zfa ?_; refine gq zl ?_; refine gq zfa ?_; refine gq zl ?_; refine zc (fun _ => ?_) (c := fun w1 F1 F2 h1 h2 hd hst => sameDigs_ok h1 (hd1.mv hst.still) (he1.mv hst.still))
   rw [decide_eq_false hsq1]; refine gp zpk ?_; refine zxm ?_; refine gn ?_; refine gn ?_; refine gn ?_; refine gn ?_; refine gn ?_; refine gp zpk ?_; refine zxa ?_; refine gnt (gc_ret (gx_ret1 rfl (by conv => lhs; whnf) ?_)); have e : decide (x = y) = false := decide_eq_false (fun h => hsq1 (by rw [h]))
   rw [e]; exact ze ()
 ·refine gc_region (gp zfa ?_); refine gp zl ?_; refine gp zfa ?_; refine gp zl ?_; refine gp (r_bool (r_eql_int rfl rfl) (decide_eq_false hsq0)) ?_; refine zxm ?_; refine gn ?_; refine gn ?_; refine gn ?_; refine gn ?_; refine gn ?_; refine gp zpk ?_; refine zxm ?_; refine gn ?_; refine gn ?_; refine gn ?_; refine gn ?_; refine gn ?_; refine gp zpk ?_; refine zxa ?_; refine gnt (gc_ret (gx_ret1 rfl (by conv => lhs; whnf) ?_)); have e : decide (x = y) = false := decide_eq_false (fun h => hsq0 (by rw [h]))
  rw [e]; exact ze ()
theorem sameSigneds_ok {w : World} {F : Nat → Prop} {n1 c1 n2 c2 : Nat} {a1 a2 : Option Addr} {l1 l2 : List Signed} (h : stars [] w F) (hx : RdList (RdSigned w (fun k => ¬ F k)) w (fun k => ¬ F k) 4 a1 n1 l1) (hy : RdList (RdSigned w (fun k => ¬ F k)) w (fun k => ¬ F k) 4 a2 n2 l2) :
    Calls Tryz.prog 82 #[.slice a1 n1 c1, .slice a2 n2 c2] w (Post w F (fun _ : Unit => .bool (decide (l1 = l2))) (fun _ => [])) := by
 have hn1 := hx.len (by decide)
 have hn2 := hy.len (by decide)
 have hm1 := hx.max
 simp only [maxLen] at hm1
 refine g_enter (env := [(0, .slice a1 n1 c1), (1, .slice a2 n2 c2)]) Tryz.func82 rfl h Tryz.ntmps82 rfl rfl ?_; refine gsr (zxa ?_); refine gnt (gc_seq (gsr (zxm ?_))); refine gp zln ?_; refine zxm ?_; refine gp zln ?_; refine gp zni ?_; refine gnt (gif rfl (fun hc10 => ?_) (fun hc10 => ?_))
 ·refine gsr (zxa ?_); refine gnt (gc_ret (gx_then_ret (gx_ret1 rfl (by conv => lhs; whnf) ?_))); have e : decide (l1 = l2) = false := decide_eq_false (fun h => by rw [h] at hn1; (try simp only at hc10); omega)
  rw [e]; exact ze ()
 ·have hnn : n1 = n2 := by (try simp only at hc10); omega
  refine gc_skip (gx_then (gc_seq (gsr (zxm ?_)))); refine gp zln ?_; refine zxm ?_; refine gnt (gc_block (gc_loop (α := Nat) (fun k => [pureR (k ≤ n1 ∧ l1.take k = l2.take k)]) (fun k => [(13, .int .i64 (k : Int))]) [4, 5, 14, 15, 16, 17, 18, 19, 20, 21, 22, 23, 24, 25, 26, 27, 28, 29, 30, 31, 32, 33, 34, 35, 36, 37, 38, 39, 40, 41] (fun k => n1 - k) 0 ?_ ?_ ?_))
  ·refine env_start (by kernel_rfl)
  ·rintro w' hw
   obtain ⟨F', hF', hst'⟩ := hw.sel (M := []) (by repeat (first | exact Sel.nil | (apply Sel.cons; · (repeat (first | exact Pick.here | apply Pick.there))))); exact ⟨F', stars_pure_mk ⟨Nat.zero_le _, rfl⟩ hF', hst'⟩
  ·intro k u; refine gc_pureR (fun hk => ?_)
   replace hk : k ≤ n1 ∧ l1.take k = l2.take k := hk
   refine gsr (gp zlt ?_); refine gnt (gc_seq (gif rfl (fun hc14 => ?_) (fun hc14 => ?_)))
   ·have hk' : k < n1 := by (try simp only at hc14); omega
    obtain ⟨g1, o1, cs1, x, ha1, hA1, hg1, hra1, hcl1, hl1, hrd1⟩ := hx.elem (by decide) hk'; obtain ⟨g2, o2, cs2, y, ha2, hA2, hg2, hra2, hcl2, hl2, hrd2⟩ := hy.elem (i := k) (by decide) (by omega); subst ha1; subst ha2; obtain ⟨s1, rfl, hs1⟩ := hrd1; obtain ⟨s2, rfl, hs2⟩ := hrd2; refine gc_skip (gx_then (gc_seq (gc_block (gsr (zxm ?_))))); refine zxa ?_; refine gnt (gc_seq ?_); by_cases hsp6 : x.who = y.who
    ·refine gc_regionT 22 (by kernel_rfl) (by kernel_rfl) ?_; refine sp zmv ?_; refine sp zmv ?_; refine sp (r_indexAddr_slice rfl rfl Ty.sl_39 Ty.sz_86 (by omega) (by omega)) ?_; refine sp zfa ?_; refine sp (r_ld1o rfl Ty.row_3 (range_at hra1 (j := 0) (by first | rfl | (simp only [List.getElem?_cons_succ, List.getElem?_cons_zero, List.cons_append, List.append_assoc, get_dc, get_L, Nat.reduceLeDiff, Nat.reduceSub, Nat.reduceAdd, Nat.le_refl]; rfl))) hA1) ?_
     refine sp zmv ?_; refine sp zmv ?_; refine sp (r_indexAddr_slice rfl rfl Ty.sl_39 Ty.sz_86 (by omega) (by omega)) ?_; refine sp zfa ?_; refine sp (r_ld1o rfl Ty.row_3 (range_at hra2 (j := 0) (by first | rfl | (simp only [List.getElem?_cons_succ, List.getElem?_cons_zero, List.cons_append, List.append_assoc, get_dc, get_L, Nat.reduceLeDiff, Nat.reduceSub, Nat.reduceAdd, Nat.le_refl]; rfl))) hA2) ?_
     refine sp (r_bool (b := !decide (x.who = y.who)) (c := false) (r_neq_int rfl rfl) (by simp [hsp6])) ?_; refine sp zmv ?_; refine sq zmv ?_; refine sq zmv ?_; refine sq (r_indexAddr_slice rfl rfl Ty.sl_39 Ty.sz_86 (by omega) (by omega)) ?_; refine sq zfa ?_; refine sq (r_ldNo rfl Ty.row_84 Ty.sz_84 (range_right (xs := [_]) hra1) hs1.len (by decide) hA1) ?_; refine sq zmv ?_; refine sq zmv ?_; refine sq (r_indexAddr_slice rfl rfl Ty.sl_39 Ty.sz_86 (by omega) (by omega)) ?_; refine sq zfa ?_; refine sq (r_ldNo rfl Ty.row_84 Ty.sz_84 (range_right (xs := [_]) hra2) hs2.len (by decide) hA2) ?_; refine gs_nil ?_; refine zc (fun _ => ?_) (c := fun w1 F1 F2 h1 h2 hd hst => sameSig_ok (x := x.sig) (y := y.sig) h1 (hs1.mv hst.still) (hs2.mv hst.still))
     refine gq znt ?_; refine gp zpk ?_; refine gnt (gif rfl (fun hc40 => ?_) (fun hc40 => ?_))
     ·refine gsr (zxa ?_); refine gnt (gc_ret (gx_block_ret ?_)); refine gx_then_ret (gx_round_ret ?_); refine gx_block_ret ?_; refine gx_then_ret (gx_ret1 rfl (by conv => lhs; whnf) ?_); have e : decide (l1 = l2) = false := decide_eq_false (fun h => by rw [h, hl2] at hl1; exact (by simpa using hc40 : ¬ x.sig = y.sig) (by rw [Option.some.inj hl1]))
      rw [e]; exact ze ()
     ·refine gc_skip (gx_block_normal (gx_then (gc_region (gp zad ?_)))); refine zxm ?_; refine gl_nil (zrd (k + 1) ?_ ?_)
      ·show n1 - (k + 1) < n1 - k
       omega
      ·rintro w' hw
       obtain ⟨F', hF', hst'⟩ := hw.sel (M := []) (by repeat (first | exact Sel.nil | (apply Sel.cons; · (repeat (first | exact Pick.here | apply Pick.there))))); refine ⟨F', stars_pure_mk ⟨show k + 1 ≤ n1 by omega, ?_⟩ hF', hst'⟩
       have hxy : x = y := by (cases x; cases y; simp_all)
       subst hxy; exact take_eq_succ hk.2 hl1 hl2
    ·refine gc_regionT 22 (by kernel_rfl) (by kernel_rfl) ?_; refine sp zmv ?_; refine sp zmv ?_; refine sp (r_indexAddr_slice rfl rfl Ty.sl_39 Ty.sz_86 (by omega) (by omega)) ?_; refine sp zfa ?_; refine sp (r_ld1o rfl Ty.row_3 (range_at hra1 (j := 0) (by first | rfl | (simp only [List.getElem?_cons_succ, List.getElem?_cons_zero, List.cons_append, List.append_assoc, get_dc, get_L, Nat.reduceLeDiff, Nat.reduceSub, Nat.reduceAdd, Nat.le_refl]; rfl))) hA1) ?_
     refine sp zmv ?_; refine sp zmv ?_; refine sp (r_indexAddr_slice rfl rfl Ty.sl_39 Ty.sz_86 (by omega) (by omega)) ?_; refine sp zfa ?_; refine sp (r_ld1o rfl Ty.row_3 (range_at hra2 (j := 0) (by first | rfl | (simp only [List.getElem?_cons_succ, List.getElem?_cons_zero, List.cons_append, List.append_assoc, get_dc, get_L, Nat.reduceLeDiff, Nat.reduceSub, Nat.reduceAdd, Nat.le_refl]; rfl))) hA2) ?_
     refine sp (r_bool (b := !decide (x.who = y.who)) (c := true) (r_neq_int rfl rfl) (by simp [hsp6])) ?_; refine sp zmv ?_; refine sn ?_; refine sn ?_; refine sn ?_; refine sn ?_; refine sn ?_; refine sn ?_; refine sn ?_; refine sn ?_; refine sn ?_; refine sn ?_; refine gs_nil ?_; refine gn ?_; refine gn ?_; refine gp zpk ?_; refine gnt (gc_condT rfl rfl ?_); refine gsr (zxa ?_); refine gnt (gc_ret (gx_block_ret ?_)); refine gx_then_ret (gx_round_ret ?_); refine gx_block_ret ?_; refine gx_then_ret (gx_ret1 rfl (by conv => lhs; whnf) ?_); have e : decide (l1 = l2) = false := decide_eq_false (fun h => by rw [h, hl2] at hl1; exact hsp6 (by rw [Option.some.inj hl1]))
     rw [e]; exact ze ()
   ·refine gc_exit ?_; refine gx_then_exit ?_; refine gx_round_exit ?_; refine gx_block_hit ?_; refine gx_then (gsr (zxa ?_)); refine gnt (gc_ret (gx_ret1 rfl (by conv => lhs; whnf) ?_)); have e : decide (l1 = l2) = true := decide_eq_true (by have h1 := hk.2; have hk' : k = n1 := (by (try simp only at hc14); omega); rw [List.take_of_length_le (by omega), List.take_of_length_le (by omega)] at h1; exact h1)
    rw [e]; exact ze ()
theorem sameQC_ok {w : World} {F : Nat → Prop} {cs1 cs2 : List Value} {x y : QC} (h : stars [] w F) (hx : RdQC w (fun k => ¬ F k) cs1 x) (hy : RdQC w (fun k => ¬ F k) cs2 y) :
    Calls Tryz.prog 47 #[.agg cs1.toArray, .agg cs2.toArray] w (Post w F (fun _ : Unit => .bool (decide (x = y))) (fun _ => [])) := by
 obtain ⟨a1, n1, c1, rfl, hk1, hd1⟩ := hx; obtain ⟨b1, m1, d1, rfl, hj1, he1⟩ := hy; refine g_enter (env := [(0, .agg (List.toArray (.int .i64 x.epoch :: .int .i64 x.round :: (dc x.block ++ [.slice a1 n1 c1])))), (1, .agg (List.toArray (.int .i64 y.epoch :: .int .i64 y.round :: (dc y.block ++ [.slice b1 m1 d1]))))]) Tryz.func47 rfl h Tryz.ntmps47 rfl rfl ?_; refine gsr (zbN fun b2 => ?_); refine zbN fun b3 => ?_; refine zxa ?_; refine gnt (gc_seq ?_); by_cases hsq0 : x.epoch = y.epoch
 ·by_cases hsq1 : x.round = y.round
  ·by_cases hsq2 : x.block = y.block
   ·refine gc_region (gp zfa ?_); refine gp zl ?_; refine gp zfa ?_; refine gp zl ?_; refine gp (r_bool (r_eql_int rfl rfl) (decide_eq_true hsq0)) ?_; refine zxm ?_; refine gq zfa ?_; refine gq zl ?_; refine gq zfa ?_; refine gq zl ?_; refine gq (r_bool (r_eql_int rfl rfl) (decide_eq_true hsq1)) ?_; refine gp zpk ?_; refine zxm ?_; refine gq zfa ?_; refine gq zL ?_; refine gq zfa ?_; refine gq zL ?_; refine gq (r_bool (r_eql_dig rfl rfl Ty.arr_38 Ty.un_5 Ty.sz_5 (by kernel_rfl)) (decide_eq_true hsq2)) ?_; refine gp zpk ?_; refine zxm ?_; refine gq zfa ?_; refine gq zl ?_; refine gq zfa ?_; refine gq zl ?_; refine zc (fun _ => ?_) (c := fun w1 F1 F2 h1 h2 hd hst => sameSigneds_ok h1 (RdList.mv hd1 hst.still fun _ _ h => h.mv hst.still) (RdList.mv he1 hst.still fun _ _ h => h.mv hst.still))
    refine gp zpk ?_; refine zxa ?_; refine gnt (gc_ret (gx_ret1 rfl (by conv => lhs; whnf) ?_)); have e : decide (x = y) = decide (x.votes = y.votes) := by obtain ⟨⟩ := x; obtain ⟨⟩ := y; simp_all
    rw [e]; exact ze ()
   ·refine gc_region (gp zfa ?_); refine gp zl ?_; refine gp zfa ?_; refine gp zl ?_; refine gp (r_bool (r_eql_int rfl rfl) (decide_eq_true hsq0)) ?_; refine zxm ?_; refine gq zfa ?_; refine gq zl ?_; refine gq zfa ?_; refine gq zl ?_; refine gq (r_bool (r_eql_int rfl rfl) (decide_eq_true hsq1)) ?_; refine gp zpk ?_; refine zxm ?_; refine gq zfa ?_; refine gq zL ?_; refine gq zfa ?_; refine gq zL ?_; refine gq (r_bool (r_eql_dig rfl rfl Ty.arr_38 Ty.un_5 Ty.sz_5 (by kernel_rfl)) (decide_eq_false hsq2)) ?_; refine gp zpk ?_; refine zxm ?_; refine gn ?_; refine gn ?_; refine gn ?_; refine gn ?_; refine gn ?_; refine gp zpk ?_; refine zxa ?_; refine gnt (gc_ret (gx_ret1 rfl (by conv => lhs; whnf) ?_)); have e : decide (x = y) = false := decide_eq_false (fun h => hsq2 (by rw [h]))
    rw [e]; exact ze ()
  ·refine gc_region (gp zfa ?_); refine gp zl ?_; refine gp zfa ?_; refine gp zl ?_; refine gp (r_bool (r_eql_int rfl rfl) (decide_eq_true hsq0)) ?_; refine zxm ?_; refine gq zfa ?_; refine gq zl ?_; refine gq zfa ?_; refine gq zl ?_; refine gq (r_bool (r_eql_int rfl rfl) (decide_eq_false hsq1)) ?_; refine gp zpk ?_; refine zxm ?_; refine gn ?_; refine gn ?_; refine gn ?_; refine gn ?_; refine gn ?_; refine gp zpk ?_; refine zxm ?_; refine gn ?_; refine gn ?_; refine gn ?_; refine gn ?_; refine gn ?_; refine gp zpk ?_; refine zxa ?_; refine gnt (gc_ret (gx_ret1 rfl (by conv => lhs; whnf) ?_)); have e : decide (x = y) = false := decide_eq_false (fun h => hsq1 (by rw [h]))
   rw [e]; exact ze ()
 ·refine gc_region (gp zfa ?_); refine gp zl ?_; refine gp zfa ?_; refine gp zl ?_; refine gp (r_bool (r_eql_int rfl rfl) (decide_eq_false hsq0)) ?_; refine zxm ?_; refine gn ?_; refine gn ?_; refine gn ?_; refine gn ?_; refine gn ?_; refine gp zpk ?_; refine zxm ?_; refine gn ?_; refine gn ?_; refine gn ?_; refine gn ?_; refine gn ?_; refine gp zpk ?_; refine zxm ?_; refine gn ?_; refine gn ?_; refine gn ?_; refine gn ?_; refine gn ?_; refine gp zpk ?_; refine zxa ?_; refine gnt (gc_ret (gx_ret1 rfl (by conv => lhs; whnf) ?_)); have e : decide (x = y) = false := decide_eq_false (fun h => hsq0 (by rw [h]))
  rw [e]; exact ze ()
theorem sameBlock_ok {w : World} {F : Nat → Prop} {cs1 cs2 : List Value} {x y : Block} (h : stars [] w F) (hx : RdBlock w (fun k => ¬ F k) cs1 x) (hy : RdBlock w (fun k => ¬ F k) cs2 y) :
    Calls Tryz.prog 46 #[.agg cs1.toArray, .agg cs2.toArray] w (Post w F (fun _ : Unit => .bool (decide (x = y))) (fun _ => [])) := by
 obtain ⟨q, a1, n1, c1, a2, n2, c2, rfl, hq, hk1, hd1, hk2, hd2⟩ := hx; obtain ⟨r, b1, m1, d1, b2, m2, d2, rfl, hr, hj1, he1, hj2, he2⟩ := hy; have lq := hq.len
 have lr := hr.len
 have z_lq := Len.of lq
 have z_lr := Len.of lr
 refine g_enter (env := [(0, .agg (List.toArray (.int .i64 x.epoch :: .int .i64 x.round :: (dc x.parent ++ (q ++ [.slice a1 n1 c1, .slice a2 n2 c2]))))), (1, .agg (List.toArray (.int .i64 y.epoch :: .int .i64 y.round :: (dc y.parent ++ (r ++ [.slice b1 m1 d1, .slice b2 m2 d2])))))]) Tryz.func46 rfl h Tryz.ntmps46 rfl rfl ?_; refine gsr (zbN fun b2 => ?_); refine zbN fun b3 => ?_; refine zxa ?_; refine gnt (gc_seq ?_); by_cases hsq0 : x.epoch = y.epoch
 ·by_cases hsq1 : x.round = y.round
  ·by_cases hsq2 : x.parent = y.parent
   ·by_cases hsq3 : x.justify = y.justify
    ·by_cases hsq4 : x.payload = y.payload
     ·refine gc_region (gp zfa ?_); refine gp zl ?_; refine gp zfa ?_; refine gp zl ?_; refine gp (r_bool (r_eql_int rfl rfl) (decide_eq_true hsq0)) ?_; refine zxm ?_; refine gq zfa ?_; refine gq zl ?_; refine gq zfa ?_; refine gq zl ?_; refine gq (r_bool (r_eql_int rfl rfl) (decide_eq_true hsq1)) ?_; refine gp zpk ?_; refine zxm ?_; refine gq zfa ?_; refine gq zL ?_; refine gq zfa ?_; refine gq zL ?_; refine gq (r_bool (r_eql_dig rfl rfl Ty.arr_38 Ty.un_5 Ty.sz_5 (by kernel_rfl)) (decide_eq_true hsq2)) ?_; refine gp zpk ?_; refine zxm ?_; refine gq zfa ?_; refine gq zL ?_; refine gq zfa ?_; refine gq zL ?_; refine zc (fun _ => ?_) (c := fun w1 F1 F2 h1 h2 hd hst => sameQC_ok h1 (hq.mv hst.still) (hr.mv hst.still))
      rw [decide_eq_true hsq3]; refine gp zpk ?_; refine zxm ?_; refine gq zfa ?_; refine gq zl ?_; refine gq zfa ?_; refine gq zl ?_; refine zc (fun _ => ?_) (c := fun w1 F1 F2 h1 h2 hd hst => sameLists_ok h1 (RdList.mv hd1 hst.still fun _ _ h => h.mv hst.still) (RdList.mv he1 hst.still fun _ _ h => h.mv hst.still))
      rw [decide_eq_true hsq4]; refine gp zpk ?_; refine zxm ?_; refine gq zfa ?_; refine gq zl ?_; refine gq zfa ?_; refine gq zl ?_; refine zc (fun _ => ?_) (c := fun w1 F1 F2 h1 h2 hd hst => sameVdrs_ok h1 (RdList.mv hd2 hst.still fun _ _ h => h) (RdList.mv he2 hst.still fun _ _ h => h))
      refine gp zpk ?_; refine zxa ?_; refine gnt (gc_ret (gx_ret1 rfl (by conv => lhs; whnf) ?_)); have e : decide (x = y) = decide (x.next = y.next) := by obtain ⟨⟩ := x; obtain ⟨⟩ := y; simp_all
      rw [e]; exact ze ()
     ·refine gc_region (gp zfa ?_); refine gp zl ?_; refine gp zfa ?_; refine gp zl ?_; refine gp (r_bool (r_eql_int rfl rfl) (decide_eq_true hsq0)) ?_; refine zxm ?_; refine gq zfa ?_; refine gq zl ?_; refine gq zfa ?_; refine gq zl ?_; refine gq (r_bool (r_eql_int rfl rfl) (decide_eq_true hsq1)) ?_; refine gp zpk ?_; refine zxm ?_; refine gq zfa ?_; refine gq zL ?_; refine gq zfa ?_; refine gq zL ?_; refine gq (r_bool (r_eql_dig rfl rfl Ty.arr_38 Ty.un_5 Ty.sz_5 (by kernel_rfl)) (decide_eq_true hsq2)) ?_; refine gp zpk ?_; refine zxm ?_; refine gq zfa ?_; refine gq zL ?_; refine gq zfa ?_; refine gq zL ?_; refine zc (fun _ => ?_) (c := fun w1 F1 F2 h1 h2 hd hst => sameQC_ok h1 (hq.mv hst.still) (hr.mv hst.still))
      rw [decide_eq_true hsq3]; refine gp zpk ?_; refine zxm ?_; refine gq zfa ?_; refine gq zl ?_; refine gq zfa ?_; refine gq zl ?_; refine zc (fun _ => ?_) (c := fun w1 F1 F2 h1 h2 hd hst => sameLists_ok h1 (RdList.mv hd1 hst.still fun _ _ h => h.mv hst.still) (RdList.mv he1 hst.still fun _ _ h => h.mv hst.still))
      rw [decide_eq_false hsq4]; refine gp zpk ?_; refine zxm ?_; refine gn ?_; refine gn ?_; refine gn ?_; refine gn ?_; refine gn ?_; refine gp zpk ?_; refine zxa ?_; refine gnt (gc_ret (gx_ret1 rfl (by conv => lhs; whnf) ?_)); have e : decide (x = y) = false := decide_eq_false (fun h => hsq4 (by rw [h]))
      rw [e]; exact ze ()
    ·refine gc_region (gp zfa ?_); refine gp zl ?_; refine gp zfa ?_; refine gp zl ?_; refine gp (r_bool (r_eql_int rfl rfl) (decide_eq_true hsq0)) ?_; refine zxm ?_; refine gq zfa ?_; refine gq zl ?_; refine gq zfa ?_; refine gq zl ?_; refine gq (r_bool (r_eql_int rfl rfl) (decide_eq_true hsq1)) ?_; refine gp zpk ?_; refine zxm ?_; refine gq zfa ?_; refine gq zL ?_; refine gq zfa ?_; refine gq zL ?_; refine gq (r_bool (r_eql_dig rfl rfl Ty.arr_38 Ty.un_5 Ty.sz_5 (by kernel_rfl)) (decide_eq_true hsq2)) ?_; refine gp zpk ?_; refine zxm ?_; refine gq zfa ?_; refine gq zL ?_; refine gq zfa ?_; refine gq zL ?_; refine zc (fun _ => ?_) (c := fun w1 F1 F2 h1 h2 hd hst => sameQC_ok h1 (hq.mv hst.still) (hr.mv hst.still))
     rw [decide_eq_false hsq3]; refine gp zpk ?_; refine zxm ?_; refine gn ?_; refine gn ?_; refine gn ?_; refine gn ?_; refine gn ?_; refine gp zpk ?_; refine zxm ?_; refine gn ?_; refine gn ?_; refine gn ?_; refine gn ?_; refine gn ?_; refine gp zpk ?_; refine zxa ?_; refine gnt (gc_ret (gx_ret1 rfl (by conv => lhs; whnf) ?_)); have e : decide (x = y) = false := decide_eq_false (fun h => hsq3 (by rw [h]))
     rw [e]; exact ze ()
   ·refine gc_region (gp zfa ?_); refine gp zl ?_; refine gp zfa ?_; refine gp zl ?_; refine gp (r_bool (r_eql_int rfl rfl) (decide_eq_true hsq0)) ?_; refine zxm ?_; refine gq zfa ?_; refine gq zl ?_; refine gq zfa ?_; refine gq zl ?_; refine gq (r_bool (r_eql_int rfl rfl) (decide_eq_true hsq1)) ?_; refine gp zpk ?_; refine zxm ?_; refine gq zfa ?_; refine gq zL ?_; refine gq zfa ?_; refine gq zL ?_; refine gq (r_bool (r_eql_dig rfl rfl Ty.arr_38 Ty.un_5 Ty.sz_5 (by kernel_rfl)) (decide_eq_false hsq2)) ?_; refine gp zpk ?_; refine zxm ?_; refine gn ?_; refine gn ?_; refine gn ?_; refine gn ?_; refine gn ?_; refine gp zpk ?_; refine zxm ?_; refine gn ?_; refine gn ?_; refine gn ?_; refine gn ?_; refine gn ?_; refine gp zpk ?_; refine zxm ?_; refine gn ?_; refine gn ?_; refine gn ?_; refine gn ?_; refine gn ?_; refine gp zpk ?_; refine zxa ?_; refine gnt (gc_ret (gx_ret1 rfl (by conv => lhs; whnf) ?_)); have e : decide (x = y) = false := decide_eq_false (fun h => hsq2 (by rw [h]))
    rw [e]; exact ze ()
  ·refine gc_region (gp zfa ?_); refine gp zl ?_; refine gp zfa ?_; refine gp zl ?_; refine gp (r_bool (r_eql_int rfl rfl) (decide_eq_true hsq0)) ?_; refine zxm ?_; refine gq zfa ?_; refine gq zl ?_; refine gq zfa ?_; refine gq zl ?_; refine gq (r_bool (r_eql_int rfl rfl) (decide_eq_false hsq1)) ?_; refine gp zpk ?_; refine zxm ?_; refine gn ?_; refine gn ?_; refine gn ?_; refine gn ?_; refine gn ?_; refine gp zpk ?_; refine zxm ?_; refine gn ?_; refine gn ?_; refine gn ?_; refine gn ?_; refine gn ?_; refine gp zpk ?_; refine zxm ?_; refine gn ?_; refine gn ?_; refine gn ?_; refine gn ?_; refine gn ?_; refine gp zpk ?_; refine zxm ?_; refine gn ?_; refine gn ?_; refine gn ?_; refine gn ?_; refine gn ?_; refine gp zpk ?_; refine zxa ?_; refine gnt (gc_ret (gx_ret1 rfl (by conv => lhs; whnf) ?_)); have e : decide (x = y) = false := decide_eq_false (fun h => hsq1 (by rw [h]))
   rw [e]; exact ze ()
 ·refine gc_region (gp zfa ?_); refine gp zl ?_; refine gp zfa ?_; refine gp zl ?_; refine gp (r_bool (r_eql_int rfl rfl) (decide_eq_false hsq0)) ?_; refine zxm ?_; refine gn ?_; refine gn ?_; refine gn ?_; refine gn ?_; refine gn ?_; refine gp zpk ?_; refine zxm ?_; refine gn ?_; refine gn ?_; refine gn ?_; refine gn ?_; refine gn ?_; refine gp zpk ?_; refine zxm ?_; refine gn ?_; refine gn ?_; refine gn ?_; refine gn ?_; refine gn ?_; refine gp zpk ?_; refine zxm ?_; refine gn ?_; refine gn ?_; refine gn ?_; refine gn ?_; refine gn ?_; refine gp zpk ?_; refine zxm ?_; refine gn ?_; refine gn ?_; refine gn ?_; refine gn ?_; refine gn ?_; refine gp zpk ?_; refine zxa ?_; refine gnt (gc_ret (gx_ret1 rfl (by conv => lhs; whnf) ?_)); have e : decide (x = y) = false := decide_eq_false (fun h => hsq0 (by rw [h]))
  rw [e]; exact ze ()
end
section
def smO (o : Op18) : LRec := smR (rndU o.round) o.tx (vts o.votes)
def agR (l : List Op18) (k : Nat) : List LRec := (l.take k).map smO
theorem smO_eq (o : Op18) : smR (rndU o.round) o.tx (vts o.votes) = smO o := rfl
theorem smO_ok (o : Op18) : (smO o).Ok := smU_ok _ _ _
def bump (d : Dig) : Dig := ⟨d.l.set 3 (d.l.getD 3 0 + 1), by rw [List.length_set, d.h]⟩
attribute [local irreducible] wAt wDig wPut wSigned wBytes wVdr in
attribute [local irreducible] Gl Gc Gx Gs Runs Wt
attribute [local irreducible] dc RdBlock RdQC
theorem same18_ok {w : World} {F : Nat → Prop} {xb1 xb2 xc1 xc2 : List Value} {x y : LRec} (h : stars [] w F) (l1 : xb1.length = 39) (l2 : xb2.length = 39) (l3 : xc1.length = 19) (l4 : xc2.length = 19) (o1 : ∀ v ∈ xb1, v.oneCell' = true) (o2 : ∀ v ∈ xb2, v.oneCell' = true) (o3 : ∀ v ∈ xc1, v.oneCell' = true) (o4 : ∀ v ∈ xc2, v.oneCell' = true) (hx : RdBlock w (fun k => ¬ F k) xb1 x.b) (hy : RdBlock w (fun k => ¬ F k) xb2 y.b) (hp : RdQC w (fun k => ¬ F k) xc1 x.c) (hq : RdQC w (fun k => ¬ F k) xc2 y.c) :
    Calls Tryz.prog 19 #[.agg (xb1 ++ xc1).toArray, .agg (xb2 ++ xc2).toArray] w (Post w F (fun _ : Unit => .bool (decide (x.b = y.b ∧ x.c = y.c))) (fun _ => [])) := by
 have i1 := Len.of l1
 have i2 := Len.of l2
 have i3 := Len.of l3
 have i4 := Len.of l4
 have j1 := One.of o1
 have j2 := One.of o2
 have j3 := One.of o3
 have j4 := One.of o4
 refine g_enter (env := [(0, .agg (xb1 ++ xc1).toArray), (1, .agg (xb2 ++ xc2).toArray)]) Tryz.func19 rfl h Tryz.ntmps19 rfl rfl ?_; refine gsr (zbN fun b2 => ?_); refine zbN fun b3 => ?_; refine zxa ?_; refine gnt (gc_seq ?_); by_cases hS : x.b = y.b
 ·refine gc_region (gp zfa ?_); refine gp (zL (sg := xb1)) ?_; refine gp zfa ?_; refine gp (zL (sg := xb2)) ?_; refine zc (fun _ => ?_) (c := fun w1 F1 F2 h1 h2 hd hst => sameBlock_ok h1 (hx.mv hst.still) (hy.mv hst.still))
  refine gp (r_bool (c := true) zmv (decide_eq_true hS)) ?_; refine gq zfa ?_; refine gq (zL (sg := xc1)) ?_; refine gq zfa ?_; refine gq (zL (sg := xc2)) ?_; refine zc (fun _ => ?_) (c := fun w1 F1 F2 h1 h2 hd hst => sameQC_ok h1 (hp.mv hst.still) (hq.mv hst.still))
  refine gp zpk ?_; refine zxa ?_; refine gnt (gc_ret (gx_ret1 rfl (by conv => lhs; whnf) ?_)); exact fun w' hw => ⟨(), by simp [hS], hw.z⟩
 ·refine gc_region (gp zfa ?_); refine gp (zL (sg := xb1)) ?_; refine gp zfa ?_; refine gp (zL (sg := xb2)) ?_; refine zc (fun _ => ?_) (c := fun w1 F1 F2 h1 h2 hd hst => sameBlock_ok h1 (hx.mv hst.still) (hy.mv hst.still))
  refine gp (r_bool (c := false) zmv (decide_eq_false hS)) ?_; refine gn ?_; refine gn ?_; refine gn ?_; refine gn ?_; refine gn ?_; refine gp zpk ?_; refine zxa ?_; refine gnt (gc_ret (gx_ret1 rfl (by conv => lhs; whnf) ?_)); exact fun w' hw => ⟨(), by simp [hS], hw.z⟩
end
section
attribute [local irreducible] Gl Gc Gx Gs Runs Wt
set_option maxHeartbeats 1000000 in
set_option maxRecDepth 20000 in
theorem rsum_ok {w : World} {F : Nat → Prop} {b : List UInt8} (h : stars [] w F) (hb : b.length ≤ 1099511627776) :
    Calls Tryz.prog 63 #[.string (str b)] w (Post w F (fun _ : Unit => .agg (fnc B8 32 (outByte (takes Kc v0 (refPad b)).1)).toArray) (fun _ => [])) := by
 have hp63 := padN_le b.length
 have hpl := refPad_length b
 refine g_enter (env := [(0, .string (str b))]) Tryz.func63 rfl h Tryz.ntmps63 rfl rfl ?_; refine gsr (zal fun b2 => ?_); refine zxs ?_; refine zxm ?_; refine gp zlS ?_; refine gp (r_int zci (wrap_u64 (by omega) (by omega))) ?_; refine gp (r_int (r_mul rfl rfl) (show IntKind.u64.wrap ((b.length : Int) * 8) = ((b.length * 8 : Nat) : Int) by rw [wrap_u64 (by omega) (by omega)]; omega)) ?_; refine zxa ?_; refine zxs ?_; refine zxm ?_; refine zob fun g28 c28 => ?_; refine ze1 fun b29 => ?_; refine zapo (news := [.int .u8 128]) (fun a30 c30 => ?_)
 refine zxa ?_; refine gnt (gc_seq (gc_block (gc_loop (α := Nat × Option Addr × Nat) (fun x => [pureR (x.1 ≤ padN b.length), rowR 5 1 x.2.1 (b.length + 1 + x.1) x.2.2 ((rPadRow b x.1).map B8), blk b2 142 (List.replicate 32 (.int .u8 0))]) (fun x => [(4, .slice x.2.1 (b.length + 1 + x.1) x.2.2)]) [31, 32, 33, 34, 35, 36, 37] (fun x => padN b.length - x.1) (0, a30, c30) ?_ ?_ ?_)))
 ·refine env_start (by kernel_rfl)
 ·exact zlq (Nat.zero_le _) (M' := [rowR 5 1 a30 (b.length + 1) c30 (b.map B8 ++ [.int .u8 128]), blk b2 142 (List.replicate 32 (.int .u8 0))]) (by simp [rPadRow]; rfl)
 ·intro x u; obtain ⟨k, a4, c4⟩ := x; refine gc_pureR (fun hk => ?_)
  replace hk : k ≤ padN b.length := hk
  refine gc_seq (gsr (zxm ?_)); refine gp (r_int zln (show ((b.length + 1 + k : Nat) : Int) = ((b.length + 1 + k : Nat) : Int) from rfl)) ?_; refine gp (r_int zrm (rem_nat (m := b.length + 1 + k) (k := 64))) ?_; refine gp zni ?_; refine gnt (gif rfl (fun hc34 => ?_) (fun hc34 => ?_))
  ·try simp only at hc34
   have hk' : k < padN b.length := by have := pad_hit' hk; omega
   refine gc_skip (gx_then (gc_block (gc_region (zxm ?_)))); refine ze1 fun b36 => ?_; refine zapo (news := [.int .u8 0]) (fun a37 c37 => ?_)
   refine zxa ?_; refine gl_nil (gx_block_normal (zrd ((k + 1, a37, c37)) ?_ ?_))
   ·show padN b.length - (k + 1) < padN b.length - k
    omega
   ·exact zlq (show k + 1 ≤ padN b.length by omega) (by rw [rPadRow_succ] <;> rfl)
  ·try simp only at hc34
   have hk' : k = padN b.length := by have := pad_hit' hk; omega
   subst hk'; refine gc_exit ?_; refine gx_then_exit ?_; refine gx_round_exit ?_; refine gx_block_hit ?_; refine gx_then (gc_seq (gsr (zxa ?_))); refine gnt (gc_block (gc_loop (α := Nat × Option Addr × Nat) (fun x => [pureR (x.1 ≤ 8), rowR 5 1 x.2.1 (b.length + 1 + padN b.length + x.1) x.2.2 ((rLenRow b x.1).map B8), blk b2 142 (List.replicate 32 (.int .u8 0))]) (fun x => [(4, .slice x.2.1 (b.length + 1 + padN b.length + x.1) x.2.2), (5, .int .i64 (x.1 : Int))]) [38, 39, 40, 41, 42, 43, 44, 45, 46, 47, 48, 49, 50, 51] (fun x => 8 - x.1) (0, a4, c4) ?_ ?_ ?_))
   ·refine env_start (by kernel_rfl)
   ·exact zlq (Nat.zero_le _) (by rw [rLenRow_zero] <;> rfl)
   ·intro x u; obtain ⟨k, a5, c5⟩ := x; refine gc_pureR (fun hk => ?_)
    replace hk : k ≤ 8 := hk
    refine gc_seq (gsr (zxm ?_)); refine gp zlt ?_; refine gnt (gif rfl (fun hc39 => ?_) (fun hc39 => ?_))
    ·try simp only at hc39
     have hk' : k < 8 := by omega
     refine gc_skip (gx_then (gc_seq (gc_block (gc_region (zxm ?_))))); refine zxm ?_; refine zxm ?_; refine gp zml ?_; refine gp zsb ?_; refine gp (r_int zci (show IntKind.u64.wrap (56 - 8 * (k : Int)) = 8 * (7 - (k : Int)) by rw [wrap_u64 (by omega) (by omega)]; omega)) ?_; refine gp zhr ?_; refine gp (r_val zci (byte_shrU (j := 7 - k) (i := 7 - (k : Int)) (by omega) (by omega))) ?_; refine ze1 fun b50 => ?_; refine zapo (news := [B8 (UInt8.ofNat (b.length * 8 / 2 ^ (8 * (7 - k))))]) (fun a51 c51 => ?_)
     refine zxa ?_; refine gl_nil (gx_block_normal (gx_then (gc_region (zxm ?_)))); refine gp zad ?_; refine zxa ?_; refine gl_nil (zrd ((k + 1, a51, c51)) ?_ ?_)
     ·show 8 - (k + 1) < 8 - k
      omega
     ·exact zlq (show k + 1 ≤ 8 by omega) (by rw [rLenRow_succ] <;> rfl)
    ·try simp only at hc39
     have hk' : k = 8 := by omega
     subst hk'; refine gc_exit ?_; refine gx_then_exit ?_; refine gx_round_exit ?_; refine gx_block_hit ?_; refine gx_then (gsr (gp (r_buildA (cs := List.replicate 64 (.int .u32 0)) Ty.zc_189 Ty.arr_189 Ty.sz_188 (by kernel_rfl)) ?_)); refine zal fun b6 => ?_; refine zsA (new := List.replicate 64 (.int .u32 0)) List.length_replicate (rep_one rfl) ?_; refine zxs ?_; refine gp (r_buildA (cs := v8c v0) Ty.zc_190 Ty.arr_190 Ty.sz_188 (by kernel_rfl)) ?_; refine zal fun b7 => ?_; refine zsA (v8c_length _) (v8c_one _) ?_; refine zxs ?_; refine gp (r_buildA (cs := List.replicate 64 (.int .u32 0)) Ty.zc_189 Ty.arr_189 Ty.sz_188 (by kernel_rfl)) ?_; refine zal fun b8 => ?_; refine zsA (new := List.replicate 64 (.int .u32 0)) List.length_replicate (rep_one rfl) ?_; refine gnt (gc_seq (gsr (zxm ?_))); refine gnt (gc_block (gc_loop (α := Nat) (fun k => [pureR (k ≤ 64), blk b8 189 (fnc W32 64 (pfx Kc (fun _ => 0) k)), blk b7 190 (v8c v0), blk b6 189 (List.replicate 64 (.int .u32 0)), rowR 5 1 a5 (b.length + 1 + padN b.length + 8) c5 ((refPad b).map B8), blk b2 142 (List.replicate 32 (.int .u8 0))]) (fun k => [(55, .int .i64 (k : Int))]) [9, 56, 57, 58, 59, 60, 61, 62] (fun k => 64 - k) 0 ?_ ?_ ?_))
     ·refine env_start (by kernel_rfl)
     ·exact zlq (Nat.zero_le _) (M' := [blk b8 189 (List.replicate 64 (.int .u32 0)), blk b7 190 (v8c v0), blk b6 189 (List.replicate 64 (.int .u32 0)), rowR 5 1 a5 (b.length + 1 + padN b.length + 8) c5 ((refPad b).map B8), blk b2 142 (List.replicate 32 (.int .u8 0))]) (by rw [pfx_zero, fnc_const] <;> rfl)
     ·intro k u; refine gc_pureR (fun hk => ?_)
      replace hk : k ≤ 64 := hk
      refine gsr (gp zlt ?_); refine gnt (gc_seq (gif rfl (fun hc56 => ?_) (fun hc56 => ?_)))
      ·try simp only at hc56
       have hk' : k < 64 := by omega
       refine gc_skip (gx_then (gc_seq (gc_block (gsr (zxm ?_))))); refine zxa ?_; refine gnt (gc_region (zxm ?_)); refine zxm ?_; refine zc (fun _ => ?_) (c := fun w1 F1 F2 h1 h2 hd hst => k_ok (i := k) h1 hk')
       refine gp (r_indexAddr_arr rfl rfl Ty.arr_189 Ty.sz_188 (by omega) (by omega)) ?_; refine gl_store1 (wt0 rfl) rfl rfl rfl Ty.sz_188 (by repeat (first | exact Pick.here | apply Pick.there)) (by rw [fnc_length]; omega) (pfx_set (k := k) (by omega) (by omega) rfl) ?_; refine gl_nil (gx_block_normal (gx_then (gc_region (gp zad ?_)))); refine zxm ?_; refine gl_nil (zrd (k + 1) ?_ ?_)
       ·show 64 - (k + 1) < 64 - k
        omega
       ·exact zlp (show k + 1 ≤ 64 by omega)
      ·try simp only at hc56
       have hk' : k = 64 := by omega
       subst hk'; refine gc_exit ?_; refine gx_then_exit ?_; refine gx_round_exit ?_; refine gx_block_hit ?_; refine gx_then (gc_seq (gc_block (gc_loop (α := V8 × List UInt8 × Option Addr × Nat × Nat × (Nat → UInt32)) (fun x => [pureR (takes Kc x.1 x.2.1 = takes Kc v0 (refPad b) ∧ x.2.1.length % 64 = 0 ∧ x.2.1.length ≤ 1099511627906 ∧ x.2.2.2.1 = x.2.1.length), rowR 5 1 x.2.2.1 x.2.2.2.1 x.2.2.2.2.1 (x.2.1.map B8), blk b6 189 (fnc W32 64 x.2.2.2.2.2), blk b7 190 (v8c x.1), blk b8 189 (fnc W32 64 Kc), blk b2 142 (List.replicate 32 (.int .u8 0))]) (fun x => [(4, .slice x.2.2.1 x.2.2.2.1 x.2.2.2.2.1)]) [10, 11, 12, 13, 14, 15, 16, 17, 18, 19, 20, 63, 64, 65, 66, 67, 68, 69, 70, 71, 72, 73, 74, 75, 76, 77, 78, 79, 80, 81, 82, 83, 84, 85, 86, 87, 88, 89, 90, 91, 92, 93, 94, 95, 96, 97, 98, 99, 100, 101, 102, 103, 104, 105, 106, 107, 108, 109, 110, 111, 112, 113, 114, 115, 116, 117, 118, 119, 120, 121, 122, 123, 124, 125, 126, 127, 128, 129, 130, 131, 132, 133, 134, 135, 136, 137, 138, 139, 140, 141, 142, 143, 144, 145, 146, 147, 148, 149, 150, 151, 152, 153, 154, 155, 156, 157, 158, 159, 160, 161, 162, 163, 164, 165, 166, 167, 168, 169, 170, 171, 172, 173, 174, 175, 176, 177, 178, 179, 180, 181, 182, 183, 184, 185, 186, 187, 188, 189, 190, 191, 192, 193, 194, 195, 196, 197, 198, 199, 200, 201, 202, 203, 204, 205, 206, 207, 208, 209, 210, 211, 212, 213, 214, 215, 216, 217, 218, 219, 220, 221, 222, 223, 224, 225, 226, 227, 228, 229, 230, 231, 232, 233, 234, 235, 236, 237, 238, 239, 240, 241, 242, 243, 244, 245, 246, 247, 248, 249, 250] (fun x => x.2.1.length) (v0, refPad b, a5, b.length + 1 + padN b.length + 8, c5, fun _ => 0) ?_ ?_ ?_)))
       ·refine env_start (by kernel_rfl)
       ·exact zlq (M' := [rowR 5 1 a5 (b.length + 1 + padN b.length + 8) c5 ((refPad b).map B8), blk b6 189 (List.replicate 64 (.int .u32 0)), blk b7 190 (v8c v0), blk b8 189 (fnc W32 64 (pfx Kc (fun _ => 0) 64)), blk b2 142 (List.replicate 32 (.int .u8 0))]) ⟨rfl, (by show (refPad b).length % 64 = 0; have := (pad_hit' (m := b.length) (Nat.le_refl _)).2 rfl; omega), (by show (refPad b).length ≤ _; omega), hpl.symm⟩ (by rw [pfx_full]; simp only [fnc_const]; rfl)
       ·intro x u; obtain ⟨v, r, a6, n6, c6, T⟩ := x; refine gc_pureR (fun hk => ?_)
        replace hk : takes Kc v r = takes Kc v0 (refPad b) ∧ r.length % 64 = 0 ∧ r.length ≤ 1099511627906 ∧ n6 = r.length := hk
        obtain ⟨hko, hk64, hkb, rfl⟩ := hk; refine gc_fact (p := r.length ≤ c6) (fun w hw => (hw.rowLe (e := 5) (size := 1) (a := a6) (m := r.length) (c := c6) (xs := r.map B8) (by repeat (first | exact Pick.here | apply Pick.there))).1) (fun hc6 => ?_)
        refine gc_seq (gsr (zxm ?_)); refine gp zln ?_; refine gp zgt ?_; refine gnt (gif rfl (fun hc65 => ?_) (fun hc65 => ?_))
        ·try simp only at hc65
         have hk' : 64 ≤ r.length := by omega
         refine gc_fact (p := ∃ g o, a6 = some ⟨g, o, none⟩) (fun w hw => (by obtain ⟨g, o, e, _⟩ := (hw.row (a := a6) (m := r.length) (c := c6) (xs := r.map B8) (by repeat (first | exact Pick.here | apply Pick.there))).2.2 (by omega); exact ⟨g, o, e⟩)) (fun ha => ?_)
         obtain ⟨g6, o6, rfl⟩ := ha; refine gc_skip (gx_then (gc_block (gc_seq (gsr (zxa ?_))))); refine gnt (gc_block (gc_loop (α := Nat) (fun k => [pureR (k ≤ 16), blk b6 189 (fnc W32 64 (pfx (sch (r.take 64)) T k)), blk b7 190 (v8c v), blk b8 189 (fnc W32 64 Kc), blk b2 142 (List.replicate 32 (.int .u8 0)), rowR 5 1 (some ⟨g6, o6, none⟩) r.length c6 (r.map B8)]) (fun k => [(10, .int .i64 (k : Int))]) [66, 67, 68, 69, 70, 71, 72, 73, 74, 75, 76, 77, 78, 79, 80, 81, 82, 83, 84, 85, 86, 87, 88, 89, 90, 91, 92, 93, 94, 95, 96, 97, 98, 99, 100, 101, 102, 103, 104] (fun k => 16 - k) 0 ?_ ?_ ?_))
         ·refine env_start (by kernel_rfl)
         ·exact zlq (Nat.zero_le _) (by rw [pfx_zero])
         ·intro k u; refine gc_pureR (fun hk => ?_)
          replace hk : k ≤ 16 := hk
          refine gc_seq (gsr (zxm ?_)); refine gp zlt ?_; refine gnt (gif rfl (fun hc67 => ?_) (fun hc67 => ?_))
          ·try simp only at hc67
           have hk' : k < 16 := by omega
           refine gc_skip (gx_then (gc_seq (gc_block (gc_regionT 35 (by kernel_rfl) (by kernel_rfl) ?_)))); refine sp zmv ?_; refine sp zmv ?_; refine sp zmv ?_; refine sp zml ?_; refine sp (zia (m := r.length)) ?_; refine sp (r_ld1r (v := B8 (r.getD (4 * k) 0)) rfl Ty.row_5 (by repeat (first | exact Pick.here | apply Pick.there)) (row_byte (by omega) (by omega))) ?_; refine sp (r_conv8w rfl Ty.un_5 Ty.un_188) ?_; refine sp (r_mulw (b := 16777216) rfl rfl) ?_; refine sp zmv ?_; refine sp zmv ?_; refine sp zml ?_; refine sp zad ?_; refine sp (zia (m := r.length)) ?_; refine sp (r_ld1r (v := B8 (r.getD (4 * k + 1) 0)) rfl Ty.row_5 (by repeat (first | exact Pick.here | apply Pick.there)) (row_byte (by omega) (by omega))) ?_; refine sp (r_conv8w rfl Ty.un_5 Ty.un_188) ?_; refine sp (r_mulw (b := 65536) rfl rfl) ?_; refine sp zwa ?_; refine sp zmv ?_; refine sp zmv ?_; refine sp zml ?_; refine sp zad ?_; refine sp (zia (m := r.length)) ?_; refine sp (r_ld1r (v := B8 (r.getD (4 * k + 2) 0)) rfl Ty.row_5 (by repeat (first | exact Pick.here | apply Pick.there)) (row_byte (by omega) (by omega))) ?_; refine sp (r_conv8w rfl Ty.un_5 Ty.un_188) ?_; refine sp (r_mulw (b := 256) rfl rfl) ?_; refine sp zwa ?_; refine sp zmv ?_; refine sp zmv ?_; refine sp zml ?_; refine sp zad ?_; refine sp (zia (m := r.length)) ?_; refine sp (r_ld1r (v := B8 (r.getD (4 * k + 3) 0)) rfl Ty.row_5 (by repeat (first | exact Pick.here | apply Pick.there)) (row_byte (by omega) (by omega))) ?_; refine sp (r_conv8w rfl Ty.un_5 Ty.un_188) ?_; refine sp zwa ?_; refine sp (r_indexAddr_arr rfl rfl Ty.arr_189 Ty.sz_188 (by omega) (by omega)) ?_; refine gs_nil ?_; refine gl_store1 (wt0 rfl) rfl rfl rfl Ty.sz_188 (by repeat (first | exact Pick.here | apply Pick.there)) (by rw [fnc_length]; omega) (pfx_set (k := k) (by omega) (by omega) (congrArg W32 (word_take hk' (by omega)))) ?_; refine gl_nil (gx_block_normal (gx_then (gc_region (zxm ?_)))); refine gp zad ?_
           refine zxa ?_; refine gl_nil (zrd (k + 1) ?_ ?_)
           ·show 16 - (k + 1) < 16 - k
            omega
           ·exact zlp (show k + 1 ≤ 16 by omega)
          ·try simp only at hc67
           have hk' : k = 16 := by omega
           subst hk'; refine gc_exit ?_; refine gx_then_exit ?_; refine gx_round_exit ?_; refine gx_block_hit ?_; refine gx_then (gc_seq (gsr (zxa ?_))); refine gnt (gc_block (gc_loop (α := Nat) (fun k => [pureR (16 ≤ k ∧ k ≤ 64), blk b6 189 (fnc W32 64 (pfx (sch (r.take 64)) T k)), blk b7 190 (v8c v), blk b8 189 (fnc W32 64 Kc), blk b2 142 (List.replicate 32 (.int .u8 0)), rowR 5 1 (some ⟨g6, o6, none⟩) r.length c6 (r.map B8)]) (fun k => [(11, .int .i64 (k : Int))]) [12, 13, 105, 106, 107, 108, 109, 110, 111, 112, 113, 114, 115, 116, 117, 118, 119, 120, 121, 122, 123, 124, 125, 126, 127, 128, 129, 130, 131, 132, 133, 134, 135, 136, 137, 138, 139, 140, 141, 142, 143, 144, 145] (fun k => 64 - k) 16 ?_ ?_ ?_))
           ·refine env_start (by kernel_rfl)
           ·exact zlp ⟨Nat.le_refl _, by decide⟩
           ·intro k u; refine gc_pureR (fun hk => ?_)
            replace hk : 16 ≤ k ∧ k ≤ 64 := hk
            refine gc_seq (gsr (zxm ?_)); refine gp zlt ?_; refine gnt (gif rfl (fun hc106 => ?_) (fun hc106 => ?_))
            ·try simp only at hc106
             have hk' : k < 64 := by omega
             refine gc_skip (gx_then (gc_seq (gc_block (gc_seq (gc_regionS (by kernel_rfl) (by kernel_rfl) ?_))))); refine sp zmv ?_; refine sp zsb ?_; refine sp (r_indexAddr_arr rfl rfl Ty.arr_189 Ty.sz_188 (by omega) (by omega)) ?_; refine sp (r_ld1 (v := W32 (sch (r.take 64) (k - 15))) rfl Ty.row_188 (by repeat (first | exact Pick.here | apply Pick.there)) (pfx_get (by omega) (by omega) (by omega))) ?_; refine sp zmv ?_; refine sp zsb ?_; refine sp (r_indexAddr_arr rfl rfl Ty.arr_189 Ty.sz_188 (by omega) (by omega)) ?_; refine sp (r_ld1 (v := W32 (sch (r.take 64) (k - 2))) rfl Ty.row_188 (by repeat (first | exact Pick.here | apply Pick.there)) (pfx_get (by omega) (by omega) (by omega))) ?_; refine sp zas ?_; refine sp zas ?_; refine gs_nil ?_; refine gx_then (gc_regionZ 29 ([blk b6 189 (fnc W32 64 (pfx (sch (r.take 64)) T k))]) ?_); refine yps 0 rfl zmv ?_; refine yps 1 rfl zmv ?_; refine yps 2 rfl zsb ?_; refine yps 3 rfl (r_indexAddr_arr rfl rfl Ty.arr_189 Ty.sz_188 (by omega) (by omega)) ?_; refine yps 4 rfl (r_ld1 (v := W32 (sch (r.take 64) (k - 16))) rfl Ty.row_188 (by repeat (first | exact Pick.here | apply Pick.there)) (pfx_get (by omega) (by omega) (by omega))) ?_; refine yps 5 rfl zmv ?_; refine yps 7 rfl zmv ?_; refine yps 10 rfl zmv ?_; refine yps 11 rfl (r_shrw (j := 3) rfl rfl rfl (by decide)) ?_; refine yps 14 rfl zmv ?_; refine yps 15 rfl zsb ?_; refine yps 16 rfl (r_indexAddr_arr rfl rfl Ty.arr_189 Ty.sz_188 (by omega) (by omega)) ?_; refine yps 17 rfl (r_ld1 (v := W32 (sch (r.take 64) (k - 7))) rfl Ty.row_188 (by repeat (first | exact Pick.here | apply Pick.there)) (pfx_get (by omega) (by omega) (by omega))) ?_; refine yps 19 rfl zmv ?_; refine yps 21 rfl zmv ?_; refine yps 24 rfl zmv ?_; refine yps 25 rfl (r_shrw (j := 10) rfl rfl rfl (by decide)) ?_; refine yos 6 rfl ?_; refine zc (fun _ => ?_) (c := fun w1 F1 F2 h1 h2 hd hst => right_ok (j := 7) h1 (by decide) (by decide))
             refine yxs ?_; refine yos 8 rfl ?_; refine zc (fun _ => ?_) (c := fun w1 F1 F2 h1 h2 hd hst => right_ok (j := 18) h1 (by decide) (by decide))
             refine yxs ?_; refine yps 9 rfl zwx ?_; refine yps 12 rfl zwx ?_; refine yps 13 rfl zwa ?_; refine yps 18 rfl zwa ?_; refine yos 20 rfl ?_; refine zc (fun _ => ?_) (c := fun w1 F1 F2 h1 h2 hd hst => right_ok (j := 17) h1 (by decide) (by decide))
             refine yxs ?_; refine yos 22 rfl ?_; refine zc (fun _ => ?_) (c := fun w1 F1 F2 h1 h2 hd hst => right_ok (j := 19) h1 (by decide) (by decide))
             refine yxs ?_; refine yps 23 rfl zwx ?_; refine yps 26 rfl zwx ?_; refine yps 27 rfl zwa ?_; refine yps 28 rfl (r_indexAddr_arr rfl rfl Ty.arr_189 Ty.sz_188 (by omega) (by omega)) ?_; refine yzs rfl ?_; refine gl_store1 (wt0 rfl) rfl rfl rfl Ty.sz_188 (by repeat (first | exact Pick.here | apply Pick.there)) (by rw [fnc_length]; omega) (pfx_set (k := k) (by omega) (by omega) (congrArg W32 (sch_hi hk.1).symm)) ?_; refine gl_nil (gx_block_normal (gx_then (gc_region (zxm ?_)))); refine gp zad ?_; refine zxa ?_; refine gl_nil (zrd (k + 1) ?_ ?_)
             ·show 64 - (k + 1) < 64 - k
              omega
             ·exact zlp (show 16 ≤ k + 1 ∧ k + 1 ≤ 64 by omega)
            ·try simp only at hc106
             have hk' : k = 64 := by omega
             subst hk'; refine gc_exit ?_; refine gx_then_exit ?_; refine gx_round_exit ?_; refine gx_block_hit ?_; refine gx_then (gsr (gp (zLa (cs := v8c v)) ?_)); refine zal fun b14 => ?_; refine zsA (v8c_length _) (v8c_one _) ?_; refine gnt (gc_seq (gsr (zxa ?_))); refine gnt (gc_block (gc_loop (α := Nat) (fun k => [pureR (k ≤ 64), blk b14 190 (v8c (rnds Kc (sch (r.take 64)) v k)), blk b6 189 (fnc W32 64 (pfx (sch (r.take 64)) T 64)), blk b7 190 (v8c v), blk b8 189 (fnc W32 64 Kc), blk b2 142 (List.replicate 32 (.int .u8 0)), rowR 5 1 (some ⟨g6, o6, none⟩) r.length c6 (r.map B8)]) (fun k => [(15, .int .i64 (k : Int))]) [16, 17, 18, 19, 147, 148, 149, 150, 151, 152, 153, 154, 155, 156, 157, 158, 159, 160, 161, 162, 163, 164, 165, 166, 167, 168, 169, 170, 171, 172, 173, 174, 175, 176, 177, 178, 179, 180, 181, 182, 183, 184, 185, 186, 187, 188, 189, 190, 191, 192, 193, 194, 195, 196, 197, 198, 199, 200, 201, 202, 203, 204, 205, 206, 207, 208, 209, 210, 211, 212, 213, 214, 215, 216, 217, 218, 219, 220, 221, 222, 223, 224, 225, 226, 227, 228, 229, 230, 231, 232, 233, 234, 235, 236] (fun k => 64 - k) 0 ?_ ?_ ?_))
             ·refine env_start (by kernel_rfl)
             ·exact zlp (by first | exact Nat.zero_le _ | omega)
             ·intro k u; refine gc_pureR (fun hk => ?_)
              replace hk : k ≤ 64 := hk
              refine gc_seq (gsr (zxm ?_)); refine gp zlt ?_; refine gnt (gif rfl (fun hc148 => ?_) (fun hc148 => ?_))
              ·try simp only at hc148
               have hk' : k < 64 := by omega
               refine gc_skip (gx_then (gc_seq (gc_block (gsr (gp zib ?_))))); refine gp zl ?_; refine gp zib ?_; refine gp zl ?_; refine gp zwn ?_; refine gp zib ?_; refine gp zl ?_; refine gp zwc ?_; refine gp zib ?_; refine gp zl ?_; refine gp zwn ?_; refine gp zwx ?_; refine zxa ?_; refine zxs ?_; refine gp zib ?_; refine gp zl ?_; refine gp zib ?_; refine gp zl ?_; refine gp zwn ?_; refine gp zib ?_; refine gp zl ?_; refine gp zib ?_; refine gp zl ?_; refine gp zwn ?_; refine gp zwx ?_; refine gp zib ?_; refine gp zl ?_; refine gp zib ?_; refine gp zl ?_; refine gp zwn ?_; refine gp zwx ?_; refine zxa ?_; refine gnt (gc_seq (gc_regionZ 24 ([blk b14 190 (v8c (rnds Kc (sch (r.take 64)) v k)), blk b6 189 (fnc W32 64 (pfx (sch (r.take 64)) T 64)), blk b8 189 (fnc W32 64 Kc)]) ?_)); refine yps 0 rfl zib ?_; refine yps 1 rfl zl ?_; refine yps 2 rfl zib ?_; refine yps 3 rfl zl ?_; refine yps 5 rfl zib ?_; refine yps 6 rfl zl ?_; refine yps 9 rfl zib ?_; refine yps 10 rfl zl ?_; refine yps 14 rfl zmv ?_; refine yps 16 rfl zmv ?_; refine yps 17 rfl (r_indexAddr_arr rfl rfl Ty.arr_189 Ty.sz_188 (by omega) (by omega)) ?_; refine yps 18 rfl (r_ld1 (v := W32 (Kc k)) rfl Ty.row_188 (by repeat (first | exact Pick.here | apply Pick.there)) (by rw [show 0 + (k : Int).toNat * 1 = k by omega]; exact fnc_get hk')) ?_; refine yps 20 rfl zmv ?_; refine yps 21 rfl (r_indexAddr_arr rfl rfl Ty.arr_189 Ty.sz_188 (by omega) (by omega)) ?_; refine yps 22 rfl (r_ld1 (v := W32 (sch (r.take 64) (k))) rfl Ty.row_188 (by repeat (first | exact Pick.here | apply Pick.there)) (pfx_get (by omega) (by omega) (by omega))) ?_; refine yos 4 rfl ?_; refine zc (fun _ => ?_) (c := fun w1 F1 F2 h1 h2 hd hst => right_ok (j := 6) h1 (by decide) (by decide))
               refine yxs ?_; refine yos 7 rfl ?_; refine zc (fun _ => ?_) (c := fun w1 F1 F2 h1 h2 hd hst => right_ok (j := 11) h1 (by decide) (by decide))
               refine yxs ?_; refine yps 8 rfl zwx ?_; refine yos 11 rfl ?_; refine zc (fun _ => ?_) (c := fun w1 F1 F2 h1 h2 hd hst => right_ok (j := 25) h1 (by decide) (by decide))
               refine yxs ?_; refine yps 12 rfl zwx ?_; refine yps 13 rfl zwa ?_; refine yps 15 rfl zwa ?_; refine yps 19 rfl zwa ?_; refine yps 23 rfl zwa ?_; refine yzs rfl ?_; refine zxa ?_; refine gnt (gc_seq (gc_regionZ 13 ([blk b14 190 (v8c (rnds Kc (sch (r.take 64)) v k))]) ?_)); refine yps 0 rfl zib ?_; refine yps 1 rfl zl ?_; refine yps 3 rfl zib ?_; refine yps 4 rfl zl ?_; refine yps 7 rfl zib ?_; refine yps 8 rfl zl ?_; refine yps 11 rfl zmv ?_; refine yos 2 rfl ?_; refine zc (fun _ => ?_) (c := fun w1 F1 F2 h1 h2 hd hst => right_ok (j := 2) h1 (by decide) (by decide))
               refine yxs ?_; refine yos 5 rfl ?_; refine zc (fun _ => ?_) (c := fun w1 F1 F2 h1 h2 hd hst => right_ok (j := 13) h1 (by decide) (by decide))
               refine yxs ?_; refine yps 6 rfl zwx ?_; refine yos 9 rfl ?_; refine zc (fun _ => ?_) (c := fun w1 F1 F2 h1 h2 hd hst => right_ok (j := 22) h1 (by decide) (by decide))
               refine yxs ?_; refine yps 10 rfl zwx ?_; refine yps 12 rfl zwa ?_; refine yzs rfl ?_; refine zxa ?_; refine gnt (gc_region (zxm ?_)); refine zxm ?_; refine gp zwa ?_; refine gp zib ?_; refine gp zl ?_; refine gp zib ?_; refine gp zl ?_; refine gp zib ?_; refine gp zl ?_; refine gp zib ?_; refine gp zl ?_; refine zxm ?_; refine gp zwa ?_; refine gp zib ?_; refine gp zl ?_; refine gp zib ?_; refine gp zl ?_; refine gp zib ?_; refine gp zl ?_; refine gp (r_buildA (cs := v8c (rnds Kc (sch (r.take 64)) v (k + 1))) Ty.zc_190 Ty.arr_190 Ty.sz_188 rfl) ?_; refine zsA (v8c_length _) (v8c_one _) ?_; refine gl_nil (gx_block_normal (gx_then (gc_region (zxm ?_)))); refine gp zad ?_; refine zxa ?_; refine gl_nil (zrd (k + 1) ?_ ?_)
               ·show 64 - (k + 1) < 64 - k
                omega
               ·exact zlp (show k + 1 ≤ 64 by omega)
              ·try simp only at hc148
               have hk' : k = 64 := by omega
               subst hk'; refine gc_exit ?_; refine gx_then_exit ?_; refine gx_round_exit ?_; refine gx_block_hit ?_; refine gx_then (gc_seq (gsr (zxm ?_))); refine gnt (gc_block ?_); generalize hV : rnds Kc (sch (r.take 64)) v 64 = V
               refine gc_loop (α := Nat) (fun k => [pureR (k ≤ 8), blk b7 190 (fnc W32 8 (pfx (v.add V).get v.get k)), blk b14 190 (v8c V), blk b6 189 (fnc W32 64 (pfx (sch (r.take 64)) T 64)), blk b8 189 (fnc W32 64 Kc), blk b2 142 (List.replicate 32 (.int .u8 0)), rowR 5 1 (some ⟨g6, o6, none⟩) r.length c6 (r.map B8)]) (fun k => [(237, .int .i64 (k : Int))]) [20, 238, 239, 240, 241, 242, 243, 244, 245, 246, 247, 248] (fun k => 8 - k) 0 ?_ ?_ ?_
               ·refine env_start (by kernel_rfl)
               ·exact zlq (Nat.zero_le _) (by rw [pfx_zero] <;> rfl)
               ·intro k u; refine gc_pureR (fun hk => ?_)
                replace hk : k ≤ 8 := hk
                refine gsr (gp zlt ?_); refine gnt (gc_seq (gif rfl (fun hc238 => ?_) (fun hc238 => ?_)))
                ·try simp only at hc238
                 have hk' : k < 8 := by omega
                 refine gc_skip (gx_then (gc_seq (gc_block (gsr (zxm ?_))))); refine zxa ?_; refine gnt (gc_regionT 8 (by kernel_rfl) (by kernel_rfl) ?_); refine sp zmv ?_; refine sp (r_indexAddr_arr rfl rfl Ty.arr_190 Ty.sz_188 (by omega) (by omega)) ?_; refine sp (r_ld1 (v := W32 (v.get k)) rfl Ty.row_188 (by repeat (first | exact Pick.here | apply Pick.there)) (pfx_get2 (by omega) (by omega) (by omega))) ?_; refine sp zmv ?_; refine sp (r_indexAddr_arr rfl rfl Ty.arr_190 Ty.sz_188 (by omega) (by omega)) ?_; refine sp (r_ld1 (v := W32 (V.get k)) rfl Ty.row_188 (by repeat (first | exact Pick.here | apply Pick.there)) (by rw [show 0 + (k : Int).toNat * 1 = k by omega]; exact fnc_get (V := W32) (f := V.get) hk')) ?_; refine sp zwa ?_; refine sp (r_indexAddr_arr rfl rfl Ty.arr_190 Ty.sz_188 (by omega) (by omega)) ?_; refine gs_nil ?_; refine gl_store1 (wt0 rfl) rfl rfl rfl Ty.sz_188 (by repeat (first | exact Pick.here | apply Pick.there)) (by rw [fnc_length]; omega) (pfx_set (k := k) (by omega) (by omega) (congrArg W32 (V8.add_get _ _ _).symm)) ?_; refine gl_nil (gx_block_normal (gx_then (gc_region (gp zad ?_)))); refine zxm ?_; refine gl_nil (zrd (k + 1) ?_ ?_)
                 ·show 8 - (k + 1) < 8 - k
                  omega
                 ·exact zlp (show k + 1 ≤ 8 by omega)
                ·try simp only at hc238
                 have hk' : k = 8 := by omega
                 subst hk'; have e8 : fnc W32 8 (pfx (v.add V).get v.get 8) = v8c (take64 Kc v (r.take 64)) := by rw [pfx_full, ← hV]; rfl
                 rw [e8]; refine gc_exit ?_; refine gx_then_exit ?_; refine gx_round_exit ?_; refine gx_block_hit ?_; refine gx_then (gc_region (zxm ?_)); refine gp (r_slice_slice (a := some ⟨g6, o6, none⟩) (m := r.length) (c := c6) (l := 64) (h := r.length) rfl Ty.sl_49 Ty.sz_5 ⟨_, rfl⟩ rfl (by omega) (by omega)) ?_; refine zxa ?_; refine gl_nil (gx_block_normal ?_); have hdl : (r.drop 64).length = r.length - 64 := List.length_drop
                 refine zrd ((take64 Kc v (r.take 64), r.drop 64, (if c6 = 64 then some ⟨g6, o6, none⟩ else (some (⟨g6, o6, none⟩ : Addr)).map (·.add (64 * 1))), r.length - 64, c6 - 64, sch (r.take 64))) ?_ ?_
                 ·show (r.drop 64).length < r.length
                  omega
                 ·rintro w' hw
                  obtain ⟨F', hF', hst'⟩ := hw.sel (M := [rowR 5 1 (some ⟨g6, o6, none⟩) r.length c6 (r.map B8), blk b6 189 _, blk b7 190 (v8c (take64 Kc v (r.take 64))), blk b8 189 (fnc W32 64 Kc), blk b2 142 (List.replicate 32 (.int .u8 0))]) (by repeat (first | exact Sel.nil | (apply Sel.cons; · (repeat (first | exact Pick.here | apply Pick.there))))); refine ⟨F', stars_pure_mk ⟨?_, ?_, ?_, hdl.symm⟩ ?_, hst'⟩
                  ·rw [← hko, takes.eq_1 Kc v r, dif_pos (by omega)]
                  ·show (r.drop 64).length % 64 = 0; omega
                  ·show (r.drop 64).length ≤ _; omega
                  ·have := stars_tail8 (l := 64) (by omega) hF'
                   rw [pfx_full] at this; exact this
        ·try simp only at hc65
         have hk' : r = [] := List.eq_nil_of_length_eq_zero (by omega)
         have hV : (takes Kc v0 (refPad b)).1 = v := by rw [← hko, hk', takes_nil]
         rw [hV]; refine gc_exit ?_; refine gx_then_exit ?_; refine gx_round_exit ?_; refine gx_block_hit ?_; refine gx_then (gsr (gp (r_buildA (cs := List.replicate 32 (.int .u8 0)) Ty.zc_142 Ty.arr_142 Ty.sz_5 (by kernel_rfl)) ?_)); refine zal fun b21 => ?_; refine zsA (new := List.replicate 32 (.int .u8 0)) List.length_replicate (rep_one rfl) ?_; refine gnt (gc_seq (gsr (zxm ?_))); refine gnt (gc_block (gc_loop (α := Nat) (fun k => [pureR (k ≤ 32), blk b21 142 (fnc B8 32 (pfx (outByte v) (fun _ => 0) k)), blk b7 190 (v8c v), blk b2 142 (List.replicate 32 (.int .u8 0))]) (fun k => [(252, .int .i64 (k : Int))]) [22, 253, 254, 255, 256, 257, 258, 259, 260, 261, 262, 263, 264, 265, 266, 267, 268] (fun k => 32 - k) 0 ?_ ?_ ?_))
         ·refine env_start (by kernel_rfl)
         ·exact zlq (Nat.zero_le _) (by rw [pfx_zero, fnc_const] <;> rfl)
         ·intro k u; refine gc_pureR (fun hk => ?_)
          replace hk : k ≤ 32 := hk
          refine gsr (gp zlt ?_); refine gnt (gc_seq (gif rfl (fun hc253 => ?_) (fun hc253 => ?_)))
          ·try simp only at hc253
           have hk' : k < 32 := by omega
           refine gc_skip (gx_then (gc_seq (gc_block (gsr (zxm ?_))))); refine zxa ?_; refine gnt (gc_region (zxm ?_)); refine zxm ?_; refine gp (r_int zqu ((congrArg IntKind.i64.wrap (quo_nat (m := k) (k := 4))).trans (wrap_i64 (by omega) (by omega)))) ?_; refine gp (r_indexAddr_arr rfl rfl Ty.arr_190 Ty.sz_188 (by omega) (by omega)) ?_; refine gp (r_ld1 (v := W32 (v.get (k / 4))) rfl Ty.row_188 (by repeat (first | exact Pick.here | apply Pick.there)) (by rw [show 0 + ((k / 4 : Nat) : Int).toNat * 1 = k / 4 by omega]; exact fnc_get (V := W32) (m := 8) (f := v.get) (by omega))) ?_; refine zxm ?_; refine gp (r_int zrm (rem_nat (m := k) (k := 4))) ?_; refine gp zml ?_; refine gp zsb ?_; refine gp (r_int zci (wrap_u64 (by omega) (by omega))) ?_; refine gp (r_shrw (j := 24 - 8 * (k % 4)) rfl rfl (by omega) (by omega)) ?_; refine gp (r_convw8 rfl Ty.un_188 Ty.un_5) ?_; refine gp (r_indexAddr_arr rfl rfl Ty.arr_142 Ty.sz_5 (by omega) (by omega)) ?_; refine gl_store1 (wt0 rfl) rfl rfl rfl Ty.sz_5 (by repeat (first | exact Pick.here | apply Pick.there)) (by rw [fnc_length]; omega) (pfx_set (k := k) (by omega) (by omega) rfl) ?_; refine gl_nil (gx_block_normal (gx_then (gc_region (gp zad ?_)))); refine zxm ?_; refine gl_nil (zrd (k + 1) ?_ ?_)
           ·show 32 - (k + 1) < 32 - k
            omega
           ·exact zlp (show k + 1 ≤ 32 by omega)
          ·try simp only at hc253
           have hk' : k = 32 := by omega
           subst hk'; refine gc_exit ?_; refine gx_then_exit ?_; refine gx_round_exit ?_; refine gx_block_hit ?_; refine gx_then (gsr (gp (zLa (cs := fnc B8 32 _)) ?_)); refine zsA fnc_length (fnc_one fun _ => rfl) ?_; refine gnt (gc_ret (gx_retc rfl rfl (ld_aggS Ty.row_142 Ty.sz_142 (by repeat (first | exact Pick.here | apply Pick.there)) (seg_all fnc_length) fnc_length) ?_)); rw [pfx_full]; exact ze ()
end
section
def RdStr (cs : List Value) (b : List UInt8) : Prop := cs = [.string (str b)]
inductive All2 {α : Type} (rd : List Value → α → Prop) : List Value → List α → Prop
  | nil : All2 rd [] []
  | cons {v : Value} {x : α} {vs : List Value} {l : List α} : rd [v] x → All2 rd vs l → All2 rd (v :: vs) (x :: l)
theorem All2.len {α : Type} {rd : List Value → α → Prop} {vs : List Value} {l : List α} (h : All2 rd vs l) : vs.length = l.length := by
  induction h with
  | nil => rfl
  | cons _ _ ih => simp [ih]
theorem All2.at {α : Type} {rd : List Value → α → Prop} {vs : List Value} {l : List α} (h : All2 rd vs l) : ∀ (i : Nat) (v : Value) (x : α), vs[i]? = some v → l[i]? = some x → rd [v] x := by
  induction h with
  | nil => intro i v x h1 _; simp at h1
  | cons h1 _ ih =>
    intro i v x hv hx
    cases i with
    | zero => simp at hv hx; subst hv; subst hx; exact h1
    | succ i => exact ih i v x (by simpa using hv) (by simpa using hx)
theorem RdList.of1 {α : Type} {rd : List Value → α → Prop} {w : World} {A : Nat → Prop} {a : Option Addr} {n : Nat} {vs : List Value} {l : List α} (hr : RdRow w A 1 a n vs) (h : All2 rd vs l) : RdList rd w A 1 a n l := by
  refine ⟨vs.map fun v => [v], ?_, by simp, by simp [h.len], fun i c x h1 h2 => ?_⟩
  · have e : (vs.map fun v => [v]).flatten = vs := by
      clear hr h
      induction vs with
      | nil => rfl
      | cons v r ih => simp [ih]
    rw [e]; exact hr
  · rw [List.getElem?_map] at h1
    cases hv : vs[i]? with
    | none => rw [hv] at h1; cases h1
    | some v => rw [hv] at h1; simp at h1; subst h1; exact h.at i v x hv h2
theorem framed_succ (dom : Int) (parts : List (List UInt8)) {k : Nat} {p : List UInt8} (h : parts[k]? = some p) : framed dom (parts.take (k + 1)) = framed dom (parts.take k) ++ (part4 p.length ++ p) := by
  rw [List.take_add_one, h]; simp [framed]
theorem framed_length (dom : Int) (parts : List (List UInt8)) : (framed dom parts).length = 1 + pcost parts := by
  simp only [framed, List.length_cons]
  have : (parts.flatMap fun p => part4 p.length ++ p).length = pcost parts := by
    induction parts with
    | nil => rfl
    | cons p l ih =>
      rw [List.flatMap_cons, List.length_append, ih]
      simp only [List.length_append, pcost, List.map_cons, List.sum_cons, part4, List.length_cons, List.length_nil]; omega
  omega
theorem of_cut (dom : Int) (parts : List (List UInt8)) : fnc B8 16 (outByte (takes Kc v0 (refPad (framed dom parts))).1) = dc (dOf Kc dom parts) := by
  have e : (dOf Kc dom parts).l = (refSum Kc (framed dom parts)).take 16 := hOf_ref Kc dom parts
  rw [dc, e, refSum]
  simp [fnc, ← List.map_take, List.take_range]
theorem RdBytes.row {L L' : List Res} {w : World} {F1 F2 : Nat → Prop} {e n c : Nat} {a : Option Addr} {b : List UInt8} (h2 : stars L w F2) (hd : ∀ k, F1 k → ¬ F2 k) (hp : Pick L (rowR e 1 a n c (b.map B8)) L') : RdBytes w (fun k => ¬ F1 k) [.slice a n c] b :=
  ⟨_, _, _, rfl, rd_le h2 hp, rd_row h2 hd hp⟩
theorem RdBytes.dig {L L' : List Res} {w : World} {F1 F2 : Nat → Prop} {g T : Nat} {d : Dig} (h2 : stars L w F2) (hd : ∀ k, F1 k → ¬ F2 k) (hp : Pick L (blk g T (dc d)) L') : RdBytes w (fun k => ¬ F1 k) [.slice (some ⟨g, 0 + 0 * 1, none⟩) (16 - 0) (16 - 0)] d.l :=
  ⟨_, _, _, rfl, Nat.le_refl _, rd_blk h2 hd hp (by simp only [dc, List.drop_zero]; exact List.take_of_length_le (by simp [d.h])) (by simp [d.h]) (by decide)⟩
attribute [local irreducible] Gl Gc Gx Gs Runs Wt
theorem framed_ok {w : World} {F : Nat → Prop} {dom : Int} {parts : List (List UInt8)} {a : Option Addr} {n c : Nat} (h : stars [] w F) (hx : RdList RdStr w (fun k => ¬ F k) 1 a n parts) (hb : 1 + pcost parts ≤ 1099511627776) :
    Calls Tryz.prog 64 #[.int .i64 dom, .slice a n c] w (Post w F (fun _ : Unit => .string (str (framed dom parts))) (fun _ => [])) := by
 have hnl := hx.len (by decide)
 have hm1 := hx.max
 simp only [maxLen] at hm1
 refine g_enter (env := [(0, .int .i64 dom), (1, .slice a n c)]) Tryz.func64 rfl h Tryz.ntmps64 rfl rfl ?_; refine gsr (zxa ?_); refine zxs ?_; refine zxm ?_; refine gp (r_val zci byte_int) ?_; refine ze1 fun b11 => ?_; refine gp (zso (b := [UInt8.ofNat (dom % 256).toNat])) ?_; refine zxa ?_; refine gnt (gc_seq (gsr (zxm ?_))); refine gp zln ?_; refine zxm ?_; refine gnt (gc_block (gc_loop (α := Nat) (fun k => [pureR (k ≤ n)]) (fun k => [(15, .int .i64 (k : Int)), (5, .string (str (framed dom (parts.take k))))]) [7, 8, 16, 17, 18, 19, 20, 21, 22, 23, 24, 25, 26, 27, 28, 29, 30, 31, 32, 33, 34, 35, 36, 37, 38, 39] (fun k => n - k) 0 ?_ ?_ ?_))
 ·refine env_start (by kernel_rfl)
 ·exact zlp (by first | exact Nat.zero_le _ | omega)
 ·intro k u; refine gc_pureR (fun hk => ?_)
  replace hk : k ≤ n := hk
  refine gsr (gp zlt ?_); refine gnt (gc_seq (gif rfl (fun hc16 => ?_) (fun hc16 => ?_)))
  ·try simp only at hc16
   have hk' : k < n := by omega
   obtain ⟨ga, o, cs, y, ha, hA, hg, hra, hcl, hly, hrd⟩ := hx.elem (by decide) hk'; subst ha; unfold RdStr at hrd
   subst hrd; have hpc := pcost_take hly
   have hfl := framed_length dom (parts.take k)
   refine gc_skip (gx_then (gc_seq (gc_block (gsr (gp zia ?_))))); refine gp (r_ld1o rfl Ty.row_9 (hra 0 _ rfl) hA) ?_; refine zxa ?_; refine zxs ?_; refine zxm ?_; refine gp zlS ?_; refine gp (r_int zci (wrap_u64 (by omega) (by omega))) ?_; refine zxa ?_; refine gnt (gc_region (zxm ?_)); refine zxm ?_; refine gp (r_int zqu ((congrArg IntKind.u64.wrap (quo_nat (m := y.length) (k := 16777216))).trans (wrap_u64 (by omega) (by omega)))) ?_; refine gp (r_val zci byte_nat) ?_; refine zxm ?_; refine gp (r_int zqu ((congrArg IntKind.u64.wrap (quo_nat (m := y.length) (k := 65536))).trans (wrap_u64 (by omega) (by omega)))) ?_; refine gp (r_val zci byte_nat) ?_; refine zxm ?_; refine gp (r_int zqu ((congrArg IntKind.u64.wrap (quo_nat (m := y.length) (k := 256))).trans (wrap_u64 (by omega) (by omega)))) ?_; refine gp (r_val zci byte_nat) ?_; refine zxm ?_; refine gp (r_val zci byte_nat) ?_; refine gl_bsls (vs := (part4 y.length).map B8) (wt0 rfl) Ty.sl_49 Ty.sz_5 Ty.zc_5 rfl rfl (one_B8 _) rfl rfl rfl ?_; intro b34; refine gp (zso (b := part4 y.length)) ?_; refine zxm ?_; refine gp (zcat (a := part4 y.length) (b := y) (hl := by simp only [part4, List.length_cons, List.length_nil]; omega)) ?_; refine gp (r_val (zcat (hl := by simp only [part4, List.length_append, List.length_cons, List.length_nil]; omega)) (congrArg (fun l => Value.string (str l)) (framed_succ dom parts hly).symm)) ?_; refine zxa ?_; refine gl_nil (gx_block_normal (gx_then (gc_region (gp zad ?_)))); refine zxm ?_; refine gl_nil (zrd (k + 1) ?_ ?_)
   ·show n - (k + 1) < n - k
    omega
   ·exact zlp (show k + 1 ≤ n by omega)
  ·try simp only at hc16
   have hk' : k = parts.length := by omega
   subst hk'; refine gc_exit ?_; refine gx_then_exit ?_; refine gx_round_exit ?_; refine gx_block_hit ?_; refine gx_then (gsr (zxm ?_)); refine zxa ?_; refine gnt (gc_ret (gx_ret1 rfl (by conv => lhs; whnf) ?_)); rw [List.take_length]; exact ze ()
theorem of2_ok {w : World} {F : Nat → Prop} {dom : Int} {parts : List (List UInt8)} {a : Option Addr} {n c : Nat} (h : stars [] w F) (hx : RdList RdStr w (fun k => ¬ F k) 1 a n parts) (hb : 1 + pcost parts ≤ 1099511627776) :
    Calls Tryz.prog 37 #[.int .i64 dom, .slice a n c] w (Post w F (fun _ : Unit => .agg (dc (dOf Kc dom parts)).toArray) (fun _ => [])) := by
 refine g_enter (env := [(0, .int .i64 dom), (1, .slice a n c)]) Tryz.func37 rfl h Tryz.ntmps37 rfl rfl ?_; refine gsr (zal fun b4 => ?_); refine zxs ?_; refine zxm ?_; refine zxm ?_; refine zc (fun _ => ?_) (c := fun w1 F1 F2 h1 h2 hd hst => framed_ok h1 (RdList.mv hx hst.still fun _ _ h => h) hb)
 refine zc (fun _ => ?_) (c := fun w1 F1 F2 h1 h2 hd hst => rsum_ok h1 (by rw [framed_length]; omega))
 generalize hV : (takes Kc v0 (refPad (framed dom parts))).1 = V
 refine zal fun b5 => ?_; refine zsA fnc_length (fnc_one fun _ => rfl) ?_; refine zxs ?_; refine gp (r_buildA (cs := zD) Ty.zc_38 Ty.arr_38 Ty.sz_5 (by kernel_rfl)) ?_; refine zal fun b6 => ?_; refine zsA (new := zD) rfl (dc_one dig0) ?_; refine gnt (gc_seq (gsr (zxm ?_))); refine gnt (gc_block (gc_loop (α := Nat) (fun k => [pureR (k ≤ 16), blk b6 38 (fnc B8 16 (pfx (outByte V) (fun _ => 0) k)), blk b5 142 (fnc B8 32 (outByte V)), blk b4 38 zD]) (fun k => [(13, .int .i64 (k : Int))]) [7, 14, 15, 16, 17, 18, 19, 20, 21] (fun k => 16 - k) 0 ?_ ?_ ?_))
 ·refine env_start (by kernel_rfl)
 ·exact zlq (Nat.zero_le _) (M' := [blk b6 38 zD, blk b5 142 (fnc B8 32 (outByte V)), blk b4 38 zD]) (by rw [pfx_zero, fnc_const] <;> rfl)
 ·intro k u; refine gc_pureR (fun hk => ?_)
  replace hk : k ≤ 16 := hk
  refine gsr (gp zlt ?_); refine gnt (gc_seq (gif rfl (fun hc14 => ?_) (fun hc14 => ?_)))
  ·try simp only at hc14
   have hk' : k < 16 := by omega
   refine gc_skip (gx_then (gc_seq (gc_block (gsr (zxm ?_))))); refine zxa ?_; refine gnt (gc_region (zxm ?_)); refine zxm ?_; refine gp zib ?_; refine gp (r_ld1 (v := B8 (outByte V k)) rfl Ty.row_5 (by repeat (first | exact Pick.here | apply Pick.there)) (by rw [show 0 + (k : Int).toNat * 1 = k by omega]; exact fnc_get (V := B8) (f := outByte V) (by omega))) ?_; refine gp zib ?_; refine gl_store1 (wt0 rfl) rfl rfl rfl Ty.sz_5 (by repeat (first | exact Pick.here | apply Pick.there)) (by rw [fnc_length]; omega) (pfx_set (k := k) (by omega) (by omega) rfl) ?_; refine gl_nil (gx_block_normal (gx_then (gc_region (gp zad ?_)))); refine zxm ?_; refine gl_nil (zrd (k + 1) ?_ ?_)
   ·show 16 - (k + 1) < 16 - k
    omega
   ·exact zlp (show k + 1 ≤ 16 by omega)
  ·try simp only at hc14
   have hk' : k = 16 := by omega
   subst hk'; have e : fnc B8 16 (pfx (outByte V) (fun _ => 0) 16) = dc (dOf Kc dom parts) := by rw [pfx_full, ← hV]; exact of_cut dom parts
   rw [e]; refine gc_exit ?_; refine gx_then_exit ?_; refine gx_round_exit ?_; refine gx_block_hit ?_; refine gx_then (gsr (gp (zLa (cs := dc (dOf Kc dom parts))) ?_)); refine zsA (dc_length _) (dc_one _) ?_; refine gnt (gc_ret (gx_retc rfl rfl (ldA Ty.row_38 Ty.sz_38) ?_)); exact ze ()
end
section
def datE (b : Block) (c : QC) : List UInt8 := if madeE b c = 0 then (⟨b, c⟩ : LRec).data else []
theorem rc_0 {e r : Value} {t l : List Value} : (e :: r :: t ++ l)[0]? = some e := rfl
theorem rc_1 {e r : Value} {t l : List Value} : (e :: r :: t ++ l)[1]? = some r := rfl
theorem rc_39 {xb t : List Value} {e r : Value} (h : xb.length = 39) : (xb ++ e :: r :: t)[39]? = some e := by rw [List.getElem?_append_right (by omega), h]; rfl
theorem rc_40 {xb t : List Value} {e r : Value} (h : xb.length = 39) : (xb ++ e :: r :: t)[40]? = some r := by rw [List.getElem?_append_right (by omega), h]; rfl
theorem rc_41 {xb t : List Value} {e r : Value} {d : Dig} (h : xb.length = 39) : ((xb ++ e :: r :: (dc d ++ t)).drop 41).take 16 = dc d := by
  rw [List.drop_append, List.drop_eq_nil_of_le (by omega), h]
  show List.take 16 (dc d ++ t) = dc d
  exact List.take_left' (dc_length d)
theorem i64_nat {n : Nat} (h : n ≤ 1099511627776) : I64 (n : Int) := by unfold I64; omega
theorem data_flat {a b : List UInt8} : ((beN (a.length : Int) 2 ++ a) ++ beN (b.length : Int) 2) ++ b = dataL a b := by simp [dataL]
attribute [local irreducible] Gl Gc Gx Gs Runs Wt
theorem rid_ok {w : World} {F : Nat → Prop} {cs : List Value} {x : Block} (h : stars [] w F) (hx : RdBlock w (fun k => ¬ F k) cs x) (ho : OkBlock x) :
    Calls Tryz.prog 30 #[.agg cs.toArray] w (Post w F (fun _ : Unit => .tuple #[.agg (dc (idOf x)).toArray, .int .i64 ((wBlock x ⟨0, []⟩).err : Int)]) (fun _ => [])) := by
 have hl := hx.len
 have il := Len.of hl
 have jl := One.of hx.one
 have hmx := block_max x
 refine g_enter (env := [(0, .agg cs.toArray)]) Tryz.func30 rfl h Tryz.ntmps30 rfl rfl ?_; refine gsr (zbN fun b1 => ?_); refine zal fun b2 => ?_; refine zxa ?_; refine zxs ?_; refine gp (zLa (cs := cs)) ?_; refine zc ?_ (c := fun w1 F1 F2 h1 h2 hd hst => obytes_ok h1 (hx.mv hst.still) ho)
 rintro ⟨a8, c8⟩
 refine zxm ?_; refine gp zex ?_; refine gp zex ?_; refine zxa ?_; refine zxa ?_; refine gnt (gc_seq (gc_seq ?_)); by_cases he : (wBlock x ⟨0, []⟩).err = 0
 ·refine gc_region (zxm ?_); refine gp (r_bool (c := false) zni (by simp [he])) ?_; refine gnt (gc_condF rfl rfl ?_); refine gc_skip (gx_then (gsr (zxm ?_))); refine gp (zso (b := wOut (wBlock x ⟨0, []⟩))) ?_; refine ze1 fun b17 => ?_; refine zc (fun _ => ?_) (c := fun w1 F1 F2 h1 h2 hd hst => of2_ok (parts := [wOut (wBlock x ⟨0, []⟩)]) h1 (.of1 (rd_row (xs := [.string (str (wOut (wBlock x ⟨0, []⟩)))]) h2 hd (by repeat (first | exact Pick.here | apply Pick.there))) (.cons rfl .nil)) (by simp only [pcost, List.map_cons, List.map_nil, List.sum_cons, List.sum_nil]; omega))
  refine zsA (dc_length _) (dc_one _) ?_; refine zxa ?_; refine gnt (gc_ret (gx_retct rfl rfl (by conv => lhs; whnf) (ldA Ty.row_38 Ty.sz_38) ?_)); have e : idOf x = dOf Kc 6 [wOut (wBlock x ⟨0, []⟩)] := by rw [idOf, if_pos he, wOut, if_pos he]
  rw [e]; exact fun w' hw => ⟨(), by rw [he]; rfl, hw.z⟩
 ·refine gc_region (zxm ?_); refine gp (r_bool (c := true) zni (by simp [he])) ?_; refine gnt (gc_condT rfl rfl ?_); refine gsr (gp (r_buildA (cs := dc dig0) Ty.zc_38 Ty.arr_38 Ty.sz_5 (by kernel_rfl)) ?_); refine zxm ?_; refine zsA (dc_length _) (dc_one _) ?_; refine zxa ?_; refine gnt (gc_ret (gx_then_ret (gx_retct rfl rfl (by conv => lhs; whnf) (ldA Ty.row_38 Ty.sz_38) ?_))); have e : idOf x = dig0 := by rw [idOf, if_neg he]
  rw [e]; exact ze ()
attribute [local irreducible] dc blkC qcC allE idOf
theorem data18_ok {w : World} {F : Nat → Prop} {xb xc : List Value} {b : Block} {c : QC} (h : stars [] w F) (hx : RdBlock w (fun k => ¬ F k) xb b) (hq : RdQC w (fun k => ¬ F k) xc c) (ob : OkBlock b) (oc : OkQC c) :
    Calls Tryz.prog 9 #[.agg (xb ++ xc).toArray] w (Post w F (fun p : Option Addr × Nat => .tuple #[.slice p.1 (datE b c).length p.2, .int .i64 (madeE b c : Int)]) (fun p => [rowR 5 1 p.1 (datE b c).length p.2 ((datE b c).map B8)])) := by
 have hx' := hx
 have hq' := hq
 obtain ⟨av, nv, kv, rfl, hq1, hq2⟩ := hq'; obtain ⟨q, a1, n1, c1, a2, n2, c2, rfl, hx1, hx2, hx3, hx4, hx5⟩ := hx'; have hl2 := hx1.len
 have il2 := Len.of hl2
 have jl2 := One.of hx1.one
 have hlx := hx.len
 have ilx := Len.of hlx
 have jlx := One.of hx.one
 have hlq := hq.len
 have ilq := Len.of hlq
 have jlq := One.of hq.one
 have occ : OkBlock (certB c) := ⟨(show I64 (0 : Int) by unfold I64; decide), (show I64 (0 : Int) by unfold I64; decide), oc, fun x hx => by cases hx⟩
 have hb1 := bs_len ⟨b, c⟩
 have hb2 := cs_len ⟨b, c⟩
 refine g_enter (env := [(0, .agg (List.toArray ((.int .i64 b.epoch :: .int .i64 b.round :: (dc b.parent ++ (q ++ [.slice a1 n1 c1, .slice a2 n2 c2]))) ++ (.int .i64 c.epoch :: .int .i64 c.round :: (dc c.block ++ [.slice av nv kv])))))]) Tryz.func9 rfl h Tryz.ntmps9 rfl rfl ?_; refine gsr (zbN fun b1 => ?_); refine zxa ?_; refine zxa ?_; refine zxs ?_; refine gp zfa ?_; refine gp (zL (sg := (.int .i64 b.epoch :: .int .i64 b.round :: (dc b.parent ++ (q ++ [.slice a1 n1 c1, .slice a2 n2 c2]))))) ?_; refine zc ?_ (c := fun w1 F1 F2 h1 h2 hd hst => obytes_ok h1 (hx.mv hst.still) ob)
 rintro ⟨a14, c14⟩
 refine zxm ?_; refine gp zex ?_; refine gp zex ?_; refine zxa ?_; refine zxa ?_; refine zxs ?_; refine gp zfa ?_; refine gp (zL (sg := (.int .i64 c.epoch :: .int .i64 c.round :: (dc c.block ++ [.slice av nv kv])))) ?_; refine gp zbu ?_; refine zc ?_ (c := fun w1 F1 F2 h1 h2 hd hst => obytes_ok (x := certB c) h1 (rd_cert (cs := .int .i64 0 :: .int .i64 0 :: (zD ++ (.int .i64 c.epoch :: .int .i64 c.round :: (dc c.block ++ [.slice av nv kv, .slice none 0 0, .slice none 0 0])))) (hq.mv hst.still) (by simp)) occ)
 rintro ⟨a21, c21⟩
 refine zxm ?_; refine gp zex ?_; refine gp zex ?_; refine zxa ?_; refine zxa ?_; refine gnt (gc_seq (gc_seq ?_)); by_cases e1 : (wBlock b ⟨0, []⟩).err = 0
 ·by_cases e2 : (wBlock (certB c) ⟨0, []⟩).err = 0
  ·refine gc_region (zxm ?_); refine gp (r_bool (c := false) zni (by simp [e1])) ?_; refine zxm ?_; refine gq zmv ?_; refine gq (r_bool (c := false) zni (by simp [e2])) ?_; refine gp zpk ?_; refine gnt (gc_condF rfl rfl ?_); refine gc_skip (gx_then (gsr (gp zfa ?_))); refine gp (zL (sg := (.int .i64 b.epoch :: .int .i64 b.round :: (dc b.parent ++ (q ++ [.slice a1 n1 c1, .slice a2 n2 c2]))))) ?_; refine zc (fun _ => ?_) (c := fun w1 F1 F2 h1 h2 hd hst => rid_ok h1 (hx.mv hst.still) ob)
   refine zxm ?_; refine gp zex ?_; refine gp zex ?_; refine zal fun b8 => ?_; refine zsA (dc_length _) (dc_one _) ?_; refine zxa ?_; refine gnt (gc_seq (gc_seq ?_)); by_cases hS1 : c.block = idOf b
   ·by_cases hS2 : c.epoch = b.epoch
    ·by_cases hS3 : c.round = b.round
     ·refine gc_region (gp zfa ?_); refine gp zfa ?_; refine gp (zL (sg := dc c.block) (hg := rc_41 hlx)) ?_; refine gp zL ?_; refine gp (r_bool (c := false) znd (by simp [hS1])) ?_; refine zxm ?_; refine gq zfa ?_; refine gq zfa ?_; refine gq (zl (v := .int .i64 c.epoch) (hv := rc_39 hlx)) ?_; refine gq zfa ?_; refine gq zfa ?_; refine gq (zl (v := .int .i64 b.epoch) (hv := rc_0)) ?_; refine gq (r_bool (c := false) zni (by simp [hS2])) ?_; refine gp zpk ?_; refine zxm ?_; refine gq zfa ?_; refine gq zfa ?_; refine gq (zl (v := .int .i64 c.round) (hv := rc_40 hlx)) ?_; refine gq zfa ?_; refine gq zfa ?_; refine gq (zl (v := .int .i64 b.round) (hv := rc_1)) ?_; refine gq (r_bool (c := false) zni (by simp [hS3])) ?_; refine gp zpk ?_; refine gnt (gc_condF rfl rfl ?_); refine gc_skip (gx_then (gsr ?_)); have he : madeE b c = 0 := by unfold madeE blkW; rw [if_neg (by simpa using e1), if_neg (by simpa using e2), if_pos ⟨hS1, hS2, hS3⟩]
      obtain ⟨B, hB⟩ : ∃ B, B = (wOut (wBlock b ⟨0, []⟩)) := ⟨_, rfl⟩; obtain ⟨C, hC⟩ : ∃ C, C = (wOut (wBlock (certB c) ⟨0, []⟩)) := ⟨_, rfl⟩; rw [← hB, ← hC]; have hBl : B.length ≤ 8485 := by rw [hB, wOut, if_pos e1]; exact hb1
      have hCl : C.length ≤ 8485 := by rw [hC, wOut, if_pos e2]; exact hb2
      have hd : datE b c = dataL B C := by rw [datE, if_pos he, LRec.data, LRec.bs, LRec.cs, hB, hC, wOut, wOut, if_pos e1, if_pos e2]; rfl
      refine zxm ?_; refine gp zln ?_; refine zc (fun b61 => ?_) (c := fun w1 F1 F2 h1 h2 hd hst => refNumber_ok (n := (B.length : Int)) (wd := 2) h1 (by decide) (by decide) (i64_nat (by omega)) (by omega))
      refine zxm ?_; refine zapo (a2 := a14) (c2 := c14) (news := B.map B8) (fun a63 c63 => ?_) (h1 := one_B8 _)
      refine zxa ?_; refine zxs ?_; refine zxm ?_; refine zxm ?_; refine gp zln ?_; refine zc (fun b67 => ?_) (c := fun w1 F1 F2 h1 h2 hd hst => refNumber_ok (n := (C.length : Int)) (wd := 2) h1 (by decide) (by decide) (i64_nat (by omega)) (by omega))
      refine zapo (a2 := some ⟨b67, 0, none⟩) (c2 := 2) (news := (beN (C.length : Int) 2).map B8) (fun a68 c68 => ?_) (h1 := one_B8 _)
      refine zxa ?_; refine zxs ?_; refine zxm ?_; refine zxm ?_; refine zapo (a2 := a21) (c2 := c21) (news := C.map B8) (fun a71 c71 => ?_) (h1 := one_B8 _)
      refine zxa ?_; refine zxa ?_; refine gnt (gc_ret (gx_ret2 rfl (by conv => lhs; whnf) (by conv => lhs; whnf) ?_)); have hlen : (datE b c).length = 2 + B.length + 2 + C.length := by rw [hd, dataL_len]; omega
      have hmp : (datE b c).map B8 = (((beN (B.length : Int) 2).map B8 ++ B.map B8) ++ (beN (C.length : Int) 2).map B8) ++ C.map B8 := by rw [hd, ← data_flat]; simp
      exact fun w' hw => ⟨(a71, c71), by rw [he, hlen]; rfl, by rw [hlen, hmp]; exact hw.z⟩
     ·refine gc_region (gp zfa ?_); refine gp zfa ?_; refine gp (zL (sg := dc c.block) (hg := rc_41 hlx)) ?_; refine gp zL ?_; refine gp (r_bool (c := false) znd (by simp [hS1])) ?_; refine zxm ?_; refine gq zfa ?_; refine gq zfa ?_; refine gq (zl (v := .int .i64 c.epoch) (hv := rc_39 hlx)) ?_; refine gq zfa ?_; refine gq zfa ?_; refine gq (zl (v := .int .i64 b.epoch) (hv := rc_0)) ?_; refine gq (r_bool (c := false) zni (by simp [hS2])) ?_; refine gp zpk ?_; refine zxm ?_; refine gq zfa ?_; refine gq zfa ?_; refine gq (zl (v := .int .i64 c.round) (hv := rc_40 hlx)) ?_; refine gq zfa ?_; refine gq zfa ?_; refine gq (zl (v := .int .i64 b.round) (hv := rc_1)) ?_; refine gq (r_bool (c := true) zni (by simp [hS3])) ?_; refine gp zpk ?_; refine gnt (gc_condT rfl rfl ?_); refine gsr (zxa ?_); refine zxa ?_; refine gnt (gc_ret (gx_then_ret (gx_ret2 rfl (by conv => lhs; whnf) (by conv => lhs; whnf) ?_))); have he : madeE b c = 12 := by unfold madeE blkW; rw [if_neg (by simpa using e1), if_neg (by simpa using e2), if_neg (fun h => by simp_all)]
      exact fun w' hw => ⟨(none, 0), by rw [he, datE, if_neg (by rw [he]; decide)]; rfl, by rw [datE, if_neg (by rw [he]; decide)]; exact hw.rowNil.z⟩
    ·refine gc_region (gp zfa ?_); refine gp zfa ?_; refine gp (zL (sg := dc c.block) (hg := rc_41 hlx)) ?_; refine gp zL ?_; refine gp (r_bool (c := false) znd (by simp [hS1])) ?_; refine zxm ?_; refine gq zfa ?_; refine gq zfa ?_; refine gq (zl (v := .int .i64 c.epoch) (hv := rc_39 hlx)) ?_; refine gq zfa ?_; refine gq zfa ?_; refine gq (zl (v := .int .i64 b.epoch) (hv := rc_0)) ?_; refine gq (r_bool (c := true) zni (by simp [hS2])) ?_; refine gp zpk ?_; refine zxm ?_; refine gn ?_; refine gn ?_; refine gn ?_; refine gn ?_; refine gn ?_; refine gn ?_; refine gn ?_; refine gp zpk ?_; refine gnt (gc_condT rfl rfl ?_); refine gsr (zxa ?_); refine zxa ?_; refine gnt (gc_ret (gx_then_ret (gx_ret2 rfl (by conv => lhs; whnf) (by conv => lhs; whnf) ?_))); have he : madeE b c = 12 := by unfold madeE blkW; rw [if_neg (by simpa using e1), if_neg (by simpa using e2), if_neg (fun h => by simp_all)]
     exact fun w' hw => ⟨(none, 0), by rw [he, datE, if_neg (by rw [he]; decide)]; rfl, by rw [datE, if_neg (by rw [he]; decide)]; exact hw.rowNil.z⟩
   ·refine gc_region (gp zfa ?_); refine gp zfa ?_; refine gp (zL (sg := dc c.block) (hg := rc_41 hlx)) ?_; refine gp zL ?_; refine gp (r_bool (c := true) znd (by simp [hS1])) ?_; refine zxm ?_; refine gn ?_; refine gn ?_; refine gn ?_; refine gn ?_; refine gn ?_; refine gn ?_; refine gn ?_; refine gp zpk ?_; refine zxm ?_; refine gn ?_; refine gn ?_; refine gn ?_; refine gn ?_; refine gn ?_; refine gn ?_; refine gn ?_; refine gp zpk ?_; refine gnt (gc_condT rfl rfl ?_); refine gsr (zxa ?_); refine zxa ?_; refine gnt (gc_ret (gx_then_ret (gx_ret2 rfl (by conv => lhs; whnf) (by conv => lhs; whnf) ?_))); have he : madeE b c = 12 := by unfold madeE blkW; rw [if_neg (by simpa using e1), if_neg (by simpa using e2), if_neg (fun h => by simp_all)]
    exact fun w' hw => ⟨(none, 0), by rw [he, datE, if_neg (by rw [he]; decide)]; rfl, by rw [datE, if_neg (by rw [he]; decide)]; exact hw.rowNil.z⟩
  ·refine gc_region (zxm ?_); refine gp (r_bool (c := false) zni (by simp [e1])) ?_; refine zxm ?_; refine gq zmv ?_; refine gq (r_bool (c := true) zni (by simp [e2])) ?_; refine gp zpk ?_; refine gnt (gc_condT rfl rfl ?_); refine gsr (zxa ?_); refine zxa ?_; refine gnt (gc_ret (gx_then_ret (gx_ret2 rfl (by conv => lhs; whnf) (by conv => lhs; whnf) ?_))); have he : madeE b c = 4 := by unfold madeE blkW; rw [if_neg (by simpa using e1), if_pos e2]
   exact fun w' hw => ⟨(none, 0), by rw [he, datE, if_neg (by rw [he]; decide)]; rfl, by rw [datE, if_neg (by rw [he]; decide)]; exact hw.rowNil.z⟩
 ·refine gc_region (zxm ?_); refine gp (r_bool (c := true) zni (by simp [e1])) ?_; refine zxm ?_; refine gn ?_; refine gn ?_; refine gp zpk ?_; refine gnt (gc_condT rfl rfl ?_); refine gsr (zxa ?_); refine zxa ?_; refine gnt (gc_ret (gx_then_ret (gx_ret2 rfl (by conv => lhs; whnf) (by conv => lhs; whnf) ?_))); have he : madeE b c = 4 := by unfold madeE blkW; rw [if_pos e1]
  exact fun w' hw => ⟨(none, 0), by rw [he, datE, if_neg (by rw [he]; decide)]; rfl, by rw [datE, if_neg (by rw [he]; decide)]; exact hw.rowNil.z⟩
end
section
def cpR (p l : List UInt8) (m i : Nat) : List Value := ((p ++ l.take i) ++ List.replicate (m - p.length - i) 0).map B8
theorem cpR_len {p l : List UInt8} {m i : Nat} (hi : i ≤ l.length) (hm : p.length + i ≤ m) : (cpR p l m i).length = m := by
  simp only [cpR, List.length_map, List.length_append, List.length_take, List.length_replicate]; omega
theorem cpR_store {p l : List UInt8} {m i o : Nat} (hi : i < l.length) (hm : p.length + i < m) (ho : o = p.length + i) : updL (cpR p l m i) o [B8 (l.getD i 0)] = cpR p l m (i + 1) := by
  subst ho
  show updL (((p ++ l.take i) ++ List.replicate (m - p.length - i) 0).map B8) (p.length + i) ([l.getD i 0].map B8) = _
  rw [updL_updY]
  have hl : (p ++ l.take i).length = p.length + i := by rw [List.length_append, List.length_take]; omega
  obtain ⟨r, hr⟩ : ∃ r, m - p.length - i = r + 1 := ⟨m - p.length - i - 1, by omega⟩
  have ht : l.take (i + 1) = l.take i ++ [l.getD i 0] := by rw [List.take_add_one, List.getElem?_eq_getElem hi]; simp [List.getD, hi]
  unfold updY cpR
  rw [List.take_left' hl, List.drop_append, List.drop_eq_nil_of_le (by rw [hl]; simp), hl, hr, ht, show m - p.length - (i + 1) = r by omega]
  simp [List.replicate_succ]
theorem cpR_zero (l : List UInt8) : sc sec0 = cpR [] l 64 0 := by
  show _ = (([] ++ l.take 0) ++ List.replicate 64 0).map B8
  rw [List.take_zero]; rfl
theorem cpR_next {p l l' : List UInt8} {m n : Nat} (hn : n = l.length) : cpR p l m n = cpR (p ++ l) l' m 0 := by
  subst hn
  simp only [cpR, List.take_length, List.take_zero, List.append_nil, List.length_append, Nat.sub_zero, Nat.sub_sub]
theorem cpR_head (k : Nat) (d : List UInt8) : cpR (firstL k d) (dOf Kc 10 [firstL k d, d]).l 64 16 = sc (headL k d) := by
  have hd := (dOf Kc 10 [firstL k d, d]).h
  have hf := firstL_len k d
  simp only [cpR, sc, headL]
  rw [List.take_of_length_le (by omega), hf]
  simp
theorem cpR_sec {d : List UInt8} {i j : Nat} (hi : i = min 64 (d.length - 64 * j)) : cpR [] (d.drop (64 * j)) 64 i = sc (secData d j) := by
  have hl : (d.drop (64 * j)).length = d.length - 64 * j := List.length_drop
  have e : (d.drop (64 * j)).take i = (d.drop (64 * j)).take 64 := by
    rw [hi, ← hl, List.take_eq_take_min (i := 64)]
  have e2 : ((d.drop (64 * j)).take 64).length = i := by rw [List.length_take, hl]; omega
  simp only [cpR, sc, secData]
  rw [e, e2]; simp
theorem dc_at {d : Dig} {i : Nat} (h : i < 16) : (dc d)[(i : Int).toNat * 1]? = some (B8 (d.l.getD i 0)) := by
  have hd := d.h
  simp [dc, List.getD, show i < d.l.length by omega]
def secsP (k : Nat) (d : List UInt8) (j : Nat) : List Sec := headL k d :: (List.range j).map (secData d)
def scs (l : List Sec) : List Value := (l.map sc).flatten
theorem scs_app (a b : List Sec) : scs (a ++ b) = scs a ++ scs b := by simp [scs]
theorem secsP_succ (k : Nat) (d : List UInt8) (j : Nat) : secsP k d (j + 1) = secsP k d j ++ [secData d j] := by simp [secsP, List.range_succ]
theorem scs_succ (k : Nat) (d : List UInt8) (j : Nat) : scs (secsP k d (j + 1)) = scs (secsP k d j) ++ sc (secData d j) := by rw [secsP_succ, scs_app]; simp [scs]
theorem scs_zero (k : Nat) (d : List UInt8) : scs (secsP k d 0) = sc (headL k d) := by simp [scs, secsP]
attribute [local irreducible] Gl Gc Gx Gs Runs Wt
attribute [local irreducible] dc blkC qcC allE idOf
theorem sectors18_ok {w : World} {F : Nat → Prop} {a : Option Addr} {n cc k : Nat} {d : List UInt8} (h : stars [] w F) (hx : RdRow w (fun k => ¬ F k) 1 a n (d.map B8)) (hk : k < 4294967296) (hd0 : d.length ≤ 16974) :
    Calls Tryz.prog 11 #[.int .i64 (k : Int), .slice a n cc] w (Post w F (fun p : Option Addr × Nat => .slice p.1 (1 + nsec d.length) p.2) (fun p => [rowR 54 64 p.1 (1 + nsec d.length) p.2 (scs (secsP k d (nsec d.length)))])) := by
 have hn : n = d.length := by have := hx.1; simp at this; omega
 subst hn; have h8 := firstL_len k d
 have hdh := (dOf Kc 10 [firstL k d, d]).h
 have hns : d.length ≤ 64 * nsec d.length ∧ 64 * nsec d.length < d.length + 64 := by unfold nsec; omega
 refine g_enter (env := [(0, .int .i64 (k : Int)), (1, .slice a d.length cc)]) Tryz.func11 rfl h Tryz.ntmps11 rfl rfl ?_; refine gsr (zxa ?_); refine zxs ?_; refine gp (zba (cs := sc sec0) (by exact rfl)) ?_; refine zal fun b5 => ?_; refine zsA (new := sc (sec0)) (sc_length _) (sc_one _) ?_; refine gl_eqc (cs' := cpR [] (firstL k d) 64 0) (by repeat (first | exact Pick.here | apply Pick.there)) (cpR_zero _) ?_; refine zxs ?_; refine zxm ?_; refine gp zln ?_; refine zc (fun b19 => ?_) (c := fun w1 F1 F2 h1 h2 hd hst => refNumber_ok (n := (d.length : Int)) (wd := 4) h1 (by decide) (by decide) (i64_nat (by omega)) (by omega))
 refine zxm ?_; refine zc (fun b21 => ?_) (c := fun w1 F1 F2 h1 h2 hd hst => refNumber_ok (n := (k : Int)) (wd := 4) h1 (by decide) (by decide) (i64_nat (by omega)) (by omega))
 refine zapo (a2 := some ⟨b21, 0, none⟩) (c2 := 4) (news := (beN (k : Int) 4).map B8) (fun a22 c22 => ?_) (h1 := one_B8 _)
 rw [← List.map_append, show beN (d.length : Int) 4 ++ beN (k : Int) 4 = firstL k d from rfl]; refine gl_fact (fun w' hw => St.rowAt (hw.sel (M := [rowR 5 1 a22 (4 + 4) c22 ((firstL k d).map B8)]) (by repeat (first | exact Sel.nil | (apply Sel.cons; · (repeat (first | exact Pick.here | apply Pick.there)))))) .here (by omega)) (fun hra => ?_)
 obtain ⟨hnc, ga, oa, ha⟩ := hra; subst ha; refine zxa ?_; refine gnt (gc_seq (gsr (zxm ?_))); refine gp zln ?_; refine zxm ?_; refine gnt (gc_block (gc_loop (α := Nat) (fun i => [pureR (i ≤ 8), blk b5 54 (cpR [] (firstL k d) 64 i), rowR 5 1 (some ⟨ga, oa, none⟩) (4 + 4) c22 ((firstL k d).map B8)]) (fun i => [(25, .int .i64 (i : Int))]) [7, 8, 26, 27, 28, 29, 30, 31, 32, 33] (fun i => 8 - i) 0 ?_ ?_ ?_))
 ·refine env_start (by kernel_rfl)
 ·exact zlp (Nat.zero_le _)
 ·intro i u; refine gc_pureR (fun hi => ?_)
  replace hi : i ≤ 8 := hi
  refine gsr (gp zlt ?_); refine gnt (gc_seq (gif rfl (fun hc26 => ?_) (fun hc26 => ?_)))
  ·try simp only at hc26
   have hi' : i < 8 := by omega
   refine gc_skip (gx_then (gc_seq (gc_block (gsr (zxm ?_))))); refine gp (r_val (v' := .pointer (some ⟨ga, oa + i, none⟩)) zia (by simp)) ?_; refine gp (r_ld1r (v := B8 ((firstL k d).getD i 0)) rfl Ty.row_5 (by repeat (first | exact Pick.here | apply Pick.there)) (by simp [List.getD, show i < (firstL k d).length by omega])) ?_; refine zxa ?_; refine zxa ?_; refine gnt (gc_region (zxm ?_)); refine zxm ?_; refine gp zib ?_; refine gl_store1 (wt0 rfl) rfl rfl rfl Ty.sz_5 (by repeat (first | exact Pick.here | apply Pick.there)) (by rw [cpR_len (by omega) (by simp; omega)]; omega) (cpR_store (by omega) (by simp; omega) (by simp)) ?_; refine gl_nil (gx_block_normal (gx_then (gc_region (gp zad ?_)))); refine zxm ?_; refine gl_nil (zrd (i + 1) ?_ ?_)
   ·show 8 - (i + 1) < 8 - i
    omega
   ·exact zlp (show i + 1 ≤ 8 by omega)
  ·try simp only at hc26
   have hi' : i = 8 := by omega
   subst hi'; refine gc_exit ?_; refine gx_then_exit ?_; refine gx_round_exit ?_; refine gx_block_hit ?_; refine gx_then (gsr (zxm ?_)); refine gp (zso (b := (firstL k d))) ?_; refine zxm ?_; refine gp (r_str rfl Ty.sl_49 Ty.un_5 (by kernel_rfl) (fun w hw => hw.rdOld hx)) ?_; refine gl_bsls (vs := [.string (str ((firstL k d))), .string (str (d))]) (wt0 rfl) Ty.sl_141 Ty.sz_9 Ty.zc_9 rfl rfl (all_cons' rfl (all_cons' rfl all_nil')) rfl rfl rfl ?_; intro b38; refine zc (fun _ => ?_) (c := fun w1 F1 F2 h1 h2 hd hst => of2_ok (dom := 10) (parts := [(firstL k d), d]) h1 (.of1 (rd_row (xs := [.string (str ((firstL k d))), .string (str (d))]) h2 hd (by repeat (first | exact Pick.here | apply Pick.there))) (.cons rfl (.cons rfl .nil))) (by simp only [pcost, List.map_cons, List.map_nil, List.sum_cons, List.sum_nil]; omega))
   refine zal fun b9 => ?_; refine zsA (dc_length _) (dc_one _) ?_; refine gnt (gc_seq (gsr (gp (zLa (cs := dc (dOf Kc 10 [firstL k d, d]))) ?_))); refine zxm ?_; refine gnt (gc_block (gc_loop (α := Nat) (fun i => [pureR (i ≤ 16), blk b5 54 (cpR (firstL k d) (dOf Kc 10 [firstL k d, d]).l 64 i)]) (fun i => [(41, .int .i64 (i : Int))]) [10, 11, 42, 43, 44, 45, 46, 47, 48, 49] (fun i => 16 - i) 0 ?_ ?_ ?_))
   ·refine env_start (by kernel_rfl)
   ·rw [cpR_next (l' := (dOf Kc 10 [firstL k d, d]).l) h8.symm, List.nil_append]; exact zlp (Nat.zero_le _)
   ·intro i u; refine gc_pureR (fun hi => ?_)
    replace hi : i ≤ 16 := hi
    refine gsr (gp zlt ?_); refine gnt (gc_seq (gif rfl (fun hc42 => ?_) (fun hc42 => ?_)))
    ·try simp only at hc42
     have hi' : i < 16 := by omega
     refine gc_skip (gx_then (gc_seq (gc_block (gsr (zxm ?_))))); refine gp (r_index1 (v := B8 ((dOf Kc 10 [firstL k d, d]).l.getD i 0)) rfl rfl Ty.arr_38 Ty.sz_5 Ty.row_5 (by omega) (by omega) (dc_at hi')) ?_; refine zxa ?_; refine zxa ?_; refine gnt (gc_region (zxm ?_)); refine gp (r_int (j := ((8 + i : Nat) : Int)) zad (by omega)) ?_; refine zxm ?_; refine gp (zib (m := 64)) ?_; refine gl_store1 (wt0 rfl) rfl rfl rfl Ty.sz_5 (by repeat (first | exact Pick.here | apply Pick.there)) (by rw [cpR_len (by omega) (by omega)]; omega) (cpR_store (by omega) (by omega) (by omega)) ?_; refine gl_nil (gx_block_normal (gx_then (gc_region (gp zad ?_)))); refine zxm ?_; refine gl_nil (zrd (i + 1) ?_ ?_)
     ·show 16 - (i + 1) < 16 - i
      omega
     ·exact zlp (show i + 1 ≤ 16 by omega)
    ·try simp only at hc42
     have hi' : i = 16 := by omega
     subst hi'; rw [cpR_head]; refine gc_exit ?_; refine gx_then_exit ?_; refine gx_round_exit ?_; refine gx_block_hit ?_; refine gx_then (gsr (gp (zLa (cs := sc (headL k d))) ?_)); refine zeN fun b51 => ?_; refine zxa ?_; refine gnt (gc_seq (gsr (zxa ?_))); refine gnt (gc_block (gc_loop (α := Nat × Option Addr × Nat) (fun y => [pureR (y.1 ≤ nsec d.length), rowR 54 64 y.2.1 (1 + y.1) y.2.2 (scs (secsP k d y.1))]) (fun y => [(13, .int .i64 ((64 * y.1 : Nat) : Int)), (12, .slice y.2.1 (1 + y.1) y.2.2)]) [14, 15, 52, 53, 54, 55, 56, 57, 58, 59, 60, 61, 62, 63, 64, 65, 66, 67, 68, 69, 70, 71, 72, 73, 74, 75, 76, 77, 78, 79, 80, 81, 82] (fun y => nsec d.length - y.1) (0, some ⟨b51, 0, none⟩, 1) ?_ ?_ ?_))
     ·refine env_start (by kernel_rfl)
     ·rw [← scs_zero k d]; exact zlp (Nat.zero_le _)
     ·intro y u; obtain ⟨j, a, c⟩ := y; refine gc_pureR (fun hj => ?_)
      replace hj : j ≤ nsec d.length := hj
      refine gc_seq (gsr (zxm ?_)); refine zxm ?_; refine gp zln ?_; refine gp zlt ?_; refine gnt (gif rfl (fun hc55 => ?_) (fun hc55 => ?_))
      ·try simp only at hc55
       have hj' : j < nsec d.length := by omega
       refine gc_skip (gx_then (gc_seq (gc_block (gsr (gp (zba (cs := sc sec0) (by exact rfl)) ?_))))); refine zal fun b14 => ?_; refine zsA (new := sc (sec0)) (sc_length _) (sc_one _) ?_; refine gl_eqc (cs' := cpR [] (d.drop (64 * j)) 64 0) (by repeat (first | exact Pick.here | apply Pick.there)) (cpR_zero _) ?_; refine gnt (gc_seq (gsr (zxa ?_))); refine gnt (gc_block (gc_loop (α := Nat) (fun i => [pureR (i ≤ 64 ∧ 64 * j + i ≤ d.length), blk b14 54 (cpR [] (d.drop (64 * j)) 64 i), rowR 54 64 a (1 + j) c (scs (secsP k d j))]) (fun i => [(15, .int .i64 (i : Int))]) [59, 60, 61, 62, 63, 64, 65, 66, 67, 68, 69, 70, 71, 72, 73, 74, 75, 76, 77, 78] (fun i => 64 - i) 0 ?_ ?_ ?_))
       ·refine env_start (by kernel_rfl)
       ·exact zlp (show 0 ≤ 64 ∧ 64 * j + 0 ≤ d.length by omega)
       ·intro i u; refine gc_pureR (fun hi => ?_)
        replace hi : i ≤ 64 ∧ 64 * j + i ≤ d.length := hi
        refine gc_seq (gc_seq ?_); by_cases hS : i < 64
        ·refine gc_region (zxm ?_); refine gp (r_bool (c := true) zlt (decide_eq_true (by omega))) ?_; refine zxm ?_; refine gq zmv ?_; refine gq zmv ?_; refine gq (r_int (j := ((64 * j + i : Nat) : Int)) zad (by omega)) ?_; refine gq zmv ?_; refine gq zln ?_; refine gq zlt ?_; refine gp zpk ?_; refine gnt (gif rfl (fun hc68 => ?_) (fun hc68 => ?_))
         ·try simp only at hc68
          have hi' : i < 64 ∧ 64 * j + i < d.length := by omega
          have hdl : (d.drop (64 * j)).length = d.length - 64 * j := List.length_drop
          have hgd : (d.drop (64 * j)).getD i 0 = d.getD (64 * j + i) 0 := by simp [List.getD, List.getElem?_drop]
          obtain ⟨gx, ox, hax, hAx, hcx⟩ := rd_byte hx hi'.2; subst hax; refine gc_skip (gx_then (gc_seq (gc_block (gc_region (zxm ?_))))); refine zxm ?_; refine zxm ?_; refine zxm ?_; refine gp (r_int (j := ((64 * j + i : Nat) : Int)) zad (by omega)) ?_; refine gp (r_val (v' := .pointer (some ⟨gx, ox + (64 * j + i), none⟩)) zia (by simp)) ?_; refine gp (r_ld1o (v := B8 ((d.drop (64 * j)).getD i 0)) rfl Ty.row_5 (by rw [hgd]; simpa using hcx) hAx) ?_; refine gp (zib (m := 64)) ?_; refine gl_store1 (wt0 rfl) rfl rfl rfl Ty.sz_5 (by repeat (first | exact Pick.here | apply Pick.there)) (by rw [cpR_len (by omega) (by simp; omega)]; omega) (cpR_store (by omega) (by simp; omega) (by simp)) ?_; refine gl_nil (gx_block_normal (gx_then (gc_region (zxm ?_)))); refine gp zad ?_; refine zxa ?_; refine gl_nil (zrd (i + 1) ?_ ?_)
          ·show 64 - (i + 1) < 64 - i
           omega
          ·exact zlp (show i + 1 ≤ 64 ∧ 64 * j + (i + 1) ≤ d.length by omega)
         ·refine gc_exit ?_; refine gx_then_exit ?_; refine gx_round_exit ?_; refine gx_block_hit ?_; refine gx_then (gc_region ?_); have hm' : i = min 64 (d.length - 64 * j) := by omega
          rw [cpR_sec hm']; refine zxm ?_; refine gp (zLa (cs := sc (secData d j))) ?_; refine zeN fun b81 => ?_; refine zapo (a2 := some ⟨b81, 0, none⟩) (c2 := 1) (news := sc (secData d j)) (fun a82 c82 => ?_) (h1 := sc_one _)
          rw [show 1 + j + 1 = 1 + (j + 1) by omega]; refine zxa ?_; refine gl_nil (gx_block_normal (gx_then (gc_region (zxm ?_)))); refine gp (r_int (j := ((64 * (j + 1) : Nat) : Int)) zad (by omega)) ?_; refine zxa ?_; refine gl_nil (zrd ((j + 1, a82, c82)) ?_ ?_)
          ·show nsec d.length - (j + 1) < nsec d.length - j
           omega
          ·rw [← scs_succ]; exact zlp (show j + 1 ≤ nsec d.length by omega)
        ·refine gc_region (zxm ?_); refine gp (r_bool (c := false) zlt (decide_eq_false (by omega))) ?_; refine zxm ?_; refine gn ?_; refine gn ?_; refine gn ?_; refine gn ?_; refine gn ?_; refine gn ?_; refine gp zpk ?_; refine gnt (gc_condF rfl rfl ?_); refine gc_exit ?_; refine gx_then_exit ?_; refine gx_round_exit ?_; refine gx_block_hit ?_; refine gx_then (gc_region ?_); have hm' : i = min 64 (d.length - 64 * j) := by omega
         rw [cpR_sec hm']; refine zxm ?_; refine gp (zLa (cs := sc (secData d j))) ?_; refine zeN fun b81 => ?_; refine zapo (a2 := some ⟨b81, 0, none⟩) (c2 := 1) (news := sc (secData d j)) (fun a82 c82 => ?_) (h1 := sc_one _)
         rw [show 1 + j + 1 = 1 + (j + 1) by omega]; refine zxa ?_; refine gl_nil (gx_block_normal (gx_then (gc_region (zxm ?_)))); refine gp (r_int (j := ((64 * (j + 1) : Nat) : Int)) zad (by omega)) ?_; refine zxa ?_; refine gl_nil (zrd ((j + 1, a82, c82)) ?_ ?_)
         ·show nsec d.length - (j + 1) < nsec d.length - j
          omega
         ·rw [← scs_succ]; exact zlp (show j + 1 ≤ nsec d.length by omega)
      ·try simp only at hc55
       have hj' : j = nsec d.length := by omega
       subst hj'; refine gc_exit ?_; refine gx_then_exit ?_; refine gx_round_exit ?_; refine gx_block_hit ?_; refine gx_then (gsr (zxm ?_)); refine zxa ?_; refine gnt (gc_ret (gx_ret1 rfl (by conv => lhs; whnf) ?_)); exact fun w' hw => ⟨(a, c), rfl, hw.z⟩
end
section
structure RS where
  pos : Nat
  err : Nat
def RS.st (B : List UInt8) (r : RS) : RSt := if r.err = 0 then .ok (B.drop r.pos) else .error r.err
def InR (g : Nat) (a : Option Addr) (c : Nat) (B : List UInt8) (σ : RSt) : Res := exR fun r : RS => allR [pureR (r.st B = σ ∧ r.pos ≤ B.length), blk g 111 [.slice a B.length c, .int .i64 (r.pos : Int), .int .i64 (r.err : Int)]]
section
variable {g c : Nat} {a : Option Addr} {B : List UInt8} {σ : RSt} {w : World} {F : Nat → Prop} {L : List Res}
theorem in_mk {r : RS} {i k : Int} (h : stars (blk g 111 [.slice a B.length c, .int .i64 i, .int .i64 k] :: L) w F) (hi : i = (r.pos : Int)) (hk : k = (r.err : Int)) (hs : r.st B = σ) (hp : r.pos ≤ B.length) : stars (InR g a c B σ :: L) w F := by
  subst hi; subst hk
  exact stars_ex_mk r (stars_all_mk (stars_pure_mk ⟨hs, hp⟩ h))
theorem St.inr {w0 : World} {F0 : Nat → Prop} (r : RS) {i k : Int} (h : St w0 F0 (blk g 111 [.slice a B.length c, .int .i64 i, .int .i64 k] :: L) w) (hi : i = (r.pos : Int)) (hk : k = (r.err : Int)) (hs : r.st B = σ) (hp : r.pos ≤ B.length) : St w0 F0 (InR g a c B σ :: L) w :=
  h.mapL fun F hF => in_mk hF hi hk hs hp
end
attribute [local irreducible] Gl Gc Gx Gs Runs Wt
end
section
def RdMap (w : World) (A : Nat → Prop) (g : Nat) (l : List (Value × Value)) : Prop := A g ∧ ∃ es clock, w.heap[g]? = some (.map es clock) ∧ kvs es = l
theorem RdMap.mv {w w' : World} {A A' : Nat → Prop} {g : Nat} {l : List (Value × Value)} (h : RdMap w A g l) (hk : ∀ k, k < w.heap.size → A k → w'.heap[k]? = w.heap[k]? ∧ A' k) : RdMap w' A' g l := by
  obtain ⟨hA, es, clock, hh, hkv⟩ := h
  have := hk g (Array.getElem?_eq_some_iff.1 hh).1 hA
  exact ⟨this.2, es, clock, this.1.trans hh, hkv⟩
theorem mapR.rd {g : Nat} {l : List (Value × Value)} {w : World} {F : Nat → Prop} (h : (mapR g l).on w F) : RdMap w F g l := by
  obtain ⟨hF, es, clock, hh, hk, _⟩ := h
  exact ⟨(hF g).2 rfl, es, clock, hh, hk⟩
section
variable {P : Program} {w0 : World} {F0 : Nat → Prop} {L : List Res} {Q : Exit → Act → World → Prop} {n : Fm} {env : Env} {ops : Array Oper} {rest : List Oper}
variable {d : Option Tmp} {t : Tmp} {ty : TypeId} {pos : String} {af : Array Edge} {gd : Option (Nat × Bool)}
section
variable {α : Type} [DecidableEq α] {K : α → Value}
end
theorem gx_lp {l : Nat} {r : Loop} {L' : List Res} {e : Exit} (hp : Pick L (lpR l r) L') (h : Gx w0 F0 (lpR l r :: L') Q e n env) : Gx w0 F0 L Q e n env := fun w hw => h w (hw.pick hp)
end
end
section
def pk (f : Nat → Nat) : Nat → Nat
  | 0 => 0
  | L + 1 => f 0 + 2 ^ 64 * pk (fun i => f (i + 1)) L
theorem pk_succ (f : Nat → Nat) (L : Nat) : pk f (L + 1) = f 0 + 2 ^ 64 * pk (fun i => f (i + 1)) L := rfl
theorem pk_congr {f g : Nat → Nat} : ∀ {L : Nat}, (∀ i, i < L → f i = g i) → pk f L = pk g L
  | 0, _ => rfl
  | L + 1, h => by unfold pk; rw [h 0 (by omega), pk_congr (fun i hi => h (i + 1) (by omega))]
theorem pk_add (f g : Nat → Nat) : ∀ L, pk f L + pk g L = pk (fun i => f i + g i) L
  | 0 => rfl
  | L + 1 => by unfold pk; rw [← pk_add (fun i => f (i + 1)) (fun i => g (i + 1)) L, Nat.mul_add]; omega
theorem pk_mul (c : Nat) (f : Nat → Nat) : ∀ L, c * pk f L = pk (fun i => c * f i) L
  | 0 => rfl
  | L + 1 => by unfold pk; rw [← pk_mul c (fun i => f (i + 1)) L, Nat.mul_add, Nat.mul_left_comm]
theorem pk_append (f : Nat → Nat) : ∀ (L K : Nat), pk f (L + K) = pk f L + 2 ^ (64 * L) * pk (fun i => f (L + i)) K
  | 0, K => by simp [pk]
  | L + 1, K => by
    rw [show L + 1 + K = (L + K) + 1 by omega, pk_succ, pk_succ, pk_append (fun i => f (i + 1)) L K, Nat.mul_add, ← Nat.mul_assoc, ← Nat.pow_add, show 64 + 64 * L = 64 * (L + 1) by omega]
    simp only [show ∀ i, L + i + 1 = L + 1 + i from fun i => by omega]
    omega
theorem tb_split {a A : Nat} (h : a < 2 ^ 64) (j : Nat) : (a + 2 ^ 64 * A).testBit j = if j < 64 then a.testBit j else A.testBit (j - 64) := by
  rw [Nat.add_comm]; exact Nat.testBit_two_pow_mul_add A h j
theorem and_lt64 {a b : Nat} (h : a < 2 ^ 64) : a &&& b < 2 ^ 64 := Nat.lt_of_le_of_lt Nat.and_le_left h
theorem andq_split {a b A B : Nat} (ha : a < 2 ^ 64) (hb : b < 2 ^ 64) : (a + 2 ^ 64 * A) &&& (b + 2 ^ 64 * B) = (a &&& b) + 2 ^ 64 * (A &&& B) := by
  apply Nat.eq_of_testBit_eq; intro j
  rw [Nat.testBit_and, tb_split ha, tb_split hb, tb_split (and_lt64 ha)]
  split <;> simp [Nat.testBit_and]
theorem orq_split {a b A B : Nat} (ha : a < 2 ^ 64) (hb : b < 2 ^ 64) : (a + 2 ^ 64 * A) ||| (b + 2 ^ 64 * B) = (a ||| b) + 2 ^ 64 * (A ||| B) := by
  apply Nat.eq_of_testBit_eq; intro j
  rw [Nat.testBit_or, tb_split ha, tb_split hb, tb_split (Nat.or_lt_two_pow ha hb)]
  split <;> simp [Nat.testBit_or]
theorem xorq_split {a b A B : Nat} (ha : a < 2 ^ 64) (hb : b < 2 ^ 64) : (a + 2 ^ 64 * A) ^^^ (b + 2 ^ 64 * B) = (a ^^^ b) + 2 ^ 64 * (A ^^^ B) := by
  apply Nat.eq_of_testBit_eq; intro j
  rw [Nat.testBit_xor, tb_split ha, tb_split hb, tb_split (Nat.xor_lt_two_pow ha hb)]
  split <;> simp [Nat.testBit_xor]
theorem pk_and : ∀ {L : Nat} {f g : Nat → Nat}, (∀ i, f i < 2 ^ 64) → (∀ i, g i < 2 ^ 64) → pk f L &&& pk g L = pk (fun i => f i &&& g i) L
  | 0, _, _, _, _ => by simp [pk]
  | L + 1, f, g, hf, hg => by unfold pk; rw [andq_split (hf 0) (hg 0), pk_and (fun i => hf (i + 1)) (fun i => hg (i + 1))]
theorem pk_or : ∀ {L : Nat} {f g : Nat → Nat}, (∀ i, f i < 2 ^ 64) → (∀ i, g i < 2 ^ 64) → pk f L ||| pk g L = pk (fun i => f i ||| g i) L
  | 0, _, _, _, _ => by simp [pk]
  | L + 1, f, g, hf, hg => by unfold pk; rw [orq_split (hf 0) (hg 0), pk_or (fun i => hf (i + 1)) (fun i => hg (i + 1))]
theorem pk_xor : ∀ {L : Nat} {f g : Nat → Nat}, (∀ i, f i < 2 ^ 64) → (∀ i, g i < 2 ^ 64) → pk f L ^^^ pk g L = pk (fun i => f i ^^^ g i) L
  | 0, _, _, _, _ => by simp [pk]
  | L + 1, f, g, hf, hg => by unfold pk; rw [xorq_split (hf 0) (hg 0), pk_xor (fun i => hf (i + 1)) (fun i => hg (i + 1))]
def lmask (L : Nat) : Nat := pk (fun _ => 4294967295) L
theorem pk_mask {L : Nat} {f : Nat → Nat} (h : ∀ i, f i < 2 ^ 64) : pk f L &&& lmask L = pk (fun i => f i % 2 ^ 32) L := by
  unfold lmask
  rw [pk_and h (fun _ => by decide)]
  exact pk_congr fun i _ => Nat.and_two_pow_sub_one_eq_mod (f i) 32
theorem shr_mask {n : Nat} (hn : n < 32) : ∀ {L : Nat} {f : Nat → Nat}, (∀ i, f i < 2 ^ 32) → (pk f L >>> n) &&& lmask L = pk (fun i => f i >>> n) L
  | 0, _, _ => by simp [pk, lmask]
  | L + 1, f, h => by
    have ih := shr_mask hn (L := L) (f := fun i => f (i + 1)) (fun i => h (i + 1))
    unfold lmask at ih ⊢
    apply Nat.eq_of_testBit_eq; intro j
    have h0 := h 0
    have h64 : f 0 < 2 ^ 64 := Nat.lt_trans h0 (by decide)
    have hs : f 0 >>> n < 2 ^ 64 := Nat.lt_of_le_of_lt (Nat.shiftRight_le _ _) h64
    have ih' := congrArg (fun x => Nat.testBit x (j - 64)) ih
    simp only [Nat.testBit_and, Nat.testBit_shiftRight] at ih'
    unfold pk
    rw [Nat.testBit_and, Nat.testBit_shiftRight, tb_split h64, tb_split (by decide), tb_split hs]
    by_cases hj : j < 64
    · rw [if_pos hj, if_pos hj]
      by_cases hj2 : n + j < 64
      · rw [if_pos hj2, Nat.testBit_shiftRight]
        by_cases hj3 : j < 32
        · rw [show (4294967295 : Nat) = 2 ^ 32 - 1 from rfl, Nat.testBit_two_pow_sub_one]; simp [hj3]
        · rw [show (4294967295 : Nat) = 2 ^ 32 - 1 from rfl, Nat.testBit_two_pow_sub_one]
          have : (f 0).testBit (n + j) = false := Nat.testBit_lt_two_pow (Nat.lt_of_lt_of_le h0 (Nat.pow_le_pow_right (by decide) (by omega)))
          simp [hj3, this]
      · rw [if_neg hj2, show (4294967295 : Nat) = 2 ^ 32 - 1 from rfl, Nat.testBit_two_pow_sub_one, Nat.testBit_shiftRight]
        have : (f 0).testBit (n + j) = false := Nat.testBit_lt_two_pow (Nat.lt_of_lt_of_le h0 (Nat.pow_le_pow_right (by decide) (by omega)))
        simp [show ¬ j < 32 by omega, this]
    · rw [if_neg hj, if_neg hj, if_neg (by omega), show n + j - 64 = n + (j - 64) by omega]
      exact ih'
def pw (u : Nat → UInt32) (L : Nat) : Nat := pk (fun i => (u i).toNat) L
theorem u32_lt (x : UInt32) : x.toNat < 2 ^ 32 := x.toNat_lt
theorem u32_lt64 (x : UInt32) : x.toNat < 2 ^ 64 := Nat.lt_trans x.toNat_lt (by decide)
theorem pw_and (u v : Nat → UInt32) (L : Nat) : pw u L &&& pw v L = pw (fun i => u i &&& v i) L := by
  unfold pw; rw [pk_and (fun i => u32_lt64 _) (fun i => u32_lt64 _)]; exact pk_congr fun i _ => (UInt32.toNat_and _ _).symm
theorem pw_xor (u v : Nat → UInt32) (L : Nat) : pw u L ^^^ pw v L = pw (fun i => u i ^^^ v i) L := by
  unfold pw; rw [pk_xor (fun i => u32_lt64 _) (fun i => u32_lt64 _)]; exact pk_congr fun i _ => (UInt32.toNat_xor _ _).symm
theorem pw_not (u : Nat → UInt32) (L : Nat) : lmask L ^^^ pw u L = pw (fun i => ~~~ u i) L := by
  have h : lmask L = pw (fun _ => (4294967295 : UInt32)) L := rfl
  rw [h, pw_xor]
  refine pk_congr fun i _ => ?_
  congr 1
def qsh (M x n : Nat) : Nat := (x >>> n) &&& M
def qrot (M x n : Nat) : Nat := ((x >>> n) ||| (x <<< (32 - n))) &&& M
theorem pw_shr {n : Nat} (hn : n < 32) (u : Nat → UInt32) (L : Nat) : qsh (lmask L) (pw u L) n = pw (fun i => u i >>> UInt32.ofNat n) L := by
  unfold qsh pw
  rw [shr_mask hn (fun i => u32_lt _)]
  refine pk_congr fun i _ => ?_
  rw [UInt32.toNat_shiftRight]
  have : (UInt32.ofNat n).toNat = n := by rw [UInt32.toNat_ofNat']; exact Nat.mod_eq_of_lt (by omega)
  rw [this, Nat.mod_eq_of_lt hn]
theorem pw_rot {n : Nat} (h1 : 0 < n) (hn : n < 32) (u : Nat → UInt32) (L : Nat) : qrot (lmask L) (pw u L) n = pw (fun i => rotr (u i) n) L := by
  unfold qrot
  rw [Nat.and_or_distrib_right]
  have e1 := pw_shr hn u L
  unfold qsh at e1
  rw [e1]
  have e2 : (pw u L <<< (32 - n)) &&& lmask L = pw (fun i => u i <<< UInt32.ofNat (32 - n)) L := by
    unfold pw
    rw [Nat.shiftLeft_eq, Nat.mul_comm, pk_mul, pk_mask]
    · refine pk_congr fun i _ => ?_
      rw [UInt32.toNat_shiftLeft]
      have : (UInt32.ofNat (32 - n)).toNat = 32 - n := by rw [UInt32.toNat_ofNat']; exact Nat.mod_eq_of_lt (by omega)
      rw [this, Nat.mod_eq_of_lt (show 32 - n < 32 by omega), Nat.shiftLeft_eq, Nat.mul_comm]
    · intro i
      have := u32_lt (u i)
      calc 2 ^ (32 - n) * (u i).toNat < 2 ^ (32 - n) * 2 ^ 32 := Nat.mul_lt_mul_of_pos_left this (Nat.pow_pos (by decide))
        _ = 2 ^ (32 - n + 32) := (Nat.pow_add ..).symm
        _ ≤ 2 ^ 64 := Nat.pow_le_pow_right (by decide) (by omega)
  rw [e2]
  unfold pw
  rw [pk_or (fun i => u32_lt64 _) (fun i => u32_lt64 _)]
  refine pk_congr fun i _ => ?_
  show _ = (u i <<< UInt32.ofNat (32 - n) ||| u i >>> UInt32.ofNat n).toNat
  rw [UInt32.toNat_or, Nat.or_comm]
theorem pw_of {L : Nat} {f : Nat → Nat} {u : Nat → UInt32} (hf : ∀ i, f i < 2 ^ 64) (h : ∀ i, f i % 2 ^ 32 = (u i).toNat) : pk f L &&& lmask L = pw u L := by
  rw [pk_mask hf]; exact pk_congr fun i _ => h i
theorem pw_const (c : UInt32) (L : Nat) : c.toNat * pk (fun _ => 1) L = pw (fun _ => c) L := by
  rw [pk_mul]; exact pk_congr fun i _ => Nat.mul_one _
theorem pk_pw (u : Nat → UInt32) (L : Nat) : pw u L = pk (fun i => (u i).toNat) L := rfl
def fc {α : Type} (x : Nat) (k : Nat → α) : α := match x with
  | 0 => k 0
  | n + 1 => k (n + 1)
theorem fc_eq {α : Type} (x : Nat) (k : Nat → α) : fc x k = k x := by cases x <;> rfl
def qs0 (M x : Nat) : Nat := qrot M x 7 ^^^ qrot M x 18 ^^^ qsh M x 3
def qs1 (M x : Nat) : Nat := qrot M x 17 ^^^ qrot M x 19 ^^^ qsh M x 10
theorem pw_sg0 (u : Nat → UInt32) (L : Nat) : qs0 (lmask L) (pw u L) = pw (fun i => sg0 (u i)) L := by
  unfold qs0; rw [pw_rot (by decide) (by decide), pw_rot (by decide) (by decide), pw_shr (by decide), pw_xor, pw_xor]; rfl
theorem pw_sg1 (u : Nat → UInt32) (L : Nat) : qs1 (lmask L) (pw u L) = pw (fun i => sg1 (u i)) L := by
  unfold qs1; rw [pw_rot (by decide) (by decide), pw_rot (by decide) (by decide), pw_shr (by decide), pw_xor, pw_xor]; rfl
theorem pw_wnext (x y z t : Nat → UInt32) (L : Nat) : (pw x L + qs0 (lmask L) (pw y L) + pw z L + qs1 (lmask L) (pw t L)) &&& lmask L = pw (fun i => x i + sg0 (y i) + z i + sg1 (t i)) L := by
  rw [pw_sg0, pw_sg1]
  simp only [pk_pw, pk_add]
  refine pw_of (fun i => ?_) (fun i => ?_)
  · have h1 := u32_lt (x i); have h2 := u32_lt (sg0 (y i)); have h3 := u32_lt (z i); have h4 := u32_lt (sg1 (t i)); omega
  · simp only [UInt32.toNat_add]; omega
theorem pw_one (e f g h w : Nat → UInt32) (k : UInt32) (L : Nat) :
    (pw h L + (qrot (lmask L) (pw e L) 6 ^^^ qrot (lmask L) (pw e L) 11 ^^^ qrot (lmask L) (pw e L) 25) + ((pw e L &&& pw f L) ^^^ ((lmask L ^^^ pw e L) &&& pw g L)) + k.toNat * pk (fun _ => 1) L + pw w L) &&& lmask L
      = pw (fun i => h i + (rotr (e i) 6 ^^^ rotr (e i) 11 ^^^ rotr (e i) 25) + ((e i &&& f i) ^^^ (~~~ e i &&& g i)) + k + w i) L := by
  rw [pw_rot (by decide) (by decide), pw_rot (by decide) (by decide), pw_rot (by decide) (by decide), pw_xor, pw_xor, pw_not, pw_and, pw_and, pw_xor, pw_const]
  simp only [pk_pw, pk_add]
  refine pw_of (fun i => ?_) (fun i => ?_)
  · have h1 := u32_lt (h i); have h2 := u32_lt (rotr (e i) 6 ^^^ rotr (e i) 11 ^^^ rotr (e i) 25); have h3 := u32_lt ((e i &&& f i) ^^^ (~~~ e i &&& g i)); have h4 := u32_lt k; have h5 := u32_lt (w i); omega
  · simp only [UInt32.toNat_add]; omega
theorem pw_two (a b c o : Nat → UInt32) (L : Nat) :
    (pw o L + ((qrot (lmask L) (pw a L) 2 ^^^ qrot (lmask L) (pw a L) 13 ^^^ qrot (lmask L) (pw a L) 22) + (((pw a L &&& pw b L) ^^^ (pw a L &&& pw c L)) ^^^ (pw b L &&& pw c L)))) &&& lmask L
      = pw (fun i => o i + ((rotr (a i) 2 ^^^ rotr (a i) 13 ^^^ rotr (a i) 22) + (((a i &&& b i) ^^^ (a i &&& c i)) ^^^ (b i &&& c i)))) L := by
  rw [pw_rot (by decide) (by decide), pw_rot (by decide) (by decide), pw_rot (by decide) (by decide), pw_xor, pw_xor, pw_and, pw_and, pw_and, pw_xor, pw_xor]
  simp only [pk_pw, pk_add]
  refine pw_of (fun i => ?_) (fun i => ?_)
  · have h1 := u32_lt (o i); have h2 := u32_lt (rotr (a i) 2 ^^^ rotr (a i) 13 ^^^ rotr (a i) 22); have h3 := u32_lt (((a i &&& b i) ^^^ (a i &&& c i)) ^^^ (b i &&& c i)); omega
  · simp only [UInt32.toNat_add]; omega
theorem pw_add (x y : Nat → UInt32) (L : Nat) : (pw x L + pw y L) &&& lmask L = pw (fun i => x i + y i) L := by
  simp only [pk_pw, pk_add]
  refine pw_of (fun i => ?_) (fun i => ?_)
  · have h1 := u32_lt (x i); have h2 := u32_lt (y i); omega
  · simp only [UInt32.toNat_add]
def qgo (M O : Nat) : List Nat → Nat → Nat → Nat → Nat → Nat → Nat → Nat → Nat → Nat → Nat → Nat → Nat → Nat → Nat → Nat → Nat → Nat → Nat → Nat → Nat → Nat → Nat → Nat → Nat → List Nat
  | [], _, _, _, _, _, _, _, _, _, _, _, _, _, _, _, _, a, b, c, d, e, f, g, h => [a, b, c, d, e, f, g, h]
  | k :: ks, w0, w1, w2, w3, w4, w5, w6, w7, w8, w9, w10, w11, w12, w13, w14, w15, a, b, c, d, e, f, g, h =>
    fc ((w0 + qs0 M w1 + w9 + qs1 M w14) &&& M) fun w =>
    fc ((h + (qrot M e 6 ^^^ qrot M e 11 ^^^ qrot M e 25) + ((e &&& f) ^^^ ((M ^^^ e) &&& g)) + k * O + w0) &&& M) fun one =>
    fc ((one + ((qrot M a 2 ^^^ qrot M a 13 ^^^ qrot M a 22) + (((a &&& b) ^^^ (a &&& c)) ^^^ (b &&& c)))) &&& M) fun a' =>
    fc ((d + one) &&& M) fun e' =>
    qgo M O ks w1 w2 w3 w4 w5 w6 w7 w8 w9 w10 w11 w12 w13 w14 w15 w a' a b c e' e f g
def ksF (K : Nat → UInt32) (j : Nat) : Nat → List Nat
  | 0 => []
  | n + 1 => (K j).toNat :: ksF K (j + 1) n
theorem schq_next (b : List UInt8) (j : Nat) : sch b (j + 16) = sch b j + sg0 (sch b (j + 1)) + sch b (j + 9) + sg1 (sch b (j + 14)) := by
  rw [sch.eq_1 b (j + 16), dif_neg (by omega)]
  rw [show j + 16 - 16 = j by omega, show j + 16 - 15 = j + 1 by omega, show j + 16 - 7 = j + 9 by omega, show j + 16 - 2 = j + 14 by omega]
section
variable (K : Nat → UInt32) (b : Nat → List UInt8) (v : Nat → V8) (L : Nat)
abbrev sw (j : Nat) : Nat := pw (fun l => sch (b l) j) L
abbrev sv (p : V8 → UInt32) (j : Nat) : Nat := pw (fun l => p (rnds K (sch (b l)) (v l) j)) L
set_option maxHeartbeats 1000000 in
theorem qgo_eq : ∀ (n j m : Nat), j + n = m → qgo (lmask L) (pk (fun _ => 1) L) (ksF K j n) (sw b L (j + 0)) (sw b L (j + 1)) (sw b L (j + 2)) (sw b L (j + 3)) (sw b L (j + 4)) (sw b L (j + 5)) (sw b L (j + 6)) (sw b L (j + 7)) (sw b L (j + 8)) (sw b L (j + 9)) (sw b L (j + 10)) (sw b L (j + 11)) (sw b L (j + 12)) (sw b L (j + 13)) (sw b L (j + 14)) (sw b L (j + 15)) (sv K b v L V8.a j) (sv K b v L V8.b j) (sv K b v L V8.c j) (sv K b v L V8.d j) (sv K b v L V8.e j) (sv K b v L V8.f j) (sv K b v L V8.g j) (sv K b v L V8.h j)
    = [sv K b v L V8.a m, sv K b v L V8.b m, sv K b v L V8.c m, sv K b v L V8.d m, sv K b v L V8.e m, sv K b v L V8.f m, sv K b v L V8.g m, sv K b v L V8.h m]
  | 0, j, m, h => by obtain rfl : j = m := by omega
                     rfl
  | n + 1, j, m, h => by
    unfold ksF qgo
    simp only [fc_eq]
    rw [show sw b L (j + 0) = sw b L j from rfl]
    rw [pw_wnext, pw_one, pw_two, pw_add]
    have e1 : pw (fun i => sch (b i) (j + 0) + sg0 (sch (b i) (j + 1)) + sch (b i) (j + 9) + sg1 (sch (b i) (j + 14))) L = sw b L (j + 16) := pk_congr fun i _ => congrArg UInt32.toNat (schq_next (b i) j).symm
    have := qgo_eq n (j + 1) m (by omega)
    simp only [show j + 1 + 0 = j + 1 from by omega, show j + 1 + 1 = j + 2 from by omega, show j + 1 + 2 = j + 3 from by omega, show j + 1 + 3 = j + 4 from by omega, show j + 1 + 4 = j + 5 from by omega, show j + 1 + 5 = j + 6 from by omega, show j + 1 + 6 = j + 7 from by omega, show j + 1 + 7 = j + 8 from by omega, show j + 1 + 8 = j + 9 from by omega, show j + 1 + 9 = j + 10 from by omega, show j + 1 + 10 = j + 11 from by omega, show j + 1 + 11 = j + 12 from by omega, show j + 1 + 12 = j + 13 from by omega, show j + 1 + 13 = j + 14 from by omega, show j + 1 + 14 = j + 15 from by omega, show j + 1 + 15 = j + 16 from by omega] at this
    rw [← e1] at this
    exact this
end
def qblk (M O : Nat) (ks : List Nat) (w : List Nat) (s : List Nat) : List Nat := match w, s with
  | [w0, w1, w2, w3, w4, w5, w6, w7, w8, w9, w10, w11, w12, w13, w14, w15], [a, b, c, d, e, f, g, h] => match qgo M O ks w0 w1 w2 w3 w4 w5 w6 w7 w8 w9 w10 w11 w12 w13 w14 w15 a b c d e f g h with
    | [a', b', c', d', e', f', g', h'] => [(a + a') &&& M, (b + b') &&& M, (c + c') &&& M, (d + d') &&& M, (e + e') &&& M, (f + f') &&& M, (g + g') &&& M, (h + h') &&& M]
    | _ => []
  | _, _ => []
def lanes8 (L : Nat) (v : Nat → V8) : List Nat := [pw (fun l => (v l).a) L, pw (fun l => (v l).b) L, pw (fun l => (v l).c) L, pw (fun l => (v l).d) L, pw (fun l => (v l).e) L, pw (fun l => (v l).f) L, pw (fun l => (v l).g) L, pw (fun l => (v l).h) L]
def words16 (L : Nat) (b : Nat → List UInt8) : List Nat := [pw (fun l => wordAt (b l) 0) L, pw (fun l => wordAt (b l) 1) L, pw (fun l => wordAt (b l) 2) L, pw (fun l => wordAt (b l) 3) L, pw (fun l => wordAt (b l) 4) L, pw (fun l => wordAt (b l) 5) L, pw (fun l => wordAt (b l) 6) L, pw (fun l => wordAt (b l) 7) L, pw (fun l => wordAt (b l) 8) L, pw (fun l => wordAt (b l) 9) L, pw (fun l => wordAt (b l) 10) L, pw (fun l => wordAt (b l) 11) L, pw (fun l => wordAt (b l) 12) L, pw (fun l => wordAt (b l) 13) L, pw (fun l => wordAt (b l) 14) L, pw (fun l => wordAt (b l) 15) L]
theorem schq_lo (b : List UInt8) {j : Nat} (h : j < 16) : sch b j = wordAt b j := by rw [sch.eq_1, dif_pos h]
theorem qblk_eq (K : Nat → UInt32) (b : Nat → List UInt8) (v : Nat → V8) (L : Nat) : qblk (lmask L) (pk (fun _ => 1) L) (ksF K 0 64) (words16 L b) (lanes8 L v) = lanes8 L (fun l => take64 K (v l) (b l)) := by
  have h := qgo_eq K b v L 64 0 64 rfl
  have hw : ∀ j, j < 16 → sw b L (0 + j) = pw (fun l => wordAt (b l) j) L := fun j hj => pk_congr fun i _ => (by show (sch (b i) (0 + j)).toNat = (wordAt (b i) j).toNat; rw [Nat.zero_add, schq_lo _ hj])
  rw [hw 0 (by decide), hw 1 (by decide), hw 2 (by decide), hw 3 (by decide), hw 4 (by decide), hw 5 (by decide), hw 6 (by decide), hw 7 (by decide), hw 8 (by decide), hw 9 (by decide), hw 10 (by decide), hw 11 (by decide), hw 12 (by decide), hw 13 (by decide), hw 14 (by decide), hw 15 (by decide)] at h
  unfold qblk words16 lanes8
  simp only []
  have h' : qgo (lmask L) (pk (fun _ => 1) L) (ksF K 0 64) (pw (fun l => wordAt (b l) 0) L) (pw (fun l => wordAt (b l) 1) L) (pw (fun l => wordAt (b l) 2) L) (pw (fun l => wordAt (b l) 3) L) (pw (fun l => wordAt (b l) 4) L) (pw (fun l => wordAt (b l) 5) L) (pw (fun l => wordAt (b l) 6) L) (pw (fun l => wordAt (b l) 7) L) (pw (fun l => wordAt (b l) 8) L) (pw (fun l => wordAt (b l) 9) L) (pw (fun l => wordAt (b l) 10) L) (pw (fun l => wordAt (b l) 11) L) (pw (fun l => wordAt (b l) 12) L) (pw (fun l => wordAt (b l) 13) L) (pw (fun l => wordAt (b l) 14) L) (pw (fun l => wordAt (b l) 15) L) (pw (fun l => (v l).a) L) (pw (fun l => (v l).b) L) (pw (fun l => (v l).c) L) (pw (fun l => (v l).d) L) (pw (fun l => (v l).e) L) (pw (fun l => (v l).f) L) (pw (fun l => (v l).g) L) (pw (fun l => (v l).h) L) = _ := h
  rw [h']
  simp only [pw_add]
  rfl
def qtks (K : Nat → UInt32) (v : V8) (b : List UInt8) : Nat → V8
  | 0 => v
  | n + 1 => qtks K (take64 K v (b.take 64)) (b.drop 64) n
theorem takes_qtks (K : Nat → UInt32) : ∀ (n : Nat) (v : V8) (b : List UInt8), b.length = 64 * n → (takes K v b).1 = qtks K v b n
  | 0, v, b, h => by rw [takes.eq_1, dif_neg (by omega)]; rfl
  | n + 1, v, b, h => by
    rw [takes.eq_1, dif_pos (by omega)]
    exact takes_qtks K n _ _ (by rw [List.length_drop]; omega)
theorem wordAt_take (b : List UInt8) {j : Nat} (h : j < 16) : wordAt (b.take 64) j = wordAt b j := by
  unfold wordAt
  have e : ∀ k, k < 64 → (b.take 64).getD k 0 = b.getD k 0 := fun k hk => by simp [List.getD, hk]
  rw [e _ (by omega), e _ (by omega), e _ (by omega), e _ (by omega)]
def qall (M O : Nat) (ks : List Nat) (s : List Nat) : List (List Nat) → List Nat
  | [] => s
  | w :: r => qall M O ks (qblk M O ks w s) r
def wordsAll (L : Nat) (b : Nat → List UInt8) : Nat → List (List Nat)
  | 0 => []
  | n + 1 => words16 L b :: wordsAll L (fun l => (b l).drop 64) n
theorem words_take (L : Nat) (b : Nat → List UInt8) : words16 L (fun l => (b l).take 64) = words16 L b := by
  unfold words16
  have e : ∀ j, j < 16 → pw (fun l => wordAt ((b l).take 64) j) L = pw (fun l => wordAt (b l) j) L := fun j hj => pk_congr fun i _ => (by show (wordAt ((b i).take 64) j).toNat = (wordAt (b i) j).toNat; rw [wordAt_take _ hj])
  rw [e 0 (by decide), e 1 (by decide), e 2 (by decide), e 3 (by decide), e 4 (by decide), e 5 (by decide), e 6 (by decide), e 7 (by decide), e 8 (by decide), e 9 (by decide), e 10 (by decide), e 11 (by decide), e 12 (by decide), e 13 (by decide), e 14 (by decide), e 15 (by decide)]
theorem qall_eq (K : Nat → UInt32) (L : Nat) : ∀ (n : Nat) (v : Nat → V8) (b : Nat → List UInt8), qall (lmask L) (pk (fun _ => 1) L) (ksF K 0 64) (lanes8 L v) (wordsAll L b n) = lanes8 L (fun l => qtks K (v l) (b l) n)
  | 0, v, b => rfl
  | n + 1, v, b => by
    unfold wordsAll qall
    rw [← words_take, qblk_eq, qall_eq K L n]
    rfl
theorem pk_1 (f : Nat → Nat) : pk f 1 = f 0 := by simp [pk]
theorem pw_1 (u : Nat → UInt32) : pw u 1 = (u 0).toNat := pk_1 _
def qnat8 (v : V8) : List Nat := [v.a.toNat, v.b.toNat, v.c.toNat, v.d.toNat, v.e.toNat, v.f.toNat, v.g.toNat, v.h.toNat]
theorem lanes8_1 (v : Nat → V8) : lanes8 1 v = qnat8 (v 0) := by simp only [lanes8, pw_1]; rfl
def qB (l : List UInt8) (i : Nat) : Nat := (l.getD i 0).toNat
def qW (l : List UInt8) (j : Nat) : Nat := qB l (4 * j) * 16777216 + qB l (4 * j + 1) * 65536 + qB l (4 * j + 2) * 256 + qB l (4 * j + 3)
theorem qW_eq (l : List UInt8) (j : Nat) : (wordAt l j).toNat = qW l j := by
  unfold wordAt qW qB
  generalize l.getD (4 * j) 0 = x; generalize l.getD (4 * j + 1) 0 = y; generalize l.getD (4 * j + 2) 0 = z; generalize l.getD (4 * j + 3) 0 = t
  have hx := x.toNat_lt; have hy := y.toNat_lt; have hz := z.toNat_lt; have ht := t.toNat_lt
  simp only [UInt32.toNat_or, UInt32.toNat_shiftLeft, UInt8.toNat_toUInt32]
  have e24 : (UInt32.ofNat 24).toNat % 32 = 24 := by decide
  have e16 : (UInt32.ofNat 16).toNat % 32 = 16 := by decide
  have e8 : (UInt32.ofNat 8).toNat % 32 = 8 := by decide
  rw [e24, e16, e8]
  simp only [Nat.shiftLeft_eq]
  have a1 : x.toNat * 2 ^ 24 % 2 ^ 32 = 2 ^ 24 * x.toNat := by rw [Nat.mod_eq_of_lt (Nat.lt_of_lt_of_le (Nat.mul_lt_mul_of_pos_right hx (Nat.pow_pos (by decide))) (by decide)), Nat.mul_comm]
  have a2 : y.toNat * 2 ^ 16 % 2 ^ 32 = 2 ^ 16 * y.toNat := by rw [Nat.mod_eq_of_lt (Nat.lt_of_lt_of_le (Nat.mul_lt_mul_of_pos_right hy (Nat.pow_pos (by decide))) (by decide)), Nat.mul_comm]
  have a3 : z.toNat * 2 ^ 8 % 2 ^ 32 = 2 ^ 8 * z.toNat := by rw [Nat.mod_eq_of_lt (Nat.lt_of_lt_of_le (Nat.mul_lt_mul_of_pos_right hz (Nat.pow_pos (by decide))) (by decide)), Nat.mul_comm]
  rw [a1, a2, a3]
  rw [← Nat.two_pow_add_eq_or_of_lt (i := 24) (show 2 ^ 16 * y.toNat < 2 ^ 24 by omega)]
  rw [Nat.or_assoc, ← Nat.two_pow_add_eq_or_of_lt (i := 8) (show t.toNat < 2 ^ 8 by omega)]
  have : 2 ^ 24 * x.toNat + 2 ^ 16 * y.toNat = 2 ^ 16 * (256 * x.toNat + y.toNat) := by omega
  rw [this, ← Nat.two_pow_add_eq_or_of_lt (i := 16) (show 2 ^ 8 * z.toNat + t.toNat < 2 ^ 16 by omega)]
  omega
def qWords (l : List UInt8) : List Nat := [qW l 0, qW l 1, qW l 2, qW l 3, qW l 4, qW l 5, qW l 6, qW l 7, qW l 8, qW l 9, qW l 10, qW l 11, qW l 12, qW l 13, qW l 14, qW l 15]
def qWordsS (l : List UInt8) : Nat → List (List Nat)
  | 0 => []
  | n + 1 => qWords l :: qWordsS (l.drop 64) n
theorem qWordsS_eq : ∀ (n : Nat) (b : Nat → List UInt8), wordsAll 1 b n = qWordsS (b 0) n
  | 0, b => rfl
  | n + 1, b => by
    unfold wordsAll qWordsS
    rw [qWordsS_eq n, words16, qWords]
    simp only [pw_1, qW_eq]
def qini : List Nat := qnat8 v0
theorem lmask_1 : lmask 1 = 4294967295 := by kernel_rfl
theorem ones_1 : pk (fun _ => 1) 1 = 1 := by kernel_rfl
theorem one_msg (K : Nat → UInt32) (b : List UInt8) (n : Nat) (h : b.length = 64 * n) : qnat8 (takes K v0 b).1 = qall 4294967295 1 (ksF K 0 64) qini (qWordsS b n) := by
  have := qall_eq K 1 n (fun _ => v0) (fun _ => b)
  rw [lmask_1, ones_1, lanes8_1, lanes8_1, qWordsS_eq] at this
  rw [takes_qtks K n v0 b h, ← this]; rfl
end
section
def digN (l : List Nat) : List UInt8 := (List.range 16).map fun i => UInt8.ofNat (l.getD (i / 4) 0 / 2 ^ (24 - 8 * (i % 4)))
theorem outByte_nat (v : V8) {i : Nat} (hi : i < 16) : outByte v i = UInt8.ofNat ((qnat8 v).getD (i / 4) 0 / 2 ^ (24 - 8 * (i % 4))) := by
  have hg : ∀ j, j < 4 → (v.get j).toNat = (qnat8 v).getD j 0 := fun j hj => by
    match j with
    | 0 => rfl
    | 1 => rfl
    | 2 => rfl
    | 3 => rfl
    | j + 4 => omega
  rw [← hg (i / 4) (by omega)]
  unfold outByte
  apply UInt8.toNat_inj.1
  rw [UInt32.toNat_toUInt8, UInt32.toNat_shiftRight, UInt8.toNat_ofNat']
  have e : (UInt32.ofNat (24 - 8 * (i % 4))).toNat % 32 = 24 - 8 * (i % 4) := by rw [UInt32.toNat_ofNat', Nat.mod_eq_of_lt (by omega), Nat.mod_eq_of_lt (by omega)]
  rw [e, Nat.shiftRight_eq_div_pow]
theorem refSum_16 (K : Nat → UInt32) (b : List UInt8) : (refSum K b).take 16 = digN (qnat8 (takes K v0 (refPad b)).1) := by
  unfold refSum digN
  rw [← List.map_take]
  have : (List.range 32).take 16 = List.range 16 := by decide
  rw [this]
  exact List.map_congr_left fun i hi => outByte_nat _ (List.mem_range.1 hi)
theorem refPad_len (b : List UInt8) : (refPad b).length = 64 * ((b.length + 9 + 63) / 64) := by
  simp only [refPad, List.length_append, List.length_cons, List.length_replicate, padN, lenBytes, List.length_map, List.length_range]
  omega
def idQ (bs : List UInt8) : List UInt8 := digN (qall 4294967295 1 (ksF Kc 0 64) qini (qWordsS (refPad (framed 6 [bs])) (((framed 6 [bs]).length + 9 + 63) / 64)))
theorem idOf_q {b : Block} (h : (wBlock b ⟨0, []⟩).err = 0) : (idOf b).l = idQ (wBlock b ⟨0, []⟩).bs := by
  unfold idOf idQ
  rw [if_pos h, ← one_msg Kc _ _ (refPad_len _), ← refSum_16]
  exact hOf_ref Kc 6 _
end
section
def setO (m : List UInt8) (p : Option Nat) (v : UInt8) : List UInt8 := match p with
  | none => m
  | some p => m.set p v
def wC (p : Option Nat) (j : Nat) : Nat := match p with
  | none => 0
  | some p => if p / 4 = j then 256 ^ (3 - p % 4) else 0
def wOk (m : List UInt8) (p : Option Nat) : Prop := match p with
  | none => True
  | some p => p < m.length ∧ qB m p = 0
theorem qB_set {m : List UInt8} {p : Nat} {v : UInt8} {i : Nat} (h : p < m.length) (h0 : qB m p = 0) : qB (m.set p v) i = qB m i + if p = i then v.toNat else 0 := by
  unfold qB at *
  by_cases e : p = i
  · subst e
    rw [if_pos rfl, h0, Nat.zero_add]
    simp [List.getD, h]
  · rw [if_neg e, Nat.add_zero]
    simp [List.getD, e]
theorem qW_set {m : List UInt8} {p : Option Nat} {v : UInt8} {j : Nat} (h : wOk m p) : qW (setO m p v) j = qW m j + wC p j * v.toNat := by
  match p, h with
  | none, _ => simp [setO, wC]
  | some p, h =>
    unfold qW wC setO
    simp only
    rw [qB_set h.1 h.2, qB_set h.1 h.2, qB_set h.1 h.2, qB_set h.1 h.2]
    by_cases e : p / 4 = j
    · rw [if_pos e]
      have hp : p = 4 * j + p % 4 := by omega
      have hlt : p % 4 < 4 := Nat.mod_lt _ (by decide)
      generalize p % 4 = r at hp hlt
      subst hp
      match r, hlt with
      | 0, _ => simp; omega
      | 1, _ => simp; omega
      | 2, _ => simp; omega
      | 3, _ => simp; omega
    · rw [if_neg e, if_neg (by omega), if_neg (by omega), if_neg (by omega), if_neg (by omega)]; simp
def wNext (p : Option Nat) : Option Nat := match p with
  | none => none
  | some p => if p < 64 then none else some (p - 64)
theorem setO_drop (m : List UInt8) (p : Option Nat) (v : UInt8) : (setO m p v).drop 64 = setO (m.drop 64) (wNext p) v := by
  match p with
  | none => rfl
  | some p =>
    simp only [setO, wNext, List.drop_set]
    split <;> rfl
theorem wOk.next {m : List UInt8} {p : Option Nat} (h : wOk m p) : wOk (m.drop 64) (wNext p) := by
  match p, h with
  | none, _ => exact trivial
  | some p, h =>
    unfold wNext
    simp only
    split
    · exact trivial
    · refine ⟨by rw [List.length_drop]; have := h.1; omega, ?_⟩
      have h0 := h.2
      unfold qB at *
      rw [List.getD_eq_getElem?_getD, List.getElem?_drop, ← List.getD_eq_getElem?_getD, show 64 + (p - 64) = p by omega]; exact h0
def wX (O T : Nat) (m : List UInt8) (p : Option Nat) (j : Nat) : Nat := qW m j * O + wC p j * T
theorem qW_digN (a b c d e f g h : Nat) (ha : a < 2 ^ 32) : qW (digN [a, b, c, d, e, f, g, h]) 0 = a := by
  unfold qW qB digN
  simp [List.range, List.range.loop]
  omega
end
section
theorem keepF_or {ks : List Int} {kb : List Bool} {ws : List (Int × Sec)} {ss : Nat → Sec} (hks : ∀ k ∈ ks, 0 ≤ k ∧ ∃ v, lookW k ws = some v) (j : Nat) : ∀ m, m ≤ ks.length → keepF ks kb ws ss m j = ss j ∨ ∃ v, lookW (j : Int) ws = some v ∧ keepF ks kb ws ss m j = v
  | 0, _ => .inl rfl
  | m + 1, hm => by
    have ih := keepF_or (kb := kb) (ss := ss) hks j m (by omega)
    cases hb : kb.getD m false with
    | false => rw [keepF_no hb]; exact ih
    | true =>
      rw [keepF_yes hb, updS]
      by_cases h : j = (ks.getD m 0).toNat
      · rw [if_pos h]
        have hmem : ks.getD m 0 ∈ ks := by
          rw [List.getD_eq_getElem?_getD, List.getElem?_eq_getElem (by omega)]; exact List.getElem_mem _
        obtain ⟨h0, v, hv⟩ := hks _ hmem
        have he : ks.getD m 0 = (j : Int) := by omega
        rw [he] at hv ⊢
        exact .inr ⟨v, hv, by rw [hv]; rfl⟩
      · rw [if_neg h]; exact ih
theorem crash_at {d : DS} (hk : DOk d) (keep : List Bool) (j : Nat) : (d.crash keep).at j = d.ss j ∨ ∃ v, lookW (j : Int) d.ws = some v ∧ (d.crash keep).at j = v := by
  have h := keepF_or (ks := sortZ (keysW d.ws)) (kb := keep) (ws := d.ws) (ss := d.ss) (fun k hk' => by
    have hm : k ∈ keysW d.ws := (sortZ_perm _).mem_iff.1 hk'
    obtain ⟨v, hv, _⟩ := lookW_some hm
    exact ⟨(hk.ks k hm).1, v, hv⟩) j (sortZ (keysW d.ws)).length (Nat.le_refl _)
  exact h
theorem lookW_key {i : Int} {v : Sec} {ws : List (Int × Sec)} (h : lookW i ws = some v) : i ∈ keysW ws := by
  cases Decidable.em (i ∈ keysW ws) with
  | inl h => exact h
  | inr h' => rw [lookW_none h'] at h; cases h
theorem at_ss {d : DS} (h : d.ws = []) (j : Nat) : d.at j = d.ss j := by rw [DS.at, h]; rfl
theorem crash_keeps {d : DS} {l : LS} {bs : Nat} {f : Nat → Sec} (hk : DOk d) (hf : ∀ j, d.ss j = f j) (hb : l.base = (bs : Int)) (lo : LOk f bs l.rs) (he : l.e = bs + tot l.rs) (hlt : l.e < d.n) (hw : ∀ k ∈ keysW d.ws, (l.e : Int) < k) (keep : List Bool) : LInv (d.crash keep) l bs := by
  have ha : ∀ j, j ≤ l.e → (d.crash keep).at j = f j := fun j hj => by
    rcases crash_at hk keep j with h | ⟨v, hv, _⟩
    · rw [h, hf]
    · have := hw _ (lookW_key hv); omega
  exact ⟨hb, ⟨lo.ok, fun i hi => by rw [ha _ (by omega)]; exact lo.at' i hi, by rw [ha _ (by omega)]; exact lo.fin⟩, he, hlt⟩
def Lost (d : DS) (bs : Nat) (rs may : List LRec) : Prop := ∀ keep, LInv (d.crash keep) (lsOf bs rs) bs ∨ ∃ r m, may = r :: m ∧ LInv (d.crash keep) (lsOf bs (rs ++ [r])) bs
theorem wr_power {d : DS} {i : Nat} {v : Sec} (hon : d.off = false) (hk : DOk d) (hi : i < d.n) :
    (∃ d', d.wr (i : Int) v = (0, d') ∧ d'.off = false ∧ d'.ss = d.ss ∧ d'.ws = putW (i : Int) v d.ws ∧ d'.n = d.n ∧ DOk d') ∨ (∃ d', d.wr (i : Int) v = (6, d') ∧ d'.off = true ∧ d'.ss = d.ss ∧ d'.ws = d.ws ∧ d'.n = d.n ∧ DOk d') := by
  have hh : d.has (i : Int) = true := has_iff.2 ⟨by omega, by omega⟩
  have ho := oper_ok hk
  cases h : (oper d).off with
  | false => exact .inl ⟨(oper d).write (i : Int) v, wr_on hh h, h, oper_ss d, by show putW _ _ (oper d).ws = _; rw [oper_ws], oper_n d, write_ok ho (by omega) (by rw [oper_n]; omega)⟩
  | true => exact .inr ⟨oper d, wr_off hh h, h, oper_ss d, oper_ws d, oper_n d, ho⟩
theorem sync_power {d : DS} (hk : DOk d) : ((oper d).off = false ∧ d.syncd.off = false ∧ d.syncd.ss = d.at ∧ d.syncd.ws = [] ∧ d.syncd.n = d.n ∧ DOk d.syncd) ∨ ((oper d).off = true ∧ d.syncd.off = true ∧ d.syncd.ss = d.ss ∧ d.syncd.ws = d.ws ∧ d.syncd.n = d.n ∧ DOk d.syncd) := by
  have hs := syncd_ok hk
  cases h : (oper d).off with
  | false =>
    have e : d.syncd = (oper d).sync := by unfold DS.syncd; rw [h]; rfl
    refine .inl ⟨rfl, by rw [e]; exact h, ?_, by rw [e]; rfl, by rw [e]; exact oper_n d, hs⟩
    rw [e]; funext j
    show (oper d).at j = d.at j
    unfold DS.at; rw [oper_ss, oper_ws]
  | true =>
    have e : d.syncd = oper d := by unfold DS.syncd; rw [h]; rfl
    exact .inr ⟨rfl, by rw [e]; exact h, by rw [e]; exact oper_ss d, by rw [e]; exact oper_ws d, by rw [e]; exact oper_n d, hs⟩
theorem keys_in {k i : Int} {v : Sec} {ws : List (Int × Sec)} (h : k ∈ keysW (putW i v ws)) : k ∈ keysW ws ∨ k = i := by
  rw [keys_put] at h
  split at h
  · exact .inl h
  · rcases List.mem_append.1 h with h | h
    · exact .inl h
    · exact .inr (List.mem_singleton.1 h)
theorem at_put {d d' : DS} {i : Nat} {v : Sec} (hs : d'.ss = d.ss) (hw : d'.ws = putW (i : Int) v d.ws) (j : Nat) : d'.at j = if j = i then v else d.at j := by
  unfold DS.at
  rw [hs, hw, lookW_put]
  by_cases h : j = i
  · subst h; simp
  · rw [if_neg h, if_neg (by omega)]
theorem wdat_power {d : DS} (hon : d.off = false) (hws : d.ws = []) (hk : DOk d) (e : Nat) (x : List UInt8) : ∀ i, e + 1 + i ≤ d.n → ((wdat d e x i).1 = 0 ∧ (wdat d e x i).2.off = false ∧ (∀ j, (wdat d e x i).2.at j = if e + 1 ≤ j ∧ j < e + 1 + i then secData x (j - (e + 1)) else d.at j) ∨ (wdat d e x i).1 = 6 ∧ (wdat d e x i).2.off = true) ∧
    (wdat d e x i).2.ss = d.ss ∧ (wdat d e x i).2.n = d.n ∧ DOk (wdat d e x i).2 ∧ ∀ k ∈ keysW (wdat d e x i).2.ws, (e : Int) < k
  | 0, _ => ⟨.inl ⟨rfl, hon, fun j => by rw [if_neg (by omega)]; rfl⟩, rfl, rfl, hk, fun k hk' => by rw [wdat_zero, hws] at hk'; cases hk'⟩
  | i + 1, hi => by
    obtain ⟨h0, hs, hn, hd, hkeys⟩ := wdat_power hon hws hk e x i (by omega)
    rcases h0 with ⟨h0, ho, ha⟩ | ⟨h6, ho⟩
    · rw [wdat_step h0]
      rcases wr_power (i := e + 1 + i) (v := secData x i) ho hd (by omega) with ⟨d', e1, o1, s1, w1, n1, k1⟩ | ⟨d', e1, o1, s1, w1, n1, k1⟩
      · rw [e1]
        refine ⟨.inl ⟨rfl, o1, fun j => ?_⟩, s1.trans hs, n1.trans hn, k1, fun k hk' => ?_⟩
        · show d'.at j = _
          rw [at_put s1 w1, ha]
          by_cases h1 : j = e + 1 + i
          · subst h1; rw [if_pos rfl, if_pos (by omega), Nat.add_sub_cancel_left]
          · rw [if_neg h1]
            by_cases h2 : e + 1 ≤ j ∧ j < e + 1 + i
            · rw [if_pos h2, if_pos (by omega)]
            · rw [if_neg h2, if_neg (by omega)]
        · rw [w1] at hk'
          rcases keys_in hk' with h | h
          · exact hkeys k h
          · omega
      · rw [e1]
        exact ⟨.inr ⟨rfl, o1⟩, s1.trans hs, n1.trans hn, k1, fun k hk' => by rw [w1] at hk'; exact hkeys k hk'⟩
    · have hne : (wdat d e x i).1 ≠ 0 := by omega
      have := wdat_stop hne 1
      rw [this]
      exact ⟨.inr ⟨h6, ho⟩, hs, hn, hd, hkeys⟩
theorem appD_power {d : DS} {bs : Nat} {rs : List LRec} {r : LRec} (hon : d.off = false) (hws : d.ws = []) (hk : DOk d) (hi : LInv d (lsOf bs rs) bs) (hr : r.Ok) (hf : nsec r.data.length + 2 ≤ d.n - (bs + tot rs)) :
    (∃ d', appD d (lsOf bs rs) r = (0, d', lsOf bs (rs ++ [r])) ∧ d'.off = false ∧ d'.ws = [] ∧ DOk d' ∧ d'.n = d.n ∧ LInv d' (lsOf bs (rs ++ [r])) bs) ∨
    (∃ d', appD d (lsOf bs rs) r = (6, d', lsOf bs rs) ∧ d'.off = true ∧ DOk d' ∧ d'.n = d.n ∧ ∀ m, Lost d' bs rs (r :: m)) := by
  have hl : lenR r = 1 + nsec r.data.length := rfl
  have hel : (lsOf bs rs).add r = lsOf bs (rs ++ [r]) := by simp only [LS.add, lsOf, tot_snoc, Nat.add_assoc]
  have hlt : bs + tot rs < d.n := hi.lt
  have hss : ∀ j, d.ss j = d.at j := fun j => (at_ss hws j).symm
  -- behind a loss ahead of the first sync
  have lost1 : ∀ {d' : DS}, DOk d' → d'.ss = d.ss → d'.n = d.n → (∀ k ∈ keysW d'.ws, ((bs + tot rs : Nat) : Int) < k) → ∀ m, Lost d' bs rs (r :: m) := fun hd' hs' hn' hw' m keep =>
    .inl (crash_keeps (l := lsOf bs rs) (f := d.at) hd' (fun j => by rw [hs', hss]) rfl hi.lo rfl (by show bs + tot rs < _; omega) hw' keep)
  obtain ⟨h0, hs1, hn1, hd1, hkeys1⟩ := wdat_power hon hws hk (bs + tot rs) r.data (nsec r.data.length) (by omega)
  obtain ⟨d1, e1⟩ : ∃ d1, d1 = (wdat d (bs + tot rs) r.data (nsec r.data.length)).2 := ⟨_, rfl⟩
  rw [← e1] at h0 hs1 hn1 hd1 hkeys1
  unfold appD
  show (∃ d', (if (wdat d (bs + tot rs) r.data (nsec r.data.length)).1 = 0 then appE (wdat d (bs + tot rs) r.data (nsec r.data.length)).2 (lsOf bs rs) r else ((wdat d (bs + tot rs) r.data (nsec r.data.length)).1, (wdat d (bs + tot rs) r.data (nsec r.data.length)).2, lsOf bs rs)) = _ ∧ _) ∨ (∃ d', (if (wdat d (bs + tot rs) r.data (nsec r.data.length)).1 = 0 then appE (wdat d (bs + tot rs) r.data (nsec r.data.length)).2 (lsOf bs rs) r else ((wdat d (bs + tot rs) r.data (nsec r.data.length)).1, (wdat d (bs + tot rs) r.data (nsec r.data.length)).2, lsOf bs rs)) = _ ∧ _)
  rw [← e1]
  rcases h0 with ⟨h0, ho1, ha1⟩ | ⟨h6, ho1⟩
  · rw [if_pos h0]
    unfold appE
    rcases wr_power (i := (lsOf bs rs).e + lenR r) (v := sec0) ho1 hd1 (by show bs + tot rs + lenR r < _; omega) with ⟨d2, e2, o2, s2, w2, n2, k2⟩ | ⟨d2, e2, o2, s2, w2, n2, k2⟩
    · rw [e2, if_pos rfl]
      unfold appM
      have hkeys2 : ∀ k ∈ keysW d2.ws, ((bs + tot rs : Nat) : Int) < k := fun k hk' => by
        rw [w2] at hk'
        rcases keys_in hk' with h | h
        · exact hkeys1 k h
        · rw [h]; show ((bs + tot rs : Nat) : Int) < ((bs + tot rs + lenR r : Nat) : Int); omega
      have ha2 : ∀ j, d2.at j = if j = bs + tot rs + lenR r then sec0 else if bs + tot rs + 1 ≤ j ∧ j < bs + tot rs + 1 + nsec r.data.length then secData r.data (j - (bs + tot rs + 1)) else d.at j := fun j => by rw [at_put s2 w2, ha1] <;> rfl
      rcases sync_power k2 with ⟨q3, o3, s3, w3, n3, k3⟩ | ⟨q3, o3, s3, w3, n3, k3⟩
      · rw [q3, if_neg (by decide)]
        unfold appH
        rcases wr_power (i := (lsOf bs rs).e) (v := headL (lsOf bs rs).rs.length r.data) o3 k3 (by show bs + tot rs < _; omega) with ⟨d4, e4, o4, s4, w4, n4, k4⟩ | ⟨d4, e4, o4, s4, w4, n4, k4⟩
        · rw [e4, if_pos rfl]
          unfold appS
          have ha3 : ∀ j, d2.syncd.at j = d2.at j := fun j => by rw [at_ss w3, s3]
          have ha4 : ∀ j, d4.at j = appF d (lsOf bs rs) r j := fun j => by
            rw [at_put s4 w4, ha3, ha2]
            unfold appF
            show (if j = bs + tot rs then _ else _) = (if j = bs + tot rs then _ else if j = bs + tot rs + lenR r then _ else if bs + tot rs + 1 ≤ j ∧ j < bs + tot rs + lenR r then _ else _)
            by_cases h1 : j = bs + tot rs
            · rw [if_pos h1, if_pos h1]
            · rw [if_neg h1, if_neg h1, show bs + tot rs + 1 + nsec r.data.length = bs + tot rs + lenR r by omega]
          rcases sync_power k4 with ⟨q5, o5, s5, w5, n5, k5⟩ | ⟨q5, o5, s5, w5, n5, k5⟩
          · rw [q5, if_neg (by decide)]
            refine .inl ⟨d4.syncd, by rw [← hel]; rfl, o5, w5, k5, by omega, ?_⟩
            rw [← hel]
            exact hi.add hr (by show _ ≤ d.n - (bs + tot rs); omega) (by omega) fun j => by rw [at_ss w5, s5, ha4]
          · rw [q5, if_pos rfl]
            refine .inr ⟨d4.syncd, rfl, o5, k5, by omega, fun m keep => ?_⟩
            -- the head is written and not sure
            have hw5 : d4.syncd.ws = [(((bs + tot rs : Nat) : Int), headL rs.length r.data)] := by rw [w5, w4, w3]; rfl
            have hs5 : ∀ j, d4.syncd.ss j = d2.at j := fun j => by rw [s5, s4, s3]
            have hoth : ∀ j, j ≠ bs + tot rs → (d4.syncd.crash keep).at j = d2.at j := fun j hj => by
              rcases crash_at k5 keep j with h | ⟨v, hv, _⟩
              · rw [h, hs5]
              · have := lookW_key hv
                rw [hw5] at this
                simp [keysW] at this
                omega
            have h2e : d2.at (bs + tot rs) = d.at (bs + tot rs) := by rw [ha2, if_neg (by omega), if_neg (by omega)]
            rcases crash_at k5 keep (bs + tot rs) with h | ⟨v, hv, h⟩
            · refine .inl ⟨rfl, ⟨hi.lo.ok, fun i hi' => ?_, ?_⟩, rfl, by show bs + tot rs < d4.syncd.n; omega⟩
              · have hi' : i < tot rs := hi'
                rw [hoth _ (by omega), ha2, if_neg (by omega), if_neg (by omega)]; exact hi.lo.at' i hi'
              · show (d4.syncd.crash keep).at (bs + tot rs) = sec0
                rw [h, hs5, h2e]; exact hi.lo.fin
            · refine .inr ⟨r, m, rfl, ?_⟩
              have hv2 : v = headL rs.length r.data := by rw [hw5] at hv; simp [lookW] at hv; exact hv.symm
              rw [← hel]
              refine hi.add (d' := d4.syncd.crash keep) hr (by show _ ≤ d.n - (bs + tot rs); omega) (by show d4.syncd.n = _; omega) fun j => ?_
              by_cases hj : j = bs + tot rs
              · subst hj; rw [h, hv2]; unfold appF; exact (if_pos rfl).symm
              · rw [hoth j hj, ← ha4, at_put s4 w4, ha3]; exact (if_neg hj).symm
        · rw [e4, if_neg (show ¬ (6 : Nat) = 0 by decide)]
          refine .inr ⟨d4, rfl, o4, k4, by omega, fun m keep => .inl ?_⟩
          have hw4 : d4.ws = [] := by rw [w4, w3]
          have ha : ∀ j, (d4.crash keep).at j = d2.at j := fun j => by
            rcases crash_at k4 keep j with h | ⟨v, hv, _⟩
            · rw [h, s4, s3]
            · have := lookW_key hv; rw [hw4] at this; cases this
          refine ⟨rfl, ⟨hi.lo.ok, fun i hi' => ?_, ?_⟩, rfl, by show bs + tot rs < d4.n; omega⟩
          · have hi' : i < tot rs := hi'
            rw [ha, ha2, if_neg (by omega), if_neg (by omega)]; exact hi.lo.at' i hi'
          · show (d4.crash keep).at (bs + tot rs) = sec0
            rw [ha, ha2, if_neg (by omega), if_neg (by omega)]; exact hi.lo.fin
      · rw [q3, if_pos rfl]
        exact .inr ⟨d2.syncd, rfl, o3, k3, by omega, lost1 k3 (by rw [s3, s2, hs1]) (by omega) (by rw [w3]; exact hkeys2)⟩
    · rw [e2, if_neg (show ¬ (6 : Nat) = 0 by decide)]
      exact .inr ⟨d2, rfl, o2, k2, by omega, lost1 k2 (by rw [s2, hs1]) (by omega) (by rw [w2]; exact hkeys1)⟩
  · rw [if_neg (by omega), h6]
    exact .inr ⟨d1, rfl, ho1, hd1, hn1, lost1 hd1 hs1 hn1 hkeys1⟩
theorem appD_off {d : DS} {bs : Nat} {rs : List LRec} {r : LRec} (hoff : d.off = true) (hf : nsec r.data.length + 2 ≤ d.n - (bs + tot rs)) : appD d (lsOf bs rs) r = (6, d, lsOf bs rs) := by
  have ho : oper d = d := oper_no (.inr hoff)
  have h1 : 1 ≤ nsec r.data.length := by have := data_len r; unfold nsec; omega
  obtain ⟨k, hk⟩ : ∃ k, nsec r.data.length = 1 + k := ⟨nsec r.data.length - 1, by omega⟩
  have e1 : wdat d (bs + tot rs) r.data 1 = (6, d) := by
    rw [wdat_step (by rw [wdat_zero]), wdat_zero]
    have := wr_off (d := d) (i := ((bs + tot rs + 1 + 0 : Nat) : Int)) (v := secData r.data 0) (has_iff.2 ⟨by omega, by omega⟩) (by rw [ho]; exact hoff)
    rw [ho] at this; exact this
  have e2 : wdat d (bs + tot rs) r.data (nsec r.data.length) = (6, d) := by
    rw [hk, wdat_stop (by rw [e1]; exact (show (6 : Nat) ≠ 0 by decide)), e1]
  unfold appD
  show (if (wdat d (bs + tot rs) r.data (nsec r.data.length)).1 = 0 then _ else ((wdat d (bs + tot rs) r.data (nsec r.data.length)).1, (wdat d (bs + tot rs) r.data (nsec r.data.length)).2, lsOf bs rs)) = _
  rw [e2, if_neg (show ¬ (6 : Nat) = 0 by decide)]
end
end Go.Proofs.YtomdanlljfikaaaGreatDoor
