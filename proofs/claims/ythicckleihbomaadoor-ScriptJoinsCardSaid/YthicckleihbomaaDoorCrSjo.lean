/- Part 3. What is proved: see the last part: for every input the law returns true, and the input reads as it did. -/
import Derived.Test.YthicckleihbomaaDoorCr2
import Derived.Lib.LaidTab
import Derived.ChangeMaps5
import Derived.Test.YthicckleihbomaaDoorCards
import Derived.Test.YthicckleihbomaaDoorTie
import Derived.Deep.DeepHandedRow
import Derived.Deep.DeepWitnessRowRef
/- The shell, part S: the table of powers of ten; a script's ops. -/
namespace Go.Proofs.YthicckleihbomaaDoor
open Go
open Go.ChangeShapes Go.WideShapes Go.ChangeAt Go.RowKit
set_option linter.unusedVariables false
theorem laid_ten {W : World} {r : List (String × DataW Unit)} (h : laidMet Tryd.prog (("internal/strconv.uint64pow10", Rows.laid_internal_strconv_uint64pow10) :: r) W) : TenR W :=
  Lib.tabIs_of_head (k := .u64) (zs := Lib.pow10Tab) (g := 21) (by kernel_rfl) (by kernel_rfl) (run_arrT Ty.arr_147) Ty.un_133 (by kernel_rfl) (by kernel_rfl) h
end Go.Proofs.YthicckleihbomaaDoor

/- Walks, by program (wg.py) out of a spec. -/
namespace Go.Proofs.YthicckleihbomaaDoor
open Go
set_option linter.unusedVariables false
set_option linter.unusedSimpArgs false


section
variable {α : Type} (rd : World → (Nat → Prop) → List Value → α → Prop) [RdK rd]
/-- A slice that reads as l, its cells known. -/
def OlR (size : Nat) (css : List (List Value)) (a : Option Addr) (n : Nat) (l : List α) : Res :=
  rdR (fun w F => RdRow w F size a n css.flatten ∧ (∀ c ∈ css, c.length = size) ∧ css.length = l.length ∧ ∀ (i : Nat) (c : List Value) (x : α), css[i]? = some c → l[i]? = some x → rd w F c x) (fun h hk => ⟨h.1.mv (still_of hk), h.2.1, h.2.2.1, fun i c x h1 h2 => RdK.mv (h.2.2.2 i c x h1 h2) (still_of hk)⟩)
end
section
variable {α : Type} {rd : World → (Nat → Prop) → List Value → α → Prop} [RdK rd] {P : Program} {w0 w : World} {F0 F1 F2 : Nat → Prop} {L L' : List Res} {Q : Exit → Act → World → Prop} {n : Fm} {env : Env} {size m : Nat} {a : Option Addr} {l : List α} {css : List (List Value)}
theorem gc_ol {k : Code} (hp : Pick L (LsR rd size a m l) L') (K : ∀ css, css.length = l.length → Gc P w0 F0 (OlR rd size css a m l :: L') k Q n env) : Gc P w0 F0 L k Q n env := fun w hw => by
  obtain ⟨F, hF, hst⟩ := hw.pick hp
  obtain ⟨G1, G2, ⟨⟨css, h1, h2, h3, h4⟩, hk⟩, h5, hF', hd⟩ := hF
  exact K css h3 w ⟨F, ⟨G1, G2, ⟨⟨h1, h2, h3, h4⟩, hk⟩, h5, hF', hd⟩, hst⟩
theorem ol_rd (h2 : stars L w F2) (hd : ∀ k, F1 k → ¬ F2 k) (hp : Pick L (OlR rd size css a m l) L') {i : Nat} {c : List Value} {x : α} (hc : css[i]? = some c) (hx : l[i]? = some x) : rd w (fun k => ¬ F1 k) c x := by
  obtain ⟨G1, G2, ⟨⟨_, _, _, h4⟩, _⟩, _, hF, _⟩ := hp.stars h2
  exact RdK.mv (h4 i c x hc hx) fun k _ hk => ⟨rfl, fun h1 => hd k h1 ((hF k).2 (.inl hk))⟩
theorem St.olAt {w : World} (hs : St w0 F0 L w) (hp : Pick L (OlR rd size css a m l) L') (hsz : 0 < size) {i : Nat} {c : List Value} (hc : css[i]? = some c) : ∃ g o, a = some ⟨g, o, none⟩ ∧ w.rangeAt g (o + i * size) c ∧ c.length = size ∧ i < m ∧ m ≤ maxLen := by
  obtain ⟨F, hF, _⟩ := hs
  obtain ⟨G1, G2, ⟨⟨h1, h2, h3, _⟩, _⟩, _, _, _⟩ := hp.stars hF
  have hil := (List.getElem?_eq_some_iff.1 hc).1
  have hm : m = css.length := by have := h1.1; rw [flatten_len h2] at this; exact (Nat.eq_of_mul_eq_mul_right hsz this).symm
  obtain ⟨g, o, ha, _, _, hra⟩ := h1.elem (i := i) (by omega)
  rw [flatten_at h2 hc] at hra
  exact ⟨g, o, ha, hra, h2 c (List.mem_of_getElem? hc), by omega, h1.2.1⟩
theorem r_ldOl {d : Option Tmp} {ty : TypeId} {pos : String} {af : Array Edge} {gd : Option (Nat × Bool)} {x : Operand} {T g o i : Nat} {c : List Value} (hr : rowT P T = some true) (hs : szT P T = some size) (hp : Pick L (OlR rd size css (some ⟨g, o, none⟩) m l) L') (hsz : 0 < size) (hc : css[i]? = some c) (hx : ev n env x = .pointer (some ⟨g, o + i * size, none⟩) := by exact rfl) :
    Runs P w0 F0 L n env ⟨d, .load T x, ty, pos, af, gd⟩ (.agg c.toArray) := r_load hx fun w hw => by
  obtain ⟨g', o', ha, hra, hl, _⟩ := hw.olAt hp hsz hc
  injection ha with ha; injection ha with e1 e2; subst e1; subst e2
  exact run_loadVar_agg hr hs hl hra
end
theorem op_cells {w0 w : World} {F0 : Nat → Prop} {L L' : List Res} {css : List (List Value)} {a : Option Addr} {m i : Nat} {l : List OpS} {c : List Value} {o : OpS} (hw : St w0 F0 L w) (hp : Pick L (OlR RdOpS 6 css a m l) L') (hc : css[i]? = some c) (hx : l[i]? = some o) :
    (∃ g o', a = some ⟨g, o', none⟩) ∧ m ≤ maxLen ∧ ∃ (a1 a2 a3 : Option Addr) (c1 c2 c3 : Nat), c = [.int .i64 o.kind, .int .i64 o.node, .int .i64 o.n, .slice a1 o.set.length c1, .slice a2 o.keep.length c2, .slice a3 o.data.length c3] := by
  obtain ⟨g, o', ha, _, _, _, hm⟩ := hw.olAt hp (by decide) hc
  obtain ⟨F, hF, _⟩ := hw
  obtain ⟨G1, G2, ⟨⟨_, _, _, h4⟩, _⟩, _, _, _⟩ := hp.stars hF
  obtain ⟨a1, a2, a3, c1, c2, c3, e, _⟩ := h4 i c o hc hx
  exact ⟨⟨g, o', ha⟩, hm, a1, a2, a3, c1, c2, c3, e⟩

attribute [local irreducible] Gl Gc Gx Gs Runs Wt

set_option maxHeartbeats 1000000 in
set_option maxRecDepth 20000 in
theorem scriptJoins_ok {w : World} {F : Nat → Prop} {sa sb : List UInt8} (h : stars [] w F) (hT : TenG w (fun k => ¬ F k)) {ea : Nat → Addr} {es : List Nat} [Has es 3] [Has es 4] (hE : GErr es w (fun k => ¬ F k) 153 ea)  :
    Calls Tryd.prog 4 #[.string (str sa), .string (str sb)] w (Post w F (fun _ : Unit => .bool true) (fun _ => [])) := by
  refine g_enter (env := [(0, .string (str sa)), (1, .string (str sb))]) Tryd.func4 rfl h Tryd.ntmps4 rfl rfl ?_
  refine gsr ?_
  refine gp zas ?_
  refine gnt ?_
  refine gc_seq ?_
  refine gsr ?_
  refine zc (fun _ => ?_) (c := fun w1 F1 F2 h1 h2 hd hst => alive23_ok h1 (hE.mv hst.still))
  refine gp (r_bool (c := false) znt (rfl)) ?_
  refine gnt ?_
  refine gc_condF rfl rfl ?_
  refine gc_skip ?_
  refine gx_then ?_
  refine gc_seq ?_
  refine gc_seq ?_
  by_cases g1 : (1000 : Int) < (sa.length : Int)
  · refine gc_region ?_
    refine gp zmv ?_
    refine gp zlS ?_
    refine gp (r_bool (c := true) zgt (decide_eq_true g1)) ?_
    refine gp zmv ?_
    refine gn ?_
    refine gn ?_
    refine gn ?_
    refine gp zpk ?_
    refine gnt ?_
    refine gc_condT rfl rfl ?_
    refine gsr ?_
    refine gp zas ?_
    refine gnt ?_
    refine gc_ret ?_
    refine gx_then_ret ?_
    refine gx_ret1 rfl (by conv => lhs; whnf) ?_
    exact ze ()
  · by_cases g2 : (1000 : Int) < (sb.length : Int)
    · refine gc_region ?_
      refine gp zmv ?_
      refine gp zlS ?_
      refine gp (r_bool (c := false) zgt (decide_eq_false g1)) ?_
      refine gp zmv ?_
      refine gq zmv ?_
      refine gq zlS ?_
      refine gq (r_bool (c := true) zgt (decide_eq_true g2)) ?_
      refine gp zpk ?_
      refine gnt ?_
      refine gc_condT rfl rfl ?_
      refine gsr ?_
      refine gp zas ?_
      refine gnt ?_
      refine gc_ret ?_
      refine gx_then_ret ?_
      refine gx_ret1 rfl (by conv => lhs; whnf) ?_
      exact ze ()
    · refine gc_region ?_
      refine gp zmv ?_
      refine gp zlS ?_
      refine gp (r_bool (c := false) zgt (decide_eq_false g1)) ?_
      refine gp zmv ?_
      refine gq zmv ?_
      refine gq zlS ?_
      refine gq (r_bool (c := false) zgt (decide_eq_false g2)) ?_
      refine gp zpk ?_
      refine gnt ?_
      refine gc_condF rfl rfl ?_
      refine gc_skip ?_
      refine gx_then ?_
      refine gc_seq ?_
      by_cases gx : (parP sa).isSome = true
      · obtain ⟨lx, hlx⟩ := Option.isSome_iff_exists.1 gx
        obtain ⟨hpex, hpox⟩ := par_some (by omega) hlx
        refine gc_region ?_
        refine gp zmv ?_
        refine zc ?_ (c := fun w1 F1 F2 h1 h2 hd hst => sparse_ok (s := sa) h1 (hE.mv hst.still))
        rintro ⟨a30, c30⟩
        rw [hpex, hpox]
        refine gp zmv ?_
        refine gp zex ?_
        refine gp zex ?_
        refine gp zas ?_
        refine gp zas ?_
        refine gnt ?_
        refine gc_seq ?_
        by_cases gy : (parP sb).isSome = true
        · obtain ⟨ly, hly⟩ := Option.isSome_iff_exists.1 gy
          obtain ⟨hpey, hpoy⟩ := par_some (by omega) hly
          refine gc_region ?_
          refine gp zmv ?_
          refine zc ?_ (c := fun w1 F1 F2 h1 h2 hd hst => sparse_ok (s := sb) h1 (hE.mv hst.still))
          rintro ⟨a35, c35⟩
          rw [hpey, hpoy]
          refine gp zmv ?_
          refine gp zex ?_
          refine gp zex ?_
          refine gp zas ?_
          refine gp zas ?_
          refine gnt ?_
          refine gc_seq ?_
          refine gsr ?_
          refine gp zmv ?_
          refine gp (r_bool (c := false) (r_nenil (k := 0) rfl (by kernel_rfl)) rfl) ?_
          refine gp zmv ?_
          refine gq zmv ?_
          refine gq (r_bool (c := false) (r_nenil (k := 0) rfl (by kernel_rfl)) rfl) ?_
          refine gp zpk ?_
          refine gnt ?_
          refine gc_condF rfl rfl ?_
          refine gc_skip ?_
          refine gx_then ?_
          refine gc_seq ?_
          have hlxl := parP_len hlx
          have hlyl := parP_len hly
          have hlz := parP_app hlx hly
          obtain ⟨hpez, hpoz⟩ := par_some (s := sa ++ sb) (by simp; omega) hlz
          have hok := parP_ok (s := sa ++ sb) (by simp; omega) hlz
          have hlin := again_lin (s := sa ++ sb) (by simp; omega) hlz
          refine gc_region ?_
          refine gp zmv ?_
          refine gp zmv ?_
          refine gp (zcat (a := sa) (b := sb)) ?_
          refine zc ?_ (c := fun w1 F1 F2 h1 h2 hd hst => sparse_ok (s := sa ++ sb) h1 (hE.mv hst.still))
          rintro ⟨a48, c48⟩
          rw [hpez, hpoz]
          refine gp zmv ?_
          refine gp zex ?_
          refine gp zex ?_
          refine gp zas ?_
          refine gp zas ?_
          refine gnt ?_
          refine gc_seq ?_
          refine gc_seq ?_
          refine gc_ol (rd := RdOpS) (l := lx) (by repeat (first | exact Pick.here | apply Pick.there)) (fun cx hcx => ?_)
          refine gc_ol (rd := RdOpS) (l := ly) (by repeat (first | exact Pick.here | apply Pick.there)) (fun cy hcy => ?_)
          refine gc_ol (rd := RdOpS) (l := lx ++ ly) (by repeat (first | exact Pick.here | apply Pick.there)) (fun cz hcz => ?_)
          refine gc_region ?_
          refine gp zmv ?_
          refine gp (r_bool (c := false) (r_nenil (k := 0) rfl (by kernel_rfl)) rfl) ?_
          refine gp zmv ?_
          refine gq zmv ?_
          refine gq zln ?_
          refine gq zmv ?_
          refine gq zln ?_
          refine gq zmv ?_
          refine gq zln ?_
          refine gq (r_int (j := ((lx.length + ly.length : Nat) : Int)) zad (by omega)) ?_
          refine gq (r_bool (c := false) zni (by simp)) ?_
          refine gp zpk ?_
          refine gnt ?_
          refine gc_condF rfl rfl ?_
          refine gc_skip ?_
          refine gx_then ?_
          refine gc_seq ?_
          refine gsr ?_
          refine gp zmv ?_
          refine gp zln ?_
          refine gp zmv ?_
          refine gnt ?_
          refine gc_block ?_
          refine gc_loop (α := Nat) (fun k => [pureR (k ≤ (lx ++ ly).length), OlR RdOpS 6 cx a30 lx.length lx, OlR RdOpS 6 cy a35 ly.length ly, OlR RdOpS 6 cz a48 (lx ++ ly).length (lx ++ ly)]) (fun k => [(65, .int .i64 (k : Int))]) [4, 11, 12, 13, 14, 15, 16, 17, 66, 67, 68, 69, 70, 71, 72, 73, 74, 75, 76, 77, 78, 79, 80, 81, 82, 83, 84, 85, 86, 87, 88, 89, 90, 91, 92, 93, 94, 95, 96, 97, 98, 99, 100, 101, 102, 103, 104, 105, 106, 107] (fun k => (lx ++ ly).length - k) 0 ?_ ?_ ?_
          · refine env_start (by kernel_rfl)
          · exact zlp (Nat.zero_le _)
          · intro k u
            refine gc_pureR (fun hk => ?_)
            replace hk : k ≤ (lx ++ ly).length := hk
            refine gsr ?_
            refine gp zlt ?_
            refine gnt ?_
            refine gc_seq ?_
            refine gif rfl (fun hc66 => ?_) (fun hc66 => ?_)
            · try simp only at hc66
              have hk' : k < (lx ++ ly).length := by omega
              obtain ⟨o, _, _, hzo, _, hmem, _⟩ := drop_at hk'
              obtain ⟨qz, hqz⟩ : ∃ c, cz[k]? = some c := ⟨_, List.getElem?_eq_getElem (by omega)⟩
              have hoo := hok o hmem
              obtain ⟨ln, hln⟩ := hlin o hmem
              refine gc_fact (fun w' hw => op_cells (hw.sel (M := [OlR RdOpS 6 cz a48 (lx ++ ly).length (lx ++ ly)]) (by repeat (first | exact Sel.nil | (apply Sel.cons; · (repeat (first | exact Pick.here | apply Pick.there)))))) .here (i := k) (c := qz) (o := o) hqz hzo) (fun hqz => ?_)
              obtain ⟨⟨gz, oz, haz⟩, hmz, bz1, bz2, bz3, dz1, dz2, dz3, ez⟩ := hqz
              subst haz
              subst ez
              simp only [maxLen] at hmz
              have hal : (lx ++ ly).length = lx.length + ly.length := List.length_append
              refine gc_skip ?_
              refine gx_then ?_
              refine gc_seq ?_
              refine gc_block ?_
              refine gsr ?_
              refine gp zmv ?_
              refine gp (r_val (v' := .pointer (some ⟨gz, oz + k * 6, none⟩)) zia (by simp)) ?_
              refine gp (r_ldOl (css := cz) (i := k) Ty.row_38 Ty.sz_38 (by repeat (first | exact Pick.here | apply Pick.there)) (by decide) hqz) ?_
              refine zal fun b12 => ?_
              refine gp zas ?_
              refine zsN ?_
              refine gnt ?_
              refine gsr ?_
              refine gp zbu ?_
              refine zal fun b13 => ?_
              refine zsN ?_
              refine gnt ?_
              refine gc_seq ?_
              refine gc_seq ?_
              by_cases g5 : k < lx.length
              · have hxo : lx[k]? = some o := by rw [← hzo, List.getElem?_append_left g5]
                obtain ⟨qx, hqx⟩ : ∃ c, cx[k]? = some c := ⟨_, List.getElem?_eq_getElem (by omega)⟩
                refine gc_fact (fun w' hw => op_cells (hw.sel (M := [OlR RdOpS 6 cx a30 lx.length lx]) (by repeat (first | exact Sel.nil | (apply Sel.cons; · (repeat (first | exact Pick.here | apply Pick.there)))))) .here (i := k) (c := qx) (o := o) hqx hxo) (fun hqx => ?_)
                obtain ⟨⟨gx, ox, hax⟩, hmx, bx1, bx2, bx3, dx1, dx2, dx3, ex⟩ := hqx
                subst hax
                subst ex
                simp only [maxLen] at hmx
                refine gc_region ?_
                refine gp zmv ?_
                refine gp zmv ?_
                refine gp zln ?_
                refine gp (r_bool (c := true) zlt (decide_eq_true (by omega))) ?_
                refine gnt ?_
                refine gc_condT rfl rfl ?_
                refine gc_region ?_
                refine gp zmv ?_
                refine gp zmv ?_
                refine gp (r_val (v' := .pointer (some ⟨gx, ox + k * 6, none⟩)) zia (by simp)) ?_
                refine gp (r_ldOl (css := cx) (i := k) Ty.row_38 Ty.sz_38 (by repeat (first | exact Pick.here | apply Pick.there)) (by decide) hqx) ?_
                refine zsN ?_
                refine gnt ?_
                refine gsr ?_
                refine gp zL ?_
                refine zc (fun _ => ?_) (c := fun w1 F1 F2 h1 h2 hd hst => sline_ok (o := o) h1 (ol_rd (css := cz) (l := lx ++ ly) h2 hd (by repeat (first | exact Pick.here | apply Pick.there)) hqz hzo) hoo.1 hoo.2 (hT.mv hst.still) (hE.mv hst.still))
                rw [(lin_is hln).1, (lin_is hln).2]
                refine gp zmv ?_
                refine gp zex ?_
                refine gp zex ?_
                refine gp zas ?_
                refine gp zas ?_
                refine gnt ?_
                refine gsr ?_
                refine gp zL ?_
                refine zc (fun _ => ?_) (c := fun w1 F1 F2 h1 h2 hd hst => sline_ok (o := o) h1 (ol_rd (css := cx) (l := lx) h2 hd (by repeat (first | exact Pick.here | apply Pick.there)) hqx hxo) hoo.1 hoo.2 (hT.mv hst.still) (hE.mv hst.still))
                rw [(lin_is hln).1, (lin_is hln).2]
                refine gp zmv ?_
                refine gp zex ?_
                refine gp zex ?_
                refine gp zas ?_
                refine gp zas ?_
                refine gnt ?_
                refine gsr ?_
                refine gp zmv ?_
                refine gp (r_bool (c := false) (r_nenil (k := 0) rfl (by kernel_rfl)) rfl) ?_
                refine gp zmv ?_
                refine gq zmv ?_
                refine gq (r_bool (c := false) (r_nenil (k := 0) rfl (by kernel_rfl)) rfl) ?_
                refine gp zpk ?_
                refine gp zmv ?_
                refine gq zmv ?_
                refine gq zmv ?_
                refine gq (r_bool (c := false) zns (by simp)) ?_
                refine gp zpk ?_
                refine gnt ?_
                refine gc_condF rfl rfl ?_
                refine gc_skip ?_
                refine gx_block_normal ?_
                refine gx_then ?_
                refine gc_region ?_
                refine gp zad ?_
                refine gp zmv ?_
                refine gl_nil ?_
                refine zrd (k + 1) ?_ ?_
                · show (lx ++ ly).length - (k + 1) < (lx ++ ly).length - k
                  omega
                · exact zlp (show k + 1 ≤ (lx ++ ly).length by omega)
              · have hyo : ly[k - lx.length]? = some o := by rw [← hzo, List.getElem?_append_right (by omega)]
                obtain ⟨qy, hqy⟩ : ∃ c, cy[k - lx.length]? = some c := ⟨_, List.getElem?_eq_getElem (by omega)⟩
                refine gc_fact (fun w' hw => op_cells (hw.sel (M := [OlR RdOpS 6 cy a35 ly.length ly]) (by repeat (first | exact Sel.nil | (apply Sel.cons; · (repeat (first | exact Pick.here | apply Pick.there)))))) .here (i := k - lx.length) (c := qy) (o := o) hqy hyo) (fun hqy => ?_)
                obtain ⟨⟨gy, oy, hay⟩, hmy, by1, by2, by3, dy1, dy2, dy3, ey⟩ := hqy
                subst hay
                subst ey
                simp only [maxLen] at hmy
                refine gc_region ?_
                refine gp zmv ?_
                refine gp zmv ?_
                refine gp zln ?_
                refine gp (r_bool (c := false) zlt (decide_eq_false (by omega))) ?_
                refine gnt ?_
                refine gc_condF rfl rfl ?_
                refine gc_region ?_
                refine gp zmv ?_
                refine gp zmv ?_
                refine gp zmv ?_
                refine gp zln ?_
                refine gp (r_int (j := ((k - lx.length : Nat) : Int)) zsb (by omega)) ?_
                refine gp (r_val (v' := .pointer (some ⟨gy, oy + (k - lx.length) * 6, none⟩)) zia (by simp)) ?_
                refine gp (r_ldOl (css := cy) (i := k - lx.length) Ty.row_38 Ty.sz_38 (by repeat (first | exact Pick.here | apply Pick.there)) (by decide) hqy) ?_
                refine zsN ?_
                refine gnt ?_
                refine gsr ?_
                refine gp zL ?_
                refine zc (fun _ => ?_) (c := fun w1 F1 F2 h1 h2 hd hst => sline_ok (o := o) h1 (ol_rd (css := cz) (l := lx ++ ly) h2 hd (by repeat (first | exact Pick.here | apply Pick.there)) hqz hzo) hoo.1 hoo.2 (hT.mv hst.still) (hE.mv hst.still))
                rw [(lin_is hln).1, (lin_is hln).2]
                refine gp zmv ?_
                refine gp zex ?_
                refine gp zex ?_
                refine gp zas ?_
                refine gp zas ?_
                refine gnt ?_
                refine gsr ?_
                refine gp zL ?_
                refine zc (fun _ => ?_) (c := fun w1 F1 F2 h1 h2 hd hst => sline_ok (o := o) h1 (ol_rd (css := cy) (l := ly) h2 hd (by repeat (first | exact Pick.here | apply Pick.there)) hqy hyo) hoo.1 hoo.2 (hT.mv hst.still) (hE.mv hst.still))
                rw [(lin_is hln).1, (lin_is hln).2]
                refine gp zmv ?_
                refine gp zex ?_
                refine gp zex ?_
                refine gp zas ?_
                refine gp zas ?_
                refine gnt ?_
                refine gsr ?_
                refine gp zmv ?_
                refine gp (r_bool (c := false) (r_nenil (k := 0) rfl (by kernel_rfl)) rfl) ?_
                refine gp zmv ?_
                refine gq zmv ?_
                refine gq (r_bool (c := false) (r_nenil (k := 0) rfl (by kernel_rfl)) rfl) ?_
                refine gp zpk ?_
                refine gp zmv ?_
                refine gq zmv ?_
                refine gq zmv ?_
                refine gq (r_bool (c := false) zns (by simp)) ?_
                refine gp zpk ?_
                refine gnt ?_
                refine gc_condF rfl rfl ?_
                refine gc_skip ?_
                refine gx_block_normal ?_
                refine gx_then ?_
                refine gc_region ?_
                refine gp zad ?_
                refine gp zmv ?_
                refine gl_nil ?_
                refine zrd (k + 1) ?_ ?_
                · show (lx ++ ly).length - (k + 1) < (lx ++ ly).length - k
                  omega
                · exact zlp (show k + 1 ≤ (lx ++ ly).length by omega)
            · refine gc_exit ?_
              refine gx_then_exit ?_
              refine gx_round_exit ?_
              refine gx_block_hit ?_
              refine gx_then ?_
              refine gsr ?_
              refine gp zas ?_
              refine gnt ?_
              refine gc_ret ?_
              refine gx_ret1 rfl (by conv => lhs; whnf) ?_
              exact ze ()
        · have hzy : parP sb = none := by simpa using gy
          obtain ⟨hpey, hpoy⟩ := par_none (by omega) hzy
          refine gc_region ?_
          refine gp zmv ?_
          refine zc ?_ (c := fun w1 F1 F2 h1 h2 hd hst => sparse_ok (s := sb) h1 (hE.mv hst.still))
          rintro ⟨a35, c35⟩
          rw [hpey, hpoy]
          refine gp zmv ?_
          refine gp zex ?_
          refine gp zex ?_
          refine gp zas ?_
          refine gp zas ?_
          refine gnt ?_
          refine gc_seq ?_
          refine gsr ?_
          refine gp zmv ?_
          refine gp (r_bool (c := false) (r_nenil (k := 0) rfl (by kernel_rfl)) rfl) ?_
          refine gp zmv ?_
          refine gq zmv ?_
          refine gq (r_bool (c := true) (r_nenil (k := 4) rfl (by kernel_rfl)) rfl) ?_
          refine gp zpk ?_
          refine gnt ?_
          refine gc_condT rfl rfl ?_
          refine gsr ?_
          refine gp zas ?_
          refine gnt ?_
          refine gc_ret ?_
          refine gx_then_ret ?_
          refine gx_ret1 rfl (by conv => lhs; whnf) ?_
          exact ze ()
      · have hzx : parP sa = none := by simpa using gx
        obtain ⟨hpex, hpox⟩ := par_none (by omega) hzx
        refine gc_region ?_
        refine gp zmv ?_
        refine zc ?_ (c := fun w1 F1 F2 h1 h2 hd hst => sparse_ok (s := sa) h1 (hE.mv hst.still))
        rintro ⟨a30, c30⟩
        rw [hpex, hpox]
        refine gp zmv ?_
        refine gp zex ?_
        refine gp zex ?_
        refine gp zas ?_
        refine gp zas ?_
        refine gnt ?_
        refine gc_seq ?_
        by_cases gy : (parP sb).isSome = true
        · obtain ⟨ly, hly⟩ := Option.isSome_iff_exists.1 gy
          obtain ⟨hpey, hpoy⟩ := par_some (by omega) hly
          refine gc_region ?_
          refine gp zmv ?_
          refine zc ?_ (c := fun w1 F1 F2 h1 h2 hd hst => sparse_ok (s := sb) h1 (hE.mv hst.still))
          rintro ⟨a35, c35⟩
          rw [hpey, hpoy]
          refine gp zmv ?_
          refine gp zex ?_
          refine gp zex ?_
          refine gp zas ?_
          refine gp zas ?_
          refine gnt ?_
          refine gc_seq ?_
          refine gsr ?_
          refine gp zmv ?_
          refine gp (r_bool (c := true) (r_nenil (k := 4) rfl (by kernel_rfl)) rfl) ?_
          refine gp zmv ?_
          refine gn ?_
          refine gn ?_
          refine gp zpk ?_
          refine gnt ?_
          refine gc_condT rfl rfl ?_
          refine gsr ?_
          refine gp zas ?_
          refine gnt ?_
          refine gc_ret ?_
          refine gx_then_ret ?_
          refine gx_ret1 rfl (by conv => lhs; whnf) ?_
          exact ze ()
        · have hzy : parP sb = none := by simpa using gy
          obtain ⟨hpey, hpoy⟩ := par_none (by omega) hzy
          refine gc_region ?_
          refine gp zmv ?_
          refine zc ?_ (c := fun w1 F1 F2 h1 h2 hd hst => sparse_ok (s := sb) h1 (hE.mv hst.still))
          rintro ⟨a35, c35⟩
          rw [hpey, hpoy]
          refine gp zmv ?_
          refine gp zex ?_
          refine gp zex ?_
          refine gp zas ?_
          refine gp zas ?_
          refine gnt ?_
          refine gc_seq ?_
          refine gsr ?_
          refine gp zmv ?_
          refine gp (r_bool (c := true) (r_nenil (k := 4) rfl (by kernel_rfl)) rfl) ?_
          refine gp zmv ?_
          refine gn ?_
          refine gn ?_
          refine gp zpk ?_
          refine gnt ?_
          refine gc_condT rfl rfl ?_
          refine gsr ?_
          refine gp zas ?_
          refine gnt ?_
          refine gc_ret ?_
          refine gx_then_ret ?_
          refine gx_ret1 rfl (by conv => lhs; whnf) ?_
          exact ze ()

end Go.Proofs.YthicckleihbomaaDoor

/- ScriptJoins: for every input the law returns true, and the input reads as it did: the row and its card. -/
namespace Go.Proofs.YthicckleihbomaaDoor
open Go
open Go.ChangeShapes Go.WideShapes Go.ChangeAt Go.RowKit
set_option linter.unusedVariables false

/-- One world that fits: the settled one, the listed variables as their initialisers lay them. -/
noncomputable def scriptJoins_world (os : Os) : World :=
  let w0 := World.holding Tryd.prog os ⟨#[.cells #[.string ⟨#[113, 117, 111, 114, 97, 116, 101, 58, 32, 108, 111, 110, 103]⟩] 175, .cells #[.string ⟨#[113, 117, 111, 114, 97, 116, 101, 58, 32, 102, 111, 114, 109]⟩] 175], #[], []⟩
  { w0 with heap := ((((((w0.heap.modify 0 fun
      | .cells _ t fz => .cells #[.iface 153 (.pointer (some ⟨lowB + 0, 0, none⟩))] t fz
      | o => o).modify 1 fun
      | .cells _ t fz => .cells #[.iface 153 (.pointer (some ⟨lowB + 1, 0, none⟩))] t fz
      | o => o).modify 22 fun
      | .cells _ t fz => .cells #[.int .u8 0, .int .u8 1, .int .u8 28, .int .u8 2, .int .u8 29, .int .u8 14, .int .u8 24, .int .u8 3, .int .u8 30, .int .u8 22, .int .u8 20, .int .u8 15, .int .u8 25, .int .u8 17, .int .u8 4, .int .u8 8, .int .u8 31, .int .u8 27, .int .u8 13, .int .u8 23, .int .u8 21, .int .u8 19, .int .u8 16, .int .u8 7, .int .u8 26, .int .u8 12, .int .u8 18, .int .u8 6, .int .u8 11, .int .u8 5, .int .u8 10, .int .u8 9] t fz
      | o => o).modify 23 fun
      | .cells _ t fz => .cells #[.int .u8 0, .int .u8 1, .int .u8 56, .int .u8 2, .int .u8 57, .int .u8 49, .int .u8 28, .int .u8 3, .int .u8 61, .int .u8 58, .int .u8 42, .int .u8 50, .int .u8 38, .int .u8 29, .int .u8 17, .int .u8 4, .int .u8 62, .int .u8 47, .int .u8 59, .int .u8 36, .int .u8 45, .int .u8 43, .int .u8 51, .int .u8 22, .int .u8 53, .int .u8 39, .int .u8 33, .int .u8 30, .int .u8 24, .int .u8 18, .int .u8 12, .int .u8 5, .int .u8 63, .int .u8 55, .int .u8 48, .int .u8 27, .int .u8 60, .int .u8 41, .int .u8 37, .int .u8 16, .int .u8 46, .int .u8 35, .int .u8 44, .int .u8 21, .int .u8 52, .int .u8 32, .int .u8 23, .int .u8 11, .int .u8 54, .int .u8 26, .int .u8 40, .int .u8 15, .int .u8 34, .int .u8 20, .int .u8 31, .int .u8 10, .int .u8 25, .int .u8 14, .int .u8 19, .int .u8 9, .int .u8 13, .int .u8 8, .int .u8 7, .int .u8 6] t fz
      | o => o).modify 21 fun
      | .cells _ t fz => .cells #[.int .u64 1, .int .u64 10, .int .u64 100, .int .u64 1000, .int .u64 10000, .int .u64 100000, .int .u64 1000000, .int .u64 10000000, .int .u64 100000000, .int .u64 1000000000, .int .u64 10000000000, .int .u64 100000000000, .int .u64 1000000000000, .int .u64 10000000000000, .int .u64 100000000000000, .int .u64 1000000000000000, .int .u64 10000000000000000, .int .u64 100000000000000000, .int .u64 1000000000000000000, .int .u64 10000000000000000000] t fz
      | o => o).modify 20 fun
      | .cells _ t fz => .cells #[.int .u8 128, .int .u8 191, .int .u8 160, .int .u8 191, .int .u8 128, .int .u8 159, .int .u8 144, .int .u8 191, .int .u8 128, .int .u8 143, .int .u8 0, .int .u8 0, .int .u8 0, .int .u8 0, .int .u8 0, .int .u8 0, .int .u8 0, .int .u8 0, .int .u8 0, .int .u8 0, .int .u8 0, .int .u8 0, .int .u8 0, .int .u8 0, .int .u8 0, .int .u8 0, .int .u8 0, .int .u8 0, .int .u8 0, .int .u8 0, .int .u8 0, .int .u8 0] t fz
      | o => o).modify 19 fun
      | .cells _ t fz => .cells (Pinned.utf8FirstZ.map fun z : Nat => Value.int .u8 (z : Int)).toArray t fz
      | o => o }
def scriptJoins_args : Array Value := #[.string ByteArray.empty, .string ByteArray.empty]
theorem scriptJoins_laid (os : Os) (args : Array Value) : laidMet Tryd.prog Rows.scriptJoinsRow.laid ((scriptJoins_world os).forCall (fun _ _ => 0) ⟨#[], args, []⟩).memory :=
  laidMet_of_run' 8 (by kernel_rfl) (by kernel_rfl)
theorem scriptJoins_reads (os : Os) {H : Type} (enc : TypeId × Value → H) : ∃ places, DataW.whole enc Tryd.prog ((scriptJoins_world os).forCall (fun _ _ => 0) ⟨#[], scriptJoins_args, []⟩).memory Tryd.f4.params.toList Rows.scriptJoinsSpec.vars false scriptJoins_args.toList 8 = some ([.lit (.string []), .lit (.string [])], [], places) :=
  ⟨[], by kernel_rfl⟩
set_option maxRecDepth 20000 in
theorem scriptJoins_contract (H : Type) (enc : TypeId × Value → H) (W : World) (base : Nat) (args : Array Value) (ds gs : List (DataW H)) (before : List MemPlace)
    (hval : ∀ (j : Nat) t v, Tryd.f4.params[j]? = some t → args[j]? = some v → Value.okWide Tryd.prog W .any base t v)
    (hW : DataW.Whole enc Tryd.prog Tryd.f4.params.toList Rows.scriptJoinsSpec.vars false W args.toList ds gs before) (hL : laidMetH Tryd.prog Rows.scriptJoinsRow.laid W) :
    Calls Tryd.prog 4 args W fun e W' => ∃ v, e = .returned v ∧ Rows.scriptJoinsSpec.post enc Tryd.prog Tryd.f4 false true false false W args v W' := by
  have hW' := hW
  have hlt : ∀ p ∈ before, p.block < W.heap.size := fun p hp => hW.lt p hp
  obtain ⟨p, q, hA0, hV, rfl, hfz, hnd⟩ := hW
  have hA : DataW.TrodAll enc Tryd.prog W 0 (fun _ => true) true Tryd.f4.params.toList args.toList ds p := hA0
  rw [Tryd.params4] at hA hval
  obtain ⟨v0, vs0, d0, ds0, p0, q0, hargs, rfl, rfl, h0, r0⟩ := trodAll_cons hA
  obtain ⟨v1, vs1, d1, ds1, p1, q1, rfl, rfl, rfl, h1, r1⟩ := trodAll_cons r0
  obtain ⟨rfl, rfl, rfl⟩ := trodAll_nil r1
  obtain rfl : args = #[v0, v1] := by cases args; simp_all
  obtain ⟨rfl, rfl⟩ := trodVars_none hV
  obtain ⟨n0, rfl, _, _, wf0⟩ := Go.ChangeMaps.open_string Tryd.underlying9 (hval 0 9 v0 rfl rfl) h0
  obtain ⟨n1, rfl, _, _, wf1⟩ := Go.ChangeMaps.open_string Tryd.underlying9 (hval 1 9 v1 rfl rfl) h1
  have hL' : laidMet Tryd.prog Rows.scriptJoinsRow.laid W := hL
  obtain ⟨a_3, s_3, c_3, _, _⟩ := laid_err (g := 0) hL'.tail.tail.tail.tail (by kernel_rfl) (by kernel_rfl)
  obtain ⟨a_4, s_4, c_4, _, _⟩ := laid_err (g := 1) hL'.tail.tail.tail.tail.tail (by kernel_rfl) (by kernel_rfl)
  have hE : GErr [3, 4] W (fun k => ¬ (fun _ : Nat => False) k) 153 (fun i => if i = 3 then a_3 else a_4) := by
    refine ⟨fun i hi => ?_, fun i _ => id⟩
    simp only [List.mem_cons, List.not_mem_nil, or_false] at hi
    rcases hi with rfl | rfl
    · unfold eV; exact c_3
    · unfold eV; exact c_4
  have hT : TenR W := laid_ten (r := [("unicode/utf8.acceptRanges", Rows.laid_unicode_utf8_acceptRanges), ("quorate/api.ErrLong", Rows.laid_quorate_api_ErrLong), ("quorate/api.ErrForm", Rows.laid_quorate_api_ErrForm), ("unicode/utf8.first", Rows.laid_unicode_utf8_first)]) hL'.tail.tail
  have walk := scriptJoins_ok (sa := n0.data.toList) (sb := n1.data.toList) no_res ⟨hT, id⟩ hE
  refine Calls.mono (show Calls Tryd.prog 4 #[.string n0, .string n1] W _ from walk) fun e W' ⟨_, he, hs⟩ => ?_
  subst he
  have bel := below_of hs
  have eF : Rows.scriptJoinsSpec.fn H ([d0, d1] ++ []) = { results := [.lit (.bool true)], args := [d0, d1] } := rfl
  have l0 : ∀ z ∈ p0, z.block < W.heap.size := fun z hz => hlt z (by simp [hz])
  have l1 : ∀ z ∈ p1, z.block < W.heap.size := fun z hz => hlt z (by simp [hz])
  refine ⟨_, rfl, _, _, _, [], p0 ++ (p1 ++ ([])), [], hW', ?_, ?_, ?_, bel.frame _, fun h => by cases h⟩
  · rw [eF]; exact trodAll_cons_mk (shut_bool Tryd.underlying4 _) trodAll_mk0
  · rw [eF, Tryd.params4]
    exact trodAll_cons_mk (Below.trod laidOut (by kernel_rfl) (of_decide_eq_true (by kernel_rfl)) h0 bel l0) (trodAll_cons_mk (Below.trod laidOut (by kernel_rfl) (of_decide_eq_true (by kernel_rfl)) h1 bel l1) (trodAll_mk0))
  · rw [eF]; rfl

set_option maxRecDepth 100000 in
theorem scriptJoins_lifted (os : Os) (started : os.Started) (H : Type) (enc : TypeId × Value → H) (F : Stop.Interp) :
    ReturnsInHanded {} Tryd.checked os 4 .any ((OpenSpec.ofChange Rows.scriptJoinsSpec).preRow enc Tryd.prog Tryd.f4 Rows.scriptJoinsRow.domain false Rows.scriptJoinsRow.laid) (((OpenSpec.ofChange Rows.scriptJoinsSpec).at F).post enc Tryd.prog Tryd.f4 false true false false) := by
  obtain ⟨places, hx⟩ := scriptJoins_reads os enc
  refine returnsInHanded_of_row (C := Tryd.checked) (s := OpenSpec.ofChange Rows.scriptJoinsSpec) own started (by kernel_rfl) Tryd.func4
    (witness_row_atRef (enc := enc) (C := Tryd.checked) false (scriptJoins_world os) scriptJoins_args rfl (by kernel_rfl) (by kernel_rfl) (by kernel_rfl)
      (OpenSpec.preRow_of_cond 8 hx (by kernel_rfl) (fun k hk => by cases hk) (by kernel_rfl) (scriptJoins_laid os _))) ?_
  intro W base args ds gs before hval hW _ _ _ hL _ _
  exact scriptJoins_contract H enc W base args ds gs before hval hW hL

theorem scriptJoins_said : Rows.ScriptJoinsSaid :=
  OpenClaim.holds_of_cond 4 Tryd.f4 rfl rfl rfl rfl rfl rfl rfl ⟨rfl, rfl, rfl, rfl, rfl⟩ rfl rfl rfl rfl rfl (by kernel_rfl) Tryd.func4 (by kernel_rfl)
    (of_decide_eq_true (by kernel_rfl)) (by unfold Func.isWrapper; first | (rw [if_pos (by decide +kernel)]; kernel_rfl) | (rw [if_neg (by decide +kernel)]; exact ⟨rfl, rfl⟩))
    (fun os started H enc _ F => by rw [OpenClaim.pre_eq_preRow]; exact scriptJoins_lifted os started H enc F)
theorem scriptJoins_plain (f : FuncId) (fn : Func) (hf : Tryd.pinned.checked.prog.funcNamed "quorate/quoratelaw23.ScriptJoins" = some f) (hfn : Tryd.pinned.checked.prog.funcs[f]? = some fn) :
    true = Tryd.pinned.checked.prog.looks [] ∧ ∀ (j : Nat) t, fn.params[j]? = some t → Tryd.pinned.checked.prog.wantsStandIn t = false := by
  obtain rfl : f = 4 := Option.some.inj ((show Tryd.prog.funcNamed "quorate/quoratelaw23.ScriptJoins" = some 4 by kernel_rfl).symm.trans hf) |>.symm
  obtain rfl : fn = Tryd.f4 := (Option.some.inj (Tryd.func4.symm.trans hfn)).symm
  refine ⟨by kernel_rfl, fun j t ht => ?_⟩
  rw [Tryd.params4] at ht
  have hm := Array.mem_of_getElem? ht
  have h : t = 9 := by simpa using hm
  subst h
  exact (show Tryd.prog.wantsStandIn 9 = false by kernel_rfl)
theorem scriptJoins_holds : Rows.ScriptJoinsCardSaid :=
  Claim7.holds_tied_plain_at .later [] _ _ _ _ scriptJoins_said (fun _ h => by cases h) (by kernel_rfl) (fun _ h => by cases h) scriptJoins_row_tie rfl ⟨rfl, rfl⟩ (by kernel_rfl) rfl scriptJoins_plain (by kernel_rfl)
#print axioms scriptJoins_holds
end Go.Proofs.YthicckleihbomaaDoor

