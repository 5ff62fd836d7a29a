/- Part 4. What is proved: see the last part: for every input the law returns true, and the input reads as it did. -/
import Derived.Test.YthicckleihbomaaDoorCt3
import Derived.Test.YthicckleihbomaaDoorCards
import Derived.Test.YthicckleihbomaaDoorTie
import Derived.Deep.DeepHandedRow
import Derived.Deep.DeepWitnessRowRef
/- Walks, by program (wg.py) out of a spec. -/
namespace Go.Proofs.YthicckleihbomaaDoor
open Go
set_option linter.unusedVariables false
set_option linter.unusedSimpArgs false


theorem rd_last {w : World} {A : Nat → Prop} {css : List (List Value)} {d : List Value} {x : OpS} {k n c : Nat} {a : Option Addr} (hr0 : RdRow w A 6 a n (css.flatten ++ d)) (hn : n = k + 1) (hk : css.length = k) (h6 : ∀ c ∈ css ++ [d], List.length c = 6) (hc : n ≤ c) (hx : RdOpS w A d x) :
    RdList (RdOpS w A) w A 6 (if c = k then a else a.map (·.add (k * 6))) (n - k) [x] := by
  subst hn
  have hr : RdRow w A 6 a (k + 1) (css ++ [d]).flatten := by rw [show (css ++ [d]).flatten = css.flatten ++ d by simp]; exact hr0
  have h1 := hr.cut (l := k) (h := k + 1) (c := c) (by omega) (Nat.le_refl _) hc
  have h2 : ((css ++ [d]).flatten.drop (k * 6)).take ((k + 1 - k) * 6) = [d].flatten := by
    rw [show (k + 1 - k) * 6 = 6 by omega, flatten_at (c := d) h6 (by rw [List.getElem?_append_right (by omega), hk, Nat.sub_self]; rfl)]; simp
  rw [h2] at h1
  refine ⟨[d], h1, fun c' hc' => ?_, rfl, fun i c' x' hc' hx' => ?_⟩
  · rw [List.mem_singleton.1 hc']; exact hx.len
  · match i with
    | 0 => simp at hc' hx'; subst hc'; subst hx'; exact hx
    | i + 1 => simp at hc'
/-- the ops that are wanted: their cells, read in memory that was there -/
def WantR (w : World) (A : Nat → Prop) (css : List (List Value)) (l : List OpS) : Prop := css.length = l.length ∧ (∀ c ∈ css, List.length c = 6) ∧ ∀ (i : Nat) c x, css[i]? = some c → l[i]? = some x → RdOpS w A c x
theorem WantR.nil {w : World} {A : Nat → Prop} : WantR w A [] [] := ⟨rfl, by simp, fun i c x h => by simp at h⟩
theorem WantR.snoc {w : World} {A : Nat → Prop} {css : List (List Value)} {l : List OpS} {d : List Value} {x : OpS} (h : WantR w A css l) (hx : RdOpS w A d x) : WantR w A (css ++ [d]) (l ++ [x]) := by
  obtain ⟨h1, h2, h3⟩ := h
  refine ⟨by simp [h1], fun c hc => ?_, fun i c y hc hy => ?_⟩
  · rcases List.mem_append.1 hc with hc | hc
    · exact h2 c hc
    · rw [List.mem_singleton.1 hc]; exact hx.len
  · by_cases hi : i < css.length
    · rw [List.getElem?_append_left hi] at hc
      rw [List.getElem?_append_left (by omega)] at hy
      exact h3 i c y hc hy
    · have hi' : i = css.length := by have := (List.getElem?_eq_some_iff.1 hc).1; simp at this; omega
      subst hi'
      rw [List.getElem?_append_right (by omega)] at hc hy
      rw [h1] at hy
      simp at hc hy
      subst hc; subst hy; exact hx
theorem WantR.list {w w' : World} {A A' : Nat → Prop} {css : List (List Value)} {l : List OpS} {a : Option Addr} {n : Nat} (h : WantR w A css l) (k : Still w A w' A') (hr : RdRow w' A' 6 a n css.flatten) : RdList (RdOpS w' A') w' A' 6 a n l :=
  ⟨css, hr, h.2.1, h.1, fun i c x hc hx => RdK.mv (h.2.2 i c x hc hx) k⟩
theorem hexW_len2 {d : Bs} (h : d.length ≤ 200) : (hexW d).length ≤ 400 := by
  unfold hexW
  split
  · simp
  · rw [hexT_len]; omega
theorem getP_len2 {o : OpS} {c : UInt8} {s : Bs} (h : getP o c = some s) (hd : o.data.length ≤ 200) : s.length ≤ 400 := by
  have hn : ∀ {n : Int} {s : Bs}, numW n = some s → s.length ≤ 400 := fun h => by
    obtain ⟨k, rfl, hk, rfl⟩ := numW_some h
    rw [Lib.decDigits_length]
    have := nD_le 5 k (by omega); omega
  unfold getP at h
  split at h
  · exact hn h
  · split at h
    · exact hn h
    · split at h
      · split at h
        · injection h with h; subst h; exact hexW_len2 hd
        · cases h
      · split at h
        · unfold powsW at h
          split at h
          · injection h with h; subst h; simp
          · split at h
            · cases h
            · obtain ⟨ps, hps, rfl⟩ := Option.map_eq_some_iff.1 h
              have h2 := numsW_len hps
              have h3 := joinB_len (c := 44) h2.2
              have h4 : ps.length ≤ 7 := by omega
              have := Nat.mul_le_mul_right 7 h4; omega
        · split at h
          · injection h with h; subst h
            unfold bitW
            split
            · simp
            · simp [bitT]; omega
          · cases h
theorem getsP_len2 {o : OpS} (hd : o.data.length ≤ 200) : ∀ {cs : Bs} {t : Bs}, getsP o cs = some t → t.length ≤ 401 * cs.length
  | [], t, h => by rw [getsP] at h; injection h with h; subst h; simp
  | c :: cs, t, h => by
    rw [getsP] at h
    split at h
    · rename_i s u hs hu
      injection h with h; subst h
      have h1 := getP_len2 hs hd
      have h2 := getsP_len2 hd hu
      simp; omega
    · cases h
theorem lin_len2 {o : OpS} {s : Bs} (h : linP o = some s) (hd : o.data.length ≤ 200) : s.length ≤ 1210 := by
  unfold linP at h
  split at h
  · rename_i f hf
    obtain ⟨hm, _⟩ := form_mem hf
    obtain ⟨t, ht, rfl⟩ := Option.map_eq_some_iff.1 h
    have h1 := getsP_len2 hd ht
    have h2 := forms_wl f hm
    have h3 : f.parts.length ≤ 3 := (show ∀ f ∈ forms, f.parts.length ≤ 3 by decide) f hm
    simp; omega
  · cases h
theorem lins_tot {l : List OpS} {ls : List Bs} (hd : ∀ o ∈ l, o.data.length ≤ 200) (h : linsP l = some ls) : totB ls ≤ 1211 * l.length := by
  induction l generalizing ls with
  | nil => rw [linsP] at h; injection h with h; subst h; simp [totB]
  | cons o r ih =>
    rw [linsP] at h
    split at h
    · rename_i s t hs ht
      injection h with h; subst h
      have h1 := ih (fun x hx => hd x (List.mem_cons_of_mem _ hx)) ht
      have h2 := lin_len2 hs (hd o (by simp))
      have e : totB (s :: t) = s.length + 1 + totB t := by simp [totB]
      rw [e]; simp; omega
    · cases h
theorem one_par {o : OpS} {s : Bs} (h : linP o = some s) : parP (s ++ [10]) = some [refPlain o] := by
  obtain ⟨h1, h2, _⟩ := lin_op h
  have := parP_text (ls := [s]) (by simpa using h2)
  rw [show textB [s] = s ++ [10] by simp [textB]] at this
  rw [this, opsP, h1, opsP, plain_ref (lin_kind h)]
theorem all_snoc {l : List OpS} {k : Nat} {x : OpS} (h : l.take (k + 1) = l.take k ++ [x]) : (l.take (k + 1)).all rightP = ((l.take k).all rightP && rightP x) := by rw [h]; simp
theorem RdList.and {α : Type} {rd : List Value → α → Prop} {p : α → Prop} {w : World} {A : Nat → Prop} {size n : Nat} {a : Option Addr} {l : List α} (h : RdList (fun c x => rd c x ∧ p x) w A size a n l) : RdList rd w A size a n l ∧ ∀ x ∈ l, p x := by
  obtain ⟨css, h1, h2, h3, h4⟩ := h
  refine ⟨⟨css, h1, h2, h3, fun i c x hc hx => (h4 i c x hc hx).1⟩, fun x hx => ?_⟩
  obtain ⟨i, hi, e⟩ := List.mem_iff_getElem.1 hx
  exact (h4 i (css[i]'(by omega)) x (List.getElem?_eq_getElem (by omega)) (by rw [List.getElem?_eq_getElem hi, e])).2

attribute [local irreducible] Gl Gc Gx Gs Runs Wt

set_option maxHeartbeats 4000000 in
set_option maxRecDepth 20000 in
theorem scriptTexts_ok {w : World} {F : Nat → Prop} {a : Option Addr} {n c : Nat} {l : List OpS} (h : stars [] w F) (hl2 : RdList (fun c o => RdOpS w (fun k => ¬ F k) c o ∧ WfO o) w (fun k => ¬ F k) 6 a n l) (hT : TenG w (fun k => ¬ F k)) {ea : Nat → Addr} (hN : NErr w (fun k => ¬ F k) ea)  :
    Calls Tryd.prog 6 #[.slice a n c] w (Post w F (fun _ : Unit => .bool true) (fun _ => [])) := by
  have hE := hN.g
  obtain ⟨hl, hwf⟩ := hl2.and
  have hn := hl.len (by decide)
  have hmx := hl.max
  simp only [maxLen] at hmx
  refine g_enter (env := [(0, .slice a n c)]) Tryd.func6 rfl h Tryd.ntmps6 rfl rfl ?_
  refine gsr ?_
  refine gp zas ?_
  refine gnt ?_
  refine gc_seq ?_
  refine gsr ?_
  refine zc (fun _ => ?_) (c := fun w1 F1 F2 h1 h2 hd hst => alive23_ok h1 (hE.mv hst.still))
  refine gp (r_bool (c := false) znt (rfl)) ?_
  refine gnt ?_
  refine gc_condF rfl rfl ?_
  refine gc_skip ?_
  refine gx_then ?_
  refine gc_seq ?_
  refine gsr ?_
  refine gp zmv ?_
  refine gp zln ?_
  refine gp zgt ?_
  refine gnt ?_
  refine gif rfl (fun hc20 => ?_) (fun hc20 => ?_)
  · refine gsr ?_
    refine gp zas ?_
    refine gnt ?_
    refine gc_ret ?_
    refine gx_then_ret ?_
    refine gx_ret1 rfl (by conv => lhs; whnf) ?_
    exact ze ()
  · try simp only at hc20
    have h30 : n ≤ 30 := by omega
    refine gc_skip ?_
    refine gx_then ?_
    refine gsr ?_
    refine ze0 fun b21 => ?_
    refine gp zas ?_
    refine gnt ?_
    refine gsr ?_
    refine gp zas ?_
    refine gnt ?_
    refine gc_seq ?_
    refine gsr ?_
    refine gp zmv ?_
    refine gp zln ?_
    refine gp zmv ?_
    refine gnt ?_
    refine gc_block ?_
    refine gc_loop (α := Nat × (Bool × ((Option Addr × Nat) × List (List Value)))) (fun y => [pureR (y.1 ≤ n ∧ y.2.1 = (l.take (y.1)).all rightP ∧ WantR w (fun k => ¬ F k) y.2.2.2 ((l.take (y.1)).map refPlain) ∧ ∀ o ∈ l.take (y.1), o.data.length ≤ 200), rowR 44 6 y.2.2.1.1 y.1 y.2.2.1.2 y.2.2.2.flatten]) (fun y => [(24, .int .i64 (y.1 : Int)), (4, .bool y.2.1), (3, .slice y.2.2.1.1 y.1 y.2.2.1.2)]) [2, 6, 7, 8, 9, 10, 11, 25, 26, 27, 28, 29, 30, 31, 32, 33, 34, 35, 36, 37, 38, 39, 40, 41, 42, 43, 44, 45, 46, 47, 48, 49, 50, 51, 52, 53, 54, 55, 56, 57, 58, 59, 60, 61, 62, 63, 64, 65, 66, 67, 68, 69, 70, 71, 72, 73, 74, 75, 76, 77, 78, 79, 80, 81, 82, 83, 84, 85, 86, 87, 88, 89, 90, 91, 92, 93, 94, 95, 96] (fun y => n - y.1) (0, (true, ((some ⟨b21, 0, none⟩, 0), []))) ?_ ?_ ?_
    · refine env_start (by kernel_rfl)
    · exact zlp ⟨Nat.zero_le _, rfl, WantR.nil, fun o ho => by simp at ho⟩
    · intro y u
      obtain ⟨k, rt, ⟨aw, cw⟩, css⟩ := y
      refine gc_pureR (fun hq => ?_)
      obtain ⟨hk, hrt, hwr, hdd⟩ := hq
      replace hk : k ≤ n := hk
      replace hrt : rt = (l.take k).all rightP := hrt
      replace hwr : WantR w (fun k => ¬ F k) css ((l.take k).map refPlain) := hwr
      replace hdd : ∀ o ∈ l.take k, o.data.length ≤ 200 := hdd
      have hcl : css.length = k := by rw [hwr.1, List.length_map, List.length_take]; omega
      refine gsr ?_
      refine gp zlt ?_
      refine gnt ?_
      refine gc_seq ?_
      refine gif rfl (fun hc25 => ?_) (fun hc25 => ?_)
      · try simp only at hc25
        have hk' : k < n := by omega
        obtain ⟨g1, o1, d1, x1, ha1, hA1, _, hra1, hcl1, hx1, hrd1⟩ := hl.elem (i := k) (by decide) hk'
        subst ha1
        have hrk := hrd1
        obtain ⟨ax1, ax2, ax3, cx1, cx2, cx3, rfl, ⟨hsx, hscx⟩, ⟨hkx, hkcx⟩, hdx, hdcx⟩ := hrd1
        obtain ⟨hil, hie⟩ := List.getElem?_eq_some_iff.1 hx1
        obtain ⟨x2, _, _, hg2, _, hmem, htk⟩ := drop_at hil
        obtain rfl : x2 = x1 := by rw [hx1] at hg2; injection hg2 with hg2; exact hg2.symm
        have hxw := hwf x2 hmem
        refine gc_skip ?_
        refine gx_then ?_
        refine gc_seq ?_
        refine gc_block ?_
        refine gsr ?_
        refine gp (r_val (v' := .pointer (some ⟨g1, o1 + k * 6, none⟩)) zia (by simp)) ?_
        refine gp (r_ldNo (seg := [.int .i64 x2.kind, .int .i64 x2.node, .int .i64 x2.n, .slice ax1 x2.set.length cx1, .slice ax2 x2.keep.length cx2, .slice ax3 x2.data.length cx3]) rfl Ty.row_38 Ty.sz_38 hra1 rfl (by decide) hA1) ?_
        refine zal fun b6 => ?_
        refine zsN ?_
        refine gnt ?_
        refine gc_seq ?_
        refine gc_seq ?_
        by_cases g1 : (200 : Int) < (x2.data.length : Int)
        · refine gc_region ?_
          refine gp zfa ?_
          refine gp zl ?_
          refine gp zln ?_
          refine gp (r_bool (c := true) zgt (decide_eq_true g1)) ?_
          refine gp zmv ?_
          refine gn ?_
          refine gn ?_
          refine gn ?_
          refine gn ?_
          refine gp zpk ?_
          refine gp zmv ?_
          refine gn ?_
          refine gn ?_
          refine gn ?_
          refine gn ?_
          refine gp zpk ?_
          refine gnt ?_
          refine gc_condT rfl rfl ?_
          refine gsr ?_
          refine gp zas ?_
          refine gnt ?_
          refine gc_ret ?_
          refine gx_then_ret ?_
          refine gx_block_ret ?_
          refine gx_then_ret ?_
          refine gx_round_ret ?_
          refine gx_block_ret ?_
          refine gx_then_ret ?_
          refine gx_ret1 rfl (by conv => lhs; whnf) ?_
          exact ze ()
        · by_cases g2 : (50 : Int) < (x2.set.length : Int)
          · refine gc_region ?_
            refine gp zfa ?_
            refine gp zl ?_
            refine gp zln ?_
            refine gp (r_bool (c := false) zgt (decide_eq_false g1)) ?_
            refine gp zmv ?_
            refine gq zfa ?_
            refine gq zl ?_
            refine gq zln ?_
            refine gq (r_bool (c := true) zgt (decide_eq_true g2)) ?_
            refine gp zpk ?_
            refine gp zmv ?_
            refine gn ?_
            refine gn ?_
            refine gn ?_
            refine gn ?_
            refine gp zpk ?_
            refine gnt ?_
            refine gc_condT rfl rfl ?_
            refine gsr ?_
            refine gp zas ?_
            refine gnt ?_
            refine gc_ret ?_
            refine gx_then_ret ?_
            refine gx_block_ret ?_
            refine gx_then_ret ?_
            refine gx_round_ret ?_
            refine gx_block_ret ?_
            refine gx_then_ret ?_
            refine gx_ret1 rfl (by conv => lhs; whnf) ?_
            exact ze ()
          · by_cases g3 : (200 : Int) < (x2.keep.length : Int)
            · refine gc_region ?_
              refine gp zfa ?_
              refine gp zl ?_
              refine gp zln ?_
              refine gp (r_bool (c := false) zgt (decide_eq_false g1)) ?_
              refine gp zmv ?_
              refine gq zfa ?_
              refine gq zl ?_
              refine gq zln ?_
              refine gq (r_bool (c := false) zgt (decide_eq_false g2)) ?_
              refine gp zpk ?_
              refine gp zmv ?_
              refine gq zfa ?_
              refine gq zl ?_
              refine gq zln ?_
              refine gq (r_bool (c := true) zgt (decide_eq_true g3)) ?_
              refine gp zpk ?_
              refine gnt ?_
              refine gc_condT rfl rfl ?_
              refine gsr ?_
              refine gp zas ?_
              refine gnt ?_
              refine gc_ret ?_
              refine gx_then_ret ?_
              refine gx_block_ret ?_
              refine gx_then_ret ?_
              refine gx_round_ret ?_
              refine gx_block_ret ?_
              refine gx_then_ret ?_
              refine gx_ret1 rfl (by conv => lhs; whnf) ?_
              exact ze ()
            · refine gc_region ?_
              refine gp zfa ?_
              refine gp zl ?_
              refine gp zln ?_
              refine gp (r_bool (c := false) zgt (decide_eq_false g1)) ?_
              refine gp zmv ?_
              refine gq zfa ?_
              refine gq zl ?_
              refine gq zln ?_
              refine gq (r_bool (c := false) zgt (decide_eq_false g2)) ?_
              refine gp zpk ?_
              refine gp zmv ?_
              refine gq zfa ?_
              refine gq zl ?_
              refine gq zln ?_
              refine gq (r_bool (c := false) zgt (decide_eq_false g3)) ?_
              refine gp zpk ?_
              refine gnt ?_
              refine gc_condF rfl rfl ?_
              refine gc_skip ?_
              refine gx_then ?_
              refine gsr ?_
              refine gp zL ?_
              refine zc (fun _ => ?_) (c := fun w1 F1 F2 h1 h2 hd hst => rright_ok (o := x2) h1 (RdK.mv hrk hst.still))
              refine gp zas ?_
              refine gnt ?_
              refine gc_seq ?_
              by_cases g4 : rt = true
              · subst g4
                refine gc_region ?_
                refine gp zmv ?_
                refine gp zmv ?_
                refine gq zmv ?_
                refine gp zpk ?_
                refine gp zas ?_
                refine gnt ?_
                refine gsr ?_
                refine gp zmv ?_
                refine gp zL ?_
                refine zc (fun d52 => ?_) (c := fun w1 F1 F2 h1 h2 hd hst => rplain_ok (w' := w) (A := (fun k => ¬ F k)) (o := x2) h1 hrk)
                refine gl_pureR (fun hd52 => ?_)
                have hd52k := hd52
                obtain ⟨ap1, ap2, ap3, cp1, cp2, cp3, rfl, ⟨hsp, hscp⟩, ⟨hkp, hkcp⟩, hdp, hdcp⟩ := hd52k
                have hdl52 : List.length ([.int .i64 (refPlain x2).kind, .int .i64 (refPlain x2).node, .int .i64 (refPlain x2).n, .slice ap1 (refPlain x2).set.length cp1, .slice ap2 (refPlain x2).keep.length cp2, .slice ap3 (refPlain x2).data.length cp3] : List Value) = 6 := rfl
                refine zeN fun b53 => ?_
                refine zapo (m := k) (j := 1) (fun a54 c54 => ?_)
                refine gp zas ?_
                refine gnt ?_
                refine gc_seq ?_
                by_cases g9 : rightP x2 = true
                · obtain ⟨s, hs⟩ := right_some (o := x2) (by omega) g9
                  have hsl := lin_len2 hs (by omega)
                  have hpar := one_par hs
                  obtain ⟨hpe, hpo⟩ := par_some (s := s ++ [10]) (by simp; omega) hpar
                  refine gc_region ?_
                  refine gp zL ?_
                  refine zc (fun _ => ?_) (c := fun w1 F1 F2 h1 h2 hd hst => sline_ok (o := x2) h1 (RdK.mv hrk hst.still) (by omega) hxw (hT.mv hst.still) (hE.mv hst.still))
                  rw [(lin_is hs).1, (lin_is hs).2]
                  refine gp zmv ?_
                  refine gp zex ?_
                  refine gp zex ?_
                  refine gp zas ?_
                  refine gp zas ?_
                  refine gnt ?_
                  refine gc_seq ?_
                  refine gsr ?_
                  refine gp (r_bool (c := true) zmv g9) ?_
                  refine gp zmv ?_
                  refine gp (r_bool (c := true) (r_eqnil (k := 0) rfl (by kernel_rfl)) rfl) ?_
                  refine gp (r_bool (c := false) (r_neq_bool (ht := Ty.un_4)) rfl) ?_
                  refine gp zmv ?_
                  refine gq (r_bool (c := true) zmv g9) ?_
                  refine gq (r_bool (c := false) znt (rfl)) ?_
                  refine gq zmv ?_
                  refine gn ?_
                  refine gn ?_
                  refine gn ?_
                  refine gn ?_
                  refine gn ?_
                  refine gn ?_
                  refine gn ?_
                  refine gq zpk ?_
                  refine gp zpk ?_
                  refine gnt ?_
                  refine gc_condF rfl rfl ?_
                  refine gc_skip ?_
                  refine gx_then ?_
                  refine gsr ?_
                  refine gp (r_bool (c := true) zmv g9) ?_
                  refine gnt ?_
                  refine gc_condT rfl rfl ?_
                  refine gsr ?_
                  refine gp zmv ?_
                  refine gp (zcat (a := s) (b := [10]) (hl := by simp; omega)) ?_
                  refine zc ?_ (c := fun w1 F1 F2 h1 h2 hd hst => sparse_ok (s := s ++ [10]) h1 (hE.mv hst.still))
                  rintro ⟨a81, c81⟩
                  rw [hpe, hpo]
                  refine gp zmv ?_
                  refine gp zex ?_
                  refine gp zex ?_
                  refine gp zas ?_
                  refine gp zas ?_
                  refine gnt ?_
                  refine gsr ?_
                  refine gp zmv ?_
                  refine gp (r_bool (c := false) (r_nenil (k := 0) rfl (by kernel_rfl)) rfl) ?_
                  refine gp zmv ?_
                  refine gq zmv ?_
                  refine gq zmv ?_
                  refine gq zmv ?_
                  refine gq zln ?_
                  refine gq (r_int (j := (k : Int)) zsb (by omega)) ?_
                  refine gl_fact (fun w' hw => (hw.rowLe (e := 44) (size := 6) (a := a54) (m := k + 1) (c := c54) (by repeat (first | exact Pick.here | apply Pick.there))).1) (fun hc54 => ?_)
                  refine gq (r_slice_slice (a := a54) (m := k + 1) (c := c54) (l := k) (h := k + 1) rfl Ty.sl_28 Ty.sz_44 ⟨_, rfl⟩ rfl (by omega) hc54) ?_
                  refine zc (fun _ => ?_) (c := fun w1 F1 F2 h1 h2 hd hst => lsame_ok (l := [refPlain x2]) h1 (ls_rd h2 hd (by repeat (first | exact Pick.here | apply Pick.there))) (rd_last (css := css) (d := [.int .i64 (refPlain x2).kind, .int .i64 (refPlain x2).node, .int .i64 (refPlain x2).n, .slice ap1 (refPlain x2).set.length cp1, .slice ap2 (refPlain x2).keep.length cp2, .slice ap3 (refPlain x2).data.length cp3]) (rd_row h2 hd (by repeat (first | exact Pick.here | apply Pick.there))) rfl hcl (fun c hc => (List.mem_append.1 hc).elim (hwr.2.1 c) (fun h => by rw [List.mem_singleton.1 h]; rfl)) hc54 (RdK.mv hd52 hst.still)))
                  refine gq (r_bool (c := false) znt (rfl)) ?_
                  refine gp zpk ?_
                  refine gnt ?_
                  refine gc_condF rfl rfl ?_
                  refine gc_skip ?_
                  refine gx_block_normal ?_
                  refine gx_then ?_
                  refine gc_region ?_
                  refine gp zad ?_
                  refine gp zmv ?_
                  refine gl_nil ?_
                  refine zrd ((k + 1, ((true && rightP x2), ((a54, c54), css ++ [([.int .i64 (refPlain x2).kind, .int .i64 (refPlain x2).node, .int .i64 (refPlain x2).n, .slice ap1 (refPlain x2).set.length cp1, .slice ap2 (refPlain x2).keep.length cp2, .slice ap3 (refPlain x2).data.length cp3] : List Value)])))) ?_ ?_
                  · show n - (k + 1) < n - k
                    omega
                  · have e : (css ++ [([.int .i64 (refPlain x2).kind, .int .i64 (refPlain x2).node, .int .i64 (refPlain x2).n, .slice ap1 (refPlain x2).set.length cp1, .slice ap2 (refPlain x2).keep.length cp2, .slice ap3 (refPlain x2).data.length cp3] : List Value)]).flatten = css.flatten ++ ([.int .i64 (refPlain x2).kind, .int .i64 (refPlain x2).node, .int .i64 (refPlain x2).n, .slice ap1 (refPlain x2).set.length cp1, .slice ap2 (refPlain x2).keep.length cp2, .slice ap3 (refPlain x2).data.length cp3] : List Value) := by simp
                    simp only [e]
                    exact zlp (show k + 1 ≤ n ∧ (true && rightP x2) = (l.take (k + 1)).all rightP ∧ WantR w (fun k => ¬ F k) (css ++ [([.int .i64 (refPlain x2).kind, .int .i64 (refPlain x2).node, .int .i64 (refPlain x2).n, .slice ap1 (refPlain x2).set.length cp1, .slice ap2 (refPlain x2).keep.length cp2, .slice ap3 (refPlain x2).data.length cp3] : List Value)]) ((l.take (k + 1)).map refPlain) ∧ ∀ o ∈ l.take (k + 1), o.data.length ≤ 200 from ⟨by omega, by rw [all_snoc htk, ← hrt], by rw [htk, List.map_append]; exact hwr.snoc hd52, fun o ho => by rw [htk] at ho; rcases List.mem_append.1 ho with h' | h'; exact hdd o h'; (rw [List.mem_singleton] at h'; subst h'; omega)⟩)
                · have g9' : rightP x2 = false := by simpa using g9
                  have hz : linP x2 = none := by have := right_lin (o := x2) (by omega); rw [g9'] at this; simpa using this
                  refine gc_region ?_
                  refine gp zL ?_
                  refine zc (fun _ => ?_) (c := fun w1 F1 F2 h1 h2 hd hst => sline_ok (o := x2) h1 (RdK.mv hrk hst.still) (by omega) hxw (hT.mv hst.still) (hE.mv hst.still))
                  rw [(lin_none hz).1, (lin_none hz).2]
                  refine gp zmv ?_
                  refine gp zex ?_
                  refine gp zex ?_
                  refine gp zas ?_
                  refine gp zas ?_
                  refine gnt ?_
                  refine gc_seq ?_
                  refine gsr ?_
                  refine gp (r_bool (c := false) zmv g9') ?_
                  refine gp zmv ?_
                  refine gp (r_bool (c := false) (r_eqnil (k := 4) rfl (by kernel_rfl)) rfl) ?_
                  refine gp (r_bool (c := false) (r_neq_bool (ht := Ty.un_4)) rfl) ?_
                  refine gp zmv ?_
                  refine gq (r_bool (c := false) zmv g9') ?_
                  refine gq (r_bool (c := true) znt (rfl)) ?_
                  refine gq zmv ?_
                  refine gq zmv ?_
                  refine gq (r_bool (c := false) zns (rfl)) ?_
                  refine gq zmv ?_
                  refine gq zmv ?_
                  refine zc (fun _ => ?_) (c := fun w1 F1 F2 h1 h2 hd hst => errNum_ok (n := 4) h1 (hN.mv hst.still) (by decide))
                  refine gq (r_bool (c := false) zni (rfl)) ?_
                  refine gq zpk ?_
                  refine gq zpk ?_
                  refine gp zpk ?_
                  refine gnt ?_
                  refine gc_condF rfl rfl ?_
                  refine gc_skip ?_
                  refine gx_then ?_
                  refine gsr ?_
                  refine gp (r_bool (c := false) zmv g9') ?_
                  refine gnt ?_
                  refine gc_condF rfl rfl ?_
                  refine gc_skip ?_
                  refine gx_block_normal ?_
                  refine gx_then ?_
                  refine gc_region ?_
                  refine gp zad ?_
                  refine gp zmv ?_
                  refine gl_nil ?_
                  refine zrd ((k + 1, ((true && rightP x2), ((a54, c54), css ++ [([.int .i64 (refPlain x2).kind, .int .i64 (refPlain x2).node, .int .i64 (refPlain x2).n, .slice ap1 (refPlain x2).set.length cp1, .slice ap2 (refPlain x2).keep.length cp2, .slice ap3 (refPlain x2).data.length cp3] : List Value)])))) ?_ ?_
                  · show n - (k + 1) < n - k
                    omega
                  · have e : (css ++ [([.int .i64 (refPlain x2).kind, .int .i64 (refPlain x2).node, .int .i64 (refPlain x2).n, .slice ap1 (refPlain x2).set.length cp1, .slice ap2 (refPlain x2).keep.length cp2, .slice ap3 (refPlain x2).data.length cp3] : List Value)]).flatten = css.flatten ++ ([.int .i64 (refPlain x2).kind, .int .i64 (refPlain x2).node, .int .i64 (refPlain x2).n, .slice ap1 (refPlain x2).set.length cp1, .slice ap2 (refPlain x2).keep.length cp2, .slice ap3 (refPlain x2).data.length cp3] : List Value) := by simp
                    simp only [e]
                    exact zlp (show k + 1 ≤ n ∧ (true && rightP x2) = (l.take (k + 1)).all rightP ∧ WantR w (fun k => ¬ F k) (css ++ [([.int .i64 (refPlain x2).kind, .int .i64 (refPlain x2).node, .int .i64 (refPlain x2).n, .slice ap1 (refPlain x2).set.length cp1, .slice ap2 (refPlain x2).keep.length cp2, .slice ap3 (refPlain x2).data.length cp3] : List Value)]) ((l.take (k + 1)).map refPlain) ∧ ∀ o ∈ l.take (k + 1), o.data.length ≤ 200 from ⟨by omega, by rw [all_snoc htk, ← hrt], by rw [htk, List.map_append]; exact hwr.snoc hd52, fun o ho => by rw [htk] at ho; rcases List.mem_append.1 ho with h' | h'; exact hdd o h'; (rw [List.mem_singleton] at h'; subst h'; omega)⟩)
              · obtain rfl : rt = false := by simpa using g4
                refine gc_region ?_
                refine gp zmv ?_
                refine gp zmv ?_
                refine gn ?_
                refine gp zpk ?_
                refine gp zas ?_
                refine gnt ?_
                refine gsr ?_
                refine gp zmv ?_
                refine gp zL ?_
                refine zc (fun d52 => ?_) (c := fun w1 F1 F2 h1 h2 hd hst => rplain_ok (w' := w) (A := (fun k => ¬ F k)) (o := x2) h1 hrk)
                refine gl_pureR (fun hd52 => ?_)
                have hd52k := hd52
                obtain ⟨ap1, ap2, ap3, cp1, cp2, cp3, rfl, ⟨hsp, hscp⟩, ⟨hkp, hkcp⟩, hdp, hdcp⟩ := hd52k
                have hdl52 : List.length ([.int .i64 (refPlain x2).kind, .int .i64 (refPlain x2).node, .int .i64 (refPlain x2).n, .slice ap1 (refPlain x2).set.length cp1, .slice ap2 (refPlain x2).keep.length cp2, .slice ap3 (refPlain x2).data.length cp3] : List Value) = 6 := rfl
                refine zeN fun b53 => ?_
                refine zapo (m := k) (j := 1) (fun a54 c54 => ?_)
                refine gp zas ?_
                refine gnt ?_
                refine gc_seq ?_
                by_cases g9 : rightP x2 = true
                · obtain ⟨s, hs⟩ := right_some (o := x2) (by omega) g9
                  have hsl := lin_len2 hs (by omega)
                  have hpar := one_par hs
                  obtain ⟨hpe, hpo⟩ := par_some (s := s ++ [10]) (by simp; omega) hpar
                  refine gc_region ?_
                  refine gp zL ?_
                  refine zc (fun _ => ?_) (c := fun w1 F1 F2 h1 h2 hd hst => sline_ok (o := x2) h1 (RdK.mv hrk hst.still) (by omega) hxw (hT.mv hst.still) (hE.mv hst.still))
                  rw [(lin_is hs).1, (lin_is hs).2]
                  refine gp zmv ?_
                  refine gp zex ?_
                  refine gp zex ?_
                  refine gp zas ?_
                  refine gp zas ?_
                  refine gnt ?_
                  refine gc_seq ?_
                  refine gsr ?_
                  refine gp (r_bool (c := true) zmv g9) ?_
                  refine gp zmv ?_
                  refine gp (r_bool (c := true) (r_eqnil (k := 0) rfl (by kernel_rfl)) rfl) ?_
                  refine gp (r_bool (c := false) (r_neq_bool (ht := Ty.un_4)) rfl) ?_
                  refine gp zmv ?_
                  refine gq (r_bool (c := true) zmv g9) ?_
                  refine gq (r_bool (c := false) znt (rfl)) ?_
                  refine gq zmv ?_
                  refine gn ?_
                  refine gn ?_
                  refine gn ?_
                  refine gn ?_
                  refine gn ?_
                  refine gn ?_
                  refine gn ?_
                  refine gq zpk ?_
                  refine gp zpk ?_
                  refine gnt ?_
                  refine gc_condF rfl rfl ?_
                  refine gc_skip ?_
                  refine gx_then ?_
                  refine gsr ?_
                  refine gp (r_bool (c := true) zmv g9) ?_
                  refine gnt ?_
                  refine gc_condT rfl rfl ?_
                  refine gsr ?_
                  refine gp zmv ?_
                  refine gp (zcat (a := s) (b := [10]) (hl := by simp; omega)) ?_
                  refine zc ?_ (c := fun w1 F1 F2 h1 h2 hd hst => sparse_ok (s := s ++ [10]) h1 (hE.mv hst.still))
                  rintro ⟨a81, c81⟩
                  rw [hpe, hpo]
                  refine gp zmv ?_
                  refine gp zex ?_
                  refine gp zex ?_
                  refine gp zas ?_
                  refine gp zas ?_
                  refine gnt ?_
                  refine gsr ?_
                  refine gp zmv ?_
                  refine gp (r_bool (c := false) (r_nenil (k := 0) rfl (by kernel_rfl)) rfl) ?_
                  refine gp zmv ?_
                  refine gq zmv ?_
                  refine gq zmv ?_
                  refine gq zmv ?_
                  refine gq zln ?_
                  refine gq (r_int (j := (k : Int)) zsb (by omega)) ?_
                  refine gl_fact (fun w' hw => (hw.rowLe (e := 44) (size := 6) (a := a54) (m := k + 1) (c := c54) (by repeat (first | exact Pick.here | apply Pick.there))).1) (fun hc54 => ?_)
                  refine gq (r_slice_slice (a := a54) (m := k + 1) (c := c54) (l := k) (h := k + 1) rfl Ty.sl_28 Ty.sz_44 ⟨_, rfl⟩ rfl (by omega) hc54) ?_
                  refine zc (fun _ => ?_) (c := fun w1 F1 F2 h1 h2 hd hst => lsame_ok (l := [refPlain x2]) h1 (ls_rd h2 hd (by repeat (first | exact Pick.here | apply Pick.there))) (rd_last (css := css) (d := [.int .i64 (refPlain x2).kind, .int .i64 (refPlain x2).node, .int .i64 (refPlain x2).n, .slice ap1 (refPlain x2).set.length cp1, .slice ap2 (refPlain x2).keep.length cp2, .slice ap3 (refPlain x2).data.length cp3]) (rd_row h2 hd (by repeat (first | exact Pick.here | apply Pick.there))) rfl hcl (fun c hc => (List.mem_append.1 hc).elim (hwr.2.1 c) (fun h => by rw [List.mem_singleton.1 h]; rfl)) hc54 (RdK.mv hd52 hst.still)))
                  refine gq (r_bool (c := false) znt (rfl)) ?_
                  refine gp zpk ?_
                  refine gnt ?_
                  refine gc_condF rfl rfl ?_
                  refine gc_skip ?_
                  refine gx_block_normal ?_
                  refine gx_then ?_
                  refine gc_region ?_
                  refine gp zad ?_
                  refine gp zmv ?_
                  refine gl_nil ?_
                  refine zrd ((k + 1, ((false && rightP x2), ((a54, c54), css ++ [([.int .i64 (refPlain x2).kind, .int .i64 (refPlain x2).node, .int .i64 (refPlain x2).n, .slice ap1 (refPlain x2).set.length cp1, .slice ap2 (refPlain x2).keep.length cp2, .slice ap3 (refPlain x2).data.length cp3] : List Value)])))) ?_ ?_
                  · show n - (k + 1) < n - k
                    omega
                  · have e : (css ++ [([.int .i64 (refPlain x2).kind, .int .i64 (refPlain x2).node, .int .i64 (refPlain x2).n, .slice ap1 (refPlain x2).set.length cp1, .slice ap2 (refPlain x2).keep.length cp2, .slice ap3 (refPlain x2).data.length cp3] : List Value)]).flatten = css.flatten ++ ([.int .i64 (refPlain x2).kind, .int .i64 (refPlain x2).node, .int .i64 (refPlain x2).n, .slice ap1 (refPlain x2).set.length cp1, .slice ap2 (refPlain x2).keep.length cp2, .slice ap3 (refPlain x2).data.length cp3] : List Value) := by simp
                    simp only [e]
                    exact zlp (show k + 1 ≤ n ∧ (false && rightP x2) = (l.take (k + 1)).all rightP ∧ WantR w (fun k => ¬ F k) (css ++ [([.int .i64 (refPlain x2).kind, .int .i64 (refPlain x2).node, .int .i64 (refPlain x2).n, .slice ap1 (refPlain x2).set.length cp1, .slice ap2 (refPlain x2).keep.length cp2, .slice ap3 (refPlain x2).data.length cp3] : List Value)]) ((l.take (k + 1)).map refPlain) ∧ ∀ o ∈ l.take (k + 1), o.data.length ≤ 200 from ⟨by omega, by rw [all_snoc htk, ← hrt], by rw [htk, List.map_append]; exact hwr.snoc hd52, fun o ho => by rw [htk] at ho; rcases List.mem_append.1 ho with h' | h'; exact hdd o h'; (rw [List.mem_singleton] at h'; subst h'; omega)⟩)
                · have g9' : rightP x2 = false := by simpa using g9
                  have hz : linP x2 = none := by have := right_lin (o := x2) (by omega); rw [g9'] at this; simpa using this
                  refine gc_region ?_
                  refine gp zL ?_
                  refine zc (fun _ => ?_) (c := fun w1 F1 F2 h1 h2 hd hst => sline_ok (o := x2) h1 (RdK.mv hrk hst.still) (by omega) hxw (hT.mv hst.still) (hE.mv hst.still))
                  rw [(lin_none hz).1, (lin_none hz).2]
                  refine gp zmv ?_
                  refine gp zex ?_
                  refine gp zex ?_
                  refine gp zas ?_
                  refine gp zas ?_
                  refine gnt ?_
                  refine gc_seq ?_
                  refine gsr ?_
                  refine gp (r_bool (c := false) zmv g9') ?_
                  refine gp zmv ?_
                  refine gp (r_bool (c := false) (r_eqnil (k := 4) rfl (by kernel_rfl)) rfl) ?_
                  refine gp (r_bool (c := false) (r_neq_bool (ht := Ty.un_4)) rfl) ?_
                  refine gp zmv ?_
                  refine gq (r_bool (c := false) zmv g9') ?_
                  refine gq (r_bool (c := true) znt (rfl)) ?_
                  refine gq zmv ?_
                  refine gq zmv ?_
                  refine gq (r_bool (c := false) zns (rfl)) ?_
                  refine gq zmv ?_
                  refine gq zmv ?_
                  refine zc (fun _ => ?_) (c := fun w1 F1 F2 h1 h2 hd hst => errNum_ok (n := 4) h1 (hN.mv hst.still) (by decide))
                  refine gq (r_bool (c := false) zni (rfl)) ?_
                  refine gq zpk ?_
                  refine gq zpk ?_
                  refine gp zpk ?_
                  refine gnt ?_
                  refine gc_condF rfl rfl ?_
                  refine gc_skip ?_
                  refine gx_then ?_
                  refine gsr ?_
                  refine gp (r_bool (c := false) zmv g9') ?_
                  refine gnt ?_
                  refine gc_condF rfl rfl ?_
                  refine gc_skip ?_
                  refine gx_block_normal ?_
                  refine gx_then ?_
                  refine gc_region ?_
                  refine gp zad ?_
                  refine gp zmv ?_
                  refine gl_nil ?_
                  refine zrd ((k + 1, ((false && rightP x2), ((a54, c54), css ++ [([.int .i64 (refPlain x2).kind, .int .i64 (refPlain x2).node, .int .i64 (refPlain x2).n, .slice ap1 (refPlain x2).set.length cp1, .slice ap2 (refPlain x2).keep.length cp2, .slice ap3 (refPlain x2).data.length cp3] : List Value)])))) ?_ ?_
                  · show n - (k + 1) < n - k
                    omega
                  · have e : (css ++ [([.int .i64 (refPlain x2).kind, .int .i64 (refPlain x2).node, .int .i64 (refPlain x2).n, .slice ap1 (refPlain x2).set.length cp1, .slice ap2 (refPlain x2).keep.length cp2, .slice ap3 (refPlain x2).data.length cp3] : List Value)]).flatten = css.flatten ++ ([.int .i64 (refPlain x2).kind, .int .i64 (refPlain x2).node, .int .i64 (refPlain x2).n, .slice ap1 (refPlain x2).set.length cp1, .slice ap2 (refPlain x2).keep.length cp2, .slice ap3 (refPlain x2).data.length cp3] : List Value) := by simp
                    simp only [e]
                    exact zlp (show k + 1 ≤ n ∧ (false && rightP x2) = (l.take (k + 1)).all rightP ∧ WantR w (fun k => ¬ F k) (css ++ [([.int .i64 (refPlain x2).kind, .int .i64 (refPlain x2).node, .int .i64 (refPlain x2).n, .slice ap1 (refPlain x2).set.length cp1, .slice ap2 (refPlain x2).keep.length cp2, .slice ap3 (refPlain x2).data.length cp3] : List Value)]) ((l.take (k + 1)).map refPlain) ∧ ∀ o ∈ l.take (k + 1), o.data.length ≤ 200 from ⟨by omega, by rw [all_snoc htk, ← hrt], by rw [htk, List.map_append]; exact hwr.snoc hd52, fun o ho => by rw [htk] at ho; rcases List.mem_append.1 ho with h' | h'; exact hdd o h'; (rw [List.mem_singleton] at h'; subst h'; omega)⟩)
      · try simp only at hc25
        have hk' : k = n := by omega
        subst hk'
        rw [hn, List.take_of_length_le (Nat.le_refl _)] at hrt hwr hdd
        have hok : ∀ o ∈ l, o.data.length ≤ 65535 ∧ WfO o := fun o ho => ⟨by have := hdd o ho; omega, hwf o ho⟩
        have hlr := lins_right (l := l) fun o ho => (hok o ho).1
        refine gc_exit ?_
        refine gx_then_exit ?_
        refine gx_round_exit ?_
        refine gx_block_hit ?_
        refine gx_then ?_
        refine gc_seq ?_
        by_cases g7 : l.all rightP = true
        · rw [g7] at hlr hrt
          subst hrt
          obtain ⟨ls, hls⟩ := Option.isSome_iff_exists.1 hlr
          have htot := lins_tot hdd hls
          obtain ⟨hte, hto⟩ := tex_is hls (by omega)
          have htl := textB_len ls
          have hpar := text_parse hls
          rw [lins_plain hls] at hpar
          obtain ⟨hpe, hpo⟩ := par_some (s := textB ls) (by omega) hpar
          refine gc_region ?_
          refine gp zmv ?_
          refine zc (fun _ => ?_) (c := fun w1 F1 F2 h1 h2 hd hst => stext_ok (l := l) h1 (RdList.mv hl hst.still fun _ _ h => RdK.mv h hst.still) hok (hT.mv hst.still) (hE.mv hst.still))
          rw [hte, hto]
          refine gp zmv ?_
          refine gp zex ?_
          refine gp zex ?_
          refine gp zas ?_
          refine gp zas ?_
          refine gnt ?_
          refine gc_seq ?_
          refine gsr ?_
          refine gp zmv ?_
          refine gp (r_bool (c := false) znt (rfl)) ?_
          refine gnt ?_
          refine gc_condF rfl rfl ?_
          refine gc_skip ?_
          refine gx_then ?_
          refine gsr ?_
          refine gp zmv ?_
          refine zc ?_ (c := fun w1 F1 F2 h1 h2 hd hst => sparse_ok (s := textB ls) h1 (hE.mv hst.still))
          rintro ⟨a113, c113⟩
          rw [hpe, hpo]
          refine gp zmv ?_
          refine gp zex ?_
          refine gp zex ?_
          refine gp zas ?_
          refine gp zas ?_
          refine gnt ?_
          refine gsr ?_
          refine gp zmv ?_
          refine gp (r_bool (c := true) (r_eqnil (k := 0) rfl (by kernel_rfl)) rfl) ?_
          refine gp zmv ?_
          refine gq zmv ?_
          refine gq (r_bool (c := true) (r_eqnil (k := 0) rfl (by kernel_rfl)) rfl) ?_
          refine gp zpk ?_
          refine gp zmv ?_
          refine gq zmv ?_
          refine gq zmv ?_
          refine zc (fun _ => ?_) (c := fun w1 F1 F2 h1 h2 hd hst => lsame_ok (l := l.map refPlain) h1 (ls_rd h2 hd (by repeat (first | exact Pick.here | apply Pick.there))) (hwr.list hst.still (rd_row h2 hd (by repeat (first | exact Pick.here | apply Pick.there)))))
          refine gp zpk ?_
          refine gp zas ?_
          refine gnt ?_
          refine gc_ret ?_
          refine gx_ret1 rfl (by conv => lhs; whnf) ?_
          exact ze ()
        · have g7' : l.all rightP = false := by simpa using g7
          rw [g7'] at hlr hrt
          subst hrt
          have hln : linsP l = none := by simpa using hlr
          obtain ⟨hte, hto⟩ := tex_none hln
          refine gc_region ?_
          refine gp zmv ?_
          refine zc (fun _ => ?_) (c := fun w1 F1 F2 h1 h2 hd hst => stext_ok (l := l) h1 (RdList.mv hl hst.still fun _ _ h => RdK.mv h hst.still) hok (hT.mv hst.still) (hE.mv hst.still))
          rw [hte, hto]
          refine gp zmv ?_
          refine gp zex ?_
          refine gp zex ?_
          refine gp zas ?_
          refine gp zas ?_
          refine gnt ?_
          refine gc_seq ?_
          refine gsr ?_
          refine gp zmv ?_
          refine gp (r_bool (c := true) znt (rfl)) ?_
          refine gnt ?_
          refine gc_condT rfl rfl ?_
          refine gsr ?_
          refine gp zmv ?_
          refine gp (r_bool (c := true) zes (rfl)) ?_
          refine gp zmv ?_
          refine gq zmv ?_
          refine zc (fun _ => ?_) (c := fun w1 F1 F2 h1 h2 hd hst => errNum_ok (n := 4) h1 (hN.mv hst.still) (by decide))
          refine gq (r_bool (c := true) zei (rfl)) ?_
          refine gp zpk ?_
          refine gp zas ?_
          refine gnt ?_
          refine gc_ret ?_
          refine gx_then_ret ?_
          refine gx_ret1 rfl (by conv => lhs; whnf) ?_
          exact ze ()

end Go.Proofs.YthicckleihbomaaDoor

/- The shell, part T: a script's ops, with their numbers' ranges. -/
namespace Go.Proofs.YthicckleihbomaaDoor
open Go
set_option linter.unusedVariables false
section
variable {H : Type} {enc : TypeId × Value → H} {w : World} {base : Nat} {sp : Nat → Bool} {held : Bool}
def RdOpW (w : World) (A : Nat → Prop) (cs : List Value) (o : OpS) : Prop := RdOpS w A cs o ∧ WfO o
theorem o_ints64 : Opens enc Tryd.prog w base sp held 34 (fun cs l => ∃ a n c, cs = [.slice a n c] ∧ n ≤ c ∧ RdList (fun c n => c = [Value.int .i64 n] ∧ Int64 n) w TT 1 a n l) := opens_slice (s := 1) Ty.sl_34 Ty.sz_3 (by decide) (opens_i64 Ty.un_3)
theorem o_opW : Opens enc Tryd.prog w base sp held 38 (RdOpW w TT) := fun fuel cs x h => by
  have hl := opens_lenT (i := 0) (f := 3) (o := 0) (s := 6) (by kernel_rfl) (by kernel_rfl) h
  obtain ⟨n0, h0⟩ := opens_fieldT (i := 0) (f := 3) (o := 0) (s := 1) (by kernel_rfl) (by kernel_rfl) (opens_int Ty.un_3) h
  obtain ⟨n1, h1, i1⟩ := opens_fieldT (i := 1) (f := 3) (o := 1) (s := 1) (by kernel_rfl) (by kernel_rfl) (opens_i64 Ty.un_3) h
  obtain ⟨n2, h2, i2⟩ := opens_fieldT (i := 2) (f := 3) (o := 2) (s := 1) (by kernel_rfl) (by kernel_rfl) (opens_i64 Ty.un_3) h
  obtain ⟨l3, a3, m3, c3, h3, k3, r3⟩ := opens_fieldT (i := 3) (f := 34) (o := 3) (s := 1) (by kernel_rfl) (by kernel_rfl) o_ints64 h
  obtain ⟨l4, a4, m4, c4, h4, k4, r4⟩ := opens_fieldT (i := 4) (f := 35) (o := 4) (s := 1) (by kernel_rfl) (by kernel_rfl) o_rbools h
  obtain ⟨l5, a5, m5, c5, h5, k5, r5⟩ := opens_fieldT (i := 5) (f := 36) (o := 5) (s := 1) (by kernel_rfl) (by kernel_rfl) o_rbytes h
  have e0 := seg cs 0 1
  have e1 := seg cs 1 1
  have e2 := seg cs 2 1
  have e3 := seg cs 3 1
  have e4 := seg cs 4 1
  have e5 := seg cs 5 1
  have ee := drop_all hl
  have e : cs = _ := (List.drop_zero (l := cs)).symm.trans e0
  simp only [Nat.reduceAdd, Nat.zero_add] at e e1 e2 e3 e4 e5
  rw [h0, e1, h1, e2, h2, e3, h3, e4, h4, e5, h5, ee] at e
  obtain ⟨hr3, hw3⟩ := r3.and
  have hs3 := rd_rowL hr3
  have f3 : m3 = l3.length := by have := hs3.1; simp at this; omega
  have f4 : m4 = l4.length := by have := r4.1; simp at this; omega
  have f5 : m5 = l5.length := by have := r5.1; simp at this; omega
  subst f3; subst f4; subst f5
  exact ⟨⟨n0, n1, n2, l3, l4, l5⟩, ⟨a3, a4, a5, c3, c4, c5, e, ⟨hs3, k3⟩, ⟨r4, k4⟩, r5, k5⟩, i2, i1, hw3⟩
def RdOpsW (w : World) (A : Nat → Prop) (cs : List Value) (l : List OpS) : Prop := ∃ a n c, cs = [.slice a n c] ∧ n ≤ c ∧ RdList (RdOpW w A) w A 6 a n l
theorem o_opsW : Opens enc Tryd.prog w base sp held 23 (RdOpsW w TT) := opens_slice (s := 6) Ty.sl_23 Ty.sz_38 (by decide) o_opW
theorem opsW_list {a : Option Addr} {n c : Nat} {l : List OpS} (h : RdOpsW w TT [.slice a n c] l) : RdList (fun c o => RdOpS w (fun k => ¬ (fun _ : Nat => False) k) c o ∧ WfO o) w (fun k => ¬ (fun _ : Nat => False) k) 6 a n l := by
  obtain ⟨a', n', c', e, _, hr⟩ := h
  injection e with e _
  injection e with e1 e2 e3
  subst e1; subst e2
  exact RdList.mv hr still_id fun c o ho => ⟨RdK.mv ho.1 still_id, ho.2⟩
end
end Go.Proofs.YthicckleihbomaaDoor

/- ScriptTexts: for every input the law returns true, and the input reads as it did: the row and its card. -/
namespace Go.Proofs.YthicckleihbomaaDoor
open Go
open Go.ChangeShapes Go.WideShapes Go.ChangeAt Go.RowKit
set_option linter.unusedVariables false

/-- One world that fits: the settled one, the listed variables as their initialisers lay them. -/
noncomputable def scriptTexts_world (os : Os) : World :=
  let w0 := World.holding Tryd.prog os ⟨#[.cells #[.string ⟨#[113, 117, 111, 114, 97, 116, 101, 58, 32, 114, 97, 110, 103, 101]⟩] 175, .cells #[.string ⟨#[113, 117, 111, 114, 97, 116, 101, 58, 32, 115, 104, 111, 114, 116]⟩] 175, .cells #[.string ⟨#[113, 117, 111, 114, 97, 116, 101, 58, 32, 108, 111, 110, 103]⟩] 175, .cells #[.string ⟨#[113, 117, 111, 114, 97, 116, 101, 58, 32, 102, 111, 114, 109]⟩] 175, .cells #[.string ⟨#[113, 117, 111, 114, 97, 116, 101, 58, 32, 115, 112, 101, 110, 116]⟩] 175, .cells #[.string ⟨#[113, 117, 111, 114, 97, 116, 101, 58, 32, 112, 111, 119, 101, 114]⟩] 175, .cells #[.string ⟨#[113, 117, 111, 114, 97, 116, 101, 58, 32, 100, 105, 115, 107]⟩] 175, .cells #[.string ⟨#[113, 117, 111, 114, 97, 116, 101, 58, 32, 102, 117, 108, 108]⟩] 175, .cells #[.string ⟨#[113, 117, 111, 114, 97, 116, 101, 58, 32, 110, 111, 110, 101]⟩] 175, .cells #[.string ⟨#[113, 117, 111, 114, 97, 116, 101, 58, 32, 111, 108, 100]⟩] 175, .cells #[.string ⟨#[113, 117, 111, 114, 97, 116, 101, 58, 32, 115, 101, 116]⟩] 175, .cells #[.string ⟨#[113, 117, 111, 114, 97, 116, 101, 58, 32, 112, 114, 111, 111, 102]⟩] 175, .cells #[.string ⟨#[113, 117, 111, 114, 97, 116, 101, 58, 32, 108, 101, 97, 100, 101, 114]⟩] 175, .cells #[.string ⟨#[113, 117, 111, 114, 97, 116, 101, 58, 32, 114, 111, 117, 110, 100]⟩] 175, .cells #[.string ⟨#[113, 117, 111, 114, 97, 116, 101, 58, 32, 117, 110, 115, 97, 102, 101]⟩] 175, .cells #[.string ⟨#[113, 117, 111, 114, 97, 116, 101, 58, 32, 112, 97, 114, 101, 110, 116]⟩] 175, .cells #[.string ⟨#[113, 117, 111, 114, 97, 116, 101, 58, 32, 116, 119, 105, 99, 101]⟩] 175, .cells #[.string ⟨#[113, 117, 111, 114, 97, 116, 101, 58, 32, 101, 112, 111, 99, 104]⟩] 175], #[], []⟩
  { w0 with heap := ((((((((((((((((((((((w0.heap.modify 2 fun
      | .cells _ t fz => .cells #[.iface 153 (.pointer (some ⟨lowB + 0, 0, none⟩))] t fz
      | o => o).modify 3 fun
      | .cells _ t fz => .cells #[.iface 153 (.pointer (some ⟨lowB + 1, 0, none⟩))] t fz
      | o => o).modify 0 fun
      | .cells _ t fz => .cells #[.iface 153 (.pointer (some ⟨lowB + 2, 0, none⟩))] t fz
      | o => o).modify 1 fun
      | .cells _ t fz => .cells #[.iface 153 (.pointer (some ⟨lowB + 3, 0, none⟩))] t fz
      | o => o).modify 4 fun
      | .cells _ t fz => .cells #[.iface 153 (.pointer (some ⟨lowB + 4, 0, none⟩))] t fz
      | o => o).modify 5 fun
      | .cells _ t fz => .cells #[.iface 153 (.pointer (some ⟨lowB + 5, 0, none⟩))] t fz
      | o => o).modify 6 fun
      | .cells _ t fz => .cells #[.iface 153 (.pointer (some ⟨lowB + 6, 0, none⟩))] t fz
      | o => o).modify 7 fun
      | .cells _ t fz => .cells #[.iface 153 (.pointer (some ⟨lowB + 7, 0, none⟩))] t fz
      | o => o).modify 8 fun
      | .cells _ t fz => .cells #[.iface 153 (.pointer (some ⟨lowB + 8, 0, none⟩))] t fz
      | o => o).modify 9 fun
      | .cells _ t fz => .cells #[.iface 153 (.pointer (some ⟨lowB + 9, 0, none⟩))] t fz
      | o => o).modify 10 fun
      | .cells _ t fz => .cells #[.iface 153 (.pointer (some ⟨lowB + 10, 0, none⟩))] t fz
      | o => o).modify 11 fun
      | .cells _ t fz => .cells #[.iface 153 (.pointer (some ⟨lowB + 11, 0, none⟩))] t fz
      | o => o).modify 12 fun
      | .cells _ t fz => .cells #[.iface 153 (.pointer (some ⟨lowB + 12, 0, none⟩))] t fz
      | o => o).modify 13 fun
      | .cells _ t fz => .cells #[.iface 153 (.pointer (some ⟨lowB + 13, 0, none⟩))] t fz
      | o => o).modify 14 fun
      | .cells _ t fz => .cells #[.iface 153 (.pointer (some ⟨lowB + 14, 0, none⟩))] t fz
      | o => o).modify 15 fun
      | .cells _ t fz => .cells #[.iface 153 (.pointer (some ⟨lowB + 15, 0, none⟩))] t fz
      | o => o).modify 16 fun
      | .cells _ t fz => .cells #[.iface 153 (.pointer (some ⟨lowB + 16, 0, none⟩))] t fz
      | o => o).modify 17 fun
      | .cells _ t fz => .cells #[.iface 153 (.pointer (some ⟨lowB + 17, 0, none⟩))] t fz
      | o => o).modify 22 fun
      | .cells _ t fz => .cells #[.int .u8 0, .int .u8 1, .int .u8 28, .int .u8 2, .int .u8 29, .int .u8 14, .int .u8 24, .int .u8 3, .int .u8 30, .int .u8 22, .int .u8 20, .int .u8 15, .int .u8 25, .int .u8 17, .int .u8 4, .int .u8 8, .int .u8 31, .int .u8 27, .int .u8 13, .int .u8 23, .int .u8 21, .int .u8 19, .int .u8 16, .int .u8 7, .int .u8 26, .int .u8 12, .int .u8 18, .int .u8 6, .int .u8 11, .int .u8 5, .int .u8 10, .int .u8 9] t fz
      | o => o).modify 23 fun
      | .cells _ t fz => .cells #[.int .u8 0, .int .u8 1, .int .u8 56, .int .u8 2, .int .u8 57, .int .u8 49, .int .u8 28, .int .u8 3, .int .u8 61, .int .u8 58, .int .u8 42, .int .u8 50, .int .u8 38, .int .u8 29, .int .u8 17, .int .u8 4, .int .u8 62, .int .u8 47, .int .u8 59, .int .u8 36, .int .u8 45, .int .u8 43, .int .u8 51, .int .u8 22, .int .u8 53, .int .u8 39, .int .u8 33, .int .u8 30, .int .u8 24, .int .u8 18, .int .u8 12, .int .u8 5, .int .u8 63, .int .u8 55, .int .u8 48, .int .u8 27, .int .u8 60, .int .u8 41, .int .u8 37, .int .u8 16, .int .u8 46, .int .u8 35, .int .u8 44, .int .u8 21, .int .u8 52, .int .u8 32, .int .u8 23, .int .u8 11, .int .u8 54, .int .u8 26, .int .u8 40, .int .u8 15, .int .u8 34, .int .u8 20, .int .u8 31, .int .u8 10, .int .u8 25, .int .u8 14, .int .u8 19, .int .u8 9, .int .u8 13, .int .u8 8, .int .u8 7, .int .u8 6] t fz
      | o => o).modify 21 fun
      | .cells _ t fz => .cells #[.int .u64 1, .int .u64 10, .int .u64 100, .int .u64 1000, .int .u64 10000, .int .u64 100000, .int .u64 1000000, .int .u64 10000000, .int .u64 100000000, .int .u64 1000000000, .int .u64 10000000000, .int .u64 100000000000, .int .u64 1000000000000, .int .u64 10000000000000, .int .u64 100000000000000, .int .u64 1000000000000000, .int .u64 10000000000000000, .int .u64 100000000000000000, .int .u64 1000000000000000000, .int .u64 10000000000000000000] t fz
      | o => o).modify 20 fun
      | .cells _ t fz => .cells #[.int .u8 128, .int .u8 191, .int .u8 160, .int .u8 191, .int .u8 128, .int .u8 159, .int .u8 144, .int .u8 191, .int .u8 128, .int .u8 143, .int .u8 0, .int .u8 0, .int .u8 0, .int .u8 0, .int .u8 0, .int .u8 0, .int .u8 0, .int .u8 0, .int .u8 0, .int .u8 0, .int .u8 0, .int .u8 0, .int .u8 0, .int .u8 0, .int .u8 0, .int .u8 0, .int .u8 0, .int .u8 0, .int .u8 0, .int .u8 0, .int .u8 0, .int .u8 0] t fz
      | o => o).modify 19 fun
      | .cells _ t fz => .cells (Pinned.utf8FirstZ.map fun z : Nat => Value.int .u8 (z : Int)).toArray t fz
      | o => o }
def scriptTexts_args : Array Value := #[.slice none 0 0]
theorem scriptTexts_laid (os : Os) (args : Array Value) : laidMet Tryd.prog Rows.scriptTextsRow.laid ((scriptTexts_world os).forCall (fun _ _ => 0) ⟨#[], args, []⟩).memory :=
  laidMet_of_run' 8 (by kernel_rfl) (by kernel_rfl)
theorem scriptTexts_reads (os : Os) {H : Type} (enc : TypeId × Value → H) : ∃ places, DataW.whole enc Tryd.prog ((scriptTexts_world os).forCall (fun _ _ => 0) ⟨#[], scriptTexts_args, []⟩).memory Tryd.f6.params.toList Rows.scriptTextsSpec.vars false scriptTexts_args.toList 8 = some ([.nil], [], places) :=
  ⟨[], by kernel_rfl⟩
set_option maxRecDepth 20000 in
theorem scriptTexts_contract (H : Type) (enc : TypeId × Value → H) (W : World) (base : Nat) (args : Array Value) (ds gs : List (DataW H)) (before : List MemPlace)
    (hval : ∀ (j : Nat) t v, Tryd.f6.params[j]? = some t → args[j]? = some v → Value.okWide Tryd.prog W .any base t v)
    (hW : DataW.Whole enc Tryd.prog Tryd.f6.params.toList Rows.scriptTextsSpec.vars false W args.toList ds gs before) (hL : laidMetH Tryd.prog Rows.scriptTextsRow.laid W) :
    Calls Tryd.prog 6 args W fun e W' => ∃ v, e = .returned v ∧ Rows.scriptTextsSpec.post enc Tryd.prog Tryd.f6 false true false false W args v W' := by
  have hW' := hW
  have hlt : ∀ p ∈ before, p.block < W.heap.size := fun p hp => hW.lt p hp
  obtain ⟨p, q, hA0, hV, rfl, hfz, hnd⟩ := hW
  have hA : DataW.TrodAll enc Tryd.prog W 0 (fun _ => true) true Tryd.f6.params.toList args.toList ds p := hA0
  rw [Tryd.params6] at hA hval
  obtain ⟨v0, vs0, d0, ds0, p0, q0, hargs, rfl, rfl, h0, r0⟩ := trodAll_cons hA
  obtain ⟨rfl, rfl, rfl⟩ := trodAll_nil r0
  obtain rfl : args = #[v0] := by cases args; simp_all
  obtain ⟨rfl, rfl⟩ := trodVars_none hV
  obtain ⟨a0, m0, c0, rfl⟩ := okWide_slice (run_sliceT Ty.sl_23) (hval 0 23 v0 rfl rfl)
  obtain ⟨x0, hx0⟩ : ∃ x, RdOpsW W TT [.slice a0 m0 c0] x := by obtain ⟨fuel, hf⟩ := h0; exact o_opsW fuel _ _ hf
  have hL' : laidMet Tryd.prog Rows.scriptTextsRow.laid W := hL
  obtain ⟨ea, hN⟩ := laid_nerr (r := [("unicode/utf8.first", Rows.laid_unicode_utf8_first)]) (show laidMet Tryd.prog (errNames.map errRow ++ [("unicode/utf8.first", Rows.laid_unicode_utf8_first)]) W from hL'.tail.tail.tail.tail)
  have hT : TenR W := laid_ten (r := [("unicode/utf8.acceptRanges", Rows.laid_unicode_utf8_acceptRanges), ("quorate/api.ErrRange", Rows.laid_quorate_api_ErrRange), ("quorate/api.ErrShort", Rows.laid_quorate_api_ErrShort), ("quorate/api.ErrLong", Rows.laid_quorate_api_ErrLong), ("quorate/api.ErrForm", Rows.laid_quorate_api_ErrForm), ("quorate/api.ErrSpent", Rows.laid_quorate_api_ErrSpent), ("quorate/api.ErrPower", Rows.laid_quorate_api_ErrPower), ("quorate/api.ErrDisk", Rows.laid_quorate_api_ErrDisk), ("quorate/api.ErrFull", Rows.laid_quorate_api_ErrFull), ("quorate/api.ErrNone", Rows.laid_quorate_api_ErrNone), ("quorate/api.ErrOld", Rows.laid_quorate_api_ErrOld), ("quorate/api.ErrSet", Rows.laid_quorate_api_ErrSet), ("quorate/api.ErrProof", Rows.laid_quorate_api_ErrProof), ("quorate/api.ErrLeader", Rows.laid_quorate_api_ErrLeader), ("quorate/api.ErrRound", Rows.laid_quorate_api_ErrRound), ("quorate/api.ErrUnsafe", Rows.laid_quorate_api_ErrUnsafe), ("quorate/api.ErrParent", Rows.laid_quorate_api_ErrParent), ("quorate/api.ErrTwice", Rows.laid_quorate_api_ErrTwice), ("quorate/api.ErrEpoch", Rows.laid_quorate_api_ErrEpoch), ("unicode/utf8.first", Rows.laid_unicode_utf8_first)]) hL'.tail.tail
  have walk := scriptTexts_ok (c := c0) no_res (opsW_list hx0) ⟨hT, id⟩ hN
  refine Calls.mono (show Calls Tryd.prog 6 #[.slice a0 m0 c0] W _ from walk) fun e W' ⟨_, he, hs⟩ => ?_
  subst he
  have bel := below_of hs
  have eF : Rows.scriptTextsSpec.fn H ([d0] ++ []) = { results := [.lit (.bool true)], args := [d0] } := rfl
  have l0 : ∀ z ∈ p0, z.block < W.heap.size := fun z hz => hlt z (by simp [hz])
  refine ⟨_, rfl, _, _, _, [], p0 ++ ([]), [], hW', ?_, ?_, ?_, bel.frame _, fun h => by cases h⟩
  · rw [eF]; exact trodAll_cons_mk (shut_bool Tryd.underlying4 _) trodAll_mk0
  · rw [eF, Tryd.params6]
    exact trodAll_cons_mk (Below.trod laidOut (by kernel_rfl) (of_decide_eq_true (by kernel_rfl)) h0 bel l0) (trodAll_mk0)
  · rw [eF]; rfl

set_option maxRecDepth 100000 in
theorem scriptTexts_lifted (os : Os) (started : os.Started) (H : Type) (enc : TypeId × Value → H) (F : Stop.Interp) :
    ReturnsInHanded {} Tryd.checked os 6 .any ((OpenSpec.ofChange Rows.scriptTextsSpec).preRow enc Tryd.prog Tryd.f6 Rows.scriptTextsRow.domain false Rows.scriptTextsRow.laid) (((OpenSpec.ofChange Rows.scriptTextsSpec).at F).post enc Tryd.prog Tryd.f6 false true false false) := by
  obtain ⟨places, hx⟩ := scriptTexts_reads os enc
  refine returnsInHanded_of_row (C := Tryd.checked) (s := OpenSpec.ofChange Rows.scriptTextsSpec) own started (by kernel_rfl) Tryd.func6
    (witness_row_atRef (enc := enc) (C := Tryd.checked) false (scriptTexts_world os) scriptTexts_args rfl (by kernel_rfl) (by kernel_rfl) (by kernel_rfl)
      (OpenSpec.preRow_of_cond 8 hx (by kernel_rfl) (fun k hk => by cases hk) (by kernel_rfl) (scriptTexts_laid os _))) ?_
  intro W base args ds gs before hval hW _ _ _ hL _ _
  exact scriptTexts_contract H enc W base args ds gs before hval hW hL

theorem scriptTexts_said : Rows.ScriptTextsSaid :=
  OpenClaim.holds_of_cond 6 Tryd.f6 rfl rfl rfl rfl rfl rfl rfl ⟨rfl, rfl, rfl, rfl, rfl⟩ rfl rfl rfl rfl rfl (by kernel_rfl) Tryd.func6 (by kernel_rfl)
    (of_decide_eq_true (by kernel_rfl)) (by unfold Func.isWrapper; first | (rw [if_pos (by decide +kernel)]; kernel_rfl) | (rw [if_neg (by decide +kernel)]; exact ⟨rfl, rfl⟩))
    (fun os started H enc _ F => by rw [OpenClaim.pre_eq_preRow]; exact scriptTexts_lifted os started H enc F)
theorem scriptTexts_plain (f : FuncId) (fn : Func) (hf : Tryd.pinned.checked.prog.funcNamed "quorate/quoratelaw23.ScriptTexts" = some f) (hfn : Tryd.pinned.checked.prog.funcs[f]? = some fn) :
    true = Tryd.pinned.checked.prog.looks [] ∧ ∀ (j : Nat) t, fn.params[j]? = some t → Tryd.pinned.checked.prog.wantsStandIn t = false := by
  obtain rfl : f = 6 := Option.some.inj ((show Tryd.prog.funcNamed "quorate/quoratelaw23.ScriptTexts" = some 6 by kernel_rfl).symm.trans hf) |>.symm
  obtain rfl : fn = Tryd.f6 := (Option.some.inj (Tryd.func6.symm.trans hfn)).symm
  refine ⟨by kernel_rfl, fun j t ht => ?_⟩
  rw [Tryd.params6] at ht
  have hm := Array.mem_of_getElem? ht
  have h : t = 23 := by simpa using hm
  subst h
  exact (show Tryd.prog.wantsStandIn 23 = false by kernel_rfl)
theorem scriptTexts_holds : Rows.ScriptTextsCardSaid :=
  Claim7.holds_tied_plain_at .later [] _ _ _ _ scriptTexts_said (fun _ h => by cases h) (by kernel_rfl) (fun _ h => by cases h) scriptTexts_row_tie rfl ⟨rfl, rfl⟩ (by kernel_rfl) rfl scriptTexts_plain (by kernel_rfl)
#print axioms scriptTexts_holds
end Go.Proofs.YthicckleihbomaaDoor

