/- Part 6. What is proved: see the last part: for every input the law returns true, and the input reads as it did. -/
import Derived.Test.YtheonhgffglegaaGreatDoorCfr5
namespace Go.Proofs.YtheonhgffglegaaGreatDoor
open Go
set_option linter.unusedVariables false
set_option linter.unusedSimpArgs false
set_option linter.unusedSectionVars false
section
def bestK (t : Tr) (k : Nat) : Dig × Int := (t.nodes.take k).foldl (fun s p => if s.2 < p.2.round then (p.1, p.2.round) else s) (t.root, -1)
theorem bestK_succ {t : Tr} {k : Nat} {p : Dig × Block} (h : t.nodes[k]? = some p) : bestK t (k + 1) = if (bestK t k).2 < p.2.round then (p.1, p.2.round) else bestK t k := by rw [bestK, takeB_snoc h, List.foldl_append]; rfl
theorem bestK_zero (t : Tr) : (t.root, (-1 : Int)) = bestK t 0 := rfl
def bestD (t : Tr) : Dig := (bestK t t.nodes.length).1
theorem bestD_def (t : Tr) : (bestK t t.nodes.length).1 = bestD t := rfl
def lineL (bs : List Block) (t : Tr) : List Block := bs ++ (pathL t (bestD t)).map (bOf t)
theorem lineL_def (bs : List Block) (t : Tr) : bs ++ (pathL t (bestD t)).map (bOf t) = lineL bs t := rfl
theorem node_lk {t : Tr} (hok : TOk t) {k : Nat} {p : Dig × Block} (h : t.nodes[k]? = some p) : lkN p.1 t.nodes = some p.2 := lkN_at hok.nd (i := k) (by rw [h])
theorem pathL_len (t : Tr) (d : Dig) : (pathL t d).length ≤ t.nodes.length := by
  unfold pathL
  rw [List.length_reverse]
  refine Nat.le_trans (List.length_filter_le _ _) ?_
  rw [List.length_map]; exact upL_len t d
theorem blkAt_take {rs : List LRec} {i : Nat} (h : i < rs.length) : (rs.map (fun r : LRec => r.b)).take (i + 1) = (rs.map (fun r : LRec => r.b)).take i ++ [blkAt rs i] := by
  have hr : rs[i]? = some (rs[i]) := List.getElem?_eq_getElem h
  rw [takeB_snoc (x := (rs[i]).b) (by rw [List.getElem?_map, hr]; rfl), blkAt_eq hr]
theorem key_at {t : Tr} {k : Nat} {p : Dig × Block} (h : t.nodes[k]? = some p) : ((keysT t).map dc)[k]? = some (dc p.1) := by rw [List.getElem?_map, keysT, List.getElem?_map, h]; rfl
def idxB (d : Dig) : Nat → List Block → Int
  | _, [] => -1
  | k, b :: l => if b.parent = d then (k : Int) else idxB d (k + 1) l
theorem idxB_at {d : Dig} : ∀ (l : List Block) (k j : Nat), (∀ i, i < j → ∀ b, l[i]? = some b → b.parent ≠ d) → j ≤ l.length → idxB d k l = idxB d (k + j) (l.drop j)
  | [], k, j, _, hj => by have : j = 0 := by simpa using hj
                          subst this; rfl
  | r :: l, k, 0, _, _ => rfl
  | r :: l, k, j + 1, h, hj => by
    have h0 := h 0 (by omega) r rfl
    have ih := idxB_at l (k + 1) j (fun i hi r' hr => h (i + 1) (by omega) r' (by simpa using hr)) (by simpa using hj)
    rw [idxB, if_neg h0, List.drop_succ_cons, ih, show k + 1 + j = k + (j + 1) by omega]
theorem idxB_hit {d : Dig} {l : List Block} {j : Nat} {r : Block} (h : ∀ i, i < j → ∀ r, l[i]? = some r → r.parent ≠ d) (hr : l[j]? = some r) (he : r.parent = d) : idxB d 0 l = (j : Int) := by
  have hlt := (List.getElem?_eq_some_iff.1 hr).1
  have hh := idxB_at l 0 j h (by omega)
  have : l.drop j = r :: l.drop (j + 1) := by rw [List.drop_eq_getElem_cons hlt, (List.getElem?_eq_some_iff.1 hr).2]
  rw [hh, Nat.zero_add, this, idxB, if_pos he]
theorem idxB_miss {d : Dig} {l : List Block} (h : ∀ i, i < l.length → ∀ r, l[i]? = some r → r.parent ≠ d) : idxB d 0 l = -1 := by
  rw [idxB_at l 0 l.length h (Nat.le_refl _), List.drop_length]; rfl
theorem idxB_cases (d : Dig) (l : List Block) : (idxB d 0 l = -1 ∧ ∀ b ∈ l, b.parent ≠ d) ∨ ∃ j r, idxB d 0 l = ((j : Nat) : Int) ∧ l[j]? = some r ∧ r.parent = d ∧ ∀ i, i < j → ∀ b, l[i]? = some b → b.parent ≠ d := by
  by_cases h : ∃ j : Nat, ∃ r, l[j]? = some r ∧ r.parent = d
  · right
    have hm : ∃ j : Nat, (∃ r, l[j]? = some r ∧ r.parent = d) ∧ ∀ i, i < j → ¬ ∃ r, l[i]? = some r ∧ r.parent = d := by
      obtain ⟨j, hj⟩ := h
      induction j using Nat.strongRecOn with
      | ind j ih =>
        by_cases hh : ∃ i, i < j ∧ ∃ r, l[i]? = some r ∧ r.parent = d
        · obtain ⟨i, hi, hr⟩ := hh; exact ih i hi hr
        · exact ⟨j, hj, fun i hi hr => hh ⟨i, hi, hr⟩⟩
    obtain ⟨j, ⟨r, hr, he⟩, hn⟩ := hm
    exact ⟨j, r, idxB_hit (fun i hi r' hr' e => hn i hi ⟨r', hr', e⟩) hr he, hr, he, fun i hi b hb e => hn i hi ⟨b, hb, e⟩⟩
  · left
    refine ⟨idxB_miss fun i _ r hr e => h ⟨i, r, hr, e⟩, fun b hb e => ?_⟩
    obtain ⟨i, hi, he⟩ := List.mem_iff_getElem.1 hb
    exact h ⟨i, b, by rw [List.getElem?_eq_getElem hi, he], e⟩
def stopB (n : Nat) (b : Block) : Prop := 0 < b.next.length ∨ n + 1 = 8
instance (n : Nat) (b : Block) : Decidable (stopB n b) := inferInstanceAs (Decidable (_ ∨ _))
def cutB : Nat → List Block → List Block
  | _, [] => []
  | n, b :: l => b :: (if stopB n b then [] else cutB (n + 1) l)
theorem cutB_run : ∀ (i n : Nat) (l : List Block), i ≤ l.length → (∀ j b, j < i → l[j]? = some b → ¬ stopB (n + j) b) → cutB n l = l.take i ++ cutB (n + i) (l.drop i)
  | 0, n, l, _, _ => by simp
  | i + 1, n, [], h, _ => by simp at h
  | i + 1, n, b :: l, h, hs => by
    have h0 : ¬ stopB n b := hs 0 b (by omega) rfl
    rw [cutB, if_neg h0, cutB_run i (n + 1) l (by simpa using h) (fun j c hj hc => by have := hs (j + 1) c (by omega) (by simpa using hc); rwa [show n + 1 + j = n + (j + 1) by omega])]
    simp [Nat.add_assoc, Nat.add_comm 1 i]
def behL (l : List Block) (d : Dig) : List Block := if idxB d 0 l < 0 then [] else cutB 0 (l.drop (idxB d 0 l).toNat)
theorem behL_none {l : List Block} {d : Dig} (h : idxB d 0 l = -1) : behL l d = [] := by unfold behL; rw [if_pos (by rw [h]; decide)]
theorem behL_some {l : List Block} {d : Dig} {j : Nat} (h : idxB d 0 l = (j : Int)) : behL l d = cutB 0 (l.drop j) := by unfold behL; rw [if_neg (by rw [h]; omega), h, Int.toNat_natCast]
theorem cut_end {l : List Block} {i : Nat} (hi : i = l.length) (hs : ∀ j b, j < i → l[j]? = some b → ¬ stopB j b) : cutB 0 l = l.take i := by
  rw [cutB_run i 0 l (by omega) (fun j b hj hb => by rw [Nat.zero_add]; exact hs j b hj hb), hi, List.drop_length]; simp [cutB]
theorem cut_stop {l : List Block} {i : Nat} {x : Block} (hx : l[i]? = some x) (hs : ∀ j b, j < i → l[j]? = some b → ¬ stopB j b) (h : stopB i x) : cutB 0 l = l.take (i + 1) := by
  have hlt := (List.getElem?_eq_some_iff.1 hx).1
  have hd : l.drop i = x :: l.drop (i + 1) := by rw [List.drop_eq_getElem_cons hlt, (List.getElem?_eq_some_iff.1 hx).2]
  rw [cutB_run i 0 l (by omega) (fun j b hj hb => by rw [Nat.zero_add]; exact hs j b hj hb), hd, takeB_snoc hx, cutB, Nat.zero_add, if_pos h]
theorem el_sub {css : List (List Value)} {l : List Block} (a n : Nat) {w : World} {F : Nat → Prop} (h : stars [ElR RdBlock css l] w F) : stars [ElR RdBlock ((css.drop a).take n) ((l.drop a).take n)] w F := by
  have h0 := h
  obtain ⟨⟨hl, h1⟩, _⟩ := stars_one' h
  refine rdR_mk ⟨by simp [hl], fun i c x hc hx => ?_⟩ h0
  rw [List.getElem?_take] at hc hx
  split at hc
  · rename_i hlt
    rw [if_pos hlt, List.getElem?_drop] at hx
    rw [List.getElem?_drop] at hc
    exact h1 (a + i) c x hc hx
  · cases hc
theorem nil_out {R : Res} {e : Nat} {bs : List Block} {w : World} {F : Nat → Prop} (h : stars [R] w F) : stars [R, rowR e 39 none 0 0 ([] : List (List Value)).flatten, ElR RdBlock [] (bs.take 0)] w F := by
  have h1 := el_nil (rd := RdBlock) h
  have h2 := stars_row_nil (e := e) (size := 39) h1
  exact Pick.stars (.there (.there .here)) h2
theorem el_nil1 {css : List (List Value)} {l : List Block} {w : World} {F : Nat → Prop} (h : stars [ElR RdBlock css l] w F) : stars [ElR RdBlock [] []] w F := by
  have := el_sub 0 0 h
  simpa using this
attribute [local irreducible] Gl Gc Gx Gs Runs Wt
attribute [local irreducible] rowR blk VlR ElR dc qcC blkC idOf ModR TreeR LedR LdR gid lineL bestK bestD pathL
set_option maxHeartbeats 4000000 in
theorem line_ok {w : World} {F : Nat → Prop} {q g : Nat} {l : LS} {tq : Nat} {t : Tr} (h : stars [LedR q g l] w F) (hx : RdTree w (fun k => ¬ F k) tq t) (hok : TOk t) (hrs : ∀ r ∈ l.rs, r.Ok) (hln : l.rs.length < 4294967296) {ea : Nat → Addr} {es : List Nat} [Has es 1] [Has es 2] [Has es 3] [Has es 4] (hE : GErr es w (fun k => ¬ F k) 251 ea)  :
    Calls Tryz.prog 11 #[.pointer (some ⟨q, 0, none⟩), .pointer (some ⟨tq, 0, none⟩)] w (Post w F (fun r : Option Addr × Nat × List (List Value) => .slice r.1 (lineL (l.rs.map (fun r : LRec => r.b)) t).length r.2.1) (fun r => [pureR (∀ c ∈ r.2.2, List.length c = 39), LedR q g l, rowR 51 39 r.1 (lineL (l.rs.map (fun r : LRec => r.b)) t).length r.2.1 r.2.2.flatten, ElR RdBlock r.2.2 (lineL (l.rs.map (fun r : LRec => r.b)) t)])) := by
 have hle := hok.le
 have hkl : (keysT t).length = t.nodes.length := by simp [keysT]
 have hd16 : ∀ (ds : List Dig), ∀ c ∈ ds.map dc, List.length c = 16 := fun ds c hc => by obtain ⟨x, _, rfl⟩ := List.mem_map.1 hc; exact dc_length x
 have hpl := pathL_len t (bestD t)
 refine g_enterM (env := [(0, .pointer (some ⟨q, 0, none⟩)), (1, .pointer (some ⟨tq, 0, none⟩))]) Tryz.func11 rfl h Tryz.ntmps11 rfl rfl ?_; refine gsr ?_; refine zxa ?_; refine zxs ?_; refine zal fun b5 => ?_; refine gnt ?_; refine gc_seq ?_; refine gsr ?_; refine zxm ?_; refine zc (fun bx => ?_) (c := fun w1 F1 F2 h1 h2 hd hst => all_ok h1)
 refine gnt ?_; refine gc_block ?_; refine gc_conv (M := [blk b5 30 [.slice none 0 0]]) (N := [exR fun x : (Option Addr × Nat) × List (List Value) => allR [pureR (∀ c ∈ x.2, List.length c = 39), blk b5 30 [.slice x.1.1 0 x.1.2], rowR 51 39 x.1.1 0 x.1.2 x.2.flatten, ElR RdBlock x.2 ((l.rs.map (fun r : LRec => r.b)).take 0)]]) (by repeat (first | exact Sel.nil | (apply Sel.cons; · (repeat (first | exact Pick.here | apply Pick.there))))) (fun w'' F'' h => stars_ex_mk ((none, 0), []) (stars_all_mk (stars_pure_mk (by simp) (nil_out h)))) ?_; refine gc_range (own := [blk bx 29 [.pointer (some ⟨q, 0, none⟩)], LedR q g l]) (fun i => [exR fun x : (Option Addr × Nat) × List (List Value) => allR [pureR (∀ c ∈ x.2, List.length c = 39), blk b5 30 [.slice x.1.1 i x.1.2], rowR 51 39 x.1.1 i x.1.2 x.2.flatten, ElR RdBlock x.2 ((l.rs.map (fun r : LRec => r.b)).take i)]]) (fun _ _ => [pureR False]) (by exact rfl) Ty.call_62 (by repeat (first | exact Sel.nil | (apply Sel.cons; · (repeat (first | exact Pick.here | apply Pick.there))))) (by intros; rfl) (fun lp J Jx w1 F1 F2 h1 h2 hd hst => all1_it h1 (hE.mv hst.still) hrs hln) ?_ ?_ ?_
 ·intro lp rc rc' i y w1 F1 F2 h1 h2 hd hst; try dsimp only [List.cons_append, List.nil_append, zipE]
  refine gc_pure1 (p := i < l.rs.length ∧ y.length = 39 ∧ ∀ v ∈ y, v.oneCell' = true) (by repeat (first | exact Pick.here | apply Pick.there)) (fun hi => ?_)
  obtain ⟨hil, hl39, ho39⟩ := hi; have i39 := Len.of hl39
  have j39 := One.of ho39
  refine gc_conv (M := [exR fun x : (Option Addr × Nat) × List (List Value) => allR [pureR (∀ c ∈ x.2, List.length c = 39), blk b5 30 [.slice x.1.1 i x.1.2], rowR 51 39 x.1.1 i x.1.2 x.2.flatten, ElR RdBlock x.2 ((l.rs.map (fun r : LRec => r.b)).take i)]]) (N := [exR fun x : (Option Addr × Nat) × List (List Value) => allR [pureR (∀ c ∈ x.2, List.length c = 39), blk b5 30 [.slice x.1.1 i x.1.2], rowR 51 39 x.1.1 i x.1.2 x.2.flatten, ElR RdBlock x.2 ((l.rs.map (fun r : LRec => r.b)).take i)]]) (by repeat (first | exact Sel.nil | (apply Sel.cons; · (repeat (first | exact Pick.here | apply Pick.there))))) (fun _ _ h => h) ?_; refine gc_exR (fun xx => ?_)
  obtain ⟨⟨a5, c5⟩, css⟩ := xx; refine gc_conv (M := [allR [pureR (∀ c ∈ css, List.length c = 39), blk b5 30 [.slice a5 i c5], rowR 51 39 a5 i c5 css.flatten, ElR RdBlock css ((l.rs.map (fun r : LRec => r.b)).take i)]]) (N := [pureR (∀ c ∈ css, List.length c = 39), blk b5 30 [.slice a5 i c5], rowR 51 39 a5 i c5 css.flatten, ElR RdBlock css ((l.rs.map (fun r : LRec => r.b)).take i)]) (by repeat (first | exact Sel.nil | (apply Sel.cons; · (repeat (first | exact Pick.here | apply Pick.there))))) (fun _ _ h => stars_all h) ?_; refine gc_pureR (fun hcs => ?_)
  refine gc_region ?_; refine zal fun b7 => ?_; refine gl_eqc (cs' := blkC) (by repeat (first | exact Pick.here | apply Pick.there)) (by kernel_rfl) ?_; refine zsA hl39 ho39 ?_; refine gl_nil ?_; refine gx_lp (by repeat (first | exact Pick.here | apply Pick.there)) ?_; refine gx_begin ?_; refine gc_block ?_; refine gc_region ?_; refine gp zl ?_; refine gp (zLa (cs := y)) ?_; refine zeN fun b26 => ?_; refine zapo (fun a27 c27 => ?_)
  refine zs1 ?_; refine gl_nil ?_; refine gx_block_normal ?_; refine gx_rdn ?_; intro w' hw; have h3 := hw.conv (M := [ElR RdBlock css ((l.rs.map (fun r : LRec => r.b)).take i), VlR RdBlock y (blkAt l.rs i)]) (by repeat (first | exact Sel.nil | (apply Sel.cons; · (repeat (first | exact Pick.here | apply Pick.there))))) (fun _ _ => el_snoc)
  rw [← blkAt_take hil] at h3; have h4 := h3.conv (M := [blk b5 30 [.slice a27 (i + 1) c27], rowR 51 39 a27 (i + 1) c27 (css.flatten ++ y), ElR RdBlock (css ++ [y]) ((l.rs.map (fun r : LRec => r.b)).take (i + 1))]) (N := [exR fun x : (Option Addr × Nat) × List (List Value) => allR [pureR (∀ c ∈ x.2, List.length c = 39), blk b5 30 [.slice x.1.1 (i + 1) x.1.2], rowR 51 39 x.1.1 (i + 1) x.1.2 x.2.flatten, ElR RdBlock x.2 ((l.rs.map (fun r : LRec => r.b)).take (i + 1))]]) (by repeat (first | exact Sel.nil | (apply Sel.cons; · (repeat (first | exact Pick.here | apply Pick.there))))) (fun _ _ h => stars_ex_mk ((a27, c27), css ++ [y]) (stars_all_mk (stars_pure_mk (fun c hc => by rcases List.mem_append.1 hc with h' | h'; exact hcs c h'; (simp at h'; subst h'; exact hl39)) (by rw [show (css ++ [y]).flatten = css.flatten ++ y by simp]; exact h))))
  exact h4.z
 ·intro bU3 y m hy; try dsimp only [List.cons_append, List.nil_append]
  have hm : m = l.rs.length := by cases y <;> simp_all [allOr]
  subst hm; refine gx_block_normal ?_; refine gx_thenM ?_; refine gc_seq ?_; refine gc_conv (M := [exR fun x : (Option Addr × Nat) × List (List Value) => allR [pureR (∀ c ∈ x.2, List.length c = 39), blk b5 30 [.slice x.1.1 l.rs.length x.1.2], rowR 51 39 x.1.1 l.rs.length x.1.2 x.2.flatten, ElR RdBlock x.2 ((l.rs.map (fun r : LRec => r.b)).take l.rs.length)]]) (N := [exR fun x : (Option Addr × Nat) × List (List Value) => allR [pureR (∀ c ∈ x.2, List.length c = 39), blk b5 30 [.slice x.1.1 l.rs.length x.1.2], rowR 51 39 x.1.1 l.rs.length x.1.2 x.2.flatten, ElR RdBlock x.2 ((l.rs.map (fun r : LRec => r.b)).take l.rs.length)]]) (by repeat (first | exact Sel.nil | (apply Sel.cons; · (repeat (first | exact Pick.here | apply Pick.there))))) (fun _ _ h => h) ?_; refine gc_exR (fun xx => ?_)
  obtain ⟨⟨a5, c5⟩, css⟩ := xx; refine gc_conv (M := [allR [pureR (∀ c ∈ css, List.length c = 39), blk b5 30 [.slice a5 l.rs.length c5], rowR 51 39 a5 l.rs.length c5 css.flatten, ElR RdBlock css ((l.rs.map (fun r : LRec => r.b)).take l.rs.length)]]) (N := [pureR (∀ c ∈ css, List.length c = 39), blk b5 30 [.slice a5 l.rs.length c5], rowR 51 39 a5 l.rs.length c5 css.flatten, ElR RdBlock css ((l.rs.map (fun r : LRec => r.b)).take l.rs.length)]) (by repeat (first | exact Sel.nil | (apply Sel.cons; · (repeat (first | exact Pick.here | apply Pick.there))))) (fun _ _ h => stars_all h) ?_; refine gc_pureR (fun hcs => ?_)
  rw [show (l.rs.map (fun r : LRec => r.b)).take l.rs.length = (l.rs.map (fun r : LRec => r.b)) from List.take_of_length_le (by simp)]; refine gc_region ?_; refine zxm ?_; refine zc (fun _ => ?_) (c := fun w1 F1 F2 h1 h2 hd hst => troot_ok (hx.mv hst.still) hok h1)
  refine zal fun b8 => ?_; refine zsN ?_; refine zxs ?_; refine zxa ?_; refine gnt ?_; refine gc_seq ?_; refine gsr ?_; refine zxm ?_; refine zc ?_ (c := fun w1 F1 F2 h1 h2 hd hst => tids_ok (hx.mv hst.still) hok h1)
  rintro ⟨a31, c31⟩
  refine gp zln ?_; refine zxm ?_; refine gnt ?_; refine gc_block ?_; refine gc_loop (α := Nat × (Dig × Int)) (fun y => [pureR (y.1 ≤ t.nodes.length ∧ y.2 = bestK t y.1), rowR 27 16 a31 t.nodes.length c31 ((keysT t).map dc).flatten, blk b8 27 (dc y.2.1), blk b5 30 [.slice a5 l.rs.length c5], rowR 51 39 a5 l.rs.length c5 css.flatten, ElR RdBlock css (l.rs.map (fun r : LRec => r.b)), LedR q g l, dfR bU3]) (fun y => [(33, .int .i64 (y.1 : Int)), (9, .int .i64 y.2.2)]) [11, 12, 13, 34, 35, 36, 37, 38, 39, 40, 41, 42, 43, 44, 45, 46, 47, 48, 49, 50] (fun y => t.nodes.length - y.1) (0, (t.root, -1)) ?_ ?_ ?_
  ·refine env_start (by kernel_rfl)
  ·exact zlp (p := 0 ≤ t.nodes.length ∧ (t.root, -1) = bestK t 0) ⟨Nat.zero_le _, bestK_zero t⟩
  ·intro y u; obtain ⟨k, s⟩ := y; refine gc_pureR (fun hk => ?_)
   obtain ⟨hk, hs⟩ := hk; replace hk : k ≤ t.nodes.length := hk
   replace hs : s = bestK t k := hs
   refine gsr ?_; refine gp zlt ?_; refine gnt ?_; refine gc_seq ?_; refine gif rfl (fun hc34 => ?_) (fun hc34 => ?_)
   ·try simp only at hc34
    have hk' : k < t.nodes.length := by omega
    obtain ⟨p, hp⟩ : ∃ p, t.nodes[k]? = some p := ⟨t.nodes[k], List.getElem?_eq_getElem hk'⟩; have hlk := node_lk hok hp
    refine gc_fact (fun w' hw => St.rowAt (hw.sel (M := [rowR 27 16 a31 t.nodes.length c31 ((keysT t).map dc).flatten]) (by repeat (first | exact Sel.nil | (apply Sel.cons; · (repeat (first | exact Pick.here | apply Pick.there)))))) .here (by omega)) (fun hra => ?_)
    obtain ⟨_, g31, o31, ha31⟩ := hra; subst ha31; refine gc_skip ?_; refine gx_then ?_; refine gc_seq ?_; refine gc_block ?_; refine gsr ?_; refine gp (r_val (v' := .pointer (some ⟨g31, o31 + k * 16, none⟩)) zia (by simp)) ?_; refine gp (r_ldRow (i := k) (g := g31) (o := o31) rfl Ty.row_27 Ty.sz_27 (by repeat (first | exact Pick.here | apply Pick.there)) (hd16 (keysT t)) (key_at hp) hk') ?_; refine zal fun b11 => ?_; refine zsN ?_; refine zxs ?_; refine zxm ?_; refine gp zL ?_; refine zc (fun x40 => ?_) (c := fun w1 F1 F2 h1 h2 hd hst => tget_ok (d := p.1) (hx.mv hst.still) hok h1)
    refine gl_pureR (fun hx40 => ?_)
    obtain ⟨hl40, ho40⟩ := hx40; replace hl40 : x40.length = 39 := hl40
    have i40 := Len.of hl40
    have j40 := One.of (show ∀ v ∈ x40, v.oneCell' = true from ho40)
    refine gl_fact (fun w' hw => St.vlOfB hw (by repeat (first | exact Pick.here | apply Pick.there))) (fun hv40 => ?_)
    obtain ⟨wv40, Av40, hr40⟩ := hv40; rw [hlk] at hr40 ⊢; refine zxm ?_; refine gp zex ?_; refine gp zex ?_; refine zal fun b12 => ?_; refine gl_eqc (cs' := blkC) (by repeat (first | exact Pick.here | apply Pick.there)) (by kernel_rfl) ?_; refine zsA hl40 ho40 ?_; refine zxa ?_; refine zxs ?_; refine gp zfa ?_; refine gp (zl (v := .int .i64 p.2.round) (hv := rd_round hr40)) ?_; refine zxm ?_; refine gp zgt ?_; refine gnt ?_; refine gif rfl (fun hc46 => ?_) (fun hc46 => ?_)
    ·refine gc_regionZ 4 ([blk b11 27 (dc p.1), blk b12 51 x40]) ?_; refine yps 0 rfl zL ?_; refine yps 1 rfl zfa ?_; refine yps 2 rfl (zl (v := .int .i64 p.2.round) (hv := rd_round hr40)) ?_; refine yos 3 rfl ?_; refine zsN ?_; refine yxs ?_; refine yzs rfl ?_; refine zxa ?_; refine gl_nil ?_; refine gx_block_normal ?_; refine gx_then ?_; refine gc_region ?_; refine gp zad ?_; refine zxm ?_; refine gl_nil ?_; refine zrd ((k + 1, (p.1, p.2.round))) ?_ ?_
     ·show t.nodes.length - (k + 1) < t.nodes.length - k
      omega
     ·exact zlp (p := k + 1 ≤ t.nodes.length ∧ (p.1, p.2.round) = bestK t (k + 1)) ⟨by omega, by rw [bestK_succ hp, ← hs, if_pos hc46]⟩
    ·refine gc_skip ?_; refine gx_block_normal ?_; refine gx_then ?_; refine gc_region ?_; refine gp zad ?_; refine zxm ?_; refine gl_nil ?_; refine zrd ((k + 1, s)) ?_ ?_
     ·show t.nodes.length - (k + 1) < t.nodes.length - k
      omega
     ·exact zlp (p := k + 1 ≤ t.nodes.length ∧ s = bestK t (k + 1)) ⟨by omega, by rw [bestK_succ hp, ← hs, if_neg (by have h46 := hc46; simp only at h46; omega)]⟩
   ·try simp only at hc34
    obtain rfl : k = t.nodes.length := by omega
    have hsd : s.1 = bestD t := by rw [hs, bestD_def]
    refine gc_exit ?_; refine gx_then_exit ?_; refine gx_round_exit ?_; refine gx_block_hit ?_; refine gx_then ?_; refine gc_seq ?_; rw [hsd]; refine gc_region ?_; refine zxm ?_; refine gp zL ?_; refine zc ?_ (c := fun w1 F1 F2 h1 h2 hd hst => tpath_ok (d := bestD t) (hx.mv hst.still) hok h1)
    rintro ⟨a54, c54⟩
    refine zxm ?_; refine gp zex ?_; refine gp zex ?_; refine zxa ?_; refine zxa ?_; refine gnt ?_; refine gc_seq ?_; refine gsr ?_; refine zxm ?_; refine gp zln ?_; refine zxm ?_; refine gnt ?_; refine gc_block ?_; refine gc_loop (α := Nat × (Option Addr × Nat) × List (List Value)) (fun y => [pureR (y.1 ≤ (pathL t (bestD t)).length ∧ ∀ c ∈ y.2.2, List.length c = 39), rowR 27 16 a54 (pathL t (bestD t)).length c54 ((pathL t (bestD t)).map dc).flatten, blk b5 30 [.slice y.2.1.1 (l.rs.length + y.1) y.2.1.2], rowR 51 39 y.2.1.1 (l.rs.length + y.1) y.2.1.2 y.2.2.flatten, ElR RdBlock y.2.2 ((l.rs.map (fun r : LRec => r.b)) ++ ((pathL t (bestD t)).take y.1).map (bOf t)), LedR q g l, dfR bU3]) (fun y => [(59, .int .i64 (y.1 : Int))]) [17, 18, 19, 60, 61, 62, 63, 64, 65, 66, 67, 68, 69, 70, 71, 72, 73] (fun y => (pathL t (bestD t)).length - y.1) (0, (a5, c5), css) ?_ ?_ ?_
    ·refine env_start (by kernel_rfl)
    ·intro w' hw; refine St.pureI (p := 0 ≤ (pathL t (bestD t)).length ∧ ∀ c ∈ css, List.length c = 39) ⟨Nat.zero_le _, hcs⟩ ?_; have e1 : (l.rs.map (fun r : LRec => r.b)) ++ ((pathL t (bestD t)).take 0).map (bOf t) = (l.rs.map (fun r : LRec => r.b)) := by simp
     show St w F [rowR 27 16 a54 (pathL t (bestD t)).length c54 ((pathL t (bestD t)).map dc).flatten, blk b5 30 [.slice a5 (l.rs.length + 0) c5], rowR 51 39 a5 (l.rs.length + 0) c5 css.flatten, ElR RdBlock css ((l.rs.map (fun r : LRec => r.b)) ++ ((pathL t (bestD t)).take 0).map (bOf t)), LedR q g l, dfR bU3] w'
     rw [e1]; exact hw.z
    ·intro y u; obtain ⟨j, ⟨a6, c6⟩, cs6⟩ := y; refine gc_pureR (fun hj => ?_)
     obtain ⟨hj, hcs6⟩ := hj; replace hj : j ≤ (pathL t (bestD t)).length := hj
     replace hcs6 : ∀ c ∈ cs6, List.length c = 39 := hcs6
     refine gsr ?_; refine gp zlt ?_; refine gnt ?_; refine gc_seq ?_; refine gif rfl (fun hc60 => ?_) (fun hc60 => ?_)
     ·try simp only at hc60
      have hj' : j < (pathL t (bestD t)).length := by omega
      obtain ⟨e, he⟩ : ∃ e, (pathL t (bestD t))[j]? = some e := ⟨(pathL t (bestD t))[j], List.getElem?_eq_getElem hj'⟩; refine gc_fact (fun w' hw => St.rowAt (hw.sel (M := [rowR 27 16 a54 (pathL t (bestD t)).length c54 ((pathL t (bestD t)).map dc).flatten]) (by repeat (first | exact Sel.nil | (apply Sel.cons; · (repeat (first | exact Pick.here | apply Pick.there)))))) .here (by omega)) (fun hra => ?_)
      obtain ⟨_, g54, o54, ha54⟩ := hra; subst ha54; refine gc_skip ?_; refine gx_then ?_; refine gc_seq ?_; refine gc_block ?_; refine gsr ?_; refine gp (r_val (v' := .pointer (some ⟨g54, o54 + j * 16, none⟩)) zia (by simp)) ?_; refine gp (r_ldRow (i := j) (g := g54) (o := o54) rfl Ty.row_27 Ty.sz_27 (by repeat (first | exact Pick.here | apply Pick.there)) (hd16 _) (by rw [List.getElem?_map, he]; rfl) hj') ?_
      refine zal fun b17 => ?_; refine zsN ?_; refine zxs ?_; refine zxm ?_; refine gp zL ?_; refine zc (fun x66 => ?_) (c := fun w1 F1 F2 h1 h2 hd hst => tget_ok (d := e) (hx.mv hst.still) hok h1)
      refine gl_pureR (fun hx66 => ?_)
      obtain ⟨hl66, ho66⟩ := hx66; replace hl66 : x66.length = 39 := hl66
      have i66 := Len.of hl66
      have j66 := One.of (show ∀ v ∈ x66, v.oneCell' = true from ho66)
      refine gl_fact (fun w' hw => St.vlOfB hw (by repeat (first | exact Pick.here | apply Pick.there))) (fun hv66 => ?_)
      obtain ⟨wv66, Av66, hr66⟩ := hv66; refine zxm ?_; refine gp zex ?_; refine gp zex ?_; refine zal fun b18 => ?_; refine gl_eqc (cs' := blkC) (by repeat (first | exact Pick.here | apply Pick.there)) (by kernel_rfl) ?_; refine zsA hl66 ho66 ?_; refine zxa ?_; refine gnt ?_; refine gc_region ?_; refine gp zl ?_; refine gp (zLa (cs := x66)) ?_; refine zeN fun b71 => ?_; refine zapo (fun a72 c72 => ?_)
      refine zs1 ?_; refine gl_nil ?_; refine gx_block_normal ?_; refine gx_then ?_; refine gc_region ?_; refine gp zad ?_; refine zxm ?_; refine gl_nil ?_; refine zrd ((j + 1, (a72, c72), cs6 ++ [x66])) ?_ ?_
      ·show (pathL t (bestD t)).length - (j + 1) < (pathL t (bestD t)).length - j
       omega
      ·intro w' hw; have h3 := hw.conv (M := [ElR RdBlock cs6 ((l.rs.map (fun r : LRec => r.b)) ++ ((pathL t (bestD t)).take j).map (bOf t)), VlR RdBlock x66 ((lkN e t.nodes).getD blk0)]) (by repeat (first | exact Sel.nil | (apply Sel.cons; · (repeat (first | exact Pick.here | apply Pick.there))))) (fun _ _ => el_snoc)
       have e1 : (l.rs.map (fun r : LRec => r.b)) ++ ((pathL t (bestD t)).take (j + 1)).map (bOf t) = (l.rs.map (fun r : LRec => r.b)) ++ ((pathL t (bestD t)).take j).map (bOf t) ++ [(lkN e t.nodes).getD blk0] := by rw [takeB_snoc he, List.map_append, List.append_assoc]; rfl
       rw [← e1] at h3; refine St.pureI (p := j + 1 ≤ (pathL t (bestD t)).length ∧ ∀ c ∈ cs6 ++ [x66], List.length c = 39) ⟨by omega, fun c hc => (by rcases List.mem_append.1 hc with h' | h'; exact hcs6 c h'; (simp at h'; subst h'; exact hl66))⟩ ?_; have e2 : (cs6 ++ [x66]).flatten = cs6.flatten ++ x66 := by simp
       show St w F [rowR 27 16 (some ⟨g54, o54, none⟩) (pathL t (bestD t)).length c54 ((pathL t (bestD t)).map dc).flatten, blk b5 30 [.slice a72 (l.rs.length + (j + 1)) c72], rowR 51 39 a72 (l.rs.length + (j + 1)) c72 (cs6 ++ [x66]).flatten, ElR RdBlock (cs6 ++ [x66]) ((l.rs.map (fun r : LRec => r.b)) ++ ((pathL t (bestD t)).take (j + 1)).map (bOf t)), LedR q g l, dfR bU3] w'
       rw [e2, ← Nat.add_assoc]; exact h3.z
     ·try simp only at hc60
      obtain rfl : j = (pathL t (bestD t)).length := by omega
      refine gc_exit ?_; refine gx_then_exit ?_; refine gx_round_exit ?_; refine gx_block_hit ?_; refine gx_then ?_; refine gsr ?_; refine gp zl ?_; refine zxa ?_; refine gnt ?_; refine gc_ret ?_; refine gx_mark (by repeat (first | exact Pick.here | apply Pick.there)) ?_; refine gx_mark0 ?_; refine gx_ret1 rfl (by conv => lhs; whnf) ?_; have hll : (lineL (l.rs.map (fun r : LRec => r.b)) t).length = l.rs.length + (pathL t (bestD t)).length := by simp [lineL]
      intro w' hw; have e1 : (l.rs.map (fun r : LRec => r.b)) ++ ((pathL t (bestD t)).take (pathL t (bestD t)).length).map (bOf t) = (lineL (l.rs.map (fun r : LRec => r.b)) t) := by rw [List.take_length, lineL_def]
      rw [e1] at hw; exact ⟨(a6, c6, cs6), by rw [hll], St.pureI (p := ∀ c ∈ cs6, List.length c = 39) hcs6 (by show St w F [LedR q g l, rowR 51 39 a6 (lineL (l.rs.map (fun r : LRec => r.b)) t).length c6 cs6.flatten, ElR RdBlock cs6 (lineL (l.rs.map (fun r : LRec => r.b)) t)] w'; rw [hll]; exact hw.z)⟩
 ·exact fun _ _ _ _ _ => gc_noway
end
section
attribute [local irreducible] Gl Gc Gx Gs Runs Wt
attribute [local irreducible] rowR blk VlR ElR dc qcC blkC idOf ModR TreeR LedR LdR gid lineL bestK bestD pathL behL
set_option maxHeartbeats 400000 in
theorem behind1_ok {w : World} {F : Nat → Prop} {w' : World} {A : Nat → Prop} {cs : List Value} {b : Block} {bi : Nat} {d : Dig} (h : stars [blk bi 27 (dc d)] w F) (hb : RdBlock w' A cs b) :
    Calls Tryz.prog 40 #[.agg cs.toArray, .pointer (some ⟨bi, 0, none⟩)] w (Post w F (fun _ : Unit => .bool (decide (b.parent = d))) (fun _ => [blk bi 27 (dc d)])) := by
 obtain ⟨qj, a1, n1, c1, a2, n2, c2, rfl, hj, _⟩ := hb; have ij := Len.of hj.len
 have jj := One.of hj.one
 refine g_enter (env := [(0, _), (1, .pointer (some ⟨bi, 0, none⟩))]) Tryz.func40 rfl h Tryz.ntmps40 rfl rfl ?_; refine gsr ?_; refine zbN fun b2 => ?_; refine zxa ?_; refine zxs ?_; refine gp zfa ?_; refine gp zL ?_; refine gp zL ?_; refine gp zed ?_; refine zxa ?_; refine gnt ?_; refine gc_ret ?_; refine gx_ret1 rfl (by conv => lhs; whnf) ?_; exact ze ()
set_option maxHeartbeats 400000 in
theorem indexB_ok {w : World} {F : Nat → Prop} {a : Option Addr} {n c bi : Nat} {d : Dig} {l : List Block} (h : stars [blk bi 27 (dc d)] w F) (hx : RdList (RdBlock w (fun k => ¬ F k)) w (fun k => ¬ F k) 39 a n l) :
    Calls Tryz.prog 39 #[.slice a n c, .func (.func 40) #[] #[.pointer (some ⟨bi, 0, none⟩)]] w (Post w F (fun _ : Unit => .int .i64 (idxB d 0 l)) (fun _ => [blk bi 27 (dc d)])) := by
 have hn := hx.len (by decide)
 have hmx := hx.max
 simp only [maxLen] at hmx
 refine g_enter (env := [(0, .slice a n c), (1, .func (.func 40) #[] #[.pointer (some ⟨bi, 0, none⟩)])]) Tryz.func39 rfl h Tryz.ntmps39 rfl rfl ?_; refine gsr ?_; refine zxa ?_; refine gnt ?_; refine gc_seq ?_; refine gsr ?_; refine zxm ?_; refine gp zln ?_; refine zxm ?_; refine gnt ?_; refine gc_block ?_; refine gc_loop (α := Nat) (fun k => [pureR (k ≤ n ∧ ∀ i, i < k → ∀ r, l[i]? = some r → r.parent ≠ d), blk bi 27 (dc d)]) (fun k => [(8, .int .i64 (k : Int))]) [4, 5, 9, 10, 11, 12, 13, 14, 15, 16, 17, 18] (fun k => n - k) 0 ?_ ?_ ?_
 ·refine env_start (by kernel_rfl)
 ·exact zlp ⟨Nat.zero_le _, fun i hi => absurd hi (Nat.not_lt_zero _)⟩
 ·intro k u; refine gc_pureR (fun hk => ?_)
  replace hk : k ≤ n ∧ ∀ i, i < k → ∀ r, l[i]? = some r → r.parent ≠ d := hk
  refine gsr ?_; refine gp zlt ?_; refine gnt ?_; refine gc_seq ?_; refine gif rfl (fun hc9 => ?_) (fun hc9 => ?_)
  ·try simp only at hc9
   have hk' : k < n := by omega
   obtain ⟨ga, oa, ce, r, ha, hA, _, hra, hl39, hr, hrd⟩ := hx.elem (i := k) (by decide) hk'; subst ha; have i39 := Len.of hl39
   have j39 := One.of hrd.one
   refine gc_skip ?_; refine gx_then ?_; refine gc_seq ?_; refine gc_block ?_; refine gsr ?_; refine zxm ?_; refine zxa ?_; refine zxs ?_; refine zxm ?_; refine zxm ?_; refine zxm ?_; refine gp (r_val (v' := .pointer (some ⟨ga, oa + k * 39, none⟩)) zia (by simp)) ?_; refine gp (r_ldNo (seg := ce) rfl Ty.row_51 Ty.sz_51 hra hl39 (by decide) hA) ?_; refine gl_call (wt0 rfl) (e_callv (us := [.pointer (some ⟨bi, 0, none⟩)]) rfl Ty.call_40 rfl) (by repeat (first | exact Sel.nil | (apply Sel.cons; · (repeat (first | exact Pick.here | apply Pick.there))))) (fun w1 F1 F2 h1 h2 hd hst => behind1_ok (d := d) h1 hrd) ?_; intro _; refine gnt ?_; refine gif rfl (fun hc16 => ?_) (fun hc16 => ?_)
   ·try simp only at hc16
    have hf := idxB_hit hk.2 hr (by simpa using hc16)
    refine gsr ?_; refine zxm ?_; refine zxa ?_; refine gnt ?_; refine gc_ret ?_; refine gx_block_ret ?_; refine gx_then_ret ?_; refine gx_round_ret ?_; refine gx_block_ret ?_; refine gx_then_ret ?_; refine gx_ret1 rfl (by conv => lhs; whnf) ?_; exact fun w' hw => ⟨(), by rw [hf], hw.z⟩
   ·refine gc_skip ?_; refine gx_block_normal ?_; refine gx_then ?_; refine gc_region ?_; refine gp zad ?_; refine zxm ?_; refine gl_nil ?_; refine zrd (k + 1) ?_ ?_
    ·show n - (k + 1) < n - k
     omega
    ·exact zlp (show k + 1 ≤ n ∧ ∀ i, i < k + 1 → ∀ r, l[i]? = some r → r.parent ≠ d from ⟨by omega, fun i hi r' hr' => (by by_cases h' : i < k; exact hk.2 i h' r' hr'; (obtain rfl : i = k := by omega); rw [hr] at hr'; cases hr'; simpa using hc16)⟩)
  ·try simp only at hc9
   have hk' : k = n := by omega
   have hf := idxB_miss (d := d) (l := l) (fun i hi => hk.2 i (by omega))
   refine gc_exit ?_; refine gx_then_exit ?_; refine gx_round_exit ?_; refine gx_block_hit ?_; refine gx_then ?_; refine gsr ?_; refine zxa ?_; refine gnt ?_; refine gc_ret ?_; refine gx_ret1 rfl (by conv => lhs; whnf) ?_; exact fun w' hw => ⟨(), by rw [hf], hw.z⟩
set_option maxHeartbeats 4000000 in
theorem behind_ok {w : World} {F : Nat → Prop} {q g : Nat} {l : LS} {tq : Nat} {t : Tr} (h : stars [LedR q g l] w F) (hx : RdTree w (fun k => ¬ F k) tq t) (hok : TOk t) (hrs : ∀ r ∈ l.rs, r.Ok) (hln : l.rs.length < 4294967296) {ea : Nat → Addr} {es : List Nat} [Has es 1] [Has es 2] [Has es 3] [Has es 4] (hE : GErr es w (fun k => ¬ F k) 251 ea) {d : Dig}  :
    Calls Tryz.prog 13 #[.pointer (some ⟨q, 0, none⟩), .pointer (some ⟨tq, 0, none⟩), .agg (dc d).toArray] w (Post w F (fun r : (Option Addr × Nat) × List (List Value) => .slice r.1.1 (behL (lineL (l.rs.map (fun r : LRec => r.b)) t) d).length r.1.2) (fun r => [pureR (∀ c ∈ r.2, List.length c = 39), LedR q g l, rowR 51 39 r.1.1 (behL (lineL (l.rs.map (fun r : LRec => r.b)) t) d).length r.1.2 r.2.flatten, ElR RdBlock r.2 (behL (lineL (l.rs.map (fun r : LRec => r.b)) t) d)])) := by
 have hle := hok.le
 have hpl := pathL_len t (bestD t)
 have hll : (lineL (l.rs.map (fun r : LRec => r.b)) t).length ≤ l.rs.length + t.nodes.length := by rw [← lineL_def]; simp only [List.length_append, List.length_map]; omega
 refine g_enter (env := [(0, .pointer (some ⟨q, 0, none⟩)), (1, .pointer (some ⟨tq, 0, none⟩)), (2, .agg (dc d).toArray)]) Tryz.func13 rfl h Tryz.ntmps13 rfl rfl ?_; refine gsr ?_; refine zbN fun b5 => ?_; refine zxa ?_; refine zxs ?_; refine zxm ?_; refine zxm ?_; refine zc ?_ (c := fun w1 F1 F2 h1 h2 hd hst => line_ok h1 (hx.mv hst.still) hok hrs hln (hE.mv hst.still))
 rintro ⟨a14, c14, cx⟩
 refine gl_pureR (fun hcx => ?_)
 replace hcx : ∀ c ∈ cx, List.length c = 39 := hcx
 refine gl_fact (fun w' hw => (St.el (rd := RdBlock) (hw.sel (M := [ElR RdBlock cx (lineL (l.rs.map (fun r : LRec => r.b)) t)]) (by repeat (first | exact Sel.nil | (apply Sel.cons; · (repeat (first | exact Pick.here | apply Pick.there)))))) .here)) (fun hel => ?_)
 obtain ⟨hcl, hel⟩ := hel; refine zxa ?_; refine zxs ?_; refine zxm ?_; refine gp (r_makeF (us := [.pointer (some ⟨b5, 0, none⟩)]) rfl) ?_; refine zc (fun _ => ?_) (c := fun w1 F1 F2 h1 h2 hd hst => indexB_ok (d := d) (l := (lineL (l.rs.map (fun r : LRec => r.b)) t)) h1 ⟨cx, rd_row h2 hd (by repeat (first | exact Pick.here | apply Pick.there)), hcx, hcl, fun i c x hc hx => el_rd (rd := RdBlock) h2 hd (by repeat (first | exact Pick.here | apply Pick.there)) hc hx⟩)
 refine zxa ?_; refine gnt ?_; refine gc_seq ?_; refine gc_seq ?_; by_cases hS : idxB d 0 (lineL (l.rs.map (fun r : LRec => r.b)) t) = -1
 ·refine gc_region ?_; refine zxm ?_; refine gp (r_bool (c := true) zlt (decide_eq_true (by rw [hS]; decide))) ?_; refine gnt ?_; refine gc_condT rfl rfl ?_; refine gsr ?_; refine zxa ?_; refine gnt ?_; refine gc_ret ?_; refine gx_then_ret ?_; refine gx_ret1 rfl (by conv => lhs; whnf) ?_; intro w' hw; have hbn : (behL (lineL (l.rs.map (fun r : LRec => r.b)) t) d) = [] := behL_none hS
  have hw := hw.conv (M := [ElR RdBlock cx (lineL (l.rs.map (fun r : LRec => r.b)) t)]) (by repeat (first | exact Sel.nil | (apply Sel.cons; · (repeat (first | exact Pick.here | apply Pick.there))))) (fun _ _ => el_nil1)
  rw [hbn]; exact ⟨((none, 0), []), rfl, St.pureI (p := ∀ c ∈ ([] : List (List Value)), List.length c = 39) (by simp) ((hw.rowNil (e := 51) (size := 39)).z)⟩
 ·obtain ⟨j, r, hji, hjr, hjp, hjm⟩ := (idxB_cases d (lineL (l.rs.map (fun r : LRec => r.b)) t)).resolve_left (fun h => hS h.1); have hjl := (List.getElem?_eq_some_iff.1 hjr).1
  refine gc_region ?_; refine zxm ?_; refine gp (r_bool (c := false) zlt (decide_eq_false (by rw [hji]; omega))) ?_; refine gnt ?_; refine gc_condF rfl rfl ?_; refine gc_skip ?_; refine gx_then ?_; refine gsr ?_; refine zxa ?_; refine gnt ?_; refine gc_seq ?_; refine gc_seq ?_; refine gc_fact (fun w' hw => St.rowAt (hw.sel (M := [rowR 51 39 a14 (lineL (l.rs.map (fun r : LRec => r.b)) t).length c14 cx.flatten]) (by repeat (first | exact Sel.nil | (apply Sel.cons; · (repeat (first | exact Pick.here | apply Pick.there)))))) .here (by omega)) (fun hra => ?_)
  obtain ⟨hmc, gl, ol, ha14⟩ := hra; subst ha14; refine gc_region ?_; refine zxm ?_; refine gp (r_int (j := ((j : Nat) : Int)) zmv hji) ?_; refine gp (r_val (v' := .slice (some ⟨gl, ol + j * 39, none⟩) ((lineL (l.rs.map (fun r : LRec => r.b)) t).length - j) (c14 - j)) (r_slice_slice (a := some ⟨gl, ol, none⟩) (m := (lineL (l.rs.map (fun r : LRec => r.b)) t).length) (c := c14) (l := j) (h := (lineL (l.rs.map (fun r : LRec => r.b)) t).length) rfl Ty.sl_30 Ty.sz_51 ⟨_, rfl⟩ rfl (by omega) (by omega)) (by rw [if_neg (by omega)]; simp [Addr.add_mid])) ?_; refine gp zln ?_; refine zxm ?_; refine gnt ?_; refine gc_block ?_; refine gc_loop (α := Nat × (Option Addr × Nat)) (fun y => [pureR (y.1 ≤ (lineL (l.rs.map (fun r : LRec => r.b)) t).length - j ∧ ∀ i b, i < y.1 → ((lineL (l.rs.map (fun r : LRec => r.b)) t).drop j)[i]? = some b → ¬ stopB i b), blk b5 27 (dc d), rowR 51 39 (some ⟨gl, ol, none⟩) (lineL (l.rs.map (fun r : LRec => r.b)) t).length c14 cx.flatten, ElR RdBlock cx (lineL (l.rs.map (fun r : LRec => r.b)) t), LedR q g l, rowR 51 39 y.2.1 y.1 y.2.2 (((cx.drop j).take y.1)).flatten]) (fun y => [(24, .int .i64 (y.1 : Int)), (9, .slice y.2.1 y.1 y.2.2)]) [11, 25, 26, 27, 28, 29, 30, 31, 32, 33, 34, 35, 36, 37, 38, 39, 40, 41] (fun y => (lineL (l.rs.map (fun r : LRec => r.b)) t).length - j - y.1) (0, (none, 0)) ?_ ?_ ?_
  ·refine env_start (by kernel_rfl)
  ·intro w' hw; refine St.pureI (p := 0 ≤ (lineL (l.rs.map (fun r : LRec => r.b)) t).length - j ∧ ∀ i b, i < 0 → ((lineL (l.rs.map (fun r : LRec => r.b)) t).drop j)[i]? = some b → ¬ stopB i b) ⟨Nat.zero_le _, fun i b hi => absurd hi (Nat.not_lt_zero _)⟩ ?_; exact (hw.rowNil (e := 51) (size := 39)).z
  ·intro y u; obtain ⟨i, ⟨a9, c9⟩⟩ := y; refine gc_pureR (fun hi => ?_)
   obtain ⟨hi, hns⟩ := hi; replace hi : i ≤ (lineL (l.rs.map (fun r : LRec => r.b)) t).length - j := hi
   replace hns : ∀ i' b, i' < i → ((lineL (l.rs.map (fun r : LRec => r.b)) t).drop j)[i']? = some b → ¬ stopB i' b := hns
   refine gsr ?_; refine gp zlt ?_; refine gnt ?_; refine gc_seq ?_; refine gif rfl (fun hc25 => ?_) (fun hc25 => ?_)
   ·try simp only at hc25
    have hi' : i < (lineL (l.rs.map (fun r : LRec => r.b)) t).length - j := by omega
    have hil : j + i < (lineL (l.rs.map (fun r : LRec => r.b)) t).length := by omega
    obtain ⟨bx, hbx0⟩ : ∃ bx, (lineL (l.rs.map (fun r : LRec => r.b)) t)[j + i]? = some bx := ⟨(lineL (l.rs.map (fun r : LRec => r.b)) t)[j + i], List.getElem?_eq_getElem hil⟩; have hbx : ((lineL (l.rs.map (fun r : LRec => r.b)) t).drop j)[i]? = some bx := by rw [List.getElem?_drop]; exact hbx0
    obtain ⟨cp, hcp⟩ : ∃ cp, cx[j + i]? = some cp := ⟨cx[j + i]'(by omega), List.getElem?_eq_getElem _⟩; have hcp2 : (cx.drop j)[i]? = some cp := by rw [List.getElem?_drop]; exact hcp
    obtain ⟨wp, Ap, hrp⟩ := hel _ _ _ hcp hbx0; obtain ⟨qj, xa1, xn1, xc1, xa2, xn2, xc2, rfl, hqj, _, _, _, hxn⟩ := hrp; have hxl := hxn.len (by decide)
    have iqj := Len.of hqj.len
    have jqj := One.of hqj.one
    refine gc_skip ?_; refine gx_then ?_; refine gc_seq ?_; refine gc_block ?_; refine gsr ?_; refine gp (r_val (v' := .pointer (some ⟨gl, ol + (j + i) * 39, none⟩)) zia (by rw [Int.toNat_natCast, Nat.add_mul, Nat.add_assoc])) ?_; refine gp (r_ldRow (i := j + i) (g := gl) (o := ol) rfl Ty.row_51 Ty.sz_51 (by repeat (first | exact Pick.here | apply Pick.there)) hcx hcp hil) ?_; refine zal fun b11 => ?_; refine gl_eqc (cs' := blkC) (by repeat (first | exact Pick.here | apply Pick.there)) (by kernel_rfl) ?_; refine zsA (by simp [dc_length, hqj.len]) (all_cons' rfl (all_cons' rfl (all_app' (dc_one _) (all_app' hqj.one (all_cons' rfl (all_cons' rfl all_nil')))))) ?_; refine zxs ?_; refine zxm ?_; refine gp (zLa (cs := (.int .i64 bx.epoch :: .int .i64 bx.round :: (dc bx.parent ++ (qj ++ [.slice xa1 xn1 xc1, .slice xa2 xn2 xc2]))))) ?_; refine zeN fun b30 => ?_; refine zapo (fun a31 c31 => ?_)
    refine zxa ?_; refine gnt ?_; refine gc_seq ?_; by_cases hN : 0 < bx.next.length
    ·have hstop : stopB i bx := .inl hN
     refine gc_region ?_; refine gp zfa ?_; refine gp zl ?_; refine gp zln ?_; refine gp (r_bool (c := true) zgt (decide_eq_true (by omega))) ?_; refine zxm ?_; refine gn ?_; refine gn ?_; refine gn ?_; refine gp zpk ?_; refine gnt ?_; refine gc_condT rfl rfl ?_; refine gc_exit ?_; refine gx_block_miss rfl ?_; refine gx_then_exit ?_; refine gx_round_exit ?_; refine gx_block_hit ?_; refine gx_then ?_; refine gsr ?_; refine zxm ?_; refine zxa ?_; refine gnt ?_; refine gc_ret ?_; refine gx_ret1 rfl (by conv => lhs; whnf) ?_; have hbl : (behL (lineL (l.rs.map (fun r : LRec => r.b)) t) d) = ((lineL (l.rs.map (fun r : LRec => r.b)) t).drop j).take (i + 1) := by rw [behL_some hji]; exact cut_stop hbx hns hstop
     have hbn : (behL (lineL (l.rs.map (fun r : LRec => r.b)) t) d).length = i + 1 := by rw [hbl, List.length_take, List.length_drop]; omega
     intro w' hw; have h3 := hw.conv (M := [ElR RdBlock cx (lineL (l.rs.map (fun r : LRec => r.b)) t)]) (by repeat (first | exact Sel.nil | (apply Sel.cons; · (repeat (first | exact Pick.here | apply Pick.there))))) (fun _ _ => el_sub j (i + 1))
     rw [← hbl] at h3; exact ⟨((a31, c31), (cx.drop j).take (i + 1)), by rw [hbn], St.pureI (p := ∀ c ∈ (cx.drop j).take (i + 1), List.length c = 39) (fun c hc => hcx c (List.drop_subset _ _ (List.take_subset _ _ hc))) (by show St w F [LedR q g l, rowR 51 39 _ (behL (lineL (l.rs.map (fun r : LRec => r.b)) t) d).length _ ((cx.drop j).take (i + 1)).flatten, ElR RdBlock ((cx.drop j).take (i + 1)) (behL (lineL (l.rs.map (fun r : LRec => r.b)) t) d)] w'; rw [hbn]; rw [takeB_snoc hcp2] at h3 ⊢; rw [List.flatten_append, show ([(.int .i64 bx.epoch :: .int .i64 bx.round :: (dc bx.parent ++ (qj ++ [.slice xa1 xn1 xc1, .slice xa2 xn2 xc2])))]).flatten = (.int .i64 bx.epoch :: .int .i64 bx.round :: (dc bx.parent ++ (qj ++ [.slice xa1 xn1 xc1, .slice xa2 xn2 xc2]))) by simp]; exact h3.z)⟩
    ·refine gc_region ?_; refine gp zfa ?_; refine gp zl ?_; refine gp zln ?_; refine gp (r_bool (c := false) zgt (decide_eq_false (by omega))) ?_; refine zxm ?_; refine gq zmv ?_; refine gq zln ?_; refine gq zei ?_; refine gp zpk ?_; refine gnt ?_; refine gif rfl (fun hc40 => ?_) (fun hc40 => ?_)
     ·try simp only at hc40
      have hstop : stopB i bx := .inr (by have h40 := hc40; simp at h40; omega)
      refine gc_exit ?_; refine gx_block_miss rfl ?_; refine gx_then_exit ?_; refine gx_round_exit ?_; refine gx_block_hit ?_; refine gx_then ?_; refine gsr ?_; refine zxm ?_; refine zxa ?_; refine gnt ?_; refine gc_ret ?_; refine gx_ret1 rfl (by conv => lhs; whnf) ?_; have hbl : (behL (lineL (l.rs.map (fun r : LRec => r.b)) t) d) = ((lineL (l.rs.map (fun r : LRec => r.b)) t).drop j).take (i + 1) := by rw [behL_some hji]; exact cut_stop hbx hns hstop
      have hbn : (behL (lineL (l.rs.map (fun r : LRec => r.b)) t) d).length = i + 1 := by rw [hbl, List.length_take, List.length_drop]; omega
      intro w' hw; have h3 := hw.conv (M := [ElR RdBlock cx (lineL (l.rs.map (fun r : LRec => r.b)) t)]) (by repeat (first | exact Sel.nil | (apply Sel.cons; · (repeat (first | exact Pick.here | apply Pick.there))))) (fun _ _ => el_sub j (i + 1))
      rw [← hbl] at h3; exact ⟨((a31, c31), (cx.drop j).take (i + 1)), by rw [hbn], St.pureI (p := ∀ c ∈ (cx.drop j).take (i + 1), List.length c = 39) (fun c hc => hcx c (List.drop_subset _ _ (List.take_subset _ _ hc))) (by show St w F [LedR q g l, rowR 51 39 _ (behL (lineL (l.rs.map (fun r : LRec => r.b)) t) d).length _ ((cx.drop j).take (i + 1)).flatten, ElR RdBlock ((cx.drop j).take (i + 1)) (behL (lineL (l.rs.map (fun r : LRec => r.b)) t) d)] w'; rw [hbn]; rw [takeB_snoc hcp2] at h3 ⊢; rw [List.flatten_append, show ([(.int .i64 bx.epoch :: .int .i64 bx.round :: (dc bx.parent ++ (qj ++ [.slice xa1 xn1 xc1, .slice xa2 xn2 xc2])))]).flatten = (.int .i64 bx.epoch :: .int .i64 bx.round :: (dc bx.parent ++ (qj ++ [.slice xa1 xn1 xc1, .slice xa2 xn2 xc2]))) by simp]; exact h3.z)⟩
     ·refine gc_skip ?_; refine gx_block_normal ?_; refine gx_then ?_; refine gc_region ?_; refine gp zad ?_; refine zxm ?_; refine gl_nil ?_; refine zrd ((i + 1, (a31, c31))) ?_ ?_
      ·show (lineL (l.rs.map (fun r : LRec => r.b)) t).length - j - (i + 1) < (lineL (l.rs.map (fun r : LRec => r.b)) t).length - j - i
       omega
      ·intro w' hw; refine St.pureI (p := i + 1 ≤ (lineL (l.rs.map (fun r : LRec => r.b)) t).length - j ∧ ∀ i' b, i' < i + 1 → ((lineL (l.rs.map (fun r : LRec => r.b)) t).drop j)[i']? = some b → ¬ stopB i' b) ⟨by omega, fun i' b hi' hb => (by by_cases h' : i' < i; exact hns i' b h' hb; (obtain rfl : i' = i := by omega); rw [hb] at hbx; cases hbx; intro hst; have h40 := hc40; simp at h40; rcases hst with h | h <;> omega)⟩ ?_; show St w F [blk b5 27 (dc d), rowR 51 39 (some ⟨gl, ol, none⟩) (lineL (l.rs.map (fun r : LRec => r.b)) t).length c14 cx.flatten, ElR RdBlock cx (lineL (l.rs.map (fun r : LRec => r.b)) t), LedR q g l, rowR 51 39 a31 (i + 1) c31 (((cx.drop j).take (i + 1))).flatten] w'
       rw [takeB_snoc hcp2, List.flatten_append, show ([(.int .i64 bx.epoch :: .int .i64 bx.round :: (dc bx.parent ++ (qj ++ [.slice xa1 xn1 xc1, .slice xa2 xn2 xc2])))]).flatten = (.int .i64 bx.epoch :: .int .i64 bx.round :: (dc bx.parent ++ (qj ++ [.slice xa1 xn1 xc1, .slice xa2 xn2 xc2]))) by simp]; exact hw.z
   ·try simp only at hc25
    have hin : i = (lineL (l.rs.map (fun r : LRec => r.b)) t).length - j := by omega
    refine gc_exit ?_; refine gx_then_exit ?_; refine gx_round_exit ?_; refine gx_block_hit ?_; refine gx_then ?_; refine gsr ?_; refine zxm ?_; refine zxa ?_; refine gnt ?_; refine gc_ret ?_; refine gx_ret1 rfl (by conv => lhs; whnf) ?_; have hbl : (behL (lineL (l.rs.map (fun r : LRec => r.b)) t) d) = ((lineL (l.rs.map (fun r : LRec => r.b)) t).drop j).take (i) := by rw [behL_some hji]; exact cut_end (by rw [List.length_drop]; omega) hns
    have hbn : (behL (lineL (l.rs.map (fun r : LRec => r.b)) t) d).length = i := by rw [hbl, List.length_take, List.length_drop]; omega
    intro w' hw; have h3 := hw.conv (M := [ElR RdBlock cx (lineL (l.rs.map (fun r : LRec => r.b)) t)]) (by repeat (first | exact Sel.nil | (apply Sel.cons; · (repeat (first | exact Pick.here | apply Pick.there))))) (fun _ _ => el_sub j (i))
    rw [← hbl] at h3; exact ⟨((a9, c9), (cx.drop j).take (i)), by rw [hbn], St.pureI (p := ∀ c ∈ (cx.drop j).take (i), List.length c = 39) (fun c hc => hcx c (List.drop_subset _ _ (List.take_subset _ _ hc))) (by show St w F [LedR q g l, rowR 51 39 _ (behL (lineL (l.rs.map (fun r : LRec => r.b)) t) d).length _ ((cx.drop j).take (i)).flatten, ElR RdBlock ((cx.drop j).take (i)) (behL (lineL (l.rs.map (fun r : LRec => r.b)) t) d)] w'; rw [hbn];  exact h3.z)⟩
end
section
theorem ld_all {d : DS} {q g n bs : Nat} {rs : List LRec} {w : World} {F : Nat → Prop} (h : stars [allR [pureR (LdOk d n bs rs), LedR q g (lsOf bs rs), DiskR g d]] w F) : stars [pureR (LdOk d n bs rs), LedR q g (lsOf bs rs), DiskR g d] w F := stars_all h
theorem built_T (es : List Bool) (ps ss : List Int) (cs : List Value) (x : Bx) : BuiltR es ps ss (true, cs, x) =
  [pureR (ShOk es ps ss ∧ cs = bxC x es.length ps.length ∧ (∀ c ∈ x.css, List.length c = 39) ∧ (∀ c ∈ x.css2, List.length c = 39) ∧ ∃ w A, RdBlock w A x.c0 (leB es es.length)),
   LdR x.q x.g 200 0 (leRs es es.length), rowR 51 39 x.la es.length x.lc x.css.flatten, ElR RdBlock x.css (leL es es.length), TreeR x.t (trT (leB es es.length) ps ss ps.length), ModR x.m (trT (leB es es.length) ps ss ps.length) (x.c0 :: x.css2),
   ElR RdBlock x.css2 (trL (leB es es.length) ps ss ps.length), rowR 27 16 x.ia (es.length + 1 + ps.length) x.ic ((idsB es ps ss ps.length).map dc).flatten] := rfl
theorem built_F (es : List Bool) (ps ss : List Int) (cs : List Value) (x : Bx) : BuiltR es ps ss (false, cs, x) = [pureR (¬ ShOk es ps ss ∧ cs.length = 21 ∧ ∀ v ∈ cs, v.oneCell' = true)] := rfl
theorem ShOk.tri {es : List Bool} {ps ss : List Int} (h : ShOk es ps ss) : TrI (leB es es.length) ps ss ps.length := by
  have h0 := leB_round (es := es) es.length
  have ha := h.a
  exact tri_all (leB_epoch _) (leB_sm _) (by omega) (by omega) (by have := h.b; omega) h.d
def fa1 : Dig := ⟨[155, 149, 26, 169, 228, 149, 253, 1, 180, 96, 80, 13, 177, 242, 189, 133], rfl⟩
def fa2 : Dig := ⟨[122, 24, 211, 37, 131, 175, 230, 240, 175, 77, 87, 21, 46, 121, 47, 138], rfl⟩
def fa3 : Dig := ⟨[37, 90, 11, 216, 82, 36, 21, 73, 160, 35, 62, 109, 108, 35, 210, 182], rfl⟩
def fa4 : Dig := ⟨[11, 241, 45, 73, 151, 232, 211, 113, 59, 201, 250, 96, 115, 123, 243, 47], rfl⟩
def fb1 : Block := chB g0 gid 1 0
def fb2 : Block := chB fb1 fa1 1 1
def fb3 : Block := chB fb2 fa2 1 100
def fb4 : Block := chB fb3 fa3 1 101
theorem fb1_err : (wBlock fb1 ⟨0, []⟩).err = 0 := by kernel_rfl
theorem fb1_id : idOf fb1 = fa1 := idOf_is fb1_err (by kernel_rfl)
theorem fb2_err : (wBlock fb2 ⟨0, []⟩).err = 0 := by kernel_rfl
theorem fb2_id : idOf fb2 = fa2 := idOf_is fb2_err (by kernel_rfl)
theorem fb3_err : (wBlock fb3 ⟨0, []⟩).err = 0 := by kernel_rfl
theorem fb3_id : idOf fb3 = fa3 := idOf_is fb3_err (by kernel_rfl)
theorem fb4_err : (wBlock fb4 ⟨0, []⟩).err = 0 := by kernel_rfl
theorem fb4_id : idOf fb4 = fa4 := idOf_is fb4_err (by kernel_rfl)
attribute [local irreducible] idOf
abbrev esA : List Bool := [false, false]
abbrev psA : List Int := [0, 1]
abbrev ssA : List Int := [0, 0]
theorem le1A : leB esA 1 = fb1 := by
  show leX g0 false 0 = fb1
  unfold leX; rw [g0_id]; rfl
theorem le2A : leB esA 2 = fb2 := by
  show leX (leB esA 1) false 1 = fb2
  rw [le1A]; unfold leX; rw [fb1_id]; rfl
theorem trx0 : trX [fb2] 0 0 0 = fb3 := by
  have e1 : uMod 0 ([fb2] : List Block).length = 0 := by kernel_rfl
  have e2 : uMod 0 3 = 0 := by kernel_rfl
  unfold trX
  rw [e1, e2, show ([fb2] : List Block).getD 0 g0 = fb2 from rfl, fb2_id]; rfl
theorem trx1 : trX [fb2, fb3] 1 0 1 = fb4 := by
  have e1 : uMod 1 ([fb2, fb3] : List Block).length = 1 := by kernel_rfl
  have e2 : uMod 0 3 = 0 := by kernel_rfl
  unfold trX
  rw [e1, e2, show ([fb2, fb3] : List Block).getD 1 g0 = fb3 from rfl, fb3_id]; rfl
theorem tr0A : trN (leB esA 2) psA ssA 0 = fb3 := by rw [le2A]; exact trx0
theorem tr1A : trN (leB esA 2) psA ssA 1 = fb4 := by
  show trX (trB (leB esA 2) psA ssA 0 ++ [trN (leB esA 2) psA ssA 0]) 1 0 1 = fb4
  rw [tr0A, le2A]; exact trx1
theorem trT_zero {b0 : Block} {ps ss : List Int} : trT b0 ps ss 0 = newT b0 ⟨1, b0.round, idOf b0, []⟩ (idOf b0) := rfl
theorem trA1 : trT (leB esA 2) psA ssA (0 + 1) = (addE (newT fb2 ⟨1, fb2.round, fa2, []⟩ fa2) fb3 0 fa3).2.2 := by
  rw [← trT_succ, tr0A, trT_zero, le2A, fb2_id, fb3_id]
def tA19 : Tr := ⟨fa2, [(fa2, fb2), (fa3, fb3), (fa4, fb4)], [⟨1, 2, fa2, []⟩, ⟨1, 3, fa3, []⟩]⟩
theorem trA2 : trT (leB esA 2) psA ssA (0 + 1 + 1) = tA19 := by
  rw [← trT_succ, trA1, show trN (leB esA 2) psA ssA (0 + 1) = fb4 from tr1A, fb4_id]
  kernel_rfl
theorem idsB_at {es : List Bool} {ps ss : List Int} {k i : Nat} (h : i ≤ es.length) : (idsB es ps ss k)[i]? = some (leI es i) := by
  unfold idsB
  rw [List.getElem?_append_left (by rw [leD_len]; omega), leD_at h]
theorem shA : ShOk esA psA ssA := by
  refine ⟨by decide, by decide, by decide, fun j hj => ?_⟩
  match j with
  | 0 =>
    show idOf (trN (leB esA 2) psA ssA 0) ∉ [idOf (leB esA 2)]
    rw [tr0A, le2A, fb3_id, fb2_id]; decide
  | 1 =>
    show idOf (trN (leB esA 2) psA ssA 1) ∉ (trB (leB esA 2) psA ssA 0 ++ [trN (leB esA 2) psA ssA 0]).map idOf
    rw [tr1A, tr0A, fb4_id]
    show fa4 ∉ [idOf (leB esA 2), idOf fb3]
    rw [le2A, fb3_id, fb2_id]; decide
  | j + 2 => exact absurd hj (by simp)
theorem behA : behL (lineL ((leRs esA 2).map (fun r : LRec => r.b)) (trT (leB esA 2) psA ssA 2)) (leI esA 1) = [fb2, fb3, fb4] := by
  rw [leRs_b, show trT (leB esA 2) psA ssA 2 = tA19 from trA2]
  show behL (lineL [leB esA 1, leB esA 2] tA19) (idOf (leB esA 1)) = _
  rw [le1A, le2A, fb1_id]
  kernel_rfl
attribute [local irreducible] Gl Gc Gx Gs Runs Wt
attribute [local irreducible] rowR blk VlR ElR dc qcC blkC ModR TreeR gid lineL bestK bestD pathL behL leRs leI leB trT idsB
set_option maxHeartbeats 1000000 in
theorem alive19_ok {w : World} {F : Nat → Prop} {ea : Nat → Addr} {er : List Nat} [Has er 1] [Has er 2] [Has er 3] [Has er 4] [Has er 6] [Has er 8] [Has er 9] [Has er 12] [Has er 14] [Has er 16] [Has er 17] (hE : GErr er w (fun k => ¬ F k) 251 ea) (hK : KR w (fun k => ¬ F k)) (h : stars [] w F) :
    Calls Tryz.prog 8 #[] w (Post w F (fun _ : Unit => .bool true) (fun _ => [])) := by
 refine g_enter (env := []) Tryz.func8 rfl h Tryz.ntmps8 rfl rfl ?_; refine gsr ?_; refine zxa ?_; refine zxs ?_; refine gl_bsls (vs := [.bool false, .bool false]) (wt0 rfl) Ty.sl_22 Ty.sz_4 Ty.zc_4 rfl rfl (all_cons' rfl (all_cons' rfl all_nil')) rfl rfl rfl (fun b4 => ?_)
 refine gl_bsls (vs := [.int .i64 0, .int .i64 1]) (wt0 rfl) Ty.sl_23 Ty.sz_3 Ty.zc_3 rfl rfl (all_cons' rfl (all_cons' rfl all_nil')) rfl rfl rfl (fun b5 => ?_)
 refine gl_bsls (vs := [.int .i64 0, .int .i64 0]) (wt0 rfl) Ty.sl_23 Ty.sz_3 Ty.zc_3 rfl rfl (all_cons' rfl (all_cons' rfl all_nil')) rfl rfl rfl (fun b6 => ?_)
 refine gp (zbu (cs := [.slice (some ⟨b4, 0, none⟩) 2 2, .slice (some ⟨b5, 0, none⟩) 2 2, .slice (some ⟨b6, 0, none⟩) 2 2]) (hf := by kernel_rfl)) ?_; refine zc ?_ (c := fun w1 F1 F2 h1 h2 hd hst => build_ok (es := esA) (ps := psA) (ss := ssA) h1 (hE.mv hst.still) (hK.mv hst.still) (rd_row h2 hd (by repeat (first | exact Pick.here | apply Pick.there))) (rd_row h2 hd (by repeat (first | exact Pick.here | apply Pick.there))) (rd_row h2 hd (by repeat (first | exact Pick.here | apply Pick.there))))
 rintro ⟨r8, cs8, x8⟩
 rcases r8 with _ | _
 ·rw [built_F]; exact gl_pureR (fun hb => absurd shA hb.1)
 rw [built_T]; refine gl_pureR (fun hb => ?_)
 obtain ⟨hsh, rfl, hc1, hc2, hr0⟩ := hb; obtain ⟨xq8, xg8, xt8, xm8, xla8, xlc8, xia8, xic8, xcs8, xd8, xc8⟩ := x8; refine zxm ?_; refine gp zex ?_; refine gp zex ?_; refine zal fun b1 => ?_; refine zsA (bxC_len _ _ _) (bxC_one _ _ _) ?_; refine zxa ?_; refine gnt ?_; refine gc_seq ?_; refine gc_fact (fun w' hw => St.rowAt (hw.sel (M := [rowR 27 16 xia8 (2 + 1 + 2) xic8 ((idsB esA psA ssA 2).map dc).flatten]) (by repeat (first | exact Sel.nil | (apply Sel.cons; · (repeat (first | exact Pick.here | apply Pick.there)))))) .here (by decide)) (fun hra => ?_)
 obtain ⟨_, gi, oi, ha⟩ := hra; subst ha; have hd16 : ∀ c ∈ (idsB esA psA ssA 2).map dc, List.length c = 16 := fun c hc => by obtain ⟨x, _, rfl⟩ := List.mem_map.1 hc; exact dc_length x
 refine gc_conv (M := [LdR xq8 xg8 200 0 (leRs esA 2)]) (N := [exR fun d : DS => allR [pureR (LdOk d 200 0 (leRs esA 2)), LedR xq8 xg8 (lsOf 0 (leRs esA 2)), DiskR xg8 d]]) (by repeat (first | exact Sel.nil | (apply Sel.cons; · (repeat (first | exact Pick.here | apply Pick.there))))) (fun _ _ h => h) ?_; refine gc_exR (fun d0 => ?_)
 refine gc_conv (M := [allR [pureR (LdOk d0 200 0 (leRs esA 2)), LedR xq8 xg8 (lsOf 0 (leRs esA 2)), DiskR xg8 d0]]) (N := [pureR (LdOk d0 200 0 (leRs esA 2)), LedR xq8 xg8 (lsOf 0 (leRs esA 2)), DiskR xg8 d0]) (by repeat (first | exact Sel.nil | (apply Sel.cons; · (repeat (first | exact Pick.here | apply Pick.there))))) (fun _ _ => ld_all) ?_; refine gc_pureR (fun hd0 => ?_)
 refine gc_regionZ 14 ([blk b1 35 (bxC ⟨xq8, xg8, xt8, xm8, xla8, xlc8, some ⟨gi, oi, none⟩, xic8, xcs8, xd8, xc8⟩ 2 2), rowR 27 16 (some ⟨gi, oi, none⟩) (2 + 1 + 2) xic8 ((idsB esA psA ssA 2).map dc).flatten]) ?_; refine yps 0 rfl zmv ?_; refine yps 1 rfl zmv ?_; refine yps 2 rfl zfa ?_; refine yps 3 rfl zl ?_; refine yps 4 rfl zfa ?_; refine yps 5 rfl zl ?_; refine yps 6 rfl zfa ?_; refine yps 7 rfl zl ?_; refine yps 8 rfl (r_val (v' := .pointer (some ⟨gi, oi + 1 * 16, none⟩)) zia rfl) ?_; refine yps 9 rfl (r_ldRow (i := 1) (g := gi) (o := oi) rfl Ty.row_27 Ty.sz_27 (by repeat (first | exact Pick.here | apply Pick.there)) hd16 (by rw [List.getElem?_map, idsB_at (by decide)]; rfl) (by decide)) ?_
 refine yos 10 rfl ?_; refine zc ?_ (c := fun w1 F1 F2 h1 h2 hd hst => behind_ok (l := lsOf 0 (leRs esA 2)) (d := leI esA 1) h1 (tr_rd h2 hd (by repeat (first | exact Pick.here | apply Pick.there))) shA.tri.ok (leRs_ok (by decide)) (by show (leRs esA 2).length < _; rw [leRs_len]; decide) (hE.mv hst.still))
 rintro ⟨⟨a21, c21⟩, cx21⟩
 refine yxs ?_; refine yps 11 rfl zln ?_; refine yps 12 rfl (r_bool (c := true) zei (decide_eq_true (by show ((behL (lineL ((leRs esA 2).map (fun r : LRec => r.b)) (trT (leB esA 2) psA ssA 2)) (leI esA 1)).length : Int) = 3; rw [behA]; rfl))) ?_; refine yps 13 rfl zpk ?_; refine yzs rfl ?_; refine zxa ?_; refine gnt ?_; refine gc_ret ?_; refine gx_ret1 rfl (by conv => lhs; whnf) ?_; exact ze ()
end
end Go.Proofs.YtheonhgffglegaaGreatDoor
