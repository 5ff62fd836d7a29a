/- Part 5. What is proved: see the last part: for every input the law returns true, and the input reads as it did. -/
import Derived.Test.YtobjojeliibinaaDoorCa4
import Derived.Test.YtobjojeliibinaaDoorCards
import Derived.Test.YtobjojeliibinaaDoorTie
import Derived.Deep.DeepHandedRow
import Derived.Deep.DeepWitnessRowRef
/- Walks, by program (wg.py) out of a spec. -/
namespace Go.Proofs.YtobjojeliibinaaDoor
open Go
set_option linter.unusedVariables false
set_option linter.unusedSimpArgs false


/-- Where a block of BlocksApart holds its byte, its chain's byte and its power. -/
structure Spot where
  p1 : Nat
  p1o : Nat
  cp : Nat
  p2 : Nat
  p2o : Nat
  v1 : Nat
  v1o : Nat
  cv : Nat
  v2 : Nat
  v2o : Nat
  n1 : Nat
  n1o : Nat
  c1 : Nat
  c2 : Nat
  c3 : Nat
def spC (s : Spot) : List Value := .int .i64 1 :: .int .i64 1 :: (dc gid ++ (.int .i64 1 :: .int .i64 0 :: (dc gid ++ [.slice (some ⟨s.v1, s.v1o, none⟩) 1 s.c1, .slice (some ⟨s.p1, s.p1o, none⟩) 1 s.c2, .slice (some ⟨s.n1, s.n1o, none⟩) 1 s.c3])))
theorem spC_len (s : Spot) : (spC s).length = 39 := by simp [spC, dc_length]
theorem spC_one (s : Spot) : ∀ v ∈ spC s, v.oneCell' = true :=
  all_cons' rfl (all_cons' rfl (all_app' (dc_one _) (all_cons' rfl (all_cons' rfl (all_app' (dc_one _) (all_cons' rfl (all_cons' rfl (all_cons' rfl all_nil'))))))))
def SpotRd (s : Spot) (u1 u2 : UInt8) (i : Int) (w : World) (F : Nat → Prop) : Prop :=
  (F s.p1 ∧ w.cell? ⟨s.p1, s.p1o, none⟩ = some (.slice (some ⟨s.p2, s.p2o, none⟩) 1 s.cp)) ∧ (F s.p2 ∧ w.cell? ⟨s.p2, s.p2o, none⟩ = some (B8 u1)) ∧
  (F s.v1 ∧ w.cell? ⟨s.v1, s.v1o + 1 + 1, none⟩ = some (.slice (some ⟨s.v2, s.v2o, none⟩) 1 s.cv)) ∧ (F s.v2 ∧ w.cell? ⟨s.v2, s.v2o, none⟩ = some (B8 u2)) ∧ (F s.n1 ∧ w.cell? ⟨s.n1, s.n1o + 16, none⟩ = some (.int .i64 i))
theorem cell_mv {w w' : World} {g o : Nat} {v : Value} {F : Nat → Prop} (h : F g ∧ w.cell? ⟨g, o, none⟩ = some v) (hk : ∀ k, k < w.heap.size → F k → w'.heap[k]? = w.heap[k]?) : F g ∧ w'.cell? ⟨g, o, none⟩ = some v :=
  ⟨h.1, by rw [World.cell?_of_block (w := w) (a := ⟨g, o, none⟩) (hk _ (World.block_lt_of_cell? w _ h.2) h.1)]; exact h.2⟩
def SpotR (s : Spot) (u1 u2 : UInt8) (i : Int) : Res := rdR (SpotRd s u1 u2 i) (fun h hk => ⟨cell_mv h.1 hk, cell_mv h.2.1 hk, cell_mv h.2.2.1 hk, cell_mv h.2.2.2.1 hk, cell_mv h.2.2.2.2 hk⟩)
theorem cell_cells {w : World} {g o : Nat} {v : Value} (h : w.cell? ⟨g, o, none⟩ = some v) : ∃ cs T fz, w.heap[g]? = some (.cells cs T fz) ∧ o < cs.size := by
  unfold World.cell? at h
  split at h
  · rename_i cs T fz hh
    simp at h
    exact ⟨cs, T, fz, hh, (Array.getElem?_eq_some_iff.1 h).1⟩
  · cases h
theorem cell_set {w w' : World} {g o : Nat} {v : Value} {cs : Array Value} {T : TypeId} {fz : Nat × Nat} (hh : w.heap[g]? = some (.cells cs T fz)) (ho : o < cs.size) (hg : w'.heap[g]? = some (.cells (cs.setIfInBounds o v) T fz)) (hk : ∀ k, k ≠ g → w'.heap[k]? = w.heap[k]?) (g' o' : Nat) :
    w'.cell? ⟨g', o', none⟩ = if g' = g ∧ o' = o then some v else w.cell? ⟨g', o', none⟩ := by
  by_cases e : g' = g
  · subst e
    by_cases e2 : o' = o
    · subst e2
      rw [if_pos ⟨rfl, rfl⟩]
      simp [World.cell?, hg, ho]
    · rw [if_neg (fun h => e2 h.2)]
      simp [World.cell?, hg, hh, Array.getElem?_setIfInBounds, Ne.symm e2, Ne.symm]
  · rw [if_neg (fun h => e h.1)]
    exact World.cell?_of_block (w := w) (a := ⟨g', o', none⟩) (hk _ e)
/-- A cell stays when another one, that held something else, is written. -/
theorem cell_stay {w w' : World} {g o g' o' : Nat} {v v0 u : Value} {cs : Array Value} {T : TypeId} {fz : Nat × Nat} {F : Nat → Prop} (hh : w.heap[g]? = some (.cells cs T fz)) (ho : o < cs.size) (hg : w'.heap[g]? = some (.cells (cs.setIfInBounds o v) T fz)) (hk : ∀ k, k ≠ g → w'.heap[k]? = w.heap[k]?)
    (h0 : w.cell? ⟨g, o, none⟩ = some v0) (h : F g' ∧ w.cell? ⟨g', o', none⟩ = some u) (hn : u ≠ v0) : F g' ∧ w'.cell? ⟨g', o', none⟩ = some u := by
  refine ⟨h.1, ?_⟩
  rw [cell_set hh ho hg hk, if_neg]
  · exact h.2
  · rintro ⟨rfl, rfl⟩
    rw [h0] at h
    exact hn (Option.some.inj h.2).symm
theorem b8_ne_sl {u : UInt8} {a : Option Addr} {n c : Nat} : Value.slice a n c ≠ B8 u := fun h => by cases h
theorem sl_ne_b8 {u : UInt8} {i : Int} : Value.int .i64 i ≠ B8 u := fun h => by cases h
theorem b8_ne_i {u : UInt8} {i : Int} : B8 u ≠ Value.int .i64 i := fun h => by cases h
theorem sl_ne_i {i : Int} {a : Option Addr} {n c : Nat} : Value.slice a n c ≠ Value.int .i64 i := fun h => by cases h
section
variable {P : Program} {w0 : World} {F0 : Nat → Prop} {L L' : List Res} {Q : Exit → Act → World → Prop} {n : Fm} {env : Env} {ops : Array Oper} {rest : List Oper} {d : Option Tmp} {ty : TypeId} {pos : String} {af : Array Edge} {gd : Option (Nat × Bool)}
theorem r_ldAny {x : Operand} {T : Nat} {a : Addr} {v : Value} {r : Res} (hx : ev n env x = .pointer (some a)) (hr : rowT P T = some false) (hp : Pick L r L') (hc : ∀ w F, r.on w F → w.cell? a = some v) : Runs P w0 F0 L n env ⟨d, .load T x, ty, pos, af, gd⟩ v := r_load hx fun w hs => by
  obtain ⟨F, hF, _⟩ := hs
  obtain ⟨F1, h1, _⟩ := stars_pick hp hF
  exact run_loadVar_one hr (hc w F1 h1)
variable {s : Spot} {u1 u2 : UInt8} {i : Int} {T : TypeId} {x y : Operand}
theorem r_spP (hx : ev n env x = .pointer (some ⟨s.p1, s.p1o, none⟩) := by exact rfl) (hr : rowT P T = some false) (hp : Pick L (SpotR s u1 u2 i) L') : Runs P w0 F0 L n env ⟨d, .load T x, ty, pos, af, gd⟩ (.slice (some ⟨s.p2, s.p2o, none⟩) 1 s.cp) := r_ldAny hx hr hp fun w F h => h.1.1.2
theorem r_spB (hx : ev n env x = .pointer (some ⟨s.p2, s.p2o, none⟩) := by exact rfl) (hr : rowT P T = some false) (hp : Pick L (SpotR s u1 u2 i) L') : Runs P w0 F0 L n env ⟨d, .load T x, ty, pos, af, gd⟩ (B8 u1) := r_ldAny hx hr hp fun w F h => h.1.2.1.2
theorem r_spV (hx : ev n env x = .pointer (some ⟨s.v1, s.v1o + 1 + 1, none⟩) := by exact rfl) (hr : rowT P T = some false) (hp : Pick L (SpotR s u1 u2 i) L') : Runs P w0 F0 L n env ⟨d, .load T x, ty, pos, af, gd⟩ (.slice (some ⟨s.v2, s.v2o, none⟩) 1 s.cv) := r_ldAny hx hr hp fun w F h => h.1.2.2.1.2
theorem r_spC (hx : ev n env x = .pointer (some ⟨s.v2, s.v2o, none⟩) := by exact rfl) (hr : rowT P T = some false) (hp : Pick L (SpotR s u1 u2 i) L') : Runs P w0 F0 L n env ⟨d, .load T x, ty, pos, af, gd⟩ (B8 u2) := r_ldAny hx hr hp fun w F h => h.1.2.2.2.1.2
theorem r_spN (hx : ev n env x = .pointer (some ⟨s.n1, s.n1o + 16, none⟩) := by exact rfl) (hr : rowT P T = some false) (hp : Pick L (SpotR s u1 u2 i) L') : Runs P w0 F0 L n env ⟨d, .load T x, ty, pos, af, gd⟩ (.int .i64 i) := r_ldAny hx hr hp fun w F h => h.1.2.2.2.2.2
theorem okAt_set {w w' : World} {F : Nat → Prop} {g : Nat} {o : Nat} {v : Value} {cs : Array Value} {T : TypeId} {fz : Nat × Nat} (h : ∀ k, F k → okAt w k) (hh : w.heap[g]? = some (.cells cs T fz)) (hg : w'.heap[g]? = some (.cells (cs.setIfInBounds o v) T fz)) (hk : ∀ k, k ≠ g → w'.heap[k]? = w.heap[k]?) : ∀ k, F k → okAt w' k := fun k hF => by
  by_cases e : k = g
  · subst e
    obtain ⟨ob, hob, hf⟩ := h k hF
    rw [hh] at hob; cases hob
    exact ⟨_, hg, by simpa [okObj] using hf⟩
  · exact (h k hF).mv (hk k e)
theorem gl_spB {v : UInt8} (hw : Wt ops n env ⟨none, .store T x y, ty, pos, af, gd⟩ true) (hx : ev n env x = .pointer (some ⟨s.p2, s.p2o, none⟩)) (hy : ev n env y = B8 v) (hs : szT P T = some 1) (hp : Pick L (SpotR s u1 u2 i) L')
    (k : ∀ u, Gl P w0 F0 (SpotR s v u i :: L') ops Q rest n env) : Gl P w0 F0 L ops Q (⟨none, .store T x y, ty, pos, af, gd⟩ :: rest) n env := by
  refine gl_stAny (r' := SpotR s v (if s.v2 = s.p2 ∧ s.v2o = s.p2o then v else u2) i) hw hx hy hs rfl hp (fun w F h => ?_) (k _)
  obtain ⟨⟨h1, h2, h3, h4, h5⟩, hok⟩ := h
  obtain ⟨cs, T', fz, hh, ho⟩ := cell_cells h2.2
  refine ⟨h2.1, cs, T', fz, hh, ho, fun w' hg hk => ⟨⟨cell_stay hh ho hg hk h2.2 h1 b8_ne_sl, ⟨h2.1, ?_⟩, cell_stay hh ho hg hk h2.2 h3 b8_ne_sl, ⟨h4.1, ?_⟩, cell_stay hh ho hg hk h2.2 h5 sl_ne_b8⟩, okAt_set hok hh hg hk⟩⟩
  · rw [cell_set hh ho hg hk, if_pos ⟨rfl, rfl⟩]
  · rw [cell_set hh ho hg hk]; split
    · rfl
    · exact h4.2
theorem gl_spC {v : UInt8} (hw : Wt ops n env ⟨none, .store T x y, ty, pos, af, gd⟩ true) (hx : ev n env x = .pointer (some ⟨s.v2, s.v2o, none⟩)) (hy : ev n env y = B8 v) (hs : szT P T = some 1) (hp : Pick L (SpotR s u1 u2 i) L')
    (k : ∀ u, Gl P w0 F0 (SpotR s u v i :: L') ops Q rest n env) : Gl P w0 F0 L ops Q (⟨none, .store T x y, ty, pos, af, gd⟩ :: rest) n env := by
  refine gl_stAny (r' := SpotR s (if s.p2 = s.v2 ∧ s.p2o = s.v2o then v else u1) v i) hw hx hy hs rfl hp (fun w F h => ?_) (k _)
  obtain ⟨⟨h1, h2, h3, h4, h5⟩, hok⟩ := h
  obtain ⟨cs, T', fz, hh, ho⟩ := cell_cells h4.2
  refine ⟨h4.1, cs, T', fz, hh, ho, fun w' hg hk => ⟨⟨cell_stay hh ho hg hk h4.2 h1 b8_ne_sl, ⟨h2.1, ?_⟩, cell_stay hh ho hg hk h4.2 h3 b8_ne_sl, ⟨h4.1, ?_⟩, cell_stay hh ho hg hk h4.2 h5 sl_ne_b8⟩, okAt_set hok hh hg hk⟩⟩
  · rw [cell_set hh ho hg hk]; split
    · rfl
    · exact h2.2
  · rw [cell_set hh ho hg hk, if_pos ⟨rfl, rfl⟩]
theorem gl_spN {v : Int} (hw : Wt ops n env ⟨none, .store T x y, ty, pos, af, gd⟩ true) (hx : ev n env x = .pointer (some ⟨s.n1, s.n1o + 16, none⟩)) (hy : ev n env y = .int .i64 v) (hs : szT P T = some 1) (hp : Pick L (SpotR s u1 u2 i) L')
    (k : Gl P w0 F0 (SpotR s u1 u2 v :: L') ops Q rest n env) : Gl P w0 F0 L ops Q (⟨none, .store T x y, ty, pos, af, gd⟩ :: rest) n env := by
  refine gl_stAny (r' := SpotR s u1 u2 v) hw hx hy hs rfl hp (fun w F h => ?_) k
  obtain ⟨⟨h1, h2, h3, h4, h5⟩, hok⟩ := h
  obtain ⟨cs, T', fz, hh, ho⟩ := cell_cells h5.2
  refine ⟨h5.1, cs, T', fz, hh, ho, fun w' hg hk => ⟨⟨cell_stay hh ho hg hk h5.2 h1 sl_ne_i, cell_stay hh ho hg hk h5.2 h2 b8_ne_i, cell_stay hh ho hg hk h5.2 h3 sl_ne_i, cell_stay hh ho hg hk h5.2 h4 b8_ne_i, ⟨h5.1, ?_⟩⟩, okAt_set hok hh hg hk⟩⟩
  rw [cell_set hh ho hg hk, if_pos ⟨rfl, rfl⟩]
end
theorem spot_of {w : World} {A : Nat → Prop} {cs : List Value} {tx : UInt8} {k : Int} (h : RdBlock w A cs (apB tx k)) : ∃ s : Spot, cs = spC s ∧ SpotRd s tx 1 3 w A := by
  obtain ⟨q, a1, n1, c1, a2, n2, c2, rfl, hq, hk1, hp, hk2, hn⟩ := h
  obtain ⟨a3, n3, c3, rfl, hk3, hv⟩ := hq
  obtain rfl : n1 = 1 := hp.len (by decide)
  obtain rfl : n2 = 1 := hn.len (by decide)
  obtain rfl : n3 = 1 := hv.len (by decide)
  obtain ⟨p1, p1o, e1, y1, rfl, hA1, _, hra1, _, hl1, hrd1⟩ := hp.elem (i := 0) (by decide) (by decide)
  obtain rfl : y1 = [tx] := by simpa [apB] using hl1.symm
  obtain ⟨a', n', c', rfl, hn', hrb⟩ := hrd1
  obtain rfl : n' = 1 := by have := hrb.1; simp at this; omega
  obtain ⟨p2, p2o, rfl, hA2, _, hra2⟩ := hrb.elem (i := 0) (by decide)
  obtain ⟨v1, v1o, e3, y3, rfl, hA3, _, hra3, _, hl3, hrd3⟩ := hv.elem (i := 0) (by decide) (by decide)
  obtain rfl : y3 = apS k := by simpa [apB] using hl3.symm
  obtain ⟨ss, rfl, b1, m1, d1, b2, m2, d2, rfl, _, _, hc, _⟩ := hrd3
  obtain rfl : m1 = 1 := hc.len (by decide)
  obtain ⟨v2, v2o, e4, y4, rfl, hA4, _, hra4, _, hl4, hrd4⟩ := hc.elem (i := 0) (by decide) (by decide)
  obtain rfl : y4 = dg1 := by simpa [apS] using hl4.symm
  obtain ⟨n1, n1o, e5, y5, rfl, hA5, _, hra5, _, hl5, hrd5⟩ := hn.elem (i := 0) (by decide) (by decide)
  obtain rfl : y5 = apV := by simpa [apB] using hl5.symm
  refine ⟨⟨p1, p1o, c', p2, p2o, v1, v1o, d1, v2, v2o, n1, n1o, c3, c1, c2⟩, by simp [spC, apB], ⟨hA1, ?_⟩, ⟨hA2, ?_⟩, ⟨hA3, ?_⟩, ⟨hA4, ?_⟩, ⟨hA5, ?_⟩⟩
  · simpa using hra1 0 _ rfl
  · simpa using hra2 0 (B8 tx) rfl
  · simpa [Nat.add_assoc] using hra3 2 _ rfl
  · rw [show e4 = dc dg1 from hrd4] at hra4; simpa using hra4 0 (B8 1) rfl
  · rw [show e5 = dc dig0 ++ [.int .i64 3] from hrd5] at hra5; simpa using hra5 16 (.int .i64 3) rfl
theorem vl_spot {cs : List Value} {tx : UInt8} {k : Int} {w : World} {F : Nat → Prop} (h : stars [VlR RdBlock cs (apB tx k)] w F) : stars [exR fun s : {s : Spot // cs = spC s} => SpotR s.1 tx 1 3] w F := by
  obtain ⟨F1, F2, h1, h2, hF, hd⟩ := h
  obtain ⟨s, hs, hr⟩ := spot_of h1.1
  exact ⟨F1, F2, ⟨⟨s, hs⟩, hr, h1.2⟩, h2, hF, hd⟩
def spX (s : Spot) : Res := exR fun u : UInt8 × UInt8 => SpotR s u.1 u.2 3
theorem spX_mk {s : Spot} {u1 u2 : UInt8} {w : World} {F : Nat → Prop} (h : stars [SpotR s u1 u2 3] w F) : stars [spX s] w F := by
  obtain ⟨F1, F2, h1, h2, hF, hd⟩ := h
  exact ⟨F1, F2, ⟨(u1, u2), h1⟩, h2, hF, hd⟩
theorem spX_v {s : Spot} {w : World} {F : Nat → Prop} (h : (spX s).on w F) : w.cell? ⟨s.v1, s.v1o + 1 + 1, none⟩ = some (.slice (some ⟨s.v2, s.v2o, none⟩) 1 s.cv) := by obtain ⟨u, h⟩ := h; exact h.1.2.2.1.2
theorem spX_n {s : Spot} {w : World} {F : Nat → Prop} (h : (spX s).on w F) : w.cell? ⟨s.n1, s.n1o + 16, none⟩ = some (.int .i64 3) := by obtain ⟨u, h⟩ := h; exact h.1.2.2.2.2.2
theorem spC_eq {b23 b24 b34 b37 b41 : Nat} {s0 : Spot} (hs0 : s0 = ⟨b24, 0, 1, b23, 0, b37, 0, 1, b34, 0, b41, 0, 1, 1, 1⟩) : spC s0 = .int .i64 1 :: .int .i64 1 :: (dc gid ++ (.int .i64 1 :: .int .i64 0 :: (dc gid ++ [.slice (some ⟨b37, 0, none⟩) 1 1, .slice (some ⟨b24, 0, none⟩) 1 1, .slice (some ⟨b41, 0, none⟩) 1 1]))) := by subst hs0; rfl
theorem spC_pay (s : Spot) : (spC s)[37]? = some (.slice (some ⟨s.p1, s.p1o, none⟩) 1 s.c2) := rfl
theorem spC_vot (s : Spot) : (spC s)[36]? = some (.slice (some ⟨s.v1, s.v1o, none⟩) 1 s.c1) := rfl
theorem spC_nxt (s : Spot) : (spC s)[38]? = some (.slice (some ⟨s.n1, s.n1o, none⟩) 1 s.c3) := rfl
theorem row_cell {e size b c : Nat} {xs : List Value} {w : World} {F : Nat → Prop} (h : (rowR e size (some ⟨b, 0, none⟩) 1 c xs).on w F) (i : Nat) {v : Value} (hv : xs[i]? = some v) : F b ∧ w.cell? ⟨b, i, none⟩ = some v := by
  obtain ⟨g, o, ha, hA, _, hr⟩ := (rowR.rd h).2.2 (by decide)
  cases ha
  have := hr i v hv
  rw [Nat.zero_add] at this
  exact ⟨hA, this⟩
theorem sp_rows {tx : UInt8} {k : Int} {b23 b24 b34 b37 b41 e1 e2 e3 e4 e5 : Nat} {s0 : Spot} (hs0 : s0 = ⟨b24, 0, 1, b23, 0, b37, 0, 1, b34, 0, b41, 0, 1, 1, 1⟩) {w : World} {F : Nat → Prop} (h : stars [rowR e1 1 (some ⟨b24, 0, none⟩) 1 1 [.slice (some ⟨b23, 0, none⟩) 1 1], rowR e2 1 (some ⟨b23, 0, none⟩) 1 1 [B8 tx], rowR e3 4 (some ⟨b37, 0, none⟩) 1 1 [.int .i64 k, .int .i64 0, .slice (some ⟨b34, 0, none⟩) 1 1, .slice none 0 0], rowR e4 16 (some ⟨b34, 0, none⟩) 1 1 (dc dg1), rowR e5 17 (some ⟨b41, 0, none⟩) 1 1 (dc dig0 ++ [.int .i64 3])] w F) : stars [SpotR s0 tx 1 3] w F := by
  have hall := h
  obtain ⟨F1, G1, h1, h, hF1, _⟩ := h
  obtain ⟨F2, G2, h2, h, hF2, _⟩ := h
  obtain ⟨F3, G3, h3, h, hF3, _⟩ := h
  obtain ⟨F4, G4, h4, h, hF4, _⟩ := h
  obtain ⟨F5, G5, h5, h, hF5, _⟩ := h
  subst hs0
  refine rdR_mk ⟨?_, ?_, ?_, ?_, ?_⟩ hall
  · have e := row_cell h1 0 rfl; exact ⟨(hF1 _).2 (.inl e.1), e.2⟩
  · have e := row_cell h2 0 rfl; exact ⟨(hF1 _).2 (.inr ((hF2 _).2 (.inl e.1))), e.2⟩
  · have e := row_cell h3 2 rfl; exact ⟨(hF1 _).2 (.inr ((hF2 _).2 (.inr ((hF3 _).2 (.inl e.1))))), e.2⟩
  · have e := row_cell h4 0 (v := B8 1) rfl; exact ⟨(hF1 _).2 (.inr ((hF2 _).2 (.inr ((hF3 _).2 (.inr ((hF4 _).2 (.inl e.1))))))), e.2⟩
  · have e := row_cell h5 16 (v := .int .i64 3) rfl; exact ⟨(hF1 _).2 (.inr ((hF2 _).2 (.inr ((hF3 _).2 (.inr ((hF4 _).2 (.inr ((hF5 _).2 (.inl e.1))))))))), e.2⟩
/-- The block that BlocksApart builds. -/
theorem rd_ap {w : World} {A : Nat → Prop} {s : Spot} {tx : UInt8} {k : Int} (hc : 1 ≤ s.c1 ∧ 1 ≤ s.c2 ∧ 1 ≤ s.c3 ∧ 1 ≤ s.cp ∧ 1 ≤ s.cv) (h1 : RdRow w A 1 (some ⟨s.p1, s.p1o, none⟩) 1 [.slice (some ⟨s.p2, s.p2o, none⟩) 1 s.cp]) (h2 : RdRow w A 1 (some ⟨s.p2, s.p2o, none⟩) 1 [B8 tx])
    (h3 : RdRow w A 4 (some ⟨s.v1, s.v1o, none⟩) 1 [.int .i64 k, .int .i64 0, .slice (some ⟨s.v2, s.v2o, none⟩) 1 s.cv, .slice none 0 0]) (h4 : RdRow w A 16 (some ⟨s.v2, s.v2o, none⟩) 1 (dc dg1)) (h5 : RdRow w A 17 (some ⟨s.n1, s.n1o, none⟩) 1 (dc dig0 ++ [.int .i64 3])) : RdBlock w A (spC s) (apB tx k) :=
  ⟨.int .i64 1 :: .int .i64 0 :: (dc gid ++ [.slice (some ⟨s.v1, s.v1o, none⟩) 1 s.c1]), some ⟨s.p1, s.p1o, none⟩, 1, s.c2, some ⟨s.n1, s.n1o, none⟩, 1, s.c3, by simp [spC, apB],
    ⟨some ⟨s.v1, s.v1o, none⟩, 1, s.c1, rfl, hc.1, ⟨[[.int .i64 k, .int .i64 0, .slice (some ⟨s.v2, s.v2o, none⟩) 1 s.cv, .slice none 0 0]], by simpa using h3, by simp, rfl, fun i c y hx hy => by
      match i with
      | 0 =>
        simp at hx; subst hx; simp [apB] at hy; subst hy
        exact ⟨_, rfl, _, _, _, none, 0, 0, rfl, hc.2.2.2.2, Nat.le_refl _, ⟨[dc dg1], by simpa using h4, by simp [dc_length], rfl, fun i c y hx hy => by
          match i with
          | 0 => simp at hx; subst hx; simp [apS] at hy; subst hy; rfl
          | i + 1 => simp at hx⟩, RdList.nil⟩
      | i + 1 => simp at hx⟩⟩, hc.2.1,
    ⟨[[.slice (some ⟨s.p2, s.p2o, none⟩) 1 s.cp]], by simpa using h1, by simp, rfl, fun i c y hx hy => by
      match i with
      | 0 => simp at hx; subst hx; simp [apB] at hy; subst hy; exact ⟨_, _, _, rfl, hc.2.2.2.1, h2⟩
      | i + 1 => simp at hx⟩, hc.2.2.1,
    ⟨[dc dig0 ++ [.int .i64 3]], by simpa using h5, by simp [dc_length], rfl, fun i c y hx hy => by
      match i with
      | 0 => simp at hx; subst hx; simp [apB] at hy; subst hy; rfl
      | i + 1 => simp at hx⟩⟩

end Go.Proofs.YtobjojeliibinaaDoor

/- Walks, by program (wg.py) out of a spec. -/
namespace Go.Proofs.YtobjojeliibinaaDoor
open Go
set_option linter.unusedVariables false
set_option linter.unusedSimpArgs false

attribute [local irreducible] Gl Gc Gx Gs Runs Wt

attribute [local irreducible] dc qcC blkC idOf TreeR gid fkT spC

set_option maxHeartbeats 400000 in
theorem blocksApart_ok {w : World} {F : Nat → Prop} {tx : UInt8} {votes : Int} (h : stars [] w F) {ea : Nat → Addr} {es : List Nat} [Has es 1] [Has es 4] [Has es 8] [Has es 9] [Has es 12] [Has es 14] [Has es 16] [Has es 17] (hE : GErr es w (fun k => ¬ F k) 146 ea) (hK : KR w (fun k => ¬ F k))  :
    Calls Tryd.prog 4 #[B8 tx, .int .i64 votes] w (Post w F (fun _ : Unit => .bool true) (fun _ => [])) := by
  obtain ⟨hv1, hv2⟩ := u64_rem votes (m := 7) (by decide)
  obtain ⟨k, hk⟩ : ∃ k, k = ((IntKind.u64.wrap votes).tmod ((7 : Nat) : Int)).toNat := ⟨_, rfl⟩
  rw [← hk] at hv1 hv2
  obtain ⟨he0, hne⟩ := ap_all (tx := tx) hv2
  have hT0 : TOk (fkT 0 0) := fkT_ok (by decide)
  have hT1 := ap_tok (tx := tx) (k := (k : Int)) hT0 hne
  have hg1 := ap_get (tx := tx) (k := (k : Int)) hne
  refine g_enter (env := [(0, B8 tx), (1, .int .i64 votes)]) Tryd.func4 rfl h Tryd.ntmps4 rfl rfl ?_
  refine gsr ?_
  refine gp zas ?_
  refine gnt ?_
  refine gc_seq ?_
  refine gsr ?_
  refine zc (fun _ => ?_) (c := fun w1 F1 F2 h1 h2 hd hst => alive15_ok h1 (hE.mv hst.still) (hK.mv hst.still))
  refine gp znt ?_
  refine gnt ?_
  refine gc_condF rfl rfl ?_
  refine gc_skip ?_
  refine gx_then ?_
  refine gsr ?_
  refine zc (fun q => ?_) (c := fun w1 F1 F2 h1 h2 hd hst => genesis15_ok h1 (hE.mv hst.still) (hK.mv hst.still))
  have igen := Len.of genC_len
  have jgen := One.of (rdGen (w := w) (A := fun _ => True)).one
  refine gp zmv ?_
  refine gp zex ?_
  refine gp zex ?_
  refine gp zex ?_
  refine gp zex ?_
  refine zal fun b6 => ?_
  refine gl_eqc (cs' := blkC) (by repeat (first | exact Pick.here | apply Pick.there)) (by kernel_rfl) ?_
  refine zal fun b7 => ?_
  refine gp zas ?_
  refine zsA genC_len One.h ?_
  refine zsN ?_
  refine gp zas ?_
  refine gnt ?_
  refine gc_seq ?_
  refine gsr ?_
  refine gp zmv ?_
  refine gp (r_bool (c := false) znt rfl) ?_
  refine gnt ?_
  refine gc_condF rfl rfl ?_
  refine gc_skip ?_
  refine gx_then ?_
  refine gsr ?_
  refine gp (zLa (cs := genC)) ?_
  refine gp zL ?_
  refine gp zmv ?_
  refine zc ?_ (c := fun w1 F1 F2 h1 h2 hd hst => child15_ok (b := g0) (id := gid) (on := 1) (tx := tx) h1 (rdGen (w := w) (A := fun _ => True)) (by decide) (by decide))
  rintro ⟨b23, b24⟩
  have ich := Len.of (chC_len g0 gid 1 b24)
  have jch := One.of (chC_one g0 gid 1 b24)
  refine zal fun b9 => ?_
  refine gl_eqc (cs' := blkC) (by repeat (first | exact Pick.here | apply Pick.there)) (by kernel_rfl) ?_
  refine zsA (chC_len _ _ _ _) (chC_one _ _ _ _) ?_
  refine gnt ?_
  refine gsr ?_
  refine gp zmv ?_
  refine gp zci ?_
  refine gp (r_int (j := (k : Int)) zrm hv1) ?_
  refine gp (r_int (j := (k : Int)) zci (wrap_i64 (by omega) (by omega))) ?_
  refine gp (zba (cs := dc dg1) (hf := by kernel_rfl)) ?_
  refine zeN fun b34 => ?_
  refine gp (zbu (cs := [.int .i64 0, .slice (some ⟨b34, 0, none⟩) 1 1, .slice none 0 0]) (hf := by kernel_rfl)) ?_
  refine gp (zbu (cs := [.int .i64 (k : Int), .int .i64 0, .slice (some ⟨b34, 0, none⟩) 1 1, .slice none 0 0]) (hf := by kernel_rfl)) ?_
  refine zeN fun b37 => ?_
  refine gl_eqc (cs' := .int .i64 1 :: .int .i64 1 :: (dc gid ++ (.int .i64 1 :: .int .i64 0 :: (dc gid ++ [.slice none 0 0, .slice (some ⟨b24, 0, none⟩) 1 1, .slice none 0 0])))) (cs := chC g0 gid 1 b24) (by repeat (first | exact Pick.here | apply Pick.there)) (by kernel_rfl) ?_
  refine gp zfa ?_
  refine gp zfa ?_
  refine zs1 ?_
  refine gnt ?_
  refine gsr ?_
  refine gp (zbu (cs := dc dig0 ++ [.int .i64 3]) (hf := by kernel_rfl)) ?_
  refine zeN fun b41 => ?_
  refine gp zfa ?_
  refine zs1 ?_
  refine gnt ?_
  refine gsr ?_
  obtain ⟨s0, hs0⟩ : ∃ s0 : Spot, s0 = ⟨b24, 0, 1, b23, 0, b37, 0, 1, b34, 0, b41, 0, 1, 1, 1⟩ := ⟨_, rfl⟩
  have hsc := spC_eq hs0
  refine gl_eqc (cs' := spC s0) (by repeat (first | exact Pick.here | apply Pick.there)) hsc.symm ?_
  have is0 := Len.of (spC_len s0)
  have js0 := One.of (spC_one s0)
  refine gp zmv ?_
  refine gp (zLa (cs := spC s0)) ?_
  refine zc (fun _ => ?_) (c := fun w1 F1 F2 h1 h2 hd hst => tadd_eq (b := (apB tx (k : Int))) (id := idOf (apB tx (k : Int))) (hE.mv hst.still) (hK.mv hst.still) h1 hT0 (rd_ap (s := s0) (by rw [hs0]; exact ⟨Nat.le_refl 1, Nat.le_refl 1, Nat.le_refl 1, Nat.le_refl 1, Nat.le_refl 1⟩) (by rw [hs0]; exact rd_row h2 hd (by repeat (first | exact Pick.here | apply Pick.there))) (by rw [hs0]; exact rd_row h2 hd (by repeat (first | exact Pick.here | apply Pick.there))) (by rw [hs0]; exact rd_row h2 hd (by repeat (first | exact Pick.here | apply Pick.there))) (by rw [hs0]; exact rd_row h2 hd (by repeat (first | exact Pick.here | apply Pick.there))) (by rw [hs0]; exact rd_row h2 hd (by repeat (first | exact Pick.here | apply Pick.there)))) (ap_sm _ _) he0 rfl (ap_add hne))
  refine gl_conv (M := [rowR 54 1 (some ⟨b24, 0, none⟩) 1 1 [.slice (some ⟨b23, 0, none⟩) 1 1], rowR 5 1 (some ⟨b23, 0, none⟩) 1 1 [B8 tx], rowR 51 4 (some ⟨b37, 0, none⟩) 1 1 [.int .i64 (k : Int), .int .i64 0, .slice (some ⟨b34, 0, none⟩) 1 1, .slice none 0 0], rowR 26 16 (some ⟨b34, 0, none⟩) 1 1 (dc dg1), rowR 53 17 (some ⟨b41, 0, none⟩) 1 1 (dc dig0 ++ [.int .i64 3])]) (N := [SpotR s0 tx 1 3]) (by repeat (first | exact Sel.nil | (apply Sel.cons; · (repeat (first | exact Pick.here | apply Pick.there))))) (fun _ _ => sp_rows hs0) ?_
  refine gp zmv ?_
  refine gp zex ?_
  refine gp zex ?_
  refine zal fun b10 => ?_
  refine zsA (dc_length _) (dc_one _) ?_
  refine gp zas ?_
  refine gnt ?_
  refine gc_seq ?_
  refine gsr ?_
  refine gp zmv ?_
  refine gp (r_bool (c := false) (r_nenil rfl (by kernel_rfl)) rfl) ?_
  refine gnt ?_
  refine gc_condF rfl rfl ?_
  refine gc_skip ?_
  refine gx_then ?_
  refine gsr ?_
  refine gp zfa ?_
  refine gp (zl (hv := spC_pay s0)) ?_
  refine gp (r_val (v' := .pointer (some ⟨s0.p1, s0.p1o, none⟩)) zia (by simp)) ?_
  refine gp (r_spP (s := s0) rfl Ty.row_54 (by repeat (first | exact Pick.here | apply Pick.there))) ?_
  refine gp (r_val (v' := .pointer (some ⟨s0.p2, s0.p2o, none⟩)) zia (by simp)) ?_
  refine gp (r_spB (s := s0) rfl Ty.row_5 (by repeat (first | exact Pick.here | apply Pick.there))) ?_
  refine gp (r_val (r_add rfl rfl) (b8_succ0 _)) ?_
  refine gp (r_val (v' := .pointer (some ⟨s0.p2, s0.p2o, none⟩)) zia (by simp)) ?_
  refine gl_spB (s := s0) (wt0 rfl) rfl rfl Ty.sz_5 (by repeat (first | exact Pick.here | apply Pick.there)) (fun u12 => ?_)
  refine gl_conv (N := [spX s0]) (by repeat (first | exact Sel.nil | (apply Sel.cons; · (repeat (first | exact Pick.here | apply Pick.there))))) (fun _ _ => spX_mk) ?_
  refine gnt ?_
  refine gc_seq ?_
  refine gc_regionH ([blk b9 33 (spC s0), spX s0]) ?_
  refine yp 0 rfl zfa ?_
  refine yp 1 rfl zfa ?_
  refine yp 2 rfl (zl (hv := spC_vot s0)) ?_
  refine yp 3 rfl (r_val (v' := .pointer (some ⟨s0.v1, s0.v1o, none⟩)) zia (by simp)) ?_
  refine yp 4 rfl zfa ?_
  refine yp 5 rfl zfa ?_
  refine yp 6 rfl (r_ldAny (r := spX s0) rfl Ty.row_37 (by repeat (first | exact Pick.here | apply Pick.there)) (fun w F h => spX_v h)) ?_
  refine yp 7 rfl (r_val (v' := .pointer (some ⟨s0.v2, s0.v2o, none⟩)) zia (by simp)) ?_
  refine yp 8 rfl zib ?_
  refine yp 11 rfl (r_val (v' := .pointer (some ⟨s0.v2, s0.v2o, none⟩)) zia (by simp)) ?_
  refine yo 9 rfl ?_
  refine gl_conv (M := [spX s0]) (N := [spX s0]) (by repeat (first | exact Sel.nil | (apply Sel.cons; · (repeat (first | exact Pick.here | apply Pick.there))))) (fun _ _ h => h) ?_
  refine gl_exR (fun uu => ?_)
  refine gp (r_spC (s := s0) rfl Ty.row_5 (by repeat (first | exact Pick.here | apply Pick.there))) ?_
  refine gl_conv (N := [spX s0]) (by repeat (first | exact Sel.nil | (apply Sel.cons; · (repeat (first | exact Pick.here | apply Pick.there))))) (fun _ _ => spX_mk) ?_
  refine yx ?_
  refine yp 10 rfl (r_val (r_add rfl rfl) (b8_succ0 _)) ?_
  refine yp 12 rfl zib ?_
  refine yo 13 rfl ?_
  refine gl_conv (M := [spX s0]) (N := [spX s0]) (by repeat (first | exact Sel.nil | (apply Sel.cons; · (repeat (first | exact Pick.here | apply Pick.there))))) (fun _ _ h => h) ?_
  refine gl_exR (fun uu => ?_)
  refine gl_spC (s := s0) (wt0 rfl) rfl rfl Ty.sz_5 (by repeat (first | exact Pick.here | apply Pick.there)) (fun u13 => ?_)
  refine gl_conv (N := [spX s0]) (by repeat (first | exact Sel.nil | (apply Sel.cons; · (repeat (first | exact Pick.here | apply Pick.there))))) (fun _ _ => spX_mk) ?_
  refine yx ?_
  refine yd ?_
  refine gx_then ?_
  refine gsr ?_
  refine gp zfa ?_
  refine gp (zl (hv := spC_nxt s0)) ?_
  refine gp (r_val (v' := .pointer (some ⟨s0.n1, s0.n1o, none⟩)) zia (by simp)) ?_
  refine gp zfa ?_
  refine gp (r_ldAny (r := spX s0) rfl Ty.row_3 (by repeat (first | exact Pick.here | apply Pick.there)) (fun w F h => spX_n h)) ?_
  refine gp (r_int (j := 4) zad rfl) ?_
  refine gp (r_val (v' := .pointer (some ⟨s0.n1, s0.n1o, none⟩)) zia (by simp)) ?_
  refine gp zfa ?_
  refine gl_conv (M := [spX s0]) (N := [spX s0]) (by repeat (first | exact Sel.nil | (apply Sel.cons; · (repeat (first | exact Pick.here | apply Pick.there))))) (fun _ _ h => h) ?_
  refine gl_exR (fun uu => ?_)
  refine gl_spN (s := s0) (wt0 rfl) rfl rfl Ty.sz_3 (by repeat (first | exact Pick.here | apply Pick.there)) ?_
  refine gnt ?_
  refine gsr ?_
  refine gp zmv ?_
  refine gp (zLa (cs := dc (idOf (apB tx (k : Int))))) ?_
  refine zc (fun x83 => ?_) (c := fun w1 F1 F2 h1 h2 hd hst => tget_ok (d := idOf (apB tx (k : Int))) (tr_rd h2 hd (by repeat (first | exact Pick.here | apply Pick.there))) hT1 h1)
  rw [hg1.1, hg1.2]
  refine gl_pureR (fun hx83 => ?_)
  obtain ⟨hl83, ho83⟩ := hx83
  refine gl_conv (M := [VlR RdBlock x83 (apB tx (k : Int))]) (N := [exR fun s : {s : Spot // x83 = spC s} => SpotR s.1 tx 1 3]) (by repeat (first | exact Sel.nil | (apply Sel.cons; · (repeat (first | exact Pick.here | apply Pick.there))))) (fun _ _ => vl_spot) ?_
  refine gl_exR (fun ss => ?_)
  obtain ⟨s, rfl⟩ := ss
  have is := Len.of (spC_len s)
  have js := One.of (spC_one s)
  refine gp zmv ?_
  refine gp zex ?_
  refine gp zex ?_
  refine zal fun b12 => ?_
  refine gl_eqc (cs' := blkC) (by repeat (first | exact Pick.here | apply Pick.there)) (by kernel_rfl) ?_
  refine zsA (spC_len _) (spC_one _) ?_
  refine gp zas ?_
  refine gnt ?_
  refine gc_seq ?_
  refine gsr ?_
  refine gp zmv ?_
  refine gp (r_bool (c := false) znt rfl) ?_
  refine gp zmv ?_
  refine gq zfa ?_
  refine gq (zl (hv := spC_pay s)) ?_
  refine gq zln ?_
  refine gq (r_bool (c := false) zni rfl) ?_
  refine gp zpk ?_
  refine gp zmv ?_
  refine gq zfa ?_
  refine gq (zl (hv := spC_pay s)) ?_
  refine gq (r_val (v' := .pointer (some ⟨s.p1, s.p1o, none⟩)) zia (by simp)) ?_
  refine gq (r_spP (s := s) rfl Ty.row_54 (by repeat (first | exact Pick.here | apply Pick.there))) ?_
  refine gq (r_val (v' := .pointer (some ⟨s.p2, s.p2o, none⟩)) zia (by simp)) ?_
  refine gq (r_spB (s := s) rfl Ty.row_5 (by repeat (first | exact Pick.here | apply Pick.there))) ?_
  refine gq zmv ?_
  refine gq (r_bool (c := false) zni (by simp)) ?_
  refine gp zpk ?_
  refine gp zmv ?_
  refine gq zfa ?_
  refine gq (zl (hv := spC_nxt s)) ?_
  refine gq (r_val (v' := .pointer (some ⟨s.n1, s.n1o, none⟩)) zia (by simp)) ?_
  refine gq zfa ?_
  refine gq (r_spN (s := s) rfl Ty.row_3 (by repeat (first | exact Pick.here | apply Pick.there))) ?_
  refine gq (r_bool (c := false) zni rfl) ?_
  refine gp zpk ?_
  refine gp zmv ?_
  refine gq zfa ?_
  refine gq zfa ?_
  refine gq (zl (hv := spC_vot s)) ?_
  refine gq (r_val (v' := .pointer (some ⟨s.v1, s.v1o, none⟩)) zia (by simp)) ?_
  refine gq zfa ?_
  refine gq zfa ?_
  refine gq (r_spV (s := s) rfl Ty.row_37 (by repeat (first | exact Pick.here | apply Pick.there))) ?_
  refine gq (r_val (v' := .pointer (some ⟨s.v2, s.v2o, none⟩)) zia (by simp)) ?_
  refine gq zib ?_
  refine gq (r_spC (s := s) rfl Ty.row_5 (by repeat (first | exact Pick.here | apply Pick.there))) ?_
  refine gq (r_bool (c := false) zni rfl) ?_
  refine gp zpk ?_
  refine gnt ?_
  refine gc_condF rfl rfl ?_
  refine gc_skip ?_
  refine gx_then ?_
  refine gsr ?_
  refine gp zfa ?_
  refine gp (zl (hv := spC_pay s)) ?_
  refine gp (r_val (v' := .pointer (some ⟨s.p1, s.p1o, none⟩)) zia (by simp)) ?_
  refine gp (r_spP (s := s) rfl Ty.row_54 (by repeat (first | exact Pick.here | apply Pick.there))) ?_
  refine gp (r_val (v' := .pointer (some ⟨s.p2, s.p2o, none⟩)) zia (by simp)) ?_
  refine gp (r_spB (s := s) rfl Ty.row_5 (by repeat (first | exact Pick.here | apply Pick.there))) ?_
  refine gp (r_val (r_add rfl rfl) (b8_succ0 _)) ?_
  refine gp (r_val (v' := .pointer (some ⟨s.p2, s.p2o, none⟩)) zia (by simp)) ?_
  refine gl_spB (s := s) (wt0 rfl) rfl rfl Ty.sz_5 (by repeat (first | exact Pick.here | apply Pick.there)) (fun u18 => ?_)
  refine gl_conv (N := [spX s]) (by repeat (first | exact Sel.nil | (apply Sel.cons; · (repeat (first | exact Pick.here | apply Pick.there))))) (fun _ _ => spX_mk) ?_
  refine gnt ?_
  refine gc_seq ?_
  refine gc_regionH ([blk b12 33 (spC s), spX s]) ?_
  refine yp 0 rfl zfa ?_
  refine yp 1 rfl zfa ?_
  refine yp 2 rfl (zl (hv := spC_vot s)) ?_
  refine yp 3 rfl (r_val (v' := .pointer (some ⟨s.v1, s.v1o, none⟩)) zia (by simp)) ?_
  refine yp 4 rfl zfa ?_
  refine yp 5 rfl zfa ?_
  refine yp 6 rfl (r_ldAny (r := spX s) rfl Ty.row_37 (by repeat (first | exact Pick.here | apply Pick.there)) (fun w F h => spX_v h)) ?_
  refine yp 7 rfl (r_val (v' := .pointer (some ⟨s.v2, s.v2o, none⟩)) zia (by simp)) ?_
  refine yp 8 rfl zib ?_
  refine yp 11 rfl (r_val (v' := .pointer (some ⟨s.v2, s.v2o, none⟩)) zia (by simp)) ?_
  refine yo 9 rfl ?_
  refine gl_conv (M := [spX s]) (N := [spX s]) (by repeat (first | exact Sel.nil | (apply Sel.cons; · (repeat (first | exact Pick.here | apply Pick.there))))) (fun _ _ h => h) ?_
  refine gl_exR (fun uu => ?_)
  refine gp (r_spC (s := s) rfl Ty.row_5 (by repeat (first | exact Pick.here | apply Pick.there))) ?_
  refine gl_conv (N := [spX s]) (by repeat (first | exact Sel.nil | (apply Sel.cons; · (repeat (first | exact Pick.here | apply Pick.there))))) (fun _ _ => spX_mk) ?_
  refine yx ?_
  refine yp 10 rfl (r_val (r_add rfl rfl) (b8_succ0 _)) ?_
  refine yp 12 rfl zib ?_
  refine yo 13 rfl ?_
  refine gl_conv (M := [spX s]) (N := [spX s]) (by repeat (first | exact Sel.nil | (apply Sel.cons; · (repeat (first | exact Pick.here | apply Pick.there))))) (fun _ _ h => h) ?_
  refine gl_exR (fun uu => ?_)
  refine gl_spC (s := s) (wt0 rfl) rfl rfl Ty.sz_5 (by repeat (first | exact Pick.here | apply Pick.there)) (fun u19 => ?_)
  refine gl_conv (N := [spX s]) (by repeat (first | exact Sel.nil | (apply Sel.cons; · (repeat (first | exact Pick.here | apply Pick.there))))) (fun _ _ => spX_mk) ?_
  refine yx ?_
  refine yd ?_
  refine gx_then ?_
  refine gsr ?_
  refine gp zfa ?_
  refine gp (zl (hv := spC_nxt s)) ?_
  refine gp (r_val (v' := .pointer (some ⟨s.n1, s.n1o, none⟩)) zia (by simp)) ?_
  refine gp zfa ?_
  refine gp (r_ldAny (r := spX s) rfl Ty.row_3 (by repeat (first | exact Pick.here | apply Pick.there)) (fun w F h => spX_n h)) ?_
  refine gp (r_int (j := 4) zad rfl) ?_
  refine gp (r_val (v' := .pointer (some ⟨s.n1, s.n1o, none⟩)) zia (by simp)) ?_
  refine gp zfa ?_
  refine gl_conv (M := [spX s]) (N := [spX s]) (by repeat (first | exact Sel.nil | (apply Sel.cons; · (repeat (first | exact Pick.here | apply Pick.there))))) (fun _ _ h => h) ?_
  refine gl_exR (fun uu => ?_)
  refine gl_spN (s := s) (wt0 rfl) rfl rfl Ty.sz_3 (by repeat (first | exact Pick.here | apply Pick.there)) ?_
  refine gnt ?_
  refine gsr ?_
  refine gp zmv ?_
  refine gp (zLa (cs := dc (idOf (apB tx (k : Int))))) ?_
  refine zc (fun x157 => ?_) (c := fun w1 F1 F2 h1 h2 hd hst => tget_ok (d := idOf (apB tx (k : Int))) (tr_rd h2 hd (by repeat (first | exact Pick.here | apply Pick.there))) hT1 h1)
  rw [hg1.1, hg1.2]
  refine gl_pureR (fun hx157 => ?_)
  obtain ⟨hl157, ho157⟩ := hx157
  refine gl_conv (M := [VlR RdBlock x157 (apB tx (k : Int))]) (N := [exR fun s : {s : Spot // x157 = spC s} => SpotR s.1 tx 1 3]) (by repeat (first | exact Sel.nil | (apply Sel.cons; · (repeat (first | exact Pick.here | apply Pick.there))))) (fun _ _ => vl_spot) ?_
  refine gl_exR (fun ss => ?_)
  obtain ⟨s2, rfl⟩ := ss
  have is2 := Len.of (spC_len s2)
  have js2 := One.of (spC_one s2)
  refine gp zmv ?_
  refine gp zex ?_
  refine gp zex ?_
  refine zal fun b14 => ?_
  refine gl_eqc (cs' := blkC) (by repeat (first | exact Pick.here | apply Pick.there)) (by kernel_rfl) ?_
  refine zsA (spC_len _) (spC_one _) ?_
  refine gp zas ?_
  refine gnt ?_
  refine gsr ?_
  refine gp zmv ?_
  refine gp zmv ?_
  refine gq zfa ?_
  refine gq (zl (hv := spC_pay s2)) ?_
  refine gq (r_val (v' := .pointer (some ⟨s2.p1, s2.p1o, none⟩)) zia (by simp)) ?_
  refine gq (r_spP (s := s2) rfl Ty.row_54 (by repeat (first | exact Pick.here | apply Pick.there))) ?_
  refine gq (r_val (v' := .pointer (some ⟨s2.p2, s2.p2o, none⟩)) zia (by simp)) ?_
  refine gq (r_spB (s := s2) rfl Ty.row_5 (by repeat (first | exact Pick.here | apply Pick.there))) ?_
  refine gq zmv ?_
  refine gq (r_bool (c := true) zei (by simp)) ?_
  refine gp zpk ?_
  refine gp zmv ?_
  refine gq zfa ?_
  refine gq (zl (hv := spC_nxt s2)) ?_
  refine gq (r_val (v' := .pointer (some ⟨s2.n1, s2.n1o, none⟩)) zia (by simp)) ?_
  refine gq zfa ?_
  refine gq (r_spN (s := s2) rfl Ty.row_3 (by repeat (first | exact Pick.here | apply Pick.there))) ?_
  refine gq (r_bool (c := true) zei rfl) ?_
  refine gp zpk ?_
  refine gp zmv ?_
  refine gq zfa ?_
  refine gq zfa ?_
  refine gq (zl (hv := spC_vot s2)) ?_
  refine gq (r_val (v' := .pointer (some ⟨s2.v1, s2.v1o, none⟩)) zia (by simp)) ?_
  refine gq zfa ?_
  refine gq zfa ?_
  refine gq (r_spV (s := s2) rfl Ty.row_37 (by repeat (first | exact Pick.here | apply Pick.there))) ?_
  refine gq (r_val (v' := .pointer (some ⟨s2.v2, s2.v2o, none⟩)) zia (by simp)) ?_
  refine gq zib ?_
  refine gq (r_spC (s := s2) rfl Ty.row_5 (by repeat (first | exact Pick.here | apply Pick.there))) ?_
  refine gq (r_bool (c := true) zei rfl) ?_
  refine gp zpk ?_
  refine gp zas ?_
  refine gnt ?_
  refine gc_ret ?_
  refine gx_ret1 rfl (by conv => lhs; whnf) ?_
  exact ze ()

end Go.Proofs.YtobjojeliibinaaDoor

/- BlocksApart: for every input the law returns true, and the input reads as it did: the row and its card. -/
namespace Go.Proofs.YtobjojeliibinaaDoor
open Go
open Go.ChangeShapes Go.WideShapes Go.ChangeAt Go.RowKit
set_option linter.unusedVariables false

/-- One world that fits: the settled one, the listed variables as their initialisers lay them. -/
noncomputable def blocksApart_world (os : Os) : World :=
  let w0 := World.holding Tryd.prog os ⟨#[.cells #[.string ⟨#[113, 117, 111, 114, 97, 116, 101, 58, 32, 114, 97, 110, 103, 101]⟩] 165, .cells #[.string ⟨#[113, 117, 111, 114, 97, 116, 101, 58, 32, 102, 111, 114, 109]⟩] 165, .cells #[.string ⟨#[113, 117, 111, 114, 97, 116, 101, 58, 32, 102, 117, 108, 108]⟩] 165, .cells #[.string ⟨#[113, 117, 111, 114, 97, 116, 101, 58, 32, 110, 111, 110, 101]⟩] 165, .cells #[.string ⟨#[113, 117, 111, 114, 97, 116, 101, 58, 32, 112, 114, 111, 111, 102]⟩] 165, .cells #[.string ⟨#[113, 117, 111, 114, 97, 116, 101, 58, 32, 114, 111, 117, 110, 100]⟩] 165, .cells #[.string ⟨#[113, 117, 111, 114, 97, 116, 101, 58, 32, 112, 97, 114, 101, 110, 116]⟩] 165, .cells #[.string ⟨#[113, 117, 111, 114, 97, 116, 101, 58, 32, 116, 119, 105, 99, 101]⟩] 165], #[], []⟩
  { w0 with heap := ((((((((w0.heap.modify 7 fun
      | .cells _ t fz => .cells #[.iface 146 (.pointer (some ⟨lowB + 0, 0, none⟩))] t fz
      | o => o).modify 2 fun
      | .cells _ t fz => .cells #[.iface 146 (.pointer (some ⟨lowB + 1, 0, none⟩))] t fz
      | o => o).modify 6 fun
      | .cells _ t fz => .cells #[.iface 146 (.pointer (some ⟨lowB + 2, 0, none⟩))] t fz
      | o => o).modify 0 fun
      | .cells _ t fz => .cells #[.iface 146 (.pointer (some ⟨lowB + 3, 0, none⟩))] t fz
      | o => o).modify 1 fun
      | .cells _ t fz => .cells #[.iface 146 (.pointer (some ⟨lowB + 4, 0, none⟩))] t fz
      | o => o).modify 5 fun
      | .cells _ t fz => .cells #[.iface 146 (.pointer (some ⟨lowB + 5, 0, none⟩))] t fz
      | o => o).modify 4 fun
      | .cells _ t fz => .cells #[.iface 146 (.pointer (some ⟨lowB + 6, 0, none⟩))] t fz
      | o => o).modify 3 fun
      | .cells _ t fz => .cells #[.iface 146 (.pointer (some ⟨lowB + 7, 0, none⟩))] t fz
      | o => o).modify 8 fun
      | .cells _ t fz => .cells (kc.map W32).toArray t fz
      | o => o }
def blocksApart_args : Array Value := #[.int .u8 0, .int .i64 0]
theorem blocksApart_laid (os : Os) (args : Array Value) : laidMet Tryd.prog Rows.blocksApartRow.laid ((blocksApart_world os).forCall (fun _ _ => 0) ⟨#[], args, []⟩).memory :=
  laidMet_of_run' 8 (by kernel_rfl) (by kernel_rfl)
theorem blocksApart_reads (os : Os) {H : Type} (enc : TypeId × Value → H) : ∃ places, DataW.whole enc Tryd.prog ((blocksApart_world os).forCall (fun _ _ => 0) ⟨#[], blocksApart_args, []⟩).memory Tryd.f4.params.toList Rows.blocksApartSpec.vars false blocksApart_args.toList 8 = some ([.lit (.int .u8 0), .lit (.int .i64 0)], [], places) :=
  ⟨[], by kernel_rfl⟩
set_option maxRecDepth 20000 in
theorem blocksApart_contract (H : Type) (enc : TypeId × Value → H) (W : World) (base : Nat) (args : Array Value) (ds gs : List (DataW H)) (before : List MemPlace)
    (hval : ∀ (j : Nat) t v, Tryd.f4.params[j]? = some t → args[j]? = some v → Value.okWide Tryd.prog W .any base t v)
    (hW : DataW.Whole enc Tryd.prog Tryd.f4.params.toList Rows.blocksApartSpec.vars false W args.toList ds gs before) (hL : laidMetH Tryd.prog Rows.blocksApartRow.laid W) :
    Calls Tryd.prog 4 args W fun e W' => ∃ v, e = .returned v ∧ Rows.blocksApartSpec.post enc Tryd.prog Tryd.f4 false true false false W args v W' := by
  have hW' := hW
  have hlt : ∀ p ∈ before, p.block < W.heap.size := fun p hp => hW.lt p hp
  obtain ⟨p, q, hA0, hV, rfl, hfz, hnd⟩ := hW
  have hA : DataW.TrodAll enc Tryd.prog W 0 (fun _ => true) true Tryd.f4.params.toList args.toList ds p := hA0
  rw [Tryd.params4] at hA hval
  obtain ⟨v0, vs0, d0, ds0, p0, q0, hargs, rfl, rfl, h0, r0⟩ := trodAll_cons hA
  obtain ⟨v1, vs1, d1, ds1, p1, q1, rfl, rfl, rfl, h1, r1⟩ := trodAll_cons r0
  obtain ⟨rfl, rfl, rfl⟩ := trodAll_nil r1
  obtain rfl : args = #[v0, v1] := by cases args; simp_all
  obtain ⟨rfl, rfl⟩ := trodVars_none hV
  obtain ⟨n0, rfl, _, _, wf0⟩ := open_int Ty.un_5 (hval 0 5 v0 rfl rfl) h0
  obtain ⟨n1, rfl, _, _, wf1⟩ := open_int Ty.un_3 (hval 1 3 v1 rfl rfl) h1
  have hL' : laidMet Tryd.prog Rows.blocksApartRow.laid W := hL
  obtain ⟨a_1, s_1, c_1, _, _⟩ := laid_err (g := 7) hL' (by kernel_rfl) (by kernel_rfl)
  obtain ⟨a_4, s_4, c_4, _, _⟩ := laid_err (g := 2) hL'.tail (by kernel_rfl) (by kernel_rfl)
  obtain ⟨a_8, s_8, c_8, _, _⟩ := laid_err (g := 6) hL'.tail.tail (by kernel_rfl) (by kernel_rfl)
  obtain ⟨a_9, s_9, c_9, _, _⟩ := laid_err (g := 0) hL'.tail.tail.tail (by kernel_rfl) (by kernel_rfl)
  obtain ⟨a_12, s_12, c_12, _, _⟩ := laid_err (g := 1) hL'.tail.tail.tail.tail (by kernel_rfl) (by kernel_rfl)
  obtain ⟨a_14, s_14, c_14, _, _⟩ := laid_err (g := 5) hL'.tail.tail.tail.tail.tail (by kernel_rfl) (by kernel_rfl)
  obtain ⟨a_16, s_16, c_16, _, _⟩ := laid_err (g := 4) hL'.tail.tail.tail.tail.tail.tail (by kernel_rfl) (by kernel_rfl)
  obtain ⟨a_17, s_17, c_17, _, _⟩ := laid_err (g := 3) hL'.tail.tail.tail.tail.tail.tail.tail (by kernel_rfl) (by kernel_rfl)
  have hK := laid_kr hL'.tail.tail.tail.tail.tail.tail.tail.tail
  have hE : GErr [1, 4, 8, 9, 12, 14, 16, 17] W (fun k => ¬ (fun _ : Nat => False) k) 146 (fun i => if i = 1 then a_1 else if i = 4 then a_4 else if i = 8 then a_8 else if i = 9 then a_9 else if i = 12 then a_12 else if i = 14 then a_14 else if i = 16 then a_16 else a_17) := by
    refine ⟨fun i hi => ?_, fun i _ => id⟩
    simp only [List.mem_cons, List.not_mem_nil, or_false] at hi
    rcases hi with rfl | rfl | rfl | rfl | rfl | rfl | rfl | rfl
    · unfold eV; exact c_1
    · unfold eV; exact c_4
    · unfold eV; exact c_8
    · unfold eV; exact c_9
    · unfold eV; exact c_12
    · unfold eV; exact c_14
    · unfold eV; exact c_16
    · unfold eV; exact c_17
  obtain ⟨tx, hn0⟩ : ∃ tx : UInt8, (tx.toNat : Int) = n0 := ⟨UInt8.ofNat n0.toNat, by
    have hw := wf0
    simp only [Lit.wf, Bool.and_eq_true, decide_eq_true_eq] at hw
    have e1 : IntKind.u8.min = 0 := rfl
    have e2 : IntKind.u8.max = 255 := rfl
    rw [e1, e2] at hw
    rw [UInt8.toNat_ofNat']; omega⟩
  have walk := blocksApart_ok (tx := tx) (votes := n1) no_res hE hK
  rw [show B8 tx = .int .u8 n0 from by rw [← hn0]] at walk
  refine Calls.mono (show Calls Tryd.prog 4 #[.int .u8 n0, .int .i64 n1] W _ from walk) fun e W' ⟨_, he, hs⟩ => ?_
  subst he
  have bel := below_of hs
  have eF : Rows.blocksApartSpec.fn H ([d0, d1] ++ []) = { results := [.lit (.bool true)], args := [d0, d1] } := rfl
  have l0 : ∀ z ∈ p0, z.block < W.heap.size := fun z hz => hlt z (by simp [hz])
  have l1 : ∀ z ∈ p1, z.block < W.heap.size := fun z hz => hlt z (by simp [hz])
  refine ⟨_, rfl, _, _, _, [], p0 ++ (p1 ++ ([])), [], hW', ?_, ?_, ?_, bel.frame _, fun h => by cases h⟩
  · rw [eF]; exact trodAll_cons_mk (shut_bool Tryd.underlying4 _) trodAll_mk0
  · rw [eF, Tryd.params4]
    exact trodAll_cons_mk (Below.trod laidOut (by kernel_rfl) (of_decide_eq_true (by kernel_rfl)) h0 bel l0) (trodAll_cons_mk (Below.trod laidOut (by kernel_rfl) (of_decide_eq_true (by kernel_rfl)) h1 bel l1) (trodAll_mk0))
  · rw [eF]; rfl

set_option maxRecDepth 100000 in
theorem blocksApart_lifted (os : Os) (started : os.Started) (H : Type) (enc : TypeId × Value → H) (F : Stop.Interp) :
    ReturnsInHanded {} Tryd.checked os 4 .any ((OpenSpec.ofChange Rows.blocksApartSpec).preRow enc Tryd.prog Tryd.f4 Rows.blocksApartRow.domain false Rows.blocksApartRow.laid) (((OpenSpec.ofChange Rows.blocksApartSpec).at F).post enc Tryd.prog Tryd.f4 false true false false) := by
  obtain ⟨places, hx⟩ := blocksApart_reads os enc
  refine returnsInHanded_of_row (C := Tryd.checked) (s := OpenSpec.ofChange Rows.blocksApartSpec) own started (by kernel_rfl) Tryd.func4
    (witness_row_atRef (enc := enc) (C := Tryd.checked) false (blocksApart_world os) blocksApart_args rfl (by kernel_rfl) (by kernel_rfl) (by kernel_rfl)
      (OpenSpec.preRow_of_cond 8 hx (by kernel_rfl) (fun k hk => by cases hk) (by kernel_rfl) (blocksApart_laid os _))) ?_
  intro W base args ds gs before hval hW _ _ _ hL _ _
  exact blocksApart_contract H enc W base args ds gs before hval hW hL

theorem blocksApart_said : Rows.BlocksApartSaid :=
  OpenClaim.holds_of_cond 4 Tryd.f4 rfl rfl rfl rfl rfl rfl rfl ⟨rfl, rfl, rfl, rfl, rfl⟩ rfl rfl rfl rfl rfl (by kernel_rfl) Tryd.func4 (by kernel_rfl)
    (of_decide_eq_true (by kernel_rfl)) (by unfold Func.isWrapper; first | (rw [if_pos (by decide +kernel)]; kernel_rfl) | (rw [if_neg (by decide +kernel)]; exact ⟨rfl, rfl⟩))
    (fun os started H enc _ F => by rw [OpenClaim.pre_eq_preRow]; exact blocksApart_lifted os started H enc F)
theorem blocksApart_plain (f : FuncId) (fn : Func) (hf : Tryd.pinned.checked.prog.funcNamed "quorate/quoratelaw15.BlocksApart" = some f) (hfn : Tryd.pinned.checked.prog.funcs[f]? = some fn) :
    false = Tryd.pinned.checked.prog.looks [] ∧ ∀ (j : Nat) t, fn.params[j]? = some t → Tryd.pinned.checked.prog.wantsStandIn t = false := by
  obtain rfl : f = 4 := Option.some.inj ((show Tryd.prog.funcNamed "quorate/quoratelaw15.BlocksApart" = some 4 by kernel_rfl).symm.trans hf) |>.symm
  obtain rfl : fn = Tryd.f4 := (Option.some.inj (Tryd.func4.symm.trans hfn)).symm
  refine ⟨by kernel_rfl, fun j t ht => ?_⟩
  rw [Tryd.params4] at ht
  have hm := Array.mem_of_getElem? ht
  have h : t = 5 ∨ t = 3 := by simpa using hm
  rcases h with rfl | rfl
  · exact (show Tryd.prog.wantsStandIn 5 = false by kernel_rfl)
  · exact (show Tryd.prog.wantsStandIn 3 = false by kernel_rfl)
theorem blocksApart_holds : Rows.BlocksApartCardSaid :=
  Claim7.holds_tied_plain_at .later [] _ _ _ _ blocksApart_said (fun _ h => by cases h) (by kernel_rfl) (fun _ h => by cases h) blocksApart_row_tie rfl ⟨rfl, rfl⟩ (by kernel_rfl) rfl blocksApart_plain (by kernel_rfl)
#print axioms blocksApart_holds
end Go.Proofs.YtobjojeliibinaaDoor

