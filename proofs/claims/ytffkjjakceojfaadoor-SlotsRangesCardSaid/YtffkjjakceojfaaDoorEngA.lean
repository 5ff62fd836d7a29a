/- The engine, part A: frames as lists of slots, resources with footprints, and the judgements over them (no program in sight). -/
import Derived.WalkKit
import Derived.OrdersHeld
import Derived.StillTail
import Derived.Deep.MidRow
import Derived.KernelRfl
namespace Go.Proofs.YtffkjjakceojfaaDoor
open Go
set_option linter.unusedVariables false
set_option linter.unusedSimpArgs false

/-! ### Frames -/
abbrev Env := List (Nat × Value)
def Env.get : Env → Nat → Value
  | [], _ => undef
  | (d, v) :: r, t => bif Nat.beq t d then v else Env.get r t

def fr (n : Nat) (e : Env) : Act := { tmps := Array.ofFn (n := n) (fun i => Env.get e i.val), defers := [] }

def ev (n : Nat) (e : Env) : Operand → Value
  | .tmp t => bif Nat.blt t n then Env.get e t else undef
  | .const v => v
  | .global g => .pointer (some ⟨g, 0, none⟩)
  | .func f => .func (.func f) #[] #[]

def pu : Option Tmp → Value → Env → Env
  | some d, v, e => (d, v) :: e
  | none, _, e => e

def enumE : Nat → List Value → Env
  | _, [] => []
  | k, v :: r => (k, v) :: enumE (k + 1) r

theorem fr_get (n : Nat) (e : Env) (t : Nat) : (fr n e).tmps.getD t undef = if t < n then Env.get e t else undef := by
  simp only [fr, Array.getD_eq_getD_getElem?, Array.getElem?_ofFn]
  split <;> rfl

theorem fr_eval (n : Nat) (e : Env) : (fr n e).eval = ev n e := by
  funext x
  cases x with
  | tmp t =>
    show (fr n e).tmps.getD t undef = _
    rw [fr_get]
    simp only [ev]
    by_cases h : t < n
    · rw [if_pos h, show Nat.blt t n = true by rw [Nat.blt_eq]; exact h]; rfl
    · rw [if_neg h, show Nat.blt t n = false from Bool.eq_false_iff.2 (fun h' => h (by rw [Nat.blt_eq] at h'; exact h'))]; rfl
  | const v => rfl
  | global g => rfl
  | func f => rfl

theorem fr_ext {n : Nat} {e e' : Env} (h : ∀ t, t < n → Env.get e t = Env.get e' t) : fr n e = fr n e' := by
  simp only [fr, Act.mk.injEq, and_true]
  apply Array.ext
  · simp
  · intro i h1 h2
    simp only [Array.getElem_ofFn]
    exact h i (by simpa using h1)

theorem get_cons (d t : Nat) (v : Value) (e : Env) : Env.get ((d, v) :: e) t = if t = d then v else Env.get e t := by
  simp only [Env.get]
  by_cases h : t = d
  · subst h; simp
  · rw [if_neg h, show Nat.beq t d = false from Bool.eq_false_iff.2 (fun h' => h (Nat.eq_of_beq_eq_true h'))]; rfl

theorem fr_put (n : Nat) (e : Env) (d : Option Tmp) (v : Value) : (fr n e).put d v = fr n (pu d v e) := by
  cases d with
  | none => rfl
  | some d =>
    simp only [Act.put, fr, pu, Act.mk.injEq, and_true]
    apply Array.ext_getElem?
    intro i
    rw [Array.getElem?_setIfInBounds]
    simp only [Array.getElem?_ofFn, Array.size_ofFn, get_cons]
    by_cases h : d = i
    · subst h
      by_cases hn : d < n <;> simp [hn]
    · have h' : ¬ i = d := fun e => h e.symm
      simp [h, h']

theorem get_enumE : ∀ (l : List Value) (k t : Nat), Env.get (enumE k l) t = if k ≤ t then l.getD (t - k) undef else undef
  | [], k, t => by simp [enumE, Env.get]
  | v :: r, k, t => by
    simp only [enumE]
    rw [get_cons, get_enumE r (k + 1) t]
    by_cases h : t = k
    · subst h; simp
    · rw [if_neg h]
      by_cases h' : k + 1 ≤ t
      · rw [if_pos h', if_pos (by omega)]
        obtain ⟨m, hm⟩ : ∃ m, t - k = m + 1 := ⟨t - k - 1, by omega⟩
        rw [hm, show t - (k + 1) = m by omega]
        simp
      · rw [if_neg h', if_neg (by omega)]

theorem fr_init (n : Nat) (args : Array Value) (h : args.size ≤ n) :
    ({ tmps := args ++ Array.replicate (n - args.size) undef, defers := [] } : Act) = fr n (enumE 0 args.toList) := by
  simp only [fr, Act.mk.injEq, and_true]
  apply Array.ext
  · simp; omega
  · intro i h1 h2
    simp only [Array.getElem_ofFn]
    rw [get_enumE, if_pos (Nat.zero_le _), Array.getElem_append]
    simp only [Nat.sub_zero, List.getD_eq_getElem?_getD, Array.getElem?_toList]
    split
    · rename_i h3; simp [h3]
    · rename_i h3; simp at h3; simp [h3]

/-! ### Resources -/
/-- A part of memory that is owned: what it says of the world, and of just which blocks. -/
structure Res where
  on : World → (Nat → Prop) → Prop
  loc : ∀ {w w' : World} {F : Nat → Prop}, on w F → (∀ k, F k → w'.heap[k]? = w.heap[k]?) → on w' F
  lt : ∀ {w : World} {F : Nat → Prop}, on w F → ∀ k, F k → k < w.heap.size

def stars : List Res → World → (Nat → Prop) → Prop
  | [], _, F => ∀ k, ¬ F k
  | r :: L, w, F => ∃ F1 F2, r.on w F1 ∧ stars L w F2 ∧ (∀ k, F k ↔ F1 k ∨ F2 k) ∧ ∀ k, F1 k → ¬ F2 k

theorem stars_loc : ∀ {L : List Res} {w w' : World} {F : Nat → Prop}, stars L w F → (∀ k, F k → w'.heap[k]? = w.heap[k]?) → stars L w' F
  | [], _, _, _, h, _ => h
  | r :: L, w, w', F, ⟨F1, F2, h1, h2, hF, hd⟩, hk =>
    ⟨F1, F2, r.loc h1 fun k h => hk k ((hF k).2 (.inl h)), stars_loc h2 fun k h => hk k ((hF k).2 (.inr h)), hF, hd⟩

theorem stars_lt : ∀ {L : List Res} {w : World} {F : Nat → Prop}, stars L w F → ∀ k, F k → k < w.heap.size
  | [], _, _, h, k, hk => absurd hk (h k)
  | r :: L, w, F, ⟨F1, F2, h1, h2, hF, _⟩, k, hk => ((hF k).1 hk).elim (r.lt h1 k) (stars_lt h2 k)

theorem fp_eq {F G : Nat → Prop} (h : ∀ k, F k ↔ G k) : F = G := funext fun k => propext (h k)

/-- r is one of L, and the others are L'. -/
inductive Pick : List Res → Res → List Res → Prop
  | here {r : Res} {L : List Res} : Pick (r :: L) r L
  | there {x r : Res} {L L' : List Res} : Pick L r L' → Pick (x :: L) r (x :: L')

theorem Pick.stars {L L' : List Res} {r : Res} (h : Pick L r L') : ∀ {w : World} {F : Nat → Prop}, stars L w F → stars (r :: L') w F := by
  induction h with
  | here => exact fun h => h
  | @there x r L L' _ ih =>
    rintro w F ⟨F1, F2, h1, h2, hF, hd⟩
    obtain ⟨G1, G2, g1, g2, hG, gd⟩ := ih h2
    refine ⟨G1, fun k => F1 k ∨ G2 k, g1, ⟨F1, G2, h1, g2, fun _ => Iff.rfl, fun k hk hk' => hd k hk ((hG k).2 (.inr hk'))⟩, fun k => ?_, ?_⟩
    · rw [hF, hG]; constructor
      · rintro (h | h | h) <;> simp [h]
      · rintro (h | h | h) <;> simp [h]
    · rintro k hk (h | h)
      · exact hd k h ((hG k).2 (.inl hk))
      · exact gd k hk h

/-- M are some of L, and the others are L'. -/
inductive Sel : List Res → List Res → List Res → Prop
  | nil {L : List Res} : Sel L [] L
  | cons {L L1 L' M : List Res} {r : Res} : Pick L r L1 → Sel L1 M L' → Sel L (r :: M) L'

theorem Sel.split {L M L' : List Res} (h : Sel L M L') : ∀ {w : World} {F : Nat → Prop}, stars L w F →
    ∃ F1 F2, stars M w F1 ∧ stars L' w F2 ∧ (∀ k, F k ↔ F1 k ∨ F2 k) ∧ ∀ k, F1 k → ¬ F2 k := by
  induction h with
  | nil => exact fun {w F} h => ⟨fun _ => False, F, fun _ h => h, h, fun k => by simp, fun k h => h.elim⟩
  | @cons L L1 L' M r hp _ ih =>
    intro w F h
    obtain ⟨F1, F2, h1, h2, hF, hd⟩ := hp.stars h
    obtain ⟨G1, G2, g1, g2, hG, gd⟩ := ih h2
    refine ⟨fun k => F1 k ∨ G1 k, G2, ⟨F1, G1, h1, g1, fun _ => Iff.rfl, fun k hk hk' => hd k hk ((hG k).2 (.inl hk'))⟩, g2, fun k => ?_, ?_⟩
    · rw [hF, hG]; constructor
      · rintro (h | h | h) <;> simp [h]
      · rintro ((h | h) | h) <;> simp [h]
    · rintro k (hk | hk) h
      · exact hd k hk ((hG k).2 (.inr h))
      · exact gd k hk h

theorem stars_append : ∀ {M L : List Res} {w : World} {F1 F2 : Nat → Prop}, stars M w F1 → stars L w F2 → (∀ k, F1 k → ¬ F2 k) →
    stars (M ++ L) w (fun k => F1 k ∨ F2 k)
  | [], L, w, F1, F2, h1, h2, _ => by
    have : (fun k => F1 k ∨ F2 k) = F2 := fp_eq fun k => ⟨fun h => h.elim (fun h => absurd h (h1 k)) id, .inr⟩
    rw [this]; exact h2
  | r :: M, L, w, F1, F2, ⟨G1, G2, g1, g2, hG, gd⟩, h2, hd => by
    have := stars_append (F1 := G2) g2 h2 (fun k hk => hd k ((hG k).2 (.inr hk)))
    refine ⟨G1, _, g1, this, fun k => ?_, ?_⟩
    · show F1 k ∨ F2 k ↔ _
      rw [hG]; exact or_assoc
    · rintro k hk (h | h)
      · exact gd k hk h
      · exact hd k ((hG k).2 (.inl hk)) h

theorem stars_split : ∀ {M L : List Res} {w : World} {F : Nat → Prop}, stars (M ++ L) w F →
    ∃ F1 F2, stars M w F1 ∧ stars L w F2 ∧ (∀ k, F k ↔ F1 k ∨ F2 k) ∧ ∀ k, F1 k → ¬ F2 k
  | [], L, w, F, h => ⟨fun _ => False, F, fun _ h => h, h, fun k => by simp, fun k h => h.elim⟩
  | r :: M, L, w, F, ⟨F1, F2, h1, h2, hF, hd⟩ => by
    obtain ⟨G1, G2, g1, g2, hG, gd⟩ := stars_split h2
    refine ⟨fun k => F1 k ∨ G1 k, G2, ⟨F1, G1, h1, g1, fun _ => Iff.rfl, fun k hk hk' => hd k hk ((hG k).2 (.inl hk'))⟩, g2, fun k => ?_, ?_⟩
    · rw [hF, hG]; exact or_assoc.symm
    · rintro k (hk | hk) h
      · exact hd k hk ((hG k).2 (.inr h))
      · exact gd k hk h

/-! ### Steps of the world -/
/-- From w (of which F is owned) to w' (of which F' is owned): what was there and wasn't owned is as it was. -/
structure Stp (w : World) (F : Nat → Prop) (w' : World) (F' : Nat → Prop) : Prop where
  os : w'.os = w.os
  tape : w'.tape = w.tape
  output : w'.output = w.output
  size : w.heap.size ≤ w'.heap.size
  block : ∀ k, k < w.heap.size → ¬ F k → w'.heap[k]? = w.heap[k]?
  own : ∀ k, F' k → F k ∨ w.heap.size ≤ k

theorem Stp.refl (w : World) (F : Nat → Prop) : Stp w F w F := ⟨rfl, rfl, rfl, Nat.le_refl _, fun _ _ _ => rfl, fun _ h => .inl h⟩

theorem Stp.trans {w0 w1 w2 : World} {F0 F1 F2 : Nat → Prop} (h : Stp w0 F0 w1 F1) (k : Stp w1 F1 w2 F2) : Stp w0 F0 w2 F2 where
  os := k.os.trans h.os
  tape := k.tape.trans h.tape
  output := k.output.trans h.output
  size := Nat.le_trans h.size k.size
  block := fun i hi hn => (k.block i (Nat.lt_of_lt_of_le hi h.size) (fun hf => (h.own i hf).elim hn (fun h' => absurd h' (by omega)))).trans (h.block i hi hn)
  own := fun i hi => (k.own i hi).elim (h.own i) (fun h' => .inr (Nat.le_trans h.size h'))

theorem Stp.weak {w w' : World} {F F' G : Nat → Prop} (h : Stp w F w' F') (hg : ∀ k, G k → F' k) : Stp w F w' G :=
  ⟨h.os, h.tape, h.output, h.size, h.block, fun k hk => h.own k (hg k hk)⟩

/-- A step of a part, beside what stays. -/
theorem Stp.frame {w w' : World} {F1 F2 F' : Nat → Prop} (h : Stp w F1 w' F') : Stp w (fun k => F1 k ∨ F2 k) w' (fun k => F' k ∨ F2 k) :=
  ⟨h.os, h.tape, h.output, h.size, fun k hk hn => h.block k hk (fun h => hn (.inl h)), fun k hk => hk.elim (fun hk => (h.own k hk).imp .inl id) (fun h => .inl (.inr h))⟩

/-- The world at hand: L is owned, and all that was there at the start, but F0, is as it was. -/
def St (w0 : World) (F0 : Nat → Prop) (L : List Res) (w : World) : Prop := ∃ F, stars L w F ∧ Stp w0 F0 w F

theorem St.init {w : World} {F : Nat → Prop} {L : List Res} (h : stars L w F) : St w F L w := ⟨F, h, Stp.refl w F⟩
theorem St.init0 (w : World) : St w (fun _ => False) [] w := ⟨fun _ => False, fun _ h => h, Stp.refl w _⟩

theorem St.conv {w0 : World} {F0 : Nat → Prop} {L L' M N : List Res} {w : World} (h : St w0 F0 L w) (hs : Sel L M L')
    (hc : ∀ w F, stars M w F → stars N w F) : St w0 F0 (N ++ L') w := by
  obtain ⟨F, hF, hst⟩ := h
  obtain ⟨F1, F2, h1, h2, hE, hd⟩ := hs.split hF
  have := stars_append (hc w F1 h1) h2 hd
  exact ⟨F, by rw [fp_eq hE]; exact this, hst⟩

/-- What isn't wanted any more is let go. -/
theorem St.sel {w0 : World} {F0 : Nat → Prop} {L L' M : List Res} {w : World} (h : St w0 F0 L w) (hs : Sel L M L') : St w0 F0 M w := by
  obtain ⟨F, hF, hst⟩ := h
  obtain ⟨F1, F2, h1, h2, hE, hd⟩ := hs.split hF
  exact ⟨F1, h1, hst.weak fun k hk => (hE k).2 (.inl hk)⟩

/-- A callee's step: it owns M of L; the rest stays. -/
theorem St.call {w0 : World} {F0 : Nat → Prop} {L' N : List Res} {w w' : World} {F F1 F2 : Nat → Prop} (hst : Stp w0 F0 w F)
    (h2 : stars L' w F2) (hE : ∀ k, F k ↔ F1 k ∨ F2 k) (hd : ∀ k, F1 k → ¬ F2 k) (h : St w F1 N w') : St w0 F0 (N ++ L') w' := by
  obtain ⟨G, hG, hs⟩ := h
  have h2' : stars L' w' F2 := stars_loc h2 fun k hk => hs.block k (stars_lt h2 k hk) (fun h1 => hd k h1 hk)
  refine ⟨fun k => G k ∨ F2 k, stars_append hG h2' ?_, ?_⟩
  · intro k hk hk2
    rcases hs.own k hk with h1 | h1
    · exact hd k h1 hk2
    · exact absurd (stars_lt h2 k hk2) (by omega)
  · have hs' := hs.frame (F2 := F2)
    rw [← fp_eq hE] at hs'
    exact hst.trans hs'

/-- What was there at the start and wasn't owned is there. -/
theorem Stp.old {w0 w : World} {F0 F : Nat → Prop} (h : Stp w0 F0 w F) {k : Nat} (hk : k < w0.heap.size) (hn : ¬ F0 k) : w.heap[k]? = w0.heap[k]? ∧ ¬ F k :=
  ⟨h.block k hk hn, fun hf => (h.own k hf).elim hn (fun h' => absurd h' (by omega))⟩

theorem Stp.below {w0 w : World} {F0 F : Nat → Prop} (h : Stp w0 F0 w F) (h0 : ∀ k, ¬ F0 k) : RowKit.Below w0.heap.size w0 w :=
  ⟨h.os, h.tape, h.output, h.size, fun k hk => h.block k hk (h0 k)⟩

/-! ### The common resources -/
def okFz (n : Nat) (fz : Nat × Nat) : Prop := ∀ i, i < n → ¬ (fz.1 ≤ i ∧ i < fz.2)

/-- Block g: just the cells cs of element type T; none is frozen. -/
def blk (g : Nat) (T : TypeId) (cs : List Value) : Res where
  on w F := (∀ k, F k ↔ k = g) ∧ ∃ fz, w.heap[g]? = some (.cells cs.toArray T fz) ∧ okFz cs.length fz
  loc := fun ⟨hF, fz, h, hz⟩ hk => ⟨hF, fz, (hk g ((hF g).2 rfl)).trans h, hz⟩
  lt := fun ⟨hF, fz, h, _⟩ k hk => by
    rw [(hF k).1 hk]
    exact (Array.getElem?_eq_some_iff.1 h).1

/-- A fact, no memory. -/
def pureR (p : Prop) : Res where
  on _ F := (∀ k, ¬ F k) ∧ p
  loc := fun h _ => h
  lt := fun ⟨h, _⟩ k hk => absurd hk (h k)

def exR {α : Type} (f : α → Res) : Res where
  on w F := ∃ x, (f x).on w F
  loc := fun ⟨x, h⟩ hk => ⟨x, (f x).loc h hk⟩
  lt := fun ⟨x, h⟩ => (f x).lt h

/-- Several as one. -/
def allR (L : List Res) : Res where
  on := stars L
  loc := stars_loc
  lt := stars_lt

/-- What is read, in just these blocks (which blocks is left open). -/
def rdR (φ : World → (Nat → Prop) → Prop) (hloc : ∀ {w w' : World} {F : Nat → Prop}, φ w F → (∀ k, k < w.heap.size → F k → w'.heap[k]? = w.heap[k]?) → φ w' F) : Res where
  on w F := φ w F ∧ ∀ k, F k → k < w.heap.size
  loc := fun {w w' F} ⟨h, hl⟩ hk => ⟨hloc h fun k _ hF => hk k hF, fun k hF => by
    have := hk k hF
    have h0 := hl k hF
    rw [Array.getElem?_eq_getElem h0] at this
    exact (Array.getElem?_eq_some_iff.1 this).1⟩
  lt := fun ⟨_, hl⟩ => hl

theorem stars_one {r : Res} {w : World} {F : Nat → Prop} (h : r.on w F) : stars [r] w F :=
  ⟨F, fun _ => False, h, fun _ h => h, fun k => by simp, fun _ _ h => h⟩
theorem stars_one' {r : Res} {w : World} {F : Nat → Prop} (h : stars [r] w F) : r.on w F := by
  obtain ⟨F1, F2, h1, h2, hF, _⟩ := h
  have : F = F1 := fp_eq fun k => (hF k).trans ⟨fun h => h.elim id (fun h => absurd h (h2 k)), .inl⟩
  rw [this]; exact h1
theorem stars_pure {p : Prop} {L : List Res} {w : World} {F : Nat → Prop} (h : stars (pureR p :: L) w F) : p ∧ stars L w F := by
  obtain ⟨F1, F2, ⟨h0, hp⟩, h2, hF, _⟩ := h
  have : F = F2 := fp_eq fun k => (hF k).trans ⟨fun h => h.elim (fun h => absurd h (h0 k)) id, .inr⟩
  exact ⟨hp, by rw [this]; exact h2⟩
theorem stars_pure_mk {p : Prop} {L : List Res} {w : World} {F : Nat → Prop} (hp : p) (h : stars L w F) : stars (pureR p :: L) w F :=
  ⟨fun _ => False, F, ⟨fun _ h => h, hp⟩, h, fun k => by simp, fun _ h => h.elim⟩
theorem stars_all {M L : List Res} {w : World} {F : Nat → Prop} (h : stars (allR M :: L) w F) : stars (M ++ L) w F := by
  obtain ⟨F1, F2, h1, h2, hF, hd⟩ := h
  rw [fp_eq hF]; exact stars_append h1 h2 hd
theorem stars_all_mk {M L : List Res} {w : World} {F : Nat → Prop} (h : stars (M ++ L) w F) : stars (allR M :: L) w F := by
  obtain ⟨F1, F2, h1, h2, hF, hd⟩ := stars_split h
  exact ⟨F1, F2, h1, h2, hF, hd⟩
theorem stars_ex {α : Type} {f : α → Res} {L : List Res} {w : World} {F : Nat → Prop} (h : stars (exR f :: L) w F) : ∃ x, stars (f x :: L) w F := by
  obtain ⟨F1, F2, ⟨x, h1⟩, h2, hF, hd⟩ := h
  exact ⟨x, F1, F2, h1, h2, hF, hd⟩
theorem stars_ex_mk {α : Type} {f : α → Res} {L : List Res} {w : World} {F : Nat → Prop} (x : α) (h : stars (f x :: L) w F) : stars (exR f :: L) w F := by
  obtain ⟨F1, F2, h1, h2, hF, hd⟩ := h
  exact ⟨F1, F2, ⟨x, h1⟩, h2, hF, hd⟩

theorem stars_pick {L L' : List Res} {r : Res} (h : Pick L r L') {w : World} {F : Nat → Prop} (hs : stars L w F) : ∃ F1, r.on w F1 ∧ ∀ k, F1 k → F k := by
  obtain ⟨F1, F2, h1, _, hF, _⟩ := h.stars hs
  exact ⟨F1, h1, fun k hk => (hF k).2 (.inl hk)⟩
end Go.Proofs.YtffkjjakceojfaaDoor
