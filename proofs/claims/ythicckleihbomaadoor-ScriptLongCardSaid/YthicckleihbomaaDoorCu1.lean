/- Part 1. What is proved: see the last part: for every input the law returns true, and the input reads as it did. -/
import Derived.Laws.MakeOwn
import Derived.WalkKit
import Derived.OrdersHeld
import Derived.StillTail
import Derived.Deep.MidRow
import Derived.KernelRfl
import Derived.OrdersIn
import Derived.TacticsIn
import Derived.RangeFuncRecord
import Derived.RangeFuncSeq
import Derived.Laws.BytesArg
import Derived.ChangeKeysEq
import Derived.Lib.ConvBytes
import Derived.MapKept
import Derived.Laws.IdiomRangeMap
import Derived.Test.YthicckleihbomaaDoorProg
import Derived.OpenShut
import Derived.ChangeArms
import Derived.Test.YthicckleihbomaaDoorRows
import Derived.ProofKit
import Derived.Below
import Derived.Carry
import Derived.Lib.LaidTab
import Derived.Stop.LaidErr
import Derived.LaidEql
import Derived.Stop.Asserts
import Derived.RowKitTokens
import Derived.Shelf.Small.Strs
import Derived.Shelf.Small.Wraps
import Derived.Shelf.Strings.Split
import Derived.Shelf.Strings.OnBuilder
import Derived.Shelf.Strconv.Itoa3
import Derived.Ground.NamesProg
/- The engine, part A: frames as lists of slots, resources with footprints, and the judgements over them (no program in sight). -/
namespace Go.Proofs.YthicckleihbomaaDoor
open Go
set_option linter.unusedVariables false
set_option linter.unusedSimpArgs false

/-! ### Frames -/
abbrev Env := List (Nat × Value)
def Env.get : Env → Nat → Value
  | [], _ => undef
  | (d, v) :: r, t => bif Nat.beq t d then v else Env.get r t

/-- A frame: how many slots; what is deferred; the round that it is. -/
structure Fm where
  nt : Nat
  ds : List Deferred := []
  ro : Option Nat := none
def fr (n : Fm) (e : Env) : Act := { tmps := Array.ofFn (n := n.nt) (fun i => Env.get e i.val), defers := n.ds }

def ev (n : Fm) (e : Env) : Operand → Value
  | .tmp t => bif Nat.blt t n.nt then Env.get e t else undef
  | .const v => v
  | .global g => .pointer (some ⟨g, 0, none⟩)
  | .func f => .func (.func f) #[] #[]

def pu : Option Tmp → Value → Env → Env
  | some d, v, e => (d, v) :: e
  | none, _, e => e

def enumE : Nat → List Value → Env
  | _, [] => []
  | k, v :: r => (k, v) :: enumE (k + 1) r

theorem fr_get (n : Fm) (e : Env) (t : Nat) : (fr n e).tmps.getD t undef = if t < n.nt then Env.get e t else undef := by
  simp only [fr, Array.getD_eq_getD_getElem?, Array.getElem?_ofFn]
  split <;> rfl

theorem fr_eval (n : Fm) (e : Env) : (fr n e).eval = ev n e := by
  funext x
  cases x with
  | tmp t =>
    show (fr n e).tmps.getD t undef = _
    rw [fr_get]
    simp only [ev]
    by_cases h : t < n.nt
    · rw [if_pos h, show Nat.blt t n.nt = true by rw [Nat.blt_eq]; exact h]; rfl
    · rw [if_neg h, show Nat.blt t n.nt = false from Bool.eq_false_iff.2 (fun h' => h (by rw [Nat.blt_eq] at h'; exact h'))]; rfl
  | const v => rfl
  | global g => rfl
  | func f => rfl

theorem fr_ext {n : Fm} {e e' : Env} (h : ∀ t, t < n.nt → Env.get e t = Env.get e' t) : fr n e = fr n e' := by
  simp only [fr, Act.mk.injEq, and_true]
  apply Array.ext
  · simp
  · intro i h1 h2
    simp only [Array.getElem_ofFn]
    exact h i (by simpa using h1)

theorem get_cons (d t : Nat) (v : Value) (e : Env) : Env.get ((d, v) :: e) t = if t = d then v else Env.get e t := by
  simp only [Env.get]
  by_cases h : t = d
  · subst h; simp
  · rw [if_neg h, show Nat.beq t d = false from Bool.eq_false_iff.2 (fun h' => h (Nat.eq_of_beq_eq_true h'))]; rfl

theorem fr_put (n : Fm) (e : Env) (d : Option Tmp) (v : Value) : (fr n e).put d v = fr n (pu d v e) := by
  cases d with
  | none => rfl
  | some d =>
    simp only [Act.put, fr, pu, Act.mk.injEq, and_true]
    apply Array.ext_getElem?
    intro i
    rw [Array.getElem?_setIfInBounds]
    simp only [Array.getElem?_ofFn, Array.size_ofFn, get_cons]
    by_cases h : d = i
    · subst h
      by_cases hn : d < n.nt <;> simp [hn]
    · have h' : ¬ i = d := fun e => h e.symm
      simp [h, h']

theorem get_enumE : ∀ (l : List Value) (k t : Nat), Env.get (enumE k l) t = if k ≤ t then l.getD (t - k) undef else undef
  | [], k, t => by simp [enumE, Env.get]
  | v :: r, k, t => by
    simp only [enumE]
    rw [get_cons, get_enumE r (k + 1) t]
    by_cases h : t = k
    · subst h; simp
    · rw [if_neg h]
      by_cases h' : k + 1 ≤ t
      · rw [if_pos h', if_pos (by omega)]
        obtain ⟨m, hm⟩ : ∃ m, t - k = m + 1 := ⟨t - k - 1, by omega⟩
        rw [hm, show t - (k + 1) = m by omega]
        simp
      · rw [if_neg h', if_neg (by omega)]

theorem fr_init (n : Nat) (args : Array Value) (h : args.size ≤ n) :
    ({ tmps := args ++ Array.replicate (n - args.size) undef, defers := [] } : Act) = fr ⟨n, [], none⟩ (enumE 0 args.toList) := by
  simp only [fr, Act.mk.injEq, and_true]
  apply Array.ext
  · simp; omega
  · intro i h1 h2
    simp only [Array.getElem_ofFn]
    rw [get_enumE, if_pos (Nat.zero_le _), Array.getElem_append]
    simp only [Nat.sub_zero, List.getD_eq_getElem?_getD, Array.getElem?_toList]
    split
    · rename_i h3; simp [h3]
    · rename_i h3; simp at h3; simp [h3]

/-! ### Resources -/
def okFz (n : Nat) (fz : Nat × Nat) : Prop := ∀ i, i < n → ¬ (fz.1 ≤ i ∧ i < fz.2)
/-- The block is there; if it is one of cells, none is frozen. -/
def okObj : Obj → Prop
  | .cells cs _ fz => okFz cs.size fz
  | _ => True
def okAt (w : World) (k : Nat) : Prop := ∃ o, w.heap[k]? = some o ∧ okObj o
theorem okAt.lt {w : World} {k : Nat} (h : okAt w k) : k < w.heap.size := by obtain ⟨o, h, _⟩ := h; exact (Array.getElem?_eq_some_iff.1 h).1
theorem okAt.mv {w w' : World} {k : Nat} (h : okAt w k) (hk : w'.heap[k]? = w.heap[k]?) : okAt w' k := by obtain ⟨o, h, h2⟩ := h; exact ⟨o, hk.trans h, h2⟩
/-- A part of memory that is owned: what it says of the world, and of just which blocks. -/
structure Res where
  on : World → (Nat → Prop) → Prop
  loc : ∀ {w w' : World} {F : Nat → Prop}, on w F → (∀ k, F k → w'.heap[k]? = w.heap[k]?) → on w' F
  ok : ∀ {w : World} {F : Nat → Prop}, on w F → ∀ k, F k → okAt w k
theorem Res.lt (r : Res) {w : World} {F : Nat → Prop} (h : r.on w F) (k : Nat) (hk : F k) : k < w.heap.size := (r.ok h k hk).lt

def stars : List Res → World → (Nat → Prop) → Prop
  | [], _, F => ∀ k, ¬ F k
  | r :: L, w, F => ∃ F1 F2, r.on w F1 ∧ stars L w F2 ∧ (∀ k, F k ↔ F1 k ∨ F2 k) ∧ ∀ k, F1 k → ¬ F2 k

theorem stars_loc : ∀ {L : List Res} {w w' : World} {F : Nat → Prop}, stars L w F → (∀ k, F k → w'.heap[k]? = w.heap[k]?) → stars L w' F
  | [], _, _, _, h, _ => h
  | r :: L, w, w', F, ⟨F1, F2, h1, h2, hF, hd⟩, hk =>
    ⟨F1, F2, r.loc h1 fun k h => hk k ((hF k).2 (.inl h)), stars_loc h2 fun k h => hk k ((hF k).2 (.inr h)), hF, hd⟩

theorem stars_ok : ∀ {L : List Res} {w : World} {F : Nat → Prop}, stars L w F → ∀ k, F k → okAt w k
  | [], _, _, h, k, hk => absurd hk (h k)
  | r :: L, w, F, ⟨F1, F2, h1, h2, hF, _⟩, k, hk => ((hF k).1 hk).elim (r.ok h1 k) (stars_ok h2 k)
theorem stars_lt {L : List Res} {w : World} {F : Nat → Prop} (h : stars L w F) (k : Nat) (hk : F k) : k < w.heap.size := (stars_ok h k hk).lt

theorem fp_eq {F G : Nat → Prop} (h : ∀ k, F k ↔ G k) : F = G := funext fun k => propext (h k)

/-- r is one of L, and the others are L'. -/
inductive Pick : List Res → Res → List Res → Prop
  | here {r : Res} {L : List Res} : Pick (r :: L) r L
  | there {x r : Res} {L L' : List Res} : Pick L r L' → Pick (x :: L) r (x :: L')

theorem Pick.stars {L L' : List Res} {r : Res} (h : Pick L r L') : ∀ {w : World} {F : Nat → Prop}, stars L w F → stars (r :: L') w F := by
  induction h with
  | here => exact fun h => h
  | @there x r L L' _ ih =>
    rintro w F ⟨F1, F2, h1, h2, hF, hd⟩
    obtain ⟨G1, G2, g1, g2, hG, gd⟩ := ih h2
    refine ⟨G1, fun k => F1 k ∨ G2 k, g1, ⟨F1, G2, h1, g2, fun _ => Iff.rfl, fun k hk hk' => hd k hk ((hG k).2 (.inr hk'))⟩, fun k => ?_, ?_⟩
    · rw [hF, hG]; constructor
      · rintro (h | h | h) <;> simp [h]
      · rintro (h | h | h) <;> simp [h]
    · rintro k hk (h | h)
      · exact hd k h ((hG k).2 (.inl hk))
      · exact gd k hk h

/-- M are some of L, and the others are L'. -/
inductive Sel : List Res → List Res → List Res → Prop
  | nil {L : List Res} : Sel L [] L
  | cons {L L1 L' M : List Res} {r : Res} : Pick L r L1 → Sel L1 M L' → Sel L (r :: M) L'

theorem Sel.split {L M L' : List Res} (h : Sel L M L') : ∀ {w : World} {F : Nat → Prop}, stars L w F →
    ∃ F1 F2, stars M w F1 ∧ stars L' w F2 ∧ (∀ k, F k ↔ F1 k ∨ F2 k) ∧ ∀ k, F1 k → ¬ F2 k := by
  induction h with
  | nil => exact fun {w F} h => ⟨fun _ => False, F, fun _ h => h, h, fun k => by simp, fun k h => h.elim⟩
  | @cons L L1 L' M r hp _ ih =>
    intro w F h
    obtain ⟨F1, F2, h1, h2, hF, hd⟩ := hp.stars h
    obtain ⟨G1, G2, g1, g2, hG, gd⟩ := ih h2
    refine ⟨fun k => F1 k ∨ G1 k, G2, ⟨F1, G1, h1, g1, fun _ => Iff.rfl, fun k hk hk' => hd k hk ((hG k).2 (.inl hk'))⟩, g2, fun k => ?_, ?_⟩
    · rw [hF, hG]; constructor
      · rintro (h | h | h) <;> simp [h]
      · rintro ((h | h) | h) <;> simp [h]
    · rintro k (hk | hk) h
      · exact hd k hk ((hG k).2 (.inr h))
      · exact gd k hk h

theorem stars_append : ∀ {M L : List Res} {w : World} {F1 F2 : Nat → Prop}, stars M w F1 → stars L w F2 → (∀ k, F1 k → ¬ F2 k) →
    stars (M ++ L) w (fun k => F1 k ∨ F2 k)
  | [], L, w, F1, F2, h1, h2, _ => by
    have : (fun k => F1 k ∨ F2 k) = F2 := fp_eq fun k => ⟨fun h => h.elim (fun h => absurd h (h1 k)) id, .inr⟩
    rw [this]; exact h2
  | r :: M, L, w, F1, F2, ⟨G1, G2, g1, g2, hG, gd⟩, h2, hd => by
    have := stars_append (F1 := G2) g2 h2 (fun k hk => hd k ((hG k).2 (.inr hk)))
    refine ⟨G1, _, g1, this, fun k => ?_, ?_⟩
    · show F1 k ∨ F2 k ↔ _
      rw [hG]; exact or_assoc
    · rintro k hk (h | h)
      · exact gd k hk h
      · exact hd k ((hG k).2 (.inl hk)) h

theorem stars_split : ∀ {M L : List Res} {w : World} {F : Nat → Prop}, stars (M ++ L) w F →
    ∃ F1 F2, stars M w F1 ∧ stars L w F2 ∧ (∀ k, F k ↔ F1 k ∨ F2 k) ∧ ∀ k, F1 k → ¬ F2 k
  | [], L, w, F, h => ⟨fun _ => False, F, fun _ h => h, h, fun k => by simp, fun k h => h.elim⟩
  | r :: M, L, w, F, ⟨F1, F2, h1, h2, hF, hd⟩ => by
    obtain ⟨G1, G2, g1, g2, hG, gd⟩ := stars_split h2
    refine ⟨fun k => F1 k ∨ G1 k, G2, ⟨F1, G1, h1, g1, fun _ => Iff.rfl, fun k hk hk' => hd k hk ((hG k).2 (.inl hk'))⟩, g2, fun k => ?_, ?_⟩
    · rw [hF, hG]; exact or_assoc.symm
    · rintro k (hk | hk) h
      · exact hd k hk ((hG k).2 (.inr h))
      · exact gd k hk h

/-! ### Steps of the world -/
/-- From w (of which F is owned) to w' (of which F' is owned): what was there and wasn't owned is as it was. -/
structure Stp (w : World) (F : Nat → Prop) (w' : World) (F' : Nat → Prop) : Prop where
  os : w'.os = w.os
  tape : w'.tape = w.tape
  output : w'.output = w.output
  size : w.heap.size ≤ w'.heap.size
  block : ∀ k, k < w.heap.size → ¬ F k → w'.heap[k]? = w.heap[k]?
  own : ∀ k, F' k → F k ∨ w.heap.size ≤ k

theorem Stp.refl (w : World) (F : Nat → Prop) : Stp w F w F := ⟨rfl, rfl, rfl, Nat.le_refl _, fun _ _ _ => rfl, fun _ h => .inl h⟩

theorem Stp.trans {w0 w1 w2 : World} {F0 F1 F2 : Nat → Prop} (h : Stp w0 F0 w1 F1) (k : Stp w1 F1 w2 F2) : Stp w0 F0 w2 F2 where
  os := k.os.trans h.os
  tape := k.tape.trans h.tape
  output := k.output.trans h.output
  size := Nat.le_trans h.size k.size
  block := fun i hi hn => (k.block i (Nat.lt_of_lt_of_le hi h.size) (fun hf => (h.own i hf).elim hn (fun h' => absurd h' (by omega)))).trans (h.block i hi hn)
  own := fun i hi => (k.own i hi).elim (h.own i) (fun h' => .inr (Nat.le_trans h.size h'))

theorem Stp.weak {w w' : World} {F F' G : Nat → Prop} (h : Stp w F w' F') (hg : ∀ k, G k → F' k) : Stp w F w' G :=
  ⟨h.os, h.tape, h.output, h.size, h.block, fun k hk => h.own k (hg k hk)⟩

/-- A step of a part, beside what stays. -/
theorem Stp.frame {w w' : World} {F1 F2 F' : Nat → Prop} (h : Stp w F1 w' F') : Stp w (fun k => F1 k ∨ F2 k) w' (fun k => F' k ∨ F2 k) :=
  ⟨h.os, h.tape, h.output, h.size, fun k hk hn => h.block k hk (fun h => hn (.inl h)), fun k hk => hk.elim (fun hk => (h.own k hk).imp .inl id) (fun h => .inl (.inr h))⟩

/-- The world at hand: L is owned, and all that was there at the start, but F0, is as it was. -/
def St (w0 : World) (F0 : Nat → Prop) (L : List Res) (w : World) : Prop := ∃ F, stars L w F ∧ Stp w0 F0 w F

theorem St.init {w : World} {F : Nat → Prop} {L : List Res} (h : stars L w F) : St w F L w := ⟨F, h, Stp.refl w F⟩
theorem St.conv {w0 : World} {F0 : Nat → Prop} {L L' M N : List Res} {w : World} (h : St w0 F0 L w) (hs : Sel L M L')
    (hc : ∀ w F, stars M w F → stars N w F) : St w0 F0 (N ++ L') w := by
  obtain ⟨F, hF, hst⟩ := h
  obtain ⟨F1, F2, h1, h2, hE, hd⟩ := hs.split hF
  have := stars_append (hc w F1 h1) h2 hd
  exact ⟨F, by rw [fp_eq hE]; exact this, hst⟩

/-- What isn't wanted any more is let go. -/
theorem St.sel {w0 : World} {F0 : Nat → Prop} {L L' M : List Res} {w : World} (h : St w0 F0 L w) (hs : Sel L M L') : St w0 F0 M w := by
  obtain ⟨F, hF, hst⟩ := h
  obtain ⟨F1, F2, h1, h2, hE, hd⟩ := hs.split hF
  exact ⟨F1, h1, hst.weak fun k hk => (hE k).2 (.inl hk)⟩

/-- A callee's step: it owns M of L; the rest stays. -/
theorem St.call {w0 : World} {F0 : Nat → Prop} {L' N : List Res} {w w' : World} {F F1 F2 : Nat → Prop} (hst : Stp w0 F0 w F)
    (h2 : stars L' w F2) (hE : ∀ k, F k ↔ F1 k ∨ F2 k) (hd : ∀ k, F1 k → ¬ F2 k) (h : St w F1 N w') : St w0 F0 (N ++ L') w' := by
  obtain ⟨G, hG, hs⟩ := h
  have h2' : stars L' w' F2 := stars_loc h2 fun k hk => hs.block k (stars_lt h2 k hk) (fun h1 => hd k h1 hk)
  refine ⟨fun k => G k ∨ F2 k, stars_append hG h2' ?_, ?_⟩
  · intro k hk hk2
    rcases hs.own k hk with h1 | h1
    · exact hd k h1 hk2
    · exact absurd (stars_lt h2 k hk2) (by omega)
  · have hs' := hs.frame (F2 := F2)
    rw [← fp_eq hE] at hs'
    exact hst.trans hs'

/-- What was there at the start and wasn't owned is there. -/
theorem Stp.old {w0 w : World} {F0 F : Nat → Prop} (h : Stp w0 F0 w F) {k : Nat} (hk : k < w0.heap.size) (hn : ¬ F0 k) : w.heap[k]? = w0.heap[k]? ∧ ¬ F k :=
  ⟨h.block k hk hn, fun hf => (h.own k hf).elim hn (fun h' => absurd h' (by omega))⟩

/-! ### The common resources -/

/-- Block g: just the cells cs of element type T; none is frozen. -/
def blk (g : Nat) (T : TypeId) (cs : List Value) : Res where
  on w F := (∀ k, F k ↔ k = g) ∧ ∃ fz, w.heap[g]? = some (.cells cs.toArray T fz) ∧ okFz cs.length fz
  loc := fun ⟨hF, fz, h, hz⟩ hk => ⟨hF, fz, (hk g ((hF g).2 rfl)).trans h, hz⟩
  ok := fun ⟨hF, fz, h, hz⟩ k hk => by
    rw [(hF k).1 hk]
    exact ⟨_, h, hz⟩

/-- A fact, no memory. -/
def pureR (p : Prop) : Res where
  on _ F := (∀ k, ¬ F k) ∧ p
  loc := fun h _ => h
  ok := fun ⟨h, _⟩ k hk => absurd hk (h k)

def exR {α : Type} (f : α → Res) : Res where
  on w F := ∃ x, (f x).on w F
  loc := fun ⟨x, h⟩ hk => ⟨x, (f x).loc h hk⟩
  ok := fun ⟨x, h⟩ => (f x).ok h

/-- Several as one. -/
def allR (L : List Res) : Res where
  on := stars L
  loc := stars_loc
  ok := stars_ok

/-- What is read, in just these blocks (which blocks is left open). -/
def rdR (φ : World → (Nat → Prop) → Prop) (hloc : ∀ {w w' : World} {F : Nat → Prop}, φ w F → (∀ k, k < w.heap.size → F k → w'.heap[k]? = w.heap[k]?) → φ w' F) : Res where
  on w F := φ w F ∧ ∀ k, F k → okAt w k
  loc := fun {w w' F} ⟨h, hl⟩ hk => ⟨hloc h fun k _ hF => hk k hF, fun k hF => (hl k hF).mv (hk k hF)⟩
  ok := fun ⟨_, hl⟩ => hl

theorem stars_one {r : Res} {w : World} {F : Nat → Prop} (h : r.on w F) : stars [r] w F :=
  ⟨F, fun _ => False, h, fun _ h => h, fun k => by simp, fun _ _ h => h⟩
theorem stars_one' {r : Res} {w : World} {F : Nat → Prop} (h : stars [r] w F) : r.on w F := by
  obtain ⟨F1, F2, h1, h2, hF, _⟩ := h
  have : F = F1 := fp_eq fun k => (hF k).trans ⟨fun h => h.elim id (fun h => absurd h (h2 k)), .inl⟩
  rw [this]; exact h1
theorem stars_pure {p : Prop} {L : List Res} {w : World} {F : Nat → Prop} (h : stars (pureR p :: L) w F) : p ∧ stars L w F := by
  obtain ⟨F1, F2, ⟨h0, hp⟩, h2, hF, _⟩ := h
  have : F = F2 := fp_eq fun k => (hF k).trans ⟨fun h => h.elim (fun h => absurd h (h0 k)) id, .inr⟩
  exact ⟨hp, by rw [this]; exact h2⟩
theorem stars_pure_mk {p : Prop} {L : List Res} {w : World} {F : Nat → Prop} (hp : p) (h : stars L w F) : stars (pureR p :: L) w F :=
  ⟨fun _ => False, F, ⟨fun _ h => h, hp⟩, h, fun k => by simp, fun _ h => h.elim⟩
theorem stars_all {M L : List Res} {w : World} {F : Nat → Prop} (h : stars (allR M :: L) w F) : stars (M ++ L) w F := by
  obtain ⟨F1, F2, h1, h2, hF, hd⟩ := h
  rw [fp_eq hF]; exact stars_append h1 h2 hd
theorem stars_all_mk {M L : List Res} {w : World} {F : Nat → Prop} (h : stars (M ++ L) w F) : stars (allR M :: L) w F := by
  obtain ⟨F1, F2, h1, h2, hF, hd⟩ := stars_split h
  exact ⟨F1, F2, h1, h2, hF, hd⟩
theorem stars_ex {α : Type} {f : α → Res} {L : List Res} {w : World} {F : Nat → Prop} (h : stars (exR f :: L) w F) : ∃ x, stars (f x :: L) w F := by
  obtain ⟨F1, F2, ⟨x, h1⟩, h2, hF, hd⟩ := h
  exact ⟨x, F1, F2, h1, h2, hF, hd⟩
theorem stars_ex_mk {α : Type} {f : α → Res} {L : List Res} {w : World} {F : Nat → Prop} (x : α) (h : stars (f x :: L) w F) : stars (exR f :: L) w F := by
  obtain ⟨F1, F2, h1, h2, hF, hd⟩ := h
  exact ⟨F1, F2, ⟨x, h1⟩, h2, hF, hd⟩

theorem stars_pick {L L' : List Res} {r : Res} (h : Pick L r L') {w : World} {F : Nat → Prop} (hs : stars L w F) : ∃ F1, r.on w F1 ∧ ∀ k, F1 k → F k := by
  obtain ⟨F1, F2, h1, _, hF, _⟩ := h.stars hs
  exact ⟨F1, h1, fun k hk => (hF k).2 (.inl hk)⟩
end Go.Proofs.YthicckleihbomaaDoor

/- The engine, part T: what the program's tables say of types and functions, as closed questions. -/
namespace Go.Proofs.YthicckleihbomaaDoor
open Go
set_option linter.unusedVariables false

/-! ### What the tables say of types -/
def szT (P : Program) (T : TypeId) : Option Nat := (P.info? T).map (·.size)
def rowT (P : Program) (T : TypeId) : Option Bool := (P.underlying T).map fun d => match d with | .struct _ | .array _ _ => true | _ => false
def zeroT (P : Program) (T : TypeId) : Option Value := (P.info? T).bind (·.zero)
def sliceT (P : Program) (T : TypeId) : Option TypeId := (P.underlying T).bind fun d => match d with | .slice e => some e | _ => none
def arrT (P : Program) (T : TypeId) : Option (Nat × TypeId) := (P.underlying T).bind fun d => match d with | .array n e => some (n, e) | _ => none
def foff (P : Program) (s f : Nat) : Option Nat := (P.underlying s).bind fun d => match d with
  | .struct fs => (fs[f]?).bind fun x => if (P.info? x.type).map (·.size) = some 0 then none else (P.info? x.type).map fun _ => x.offset
  | _ => none

def okCall (P : Program) (f : FuncId) : Bool := match P.funcs[f]? with
  | some fn => fn.body.isSome && !(fn.name == "runtime.NumGoroutine")
  | none => false

def zcT (P : Program) (T : TypeId) : Option (List Value) := (zeroT P T).map fun z => z.cells.toList
theorem zcT_some {P : Program} {T : TypeId} {cs : List Value} (h : zcT P T = some cs) : ∃ z, zeroT P T = some z ∧ z.cells.toList = cs := by
  unfold zcT at h
  cases hz : zeroT P T with
  | none => simp [hz] at h
  | some z => exact ⟨z, rfl, by simpa [hz] using h⟩
/-- A digest's sixteen zeros. -/
def zD : List Value := List.replicate 16 (.int .u8 0)

/-- The facts on an element's type that append asks. -/
structure ElemT (P : Program) (t e size bytes : Nat) : Prop where
  sl : P.underlying t = some (.slice e)
  info : ∃ i z, P.info? e = some i ∧ i.zero = some z ∧ i.size = size ∧ i.bytes = bytes ∧ z.cells.size = size
  pos : 0 < size
def elemB (P : Program) (t e size bytes : Nat) : Bool :=
  (match P.underlying t with | some (.slice e') => Nat.beq e' e | _ => false) && (match P.info? e with
    | some i => Nat.beq i.size size && Nat.beq i.bytes bytes && (match i.zero with | some z => Nat.beq z.cells.size size | none => false)
    | none => false) && Nat.blt 0 size
theorem elemT_of {P : Program} {t e size bytes : Nat} (h : elemB P t e size bytes = true) : ElemT P t e size bytes := by
  simp only [elemB, Bool.and_eq_true] at h
  obtain ⟨⟨h1, h2⟩, h3⟩ := h
  refine ⟨?_, ?_, by rwa [Nat.blt_eq] at h3⟩
  · cases hu : P.underlying t with
    | none => simp [hu] at h1
    | some dsc =>
      cases dsc <;> simp [hu] at h1
      rw [h1]
  · cases hi : P.info? e with
    | none => simp [hi] at h2
    | some i =>
      simp only [hi, Bool.and_eq_true] at h2
      obtain ⟨⟨h4, h5⟩, h6⟩ := h2
      cases hz : i.zero with
      | none => simp [hz] at h6
      | some z =>
        simp only [hz] at h6
        exact ⟨i, z, rfl, hz, Nat.eq_of_beq_eq_true h4, Nat.eq_of_beq_eq_true h5, Nat.eq_of_beq_eq_true h6⟩

def placesT (P : Program) (T : TypeId) : Option (List (Nat × Nat)) := (P.underlying T).bind fun d => match d with
  | .struct fs => fs.toList.mapM fun f => (szT P f.type).map fun s => (f.offset, s)
  | _ => none
def ifcT (P : Program) (T : TypeId) : Bool := match P.underlying T with | some (.interface _) => true | _ => false
theorem run_ifcT {P : Program} {T : TypeId} (h : ifcT P T = true) : ∃ ms, P.underlying T = some (.interface ms) := by
  unfold ifcT at h
  cases hu : P.underlying T with
  | none => simp [hu] at h
  | some d => cases d <;> simp [hu] at h ⊢

/-! ### The same, found by instance -/
class FO (P : Program) (s f : Nat) (k : outParam Nat) : Prop where h : foff P s f = some k
class SZ (P : Program) (T : Nat) (s : outParam Nat) : Prop where h : szT P T = some s
class RO (P : Program) (T : Nat) : Prop where h : rowT P T = some false
class RA (P : Program) (T : Nat) : Prop where h : rowT P T = some true
class ZC (P : Program) (T : Nat) (cs : outParam (List Value)) : Prop where h : zcT P T = some cs
class SLT (P : Program) (T : Nat) (e : outParam Nat) : Prop where h : sliceT P T = some e
class ART (P : Program) (T : Nat) (m e : outParam Nat) : Prop where h : arrT P T = some (m, e)
class UNT (P : Program) (T : Nat) (d : outParam TypeDesc) : Prop where h : P.underlying T = some d
class PLT (P : Program) (T : Nat) (pl : outParam (List (Nat × Nat))) : Prop where h : placesT P T = some pl
class CLT (P : Program) (f : Nat) : Prop where h : okCall P f = true
class ELT (P : Program) (t : Nat) (e size bytes : outParam Nat) : Prop where h : ElemT P t e size bytes
class IFT (P : Program) (T : Nat) : Prop where h : ifcT P T = true
end Go.Proofs.YthicckleihbomaaDoor

/- The engine, part X: code in a frame of any round: rules over the fenced walk, the fence letting all in. -/
namespace Go.Proofs.YthicckleihbomaaDoor
open Go
set_option linter.unusedVariables false
set_option linter.unusedSimpArgs false
/-- All is let in; the frame is a round of this loop, or none. -/
def FR (ro : Option Nat) : Fence := { Fence.wide with round := ro }
theorem callsIn_FR {ro : Option Nat} {n : Nat} {P : Program} {f : FuncId} {args : Array Value} {w : World} {R : Ending → World → Prop} : CallsIn (FR ro) n P f args w R ↔ Calls P f args w R :=
  Iff.trans (Iff.of_eq rfl) (callsIn_wide (n := n))
theorem deep_FR (ro : Option Nat) {n : Nat} : (FR ro).depth.isSome = true → 1 ≤ n := fun h => by simp [FR, Fence.wide] at h
section
variable {ro : Option Nat} {P : Program} {ops : Array Oper} {w : World}
theorem semAt_ok {o : Oper} {ρ : Operand → Value} {r : Next} {w' : World} (hne : ∀ d, r ≠ .defer d) (h : (execOp ρ o).run P w = .ok r w') : (o.semAt ro ρ).run P w = .ok r w' := by
  by_cases hd : ∃ c, o.op = .defer c
  · obtain ⟨c, hc⟩ := hd
    exfalso
    unfold execOp at h
    rw [hc] at h
    simp only [Sem.run_bind] at h
    generalize (resolve ρ c o.type).run P w = q at h
    cases q with
    | ok d w2 =>
      simp only [Result.andThen_ok, Sem.run_pure, Result.ok.injEq] at h
      exact hne _ h.1.symm
    | halt x w2 => cases h
  · rw [Oper.semAt_eq _ _ _ (fun c hc => hd ⟨c, hc⟩)]; exact h
theorem Oper.wpIn_value {o : Oper} {a : Act} {K : Act → World → Prop} {Q : Exit → Act → World → Prop} {v : Value} {w' : World} (h : (execOp a.eval o).run P w = .ok (.value v) w') (k : K (a.put o.dst v) w') : o.wpIn (FR ro) 0 P a w K Q := by
  refine ⟨fun _ _ => trivial, ?_⟩
  rw [show (FR ro).round = ro from rfl, semAt_ok (by intro d h; cases h) h]
  exact k
theorem Oper.wpIn_skip {o : Oper} {a : Act} {K : Act → World → Prop} {Q : Exit → Act → World → Prop} {w' : World} (h : (execOp a.eval o).run P w = .ok .skip w') (k : K (a.put o.dst undef) w') : o.wpIn (FR ro) 0 P a w K Q := by
  refine ⟨fun _ _ => trivial, ?_⟩
  rw [show (FR ro).round = ro from rfl, semAt_ok (by intro d h; cases h) h]
  exact k
theorem Oper.wpIn_enter {o : Oper} {a : Act} {K : Act → World → Prop} {Q : Exit → Act → World → Prop} {f : FuncId} {args : Array Value} {w' : World} (h : (execOp a.eval o).run P w = .ok (.enter f args) w')
    (k : Calls P f args w' fun e w'' => ∃ v, e = .returned v ∧ K (a.put o.dst v) w'') : o.wpIn (FR ro) 0 P a w K Q := by
  refine ⟨fun _ _ => trivial, ?_⟩
  rw [show (FR ro).round = ro from rfl, semAt_ok (by intro d h; cases h) h]
  refine ⟨deep_FR ro, callsIn_FR.2 (k.mono ?_)⟩
  rintro e w'' ⟨v, rfl, hk⟩
  exact hk
theorem Oper.wpIn_round {o : Oper} {a : Act} {K : Act → World → Prop} {Q : Exit → Act → World → Prop} {l : Nat} {f : FuncId} {tmps : Array Value} {asg bd : Code} {w' : World} (h : (execOp a.eval o).run P w = .ok (.round l f tmps asg bd) w')
    (k : RoundIn (FR ro) 0 P l f tmps asg bd w' fun e w'' => ∃ v, e = .returned v ∧ K (a.put o.dst v) w'') : o.wpIn (FR ro) 0 P a w K Q := by
  refine ⟨fun _ _ => trivial, ?_⟩
  rw [show (FR ro).round = ro from rfl, semAt_ok (by intro d h; cases h) h]
  refine ⟨deep_FR ro, k.mono ?_⟩
  rintro e w'' ⟨v, rfl, hk⟩
  exact hk
theorem Oper.wpIn_of_still {o : Oper} {a : Act} {K : Act → Prop} {K' : Act → World → Prop} {Q' : Exit → Act → World → Prop} (h : ∀ a, K a → K' a w) (hh : o.still P a w K) : o.wpIn (FR ro) 0 P a w K' Q' := by
  unfold Oper.still at hh
  generalize hr : (execOp a.eval o).run P w = r at hh
  cases r with
  | ok m w' =>
    cases m <;> simp only [Oper.stillUpon] at hh
    case value v => obtain ⟨rfl, h2⟩ := hh; exact Oper.wpIn_value hr (h _ h2)
    case skip => obtain ⟨rfl, h2⟩ := hh; exact Oper.wpIn_skip hr (h _ h2)
    case enter f args =>
      obtain ⟨rfl, v, hc, hn⟩ := hh
      exact Oper.wpIn_enter hr (hc.mono fun e w'' ⟨he, hw⟩ => ⟨v, he, by subst hw; exact h _ hn⟩)
  | halt x w' => simp only [Oper.stillUpon] at hh
theorem wpOpIn_of_stOp {i : Nat} {a : Act} {K : Act → Prop} {K' : Act → World → Prop} {Q' : Exit → Act → World → Prop} (h : ∀ a, K a → K' a w) (hh : stOp P ops w i K a) : wpOpIn (FR ro) 0 P ops Q' i K' a w := by
  unfold stOp at hh
  unfold wpOpIn
  split
  · rename_i ho; simp only [ho] at hh; exact h _ hh
  · rename_i o ho
    simp only [ho] at hh
    split
    · rename_i hw; simp only [hw, if_true] at hh; exact Oper.wpIn_of_still h hh
    · rename_i hw; simp only [hw] at hh; exact ⟨fun _ _ => trivial, h _ hh⟩
theorem wpAnyIn_of_still {md : Region.Mode} {Q : Act → Prop} {Q' : Exit → Act → World → Prop} (hQ : ∀ a, Q a → Q' .normal a w) : ∀ (fuel : Nat) (listed : Array Bool) (a : Act),
    wpAnyS P md ops w Q fuel listed a → wpAnyIn (FR ro) 0 P md ops Q' fuel listed a w
  | 0, _, _, h => ⟨h.1, hQ _ h.2⟩
  | fuel + 1, _, _, h => ⟨fun h0 => hQ _ (h.1 h0), fun i hi => wpOpIn_of_stOp (fun a' => wpAnyIn_of_still hQ fuel _ a') (h.2 i hi)⟩
theorem wpIn_region_S {id : Nat} {Q : Exit → Act → World → Prop} {a : Act} {l : List Oper} (hm : P.follows .mixedOrders = true) (hB : Region.lexB .any l.toArray = true)
    (h : wpStill P l.toArray { w with drawn := w.drawn + 1 } (fun a' => Q .normal a' { w with drawn := w.drawn + 1 }) l a) : (Code.region id l.toArray true).wpIn (FR ro) 0 P Q a w := by
  simp only [Region.lexB, Bool.and_eq_true] at hB
  refine wpIn_region_any hm (wpAnyIn_of_still (Q := fun a' => Q .normal a' { w with drawn := w.drawn + 1 }) (fun _ h => h) _ _ _ ?_)
  have := wpAnyS_lex (md := .any) hB.1 l 0 (Array.replicate l.toArray.size false) a (by simp) (by simpa using hB.2) h
  simpa using this
theorem wpAnyIn_of_head {md : Region.Mode} {n g : Nat} {L : Array Bool → Act → Prop} {Q' : Exit → Act → World → Prop} (hL : ∀ listed a, L listed a → wpAnyIn (FR ro) 0 P md ops Q' g listed a w) :
    ∀ (f : Nat) (listed : Array Bool) (a : Act), wpAnyL P md ops w n L f listed a → wpAnyIn (FR ro) 0 P md ops Q' (f + g) listed a w
  | 0, listed, a, h => by rw [Nat.zero_add]; exact hL _ _ h
  | f + 1, listed, a, h => by
    rw [show f + 1 + g = (f + g) + 1 by omega]
    exact ⟨fun h0 => absurd h0 h.1, fun i hi => wpOpIn_of_stOp (fun a' h' => wpAnyIn_of_head hL f _ a' h') (h.2 i hi).2⟩
theorem wpAnyIn_of_seq {md : Region.Mode} {Q' : Exit → Act → World → Prop} : ∀ (l : List Oper) (k : Nat) (listed : Array Bool) (a : Act) (w : World), (∀ j, l[j]? = ops[k + j]?) →
    Region.seqB md ops l.length k listed = true → wpListIn (FR ro) 0 P ops Q' l a w → wpAnyIn (FR ro) 0 P md ops Q' l.length listed a w
  | [], _, _, _, _, _, hB, h => ⟨by simpa [Region.seqB] using hB, h⟩
  | o :: l, k, listed, a, w, hl, hB, h => by
    have h0 : ops[k]? = some o := by simpa using (hl 0).symm
    simp only [List.length_cons, Region.seqB, Bool.and_eq_true, decide_eq_true_eq] at hB
    refine ⟨fun h1 => (by rw [hB.1] at h1; cases h1), fun i hi => ?_⟩
    rw [hB.1] at hi
    have hik : i = k := by simpa using hi
    subst hik
    have hw : wpOpIn (FR ro) 0 P ops Q' i (wpListIn (FR ro) 0 P ops Q' l) a w := by unfold wpOpIn; simp only [h0]; exact h
    exact wpOpIn_mono (fun a' w' h' => wpAnyIn_of_seq l (i + 1) _ a' w' (fun j => by have := hl (j + 1); simpa [Nat.add_assoc, Nat.add_comm 1 j] using this) hB.2 h') hw
theorem wpIn_region_T {id : Nat} {Q : Exit → Act → World → Prop} {a : Act} {l : List Oper} (n : Nat) (hm : P.follows .mixedOrders = true) (hB : Region.lexTailB .any l.toArray n = true)
    (h : wpStill P l.toArray { w with drawn := w.drawn + 1 } (fun a' => wpListIn (FR ro) 0 P l.toArray Q (l.drop n) a' { w with drawn := w.drawn + 1 }) (l.take n) a) : (Code.region id l.toArray true).wpIn (FR ro) 0 P Q a w := by
  simp only [Region.lexTailB, Bool.and_eq_true, decide_eq_true_eq] at hB
  obtain ⟨⟨⟨⟨hsel, hn⟩, hs⟩, hc⟩, hlex⟩ := hB
  have hn' : n < l.length := by simpa using hn
  have htl : (l.take n).length = n := by simp; omega
  have hdl : (l.drop n).length = l.toArray.size - n := by simp
  have inv0 : HeadInv .any l.toArray n (Array.replicate l.toArray.size false) :=
    ⟨by simp, fun j oj _ hl => (by rw [getD_replicate_false] at hl; cases hl), fun t _ ht => getD_in (by simpa using ht) (getD_replicate_false _ _)⟩
  have H := wpAnyL_lex (md := .any) (g := l.toArray.size - n) hsel hs hc hn (l.take n) 0 _ a (fun j hj => by
    have hj' : j < n := by rw [htl] at hj; exact hj
    simp [hj']) (by simpa using htl) inv0 (by rw [htl]; exact hlex) h
  refine wpIn_region_any hm ?_
  have := wpAnyIn_of_head (ro := ro) (Q' := Q) (g := l.toArray.size - n) (fun listed a' hL => by
    have := wpAnyIn_of_seq (ro := ro) (md := .any) (Q' := Q) (l.drop n) n listed a' { w with drawn := w.drawn + 1 } (fun j => by simp [List.getElem?_drop]) (by rw [hdl]; exact hL.1) hL.2
    rwa [hdl] at this) _ _ _ H
  rw [htl, show n + (l.toArray.size - n) = l.toArray.size by omega] at this
  exact this
/-! ### One operation ahead of another one -/
def noDef (ops : Array Oper) : Bool := ops.all fun o => match o.op with | .defer _ => false | _ => true
theorem noDef_spec (h : noDef ops = true) {j : Nat} {o : Oper} (hj : ops[j]? = some o) : ∀ c, o.op ≠ .defer c := fun c hc => by
  have h1 := Array.all_eq_true.1 h j (Array.getElem?_eq_some_iff.1 hj).1
  rw [(Array.getElem?_eq_some_iff.1 hj).2] at h1
  simp [hc] at h1
theorem YieldsIf.wpOpIn {S : World → Prop} {Q : Exit → Act → World → Prop} {i : Nat} {o : Oper} {v : Value} {a : Act} (hi : ops[i]? = some o) (hy : YieldsIf P ops S o v a)
    {K : Act → World → Prop} (hS : S w) (h : K (a.put o.dst v) w) : wpOpIn (FR ro) 0 P ops Q i K a w := by
  unfold Go.wpOpIn
  simp only [hi]
  rcases hy with ⟨hw, hv⟩ | ⟨hw, rfl⟩
  · simp only [hw, if_true]; exact Oper.wpIn_value (hv w hS) h
  · simp only [hw, Bool.false_eq_true, if_false]; exact ⟨fun _ _ => trivial, h⟩
theorem wpOpIn_putIf {S : World → Prop} {Q : Exit → Act → World → Prop} {j : Nat} {oi oj : Oper} {v : Value} (hj : ops[j]? = some oj) (hap : oi.apart ops oj = true)
    (hsi : ∀ cs b, oi.op ≠ .select cs b) (hsj : ∀ cs b, oj.op ≠ .select cs b) (hnd : ∀ c, oj.op ≠ .defer c)
    (hQ : ∀ c a w, Q (.panic c) (a.put oi.dst v) w → Q (.panic c) a w) {K : Act → World → Prop} {a : Act}
    (hy : YieldsIf P ops S oi v a) (h : wpOpIn (FR ro) 0 P ops Q j K (a.put oi.dst v) w) :
    wpOpIn (FR ro) 0 P ops Q j (fun a' w' => YieldsIf P ops S oi v a' ∧ K (a'.put oi.dst v) w') a w := by
  obtain ⟨h1, h2, h3⟩ := Oper.apart_spec hap
  have keep : ∀ (a : Act), YieldsIf P ops S oi v a → ∀ u, YieldsIf P ops S oi v (a.put oj.dst u) := fun a hy u =>
    hy.of_same (execOp_put oi hsi a oj.dst u h3) (wanted_put oi a oj.dst u h3)
  have keepD : ∀ d, YieldsIf P ops S oi v { a with defers := d :: a.defers } := fun d => hy.of_same rfl rfl
  unfold Go.wpOpIn at *
  simp only [hj] at *
  rw [wanted_put oj a oi.dst v h1] at h
  split
  · rename_i hw
    simp only [hw, if_true] at h
    unfold Oper.wpIn at *
    refine ⟨fun _ _ => trivial, ?_⟩
    have h := h.2
    rw [Oper.semAt_eq _ _ _ hnd, execOp_put oj hsj a oi.dst v h1] at h
    rw [Oper.semAt_eq _ _ _ hnd]
    generalize (execOp a.eval oj).run P w = r at *
    cases r with
    | ok m w' =>
      cases m <;> simp only [Oper.uponIn] at h ⊢
      case value u => exact ⟨keep a hy u, by rw [← Act.put_comm a v u h2]; exact h⟩
      case skip => exact ⟨keep a hy _, by rw [← Act.put_comm a v undef h2]; exact h⟩
      case defer d =>
        refine ⟨keep _ (keepD d) _, ?_⟩
        rw [← Act.put_comm _ v undef h2, ← Act.put_defers]
        exact h
      case enter f args =>
        refine ⟨h.1, CallsIn.mono h.2 fun e w'' he => ?_⟩
        cases e with
        | returned u => exact ⟨keep a hy u, by rw [← Act.put_comm a v u h2]; exact he⟩
        | panicked c => exact hQ _ _ _ he
        | outgrown => exact he
      case row row args => exact ⟨h.1, RowsIn.mono h.2 fun u w'' he => ⟨keep a hy u, by rw [← Act.put_comm a v u h2]; exact he⟩⟩
      case round l f tmps asg bd =>
        refine ⟨h.1, RoundIn.mono h.2 fun e w'' he => ?_⟩
        cases e with
        | returned u => exact ⟨keep a hy u, by rw [← Act.put_comm a v u h2]; exact he⟩
        | panicked c => exact hQ _ _ _ he
        | outgrown => exact he
    | halt x w' =>
      cases x <;> simp only [Oper.uponIn] at h ⊢
      case panic u => exact hQ _ _ _ h
  · rename_i hw
    simp only [hw] at h
    exact ⟨fun _ _ => trivial, keep a hy _, by rw [← Act.put_comm a v undef h2]; exact h.2⟩
end
end Go.Proofs.YthicckleihbomaaDoor

/- The engine, part B: the judgements over code and operations, and the rules of straight code. -/
namespace Go.Proofs.YthicckleihbomaaDoor
open Go
set_option linter.unusedVariables false
set_option linter.unusedSimpArgs false

section types
variable {P : Program} {T : TypeId} {w : World}
theorem run_sz {n : Nat} (h : szT P T = some n) : (sizeOf T).run P w = .ok n w := by
  unfold szT at h
  cases hi : P.info? T with
  | none => simp [hi] at h
  | some i => simp [hi] at h; simp [sizeOf, typeInfo, hi, h]
theorem run_rowT {b : Bool} (h : rowT P T = some b) : (isAgg T).run P w = .ok b w := by
  unfold rowT at h
  cases hu : P.underlying T with
  | none => simp [hu] at h
  | some d =>
    simp only [hu, Option.map_some, Option.some.injEq] at h
    unfold isAgg
    rw [Sem.run_bind, run_underlying hu w]
    subst h
    cases d <;> rfl
theorem run_zeroT {z : Value} (h : zeroT P T = some z) : (zeroValue T).run P w = .ok z w := by
  unfold zeroT at h
  cases hi : P.info? T with
  | none => simp [hi] at h
  | some i => simp [hi] at h; simp [zeroValue, typeInfo, hi, h]
theorem run_sliceT {e : TypeId} (h : sliceT P T = some e) : P.underlying T = some (.slice e) := by
  unfold sliceT at h
  cases hu : P.underlying T with
  | none => simp [hu] at h
  | some d => cases d <;> simp [hu] at h ⊢; exact h
theorem run_arrT {n e : Nat} (h : arrT P T = some (n, e)) : P.underlying T = some (.array n e) := by
  unfold arrT at h
  cases hu : P.underlying T with
  | none => simp [hu] at h
  | some d => cases d <;> simp [hu] at h ⊢; exact h
end types

/-! ### The judgements -/
def Gl (P : Program) (w0 : World) (F0 : Nat → Prop) (L : List Res) (ops : Array Oper) (Q : Exit → Act → World → Prop) (rest : List Oper) (n : Fm) (env : Env) : Prop :=
  ∀ w, St w0 F0 L w → wpListIn (FR n.ro) 0 P ops Q rest (fr n env) w
/-- What code asks for, in a frame like this one. -/
abbrev cwp (n : Fm) (P : Program) (c : Code) (Q : Exit → Act → World → Prop) : Act → World → Prop := c.wpIn (FR n.ro) 0 P Q
def Gc (P : Program) (w0 : World) (F0 : Nat → Prop) (L : List Res) (c : Code) (Q : Exit → Act → World → Prop) (n : Fm) (env : Env) : Prop :=
  ∀ w, St w0 F0 L w → c.wpIn (FR n.ro) 0 P Q (fr n env) w
def Gx (w0 : World) (F0 : Nat → Prop) (L : List Res) (Q : Exit → Act → World → Prop) (e : Exit) (n : Fm) (env : Env) : Prop :=
  ∀ w, St w0 F0 L w → Q e (fr n env) w
/-- The operation leaves v, and the world as it is. -/
def Runs (P : Program) (w0 : World) (F0 : Nat → Prop) (L : List Res) (n : Fm) (env : Env) (o : Oper) (v : Value) : Prop :=
  ∀ w, St w0 F0 L w → (execOp (ev n env) o).run P w = .ok (.value v) w

section code
variable {P : Program} {w0 : World} {F0 : Nat → Prop} {L : List Res} {Q Q' : Exit → Act → World → Prop} {n : Fm} {env : Env} {ops : Array Oper} {rest : List Oper}

theorem gc_seq {x y : Code} (h : Gc P w0 F0 L x (Exit.then (cwp n P y Q) Q) n env) : Gc P w0 F0 L (.seq x y) Q n env := fun w hw => wpIn_seq (h w hw)
theorem gc_region {id : Nat} {l : List Oper} (h : Gl P w0 F0 L l.toArray Q l n env) : Gc P w0 F0 L (.region id l.toArray false) Q n env := fun w hw => wpIn_region_lit (h w hw)
theorem gc_cond {c : Operand} {x y : Code} {b : Bool} (hc : ev n env c = .bool b) (ht : b = true → Gc P w0 F0 L x Q n env) (hf : b = false → Gc P w0 F0 L y Q n env) : Gc P w0 F0 L (.cond c x y) Q n env :=
  fun w hw => wpIn_cond_split (by rw [fr_eval]; exact hc) (fun h => ht h w hw) (fun h => hf h w hw)
theorem gc_block {id : Nat} {c : Code} (h : Gc P w0 F0 L c (Exit.inBlock id Q) n env) : Gc P w0 F0 L (.block id c) Q n env := fun w hw => wpIn_block (h w hw)
theorem gc_skip (h : Gx w0 F0 L Q .normal n env) : Gc P w0 F0 L .skip Q n env := fun w hw => wpIn_skip (h w hw)
theorem gc_exit {id : Nat} (h : Gx w0 F0 L Q (.exit id) n env) : Gc P w0 F0 L (.exit id) Q n env := fun w hw => wpIn_exit (h w hw)
theorem gc_ret (h : Gx w0 F0 L Q .ret n env) : Gc P w0 F0 L .ret Q n env := fun w hw => wpIn_ret (h w hw)
theorem gl_nil (h : Gx w0 F0 L Q .normal n env) : Gl P w0 F0 L ops Q [] n env := fun w hw => h w hw
theorem gx_then {y : Code} (h : Gc P w0 F0 L y Q n env) : Gx w0 F0 L (Exit.then (cwp n P y Q) Q') .normal n env := h
theorem gx_then_exit {K : Act → World → Prop} {id : Nat} (h : Gx w0 F0 L Q (.exit id) n env) : Gx w0 F0 L (Exit.then K Q) (.exit id) n env := h
theorem gx_then_ret {K : Act → World → Prop} (h : Gx w0 F0 L Q .ret n env) : Gx w0 F0 L (Exit.then K Q) .ret n env := h
theorem gx_block_ret {id : Nat} (h : Gx w0 F0 L Q .ret n env) : Gx w0 F0 L (Exit.inBlock id Q) .ret n env := h
theorem gx_block_normal {id : Nat} (h : Gx w0 F0 L Q .normal n env) : Gx w0 F0 L (Exit.inBlock id Q) .normal n env := h
theorem gx_block_hit {id : Nat} (h : Gx w0 F0 L Q .normal n env) : Gx w0 F0 L (Exit.inBlock id Q) (.exit id) n env := fun w hw => by
  simp only [Exit.inBlock, if_true]; exact h w hw
theorem gx_block_miss {id id' : Nat} (hne : Nat.beq id' id = false) (h : Gx w0 F0 L Q (.exit id') n env) : Gx w0 F0 L (Exit.inBlock id Q) (.exit id') n env := fun w hw => by
  have : ¬ id' = id := fun e => by subst e; simp at hne
  simp only [Exit.inBlock, if_neg this]; exact h w hw

theorem g_enter {f : FuncId} {fn : Func} {c : Code} {args : Array Value} {w : World} {F : Nat → Prop} {R : Ending → World → Prop} (hf : P.funcs[f]? = some fn) (hb : fn.body = some c)
    (hs : stars L w F) {nt : Nat} (hnt : fn.ntmps = nt) (hn : Nat.ble args.size nt = true) (henv : enumE 0 args.toList = env) (h : Gc P w F L c (bodyPost P fn R) ⟨nt, [], none⟩ env) : Calls P f args w R :=
  calls_of_wp hf hb (by subst hnt; subst henv; rw [fr_init _ _ (by exact Nat.le_of_ble_eq_true hn)]; exact wpIn_wide.1 (h w (St.init hs)))

theorem gx_end {fn : Func} {R : Ending → World → Prop} {v : Value} (h : ∀ w, St w0 F0 L w → (results fn (fr n env).tmps).run P w = .ok v w)
    (hR : ∀ w, St w0 F0 L w → R (.returned v) w) (hd : n.ds = [] := by rfl) : Gx w0 F0 L (bodyPost P fn R) .ret n env := fun w hw => ⟨hd, v, h w hw, hR w hw⟩
theorem gx_end' {fn : Func} {R : Ending → World → Prop} {v : Value} (h : ∀ w, St w0 F0 L w → (results fn (fr n env).tmps).run P w = .ok v w)
    (hR : ∀ w, St w0 F0 L w → R (.returned v) w) (hd : n.ds = [] := by rfl) : Gx w0 F0 L (bodyPost P fn R) .normal n env := fun w hw => ⟨hd, v, h w hw, hR w hw⟩
theorem gx_ret0 {fn : Func} {R : Ending → World → Prop} (hr : fn.results = #[]) (hR : ∀ w, St w0 F0 L w → R (.returned (.tuple #[])) w) (hd : n.ds = [] := by rfl) : Gx w0 F0 L (bodyPost P fn R) .ret n env :=
  gx_end (fun w _ => results_none hr _ _ _) hR hd
theorem gx_ret0' {fn : Func} {R : Ending → World → Prop} (hr : fn.results = #[]) (hR : ∀ w, St w0 F0 L w → R (.returned (.tuple #[])) w) (hd : n.ds = [] := by rfl) : Gx w0 F0 L (bodyPost P fn R) .normal n env :=
  gx_end' (fun w _ => results_none hr _ _ _) hR hd
theorem fr_tmp {t : Nat} {v : Value} (hv : ev n env (.tmp t) = v) : (fr n env).tmps.getD t undef = v := by rw [← hv, ← fr_eval]; rfl
theorem fr_tmp' {t : Nat} {v : Value} (hv : ev n env (.tmp t) = v) : ((fr n env).tmps[t]?).getD undef = v := by
  have := fr_tmp hv
  rwa [Array.getD_eq_getD_getElem?] at this
theorem gx_ret1 {fn : Func} {R : Ending → World → Prop} {t : Tmp} {v : Value} (hr : fn.results = #[.tmp t]) (hv : ev n env (.tmp t) = v) (hR : ∀ w, St w0 F0 L w → R (.returned v) w) (hd : n.ds = [] := by rfl) : Gx w0 F0 L (bodyPost P fn R) .ret n env :=
  gx_end (fun w _ => by rw [results_tmp hr, fr_tmp hv]) hR hd
theorem gx_ret2 {fn : Func} {R : Ending → World → Prop} {t u : Tmp} {v x : Value} (hr : fn.results = #[.tmp t, .tmp u]) (hv : ev n env (.tmp t) = v) (hx : ev n env (.tmp u) = x)
    (hR : ∀ w, St w0 F0 L w → R (.returned (.tuple #[v, x])) w) (hd : n.ds = [] := by rfl) : Gx w0 F0 L (bodyPost P fn R) .ret n env :=
  gx_end (fun w _ => by rw [results_tmp2 hr, fr_tmp hv, fr_tmp hx]) hR hd
theorem gx_retct {fn : Func} {R : Ending → World → Prop} {t u : Tmp} {T : TypeId} {a : Addr} {v x : Value} (hr : fn.results = #[.cell t T, .tmp u]) (ht : ev n env (.tmp t) = .pointer (some a)) (hx : ev n env (.tmp u) = x)
    (hl : ∀ w, St w0 F0 L w → (loadVar T a).run P w = .ok v w) (hR : ∀ w, St w0 F0 L w → R (.returned (.tuple #[v, x])) w) (hd : n.ds = [] := by rfl) : Gx w0 F0 L (bodyPost P fn R) .ret n env :=
  gx_end (fun w hw => by simp [results, hr, fr_tmp' ht, fr_tmp' hx, asAddr, hl w hw]) hR hd
theorem gx_retcc {fn : Func} {R : Ending → World → Prop} {t u : Tmp} {T U : TypeId} {a b : Addr} {v x : Value} (hr : fn.results = #[.cell t T, .cell u U]) (ht : ev n env (.tmp t) = .pointer (some a)) (hx : ev n env (.tmp u) = .pointer (some b))
    (hl : ∀ w, St w0 F0 L w → (loadVar T a).run P w = .ok v w) (hl2 : ∀ w, St w0 F0 L w → (loadVar U b).run P w = .ok x w) (hR : ∀ w, St w0 F0 L w → R (.returned (.tuple #[v, x])) w) (hd : n.ds = [] := by rfl) : Gx w0 F0 L (bodyPost P fn R) .ret n env :=
  gx_end (fun w hw => by simp [results, hr, fr_tmp' ht, fr_tmp' hx, asAddr, hl w hw, hl2 w hw]) hR hd

/-! ### One operation -/
/-- The operation is carried out (its guard, if it has one, says so). -/
def Wt (ops : Array Oper) (n : Fm) (env : Env) (o : Oper) (b : Bool) : Prop := Region.wanted o (yielded ops (fr n env).tmps) = b
theorem wt0 {o : Oper} (h : o.guard = none) : Wt ops n env o true := by simp [Wt, Region.wanted, h]
theorem fr_get? {t : Nat} {v : Value} (ht : Nat.blt t n.nt = true) (hv : Env.get env t = v) : (fr n env).tmps[t]? = some v := by
  rw [Nat.blt_eq] at ht
  simp [fr, Array.getElem?_ofFn, ht, hv]
theorem wtg {o : Oper} {j d : Nat} {b c : Bool} (h : o.guard = some (j, b)) (hd : (ops[j]?).bind (·.dst) = some d) (ht : Nat.blt d n.nt = true) (hv : Env.get env d = .bool c) : Wt ops n env o (c == b) := by
  simp [Wt, Region.wanted, h, yielded, hd, fr_get? ht hv]

theorem gl_pure0 {o : Oper} {v : Value} (hw : Wt ops n env o true) (h : Runs P w0 F0 L n env o v) (k : Gl P w0 F0 L ops Q rest n (pu o.dst v env)) : Gl P w0 F0 L ops Q (o :: rest) n env := by
  intro w hs
  unfold wpListIn
  rw [if_pos (show Region.wanted o _ = true from hw)]
  exact Oper.wpIn_value (by rw [fr_eval]; exact h w hs) (by rw [fr_put]; exact k w hs)
theorem gl_pure {d : Tmp} {op : Op} {ty : TypeId} {pos : String} {af : Array Edge} {gd : Option (Nat × Bool)} {v : Value} (hw : Wt ops n env ⟨some d, op, ty, pos, af, gd⟩ true) (h : Runs P w0 F0 L n env ⟨some d, op, ty, pos, af, gd⟩ v)
    (k : Gl P w0 F0 L ops Q rest n ((d, v) :: env)) : Gl P w0 F0 L ops Q (⟨some d, op, ty, pos, af, gd⟩ :: rest) n env := gl_pure0 hw h k
theorem gl_passD {d : Tmp} {op : Op} {ty : TypeId} {pos : String} {af : Array Edge} {gd : Option (Nat × Bool)} (hw : Wt ops n env ⟨some d, op, ty, pos, af, gd⟩ false)
    (k : Gl P w0 F0 L ops Q rest n ((d, undef) :: env)) : Gl P w0 F0 L ops Q (⟨some d, op, ty, pos, af, gd⟩ :: rest) n env := by
  intro w hs
  unfold wpListIn
  rw [if_neg (by rw [show Region.wanted _ _ = false from hw]; simp), fr_put]
  exact ⟨fun _ _ => trivial, k w hs⟩
/-- An operation that leaves v and turns the world. -/
theorem gl_eff {o : Oper} {L' : List Res} {v : Value} (hw : Wt ops n env o true) (h : ∀ w, St w0 F0 L w → ∃ w', (execOp (ev n env) o).run P w = .ok (.value v) w' ∧ St w0 F0 L' w')
    (k : Gl P w0 F0 L' ops Q rest n (pu o.dst v env)) : Gl P w0 F0 L ops Q (o :: rest) n env := by
  intro w hs
  obtain ⟨w', hr, hs'⟩ := h w hs
  unfold wpListIn
  rw [if_pos (show Region.wanted o _ = true from hw)]
  exact Oper.wpIn_value (by rw [fr_eval]; exact hr) (by rw [fr_put]; exact k w' hs')
/-- The same, where what it leaves is known of but not named. -/
theorem gl_effx {o : Oper} {α : Type} {L' : α → List Res} {v : α → Value} (hw : Wt ops n env o true) (h : ∀ w, St w0 F0 L w → ∃ x w', (execOp (ev n env) o).run P w = .ok (.value (v x)) w' ∧ St w0 F0 (L' x) w')
    (k : ∀ x, Gl P w0 F0 (L' x) ops Q rest n (pu o.dst (v x) env)) : Gl P w0 F0 L ops Q (o :: rest) n env := by
  intro w hs
  obtain ⟨x, w', hr, hs'⟩ := h w hs
  unfold wpListIn
  rw [if_pos (show Region.wanted o _ = true from hw)]
  exact Oper.wpIn_value (by rw [fr_eval]; exact hr) (by rw [fr_put]; exact k x w' hs')
theorem gl_skip {o : Oper} {L' : List Res} (hw : Wt ops n env o true) (h : ∀ w, St w0 F0 L w → ∃ w', (execOp (ev n env) o).run P w = .ok .skip w' ∧ St w0 F0 L' w')
    (k : Gl P w0 F0 L' ops Q rest n (pu o.dst undef env)) : Gl P w0 F0 L ops Q (o :: rest) n env := by
  intro w hs
  obtain ⟨w', hr, hs'⟩ := h w hs
  unfold wpListIn
  rw [if_pos (show Region.wanted o _ = true from hw)]
  exact Oper.wpIn_skip (by rw [fr_eval]; exact hr) (by rw [fr_put]; exact k w' hs')
/-- A call: the callee owns M of L. -/
def Post {α : Type} (w : World) (F : Nat → Prop) (V : α → Value) (N : α → List Res) : Ending → World → Prop := fun e w' => ∃ x, e = .returned (V x) ∧ St w F (N x) w'
theorem gl_call0 {o : Oper} {L' M : List Res} {α : Type} {V : α → Value} {N : α → List Res} {f : FuncId} {args : Array Value} (hw : Wt ops n env o true)
    (he : ∀ w, (execOp (ev n env) o).run P w = .ok (.enter f args) w) (hsel : Sel L M L')
    (hc : ∀ w F1 F2, stars M w F1 → stars L' w F2 → (∀ k, F1 k → ¬ F2 k) → Stp w0 F0 w (fun k => F1 k ∨ F2 k) → Calls P f args w (Post w F1 V N))
    (k : ∀ x, Gl P w0 F0 (N x ++ L') ops Q rest n (pu o.dst (V x) env)) : Gl P w0 F0 L ops Q (o :: rest) n env := by
  intro w hs
  obtain ⟨F, hF, hst⟩ := hs
  obtain ⟨F1, F2, h1, h2, hE, hd⟩ := hsel.split hF
  have hst' : Stp w0 F0 w (fun k => F1 k ∨ F2 k) := by rw [← fp_eq hE]; exact hst
  unfold wpListIn
  rw [if_pos (show Region.wanted o _ = true from hw)]
  refine Oper.wpIn_enter (by rw [fr_eval]; exact he w) ((hc w F1 F2 h1 h2 hd hst').mono ?_)
  rintro e w' ⟨x, rfl, hx⟩
  exact ⟨V x, rfl, by rw [fr_put]; exact k x w' (St.call hst h2 hE hd hx)⟩

theorem gl_call {d : Tmp} {op : Op} {ty : TypeId} {pos : String} {af : Array Edge} {gd : Option (Nat × Bool)} {L' M : List Res} {α : Type} {V : α → Value} {N : α → List Res} {f : FuncId} {args : Array Value} (hw : Wt ops n env ⟨some d, op, ty, pos, af, gd⟩ true)
    (he : ∀ w, (execOp (ev n env) ⟨some d, op, ty, pos, af, gd⟩).run P w = .ok (.enter f args) w) (hsel : Sel L M L')
    (hc : ∀ w F1 F2, stars M w F1 → stars L' w F2 → (∀ k, F1 k → ¬ F2 k) → Stp w0 F0 w (fun k => F1 k ∨ F2 k) → Calls P f args w (Post w F1 V N))
    (k : ∀ x, Gl P w0 F0 (N x ++ L') ops Q rest n ((d, V x) :: env)) : Gl P w0 F0 L ops Q (⟨some d, op, ty, pos, af, gd⟩ :: rest) n env := gl_call0 hw he hsel hc k

/-! ### Facts and resources between the operations -/
theorem gl_conv {L' M N : List Res} (hs : Sel L M L') (hc : ∀ w F, stars M w F → stars N w F) (k : Gl P w0 F0 (N ++ L') ops Q rest n env) : Gl P w0 F0 L ops Q rest n env := fun w hw => k w (hw.conv hs hc)
theorem gl_pureR {p : Prop} (k : p → Gl P w0 F0 L ops Q rest n env) : Gl P w0 F0 (pureR p :: L) ops Q rest n env := fun w ⟨F, hF, hst⟩ => k (stars_pure hF).1 w ⟨F, (stars_pure hF).2, hst⟩
theorem gc_conv {c : Code} {L' M N : List Res} (hs : Sel L M L') (hc : ∀ w F, stars M w F → stars N w F) (k : Gc P w0 F0 (N ++ L') c Q n env) : Gc P w0 F0 L c Q n env := fun w hw => k w (hw.conv hs hc)
theorem gc_pureR {c : Code} {p : Prop} (k : p → Gc P w0 F0 L c Q n env) : Gc P w0 F0 (pureR p :: L) c Q n env := fun w ⟨F, hF, hst⟩ => k (stars_pure hF).1 w ⟨F, (stars_pure hF).2, hst⟩
theorem gc_fact {c : Code} {p : Prop} (h : ∀ w, St w0 F0 L w → p) (k : p → Gc P w0 F0 L c Q n env) : Gc P w0 F0 L c Q n env := fun w hw => k (h w hw) w hw
end code
end Go.Proofs.YthicckleihbomaaDoor

/- The engine, part C: the rules of the operations: numbers, copies, memory of one's own. -/
namespace Go.Proofs.YthicckleihbomaaDoor
open Go
set_option linter.unusedVariables false
set_option linter.unusedSimpArgs false

section ops
variable {P : Program} {w0 : World} {F0 : Nat → Prop} {L : List Res} {Q : Exit → Act → World → Prop} {n : Fm} {env : Env} {ops : Array Oper} {rest : List Oper}
variable {d : Option Tmp} {ty : TypeId} {pos : String} {af : Array Edge} {gd : Option (Nat × Bool)}

/-! ### Copies and numbers -/
theorem r_move {x : Operand} {v : Value} (hx : ev n env x = v) : Runs P w0 F0 L n env ⟨d, .move x, ty, pos, af, gd⟩ v := fun w _ => by simp [execOp, hx]
theorem r_assign {x : Operand} {v : Value} (hx : ev n env x = v) : Runs P w0 F0 L n env ⟨d, .assign x, ty, pos, af, gd⟩ v := fun w _ => by simp [execOp, hx]
theorem r_pick {c x y : Operand} {b : Bool} {v : Value} (hc : ev n env c = .bool b) (hv : (bif b then ev n env x else ev n env y) = v) : Runs P w0 F0 L n env ⟨d, .pick c x y, ty, pos, af, gd⟩ v := fun w _ => by
  cases b <;> simp at hv <;> simp [execOp, hc, hv, asBool]
theorem r_nilCheck {x : Operand} {a : Addr} (hx : ev n env x = .pointer (some a)) : Runs P w0 F0 L n env ⟨d, .nilCheck x, ty, pos, af, gd⟩ (.pointer (some a)) := fun w _ => by simp [execOp, hx]
theorem r_not {x : Operand} {T : TypeId} {b : Bool} (hx : ev n env x = .bool b) : Runs P w0 F0 L n env ⟨d, .unOp .not T x, ty, pos, af, gd⟩ (.bool (!b)) := fun w _ => by simp [execOp, hx, Op.unary]
theorem r_extract {x : Operand} {i : Nat} {vs : Array Value} {v : Value} (hx : ev n env x = .tuple vs) (hv : vs[i]? = some v) : Runs P w0 F0 L n env ⟨d, .extract x i, ty, pos, af, gd⟩ v := fun w _ => by
  simp [execOp, hx, Instr.extract, hv]
theorem r_bin {op : BinOp} {T T' : TypeId} {x y : Operand} {k : IntKind} {i j : Int} {v : Value} (hop : (match op with | .shl | .shr | .eql | .neq => false | _ => true) = true)
    (hx : ev n env x = .int k i) (hy : ev n env y = .int k j) (hr : ∀ w : World, (match op with
      | .add | .sub | .mul => Op.intArith op k i j
      | .quo | .rem => Op.intDiv op k i j
      | .and | .or | .xor | .andNot => Op.intBits op k i j
      | _ => Op.intCmp op i j).run P w = .ok v w) : Runs P w0 F0 L n env ⟨d, .binOp op T x y T', ty, pos, af, gd⟩ v := fun w _ => by
  have := hr w
  cases op <;> simp at hop <;> simp [execOp, hx, hy, eqGuard, binOp] at * <;> rw [this] <;> rfl
theorem r_add {T T' : TypeId} {x y : Operand} {k : IntKind} {i j : Int} (hx : ev n env x = .int k i) (hy : ev n env y = .int k j) : Runs P w0 F0 L n env ⟨d, .binOp .add T x y T', ty, pos, af, gd⟩ (.int k (k.wrap (i + j))) := r_bin rfl hx hy fun _ => rfl
theorem r_sub {T T' : TypeId} {x y : Operand} {k : IntKind} {i j : Int} (hx : ev n env x = .int k i) (hy : ev n env y = .int k j) : Runs P w0 F0 L n env ⟨d, .binOp .sub T x y T', ty, pos, af, gd⟩ (.int k (k.wrap (i - j))) := r_bin rfl hx hy fun _ => rfl
theorem r_mul {T T' : TypeId} {x y : Operand} {k : IntKind} {i j : Int} (hx : ev n env x = .int k i) (hy : ev n env y = .int k j) : Runs P w0 F0 L n env ⟨d, .binOp .mul T x y T', ty, pos, af, gd⟩ (.int k (k.wrap (i * j))) := r_bin rfl hx hy fun _ => rfl
theorem r_arith {op : BinOp} {T T' : TypeId} {x y : Operand} {k : IntKind} {i j m : Int} (hx : ev n env x = .int k i) (hy : ev n env y = .int k j)
    (h : (match op with | .add => k.wrap (i + j) = m | .sub => k.wrap (i - j) = m | .mul => k.wrap (i * j) = m | _ => False)) : Runs P w0 F0 L n env ⟨d, .binOp op T x y T', ty, pos, af, gd⟩ (.int k m) := by
  cases op <;> simp at h <;> subst h
  · exact r_add hx hy
  · exact r_sub hx hy
  · exact r_mul hx hy
theorem r_rem {T T' : TypeId} {x y : Operand} {k : IntKind} {i j : Int} (hx : ev n env x = .int k i) (hy : ev n env y = .int k j) (hj : j ≠ 0) : Runs P w0 F0 L n env ⟨d, .binOp .rem T x y T', ty, pos, af, gd⟩ (.int k (i.tmod j)) :=
  r_bin rfl hx hy fun _ => by simp [Op.intDiv, hj]
def bitop (op : BinOp) (k : IntKind) (i j : Int) : Int := match op with
  | .and => k.wrap (BitVec.ofInt k.bits i &&& BitVec.ofInt k.bits j).toNat
  | .or => k.wrap (BitVec.ofInt k.bits i ||| BitVec.ofInt k.bits j).toNat
  | .xor => k.wrap (BitVec.ofInt k.bits i ^^^ BitVec.ofInt k.bits j).toNat
  | _ => k.wrap (BitVec.ofInt k.bits i &&& ~~~ BitVec.ofInt k.bits j).toNat
theorem r_bits {op : BinOp} {T T' : TypeId} {x y : Operand} {k : IntKind} {i j : Int} (hop : (match op with | .and | .or | .xor | .andNot => true | _ => false) = true)
    (hx : ev n env x = .int k i) (hy : ev n env y = .int k j) : Runs P w0 F0 L n env ⟨d, .binOp op T x y T', ty, pos, af, gd⟩ (.int k (bitop op k i j)) := by
  cases op <;> simp at hop <;> exact r_bin rfl hx hy fun _ => rfl
theorem r_lss {T T' : TypeId} {x y : Operand} {k : IntKind} {i j : Int} (hx : ev n env x = .int k i) (hy : ev n env y = .int k j) : Runs P w0 F0 L n env ⟨d, .binOp .lss T x y T', ty, pos, af, gd⟩ (.bool (decide (i < j))) := r_bin rfl hx hy fun _ => rfl
theorem r_leq {T T' : TypeId} {x y : Operand} {k : IntKind} {i j : Int} (hx : ev n env x = .int k i) (hy : ev n env y = .int k j) : Runs P w0 F0 L n env ⟨d, .binOp .leq T x y T', ty, pos, af, gd⟩ (.bool (decide (i ≤ j))) := r_bin rfl hx hy fun _ => rfl
theorem r_gtr {T T' : TypeId} {x y : Operand} {k : IntKind} {i j : Int} (hx : ev n env x = .int k i) (hy : ev n env y = .int k j) : Runs P w0 F0 L n env ⟨d, .binOp .gtr T x y T', ty, pos, af, gd⟩ (.bool (decide (j < i))) := r_bin rfl hx hy fun _ => rfl
theorem r_geq {T T' : TypeId} {x y : Operand} {k : IntKind} {i j : Int} (hx : ev n env x = .int k i) (hy : ev n env y = .int k j) : Runs P w0 F0 L n env ⟨d, .binOp .geq T x y T', ty, pos, af, gd⟩ (.bool (decide (j ≤ i))) := r_bin rfl hx hy fun _ => rfl
theorem r_eql_int {T T' : TypeId} {x y : Operand} {k : IntKind} {i j : Int} (hx : ev n env x = .int k i) (hy : ev n env y = .int k j) : Runs P w0 F0 L n env ⟨d, .binOp .eql T x y T', ty, pos, af, gd⟩ (.bool (decide (i = j))) := fun w _ => by
  simp [execOp, hx, hy, eqGuard, binOp, Op.intCmp]; rfl
theorem r_neq_int {T T' : TypeId} {x y : Operand} {k : IntKind} {i j : Int} (hx : ev n env x = .int k i) (hy : ev n env y = .int k j) : Runs P w0 F0 L n env ⟨d, .binOp .neq T x y T', ty, pos, af, gd⟩ (.bool (!decide (i = j))) := fun w _ => by
  simp [execOp, hx, hy, eqGuard, binOp, Op.intCmp, bne]; rfl
theorem r_shr {T T' : TypeId} {x y : Operand} {k k' : IntKind} {i j : Int} (hx : ev n env x = .int k i) (hy : ev n env y = .int k' j) (hj : 0 ≤ j) :
    Runs P w0 F0 L n env ⟨d, .binOp .shr T x y T', ty, pos, af, gd⟩ (.int k (i.fdiv (2 ^ (min j.toNat k.bits)))) := fun w _ => by
  simp [execOp, hx, hy, eqGuard, binOp, Op.shift, Int.not_lt.2 hj]
theorem r_conv_int {S T : TypeId} {x : Operand} {k k' : IntKind} {i : Int} {ds : TypeDesc} (hx : ev n env x = .int k i) (hs : P.underlying S = some ds) (ht : P.underlying T = some (.int k')) :
    Runs P w0 F0 L n env ⟨d, .convert S T x, ty, pos, af, gd⟩ (.int k' (k'.wrap i)) := fun w _ => by
  simp only [execOp, hx, convert, Sem.run_bind, run_underlying hs, run_underlying ht, Result.andThen_ok]
  cases ds <;> simp [Conv.intToInt]
theorem r_len_slice {x : Operand} {T e : TypeId} {a : Option Addr} {m c : Nat} (hx : ev n env x = .slice a m c) (ht : sliceT P T = some e) :
    Runs P w0 F0 L n env ⟨d, .call ⟨.builtin .len, #[x], #[T]⟩, ty, pos, af, gd⟩ (.int .i64 m) := fun w _ => by
  simp [execOp, resolve, invoke, builtin, Builtin.len_, hx, run_underlying (run_sliceT ht), goInt]
theorem r_len_string {x : Operand} {T : TypeId} {s : ByteArray} (hx : ev n env x = .string s) (ht : P.underlying T = some .string) :
    Runs P w0 F0 L n env ⟨d, .call ⟨.builtin .len, #[x], #[T]⟩, ty, pos, af, gd⟩ (.int .i64 s.size) := fun w _ => by
  simp [execOp, resolve, invoke, builtin, Builtin.len_, hx, run_underlying ht, goInt]

/-! ### Places -/
theorem r_fieldAddr {x : Operand} {s f : Nat} {g o k : Nat} (hx : ev n env x = .pointer (some ⟨g, o, none⟩)) (hf : foff P s f = some k) :
    Runs P w0 F0 L n env ⟨d, .fieldAddr s x f, ty, pos, af, gd⟩ (.pointer (some ⟨g, o + k, none⟩)) := fun w _ => by
  unfold foff at hf
  cases hu : P.underlying s with
  | none => simp [hu] at hf
  | some dsc =>
    cases dsc <;> simp [hu] at hf
    rename_i fs
    cases hfl : fs[f]? with
    | none => simp [hfl] at hf
    | some x' =>
      simp only [hfl, Option.bind_some] at hf
      cases hi : P.info? x'.type with
      | none => simp [hi] at hf
      | some i =>
        simp [hi] at hf
        obtain ⟨h0, hk⟩ := hf
        have hz : (sizeOf x'.type).run P w = .ok i.size w := run_sz (by simp [szT, hi])
        simp only [execOp, hx, Instr.fieldAt, Sem.run_bind, run_underlying hu, Result.andThen_ok, hfl, Instr.sureAddr, Sem.run_pure, fieldPlace, hz, h0, if_false, hk]
        simp [Addr.add_mid]
theorem r_indexAddr_slice {x y : Operand} {T e : TypeId} {g o m c s : Nat} {k : IntKind} {i : Int} (hx : ev n env x = .slice (some ⟨g, o, none⟩) m c) (hy : ev n env y = .int k i) (ht : sliceT P T = some e) (hs : szT P e = some s)
    (h0 : 0 ≤ i) (hm : i < m) : Runs P w0 F0 L n env ⟨d, .indexAddr T x y, ty, pos, af, gd⟩ (.pointer (some ⟨g, o + i.toNat * s, none⟩)) := fun w _ => by
  simp only [execOp, hx, hy, Instr.indexAt, asIntOf, Sem.run_bind, Sem.run_pure, Result.andThen_ok, run_underlying (run_sliceT ht)]
  simp [h0, hm, run_sz hs, Addr.add_mid]
/-- xs[lo:hi] of a slice. -/
theorem r_slice_slice {x : Operand} {T e : TypeId} {lo hi : Option Operand} {a : Option Addr} {m c s l h : Nat} (hx : ev n env x = .slice a m c) (ht : sliceT P T = some e) (hs : szT P e = some s)
    (hlo : (match lo with | none => l = 0 | some y => ∃ k, ev n env y = .int k l)) (hhi : (match hi with | none => h = m | some y => ∃ k, ev n env y = .int k h)) (h1 : l ≤ h) (h2 : h ≤ c) :
    Runs P w0 F0 L n env ⟨d, .slice T x lo hi none, ty, pos, af, gd⟩ (.slice (if c = l then a else a.map (·.add (l * s))) (h - l) (c - l)) := fun w _ => by
  have e1 : (Instr.sliceBounds true m c (lo.map (ev n env)) (hi.map (ev n env)) none).run P w = .ok (l, h, c) w := by
    unfold Instr.sliceBounds
    cases hi with
    | none =>
      simp only at hhi; subst hhi
      cases lo with
      | none => simp only at hlo; subst hlo; simp
      | some y =>
        obtain ⟨k, hk⟩ := hlo
        have : (0:Int) ≤ l ∧ (l:Int) ≤ h := ⟨by omega, by omega⟩
        simp [hk, Instr.sliceBound, asIntOf, h1, Nat.not_lt.2 h1]
    | some z =>
      obtain ⟨k', hk'⟩ := hhi
      have hc : (0:Int) ≤ h ∧ (h:Int) ≤ c := ⟨by omega, by omega⟩
      cases lo with
      | none => simp only at hlo; subst hlo; simp [hk', Instr.sliceBound, asIntOf, h2, Nat.not_lt.2 h2]
      | some y =>
        obtain ⟨k, hk⟩ := hlo
        have : (0:Int) ≤ l ∧ (l:Int) ≤ h := ⟨by omega, by omega⟩
        simp [hk, hk', Instr.sliceBound, asIntOf, h1, h2, Nat.not_lt.2 h1, Nat.not_lt.2 h2]
  simp [execOp, hx, Instr.sliceAt, run_underlying (run_sliceT ht), Instr.slice, e1, run_sz hs]
/-! ### Loads -/
theorem r_load {x : Operand} {T : TypeId} {a : Addr} {v : Value} (hx : ev n env x = .pointer (some a)) (h : ∀ w, St w0 F0 L w → (loadVar T a).run P w = .ok v w) :
    Runs P w0 F0 L n env ⟨d, .load T x, ty, pos, af, gd⟩ v := fun w hs => by
  simp [execOp, hx, Instr.loadAt, Instr.sureAddr, h w hs]

theorem cell_blk {w : World} {F : Nat → Prop} {g T : Nat} {cs : List Value} (h : (blk g T cs).on w F) (i : Nat) : w.cell? ⟨g, i, none⟩ = cs[i]? := by
  obtain ⟨_, fz, hg, _⟩ := h
  simp [World.cell?, hg]
theorem St.cellOf {w : World} {g T : Nat} {cs : List Value} {L' : List Res} (hs : St w0 F0 L w) (hp : Pick L (blk g T cs) L') (i : Nat) : w.cell? ⟨g, i, none⟩ = cs[i]? := by
  obtain ⟨F, hF, _⟩ := hs
  obtain ⟨F1, h1, _⟩ := stars_pick hp hF
  exact cell_blk h1 i
theorem run_loadVar_one {w : World} {T : TypeId} {a : Addr} {v : Value} (hr : rowT P T = some false) (hc : w.cell? a = some v) : (loadVar T a).run P w = .ok v w := by
  simp [loadVar, run_rowT hr, run_load, hc]
theorem run_loadVar_agg {w : World} {T : TypeId} {g o m : Nat} {seg : List Value} (hr : rowT P T = some true) (hs : szT P T = some m) (hl : seg.length = m) (hc : w.rangeAt g o seg) :
    (loadVar T ⟨g, o, none⟩).run P w = .ok (.agg seg.toArray) w := by
  have hl' : (loadCells ⟨g, o, none⟩ m).run P w = .ok seg.toArray w := by
    rw [← hl]; exact run_loadCells_list (P := P) w ⟨g, o, none⟩ seg (fun j v hv => by rw [Addr.add_mid]; exact hc j v hv)
  simp [loadVar, run_rowT hr, run_sz hs, hl']
theorem r_ld1 {x : Operand} {T g o T' : Nat} {cs : List Value} {L' : List Res} {v : Value} (hx : ev n env x = .pointer (some ⟨g, o, none⟩)) (hr : rowT P T = some false) (hp : Pick L (blk g T' cs) L') (hv : cs[o]? = some v) :
    Runs P w0 F0 L n env ⟨d, .load T x, ty, pos, af, gd⟩ v := r_load hx fun w hs => run_loadVar_one hr ((hs.cellOf hp o).trans hv)
theorem r_ldN {x : Operand} {T g o T' m : Nat} {cs seg : List Value} {L' : List Res} (hx : ev n env x = .pointer (some ⟨g, o, none⟩)) (hr : rowT P T = some true) (hs : szT P T = some m) (hp : Pick L (blk g T' cs) L')
    (hg : (cs.drop o).take m = seg) (hl : seg.length = m) : Runs P w0 F0 L n env ⟨d, .load T x, ty, pos, af, gd⟩ (.agg seg.toArray) :=
  r_load hx fun w hst => run_loadVar_agg hr hs hl fun j v hj => by
    rw [hst.cellOf hp, ← hj, ← hg, List.getElem?_take, List.getElem?_drop]
    rw [if_pos]
    rw [← hl]
    exact (List.getElem?_eq_some_iff.1 hj).1
/-- Of memory that was there at the start and isn't owned. -/
theorem r_ld1o {x : Operand} {T : Nat} {a : Addr} {v : Value} (hx : ev n env x = .pointer (some a)) (hr : rowT P T = some false) (hc : w0.cell? a = some v) (hn : ¬ F0 a.block) :
    Runs P w0 F0 L n env ⟨d, .load T x, ty, pos, af, gd⟩ v := r_load hx fun w ⟨F, hF, hst⟩ => run_loadVar_one hr (by
      rw [World.cell?_of_block (hst.old (World.block_lt_of_cell? w0 a hc) hn).1]; exact hc)

/-! ### New blocks, stores -/
theorem St.new {w : World} {T : TypeId} {cs : List Value} (hs : St w0 F0 L w) : St w0 F0 (blk w.heap.size T cs :: L) { w with heap := w.heap.push (.cells cs.toArray T) } := by
  obtain ⟨F, hF, hst⟩ := hs
  refine ⟨fun k => k = w.heap.size ∨ F k, ⟨fun k => k = w.heap.size, F, ⟨fun k => Iff.rfl, (0, 0), by simp, fun i _ h => by simp at h⟩, ?_, fun k => Iff.rfl, ?_⟩, ?_⟩
  · exact stars_loc hF fun k hk => by
      have := stars_lt hF k hk
      simp [Array.getElem?_push, Nat.ne_of_lt this]
  · rintro k rfl hk
    exact absurd (stars_lt hF _ hk) (Nat.lt_irrefl _)
  · have hsz := hst.size
    refine ⟨hst.os, hst.tape, hst.output, by simp; omega, fun k hk hn => ?_, ?_⟩
    · rw [← hst.block k hk hn]
      show (w.heap.push _)[k]? = _
      rw [Array.getElem?_push, if_neg (by omega)]
    · rintro k (rfl | hk)
      · exact .inr hsz
      · exact hst.own k hk
theorem gl_alloc0 {t : Option Tmp} {T : TypeId} {cs : List Value} (hw : Wt ops n env ⟨t, .alloc T, ty, pos, af, gd⟩ true) (hz : zcT P T = some cs)
    (k : ∀ b, Gl P w0 F0 (blk b T cs :: L) ops Q rest n (pu t (.pointer (some ⟨b, 0, none⟩)) env)) : Gl P w0 F0 L ops Q (⟨t, .alloc T, ty, pos, af, gd⟩ :: rest) n env :=
  gl_effx hw (fun w hs => ⟨w.heap.size, { w with heap := w.heap.push (.cells cs.toArray T) }, by
    obtain ⟨z, hz', hc⟩ := zcT_some hz
    subst hc
    simp [execOp, Instr.alloc, run_zeroT hz', newVar, newRow, newObj, Sem.run], hs.new⟩) k
theorem gl_box0 {t : Option Tmp} {T : TypeId} {x : Operand} {v : Value} {cs : List Value} (hw : Wt ops n env ⟨t, .box T x, ty, pos, af, gd⟩ true) (hx : ev n env x = v) (hc : v.cells.toList = cs)
    (k : ∀ b, Gl P w0 F0 (blk b T cs :: L) ops Q rest n (pu t (.pointer (some ⟨b, 0, none⟩)) env)) : Gl P w0 F0 L ops Q (⟨t, .box T x, ty, pos, af, gd⟩ :: rest) n env :=
  gl_effx hw (fun w hs => ⟨w.heap.size, { w with heap := w.heap.push (.cells cs.toArray T) }, by
    subst hc
    simp [execOp, hx, Instr.box, newVar, newRow, newObj, Sem.run], hs.new⟩) k

theorem gl_alloc {t : Tmp} {T : TypeId} {cs : List Value} (hw : Wt ops n env ⟨some t, .alloc T, ty, pos, af, gd⟩ true) (hz : zcT P T = some cs)
    (k : ∀ b, Gl P w0 F0 (blk b T cs :: L) ops Q rest n ((t, .pointer (some ⟨b, 0, none⟩)) :: env)) : Gl P w0 F0 L ops Q (⟨some t, .alloc T, ty, pos, af, gd⟩ :: rest) n env := gl_alloc0 hw hz k
/-- cs with new in the place of as many cells from o on. -/
def updL (cs : List Value) (o : Nat) (new : List Value) : List Value := cs.take o ++ (new ++ cs.drop (o + new.length))
theorem updL_length {cs new : List Value} {o : Nat} (h : o + new.length ≤ cs.length) : (updL cs o new).length = cs.length := by
  simp [updL]; omega
theorem updL_cons {cs : List Value} {o : Nat} {v : Value} {r : List Value} (h : o < cs.length) : updL cs o (v :: r) = updL (cs.set o v) (o + 1) r := by
  simp only [updL, List.length_cons]
  rw [List.take_succ_eq_append_getElem (by simpa using h), List.append_assoc]
  congr 1
  · simp [List.take_set_of_le]
  · simp only [List.getElem_set_self, List.singleton_append, List.cons_append, List.cons.injEq, true_and]
    rw [show o + 1 + r.length = o + (r.length + 1) by omega, List.drop_set_of_lt (by omega)]
    rfl
theorem run_storeCells_blk {T : TypeId} {fz : Nat × Nat} (g o : Nat) : ∀ (vs : List Value) (i : Nat) (cs : List Value) (w : World), w.heap[g]? = some (.cells cs.toArray T fz) → okFz cs.length fz → o + i + vs.length ≤ cs.length → (∀ v ∈ vs, v.oneCell' = true) →
    (storeCells ⟨g, o, none⟩ vs i).run P w = .ok () { w with heap := w.heap.setIfInBounds g (.cells (updL cs (o + i) vs).toArray T fz) }
  | [], i, cs, w, hg, _, _, _ => by
    simp only [storeCells, Sem.run_pure]
    congr 1
    cases w
    simp only [World.mk.injEq, true_and, and_true]
    apply Array.ext_getElem?
    intro j
    simp only [updL, List.nil_append, List.length_nil, Nat.add_zero, List.take_append_drop]
    rw [Array.getElem?_setIfInBounds]
    split
    · rename_i h; subst h
      simp only at hg
      rw [hg]
      rw [if_pos (Array.getElem?_eq_some_iff.1 hg).1]
    · rfl
  | v :: r, i, cs, w, hg, hz, hl, h1 => by
    simp only [List.length_cons] at hl
    have hlt : g < w.heap.size := (Array.getElem?_eq_some_iff.1 hg).1
    have hc : w.cell? ⟨g, o + i, none⟩ = some cs[o + i] := by
      simp [World.cell?, hg]
    have hf : w.frozen? ⟨g, o + i, none⟩ = false := by
      have := hz (o + i) (by omega)
      simp only [World.frozen?, hg]
      simp only [not_and, Nat.not_lt] at this
      simp only [Bool.and_eq_false_iff, decide_eq_false_iff_not, Nat.not_le, Nat.not_lt]
      by_cases h : fz.1 ≤ o + i
      · exact .inr (this h)
      · exact .inl (by omega)
    have hset : w.setCell ⟨g, o + i, none⟩ v = { w with heap := w.heap.setIfInBounds g (.cells (cs.set (o + i) v).toArray T fz) } := by
      simp only [World.setCell]
      congr 1
      apply Array.ext_getElem?
      intro j
      rw [Array.getElem?_modify, Array.getElem?_setIfInBounds]
      by_cases h : g = j
      · subst h
        rw [if_pos rfl, if_pos rfl, if_pos hlt, hg]
        simp
      · rw [if_neg h, if_neg h]
    have ih := run_storeCells_blk (T := T) (fz := fz) g o r (i + 1) (cs.set (o + i) v) { w with heap := w.heap.setIfInBounds g (.cells (cs.set (o + i) v).toArray T fz) } (by simp [hlt]) (by simpa using hz) (by simp; omega) (fun u hu => h1 u (by simp [hu]))
    have hs : (store ((⟨g, o, none⟩ : Addr).add i) v).run P w = .ok () (w.setCell ⟨g, o + i, none⟩ v) := by
      rw [Addr.add_mid]
      simp only [run_store P w _ v _ (h1 v (by simp)), stored, hc, hf]
      rfl
    simp only [storeCells, Sem.run_bind]
    rw [hs, Result.andThen_ok, hset, ih, updL_cons (by omega)]
    simp [Nat.add_assoc]
theorem St.store {w : World} {g T o : Nat} {cs new : List Value} {L' : List Res} (hs : St w0 F0 L w) (hp : Pick L (blk g T cs) L') (hl : o + new.length ≤ cs.length) (h1 : ∀ v ∈ new, v.oneCell' = true) :
    ∃ w', (storeCells ⟨g, o, none⟩ new).run P w = .ok () w' ∧ St w0 F0 (blk g T (updL cs o new) :: L') w' := by
  obtain ⟨F, hF, hst⟩ := hs
  obtain ⟨F1, F2, ⟨hF1, fz, hg, hz⟩, h2, hE, hd⟩ := hp.stars hF
  refine ⟨_, run_storeCells_blk (P := P) g o new 0 cs w hg hz (by omega) h1, F, ⟨F1, F2, ⟨hF1, fz, ?_, ?_⟩, ?_, hE, hd⟩, ?_⟩
  · have hlt : g < w.heap.size := (Array.getElem?_eq_some_iff.1 hg).1
    simp [hlt]
  · simpa only [Nat.add_zero, updL_length hl] using hz
  · refine stars_loc h2 fun k hk => ?_
    have : ¬ g = k := fun e => hd k ((hF1 k).2 e.symm) hk
    simp [Array.getElem?_setIfInBounds, this]
  · refine ⟨hst.os, hst.tape, hst.output, by simpa using hst.size, fun k hk hn => ?_, hst.own⟩
    rw [← hst.block k hk hn]
    have : ¬ g = k := fun e => (hst.old hk hn).2 ((hE k).2 (.inl ((hF1 k).2 e.symm)))
    simp [Array.getElem?_setIfInBounds, this]
theorem gl_store0 {t : Option Tmp} {T : TypeId} {x y : Operand} {g o T' m : Nat} {cs new cs' : List Value} {L' : List Res} {v : Value} (hw : Wt ops n env ⟨t, .store T x y, ty, pos, af, gd⟩ true)
    (hx : ev n env x = .pointer (some ⟨g, o, none⟩)) (hy : ev n env y = v) (hc : v.cells.toList = new) (hs : szT P T = some m) (hm : new.length = m) (hp : Pick L (blk g T' cs) L') (hl : o + m ≤ cs.length) (h1 : ∀ u ∈ new, u.oneCell' = true)
    (hu : updL cs o new = cs') (k : Gl P w0 F0 (blk g T' cs' :: L') ops Q rest n (pu t undef env)) : Gl P w0 F0 L ops Q (⟨t, .store T x y, ty, pos, af, gd⟩ :: rest) n env :=
  gl_skip hw (fun w hst => by
    obtain ⟨w', hr, hs'⟩ := hst.store (P := P) (o := o) (new := new) hp (by omega) h1
    refine ⟨w', ?_, by rw [← hu]; exact hs'⟩
    have hv : v.cells.size = m := by rw [← hm, ← hc]; simp
    simp [execOp, hx, hy, Instr.storeAt, Instr.sureAddr, storeVar, hv, run_sz hs, hc, hr]) k

theorem gl_storeN {T : TypeId} {x y : Operand} {g o T' m : Nat} {cs new cs' : List Value} {L' : List Res} (hw : Wt ops n env ⟨none, .store T x y, ty, pos, af, gd⟩ true)
    (hx : ev n env x = .pointer (some ⟨g, o, none⟩)) (hy : ev n env y = .agg new.toArray) (hs : szT P T = some m) (hm : new.length = m) (hp : Pick L (blk g T' cs) L') (hl : o + m ≤ cs.length) (h1 : ∀ u ∈ new, u.oneCell' = true)
    (hu : updL cs o new = cs') (k : Gl P w0 F0 (blk g T' cs' :: L') ops Q rest n env) : Gl P w0 F0 L ops Q (⟨none, .store T x y, ty, pos, af, gd⟩ :: rest) n env := gl_store0 hw hx hy (by simp [Value.cells]) hs hm hp hl h1 hu k
theorem gl_store1 {T : TypeId} {x y : Operand} {g o T' : Nat} {cs cs' : List Value} {L' : List Res} {v : Value} (hw : Wt ops n env ⟨none, .store T x y, ty, pos, af, gd⟩ true)
    (hx : ev n env x = .pointer (some ⟨g, o, none⟩)) (hy : ev n env y = v) (h1 : v.oneCell' = true) (hs : szT P T = some 1) (hp : Pick L (blk g T' cs) L') (hl : o + 1 ≤ cs.length)
    (hu : updL cs o [v] = cs') (k : Gl P w0 F0 (blk g T' cs' :: L') ops Q rest n env) : Gl P w0 F0 L ops Q (⟨none, .store T x y, ty, pos, af, gd⟩ :: rest) n env :=
  gl_store0 hw hx hy (by cases v <;> first | rfl | (simp [Value.oneCell'] at h1)) hs rfl hp hl (by simpa using h1) hu k
theorem gl_boxN {t : Tmp} {T : TypeId} {x : Operand} {cs : List Value} (hw : Wt ops n env ⟨some t, .box T x, ty, pos, af, gd⟩ true) (hx : ev n env x = .agg cs.toArray)
    (k : ∀ b, Gl P w0 F0 (blk b T cs :: L) ops Q rest n ((t, .pointer (some ⟨b, 0, none⟩)) :: env)) : Gl P w0 F0 L ops Q (⟨some t, .box T x, ty, pos, af, gd⟩ :: rest) n env := gl_box0 hw hx (by simp [Value.cells]) k
theorem gl_box1 {t : Tmp} {T : TypeId} {x : Operand} {v : Value} (hw : Wt ops n env ⟨some t, .box T x, ty, pos, af, gd⟩ true) (hx : ev n env x = v) (h1 : v.oneCell' = true)
    (k : ∀ b, Gl P w0 F0 (blk b T [v] :: L) ops Q rest n ((t, .pointer (some ⟨b, 0, none⟩)) :: env)) : Gl P w0 F0 L ops Q (⟨some t, .box T x, ty, pos, af, gd⟩ :: rest) n env :=
  gl_box0 hw hx (by cases v <;> first | rfl | (simp [Value.oneCell'] at h1)) k

/-! ### Calls of a Go function -/
theorem e_call {f : FuncId} {xs : List Operand} {ts : Array TypeId} {vs : List Value} (hf : okCall P f = true) (hv : xs.map (ev n env) = vs) (w : World) :
    (execOp (ev n env) ⟨d, .call ⟨.value (.func f), xs.toArray, ts⟩, ty, pos, af, gd⟩).run P w = .ok (.enter f vs.toArray) w := by
  unfold okCall at hf
  cases hp : P.funcs[f]? with
  | none => simp [hp] at hf
  | some fn =>
    cases hb : fn.body with
    | none => simp [hp, hb] at hf
    | some c =>
      have hn : ¬ fn.name = "runtime.NumGoroutine" := by simpa [hp, hb] using hf
      simp [execOp, resolve, ev, Deferred.ofValue, invoke, callFunc, program, Sem.run, hp, hb, hn, hv]
end ops
end Go.Proofs.YthicckleihbomaaDoor

/- The engine, part D: slices: what is read, what is owned; append, literals, bytes and strings. -/
namespace Go.Proofs.YthicckleihbomaaDoor
open Go
set_option linter.unusedVariables false
set_option linter.unusedSimpArgs false

abbrev B8 (u : UInt8) : Value := .int .u8 (u.toNat : Int)
theorem one_B8 (l : List UInt8) : ∀ v ∈ l.map B8, v.oneCell' = true := fun v hv => by
  obtain ⟨u, _, rfl⟩ := List.mem_map.1 hv; rfl

/-! ### What a slice reads as -/
/-- The n elements (size cells each) of a slice that begins at a are the cells xs; they lie in a block of A. -/
def RdRow (w : World) (A : Nat → Prop) (size : Nat) (a : Option Addr) (n : Nat) (xs : List Value) : Prop :=
  xs.length = n * size ∧ n ≤ maxLen ∧ (0 < n → ∃ g o, a = some ⟨g, o, none⟩ ∧ A g ∧ g < w.heap.size ∧ w.rangeAt g o xs)

theorem RdRow.mv {w w' : World} {A A' : Nat → Prop} {size n : Nat} {a : Option Addr} {xs : List Value} (h : RdRow w A size a n xs)
    (hk : ∀ k, k < w.heap.size → A k → w'.heap[k]? = w.heap[k]? ∧ A' k) : RdRow w' A' size a n xs := by
  refine ⟨h.1, h.2.1, fun hn => ?_⟩
  obtain ⟨g, o, ha, hA, hl, hr⟩ := h.2.2 hn
  obtain ⟨e, hA'⟩ := hk g hl hA
  refine ⟨g, o, ha, hA', ?_, fun j v hj => ?_⟩
  · rw [Array.getElem?_eq_getElem hl] at e
    exact (Array.getElem?_eq_some_iff.1 e).1
  · rw [World.cell?_of_block (w := w) (a := ⟨g, o + j, none⟩) e]; exact hr j v hj
theorem RdRow.nil {w : World} {A : Nat → Prop} {size : Nat} {a : Option Addr} : RdRow w A size a 0 [] := ⟨by simp, by simp [maxLen], fun h => absurd h (by omega)⟩
theorem RdRow.first {P : Program} {w : World} {A : Nat → Prop} {size n c : Nat} {a : Option Addr} {xs : List Value} (h : RdRow w A size a n xs) :
    (Builtin.firstCells size n (.slice a n c)).run P w = .ok xs.toArray w := by
  cases a with
  | none =>
    have hn : n = 0 := by
      rcases Nat.eq_zero_or_pos n with h0 | h0
      · exact h0
      · obtain ⟨_, _, ha, _⟩ := h.2.2 h0; cases ha
    subst hn
    have : xs = [] := List.eq_nil_of_length_eq_zero (by simpa using h.1)
    subst this
    simp [Builtin.firstCells]
  | some ad =>
    refine run_firstCells_some w size n ad n c xs h.1 fun j v hj => ?_
    rcases Nat.eq_zero_or_pos n with h0 | h0
    · subst h0
      have : xs = [] := List.eq_nil_of_length_eq_zero (by simpa using h.1)
      subst this; simp at hj
    · obtain ⟨g, o, ha, _, _, hr⟩ := h.2.2 h0
      injection ha with ha; subst ha
      rw [Addr.add_mid]; exact hr j v hj
/-- The cells of one element. -/
theorem RdRow.elem {w : World} {A : Nat → Prop} {size n : Nat} {a : Option Addr} {xs : List Value} (h : RdRow w A size a n xs) {i : Nat} (hi : i < n) :
    ∃ g o, a = some ⟨g, o, none⟩ ∧ A g ∧ g < w.heap.size ∧ w.rangeAt g (o + i * size) ((xs.drop (i * size)).take size) := by
  obtain ⟨g, o, ha, hA, hl, hr⟩ := h.2.2 (by omega)
  refine ⟨g, o, ha, hA, hl, fun j v hj => ?_⟩
  rw [List.getElem?_take] at hj
  split at hj
  · rw [List.getElem?_drop] at hj
    rw [Nat.add_assoc]; exact hr _ v hj
  · cases hj
/-! ### What is owned -/
def rowR (e size : Nat) (a : Option Addr) (n c : Nat) (xs : List Value) : Res where
  on w F := xs.length = n * size ∧ n ≤ c ∧ c ≤ maxLen ∧ ((a = none ∧ c = 0 ∧ ∀ k, ¬ F k) ∨
    ∃ g o cs fz, a = some ⟨g, o, none⟩ ∧ (∀ k, F k ↔ k = g) ∧ w.heap[g]? = some (.cells cs e fz) ∧ okFz cs.size fz ∧ o + c * size ≤ cs.size ∧ (cs.toList.drop o).take (n * size) = xs)
  loc := fun ⟨h1, h2, h3, h⟩ hk => ⟨h1, h2, h3, h.imp id fun ⟨g, o, cs, fz, ha, hF, hg, r⟩ => ⟨g, o, cs, fz, ha, hF, (hk g ((hF g).2 rfl)).trans hg, r⟩⟩
  ok := fun ⟨_, _, _, h⟩ k hk => by
    rcases h with ⟨_, _, h⟩ | ⟨g, o, cs, fz, _, hF, hg, hz, _⟩
    · exact absurd hk (h k)
    · rw [(hF k).1 hk]; exact ⟨_, hg, hz⟩

theorem rowR.rd {e size n c : Nat} {a : Option Addr} {xs : List Value} {w : World} {F : Nat → Prop} (h : (rowR e size a n c xs).on w F) : RdRow w F size a n xs := by
  obtain ⟨h1, h2, h3, h⟩ := h
  refine ⟨h1, Nat.le_trans h2 h3, fun hn => ?_⟩
  rcases h with ⟨_, h, _⟩ | ⟨g, o, cs, fz, ha, hF, hg, _, hl, hx⟩
  · omega
  · refine ⟨g, o, ha, (hF g).2 rfl, (Array.getElem?_eq_some_iff.1 hg).1, fun j v hj => ?_⟩
    rw [← hx, List.getElem?_take] at hj
    split at hj
    · simp [World.cell?, hg]
      rw [List.getElem?_drop] at hj
      simpa using hj
    · cases hj
theorem rowR.nil {e size : Nat} {w : World} : (rowR e size none 0 0 []).on w (fun _ => False) := ⟨by simp, Nat.le_refl _, by simp [maxLen], .inl ⟨rfl, rfl, fun _ h => h⟩⟩
theorem stars_row_nil {e size : Nat} {L : List Res} {w : World} {F : Nat → Prop} (h : stars L w F) : stars (rowR e size none 0 0 [] :: L) w F :=
  ⟨_, F, rowR.nil, h, fun k => by simp, fun _ h => h.elim⟩
section rows
variable {P : Program} {w0 : World} {F0 : Nat → Prop} {L : List Res} {Q : Exit → Act → World → Prop} {n : Fm} {env : Env} {ops : Array Oper} {rest : List Oper}
variable {d : Option Tmp} {ty : TypeId} {pos : String} {af : Array Edge} {gd : Option (Nat × Bool)}

theorem St.row {w : World} {e size a m c xs} {L' : List Res} (hs : St w0 F0 L w) (hp : Pick L (rowR e size a m c xs) L') : RdRow w (fun _ => True) size a m xs := by
  obtain ⟨F, hF, _⟩ := hs
  obtain ⟨F1, h1, _⟩ := stars_pick hp hF
  exact (rowR.rd h1).mv fun k _ _ => ⟨rfl, trivial⟩
/-- A new block, and nothing else (draws aside). -/
theorem St.newW {w w' : World} {T : TypeId} {cs : Array Value} {fz : Nat × Nat} (hs : St w0 F0 L w) (hh : w'.heap = w.heap.push (.cells cs T fz)) (ho : w'.os = w.os) (ht : w'.tape = w.tape) (hu : w'.output = w.output) :
    ∃ F, stars L w' F ∧ Stp w0 F0 w' F ∧ (∀ k, F k → k < w.heap.size) ∧ Stp w0 F0 w' (fun k => k = w.heap.size ∨ F k) := by
  obtain ⟨F, hF, hst⟩ := hs
  have hold : ∀ k, k < w.heap.size → w'.heap[k]? = w.heap[k]? := fun k hk => by rw [hh, Array.getElem?_push, if_neg (by omega)]
  have hsz : w.heap.size ≤ w'.heap.size := by rw [hh]; simp
  have hst' : Stp w0 F0 w' F := ⟨ho.trans hst.os, ht.trans hst.tape, hu.trans hst.output, Nat.le_trans hst.size hsz, fun k hk hn => (hold k (Nat.lt_of_lt_of_le hk hst.size)).trans (hst.block k hk hn), hst.own⟩
  refine ⟨F, stars_loc hF fun k hk => hold k (stars_lt hF k hk), hst', stars_lt hF, { hst' with own := ?_ }⟩
  rintro k (rfl | hk)
  · exact .inr hst.size
  · exact hst.own k hk

theorem St.newRow {w w' : World} {e size m c : Nat} {cs : Array Value} {fz : Nat × Nat} {xs : List Value} (hs : St w0 F0 L w) (hh : w'.heap = w.heap.push (.cells cs e fz)) (ho : w'.os = w.os) (ht : w'.tape = w.tape) (hu : w'.output = w.output)
    (hz : okFz cs.size fz) (hx : cs.toList.take (m * size) = xs) (hm : m ≤ c) (hc : c ≤ maxLen) (hl : c * size ≤ cs.size) : St w0 F0 (rowR e size (some ⟨w.heap.size, 0, none⟩) m c xs :: L) w' := by
  obtain ⟨F, hF, _, hlt, hst⟩ := hs.newW hh ho ht hu
  have hle : m * size ≤ c * size := Nat.mul_le_mul_right _ hm
  refine ⟨_, ⟨fun k => k = w.heap.size, F, ⟨by rw [← hx, List.length_take]; simp; omega, hm, hc, .inr ⟨w.heap.size, 0, cs, fz, rfl, fun _ => Iff.rfl, by rw [hh]; simp, hz, by omega, by simpa using hx⟩⟩, hF, fun k => Iff.rfl, ?_⟩, hst⟩
  rintro k rfl hk
  exact absurd (hlt _ hk) (Nat.lt_irrefl _)

/-- append onto what is owned. -/
theorem St.append {w : World} {e size bytes m c k c2 : Nat} {a a2 : Option Addr} {xs news : List Value} {L' : List Res} {t ty : TypeId} {i : TypeInfo} {z : Value} {A : Nat → Prop}
    (hs : St w0 F0 L w) (hp : Pick L (rowR e size a m c xs) L') (ht : P.underlying t = some (.slice e)) (hi : P.info? e = some i) (hz : i.zero = some z) (hsize : i.size = size) (hby : i.bytes = bytes) (hzs : z.cells.size = size) (hsz : 0 < size)
    (hr : RdRow w A size a2 k news) (h1 : ∀ u ∈ news, u.oneCell' = true) (h63 : m + k ≤ maxLen) (hb : (m + k) * bytes ≤ 140737488355328) :
    ∃ a' c' w', (Builtin.append_ #[t, t] ty #[.slice a m c, .slice a2 k c2]).run P w = .ok (.slice a' (m + k) c') w' ∧ St w0 F0 (rowR e size a' (m + k) c' (xs ++ news) :: L') w' := by
  subst hsize
  subst hby
  have hsmall : m + k ≤ 9223372036854775807 := by simp only [maxLen] at h63; omega
  obtain ⟨F, hF, hst⟩ := hs
  obtain ⟨F1, F2, hrow, h2, hE, hd⟩ := hp.stars hF
  have hown := hrow
  obtain ⟨hxl, hmc, hcm, hcase⟩ := hrow
  have hs' : St w0 F0 L' w := ⟨F2, h2, hst.weak fun k hk => (hE k).2 (.inr hk)⟩
  have hlen : (xs ++ news).length = (m + k) * i.size := by rw [List.length_append, hxl, hr.1, Nat.add_mul]
  by_cases hroom : m + k ≤ c
  · rcases hcase with ⟨rfl, rfl, hF1⟩ | ⟨g, o, cs, fz, rfl, hF1, hg, hfz, hl, hx⟩
    · have hm0 : m = 0 := by omega
      have hk0 : k = 0 := by omega
      subst hm0; subst hk0
      have hx0 : xs = [] := List.eq_nil_of_length_eq_zero (by simpa using hxl)
      have hn0 : news = [] := List.eq_nil_of_length_eq_zero (by simpa using hr.1)
      subst hx0; subst hn0
      refine ⟨none, 0, w, ?_, ?_⟩
      · have hf := hr.first (P := P) (c := c2)
        simp [Builtin.append_, run_underlying ht, sizeOf, typeInfo, hi, Builtin.lenOf, hf]
      · exact ⟨F2, stars_row_nil h2, hst.weak fun k hk => (hE k).2 (.inr hk)⟩
    · have hfit : m * i.size + news.length ≤ c * i.size := by rw [hr.1, ← Nat.add_mul]; exact Nat.mul_le_mul_right _ hroom
      have hst' := run_storeCells_blk (P := P) (T := e) (fz := fz) g (o + m * i.size) news 0 cs.toList w (by simpa using hg) (by simpa using hfz) (by simp; omega) h1
      refine ⟨some ⟨g, o, none⟩, c, { w with heap := w.heap.setIfInBounds g (.cells (updL cs.toList (o + m * i.size) news).toArray e fz) }, ?_, F, ⟨F1, F2, ⟨hlen, hroom, hcm, .inr ⟨g, o, (updL cs.toList (o + m * i.size) news).toArray, fz, rfl, hF1, ?_, ?_, ?_, ?_⟩⟩, ?_, hE, hd⟩, ?_⟩
      · have hf := hr.first (P := P) (c := c2)
        simp only [Nat.add_zero] at hst'
        simp [Builtin.append_, run_underlying ht, sizeOf, typeInfo, hi, Builtin.lenOf, hroom, hf, Addr.add_mid, hst']
      · have hlt : g < w.heap.size := (Array.getElem?_eq_some_iff.1 hg).1
        simp [hlt]
      · rw [List.size_toArray, updL_length (by simp; omega)]; simpa using hfz
      · rw [List.size_toArray, updL_length (by simp; omega)]; simpa using hl
      · rw [← hlen]
        simp only [updL]
        have e1 : (cs.toList.take (o + m * i.size)).drop o = xs := by
          rw [List.drop_take, ← hx]; congr 1; omega
        rw [List.drop_append_of_le_length (by simp; omega), e1, ← List.append_assoc]
        exact List.take_left
      · refine stars_loc h2 fun j hj => ?_
        have : ¬ g = j := fun e => hd j ((hF1 j).2 e.symm) hj
        simp [Array.getElem?_setIfInBounds, this]
      · refine ⟨hst.os, hst.tape, hst.output, by simpa using hst.size, fun j hj hn => ?_, hst.own⟩
        rw [← hst.block j hj hn]
        have : ¬ g = j := fun e => (hst.old hj hn).2 ((hE j).2 (.inl ((hF1 j).2 e.symm)))
        simp [Array.getElem?_setIfInBounds, this]
  · have hge := grownCap_ge w (m + k) c e
    have hcl : grownCap w (m + k) c e ≤ maxLen := grownCap_le_maxLen w (m + k) c e h63
    have hfo := (rowR.rd hown).first (P := P) (c := c)
    have hfn := hr.first (P := P) (c := c2)
    have hrun : (Builtin.append_ #[t, t] ty #[.slice a m c, .slice a2 k c2]).run P w = .ok (.slice (some ⟨w.heap.size, 0, none⟩) (m + k) (grownCap w (m + k) c e))
        (w.drew.alloc (.cells (xs.toArray ++ news.toArray ++ Builtin.zeroCells z.cells (grownCap w (m + k) c e - (m + k))) e)) := by
      have h48' : ¬ (281474976710656 < Builtin.nextslicecap (m + k) c * i.bytes) := by
        have := growslice_fits (need := m + k) (old := c) (by omega) hb; omega
      have h63' : ¬ (9223372036854775807 < ((m : Int) + (k : Int))) := by omega
      have hfo' : (Builtin.firstCells i.size m (.slice a m c)).run P w.drew = .ok xs.toArray w.drew := ((rowR.rd hown).mv (w' := w.drew) (A' := fun _ => True) fun _ _ _ => ⟨rfl, trivial⟩).first
      have hfn' : (Builtin.firstCells i.size k (.slice a2 k c2)).run P w.drew = .ok news.toArray w.drew := (hr.mv (w' := w.drew) (A' := fun _ => True) fun _ _ _ => ⟨rfl, trivial⟩).first
      simp [Builtin.append_, run_underlying ht, sizeOf, typeInfo, zeroValue, hi, hz, Builtin.lenOf, hroom, h63', h48', Question.forced, hfo', hfn', Go.newRow, grownCap]
      congr 2
      apply Array.ext'
      simp
    refine ⟨_, _, _, hrun, hs'.newRow (w' := w.drew.alloc _) (fz := (0, 0)) rfl rfl rfl rfl (fun j _ h => by simp at h) ?_ hge hcl ?_⟩
    · simp only [Array.toList_append, List.append_assoc]
      rw [← List.append_assoc, ← hlen]
      exact List.take_left
    · simp only [Array.size_append, List.size_toArray, size_zeroCells, hzs, hxl, hr.1, ← Nat.add_mul]
      rw [show m + k + (grownCap w (m + k) c e - (m + k)) = grownCap w (m + k) c e by omega]
      exact Nat.le_refl _

theorem gl_append0 {x y : Operand} {t e size bytes m c k c2 : Nat} {a a2 : Option Addr} {xs news : List Value} {L' : List Res} {o : Option Tmp}
    (hw : Wt ops n env ⟨o, .call ⟨.builtin .append, #[x, y], #[t, t]⟩, ty, pos, af, gd⟩ true) (hx : ev n env x = .slice a m c) (hy : ev n env y = .slice a2 k c2) (hp : Pick L (rowR e size a m c xs) L')
    (ht : ElemT P t e size bytes) (hr : ∀ w, St w0 F0 L w → RdRow w (fun _ => True) size a2 k news) (h1 : ∀ u ∈ news, u.oneCell' = true) (h63 : m + k ≤ maxLen) (hb : (m + k) * bytes ≤ 140737488355328)
    (K : ∀ a' c', Gl P w0 F0 (rowR e size a' (m + k) c' (xs ++ news) :: L') ops Q rest n (pu o (.slice a' (m + k) c') env)) :
    Gl P w0 F0 L ops Q (⟨o, .call ⟨.builtin .append, #[x, y], #[t, t]⟩, ty, pos, af, gd⟩ :: rest) n env := by
  obtain ⟨hsl, ⟨i, z, hi, hz, hsz, hby, hzs⟩, hpos⟩ := ht
  refine gl_effx (α := Option Addr × Nat) (L' := fun p => rowR e size p.1 (m + k) p.2 (xs ++ news) :: L') (v := fun p => .slice p.1 (m + k) p.2) hw (fun w hs => ?_) (fun p => K p.1 p.2)
  obtain ⟨a', c', w', hrun, hs'⟩ := hs.append (P := P) (ty := ty) (c2 := c2) hp hsl hi hz hsz hby hzs hpos (hr w hs) h1 h63 hb
  refine ⟨(a', c'), w', ?_, hs'⟩
  simp [execOp, resolve, invoke, builtin, hx, hy, hrun]
theorem gl_append {x y : Operand} {t e size bytes m c k c2 : Nat} {a a2 : Option Addr} {xs news : List Value} {L' : List Res} {o : Tmp}
    (hw : Wt ops n env ⟨some o, .call ⟨.builtin .append, #[x, y], #[t, t]⟩, ty, pos, af, gd⟩ true) (hx : ev n env x = .slice a m c) (hy : ev n env y = .slice a2 k c2) (hp : Pick L (rowR e size a m c xs) L')
    (ht : ElemT P t e size bytes) (hr : ∀ w, St w0 F0 L w → RdRow w (fun _ => True) size a2 k news) (h1 : ∀ u ∈ news, u.oneCell' = true) (h63 : m + k ≤ maxLen) (hb : (m + k) * bytes ≤ 140737488355328)
    (K : ∀ a' c', Gl P w0 F0 (rowR e size a' (m + k) c' (xs ++ news) :: L') ops Q rest n ((o, .slice a' (m + k) c') :: env)) :
    Gl P w0 F0 L ops Q (⟨some o, .call ⟨.builtin .append, #[x, y], #[t, t]⟩, ty, pos, af, gd⟩ :: rest) n env := gl_append0 hw hx hy hp ht hr h1 h63 hb K
end rows
end Go.Proofs.YthicckleihbomaaDoor

/- The engine, part E: digests as cells, loops, regions that draw their order, errors held against nil. -/
namespace Go.Proofs.YthicckleihbomaaDoor
open Go
set_option linter.unusedVariables false
set_option linter.unusedSimpArgs false

/-! ### Digests -/
structure Dig where
  l : List UInt8
  h : l.length = 16
theorem Dig.ext' {a b : Dig} (h : a.l = b.l) : a = b := by cases a; cases b; cases h; rfl
instance : DecidableEq Dig := fun a b => if h : a.l = b.l then isTrue (Dig.ext' h) else isFalse (fun e => h (by rw [e]))
def dc (d : Dig) : List Value := d.l.map B8
theorem dc_length (d : Dig) : (dc d).length = 16 := by simp [dc, d.h]
theorem dc_one (d : Dig) : ∀ v ∈ dc d, v.oneCell' = true := one_B8 _
theorem zD_length : zD.length = 16 := rfl
theorem drop_dc {d : Dig} {k : Nat} {r : List Value} (h : 16 ≤ k) : List.drop k (dc d ++ r) = List.drop (k - 16) r := by
  rw [List.drop_append, List.drop_eq_nil_of_le (by rw [dc_length]; exact h), dc_length]; rfl
theorem drop_dc' {d : Dig} {k : Nat} (h : 16 ≤ k) : List.drop k (dc d) = [] := List.drop_eq_nil_of_le (by rw [dc_length]; exact h)
theorem take_dc {d : Dig} {k : Nat} {r : List Value} (h : 16 ≤ k) : List.take k (dc d ++ r) = dc d ++ List.take (k - 16) r := by
  rw [List.take_append, List.take_of_length_le (by rw [dc_length]; exact h), dc_length]
theorem take_dc' {d : Dig} {k : Nat} (h : 16 ≤ k) : List.take k (dc d) = dc d := List.take_of_length_le (by rw [dc_length]; exact h)
theorem get_dc {d : Dig} {k : Nat} {r : List Value} (h : 16 ≤ k) : (dc d ++ r)[k]? = r[k - 16]? := by
  rw [List.getElem?_append_right (by rw [dc_length]; exact h), dc_length]
theorem all_cons' {v : Value} {l : List Value} (h : v.oneCell' = true) (k : ∀ u ∈ l, u.oneCell' = true) : ∀ u ∈ v :: l, u.oneCell' = true := by
  intro u hu
  rcases List.mem_cons.1 hu with rfl | hu
  · exact h
  · exact k u hu
theorem all_nil' : ∀ u ∈ ([] : List Value), u.oneCell' = true := fun u hu => by cases hu
theorem all_app' {l m : List Value} (h : ∀ u ∈ l, u.oneCell' = true) (k : ∀ u ∈ m, u.oneCell' = true) : ∀ u ∈ l ++ m, u.oneCell' = true := fun u hu => (List.mem_append.1 hu).elim (h u) (k u)

/-! ### Numbers -/
theorem wrap_i64 {x : Int} (h1 : -9223372036854775808 ≤ x) (h2 : x ≤ 9223372036854775807) : IntKind.i64.wrap x = x := by
  rw [IntKind.wrap_i64]; omega
theorem wrap_u8 {x : Int} (h1 : 0 ≤ x) (h2 : x ≤ 255) : IntKind.u8.wrap x = x := by
  simp only [IntKind.wrap, IntKind.bits, IntKind.signed]; simp; omega

theorem wpStill_mono' {P : Program} {ops : Array Oper} {w : World} {C C' : Act → Prop} (h : ∀ a, C a → C' a) : ∀ {l : List Oper} {a : Act}, wpStill P ops w C l a → wpStill P ops w C' l a
  | [], a, hh => h _ hh
  | o :: r, a, hh => by
    unfold wpStill at hh ⊢
    split
    · rename_i hw; rw [if_pos hw] at hh; exact Oper.still_mono (fun a' h' => wpStill_mono' h h') hh
    · rename_i hw; rw [if_neg hw] at hh; exact wpStill_mono' h hh

section code
variable {P : Program} {w0 : World} {F0 : Nat → Prop} {L : List Res} {Q : Exit → Act → World → Prop} {n : Fm} {env : Env} {ops : Array Oper} {rest : List Oper}

theorem gc_condT {c : Operand} {x y : Code} {b : Bool} (hc : ev n env c = .bool b) (hb : b = true) (h : Gc P w0 F0 L x Q n env) : Gc P w0 F0 L (.cond c x y) Q n env :=
  gc_cond hc (fun _ => h) (fun h' => by rw [hb] at h'; cases h')
theorem gc_condF {c : Operand} {x y : Code} {b : Bool} (hc : ev n env c = .bool b) (hb : b = false) (h : Gc P w0 F0 L y Q n env) : Gc P w0 F0 L (.cond c x y) Q n env :=
  gc_cond hc (fun h' => by rw [hb] at h'; cases h') (fun _ => h)

/-! ### Loops -/
/-- What stands at the loop's head: the slots of a, whatever in the junk's slots, all else as before the loop. -/
def headE {α : Type} (slots : α → Env) (junk : List Nat) (env : Env) (a : α) (u : Nat → Value) : Env := slots a ++ (junk.map (fun t => (t, u t)) ++ env)
def RoundK {α : Type} (w0 : World) (F0 : Nat → Prop) (Ls : α → List Res) (slots : α → Env) (junk : List Nat) (μ : α → Nat) (n : Fm) (env : Env) (m : Nat) (act : Act) (w : World) : Prop :=
  ∃ a u, μ a < m ∧ act = fr n (headE slots junk env a u) ∧ St w0 F0 (Ls a) w
theorem gc_loop {α : Type} {c : Code} (Ls : α → List Res) (slots : α → Env) (junk : List Nat) (μ : α → Nat) (a0 : α)
    (henv : fr n env = fr n (headE slots junk env a0 (Env.get env))) (h0 : ∀ w, St w0 F0 L w → St w0 F0 (Ls a0) w)
    (round : ∀ a u, Gc P w0 F0 (Ls a) c (Exit.then (RoundK w0 F0 Ls slots junk μ n env (μ a)) Q) n (headE slots junk env a u)) : Gc P w0 F0 L (.loop c) Q n env := by
  intro w hw
  rw [henv]
  intro b k cs hro hb hr
  have key : ∀ m a u w, μ a = m → St w0 F0 (Ls a) w →
      ∃ e a' w', Q e a' w' ∧ ArrivesIn (Machine.fenced P (FR n.ro)) P (lone (b.atR (fr n (headE slots junk env a u)) (.code c :: .inLoop c :: k)) cs w) b k cs e a' w' := by
    intro m
    induction m using Nat.strongRecOn with
    | _ m ih =>
      intro a u w hm hs
      obtain ⟨e, a₁, w₁, hq, harr⟩ := round a u w hs b (.inLoop c :: k) cs hro hb hr
      cases e with
      | normal =>
        obtain ⟨a', u', hlt, rfl, hs'⟩ := hq
        obtain ⟨e₂, a₂, w₂, hq₂, harr₂⟩ := ih (μ a') (hm ▸ hlt) a' u' w₁ rfl hs'
        exact ⟨e₂, a₂, w₂, hq₂, .of_steps (StepsIn.trans harr (.one (fenced_calm hb hr rfl) stepR_inLoop)) harr₂⟩
      | exit id => exact ⟨_, a₁, w₁, hq, .pass (x := .inLoop c) rfl (fun _ _ => .inl (by simp)) harr⟩
      | goto l => exact ⟨_, a₁, w₁, hq, .pass (x := .inLoop c) rfl (fun _ _ => .inl (by simp)) harr⟩
      | ret => exact ⟨_, a₁, w₁, hq, .pass (x := .inLoop c) rfl (fun _ _ => .inl (by simp)) harr⟩
      | panic ch => exact ⟨_, a₁, w₁, hq, .pass (x := .inLoop c) rfl (fun _ _ => .inl (by simp)) harr⟩
      | outgrown => exact ⟨_, a₁, w₁, hq, .pass (x := .inLoop c) rfl (fun _ _ => .inl (by simp)) harr⟩
  obtain ⟨e, a', w', hq, harr⟩ := key _ a0 (Env.get env) w rfl (h0 w hw)
  exact ⟨e, a', w', hq, .of_steps (.one (fenced_calm hb hr rfl) stepR_loop) harr⟩

section round
variable {α : Type} {Ls : α → List Res} {slots : α → Env} {junk : List Nat} {μ : α → Nat} {env0 : Env} {m : Nat}
theorem gx_round (a : α) (hE : fr n env = fr n (headE slots junk env0 a (Env.get env))) (hm : μ a < m) (hL : ∀ w, St w0 F0 L w → St w0 F0 (Ls a) w) :
    Gx w0 F0 L (Exit.then (RoundK w0 F0 Ls slots junk μ n env0 m) Q) .normal n env := fun w hw => ⟨a, Env.get env, hm, hE, hL w hw⟩
theorem gx_round_exit {K : Act → World → Prop} {id : Nat} (h : Gx w0 F0 L Q (.exit id) n env) : Gx w0 F0 L (Exit.then K Q) (.exit id) n env := h
theorem gx_round_ret {K : Act → World → Prop} (h : Gx w0 F0 L Q .ret n env) : Gx w0 F0 L (Exit.then K Q) .ret n env := h

theorem get_over {e X : Env} {t : Nat} : ∀ {s : Env}, (∀ p ∈ s, Env.get e p.1 = p.2) → ((∀ p ∈ s, p.1 ≠ t) → Env.get X t = Env.get e t) → Env.get (s ++ X) t = Env.get e t
  | [], _, hX => hX (by simp)
  | (k, v) :: s, h, hX => by
    simp only [List.cons_append, Env.get]
    cases hb : Nat.beq t k with
    | true =>
      have := Nat.eq_of_beq_eq_true hb
      subst this
      exact (h _ (List.mem_cons_self)).symm
    | false =>
      refine get_over (fun p hp => h p (List.mem_cons_of_mem _ hp)) (fun hs => hX fun p hp => ?_)
      rcases List.mem_cons.1 hp with rfl | hp
      · intro he; simp only at he; subst he; rw [Nat.beq_refl] at hb; cases hb
      · exact hs p hp
theorem get_under {X : Env} {t : Nat} : ∀ {s : Env}, (∀ p ∈ s, p.1 ≠ t) → Env.get (s ++ X) t = Env.get X t
  | [], _ => rfl
  | (k, v) :: s, h => by
    simp only [List.cons_append, Env.get]
    cases hb : Nat.beq t k with
    | true => exact absurd (Nat.eq_of_beq_eq_true hb).symm (h _ (List.mem_cons_self))
    | false => exact get_under fun p hp => h p (List.mem_cons_of_mem _ hp)
theorem env_start {a0 : α} {e : Env} (hs : (slots a0).map (fun p => Env.get e p.1) = (slots a0).map Prod.snd) : fr n e = fr n (headE slots junk e a0 (Env.get e)) := by
  refine fr_ext fun t _ => (get_over (fun p hp => ?_) fun _ => get_over (fun p hp => ?_) fun _ => rfl).symm
  · exact (List.map_inj_left.1 hs p hp)
  · obtain ⟨j, _, rfl⟩ := List.mem_map.1 hp; rfl
/-- e stands on b, with these slots ahead. -/
inductive Front (b : Env) : Env → List Nat → Prop
  | here : Front b b []
  | there {k : Nat} {v : Value} {e : Env} {f : List Nat} : Front b e f → Front b ((k, v) :: e) (k :: f)
theorem Front.get {b e : Env} {f : List Nat} (h : Front b e f) {t : Nat} (ht : t ∉ f) : Env.get e t = Env.get b t := by
  induction h with
  | here => rfl
  | there h ih =>
    rename_i k v e f
    simp only [Env.get]
    cases hb : Nat.beq t k with
    | true => exact absurd (Nat.eq_of_beq_eq_true hb) (fun he => ht (by simp [he]))
    | false => exact ih fun hm => ht (List.mem_cons_of_mem _ hm)
theorem env_next {a a' : α} {u : Nat → Value} {e : Env} {f : List Nat} (hf : Front (headE slots junk env0 a u) e f) (hs : (slots a').map (fun p => Env.get e p.1) = (slots a').map Prod.snd)
    (hk : f.all (fun t => ((slots a').map Prod.fst).contains t || junk.contains t) = true) (hkeys : (slots a).map Prod.fst = (slots a').map Prod.fst) : fr n e = fr n (headE slots junk env0 a' (Env.get e)) := by
  refine fr_ext fun t _ => (get_over (fun p hp => ?_) fun h1 => get_over (fun p hp => ?_) fun h2 => ?_).symm
  · exact (List.map_inj_left.1 hs p hp)
  · obtain ⟨j, _, rfl⟩ := List.mem_map.1 hp; rfl
  · have h2' : t ∉ junk := fun hm => h2 (t, Env.get e t) (List.mem_map.2 ⟨t, hm, rfl⟩) rfl
    have h1' : t ∉ (slots a').map Prod.fst := fun hm => by
      obtain ⟨p, hp, rfl⟩ := List.mem_map.1 hm
      exact h1 p hp rfl
    rw [hf.get (t := t) (fun hm => by
      have := List.all_eq_true.1 hk t hm
      simp only [Bool.or_eq_true, List.contains_iff_mem] at this
      exact this.elim h1' h2')]
    rw [headE, get_under, get_under]
    · intro p hp he
      obtain ⟨j, hj, rfl⟩ := List.mem_map.1 hp
      simp only at he; subst he; exact h2' hj
    · intro p hp he
      exact h1' (by rw [← hkeys]; exact List.mem_map.2 ⟨p, hp, he⟩)
end round

/-! ### Regions that draw their order: reads ahead, then the rest in a row -/
theorem St.drawn {w : World} (hs : St w0 F0 L w) (k : Nat) : St w0 F0 L { w with drawn := k } := by
  obtain ⟨F, hF, hst⟩ := hs
  exact ⟨F, stars_loc hF fun _ _ => rfl, ⟨hst.os, hst.tape, hst.output, hst.size, hst.block, hst.own⟩⟩
def Gs (P : Program) (w0 : World) (F0 : Nat → Prop) (L : List Res) (ops : Array Oper) (todo : List Oper) (n : Fm) (env : Env) (C : Env → Prop) : Prop :=
  ∀ w, St w0 F0 L w → wpStill P ops w (fun a => ∃ env', a = fr n env' ∧ C env') todo (fr n env)
theorem gs_nil {C : Env → Prop} (h : C env) : Gs P w0 F0 L ops [] n env C := fun w _ => wpStill_nil ⟨env, rfl, h⟩
theorem gs_pure {d : Tmp} {op : Op} {ty : TypeId} {pos : String} {af : Array Edge} {gd : Option (Nat × Bool)} {v : Value} {C : Env → Prop} (hw : Wt ops n env ⟨some d, op, ty, pos, af, gd⟩ true)
    (h : Runs P w0 F0 L n env ⟨some d, op, ty, pos, af, gd⟩ v) (k : Gs P w0 F0 L ops rest n ((d, v) :: env) C) : Gs P w0 F0 L ops (⟨some d, op, ty, pos, af, gd⟩ :: rest) n env C := by
  intro w hs
  refine wpStill_step ?_
  intro K hK
  rw [if_pos (show Region.wanted _ _ = true from hw)]
  unfold Oper.still
  rw [fr_eval, h w hs, Oper.stillUpon_value, fr_put]
  exact hK _ (k w hs)
theorem gs_passD {d : Tmp} {op : Op} {ty : TypeId} {pos : String} {af : Array Edge} {gd : Option (Nat × Bool)} {C : Env → Prop} (hw : Wt ops n env ⟨some d, op, ty, pos, af, gd⟩ false)
    (k : Gs P w0 F0 L ops rest n ((d, undef) :: env) C) : Gs P w0 F0 L ops (⟨some d, op, ty, pos, af, gd⟩ :: rest) n env C := by
  intro w hs
  refine wpStill_step ?_
  intro K hK
  rw [if_neg (by rw [show Region.wanted _ _ = false from hw]; simp), fr_put]
  exact hK _ (k w hs)
theorem gc_regionT {id : Nat} {l : List Oper} (k : Nat) (hm : P.follows .mixedOrders = true) (hB : Region.lexTailB .any l.toArray k = true)
    (h : Gs P w0 F0 L l.toArray (l.take k) n env (fun env' => Gl P w0 F0 L l.toArray Q (l.drop k) n env')) : Gc P w0 F0 L (.region id l.toArray true) Q n env := fun w hw => by
  refine wpIn_region_T k hm hB ?_
  have hw' := hw.drawn (w.drawn + 1)
  have := h _ hw'
  refine wpStill_mono' (fun a ⟨env', ha, hC⟩ => ?_) this
  subst ha
  exact hC _ hw'
end code
end Go.Proofs.YthicckleihbomaaDoor

/- The engine, part F: what a callee may read; literals of slices and structs; calls of function values. -/
namespace Go.Proofs.YthicckleihbomaaDoor
open Go
set_option linter.unusedVariables false
set_option linter.unusedSimpArgs false

/-! ### What a callee may read beside what it owns -/
theorem Stp.rd {w0 w : World} {F0 F1 F2 : Nat → Prop} (h : Stp w0 F0 w (fun k => F1 k ∨ F2 k)) : ∀ k, k < w0.heap.size → ¬ F0 k → w.heap[k]? = w0.heap[k]? ∧ ¬ F1 k :=
  fun k hk hn => ⟨(h.old hk hn).1, fun hf => (h.old hk hn).2 (.inl hf)⟩
theorem rd_row {L L' : List Res} {w : World} {F1 F2 : Nat → Prop} {e size n c : Nat} {a : Option Addr} {xs : List Value} (h2 : stars L w F2) (hd : ∀ k, F1 k → ¬ F2 k) (hp : Pick L (rowR e size a n c xs) L') :
    RdRow w (fun k => ¬ F1 k) size a n xs := by
  obtain ⟨F', h', hs⟩ := stars_pick hp h2
  exact (rowR.rd h').mv fun k _ hk => ⟨rfl, fun h1 => hd k h1 (hs k hk)⟩
/-! ### Literals -/
def fillL (place : Nat → Option (Nat × Nat)) : List Value → List (Nat × Value) → Option (List Value)
  | cs, [] => some cs
  | cs, (i, v) :: r => match place i with
    | none => none
    | some (o, s) => if v.cells.toList.length = s ∧ o + v.cells.toList.length ≤ cs.length then fillL place (updL cs o v.cells.toList) r else none
theorem foldl_set (cs : Array Value) (o : Nat) : ∀ (l : List Value) (k : Nat) (m : Array Value), o + k + l.length ≤ m.size →
    ((l.zipIdx k).foldl (fun m p => m.setIfInBounds (o + p.2) p.1) m).toList = updL m.toList (o + k) l
  | [], k, m, _ => by simp [updL]
  | v :: r, k, m, h => by
    simp only [List.length_cons] at h
    simp only [List.zipIdx_cons, List.foldl_cons]
    rw [foldl_set cs o r (k + 1) _ (by simp; omega), updL_cons (by simp; omega)]
    simp [Nat.add_assoc]
theorem fill_of (place : Nat → Option (Nat × Nat)) : ∀ (parts : List (Nat × Value)) (cs : Array Value) (out : List Value), fillL place cs.toList parts = some out → Instr.fill place cs parts = some out.toArray
  | [], cs, out, h => by simp [fillL] at h; subst h; simp [Instr.fill]
  | (i, v) :: r, cs, out, h => by
    simp only [fillL] at h
    cases hp : place i with
    | none => simp [hp] at h
    | some p =>
      obtain ⟨o, s⟩ := p
      simp only [hp] at h
      split at h
      · rename_i hh
        obtain ⟨h1, h2⟩ := hh
        have hs : v.cells.size = s := by simpa using h1
        have hl : ¬ (o + v.cells.size > cs.size) := by simp at h2 ⊢; omega
        have := foldl_set cs o v.cells.toList 0 cs (by simp at h2 ⊢; omega)
        simp only [Nat.add_zero] at this
        simp only [Instr.fill, hp, hs, ne_eq, not_true_eq_false, false_or]
        rw [if_neg (by simp at hl ⊢; omega)]
        refine fill_of place r _ out ?_
        rw [← h]
        congr 1
        rw [← this, ← Array.foldl_toList, Array.toList_zipIdx]
      · cases h
theorem run_mapM_places {P : Program} {w : World} : ∀ (fs : List Field) (pl : List (Nat × Nat)), (fs.mapM fun f => (szT P f.type).map fun s => (f.offset, s)) = some pl →
    (fs.mapM (m := Sem) fun f => (fun s => (f.offset, s)) <$> sizeOf f.type).run P w = .ok pl w
  | [], pl, h => by simp at h; subst h; simp
  | f :: r, pl, h => by
    simp only [List.mapM_cons, Option.bind_eq_bind, Option.pure_def] at h
    cases hs : szT P f.type with
    | none => simp [hs] at h
    | some s =>
      cases hr : (r.mapM fun f => (szT P f.type).map fun s => (f.offset, s)) with
      | none => simp [hs, hr] at h
      | some q =>
        simp [hs, hr] at h
        subst h
        have ih := run_mapM_places (P := P) (w := w) r q hr
        simp only [List.mapM_cons, Sem.run_bind, Sem.run_map, run_sz hs, Result.andThen_ok, ih, Sem.run_pure]

section lits
variable {P : Program} {w0 : World} {F0 : Nat → Prop} {L : List Res} {Q : Exit → Act → World → Prop} {n : Fm} {env : Env} {ops : Array Oper} {rest : List Oper}
variable {d : Option Tmp} {ty : TypeId} {pos : String} {af : Array Edge} {gd : Option (Nat × Bool)}

theorem r_build {T : TypeId} {parts : Array (Nat × Operand)} {zs cs : List Value} {pl : List (Nat × Nat)} (hz : zcT P T = some zs) (hp : placesT P T = some pl)
    (hf : fillL (pl[·]?) zs (parts.toList.map fun p => (p.1, ev n env p.2)) = some cs) : Runs P w0 F0 L n env ⟨d, .build T parts, ty, pos, af, gd⟩ (.agg cs.toArray) := fun w _ => by
  obtain ⟨z, hz', hc⟩ := zcT_some hz
  unfold placesT at hp
  cases hu : P.underlying T with
  | none => simp [hu] at hp
  | some dsc =>
    cases dsc <;> simp [hu] at hp
    rename_i fs
    have hm := run_mapM_places (P := P) (w := w) fs.toList pl hp
    have hf' : Instr.fill (pl.toArray[·]?) z.cells (parts.toList.map fun p => (p.1, ev n env p.2)) = some cs.toArray := fill_of _ _ _ _ (by rw [hc]; simpa using hf)
    simp only [execOp, Instr.build, Sem.run_bind, run_zeroT hz', Result.andThen_ok, run_underlying hu]
    rw [show (fs.mapM (m := Sem) fun f => do pure (f.offset, ← sizeOf f.type)) = List.toArray <$> (fs.toList.mapM (m := Sem) fun f => (fun s => (f.offset, s)) <$> sizeOf f.type) from by
      rw [Array.mapM_eq_mapM_toList]; simp]
    have hcomp : (parts.map fun (i, x) => (i, ev n env x)).toList = parts.toList.map fun p => (p.1, ev n env p.2) := by simp
    simp only [Sem.run_map, hm, Result.andThen_ok, hcomp, hf']
    rfl
theorem gl_bslice {t : Tmp} {T e s len : Nat} {parts : Array (Nat × Operand)} {z : List Value} {cs : List Value} (hw : Wt ops n env ⟨some t, .buildSlice T len parts, ty, pos, af, gd⟩ true)
    (ht : sliceT P T = some e) (hs : szT P e = some s) (hl : len * s ≤ 16777216) (hl0 : len ≤ 16777216) (hpos : 0 < len * s) (hz : zcT P e = some z)
    (hf : fillL (fun i => some (i * s, s)) ((List.range (len * s)).map fun i => z.toArray[i % z.length]!) (parts.toList.map fun p => (p.1, ev n env p.2)) = some cs) (hcl : cs.length = len * s)
    (k : ∀ b, Gl P w0 F0 (rowR e s (some ⟨b, 0, none⟩) len len cs :: L) ops Q rest n ((t, .slice (some ⟨b, 0, none⟩) len len) :: env)) : Gl P w0 F0 L ops Q (⟨some t, .buildSlice T len parts, ty, pos, af, gd⟩ :: rest) n env := by
  refine gl_effx (α := Nat) (L' := fun b => rowR e s (some ⟨b, 0, none⟩) len len cs :: L) (v := fun b => .slice (some ⟨b, 0, none⟩) len len) hw (fun w hst => ?_) k
  obtain ⟨zv, hz', hc⟩ := zcT_some hz
  have hfill : Instr.fill (fun i => some (i * s, s)) ((Array.range (len * s)).map fun i => zv.cells[i % zv.cells.size]!) (parts.toList.map fun p => (p.1, ev n env p.2)) = some cs.toArray := by
    refine fill_of _ _ _ _ ?_
    rw [← hf]
    congr 1
    subst hc
    simp
  refine ⟨w.heap.size, { w with heap := w.heap.push (.cells cs.toArray e) }, ?_, ?_⟩
  · simp only [execOp, Instr.buildSlice, Sem.run_bind, run_underlying (run_sliceT ht), Result.andThen_ok, run_sz hs]
    have hlim : ¬ (16777216 < len * s) := by omega
    have h0 : ¬ (len * s = 0) := by omega
    have hcomp : (parts.map fun (i, x) => (i, ev n env x)).toList = parts.toList.map fun p => (p.1, ev n env p.2) := by simp
    rw [if_neg (by omega), if_neg h0]
    simp only [Sem.run_bind, run_zeroT hz', Result.andThen_ok, Sem.run_pure, hcomp, hfill, newRow, newObj, Sem.run, Sem.run_map]
  · refine hst.newRow (w' := { w with heap := w.heap.push (.cells cs.toArray e) }) (fz := (0, 0)) rfl rfl rfl rfl (fun j _ h => by simp at h) (by rw [← hcl]; simp) (Nat.le_refl _) ?_ (by simp; omega)
    simp only [maxLen]; omega
theorem gl_bslice0 {t : Tmp} {T e s : Nat} (hw : Wt ops n env ⟨some t, .buildSlice T 0 #[], ty, pos, af, gd⟩ true) (ht : sliceT P T = some e) (hs : szT P e = some s)
    (k : ∀ b, Gl P w0 F0 (rowR e s (some ⟨b, 0, none⟩) 0 0 [] :: L) ops Q rest n ((t, .slice (some ⟨b, 0, none⟩) 0 0) :: env)) : Gl P w0 F0 L ops Q (⟨some t, .buildSlice T 0 #[], ty, pos, af, gd⟩ :: rest) n env := by
  refine gl_effx (α := Nat) (L' := fun b => rowR e s (some ⟨b, 0, none⟩) 0 0 [] :: L) (v := fun b => .slice (some ⟨b, 0, none⟩) 0 0) hw (fun w hst => ?_) k
  refine ⟨w.heap.size, { w with heap := w.heap.push (.cells #[] e) }, ?_, hst.newRow (w' := { w with heap := w.heap.push (.cells #[] e) }) (fz := (0, 0)) rfl rfl rfl rfl (fun j _ h => by simp at h) (by simp) (Nat.le_refl _) (by simp [maxLen]) (by simp)⟩
  simp [execOp, Instr.buildSlice, run_underlying (run_sliceT ht), run_sz hs, Instr.fill, newRow, newObj, Sem.run]
  rw [show Array.map (fun _ : Nat => (default : Value)) (Array.range 0) = #[] from Array.eq_empty_of_size_eq_zero (by simp)]

/-! ### Calls of function values -/
theorem e_callv {x : Operand} {f : FuncId} {xs : List Operand} {ts : Array TypeId} {vs us : List Value} (hx : ev n env x = .func (.func f) #[] us.toArray) (hf : okCall P f = true) (hv : xs.map (ev n env) ++ us = vs) (w : World) :
    (execOp (ev n env) ⟨d, .call ⟨.value x, xs.toArray, ts⟩, ty, pos, af, gd⟩).run P w = .ok (.enter f vs.toArray) w := by
  subst hv
  unfold okCall at hf
  cases hp : P.funcs[f]? with
  | none => simp [hp] at hf
  | some fn =>
    cases hb : fn.body with
    | none => simp [hp, hb] at hf
    | some c =>
      have hn : ¬ fn.name = "runtime.NumGoroutine" := by simpa [hp, hb] using hf
      simp [execOp, resolve, hx, Deferred.ofValue, invoke, callFunc, program, Sem.run, hp, hb, hn]
end lits
end Go.Proofs.YthicckleihbomaaDoor

/- The engine, part G: short forms of the rules that walks use most. -/
namespace Go.Proofs.YthicckleihbomaaDoor
open Go
set_option linter.unusedVariables false
set_option linter.unusedSimpArgs false

theorem updL_all {cs vs : List Value} (h : cs.length = vs.length) : updL cs 0 vs = vs := by
  simp [updL, h]
theorem updL_mid {xs0 cs vs : List Value} (h : vs.length ≤ cs.length) : updL (xs0 ++ cs) xs0.length vs = xs0 ++ vs ++ cs.drop vs.length := by
  simp only [updL]
  rw [List.take_left' rfl, ← List.append_assoc, List.drop_append, List.drop_eq_nil_of_le (by omega), List.nil_append]
  congr 2; omega
/-- Elements laid in a row, one behind the other. -/
theorem fillL_row (s : Nat) : ∀ (vs : List Value) (css : List (List Value)) (k : Nat) (done base : List Value), done.length = k * s → base.length = vs.length * s → vs.map (fun v => v.cells.toList) = css → (∀ c ∈ css, c.length = s) →
    fillL (fun i => some (i * s, s)) (done ++ base) ((List.range' k vs.length).zip vs) = some (done ++ css.flatten)
  | [], css, k, done, base, _, hb, hc, _ => by
    simp at hc; subst hc
    have : base = [] := List.eq_nil_of_length_eq_zero (by simpa using hb)
    subst this
    simp [fillL]
  | v :: r, css, k, done, base, hd, hb, hc, hs => by
    cases css with
    | nil => simp at hc
    | cons c css =>
      simp only [List.map_cons, List.cons.injEq] at hc
      obtain ⟨h1, h2⟩ := hc
      have hcs : c.length = s := hs c (by simp)
      simp only [List.length_cons, Nat.add_mul, Nat.one_mul] at hb
      simp only [List.length_cons, List.range'_succ, List.zip_cons_cons, fillL]
      rw [if_pos ⟨by rw [h1]; exact hcs, by rw [h1, List.length_append, hd, hcs]; omega⟩, h1, ← hd, updL_mid (by omega)]
      have ih := fillL_row s r css (k + 1) (done ++ c) (base.drop c.length) (by rw [List.length_append, hd, hcs, Nat.add_mul, Nat.one_mul]) (by rw [List.length_drop]; omega) h2 (fun c' hc' => hs c' (by simp [hc']))
      rw [ih]
      simp

theorem drop_q {q r : List Value} {m k : Nat} (hq : q.length = m) (h : m ≤ k) : List.drop k (q ++ r) = List.drop (k - m) r := by
  rw [List.drop_append, List.drop_eq_nil_of_le (by omega), hq]; rfl
theorem drop_q' {q : List Value} {m k : Nat} (hq : q.length = m) (h : m ≤ k) : List.drop k q = [] := List.drop_eq_nil_of_le (by omega)
theorem take_q {q r : List Value} {m k : Nat} (hq : q.length = m) (h : m ≤ k) : List.take k (q ++ r) = q ++ List.take (k - m) r := by
  rw [List.take_append, List.take_of_length_le (by omega), hq]
theorem take_q' {q : List Value} {m k : Nat} (hq : q.length = m) (h : m ≤ k) : List.take k q = q := List.take_of_length_le (by omega)
theorem get_q {q r : List Value} {m k : Nat} (hq : q.length = m) (h : m ≤ k) : (q ++ r)[k]? = r[k - m]? := by
  rw [List.getElem?_append_right (by omega), hq]
section short
variable {P : Program} {w0 : World} {F0 : Nat → Prop} {L : List Res} {Q : Exit → Act → World → Prop} {n : Fm} {env : Env} {ops : Array Oper} {rest : List Oper}
variable {d : Option Tmp} {ty : TypeId} {pos : String} {af : Array Edge} {gd : Option (Nat × Bool)}

theorem r_val {o : Oper} {v v' : Value} (h : Runs P w0 F0 L n env o v) (e : v = v') : Runs P w0 F0 L n env o v' := e ▸ h
theorem r_bool {o : Oper} {b c : Bool} (h : Runs P w0 F0 L n env o (.bool b)) (e : b = c) : Runs P w0 F0 L n env o (.bool c) := e ▸ h
theorem r_makeF {f : Fn} {cs : List Operand} {us : List Value} (hc : cs.map (ev n env) = us) : Runs P w0 F0 L n env ⟨d, .makeFunc f #[] cs.toArray, ty, pos, af, gd⟩ (.func f #[] us.toArray) := fun w _ => by
  subst hc; simp [execOp, Instr.makeFunc]
theorem r_int {o : Oper} {k : IntKind} {i j : Int} (h : Runs P w0 F0 L n env o (.int k i)) (e : i = j) : Runs P w0 F0 L n env o (.int k j) := e ▸ h
theorem wtgT {o : Oper} {j t : Nat} {b : Bool} (h : o.guard = some (j, b)) (hd : (ops[j]?).bind (·.dst) = some t) (ht : Nat.blt t n.nt = true) (hv : Env.get env t = .bool b) : Wt ops n env o true := by
  have := wtg h hd ht hv; rwa [beq_self_eq_true] at this
theorem wtgF {o : Oper} {j t : Nat} {b c : Bool} (h : o.guard = some (j, b)) (hd : (ops[j]?).bind (·.dst) = some t) (ht : Nat.blt t n.nt = true) (hv : Env.get env t = .bool c) (hne : (c == b) = false) : Wt ops n env o false := by
  have := wtg h hd ht hv; rwa [hne] at this
theorem wtu {o : Oper} {j t : Nat} {b : Bool} (h : o.guard = some (j, b)) (hd : (ops[j]?).bind (·.dst) = some t) (ht : Nat.blt t n.nt = true) (hv : Env.get env t = undef) : Wt ops n env o false := by
  simp [Wt, Region.wanted, h, yielded, hd, fr_get? ht hv, undef]

theorem gl_bsl {t : Tmp} {T e s len : Nat} {parts : Array (Nat × Operand)} {vs : List Value} {css : List (List Value)} {cs : List Value} {z : List Value} (hw : Wt ops n env ⟨some t, .buildSlice T len parts, ty, pos, af, gd⟩ true)
    (ht : sliceT P T = some e) (hs : szT P e = some s) (hz : zcT P e = some z) (hp : parts.toList.map (fun p => (p.1, ev n env p.2)) = (List.range' 0 vs.length).zip vs) (hlen : vs.length = len) (hl : Nat.ble (len * s) 16777216 = true) (hl0 : Nat.ble len 16777216 = true) (hpos : Nat.blt 0 (len * s) = true)
    (hv : vs.map (fun v => v.cells.toList) = css) (hc : ∀ c ∈ css, c.length = s) (hcs : css.flatten = cs)
    (k : ∀ b, Gl P w0 F0 (rowR e s (some ⟨b, 0, none⟩) len len cs :: L) ops Q rest n ((t, .slice (some ⟨b, 0, none⟩) len len) :: env)) : Gl P w0 F0 L ops Q (⟨some t, .buildSlice T len parts, ty, pos, af, gd⟩ :: rest) n env := by
  have hflat : css.flatten.length = len * s := by
    have : ∀ (l : List (List Value)), (∀ c ∈ l, c.length = s) → l.flatten.length = l.length * s := by
      intro l
      induction l with
      | nil => simp
      | cons c l ih =>
        intro h
        rw [List.flatten_cons, List.length_append, ih (fun c' hc' => h c' (by simp [hc'])), h c (by simp), List.length_cons, Nat.add_mul, Nat.one_mul, Nat.add_comm]
    rw [this css hc, ← hlen, ← hv, List.length_map]
  rw [Nat.blt_eq] at hpos
  refine gl_bslice (cs := cs) hw ht hs (Nat.le_of_ble_eq_true hl) (Nat.le_of_ble_eq_true hl0) hpos hz ?_ (by rw [← hcs]; exact hflat) k
  rw [hp, ← hcs]
  have := fillL_row s vs css 0 [] ((List.range (len * s)).map fun i => z.toArray[i % z.length]!) (by simp) (by simp [hlen]) hv hc
  simpa using this
/-- One element of one cell. -/
theorem gl_bsl1 {t : Tmp} {T e : Nat} {x : Operand} {v : Value} {z : List Value} (hw : Wt ops n env ⟨some t, .buildSlice T 1 #[(0, x)], ty, pos, af, gd⟩ true) (ht : sliceT P T = some e) (hs : szT P e = some 1) (hz : zcT P e = some z)
    (hx : ev n env x = v) (h1 : v.oneCell' = true)
    (k : ∀ b, Gl P w0 F0 (rowR e 1 (some ⟨b, 0, none⟩) 1 1 [v] :: L) ops Q rest n ((t, .slice (some ⟨b, 0, none⟩) 1 1) :: env)) : Gl P w0 F0 L ops Q (⟨some t, .buildSlice T 1 #[(0, x)], ty, pos, af, gd⟩ :: rest) n env :=
  gl_bsl (vs := [v]) (css := [[v]]) hw ht hs hz (by simp [hx]) rfl rfl rfl rfl (by cases v <;> first | rfl | (simp [Value.oneCell'] at h1)) (by simp) (by simp) k
/-- One element of several cells. -/
theorem gl_bslN {t : Tmp} {T e s : Nat} {x : Operand} {cs : List Value} {z : List Value} (hw : Wt ops n env ⟨some t, .buildSlice T 1 #[(0, x)], ty, pos, af, gd⟩ true) (ht : sliceT P T = some e) (hs : szT P e = some s) (hz : zcT P e = some z)
    (hx : ev n env x = .agg cs.toArray) (hl : cs.length = s) (hb : Nat.ble (1 * s) 16777216 = true) (hp : Nat.blt 0 (1 * s) = true)
    (k : ∀ b, Gl P w0 F0 (rowR e s (some ⟨b, 0, none⟩) 1 1 cs :: L) ops Q rest n ((t, .slice (some ⟨b, 0, none⟩) 1 1) :: env)) : Gl P w0 F0 L ops Q (⟨some t, .buildSlice T 1 #[(0, x)], ty, pos, af, gd⟩ :: rest) n env :=
  gl_bsl (vs := [.agg cs.toArray]) (css := [cs]) hw ht hs hz (by simp [hx]) rfl hb rfl hp (by simp [Value.cells]) (by simpa using hl) (by simp) k
theorem r_ldNo {x : Operand} {T g o m : Nat} {seg : List Value} (hx : ev n env x = .pointer (some ⟨g, o, none⟩)) (hr : rowT P T = some true) (hs : szT P T = some m) (hg : w0.rangeAt g o seg) (hl : seg.length = m) (hp : 0 < m) (hn : ¬ F0 g) :
    Runs P w0 F0 L n env ⟨d, .load T x, ty, pos, af, gd⟩ (.agg seg.toArray) := r_load hx fun w ⟨F, hF, hst⟩ => by
  refine run_loadVar_agg hr hs hl fun j v hj => ?_
  have h0 := hg j v hj
  rw [World.cell?_of_block (hst.old (World.block_lt_of_cell? w0 _ h0) hn).1]; exact h0
theorem gc_pure1 {c : Code} {p : Prop} {L' : List Res} (hp : Pick L (pureR p) L') (k : p → Gc P w0 F0 L c Q n env) : Gc P w0 F0 L c Q n env := fun w hw => by
  have hw' := hw
  obtain ⟨F, hF, _⟩ := hw'
  obtain ⟨F1, h1, _⟩ := stars_pick hp hF
  exact k h1.2 w hw
theorem gc_regionS {id : Nat} {l : List Oper} (hm : P.follows .mixedOrders = true) (hB : Region.lexB .any l.toArray = true)
    (h : Gs P w0 F0 L l.toArray l n env (fun env' => Gx w0 F0 L Q .normal n env')) : Gc P w0 F0 L (.region id l.toArray true) Q n env := fun w hw => by
  refine wpIn_region_S hm hB ?_
  have hw' := hw.drawn (w.drawn + 1)
  refine wpStill_mono' (fun a ⟨env', ha, hC⟩ => ?_) (h _ hw')
  subst ha
  exact hC _ hw'
end short
end Go.Proofs.YthicckleihbomaaDoor

/- The engine, part H: words of 32 bits, elements of array values, loads out of rows that are owned. -/
namespace Go.Proofs.YthicckleihbomaaDoor
open Go
set_option linter.unusedVariables false
set_option linter.unusedSimpArgs false

section
variable {P : Program} {w0 : World} {F0 : Nat → Prop} {L : List Res} {Q : Exit → Act → World → Prop} {n : Fm} {env : Env} {ops : Array Oper} {rest : List Oper}
variable {d : Option Tmp} {ty : TypeId} {pos : String} {af : Array Edge} {gd : Option (Nat × Bool)}
/-- A cell of a row that is owned. -/
theorem r_ld1r {x : Operand} {T g o i e size m c : Nat} {xs : List Value} {L' : List Res} {v : Value} (hx : ev n env x = .pointer (some ⟨g, o + i, none⟩)) (hr : rowT P T = some false) (hp : Pick L (rowR e size (some ⟨g, o, none⟩) m c xs) L') (hv : xs[i]? = some v) :
    Runs P w0 F0 L n env ⟨d, .load T x, ty, pos, af, gd⟩ v := r_load hx fun w hs => run_loadVar_one hr (by
      have hm : 0 < m := by
        have hl := (hs.row hp).1
        have : i < xs.length := (List.getElem?_eq_some_iff.1 hv).1
        rcases Nat.eq_zero_or_pos m with h0 | h0
        · subst h0; simp at hl; subst hl; simp at this
        · exact h0
      obtain ⟨g', o', ha, _, _, hra⟩ := (hs.row hp).2.2 hm
      cases ha
      exact hra i v hv)
theorem ld_aggS {T g o T' m : Nat} {cs seg : List Value} {L' : List Res} (hr : rowT P T = some true) (hs : szT P T = some m) (hp : Pick L (blk g T' cs) L') (hg : (cs.drop o).take m = seg) (hl : seg.length = m) :
    ∀ w, St w0 F0 L w → (loadVar T ⟨g, o, none⟩).run P w = .ok (.agg seg.toArray) w := fun w hst => run_loadVar_agg hr hs hl fun j v hj => by
  rw [hst.cellOf hp, ← hj, ← hg, List.getElem?_take, List.getElem?_drop]
  rw [if_pos]
  rw [← hl]
  exact (List.getElem?_eq_some_iff.1 hj).1
theorem ld_oneS {T g o T' : Nat} {cs : List Value} {L' : List Res} {v : Value} (hr : rowT P T = some false) (hp : Pick L (blk g T' cs) L') (hv : cs[o]? = some v) :
    ∀ w, St w0 F0 L w → (loadVar T ⟨g, o, none⟩).run P w = .ok v w := fun w hs => run_loadVar_one hr ((hs.cellOf hp o).trans hv)
end

theorem St.rowLe {w0 w : World} {F0 : Nat → Prop} {L L' : List Res} {e size a m c xs} (hs : St w0 F0 L w) (hp : Pick L (rowR e size a m c xs) L') : m ≤ c ∧ c ≤ maxLen := by
  obtain ⟨F, hF, _⟩ := hs
  obtain ⟨F1, h1, _⟩ := stars_pick hp hF
  exact ⟨h1.2.1, h1.2.2.1⟩
/-- Cells that a function lays out. -/
def fnc {α : Type} (V : α → Value) (m : Nat) (f : Nat → α) : List Value := (List.range m).map fun j => V (f j)
theorem fnc_length {α : Type} {V : α → Value} {m : Nat} {f : Nat → α} : (fnc V m f).length = m := by simp [fnc]
end Go.Proofs.YthicckleihbomaaDoor

/- The engine, part I: digests and strings held against one another, bytes as a string. -/
namespace Go.Proofs.YthicckleihbomaaDoor
open Go
set_option linter.unusedVariables false
set_option linter.unusedSimpArgs false

def str (b : List UInt8) : ByteArray := ⟨b.toArray⟩
theorem str_toList (b : List UInt8) : (str b).toList = b := by rw [ByteArray.toList_eq]; rfl
theorem str_size (b : List UInt8) : (str b).size = b.length := by simp [str, ByteArray.size]
section
variable {P : Program} {w0 : World} {F0 : Nat → Prop} {L : List Res} {Q : Exit → Act → World → Prop} {n : Fm} {env : Env} {ops : Array Oper} {rest : List Oper}
variable {d : Option Tmp} {ty : TypeId} {pos : String} {af : Array Edge} {gd : Option (Nat × Bool)}
theorem r_eql_str {x y : Operand} {T T' : TypeId} {a b : List UInt8} (hx : ev n env x = .string (str a)) (hy : ev n env y = .string (str b)) :
    Runs P w0 F0 L n env ⟨d, .binOp .eql T x y T', ty, pos, af, gd⟩ (.bool (decide (a = b))) := fun w _ => by
  simp only [execOp, hx, hy]
  simp [eqGuard, binOp_string_eql, str_toList]
  by_cases h : a = b <;> simp [h]
theorem r_neq_str {x y : Operand} {T T' : TypeId} {a b : List UInt8} (hx : ev n env x = .string (str a)) (hy : ev n env y = .string (str b)) :
    Runs P w0 F0 L n env ⟨d, .binOp .neq T x y T', ty, pos, af, gd⟩ (.bool (!decide (a = b))) := fun w _ => by
  simp only [execOp, hx, hy]
  simp [eqGuard, binOp_string_neq, str_toList]
  by_cases h : a = b <;> simp [h]
end
end Go.Proofs.YthicckleihbomaaDoor

/- The engine, part Z: the rules in short: what they ask beside is found by itself. -/
namespace Go.Proofs.YthicckleihbomaaDoor
open Go
set_option linter.unusedVariables false
set_option linter.unusedSimpArgs false

/-- A list's length, found by instance. -/
class Len (l : List Value) (n : outParam Nat) : Prop where h : l.length = n
theorem Len.of {l : List Value} {n : Nat} (h : l.length = n) : Len l n := ⟨h⟩
instance {d : Dig} : Len (dc d) 16 := ⟨dc_length d⟩
instance : Len zD 16 := ⟨zD_length⟩
instance {α : Type} {V : α → Value} {m : Nat} {f : Nat → α} : Len (fnc V m f) m := ⟨fnc_length⟩
class One (l : List Value) : Prop where h : ∀ v ∈ l, v.oneCell' = true
theorem One.of {l : List Value} (h : ∀ v ∈ l, v.oneCell' = true) : One l := ⟨h⟩
class One1 (v : Value) : Prop where h : v.oneCell' = true
theorem len_L {l : List Value} {n : Nat} [Len l n] : l.length = n := Len.h
theorem drop_L {q r : List Value} {m k : Nat} [h : Len q m] (hk : m ≤ k) : List.drop k (q ++ r) = List.drop (k - m) r := drop_q h.h hk
theorem drop_L' {q : List Value} {m k : Nat} [h : Len q m] (hk : m ≤ k) : List.drop k q = [] := drop_q' h.h hk
theorem take_L {q r : List Value} {m k : Nat} [h : Len q m] (hk : m ≤ k) : List.take k (q ++ r) = q ++ List.take (k - m) r := take_q h.h hk
theorem take_L' {q : List Value} {m k : Nat} [h : Len q m] (hk : m ≤ k) : List.take k q = q := take_q' h.h hk
theorem get_L {q r : List Value} {m k : Nat} [h : Len q m] (hk : m ≤ k) : (q ++ r)[k]? = r[k - m]? := get_q h.h hk

section
variable {P : Program} {w0 : World} {F0 : Nat → Prop} {L : List Res} {Q : Exit → Act → World → Prop} {n : Fm} {env : Env} {ops : Array Oper} {rest : List Oper}
variable {d : Option Tmp} {t : Tmp} {op : Op} {ty : TypeId} {pos : String} {af : Array Edge} {gd : Option (Nat × Bool)} {v : Value}

theorem gp (h : Runs P w0 F0 L n env ⟨some t, op, ty, pos, af, gd⟩ v) (k : Gl P w0 F0 L ops Q rest n ((t, v) :: env)) (hw : Wt ops n env ⟨some t, op, ty, pos, af, gd⟩ true := by exact wt0 rfl) : Gl P w0 F0 L ops Q (⟨some t, op, ty, pos, af, gd⟩ :: rest) n env := gl_pure hw h k
theorem gq (h : Runs P w0 F0 L n env ⟨some t, op, ty, pos, af, gd⟩ v) (k : Gl P w0 F0 L ops Q rest n ((t, v) :: env)) (hw : Wt ops n env ⟨some t, op, ty, pos, af, gd⟩ true := by exact wtgT rfl rfl rfl rfl) : Gl P w0 F0 L ops Q (⟨some t, op, ty, pos, af, gd⟩ :: rest) n env := gl_pure hw h k
theorem gn (k : Gl P w0 F0 L ops Q rest n ((t, undef) :: env)) (hw : Wt ops n env ⟨some t, op, ty, pos, af, gd⟩ false := by first | exact wtgF rfl rfl rfl rfl rfl | exact wtu rfl rfl rfl rfl) : Gl P w0 F0 L ops Q (⟨some t, op, ty, pos, af, gd⟩ :: rest) n env := gl_passD hw k
theorem sp {C : Env → Prop} (h : Runs P w0 F0 L n env ⟨some t, op, ty, pos, af, gd⟩ v) (k : Gs P w0 F0 L ops rest n ((t, v) :: env) C) (hw : Wt ops n env ⟨some t, op, ty, pos, af, gd⟩ true := by exact wt0 rfl) : Gs P w0 F0 L ops (⟨some t, op, ty, pos, af, gd⟩ :: rest) n env C := gs_pure hw h k
theorem sq {C : Env → Prop} (h : Runs P w0 F0 L n env ⟨some t, op, ty, pos, af, gd⟩ v) (k : Gs P w0 F0 L ops rest n ((t, v) :: env) C) (hw : Wt ops n env ⟨some t, op, ty, pos, af, gd⟩ true := by exact wtgT rfl rfl rfl rfl) : Gs P w0 F0 L ops (⟨some t, op, ty, pos, af, gd⟩ :: rest) n env C := gs_pure hw h k
theorem sn {C : Env → Prop} (k : Gs P w0 F0 L ops rest n ((t, undef) :: env) C) (hw : Wt ops n env ⟨some t, op, ty, pos, af, gd⟩ false := by first | exact wtgF rfl rfl rfl rfl rfl | exact wtu rfl rfl rfl rfl) : Gs P w0 F0 L ops (⟨some t, op, ty, pos, af, gd⟩ :: rest) n env C := gs_passD hw k
theorem gsr {id : Nat} {l : List Oper} {y : Code} (h : Gl P w0 F0 L l.toArray (Exit.then (cwp n P y Q) Q) l n env) : Gc P w0 F0 L (.seq (.region id l.toArray false) y) Q n env := gc_seq (gc_region h)
theorem gnt {y : Code} {Q' : Exit → Act → World → Prop} (h : Gc P w0 F0 L y Q n env) : Gl P w0 F0 L ops (Exit.then (cwp n P y Q) Q') [] n env := gl_nil (gx_then h)
theorem zmv {x : Operand} (hx : ev n env x = v := by conv => lhs; whnf) : Runs P w0 F0 L n env ⟨d, .move x, ty, pos, af, gd⟩ v := r_move hx
theorem zas {x : Operand} (hx : ev n env x = v := by conv => lhs; whnf) : Runs P w0 F0 L n env ⟨d, .assign x, ty, pos, af, gd⟩ v := r_assign hx
theorem zpk {c x y : Operand} {b : Bool} (hc : ev n env c = .bool b := by exact rfl) (hv : (bif b then ev n env x else ev n env y) = v := by conv => lhs; whnf) : Runs P w0 F0 L n env ⟨d, .pick c x y, ty, pos, af, gd⟩ v := r_pick hc hv
theorem znc {x : Operand} {a : Addr} (hx : ev n env x = .pointer (some a) := by exact rfl) : Runs P w0 F0 L n env ⟨d, .nilCheck x, ty, pos, af, gd⟩ (.pointer (some a)) := r_nilCheck hx
theorem znt {x : Operand} {T : TypeId} {b : Bool} (hx : ev n env x = .bool b := by exact rfl) : Runs P w0 F0 L n env ⟨d, .unOp .not T x, ty, pos, af, gd⟩ (.bool (!b)) := r_not hx
theorem zex {x : Operand} {i : Nat} {vs : Array Value} (hx : ev n env x = .tuple vs := by exact rfl) (hv : vs[i]? = some v := by exact rfl) : Runs P w0 F0 L n env ⟨d, .extract x i, ty, pos, af, gd⟩ v := r_extract hx hv
theorem zmf {f : Fn} {cs : List Operand} {us : List Value} (hc : cs.map (ev n env) = us := by exact rfl) : Runs P w0 F0 L n env ⟨d, .makeFunc f #[] cs.toArray, ty, pos, af, gd⟩ (.func f #[] us.toArray) := r_makeF hc
theorem zad {x y : Operand} {T T' : TypeId} {k : IntKind} {i j m : Int} (hx : ev n env x = .int k i := by exact rfl) (hy : ev n env y = .int k j := by exact rfl) (h : k.wrap (i + j) = m := by first | exact wrap_i64 (by omega) (by omega) | exact rfl) : Runs P w0 F0 L n env ⟨d, .binOp .add T x y T', ty, pos, af, gd⟩ (.int k m) := r_arith (op := .add) hx hy h
theorem zsb {x y : Operand} {T T' : TypeId} {k : IntKind} {i j m : Int} (hx : ev n env x = .int k i := by exact rfl) (hy : ev n env y = .int k j := by exact rfl) (h : k.wrap (i - j) = m := by first | exact wrap_i64 (by omega) (by omega) | exact rfl) : Runs P w0 F0 L n env ⟨d, .binOp .sub T x y T', ty, pos, af, gd⟩ (.int k m) := r_arith (op := .sub) hx hy h
theorem zml {x y : Operand} {T T' : TypeId} {k : IntKind} {i j m : Int} (hx : ev n env x = .int k i := by exact rfl) (hy : ev n env y = .int k j := by exact rfl) (h : k.wrap (i * j) = m := by first | exact wrap_i64 (by omega) (by omega) | exact rfl) : Runs P w0 F0 L n env ⟨d, .binOp .mul T x y T', ty, pos, af, gd⟩ (.int k m) := r_arith (op := .mul) hx hy h
theorem zlt {x y : Operand} {T T' : TypeId} {k : IntKind} {i j : Int} (hx : ev n env x = .int k i := by exact rfl) (hy : ev n env y = .int k j := by exact rfl) : Runs P w0 F0 L n env ⟨d, .binOp .lss T x y T', ty, pos, af, gd⟩ (.bool (decide (i < j))) := r_lss hx hy
theorem zle {x y : Operand} {T T' : TypeId} {k : IntKind} {i j : Int} (hx : ev n env x = .int k i := by exact rfl) (hy : ev n env y = .int k j := by exact rfl) : Runs P w0 F0 L n env ⟨d, .binOp .leq T x y T', ty, pos, af, gd⟩ (.bool (decide (i ≤ j))) := r_leq hx hy
theorem zgt {x y : Operand} {T T' : TypeId} {k : IntKind} {i j : Int} (hx : ev n env x = .int k i := by exact rfl) (hy : ev n env y = .int k j := by exact rfl) : Runs P w0 F0 L n env ⟨d, .binOp .gtr T x y T', ty, pos, af, gd⟩ (.bool (decide (j < i))) := r_gtr hx hy
theorem zge {x y : Operand} {T T' : TypeId} {k : IntKind} {i j : Int} (hx : ev n env x = .int k i := by exact rfl) (hy : ev n env y = .int k j := by exact rfl) : Runs P w0 F0 L n env ⟨d, .binOp .geq T x y T', ty, pos, af, gd⟩ (.bool (decide (j ≤ i))) := r_geq hx hy
theorem zei {x y : Operand} {T T' : TypeId} {k : IntKind} {i j : Int} (hx : ev n env x = .int k i := by exact rfl) (hy : ev n env y = .int k j := by exact rfl) : Runs P w0 F0 L n env ⟨d, .binOp .eql T x y T', ty, pos, af, gd⟩ (.bool (decide (i = j))) := r_eql_int hx hy
theorem zni {x y : Operand} {T T' : TypeId} {k : IntKind} {i j : Int} (hx : ev n env x = .int k i := by exact rfl) (hy : ev n env y = .int k j := by exact rfl) : Runs P w0 F0 L n env ⟨d, .binOp .neq T x y T', ty, pos, af, gd⟩ (.bool (!decide (i = j))) := r_neq_int hx hy
theorem zbt {b : BinOp} {x y : Operand} {T T' : TypeId} {k : IntKind} {i j : Int} (hop : (match b with | .and | .or | .xor | .andNot => true | _ => false) = true := by exact rfl) (hx : ev n env x = .int k i := by exact rfl) (hy : ev n env y = .int k j := by exact rfl) : Runs P w0 F0 L n env ⟨d, .binOp b T x y T', ty, pos, af, gd⟩ (.int k (bitop b k i j)) := r_bits hop hx hy
theorem zhr {x y : Operand} {T T' : TypeId} {k k' : IntKind} {i j : Int} (hx : ev n env x = .int k i := by exact rfl) (hy : ev n env y = .int k' j := by exact rfl) (hj : 0 ≤ j := by omega) : Runs P w0 F0 L n env ⟨d, .binOp .shr T x y T', ty, pos, af, gd⟩ (.int k (i.fdiv (2 ^ (min j.toNat k.bits)))) := r_shr hx hy hj
theorem zrm {x y : Operand} {T T' : TypeId} {k : IntKind} {i j : Int} (hx : ev n env x = .int k i := by exact rfl) (hy : ev n env y = .int k j := by exact rfl) (hj : j ≠ 0 := by omega) : Runs P w0 F0 L n env ⟨d, .binOp .rem T x y T', ty, pos, af, gd⟩ (.int k (i.tmod j)) := r_rem hx hy hj
theorem zci {S T : TypeId} {x : Operand} {k k' : IntKind} {i : Int} {ds : TypeDesc} [UNT P S ds] [UNT P T (.int k')] (hx : ev n env x = .int k i := by exact rfl) : Runs P w0 F0 L n env ⟨d, .convert S T x, ty, pos, af, gd⟩ (.int k' (k'.wrap i)) := r_conv_int hx UNT.h UNT.h
theorem zln {x : Operand} {T e : TypeId} {a : Option Addr} {m c : Nat} [SLT P T e] (hx : ev n env x = .slice a m c := by exact rfl) : Runs P w0 F0 L n env ⟨d, .call ⟨.builtin .len, #[x], #[T]⟩, ty, pos, af, gd⟩ (.int .i64 m) := r_len_slice hx SLT.h
theorem zfa {x : Operand} {s f g o k : Nat} [FO P s f k] (hx : ev n env x = .pointer (some ⟨g, o, none⟩) := by exact rfl) : Runs P w0 F0 L n env ⟨d, .fieldAddr s x f, ty, pos, af, gd⟩ (.pointer (some ⟨g, o + k, none⟩)) := r_fieldAddr hx FO.h
theorem zia {x y : Operand} {T e g o m c s : Nat} {k : IntKind} {i : Int} [SLT P T e] [SZ P e s] (hx : ev n env x = .slice (some ⟨g, o, none⟩) m c := by exact rfl) (hy : ev n env y = .int k i := by exact rfl) (h0 : 0 ≤ i := by omega) (hm : i < m := by omega) : Runs P w0 F0 L n env ⟨d, .indexAddr T x y, ty, pos, af, gd⟩ (.pointer (some ⟨g, o + i.toNat * s, none⟩)) := r_indexAddr_slice hx hy SLT.h SZ.h h0 hm
theorem zl {x : Operand} {T g o T' : Nat} {cs : List Value} {L' : List Res} [RO P T] (hx : ev n env x = .pointer (some ⟨g, o, none⟩) := by exact rfl) (hp : Pick L (blk g T' cs) L' := by repeat (first | exact Pick.here | apply Pick.there)) (hv : cs[o]? = some v := by first | exact rfl | (simp only [List.getElem?_cons_succ, List.getElem?_cons_zero, List.cons_append, List.append_assoc, get_dc, get_L, Nat.reduceLeDiff, Nat.reduceSub, Nat.reduceAdd, Nat.le_refl]; exact rfl)) : Runs P w0 F0 L n env ⟨d, .load T x, ty, pos, af, gd⟩ v := r_ld1 hx RO.h hp hv
theorem zL {x : Operand} {T g o T' m : Nat} {cs sg : List Value} {L' : List Res} [RA P T] [SZ P T m] (hx : ev n env x = .pointer (some ⟨g, o, none⟩) := by exact rfl) (hp : Pick L (blk g T' cs) L' := by repeat (first | exact Pick.here | apply Pick.there)) (hg : (cs.drop o).take m = sg := by (simp only [List.drop_succ_cons, List.drop_zero, List.take_succ_cons, List.take_zero, List.cons_append, List.nil_append, List.append_assoc, drop_dc, drop_dc', take_dc, take_dc', drop_L, drop_L', take_L, take_L', Nat.reduceLeDiff, Nat.reduceSub, Nat.reduceAdd, Nat.le_refl, List.length_cons, List.length_append, List.length_nil, dc_length, len_L, List.drop_nil, List.take_nil, List.append_nil, List.length_map, List.length_replicate]; first | done | exact rfl)) (hl : sg.length = m := by first | exact rfl | (simp only [List.drop_succ_cons, List.drop_zero, List.take_succ_cons, List.take_zero, List.cons_append, List.nil_append, List.append_assoc, drop_dc, drop_dc', take_dc, take_dc', drop_L, drop_L', take_L, take_L', Nat.reduceLeDiff, Nat.reduceSub, Nat.reduceAdd, Nat.le_refl, List.length_cons, List.length_append, List.length_nil, dc_length, len_L, List.drop_nil, List.take_nil, List.append_nil, List.length_map, List.length_replicate]; first | done | omega)) : Runs P w0 F0 L n env ⟨d, .load T x, ty, pos, af, gd⟩ (.agg sg.toArray) := r_ldN hx RA.h SZ.h hp hg hl
theorem zes {x y : Operand} {T T' : TypeId} {a b : List UInt8} (hx : ev n env x = .string (str a) := by exact rfl) (hy : ev n env y = .string (str b) := by exact rfl) : Runs P w0 F0 L n env ⟨d, .binOp .eql T x y T', ty, pos, af, gd⟩ (.bool (decide (a = b))) := r_eql_str hx hy
theorem zns {x y : Operand} {T T' : TypeId} {a b : List UInt8} (hx : ev n env x = .string (str a) := by exact rfl) (hy : ev n env y = .string (str b) := by exact rfl) : Runs P w0 F0 L n env ⟨d, .binOp .neq T x y T', ty, pos, af, gd⟩ (.bool (!decide (a = b))) := r_neq_str hx hy
theorem cells_one {v : Value} [h : One1 v] : v.cells.toList = [v] := by have := h.h; cases v <;> first | rfl | (simp [Value.oneCell'] at this)
theorem fillL_cons {place : Nat → Option (Nat × Nat)} {cs cs' new out : List Value} {i o s : Nat} {u u' : Value} {r : List (Nat × Value)} (hp : place i = some (o, s)) (h0 : u = u') (hv : u'.cells.toList = new) (hl : new.length = s) (hle : o + s ≤ cs.length) (hu : updL cs o new = cs') (k : fillL place cs' r = some out) : fillL place cs ((i, u) :: r) = some out := by
  subst h0
  simp only [fillL, hp]
  rw [hv, if_pos ⟨hl, by rw [hl]; exact hle⟩, hu]; exact k
theorem zbu {T : TypeId} {parts : Array (Nat × Operand)} {zs cs : List Value} {pl : List (Nat × Nat)} [ZC P T zs] [PLT P T pl] (hf : fillL (pl[·]?) zs (parts.toList.map fun p => (p.1, ev n env p.2)) = some cs := by first | exact rfl | ((repeat (apply fillL_cons rfl (by conv => lhs; whnf) (by first | (simp only [Value.cells, List.toList_toArray]; first | done | exact rfl) | exact cells_one) (by first | exact rfl | (simp only [List.drop_succ_cons, List.drop_zero, List.take_succ_cons, List.take_zero, List.cons_append, List.nil_append, List.append_assoc, drop_dc, drop_dc', take_dc, take_dc', drop_L, drop_L', take_L, take_L', Nat.reduceLeDiff, Nat.reduceSub, Nat.reduceAdd, Nat.le_refl, List.length_cons, List.length_append, List.length_nil, dc_length, len_L, List.drop_nil, List.take_nil, List.append_nil, List.length_map, List.length_replicate]; first | done | omega)) (by first | exact rfl | (simp only [List.drop_succ_cons, List.drop_zero, List.take_succ_cons, List.take_zero, List.cons_append, List.nil_append, List.append_assoc, drop_dc, drop_dc', take_dc, take_dc', drop_L, drop_L', take_L, take_L', Nat.reduceLeDiff, Nat.reduceSub, Nat.reduceAdd, Nat.le_refl, List.length_cons, List.length_append, List.length_nil, dc_length, len_L, List.drop_nil, List.take_nil, List.append_nil, List.length_map, List.length_replicate]; first | done | omega)) (by (simp only [updL, List.drop_succ_cons, List.drop_zero, List.take_succ_cons, List.take_zero, List.cons_append, List.nil_append, List.append_assoc, drop_dc, drop_dc', take_dc, take_dc', drop_L, drop_L', take_L, take_L', Nat.reduceLeDiff, Nat.reduceSub, Nat.reduceAdd, Nat.le_refl, List.length_cons, List.length_append, List.length_nil, dc_length, len_L, List.drop_nil, List.take_nil, List.append_nil, List.length_map, List.length_replicate]; first | done | exact rfl)))); exact rfl)) : Runs P w0 F0 L n env ⟨d, .build T parts, ty, pos, af, gd⟩ (.agg cs.toArray) := r_build ZC.h PLT.h hf
theorem zal {T : TypeId} {cs : List Value} [ZC P T cs] (k : ∀ b, Gl P w0 F0 (blk b T cs :: L) ops Q rest n ((t, .pointer (some ⟨b, 0, none⟩)) :: env)) (hw : Wt ops n env ⟨some t, .alloc T, ty, pos, af, gd⟩ true := by first | exact wt0 rfl | exact wtgT rfl rfl rfl rfl) : Gl P w0 F0 L ops Q (⟨some t, .alloc T, ty, pos, af, gd⟩ :: rest) n env := gl_alloc hw ZC.h k
theorem zbN {T : TypeId} {x : Operand} {cs : List Value} (k : ∀ b, Gl P w0 F0 (blk b T cs :: L) ops Q rest n ((t, .pointer (some ⟨b, 0, none⟩)) :: env)) (hx : ev n env x = .agg cs.toArray := by exact rfl) (hw : Wt ops n env ⟨some t, .box T x, ty, pos, af, gd⟩ true := by first | exact wt0 rfl | exact wtgT rfl rfl rfl rfl) : Gl P w0 F0 L ops Q (⟨some t, .box T x, ty, pos, af, gd⟩ :: rest) n env := gl_boxN hw hx k
theorem zb1 {T : TypeId} {x : Operand} (k : ∀ b, Gl P w0 F0 (blk b T [v] :: L) ops Q rest n ((t, .pointer (some ⟨b, 0, none⟩)) :: env)) (hx : ev n env x = v := by conv => lhs; whnf) (h1 : v.oneCell' = true := by first | exact rfl | exact One1.h) (hw : Wt ops n env ⟨some t, .box T x, ty, pos, af, gd⟩ true := by first | exact wt0 rfl | exact wtgT rfl rfl rfl rfl) : Gl P w0 F0 L ops Q (⟨some t, .box T x, ty, pos, af, gd⟩ :: rest) n env := gl_box1 hw hx h1 k
theorem zs1 {T : TypeId} {x y : Operand} {g o T' : Nat} {cs cs' : List Value} {L' : List Res} [SZ P T 1] (k : Gl P w0 F0 (blk g T' cs' :: L') ops Q rest n env) (hx : ev n env x = .pointer (some ⟨g, o, none⟩) := by exact rfl) (hy : ev n env y = v := by conv => lhs; whnf) (h1 : v.oneCell' = true := by first | exact rfl | exact One1.h) (hp : Pick L (blk g T' cs) L' := by repeat (first | exact Pick.here | apply Pick.there)) (hl : o + 1 ≤ cs.length := by first | exact rfl | (simp only [List.drop_succ_cons, List.drop_zero, List.take_succ_cons, List.take_zero, List.cons_append, List.nil_append, List.append_assoc, drop_dc, drop_dc', take_dc, take_dc', drop_L, drop_L', take_L, take_L', Nat.reduceLeDiff, Nat.reduceSub, Nat.reduceAdd, Nat.le_refl, List.length_cons, List.length_append, List.length_nil, dc_length, len_L, List.drop_nil, List.take_nil, List.append_nil, List.length_map, List.length_replicate]; first | done | omega)) (hu : updL cs o [v] = cs' := by (simp only [updL, List.drop_succ_cons, List.drop_zero, List.take_succ_cons, List.take_zero, List.cons_append, List.nil_append, List.append_assoc, drop_dc, drop_dc', take_dc, take_dc', drop_L, drop_L', take_L, take_L', Nat.reduceLeDiff, Nat.reduceSub, Nat.reduceAdd, Nat.le_refl, List.length_cons, List.length_append, List.length_nil, dc_length, len_L, List.drop_nil, List.take_nil, List.append_nil, List.length_map, List.length_replicate]; first | done | exact rfl)) (hw : Wt ops n env ⟨none, .store T x y, ty, pos, af, gd⟩ true := by first | exact wt0 rfl | exact wtgT rfl rfl rfl rfl) : Gl P w0 F0 L ops Q (⟨none, .store T x y, ty, pos, af, gd⟩ :: rest) n env := gl_store1 hw hx hy h1 SZ.h hp hl hu k
theorem zsN {T : TypeId} {x y : Operand} {g o T' m : Nat} {cs new cs' : List Value} {L' : List Res} [SZ P T m] (k : Gl P w0 F0 (blk g T' cs' :: L') ops Q rest n env) (hx : ev n env x = .pointer (some ⟨g, o, none⟩) := by exact rfl) (hy : ev n env y = .agg new.toArray := by exact rfl) (hm : new.length = m := by first | exact rfl | (simp only [List.drop_succ_cons, List.drop_zero, List.take_succ_cons, List.take_zero, List.cons_append, List.nil_append, List.append_assoc, drop_dc, drop_dc', take_dc, take_dc', drop_L, drop_L', take_L, take_L', Nat.reduceLeDiff, Nat.reduceSub, Nat.reduceAdd, Nat.le_refl, List.length_cons, List.length_append, List.length_nil, dc_length, len_L, List.drop_nil, List.take_nil, List.append_nil, List.length_map, List.length_replicate]; first | done | omega)) (hp : Pick L (blk g T' cs) L' := by repeat (first | exact Pick.here | apply Pick.there)) (hl : o + m ≤ cs.length := by first | exact rfl | (simp only [List.drop_succ_cons, List.drop_zero, List.take_succ_cons, List.take_zero, List.cons_append, List.nil_append, List.append_assoc, drop_dc, drop_dc', take_dc, take_dc', drop_L, drop_L', take_L, take_L', Nat.reduceLeDiff, Nat.reduceSub, Nat.reduceAdd, Nat.le_refl, List.length_cons, List.length_append, List.length_nil, dc_length, len_L, List.drop_nil, List.take_nil, List.append_nil, List.length_map, List.length_replicate]; first | done | omega)) (h1 : ∀ u ∈ new, u.oneCell' = true := by repeat (first | exact all_nil' | exact dc_one _ | exact One.h | refine all_cons' rfl ?_ | refine all_cons' One1.h ?_ | refine all_app' (dc_one _) ?_ | refine all_app' One.h ?_)) (hu : updL cs o new = cs' := by (simp only [updL, List.drop_succ_cons, List.drop_zero, List.take_succ_cons, List.take_zero, List.cons_append, List.nil_append, List.append_assoc, drop_dc, drop_dc', take_dc, take_dc', drop_L, drop_L', take_L, take_L', Nat.reduceLeDiff, Nat.reduceSub, Nat.reduceAdd, Nat.le_refl, List.length_cons, List.length_append, List.length_nil, dc_length, len_L, List.drop_nil, List.take_nil, List.append_nil, List.length_map, List.length_replicate]; first | done | exact rfl)) (hw : Wt ops n env ⟨none, .store T x y, ty, pos, af, gd⟩ true := by first | exact wt0 rfl | exact wtgT rfl rfl rfl rfl) : Gl P w0 F0 L ops Q (⟨none, .store T x y, ty, pos, af, gd⟩ :: rest) n env := gl_storeN hw hx hy SZ.h hm hp hl h1 hu k
theorem zsA {T : TypeId} {x y : Operand} {g T' m : Nat} {cs new : List Value} {L' : List Res} [SZ P T m] (hm : new.length = m) (h1 : ∀ u ∈ new, u.oneCell' = true) (k : Gl P w0 F0 (blk g T' new :: L') ops Q rest n env) (hx : ev n env x = .pointer (some ⟨g, 0, none⟩) := by exact rfl) (hy : ev n env y = .agg new.toArray := by exact rfl) (hp : Pick L (blk g T' cs) L' := by repeat (first | exact Pick.here | apply Pick.there)) (hl : cs.length = m := by first | exact rfl | (simp only [List.drop_succ_cons, List.drop_zero, List.take_succ_cons, List.take_zero, List.cons_append, List.nil_append, List.append_assoc, drop_dc, drop_dc', take_dc, take_dc', drop_L, drop_L', take_L, take_L', Nat.reduceLeDiff, Nat.reduceSub, Nat.reduceAdd, Nat.le_refl, List.length_cons, List.length_append, List.length_nil, dc_length, len_L, List.drop_nil, List.take_nil, List.append_nil, List.length_map, List.length_replicate]; first | done | omega)) (hw : Wt ops n env ⟨none, .store T x y, ty, pos, af, gd⟩ true := by first | exact wt0 rfl | exact wtgT rfl rfl rfl rfl) : Gl P w0 F0 L ops Q (⟨none, .store T x y, ty, pos, af, gd⟩ :: rest) n env := gl_storeN hw hx hy SZ.h hm hp (by omega) h1 (updL_all (by omega)) k
theorem ze0 {T e s : Nat} [SLT P T e] [SZ P e s] (k : ∀ b, Gl P w0 F0 (rowR e s (some ⟨b, 0, none⟩) 0 0 [] :: L) ops Q rest n ((t, .slice (some ⟨b, 0, none⟩) 0 0) :: env)) (hw : Wt ops n env ⟨some t, .buildSlice T 0 #[], ty, pos, af, gd⟩ true := by first | exact wt0 rfl | exact wtgT rfl rfl rfl rfl) : Gl P w0 F0 L ops Q (⟨some t, .buildSlice T 0 #[], ty, pos, af, gd⟩ :: rest) n env := gl_bslice0 hw SLT.h SZ.h k
theorem ze1 {T e : Nat} {x : Operand} {z : List Value} [SLT P T e] [SZ P e 1] [ZC P e z] (k : ∀ b, Gl P w0 F0 (rowR e 1 (some ⟨b, 0, none⟩) 1 1 [v] :: L) ops Q rest n ((t, .slice (some ⟨b, 0, none⟩) 1 1) :: env)) (hx : ev n env x = v := by conv => lhs; whnf) (h1 : v.oneCell' = true := by first | exact rfl | exact One1.h) (hw : Wt ops n env ⟨some t, .buildSlice T 1 #[(0, x)], ty, pos, af, gd⟩ true := by first | exact wt0 rfl | exact wtgT rfl rfl rfl rfl) : Gl P w0 F0 L ops Q (⟨some t, .buildSlice T 1 #[(0, x)], ty, pos, af, gd⟩ :: rest) n env := gl_bsl1 hw SLT.h SZ.h ZC.h hx h1 k
theorem zeN {T e s : Nat} {x : Operand} {cs z : List Value} [SLT P T e] [SZ P e s] [ZC P e z] (k : ∀ b, Gl P w0 F0 (rowR e s (some ⟨b, 0, none⟩) 1 1 cs :: L) ops Q rest n ((t, .slice (some ⟨b, 0, none⟩) 1 1) :: env)) (hx : ev n env x = .agg cs.toArray := by exact rfl) (hl : cs.length = s := by first | exact rfl | (simp only [List.drop_succ_cons, List.drop_zero, List.take_succ_cons, List.take_zero, List.cons_append, List.nil_append, List.append_assoc, drop_dc, drop_dc', take_dc, take_dc', drop_L, drop_L', take_L, take_L', Nat.reduceLeDiff, Nat.reduceSub, Nat.reduceAdd, Nat.le_refl, List.length_cons, List.length_append, List.length_nil, dc_length, len_L, List.drop_nil, List.take_nil, List.append_nil, List.length_map, List.length_replicate]; first | done | omega)) (hb : Nat.ble (1 * s) 16777216 = true := by exact rfl) (hp : Nat.blt 0 (1 * s) = true := by exact rfl) (hw : Wt ops n env ⟨some t, .buildSlice T 1 #[(0, x)], ty, pos, af, gd⟩ true := by first | exact wt0 rfl | exact wtgT rfl rfl rfl rfl) : Gl P w0 F0 L ops Q (⟨some t, .buildSlice T 1 #[(0, x)], ty, pos, af, gd⟩ :: rest) n env := gl_bslN hw SLT.h SZ.h ZC.h hx hl hb hp k
theorem zc {f : FuncId} {xs : List Operand} {ts : Array TypeId} {vs : List Value} {L' M : List Res} {α : Type} {V : α → Value} {N : α → List Res} [CLT P f] (k : ∀ x, Gl P w0 F0 (N x ++ L') ops Q rest n ((t, V x) :: env)) (hv : xs.map (ev n env) = vs := by exact rfl) (hs : Sel L M L' := by repeat (first | exact Sel.nil | (apply Sel.cons; · (repeat (first | exact Pick.here | apply Pick.there))))) (c : ∀ w F1 F2, stars M w F1 → stars L' w F2 → (∀ k, F1 k → ¬ F2 k) → Stp w0 F0 w (fun k => F1 k ∨ F2 k) → Calls P f vs.toArray w (Post w F1 V N)) (hw : Wt ops n env ⟨some t, .call ⟨.value (.func f), xs.toArray, ts⟩, ty, pos, af, gd⟩ true := by first | exact wt0 rfl | exact wtgT rfl rfl rfl rfl) : Gl P w0 F0 L ops Q (⟨some t, .call ⟨.value (.func f), xs.toArray, ts⟩, ty, pos, af, gd⟩ :: rest) n env := gl_call hw (e_call CLT.h hv) hs c k
theorem ze {α : Type} {V : α → Value} {N : α → List Res} {L' : List Res} (x : α) (hv : v = V x := by exact rfl) (hs : Sel L (N x) L' := by repeat (first | exact Sel.nil | (apply Sel.cons; · (repeat (first | exact Pick.here | apply Pick.there))))) : ∀ w, St w0 F0 L w → Post w0 F0 V N (.returned v) w := fun w hw => ⟨x, by rw [hv], hw.sel hs⟩
/-- What a test says, both ways. -/
class BP (b : Bool) (p q : outParam Prop) : Prop where
  t : b = true → p
  f : b = false → q
instance (priority := 10) {b : Bool} : BP b (b = true) (b = false) := ⟨id, id⟩
instance (priority := 100) {p : Prop} [Decidable p] : BP (decide p) p (¬ p) := ⟨of_decide_eq_true, of_decide_eq_false⟩
instance {i j : Int} [Decidable (i < j)] : BP (decide (i < j)) (i < j) (j ≤ i) := ⟨of_decide_eq_true, fun h => Int.not_lt.1 (of_decide_eq_false h)⟩
instance {i j : Int} [Decidable (i ≤ j)] : BP (decide (i ≤ j)) (i ≤ j) (j < i) := ⟨of_decide_eq_true, fun h => Int.not_le.1 (of_decide_eq_false h)⟩
instance {i j : Nat} [Decidable (i < j)] : BP (decide (i < j)) (i < j) (j ≤ i) := ⟨of_decide_eq_true, fun h => Nat.not_lt.1 (of_decide_eq_false h)⟩
instance {i j : Nat} [Decidable (i ≤ j)] : BP (decide (i ≤ j)) (i ≤ j) (j < i) := ⟨of_decide_eq_true, fun h => Nat.not_le.1 (of_decide_eq_false h)⟩
instance {b : Bool} {p q : Prop} [h : BP b p q] : BP (!b) q p := ⟨fun e => h.f (by simpa using e), fun e => h.t (by simpa using e)⟩
instance {a b : Bool} {p q p' q' : Prop} [h : BP a p q] [h' : BP b p' q'] : BP (a && b) (p ∧ p') (q ∨ q') := ⟨fun e => by simp at e; exact ⟨h.t e.1, h'.t e.2⟩, fun e => by cases a <;> cases b <;> simp at e <;> first | exact .inl (h.f rfl) | exact .inr (h'.f rfl)⟩
instance {a b : Bool} {p q p' q' : Prop} [h : BP a p q] [h' : BP b p' q'] : BP (a || b) (p ∨ p') (q ∧ q') := ⟨fun e => by cases a <;> cases b <;> simp at e <;> first | exact .inl (h.t rfl) | exact .inr (h'.t rfl), fun e => by simp at e; exact ⟨h.f e.1, h'.f e.2⟩⟩
theorem gif {c : Operand} {x y : Code} {b : Bool} {p q : Prop} (hc : ev n env c = .bool b) [h : BP b p q] (ht : p → Gc P w0 F0 L x Q n env) (hf : q → Gc P w0 F0 L y Q n env) : Gc P w0 F0 L (.cond c x y) Q n env := gc_cond hc (fun e => ht (h.t e)) (fun e => hf (h.f e))
/-- A round is over. -/
theorem zrd {α : Type} {Ls : α → List Res} {slots : α → Env} {junk : List Nat} {μ : α → Nat} {env0 : Env} {m : Nat} {a0 : α} {u : Nat → Value} {f : List Nat} (a : α) (hm : μ a < m) (hL : ∀ w, St w0 F0 L w → St w0 F0 (Ls a) w)
    (hf : Front (headE slots junk env0 a0 u) env f := by repeat (first | exact Front.here | apply Front.there)) (hs : (slots a).map (fun p => Env.get env p.1) = (slots a).map Prod.snd := by kernel_rfl)
    (hk : f.all (fun t => ((slots a).map Prod.fst).contains t || junk.contains t) = true := by kernel_rfl) (hkeys : (slots a0).map Prod.fst = (slots a).map Prod.fst := by rfl) :
    Gx w0 F0 L (Exit.then (RoundK w0 F0 Ls slots junk μ n env0 m) Q) .normal n env := gx_round a (env_next hf hs hk hkeys) hm hL
theorem zlp {p : Prop} {L' M : List Res} (hp : p) (hs : Sel L M L' := by repeat (first | exact Sel.nil | (apply Sel.cons; · (repeat (first | exact Pick.here | apply Pick.there))))) : ∀ w, St w0 F0 L w → St w0 F0 (pureR p :: M) w := fun w hw => by
  obtain ⟨F', hF', hst'⟩ := hw.sel hs
  exact ⟨F', stars_pure_mk hp hF', hst'⟩
theorem zapo {T : Nat} {x y : Operand} {e size bytes m c j c2 : Nat} {a a2 : Option Addr} {xs news : List Value} {L' L2 : List Res} [ELT P T e size bytes] (k : ∀ a' c', Gl P w0 F0 (rowR e size a' (m + j) c' (xs ++ news) :: L') ops Q rest n ((t, .slice a' (m + j) c') :: env)) (hx : ev n env x = .slice a m c := by exact rfl) (hy : ev n env y = .slice a2 j c2 := by exact rfl) (hp : Pick L (rowR e size a m c xs) L' := by repeat (first | exact Pick.here | apply Pick.there)) (hq : Pick L (rowR e size a2 j c2 news) L2 := by repeat (first | exact Pick.here | apply Pick.there)) (h1 : ∀ u ∈ news, u.oneCell' = true := by repeat (first | exact all_nil' | exact dc_one _ | exact One.h | refine all_cons' rfl ?_ | refine all_cons' One1.h ?_ | refine all_app' (dc_one _) ?_ | refine all_app' One.h ?_)) (hb : (m + j) * bytes ≤ 140737488355328 := by omega) (h63 : m + j ≤ maxLen := by simp only [maxLen]; omega) (hw : Wt ops n env ⟨some t, .call ⟨.builtin .append, #[x, y], #[T, T]⟩, ty, pos, af, gd⟩ true := by first | exact wt0 rfl | exact wtgT rfl rfl rfl rfl) : Gl P w0 F0 L ops Q (⟨some t, .call ⟨.builtin .append, #[x, y], #[T, T]⟩, ty, pos, af, gd⟩ :: rest) n env := gl_append hw hx hy hp ELT.h (fun w hw => hw.row hq) h1 h63 hb k
end
/-! ### Regions that draw their order, one behind the other: what yields whatever comes is taken first, what is left must come one by one -/
theorem wpIn_exits {ro : Option Nat} {P : Program} {o : Oper} {a : Act} {w : World} {K : Act → World → Prop} {Q : Exit → Act → World → Prop} (h : o.wpIn (FR ro) 0 P a w K (Exit.then K Q)) : o.wpIn (FR ro) 0 P a w K Q := by
  unfold Oper.wpIn at *
  refine ⟨h.1, ?_⟩
  have h := h.2
  generalize (o.semAt (FR ro).round a.eval).run P w = r at *
  cases r with
  | ok m w' =>
    cases m with
    | enter f args => exact ⟨h.1, CallsIn.mono h.2 fun e w'' he => by cases e <;> exact he⟩
    | round l f tmps asg bd => exact ⟨h.1, RoundIn.mono h.2 fun e w'' he => by cases e <;> exact he⟩
    | _ => exact h
  | halt x w' => cases x <;> exact h
/-- Whatever order is picked, S holding behind each operation. -/
def wpAnyHI (ro : Option Nat) (P : Program) (md : Region.Mode) (ops : Array Oper) (Q : Exit → Act → World → Prop) (S : World → Prop) : Nat → Array Bool → Act → World → Prop
  | 0, listed, a, w => Region.ready md ops listed = [] ∧ Q .normal a w
  | fuel + 1, listed, a, w =>
    (Region.ready md ops listed = [] → Q .normal a w) ∧
    ∀ i ∈ Region.ready md ops listed, wpOpIn (FR ro) 0 P ops Q i (fun a' w' => S w' ∧ wpAnyHI ro P md ops Q S fuel (listed.setIfInBounds i true) a' w') a w
section heldI
variable {ro : Option Nat} {P : Program} {ops : Array Oper} {Q : Exit → Act → World → Prop} {md : Region.Mode} {S : World → Prop}
theorem wpAnyIn_of_held : ∀ (fuel : Nat) (listed : Array Bool) (a : Act) (w : World), wpAnyHI ro P md ops Q S fuel listed a w → wpAnyIn (FR ro) 0 P md ops Q fuel listed a w
  | 0, _, _, _, h => h
  | fuel + 1, _, _, _, h => ⟨h.1, fun i hi => wpOpIn_mono (fun a' w' h' => wpAnyIn_of_held fuel _ a' w' h'.2) (h.2 i hi)⟩
theorem wpAnyHI_first {i : Nat} {oi : Oper} {v : Value} (hi : ops[i]? = some oi) (hsel : ∀ (j : Nat) (o : Oper) cs b, ops[j]? = some o → o.op ≠ .select cs b) (hnd : noDef ops = true)
    (hQ : ∀ c a w, Q (.panic c) (a.put oi.dst v) w → Q (.panic c) a w) :
    ∀ (fuel : Nat) (listed : Array Bool) (a : Act) (w : World),
      (∀ j oj, ops[j]? = some oj → j ≠ i → listed.getD j true = false → (∀ e ∈ oj.after, Region.binds md e = true → e.on ≠ i) → oi.apart ops oj = true) →
      i ∈ Region.ready md ops listed → YieldsIf P ops S oi v a → S w →
      wpAnyHI ro P md ops Q S fuel (listed.setIfInBounds i true) (a.put oi.dst v) w → wpAnyHI ro P md ops Q S (fuel + 1) listed a w := by
  intro fuel
  induction fuel with
  | zero =>
    intro listed a w _ hr hy hS H
    refine ⟨fun h => (by rw [h] at hr; cases hr), fun j hj => ?_⟩
    by_cases hji : j = i
    · subst hji; exact YieldsIf.wpOpIn hi hy hS ⟨hS, H⟩
    · have := ready_mono hj hji
      rw [H.1] at this
      cases this
  | succ fuel ih =>
    intro listed a w hfree hr hy hS H
    refine ⟨fun h => (by rw [h] at hr; cases hr), fun j hj => ?_⟩
    by_cases hji : j = i
    · subst hji; exact YieldsIf.wpOpIn hi hy hS ⟨hS, H⟩
    · have h1 := H.2 j (ready_mono hj hji)
      obtain ⟨hjun, oj, hoj, hall⟩ := mem_ready.1 hj
      have hnot : ∀ e ∈ oj.after, Region.binds md e = true → e.on ≠ i := fun e he hb heq => by
        have h1 := hall e he hb
        have h0 := (mem_ready.1 hr).1
        rw [heq] at h1
        rcases Nat.lt_or_ge i listed.size with h' | h'
        · simp [h'] at h0 h1; rw [h0] at h1; cases h1
        · simp [Array.getElem?_eq_none h'] at h1
      have h2 := wpOpIn_putIf hoj (hfree j oj hoj hji hjun hnot) (fun cs b => hsel i oi cs b hi) (fun cs b => hsel j oj cs b hoj) (noDef_spec hnd hoj) hQ hy h1
      have hfree' : ∀ k ok, ops[k]? = some ok → k ≠ i → (listed.setIfInBounds j true).getD k true = false →
          (∀ e ∈ ok.after, Region.binds md e = true → e.on ≠ i) → oi.apart ops ok = true := fun k ok hk hki hun hno => by
        refine hfree k ok hk hki ?_ hno
        by_cases hjk : j = k
        · subst hjk; exact hjun
        · rw [getD_set_ne true hjk] at hun; exact hun
      refine wpOpIn_mono (fun a' w' h3 => ⟨h3.2.1, ih (listed.setIfInBounds j true) a' w' hfree' (ready_mono hr (Ne.symm hji)) h3.1 h3.2.1 ?_⟩) h2
      rw [Array.setIfInBounds_comm _ _ hji]
      exact h3.2.2
theorem wpOpIn_of_list {i : Nat} {o : Oper} {K : Act → World → Prop} {a : Act} {w : World} (hi : ops[i]? = some o) (h : wpListIn (FR ro) 0 P ops (Exit.then K Q) [o] a w) : wpOpIn (FR ro) 0 P ops Q i K a w := by
  unfold Go.wpOpIn
  simp only [hi]
  unfold wpListIn at h
  split
  · rename_i hw
    rw [if_pos hw] at h
    exact wpIn_exits h
  · rename_i hw
    rw [if_neg hw] at h
    exact h
theorem wpOpIn_of_list' {i : Nat} {o : Oper} {a : Act} {w : World} (hi : ops[i]? = some o) (h : wpListIn (FR ro) 0 P ops Q [o] a w) : wpOpIn (FR ro) 0 P ops Q i (Q .normal) a w := by
  unfold Go.wpOpIn
  simp only [hi]
  unfold wpListIn at h
  split
  · rename_i hw
    rw [if_pos hw] at h
    exact h
  · rename_i hw
    rw [if_neg hw] at h
    exact h
end heldI
def Gh (P : Program) (w0 : World) (F0 : Nat → Prop) (K L : List Res) (ops : Array Oper) (Q : Exit → Act → World → Prop) (fuel : Nat) (listed : Array Bool) (n : Fm) (env : Env) : Prop :=
  ∀ w, St w0 F0 L w → wpAnyHI n.ro P .any ops Q (St w0 F0 K) fuel listed (fr n env) w
def NextH (P : Program) (w0 : World) (F0 : Nat → Prop) (K : List Res) (ops : Array Oper) (Q : Exit → Act → World → Prop) (fuel : Nat) (listed : Array Bool) (n : Fm) (a : Act) (w : World) : Prop :=
  St w0 F0 K w ∧ wpAnyHI n.ro P .any ops Q (St w0 F0 K) fuel listed a w
section held
variable {P : Program} {w0 : World} {F0 : Nat → Prop} {K L : List Res} {Q : Exit → Act → World → Prop} {n : Fm} {env : Env} {ops : Array Oper} {listed : Array Bool} {fuel : Nat}
theorem gc_regionH {id : Nat} {l : List Oper} (K : List Res) (h : Gh P w0 F0 K L l.toArray Q l.length (Array.replicate l.length false) n env) (hm : P.follows .mixedOrders = true := by kernel_rfl) : Gc P w0 F0 L (.region id l.toArray true) Q n env := fun w hw =>
  wpIn_region_any hm (wpAnyIn_of_held _ _ _ _ (by have := h _ (hw.drawn (w.drawn + 1)); simpa using this))
/-- Number i is taken first. -/
theorem yp (i : Nat) {t : Tmp} {op : Op} {ty : TypeId} {pos : String} {af : Array Edge} {gd : Option (Nat × Bool)} {v : Value} {L' : List Res} (hi : ops[i]? = some ⟨some t, op, ty, pos, af, gd⟩) (hR : Runs P w0 F0 K n env ⟨some t, op, ty, pos, af, gd⟩ v)
    (k : Gh P w0 F0 K L ops Q fuel (listed.setIfInBounds i true) n ((t, v) :: env)) (hw : Wt ops n env ⟨some t, op, ty, pos, af, gd⟩ true := by first | exact wt0 rfl | exact wtgT rfl rfl rfl rfl) (hsel : Sel L K L' := by repeat (first | exact Sel.nil | (apply Sel.cons; · (repeat (first | exact Pick.here | apply Pick.there)))))
    (hs : Region.noSelect ops = true := by kernel_rfl) (hd : noDef ops = true := by kernel_rfl) (hf : Region.free .any ops listed i = true := by kernel_rfl) (hr : (Region.ready .any ops listed).contains i = true := by kernel_rfl)
    (hQ : ∀ c a w, Q (.panic c) (a.put (some t) v) w → Q (.panic c) a w := by exact fun _ _ _ h => h) : Gh P w0 F0 K L ops Q (fuel + 1) listed n env := fun w hst =>
  wpAnyHI_first hi (Region.noSelect_spec hs) hd hQ fuel listed _ _ (Region.free_spec hi hf) (by simpa using hr) (.inl ⟨hw, fun w' hw' => by rw [fr_eval]; exact hR w' hw'⟩) (hst.sel hsel) (by rw [fr_put]; exact k w hst)
/-- Just number i may come. -/
theorem yo (i : Nat) {o : Oper} (hi : ops[i]? = some o) (k : Gl P w0 F0 L ops (Exit.then (NextH P w0 F0 K ops Q fuel (listed.setIfInBounds i true) n) Q) [o] n env) (hr : Region.ready .any ops listed = [i] := by kernel_rfl) : Gh P w0 F0 K L ops Q (fuel + 1) listed n env := fun w hst =>
  ⟨fun h => (by rw [hr] at h; cases h), fun j hj => by
    rw [hr] at hj
    obtain rfl : j = i := by simpa using hj
    exact wpOpIn_of_list hi (k w hst)⟩
/-- Behind it the next. -/
theorem yx {L' : List Res} {Q' : Exit → Act → World → Prop} (k : Gh P w0 F0 K L ops Q fuel listed n env) (hsel : Sel L K L' := by repeat (first | exact Sel.nil | (apply Sel.cons; · (repeat (first | exact Pick.here | apply Pick.there))))) : Gl P w0 F0 L ops (Exit.then (NextH P w0 F0 K ops Q fuel listed n) Q') [] n env := gl_nil fun w hw => ⟨hw.sel hsel, k w hw⟩
/-- All have come. -/
theorem yd {fuel : Nat} (h : Gx w0 F0 L Q .normal n env) (hr : Region.ready .any ops listed = [] := by kernel_rfl) : Gh P w0 F0 K L ops Q fuel listed n env := fun w hw => (by cases fuel with | zero => exact ⟨hr, h w hw⟩ | succ f => exact ⟨fun _ => h w hw, by rw [hr]; simp⟩)
end held
/-! ### The same, the last operation waiting for all others: what it does needn't keep K -/
section tail
variable {ro : Option Nat} {P : Program} {ops : Array Oper} {Q : Exit → Act → World → Prop} {md : Region.Mode} {S : World → Prop} {z : Nat} {T : Act → World → Prop}
def wpAnyT (ro : Option Nat) (P : Program) (md : Region.Mode) (ops : Array Oper) (Q : Exit → Act → World → Prop) (S : World → Prop) (z : Nat) (T : Act → World → Prop) : Nat → Array Bool → Act → World → Prop
  | 0, listed, a, w => Region.ready md ops listed = [z] ∧ T a w
  | fuel + 1, listed, a, w =>
    (Region.ready md ops listed = [z] → T a w) ∧ Region.ready md ops listed ≠ [] ∧
    ∀ i ∈ Region.ready md ops listed, i ≠ z → wpOpIn (FR ro) 0 P ops Q i (fun a' w' => S w' ∧ wpAnyT ro P md ops Q S z T fuel (listed.setIfInBounds i true) a' w') a w
theorem wpAnyT_first {i : Nat} {oi : Oper} {v : Value} (hi : ops[i]? = some oi) (hz : i ≠ z) (hsel : ∀ (j : Nat) (o : Oper) cs b, ops[j]? = some o → o.op ≠ .select cs b) (hnd : noDef ops = true)
    (hQ : ∀ c a w, Q (.panic c) (a.put oi.dst v) w → Q (.panic c) a w) :
    ∀ (fuel : Nat) (listed : Array Bool) (a : Act) (w : World),
      (∀ j oj, ops[j]? = some oj → j ≠ i → listed.getD j true = false → (∀ e ∈ oj.after, Region.binds md e = true → e.on ≠ i) → oi.apart ops oj = true) →
      i ∈ Region.ready md ops listed → YieldsIf P ops S oi v a → S w →
      wpAnyT ro P md ops Q S z T fuel (listed.setIfInBounds i true) (a.put oi.dst v) w → wpAnyT ro P md ops Q S z T (fuel + 1) listed a w := by
  intro fuel
  induction fuel with
  | zero =>
    intro listed a w _ hr hy hS H
    refine ⟨fun h => (by rw [h] at hr; exact absurd (by simpa using hr) hz), fun h => (by rw [h] at hr; cases hr), fun j hj hjz => ?_⟩
    by_cases hji : j = i
    · subst hji; exact YieldsIf.wpOpIn hi hy hS ⟨hS, H⟩
    · have := ready_mono hj hji
      rw [H.1] at this
      exact absurd (by simpa using this) hjz
  | succ fuel ih =>
    intro listed a w hfree hr hy hS H
    refine ⟨fun h => (by rw [h] at hr; exact absurd (by simpa using hr) hz), fun h => (by rw [h] at hr; cases hr), fun j hj hjz => ?_⟩
    by_cases hji : j = i
    · subst hji; exact YieldsIf.wpOpIn hi hy hS ⟨hS, H⟩
    · have h1 := H.2.2 j (ready_mono hj hji) hjz
      obtain ⟨hjun, oj, hoj, hall⟩ := mem_ready.1 hj
      have hnot : ∀ e ∈ oj.after, Region.binds md e = true → e.on ≠ i := fun e he hb heq => by
        have h1 := hall e he hb
        have h0 := (mem_ready.1 hr).1
        rw [heq] at h1
        rcases Nat.lt_or_ge i listed.size with h' | h'
        · simp [h'] at h0 h1; rw [h0] at h1; cases h1
        · simp [Array.getElem?_eq_none h'] at h1
      have h2 := wpOpIn_putIf hoj (hfree j oj hoj hji hjun hnot) (fun cs b => hsel i oi cs b hi) (fun cs b => hsel j oj cs b hoj) (noDef_spec hnd hoj) hQ hy h1
      have hfree' : ∀ k ok, ops[k]? = some ok → k ≠ i → (listed.setIfInBounds j true).getD k true = false →
          (∀ e ∈ ok.after, Region.binds md e = true → e.on ≠ i) → oi.apart ops ok = true := fun k ok hk hki hun hno => by
        refine hfree k ok hk hki ?_ hno
        by_cases hjk : j = k
        · subst hjk; exact hjun
        · rw [getD_set_ne true hjk] at hun; exact hun
      refine wpOpIn_mono (fun a' w' h3 => ⟨h3.2.1, ih (listed.setIfInBounds j true) a' w' hfree' (ready_mono hr (Ne.symm hji)) h3.1 h3.2.1 ?_⟩) h2
      rw [Array.setIfInBounds_comm _ _ hji]
      exact h3.2.2
/-- z waits for all others. -/
def sinkZ (md : Region.Mode) (ops : Array Oper) (z : Nat) : Bool := Nat.blt z ops.size && match ops[z]? with
  | some o => (List.range ops.size).all fun i => Nat.beq i z || o.after.any fun e => Region.binds md e && Nat.beq e.on i
  | none => false
theorem sinkZ_listed (h : sinkZ md ops z = true) {listed : Array Bool} (hz : z ∈ Region.ready md ops listed) {i : Nat} (hi : i < ops.size) (hne : i ≠ z) : listed.getD i false = true := by
  obtain ⟨_, o, ho, hall⟩ := mem_ready.1 hz
  simp only [sinkZ, Bool.and_eq_true, ho] at h
  have := List.all_eq_true.1 h.2 i (List.mem_range.2 hi)
  simp only [Bool.or_eq_true] at this
  rcases this with h' | h'
  · exact absurd (Nat.eq_of_beq_eq_true h') hne
  · obtain ⟨e, he, hb⟩ := Array.any_eq_true'.1 h'
    simp only [Bool.and_eq_true] at hb
    have := hall e he hb.1
    rwa [Nat.eq_of_beq_eq_true hb.2] at this
theorem ready_lt {listed : Array Bool} {i : Nat} (h : i ∈ Region.ready md ops listed) : i < ops.size := by
  unfold Region.ready at h
  exact List.mem_range.1 (List.mem_filter.1 h).1
theorem sinkZ_one (h : sinkZ md ops z = true) {listed : Array Bool} (hz : z ∈ Region.ready md ops listed) : ∀ i ∈ Region.ready md ops listed, i = z := fun i hi => Classical.byContradiction fun hne => by
  have h1 := sinkZ_listed h hz (ready_lt hi) hne
  have h2 := (mem_ready.1 hi).1
  rcases Nat.lt_or_ge i listed.size with h' | h'
  · simp [h'] at h1 h2; rw [h2] at h1; cases h1
  · simp [Array.getElem?_eq_none h'] at h1
theorem ready_nodup {listed : Array Bool} : (Region.ready md ops listed).Nodup := by
  unfold Region.ready; exact List.nodup_range.filter _
theorem ready_one (h : sinkZ md ops z = true) {listed : Array Bool} (hz : z ∈ Region.ready md ops listed) : Region.ready md ops listed = [z] := by
  have h1 := sinkZ_one h hz
  have h2 := ready_nodup (md := md) (ops := ops) (listed := listed)
  generalize Region.ready md ops listed = l at *
  match l with
  | [] => cases hz
  | [x] => rw [h1 x (by simp)]
  | x :: y :: r =>
    have hx := h1 x (by simp)
    have hy := h1 y (by simp)
    subst hx; subst hy
    simp at h2
theorem ready_none (h : sinkZ md ops z = true) {listed : Array Bool} (hz : z ∈ Region.ready md ops listed) : Region.ready md ops (listed.setIfInBounds z true) = [] := by
  refine List.eq_nil_iff_forall_not_mem.2 fun i hi => ?_
  have hu := (mem_ready.1 hi).1
  by_cases hne : i = z
  · subst hne
    rcases Nat.lt_or_ge i listed.size with h' | h'
    · simp [h'] at hu
    · simp [Array.getElem?_eq_none (show (listed.setIfInBounds i true).size ≤ i by simpa using h')] at hu
  · rw [getD_set_ne true (Ne.symm hne)] at hu
    have h1 := sinkZ_listed h hz (ready_lt hi) hne
    rcases Nat.lt_or_ge i listed.size with h' | h'
    · simp [h'] at h1 hu; rw [hu] at h1; cases h1
    · simp [Array.getElem?_eq_none h'] at h1
theorem wpAnyIn_done' {listed : Array Bool} {a : Act} {w : World} (hr : Region.ready md ops listed = []) (h : Q .normal a w) : ∀ fuel, wpAnyIn (FR ro) 0 P md ops Q fuel listed a w
  | 0 => ⟨hr, h⟩
  | _ + 1 => ⟨fun _ => h, by rw [hr]; simp⟩
theorem wpAnyIn_of_tail (h : sinkZ md ops z = true) : ∀ (fuel : Nat) (listed : Array Bool) (a : Act) (w : World), wpAnyT ro P md ops Q S z (wpOpIn (FR ro) 0 P ops Q z (Q .normal)) fuel listed a w → wpAnyIn (FR ro) 0 P md ops Q (fuel + 1) listed a w
  | 0, listed, a, w, H => by
    have hz : z ∈ Region.ready md ops listed := by rw [H.1]; simp
    refine ⟨fun h0 => (by rw [H.1] at h0; cases h0), fun i hi => ?_⟩
    obtain rfl := sinkZ_one h hz i hi
    exact wpOpIn_mono (fun a' w' h' => wpAnyIn_done' (ready_none h hz) h' 0) H.2
  | fuel + 1, listed, a, w, H => by
    refine ⟨fun h0 => absurd h0 H.2.1, fun i hi => ?_⟩
    by_cases hne : i = z
    · subst hne
      exact wpOpIn_mono (fun a' w' h' => wpAnyIn_done' (ready_none h hi) h' _) (H.1 (ready_one h hi))
    · exact wpOpIn_mono (fun a' w' h' => wpAnyIn_of_tail h fuel _ a' w' h'.2) (H.2.2 i hi hne)
end tail
def Gt (P : Program) (w0 : World) (F0 : Nat → Prop) (K L : List Res) (ops : Array Oper) (Q : Exit → Act → World → Prop) (z fuel : Nat) (listed : Array Bool) (n : Fm) (env : Env) : Prop :=
  ∀ w, St w0 F0 L w → wpAnyT n.ro P .any ops Q (St w0 F0 K) z (wpOpIn (FR n.ro) 0 P ops Q z (Q .normal)) fuel listed (fr n env) w
def NextT (P : Program) (w0 : World) (F0 : Nat → Prop) (K : List Res) (ops : Array Oper) (Q : Exit → Act → World → Prop) (z fuel : Nat) (listed : Array Bool) (n : Fm) (a : Act) (w : World) : Prop :=
  St w0 F0 K w ∧ wpAnyT n.ro P .any ops Q (St w0 F0 K) z (wpOpIn (FR n.ro) 0 P ops Q z (Q .normal)) fuel listed a w
section heldz
variable {P : Program} {w0 : World} {F0 : Nat → Prop} {K L : List Res} {Q : Exit → Act → World → Prop} {n : Fm} {env : Env} {ops : Array Oper} {listed : Array Bool} {fuel z : Nat}
theorem gc_regionZ {id : Nat} {l : List Oper} (z : Nat) (K : List Res) (h : Gt P w0 F0 K L l.toArray Q z (l.length - 1) (Array.replicate l.length false) n env) (hm : P.follows .mixedOrders = true := by kernel_rfl) (hz : sinkZ .any l.toArray z = true := by kernel_rfl) : Gc P w0 F0 L (.region id l.toArray true) Q n env := fun w hw =>
  wpIn_region_any hm (by
    have hs := hz
    simp only [sinkZ, Bool.and_eq_true, Nat.blt_eq, List.size_toArray] at hs
    have := wpAnyIn_of_tail hz _ _ _ _ (h _ (hw.drawn (w.drawn + 1)))
    rw [show l.length - 1 + 1 = l.toArray.size by simp; omega] at this
    simpa using this)
theorem yps (i : Nat) {t : Tmp} {op : Op} {ty : TypeId} {pos : String} {af : Array Edge} {gd : Option (Nat × Bool)} {v : Value} {L' : List Res} (hi : ops[i]? = some ⟨some t, op, ty, pos, af, gd⟩) (hR : Runs P w0 F0 K n env ⟨some t, op, ty, pos, af, gd⟩ v)
    (k : Gt P w0 F0 K L ops Q z fuel (listed.setIfInBounds i true) n ((t, v) :: env)) (hw : Wt ops n env ⟨some t, op, ty, pos, af, gd⟩ true := by first | exact wt0 rfl | exact wtgT rfl rfl rfl rfl) (hsel : Sel L K L' := by repeat (first | exact Sel.nil | (apply Sel.cons; · (repeat (first | exact Pick.here | apply Pick.there)))))
    (hs : Region.noSelect ops = true := by kernel_rfl) (hd : noDef ops = true := by kernel_rfl) (hf : Region.free .any ops listed i = true := by kernel_rfl) (hr : (Region.ready .any ops listed).contains i = true := by kernel_rfl) (hz : Nat.beq i z = false := by kernel_rfl)
    (hQ : ∀ c a w, Q (.panic c) (a.put (some t) v) w → Q (.panic c) a w := by exact fun _ _ _ h => h) : Gt P w0 F0 K L ops Q z (fuel + 1) listed n env := fun w hst =>
  wpAnyT_first hi (fun e => by subst e; simp at hz) (Region.noSelect_spec hs) hd hQ fuel listed _ _ (Region.free_spec hi hf) (by simpa using hr) (.inl ⟨hw, fun w' hw' => by rw [fr_eval]; exact hR w' hw'⟩) (hst.sel hsel) (by rw [fr_put]; exact k w hst)
theorem yos (i : Nat) {o : Oper} (hi : ops[i]? = some o) (k : Gl P w0 F0 L ops (Exit.then (NextT P w0 F0 K ops Q z fuel (listed.setIfInBounds i true) n) Q) [o] n env) (hr : Region.ready .any ops listed = [i] := by kernel_rfl) (hz : Nat.beq i z = false := by kernel_rfl) : Gt P w0 F0 K L ops Q z (fuel + 1) listed n env := fun w hst =>
  ⟨fun h => (by rw [hr] at h; simp only [List.cons.injEq, and_true] at h; subst h; simp at hz), by rw [hr]; simp, fun j hj _ => by
    rw [hr] at hj
    obtain rfl : j = i := by simpa using hj
    exact wpOpIn_of_list hi (k w hst)⟩
theorem yxs {L' : List Res} {Q' : Exit → Act → World → Prop} (k : Gt P w0 F0 K L ops Q z fuel listed n env) (hsel : Sel L K L' := by repeat (first | exact Sel.nil | (apply Sel.cons; · (repeat (first | exact Pick.here | apply Pick.there))))) : Gl P w0 F0 L ops (Exit.then (NextT P w0 F0 K ops Q z fuel listed n) Q') [] n env := gl_nil fun w hw => ⟨hw.sel hsel, k w hw⟩
/-- The last one. -/
theorem yzs {o : Oper} (hi : ops[z]? = some o) (k : Gl P w0 F0 L ops Q [o] n env) (hr : Region.ready .any ops listed = [z] := by kernel_rfl) : Gt P w0 F0 K L ops Q z 0 listed n env := fun w hst => ⟨hr, wpOpIn_of_list' hi (k w hst)⟩
end heldz
/-! ### Where ways meet -/
section join
variable {P : Program} {w0 : World} {F0 : Nat → Prop} {L : List Res} {Q : Exit → Act → World → Prop} {n : Fm} {env : Env}
end join
end Go.Proofs.YthicckleihbomaaDoor

/- The engine, part K: strings. -/
namespace Go.Proofs.YthicckleihbomaaDoor
open Go
set_option linter.unusedVariables false
set_option linter.unusedSimpArgs false

theorem St.mapL0 {w0 w : World} {F0 : Nat → Prop} {L L' : List Res} (h : St w0 F0 L w) (k : ∀ F, stars L w F → stars L' w F) : St w0 F0 L' w := by
  obtain ⟨F, hF, hst⟩ := h; exact ⟨F, k F hF, hst⟩
theorem str_append (a b : List UInt8) : str a ++ str b = str (a ++ b) := by
  apply ByteArray.ext
  simp [str]
section
variable {P : Program} {w0 : World} {F0 : Nat → Prop} {L : List Res} {Q : Exit → Act → World → Prop} {n : Fm} {env : Env} {ops : Array Oper} {rest : List Oper}
variable {d : Option Tmp} {t : Tmp} {ty : TypeId} {pos : String} {af : Array Edge} {gd : Option (Nat × Bool)}
theorem zcat {x y : Operand} {T T' : TypeId} {a b : List UInt8} [UNT P T .string] (hx : ev n env x = .string (str a) := by exact rfl) (hy : ev n env y = .string (str b) := by exact rfl) (hl : a.length + b.length ≤ 9223372036854775807 := by omega) :
    Runs P w0 F0 L n env ⟨d, .binOp .add T x y T', ty, pos, af, gd⟩ (.string (str (a ++ b))) := fun w _ => by
  simp [execOp, hx, hy, eqGuard, binOp, Op.stringOp, str_append]
  rw [str_size, str_size]
  omega
theorem zlS {x : Operand} {T : TypeId} {b : List UInt8} [UNT P T .string] (hx : ev n env x = .string (str b) := by exact rfl) :
    Runs P w0 F0 L n env ⟨d, .call ⟨.builtin .len, #[x], #[T]⟩, ty, pos, af, gd⟩ (.int .i64 b.length) := r_val (r_len_string hx UNT.h) (by rw [str_size])
/-- []byte(s). -/
theorem gl_ofs {x : Operand} {S T e : TypeId} {b : List UInt8} (hw : Wt ops n env ⟨some t, .convert S T x, ty, pos, af, gd⟩ true) (hx : ev n env x = .string (str b)) {u : TypeDesc} (hs : P.underlying S = some u) (hd : P.underlying T = some (.slice e)) (he : P.underlying e = some (.int .u8)) (hl : b.length ≤ maxLen)
    (k : ∀ g c, Gl P w0 F0 (rowR e 1 (some ⟨g, 0, none⟩) b.length c (b.map B8) :: L) ops Q rest n ((t, .slice (some ⟨g, 0, none⟩) b.length c) :: env)) : Gl P w0 F0 L ops Q (⟨some t, .convert S T x, ty, pos, af, gd⟩ :: rest) n env := by
  refine gl_effx (α := Nat × Nat) (L' := fun p => rowR e 1 (some ⟨p.1, 0, none⟩) b.length p.2 (b.map B8) :: L) (v := fun p => .slice (some ⟨p.1, 0, none⟩) b.length p.2) hw (fun w hst => ?_) (fun p => k p.1 p.2)
  have hr := Lib.run_convert_string_bytes (P := P) w S T e (str b) hs hd he
  refine ⟨(w.heap.size, grownCap w (str b).size 0 e), Lib.bytesWorld w e (str b), ?_, ?_⟩
  · simp only [execOp, hx, str_size] at hr ⊢
    simp [hr]
  · have hge := grownCap_ge w (str b).size 0 e
    have hle := grownCap_le_maxLen w (str b).size 0 e (by rw [str_size]; exact hl)
    have hsz : (Lib.bytesCells w e (str b)).size = grownCap w (str b).size 0 e := by
      simp only [Lib.bytesCells, Array.size_append, Array.size_map, Array.size_replicate]
      have : (str b).data.size = (str b).size := rfl
      omega
    refine hst.newRow (w' := Lib.bytesWorld w e (str b)) (cs := Lib.bytesCells w e (str b)) (fz := ((Lib.bytesCells w e (str b)).size, (Lib.bytesCells w e (str b)).size + 1)) ?_ ?_ ?_ ?_ ?_ ?_ ?_ hle ?_
    · apply Array.ext_getElem?
      intro j
      rw [Array.getElem?_push]
      split
      · rename_i h; subst h; exact Lib.bytesWorld_at_new w e (str b)
      · by_cases hj : j < w.heap.size
        · exact Lib.bytesWorld_at_old w e (str b) j hj
        · rw [Array.getElem?_eq_none (by rw [Lib.bytesWorld_size]; omega), Array.getElem?_eq_none (by omega)]
    · rfl
    · rfl
    · rfl
    · intro i hi h; simp only at h; omega
    · have e1 : (Lib.bytesCells w e (str b)).toList = b.map B8 ++ List.replicate (grownCap w (str b).size 0 e - (str b).size) (.int .u8 0) := by
        simp only [Lib.bytesCells, Array.toList_append, Array.toList_map, Array.toList_replicate]
        rfl
      rw [e1, Nat.mul_one]
      exact List.take_left' (by simp)
    · rw [str_size] at hge; exact hge
    · rw [hsz]; omega
theorem zob {x : Operand} {S T e : TypeId} {b : List UInt8} [UNT P S .string] [SLT P T e] [UNT P e (.int .u8)] (k : ∀ g c, Gl P w0 F0 (rowR e 1 (some ⟨g, 0, none⟩) b.length c (b.map B8) :: L) ops Q rest n ((t, .slice (some ⟨g, 0, none⟩) b.length c) :: env)) (hx : ev n env x = .string (str b) := by exact rfl)
    (hl : b.length ≤ maxLen := by simp only [maxLen]; omega) (hw : Wt ops n env ⟨some t, .convert S T x, ty, pos, af, gd⟩ true := by first | exact wt0 rfl | exact wtgT rfl rfl rfl rfl) : Gl P w0 F0 L ops Q (⟨some t, .convert S T x, ty, pos, af, gd⟩ :: rest) n env :=
  gl_ofs hw hx UNT.h (run_sliceT SLT.h) UNT.h hl k
/-- A block's cells, written another way. -/
theorem gl_eqc {g T : Nat} {cs cs' : List Value} {L' : List Res} (hp : Pick L (blk g T cs) L') (e : cs = cs') (k : Gl P w0 F0 (blk g T cs' :: L') ops Q rest n env) : Gl P w0 F0 L ops Q rest n env := by
  subst e
  exact fun w hw => k w (hw.mapL0 fun F hF => hp.stars hF)
end
instance {b : ByteArray} : One1 (.string b) := ⟨rfl⟩
end Go.Proofs.YthicckleihbomaaDoor

/- The engine, part L: two variables made in either order. -/
namespace Go.Proofs.YthicckleihbomaaDoor
open Go
set_option linter.unusedVariables false
theorem Sel.head {r : Res} {L M L' : List Res} (h : Sel L M L') : Sel (r :: L) M (r :: L') := by
  induction h with
  | nil => exact Sel.nil
  | cons p _ ih => exact Sel.cons (Pick.there p) ih
section
variable {P : Program} {w0 : World} {F0 : Nat → Prop} {K L : List Res} {Q : Exit → Act → World → Prop} {n : Fm} {env : Env} {ops : Array Oper} {listed : Array Bool} {fuel z : Nat}
end
end Go.Proofs.YthicckleihbomaaDoor

/- The engine, part N: maps. -/
namespace Go.Proofs.YthicckleihbomaaDoor
open Go
set_option linter.unusedVariables false
set_option linter.unusedSimpArgs false
set_option linter.unusedSectionVars false

/-! ### Rows of keys and values -/
section rows
variable {α : Type} [DecidableEq α]
def atK (k : α) : List (α × Value) → Nat → Option (Nat × Value)
  | [], _ => none
  | p :: l, i => if k = p.1 then some (i, p.2) else atK k l (i + 1)
def encK (K : α → Value) (l : List (α × Value)) : List (Value × Value) := l.map fun p => (K p.1, p.2)
end rows

/-! ### Maps in memory -/
def kvs (es : Array MapEntry) : List (Value × Value) := es.toList.map fun e => (e.key, e.val)
/-- A map in block g: keys and values in the order in which they came. -/
def mapR (g : Nat) (l : List (Value × Value)) : Res where
  on w F := (∀ k, F k ↔ k = g) ∧ ∃ es clock, w.heap[g]? = some (.map es clock) ∧ kvs es = l ∧ (∀ x ∈ es.toList, x.born < clock) ∧ (es.toList.map (fun e : MapEntry => e.born)).Nodup
  loc := fun ⟨hF, es, clock, h, r⟩ hk => ⟨hF, es, clock, (hk g ((hF g).2 rfl)).trans h, r⟩
  ok := fun ⟨hF, es, clock, h, _⟩ k hk => by
    rw [(hF k).1 hk]
    exact ⟨_, h, trivial⟩
/-- Keys of type T that stand for those of α. -/
class KeyT (P : Program) (T : TypeId) {α : Type} [DecidableEq α] (K : α → Value) : Prop where
  check : ∀ (w : World) (b : Bool) (k : α), (Instr.checkKey b 10000 T (K k)).run P w = .ok () w
  find : ∀ (w : World) (k : α) (es : List MapEntry) (l : List (α × Value)), es.map (fun e => (e.key, e.val)) = encK K l → (Instr.findKey T (K k) es).run P w = .ok (atK k l 0) w
  stays : ∀ (w : World) (k : α), (Instr.keyThatStays (K k) (K k)).run P w = .ok (K k) w
section
variable {P : Program} {w0 : World} {F0 : Nat → Prop} {L : List Res}
variable {Q : Exit → Act → World → Prop} {n : Fm} {env : Env} {ops : Array Oper} {rest : List Oper}
variable {d : Option Tmp} {t : Tmp} {ty : TypeId} {pos : String} {af : Array Edge} {gd : Option (Nat × Bool)}
variable {α : Type} [DecidableEq α] {K : α → Value}
/-! ### Length, clearing, going through -/
end
end Go.Proofs.YthicckleihbomaaDoor

/- Closed facts of the translation's tables, by program (facts.py). -/
namespace Go.Proofs.YthicckleihbomaaDoor
open Go
namespace Ty

theorem sz_3 : szT Tryd.prog 3 = some 1 := by kernel_rfl
instance : SZ Tryd.prog 3 1 := ⟨sz_3⟩
theorem row_3 : rowT Tryd.prog 3 = some false := by kernel_rfl
instance : RO Tryd.prog 3 := ⟨row_3⟩
theorem sz_4 : szT Tryd.prog 4 = some 1 := by kernel_rfl
instance : SZ Tryd.prog 4 1 := ⟨sz_4⟩
theorem row_4 : rowT Tryd.prog 4 = some false := by kernel_rfl
instance : RO Tryd.prog 4 := ⟨row_4⟩
theorem sz_5 : szT Tryd.prog 5 = some 1 := by kernel_rfl
instance : SZ Tryd.prog 5 1 := ⟨sz_5⟩
theorem row_5 : rowT Tryd.prog 5 = some false := by kernel_rfl
instance : RO Tryd.prog 5 := ⟨row_5⟩
theorem sz_9 : szT Tryd.prog 9 = some 1 := by kernel_rfl
instance : SZ Tryd.prog 9 1 := ⟨sz_9⟩
theorem row_9 : rowT Tryd.prog 9 = some false := by kernel_rfl
instance : RO Tryd.prog 9 := ⟨row_9⟩
theorem sz_23 : szT Tryd.prog 23 = some 1 := by kernel_rfl
instance : SZ Tryd.prog 23 1 := ⟨sz_23⟩
theorem row_23 : rowT Tryd.prog 23 = some false := by kernel_rfl
instance : RO Tryd.prog 23 := ⟨row_23⟩
theorem sz_25 : szT Tryd.prog 25 = some 1 := by kernel_rfl
instance : SZ Tryd.prog 25 1 := ⟨sz_25⟩
theorem row_25 : rowT Tryd.prog 25 = some false := by kernel_rfl
instance : RO Tryd.prog 25 := ⟨row_25⟩
theorem sz_34 : szT Tryd.prog 34 = some 1 := by kernel_rfl
instance : SZ Tryd.prog 34 1 := ⟨sz_34⟩
theorem row_34 : rowT Tryd.prog 34 = some false := by kernel_rfl
instance : RO Tryd.prog 34 := ⟨row_34⟩
theorem sz_35 : szT Tryd.prog 35 = some 1 := by kernel_rfl
instance : SZ Tryd.prog 35 1 := ⟨sz_35⟩
theorem row_35 : rowT Tryd.prog 35 = some false := by kernel_rfl
instance : RO Tryd.prog 35 := ⟨row_35⟩
theorem sz_36 : szT Tryd.prog 36 = some 1 := by kernel_rfl
instance : SZ Tryd.prog 36 1 := ⟨sz_36⟩
theorem row_36 : rowT Tryd.prog 36 = some false := by kernel_rfl
instance : RO Tryd.prog 36 := ⟨row_36⟩
theorem sz_38 : szT Tryd.prog 38 = some 6 := by kernel_rfl
instance : SZ Tryd.prog 38 6 := ⟨sz_38⟩
theorem row_38 : rowT Tryd.prog 38 = some true := by kernel_rfl
instance : RA Tryd.prog 38 := ⟨row_38⟩
theorem sz_44 : szT Tryd.prog 44 = some 6 := by kernel_rfl
instance : SZ Tryd.prog 44 6 := ⟨sz_44⟩
theorem row_44 : rowT Tryd.prog 44 = some true := by kernel_rfl
instance : RA Tryd.prog 44 := ⟨row_44⟩
theorem sz_67 : szT Tryd.prog 67 = some 3 := by kernel_rfl
instance : SZ Tryd.prog 67 3 := ⟨sz_67⟩
theorem row_67 : rowT Tryd.prog 67 = some true := by kernel_rfl
instance : RA Tryd.prog 67 := ⟨row_67⟩
theorem sz_71 : szT Tryd.prog 71 = some 1 := by kernel_rfl
instance : SZ Tryd.prog 71 1 := ⟨sz_71⟩
theorem row_71 : rowT Tryd.prog 71 = some false := by kernel_rfl
instance : RO Tryd.prog 71 := ⟨row_71⟩
theorem sz_73 : szT Tryd.prog 73 = some 2 := by kernel_rfl
instance : SZ Tryd.prog 73 2 := ⟨sz_73⟩
theorem row_73 : rowT Tryd.prog 73 = some true := by kernel_rfl
instance : RA Tryd.prog 73 := ⟨row_73⟩
theorem sz_132 : szT Tryd.prog 132 = some 24 := by kernel_rfl
instance : SZ Tryd.prog 132 24 := ⟨sz_132⟩
theorem row_132 : rowT Tryd.prog 132 = some true := by kernel_rfl
instance : RA Tryd.prog 132 := ⟨row_132⟩
theorem sz_133 : szT Tryd.prog 133 = some 1 := by kernel_rfl
instance : SZ Tryd.prog 133 1 := ⟨sz_133⟩
theorem row_133 : rowT Tryd.prog 133 = some false := by kernel_rfl
instance : RO Tryd.prog 133 := ⟨row_133⟩
theorem sz_141 : szT Tryd.prog 141 = some 2 := by kernel_rfl
instance : SZ Tryd.prog 141 2 := ⟨sz_141⟩
theorem row_141 : rowT Tryd.prog 141 = some true := by kernel_rfl
instance : RA Tryd.prog 141 := ⟨row_141⟩
theorem sz_142 : szT Tryd.prog 142 = some 32 := by kernel_rfl
instance : SZ Tryd.prog 142 32 := ⟨sz_142⟩
theorem row_142 : rowT Tryd.prog 142 = some true := by kernel_rfl
instance : RA Tryd.prog 142 := ⟨row_142⟩
theorem sz_147 : szT Tryd.prog 147 = some 20 := by kernel_rfl
instance : SZ Tryd.prog 147 20 := ⟨sz_147⟩
theorem row_147 : rowT Tryd.prog 147 = some true := by kernel_rfl
instance : RA Tryd.prog 147 := ⟨row_147⟩
theorem sz_148 : szT Tryd.prog 148 = some 65 := by kernel_rfl
instance : SZ Tryd.prog 148 65 := ⟨sz_148⟩
theorem row_148 : rowT Tryd.prog 148 = some true := by kernel_rfl
instance : RA Tryd.prog 148 := ⟨row_148⟩
theorem sz_151 : szT Tryd.prog 151 = some 32 := by kernel_rfl
instance : SZ Tryd.prog 151 32 := ⟨sz_151⟩
theorem row_151 : rowT Tryd.prog 151 = some true := by kernel_rfl
instance : RA Tryd.prog 151 := ⟨row_151⟩
theorem sz_152 : szT Tryd.prog 152 = some 64 := by kernel_rfl
instance : SZ Tryd.prog 152 64 := ⟨sz_152⟩
theorem row_152 : rowT Tryd.prog 152 = some true := by kernel_rfl
instance : RA Tryd.prog 152 := ⟨row_152⟩
theorem sz_175 : szT Tryd.prog 175 = some 1 := by kernel_rfl
instance : SZ Tryd.prog 175 1 := ⟨sz_175⟩
theorem row_175 : rowT Tryd.prog 175 = some true := by kernel_rfl
instance : RA Tryd.prog 175 := ⟨row_175⟩
theorem zc_3 : zcT Tryd.prog 3 = some ([.int .i64 0]) := by kernel_rfl
instance : ZC Tryd.prog 3 ([.int .i64 0]) := ⟨zc_3⟩
theorem zc_4 : zcT Tryd.prog 4 = some ([.bool false]) := by kernel_rfl
instance : ZC Tryd.prog 4 ([.bool false]) := ⟨zc_4⟩
theorem zc_5 : zcT Tryd.prog 5 = some ([.int .u8 0]) := by kernel_rfl
instance : ZC Tryd.prog 5 ([.int .u8 0]) := ⟨zc_5⟩
theorem zc_9 : zcT Tryd.prog 9 = some ([.string ByteArray.empty]) := by kernel_rfl
instance : ZC Tryd.prog 9 ([.string ByteArray.empty]) := ⟨zc_9⟩
theorem zc_23 : zcT Tryd.prog 23 = some ([.slice none 0 0]) := by kernel_rfl
instance : ZC Tryd.prog 23 ([.slice none 0 0]) := ⟨zc_23⟩
theorem zc_25 : zcT Tryd.prog 25 = some ([.nilIface]) := by kernel_rfl
instance : ZC Tryd.prog 25 ([.nilIface]) := ⟨zc_25⟩
theorem zc_34 : zcT Tryd.prog 34 = some ([.slice none 0 0]) := by kernel_rfl
instance : ZC Tryd.prog 34 ([.slice none 0 0]) := ⟨zc_34⟩
theorem zc_35 : zcT Tryd.prog 35 = some ([.slice none 0 0]) := by kernel_rfl
instance : ZC Tryd.prog 35 ([.slice none 0 0]) := ⟨zc_35⟩
theorem zc_36 : zcT Tryd.prog 36 = some ([.slice none 0 0]) := by kernel_rfl
instance : ZC Tryd.prog 36 ([.slice none 0 0]) := ⟨zc_36⟩
theorem zc_38 : zcT Tryd.prog 38 = some ([.int .i64 0, .int .i64 0, .int .i64 0, .slice none 0 0, .slice none 0 0, .slice none 0 0]) := by kernel_rfl
instance : ZC Tryd.prog 38 ([.int .i64 0, .int .i64 0, .int .i64 0, .slice none 0 0, .slice none 0 0, .slice none 0 0]) := ⟨zc_38⟩
theorem zc_44 : zcT Tryd.prog 44 = some ([.int .i64 0, .int .i64 0, .int .i64 0, .slice none 0 0, .slice none 0 0, .slice none 0 0]) := by kernel_rfl
instance : ZC Tryd.prog 44 ([.int .i64 0, .int .i64 0, .int .i64 0, .slice none 0 0, .slice none 0 0, .slice none 0 0]) := ⟨zc_44⟩
theorem zc_67 : zcT Tryd.prog 67 = some ([.int .i64 0, .string ByteArray.empty, .string ByteArray.empty]) := by kernel_rfl
instance : ZC Tryd.prog 67 ([.int .i64 0, .string ByteArray.empty, .string ByteArray.empty]) := ⟨zc_67⟩
theorem zc_71 : zcT Tryd.prog 71 = some ([.pointer none]) := by kernel_rfl
instance : ZC Tryd.prog 71 ([.pointer none]) := ⟨zc_71⟩
theorem zc_73 : zcT Tryd.prog 73 = some ([.pointer none, .slice none 0 0]) := by kernel_rfl
instance : ZC Tryd.prog 73 ([.pointer none, .slice none 0 0]) := ⟨zc_73⟩
theorem zc_132 : zcT Tryd.prog 132 = some ((List.replicate 24 (.int .u8 0))) := by kernel_rfl
instance : ZC Tryd.prog 132 ((List.replicate 24 (.int .u8 0))) := ⟨zc_132⟩
theorem zc_133 : zcT Tryd.prog 133 = some ([.int .u64 0]) := by kernel_rfl
instance : ZC Tryd.prog 133 ([.int .u64 0]) := ⟨zc_133⟩
theorem zc_141 : zcT Tryd.prog 141 = some ([.int .u8 0, .int .u8 0]) := by kernel_rfl
instance : ZC Tryd.prog 141 ([.int .u8 0, .int .u8 0]) := ⟨zc_141⟩
theorem zc_142 : zcT Tryd.prog 142 = some ([.int .u8 0, .int .u8 0, .int .u8 0, .int .u8 0, .int .u8 0, .int .u8 0, .int .u8 0, .int .u8 0, .int .u8 0, .int .u8 0, .int .u8 0, .int .u8 0, .int .u8 0, .int .u8 0, .int .u8 0, .int .u8 0, .int .u8 0, .int .u8 0, .int .u8 0, .int .u8 0, .int .u8 0, .int .u8 0, .int .u8 0, .int .u8 0, .int .u8 0, .int .u8 0, .int .u8 0, .int .u8 0, .int .u8 0, .int .u8 0, .int .u8 0, .int .u8 0]) := by kernel_rfl
instance : ZC Tryd.prog 142 ([.int .u8 0, .int .u8 0, .int .u8 0, .int .u8 0, .int .u8 0, .int .u8 0, .int .u8 0, .int .u8 0, .int .u8 0, .int .u8 0, .int .u8 0, .int .u8 0, .int .u8 0, .int .u8 0, .int .u8 0, .int .u8 0, .int .u8 0, .int .u8 0, .int .u8 0, .int .u8 0, .int .u8 0, .int .u8 0, .int .u8 0, .int .u8 0, .int .u8 0, .int .u8 0, .int .u8 0, .int .u8 0, .int .u8 0, .int .u8 0, .int .u8 0, .int .u8 0]) := ⟨zc_142⟩
theorem zc_147 : zcT Tryd.prog 147 = some ((List.replicate 20 (.int .u64 0))) := by kernel_rfl
instance : ZC Tryd.prog 147 ((List.replicate 20 (.int .u64 0))) := ⟨zc_147⟩
theorem zc_148 : zcT Tryd.prog 148 = some ((List.replicate 65 (.int .u8 0))) := by kernel_rfl
instance : ZC Tryd.prog 148 ((List.replicate 65 (.int .u8 0))) := ⟨zc_148⟩
theorem zc_151 : zcT Tryd.prog 151 = some ((List.replicate 32 (.int .u8 0))) := by kernel_rfl
instance : ZC Tryd.prog 151 ((List.replicate 32 (.int .u8 0))) := ⟨zc_151⟩
theorem zc_152 : zcT Tryd.prog 152 = some ((List.replicate 64 (.int .u8 0))) := by kernel_rfl
instance : ZC Tryd.prog 152 ((List.replicate 64 (.int .u8 0))) := ⟨zc_152⟩
theorem zc_175 : zcT Tryd.prog 175 = some ([.string ByteArray.empty]) := by kernel_rfl
instance : ZC Tryd.prog 175 ([.string ByteArray.empty]) := ⟨zc_175⟩
theorem sl_23 : sliceT Tryd.prog 23 = some 38 := by kernel_rfl
instance : SLT Tryd.prog 23 38 := ⟨sl_23⟩
theorem sl_28 : sliceT Tryd.prog 28 = some 44 := by kernel_rfl
instance : SLT Tryd.prog 28 44 := ⟨sl_28⟩
theorem sl_34 : sliceT Tryd.prog 34 = some 3 := by kernel_rfl
instance : SLT Tryd.prog 34 3 := ⟨sl_34⟩
theorem sl_35 : sliceT Tryd.prog 35 = some 4 := by kernel_rfl
instance : SLT Tryd.prog 35 4 := ⟨sl_35⟩
theorem sl_36 : sliceT Tryd.prog 36 = some 5 := by kernel_rfl
instance : SLT Tryd.prog 36 5 := ⟨sl_36⟩
theorem sl_56 : sliceT Tryd.prog 56 = some 9 := by kernel_rfl
instance : SLT Tryd.prog 56 9 := ⟨sl_56⟩
theorem sl_62 : sliceT Tryd.prog 62 = some 25 := by kernel_rfl
instance : SLT Tryd.prog 62 25 := ⟨sl_62⟩
theorem sl_65 : sliceT Tryd.prog 65 = some 67 := by kernel_rfl
instance : SLT Tryd.prog 65 67 := ⟨sl_65⟩
theorem arr_132 : arrT Tryd.prog 132 = some (24, 5) := by kernel_rfl
instance : ART Tryd.prog 132 24 5 := ⟨arr_132⟩
theorem arr_139 : arrT Tryd.prog 139 = some (256, 5) := by kernel_rfl
instance : ART Tryd.prog 139 256 5 := ⟨arr_139⟩
theorem arr_142 : arrT Tryd.prog 142 = some (16, 141) := by kernel_rfl
instance : ART Tryd.prog 142 16 141 := ⟨arr_142⟩
theorem arr_147 : arrT Tryd.prog 147 = some (20, 133) := by kernel_rfl
instance : ART Tryd.prog 147 20 133 := ⟨arr_147⟩
theorem arr_148 : arrT Tryd.prog 148 = some (65, 5) := by kernel_rfl
instance : ART Tryd.prog 148 65 5 := ⟨arr_148⟩
theorem arr_151 : arrT Tryd.prog 151 = some (32, 5) := by kernel_rfl
instance : ART Tryd.prog 151 32 5 := ⟨arr_151⟩
theorem arr_152 : arrT Tryd.prog 152 = some (64, 5) := by kernel_rfl
instance : ART Tryd.prog 152 64 5 := ⟨arr_152⟩
theorem el_23 : ElemT Tryd.prog 23 38 6 96 := elemT_of (by kernel_rfl)
instance : ELT Tryd.prog 23 38 6 96 := ⟨el_23⟩
theorem el_28 : ElemT Tryd.prog 28 44 6 96 := elemT_of (by kernel_rfl)
instance : ELT Tryd.prog 28 44 6 96 := ⟨el_28⟩
theorem el_34 : ElemT Tryd.prog 34 3 1 8 := elemT_of (by kernel_rfl)
instance : ELT Tryd.prog 34 3 1 8 := ⟨el_34⟩
theorem el_35 : ElemT Tryd.prog 35 4 1 1 := elemT_of (by kernel_rfl)
instance : ELT Tryd.prog 35 4 1 1 := ⟨el_35⟩
theorem el_36 : ElemT Tryd.prog 36 5 1 1 := elemT_of (by kernel_rfl)
instance : ELT Tryd.prog 36 5 1 1 := ⟨el_36⟩
theorem el_56 : ElemT Tryd.prog 56 9 1 16 := elemT_of (by kernel_rfl)
instance : ELT Tryd.prog 56 9 1 16 := ⟨el_56⟩
theorem el_62 : ElemT Tryd.prog 62 25 1 16 := elemT_of (by kernel_rfl)
instance : ELT Tryd.prog 62 25 1 16 := ⟨el_62⟩
theorem el_65 : ElemT Tryd.prog 65 67 3 40 := elemT_of (by kernel_rfl)
instance : ELT Tryd.prog 65 67 3 40 := ⟨el_65⟩
theorem un_2 : Tryd.prog.underlying 2 = some (.int .i64) := by kernel_rfl
instance : UNT Tryd.prog 2 (.int .i64) := ⟨un_2⟩
theorem un_3 : Tryd.prog.underlying 3 = some (.int .i64) := by kernel_rfl
instance : UNT Tryd.prog 3 (.int .i64) := ⟨un_3⟩
theorem un_4 : Tryd.prog.underlying 4 = some (.bool) := by kernel_rfl
instance : UNT Tryd.prog 4 (.bool) := ⟨un_4⟩
theorem un_5 : Tryd.prog.underlying 5 = some (.int .u8) := by kernel_rfl
instance : UNT Tryd.prog 5 (.int .u8) := ⟨un_5⟩
theorem un_9 : Tryd.prog.underlying 9 = some (.string) := by kernel_rfl
instance : UNT Tryd.prog 9 (.string) := ⟨un_9⟩
theorem un_21 : Tryd.prog.underlying 21 = some (.int .i32) := by kernel_rfl
instance : UNT Tryd.prog 21 (.int .i32) := ⟨un_21⟩
theorem ifc_25 : ifcT Tryd.prog 25 = true := by kernel_rfl
instance : IFT Tryd.prog 25 := ⟨ifc_25⟩
theorem un_36 : Tryd.prog.underlying 36 = some (.slice 5) := by kernel_rfl
instance : UNT Tryd.prog 36 (.slice 5) := ⟨un_36⟩
theorem pl_38 : placesT Tryd.prog 38 = some [(0, 1), (1, 1), (2, 1), (3, 1), (4, 1), (5, 1)] := by kernel_rfl
instance : PLT Tryd.prog 38 [(0, 1), (1, 1), (2, 1), (3, 1), (4, 1), (5, 1)] := ⟨pl_38⟩
theorem pl_44 : placesT Tryd.prog 44 = some [(0, 1), (1, 1), (2, 1), (3, 1), (4, 1), (5, 1)] := by kernel_rfl
instance : PLT Tryd.prog 44 [(0, 1), (1, 1), (2, 1), (3, 1), (4, 1), (5, 1)] := ⟨pl_44⟩
theorem un_47 : Tryd.prog.underlying 47 = some (.int .u64) := by kernel_rfl
instance : UNT Tryd.prog 47 (.int .u64) := ⟨un_47⟩
theorem pl_67 : placesT Tryd.prog 67 = some [(0, 1), (1, 1), (2, 1)] := by kernel_rfl
instance : PLT Tryd.prog 67 [(0, 1), (1, 1), (2, 1)] := ⟨pl_67⟩
theorem un_71 : Tryd.prog.underlying 71 = some (.pointer 73) := by kernel_rfl
instance : UNT Tryd.prog 71 (.pointer 73) := ⟨un_71⟩
theorem un_94 : Tryd.prog.underlying 94 = some (.pointer 5) := by kernel_rfl
instance : UNT Tryd.prog 94 (.pointer 5) := ⟨un_94⟩
theorem un_133 : Tryd.prog.underlying 133 = some (.int .u64) := by kernel_rfl
instance : UNT Tryd.prog 133 (.int .u64) := ⟨un_133⟩
theorem pl_141 : placesT Tryd.prog 141 = some [(0, 1), (1, 1)] := by kernel_rfl
instance : PLT Tryd.prog 141 [(0, 1), (1, 1)] := ⟨pl_141⟩
theorem un_142 : Tryd.prog.underlying 142 = some (.array 16 141) := by kernel_rfl
instance : UNT Tryd.prog 142 (.array 16 141) := ⟨un_142⟩
theorem un_143 : Tryd.prog.underlying 143 = some (.int .u32) := by kernel_rfl
instance : UNT Tryd.prog 143 (.int .u32) := ⟨un_143⟩
theorem un_147 : Tryd.prog.underlying 147 = some (.array 20 133) := by kernel_rfl
instance : UNT Tryd.prog 147 (.array 20 133) := ⟨un_147⟩
theorem un_151 : Tryd.prog.underlying 151 = some (.array 32 5) := by kernel_rfl
instance : UNT Tryd.prog 151 (.array 32 5) := ⟨un_151⟩
theorem un_152 : Tryd.prog.underlying 152 = some (.array 64 5) := by kernel_rfl
instance : UNT Tryd.prog 152 (.array 64 5) := ⟨un_152⟩
theorem un_153 : Tryd.prog.underlying 153 = some (.pointer 175) := by kernel_rfl
instance : UNT Tryd.prog 153 (.pointer 175) := ⟨un_153⟩
theorem pl_175 : placesT Tryd.prog 175 = some [(0, 1)] := by kernel_rfl
instance : PLT Tryd.prog 175 [(0, 1)] := ⟨pl_175⟩
theorem fo_38_0 : foff Tryd.prog 38 0 = some 0 := by kernel_rfl
instance : FO Tryd.prog 38 0 0 := ⟨fo_38_0⟩
theorem fo_38_1 : foff Tryd.prog 38 1 = some 1 := by kernel_rfl
instance : FO Tryd.prog 38 1 1 := ⟨fo_38_1⟩
theorem fo_38_2 : foff Tryd.prog 38 2 = some 2 := by kernel_rfl
instance : FO Tryd.prog 38 2 2 := ⟨fo_38_2⟩
theorem fo_38_3 : foff Tryd.prog 38 3 = some 3 := by kernel_rfl
instance : FO Tryd.prog 38 3 3 := ⟨fo_38_3⟩
theorem fo_38_4 : foff Tryd.prog 38 4 = some 4 := by kernel_rfl
instance : FO Tryd.prog 38 4 4 := ⟨fo_38_4⟩
theorem fo_38_5 : foff Tryd.prog 38 5 = some 5 := by kernel_rfl
instance : FO Tryd.prog 38 5 5 := ⟨fo_38_5⟩
theorem fo_44_0 : foff Tryd.prog 44 0 = some 0 := by kernel_rfl
instance : FO Tryd.prog 44 0 0 := ⟨fo_44_0⟩
theorem fo_44_1 : foff Tryd.prog 44 1 = some 1 := by kernel_rfl
instance : FO Tryd.prog 44 1 1 := ⟨fo_44_1⟩
theorem fo_44_2 : foff Tryd.prog 44 2 = some 2 := by kernel_rfl
instance : FO Tryd.prog 44 2 2 := ⟨fo_44_2⟩
theorem fo_44_3 : foff Tryd.prog 44 3 = some 3 := by kernel_rfl
instance : FO Tryd.prog 44 3 3 := ⟨fo_44_3⟩
theorem fo_44_4 : foff Tryd.prog 44 4 = some 4 := by kernel_rfl
instance : FO Tryd.prog 44 4 4 := ⟨fo_44_4⟩
theorem fo_44_5 : foff Tryd.prog 44 5 = some 5 := by kernel_rfl
instance : FO Tryd.prog 44 5 5 := ⟨fo_44_5⟩
theorem fo_67_0 : foff Tryd.prog 67 0 = some 0 := by kernel_rfl
instance : FO Tryd.prog 67 0 0 := ⟨fo_67_0⟩
theorem fo_67_1 : foff Tryd.prog 67 1 = some 1 := by kernel_rfl
instance : FO Tryd.prog 67 1 1 := ⟨fo_67_1⟩
theorem fo_67_2 : foff Tryd.prog 67 2 = some 2 := by kernel_rfl
instance : FO Tryd.prog 67 2 2 := ⟨fo_67_2⟩
theorem fo_73_0 : foff Tryd.prog 73 0 = some 0 := by kernel_rfl
instance : FO Tryd.prog 73 0 0 := ⟨fo_73_0⟩
theorem fo_73_1 : foff Tryd.prog 73 1 = some 1 := by kernel_rfl
instance : FO Tryd.prog 73 1 1 := ⟨fo_73_1⟩
theorem fo_141_0 : foff Tryd.prog 141 0 = some 0 := by kernel_rfl
instance : FO Tryd.prog 141 0 0 := ⟨fo_141_0⟩
theorem fo_141_1 : foff Tryd.prog 141 1 = some 1 := by kernel_rfl
instance : FO Tryd.prog 141 1 1 := ⟨fo_141_1⟩
theorem call_3 : okCall Tryd.prog 3 = true := by kernel_rfl
instance : CLT Tryd.prog 3 := ⟨call_3⟩
theorem call_4 : okCall Tryd.prog 4 = true := by kernel_rfl
instance : CLT Tryd.prog 4 := ⟨call_4⟩
theorem call_5 : okCall Tryd.prog 5 = true := by kernel_rfl
instance : CLT Tryd.prog 5 := ⟨call_5⟩
theorem call_6 : okCall Tryd.prog 6 = true := by kernel_rfl
instance : CLT Tryd.prog 6 := ⟨call_6⟩
theorem call_7 : okCall Tryd.prog 7 = true := by kernel_rfl
instance : CLT Tryd.prog 7 := ⟨call_7⟩
theorem call_8 : okCall Tryd.prog 8 = true := by kernel_rfl
instance : CLT Tryd.prog 8 := ⟨call_8⟩
theorem call_9 : okCall Tryd.prog 9 = true := by kernel_rfl
instance : CLT Tryd.prog 9 := ⟨call_9⟩
theorem call_10 : okCall Tryd.prog 10 = true := by kernel_rfl
instance : CLT Tryd.prog 10 := ⟨call_10⟩
theorem call_11 : okCall Tryd.prog 11 = true := by kernel_rfl
instance : CLT Tryd.prog 11 := ⟨call_11⟩
theorem call_12 : okCall Tryd.prog 12 = true := by kernel_rfl
instance : CLT Tryd.prog 12 := ⟨call_12⟩
theorem call_13 : okCall Tryd.prog 13 = true := by kernel_rfl
instance : CLT Tryd.prog 13 := ⟨call_13⟩
theorem call_14 : okCall Tryd.prog 14 = true := by kernel_rfl
instance : CLT Tryd.prog 14 := ⟨call_14⟩
theorem call_15 : okCall Tryd.prog 15 = true := by kernel_rfl
instance : CLT Tryd.prog 15 := ⟨call_15⟩
theorem call_16 : okCall Tryd.prog 16 = true := by kernel_rfl
instance : CLT Tryd.prog 16 := ⟨call_16⟩
theorem call_17 : okCall Tryd.prog 17 = true := by kernel_rfl
instance : CLT Tryd.prog 17 := ⟨call_17⟩
theorem call_18 : okCall Tryd.prog 18 = true := by kernel_rfl
instance : CLT Tryd.prog 18 := ⟨call_18⟩
theorem call_19 : okCall Tryd.prog 19 = true := by kernel_rfl
instance : CLT Tryd.prog 19 := ⟨call_19⟩
theorem call_20 : okCall Tryd.prog 20 = true := by kernel_rfl
instance : CLT Tryd.prog 20 := ⟨call_20⟩
theorem call_21 : okCall Tryd.prog 21 = true := by kernel_rfl
instance : CLT Tryd.prog 21 := ⟨call_21⟩
theorem call_22 : okCall Tryd.prog 22 = true := by kernel_rfl
instance : CLT Tryd.prog 22 := ⟨call_22⟩
theorem call_23 : okCall Tryd.prog 23 = true := by kernel_rfl
instance : CLT Tryd.prog 23 := ⟨call_23⟩
theorem call_24 : okCall Tryd.prog 24 = true := by kernel_rfl
instance : CLT Tryd.prog 24 := ⟨call_24⟩
theorem call_25 : okCall Tryd.prog 25 = true := by kernel_rfl
instance : CLT Tryd.prog 25 := ⟨call_25⟩
theorem call_26 : okCall Tryd.prog 26 = true := by kernel_rfl
instance : CLT Tryd.prog 26 := ⟨call_26⟩
theorem call_27 : okCall Tryd.prog 27 = true := by kernel_rfl
instance : CLT Tryd.prog 27 := ⟨call_27⟩
theorem call_28 : okCall Tryd.prog 28 = true := by kernel_rfl
instance : CLT Tryd.prog 28 := ⟨call_28⟩
theorem call_29 : okCall Tryd.prog 29 = true := by kernel_rfl
instance : CLT Tryd.prog 29 := ⟨call_29⟩
theorem call_30 : okCall Tryd.prog 30 = true := by kernel_rfl
instance : CLT Tryd.prog 30 := ⟨call_30⟩
theorem call_31 : okCall Tryd.prog 31 = true := by kernel_rfl
instance : CLT Tryd.prog 31 := ⟨call_31⟩
theorem call_32 : okCall Tryd.prog 32 = true := by kernel_rfl
instance : CLT Tryd.prog 32 := ⟨call_32⟩
theorem call_33 : okCall Tryd.prog 33 = true := by kernel_rfl
instance : CLT Tryd.prog 33 := ⟨call_33⟩
theorem call_34 : okCall Tryd.prog 34 = true := by kernel_rfl
instance : CLT Tryd.prog 34 := ⟨call_34⟩
theorem call_35 : okCall Tryd.prog 35 = true := by kernel_rfl
instance : CLT Tryd.prog 35 := ⟨call_35⟩
theorem call_36 : okCall Tryd.prog 36 = true := by kernel_rfl
instance : CLT Tryd.prog 36 := ⟨call_36⟩
theorem call_37 : okCall Tryd.prog 37 = true := by kernel_rfl
instance : CLT Tryd.prog 37 := ⟨call_37⟩
theorem call_38 : okCall Tryd.prog 38 = true := by kernel_rfl
instance : CLT Tryd.prog 38 := ⟨call_38⟩
theorem call_39 : okCall Tryd.prog 39 = true := by kernel_rfl
instance : CLT Tryd.prog 39 := ⟨call_39⟩
theorem call_41 : okCall Tryd.prog 41 = true := by kernel_rfl
instance : CLT Tryd.prog 41 := ⟨call_41⟩
theorem call_42 : okCall Tryd.prog 42 = true := by kernel_rfl
instance : CLT Tryd.prog 42 := ⟨call_42⟩
theorem call_43 : okCall Tryd.prog 43 = true := by kernel_rfl
instance : CLT Tryd.prog 43 := ⟨call_43⟩
theorem call_44 : okCall Tryd.prog 44 = true := by kernel_rfl
instance : CLT Tryd.prog 44 := ⟨call_44⟩
theorem call_45 : okCall Tryd.prog 45 = true := by kernel_rfl
instance : CLT Tryd.prog 45 := ⟨call_45⟩
theorem call_46 : okCall Tryd.prog 46 = true := by kernel_rfl
instance : CLT Tryd.prog 46 := ⟨call_46⟩
theorem call_47 : okCall Tryd.prog 47 = true := by kernel_rfl
instance : CLT Tryd.prog 47 := ⟨call_47⟩
theorem call_48 : okCall Tryd.prog 48 = true := by kernel_rfl
instance : CLT Tryd.prog 48 := ⟨call_48⟩
theorem call_49 : okCall Tryd.prog 49 = true := by kernel_rfl
instance : CLT Tryd.prog 49 := ⟨call_49⟩
theorem call_50 : okCall Tryd.prog 50 = true := by kernel_rfl
instance : CLT Tryd.prog 50 := ⟨call_50⟩
theorem call_51 : okCall Tryd.prog 51 = true := by kernel_rfl
instance : CLT Tryd.prog 51 := ⟨call_51⟩
theorem call_52 : okCall Tryd.prog 52 = true := by kernel_rfl
instance : CLT Tryd.prog 52 := ⟨call_52⟩
theorem call_53 : okCall Tryd.prog 53 = true := by kernel_rfl
instance : CLT Tryd.prog 53 := ⟨call_53⟩
theorem call_54 : okCall Tryd.prog 54 = true := by kernel_rfl
instance : CLT Tryd.prog 54 := ⟨call_54⟩
theorem call_55 : okCall Tryd.prog 55 = true := by kernel_rfl
instance : CLT Tryd.prog 55 := ⟨call_55⟩
theorem call_56 : okCall Tryd.prog 56 = true := by kernel_rfl
instance : CLT Tryd.prog 56 := ⟨call_56⟩
theorem call_59 : okCall Tryd.prog 59 = true := by kernel_rfl
instance : CLT Tryd.prog 59 := ⟨call_59⟩
theorem call_60 : okCall Tryd.prog 60 = true := by kernel_rfl
instance : CLT Tryd.prog 60 := ⟨call_60⟩
theorem call_61 : okCall Tryd.prog 61 = true := by kernel_rfl
instance : CLT Tryd.prog 61 := ⟨call_61⟩
theorem call_62 : okCall Tryd.prog 62 = true := by kernel_rfl
instance : CLT Tryd.prog 62 := ⟨call_62⟩
theorem call_63 : okCall Tryd.prog 63 = true := by kernel_rfl
instance : CLT Tryd.prog 63 := ⟨call_63⟩
theorem call_64 : okCall Tryd.prog 64 = true := by kernel_rfl
instance : CLT Tryd.prog 64 := ⟨call_64⟩
theorem call_65 : okCall Tryd.prog 65 = true := by kernel_rfl
instance : CLT Tryd.prog 65 := ⟨call_65⟩
theorem call_66 : okCall Tryd.prog 66 = true := by kernel_rfl
instance : CLT Tryd.prog 66 := ⟨call_66⟩
theorem call_67 : okCall Tryd.prog 67 = true := by kernel_rfl
instance : CLT Tryd.prog 67 := ⟨call_67⟩
theorem call_69 : okCall Tryd.prog 69 = true := by kernel_rfl
instance : CLT Tryd.prog 69 := ⟨call_69⟩
theorem call_70 : okCall Tryd.prog 70 = true := by kernel_rfl
instance : CLT Tryd.prog 70 := ⟨call_70⟩
theorem call_71 : okCall Tryd.prog 71 = true := by kernel_rfl
instance : CLT Tryd.prog 71 := ⟨call_71⟩
theorem call_72 : okCall Tryd.prog 72 = true := by kernel_rfl
instance : CLT Tryd.prog 72 := ⟨call_72⟩
theorem call_73 : okCall Tryd.prog 73 = true := by kernel_rfl
instance : CLT Tryd.prog 73 := ⟨call_73⟩
theorem call_74 : okCall Tryd.prog 74 = true := by kernel_rfl
instance : CLT Tryd.prog 74 := ⟨call_74⟩
theorem call_76 : okCall Tryd.prog 76 = true := by kernel_rfl
instance : CLT Tryd.prog 76 := ⟨call_76⟩
theorem call_77 : okCall Tryd.prog 77 = true := by kernel_rfl
instance : CLT Tryd.prog 77 := ⟨call_77⟩
theorem call_78 : okCall Tryd.prog 78 = true := by kernel_rfl
instance : CLT Tryd.prog 78 := ⟨call_78⟩
theorem call_79 : okCall Tryd.prog 79 = true := by kernel_rfl
instance : CLT Tryd.prog 79 := ⟨call_79⟩
theorem call_80 : okCall Tryd.prog 80 = true := by kernel_rfl
instance : CLT Tryd.prog 80 := ⟨call_80⟩
theorem call_81 : okCall Tryd.prog 81 = true := by kernel_rfl
instance : CLT Tryd.prog 81 := ⟨call_81⟩
theorem call_82 : okCall Tryd.prog 82 = true := by kernel_rfl
instance : CLT Tryd.prog 82 := ⟨call_82⟩
theorem call_84 : okCall Tryd.prog 84 = true := by kernel_rfl
instance : CLT Tryd.prog 84 := ⟨call_84⟩
theorem call_85 : okCall Tryd.prog 85 = true := by kernel_rfl
instance : CLT Tryd.prog 85 := ⟨call_85⟩
theorem call_86 : okCall Tryd.prog 86 = true := by kernel_rfl
instance : CLT Tryd.prog 86 := ⟨call_86⟩
theorem call_87 : okCall Tryd.prog 87 = true := by kernel_rfl
instance : CLT Tryd.prog 87 := ⟨call_87⟩
theorem call_88 : okCall Tryd.prog 88 = true := by kernel_rfl
instance : CLT Tryd.prog 88 := ⟨call_88⟩
theorem call_89 : okCall Tryd.prog 89 = true := by kernel_rfl
instance : CLT Tryd.prog 89 := ⟨call_89⟩
theorem call_90 : okCall Tryd.prog 90 = true := by kernel_rfl
instance : CLT Tryd.prog 90 := ⟨call_90⟩
theorem call_91 : okCall Tryd.prog 91 = true := by kernel_rfl
instance : CLT Tryd.prog 91 := ⟨call_91⟩
theorem call_123 : okCall Tryd.prog 123 = true := by kernel_rfl
instance : CLT Tryd.prog 123 := ⟨call_123⟩
theorem call_149 : okCall Tryd.prog 149 = true := by kernel_rfl
instance : CLT Tryd.prog 149 := ⟨call_149⟩

end Ty
end Go.Proofs.YthicckleihbomaaDoor

/- Walks, by program (wg.py) out of a spec. -/
namespace Go.Proofs.YthicckleihbomaaDoor
open Go
set_option linter.unusedVariables false
set_option linter.unusedSimpArgs false


/-- An error by its number (0: none): a pointer to the number's own text. -/
@[irreducible] def eV (TE : TypeId) (ea : Nat → Addr) : Nat → Value
  | 0 => .nilIface
  | k + 1 => .iface TE (.pointer (some (ea (k + 1))))
theorem eV_one (TE : TypeId) (ea : Nat → Addr) (k : Nat) : (eV TE ea k).oneCell' = true := by cases k <;> (unfold eV; rfl)
instance {TE : TypeId} {ea : Nat → Addr} {k : Nat} : One1 (eV TE ea k) := ⟨eV_one TE ea k⟩
theorem eV_zero (TE : TypeId) (ea : Nat → Addr) : eV TE ea 0 = .nilIface := by unfold eV; rfl

theorem run_equal_nil {P : Program} {T TE k : Nat} {ea : Nat → Addr} (ht : ifcT P T = true) (w : World) : (Op.equal T (eV TE ea k) .nilIface).run P w = .ok (decide (k = 0)) w := by
  obtain ⟨ms, hu⟩ := run_ifcT ht
  cases k with
  | zero =>
    have h : ∀ d : Nat, (Op.equalIn (d + 1) T .nilIface .nilIface).run P w = .ok true w := fun d => by simp [Op.equalIn, run_underlying hu]
    unfold eV
    simp [Op.equal, Op.maxDepth, h 9999]
  | succ k =>
    have h : ∀ d : Nat, (Op.equalIn (d + 1) T (.iface TE (.pointer (some (ea (k + 1))))) .nilIface).run P w = .ok false w := fun d => by simp [Op.equalIn, run_underlying hu]
    unfold eV
    simp [Op.equal, Op.maxDepth, h 9999]
section
variable {P : Program} {w0 : World} {F0 : Nat → Prop} {L : List Res} {n : Fm} {env : Env} {d : Option Tmp} {ty : TypeId} {pos : String} {af : Array Edge} {gd : Option (Nat × Bool)} {T T' : TypeId} {x : Operand} {TE k : Nat} {ea : Nat → Addr}
theorem r_eqnil (hx : ev n env x = eV TE ea k) (ht : ifcT P T = true) : Runs P w0 F0 L n env ⟨d, .binOp .eql T x (.const .nilIface) T', ty, pos, af, gd⟩ (.bool (decide (k = 0))) := fun w _ => by
  have h := run_equal_nil (P := P) (TE := TE) (k := k) (ea := ea) ht w
  have hg : (eqGuard .eql T x (.const .nilIface) (ev n env x) .nilIface).run P w = .ok () w := by
    rw [hx]; cases k <;> (unfold eV; simp [eqGuard])
  have hb : (binOp .eql T (ev n env x) .nilIface).run P w = .ok (.bool (decide (k = 0))) w := by
    rw [hx]; cases k <;> (unfold eV at h ⊢; simp only [binOp]; simp [h])
  simp only [execOp, Sem.run_bind]
  rw [show ev n env (.const .nilIface) = .nilIface from rfl, hg, Result.andThen_ok, hb]
  rfl
theorem r_nenil (hx : ev n env x = eV TE ea k) (ht : ifcT P T = true) : Runs P w0 F0 L n env ⟨d, .binOp .neq T x (.const .nilIface) T', ty, pos, af, gd⟩ (.bool (!decide (k = 0))) := fun w _ => by
  have h := run_equal_nil (P := P) (TE := TE) (k := k) (ea := ea) ht w
  have hg : (eqGuard .neq T x (.const .nilIface) (ev n env x) .nilIface).run P w = .ok () w := by
    rw [hx]; cases k <;> (unfold eV; simp [eqGuard])
  have hb : (binOp .neq T (ev n env x) .nilIface).run P w = .ok (.bool (!decide (k = 0))) w := by
    rw [hx]; cases k <;> (unfold eV at h ⊢; simp only [binOp]; simp [h])
  simp only [execOp, Sem.run_bind]
  rw [show ev n env (.const .nilIface) = .nilIface from rfl, hg, Result.andThen_ok, hb]
  rfl
end


def errG : Nat → Nat
  | 1 => 2
  | 2 => 3
  | 3 => 0
  | 4 => 1
  | 5 => 4
  | 6 => 5
  | 7 => 6
  | 8 => 7
  | 9 => 8
  | 10 => 9
  | 11 => 10
  | 12 => 11
  | 13 => 12
  | 14 => 13
  | 15 => 14
  | 16 => 15
  | 17 => 16
  | _ => 17
/-- es has this error. -/
class Has (es : List Nat) (i : Nat) : Prop where
  h : i ∈ es
instance {i : Nat} {l : List Nat} : Has (i :: l) i := ⟨List.mem_cons_self⟩
instance {i j : Nat} {l : List Nat} [k : Has l i] : Has (j :: l) i := ⟨List.mem_cons_of_mem _ k.h⟩
/-- These errors' variables hold their errors, and lie in A. -/
structure GErr (es : List Nat) (w : World) (A : Nat → Prop) (TE : TypeId) (ea : Nat → Addr) : Prop where
  c : ∀ i, i ∈ es → w.cell? ⟨errG i, 0, none⟩ = some (eV TE ea i)
  n : ∀ i, i ∈ es → A (errG i)
theorem GErr.mv {es : List Nat} {w w' : World} {A A' : Nat → Prop} {TE : TypeId} {ea : Nat → Addr} (h : GErr es w A TE ea) (hk : ∀ k, k < w.heap.size → A k → w'.heap[k]? = w.heap[k]? ∧ A' k) : GErr es w' A' TE ea :=
  ⟨fun i hi => by
    have := hk _ (World.block_lt_of_cell? w ⟨errG i, 0, none⟩ (h.c i hi)) (h.n i hi)
    rw [World.cell?_of_block (w := w) (a := ⟨errG i, 0, none⟩) this.1]; exact h.c i hi,
   fun i hi => (hk _ (World.block_lt_of_cell? w ⟨errG i, 0, none⟩ (h.c i hi)) (h.n i hi)).2⟩

end Go.Proofs.YthicckleihbomaaDoor

/- What memory reads as: digests, signatures, certificates, blocks. -/
namespace Go.Proofs.YthicckleihbomaaDoor
open Go
set_option linter.unusedVariables false

structure Sig where
  leaf : Int
  chains : List Dig
  path : List Dig
  deriving DecidableEq
structure Signed where
  who : Int
  sig : Sig
  deriving DecidableEq
structure Vdr where
  key : Dig
  power : Int
  deriving DecidableEq
structure QC where
  epoch : Int
  round : Int
  block : Dig
  votes : List Signed
  deriving DecidableEq
structure Late where
  who : Int
  high : Int
  sig : Sig
  deriving DecidableEq
structure TC where
  epoch : Int
  round : Int
  lates : List Late
  deriving DecidableEq
structure Block where
  epoch : Int
  round : Int
  parent : Dig
  justify : QC
  payload : List (List UInt8)
  next : List Vdr
  deriving DecidableEq

structure Vote where
  epoch : Int
  round : Int
  block : Dig
  sender : Signed
  deriving DecidableEq
structure Tmo where
  epoch : Int
  round : Int
  high : QC
  last : TC
  sender : Signed
  deriving DecidableEq
structure Prop' where
  block : Block
  last : TC
  sender : Signed
  deriving DecidableEq
structure Chg where
  blocks : List Block
  qc : QC
  deriving DecidableEq
structure Msg where
  kind : Int
  vote : Vote
  tmo : Tmo
  prop : Prop'
  wantFrom : Dig
  wantBlock : Dig
  reply : Block
  chg : Chg
  deriving DecidableEq

/-- What is there in w at blocks of A is there in w' at blocks of A'. -/
def Still (w : World) (A : Nat → Prop) (w' : World) (A' : Nat → Prop) : Prop := ∀ k, k < w.heap.size → A k → w'.heap[k]? = w.heap[k]? ∧ A' k

/-! ### Lists -/
def RdList {α : Type} (rd : List Value → α → Prop) (w : World) (A : Nat → Prop) (size : Nat) (a : Option Addr) (n : Nat) (l : List α) : Prop :=
  ∃ css : List (List Value), RdRow w A size a n css.flatten ∧ (∀ c ∈ css, c.length = size) ∧ css.length = l.length ∧ ∀ (i : Nat) (c : List Value) (x : α), css[i]? = some c → l[i]? = some x → rd c x
theorem flatten_len {size : Nat} : ∀ {css : List (List Value)}, (∀ c ∈ css, c.length = size) → css.flatten.length = css.length * size
  | [], _ => by simp
  | c :: l, h => by
    rw [List.flatten_cons, List.length_append, flatten_len (fun c' hc' => h c' (by simp [hc'])), h c (by simp), List.length_cons, Nat.add_mul, Nat.one_mul, Nat.add_comm]
theorem flatten_at {size : Nat} : ∀ {css : List (List Value)} {i : Nat} {c : List Value}, (∀ c ∈ css, c.length = size) → css[i]? = some c → (css.flatten.drop (i * size)).take size = c
  | [], i, c, _, hi => by simp at hi
  | d :: l, 0, c, h, hi => by
    simp at hi; subst hi
    simp only [Nat.zero_mul, List.drop_zero, List.flatten_cons]
    rw [← h d (by simp)]; exact List.take_left
  | d :: l, i + 1, c, h, hi => by
    have hd := h d (by simp)
    simp only [List.getElem?_cons_succ] at hi
    rw [List.flatten_cons, List.drop_append, List.drop_eq_nil_of_le (by rw [hd, Nat.add_mul, Nat.one_mul]; omega), List.nil_append, hd, show (i + 1) * size - size = i * size by rw [Nat.add_mul, Nat.one_mul]; omega]
    exact flatten_at (fun c' hc' => h c' (by simp [hc'])) hi
section list
variable {α : Type} {rd rd' : List Value → α → Prop} {w w' : World} {A A' : Nat → Prop} {size n : Nat} {a : Option Addr} {l : List α}
theorem RdList.len (h : RdList rd w A size a n l) (hs : 0 < size) : n = l.length := by
  obtain ⟨css, hr, hc, hl, _⟩ := h
  have := hr.1
  rw [flatten_len hc, hl] at this
  exact (Nat.eq_of_mul_eq_mul_right hs this).symm
theorem RdList.max (h : RdList rd w A size a n l) : n ≤ maxLen := by obtain ⟨css, hr, _⟩ := h; exact hr.2.1
theorem RdList.elem (h : RdList rd w A size a n l) (hs : 0 < size) {i : Nat} (hi : i < n) :
    ∃ g o c x, a = some ⟨g, o, none⟩ ∧ A g ∧ g < w.heap.size ∧ w.rangeAt g (o + i * size) c ∧ c.length = size ∧ l[i]? = some x ∧ rd c x := by
  have hn := h.len hs
  obtain ⟨css, hr, hc, hl, hx⟩ := h
  obtain ⟨g, o, ha, hA, hg, hra⟩ := hr.elem hi
  have hci : css[i]? = some (css[i]'(by omega)) := List.getElem?_eq_getElem (by omega)
  have hli : l[i]? = some (l[i]'(by omega)) := List.getElem?_eq_getElem (by omega)
  rw [flatten_at hc hci] at hra
  exact ⟨g, o, _, _, ha, hA, hg, hra, hc _ (List.mem_of_getElem? hci), hli, hx i _ _ hci hli⟩
theorem RdList.mv (h : RdList rd w A size a n l) (hk : Still w A w' A') (hrd : ∀ c x, rd c x → rd' c x) : RdList rd' w' A' size a n l := by
  obtain ⟨css, hr, hc, hl, hx⟩ := h
  exact ⟨css, hr.mv hk, hc, hl, fun i c x h1 h2 => hrd c x (hx i c x h1 h2)⟩
theorem RdList.nil : RdList rd w A size a 0 ([] : List α) :=
  ⟨[], RdRow.nil, (by intro c hc; cases hc), rfl, (by intro i c x h; simp at h)⟩
end list

/-! ### The kinds -/
def RdDig (cs : List Value) (d : Dig) : Prop := cs = dc d
def RdBytes (w : World) (A : Nat → Prop) (cs : List Value) (b : List UInt8) : Prop := ∃ a n c, cs = [.slice a n c] ∧ n ≤ c ∧ RdRow w A 1 a n (b.map B8)
def RdDigs (w : World) (A : Nat → Prop) (a : Option Addr) (n : Nat) (l : List Dig) : Prop := RdList RdDig w A 16 a n l
def RdSig (w : World) (A : Nat → Prop) (cs : List Value) (s : Sig) : Prop :=
  ∃ a1 n1 c1 a2 n2 c2, cs = [.int .i64 s.leaf, .slice a1 n1 c1, .slice a2 n2 c2] ∧ n1 ≤ c1 ∧ n2 ≤ c2 ∧ RdDigs w A a1 n1 s.chains ∧ RdDigs w A a2 n2 s.path
def RdSigned (w : World) (A : Nat → Prop) (cs : List Value) (s : Signed) : Prop := ∃ ss, cs = .int .i64 s.who :: ss ∧ RdSig w A ss s.sig
def RdVdr (cs : List Value) (v : Vdr) : Prop := cs = dc v.key ++ [.int .i64 v.power]
def RdQC (w : World) (A : Nat → Prop) (cs : List Value) (q : QC) : Prop :=
  ∃ a n c, cs = .int .i64 q.epoch :: .int .i64 q.round :: (dc q.block ++ [.slice a n c]) ∧ n ≤ c ∧ RdList (RdSigned w A) w A 4 a n q.votes
def RdLate (w : World) (A : Nat → Prop) (cs : List Value) (l : Late) : Prop := ∃ ss, cs = .int .i64 l.who :: .int .i64 l.high :: ss ∧ RdSig w A ss l.sig
def RdTC (w : World) (A : Nat → Prop) (cs : List Value) (t : TC) : Prop :=
  ∃ a n c, cs = [.int .i64 t.epoch, .int .i64 t.round, .slice a n c] ∧ n ≤ c ∧ RdList (RdLate w A) w A 5 a n t.lates
def RdBlock (w : World) (A : Nat → Prop) (cs : List Value) (b : Block) : Prop :=
  ∃ q a1 n1 c1 a2 n2 c2, cs = .int .i64 b.epoch :: .int .i64 b.round :: (dc b.parent ++ (q ++ [.slice a1 n1 c1, .slice a2 n2 c2])) ∧ RdQC w A q b.justify ∧
    n1 ≤ c1 ∧ RdList (RdBytes w A) w A 1 a1 n1 b.payload ∧ n2 ≤ c2 ∧ RdList RdVdr w A 17 a2 n2 b.next

def RdVote (w : World) (A : Nat → Prop) (cs : List Value) (v : Vote) : Prop := ∃ sg, cs = .int .i64 v.epoch :: .int .i64 v.round :: (dc v.block ++ sg) ∧ RdSigned w A sg v.sender
def RdTmo (w : World) (A : Nat → Prop) (cs : List Value) (v : Tmo) : Prop := ∃ q t sg, cs = .int .i64 v.epoch :: .int .i64 v.round :: (q ++ (t ++ sg)) ∧ RdQC w A q v.high ∧ RdTC w A t v.last ∧ RdSigned w A sg v.sender
def RdProp (w : World) (A : Nat → Prop) (cs : List Value) (v : Prop') : Prop := ∃ b t sg, cs = b ++ (t ++ sg) ∧ RdBlock w A b v.block ∧ RdTC w A t v.last ∧ RdSigned w A sg v.sender
def RdChg (w : World) (A : Nat → Prop) (cs : List Value) (c : Chg) : Prop :=
  ∃ (css : List (List Value)) (q : List Value), cs = css.flatten ++ q ∧ (∀ x ∈ css, x.length = 39) ∧ css.length = 3 ∧ c.blocks.length = 3 ∧ (∀ (i : Nat) (x : List Value) (b : Block), css[i]? = some x → c.blocks[i]? = some b → RdBlock w A x b) ∧ RdQC w A q c.qc
def RdMsg (w : World) (A : Nat → Prop) (cs : List Value) (m : Msg) : Prop :=
  ∃ v t p r c, cs = .int .i64 m.kind :: (v ++ (t ++ (p ++ (dc m.wantFrom ++ (dc m.wantBlock ++ (r ++ c)))))) ∧ RdVote w A v m.vote ∧ RdTmo w A t m.tmo ∧ RdProp w A p m.prop ∧ RdBlock w A r m.reply ∧ RdChg w A c m.chg

section mv
variable {w w' : World} {A A' : Nat → Prop} {cs : List Value}
theorem RdBytes.mv {b : List UInt8} (h : RdBytes w A cs b) (hk : Still w A w' A') : RdBytes w' A' cs b := by
  obtain ⟨a, n, c, h1, h2, h3⟩ := h; exact ⟨a, n, c, h1, h2, h3.mv hk⟩
theorem RdDigs.mv {a : Option Addr} {n : Nat} {l : List Dig} (h : RdDigs w A a n l) (hk : Still w A w' A') : RdDigs w' A' a n l := RdList.mv h hk fun _ _ h => h
theorem RdSig.mv {s : Sig} (h : RdSig w A cs s) (hk : Still w A w' A') : RdSig w' A' cs s := by
  obtain ⟨a1, n1, c1, a2, n2, c2, h1, h2, h3, h4, h5⟩ := h; exact ⟨a1, n1, c1, a2, n2, c2, h1, h2, h3, h4.mv hk, h5.mv hk⟩
theorem RdSigned.mv {s : Signed} (h : RdSigned w A cs s) (hk : Still w A w' A') : RdSigned w' A' cs s := by
  obtain ⟨ss, h1, h2⟩ := h; exact ⟨ss, h1, h2.mv hk⟩
theorem RdQC.mv {q : QC} (h : RdQC w A cs q) (hk : Still w A w' A') : RdQC w' A' cs q := by
  obtain ⟨a, n, c, h1, h2, h3⟩ := h; exact ⟨a, n, c, h1, h2, RdList.mv h3 hk fun _ _ h => h.mv hk⟩
theorem RdLate.mv {l : Late} (h : RdLate w A cs l) (hk : Still w A w' A') : RdLate w' A' cs l := by
  obtain ⟨ss, h1, h2⟩ := h; exact ⟨ss, h1, h2.mv hk⟩
theorem RdTC.mv {t : TC} (h : RdTC w A cs t) (hk : Still w A w' A') : RdTC w' A' cs t := by
  obtain ⟨a, n, c, h1, h2, h3⟩ := h; exact ⟨a, n, c, h1, h2, RdList.mv h3 hk fun _ _ h => h.mv hk⟩
theorem RdBlock.mv {b : Block} (h : RdBlock w A cs b) (hk : Still w A w' A') : RdBlock w' A' cs b := by
  obtain ⟨q, a1, n1, c1, a2, n2, c2, h1, h2, h3, h4, h5, h6⟩ := h
  exact ⟨q, a1, n1, c1, a2, n2, c2, h1, h2.mv hk, h3, RdList.mv h4 hk fun _ _ h => h.mv hk, h5, RdList.mv h6 hk fun _ _ h => h⟩
theorem RdSig.len {s : Sig} (h : RdSig w A cs s) : cs.length = 3 := by obtain ⟨_, _, _, _, _, _, h, _⟩ := h; subst h; rfl
theorem RdSigned.len {s : Signed} (h : RdSigned w A cs s) : cs.length = 4 := by obtain ⟨ss, h, h2⟩ := h; subst h; simp [h2.len]
theorem RdLate.len {s : Late} (h : RdLate w A cs s) : cs.length = 5 := by obtain ⟨ss, h, h2⟩ := h; subst h; simp [h2.len]
theorem RdQC.len {q : QC} (h : RdQC w A cs q) : cs.length = 19 := by obtain ⟨_, _, _, h, _⟩ := h; subst h; simp [dc_length]
theorem RdTC.len {t : TC} (h : RdTC w A cs t) : cs.length = 3 := by obtain ⟨_, _, _, h, _⟩ := h; subst h; rfl
theorem RdVdr.len {v : Vdr} (h : RdVdr cs v) : cs.length = 17 := by subst h; simp [dc_length]
theorem RdBlock.len {b : Block} (h : RdBlock w A cs b) : cs.length = 39 := by obtain ⟨q, _, _, _, _, _, _, h, hq, _⟩ := h; subst h; simp [dc_length, hq.len]
theorem RdSig.one {s : Sig} (h : RdSig w A cs s) : ∀ v ∈ cs, v.oneCell' = true := by obtain ⟨_, _, _, _, _, _, h, _⟩ := h; subst h; exact all_cons' rfl (all_cons' rfl (all_cons' rfl all_nil'))
theorem RdSigned.one {s : Signed} (h : RdSigned w A cs s) : ∀ v ∈ cs, v.oneCell' = true := by obtain ⟨ss, h, h2⟩ := h; subst h; exact all_cons' rfl h2.one
theorem RdLate.one {s : Late} (h : RdLate w A cs s) : ∀ v ∈ cs, v.oneCell' = true := by obtain ⟨ss, h, h2⟩ := h; subst h; exact all_cons' rfl (all_cons' rfl h2.one)
theorem RdQC.one {q : QC} (h : RdQC w A cs q) : ∀ v ∈ cs, v.oneCell' = true := by obtain ⟨_, _, _, h, _⟩ := h; subst h; exact all_cons' rfl (all_cons' rfl (all_app' (dc_one _) (all_cons' rfl all_nil')))
theorem RdTC.one {t : TC} (h : RdTC w A cs t) : ∀ v ∈ cs, v.oneCell' = true := by obtain ⟨_, _, _, h, _⟩ := h; subst h; exact all_cons' rfl (all_cons' rfl (all_cons' rfl all_nil'))
theorem RdVdr.one {v : Vdr} (h : RdVdr cs v) : ∀ u ∈ cs, u.oneCell' = true := by subst h; exact all_app' (dc_one _) (all_cons' rfl all_nil')
theorem RdBlock.one {b : Block} (h : RdBlock w A cs b) : ∀ v ∈ cs, v.oneCell' = true := by
  obtain ⟨q, _, _, _, _, _, _, h, hq, _⟩ := h; subst h; exact all_cons' rfl (all_cons' rfl (all_app' (dc_one _) (all_app' hq.one (all_cons' rfl (all_cons' rfl all_nil')))))
theorem RdVote.mv {v : Vote} (h : RdVote w A cs v) (hk : Still w A w' A') : RdVote w' A' cs v := by
  obtain ⟨sg, h1, h2⟩ := h; exact ⟨sg, h1, h2.mv hk⟩
theorem RdTmo.mv {v : Tmo} (h : RdTmo w A cs v) (hk : Still w A w' A') : RdTmo w' A' cs v := by
  obtain ⟨q, t, sg, h1, h2, h3, h4⟩ := h; exact ⟨q, t, sg, h1, h2.mv hk, h3.mv hk, h4.mv hk⟩
theorem RdProp.mv {v : Prop'} (h : RdProp w A cs v) (hk : Still w A w' A') : RdProp w' A' cs v := by
  obtain ⟨b, t, sg, h1, h2, h3, h4⟩ := h; exact ⟨b, t, sg, h1, h2.mv hk, h3.mv hk, h4.mv hk⟩
theorem RdChg.mv {v : Chg} (h : RdChg w A cs v) (hk : Still w A w' A') : RdChg w' A' cs v := by
  obtain ⟨css, q, h1, h2, h3, h4, h5, h6⟩ := h; exact ⟨css, q, h1, h2, h3, h4, fun i x b hx hb => (h5 i x b hx hb).mv hk, h6.mv hk⟩
theorem RdMsg.mv {m : Msg} (h : RdMsg w A cs m) (hk : Still w A w' A') : RdMsg w' A' cs m := by
  obtain ⟨v, t, p, r, c, h1, h2, h3, h4, h5, h6⟩ := h; exact ⟨v, t, p, r, c, h1, h2.mv hk, h3.mv hk, h4.mv hk, h5.mv hk, h6.mv hk⟩
theorem RdVote.len {v : Vote} (h : RdVote w A cs v) : cs.length = 22 := by obtain ⟨sg, h1, h2⟩ := h; subst h1; simp [dc_length, h2.len]
theorem RdTmo.len {v : Tmo} (h : RdTmo w A cs v) : cs.length = 28 := by obtain ⟨q, t, sg, h1, h2, h3, h4⟩ := h; subst h1; simp [h2.len, h3.len, h4.len]
theorem RdProp.len {v : Prop'} (h : RdProp w A cs v) : cs.length = 46 := by obtain ⟨q, t, sg, h1, h2, h3, h4⟩ := h; subst h1; simp [h2.len, h3.len, h4.len]
theorem RdChg.len {v : Chg} (h : RdChg w A cs v) : cs.length = 136 := by obtain ⟨css, q, h1, h2, h3, h4, h5, h6⟩ := h; subst h1; simp only [List.length_append, flatten_len h2, h6.len, h3]
theorem RdMsg.len {m : Msg} (h : RdMsg w A cs m) : cs.length = 304 := by obtain ⟨v, t, p, r, c, h1, h2, h3, h4, h5, h6⟩ := h; subst h1; simp only [List.length_cons, List.length_append, dc_length, h2.len, h3.len, h4.len, h5.len, h6.len]
end mv
theorem Stp.still {w0 w : World} {F0 F1 F2 : Nat → Prop} (h : Stp w0 F0 w (fun k => F1 k ∨ F2 k)) : Still w0 (fun k => ¬ F0 k) w (fun k => ¬ F1 k) := h.rd
end Go.Proofs.YthicckleihbomaaDoor

/- The shell, part F (with part A): what an argument reads as, rows of bytes, numbers, bools, as the walks' reading of memory. -/
namespace Go.Proofs.YthicckleihbomaaDoor
open Go
set_option linter.unusedVariables false
set_option linter.unusedSimpArgs false

section
variable {H : Type} {enc : TypeId × Value → H} {P : Program} {w : World} {base : Nat} {sp : Nat → Bool} {held : Bool}
theorem seg (cs : List Value) (o s : Nat) : cs.drop o = (cs.drop o).take s ++ cs.drop (o + s) := by
  rw [← List.drop_drop, List.take_append_drop]
end
section
variable {H : Type} {enc : TypeId × Value → H} {P : Program} {w : World} {base : Nat} {sp : Nat → Bool} {held : Bool}
/-- Cells of a slice whose elements are V of something. -/
def RdRowC {α : Type} (V : α → Value) (w : World) (A : Nat → Prop) (cs : List Value) (l : List α) : Prop := ∃ a n c, cs = [.slice a n c] ∧ n ≤ c ∧ RdRow w A 1 a n (l.map V)
theorem RdRowC.row {α : Type} {V : α → Value} {A : Nat → Prop} {a : Option Addr} {n c : Nat} {l : List α} (h : RdRowC V w A [.slice a n c] l) : RdRow w A 1 a n (l.map V) := by
  obtain ⟨a', n', c', e, _, hr⟩ := h
  injection e with e _
  injection e with e1 e2 e3
  subst e1; subst e2
  exact hr
end
end Go.Proofs.YthicckleihbomaaDoor

/- The shell, part G: what a row's list of variables gives. -/
namespace Go.Proofs.YthicckleihbomaaDoor
open Go
open Go.ChangeShapes Go.WideShapes Go.RowKit
set_option linter.unusedVariables false

theorem own : ownKnob Tryd.prog.godebug = none := by kernel_rfl
theorem laidOut : laidOutB Tryd.prog = true := by kernel_rfl
theorem star : "*" ++ "errors.errorString" = "*errors.errorString" := by decide
theorem err_row (u : TypeId) (h : Tryd.prog.typeName? 3 u = some "*errors.errorString") : u = 153 :=
  typeName_ptr_named (nm := "errors.errorString") (by rw [star]; kernel_rfl) (by kernel_rfl) (by decide) u (by rw [star]; exact h)
theorem no_res {w : World} : stars [] w (fun _ => False) := fun _ h => h
theorem below_of {W W' : World} {L : List Res} (h : St W (fun _ => False) L W') : Below W.heap.size W W' := by
  obtain ⟨F, _, hst⟩ := h
  exact ⟨hst.os, hst.tape, hst.output, hst.size, fun k hk => hst.block k hk (fun h => h)⟩
noncomputable def lowB : Nat := (World.holding Tryd.prog default ⟨#[], #[], []⟩).heap.size
end Go.Proofs.YthicckleihbomaaDoor

/- Walks, by program (wg.py) out of a spec. -/
namespace Go.Proofs.YthicckleihbomaaDoor
open Go
set_option linter.unusedVariables false
set_option linter.unusedSimpArgs false


open Go.RowKit Go.Extern.Stop Go.Stop Go.Extern
theorem isTypeOf (v : Value) (w : World) : (Extern.ReflectliteType.typeOf #[.iface 153 v]).run Tryd.prog w = .ok (.iface 105 (.agg #[.pointer (some ⟨24, 153, none⟩)])) w := by kernel_rfl
def cmpE : Array Value → Sem Value := Extern.ReflectliteType.method fun t => do Extern.Rtype.noPackHeld "Comparable" t; pure (.bool (← typeInfo t).comparable)
theorem isComparable (w : World) : (cmpE #[.agg #[.pointer (some ⟨24, 153, none⟩)]]).run Tryd.prog w = .ok (.bool true) w := by kernel_rfl
theorem isMethodComparable (v : Value) (w : World) : (Go.method 286 105 v "Comparable").run Tryd.prog w = .ok (111, v) w := by kernel_rfl
theorem isComp : (Tryd.prog.info? 153).map (·.comparable) = some true := by kernel_rfl
theorem isSize : (Tryd.prog.info? 175).map (·.size) = some 1 := by kernel_rfl
theorem noIsE (v : Value) (xT : TypeId) (w : World) : (Instr.typeAssert (.iface 153 v) xT 107 true).run Tryd.prog w = .ok (.tuple #[.nilIface, .bool false]) w := run_typeAssert_lacksB Tryd.underlying107 (by kernel_rfl) (by kernel_rfl) v xT w
theorem noUnwrapE (v : Value) (xT : TypeId) (w : World) : (Instr.typeAssert (.iface 153 v) xT 110 true).run Tryd.prog w = .ok (.tuple #[.nilIface, .bool false]) w := run_typeAssert_lacksB Tryd.underlying110 (by kernel_rfl) (by kernel_rfl) v xT w
theorem noUnwrapsE (v : Value) (xT : TypeId) (w : World) : (Instr.typeAssert (.iface 153 v) xT 112 true).run Tryd.prog w = .ok (.tuple #[.nilIface, .bool false]) w := run_typeAssert_lacksB Tryd.underlying112 (by kernel_rfl) (by kernel_rfl) v xT w
/-- errors.Is(x, x), x a pointer to an errors.errorString. -/
theorem is_same (a : Addr) (w : World) :
    Calls Tryd.prog 24 #[.iface 153 (.pointer (some a)), .iface 153 (.pointer (some a))] w fun e w' => e = .returned (.bool true) ∧ w' = w := by
  obtain ⟨i, hi, hcmp⟩ := Option.map_eq_some_iff.1 isComp
  obtain ⟨j, hj, hjs⟩ := Option.map_eq_some_iff.1 isSize
  have h8 := @run_callFunc_extern Tryd.prog 40 _ Extern.ReflectliteType.typeOf Tryd.func40 (by kernel_rfl) (by kernel_rfl) (by kernel_rfl) (by kernel_rfl)
  have h32 := @run_callFunc_extern Tryd.prog 111 _ cmpE Tryd.func111 (by kernel_rfl) (by kernel_rfl) (by kernel_rfl) (by kernel_rfl)
  have tT := isTypeOf
  have cT := isComparable
  have mR := isMethodComparable
  have heq := run_eql_iface_ptr_same (P := Tryd.prog) w a Tryd.underlying25 Tryd.underlying153 hi hcmp hj
  go_enter Tryd.func24, Tryd.ntmps24
  go_wp2
  refine wp_loop_rounds 1 ?_
  rw [rounds_succ]
  go_wp2
  go_ret
  exact ⟨rfl, rfl⟩
/-- errors.Is(x, y), two different pointers to errors.errorString. -/
theorem is_other (a b : Addr) (ca cb : Array Value) (ta tb : TypeId) (w : World) (hne : a ≠ b) (ha : w.heap[a.block]? = some (.cells ca ta (0, 0))) (hb : w.heap[b.block]? = some (.cells cb tb (0, 0))) :
    Calls Tryd.prog 24 #[.iface 153 (.pointer (some a)), .iface 153 (.pointer (some b))] w fun e w' => e = .returned (.bool false) ∧ w' = w := by
  obtain ⟨i, hi, hcmp⟩ := Option.map_eq_some_iff.1 isComp
  obtain ⟨j, hj, hjs⟩ := Option.map_eq_some_iff.1 isSize
  have h8 := @run_callFunc_extern Tryd.prog 40 _ Extern.ReflectliteType.typeOf Tryd.func40 (by kernel_rfl) (by kernel_rfl) (by kernel_rfl) (by kernel_rfl)
  have h32 := @run_callFunc_extern Tryd.prog 111 _ cmpE Tryd.func111 (by kernel_rfl) (by kernel_rfl) (by kernel_rfl) (by kernel_rfl)
  have tT := isTypeOf
  have cT := isComparable
  have mR := isMethodComparable
  have nE := noIsE
  have uE := noUnwrapE
  have vE := noUnwrapsE
  have heq := run_eql_iface_ptr_other (P := Tryd.prog) w Tryd.underlying25 Tryd.underlying153 hi hcmp hj (by rw [hjs]; decide) hne ha hb
  go_enter Tryd.func24, Tryd.ntmps24
  go_wp2
  refine wp_loop_rounds 1 ?_
  rw [rounds_succ]
  go_wp2
  go_ret
  exact ⟨rfl, rfl⟩


/-- The errors' variables: all eighteen of the library, each its own. -/
structure NErr (w : World) (A : Nat → Prop) (ea : Nat → Addr) : Prop where
  g : GErr [1, 2, 3, 4, 5, 6, 7, 8, 9, 10, 11, 12, 13, 14, 15, 16, 17, 18] w A 153 ea
  c : ∀ i, 1 ≤ i → i ≤ 18 → (∃ c t, w.heap[(ea i).block]? = some (.cells c t (0, 0))) ∧ A (ea i).block
  j : ∀ i j, 1 ≤ i → i ≤ 18 → 1 ≤ j → j ≤ 18 → ea i = ea j → i = j
theorem NErr.mv {w w' : World} {A A' : Nat → Prop} {ea : Nat → Addr} (h : NErr w A ea) (k : Still w A w' A') : NErr w' A' ea :=
  ⟨h.g.mv k, fun i h1 h2 => by
    obtain ⟨⟨c, t, hc⟩, hA⟩ := h.c i h1 h2
    have hlt : (ea i).block < w.heap.size := (Array.getElem?_eq_some_iff.1 hc).1
    obtain ⟨e, hA'⟩ := k _ hlt hA
    exact ⟨⟨c, t, by rw [e]; exact hc⟩, hA'⟩, h.j⟩
theorem errIs_ok {w : World} {F : Nat → Prop} {ea : Nat → Addr} {n m : Nat} (h : stars [] w F) (hN : NErr w (fun k => ¬ F k) ea) (n1 : 1 ≤ n) (n2 : n ≤ 18) (m1 : 1 ≤ m) (m2 : m ≤ 18) :
    Calls Tryd.prog 24 #[eV 153 ea n, eV 153 ea m] w (Post w F (fun _ : Unit => .bool (decide (n = m))) (fun _ => [])) := by
  have en : eV 153 ea n = .iface 153 (.pointer (some (ea n))) := by cases n with | zero => omega | succ n => unfold eV; rfl
  have em : eV 153 ea m = .iface 153 (.pointer (some (ea m))) := by cases m with | zero => omega | succ n => unfold eV; rfl
  rw [en, em]
  by_cases hnm : n = m
  · subst hnm
    exact Calls.mono (is_same (ea n) w) fun e w' ⟨he, hw⟩ => ⟨(), by rw [he, decide_eq_true rfl], by rw [hw]; exact St.init h⟩
  · obtain ⟨⟨c1, t1, h1⟩, _⟩ := hN.c n n1 n2
    obtain ⟨⟨c2, t2, h2⟩, _⟩ := hN.c m m1 m2
    exact Calls.mono (is_other (ea n) (ea m) c1 c2 t1 t2 w (fun e => hnm (hN.j n m n1 n2 m1 m2 e)) h1 h2) fun e w' ⟨he, hw⟩ => ⟨(), by rw [he, decide_eq_false hnm], by rw [hw]; exact St.init h⟩
attribute [local irreducible] Gl Gc Gx Gs Runs Wt

set_option maxHeartbeats 400000 in
theorem errNum_ok {w : World} {F : Nat → Prop} {ea : Nat → Addr} {n : Nat} (h : stars [] w F) (hN : NErr w (fun k => ¬ F k) ea) (hn : n ≤ 18) :
    Calls Tryd.prog 12 #[eV 153 ea n] w (Post w F (fun _ : Unit => .int .i64 (n : Int)) (fun _ => [])) := by
  have hE := hN.g
  refine g_enter (env := [(0, eV 153 ea n)]) Tryd.func12 rfl h Tryd.ntmps12 rfl rfl ?_
  refine gsr ?_
  refine gp zas ?_
  refine gnt ?_
  refine gc_seq ?_
  refine gsr ?_
  refine gp zmv ?_
  refine gp (r_bool (c := decide (n = 0)) (r_eqnil rfl (by kernel_rfl)) rfl) ?_
  refine gnt ?_
  refine gif rfl (fun hc7 => ?_) (fun hc7 => ?_)
  · refine gsr ?_
    refine gp zas ?_
    refine gnt ?_
    refine gc_ret ?_
    refine gx_then_ret ?_
    refine gx_ret1 rfl (by conv => lhs; whnf) ?_
    have hn0 : n = 0 := hc7
    subst hn0
    exact ze ()
  · try simp only at hc7
    have hn0 : n ≠ 0 := hc7
    refine gc_skip ?_
    refine gx_then ?_
    refine gsr ?_
    refine gp (r_ld1o rfl Ty.row_25 (hE.c 1 Has.h) (hE.n 1 Has.h)) ?_
    refine gp (r_ld1o rfl Ty.row_25 (hE.c 2 Has.h) (hE.n 2 Has.h)) ?_
    refine gp (r_ld1o rfl Ty.row_25 (hE.c 3 Has.h) (hE.n 3 Has.h)) ?_
    refine gp (r_ld1o rfl Ty.row_25 (hE.c 4 Has.h) (hE.n 4 Has.h)) ?_
    refine gp (r_ld1o rfl Ty.row_25 (hE.c 5 Has.h) (hE.n 5 Has.h)) ?_
    refine gp (r_ld1o rfl Ty.row_25 (hE.c 6 Has.h) (hE.n 6 Has.h)) ?_
    refine gp (r_ld1o rfl Ty.row_25 (hE.c 7 Has.h) (hE.n 7 Has.h)) ?_
    refine gp (r_ld1o rfl Ty.row_25 (hE.c 8 Has.h) (hE.n 8 Has.h)) ?_
    refine gp (r_ld1o rfl Ty.row_25 (hE.c 9 Has.h) (hE.n 9 Has.h)) ?_
    refine gp (r_ld1o rfl Ty.row_25 (hE.c 10 Has.h) (hE.n 10 Has.h)) ?_
    refine gp (r_ld1o rfl Ty.row_25 (hE.c 11 Has.h) (hE.n 11 Has.h)) ?_
    refine gp (r_ld1o rfl Ty.row_25 (hE.c 12 Has.h) (hE.n 12 Has.h)) ?_
    refine gp (r_ld1o rfl Ty.row_25 (hE.c 13 Has.h) (hE.n 13 Has.h)) ?_
    refine gp (r_ld1o rfl Ty.row_25 (hE.c 14 Has.h) (hE.n 14 Has.h)) ?_
    refine gp (r_ld1o rfl Ty.row_25 (hE.c 15 Has.h) (hE.n 15 Has.h)) ?_
    refine gp (r_ld1o rfl Ty.row_25 (hE.c 16 Has.h) (hE.n 16 Has.h)) ?_
    refine gp (r_ld1o rfl Ty.row_25 (hE.c 17 Has.h) (hE.n 17 Has.h)) ?_
    refine gp (r_ld1o rfl Ty.row_25 (hE.c 18 Has.h) (hE.n 18 Has.h)) ?_
    refine gl_bslice (s := 1) (e := 25) (len := 18) (cs := ((List.range 18).map fun i => eV 153 ea (i + 1))) (z := [.nilIface]) (wt0 rfl) Ty.sl_62 (by kernel_rfl) (by decide) (by decide) (by decide) (by kernel_rfl) (by kernel_rfl) rfl (fun b26 => ?_)
    refine gp zas ?_
    refine gnt ?_
    refine gc_seq ?_
    refine gsr ?_
    refine gp zmv ?_
    refine gp zln ?_
    refine gp zmv ?_
    refine gnt ?_
    refine gc_block ?_
    refine gc_loop (α := Nat) (fun k => [pureR (k ≤ 18 ∧ k < n), rowR 25 1 (some ⟨b26, 0, none⟩) 18 18 ((List.range 18).map fun i => eV 153 ea (i + 1))]) (fun k => [(29, .int .i64 (k : Int))]) [2, 4, 5, 30, 31, 32, 33, 34, 35, 36, 37, 38, 39] (fun k => 18 - k) 0 ?_ ?_ ?_
    · refine env_start (by kernel_rfl)
    · exact fun w' hw => zlp ⟨Nat.zero_le _, by omega⟩ (by repeat (first | exact Sel.nil | (apply Sel.cons; · (repeat (first | exact Pick.here | apply Pick.there))))) w' hw
    · intro k u
      refine gc_pureR (fun hk => ?_)
      obtain ⟨hk, hkn⟩ := hk
      replace hk : k ≤ 18 := hk
      replace hkn : k < n := hkn
      refine gsr ?_
      refine gp zlt ?_
      refine gnt ?_
      refine gc_seq ?_
      refine gif rfl (fun hc30 => ?_) (fun hc30 => ?_)
      · try simp only at hc30
        have hk' : k < 18 := by omega
        refine gc_skip ?_
        refine gx_then ?_
        refine gc_seq ?_
        refine gc_block ?_
        refine gsr ?_
        refine gp zmv ?_
        refine gp (zia) ?_
        refine gp (r_ld1r (v := eV 153 ea (k + 1)) rfl Ty.row_25 (by repeat (first | exact Pick.here | apply Pick.there)) (by simp [hk'])) ?_
        refine gp zas ?_
        refine gp zas ?_
        refine gnt ?_
        refine gsr ?_
        refine gp zmv ?_
        refine gp zmv ?_
        refine zc (fun _ => ?_) (c := fun w1 F1 F2 h1 h2 hd hst => errIs_ok (n := n) (m := k + 1) h1 (hN.mv hst.still) (by omega) (by omega) (by omega) (by omega))
        refine gnt ?_
        refine gif rfl (fun hc36 => ?_) (fun hc36 => ?_)
        · refine gsr ?_
          refine gp zmv ?_
          refine gp zad ?_
          refine gp zas ?_
          refine gnt ?_
          refine gc_ret ?_
          refine gx_block_ret ?_
          refine gx_then_ret ?_
          refine gx_round_ret ?_
          refine gx_block_ret ?_
          refine gx_then_ret ?_
          refine gx_ret1 rfl (by conv => lhs; whnf) ?_
          have e : n = k + 1 := hc36
          subst e
          exact ze ()
        · refine gc_skip ?_
          refine gx_block_normal ?_
          refine gx_then ?_
          refine gc_region ?_
          refine gp zad ?_
          refine gp zmv ?_
          refine gl_nil ?_
          refine zrd (k + 1) ?_ ?_
          · show 18 - (k + 1) < 18 - k
            omega
          · exact fun w' hw => zlp ⟨by show k + 1 ≤ 18; omega, by show k + 1 < n; omega⟩ (by repeat (first | exact Sel.nil | (apply Sel.cons; · (repeat (first | exact Pick.here | apply Pick.there))))) w' hw
      · refine gc_exit ?_
        refine gx_then_exit ?_
        refine gx_round_exit ?_
        refine gx_block_hit ?_
        refine gx_then ?_
        refine gsr ?_
        refine gp zas ?_
        refine gnt ?_
        refine gc_ret ?_
        refine gx_ret1 rfl (by conv => lhs; whnf) ?_
        exact absurd hkn (by omega)

end Go.Proofs.YthicckleihbomaaDoor

/- The shell, part H: all eighteen errors. -/
namespace Go.Proofs.YthicckleihbomaaDoor
open Go
open Go.ChangeShapes Go.WideShapes Go.RowKit
set_option linter.unusedVariables false
def errRow (x : String × List UInt8) : String × DataW Unit := (x.1, .iface "*errors.errorString" (.ptr (.agg [.lit (.string x.2)])))
theorem laid_sentinelF {P : Program} {n nm : String} {text : List UInt8} {r : List (String × DataW Unit)} {W : World} {g : Nat} {ti tp te ts : TypeId} {ms : Array (String × TypeId)} {f : Field}
    (h : laidMet P ((n, .iface nm (.ptr (.agg [.lit (.string text)]))) :: r) W)
    (hg : P.globalNamed n = some g) (ht : (P.globals[g]?).map (·.type) = some ti) (hi : P.underlying ti = some (.interface ms)) (hrow : ∀ u, P.typeName? 3 u = some nm → u = tp)
    (hp : P.underlying tp = some (.pointer te)) (he : P.underlying te = some (.struct #[f])) (hft : f.type = ts) (hfo : f.offset = 0) (hs : P.underlying ts = some .string) (hc : P.cellsOf te = 1) (hcs : P.cellsOf ts = 1) :
    ∃ (a : Addr) (s : ByteArray), W.var? P n = some #[.iface tp (.pointer (some a))] ∧ W.cell? a = some (.string s) ∧ s.data.toList = text ∧ ∃ c t, W.heap[a.block]? = some (.cells c t (0, 0)) := by
  obtain ⟨ps, ⟨g0', t0', cs0, f0, p0, q0, hg0', ht0', hv0, hd0, _, e0⟩, hnd, hrows⟩ := h
  obtain rfl := Option.some.inj (hg.symm.trans hg0')
  obtain rfl := Option.some.inj (ht.symm.trans ht0')
  subst e0
  obtain ⟨l0⟩ := cs0
  have ok0 : ∀ u v, l0 = [.iface u v] → Value.okWide P W .any 0 u v := fun u v e => by
    subst e
    exact (hrows g 0 (by simp [MemPlace.row])).2 u v (by simpa using World.var?_cell hg hv0 0)
  obtain ⟨a0, s0, rfl, hc0, hs0, hz0, rfl⟩ := errorString_of_trod hi hrow hp he hft hfo hs hc hcs hd0 ok0
  exact ⟨a0, s0, hv0, hc0, hs0, (hrows a0.block a0.off (by simp [MemPlace.row])).1⟩
theorem laid_err1 {W : World} {n : String} {text : List UInt8} {r : List (String × DataW Unit)} {g : Nat} (h : laidMet Tryd.prog ((n, .iface "*errors.errorString" (.ptr (.agg [.lit (.string text)]))) :: r) W) (hg : Tryd.prog.globalNamed n = some g) (ht : (Tryd.prog.globals[g]?).map (·.type) = some 25) :
    ∃ (a : Addr), W.cell? ⟨g, 0, none⟩ = some (.iface 153 (.pointer (some a))) ∧ (∃ s : ByteArray, W.cell? a = some (.string s) ∧ s.data.toList = text) ∧ ∃ c t, W.heap[a.block]? = some (.cells c t (0, 0)) := by
  obtain ⟨ms, hi⟩ := run_ifcT (P := Tryd.prog) (T := 25) (by kernel_rfl)
  obtain ⟨a, s, h1, h2, h3, h4⟩ := laid_sentinelF h hg ht hi err_row Tryd.underlying153 Tryd.underlying175 rfl rfl Tryd.underlying9 (by kernel_rfl) (by kernel_rfl)
  exact ⟨a, by simpa using World.var?_cell hg h1 0, ⟨s, h2, h3⟩, h4⟩
theorem laid_errs {W : World} : ∀ {ns : List (String × List UInt8)} {r : List (String × DataW Unit)}, laidMet Tryd.prog (ns.map errRow ++ r) W → (∀ x ∈ ns, ∃ g, Tryd.prog.globalNamed x.1 = some g ∧ (Tryd.prog.globals[g]?).map (·.type) = some 25) →
    ∃ al : List Addr, al.length = ns.length ∧ ∀ (i : Nat) (n : String) (t : List UInt8) (a : Addr), ns[i]? = some (n, t) → al[i]? = some a → (∀ g, Tryd.prog.globalNamed n = some g → W.cell? ⟨g, 0, none⟩ = some (.iface 153 (.pointer (some a)))) ∧ (∃ s : ByteArray, W.cell? a = some (.string s) ∧ s.data.toList = t) ∧ ∃ c t, W.heap[a.block]? = some (.cells c t (0, 0))
  | [], r, _, _ => ⟨[], rfl, fun i n t a h => by simp at h⟩
  | x :: ns, r, h, hg => by
    obtain ⟨al, hl, ha⟩ := laid_errs (ns := ns) (r := r) h.tail (fun y hy => hg y (List.mem_cons_of_mem _ hy))
    obtain ⟨g, hg1, hg2⟩ := hg x List.mem_cons_self
    obtain ⟨a0, h1, h2, h3⟩ := laid_err1 (n := x.1) (text := x.2) h hg1 hg2
    refine ⟨a0 :: al, by simp [hl], fun i n t a hi hai => ?_⟩
    cases i with
    | zero =>
      simp only [List.getElem?_cons_zero, Option.some.injEq] at hi hai
      subst hi; subst hai
      exact ⟨fun g' hg' => by rw [hg1] at hg'; cases hg'; exact h1, h2, h3⟩
    | succ i => exact ha i n t a (by simpa using hi) (by simpa using hai)
def errNames : List (String × List UInt8) := [("quorate/api.ErrRange", [113, 117, 111, 114, 97, 116, 101, 58, 32, 114, 97, 110, 103, 101]),
  ("quorate/api.ErrShort", [113, 117, 111, 114, 97, 116, 101, 58, 32, 115, 104, 111, 114, 116]),
  ("quorate/api.ErrLong", [113, 117, 111, 114, 97, 116, 101, 58, 32, 108, 111, 110, 103]),
  ("quorate/api.ErrForm", [113, 117, 111, 114, 97, 116, 101, 58, 32, 102, 111, 114, 109]),
  ("quorate/api.ErrSpent", [113, 117, 111, 114, 97, 116, 101, 58, 32, 115, 112, 101, 110, 116]),
  ("quorate/api.ErrPower", [113, 117, 111, 114, 97, 116, 101, 58, 32, 112, 111, 119, 101, 114]),
  ("quorate/api.ErrDisk", [113, 117, 111, 114, 97, 116, 101, 58, 32, 100, 105, 115, 107]),
  ("quorate/api.ErrFull", [113, 117, 111, 114, 97, 116, 101, 58, 32, 102, 117, 108, 108]),
  ("quorate/api.ErrNone", [113, 117, 111, 114, 97, 116, 101, 58, 32, 110, 111, 110, 101]),
  ("quorate/api.ErrOld", [113, 117, 111, 114, 97, 116, 101, 58, 32, 111, 108, 100]),
  ("quorate/api.ErrSet", [113, 117, 111, 114, 97, 116, 101, 58, 32, 115, 101, 116]),
  ("quorate/api.ErrProof", [113, 117, 111, 114, 97, 116, 101, 58, 32, 112, 114, 111, 111, 102]),
  ("quorate/api.ErrLeader", [113, 117, 111, 114, 97, 116, 101, 58, 32, 108, 101, 97, 100, 101, 114]),
  ("quorate/api.ErrRound", [113, 117, 111, 114, 97, 116, 101, 58, 32, 114, 111, 117, 110, 100]),
  ("quorate/api.ErrUnsafe", [113, 117, 111, 114, 97, 116, 101, 58, 32, 117, 110, 115, 97, 102, 101]),
  ("quorate/api.ErrParent", [113, 117, 111, 114, 97, 116, 101, 58, 32, 112, 97, 114, 101, 110, 116]),
  ("quorate/api.ErrTwice", [113, 117, 111, 114, 97, 116, 101, 58, 32, 116, 119, 105, 99, 101]),
  ("quorate/api.ErrEpoch", [113, 117, 111, 114, 97, 116, 101, 58, 32, 101, 112, 111, 99, 104])]
theorem errNames_glob : (List.range 18).all (fun i => match errNames[i]? with | some x => (Tryd.prog.globalNamed x.1 == some (errG (i + 1))) && ((Tryd.prog.globals[errG (i + 1)]?).map (·.type) == some 25) | none => false) = true := by kernel_rfl
theorem errNames_apart : (List.range 18).all (fun i => (List.range 18).all fun j => match errNames[i]?, errNames[j]? with | some x, some y => i == j || x.2 != y.2 | _, _ => false) = true := by kernel_rfl
theorem laid_nerr {W : World} {r : List (String × DataW Unit)} (h : laidMet Tryd.prog (errNames.map errRow ++ r) W) : ∃ ea, NErr W (fun k => ¬ (fun _ : Nat => False) k) ea := by
  have hgl := errNames_glob
  rw [List.all_eq_true] at hgl
  have hap := errNames_apart
  rw [List.all_eq_true] at hap
  have hlen : errNames.length = 18 := rfl
  have hglob : ∀ i, i < 18 → ∃ x, errNames[i]? = some x ∧ Tryd.prog.globalNamed x.1 = some (errG (i + 1)) ∧ (Tryd.prog.globals[errG (i + 1)]?).map (·.type) = some 25 := fun i hi => by
    have := hgl i (List.mem_range.2 hi)
    cases hx : errNames[i]? with
    | none => rw [hx] at this; cases this
    | some x => rw [hx] at this; simp only [Bool.and_eq_true, beq_iff_eq] at this; exact ⟨x, rfl, this⟩
  obtain ⟨al, hl, ha⟩ := laid_errs h (fun x hx => by
    obtain ⟨i, hi, hxi⟩ := List.mem_iff_getElem.1 hx
    obtain ⟨y, hy, h1, h2⟩ := hglob i (by omega)
    rw [List.getElem?_eq_getElem hi, hxi] at hy
    cases hy
    exact ⟨_, h1, h2⟩)
  rw [hlen] at hl
  have key : ∀ i, 1 ≤ i → i ≤ 18 → ∃ x a, errNames[i - 1]? = some x ∧ al[i - 1]? = some a ∧ al.getD (i - 1) ⟨0, 0, none⟩ = a ∧ W.cell? ⟨errG i, 0, none⟩ = some (.iface 153 (.pointer (some a))) ∧ (∃ s : ByteArray, W.cell? a = some (.string s) ∧ s.data.toList = x.2) ∧ ∃ c t, W.heap[a.block]? = some (.cells c t (0, 0)) := fun i h1 h2 => by
    obtain ⟨x, hx, hg, _⟩ := hglob (i - 1) (by omega)
    have haa : al[i - 1]? = some al[i - 1] := List.getElem?_eq_getElem (by omega)
    obtain ⟨k1, k2, k3⟩ := ha (i - 1) x.1 x.2 _ hx haa
    rw [show i - 1 + 1 = i by omega] at hg
    exact ⟨x, _, hx, haa, by rw [List.getD_eq_getElem?_getD, haa]; rfl, k1 _ hg, k2, k3⟩
  refine ⟨fun i => al.getD (i - 1) ⟨0, 0, none⟩, ⟨fun i hi => ?_, fun i _ => id⟩, fun i h1 h2 => ?_, fun i j h1 h2 k1 k2 e => ?_⟩
  · have hi' : 1 ≤ i ∧ i ≤ 18 := by
      simp only [List.mem_cons, List.not_mem_nil, or_false] at hi; omega
    obtain ⟨x, a, _, _, ea, hc, _⟩ := key i hi'.1 hi'.2
    rw [hc, ← ea]
    cases i with
    | zero => omega
    | succ i => unfold eV; rfl
  · obtain ⟨x, a, _, _, ea, _, _, hc⟩ := key i h1 h2
    simp only []
    rw [ea]
    exact ⟨hc, id⟩
  · obtain ⟨x, a, hx, _, ea, _, ⟨s, hs, ht⟩, _⟩ := key i h1 h2
    obtain ⟨y, b, hy, _, eb, _, ⟨s', hs', ht'⟩, _⟩ := key j k1 k2
    replace e : al.getD (i - 1) ⟨0, 0, none⟩ = al.getD (j - 1) ⟨0, 0, none⟩ := e
    rw [ea, eb] at e
    subst e
    rw [hs] at hs'
    injection hs' with hs'; injection hs' with hs'
    subst hs'
    have h3 := hap (i - 1) (List.mem_range.2 (by omega))
    rw [List.all_eq_true] at h3
    have h4 := h3 (j - 1) (List.mem_range.2 (by omega))
    rw [hx, hy] at h4
    simp only [Bool.or_eq_true, beq_iff_eq, bne_iff_ne] at h4
    rcases h4 with h4 | h4
    · omega
    · exact absurd (ht.symm.trans ht') h4
end Go.Proofs.YthicckleihbomaaDoor

/-
  DERIVED: THE SHELF's CONTRACTS AT THIS DUMP, IN PLAIN WORDS (tools/lay-plain.mjs out of 'YthicckleihbomaaDoorLayC.lean', which tools/lay-shelf.mjs wrote): THE SAME DECLARATIONS UNDER THE SAME NAMES: 'import', 'namespace', 'open', 'def', 'theorem' AND NOTHING ELSE: no command of the shelf's: FOR A HAND-IN. Each laying: the table of numbers ('.._ren') and one theorem, a field a fact of the dump's own or the kernel's comparison; each contract: ONE APPLICATION.
-/
namespace Go.Proofs
open Go.Shelf
def Tryd.ixbA_ren : Go.Shelf.Ren := ⟨fun | 137 => 33 | 217 => 47 | 266 => 58 | n => n, fun | 9 => 9 | 5 => 5 | 3 => 3 | n => n, fun | n => n⟩
theorem Tryd.ixbA : Go.Proofs.Lays.n137 Tryd.prog Tryd.ixbA_ren := {
  mixed := by kernel_rfl
  f137 := Tryd.func33.trans (congrArg some (by kernel_rfl))
  f217 := Tryd.func47.trans (congrArg some (by kernel_rfl))
  f266 := Tryd.func58.trans (congrArg some (by kernel_rfl))
  t3 := Tryd.underlying3
  a3 := Tryd.isAgg3
  z3 := Tryd.sizeOf3
  v3 := Tryd.zeroValue3
  t5 := Tryd.underlying5
  a5 := Tryd.isAgg5
  z5 := Tryd.sizeOf5
  v5 := Tryd.zeroValue5
  t9 := Tryd.underlying9
  a9 := Tryd.isAgg9
  z9 := Tryd.sizeOf9
  v9 := Tryd.zeroValue9 }
def Tryd.cutA_ren : Go.Shelf.Ren := ⟨fun | 104 => 18 | 211 => 34 | 207 => 48 | n => n, fun | 9 => 9 | 4 => 4 | 24 => 52 | 3 => 3 | n => n, fun | n => n⟩
theorem Tryd.cutA : Go.Proofs.Lays.n104 Tryd.prog Tryd.cutA_ren := {
  mixed := by kernel_rfl
  f104 := Tryd.func18.trans (congrArg some (by kernel_rfl))
  f207 := Tryd.func48.trans (congrArg some (by kernel_rfl))
  f211 := Tryd.func34.trans (congrArg some (by kernel_rfl))
  t3 := Tryd.underlying3
  a3 := Tryd.isAgg3
  z3 := Tryd.sizeOf3
  v3 := Tryd.zeroValue3
  t4 := Tryd.underlying4
  a4 := Tryd.isAgg4
  z4 := Tryd.sizeOf4
  v4 := Tryd.zeroValue4
  t9 := Tryd.underlying9
  a9 := Tryd.isAgg9
  z9 := Tryd.sizeOf9
  v9 := Tryd.zeroValue9
  t24 := Tryd.underlying52
  a24 := Tryd.isAgg52
  z24 := Tryd.sizeOf52
  v24 := Tryd.zeroValue52 }
def Tryd.idxA_ren : Go.Shelf.Ren := ⟨fun | 143 => 61 | 219 => 69 | 217 => 47 | 225 => 75 | 224 => 76 | 267 => 77 | 266 => 58 | 314 => 84 | n => n, fun | 9 => 9 | 3 => 3 | 4 => 4 | 5 => 5 | 46 => 47 | 146 => 144 | 51 => 143 | n => n, fun | 1 => 18 | n => n⟩
theorem Tryd.idxA : Go.Proofs.Lays.n143 Tryd.prog Tryd.idxA_ren := {
  mixed := by kernel_rfl
  f143 := Tryd.func61.trans (congrArg some (by kernel_rfl))
  f217 := Tryd.func47.trans (congrArg some (by kernel_rfl))
  f219 := Tryd.func69.trans (congrArg some (by kernel_rfl))
  f224 := Tryd.func76.trans (congrArg some (by kernel_rfl))
  f225 := Tryd.func75.trans (congrArg some (by kernel_rfl))
  f266 := Tryd.func58.trans (congrArg some (by kernel_rfl))
  f267 := Tryd.func77.trans (congrArg some (by kernel_rfl))
  f314 := Tryd.func84.trans (congrArg some (by kernel_rfl))
  t3 := Tryd.underlying3
  a3 := Tryd.isAgg3
  z3 := Tryd.sizeOf3
  v3 := Tryd.zeroValue3
  t4 := Tryd.underlying4
  a4 := Tryd.isAgg4
  z4 := Tryd.sizeOf4
  v4 := Tryd.zeroValue4
  t5 := Tryd.underlying5
  a5 := Tryd.isAgg5
  z5 := Tryd.sizeOf5
  v5 := Tryd.zeroValue5
  t9 := Tryd.underlying9
  a9 := Tryd.isAgg9
  z9 := Tryd.sizeOf9
  v9 := Tryd.zeroValue9
  t46 := Tryd.underlying47
  a46 := Tryd.isAgg47
  z46 := Tryd.sizeOf47
  v46 := Tryd.zeroValue47
  t51 := Tryd.underlying143
  a51 := Tryd.isAgg143
  z51 := Tryd.sizeOf143
  v51 := Tryd.zeroValue143
  t146 := Tryd.underlying144
  a146 := Tryd.isAgg144
  z146 := Tryd.sizeOf144
  v146 := Tryd.zeroValue144
  g1 := by kernel_rfl }
def Tryd.cntA_ren : Go.Shelf.Ren := ⟨fun | 138 => 60 | 195 => 66 | 218 => 68 | 143 => 61 | 219 => 69 | 217 => 47 | 225 => 75 | 224 => 76 | 267 => 77 | 266 => 58 | 314 => 84 | n => n, fun | 9 => 9 | 3 => 3 | 4 => 4 | 5 => 5 | 0 => 0 | 46 => 47 | 146 => 144 | 51 => 143 | n => n, fun | 1 => 18 | n => n⟩
theorem Tryd.cntA : Go.Proofs.Lays.n138 Tryd.prog Tryd.cntA_ren := {
  mixed := by kernel_rfl
  f138 := Tryd.func60.trans (congrArg some (by kernel_rfl))
  f143 := Tryd.func61.trans (congrArg some (by kernel_rfl))
  f195 := Tryd.func66.trans (congrArg some (by kernel_rfl))
  f217 := Tryd.func47.trans (congrArg some (by kernel_rfl))
  f218 := Tryd.func68.trans (congrArg some (by kernel_rfl))
  f219 := Tryd.func69.trans (congrArg some (by kernel_rfl))
  f224 := Tryd.func76.trans (congrArg some (by kernel_rfl))
  f225 := Tryd.func75.trans (congrArg some (by kernel_rfl))
  f266 := Tryd.func58.trans (congrArg some (by kernel_rfl))
  f267 := Tryd.func77.trans (congrArg some (by kernel_rfl))
  f314 := Tryd.func84.trans (congrArg some (by kernel_rfl))
  t0 := Tryd.underlying0
  a0 := Tryd.isAgg0
  z0 := Tryd.sizeOf0
  v0 := Tryd.zeroValue0
  t3 := Tryd.underlying3
  a3 := Tryd.isAgg3
  z3 := Tryd.sizeOf3
  v3 := Tryd.zeroValue3
  t4 := Tryd.underlying4
  a4 := Tryd.isAgg4
  z4 := Tryd.sizeOf4
  v4 := Tryd.zeroValue4
  t5 := Tryd.underlying5
  a5 := Tryd.isAgg5
  z5 := Tryd.sizeOf5
  v5 := Tryd.zeroValue5
  t9 := Tryd.underlying9
  a9 := Tryd.isAgg9
  z9 := Tryd.sizeOf9
  v9 := Tryd.zeroValue9
  t46 := Tryd.underlying47
  a46 := Tryd.isAgg47
  z46 := Tryd.sizeOf47
  v46 := Tryd.zeroValue47
  t51 := Tryd.underlying143
  a51 := Tryd.isAgg143
  z51 := Tryd.sizeOf143
  v51 := Tryd.zeroValue143
  t146 := Tryd.underlying144
  a146 := Tryd.isAgg144
  z146 := Tryd.sizeOf144
  v146 := Tryd.zeroValue144
  g1 := by kernel_rfl }
def Tryd.gspA_ren : Go.Shelf.Ren := ⟨fun | 221 => 49 | 268 => 59 | 138 => 60 | 143 => 61 | 195 => 66 | 197 => 67 | 218 => 68 | 219 => 69 | 260 => 74 | 217 => 47 | 225 => 75 | 224 => 76 | 267 => 77 | 266 => 58 | 314 => 84 | n => n, fun | 9 => 9 | 3 => 3 | 31 => 56 | 4 => 4 | 0 => 0 | 105 => 126 | 21 => 21 | 5 => 5 | 46 => 47 | 119 => 139 | 139 => 142 | 138 => 141 | 146 => 144 | 51 => 143 | n => n, fun | 1 => 18 | 3 => 19 | 4 => 20 | n => n⟩
theorem Tryd.gspA : Go.Proofs.Lays.n221 Tryd.prog Tryd.gspA_ren := {
  mixed := by kernel_rfl
  f138 := Tryd.func60.trans (congrArg some (by kernel_rfl))
  f143 := Tryd.func61.trans (congrArg some (by kernel_rfl))
  f195 := Tryd.func66.trans (congrArg some (by kernel_rfl))
  f197 := Tryd.func67.trans (congrArg some (by kernel_rfl))
  f217 := Tryd.func47.trans (congrArg some (by kernel_rfl))
  f218 := Tryd.func68.trans (congrArg some (by kernel_rfl))
  f219 := Tryd.func69.trans (congrArg some (by kernel_rfl))
  f221 := Tryd.func49.trans (congrArg some (by kernel_rfl))
  f224 := Tryd.func76.trans (congrArg some (by kernel_rfl))
  f225 := Tryd.func75.trans (congrArg some (by kernel_rfl))
  f260 := Tryd.func74.trans (congrArg some (by kernel_rfl))
  f266 := Tryd.func58.trans (congrArg some (by kernel_rfl))
  f267 := Tryd.func77.trans (congrArg some (by kernel_rfl))
  f268 := Tryd.func59.trans (congrArg some (by kernel_rfl))
  f314 := Tryd.func84.trans (congrArg some (by kernel_rfl))
  t0 := Tryd.underlying0
  a0 := Tryd.isAgg0
  z0 := Tryd.sizeOf0
  v0 := Tryd.zeroValue0
  t3 := Tryd.underlying3
  a3 := Tryd.isAgg3
  z3 := Tryd.sizeOf3
  v3 := Tryd.zeroValue3
  t4 := Tryd.underlying4
  a4 := Tryd.isAgg4
  z4 := Tryd.sizeOf4
  v4 := Tryd.zeroValue4
  t5 := Tryd.underlying5
  a5 := Tryd.isAgg5
  z5 := Tryd.sizeOf5
  v5 := Tryd.zeroValue5
  t9 := Tryd.underlying9
  a9 := Tryd.isAgg9
  z9 := Tryd.sizeOf9
  v9 := Tryd.zeroValue9
  t21 := Tryd.underlying21
  a21 := Tryd.isAgg21
  z21 := Tryd.sizeOf21
  v21 := Tryd.zeroValue21
  t31 := Tryd.underlying56
  a31 := Tryd.isAgg56
  z31 := Tryd.sizeOf56
  v31 := Tryd.zeroValue56
  t46 := Tryd.underlying47
  a46 := Tryd.isAgg47
  z46 := Tryd.sizeOf47
  v46 := Tryd.zeroValue47
  t51 := Tryd.underlying143
  a51 := Tryd.isAgg143
  z51 := Tryd.sizeOf143
  v51 := Tryd.zeroValue143
  t105 := Tryd.underlying126
  a105 := Tryd.isAgg126
  z105 := Tryd.sizeOf126
  v105 := Tryd.zeroValue126
  t119 := Tryd.underlying139
  a119 := Tryd.isAgg139
  z119 := Tryd.sizeOf139
  t138 := Tryd.underlying141
  a138 := Tryd.isAgg141
  z138 := Tryd.sizeOf141
  v138 := Tryd.zeroValue141
  t139 := Tryd.underlying142
  a139 := Tryd.isAgg142
  z139 := Tryd.sizeOf142
  v139 := Tryd.zeroValue142
  t146 := Tryd.underlying144
  a146 := Tryd.isAgg144
  z146 := Tryd.sizeOf144
  v146 := Tryd.zeroValue144
  g1 := by kernel_rfl
  g3 := by kernel_rfl
  g4 := by kernel_rfl }
def Tryd.itoA_ren : Go.Shelf.Ren := ⟨fun | 171 => 54 | 243 => 64 | 246 => 72 | 283 => 79 | 284 => 80 | 285 => 81 | 286 => 82 | 129 => 86 | 317 => 85 | 318 => 87 | 319 => 88 | 320 => 89 | 337 => 90 | 338 => 91 | n => n, fun | 3 => 3 | 9 => 9 | 2 => 2 | 4 => 4 | 171 => 132 | 0 => 0 | 53 => 133 | 37 => 36 | 5 => 5 | 173 => 136 | 212 => 147 | 51 => 143 | 20 => 20 | 213 => 148 | 46 => 47 | 232 => 151 | 233 => 152 | n => n, fun | 17 => 21 | 18 => 22 | 19 => 23 | n => n⟩
theorem Tryd.itoA : Go.Proofs.LaysM.n171 Tryd.prog Tryd.itoA_ren := {
  mixed := by kernel_rfl
  f129 := Tryd.func86.trans (congrArg some (by kernel_rfl))
  f171 := Tryd.func54.trans (congrArg some (by kernel_rfl))
  f243 := Tryd.func64.trans (congrArg some (by kernel_rfl))
  f246 := Tryd.func72.trans (congrArg some (by kernel_rfl))
  f283 := Tryd.func79.trans (congrArg some (by kernel_rfl))
  f284 := Tryd.func80.trans (congrArg some (by kernel_rfl))
  f285 := Tryd.func81.trans (congrArg some (by kernel_rfl))
  f286 := Tryd.func82.trans (congrArg some (by kernel_rfl))
  f317 := Tryd.func85.trans (congrArg some (by kernel_rfl))
  f318 := Tryd.func87.trans (congrArg some (by kernel_rfl))
  f319 := Tryd.func88.trans (congrArg some (by kernel_rfl))
  f320 := Tryd.func89.trans (congrArg some (by kernel_rfl))
  f337 := Tryd.func90.trans (congrArg some (by kernel_rfl))
  f338 := Tryd.func91.trans (congrArg some (by kernel_rfl))
  t0 := Tryd.underlying0
  a0 := Tryd.isAgg0
  z0 := Tryd.sizeOf0
  v0 := Tryd.zeroValue0
  t2 := Tryd.underlying2
  a2 := Tryd.isAgg2
  z2 := Tryd.sizeOf2
  v2 := Tryd.zeroValue2
  t3 := Tryd.underlying3
  a3 := Tryd.isAgg3
  z3 := Tryd.sizeOf3
  v3 := Tryd.zeroValue3
  t4 := Tryd.underlying4
  a4 := Tryd.isAgg4
  z4 := Tryd.sizeOf4
  v4 := Tryd.zeroValue4
  t5 := Tryd.underlying5
  a5 := Tryd.isAgg5
  z5 := Tryd.sizeOf5
  v5 := Tryd.zeroValue5
  t9 := Tryd.underlying9
  a9 := Tryd.isAgg9
  z9 := Tryd.sizeOf9
  v9 := Tryd.zeroValue9
  t20 := Tryd.underlying20
  a20 := Tryd.isAgg20
  z20 := Tryd.sizeOf20
  v20 := Tryd.zeroValue20
  t37 := Tryd.underlying36
  a37 := Tryd.isAgg36
  z37 := Tryd.sizeOf36
  v37 := Tryd.zeroValue36
  t46 := Tryd.underlying47
  a46 := Tryd.isAgg47
  z46 := Tryd.sizeOf47
  v46 := Tryd.zeroValue47
  t51 := Tryd.underlying143
  a51 := Tryd.isAgg143
  z51 := Tryd.sizeOf143
  v51 := Tryd.zeroValue143
  t53 := Tryd.underlying133
  a53 := Tryd.isAgg133
  z53 := Tryd.sizeOf133
  v53 := Tryd.zeroValue133
  t171 := Tryd.underlying132
  a171 := Tryd.isAgg132
  z171 := Tryd.sizeOf132
  v171 := Tryd.zeroValue132
  t173 := Tryd.underlying136
  a173 := Tryd.isAgg136
  z173 := Tryd.sizeOf136
  v173 := Tryd.zeroValue136
  t212 := Tryd.underlying147
  a212 := Tryd.isAgg147
  z212 := Tryd.sizeOf147
  v212 := Tryd.zeroValue147
  t213 := Tryd.underlying148
  a213 := Tryd.isAgg148
  z213 := Tryd.sizeOf148
  t232 := Tryd.underlying151
  a232 := Tryd.isAgg151
  z232 := Tryd.sizeOf151
  v232 := Tryd.zeroValue151
  t233 := Tryd.underlying152
  a233 := Tryd.isAgg152
  z233 := Tryd.sizeOf152
  v233 := Tryd.zeroValue152
  g17 := by kernel_rfl
  g18 := by kernel_rfl
  g19 := by kernel_rfl
  i0 := by kernel_rfl
  i2 := by kernel_rfl
  i3 := by kernel_rfl
  i4 := by kernel_rfl
  i5 := by kernel_rfl
  i9 := by kernel_rfl
  i20 := by kernel_rfl
  i37 := by kernel_rfl
  i46 := by kernel_rfl
  i51 := by kernel_rfl
  i53 := by kernel_rfl
  i171 := by kernel_rfl
  i173 := by kernel_rfl
  i212 := by kernel_rfl
  i232 := by kernel_rfl
  i233 := by kernel_rfl
  m17 := by kernel_rfl
  m18 := by kernel_rfl
  m19 := by kernel_rfl }
def Tryd.joiA_ren : Go.Shelf.Ren := ⟨fun | 156 => 56 | 165 => 65 | 166 => 30 | 169 => 31 | 240 => 46 | 241 => 73 | 276 => 57 | 277 => 83 | n => n, fun | 31 => 56 | 9 => 9 | 3 => 3 | 4 => 4 | 0 => 0 | 20 => 20 | 72 => 73 | 76 => 75 | 70 => 71 | 37 => 36 | 75 => 25 | 127 => 94 | 164 => 117 | 5 => 5 | 80 => 77 | n => n, fun | n => n⟩
theorem Tryd.joiA : Go.Proofs.Lays.n156 Tryd.prog Tryd.joiA_ren := {
  mixed := by kernel_rfl
  f156 := Tryd.func56.trans (congrArg some (by kernel_rfl))
  f165 := Tryd.func65.trans (congrArg some (by kernel_rfl))
  f166 := Tryd.func30.trans (congrArg some (by kernel_rfl))
  f169 := Tryd.func31.trans (congrArg some (by kernel_rfl))
  f240 := Tryd.func46.trans (congrArg some (by kernel_rfl))
  f241 := Tryd.func73.trans (congrArg some (by kernel_rfl))
  f276 := Tryd.func57.trans (congrArg some (by kernel_rfl))
  f277 := Tryd.func83.trans (congrArg some (by kernel_rfl))
  t0 := Tryd.underlying0
  a0 := Tryd.isAgg0
  z0 := Tryd.sizeOf0
  v0 := Tryd.zeroValue0
  t3 := Tryd.underlying3
  a3 := Tryd.isAgg3
  z3 := Tryd.sizeOf3
  v3 := Tryd.zeroValue3
  t4 := Tryd.underlying4
  a4 := Tryd.isAgg4
  z4 := Tryd.sizeOf4
  v4 := Tryd.zeroValue4
  t9 := Tryd.underlying9
  a9 := Tryd.isAgg9
  z9 := Tryd.sizeOf9
  v9 := Tryd.zeroValue9
  t20 := Tryd.underlying20
  a20 := Tryd.isAgg20
  z20 := Tryd.sizeOf20
  v20 := Tryd.zeroValue20
  t31 := Tryd.underlying56
  a31 := Tryd.isAgg56
  z31 := Tryd.sizeOf56
  v31 := Tryd.zeroValue56
  t37 := Tryd.underlying36
  a37 := Tryd.isAgg36
  z37 := Tryd.sizeOf36
  v37 := Tryd.zeroValue36
  t70 := Tryd.underlying71
  a70 := Tryd.isAgg71
  z70 := Tryd.sizeOf71
  v70 := Tryd.zeroValue71
  t72 := Tryd.underlying73
  a72 := Tryd.isAgg73
  z72 := Tryd.sizeOf73
  v72 := Tryd.zeroValue73
  t75 := Tryd.underlying25
  a75 := Tryd.isAgg25
  z75 := Tryd.sizeOf25
  v75 := Tryd.zeroValue25
  t76 := Tryd.underlying75
  a76 := Tryd.isAgg75
  z76 := Tryd.sizeOf75
  v76 := Tryd.zeroValue75
  t127 := Tryd.underlying94
  a127 := Tryd.isAgg94
  z127 := Tryd.sizeOf94
  v127 := Tryd.zeroValue94
  t164 := Tryd.underlying117
  a164 := Tryd.isAgg117
  z164 := Tryd.sizeOf117
  v164 := Tryd.zeroValue117 }
end Go.Proofs

/- The engine, part S: a string's bytes and pieces; a string appended to bytes. -/
namespace Go.Proofs.YthicckleihbomaaDoor
open Go
set_option linter.unusedVariables false
set_option linter.unusedSimpArgs false

theorem str_get (b : List UInt8) (j : Nat) : (str b)[j]? = b[j]? := by
  have h1 : (str b).size = b.length := str_size b
  by_cases h : j < b.length
  · rw [getElem?_pos (str b) j (by omega), List.getElem?_eq_getElem h]
    rfl
  · rw [getElem?_neg (str b) j (by omega), List.getElem?_eq_none (by omega)]
theorem str_extract (b : List UInt8) (l h : Nat) : (str b).extract l h = str ((b.take h).drop l) := by
  apply ByteArray.ext
  simp [str, ByteArray.data_extract]
  rw [List.drop_take]
section
variable {P : Program} {w0 : World} {F0 : Nat → Prop} {L : List Res} {Q : Exit → Act → World → Prop} {n : Fm} {env : Env} {ops : Array Oper} {rest : List Oper}
variable {d : Option Tmp} {t : Tmp} {ty : TypeId} {pos : String} {af : Array Edge} {gd : Option (Nat × Bool)}
/-- s[i] -/
theorem r_ixs {x i : Operand} {T : TypeId} {b : List UInt8} {k : IntKind} {j : Nat} {c : UInt8} [UNT P T .string] (hc : b[j]? = some c) (hx : ev n env x = .string (str b) := by exact rfl) (hi : ev n env i = .int k (j : Int) := by exact rfl) :
    Runs P w0 F0 L n env ⟨d, .index T x i, ty, pos, af, gd⟩ (.int .u8 c.toNat) := fun w _ => by
  have h0 : (0 : Int) ≤ (j : Int) := by omega
  simp [execOp, hx, hi, Instr.index, asIntOf, run_underlying (UNT.h (P := P) (T := T)), str_get, hc]
/-- s[l:h] -/
theorem r_subs {x : Operand} {T : TypeId} {lo hi : Option Operand} {b : List UInt8} {l h : Nat} [UNT P T .string] (h1 : l ≤ h) (h2 : h ≤ b.length)
    (hlo : (match lo with | none => l = 0 | some y => ∃ k, ev n env y = .int k (l : Int))) (hhi : (match hi with | none => h = b.length | some y => ∃ k, ev n env y = .int k (h : Int))) (hx : ev n env x = .string (str b) := by exact rfl) :
    Runs P w0 F0 L n env ⟨d, .slice T x lo hi none, ty, pos, af, gd⟩ (.string (str ((b.take h).drop l))) := fun w _ => by
  have e1 : (Instr.sliceBounds false b.length b.length (lo.map (ev n env)) (hi.map (ev n env)) none).run P w = .ok (l, h, b.length) w := by
    unfold Instr.sliceBounds
    cases hi with
    | none =>
      simp only at hhi; subst hhi
      cases lo with
      | none => simp only at hlo; subst hlo; simp
      | some y =>
        obtain ⟨k, hk⟩ := hlo
        have : (0:Int) ≤ l ∧ (l:Int) ≤ b.length := ⟨by omega, by omega⟩
        simp [hk, Instr.sliceBound, asIntOf, h1, Nat.not_lt.2 h1]
    | some z =>
      obtain ⟨k2, hk2⟩ := hhi
      have : (0:Int) ≤ h ∧ (h:Int) ≤ b.length := ⟨by omega, by omega⟩
      cases lo with
      | none => simp only at hlo; subst hlo; simp [hk2, Instr.sliceBound, asIntOf, h2, Nat.not_lt.2 h2]
      | some y =>
        obtain ⟨k, hk⟩ := hlo
        have : (0:Int) ≤ l ∧ (l:Int) ≤ h := ⟨by omega, by omega⟩
        simp [hk, hk2, Instr.sliceBound, asIntOf, h1, h2, Nat.not_lt.2 h1, Nat.not_lt.2 h2]
  rw [← str_extract]
  simp only [execOp, hx]
  simp [Instr.sliceAt, Instr.slice, run_underlying (UNT.h (P := P) (T := T)), str_size, e1]
/-- append(b, s...) -/
theorem St.appendS {w : World} {e m c : Nat} {a : Option Addr} {xs : List Value} {b : List UInt8} {L' : List Res} {T S ty : TypeId} [UNT P S .string] [ELT P T e 1 1]
    (hs : St w0 F0 L w) (hp : Pick L (rowR e 1 a m c xs) L') (h63 : m + b.length ≤ 140737488355328) :
    ∃ a' c' w', (Builtin.append_ #[T, S] ty #[.slice a m c, .string (str b)]).run P w = .ok (.slice a' (m + b.length) c') w' ∧ St w0 F0 (rowR e 1 a' (m + b.length) c' (xs ++ b.map B8) :: L') w' := by
  obtain ⟨hsl, ⟨i, z, hi, hz, hsize, hby, hzs⟩, hpos⟩ := ELT.h (P := P) (t := T)
  have hun := hsl
  obtain ⟨F, hF, hst⟩ := hs
  obtain ⟨F1, F2, hrow, h2, hE, hd⟩ := hp.stars hF
  have hown := hrow
  obtain ⟨hxl, hmc, hcm, hcase⟩ := hrow
  have hs' : St w0 F0 L' w := ⟨F2, h2, hst.weak fun k hk => (hE k).2 (.inr hk)⟩
  have hb1 : (b.map B8).length = b.length := by simp
  have hone : ∀ u ∈ b.map B8, u.oneCell' = true := fun u hu => by obtain ⟨x, _, rfl⟩ := List.mem_map.1 hu; rfl
  have hlen : (xs ++ b.map B8).length = (m + b.length) * 1 := by rw [List.length_append, hxl, hb1]; omega
  have hfirst : ∀ W : World, (Builtin.firstCells 1 b.length (.string (str b))).run P W = .ok (b.map B8).toArray W := fun W => by
    have e1 : (str b).extract 0 b.length = str b := by rw [str_extract]; simp
    simp [Builtin.firstCells, e1]
    simp [str, B8, Function.comp_def]
  have hlo : ∀ W : World, (Builtin.lenOf (.string (str b))).run P W = .ok b.length W := fun W => by simp [Builtin.lenOf, str_size]
  by_cases hroom : m + b.length ≤ c
  · rcases hcase with ⟨rfl, rfl, hF1⟩ | ⟨g, o, cs, fz, rfl, hF1, hg, hfz, hl, hx⟩
    · have hm0 : m = 0 := by omega
      have hk0 : b.length = 0 := by omega
      subst hm0
      have hx0 : xs = [] := List.eq_nil_of_length_eq_zero (by simpa using hxl)
      have hb0 : b = [] := List.eq_nil_of_length_eq_zero hk0
      subst hx0; subst hb0
      refine ⟨none, 0, w, ?_, ?_⟩
      · have hf := hfirst w
        have hlw := hlo w
        simp only [List.length_nil, List.map_nil] at hf hlw
        simp [Builtin.append_, run_underlying hun, run_underlying (UNT.h (P := P) (T := S)), sizeOf, typeInfo, hi, hsize, hlw, hf]
      · exact ⟨F2, stars_row_nil h2, hst.weak fun k hk => (hE k).2 (.inr hk)⟩
    · have hst' := run_storeCells_blk (P := P) (T := e) (fz := fz) g (o + m * 1) (b.map B8) 0 cs.toList w (by simpa using hg) (by simpa using hfz) (by simp; omega) hone
      refine ⟨some ⟨g, o, none⟩, c, { w with heap := w.heap.setIfInBounds g (.cells (updL cs.toList (o + m * 1) (b.map B8)).toArray e fz) }, ?_, F, ⟨F1, F2, ⟨hlen, hroom, hcm, .inr ⟨g, o, (updL cs.toList (o + m * 1) (b.map B8)).toArray, fz, rfl, hF1, ?_, ?_, ?_, ?_⟩⟩, ?_, hE, hd⟩, ?_⟩
      · have hf := hfirst w
        have hlw := hlo w
        simp only [Nat.add_zero, Nat.mul_one] at hst'
        simp [Builtin.append_, run_underlying hun, run_underlying (UNT.h (P := P) (T := S)), sizeOf, typeInfo, hi, hsize, hlw, hroom, hf, Addr.add_mid, hst']
      · have hlt : g < w.heap.size := (Array.getElem?_eq_some_iff.1 hg).1
        simp [hlt]
      · rw [List.size_toArray, updL_length (by simp; omega)]; simpa using hfz
      · rw [List.size_toArray, updL_length (by simp; omega)]; simpa using hl
      · rw [← hlen]
        simp only [updL]
        have e1 : (cs.toList.take (o + m * 1)).drop o = xs := by
          rw [List.drop_take, ← hx]; congr 1; omega
        rw [List.drop_append_of_le_length (by simp; omega), e1, ← List.append_assoc]
        exact List.take_left
      · refine stars_loc h2 fun j hj => ?_
        have : ¬ g = j := fun e => hd j ((hF1 j).2 e.symm) hj
        simp [Array.getElem?_setIfInBounds, this]
      · refine ⟨hst.os, hst.tape, hst.output, by simpa using hst.size, fun j hj hn => ?_, hst.own⟩
        rw [← hst.block j hj hn]
        have : ¬ g = j := fun e => (hst.old hj hn).2 ((hE j).2 (.inl ((hF1 j).2 e.symm)))
        simp [Array.getElem?_setIfInBounds, this]
  · have hmx : m + b.length ≤ maxLen := by simp only [maxLen]; omega
    have hge := grownCap_ge w (m + b.length) c e
    have hcl : grownCap w (m + b.length) c e ≤ maxLen := grownCap_le_maxLen w (m + b.length) c e hmx
    have hrun : (Builtin.append_ #[T, S] ty #[.slice a m c, .string (str b)]).run P w = .ok (.slice (some ⟨w.heap.size, 0, none⟩) (m + b.length) (grownCap w (m + b.length) c e))
        (w.drew.alloc (.cells (xs.toArray ++ (b.map B8).toArray ++ Builtin.zeroCells z.cells (grownCap w (m + b.length) c e - (m + b.length))) e)) := by
      have h48' : ¬ (281474976710656 < Builtin.nextslicecap (m + b.length) c * 1) := by
        have := growslice_fits (need := m + b.length) (old := c) (bytes := 1) (by omega) (by omega); omega
      have h63' : ¬ (9223372036854775807 < ((m : Int) + (b.length : Int))) := by omega
      have hfo' : (Builtin.firstCells 1 m (.slice a m c)).run P w.drew = .ok xs.toArray w.drew := ((rowR.rd hown).mv (w' := w.drew) (A' := fun _ => True) fun _ _ _ => ⟨rfl, trivial⟩).first
      have hfn' := hfirst w.drew
      have hlw := hlo w
      rw [Nat.mul_one] at h48'
      simp [Builtin.append_, run_underlying hun, run_underlying (UNT.h (P := P) (T := S)), sizeOf, typeInfo, zeroValue, hi, hz, hsize, hby, hlw, hroom, h63', h48', Question.forced, hfo', hfn', Go.newRow, grownCap]
      congr 2
      apply Array.ext'
      simp
    refine ⟨_, _, _, hrun, hs'.newRow (w' := w.drew.alloc _) (fz := (0, 0)) rfl rfl rfl rfl (fun j _ h => by simp at h) ?_ hge hcl ?_⟩
    · simp only [Array.toList_append, List.append_assoc]
      rw [← List.append_assoc, ← hlen]
      exact List.take_left
    · simp only [Array.size_append, List.size_toArray, size_zeroCells, hzs, hxl, hb1]
      omega
theorem zaps {x y : Operand} {T S e m c : Nat} {a : Option Addr} {xs : List Value} {b : List UInt8} {L' : List Res} [UNT P S .string] [ELT P T e 1 1]
    (K : ∀ a' c', Gl P w0 F0 (rowR e 1 a' (m + b.length) c' (xs ++ b.map B8) :: L') ops Q rest n ((t, .slice a' (m + b.length) c') :: env)) (h63 : m + b.length ≤ 140737488355328 := by omega)
    (hx : ev n env x = .slice a m c := by exact rfl) (hy : ev n env y = .string (str b) := by exact rfl) (hp : Pick L (rowR e 1 a m c xs) L' := by repeat (first | exact Pick.here | apply Pick.there))
    (hw : Wt ops n env ⟨some t, .call ⟨.builtin .append, #[x, y], #[T, S]⟩, ty, pos, af, gd⟩ true := by first | exact wt0 rfl | exact wtgT rfl rfl rfl rfl) :
    Gl P w0 F0 L ops Q (⟨some t, .call ⟨.builtin .append, #[x, y], #[T, S]⟩, ty, pos, af, gd⟩ :: rest) n env := by
  refine gl_effx (α := Option Addr × Nat) (L' := fun p => rowR e 1 p.1 (m + b.length) p.2 (xs ++ b.map B8) :: L') (v := fun p => .slice p.1 (m + b.length) p.2) hw (fun w hs => ?_) (fun p => K p.1 p.2)
  obtain ⟨a', c', w', hrun, hs'⟩ := hs.appendS (P := P) (T := T) (S := S) (ty := ty) (b := b) hp h63
  refine ⟨(a', c'), w', ?_, hs'⟩
  simp [execOp, resolve, invoke, builtin, hx, hy, hrun]
end
end Go.Proofs.YthicckleihbomaaDoor

/- The engine, part U: regions that draw their order, the last operations (one by one behind all others) free of what is kept. -/
namespace Go.Proofs.YthicckleihbomaaDoor
open Go
set_option linter.unusedVariables false
set_option linter.unusedSimpArgs false
section tail
variable {ro : Option Nat} {P : Program} {ops : Array Oper} {Q : Exit → Act → World → Prop} {md : Region.Mode} {S : World → Prop} {z : Nat}
theorem getD_some {listed : Array Bool} {i : Nat} (hi : i < listed.size) (h : listed.getD i false = true) : listed[i]? = some true := by
  rw [Array.getElem?_eq_getElem hi]
  simpa [hi] using h
end tail
section heldu
variable {P : Program} {w0 : World} {F0 : Nat → Prop} {K L : List Res} {Q : Exit → Act → World → Prop} {n : Fm} {env : Env} {ops : Array Oper} {listed : Array Bool} {fuel z : Nat}
end heldu
end Go.Proofs.YthicckleihbomaaDoor

