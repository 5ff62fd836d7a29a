/- Part 2. What is proved: see the last part: for every input the law returns true, and the input reads as it did. -/
import Derived.Test.YtobjojeliibinaaDoorCo1
import Derived.OpenShut
import Derived.ChangeArms
import Derived.Test.YtobjojeliibinaaDoorRows
import Derived.WalkKit
import Derived.ProofKit
import Derived.Below
import Derived.Carry
import Derived.Lib.LaidTab
import Derived.Stop.LaidErr
import Derived.KernelRfl
import Derived.Lib.ConvBytes
import Derived.Laws.MakeOwn
/- What memory reads as: digests, signatures, certificates, blocks. -/
namespace Go.Proofs.YtobjojeliibinaaDoor
open Go
set_option linter.unusedVariables false

structure Sig where
  leaf : Int
  chains : List Dig
  path : List Dig
  deriving DecidableEq
structure Signed where
  who : Int
  sig : Sig
  deriving DecidableEq
structure Vdr where
  key : Dig
  power : Int
  deriving DecidableEq
structure QC where
  epoch : Int
  round : Int
  block : Dig
  votes : List Signed
  deriving DecidableEq
structure Late where
  who : Int
  high : Int
  sig : Sig
  deriving DecidableEq
structure TC where
  epoch : Int
  round : Int
  lates : List Late
  deriving DecidableEq
structure Block where
  epoch : Int
  round : Int
  parent : Dig
  justify : QC
  payload : List (List UInt8)
  next : List Vdr
  deriving DecidableEq

structure Vote where
  epoch : Int
  round : Int
  block : Dig
  sender : Signed
  deriving DecidableEq
structure Tmo where
  epoch : Int
  round : Int
  high : QC
  last : TC
  sender : Signed
  deriving DecidableEq
structure Prop' where
  block : Block
  last : TC
  sender : Signed
  deriving DecidableEq
structure Chg where
  blocks : List Block
  qc : QC
  deriving DecidableEq
structure Msg where
  kind : Int
  vote : Vote
  tmo : Tmo
  prop : Prop'
  wantFrom : Dig
  wantBlock : Dig
  reply : Block
  chg : Chg
  deriving DecidableEq

/-- What is there in w at blocks of A is there in w' at blocks of A'. -/
def Still (w : World) (A : Nat → Prop) (w' : World) (A' : Nat → Prop) : Prop := ∀ k, k < w.heap.size → A k → w'.heap[k]? = w.heap[k]? ∧ A' k

/-! ### Lists -/
def RdList {α : Type} (rd : List Value → α → Prop) (w : World) (A : Nat → Prop) (size : Nat) (a : Option Addr) (n : Nat) (l : List α) : Prop :=
  ∃ css : List (List Value), RdRow w A size a n css.flatten ∧ (∀ c ∈ css, c.length = size) ∧ css.length = l.length ∧ ∀ (i : Nat) (c : List Value) (x : α), css[i]? = some c → l[i]? = some x → rd c x
theorem flatten_len {size : Nat} : ∀ {css : List (List Value)}, (∀ c ∈ css, c.length = size) → css.flatten.length = css.length * size
  | [], _ => by simp
  | c :: l, h => by
    rw [List.flatten_cons, List.length_append, flatten_len (fun c' hc' => h c' (by simp [hc'])), h c (by simp), List.length_cons, Nat.add_mul, Nat.one_mul, Nat.add_comm]
theorem flatten_at {size : Nat} : ∀ {css : List (List Value)} {i : Nat} {c : List Value}, (∀ c ∈ css, c.length = size) → css[i]? = some c → (css.flatten.drop (i * size)).take size = c
  | [], i, c, _, hi => by simp at hi
  | d :: l, 0, c, h, hi => by
    simp at hi; subst hi
    simp only [Nat.zero_mul, List.drop_zero, List.flatten_cons]
    rw [← h d (by simp)]; exact List.take_left
  | d :: l, i + 1, c, h, hi => by
    have hd := h d (by simp)
    simp only [List.getElem?_cons_succ] at hi
    rw [List.flatten_cons, List.drop_append, List.drop_eq_nil_of_le (by rw [hd, Nat.add_mul, Nat.one_mul]; omega), List.nil_append, hd, show (i + 1) * size - size = i * size by rw [Nat.add_mul, Nat.one_mul]; omega]
    exact flatten_at (fun c' hc' => h c' (by simp [hc'])) hi
section list
variable {α : Type} {rd rd' : List Value → α → Prop} {w w' : World} {A A' : Nat → Prop} {size n : Nat} {a : Option Addr} {l : List α}
theorem RdList.len (h : RdList rd w A size a n l) (hs : 0 < size) : n = l.length := by
  obtain ⟨css, hr, hc, hl, _⟩ := h
  have := hr.1
  rw [flatten_len hc, hl] at this
  exact (Nat.eq_of_mul_eq_mul_right hs this).symm
theorem RdList.max (h : RdList rd w A size a n l) : n ≤ maxLen := by obtain ⟨css, hr, _⟩ := h; exact hr.2.1
theorem RdList.elem (h : RdList rd w A size a n l) (hs : 0 < size) {i : Nat} (hi : i < n) :
    ∃ g o c x, a = some ⟨g, o, none⟩ ∧ A g ∧ g < w.heap.size ∧ w.rangeAt g (o + i * size) c ∧ c.length = size ∧ l[i]? = some x ∧ rd c x := by
  have hn := h.len hs
  obtain ⟨css, hr, hc, hl, hx⟩ := h
  obtain ⟨g, o, ha, hA, hg, hra⟩ := hr.elem hi
  have hci : css[i]? = some (css[i]'(by omega)) := List.getElem?_eq_getElem (by omega)
  have hli : l[i]? = some (l[i]'(by omega)) := List.getElem?_eq_getElem (by omega)
  rw [flatten_at hc hci] at hra
  exact ⟨g, o, _, _, ha, hA, hg, hra, hc _ (List.mem_of_getElem? hci), hli, hx i _ _ hci hli⟩
theorem RdList.mv (h : RdList rd w A size a n l) (hk : Still w A w' A') (hrd : ∀ c x, rd c x → rd' c x) : RdList rd' w' A' size a n l := by
  obtain ⟨css, hr, hc, hl, hx⟩ := h
  exact ⟨css, hr.mv hk, hc, hl, fun i c x h1 h2 => hrd c x (hx i c x h1 h2)⟩
theorem RdList.nil : RdList rd w A size a 0 ([] : List α) :=
  ⟨[], RdRow.nil, (by intro c hc; cases hc), rfl, (by intro i c x h; simp at h)⟩
end list

/-! ### The kinds -/
def RdDig (cs : List Value) (d : Dig) : Prop := cs = dc d
def RdBytes (w : World) (A : Nat → Prop) (cs : List Value) (b : List UInt8) : Prop := ∃ a n c, cs = [.slice a n c] ∧ n ≤ c ∧ RdRow w A 1 a n (b.map B8)
def RdDigs (w : World) (A : Nat → Prop) (a : Option Addr) (n : Nat) (l : List Dig) : Prop := RdList RdDig w A 16 a n l
def cSig (s : Sig) (a1 : Option Addr) (n1 c1 : Nat) (a2 : Option Addr) (n2 c2 : Nat) : List Value := [.int .i64 s.leaf, .slice a1 n1 c1, .slice a2 n2 c2]
def RdSig (w : World) (A : Nat → Prop) (cs : List Value) (s : Sig) : Prop :=
  ∃ a1 n1 c1 a2 n2 c2, cs = [.int .i64 s.leaf, .slice a1 n1 c1, .slice a2 n2 c2] ∧ n1 ≤ c1 ∧ n2 ≤ c2 ∧ RdDigs w A a1 n1 s.chains ∧ RdDigs w A a2 n2 s.path
def RdSigned (w : World) (A : Nat → Prop) (cs : List Value) (s : Signed) : Prop := ∃ ss, cs = .int .i64 s.who :: ss ∧ RdSig w A ss s.sig
def RdVdr (cs : List Value) (v : Vdr) : Prop := cs = dc v.key ++ [.int .i64 v.power]
def RdQC (w : World) (A : Nat → Prop) (cs : List Value) (q : QC) : Prop :=
  ∃ a n c, cs = .int .i64 q.epoch :: .int .i64 q.round :: (dc q.block ++ [.slice a n c]) ∧ n ≤ c ∧ RdList (RdSigned w A) w A 4 a n q.votes
def RdLate (w : World) (A : Nat → Prop) (cs : List Value) (l : Late) : Prop := ∃ ss, cs = .int .i64 l.who :: .int .i64 l.high :: ss ∧ RdSig w A ss l.sig
def RdTC (w : World) (A : Nat → Prop) (cs : List Value) (t : TC) : Prop :=
  ∃ a n c, cs = [.int .i64 t.epoch, .int .i64 t.round, .slice a n c] ∧ n ≤ c ∧ RdList (RdLate w A) w A 5 a n t.lates
def RdBlock (w : World) (A : Nat → Prop) (cs : List Value) (b : Block) : Prop :=
  ∃ q a1 n1 c1 a2 n2 c2, cs = .int .i64 b.epoch :: .int .i64 b.round :: (dc b.parent ++ (q ++ [.slice a1 n1 c1, .slice a2 n2 c2])) ∧ RdQC w A q b.justify ∧
    n1 ≤ c1 ∧ RdList (RdBytes w A) w A 1 a1 n1 b.payload ∧ n2 ≤ c2 ∧ RdList RdVdr w A 17 a2 n2 b.next

def RdVote (w : World) (A : Nat → Prop) (cs : List Value) (v : Vote) : Prop := ∃ sg, cs = .int .i64 v.epoch :: .int .i64 v.round :: (dc v.block ++ sg) ∧ RdSigned w A sg v.sender
def RdTmo (w : World) (A : Nat → Prop) (cs : List Value) (v : Tmo) : Prop := ∃ q t sg, cs = .int .i64 v.epoch :: .int .i64 v.round :: (q ++ (t ++ sg)) ∧ RdQC w A q v.high ∧ RdTC w A t v.last ∧ RdSigned w A sg v.sender
def RdProp (w : World) (A : Nat → Prop) (cs : List Value) (v : Prop') : Prop := ∃ b t sg, cs = b ++ (t ++ sg) ∧ RdBlock w A b v.block ∧ RdTC w A t v.last ∧ RdSigned w A sg v.sender
def RdChg (w : World) (A : Nat → Prop) (cs : List Value) (c : Chg) : Prop :=
  ∃ (css : List (List Value)) (q : List Value), cs = css.flatten ++ q ∧ (∀ x ∈ css, x.length = 39) ∧ css.length = 3 ∧ c.blocks.length = 3 ∧ (∀ (i : Nat) (x : List Value) (b : Block), css[i]? = some x → c.blocks[i]? = some b → RdBlock w A x b) ∧ RdQC w A q c.qc
def RdMsg (w : World) (A : Nat → Prop) (cs : List Value) (m : Msg) : Prop :=
  ∃ v t p r c, cs = .int .i64 m.kind :: (v ++ (t ++ (p ++ (dc m.wantFrom ++ (dc m.wantBlock ++ (r ++ c)))))) ∧ RdVote w A v m.vote ∧ RdTmo w A t m.tmo ∧ RdProp w A p m.prop ∧ RdBlock w A r m.reply ∧ RdChg w A c m.chg

section mv
variable {w w' : World} {A A' : Nat → Prop} {cs : List Value}
theorem RdBytes.mv {b : List UInt8} (h : RdBytes w A cs b) (hk : Still w A w' A') : RdBytes w' A' cs b := by
  obtain ⟨a, n, c, h1, h2, h3⟩ := h; exact ⟨a, n, c, h1, h2, h3.mv hk⟩
theorem RdDigs.mv {a : Option Addr} {n : Nat} {l : List Dig} (h : RdDigs w A a n l) (hk : Still w A w' A') : RdDigs w' A' a n l := RdList.mv h hk fun _ _ h => h
theorem RdSig.mv {s : Sig} (h : RdSig w A cs s) (hk : Still w A w' A') : RdSig w' A' cs s := by
  obtain ⟨a1, n1, c1, a2, n2, c2, h1, h2, h3, h4, h5⟩ := h; exact ⟨a1, n1, c1, a2, n2, c2, h1, h2, h3, h4.mv hk, h5.mv hk⟩
theorem RdSigned.mv {s : Signed} (h : RdSigned w A cs s) (hk : Still w A w' A') : RdSigned w' A' cs s := by
  obtain ⟨ss, h1, h2⟩ := h; exact ⟨ss, h1, h2.mv hk⟩
theorem RdQC.mv {q : QC} (h : RdQC w A cs q) (hk : Still w A w' A') : RdQC w' A' cs q := by
  obtain ⟨a, n, c, h1, h2, h3⟩ := h; exact ⟨a, n, c, h1, h2, RdList.mv h3 hk fun _ _ h => h.mv hk⟩
theorem RdLate.mv {l : Late} (h : RdLate w A cs l) (hk : Still w A w' A') : RdLate w' A' cs l := by
  obtain ⟨ss, h1, h2⟩ := h; exact ⟨ss, h1, h2.mv hk⟩
theorem RdTC.mv {t : TC} (h : RdTC w A cs t) (hk : Still w A w' A') : RdTC w' A' cs t := by
  obtain ⟨a, n, c, h1, h2, h3⟩ := h; exact ⟨a, n, c, h1, h2, RdList.mv h3 hk fun _ _ h => h.mv hk⟩
theorem RdBlock.mv {b : Block} (h : RdBlock w A cs b) (hk : Still w A w' A') : RdBlock w' A' cs b := by
  obtain ⟨q, a1, n1, c1, a2, n2, c2, h1, h2, h3, h4, h5, h6⟩ := h
  exact ⟨q, a1, n1, c1, a2, n2, c2, h1, h2.mv hk, h3, RdList.mv h4 hk fun _ _ h => h.mv hk, h5, RdList.mv h6 hk fun _ _ h => h⟩
theorem RdSig.len {s : Sig} (h : RdSig w A cs s) : cs.length = 3 := by obtain ⟨_, _, _, _, _, _, h, _⟩ := h; subst h; rfl
theorem RdSigned.len {s : Signed} (h : RdSigned w A cs s) : cs.length = 4 := by obtain ⟨ss, h, h2⟩ := h; subst h; simp [h2.len]
theorem RdLate.len {s : Late} (h : RdLate w A cs s) : cs.length = 5 := by obtain ⟨ss, h, h2⟩ := h; subst h; simp [h2.len]
theorem RdQC.len {q : QC} (h : RdQC w A cs q) : cs.length = 19 := by obtain ⟨_, _, _, h, _⟩ := h; subst h; simp [dc_length]
theorem RdTC.len {t : TC} (h : RdTC w A cs t) : cs.length = 3 := by obtain ⟨_, _, _, h, _⟩ := h; subst h; rfl
theorem RdVdr.len {v : Vdr} (h : RdVdr cs v) : cs.length = 17 := by subst h; simp [dc_length]
theorem RdBlock.len {b : Block} (h : RdBlock w A cs b) : cs.length = 39 := by obtain ⟨q, _, _, _, _, _, _, h, hq, _⟩ := h; subst h; simp [dc_length, hq.len]
theorem RdSig.one {s : Sig} (h : RdSig w A cs s) : ∀ v ∈ cs, v.oneCell' = true := by obtain ⟨_, _, _, _, _, _, h, _⟩ := h; subst h; exact all_cons' rfl (all_cons' rfl (all_cons' rfl all_nil'))
theorem RdSigned.one {s : Signed} (h : RdSigned w A cs s) : ∀ v ∈ cs, v.oneCell' = true := by obtain ⟨ss, h, h2⟩ := h; subst h; exact all_cons' rfl h2.one
theorem RdLate.one {s : Late} (h : RdLate w A cs s) : ∀ v ∈ cs, v.oneCell' = true := by obtain ⟨ss, h, h2⟩ := h; subst h; exact all_cons' rfl (all_cons' rfl h2.one)
theorem RdQC.one {q : QC} (h : RdQC w A cs q) : ∀ v ∈ cs, v.oneCell' = true := by obtain ⟨_, _, _, h, _⟩ := h; subst h; exact all_cons' rfl (all_cons' rfl (all_app' (dc_one _) (all_cons' rfl all_nil')))
theorem RdTC.one {t : TC} (h : RdTC w A cs t) : ∀ v ∈ cs, v.oneCell' = true := by obtain ⟨_, _, _, h, _⟩ := h; subst h; exact all_cons' rfl (all_cons' rfl (all_cons' rfl all_nil'))
theorem RdVdr.one {v : Vdr} (h : RdVdr cs v) : ∀ u ∈ cs, u.oneCell' = true := by subst h; exact all_app' (dc_one _) (all_cons' rfl all_nil')
theorem RdBlock.one {b : Block} (h : RdBlock w A cs b) : ∀ v ∈ cs, v.oneCell' = true := by
  obtain ⟨q, _, _, _, _, _, _, h, hq, _⟩ := h; subst h; exact all_cons' rfl (all_cons' rfl (all_app' (dc_one _) (all_app' hq.one (all_cons' rfl (all_cons' rfl all_nil')))))
theorem RdVote.mv {v : Vote} (h : RdVote w A cs v) (hk : Still w A w' A') : RdVote w' A' cs v := by
  obtain ⟨sg, h1, h2⟩ := h; exact ⟨sg, h1, h2.mv hk⟩
theorem RdTmo.mv {v : Tmo} (h : RdTmo w A cs v) (hk : Still w A w' A') : RdTmo w' A' cs v := by
  obtain ⟨q, t, sg, h1, h2, h3, h4⟩ := h; exact ⟨q, t, sg, h1, h2.mv hk, h3.mv hk, h4.mv hk⟩
theorem RdProp.mv {v : Prop'} (h : RdProp w A cs v) (hk : Still w A w' A') : RdProp w' A' cs v := by
  obtain ⟨b, t, sg, h1, h2, h3, h4⟩ := h; exact ⟨b, t, sg, h1, h2.mv hk, h3.mv hk, h4.mv hk⟩
theorem RdChg.mv {v : Chg} (h : RdChg w A cs v) (hk : Still w A w' A') : RdChg w' A' cs v := by
  obtain ⟨css, q, h1, h2, h3, h4, h5, h6⟩ := h; exact ⟨css, q, h1, h2, h3, h4, fun i x b hx hb => (h5 i x b hx hb).mv hk, h6.mv hk⟩
theorem RdMsg.mv {m : Msg} (h : RdMsg w A cs m) (hk : Still w A w' A') : RdMsg w' A' cs m := by
  obtain ⟨v, t, p, r, c, h1, h2, h3, h4, h5, h6⟩ := h; exact ⟨v, t, p, r, c, h1, h2.mv hk, h3.mv hk, h4.mv hk, h5.mv hk, h6.mv hk⟩
theorem RdVote.len {v : Vote} (h : RdVote w A cs v) : cs.length = 22 := by obtain ⟨sg, h1, h2⟩ := h; subst h1; simp [dc_length, h2.len]
theorem RdTmo.len {v : Tmo} (h : RdTmo w A cs v) : cs.length = 28 := by obtain ⟨q, t, sg, h1, h2, h3, h4⟩ := h; subst h1; simp [h2.len, h3.len, h4.len]
theorem RdProp.len {v : Prop'} (h : RdProp w A cs v) : cs.length = 46 := by obtain ⟨q, t, sg, h1, h2, h3, h4⟩ := h; subst h1; simp [h2.len, h3.len, h4.len]
theorem RdChg.len {v : Chg} (h : RdChg w A cs v) : cs.length = 136 := by obtain ⟨css, q, h1, h2, h3, h4, h5, h6⟩ := h; subst h1; simp only [List.length_append, flatten_len h2, h6.len, h3]
theorem RdMsg.len {m : Msg} (h : RdMsg w A cs m) : cs.length = 304 := by obtain ⟨v, t, p, r, c, h1, h2, h3, h4, h5, h6⟩ := h; subst h1; simp only [List.length_cons, List.length_append, dc_length, h2.len, h3.len, h4.len, h5.len, h6.len]
end mv
theorem Stp.still {w0 w : World} {F0 F1 F2 : Nat → Prop} (h : Stp w0 F0 w (fun k => F1 k ∨ F2 k)) : Still w0 (fun k => ¬ F0 k) w (fun k => ¬ F1 k) := h.rd
end Go.Proofs.YtobjojeliibinaaDoor

/- The shell, part F (with part A): what an argument reads as, rows of bytes, numbers, bools, as the walks' reading of memory. -/
namespace Go.Proofs.YtobjojeliibinaaDoor
open Go
set_option linter.unusedVariables false
set_option linter.unusedSimpArgs false

section
variable {H : Type} {enc : TypeId × Value → H} {P : Program} {w : World} {base : Nat} {sp : Nat → Bool} {held : Bool}
/-- Cells of type T read as something that rd says. -/
def Opens {α : Type} (enc : TypeId × Value → H) (P : Program) (w : World) (base : Nat) (sp : Nat → Bool) (held : Bool) (T : TypeId) (rd : List Value → α → Prop) : Prop :=
  ∀ fuel cs x, DataW.trod enc P w base sp held fuel T cs = some x → ∃ o, rd cs o
theorem cellsOf_sz {e s : Nat} (hs : szT P e = some s) : P.cellsOf e = s := by
  unfold szT at hs
  cases hi : P.info? e with
  | none => simp [hi] at hs
  | some i => simp [hi] at hs; simp [Program.cellsOf, hi, hs]
theorem opens_int {T : TypeId} {k : IntKind} (ht : P.underlying T = some (.int k)) : Opens enc P w base sp held T (fun cs n => cs = [.int k n]) := fun fuel cs x h => by
  obtain ⟨n, h1, _⟩ := DataW.trod_int ht h
  exact ⟨n, h1⟩
theorem opens_dig {T e : TypeId} (ht : arrT P T = some (16, e)) (he : P.underlying e = some (.int .u8)) (hs : szT P e = some 1) (hsT : szT P T = some 16) : Opens enc P w base sp held T RdDig := fun fuel cs x h => by
  obtain ⟨xs, m, rfl, rfl, hl, hx, hi⟩ := DataW.trod_array (run_arrT ht) h
  rw [cellsOf_sz hsT] at hl
  have hb : ∀ i, i < 16 → ∃ b : UInt8, cs[i]? = some (B8 b) := fun i hi16 => by
    have h1 := hi i hi16
    rw [cellsOf_sz hs, List.getElem?_eq_getElem (by omega)] at h1
    obtain ⟨n, h2, _, h3⟩ := DataW.trod_int he h1
    have h4 : cs[i]? = some (.int .u8 n) := by
      have : ((cs.drop (i * 1)).take 1)[0]? = some (.int .u8 n) := by rw [h2]; rfl
      rw [List.getElem?_take] at this
      simpa using this
    have hn : 0 ≤ n ∧ n ≤ 255 := by
      simp [Lit.wf, IntKind.min, IntKind.max, IntKind.signed, IntKind.bits] at h3; omega
    refine ⟨UInt8.ofNat n.toNat, ?_⟩
    rw [h4]
    simp only [B8, UInt8.toNat_ofNat', Option.some.injEq, Value.int.injEq, true_and]
    omega
  have hall : ∃ l : List UInt8, l.map B8 = cs := by
    have : ∀ (cs : List Value), (∀ i, i < cs.length → ∃ b : UInt8, cs[i]? = some (B8 b)) → ∃ l : List UInt8, l.map B8 = cs := by
      intro cs
      induction cs with
      | nil => intro _; exact ⟨[], rfl⟩
      | cons v r ih =>
        intro hh
        obtain ⟨b, hb0⟩ := hh 0 (by simp)
        obtain ⟨l, hl'⟩ := ih fun i hi' => by simpa using hh (i + 1) (by simpa using hi')
        simp at hb0
        exact ⟨b :: l, by simp [hl', hb0]⟩
    exact this cs (by rw [hl]; exact hb)
  obtain ⟨l, hl'⟩ := hall
  exact ⟨⟨l, by have := congrArg List.length hl'; simp at this; omega⟩, by rw [RdDig, dc]; exact hl'.symm⟩
theorem opens_byte {T : TypeId} (he : P.underlying T = some (.int .u8)) : Opens enc P w base sp held T (fun cs (b : UInt8) => cs = [B8 b]) := fun fuel cs x h => by
  obtain ⟨n, h2, _, h3⟩ := DataW.trod_int he h
  have hn : 0 ≤ n ∧ n ≤ 255 := by
    simp [Lit.wf, IntKind.min, IntKind.max, IntKind.signed, IntKind.bits] at h3; omega
  refine ⟨UInt8.ofNat n.toNat, ?_⟩
  rw [h2]
  simp only [B8, UInt8.toNat_ofNat', List.cons.injEq, Value.int.injEq, true_and, and_true]
  omega
theorem choose_list {α : Type} {rd : List Value → α → Prop} : ∀ (n : Nat) (f : Nat → List Value), (∀ i, i < n → ∃ o, rd (f i) o) → ∃ l : List α, l.length = n ∧ ∀ i o, l[i]? = some o → rd (f i) o
  | 0, _, _ => ⟨[], rfl, fun i o h => by simp at h⟩
  | n + 1, f, h => by
    obtain ⟨l, h1, h2⟩ := choose_list n f fun i hi => h i (by omega)
    obtain ⟨o, ho⟩ := h n (by omega)
    refine ⟨l ++ [o], by simp [h1], fun i x hx => ?_⟩
    by_cases hi : i < l.length
    · rw [List.getElem?_append_left hi] at hx; exact h2 i x hx
    · rw [List.getElem?_append_right (by omega)] at hx
      have : i - l.length = 0 := by
        rcases Nat.eq_zero_or_pos (i - l.length) with h0 | h0
        · exact h0
        · rw [List.getElem?_eq_none (by simp; omega)] at hx; cases hx
      rw [this] at hx
      simp at hx; subst hx
      rw [show i = n by omega]; exact ho
theorem opens_slice {α : Type} {rd : List Value → α → Prop} {T e : TypeId} {s : Nat} (ht : sliceT P T = some e) (hs : szT P e = some s) (hpos : 0 < s) (he : Opens enc P w base sp held e rd) :
    Opens enc P w base sp held T (fun cs (l : List α) => ∃ a n c, cs = [.slice a n c] ∧ n ≤ c ∧ RdList rd w (fun _ => True) s a n l) := fun fuel cs x h => by
  rcases DataW.trod_slice (run_sliceT ht) h with ⟨rfl, _⟩ | ⟨a, len, cap, elems, rest, m, rfl, rfl, _, hb, hlc, hcm, hel, hi, _, _⟩
  · exact ⟨[], none, 0, 0, rfl, Nat.le_refl _, RdList.nil⟩
  · rw [cellsOf_sz hs] at hi
    have hc : ∀ i, i < len → ∃ cs, w.cells? base (a.add (i * s)) s = some cs ∧ ∃ o, rd cs o := fun i hil => by
      have h1 := hi i hil
      rw [List.getElem?_eq_getElem (by omega)] at h1
      cases hcs : w.cells? base (a.add (i * s)) s with
      | none => simp [hcs] at h1
      | some cs => rw [hcs] at h1; exact ⟨cs, rfl, he _ _ _ h1⟩
    let f : Nat → List Value := fun i => (w.cells? base (a.add (i * s)) s).getD []
    have hf : ∀ i, i < len → w.cells? base (a.add (i * s)) s = some (f i) := fun i hil => by
      obtain ⟨cs, h1, _⟩ := hc i hil
      simp [f, h1]
    have hfl : ∀ i, i < len → (f i).length = s := fun i hil => (World.cells?_some (hf i hil)).2.1
    obtain ⟨l, hl1, hl2⟩ := choose_list (rd := rd) len f fun i hil => by
      obtain ⟨cs, h1, o, ho⟩ := hc i hil
      rw [hf i hil] at h1; cases h1; exact ⟨o, ho⟩
    refine ⟨l, some a, len, cap, rfl, hlc, (List.range len).map f, ?_, ?_, by simp [hl1], ?_⟩
    · have hcss : ∀ c ∈ (List.range len).map f, c.length = s := by
        intro c hc'
        obtain ⟨i, hi', rfl⟩ := List.mem_map.1 hc'
        exact hfl i (List.mem_range.1 hi')
      refine ⟨by rw [flatten_len hcss]; simp, Nat.le_trans hlc hcm, fun hlen => ?_⟩
      have h00 : w.cell? a = (f 0)[0]? := by
        have := (World.cells?_some (hf 0 hlen)).2.2 0 hpos
        simpa [Addr.add] using this
      rw [List.getElem?_eq_getElem (by rw [hfl 0 hlen]; exact hpos)] at h00
      have hlt : a.block < w.heap.size := World.block_lt_of_cell? w a h00
      have hspot : a.spot = none := by
        unfold World.cell? at h00
        split at h00
        · split at h00
          · cases h00
          · rename_i hsp; simpa using hsp
        · cases h00
      obtain ⟨g, o, z⟩ := a
      simp only at hspot; subst hspot
      have hcell : ∀ i j, i < len → j < s → w.cell? ⟨g, o + (i * s + j), none⟩ = (f i)[j]? := fun i j hil hj => by
        have := (World.cells?_some (hf i hil)).2.2 j hj
        rwa [Addr.add_mid, Addr.add_mid, Nat.add_assoc] at this
      refine ⟨g, o, rfl, trivial, hlt, fun j v hj => ?_⟩
      have hjl : j < len * s := by
        have := (List.getElem?_eq_some_iff.1 hj).1
        rw [flatten_len hcss] at this; simpa using this
      have hdiv : j / s < len := by rw [Nat.div_lt_iff_lt_mul hpos]; exact hjl
      have hmod : j % s < s := Nat.mod_lt _ hpos
      have hj' : j = j / s * s + j % s := by rw [Nat.mul_comm]; exact (Nat.div_add_mod j s).symm
      have hseg : (((List.range len).map f).flatten.drop (j / s * s)).take s = f (j / s) := flatten_at hcss (by simp [hdiv])
      have hv : (f (j / s))[j % s]? = some v := by
        rw [← hseg, List.getElem?_take, if_pos hmod, List.getElem?_drop, ← hj']; exact hj
      rw [← hv, ← hcell _ _ hdiv hmod, ← hj']
    · intro c hc'
      obtain ⟨i, hi', rfl⟩ := List.mem_map.1 hc'
      exact hfl i (List.mem_range.1 hi')
    · intro i c x h1 h2
      rw [List.getElem?_map] at h1
      have hil : i < len := by rw [← hl1]; exact (List.getElem?_eq_some_iff.1 h2).1
      rw [List.getElem?_range hil] at h1
      simp at h1; subst h1
      exact hl2 i x h2
/-- A slice of bytes. -/
theorem opens_bytes {T e : TypeId} (ht : sliceT P T = some e) (hs : szT P e = some 1) (he : P.underlying e = some (.int .u8)) : Opens enc P w base sp held T (RdBytes w (fun _ => True)) := fun fuel cs x h => by
  obtain ⟨l, a, n, c, h1, h2, css, h3, h4, h5, h6⟩ := opens_slice ht hs (by decide) (opens_byte he) fuel cs x h
  refine ⟨l, a, n, c, h1, h2, ?_⟩
  have e1 : css.flatten = l.map B8 := by
    have : css = l.map fun b => [B8 b] := by
      apply List.ext_getElem?
      intro i
      rw [List.getElem?_map]
      by_cases hi : i < l.length
      · have a1 : css[i]? = some css[i] := List.getElem?_eq_getElem (by omega)
        have a2 : l[i]? = some l[i] := List.getElem?_eq_getElem hi
        rw [a1, a2, h6 i _ _ a1 a2]; rfl
      · rw [List.getElem?_eq_none (by omega), List.getElem?_eq_none (by omega)]; rfl
    rw [this]
    clear h3 h4 h5 h6 this
    induction l with
    | nil => rfl
    | cons b r ih => simp [ih]
  rw [e1] at h3; exact h3
/-- The field of a struct. -/
theorem opens_field {α : Type} {rd : List Value → α → Prop} {T : TypeId} {fs : Array Field} {fuel : Nat} {cs : List Value} {x : DataW H × List MemPlace} (ht : P.underlying T = some (.struct fs)) (h : DataW.trod enc P w base sp held fuel T cs = some x)
    {i o : Nat} {f : TypeId} (hf : (fs[i]?).map (fun f => (f.type, f.offset)) = some (f, o)) {s : Nat} (hs : szT P f = some s) (ho : Opens enc P w base sp held f rd) : ∃ a, rd ((cs.drop o).take s) a := by
  obtain ⟨xs, n, rfl, rfl, hl, hx, hi⟩ := DataW.trod_struct ht h
  cases hfi : fs[i]? with
  | none => simp [hfi] at hf
  | some fd =>
    simp only [hfi, Option.map_some, Option.some.injEq, Prod.mk.injEq] at hf
    obtain ⟨rfl, rfl⟩ := hf
    have h1 := hi i fd hfi
    have hlt : i < fs.size := (Array.getElem?_eq_some_iff.1 hfi).1
    rw [List.getElem?_eq_getElem (by omega), cellsOf_sz hs] at h1
    exact ho _ _ _ h1
theorem opens_len {T : TypeId} {fs : Array Field} {fuel s : Nat} {cs : List Value} {x : DataW H × List MemPlace} (ht : P.underlying T = some (.struct fs)) (h : DataW.trod enc P w base sp held fuel T cs = some x) (hs : szT P T = some s) : cs.length = s := by
  obtain ⟨xs, n, _, _, hl, _⟩ := DataW.trod_struct ht h
  rw [hl, cellsOf_sz hs]
def fieldT (P : Program) (T i : Nat) : Option (Nat × Nat) := match P.underlying T with
  | some (.struct fs) => (fs[i]?).map fun f => (f.type, f.offset)
  | _ => none
theorem fieldT_struct {T i f o : Nat} (h : fieldT P T i = some (f, o)) : ∃ fs, P.underlying T = some (.struct fs) ∧ (fs[i]?).map (fun f => (f.type, f.offset)) = some (f, o) := by
  unfold fieldT at h
  split at h
  · rename_i fs hu; exact ⟨fs, hu, h⟩
  · cases h
theorem opens_fieldT {α : Type} {rd : List Value → α → Prop} {T i f o s : Nat} {fuel : Nat} {cs : List Value} {x : DataW H × List MemPlace} (hf : fieldT P T i = some (f, o)) (hs : szT P f = some s) (ho : Opens enc P w base sp held f rd)
    (h : DataW.trod enc P w base sp held fuel T cs = some x) : ∃ a, rd ((cs.drop o).take s) a := by
  obtain ⟨fs, hu, hi⟩ := fieldT_struct hf
  exact opens_field hu h hi hs ho
theorem opens_lenT {T i f o s : Nat} {fuel : Nat} {cs : List Value} {x : DataW H × List MemPlace} (hf : fieldT P T i = some (f, o)) (hs : szT P T = some s) (h : DataW.trod enc P w base sp held fuel T cs = some x) : cs.length = s := by
  obtain ⟨fs, hu, hi⟩ := fieldT_struct hf
  exact opens_len hu h hs
theorem seg (cs : List Value) (o s : Nat) : cs.drop o = (cs.drop o).take s ++ cs.drop (o + s) := by
  rw [← List.drop_drop, List.take_append_drop]
theorem drop_all {cs : List Value} {n : Nat} (h : cs.length = n) : cs.drop n = [] := List.drop_eq_nil_of_le (by omega)
end
section
variable {H : Type} {enc : TypeId × Value → H} {P : Program} {w : World} {base : Nat} {sp : Nat → Bool} {held : Bool}
abbrev TT : Nat → Prop := fun _ => True
def Int64 (n : Int) : Prop := -9223372036854775808 ≤ n ∧ n ≤ 9223372036854775807
theorem opens_i64 {T : TypeId} (ht : P.underlying T = some (.int .i64)) : Opens enc P w base sp held T (fun cs n => cs = [.int .i64 n] ∧ Int64 n) := fun fuel cs x h => by
  obtain ⟨n, h1, _, h3⟩ := DataW.trod_int ht h
  refine ⟨n, h1, ?_⟩
  simp [Lit.wf, IntKind.min, IntKind.max, IntKind.signed, IntKind.bits] at h3
  unfold Int64; omega
theorem opens_bool {T : TypeId} (ht : P.underlying T = some .bool) : Opens enc P w base sp held T (fun cs b => cs = [.bool b]) := fun fuel cs x h => by
  obtain ⟨b, h1, _⟩ := DataW.trod_bool ht h
  exact ⟨b, h1⟩
theorem rd_rowL {α : Type} {V : α → Value} {A : Nat → Prop} {a : Option Addr} {n : Nat} {l : List α} (h : RdList (fun cs x => cs = [V x]) w A 1 a n l) : RdRow w A 1 a n (l.map V) := by
  obtain ⟨css, h3, h4, h5, h6⟩ := h
  have e1 : css.flatten = l.map V := by
    have : css = l.map fun b => [V b] := by
      apply List.ext_getElem?
      intro i
      rw [List.getElem?_map]
      by_cases hi : i < l.length
      · have a1 : css[i]? = some css[i] := List.getElem?_eq_getElem (by omega)
        have a2 : l[i]? = some l[i] := List.getElem?_eq_getElem hi
        rw [a1, a2, h6 i _ _ a1 a2]; rfl
      · rw [List.getElem?_eq_none (by omega), List.getElem?_eq_none (by omega)]; rfl
    rw [this]
    clear h3 h4 h5 h6 this
    induction l with
    | nil => rfl
    | cons b r ih => simp [ih]
  rw [e1] at h3; exact h3
/-- Cells of a slice whose elements are V of something. -/
def RdRowC {α : Type} (V : α → Value) (w : World) (A : Nat → Prop) (cs : List Value) (l : List α) : Prop := ∃ a n c, cs = [.slice a n c] ∧ n ≤ c ∧ RdRow w A 1 a n (l.map V)
theorem RdRowC.row {α : Type} {V : α → Value} {A : Nat → Prop} {a : Option Addr} {n c : Nat} {l : List α} (h : RdRowC V w A [.slice a n c] l) : RdRow w A 1 a n (l.map V) := by
  obtain ⟨a', n', c', e, _, hr⟩ := h
  injection e with e _
  injection e with e1 e2 e3
  subst e1; subst e2
  exact hr
theorem opens_row {α : Type} {V : α → Value} {T e : TypeId} (ht : sliceT P T = some e) (hs : szT P e = some 1) (he : Opens enc P w base sp held e (fun cs (x : α) => cs = [V x])) : Opens enc P w base sp held T (RdRowC V w TT) := fun fuel cs x h => by
  obtain ⟨l, a, n, c, h1, h2, h3⟩ := opens_slice ht hs (by decide) he fuel cs x h
  exact ⟨l, a, n, c, h1, h2, rd_rowL h3⟩
theorem o_rbytes : Opens enc Tryd.prog w base sp held 54 (RdRowC B8 w TT) := opens_row Ty.sl_54 Ty.sz_5 (opens_byte Ty.un_5)
theorem o_rints : Opens enc Tryd.prog w base sp held 22 (RdRowC (Value.int .i64) w TT) := opens_row Ty.sl_22 Ty.sz_3 (opens_int Ty.un_3)
end
end Go.Proofs.YtobjojeliibinaaDoor

/- The shell, part G: what a row's list of variables gives. -/
namespace Go.Proofs.YtobjojeliibinaaDoor
open Go
open Go.ChangeShapes Go.WideShapes Go.RowKit
set_option linter.unusedVariables false

theorem own : ownKnob Tryd.prog.godebug = none := by kernel_rfl
theorem laidOut : laidOutB Tryd.prog = true := by kernel_rfl
theorem star : "*" ++ "errors.errorString" = "*errors.errorString" := by decide
theorem err_row (u : TypeId) (h : Tryd.prog.typeName? 3 u = some "*errors.errorString") : u = 146 :=
  typeName_ptr_named (nm := "errors.errorString") (by rw [star]; kernel_rfl) (by kernel_rfl) (by decide) u (by rw [star]; exact h)
theorem laid_err {W : World} {n : String} {text : List UInt8} {r : List (String × DataW Unit)} {g : Nat} (h : laidMet Tryd.prog ((n, .iface "*errors.errorString" (.ptr (.agg [.lit (.string text)]))) :: r) W) (hg : Tryd.prog.globalNamed n = some g) (ht : (Tryd.prog.globals[g]?).map (·.type) = some 41) :
    ∃ (a : Addr) (s : ByteArray), W.cell? ⟨g, 0, none⟩ = some (.iface 146 (.pointer (some a))) ∧ W.cell? a = some (.string s) ∧ s.data.toList = text := by
  obtain ⟨ms, hi⟩ := run_ifcT (P := Tryd.prog) (T := 41) (by kernel_rfl)
  obtain ⟨a, s, h1, h2, h3, _⟩ := laid_sentinel h hg ht hi err_row Tryd.underlying146 Tryd.underlying165 rfl rfl Tryd.underlying9 (by kernel_rfl) (by kernel_rfl)
  exact ⟨a, s, by simpa using World.var?_cell hg h1 0, h2, h3⟩
theorem agg_of_len {v : Value} {n : Nat} (h : v.cells.toList.length = n) (hn : n ≠ 1) : v = .agg v.cells.toList.toArray := by
  cases v <;> first | (simp [Value.cells] at h; exact absurd h.symm hn) | simp [Value.cells]
theorem still_id {w : World} : Still w (fun _ => True) w (fun k => ¬ (fun _ : Nat => False) k) := fun k _ _ => ⟨rfl, id⟩
theorem no_res {w : World} : stars [] w (fun _ => False) := fun _ h => h
theorem below_of {W W' : World} {L : List Res} (h : St W (fun _ => False) L W') : Below W.heap.size W W' := by
  obtain ⟨F, _, hst⟩ := h
  exact ⟨hst.os, hst.tape, hst.output, hst.size, fun k hk => hst.block k hk (fun h => h)⟩
noncomputable def lowB : Nat := (World.holding Tryd.prog default ⟨#[], #[], []⟩).heap.size
end Go.Proofs.YtobjojeliibinaaDoor

/- Plain words: SHA-256 as layer 2 computes it. No program in sight. -/
namespace Go.Proofs.YtobjojeliibinaaDoor
set_option linter.unusedVariables false

def rotr (x : UInt32) (n : Nat) : UInt32 := x <<< UInt32.ofNat (32 - n) ||| x >>> UInt32.ofNat n
def wordAt (b : List UInt8) (k : Nat) : UInt32 := ((b.getD (4 * k) 0).toUInt32 <<< UInt32.ofNat 24 ||| (b.getD (4 * k + 1) 0).toUInt32 <<< UInt32.ofNat 16) ||| (b.getD (4 * k + 2) 0).toUInt32 <<< UInt32.ofNat 8 ||| (b.getD (4 * k + 3) 0).toUInt32
def sg0 (x : UInt32) : UInt32 := rotr x 7 ^^^ rotr x 18 ^^^ x >>> UInt32.ofNat 3
def sg1 (x : UInt32) : UInt32 := rotr x 17 ^^^ rotr x 19 ^^^ x >>> UInt32.ofNat 10
/-- The schedule of a block of 64 bytes. -/
def sch (b : List UInt8) (j : Nat) : UInt32 :=
  if h : j < 16 then wordAt b j else sch b (j - 16) + sg0 (sch b (j - 15)) + sch b (j - 7) + sg1 (sch b (j - 2))
termination_by j
structure V8 where
  a : UInt32
  b : UInt32
  c : UInt32
  d : UInt32
  e : UInt32
  f : UInt32
  g : UInt32
  h : UInt32
def rnd (k w : UInt32) (v : V8) : V8 :=
  let one := v.h + (rotr v.e 6 ^^^ rotr v.e 11 ^^^ rotr v.e 25) + ((v.e &&& v.f) ^^^ (~~~v.e &&& v.g)) + k + w
  let two := (rotr v.a 2 ^^^ rotr v.a 13 ^^^ rotr v.a 22) + (((v.a &&& v.b) ^^^ (v.a &&& v.c)) ^^^ (v.b &&& v.c))
  ⟨one + two, v.a, v.b, v.c, v.d + one, v.e, v.f, v.g⟩
def rnds (K W : Nat → UInt32) (v : V8) : Nat → V8
  | 0 => v
  | k + 1 => rnd (K k) (W k) (rnds K W v k)
def V8.add (x y : V8) : V8 := ⟨x.a + y.a, x.b + y.b, x.c + y.c, x.d + y.d, x.e + y.e, x.f + y.f, x.g + y.g, x.h + y.h⟩
def V8.get (x : V8) : Nat → UInt32
  | 0 => x.a | 1 => x.b | 2 => x.c | 3 => x.d | 4 => x.e | 5 => x.f | 6 => x.g | _ => x.h
def take64 (K : Nat → UInt32) (v : V8) (b : List UInt8) : V8 := v.add (rnds K (sch b) v 64)
/-- All whole blocks of b. -/
def takes (K : Nat → UInt32) (v : V8) (b : List UInt8) : V8 × List UInt8 :=
  if h : 64 ≤ b.length then takes K (take64 K v (b.take 64)) (b.drop 64) else (v, b)
termination_by b.length
decreasing_by simp; omega
def v0 : V8 := ⟨1779033703, 3144134277, 1013904242, 2773480762, 1359893119, 2600822924, 528734635, 1541459225⟩
/-- A hash: its words, the bytes that aren't taken yet, how many bytes it was handed. -/
structure HS where
  v : V8
  rest : List UInt8
  len : Nat
def hs0 : HS := ⟨v0, [], 0⟩
def hWrite (K : Nat → UInt32) (s : HS) (b : List UInt8) : HS :=
  let p := takes K s.v (s.rest ++ b)
  ⟨p.1, p.2, s.len + b.length⟩
theorem takes_rest (K : Nat → UInt32) (v : V8) (b : List UInt8) : (takes K v b).2.length < 64 := by
  fun_induction takes K v b with
  | case1 v b h ih => exact ih
  | case2 v b h => simpa using h
theorem takes_le (K : Nat → UInt32) (v : V8) (b : List UInt8) : (takes K v b).2.length ≤ b.length := by
  fun_induction takes K v b with
  | case1 v b h ih => simp at ih; omega
  | case2 v b h => exact Nat.le_refl _
def lenBytes (len : Nat) : List UInt8 := (List.range 8).map fun i => UInt8.ofNat (len * 8 / 2 ^ (8 * (7 - i)))
def padN (m : Nat) : Nat := (55 + 64 - m % 64) % 64
def padded (s : HS) : List UInt8 := s.rest ++ 128 :: (List.replicate (padN s.rest.length) 0 ++ lenBytes s.len)
def outByte (v : V8) (i : Nat) : UInt8 := (v.get (i / 4) >>> UInt32.ofNat (24 - 8 * (i % 4))).toUInt8
def hSum (K : Nat → UInt32) (s : HS) : List UInt8 := (List.range 32).map (outByte (takes K s.v (padded s)).1)
def part4 (n : Nat) : List UInt8 := [UInt8.ofNat (n / 2 ^ 24), UInt8.ofNat (n / 2 ^ 16), UInt8.ofNat (n / 2 ^ 8), UInt8.ofNat n]
def hOf (K : Nat → UInt32) (dom : Int) (parts : List (List UInt8)) : List UInt8 :=
  (hSum K (parts.foldl (fun s p => hWrite K (hWrite K s (part4 p.length)) p) (hWrite K hs0 [UInt8.ofNat (dom % 256).toNat]))).take 16
theorem hOf_length (K : Nat → UInt32) (dom : Int) (parts : List (List UInt8)) : (hOf K dom parts).length = 16 := by simp [hOf, hSum]
end Go.Proofs.YtobjojeliibinaaDoor

/- Walks, by program (wg.py) out of a spec. -/
namespace Go.Proofs.YtobjojeliibinaaDoor
open Go
set_option linter.unusedVariables false
set_option linter.unusedSimpArgs false


theorem sch_lo {b : List UInt8} {k : Nat} (h : k < 16) : sch b k = wordAt b k := by rw [sch, dif_pos h]
theorem sch_hi {b : List UInt8} {k : Nat} (h : 16 ≤ k) : sch b k = sch b (k - 16) + sg0 (sch b (k - 15)) + sch b (k - 7) + sg1 (sch b (k - 2)) := by rw [sch, dif_neg (by omega)]
def v8c (v : V8) : List Value := [W32 v.a, W32 v.b, W32 v.c, W32 v.d, W32 v.e, W32 v.f, W32 v.g, W32 v.h]
theorem v8c_fnc (v : V8) : v8c v = fnc W32 8 v.get := rfl
def kc : List UInt32 := [0x428a2f98, 0x71374491, 0xb5c0fbcf, 0xe9b5dba5, 0x3956c25b, 0x59f111f1, 0x923f82a4, 0xab1c5ed5, 0xd807aa98, 0x12835b01, 0x243185be, 0x550c7dc3, 0x72be5d74, 0x80deb1fe, 0x9bdc06a7, 0xc19bf174, 0xe49b69c1, 0xefbe4786, 0x0fc19dc6, 0x240ca1cc, 0x2de92c6f, 0x4a7484aa, 0x5cb0a9dc, 0x76f988da, 0x983e5152, 0xa831c66d, 0xb00327c8, 0xbf597fc7, 0xc6e00bf3, 0xd5a79147, 0x06ca6351, 0x14292967, 0x27b70a85, 0x2e1b2138, 0x4d2c6dfc, 0x53380d13, 0x650a7354, 0x766a0abb, 0x81c2c92e, 0x92722c85, 0xa2bfe8a1, 0xa81a664b, 0xc24b8b70, 0xc76c51a3, 0xd192e819, 0xd6990624, 0xf40e3585, 0x106aa070, 0x19a4c116, 0x1e376c08, 0x2748774c, 0x34b0bcb5, 0x391c0cb3, 0x4ed8aa4a, 0x5b9cca4f, 0x682e6ff3, 0x748f82ee, 0x78a5636f, 0x84c87814, 0x8cc70208, 0x90befffa, 0xa4506ceb, 0xbef9a3f7, 0xc67178f2]
def Kc (i : Nat) : UInt32 := kc.getD i 0
/-- The constants' variable holds them, and lies in A. -/
structure KR (w : World) (A : Nat → Prop) : Prop where
  c : ∀ i, i < 64 → w.cell? ⟨8, i, none⟩ = some (W32 (Kc i))
  n : A 8
theorem KR.mv {w w' : World} {A A' : Nat → Prop} (h : KR w A) (hk : Still w A w' A') : KR w' A' :=
  ⟨fun i hi => by
    have := hk _ (World.block_lt_of_cell? w ⟨8, i, none⟩ (h.c i hi)) h.n
    rw [World.cell?_of_block (w := w) (a := ⟨8, i, none⟩) this.1]; exact h.c i hi,
   (hk _ (World.block_lt_of_cell? w ⟨8, 0, none⟩ (h.c 0 (by decide))) h.n).2⟩
theorem KR.at {w : World} {A : Nat → Prop} (h : KR w A) {e i : Nat} (he : e = i) (hi : i < 64) : w.cell? ⟨8, e, none⟩ = some (W32 (Kc i)) := by subst he; exact h.c e hi

attribute [local irreducible] Gl Gc Gx Gs Runs Wt

set_option maxHeartbeats 400000 in
theorem rot_ok {w : World} {F : Nat → Prop} {x : UInt32} {n : Nat} (h : stars [] w F) (h1 : 1 ≤ n) (h2 : n ≤ 31) :
    Calls Tryd.prog 73 #[W32 x, .int .i64 (-(n : Int))] w (Post w F (fun _ : Unit => W32 (rotr x n)) (fun _ => [])) := by
  refine g_enter (env := [(0, W32 x), (1, .int .i64 (-(n : Int)))]) Tryd.func73 rfl h Tryd.ntmps73 rfl rfl ?_
  refine gsr ?_
  refine gp zas ?_
  refine gnt ?_
  refine gsr ?_
  refine gp zmv ?_
  refine gp zci ?_
  refine gp (r_int (r_bits (op := .and) rfl rfl rfl) (rot_and h1 h2)) ?_
  refine gp zas ?_
  refine gnt ?_
  refine gsr ?_
  refine gp zmv ?_
  refine gp zmv ?_
  refine gp (r_shlw (j := 32 - n) rfl rfl rfl (by omega)) ?_
  refine gp zmv ?_
  refine gp zmv ?_
  refine gp (r_int (r_sub rfl rfl) (show IntKind.u64.wrap (32 - ((32 - n : Nat) : Int)) = (n : Int) by rw [wrap_u64 (by omega) (by omega)]; omega)) ?_
  refine gp (r_shrw (j := n) rfl rfl rfl (by omega)) ?_
  refine gp zwo ?_
  refine gp zas ?_
  refine gnt ?_
  refine gc_ret ?_
  refine gx_ret1 rfl (by conv => lhs; whnf) ?_
  exact ze ()

set_option maxHeartbeats 400000 in
theorem schedule_ok {w : World} {F : Nat → Prop} (h : stars [] w F) {b : List UInt8} {a : Option Addr} {c : Nat} (hx : RdRow w (fun k => ¬ F k) 1 a 64 (b.map B8))  :
    Calls Tryd.prog 72 #[.slice a 64 c] w (Post w F (fun _ : Unit => .agg (fnc W32 64 (sch b)).toArray) (fun _ => [])) := by
  have hbl : b.length = 64 := by have := hx.1; simp at this; omega
  obtain ⟨ga, oa, rfl, hA, hg, hra⟩ := hx.2.2 (by decide)
  refine g_enter (env := [(0, .slice (some ⟨ga, oa, none⟩) 64 c)]) Tryd.func72 rfl h Tryd.ntmps72 rfl rfl ?_
  refine gsr ?_
  refine zal fun b2 => ?_
  refine gnt ?_
  refine gsr ?_
  refine zal fun b3 => ?_
  refine gnt ?_
  refine gc_seq ?_
  refine gsr ?_
  refine gp zmv ?_
  refine gnt ?_
  refine gc_block ?_
  refine gc_loop (α := Nat) (fun k => [pureR (k ≤ 16), blk b3 140 (fnc W32 64 (pfx (sch b) (fun _ => 0) k)), blk b2 140 (List.replicate 64 (.int .u32 0))]) (fun k => [(10, .int .i64 (k : Int))]) [4, 11, 12, 13, 14, 15, 16, 17, 18, 19, 20, 21, 22, 23, 24, 25, 26, 27, 28, 29, 30, 31, 32, 33, 34, 35, 36, 37, 38, 39, 40, 41, 42, 43, 44, 45, 46, 47, 48] (fun k => 16 - k) 0 ?_ ?_ ?_
  · refine env_start (by kernel_rfl)
  · rintro w' hw
    obtain ⟨F', hF', hst'⟩ := hw.sel (M := [blk b3 140 (List.replicate 64 (.int .u32 0)), blk b2 140 (List.replicate 64 (.int .u32 0))]) (by repeat (first | exact Sel.nil | (apply Sel.cons; · (repeat (first | exact Pick.here | apply Pick.there)))))
    refine ⟨F', stars_pure_mk (Nat.zero_le _) ?_, hst'⟩
    show stars [blk b3 140 (fnc W32 64 (pfx (sch b) (fun _ => 0) 0)), blk b2 140 (List.replicate 64 (.int .u32 0))] w' F'
    rw [pfx_zero, fnc_const]
    exact hF'
  · intro k u
    refine gc_pureR (fun hk => ?_)
    replace hk : k ≤ 16 := hk
    refine gsr ?_
    refine gp zlt ?_
    refine gnt ?_
    refine gc_seq ?_
    refine gif rfl (fun hc11 => ?_) (fun hc11 => ?_)
    · have hk' : k < 16 := by (try simp only at hc11); omega
      refine gc_skip ?_
      refine gx_then ?_
      refine gc_seq ?_
      refine gc_block ?_
      refine gsr ?_
      refine gp zmv ?_
      refine gp zas ?_
      refine gnt ?_
      refine gc_regionT 35 (by kernel_rfl) (by kernel_rfl) ?_
      refine sp zmv ?_
      refine sp zmv ?_
      refine sp zmv ?_
      refine sp zml ?_
      refine sp (r_indexAddr_slice rfl rfl Ty.sl_54 Ty.sz_5 (by omega) (by omega)) ?_
      refine sp (r_ld1o rfl Ty.row_5 (cellb hra (j := 4 * k) (by omega) (by omega)) hA) ?_
      refine sp (r_conv8w rfl Ty.un_5 Ty.un_124) ?_
      refine sp (r_shlw (j := 24) rfl rfl rfl (by decide)) ?_
      refine sp zmv ?_
      refine sp zmv ?_
      refine sp zml ?_
      refine sp zad ?_
      refine sp (r_indexAddr_slice rfl rfl Ty.sl_54 Ty.sz_5 (by omega) (by omega)) ?_
      refine sp (r_ld1o rfl Ty.row_5 (cellb hra (j := 4 * k + 1) (by omega) (by omega)) hA) ?_
      refine sp (r_conv8w rfl Ty.un_5 Ty.un_124) ?_
      refine sp (r_shlw (j := 16) rfl rfl rfl (by decide)) ?_
      refine sp zwo ?_
      refine sp zmv ?_
      refine sp zmv ?_
      refine sp zml ?_
      refine sp zad ?_
      refine sp (r_indexAddr_slice rfl rfl Ty.sl_54 Ty.sz_5 (by omega) (by omega)) ?_
      refine sp (r_ld1o rfl Ty.row_5 (cellb hra (j := 4 * k + 2) (by omega) (by omega)) hA) ?_
      refine sp (r_conv8w rfl Ty.un_5 Ty.un_124) ?_
      refine sp (r_shlw (j := 8) rfl rfl rfl (by decide)) ?_
      refine sp zwo ?_
      refine sp zmv ?_
      refine sp zmv ?_
      refine sp zml ?_
      refine sp zad ?_
      refine sp (r_indexAddr_slice rfl rfl Ty.sl_54 Ty.sz_5 (by omega) (by omega)) ?_
      refine sp (r_ld1o rfl Ty.row_5 (cellb hra (j := 4 * k + 3) (by omega) (by omega)) hA) ?_
      refine sp (r_conv8w rfl Ty.un_5 Ty.un_124) ?_
      refine sp zwo ?_
      refine sp (r_indexAddr_arr rfl rfl Ty.arr_140 Ty.sz_124 (by omega) (by omega)) ?_
      refine gs_nil ?_
      refine gl_store1 (wt0 rfl) rfl rfl rfl Ty.sz_124 (by repeat (first | exact Pick.here | apply Pick.there)) (by rw [fnc_length]; omega) (pfx_set (k := k) (by omega) (by omega) (congrArg W32 (sch_lo hk').symm)) ?_
      refine gl_nil ?_
      refine gx_block_normal ?_
      refine gx_then ?_
      refine gc_region ?_
      refine gp zad ?_
      refine gp zmv ?_
      refine gl_nil ?_
      refine zrd (k + 1) ?_ ?_
      · show 16 - (k + 1) < 16 - k
        omega
      · rintro w' hw
        obtain ⟨F', hF', hst'⟩ := hw.sel (M := [blk b3 140 _, blk b2 140 _]) (by repeat (first | exact Sel.nil | (apply Sel.cons; · (repeat (first | exact Pick.here | apply Pick.there)))))
        exact ⟨F', stars_pure_mk (show k + 1 ≤ 16 by omega) hF', hst'⟩
    · have hk' : k = 16 := by (try simp only at hc11); omega
      subst hk'
      refine gc_exit ?_
      refine gx_then_exit ?_
      refine gx_round_exit ?_
      refine gx_block_hit ?_
      refine gx_then ?_
      refine gc_seq ?_
      refine gsr ?_
      refine gp zas ?_
      refine gnt ?_
      refine gc_block ?_
      refine gc_loop (α := Nat) (fun k => [pureR (16 ≤ k ∧ k ≤ 64), blk b3 140 (fnc W32 64 (pfx (sch b) (fun _ => 0) k)), blk b2 140 (List.replicate 64 (.int .u32 0))]) (fun k => [(5, .int .i64 (k : Int))]) [6, 7, 8, 9, 49, 50, 51, 52, 53, 54, 55, 56, 57, 58, 59, 60, 61, 62, 63, 64, 65, 66, 67, 68, 69, 70, 71, 72, 73, 74, 75, 76, 77, 78, 79, 80, 81, 82, 83, 84, 85, 86, 87, 88, 89, 90, 91] (fun k => 64 - k) 16 ?_ ?_ ?_
      · refine env_start (by kernel_rfl)
      · rintro w' hw
        obtain ⟨F', hF', hst'⟩ := hw.sel (M := [blk b3 140 _, blk b2 140 _]) (by repeat (first | exact Sel.nil | (apply Sel.cons; · (repeat (first | exact Pick.here | apply Pick.there)))))
        exact ⟨F', stars_pure_mk (by decide) hF', hst'⟩
      · intro k u
        refine gc_pureR (fun hk => ?_)
        replace hk : 16 ≤ k ∧ k ≤ 64 := hk
        refine gc_seq ?_
        refine gsr ?_
        refine gp zmv ?_
        refine gp zlt ?_
        refine gnt ?_
        refine gif rfl (fun hc50 => ?_) (fun hc50 => ?_)
        · have hk' : k < 64 := by (try simp only at hc50); omega
          refine gc_skip ?_
          refine gx_then ?_
          refine gc_seq ?_
          refine gc_block ?_
          refine gc_seq ?_
          refine gc_regionS (by kernel_rfl) (by kernel_rfl) ?_
          refine sp zmv ?_
          refine sp zsb ?_
          refine sp (r_indexAddr_arr rfl rfl Ty.arr_140 Ty.sz_124 (by omega) (by omega)) ?_
          refine sp (r_ld1 (v := W32 ((sch b) (k - 15))) rfl Ty.row_124 (by repeat (first | exact Pick.here | apply Pick.there)) (pfx_get (by omega) (by omega) (by omega))) ?_
          refine sp zmv ?_
          refine sp zsb ?_
          refine sp (r_indexAddr_arr rfl rfl Ty.arr_140 Ty.sz_124 (by omega) (by omega)) ?_
          refine sp (r_ld1 (v := W32 ((sch b) (k - 2))) rfl Ty.row_124 (by repeat (first | exact Pick.here | apply Pick.there)) (pfx_get (by omega) (by omega) (by omega))) ?_
          refine sp zas ?_
          refine sp zas ?_
          refine gs_nil ?_
          refine gx_then ?_
          refine gsr ?_
          refine gp zmv ?_
          refine zc (fun _ => ?_) (c := fun w1 F1 F2 h1 h2 hd hst => rot_ok (n := 7) h1 (by decide) (by decide))
          refine gp zmv ?_
          refine zc (fun _ => ?_) (c := fun w1 F1 F2 h1 h2 hd hst => rot_ok (n := 18) h1 (by decide) (by decide))
          refine gp zwx ?_
          refine gp zmv ?_
          refine gp (r_shrw (j := 3) rfl rfl rfl (by decide)) ?_
          refine gp zwx ?_
          refine gp zas ?_
          refine gnt ?_
          refine gsr ?_
          refine gp zmv ?_
          refine zc (fun _ => ?_) (c := fun w1 F1 F2 h1 h2 hd hst => rot_ok (n := 17) h1 (by decide) (by decide))
          refine gp zmv ?_
          refine zc (fun _ => ?_) (c := fun w1 F1 F2 h1 h2 hd hst => rot_ok (n := 19) h1 (by decide) (by decide))
          refine gp zwx ?_
          refine gp zmv ?_
          refine gp (r_shrw (j := 10) rfl rfl rfl (by decide)) ?_
          refine gp zwx ?_
          refine gp zas ?_
          refine gnt ?_
          refine gc_regionT 15 (by kernel_rfl) (by kernel_rfl) ?_
          refine sp zmv ?_
          refine sp zmv ?_
          refine sp zsb ?_
          refine sp (r_indexAddr_arr rfl rfl Ty.arr_140 Ty.sz_124 (by omega) (by omega)) ?_
          refine sp (r_ld1 (v := W32 ((sch b) (k - 16))) rfl Ty.row_124 (by repeat (first | exact Pick.here | apply Pick.there)) (pfx_get (by omega) (by omega) (by omega))) ?_
          refine sp zmv ?_
          refine sp zwa ?_
          refine sp zmv ?_
          refine sp zsb ?_
          refine sp (r_indexAddr_arr rfl rfl Ty.arr_140 Ty.sz_124 (by omega) (by omega)) ?_
          refine sp (r_ld1 (v := W32 ((sch b) (k - 7))) rfl Ty.row_124 (by repeat (first | exact Pick.here | apply Pick.there)) (pfx_get (by omega) (by omega) (by omega))) ?_
          refine sp zwa ?_
          refine sp zmv ?_
          refine sp zwa ?_
          refine sp (r_indexAddr_arr rfl rfl Ty.arr_140 Ty.sz_124 (by omega) (by omega)) ?_
          refine gs_nil ?_
          refine gl_store1 (wt0 rfl) rfl rfl rfl Ty.sz_124 (by repeat (first | exact Pick.here | apply Pick.there)) (by rw [fnc_length]; omega) (pfx_set (k := k) (by omega) (by omega) (congrArg W32 (sch_hi hk.1).symm)) ?_
          refine gl_nil ?_
          refine gx_block_normal ?_
          refine gx_then ?_
          refine gc_region ?_
          refine gp zmv ?_
          refine gp zad ?_
          refine gp zas ?_
          refine gl_nil ?_
          refine zrd (k + 1) ?_ ?_
          · show 64 - (k + 1) < 64 - k
            omega
          · rintro w' hw
            obtain ⟨F', hF', hst'⟩ := hw.sel (M := [blk b3 140 _, blk b2 140 _]) (by repeat (first | exact Sel.nil | (apply Sel.cons; · (repeat (first | exact Pick.here | apply Pick.there)))))
            exact ⟨F', stars_pure_mk (show 16 ≤ k + 1 ∧ k + 1 ≤ 64 by omega) hF', hst'⟩
        · have hk' : k = 64 := by (try simp only at hc50); omega
          subst hk'
          refine gc_exit ?_
          refine gx_then_exit ?_
          refine gx_round_exit ?_
          refine gx_block_hit ?_
          refine gx_then ?_
          refine gsr ?_
          refine gp (r_ldN rfl Ty.row_140 Ty.sz_140 (by repeat (first | exact Pick.here | apply Pick.there)) (seg_all fnc_length) fnc_length) ?_
          refine gl_storeN (wt0 rfl) rfl rfl Ty.sz_140 fnc_length (by repeat (first | exact Pick.here | apply Pick.there)) (by simp) (fnc_one fun _ => rfl) (updL_all (by simp [fnc_length])) ?_
          refine gnt ?_
          refine gc_ret ?_
          refine gx_retc rfl rfl (ld_aggS Ty.row_140 Ty.sz_140 (by repeat (first | exact Pick.here | apply Pick.there)) (seg_all fnc_length) fnc_length) ?_
          rw [pfx_full]
          exact ze ()

end Go.Proofs.YtobjojeliibinaaDoor

/- The shell, part J: the hash's constants; rows of rows of bytes. -/
namespace Go.Proofs.YtobjojeliibinaaDoor
open Go
open Go.ChangeShapes Go.WideShapes Go.RowKit
set_option linter.unusedVariables false
theorem laid_kr {W : World} {r : List (String × DataW Unit)} (h : laidMet Tryd.prog (("quorate/hash.constants", Lib.tabData .u32 (kc.map fun x => (x.toNat : Int))) :: r) W) : KR W (fun k => ¬ (fun _ : Nat => False) k) := by
  have hT := Lib.tabIs_of_head (g := 8) (by kernel_rfl) (by kernel_rfl) (run_arrT Ty.arr_140) Ty.un_124 (by kernel_rfl) (by kernel_rfl) h
  refine ⟨fun i hi => ?_, id⟩
  have := World.var?_cell (g := 8) (by kernel_rfl) hT i
  rw [this]
  have hk : i < kc.length := hi
  simp only [List.map_map, List.getElem?_toArray, List.getElem?_map, List.getElem?_eq_getElem hk, Option.map_some]
  simp [W32, Kc, List.getD, List.getElem?_eq_getElem hk]
theorem RdRowC.le {α : Type} {V : α → Value} {w : World} {A : Nat → Prop} {a : Option Addr} {n c : Nat} {l : List α} (h : RdRowC V w A [.slice a n c] l) : n ≤ c := by
  obtain ⟨a', n', c', e, hle, _⟩ := h
  injection e with e _
  injection e with e1 e2 e3
  subst e2; subst e3
  exact hle
def RdLists (w : World) (A : Nat → Prop) (cs : List Value) (l : List (List UInt8)) : Prop := ∃ a n c, cs = [.slice a n c] ∧ n ≤ c ∧ RdList (RdBytes w A) w A 1 a n l
theorem RdLists.list {w : World} {A : Nat → Prop} {a : Option Addr} {n c : Nat} {l : List (List UInt8)} (h : RdLists w A [.slice a n c] l) : RdList (RdBytes w A) w A 1 a n l := by
  obtain ⟨a', n', c', e, _, hr⟩ := h
  injection e with e _
  injection e with e1 e2 e3
  subst e1; subst e2
  exact hr
section
variable {H : Type} {enc : TypeId × Value → H} {w : World} {base : Nat} {sp : Nat → Bool} {held : Bool}
theorem o_rlists : Opens enc Tryd.prog w base sp held 30 (RdLists w TT) := opens_slice (s := 1) Ty.sl_30 Ty.sz_54 (by decide) (opens_bytes Ty.sl_54 Ty.sz_5 Ty.un_5)
end
end Go.Proofs.YtobjojeliibinaaDoor

/- Walks, by program (wg.py) out of a spec. -/
namespace Go.Proofs.YtobjojeliibinaaDoor
open Go
set_option linter.unusedVariables false
set_option linter.unusedSimpArgs false


def errG : Nat → Nat
  | 1 => 7
  | 4 => 2
  | 8 => 6
  | 9 => 0
  | 12 => 1
  | 14 => 5
  | 16 => 4
  | 17 => 3
  | _ => 0
/-- es has this error. -/
class Has (es : List Nat) (i : Nat) : Prop where
  h : i ∈ es
instance {i : Nat} {l : List Nat} : Has (i :: l) i := ⟨List.mem_cons_self⟩
instance {i j : Nat} {l : List Nat} [k : Has l i] : Has (j :: l) i := ⟨List.mem_cons_of_mem _ k.h⟩
/-- These errors' variables hold their errors, and lie in A. -/
structure GErr (es : List Nat) (w : World) (A : Nat → Prop) (TE : TypeId) (ea : Nat → Addr) : Prop where
  c : ∀ i, i ∈ es → w.cell? ⟨errG i, 0, none⟩ = some (eV TE ea i)
  n : ∀ i, i ∈ es → A (errG i)
theorem GErr.mv {es : List Nat} {w w' : World} {A A' : Nat → Prop} {TE : TypeId} {ea : Nat → Addr} (h : GErr es w A TE ea) (hk : ∀ k, k < w.heap.size → A k → w'.heap[k]? = w.heap[k]? ∧ A' k) : GErr es w' A' TE ea :=
  ⟨fun i hi => by
    have := hk _ (World.block_lt_of_cell? w ⟨errG i, 0, none⟩ (h.c i hi)) (h.n i hi)
    rw [World.cell?_of_block (w := w) (a := ⟨errG i, 0, none⟩) this.1]; exact h.c i hi,
   fun i hi => (hk _ (World.block_lt_of_cell? w ⟨errG i, 0, none⟩ (h.c i hi)) (h.n i hi)).2⟩
theorem shl_pow {wd : Nat} (h : wd < 8) : IntKind.i64.wrap (1 * 2 ^ (min (8 * (wd : Int)).toNat IntKind.i64.bits)) = 2 ^ (8 * wd) := by
  have e : min (8 * (wd : Int)).toNat IntKind.i64.bits = 8 * wd := by simp only [IntKind.bits]; omega
  rw [e]
  have : wd = 0 ∨ wd = 1 ∨ wd = 2 ∨ wd = 3 ∨ wd = 4 ∨ wd = 5 ∨ wd = 6 ∨ wd = 7 := by omega
  rcases this with h | h | h | h | h | h | h | h <;> subst h <;> rfl
theorem byte_shr {n : Int} {wd k : Nat} {i : Int} (hi : i = (wd : Int) - 1 - k) (hk : k < wd) (hw : wd ≤ 8) :
    Value.int .u8 (IntKind.u8.wrap (n.fdiv (2 ^ (min (8 * i).toNat IntKind.i64.bits)))) = B8 (byteAt n (wd - 1 - k)) := by
  subst hi
  have e : min (8 * ((wd : Int) - 1 - k)).toNat IntKind.i64.bits = 8 * (wd - 1 - k) := by simp only [IntKind.bits]; omega
  rw [e, Int.fdiv_eq_ediv_of_nonneg _ (by exact Int.le_of_lt (Int.pow_pos (by omega)))]
  simp only [B8, byteAt, Value.int.injEq, true_and]
  generalize n / 2 ^ (8 * (wd - 1 - k)) = m
  have h1 : IntKind.u8.wrap m = m % 256 := by simp [IntKind.wrap, IntKind.bits, IntKind.signed]
  rw [h1, UInt8.toNat_ofNat']
  omega

attribute [local irreducible] Gl Gc Gx Gs Runs Wt

set_option maxHeartbeats 400000 in
theorem number_neg {w : World} {F : Nat → Prop} {g TE : Nat} {ea : Nat → Addr} {s : WS} {n : Int} {wd : Nat} (h : stars [WrR TE ea g s] w F) {es : List Nat} [Has es 1] (hE : GErr es w (fun k => ¬ F k) TE ea) (h1 : 1 ≤ wd) (h8 : wd ≤ 8) (hn : n < 0) :
    Calls Tryd.prog 64 #[.pointer (some ⟨g, 0, none⟩), .int .i64 n, .int .i64 (wd : Int)] w (Post w F (fun _ : Unit => .tuple #[]) (fun _ => [WrR TE ea g (wFail 1 s)])) := by
  obtain ⟨a0, c0, h'⟩ := wr_open h
  refine g_enter (env := [(0, .pointer (some ⟨g, 0, none⟩)), (1, .int .i64 n), (2, .int .i64 (wd : Int))]) Tryd.func64 rfl h' Tryd.ntmps64 rfl rfl ?_
  refine gc_seq ?_
  refine gsr ?_
  refine gp zmv ?_
  refine gp (r_bool (r_lss rfl rfl) (decide_eq_false (by omega))) ?_
  refine gp zmv ?_
  refine gq zmv ?_
  refine gq (r_bool (r_gtr rfl rfl) (decide_eq_false (by omega))) ?_
  refine gp zpk ?_
  refine gp zmv ?_
  refine gq zmv ?_
  refine gq (r_bool (r_lss rfl rfl) (decide_eq_true hn)) ?_
  refine gp zpk ?_
  refine gp zmv ?_
  refine gn ?_
  refine gn ?_
  refine gn ?_
  refine gn ?_
  refine gn ?_
  refine gn ?_
  refine gn ?_
  refine gn ?_
  refine gn ?_
  refine gp zpk ?_
  refine gnt ?_
  refine gc_condT rfl rfl ?_
  refine gc_seq ?_
  refine gc_regionT 4 (by kernel_rfl) (by kernel_rfl) ?_
  refine sp zmv ?_
  refine sp znc ?_
  refine sp zfa ?_
  refine sp (r_ld1o rfl Ty.row_41 (hE.c 1 Has.h) (hE.n 1 Has.h)) ?_
  refine gs_nil ?_
  refine zc (fun _ => ?_) (c := fun w1 F1 F2 h1 h2 hd hst => fail_ok h1)
  refine gnt ?_
  refine gc_ret ?_
  refine gx_then_ret ?_
  refine gx_ret0 rfl ?_
  exact fun w' hw => ⟨(), rfl, by rw [wFail]; by_cases he : s.err = 0 <;> simp only [he, if_true, if_false, ite_true, ite_false] at hw ⊢ <;> exact St.wr (hw.sel (by repeat (first | exact Sel.nil | (apply Sel.cons; · (repeat (first | exact Pick.here | apply Pick.there)))))) (by simp [he]) rfl rfl⟩

set_option maxHeartbeats 400000 in
theorem number_big {w : World} {F : Nat → Prop} {g TE : Nat} {ea : Nat → Addr} {s : WS} {n : Int} {wd : Nat} (h : stars [WrR TE ea g s] w F) {es : List Nat} [Has es 1] (hE : GErr es w (fun k => ¬ F k) TE ea) (h1 : 1 ≤ wd) (h8 : wd ≤ 8) (hn : 0 ≤ n) (hw8 : wd < 8) (hb : (2 : Int) ^ (8 * wd) ≤ n) :
    Calls Tryd.prog 64 #[.pointer (some ⟨g, 0, none⟩), .int .i64 n, .int .i64 (wd : Int)] w (Post w F (fun _ : Unit => .tuple #[]) (fun _ => [WrR TE ea g (wFail 1 s)])) := by
  obtain ⟨a0, c0, h'⟩ := wr_open h
  refine g_enter (env := [(0, .pointer (some ⟨g, 0, none⟩)), (1, .int .i64 n), (2, .int .i64 (wd : Int))]) Tryd.func64 rfl h' Tryd.ntmps64 rfl rfl ?_
  refine gc_seq ?_
  refine gsr ?_
  refine gp zmv ?_
  refine gp (r_bool (r_lss rfl rfl) (decide_eq_false (by omega))) ?_
  refine gp zmv ?_
  refine gq zmv ?_
  refine gq (r_bool (r_gtr rfl rfl) (decide_eq_false (by omega))) ?_
  refine gp zpk ?_
  refine gp zmv ?_
  refine gq zmv ?_
  refine gq (r_bool (r_lss rfl rfl) (decide_eq_false (by omega))) ?_
  refine gp zpk ?_
  refine gp zmv ?_
  refine gq zmv ?_
  refine gq (r_bool (r_lss rfl rfl) (decide_eq_true (by omega))) ?_
  refine gq zmv ?_
  refine gq zmv ?_
  refine gq zmv ?_
  refine gq (r_arith (op := .mul) rfl rfl (wrap_i64 (by omega) (by omega))) ?_
  refine gq (r_int (r_shl rfl rfl (by omega)) (shl_pow (by omega))) ?_
  refine gq (r_bool (r_geq rfl rfl) (decide_eq_true hb)) ?_
  refine gq zpk ?_
  refine gp zpk ?_
  refine gnt ?_
  refine gc_condT rfl rfl ?_
  refine gc_seq ?_
  refine gc_regionT 4 (by kernel_rfl) (by kernel_rfl) ?_
  refine sp zmv ?_
  refine sp znc ?_
  refine sp zfa ?_
  refine sp (r_ld1o rfl Ty.row_41 (hE.c 1 Has.h) (hE.n 1 Has.h)) ?_
  refine gs_nil ?_
  refine zc (fun _ => ?_) (c := fun w1 F1 F2 h1 h2 hd hst => fail_ok h1)
  refine gnt ?_
  refine gc_ret ?_
  refine gx_then_ret ?_
  refine gx_ret0 rfl ?_
  exact fun w' hw => ⟨(), rfl, by rw [wFail]; by_cases he : s.err = 0 <;> simp only [he, if_true, if_false, ite_true, ite_false] at hw ⊢ <;> exact St.wr (hw.sel (by repeat (first | exact Sel.nil | (apply Sel.cons; · (repeat (first | exact Pick.here | apply Pick.there)))))) (by simp [he]) rfl rfl⟩

set_option maxHeartbeats 400000 in
theorem number_fit7 {w : World} {F : Nat → Prop} {g TE : Nat} {ea : Nat → Addr} {s : WS} {n : Int} {wd : Nat} (h : stars [WrR TE ea g s] w F) {es : List Nat} [Has es 1] (hE : GErr es w (fun k => ¬ F k) TE ea) (h1 : 1 ≤ wd) (h8 : wd ≤ 8) (hl : s.bs.length + wd ≤ 1099511627776) (hn : 0 ≤ n) (hw8 : wd < 8) (hb : n < (2 : Int) ^ (8 * wd)) :
    Calls Tryd.prog 64 #[.pointer (some ⟨g, 0, none⟩), .int .i64 n, .int .i64 (wd : Int)] w (Post w F (fun _ : Unit => .tuple #[]) (fun _ => [WrR TE ea g (wFix (beN n wd) s)])) := by
  refine g_enter (env := [(0, .pointer (some ⟨g, 0, none⟩)), (1, .int .i64 n), (2, .int .i64 (wd : Int))]) Tryd.func64 rfl h Tryd.ntmps64 rfl rfl ?_
  refine gc_seq ?_
  refine gsr ?_
  refine gp zmv ?_
  refine gp (r_bool (r_lss rfl rfl) (decide_eq_false (by omega))) ?_
  refine gp zmv ?_
  refine gq zmv ?_
  refine gq (r_bool (r_gtr rfl rfl) (decide_eq_false (by omega))) ?_
  refine gp zpk ?_
  refine gp zmv ?_
  refine gq zmv ?_
  refine gq (r_bool (r_lss rfl rfl) (decide_eq_false (by omega))) ?_
  refine gp zpk ?_
  refine gp zmv ?_
  refine gq zmv ?_
  refine gq (r_bool (r_lss rfl rfl) (decide_eq_true (by omega))) ?_
  refine gq zmv ?_
  refine gq zmv ?_
  refine gq zmv ?_
  refine gq (r_arith (op := .mul) rfl rfl (wrap_i64 (by omega) (by omega))) ?_
  refine gq (r_int (r_shl rfl rfl (by omega)) (shl_pow (by omega))) ?_
  refine gq (r_bool (r_geq rfl rfl) (decide_eq_false (by omega))) ?_
  refine gq zpk ?_
  refine gp zpk ?_
  refine gnt ?_
  refine gc_condF rfl rfl ?_
  refine gc_skip ?_
  refine gx_then ?_
  refine gsr ?_
  refine gp zas ?_
  refine gnt ?_
  refine gc_seq ?_
  refine gsr ?_
  refine gp zmv ?_
  refine gp (r_int (r_arith (op := .sub) rfl rfl (wrap_i64 (by omega) (by omega))) (show (wd : Int) - 1 = (wd : Int) - 1 - ((0 : Nat) : Int) by omega)) ?_
  refine gp zas ?_
  refine gnt ?_
  refine gc_block ?_
  refine gc_loop (α := Nat × Option Addr × Nat) (fun x => [pureR (x.1 ≤ wd), rowR 5 1 x.2.1 x.1 x.2.2 (((List.range x.1).map fun j => byteAt n (wd - 1 - j)).map B8), WrR TE ea g s]) (fun x => [(6, .slice x.2.1 x.1 x.2.2), (7, .int .i64 ((wd : Int) - 1 - (x.1 : Int)))]) [36, 37, 38, 39, 40, 41, 42, 43, 44, 45, 46, 47] (fun x => wd - x.1) (0, none, 0) ?_ ?_ ?_
  · refine env_start (by kernel_rfl)
  · rintro w' ⟨F', hF', hst'⟩
    exact ⟨F', stars_pure_mk (Nat.zero_le _) (stars_row_nil hF'), hst'⟩
  · intro x u
    obtain ⟨k, a, c⟩ := x
    refine gc_pureR (fun hk => ?_)
    replace hk : k ≤ wd := hk
    refine gc_seq ?_
    refine gsr ?_
    refine gp zmv ?_
    refine gp zge ?_
    refine gnt ?_
    refine gif rfl (fun hc37 => ?_) (fun hc37 => ?_)
    · have hk' : k < wd := by (try simp only at hc37); omega
      refine gc_skip ?_
      refine gx_then ?_
      refine gc_seq ?_
      refine gc_block ?_
      refine gc_region ?_
      refine gp zmv ?_
      refine gp zmv ?_
      refine gp zmv ?_
      refine gp (r_arith (op := .mul) rfl rfl (wrap_i64 (by omega) (by omega))) ?_
      refine gp zhr ?_
      refine gp (r_val (r_conv_int rfl Ty.un_3 Ty.un_5) (byte_shr rfl hk' h8)) ?_
      refine gl_bsl1 (wt0 rfl) Ty.sl_54 Ty.sz_5 Ty.zc_5 (by conv => lhs; whnf) rfl ?_
      intro b46
      refine gl_append (news := [B8 (byteAt n (wd - 1 - k))]) (wt0 rfl) rfl rfl (by repeat (first | exact Pick.here | apply Pick.there)) Ty.el_54 (fun w' hw => hw.row (by repeat (first | exact Pick.here | apply Pick.there))) (all_cons' rfl all_nil') (by simp only [maxLen]; omega) (by omega) ?_
      intro a1 c1
      refine gp zas ?_
      refine gl_nil ?_
      refine gx_block_normal ?_
      refine gx_then ?_
      refine gc_region ?_
      refine gp zmv ?_
      refine gp (r_int (r_arith (op := .sub) rfl rfl (wrap_i64 (by omega) (by omega))) (show (wd : Int) - 1 - (k : Int) - 1 = (wd : Int) - 1 - ((k + 1 : Nat) : Int) by omega)) ?_
      refine gp zas ?_
      refine gl_nil ?_
      have hk' : k < wd := by omega
      refine zrd ((k + 1, a1, c1)) ?_ ?_
      · show wd - (k + 1) < wd - k
        omega
      · rintro w' hw
        obtain ⟨F', hF', hst'⟩ := hw.sel (M := [rowR 5 1 a1 (k + 1) c1 _, WrR TE ea g s]) (by repeat (first | exact Sel.nil | (apply Sel.cons; · (repeat (first | exact Pick.here | apply Pick.there)))))
        refine ⟨F', stars_pure_mk (by show k + 1 ≤ wd; omega) ?_, hst'⟩
        have e : ((List.range (k + 1)).map fun j => byteAt n (wd - 1 - j)).map B8 = ((List.range k).map fun j => byteAt n (wd - 1 - j)).map B8 ++ [B8 (byteAt n (wd - 1 - k))] := by simp [List.range_succ]
        show stars [rowR 5 1 a1 (k + 1) c1 (((List.range (k + 1)).map fun j => byteAt n (wd - 1 - j)).map B8), WrR TE ea g s] w' F'
        rw [e]
        exact hF'
    · have hk' : k = wd := by (try simp only at hc37); omega
      subst hk'
      refine gc_exit ?_
      refine gx_then_exit ?_
      refine gx_round_exit ?_
      refine gx_block_hit ?_
      refine gx_then ?_
      refine gc_region ?_
      refine gp zmv ?_
      refine gp zmv ?_
      refine zc (fun _ => ?_) (c := fun w1 F1 F2 h1 h2 hd hst => fixed_ok h1 (rd_row (xs := (beN n k).map B8) h2 hd (by repeat (first | exact Pick.here | apply Pick.there))) (by omega))
      refine gl_nil ?_
      refine gx_ret0' rfl ?_
      exact ze ()

set_option maxHeartbeats 400000 in
theorem number_fit8 {w : World} {F : Nat → Prop} {g TE : Nat} {ea : Nat → Addr} {s : WS} {n : Int} {wd : Nat} (h : stars [WrR TE ea g s] w F) {es : List Nat} [Has es 1] (hE : GErr es w (fun k => ¬ F k) TE ea) (h1 : 1 ≤ wd) (h8 : wd ≤ 8) (hl : s.bs.length + wd ≤ 1099511627776) (hn : 0 ≤ n) (hw8 : wd = 8) :
    Calls Tryd.prog 64 #[.pointer (some ⟨g, 0, none⟩), .int .i64 n, .int .i64 (wd : Int)] w (Post w F (fun _ : Unit => .tuple #[]) (fun _ => [WrR TE ea g (wFix (beN n wd) s)])) := by
  refine g_enter (env := [(0, .pointer (some ⟨g, 0, none⟩)), (1, .int .i64 n), (2, .int .i64 (wd : Int))]) Tryd.func64 rfl h Tryd.ntmps64 rfl rfl ?_
  refine gc_seq ?_
  refine gsr ?_
  refine gp zmv ?_
  refine gp (r_bool (r_lss rfl rfl) (decide_eq_false (by omega))) ?_
  refine gp zmv ?_
  refine gq zmv ?_
  refine gq (r_bool (r_gtr rfl rfl) (decide_eq_false (by omega))) ?_
  refine gp zpk ?_
  refine gp zmv ?_
  refine gq zmv ?_
  refine gq (r_bool (r_lss rfl rfl) (decide_eq_false (by omega))) ?_
  refine gp zpk ?_
  refine gp zmv ?_
  refine gq zmv ?_
  refine gq (r_bool (r_lss rfl rfl) (decide_eq_false (by omega))) ?_
  refine gq zmv ?_
  refine gn ?_
  refine gn ?_
  refine gn ?_
  refine gn ?_
  refine gn ?_
  refine gq zpk ?_
  refine gp zpk ?_
  refine gnt ?_
  refine gc_condF rfl rfl ?_
  refine gc_skip ?_
  refine gx_then ?_
  refine gsr ?_
  refine gp zas ?_
  refine gnt ?_
  refine gc_seq ?_
  refine gsr ?_
  refine gp zmv ?_
  refine gp (r_int (r_arith (op := .sub) rfl rfl (wrap_i64 (by omega) (by omega))) (show (wd : Int) - 1 = (wd : Int) - 1 - ((0 : Nat) : Int) by omega)) ?_
  refine gp zas ?_
  refine gnt ?_
  refine gc_block ?_
  refine gc_loop (α := Nat × Option Addr × Nat) (fun x => [pureR (x.1 ≤ wd), rowR 5 1 x.2.1 x.1 x.2.2 (((List.range x.1).map fun j => byteAt n (wd - 1 - j)).map B8), WrR TE ea g s]) (fun x => [(6, .slice x.2.1 x.1 x.2.2), (7, .int .i64 ((wd : Int) - 1 - (x.1 : Int)))]) [36, 37, 38, 39, 40, 41, 42, 43, 44, 45, 46, 47] (fun x => wd - x.1) (0, none, 0) ?_ ?_ ?_
  · refine env_start (by kernel_rfl)
  · rintro w' ⟨F', hF', hst'⟩
    exact ⟨F', stars_pure_mk (Nat.zero_le _) (stars_row_nil hF'), hst'⟩
  · intro x u
    obtain ⟨k, a, c⟩ := x
    refine gc_pureR (fun hk => ?_)
    replace hk : k ≤ wd := hk
    refine gc_seq ?_
    refine gsr ?_
    refine gp zmv ?_
    refine gp zge ?_
    refine gnt ?_
    refine gif rfl (fun hc37 => ?_) (fun hc37 => ?_)
    · have hk' : k < wd := by (try simp only at hc37); omega
      refine gc_skip ?_
      refine gx_then ?_
      refine gc_seq ?_
      refine gc_block ?_
      refine gc_region ?_
      refine gp zmv ?_
      refine gp zmv ?_
      refine gp zmv ?_
      refine gp (r_arith (op := .mul) rfl rfl (wrap_i64 (by omega) (by omega))) ?_
      refine gp zhr ?_
      refine gp (r_val (r_conv_int rfl Ty.un_3 Ty.un_5) (byte_shr rfl hk' h8)) ?_
      refine gl_bsl1 (wt0 rfl) Ty.sl_54 Ty.sz_5 Ty.zc_5 (by conv => lhs; whnf) rfl ?_
      intro b46
      refine gl_append (news := [B8 (byteAt n (wd - 1 - k))]) (wt0 rfl) rfl rfl (by repeat (first | exact Pick.here | apply Pick.there)) Ty.el_54 (fun w' hw => hw.row (by repeat (first | exact Pick.here | apply Pick.there))) (all_cons' rfl all_nil') (by simp only [maxLen]; omega) (by omega) ?_
      intro a1 c1
      refine gp zas ?_
      refine gl_nil ?_
      refine gx_block_normal ?_
      refine gx_then ?_
      refine gc_region ?_
      refine gp zmv ?_
      refine gp (r_int (r_arith (op := .sub) rfl rfl (wrap_i64 (by omega) (by omega))) (show (wd : Int) - 1 - (k : Int) - 1 = (wd : Int) - 1 - ((k + 1 : Nat) : Int) by omega)) ?_
      refine gp zas ?_
      refine gl_nil ?_
      have hk' : k < wd := by omega
      refine zrd ((k + 1, a1, c1)) ?_ ?_
      · show wd - (k + 1) < wd - k
        omega
      · rintro w' hw
        obtain ⟨F', hF', hst'⟩ := hw.sel (M := [rowR 5 1 a1 (k + 1) c1 _, WrR TE ea g s]) (by repeat (first | exact Sel.nil | (apply Sel.cons; · (repeat (first | exact Pick.here | apply Pick.there)))))
        refine ⟨F', stars_pure_mk (by show k + 1 ≤ wd; omega) ?_, hst'⟩
        have e : ((List.range (k + 1)).map fun j => byteAt n (wd - 1 - j)).map B8 = ((List.range k).map fun j => byteAt n (wd - 1 - j)).map B8 ++ [B8 (byteAt n (wd - 1 - k))] := by simp [List.range_succ]
        show stars [rowR 5 1 a1 (k + 1) c1 (((List.range (k + 1)).map fun j => byteAt n (wd - 1 - j)).map B8), WrR TE ea g s] w' F'
        rw [e]
        exact hF'
    · have hk' : k = wd := by (try simp only at hc37); omega
      subst hk'
      refine gc_exit ?_
      refine gx_then_exit ?_
      refine gx_round_exit ?_
      refine gx_block_hit ?_
      refine gx_then ?_
      refine gc_region ?_
      refine gp zmv ?_
      refine gp zmv ?_
      refine zc (fun _ => ?_) (c := fun w1 F1 F2 h1 h2 hd hst => fixed_ok h1 (rd_row (xs := (beN n k).map B8) h2 hd (by repeat (first | exact Pick.here | apply Pick.there))) (by omega))
      refine gl_nil ?_
      refine gx_ret0' rfl ?_
      exact ze ()


theorem number_ok {w : World} {F : Nat → Prop} {g TE : Nat} {ea : Nat → Addr} {s : WS} {n : Int} {wd : Nat} (h : stars [WrR TE ea g s] w F) {es : List Nat} [Has es 1] (hE : GErr es w (fun k => ¬ F k) TE ea) (h1 : 1 ≤ wd) (h8 : wd ≤ 8) (hl : s.bs.length + wd ≤ 1099511627776) :
    Calls Tryd.prog 64 #[.pointer (some ⟨g, 0, none⟩), .int .i64 n, .int .i64 (wd : Int)] w (Post w F (fun _ : Unit => .tuple #[]) (fun _ => [WrR TE ea g (wNum n wd s)])) := by
  unfold wNum
  by_cases hn : n < 0
  · rw [if_pos (.inl hn)]; exact number_neg h hE h1 h8 hn
  · by_cases hb : wd < 8 ∧ (2 : Int) ^ (8 * wd) ≤ n
    · rw [if_pos (.inr hb)]; exact number_big h hE h1 h8 (by omega) hb.1 hb.2
    · rw [if_neg (fun hh => hh.elim hn hb)]
      by_cases hw : wd < 8
      · exact number_fit7 h hE h1 h8 hl (by omega) hw (by have : ¬ (2 : Int) ^ (8 * wd) ≤ n := fun h' => hb ⟨hw, h'⟩; omega)
      · exact number_fit8 h hE h1 h8 hl (by omega) (by omega)

end Go.Proofs.YtobjojeliibinaaDoor

/- Plain words: what the writer of layer 9 makes of messages' parts. No program in sight. -/
namespace Go.Proofs.YtobjojeliibinaaDoor
set_option linter.unusedVariables false

def wPut {α : Type} (wX : α → WS → WS) (l : List α) (most : Nat) (s : WS) : WS :=
  if most < l.length ∨ 255 < l.length then wFail 1 s else l.foldl (fun s x => wX x s) (wNum (l.length : Int) 1 s)
def wDig (d : Dig) (s : WS) : WS := wFix d.l s
def wBytes (b : List UInt8) (most : Nat) (s : WS) : WS := if most < b.length ∨ 65535 < b.length then wFail 1 s else wFix b (wNum (b.length : Int) 2 s)
def wSig (x : Sig) (s : WS) : WS := wPut wDig x.path 5 (wPut wDig x.chains 68 (wNum x.leaf 1 s))
def wSigned (x : Signed) (s : WS) : WS := wSig x.sig (wNum x.who 1 s)
def wAt (e r : Int) (s : WS) : WS := wNum r 6 (wNum e 4 s)
def wQC (q : QC) (s : WS) : WS := wPut wSigned q.votes 7 (wDig q.block (wAt q.epoch q.round s))
def wLate (l : Late) (s : WS) : WS := wSig l.sig (wNum l.high 6 (wNum l.who 1 s))
def wTC (t : TC) (s : WS) : WS := wPut wLate t.lates 7 (wAt t.epoch t.round s)
def wVdr (v : Vdr) (s : WS) : WS := wNum v.power 6 (wDig v.key s)
def wBlock (b : Block) (s : WS) : WS := wPut wVdr b.next 7 (wPut (fun t => wBytes t 16) b.payload 4 (wQC b.justify (wDig b.parent (wAt b.epoch b.round s))))

theorem wDig_len (d : Dig) (s : WS) : (wDig d s).bs.length ≤ s.bs.length + 16 := by have := wFix_len d.l s; rw [d.h] at this; exact this
theorem wFail_len (k : Nat) (s : WS) : (wFail k s).bs.length ≤ s.bs.length := by rw [wFail_bs]; omega
theorem foldl_len {α : Type} {wX : α → WS → WS} {c : Nat} (h : ∀ x s, (wX x s).bs.length ≤ s.bs.length + c) : ∀ (l : List α) (s : WS), (l.foldl (fun s x => wX x s) s).bs.length ≤ s.bs.length + l.length * c
  | [], s => by simp
  | x :: l, s => by
    have h1 := h x s
    have h2 := foldl_len h l (wX x s)
    simp only [List.foldl_cons, List.length_cons, Nat.add_mul, Nat.one_mul] at h2 ⊢
    omega
theorem wPut_len {α : Type} {wX : α → WS → WS} {c : Nat} (h : ∀ x s, (wX x s).bs.length ≤ s.bs.length + c) (l : List α) (most : Nat) (s : WS) : (wPut wX l most s).bs.length ≤ s.bs.length + (1 + most * c) := by
  unfold wPut; split
  · have := wFail_len 1 s; omega
  · rename_i hh
    have h1 := foldl_len h l (wNum (l.length : Int) 1 s)
    have h2 := wNum_len (l.length : Int) 1 s
    have h3 : l.length * c ≤ most * c := Nat.mul_le_mul_right _ (by omega)
    omega
theorem wBytes_len (b : List UInt8) (most : Nat) (s : WS) : (wBytes b most s).bs.length ≤ s.bs.length + (2 + most) := by
  unfold wBytes; split
  · have := wFail_len 1 s; omega
  · have h1 := wFix_len b (wNum (b.length : Int) 2 s); have h2 := wNum_len (b.length : Int) 2 s; omega
theorem wSig_len (x : Sig) (s : WS) : (wSig x s).bs.length ≤ s.bs.length + 1171 := by
  have h1 := wNum_len x.leaf 1 s
  have h2 := wPut_len wDig_len x.chains 68 (wNum x.leaf 1 s)
  have h3 := wPut_len wDig_len x.path 5 (wPut wDig x.chains 68 (wNum x.leaf 1 s))
  unfold wSig; omega
theorem wSigned_len (x : Signed) (s : WS) : (wSigned x s).bs.length ≤ s.bs.length + 1172 := by
  have h1 := wNum_len x.who 1 s; have h2 := wSig_len x.sig (wNum x.who 1 s); unfold wSigned; omega
theorem wAt_len (e r : Int) (s : WS) : (wAt e r s).bs.length ≤ s.bs.length + 10 := by
  have h1 := wNum_len e 4 s; have h2 := wNum_len r 6 (wNum e 4 s); unfold wAt; omega
theorem wQC_len (q : QC) (s : WS) : (wQC q s).bs.length ≤ s.bs.length + 8231 := by
  have h1 := wAt_len q.epoch q.round s; have h2 := wDig_len q.block (wAt q.epoch q.round s); have h3 := wPut_len wSigned_len q.votes 7 (wDig q.block (wAt q.epoch q.round s)); unfold wQC; omega
theorem wLate_len (l : Late) (s : WS) : (wLate l s).bs.length ≤ s.bs.length + 1178 := by
  have h1 := wNum_len l.who 1 s; have h2 := wNum_len l.high 6 (wNum l.who 1 s); have h3 := wSig_len l.sig (wNum l.high 6 (wNum l.who 1 s)); unfold wLate; omega
theorem wTC_len (t : TC) (s : WS) : (wTC t s).bs.length ≤ s.bs.length + 8257 := by
  have h1 := wAt_len t.epoch t.round s; have h2 := wPut_len wLate_len t.lates 7 (wAt t.epoch t.round s); unfold wTC; omega
theorem wVdr_len (v : Vdr) (s : WS) : (wVdr v s).bs.length ≤ s.bs.length + 22 := by
  have h1 := wDig_len v.key s; have h2 := wNum_len v.power 6 (wDig v.key s); unfold wVdr; omega
theorem wBlock_len (b : Block) (s : WS) : (wBlock b s).bs.length ≤ s.bs.length + 8485 := by
  have h1 := wAt_len b.epoch b.round s; have h2 := wDig_len b.parent (wAt b.epoch b.round s); have h3 := wQC_len b.justify (wDig b.parent (wAt b.epoch b.round s))
  have h4 := wPut_len (wX := fun t => wBytes t 16) (c := 18) (fun x s => wBytes_len x 16 s) b.payload 4 (wQC b.justify (wDig b.parent (wAt b.epoch b.round s)))
  have h5 := wPut_len wVdr_len b.next 7 (wPut (fun t => wBytes t 16) b.payload 4 (wQC b.justify (wDig b.parent (wAt b.epoch b.round s))))
  unfold wBlock; omega
def wVote (v : Vote) (s : WS) : WS := wSigned v.sender (wDig v.block (wAt v.epoch v.round s))
def wTmo (v : Tmo) (s : WS) : WS := wSigned v.sender (wTC v.last (wQC v.high (wAt v.epoch v.round s)))
def wProp (v : Prop') (s : WS) : WS := wSigned v.sender (wTC v.last (wBlock v.block s))
def wChg (c : Chg) (s : WS) : WS := wQC c.qc (c.blocks.foldl (fun s b => wBlock b s) s)
def wBody (m : Msg) (s : WS) : WS :=
  if m.kind = 1 then wVote m.vote s else if m.kind = 2 then wTmo m.tmo s else if m.kind = 3 then wProp m.prop s
  else if m.kind = 4 then wDig m.wantBlock (wDig m.wantFrom s) else if m.kind = 5 then wBlock m.reply s else wChg m.chg s
def wMsg (m : Msg) (s : WS) : WS := wBody m (wNum m.kind 1 s)
theorem foldl_take_succ {α β : Type} (f : β → α → β) (l : List α) (s : β) {k : Nat} {x : α} (h : l[k]? = some x) : (l.take (k + 1)).foldl f s = f ((l.take k).foldl f s) x := by
  have hk : k < l.length := (List.getElem?_eq_some_iff.1 h).1
  rw [List.take_add_one, h]
  simp
end Go.Proofs.YtobjojeliibinaaDoor

/- Walks, by program (wg.py) out of a spec. -/
namespace Go.Proofs.YtobjojeliibinaaDoor
open Go
set_option linter.unusedVariables false
set_option linter.unusedSimpArgs false


theorem put_bound {α : Type} {wX : α → WS → WS} {c M : Nat} (h : ∀ x s, (wX x s).bs.length ≤ s.bs.length + c) {l : List α} {s : WS} {most k : Nat} (hk : k < l.length) (hm : l.length ≤ most) (hb : s.bs.length + (1 + most * c) ≤ M) :
    ((l.take k).foldl (fun s x => wX x s) (wNum (l.length : Int) 1 s)).bs.length + c ≤ M := by
  have h1 := foldl_len h (l.take k) (wNum (l.length : Int) 1 s)
  have h2 := wNum_len (l.length : Int) 1 s
  have h3 : (l.take k).length = k := by rw [List.length_take]; omega
  have h4 : (k + 1) * c ≤ most * c := Nat.mul_le_mul_right _ (by omega)
  rw [h3] at h1
  rw [Nat.add_mul, Nat.one_mul] at h4
  omega

attribute [local irreducible] Gl Gc Gx Gs Runs Wt

set_option maxHeartbeats 400000 in
theorem digest_ok {w : World} {F : Nat → Prop} {g TE : Nat} {ea : Nat → Addr} {s : WS} {d : Dig} (h : stars [WrR TE ea g s] w F) {es : List Nat} [Has es 1] (hE : GErr es w (fun k => ¬ F k) TE ea) (hb : s.bs.length + 16 ≤ 1099511627776) :
    Calls Tryd.prog 56 #[.agg (List.toArray [.pointer (some ⟨g, 0, none⟩)]), .agg (dc d).toArray] w (Post w F (fun _ : Unit => .tuple #[]) (fun _ => [WrR TE ea g (wDig d s)])) := by
  refine g_enter (env := [(0, .agg (List.toArray [.pointer (some ⟨g, 0, none⟩)])), (1, .agg (dc d).toArray)]) Tryd.func56 rfl h Tryd.ntmps56 rfl rfl ?_
  refine gsr ?_
  refine zbN fun b2 => ?_
  refine zbN fun b3 => ?_
  refine gnt ?_
  refine gc_regionT 3 (by kernel_rfl) (by kernel_rfl) ?_
  refine sp zfa ?_
  refine sp zl ?_
  refine sp (r_slice_arr (l := 0) (h := 16) rfl Ty.arr_26 Ty.sz_5 rfl rfl (by decide) (by decide) (by decide)) ?_
  refine gs_nil ?_
  refine zc (fun _ => ?_) (c := fun w1 F1 F2 h1 h2 hd hst => fixed_ok (b := d.l) h1 (rd_blk h2 hd (by repeat (first | exact Pick.here | apply Pick.there)) (by have := d.h; simp only [dc, List.drop_zero]; exact List.take_of_length_le (by simp [this])) (by simp [d.h]) (by decide)) hb)
  refine gl_nil ?_
  refine gx_ret0' rfl ?_
  exact ze ()

set_option maxHeartbeats 400000 in
theorem putDigest_ok {w : World} {F : Nat → Prop} {g TE : Nat} {ea : Nat → Addr} {s : WS} {d : Dig} (h : stars [WrR TE ea g s] w F) {es : List Nat} [Has es 1] (hE : GErr es w (fun k => ¬ F k) TE ea) (hb : s.bs.length + 16 ≤ 1099511627776) :
    Calls Tryd.prog 63 #[.pointer (some ⟨g, 0, none⟩), .agg (dc d).toArray] w (Post w F (fun _ : Unit => .tuple #[]) (fun _ => [WrR TE ea g (wDig d s)])) := by
  refine g_enter (env := [(0, .pointer (some ⟨g, 0, none⟩)), (1, .agg (dc d).toArray)]) Tryd.func63 rfl h Tryd.ntmps63 rfl rfl ?_
  refine gsr ?_
  refine zbN fun b3 => ?_
  refine gnt ?_
  refine gc_region ?_
  refine gp zmv ?_
  refine gp zbu ?_
  refine gp zL ?_
  refine zc (fun _ => ?_) (c := fun w1 F1 F2 h1 h2 hd hst => digest_ok h1 (hE.mv hst.still) hb)
  refine gl_nil ?_
  refine gx_ret0' rfl ?_
  exact ze ()

set_option maxHeartbeats 400000 in
theorem at_ok {w : World} {F : Nat → Prop} {g TE : Nat} {ea : Nat → Addr} {s : WS} {e r : Int} (h : stars [WrR TE ea g s] w F) {es : List Nat} [Has es 1] (hE : GErr es w (fun k => ¬ F k) TE ea) (hb : s.bs.length + 10 ≤ 1099511627776) :
    Calls Tryd.prog 55 #[.agg (List.toArray [.pointer (some ⟨g, 0, none⟩)]), .int .i64 e, .int .i64 r] w (Post w F (fun _ : Unit => .tuple #[]) (fun _ => [WrR TE ea g (wAt e r s)])) := by
  refine g_enter (env := [(0, .agg (List.toArray [.pointer (some ⟨g, 0, none⟩)])), (1, .int .i64 e), (2, .int .i64 r)]) Tryd.func55 rfl h Tryd.ntmps55 rfl rfl ?_
  refine gsr ?_
  refine zbN fun b3 => ?_
  refine gnt ?_
  refine gsr ?_
  refine gp zfa ?_
  refine gp zl ?_
  refine gp zmv ?_
  refine zc (fun _ => ?_) (c := fun w1 F1 F2 h1 h2 hd hst => number_ok (wd := 4) h1 (hE.mv hst.still) (by decide) (by decide) (by omega))
  refine gnt ?_
  refine gc_region ?_
  refine gp zfa ?_
  refine gp zl ?_
  refine gp zmv ?_
  refine zc (fun _ => ?_) (c := fun w1 F1 F2 h1 h2 hd hst => number_ok (wd := 6) h1 (hE.mv hst.still) (by decide) (by decide) (by have := wNum_len e 4 s; omega))
  refine gl_nil ?_
  refine gx_ret0' rfl ?_
  exact ze ()

set_option maxHeartbeats 400000 in
theorem wbytes_big {w : World} {F : Nat → Prop} {g TE : Nat} {ea : Nat → Addr} {s : WS} {n c : Nat} {a : Option Addr} {b : List UInt8} {most : Nat} (h : stars [WrR TE ea g s] w F) {es : List Nat} [Has es 1] (hE : GErr es w (fun k => ¬ F k) TE ea) (hx : RdRow w (fun k => ¬ F k) 1 a n (b.map B8)) (hm : most ≤ 65535) (hn : most < n) :
    Calls Tryd.prog 60 #[.pointer (some ⟨g, 0, none⟩), .slice a n c, .int .i64 (most : Int)] w (Post w F (fun _ : Unit => .tuple #[]) (fun _ => [WrR TE ea g (wFail 1 s)])) := by
  obtain ⟨a0, c0, h'⟩ := wr_open h
  refine g_enter (env := [(0, .pointer (some ⟨g, 0, none⟩)), (1, .slice a n c), (2, .int .i64 (most : Int))]) Tryd.func60 rfl h' Tryd.ntmps60 rfl rfl ?_
  refine gc_seq ?_
  refine gsr ?_
  refine gp zmv ?_
  refine gp zln ?_
  refine gp zmv ?_
  refine gp (r_bool (r_gtr rfl rfl) (decide_eq_true (by omega))) ?_
  refine gp zmv ?_
  refine gn ?_
  refine gn ?_
  refine gn ?_
  refine gp zpk ?_
  refine gnt ?_
  refine gc_condT rfl rfl ?_
  refine gc_seq ?_
  refine gc_regionT 4 (by kernel_rfl) (by kernel_rfl) ?_
  refine sp zmv ?_
  refine sp znc ?_
  refine sp zfa ?_
  refine sp (r_ld1o rfl Ty.row_41 (hE.c 1 Has.h) (hE.n 1 Has.h)) ?_
  refine gs_nil ?_
  refine zc (fun _ => ?_) (c := fun w1 F1 F2 h1 h2 hd hst => fail_ok h1)
  refine gnt ?_
  refine gc_ret ?_
  refine gx_then_ret ?_
  refine gx_ret0 rfl ?_
  exact fun w' hw => ⟨(), rfl, by rw [wFail]; by_cases he : s.err = 0 <;> simp only [he, if_true, if_false, ite_true, ite_false] at hw ⊢ <;> exact St.wr (hw.sel (by repeat (first | exact Sel.nil | (apply Sel.cons; · (repeat (first | exact Pick.here | apply Pick.there)))))) (by simp [he]) rfl rfl⟩

set_option maxHeartbeats 400000 in
theorem wbytes_fit {w : World} {F : Nat → Prop} {g TE : Nat} {ea : Nat → Addr} {s : WS} {n c : Nat} {a : Option Addr} {b : List UInt8} {most : Nat} (h : stars [WrR TE ea g s] w F) {es : List Nat} [Has es 1] (hE : GErr es w (fun k => ¬ F k) TE ea) (hx : RdRow w (fun k => ¬ F k) 1 a n (b.map B8)) (hm : most ≤ 65535) (hn : n ≤ most) (hb : s.bs.length + (2 + most) ≤ 1099511627776) :
    Calls Tryd.prog 60 #[.pointer (some ⟨g, 0, none⟩), .slice a n c, .int .i64 (most : Int)] w (Post w F (fun _ : Unit => .tuple #[]) (fun _ => [WrR TE ea g (wFix b (wNum (b.length : Int) 2 s))])) := by
  have hnb : n = b.length := by have := hx.1; simp at this; omega
  refine g_enter (env := [(0, .pointer (some ⟨g, 0, none⟩)), (1, .slice a n c), (2, .int .i64 (most : Int))]) Tryd.func60 rfl h Tryd.ntmps60 rfl rfl ?_
  refine gc_seq ?_
  refine gsr ?_
  refine gp zmv ?_
  refine gp zln ?_
  refine gp zmv ?_
  refine gp (r_bool (r_gtr rfl rfl) (decide_eq_false (by omega))) ?_
  refine gp zmv ?_
  refine gq zmv ?_
  refine gq zln ?_
  refine gq (r_bool (r_gtr rfl rfl) (decide_eq_false (by omega))) ?_
  refine gp zpk ?_
  refine gnt ?_
  refine gc_condF rfl rfl ?_
  refine gc_skip ?_
  refine gx_then ?_
  refine gsr ?_
  refine gp zmv ?_
  refine gp zmv ?_
  refine gp zln ?_
  refine zc (fun _ => ?_) (c := fun w1 F1 F2 h1 h2 hd hst => number_ok (wd := 2) h1 (hE.mv hst.still) (by decide) (by decide) (by omega))
  refine gnt ?_
  refine gc_region ?_
  refine gp zmv ?_
  refine gp zmv ?_
  refine zc (fun _ => ?_) (c := fun w1 F1 F2 h1 h2 hd hst => fixed_ok h1 (hx.mv hst.still) (by have := wNum_len n 2 s; omega))
  refine gl_nil ?_
  refine gx_ret0' rfl ?_
  rw [← hnb]
  exact ze ()


theorem wbytes_ok {w : World} {F : Nat → Prop} {g TE : Nat} {ea : Nat → Addr} {s : WS} {n c : Nat} {a : Option Addr} {b : List UInt8} {most : Nat} (h : stars [WrR TE ea g s] w F) {es : List Nat} [Has es 1] (hE : GErr es w (fun k => ¬ F k) TE ea) (hx : RdRow w (fun k => ¬ F k) 1 a n (b.map B8)) (hm : most ≤ 65535) (hb : s.bs.length + (2 + most) ≤ 1099511627776) :
    Calls Tryd.prog 60 #[.pointer (some ⟨g, 0, none⟩), .slice a n c, .int .i64 (most : Int)] w (Post w F (fun _ : Unit => .tuple #[]) (fun _ => [WrR TE ea g (wBytes b most s)])) := by
  have hnb : n = b.length := by have := hx.1; simp at this; omega
  unfold wBytes
  by_cases hn : most < n
  · rw [if_pos (.inl (by omega))]; exact wbytes_big h hE hx hm hn
  · rw [if_neg (by omega)]; exact wbytes_fit h hE hx hm (by omega) hb

set_option maxHeartbeats 400000 in
theorem putDigs_big {w : World} {F : Nat → Prop} {g TE : Nat} {ea : Nat → Addr} {s : WS} {n c : Nat} {a : Option Addr} {l : List Dig} {most : Nat} (h : stars [WrR TE ea g s] w F) {es : List Nat} [Has es 1] (hE : GErr es w (fun k => ¬ F k) TE ea) (hl : RdList (RdDig) w (fun k => ¬ F k) 16 a n l) (hm : most ≤ 255) (hn : most < n) :
    Calls Tryd.prog 75 #[.pointer (some ⟨g, 0, none⟩), .slice a n c, .int .i64 (most : Int), .func (.func 63) #[] #[]] w (Post w F (fun _ : Unit => .tuple #[]) (fun _ => [WrR TE ea g (wFail 1 s)])) := by
  obtain ⟨a0, c0, h'⟩ := wr_open h
  refine g_enter (env := [(0, .pointer (some ⟨g, 0, none⟩)), (1, .slice a n c), (2, .int .i64 (most : Int)), (3, .func (.func 63) #[] #[])]) Tryd.func75 rfl h' Tryd.ntmps75 rfl rfl ?_
  refine gc_seq ?_
  refine gsr ?_
  refine gp zmv ?_
  refine gp zln ?_
  refine gp zmv ?_
  refine gp (r_bool (r_gtr rfl rfl) (decide_eq_true (by omega))) ?_
  refine gp zmv ?_
  refine gn ?_
  refine gn ?_
  refine gn ?_
  refine gp zpk ?_
  refine gnt ?_
  refine gc_condT rfl rfl ?_
  refine gc_seq ?_
  refine gc_regionT 4 (by kernel_rfl) (by kernel_rfl) ?_
  refine sp zmv ?_
  refine sp znc ?_
  refine sp zfa ?_
  refine sp (r_ld1o rfl Ty.row_41 (hE.c 1 Has.h) (hE.n 1 Has.h)) ?_
  refine gs_nil ?_
  refine zc (fun _ => ?_) (c := fun w1 F1 F2 h1 h2 hd hst => fail_ok h1)
  refine gnt ?_
  refine gc_ret ?_
  refine gx_then_ret ?_
  refine gx_ret0 rfl ?_
  exact fun w' hw => ⟨(), rfl, by rw [wFail]; by_cases he : s.err = 0 <;> simp only [he, if_true, if_false, ite_true, ite_false] at hw ⊢ <;> exact St.wr (hw.sel (by repeat (first | exact Sel.nil | (apply Sel.cons; · (repeat (first | exact Pick.here | apply Pick.there)))))) (by simp [he]) rfl rfl⟩

set_option maxHeartbeats 400000 in
theorem putDigs_fit {w : World} {F : Nat → Prop} {g TE : Nat} {ea : Nat → Addr} {s : WS} {n c : Nat} {a : Option Addr} {l : List Dig} {most : Nat} (h : stars [WrR TE ea g s] w F) {es : List Nat} [Has es 1] (hE : GErr es w (fun k => ¬ F k) TE ea) (hl : RdList (RdDig) w (fun k => ¬ F k) 16 a n l) (hm : most ≤ 255) (hn : n ≤ most) (hb : s.bs.length + (1 + most * 16) ≤ 1099511627776) :
    Calls Tryd.prog 75 #[.pointer (some ⟨g, 0, none⟩), .slice a n c, .int .i64 (most : Int), .func (.func 63) #[] #[]] w (Post w F (fun _ : Unit => .tuple #[]) (fun _ => [WrR TE ea g (l.foldl (fun s x => wDig x s) (wNum (l.length : Int) 1 s))])) := by
  have hnl := hl.len (by decide)
  refine g_enter (env := [(0, .pointer (some ⟨g, 0, none⟩)), (1, .slice a n c), (2, .int .i64 (most : Int)), (3, .func (.func 63) #[] #[])]) Tryd.func75 rfl h Tryd.ntmps75 rfl rfl ?_
  refine gc_seq ?_
  refine gsr ?_
  refine gp zmv ?_
  refine gp zln ?_
  refine gp zmv ?_
  refine gp (r_bool (r_gtr rfl rfl) (decide_eq_false (by omega))) ?_
  refine gp zmv ?_
  refine gq zmv ?_
  refine gq zln ?_
  refine gq (r_bool (r_gtr rfl rfl) (decide_eq_false (by omega))) ?_
  refine gp zpk ?_
  refine gnt ?_
  refine gc_condF rfl rfl ?_
  refine gc_skip ?_
  refine gx_then ?_
  refine gsr ?_
  refine gp zmv ?_
  refine gp zmv ?_
  refine gp zln ?_
  refine zc (fun _ => ?_) (c := fun w1 F1 F2 h1 h2 hd hst => number_ok (wd := 1) h1 (hE.mv hst.still) (by decide) (by decide) (by omega))
  refine gnt ?_
  refine gsr ?_
  refine gp zmv ?_
  refine gp zln ?_
  refine gp zmv ?_
  refine gnt ?_
  refine gc_block ?_
  refine gc_loop (α := Nat) (fun k => [pureR (k ≤ n), WrR TE ea g ((l.take k).foldl (fun s x => wDig x s) (wNum (l.length : Int) 1 s))]) (fun k => [(30, .int .i64 (k : Int))]) [9, 31, 32, 33, 34, 35, 36, 37, 38] (fun k => n - k) 0 ?_ ?_ ?_
  · refine env_start (by kernel_rfl)
  · rintro w' hw
    obtain ⟨F', hF', hst'⟩ := hw.sel (M := [WrR TE ea g (wNum (n : Int) 1 s)]) (by repeat (first | exact Sel.nil | (apply Sel.cons; · (repeat (first | exact Pick.here | apply Pick.there)))))
    rw [hnl] at hF'
    exact ⟨F', stars_pure_mk (Nat.zero_le _) hF', hst'⟩
  · intro k u
    refine gc_pureR (fun hk => ?_)
    replace hk : k ≤ n := hk
    refine gsr ?_
    refine gp zlt ?_
    refine gnt ?_
    refine gc_seq ?_
    refine gif rfl (fun hc31 => ?_) (fun hc31 => ?_)
    · have hk' : k < n := by (try simp only at hc31); omega
      obtain ⟨ga, o, cs, y, ha, hA, hg, hra, hcl, hly, hrd⟩ := hl.elem (by decide) hk'
      subst ha
      unfold RdDig at hrd
      subst hrd
      refine gc_skip ?_
      refine gx_then ?_
      refine gc_seq ?_
      refine gc_block ?_
      refine gsr ?_
      refine gp (r_indexAddr_slice rfl rfl Ty.sl_37 Ty.sz_26 (by omega) (by omega)) ?_
      refine gp (r_ldNo rfl Ty.row_26 Ty.sz_26 hra hcl (by decide) hA) ?_
      refine zal fun b9 => ?_
      refine gl_storeN (wt0 rfl) rfl rfl Ty.sz_26 hcl (by repeat (first | exact Pick.here | apply Pick.there)) (by first | rfl | (simp only [List.drop_succ_cons, List.drop_zero, List.take_succ_cons, List.take_zero, List.cons_append, List.nil_append, List.append_assoc, drop_dc, drop_dc', take_dc, take_dc', drop_L, drop_L', take_L, take_L', len_L, Nat.reduceLeDiff, Nat.reduceSub, Nat.reduceAdd, Nat.le_refl, List.length_cons, List.length_append, List.length_nil, dc_length, List.drop_nil, List.take_nil, List.append_nil, List.length_map, List.length_replicate, zD_length]; first | done | omega)) (dc_one _) (updL_all (by rw [hcl]; first | rfl | (simp only [List.drop_succ_cons, List.drop_zero, List.take_succ_cons, List.take_zero, List.cons_append, List.nil_append, List.append_assoc, drop_dc, drop_dc', take_dc, take_dc', drop_L, drop_L', take_L, take_L', len_L, Nat.reduceLeDiff, Nat.reduceSub, Nat.reduceAdd, Nat.le_refl, List.length_cons, List.length_append, List.length_nil, dc_length, List.drop_nil, List.take_nil, List.append_nil, List.length_map, List.length_replicate, zD_length]))) ?_
      refine gnt ?_
      refine gc_region ?_
      refine gp zmv ?_
      refine gp zmv ?_
      refine gp (r_ldN rfl Ty.row_26 Ty.sz_26 (by repeat (first | exact Pick.here | apply Pick.there)) (seg_all hcl) hcl) ?_
      refine gl_call (wt0 rfl) (e_callv (us := []) rfl Ty.call_63 rfl) (by repeat (first | exact Sel.nil | (apply Sel.cons; · (repeat (first | exact Pick.here | apply Pick.there))))) (fun w1 F1 F2 h1 h2 hd hst => putDigest_ok h1 (hE.mv hst.still)  (put_bound wDig_len (by omega) (by omega) hb)) ?_
      intro _
      refine gl_nil ?_
      refine gx_block_normal ?_
      refine gx_then ?_
      refine gc_region ?_
      refine gp (r_arith (op := .add) rfl rfl (wrap_i64 (by omega) (by omega))) ?_
      refine gp zmv ?_
      refine gl_nil ?_
      refine zrd (k + 1) ?_ ?_
      · show n - (k + 1) < n - k
        omega
      · rintro w' hw
        obtain ⟨F', hF', hst'⟩ := hw.sel (M := [WrR TE ea g _]) (by repeat (first | exact Sel.nil | (apply Sel.cons; · (repeat (first | exact Pick.here | apply Pick.there)))))
        refine ⟨F', stars_pure_mk (show k + 1 ≤ n by omega) ?_, hst'⟩
        rw [foldl_take_succ _ _ _ hly]
        exact hF'
    · have hk' : k = l.length := by (try simp only at hc31); omega
      subst hk'
      refine gc_exit ?_
      refine gx_then_exit ?_
      refine gx_round_exit ?_
      refine gx_block_hit ?_
      refine gx_ret0' rfl ?_
      rw [List.take_length]
      exact ze ()


theorem putDigs_ok {w : World} {F : Nat → Prop} {g TE : Nat} {ea : Nat → Addr} {s : WS} {n c : Nat} {a : Option Addr} {l : List Dig} {most : Nat} (h : stars [WrR TE ea g s] w F) {es : List Nat} [Has es 1] (hE : GErr es w (fun k => ¬ F k) TE ea) (hl : RdList (RdDig) w (fun k => ¬ F k) 16 a n l) (hm : most ≤ 255) (hb : s.bs.length + (1 + most * 16) ≤ 1099511627776) :
    Calls Tryd.prog 75 #[.pointer (some ⟨g, 0, none⟩), .slice a n c, .int .i64 (most : Int), .func (.func 63) #[] #[]] w (Post w F (fun _ : Unit => .tuple #[]) (fun _ => [WrR TE ea g (wPut (wDig) l most s)])) := by
  have hnl := hl.len (by decide)
  unfold wPut
  by_cases hn : most < n
  · rw [if_pos (.inl (by omega))]; exact putDigs_big h hE hl hm hn
  · rw [if_neg (by omega)]; exact putDigs_fit h hE hl hm (by omega) hb

end Go.Proofs.YtobjojeliibinaaDoor

/- Walks, by program (wg.py) out of a spec. -/
namespace Go.Proofs.YtobjojeliibinaaDoor
open Go
set_option linter.unusedVariables false
set_option linter.unusedSimpArgs false

attribute [local irreducible] Gl Gc Gx Gs Runs Wt

set_option maxHeartbeats 400000 in
theorem sig_ok {w : World} {F : Nat → Prop} {g TE : Nat} {ea : Nat → Addr} {s : WS} {cs : List Value} {x : Sig} (h : stars [WrR TE ea g s] w F) {es : List Nat} [Has es 1] (hE : GErr es w (fun k => ¬ F k) TE ea) (hx : RdSig w (fun k => ¬ F k) cs x) (hb : s.bs.length + 1171 ≤ 1099511627776) :
    Calls Tryd.prog 74 #[.agg (List.toArray [.pointer (some ⟨g, 0, none⟩)]), .agg cs.toArray] w (Post w F (fun _ : Unit => .tuple #[]) (fun _ => [WrR TE ea g (wSig x s)])) := by
  obtain ⟨a1, n1, c1, a2, n2, c2, rfl, hk1, hk2, hd1, hd2⟩ := hx
  refine g_enter (env := [(0, .agg (List.toArray [.pointer (some ⟨g, 0, none⟩)])), (1, .agg (List.toArray ([.int .i64 x.leaf, .slice a1 n1 c1, .slice a2 n2 c2])))]) Tryd.func74 rfl h Tryd.ntmps74 rfl rfl ?_
  refine gsr ?_
  refine zbN fun b2 => ?_
  refine zbN fun b3 => ?_
  refine gnt ?_
  refine gsr ?_
  refine gp zfa ?_
  refine gp zl ?_
  refine gp zfa ?_
  refine gp zl ?_
  refine zc (fun _ => ?_) (c := fun w1 F1 F2 h1 h2 hd hst => number_ok (wd := 1) h1 (hE.mv hst.still) (by decide) (by decide) (by omega))
  refine gnt ?_
  refine gsr ?_
  refine gp zfa ?_
  refine gp zl ?_
  refine gp zfa ?_
  refine gp zl ?_
  refine zc (fun _ => ?_) (c := fun w1 F1 F2 h1 h2 hd hst => putDigs_ok (most := 68) h1 (hE.mv hst.still) (hd1.mv hst.still) (by decide) (by have e0 := wNum_len x.leaf 1 s; omega))
  refine gnt ?_
  refine gc_region ?_
  refine gp zfa ?_
  refine gp zl ?_
  refine gp zfa ?_
  refine gp zl ?_
  refine zc (fun _ => ?_) (c := fun w1 F1 F2 h1 h2 hd hst => putDigs_ok (most := 5) h1 (hE.mv hst.still) (hd2.mv hst.still) (by decide) (by have e0 := wNum_len x.leaf 1 s; have e1 := wPut_len wDig_len x.chains 68 (wNum x.leaf 1 s); omega))
  refine gl_nil ?_
  refine gx_ret0' rfl ?_
  exact ze ()

set_option maxHeartbeats 400000 in
theorem signed_ok {w : World} {F : Nat → Prop} {g TE : Nat} {ea : Nat → Addr} {s : WS} {cs : List Value} {x : Signed} (h : stars [WrR TE ea g s] w F) {es : List Nat} [Has es 1] (hE : GErr es w (fun k => ¬ F k) TE ea) (hx : RdSigned w (fun k => ¬ F k) cs x) (hb : s.bs.length + 1172 ≤ 1099511627776) :
    Calls Tryd.prog 70 #[.agg (List.toArray [.pointer (some ⟨g, 0, none⟩)]), .agg cs.toArray] w (Post w F (fun _ : Unit => .tuple #[]) (fun _ => [WrR TE ea g (wSigned x s)])) := by
  obtain ⟨ss, rfl, hs⟩ := hx
  have hl := hs.len
  have z_hl := Len.of hl
  refine g_enter (env := [(0, .agg (List.toArray [.pointer (some ⟨g, 0, none⟩)])), (1, .agg (List.toArray (.int .i64 x.who :: ss)))]) Tryd.func70 rfl h Tryd.ntmps70 rfl rfl ?_
  refine gsr ?_
  refine zbN fun b2 => ?_
  refine zbN fun b3 => ?_
  refine gnt ?_
  refine gsr ?_
  refine gp zfa ?_
  refine gp zl ?_
  refine gp zfa ?_
  refine gp zl ?_
  refine zc (fun _ => ?_) (c := fun w1 F1 F2 h1 h2 hd hst => number_ok (wd := 1) h1 (hE.mv hst.still) (by decide) (by decide) (by omega))
  refine gnt ?_
  refine gc_region ?_
  refine gp zL ?_
  refine gp zfa ?_
  refine gp zL ?_
  refine zc (fun _ => ?_) (c := fun w1 F1 F2 h1 h2 hd hst => sig_ok h1 (hE.mv hst.still) (hs.mv hst.still) (by have e0 := wNum_len x.who 1 s; omega))
  refine gl_nil ?_
  refine gx_ret0' rfl ?_
  exact ze ()

set_option maxHeartbeats 400000 in
theorem qc1_ok {w : World} {F : Nat → Prop} {g TE : Nat} {ea : Nat → Addr} {s : WS} {cs : List Value} {x : Signed} (h : stars [WrR TE ea g s] w F) {es : List Nat} [Has es 1] (hE : GErr es w (fun k => ¬ F k) TE ea) (hx : RdSigned w (fun k => ¬ F k) cs x) (hb : s.bs.length + 1172 ≤ 1099511627776) :
    Calls Tryd.prog 69 #[.pointer (some ⟨g, 0, none⟩), .agg cs.toArray] w (Post w F (fun _ : Unit => .tuple #[]) (fun _ => [WrR TE ea g (wSigned x s)])) := by
  have hl := hx.len
  refine g_enter (env := [(0, .pointer (some ⟨g, 0, none⟩)), (1, .agg cs.toArray)]) Tryd.func69 rfl h Tryd.ntmps69 rfl rfl ?_
  refine gsr ?_
  refine zbN fun b3 => ?_
  refine gnt ?_
  refine gc_region ?_
  refine gp zmv ?_
  refine gp zbu ?_
  refine gp (r_ldN rfl Ty.row_51 Ty.sz_51 (by repeat (first | exact Pick.here | apply Pick.there)) (seg_all hl) hl) ?_
  refine zc (fun _ => ?_) (c := fun w1 F1 F2 h1 h2 hd hst => signed_ok h1 (hE.mv hst.still) (hx.mv hst.still) hb)
  refine gl_nil ?_
  refine gx_ret0' rfl ?_
  exact ze ()

set_option maxHeartbeats 400000 in
theorem putSigneds_big {w : World} {F : Nat → Prop} {g TE : Nat} {ea : Nat → Addr} {s : WS} {n c : Nat} {a : Option Addr} {l : List Signed} {most : Nat} (h : stars [WrR TE ea g s] w F) {es : List Nat} [Has es 1] (hE : GErr es w (fun k => ¬ F k) TE ea) (hl : RdList (RdSigned w (fun k => ¬ F k)) w (fun k => ¬ F k) 4 a n l) (hm : most ≤ 255) (hn : most < n) :
    Calls Tryd.prog 68 #[.pointer (some ⟨g, 0, none⟩), .slice a n c, .int .i64 (most : Int), .func (.func 69) #[] #[]] w (Post w F (fun _ : Unit => .tuple #[]) (fun _ => [WrR TE ea g (wFail 1 s)])) := by
  obtain ⟨a0, c0, h'⟩ := wr_open h
  refine g_enter (env := [(0, .pointer (some ⟨g, 0, none⟩)), (1, .slice a n c), (2, .int .i64 (most : Int)), (3, .func (.func 69) #[] #[])]) Tryd.func68 rfl h' Tryd.ntmps68 rfl rfl ?_
  refine gc_seq ?_
  refine gsr ?_
  refine gp zmv ?_
  refine gp zln ?_
  refine gp zmv ?_
  refine gp (r_bool (r_gtr rfl rfl) (decide_eq_true (by omega))) ?_
  refine gp zmv ?_
  refine gn ?_
  refine gn ?_
  refine gn ?_
  refine gp zpk ?_
  refine gnt ?_
  refine gc_condT rfl rfl ?_
  refine gc_seq ?_
  refine gc_regionT 4 (by kernel_rfl) (by kernel_rfl) ?_
  refine sp zmv ?_
  refine sp znc ?_
  refine sp zfa ?_
  refine sp (r_ld1o rfl Ty.row_41 (hE.c 1 Has.h) (hE.n 1 Has.h)) ?_
  refine gs_nil ?_
  refine zc (fun _ => ?_) (c := fun w1 F1 F2 h1 h2 hd hst => fail_ok h1)
  refine gnt ?_
  refine gc_ret ?_
  refine gx_then_ret ?_
  refine gx_ret0 rfl ?_
  exact fun w' hw => ⟨(), rfl, by rw [wFail]; by_cases he : s.err = 0 <;> simp only [he, if_true, if_false, ite_true, ite_false] at hw ⊢ <;> exact St.wr (hw.sel (by repeat (first | exact Sel.nil | (apply Sel.cons; · (repeat (first | exact Pick.here | apply Pick.there)))))) (by simp [he]) rfl rfl⟩

set_option maxHeartbeats 400000 in
theorem putSigneds_fit {w : World} {F : Nat → Prop} {g TE : Nat} {ea : Nat → Addr} {s : WS} {n c : Nat} {a : Option Addr} {l : List Signed} {most : Nat} (h : stars [WrR TE ea g s] w F) {es : List Nat} [Has es 1] (hE : GErr es w (fun k => ¬ F k) TE ea) (hl : RdList (RdSigned w (fun k => ¬ F k)) w (fun k => ¬ F k) 4 a n l) (hm : most ≤ 255) (hn : n ≤ most) (hb : s.bs.length + (1 + most * 1172) ≤ 1099511627776) :
    Calls Tryd.prog 68 #[.pointer (some ⟨g, 0, none⟩), .slice a n c, .int .i64 (most : Int), .func (.func 69) #[] #[]] w (Post w F (fun _ : Unit => .tuple #[]) (fun _ => [WrR TE ea g (l.foldl (fun s x => wSigned x s) (wNum (l.length : Int) 1 s))])) := by
  have hnl := hl.len (by decide)
  refine g_enter (env := [(0, .pointer (some ⟨g, 0, none⟩)), (1, .slice a n c), (2, .int .i64 (most : Int)), (3, .func (.func 69) #[] #[])]) Tryd.func68 rfl h Tryd.ntmps68 rfl rfl ?_
  refine gc_seq ?_
  refine gsr ?_
  refine gp zmv ?_
  refine gp zln ?_
  refine gp zmv ?_
  refine gp (r_bool (r_gtr rfl rfl) (decide_eq_false (by omega))) ?_
  refine gp zmv ?_
  refine gq zmv ?_
  refine gq zln ?_
  refine gq (r_bool (r_gtr rfl rfl) (decide_eq_false (by omega))) ?_
  refine gp zpk ?_
  refine gnt ?_
  refine gc_condF rfl rfl ?_
  refine gc_skip ?_
  refine gx_then ?_
  refine gsr ?_
  refine gp zmv ?_
  refine gp zmv ?_
  refine gp zln ?_
  refine zc (fun _ => ?_) (c := fun w1 F1 F2 h1 h2 hd hst => number_ok (wd := 1) h1 (hE.mv hst.still) (by decide) (by decide) (by omega))
  refine gnt ?_
  refine gsr ?_
  refine gp zmv ?_
  refine gp zln ?_
  refine gp zmv ?_
  refine gnt ?_
  refine gc_block ?_
  refine gc_loop (α := Nat) (fun k => [pureR (k ≤ n), WrR TE ea g ((l.take k).foldl (fun s x => wSigned x s) (wNum (l.length : Int) 1 s))]) (fun k => [(30, .int .i64 (k : Int))]) [9, 31, 32, 33, 34, 35, 36, 37, 38] (fun k => n - k) 0 ?_ ?_ ?_
  · refine env_start (by kernel_rfl)
  · rintro w' hw
    obtain ⟨F', hF', hst'⟩ := hw.sel (M := [WrR TE ea g (wNum (n : Int) 1 s)]) (by repeat (first | exact Sel.nil | (apply Sel.cons; · (repeat (first | exact Pick.here | apply Pick.there)))))
    rw [hnl] at hF'
    exact ⟨F', stars_pure_mk (Nat.zero_le _) hF', hst'⟩
  · intro k u
    refine gc_pureR (fun hk => ?_)
    replace hk : k ≤ n := hk
    refine gsr ?_
    refine gp zlt ?_
    refine gnt ?_
    refine gc_seq ?_
    refine gif rfl (fun hc31 => ?_) (fun hc31 => ?_)
    · have hk' : k < n := by (try simp only at hc31); omega
      obtain ⟨ga, o, cs, y, ha, hA, hg, hra, hcl, hly, hrd⟩ := hl.elem (by decide) hk'
      subst ha
      refine gc_skip ?_
      refine gx_then ?_
      refine gc_seq ?_
      refine gc_block ?_
      refine gsr ?_
      refine gp (r_indexAddr_slice rfl rfl Ty.sl_27 Ty.sz_51 (by omega) (by omega)) ?_
      refine gp (r_ldNo rfl Ty.row_51 Ty.sz_51 hra hcl (by decide) hA) ?_
      refine zal fun b9 => ?_
      refine gl_storeN (wt0 rfl) rfl rfl Ty.sz_51 hcl (by repeat (first | exact Pick.here | apply Pick.there)) (by first | rfl | (simp only [List.drop_succ_cons, List.drop_zero, List.take_succ_cons, List.take_zero, List.cons_append, List.nil_append, List.append_assoc, drop_dc, drop_dc', take_dc, take_dc', drop_L, drop_L', take_L, take_L', len_L, Nat.reduceLeDiff, Nat.reduceSub, Nat.reduceAdd, Nat.le_refl, List.length_cons, List.length_append, List.length_nil, dc_length, List.drop_nil, List.take_nil, List.append_nil, List.length_map, List.length_replicate, zD_length]; first | done | omega)) (hrd.one) (updL_all (by rw [hcl]; first | rfl | (simp only [List.drop_succ_cons, List.drop_zero, List.take_succ_cons, List.take_zero, List.cons_append, List.nil_append, List.append_assoc, drop_dc, drop_dc', take_dc, take_dc', drop_L, drop_L', take_L, take_L', len_L, Nat.reduceLeDiff, Nat.reduceSub, Nat.reduceAdd, Nat.le_refl, List.length_cons, List.length_append, List.length_nil, dc_length, List.drop_nil, List.take_nil, List.append_nil, List.length_map, List.length_replicate, zD_length]))) ?_
      refine gnt ?_
      refine gc_region ?_
      refine gp zmv ?_
      refine gp zmv ?_
      refine gp (r_ldN rfl Ty.row_51 Ty.sz_51 (by repeat (first | exact Pick.here | apply Pick.there)) (seg_all hcl) hcl) ?_
      refine gl_call (wt0 rfl) (e_callv (us := []) rfl Ty.call_69 rfl) (by repeat (first | exact Sel.nil | (apply Sel.cons; · (repeat (first | exact Pick.here | apply Pick.there))))) (fun w1 F1 F2 h1 h2 hd hst => qc1_ok h1 (hE.mv hst.still) (hrd.mv hst.still) (put_bound wSigned_len (by omega) (by omega) hb)) ?_
      intro _
      refine gl_nil ?_
      refine gx_block_normal ?_
      refine gx_then ?_
      refine gc_region ?_
      refine gp (r_arith (op := .add) rfl rfl (wrap_i64 (by omega) (by omega))) ?_
      refine gp zmv ?_
      refine gl_nil ?_
      refine zrd (k + 1) ?_ ?_
      · show n - (k + 1) < n - k
        omega
      · rintro w' hw
        obtain ⟨F', hF', hst'⟩ := hw.sel (M := [WrR TE ea g _]) (by repeat (first | exact Sel.nil | (apply Sel.cons; · (repeat (first | exact Pick.here | apply Pick.there)))))
        refine ⟨F', stars_pure_mk (show k + 1 ≤ n by omega) ?_, hst'⟩
        rw [foldl_take_succ _ _ _ hly]
        exact hF'
    · have hk' : k = l.length := by (try simp only at hc31); omega
      subst hk'
      refine gc_exit ?_
      refine gx_then_exit ?_
      refine gx_round_exit ?_
      refine gx_block_hit ?_
      refine gx_ret0' rfl ?_
      rw [List.take_length]
      exact ze ()


theorem putSigneds_ok {w : World} {F : Nat → Prop} {g TE : Nat} {ea : Nat → Addr} {s : WS} {n c : Nat} {a : Option Addr} {l : List Signed} {most : Nat} (h : stars [WrR TE ea g s] w F) {es : List Nat} [Has es 1] (hE : GErr es w (fun k => ¬ F k) TE ea) (hl : RdList (RdSigned w (fun k => ¬ F k)) w (fun k => ¬ F k) 4 a n l) (hm : most ≤ 255) (hb : s.bs.length + (1 + most * 1172) ≤ 1099511627776) :
    Calls Tryd.prog 68 #[.pointer (some ⟨g, 0, none⟩), .slice a n c, .int .i64 (most : Int), .func (.func 69) #[] #[]] w (Post w F (fun _ : Unit => .tuple #[]) (fun _ => [WrR TE ea g (wPut (wSigned) l most s)])) := by
  have hnl := hl.len (by decide)
  unfold wPut
  by_cases hn : most < n
  · rw [if_pos (.inl (by omega))]; exact putSigneds_big h hE hl hm hn
  · rw [if_neg (by omega)]; exact putSigneds_fit h hE hl hm (by omega) hb





set_option maxHeartbeats 400000 in
theorem block2_ok {w : World} {F : Nat → Prop} {g TE : Nat} {ea : Nat → Addr} {s : WS} {cs : List Value} {x : Vdr} (h : stars [WrR TE ea g s] w F) {es : List Nat} [Has es 1] (hE : GErr es w (fun k => ¬ F k) TE ea) (hx : RdVdr cs x) (hb : s.bs.length + 22 ≤ 1099511627776) :
    Calls Tryd.prog 62 #[.pointer (some ⟨g, 0, none⟩), .agg cs.toArray] w (Post w F (fun _ : Unit => .tuple #[]) (fun _ => [WrR TE ea g (wVdr x s)])) := by
  unfold RdVdr at hx
  subst hx
  refine g_enter (env := [(0, .pointer (some ⟨g, 0, none⟩)), (1, .agg (List.toArray (dc x.key ++ [.int .i64 x.power])))]) Tryd.func62 rfl h Tryd.ntmps62 rfl rfl ?_
  refine gsr ?_
  refine zbN fun b3 => ?_
  refine gnt ?_
  refine gsr ?_
  refine gp zmv ?_
  refine gp zfa ?_
  refine gp zL ?_
  refine zc (fun _ => ?_) (c := fun w1 F1 F2 h1 h2 hd hst => putDigest_ok h1 (hE.mv hst.still) (by omega))
  refine gnt ?_
  refine gc_region ?_
  refine gp zmv ?_
  refine gp zfa ?_
  refine gp zl ?_
  refine zc (fun _ => ?_) (c := fun w1 F1 F2 h1 h2 hd hst => number_ok (wd := 6) h1 (hE.mv hst.still) (by decide) (by decide) (by have e0 := wDig_len x.key s; omega))
  refine gl_nil ?_
  refine gx_ret0' rfl ?_
  exact ze ()

set_option maxHeartbeats 400000 in
theorem putVdrs_big {w : World} {F : Nat → Prop} {g TE : Nat} {ea : Nat → Addr} {s : WS} {n c : Nat} {a : Option Addr} {l : List Vdr} {most : Nat} (h : stars [WrR TE ea g s] w F) {es : List Nat} [Has es 1] (hE : GErr es w (fun k => ¬ F k) TE ea) (hl : RdList (RdVdr) w (fun k => ¬ F k) 17 a n l) (hm : most ≤ 255) (hn : most < n) :
    Calls Tryd.prog 61 #[.pointer (some ⟨g, 0, none⟩), .slice a n c, .int .i64 (most : Int), .func (.func 62) #[] #[]] w (Post w F (fun _ : Unit => .tuple #[]) (fun _ => [WrR TE ea g (wFail 1 s)])) := by
  obtain ⟨a0, c0, h'⟩ := wr_open h
  refine g_enter (env := [(0, .pointer (some ⟨g, 0, none⟩)), (1, .slice a n c), (2, .int .i64 (most : Int)), (3, .func (.func 62) #[] #[])]) Tryd.func61 rfl h' Tryd.ntmps61 rfl rfl ?_
  refine gc_seq ?_
  refine gsr ?_
  refine gp zmv ?_
  refine gp zln ?_
  refine gp zmv ?_
  refine gp (r_bool (r_gtr rfl rfl) (decide_eq_true (by omega))) ?_
  refine gp zmv ?_
  refine gn ?_
  refine gn ?_
  refine gn ?_
  refine gp zpk ?_
  refine gnt ?_
  refine gc_condT rfl rfl ?_
  refine gc_seq ?_
  refine gc_regionT 4 (by kernel_rfl) (by kernel_rfl) ?_
  refine sp zmv ?_
  refine sp znc ?_
  refine sp zfa ?_
  refine sp (r_ld1o rfl Ty.row_41 (hE.c 1 Has.h) (hE.n 1 Has.h)) ?_
  refine gs_nil ?_
  refine zc (fun _ => ?_) (c := fun w1 F1 F2 h1 h2 hd hst => fail_ok h1)
  refine gnt ?_
  refine gc_ret ?_
  refine gx_then_ret ?_
  refine gx_ret0 rfl ?_
  exact fun w' hw => ⟨(), rfl, by rw [wFail]; by_cases he : s.err = 0 <;> simp only [he, if_true, if_false, ite_true, ite_false] at hw ⊢ <;> exact St.wr (hw.sel (by repeat (first | exact Sel.nil | (apply Sel.cons; · (repeat (first | exact Pick.here | apply Pick.there)))))) (by simp [he]) rfl rfl⟩

set_option maxHeartbeats 400000 in
theorem putVdrs_fit {w : World} {F : Nat → Prop} {g TE : Nat} {ea : Nat → Addr} {s : WS} {n c : Nat} {a : Option Addr} {l : List Vdr} {most : Nat} (h : stars [WrR TE ea g s] w F) {es : List Nat} [Has es 1] (hE : GErr es w (fun k => ¬ F k) TE ea) (hl : RdList (RdVdr) w (fun k => ¬ F k) 17 a n l) (hm : most ≤ 255) (hn : n ≤ most) (hb : s.bs.length + (1 + most * 22) ≤ 1099511627776) :
    Calls Tryd.prog 61 #[.pointer (some ⟨g, 0, none⟩), .slice a n c, .int .i64 (most : Int), .func (.func 62) #[] #[]] w (Post w F (fun _ : Unit => .tuple #[]) (fun _ => [WrR TE ea g (l.foldl (fun s x => wVdr x s) (wNum (l.length : Int) 1 s))])) := by
  have hnl := hl.len (by decide)
  refine g_enter (env := [(0, .pointer (some ⟨g, 0, none⟩)), (1, .slice a n c), (2, .int .i64 (most : Int)), (3, .func (.func 62) #[] #[])]) Tryd.func61 rfl h Tryd.ntmps61 rfl rfl ?_
  refine gc_seq ?_
  refine gsr ?_
  refine gp zmv ?_
  refine gp zln ?_
  refine gp zmv ?_
  refine gp (r_bool (r_gtr rfl rfl) (decide_eq_false (by omega))) ?_
  refine gp zmv ?_
  refine gq zmv ?_
  refine gq zln ?_
  refine gq (r_bool (r_gtr rfl rfl) (decide_eq_false (by omega))) ?_
  refine gp zpk ?_
  refine gnt ?_
  refine gc_condF rfl rfl ?_
  refine gc_skip ?_
  refine gx_then ?_
  refine gsr ?_
  refine gp zmv ?_
  refine gp zmv ?_
  refine gp zln ?_
  refine zc (fun _ => ?_) (c := fun w1 F1 F2 h1 h2 hd hst => number_ok (wd := 1) h1 (hE.mv hst.still) (by decide) (by decide) (by omega))
  refine gnt ?_
  refine gsr ?_
  refine gp zmv ?_
  refine gp zln ?_
  refine gp zmv ?_
  refine gnt ?_
  refine gc_block ?_
  refine gc_loop (α := Nat) (fun k => [pureR (k ≤ n), WrR TE ea g ((l.take k).foldl (fun s x => wVdr x s) (wNum (l.length : Int) 1 s))]) (fun k => [(30, .int .i64 (k : Int))]) [9, 31, 32, 33, 34, 35, 36, 37, 38] (fun k => n - k) 0 ?_ ?_ ?_
  · refine env_start (by kernel_rfl)
  · rintro w' hw
    obtain ⟨F', hF', hst'⟩ := hw.sel (M := [WrR TE ea g (wNum (n : Int) 1 s)]) (by repeat (first | exact Sel.nil | (apply Sel.cons; · (repeat (first | exact Pick.here | apply Pick.there)))))
    rw [hnl] at hF'
    exact ⟨F', stars_pure_mk (Nat.zero_le _) hF', hst'⟩
  · intro k u
    refine gc_pureR (fun hk => ?_)
    replace hk : k ≤ n := hk
    refine gsr ?_
    refine gp zlt ?_
    refine gnt ?_
    refine gc_seq ?_
    refine gif rfl (fun hc31 => ?_) (fun hc31 => ?_)
    · have hk' : k < n := by (try simp only at hc31); omega
      obtain ⟨ga, o, cs, y, ha, hA, hg, hra, hcl, hly, hrd⟩ := hl.elem (by decide) hk'
      subst ha
      refine gc_skip ?_
      refine gx_then ?_
      refine gc_seq ?_
      refine gc_block ?_
      refine gsr ?_
      refine gp (r_indexAddr_slice rfl rfl Ty.sl_31 Ty.sz_53 (by omega) (by omega)) ?_
      refine gp (r_ldNo rfl Ty.row_53 Ty.sz_53 hra hcl (by decide) hA) ?_
      refine zal fun b9 => ?_
      refine gl_storeN (wt0 rfl) rfl rfl Ty.sz_53 hcl (by repeat (first | exact Pick.here | apply Pick.there)) (by first | rfl | (simp only [List.drop_succ_cons, List.drop_zero, List.take_succ_cons, List.take_zero, List.cons_append, List.nil_append, List.append_assoc, drop_dc, drop_dc', take_dc, take_dc', drop_L, drop_L', take_L, take_L', len_L, Nat.reduceLeDiff, Nat.reduceSub, Nat.reduceAdd, Nat.le_refl, List.length_cons, List.length_append, List.length_nil, dc_length, List.drop_nil, List.take_nil, List.append_nil, List.length_map, List.length_replicate, zD_length]; first | done | omega)) (hrd.one) (updL_all (by rw [hcl]; first | rfl | (simp only [List.drop_succ_cons, List.drop_zero, List.take_succ_cons, List.take_zero, List.cons_append, List.nil_append, List.append_assoc, drop_dc, drop_dc', take_dc, take_dc', drop_L, drop_L', take_L, take_L', len_L, Nat.reduceLeDiff, Nat.reduceSub, Nat.reduceAdd, Nat.le_refl, List.length_cons, List.length_append, List.length_nil, dc_length, List.drop_nil, List.take_nil, List.append_nil, List.length_map, List.length_replicate, zD_length]))) ?_
      refine gnt ?_
      refine gc_region ?_
      refine gp zmv ?_
      refine gp zmv ?_
      refine gp (r_ldN rfl Ty.row_53 Ty.sz_53 (by repeat (first | exact Pick.here | apply Pick.there)) (seg_all hcl) hcl) ?_
      refine gl_call (wt0 rfl) (e_callv (us := []) rfl Ty.call_62 rfl) (by repeat (first | exact Sel.nil | (apply Sel.cons; · (repeat (first | exact Pick.here | apply Pick.there))))) (fun w1 F1 F2 h1 h2 hd hst => block2_ok h1 (hE.mv hst.still) hrd (put_bound wVdr_len (by omega) (by omega) hb)) ?_
      intro _
      refine gl_nil ?_
      refine gx_block_normal ?_
      refine gx_then ?_
      refine gc_region ?_
      refine gp (r_arith (op := .add) rfl rfl (wrap_i64 (by omega) (by omega))) ?_
      refine gp zmv ?_
      refine gl_nil ?_
      refine zrd (k + 1) ?_ ?_
      · show n - (k + 1) < n - k
        omega
      · rintro w' hw
        obtain ⟨F', hF', hst'⟩ := hw.sel (M := [WrR TE ea g _]) (by repeat (first | exact Sel.nil | (apply Sel.cons; · (repeat (first | exact Pick.here | apply Pick.there)))))
        refine ⟨F', stars_pure_mk (show k + 1 ≤ n by omega) ?_, hst'⟩
        rw [foldl_take_succ _ _ _ hly]
        exact hF'
    · have hk' : k = l.length := by (try simp only at hc31); omega
      subst hk'
      refine gc_exit ?_
      refine gx_then_exit ?_
      refine gx_round_exit ?_
      refine gx_block_hit ?_
      refine gx_ret0' rfl ?_
      rw [List.take_length]
      exact ze ()


theorem putVdrs_ok {w : World} {F : Nat → Prop} {g TE : Nat} {ea : Nat → Addr} {s : WS} {n c : Nat} {a : Option Addr} {l : List Vdr} {most : Nat} (h : stars [WrR TE ea g s] w F) {es : List Nat} [Has es 1] (hE : GErr es w (fun k => ¬ F k) TE ea) (hl : RdList (RdVdr) w (fun k => ¬ F k) 17 a n l) (hm : most ≤ 255) (hb : s.bs.length + (1 + most * 22) ≤ 1099511627776) :
    Calls Tryd.prog 61 #[.pointer (some ⟨g, 0, none⟩), .slice a n c, .int .i64 (most : Int), .func (.func 62) #[] #[]] w (Post w F (fun _ : Unit => .tuple #[]) (fun _ => [WrR TE ea g (wPut (wVdr) l most s)])) := by
  have hnl := hl.len (by decide)
  unfold wPut
  by_cases hn : most < n
  · rw [if_pos (.inl (by omega))]; exact putVdrs_big h hE hl hm hn
  · rw [if_neg (by omega)]; exact putVdrs_fit h hE hl hm (by omega) hb

set_option maxHeartbeats 400000 in
theorem block1_ok {w : World} {F : Nat → Prop} {g TE : Nat} {ea : Nat → Addr} {s : WS} {x : List UInt8} {a : Option Addr} {n c : Nat} (h : stars [WrR TE ea g s] w F) {es : List Nat} [Has es 1] (hE : GErr es w (fun k => ¬ F k) TE ea) (hx : RdRow w (fun k => ¬ F k) 1 a n (x.map B8)) (hb : s.bs.length + 18 ≤ 1099511627776) :
    Calls Tryd.prog 59 #[.pointer (some ⟨g, 0, none⟩), .slice a n c] w (Post w F (fun _ : Unit => .tuple #[]) (fun _ => [WrR TE ea g (wBytes x 16 s)])) := by
  refine g_enter (env := [(0, .pointer (some ⟨g, 0, none⟩)), (1, .slice a n c)]) Tryd.func59 rfl h Tryd.ntmps59 rfl rfl ?_
  refine gc_region ?_
  refine gp zmv ?_
  refine gp zmv ?_
  refine zc (fun _ => ?_) (c := fun w1 F1 F2 h1 h2 hd hst => wbytes_ok (most := 16) h1 (hE.mv hst.still) (hx.mv hst.still) (by decide) (by omega))
  refine gl_nil ?_
  refine gx_ret0' rfl ?_
  exact ze ()

set_option maxHeartbeats 400000 in
theorem putTxs_big {w : World} {F : Nat → Prop} {g TE : Nat} {ea : Nat → Addr} {s : WS} {n c : Nat} {a : Option Addr} {l : List (List UInt8)} {most : Nat} (h : stars [WrR TE ea g s] w F) {es : List Nat} [Has es 1] (hE : GErr es w (fun k => ¬ F k) TE ea) (hl : RdList (RdBytes w (fun k => ¬ F k)) w (fun k => ¬ F k) 1 a n l) (hm : most ≤ 255) (hn : most < n) :
    Calls Tryd.prog 58 #[.pointer (some ⟨g, 0, none⟩), .slice a n c, .int .i64 (most : Int), .func (.func 59) #[] #[]] w (Post w F (fun _ : Unit => .tuple #[]) (fun _ => [WrR TE ea g (wFail 1 s)])) := by
  obtain ⟨a0, c0, h'⟩ := wr_open h
  refine g_enter (env := [(0, .pointer (some ⟨g, 0, none⟩)), (1, .slice a n c), (2, .int .i64 (most : Int)), (3, .func (.func 59) #[] #[])]) Tryd.func58 rfl h' Tryd.ntmps58 rfl rfl ?_
  refine gc_seq ?_
  refine gsr ?_
  refine gp zmv ?_
  refine gp zln ?_
  refine gp zmv ?_
  refine gp (r_bool (r_gtr rfl rfl) (decide_eq_true (by omega))) ?_
  refine gp zmv ?_
  refine gn ?_
  refine gn ?_
  refine gn ?_
  refine gp zpk ?_
  refine gnt ?_
  refine gc_condT rfl rfl ?_
  refine gc_seq ?_
  refine gc_regionT 4 (by kernel_rfl) (by kernel_rfl) ?_
  refine sp zmv ?_
  refine sp znc ?_
  refine sp zfa ?_
  refine sp (r_ld1o rfl Ty.row_41 (hE.c 1 Has.h) (hE.n 1 Has.h)) ?_
  refine gs_nil ?_
  refine zc (fun _ => ?_) (c := fun w1 F1 F2 h1 h2 hd hst => fail_ok h1)
  refine gnt ?_
  refine gc_ret ?_
  refine gx_then_ret ?_
  refine gx_ret0 rfl ?_
  exact fun w' hw => ⟨(), rfl, by rw [wFail]; by_cases he : s.err = 0 <;> simp only [he, if_true, if_false, ite_true, ite_false] at hw ⊢ <;> exact St.wr (hw.sel (by repeat (first | exact Sel.nil | (apply Sel.cons; · (repeat (first | exact Pick.here | apply Pick.there)))))) (by simp [he]) rfl rfl⟩

set_option maxHeartbeats 400000 in
theorem putTxs_fit {w : World} {F : Nat → Prop} {g TE : Nat} {ea : Nat → Addr} {s : WS} {n c : Nat} {a : Option Addr} {l : List (List UInt8)} {most : Nat} (h : stars [WrR TE ea g s] w F) {es : List Nat} [Has es 1] (hE : GErr es w (fun k => ¬ F k) TE ea) (hl : RdList (RdBytes w (fun k => ¬ F k)) w (fun k => ¬ F k) 1 a n l) (hm : most ≤ 255) (hn : n ≤ most) (hb : s.bs.length + (1 + most * 18) ≤ 1099511627776) :
    Calls Tryd.prog 58 #[.pointer (some ⟨g, 0, none⟩), .slice a n c, .int .i64 (most : Int), .func (.func 59) #[] #[]] w (Post w F (fun _ : Unit => .tuple #[]) (fun _ => [WrR TE ea g (l.foldl (fun s x => (fun t => wBytes t 16) x s) (wNum (l.length : Int) 1 s))])) := by
  have hnl := hl.len (by decide)
  refine g_enter (env := [(0, .pointer (some ⟨g, 0, none⟩)), (1, .slice a n c), (2, .int .i64 (most : Int)), (3, .func (.func 59) #[] #[])]) Tryd.func58 rfl h Tryd.ntmps58 rfl rfl ?_
  refine gc_seq ?_
  refine gsr ?_
  refine gp zmv ?_
  refine gp zln ?_
  refine gp zmv ?_
  refine gp (r_bool (r_gtr rfl rfl) (decide_eq_false (by omega))) ?_
  refine gp zmv ?_
  refine gq zmv ?_
  refine gq zln ?_
  refine gq (r_bool (r_gtr rfl rfl) (decide_eq_false (by omega))) ?_
  refine gp zpk ?_
  refine gnt ?_
  refine gc_condF rfl rfl ?_
  refine gc_skip ?_
  refine gx_then ?_
  refine gsr ?_
  refine gp zmv ?_
  refine gp zmv ?_
  refine gp zln ?_
  refine zc (fun _ => ?_) (c := fun w1 F1 F2 h1 h2 hd hst => number_ok (wd := 1) h1 (hE.mv hst.still) (by decide) (by decide) (by omega))
  refine gnt ?_
  refine gsr ?_
  refine gp zmv ?_
  refine gp zln ?_
  refine gp zmv ?_
  refine gnt ?_
  refine gc_block ?_
  refine gc_loop (α := Nat) (fun k => [pureR (k ≤ n), WrR TE ea g ((l.take k).foldl (fun s x => (fun t => wBytes t 16) x s) (wNum (l.length : Int) 1 s))]) (fun k => [(30, .int .i64 (k : Int))]) [9, 31, 32, 33, 34, 35, 36, 37, 38] (fun k => n - k) 0 ?_ ?_ ?_
  · refine env_start (by kernel_rfl)
  · rintro w' hw
    obtain ⟨F', hF', hst'⟩ := hw.sel (M := [WrR TE ea g (wNum (n : Int) 1 s)]) (by repeat (first | exact Sel.nil | (apply Sel.cons; · (repeat (first | exact Pick.here | apply Pick.there)))))
    rw [hnl] at hF'
    exact ⟨F', stars_pure_mk (Nat.zero_le _) hF', hst'⟩
  · intro k u
    refine gc_pureR (fun hk => ?_)
    replace hk : k ≤ n := hk
    refine gsr ?_
    refine gp zlt ?_
    refine gnt ?_
    refine gc_seq ?_
    refine gif rfl (fun hc31 => ?_) (fun hc31 => ?_)
    · have hk' : k < n := by (try simp only at hc31); omega
      obtain ⟨ga, o, cs, y, ha, hA, hg, hra, hcl, hly, hrd⟩ := hl.elem (by decide) hk'
      subst ha
      obtain ⟨a', n', c', rfl, hn', hrb⟩ := hrd
      refine gc_skip ?_
      refine gx_then ?_
      refine gc_seq ?_
      refine gc_block ?_
      refine gsr ?_
      refine gp (r_indexAddr_slice rfl rfl Ty.sl_30 Ty.sz_54 (by omega) (by omega)) ?_
      refine gp (r_ld1o rfl Ty.row_54 (hra 0 _ rfl) hA) ?_
      refine gp zas ?_
      refine gnt ?_
      refine gc_region ?_
      refine gp zmv ?_
      refine gp zmv ?_
      refine gp zmv ?_
      refine gl_call (wt0 rfl) (e_callv (us := []) rfl Ty.call_59 rfl) (by repeat (first | exact Sel.nil | (apply Sel.cons; · (repeat (first | exact Pick.here | apply Pick.there))))) (fun w1 F1 F2 h1 h2 hd hst => block1_ok h1 (hE.mv hst.still) (hrb.mv hst.still) (put_bound (fun x s => wBytes_len x 16 s) (by omega) (by omega) hb)) ?_
      intro _
      refine gl_nil ?_
      refine gx_block_normal ?_
      refine gx_then ?_
      refine gc_region ?_
      refine gp (r_arith (op := .add) rfl rfl (wrap_i64 (by omega) (by omega))) ?_
      refine gp zmv ?_
      refine gl_nil ?_
      refine zrd (k + 1) ?_ ?_
      · show n - (k + 1) < n - k
        omega
      · rintro w' hw
        obtain ⟨F', hF', hst'⟩ := hw.sel (M := [WrR TE ea g _]) (by repeat (first | exact Sel.nil | (apply Sel.cons; · (repeat (first | exact Pick.here | apply Pick.there)))))
        refine ⟨F', stars_pure_mk (show k + 1 ≤ n by omega) ?_, hst'⟩
        rw [foldl_take_succ _ _ _ hly]
        exact hF'
    · have hk' : k = l.length := by (try simp only at hc31); omega
      subst hk'
      refine gc_exit ?_
      refine gx_then_exit ?_
      refine gx_round_exit ?_
      refine gx_block_hit ?_
      refine gx_ret0' rfl ?_
      rw [List.take_length]
      exact ze ()


theorem putTxs_ok {w : World} {F : Nat → Prop} {g TE : Nat} {ea : Nat → Addr} {s : WS} {n c : Nat} {a : Option Addr} {l : List (List UInt8)} {most : Nat} (h : stars [WrR TE ea g s] w F) {es : List Nat} [Has es 1] (hE : GErr es w (fun k => ¬ F k) TE ea) (hl : RdList (RdBytes w (fun k => ¬ F k)) w (fun k => ¬ F k) 1 a n l) (hm : most ≤ 255) (hb : s.bs.length + (1 + most * 18) ≤ 1099511627776) :
    Calls Tryd.prog 58 #[.pointer (some ⟨g, 0, none⟩), .slice a n c, .int .i64 (most : Int), .func (.func 59) #[] #[]] w (Post w F (fun _ : Unit => .tuple #[]) (fun _ => [WrR TE ea g (wPut ((fun t => wBytes t 16)) l most s)])) := by
  have hnl := hl.len (by decide)
  unfold wPut
  by_cases hn : most < n
  · rw [if_pos (.inl (by omega))]; exact putTxs_big h hE hl hm hn
  · rw [if_neg (by omega)]; exact putTxs_fit h hE hl hm (by omega) hb

set_option maxHeartbeats 400000 in
theorem qc_ok {w : World} {F : Nat → Prop} {g TE : Nat} {ea : Nat → Addr} {s : WS} {cs : List Value} {x : QC} (h : stars [WrR TE ea g s] w F) {es : List Nat} [Has es 1] (hE : GErr es w (fun k => ¬ F k) TE ea) (hx : RdQC w (fun k => ¬ F k) cs x) (hb : s.bs.length + 8231 ≤ 1099511627776) :
    Calls Tryd.prog 57 #[.agg (List.toArray [.pointer (some ⟨g, 0, none⟩)]), .agg cs.toArray] w (Post w F (fun _ : Unit => .tuple #[]) (fun _ => [WrR TE ea g (wQC x s)])) := by
  obtain ⟨a1, n1, c1, rfl, hk1, hd1⟩ := hx
  refine g_enter (env := [(0, .agg (List.toArray [.pointer (some ⟨g, 0, none⟩)])), (1, .agg (List.toArray (.int .i64 x.epoch :: .int .i64 x.round :: (dc x.block ++ [.slice a1 n1 c1]))))]) Tryd.func57 rfl h Tryd.ntmps57 rfl rfl ?_
  refine gsr ?_
  refine zbN fun b2 => ?_
  refine zbN fun b3 => ?_
  refine gnt ?_
  refine gsr ?_
  refine gp zL ?_
  refine gp zfa ?_
  refine gp zl ?_
  refine gp zfa ?_
  refine gp zl ?_
  refine zc (fun _ => ?_) (c := fun w1 F1 F2 h1 h2 hd hst => at_ok h1 (hE.mv hst.still) (by omega))
  refine gnt ?_
  refine gsr ?_
  refine gp zL ?_
  refine gp zfa ?_
  refine gp zL ?_
  refine zc (fun _ => ?_) (c := fun w1 F1 F2 h1 h2 hd hst => digest_ok h1 (hE.mv hst.still) (by have e0 := wAt_len x.epoch x.round s; omega))
  refine gnt ?_
  refine gc_region ?_
  refine gp zfa ?_
  refine gp zl ?_
  refine gp zfa ?_
  refine gp zl ?_
  refine zc (fun _ => ?_) (c := fun w1 F1 F2 h1 h2 hd hst => putSigneds_ok (most := 7) h1 (hE.mv hst.still) (RdList.mv hd1 hst.still fun _ _ h => h.mv hst.still) (by decide) (by have e0 := wAt_len x.epoch x.round s; have e1 := wDig_len x.block (wAt x.epoch x.round s); omega))
  refine gl_nil ?_
  refine gx_ret0' rfl ?_
  exact ze ()


set_option maxHeartbeats 400000 in
theorem block_ok {w : World} {F : Nat → Prop} {g TE : Nat} {ea : Nat → Addr} {s : WS} {cs : List Value} {x : Block} (h : stars [WrR TE ea g s] w F) {es : List Nat} [Has es 1] (hE : GErr es w (fun k => ¬ F k) TE ea) (hx : RdBlock w (fun k => ¬ F k) cs x) (hb : s.bs.length + 8485 ≤ 1099511627776) :
    Calls Tryd.prog 42 #[.agg (List.toArray [.pointer (some ⟨g, 0, none⟩)]), .agg cs.toArray] w (Post w F (fun _ : Unit => .tuple #[]) (fun _ => [WrR TE ea g (wBlock x s)])) := by
  obtain ⟨q, a1, n1, c1, a2, n2, c2, rfl, hq, hk1, hd1, hk2, hd2⟩ := hx
  have hl := hq.len
  have z_hl := Len.of hl
  refine g_enter (env := [(0, .agg (List.toArray [.pointer (some ⟨g, 0, none⟩)])), (1, .agg (List.toArray (.int .i64 x.epoch :: .int .i64 x.round :: (dc x.parent ++ (q ++ [.slice a1 n1 c1, .slice a2 n2 c2])))))]) Tryd.func42 rfl h Tryd.ntmps42 rfl rfl ?_
  refine gsr ?_
  refine zbN fun b2 => ?_
  refine zbN fun b3 => ?_
  refine gnt ?_
  refine gsr ?_
  refine gp zL ?_
  refine gp zfa ?_
  refine gp zl ?_
  refine gp zfa ?_
  refine gp zl ?_
  refine zc (fun _ => ?_) (c := fun w1 F1 F2 h1 h2 hd hst => at_ok h1 (hE.mv hst.still) (by omega))
  refine gnt ?_
  refine gsr ?_
  refine gp zL ?_
  refine gp zfa ?_
  refine gp zL ?_
  refine zc (fun _ => ?_) (c := fun w1 F1 F2 h1 h2 hd hst => digest_ok h1 (hE.mv hst.still) (by have e0 := wAt_len x.epoch x.round s; omega))
  refine gnt ?_
  refine gsr ?_
  refine gp zL ?_
  refine gp zfa ?_
  refine gp zL ?_
  refine zc (fun _ => ?_) (c := fun w1 F1 F2 h1 h2 hd hst => qc_ok h1 (hE.mv hst.still) (hq.mv hst.still) (by have e0 := wAt_len x.epoch x.round s; have e1 := wDig_len x.parent (wAt x.epoch x.round s); omega))
  refine gnt ?_
  refine gsr ?_
  refine gp zfa ?_
  refine gp zl ?_
  refine gp zfa ?_
  refine gp zl ?_
  refine zc (fun _ => ?_) (c := fun w1 F1 F2 h1 h2 hd hst => putTxs_ok (most := 4) h1 (hE.mv hst.still) (RdList.mv hd1 hst.still fun _ _ h => h.mv hst.still) (by decide) (by have e0 := wAt_len x.epoch x.round s; have e1 := wDig_len x.parent (wAt x.epoch x.round s); have e2 := wQC_len x.justify (wDig x.parent (wAt x.epoch x.round s)); omega))
  refine gnt ?_
  refine gc_region ?_
  refine gp zfa ?_
  refine gp zl ?_
  refine gp zfa ?_
  refine gp zl ?_
  refine zc (fun _ => ?_) (c := fun w1 F1 F2 h1 h2 hd hst => putVdrs_ok (most := 7) h1 (hE.mv hst.still) (RdList.mv hd2 hst.still fun _ _ h => h) (by decide) (by have e0 := wAt_len x.epoch x.round s; have e1 := wDig_len x.parent (wAt x.epoch x.round s); have e2 := wQC_len x.justify (wDig x.parent (wAt x.epoch x.round s)); have e3 := wPut_len (wX := fun t => wBytes t 16) (c := 18) (fun x s => wBytes_len x 16 s) x.payload 4 (wQC x.justify (wDig x.parent (wAt x.epoch x.round s))); omega))
  refine gl_nil ?_
  refine gx_ret0' rfl ?_
  exact ze ()

end Go.Proofs.YtobjojeliibinaaDoor

/- Walks, by program (wg.py) out of a spec. -/
namespace Go.Proofs.YtobjojeliibinaaDoor
open Go
set_option linter.unusedVariables false
set_option linter.unusedSimpArgs false


def wOut (s : WS) : List UInt8 := if s.err = 0 then s.bs else []
theorem wr_new {w0 w : World} {F0 : Nat → Prop} {TE : TypeId} {ea : Nat → Addr} {g : Nat}
    (h : St w0 F0 [blk g 134 [.nilIface, .slice none 0 0]] w) : St w0 F0 [WrR TE ea g ⟨0, []⟩] w := by
  obtain ⟨F, hF, hst⟩ := h
  have h1 : St w0 F0 [rowR 5 1 none 0 0 [], blk g 134 [.nilIface, .slice none 0 0]] w := ⟨F, stars_row_nil hF, hst⟩
  obtain ⟨F', hF', hst'⟩ := h1.sel (M := [blk g 134 [.nilIface, .slice none 0 0], rowR 5 1 none 0 0 []]) (by repeat (first | exact Sel.nil | (apply Sel.cons; · (repeat (first | exact Pick.here | apply Pick.there)))))
  refine ⟨F', wr_shut (k := 0) (m := 0) (c := 0) (a := none) (xs := []) ?_ rfl rfl rfl, hst'⟩
  rw [eV_zero]; exact hF'
theorem St.rowNil {w0 w : World} {F0 : Nat → Prop} {e size : Nat} {L : List Res} (h : St w0 F0 L w) : St w0 F0 (rowR e size none 0 0 [] :: L) w := by
  obtain ⟨F, hF, hst⟩ := h; exact ⟨F, stars_row_nil hF, hst⟩
theorem RdRow.none {w : World} {A : Nat → Prop} {size n : Nat} {xs : List Value} (h : RdRow w A size none n xs) : n = 0 ∧ xs = [] := by
  have h0 : n = 0 := by
    rcases Nat.eq_zero_or_pos n with h0 | h0
    · exact h0
    · obtain ⟨_, _, ha, _⟩ := h.2.2 h0; cases ha
  subst h0
  exact ⟨rfl, List.length_eq_zero_iff.1 (by simpa using h.1)⟩

attribute [local irreducible] Gl Gc Gx Gs Runs Wt

set_option maxHeartbeats 400000 in
theorem newwriter_ok {w : World} {F : Nat → Prop} {TE : Nat} {ea : Nat → Addr} (h : stars [] w F) :
    Calls Tryd.prog 53 #[] w (Post w F (fun g : Nat => .pointer (some ⟨g, 0, none⟩)) (fun g => [WrR TE ea g ⟨0, []⟩])) := by
  refine g_enter (env := []) Tryd.func53 rfl h Tryd.ntmps53 rfl rfl ?_
  refine gsr ?_
  refine gp zas ?_
  refine gnt ?_
  refine gsr ?_
  refine gp zbu ?_
  refine zbN fun b2 => ?_
  refine gp zas ?_
  refine gnt ?_
  refine gc_ret ?_
  refine gx_ret1 rfl (by conv => lhs; whnf) ?_
  exact fun w' hw => ⟨b2, rfl, wr_new (hw.sel (by repeat (first | exact Sel.nil | (apply Sel.cons; · (repeat (first | exact Pick.here | apply Pick.there))))))⟩

set_option maxHeartbeats 400000 in
theorem cloneBytes_ok {w : World} {F : Nat → Prop} {n c : Nat} {a : Option Addr} {xs : List Value} (h : stars [] w F) (hx : RdRow w (fun k => ¬ F k) 1 a n xs) (h1 : ∀ u ∈ xs, u.oneCell' = true) (hb : n ≤ 1099511627776) :
    Calls Tryd.prog 47 #[.slice a n c] w (Post w F (fun r : Option Addr × Nat => .slice r.1 n r.2) (fun r => [rowR 5 1 r.1 n r.2 xs])) := by
  refine g_enter (env := [(0, .slice a n c)]) Tryd.func47 rfl h Tryd.ntmps47 rfl rfl ?_
  refine gsr ?_
  refine gp zas ?_
  refine gnt ?_
  refine gc_seq ?_
  refine gsr ?_
  refine gp zmv ?_
  refine gp zen ?_
  refine gnt ?_
  refine gif rfl (fun hc4 => ?_) (fun hc4 => ?_)
  · refine gsr ?_
    refine gp zas ?_
    refine gnt ?_
    refine gc_ret ?_
    refine gx_then_ret ?_
    refine gx_ret1 rfl (by conv => lhs; whnf) ?_
    have ha : a = none := by cases a <;> simp_all
    subst ha
    obtain ⟨rfl, rfl⟩ := hx.none
    exact fun w' hw => ⟨(none, 0), rfl, hw.rowNil.sel (by repeat (first | exact Sel.nil | (apply Sel.cons; · (repeat (first | exact Pick.here | apply Pick.there)))))⟩
  · refine gc_skip ?_
    refine gx_then ?_
    refine gsr ?_
    refine ze0 fun b5 => ?_
    refine gp zmv ?_
    refine gl_append (wt0 rfl) rfl rfl (by repeat (first | exact Pick.here | apply Pick.there)) Ty.el_54 (fun w' hw => hw.rdOld hx) h1 (by simp only [maxLen]; omega) (by omega) ?_
    intro a1 c1
    refine gp zas ?_
    refine gnt ?_
    refine gc_ret ?_
    refine gx_ret1 rfl (by conv => lhs; whnf) ?_
    rw [Nat.zero_add]
    exact fun w' hw => ⟨(a1, c1), rfl, hw.sel (by repeat (first | exact Sel.nil | (apply Sel.cons; · (repeat (first | exact Pick.here | apply Pick.there)))))⟩

set_option maxHeartbeats 400000 in
theorem done_ok {w : World} {F : Nat → Prop} {g TE : Nat} {ea : Nat → Addr} {s : WS} (h : stars [WrR TE ea g s] w F) (hb : s.bs.length ≤ 1099511627776) :
    Calls Tryd.prog 54 #[.pointer (some ⟨g, 0, none⟩)] w (Post w F (fun r : Option Addr × Nat => .tuple #[.slice r.1 (wOut (s)).length r.2, eV TE ea (s).err]) (fun r => [rowR 5 1 r.1 (wOut (s)).length r.2 ((wOut (s)).map B8)])) := by
  obtain ⟨a0, c0, h'⟩ := wr_open h
  refine g_enter (env := [(0, .pointer (some ⟨g, 0, none⟩))]) Tryd.func54 rfl h' Tryd.ntmps54 rfl rfl ?_
  refine gsr ?_
  refine gp zas ?_
  refine gp zas ?_
  refine gnt ?_
  refine gc_seq ?_
  refine gsr ?_
  refine gp zmv ?_
  refine gp znc ?_
  refine gp zfa ?_
  refine gp zfa ?_
  refine gp zl ?_
  refine gp (r_nenil rfl (by kernel_rfl)) ?_
  refine gnt ?_
  refine gif rfl (fun hc9 => ?_) (fun hc9 => ?_)
  · refine gc_seq ?_
    refine gc_regionS (by kernel_rfl) (by kernel_rfl) ?_
    refine sp zmv ?_
    refine sp znc ?_
    refine sp zfa ?_
    refine sp zfa ?_
    refine sp zl ?_
    refine sp zas ?_
    refine sp zas ?_
    refine gs_nil ?_
    refine gx_then ?_
    refine gc_ret ?_
    refine gx_then_ret ?_
    refine gx_ret2 rfl (by conv => lhs; whnf) (by conv => lhs; whnf) ?_
    exact fun w' hw => ⟨(none, 0), by simp [wOut, hc9], by simpa [wOut, hc9] using hw.rowNil.sel (by repeat (first | exact Sel.nil | (apply Sel.cons; · (repeat (first | exact Pick.here | apply Pick.there)))))⟩
  · refine gc_skip ?_
    refine gx_then ?_
    refine gsr ?_
    refine gp zmv ?_
    refine gp znc ?_
    refine gp zfa ?_
    refine gp zl ?_
    refine zc (fun r19 => ?_) (c := fun w1 F1 F2 h1 h2 hd hst => cloneBytes_ok (xs := s.bs.map B8) h1 (rd_row h2 hd (by repeat (first | exact Pick.here | apply Pick.there))) (one_B8 _) (by omega))
    refine gp zas ?_
    refine gp zas ?_
    refine gnt ?_
    refine gc_ret ?_
    refine gx_ret2 rfl (by conv => lhs; whnf) (by conv => lhs; whnf) ?_
    have e : wOut s = s.bs := by simp [wOut, hc9]
    rw [e]
    exact fun w' hw => ⟨r19, by rw [hc9, eV_zero], hw.sel (by repeat (first | exact Sel.nil | (apply Sel.cons; · (repeat (first | exact Pick.here | apply Pick.there)))))⟩

set_option maxHeartbeats 400000 in
theorem written_ok {w : World} {F : Nat → Prop} {b T k TE : Nat} {ea : Nat → Addr} {cs : List Value} {fw : WS → WS} (h : stars [blk b T cs] w F) (hok : okCall Tryd.prog k = true) (hk : ∀ g w1 F1, stars [WrR TE ea g ⟨0, []⟩, blk b T cs] w1 F1 → Still w (fun k => ¬ F k) w1 (fun k => ¬ F1 k) → Calls Tryd.prog k #[.agg (List.toArray [.pointer (some ⟨g, 0, none⟩)]), .pointer (some ⟨b, 0, none⟩)] w1 (Post w1 F1 (fun _ : Unit => .tuple #[]) (fun _ => [WrR TE ea g (fw ⟨0, []⟩), blk b T cs]))) (hb : (fw ⟨0, []⟩).bs.length ≤ 1099511627776) :
    Calls Tryd.prog 40 #[.func (.func k) #[] (List.toArray [.pointer (some ⟨b, 0, none⟩)])] w (Post w F (fun r : Option Addr × Nat => .tuple #[.slice r.1 (wOut (fw ⟨0, []⟩)).length r.2, eV TE ea (fw ⟨0, []⟩).err]) (fun r => [rowR 5 1 r.1 (wOut (fw ⟨0, []⟩)).length r.2 ((wOut (fw ⟨0, []⟩)).map B8)])) := by
  refine g_enter (env := [(0, .func (.func k) #[] (List.toArray [.pointer (some ⟨b, 0, none⟩)]))]) Tryd.func40 rfl h Tryd.ntmps40 rfl rfl ?_
  refine gsr ?_
  refine gp zas ?_
  refine gp zas ?_
  refine gnt ?_
  refine gsr ?_
  refine zc (fun g => ?_) (c := fun w1 F1 F2 h1 h2 hd hst => newwriter_ok (TE := TE) (ea := ea) h1)
  refine gp zbu ?_
  refine zal fun b4 => ?_
  refine zsN ?_
  refine gnt ?_
  refine gsr ?_
  refine gp zmv ?_
  refine gp zL ?_
  refine gl_call (wt0 rfl) (e_callv (us := [.pointer (some ⟨b, 0, none⟩)]) rfl hok rfl) (by repeat (first | exact Sel.nil | (apply Sel.cons; · (repeat (first | exact Pick.here | apply Pick.there))))) (fun w1 F1 F2 h1 h2 hd hst => hk _ _ _ h1 hst.still) ?_
  intro _
  refine gnt ?_
  refine gsr ?_
  refine gp zfa ?_
  refine gp zl ?_
  refine zc (fun r12 => ?_) (c := fun w1 F1 F2 h1 h2 hd hst => done_ok h1 hb)
  refine gp zex ?_
  refine gp zex ?_
  refine gp zas ?_
  refine gp zas ?_
  refine gnt ?_
  refine gc_ret ?_
  refine gx_ret2 rfl (by conv => lhs; whnf) (by conv => lhs; whnf) ?_
  exact ze r12

set_option maxHeartbeats 400000 in
theorem bytes1_ok {w : World} {F : Nat → Prop} {g TE : Nat} {ea : Nat → Addr} {s : WS} {b : Nat} {cs : List Value} {x : Block} (h : stars [WrR TE ea g s, blk b 33 cs] w F) {es : List Nat} [Has es 1] (hE : GErr es w (fun k => ¬ F k) TE ea) (hx : RdBlock w (fun k => ¬ F k) cs x) (hb : s.bs.length + 8485 ≤ 1099511627776) :
    Calls Tryd.prog 41 #[.agg (List.toArray [.pointer (some ⟨g, 0, none⟩)]), .pointer (some ⟨b, 0, none⟩)] w (Post w F (fun _ : Unit => .tuple #[]) (fun _ => [WrR TE ea g (wBlock x s), blk b 33 cs])) := by
  have hl := hx.len
  refine g_enter (env := [(0, .agg (List.toArray [.pointer (some ⟨g, 0, none⟩)])), (1, .pointer (some ⟨b, 0, none⟩))]) Tryd.func41 rfl h Tryd.ntmps41 rfl rfl ?_
  refine gsr ?_
  refine zbN fun b2 => ?_
  refine gnt ?_
  refine gc_region ?_
  refine gp zL ?_
  refine gp (r_ldN rfl Ty.row_33 Ty.sz_33 (by repeat (first | exact Pick.here | apply Pick.there)) (seg_all hl) hl) ?_
  refine zc (fun _ => ?_) (c := fun w1 F1 F2 h1 h2 hd hst => block_ok h1 (hE.mv hst.still) (hx.mv hst.still) hb)
  refine gl_nil ?_
  refine gx_ret0' rfl ?_
  exact ze ()

set_option maxHeartbeats 400000 in
theorem bytes_ok {w : World} {F : Nat → Prop} {TE : Nat} {ea : Nat → Addr} {cs : List Value} {x : Block} (h : stars [] w F) {es : List Nat} [Has es 1] (hE : GErr es w (fun k => ¬ F k) TE ea) (hx : RdBlock w (fun k => ¬ F k) cs x) :
    Calls Tryd.prog 23 #[.agg cs.toArray] w (Post w F (fun r : Option Addr × Nat => .tuple #[.slice r.1 (wOut (wBlock x ⟨0, []⟩)).length r.2, eV TE ea (wBlock x ⟨0, []⟩).err]) (fun r => [rowR 5 1 r.1 (wOut (wBlock x ⟨0, []⟩)).length r.2 ((wOut (wBlock x ⟨0, []⟩)).map B8)])) := by
  refine g_enter (env := [(0, .agg cs.toArray)]) Tryd.func23 rfl h Tryd.ntmps23 rfl rfl ?_
  refine gsr ?_
  refine zbN fun b1 => ?_
  refine gp zas ?_
  refine gp zas ?_
  refine gnt ?_
  refine gsr ?_
  refine gp zmf ?_
  refine zc (fun r5 => ?_) (c := fun w1 F1 F2 h1 h2 hd hst => written_ok (fw := wBlock x) h1 Ty.call_41 (fun g w2 F3 h2 hs2 => bytes1_ok h2 ((hE.mv hst.still).mv hs2) ((hx.mv hst.still).mv hs2) (by simp)) (by have e0 := wBlock_len x ⟨0, []⟩; simp at e0 ⊢; omega))
  refine gp zex ?_
  refine gp zex ?_
  refine gp zas ?_
  refine gp zas ?_
  refine gnt ?_
  refine gc_ret ?_
  refine gx_ret2 rfl (by conv => lhs; whnf) (by conv => lhs; whnf) ?_
  exact ze r5

end Go.Proofs.YtobjojeliibinaaDoor

/- Walks, by program (wg.py) out of a spec. -/
namespace Go.Proofs.YtobjojeliibinaaDoor
open Go
set_option linter.unusedVariables false
set_option linter.unusedSimpArgs false

attribute [local irreducible] Gl Gc Gx Gs Runs Wt









end Go.Proofs.YtobjojeliibinaaDoor

/- Walks, by program (wg.py) out of a spec. -/
namespace Go.Proofs.YtobjojeliibinaaDoor
open Go
set_option linter.unusedVariables false
set_option linter.unusedSimpArgs false


theorem V8.add_get (x y : V8) (k : Nat) : (x.add y).get k = x.get k + y.get k := by
  unfold V8.get V8.add; split <;> rfl
theorem v8c_length (v : V8) : (v8c v).length = 8 := rfl
instance {v : V8} : Len (v8c v) 8 := ⟨v8c_length v⟩
theorem v8c_one (v : V8) : ∀ u ∈ v8c v, u.oneCell' = true := fun u hu => fnc_one (V := W32) (m := 8) (f := v.get) (fun _ => rfl) u hu

attribute [local irreducible] Gl Gc Gx Gs Runs Wt

set_option maxHeartbeats 400000 in
theorem take_ok {w : World} {F : Nat → Prop} {g T : Nat} {v : V8} {tl : List Value} (h : stars [blk g T (v8c v ++ tl)] w F) (hK : KR w (fun k => ¬ F k)) {b : List UInt8} {a : Option Addr} {c : Nat} (hx : RdRow w (fun k => ¬ F k) 1 a 64 (b.map B8))  :
    Calls Tryd.prog 66 #[.pointer (some ⟨g, 0, none⟩), .slice a 64 c] w (Post w F (fun _ : Unit => .tuple #[]) (fun _ => [blk g T (v8c (take64 Kc v b) ++ tl)])) := by
  refine g_enter (env := [(0, .pointer (some ⟨g, 0, none⟩)), (1, .slice a 64 c)]) Tryd.func66 rfl h Tryd.ntmps66 rfl rfl ?_
  refine gsr ?_
  refine gp zmv ?_
  refine zc (fun _ => ?_) (c := fun w1 F1 F2 h1 h2 hd hst => schedule_ok h1 (hx.mv hst.still))
  refine zal fun b4 => ?_
  refine gl_storeN (wt0 rfl) rfl rfl Ty.sz_140 fnc_length (by repeat (first | exact Pick.here | apply Pick.there)) (by simp) (fnc_one fun _ => rfl) (updL_all (by simp [fnc_length])) ?_
  refine gnt ?_
  refine gc_seq ?_
  refine gc_regionS (by kernel_rfl) (by kernel_rfl) ?_
  refine sp zmv ?_
  refine sp znc ?_
  refine sp (r_indexAddr_arr rfl rfl Ty.arr_126 Ty.sz_124 (by decide) (by decide)) ?_
  refine sp zl ?_
  refine sp zmv ?_
  refine sp znc ?_
  refine sp (r_indexAddr_arr rfl rfl Ty.arr_126 Ty.sz_124 (by decide) (by decide)) ?_
  refine sp zl ?_
  refine sp zmv ?_
  refine sp znc ?_
  refine sp (r_indexAddr_arr rfl rfl Ty.arr_126 Ty.sz_124 (by decide) (by decide)) ?_
  refine sp zl ?_
  refine sp zmv ?_
  refine sp znc ?_
  refine sp (r_indexAddr_arr rfl rfl Ty.arr_126 Ty.sz_124 (by decide) (by decide)) ?_
  refine sp zl ?_
  refine sp zas ?_
  refine sp zas ?_
  refine sp zas ?_
  refine sp zas ?_
  refine gs_nil ?_
  refine gx_then ?_
  refine gc_seq ?_
  refine gc_regionS (by kernel_rfl) (by kernel_rfl) ?_
  refine sp zmv ?_
  refine sp znc ?_
  refine sp (r_indexAddr_arr rfl rfl Ty.arr_126 Ty.sz_124 (by decide) (by decide)) ?_
  refine sp zl ?_
  refine sp zmv ?_
  refine sp znc ?_
  refine sp (r_indexAddr_arr rfl rfl Ty.arr_126 Ty.sz_124 (by decide) (by decide)) ?_
  refine sp zl ?_
  refine sp zmv ?_
  refine sp znc ?_
  refine sp (r_indexAddr_arr rfl rfl Ty.arr_126 Ty.sz_124 (by decide) (by decide)) ?_
  refine sp zl ?_
  refine sp zmv ?_
  refine sp znc ?_
  refine sp (r_indexAddr_arr rfl rfl Ty.arr_126 Ty.sz_124 (by decide) (by decide)) ?_
  refine sp zl ?_
  refine sp zas ?_
  refine sp zas ?_
  refine sp zas ?_
  refine sp zas ?_
  refine gs_nil ?_
  refine gx_then ?_
  refine gc_seq ?_
  refine gsr ?_
  refine gp zmv ?_
  refine gnt ?_
  refine gc_block ?_
  refine gc_loop (α := Nat) (fun k => [pureR (k ≤ 64), blk b4 140 (fnc W32 64 (sch b)), blk g T (v8c v ++ tl)]) (fun k => [(54, .int .i64 (k : Int)), (5, W32 (rnds Kc (sch b) v k).a), (9, W32 (rnds Kc (sch b) v k).b), (6, W32 (rnds Kc (sch b) v k).c), (10, W32 (rnds Kc (sch b) v k).d), (7, W32 (rnds Kc (sch b) v k).e), (11, W32 (rnds Kc (sch b) v k).f), (8, W32 (rnds Kc (sch b) v k).g), (12, W32 (rnds Kc (sch b) v k).h)]) [13, 14, 15, 16, 17, 55, 56, 57, 58, 59, 60, 61, 62, 63, 64, 65, 66, 67, 68, 69, 70, 71, 72, 73, 74, 75, 76, 77, 78, 79, 80, 81, 82, 83, 84, 85, 86, 87, 88, 89, 90, 91, 92, 93, 94, 95, 96, 97, 98, 99, 100, 101, 102, 103, 104, 105, 106, 107, 108, 109, 110, 111, 112, 113, 114, 115, 116, 117, 118] (fun k => 64 - k) 0 ?_ ?_ ?_
  · refine env_start (by kernel_rfl)
  · rintro w' hw
    obtain ⟨F', hF', hst'⟩ := hw.sel (M := [blk b4 140 _, blk g T _]) (by repeat (first | exact Sel.nil | (apply Sel.cons; · (repeat (first | exact Pick.here | apply Pick.there)))))
    exact ⟨F', stars_pure_mk (Nat.zero_le _) hF', hst'⟩
  · intro k u
    refine gc_pureR (fun hk => ?_)
    replace hk : k ≤ 64 := hk
    refine gsr ?_
    refine gp zlt ?_
    refine gnt ?_
    refine gc_seq ?_
    refine gif rfl (fun hc55 => ?_) (fun hc55 => ?_)
    · have hk' : k < 64 := by (try simp only at hc55); omega
      refine gc_skip ?_
      refine gx_then ?_
      refine gc_seq ?_
      refine gc_block ?_
      refine gsr ?_
      refine gp zmv ?_
      refine gp zas ?_
      refine gnt ?_
      refine gsr ?_
      refine gp zmv ?_
      refine zc (fun _ => ?_) (c := fun w1 F1 F2 h1 h2 hd hst => rot_ok (n := 6) h1 (by decide) (by decide))
      refine gp zmv ?_
      refine zc (fun _ => ?_) (c := fun w1 F1 F2 h1 h2 hd hst => rot_ok (n := 11) h1 (by decide) (by decide))
      refine gp zwx ?_
      refine gp zmv ?_
      refine zc (fun _ => ?_) (c := fun w1 F1 F2 h1 h2 hd hst => rot_ok (n := 25) h1 (by decide) (by decide))
      refine gp zwx ?_
      refine gp zas ?_
      refine gnt ?_
      refine gc_seq ?_
      refine gc_regionS (by kernel_rfl) (by kernel_rfl) ?_
      refine sp zmv ?_
      refine sp zmv ?_
      refine sp zwa ?_
      refine sp zmv ?_
      refine sp zmv ?_
      refine sp zwn ?_
      refine sp zmv ?_
      refine sp zwc ?_
      refine sp zmv ?_
      refine sp zwn ?_
      refine sp zwx ?_
      refine sp zwa ?_
      refine sp zmv ?_
      refine sp (r_indexAddr_arr rfl rfl Ty.arr_140 Ty.sz_124 (by omega) (by omega)) ?_
      refine sp (r_ld1o rfl Ty.row_124 (hK.at (i := k) (by omega) hk') hK.n) ?_
      refine sp zwa ?_
      refine sp zmv ?_
      refine sp (r_indexAddr_arr rfl rfl Ty.arr_140 Ty.sz_124 (by omega) (by omega)) ?_
      refine sp (r_ld1 (v := W32 (sch b k)) rfl Ty.row_124 (by repeat (first | exact Pick.here | apply Pick.there)) (by rw [show 0 + (k : Int).toNat * 1 = k by omega]; exact fnc_get hk')) ?_
      refine sp zwa ?_
      refine sp zas ?_
      refine gs_nil ?_
      refine gx_then ?_
      refine gsr ?_
      refine gp zmv ?_
      refine zc (fun _ => ?_) (c := fun w1 F1 F2 h1 h2 hd hst => rot_ok (n := 2) h1 (by decide) (by decide))
      refine gp zmv ?_
      refine zc (fun _ => ?_) (c := fun w1 F1 F2 h1 h2 hd hst => rot_ok (n := 13) h1 (by decide) (by decide))
      refine gp zwx ?_
      refine gp zmv ?_
      refine zc (fun _ => ?_) (c := fun w1 F1 F2 h1 h2 hd hst => rot_ok (n := 22) h1 (by decide) (by decide))
      refine gp zwx ?_
      refine gp zas ?_
      refine gnt ?_
      refine gsr ?_
      refine gp zmv ?_
      refine gp zmv ?_
      refine gp zmv ?_
      refine gp zwn ?_
      refine gp zmv ?_
      refine gp zmv ?_
      refine gp zwn ?_
      refine gp zwx ?_
      refine gp zmv ?_
      refine gp zmv ?_
      refine gp zwn ?_
      refine gp zwx ?_
      refine gp zwa ?_
      refine gp zas ?_
      refine gnt ?_
      refine gc_region ?_
      refine gp zmv ?_
      refine gp zmv ?_
      refine gp zmv ?_
      refine gp zmv ?_
      refine gp zmv ?_
      refine gp zwa ?_
      refine gp zmv ?_
      refine gp zmv ?_
      refine gp zmv ?_
      refine gp zmv ?_
      refine gp zmv ?_
      refine gp zwa ?_
      refine gp zas ?_
      refine gp zas ?_
      refine gp zas ?_
      refine gp zas ?_
      refine gp zas ?_
      refine gp zas ?_
      refine gp zas ?_
      refine gp zas ?_
      refine gl_nil ?_
      refine gx_block_normal ?_
      refine gx_then ?_
      refine gc_region ?_
      refine gp zad ?_
      refine gp zmv ?_
      refine gl_nil ?_
      refine zrd (k + 1) ?_ ?_
      · show 64 - (k + 1) < 64 - k
        omega
      · rintro w' hw
        obtain ⟨F', hF', hst'⟩ := hw.sel (M := [blk b4 140 _, blk g T _]) (by repeat (first | exact Sel.nil | (apply Sel.cons; · (repeat (first | exact Pick.here | apply Pick.there)))))
        exact ⟨F', stars_pure_mk (show k + 1 ≤ 64 by omega) hF', hst'⟩
    · have hk' : k = 64 := by (try simp only at hc55); omega
      subst hk'
      refine gc_exit ?_
      refine gx_then_exit ?_
      refine gx_round_exit ?_
      refine gx_block_hit ?_
      refine gx_then ?_
      refine gsr ?_
      refine gp zmv ?_
      refine gp zmv ?_
      refine gp zmv ?_
      refine gp zmv ?_
      refine gp zmv ?_
      refine gp zmv ?_
      refine gp zmv ?_
      refine gp zmv ?_
      refine gp zba ?_
      refine gp zmv ?_
      refine gnt ?_
      refine gc_block ?_
      generalize hV : rnds Kc (sch b) v 64 = V
      refine gc_loop (α := Nat) (fun k => [pureR (k ≤ 8), blk g T (fnc W32 8 (pfx (v.add V).get v.get k) ++ tl)]) (fun k => [(128, .int .i64 (k : Int))]) [18, 19, 129, 130, 131, 132, 133, 134, 135, 136, 137, 138, 139, 140, 141] (fun k => 8 - k) 0 ?_ ?_ ?_
      · refine env_start (by kernel_rfl)
      · rintro w' hw
        obtain ⟨F', hF', hst'⟩ := hw.sel (M := [blk g T _]) (by repeat (first | exact Sel.nil | (apply Sel.cons; · (repeat (first | exact Pick.here | apply Pick.there)))))
        refine ⟨F', stars_pure_mk (Nat.zero_le _) ?_, hst'⟩
        show stars [blk g T (fnc W32 8 (pfx (v.add V).get v.get 0) ++ tl)] w' F'
        rw [pfx_zero]
        exact hF'
      · intro k u
        refine gc_pureR (fun hk => ?_)
        replace hk : k ≤ 8 := hk
        refine gsr ?_
        refine gp zlt ?_
        refine gnt ?_
        refine gc_seq ?_
        refine gif rfl (fun hc129 => ?_) (fun hc129 => ?_)
        · have hk' : k < 8 := by (try simp only at hc129); omega
          refine gc_skip ?_
          refine gx_then ?_
          refine gc_seq ?_
          refine gc_block ?_
          refine gsr ?_
          refine gp zmv ?_
          refine gp (r_index1 (cs := fnc W32 8 V.get) (v := W32 (V.get k)) rfl rfl Ty.arr_125 Ty.sz_124 Ty.row_124 (by omega) (by omega) (by rw [show (k : Int).toNat * 1 = k by omega]; exact fnc_get hk')) ?_
          refine gp zas ?_
          refine gp zas ?_
          refine gnt ?_
          refine gc_regionT 9 (by kernel_rfl) (by kernel_rfl) ?_
          refine sp zmv ?_
          refine sp zmv ?_
          refine sp znc ?_
          refine sp (r_indexAddr_arr rfl rfl Ty.arr_126 Ty.sz_124 (by omega) (by omega)) ?_
          refine sp (r_ld1 (v := W32 (v.get k)) rfl Ty.row_124 (by repeat (first | exact Pick.here | apply Pick.there)) (get_left (pfx_get2 (by omega) (by omega) (by omega)))) ?_
          refine sp zmv ?_
          refine sp zwa ?_
          refine sp znc ?_
          refine sp (r_indexAddr_arr rfl rfl Ty.arr_126 Ty.sz_124 (by omega) (by omega)) ?_
          refine gs_nil ?_
          refine gl_store1 (wt0 rfl) rfl rfl rfl Ty.sz_124 (by repeat (first | exact Pick.here | apply Pick.there)) (by rw [List.length_append, fnc_length]; omega) ((updL_left (by rw [fnc_length]; simp; omega)).trans (congrArg (· ++ tl) (pfx_set (k := k) (by omega) (by omega) (congrArg W32 (V8.add_get _ _ _).symm)))) ?_
          refine gl_nil ?_
          refine gx_block_normal ?_
          refine gx_then ?_
          refine gc_region ?_
          refine gp zad ?_
          refine gp zmv ?_
          refine gl_nil ?_
          refine zrd (k + 1) ?_ ?_
          · show 8 - (k + 1) < 8 - k
            omega
          · rintro w' hw
            obtain ⟨F', hF', hst'⟩ := hw.sel (M := [blk g T _]) (by repeat (first | exact Sel.nil | (apply Sel.cons; · (repeat (first | exact Pick.here | apply Pick.there)))))
            exact ⟨F', stars_pure_mk (show k + 1 ≤ 8 by omega) hF', hst'⟩
        · have hk' : k = 8 := by (try simp only at hc129); omega
          subst hk'
          refine gc_exit ?_
          refine gx_then_exit ?_
          refine gx_round_exit ?_
          refine gx_block_hit ?_
          refine gx_ret0' rfl ?_
          have e : v8c (take64 Kc v b) = fnc W32 8 (pfx (v.add V).get v.get 8) := by rw [pfx_full, ← hV]; rfl
          rw [e]
          exact ze ()

end Go.Proofs.YtobjojeliibinaaDoor

/- Walks, by program (wg.py) out of a spec. -/
namespace Go.Proofs.YtobjojeliibinaaDoor
open Go
set_option linter.unusedVariables false
set_option linter.unusedSimpArgs false


def HashR (g : Nat) (s : HS) : Res := exR fun p : Option Addr × Nat => allR [blk g 130 (v8c s.v ++ [.slice p.1 s.rest.length p.2, .int .u64 (s.len : Int)]), rowR 5 1 p.1 s.rest.length p.2 (s.rest.map B8)]
theorem h_open {g : Nat} {s : HS} {L : List Res} {w : World} {F : Nat → Prop} (h : stars (HashR g s :: L) w F) :
    ∃ a c, stars (blk g 130 (v8c s.v ++ [.slice a s.rest.length c, .int .u64 (s.len : Int)]) :: rowR 5 1 a s.rest.length c (s.rest.map B8) :: L) w F := by
  obtain ⟨⟨a, c⟩, h⟩ := stars_ex h
  exact ⟨a, c, stars_all h⟩
theorem St.hash {w0 w : World} {F0 : Nat → Prop} {g m c : Nat} {a : Option Addr} {v : V8} {l : Nat} {s : HS} {L : List Res} {xs : List Value}
    (h : St w0 F0 (blk g 130 (v8c v ++ [.slice a m c, .int .u64 (l : Int)]) :: rowR 5 1 a m c xs :: L) w) (hv : v = s.v) (hr : xs = s.rest.map B8) (hm : m = s.rest.length) (hl : l = s.len) : St w0 F0 (HashR g s :: L) w := by
  subst hv; subst hr; subst hl; subst hm
  obtain ⟨F, hF, hst⟩ := h
  exact ⟨F, stars_ex_mk (a, c) (stars_all_mk hF), hst⟩
theorem h_new {w0 w : World} {F0 : Nat → Prop} {g : Nat} (h : St w0 F0 [blk g 130 (v8c v0 ++ [.slice none 0 0, .int .u64 0])] w) : St w0 F0 [HashR g hs0] w := by
  obtain ⟨F, hF, hst⟩ := h
  have h1 : St w0 F0 [rowR 5 1 none 0 0 [], blk g 130 (v8c v0 ++ [.slice none 0 0, .int .u64 0])] w := ⟨F, stars_row_nil hF, hst⟩
  exact St.hash (l := 0) (h1.sel (M := [blk g 130 (v8c v0 ++ [.slice none 0 0, .int .u64 ((0 : Nat) : Int)]), rowR 5 1 none 0 0 []]) (by repeat (first | exact Sel.nil | (apply Sel.cons; · (repeat (first | exact Pick.here | apply Pick.there)))))) rfl rfl rfl rfl

attribute [local irreducible] Gl Gc Gx Gs Runs Wt

set_option maxHeartbeats 400000 in
theorem begin_ok {w : World} {F : Nat → Prop} (h : stars [] w F) :
    Calls Tryd.prog 65 #[] w (Post w F (fun _ : Unit => .agg (v8c v0).toArray) (fun _ => [])) := by
  refine g_enter (env := []) Tryd.func65 rfl h Tryd.ntmps65 rfl rfl ?_
  refine gsr ?_
  refine zal fun b0 => ?_
  refine gnt ?_
  refine gsr ?_
  refine gp zba ?_
  refine zsN ?_
  refine gnt ?_
  refine gc_ret ?_
  refine gx_retc rfl rfl (ld_aggS Ty.row_126 Ty.sz_126 (by repeat (first | exact Pick.here | apply Pick.there)) (by (simp only [List.drop_succ_cons, List.drop_zero, List.take_succ_cons, List.take_zero, List.cons_append, List.nil_append, List.append_assoc, drop_dc, drop_dc', take_dc, take_dc', drop_L, drop_L', take_L, take_L', len_L, Nat.reduceLeDiff, Nat.reduceSub, Nat.reduceAdd, Nat.le_refl, List.length_cons, List.length_append, List.length_nil, dc_length, List.drop_nil, List.take_nil, List.append_nil, List.length_map, List.length_replicate]; first | done | rfl)) (by first | rfl | (simp only [List.drop_succ_cons, List.drop_zero, List.take_succ_cons, List.take_zero, List.cons_append, List.nil_append, List.append_assoc, drop_dc, drop_dc', take_dc, take_dc', drop_L, drop_L', take_L, take_L', len_L, Nat.reduceLeDiff, Nat.reduceSub, Nat.reduceAdd, Nat.le_refl, List.length_cons, List.length_append, List.length_nil, dc_length, List.drop_nil, List.take_nil, List.append_nil, List.length_map, List.length_replicate]; first | done | omega))) ?_
  exact fun w' hw => ⟨(), congrArg (fun l : List Value => Ending.returned (.agg l.toArray)) (by kernel_rfl), hw.sel (by repeat (first | exact Sel.nil | (apply Sel.cons; · (repeat (first | exact Pick.here | apply Pick.there)))))⟩

set_option maxHeartbeats 400000 in
theorem hnew_ok {w : World} {F : Nat → Prop} (h : stars [] w F) :
    Calls Tryd.prog 43 #[] w (Post w F (fun g : Nat => .pointer (some ⟨g, 0, none⟩)) (fun g => [HashR g hs0])) := by
  refine g_enter (env := []) Tryd.func43 rfl h Tryd.ntmps43 rfl rfl ?_
  refine gsr ?_
  refine gp zas ?_
  refine gnt ?_
  refine gsr ?_
  refine zc (fun _ => ?_) (c := fun w1 F1 F2 h1 h2 hd hst => begin_ok h1)
  refine gp zbu ?_
  refine zbN fun b3 => ?_
  refine gp zas ?_
  refine gnt ?_
  refine gc_ret ?_
  refine gx_ret1 rfl (by conv => lhs; whnf) ?_
  exact fun w' hw => ⟨b3, rfl, h_new (hw.sel (by repeat (first | exact Sel.nil | (apply Sel.cons; · (repeat (first | exact Pick.here | apply Pick.there))))))⟩

set_option maxHeartbeats 400000 in
theorem hwrite_ok {w : World} {F : Nat → Prop} {g : Nat} {s : HS} {b : List UInt8} {a : Option Addr} {n c : Nat} (h : stars [HashR g s] w F) (hK : KR w (fun k => ¬ F k)) (hx : RdRow w (fun k => ¬ F k) 1 a n (b.map B8)) (hr : s.rest.length < 64) (hb : s.len + b.length ≤ 1099511627776) :
    Calls Tryd.prog 44 #[.pointer (some ⟨g, 0, none⟩), .slice a n c] w (Post w F (fun _ : Unit => .tuple #[]) (fun _ => [HashR g (hWrite Kc s b)])) := by
  obtain ⟨a0, c0, h'⟩ := h_open h
  have hnb : n = b.length := by have := hx.1; simp at this; omega
  refine g_enter (env := [(0, .pointer (some ⟨g, 0, none⟩)), (1, .slice a n c)]) Tryd.func44 rfl h' Tryd.ntmps44 rfl rfl ?_
  refine gsr ?_
  refine gp zmv ?_
  refine gp znc ?_
  refine gp zfa ?_
  refine gp zl ?_
  refine gp zmv ?_
  refine gp zln ?_
  refine gp (r_int (r_conv_int rfl Ty.un_3 Ty.un_128) (wrap_u64 (by omega) (by omega))) ?_
  refine gp (r_int (r_arith (op := .add) rfl rfl (wrap_u64 (by omega) (by omega))) (show (s.len : Int) + (n : Int) = ((s.len + b.length : Nat) : Int) by omega)) ?_
  refine gp znc ?_
  refine gp zfa ?_
  refine zs1 ?_
  refine gnt ?_
  refine gsr ?_
  refine gp zmv ?_
  refine gp zmv ?_
  refine gp znc ?_
  refine gp zfa ?_
  refine gp zl ?_
  refine gp zmv ?_
  refine gl_append (wt0 rfl) rfl rfl (by repeat (first | exact Pick.here | apply Pick.there)) Ty.el_54 (fun w' hw => hw.rdOld hx) (one_B8 _) (by simp only [maxLen]; omega) (by omega) ?_
  intro a1 c1
  refine gp znc ?_
  refine gp zfa ?_
  refine zs1 ?_
  refine gnt ?_
  refine gc_block ?_
  refine gc_loop (α := V8 × List UInt8 × Option Addr × Nat) (fun x => [pureR (takes Kc x.1 x.2.1 = takes Kc s.v (s.rest ++ b) ∧ x.2.1.length ≤ 1099511627840), blk g 130 (v8c x.1 ++ [.slice x.2.2.1 x.2.1.length x.2.2.2, .int .u64 ((s.len + b.length : Nat) : Int)]), rowR 5 1 x.2.2.1 x.2.1.length x.2.2.2 (x.2.1.map B8)]) (fun x => []) [23, 24, 25, 26, 27, 28, 29, 30, 31, 32, 33, 34, 35, 36, 37, 38, 39, 40, 41, 42, 43, 44, 45] (fun x => x.2.1.length) (s.v, s.rest ++ b, a1, c1) ?_ ?_ ?_
  · refine env_start (by kernel_rfl)
  · rintro w' hw
    obtain ⟨F', hF', hst'⟩ := hw.sel (M := [blk g 130 _, rowR 5 1 a1 _ c1 _]) (by repeat (first | exact Sel.nil | (apply Sel.cons; · (repeat (first | exact Pick.here | apply Pick.there)))))
    refine ⟨F', stars_pure_mk ⟨rfl, by simp; omega⟩ ?_, hst'⟩
    show stars [blk g 130 (v8c s.v ++ [.slice a1 (s.rest ++ b).length c1, .int .u64 ((s.len + b.length : Nat) : Int)]), rowR 5 1 a1 (s.rest ++ b).length c1 ((s.rest ++ b).map B8)] w' F'
    rw [List.length_append, List.map_append]
    rw [hnb] at hF'
    exact hF'
  · intro x u
    obtain ⟨v, r, a1, c1⟩ := x
    refine gc_pureR (fun hk => ?_)
    replace hk : takes Kc v r = takes Kc s.v (s.rest ++ b) ∧ r.length ≤ 1099511627840 := hk
    refine gc_fact (p := r.length ≤ c1) (fun w hw => (hw.rowLe (e := 5) (size := 1) (a := a1) (m := r.length) (c := c1) (xs := r.map B8) (by repeat (first | exact Pick.here | apply Pick.there))).1) (fun hc1 => ?_)
    refine gc_seq ?_
    refine gsr ?_
    refine gp zmv ?_
    refine gp znc ?_
    refine gp zfa ?_
    refine gp zl ?_
    refine gp zln ?_
    refine gp zge ?_
    refine gnt ?_
    refine gif rfl (fun hc28 => ?_) (fun hc28 => ?_)
    · have hk' : 64 ≤ r.length := by (try simp only at hc28); omega
      refine gc_skip ?_
      refine gx_then ?_
      refine gc_block ?_
      refine gc_seq ?_
      refine gc_regionT 8 (by kernel_rfl) (by kernel_rfl) ?_
      refine sp zmv ?_
      refine sp znc ?_
      refine sp zfa ?_
      refine sp zmv ?_
      refine sp znc ?_
      refine sp zfa ?_
      refine sp zl ?_
      refine sp (r_slice_slice (a := a1) (m := r.length) (c := c1) (l := 0) (h := 64) rfl Ty.sl_54 Ty.sz_5 rfl ⟨_, rfl⟩ (by omega) (by omega)) ?_
      refine gs_nil ?_
      refine zc (fun _ => ?_) (c := fun w1 F1 F2 h1 h2 hd hst => take_ok (tl := [.slice a1 r.length c1, .int .u64 ((s.len + b.length : Nat) : Int)]) h1 (hK.mv hst.still) ((rd_row h2 hd (by repeat (first | exact Pick.here | apply Pick.there))).cut8 (l := 0) (h := 64) (by omega) hk' hc1))
      refine gnt ?_
      refine gc_region ?_
      refine gp zmv ?_
      refine gp zmv ?_
      refine gp znc ?_
      refine gp zfa ?_
      refine gp zl ?_
      refine gp (r_slice_slice (a := a1) (m := r.length) (c := c1) (l := 64) (h := r.length) rfl Ty.sl_54 Ty.sz_5 ⟨_, rfl⟩ rfl (by omega) (by omega)) ?_
      refine gp znc ?_
      refine gp zfa ?_
      refine zs1 ?_
      refine gl_nil ?_
      refine gx_block_normal ?_
      refine zrd ((take64 Kc v (r.take 64), r.drop 64, (if c1 = 64 then a1 else a1.map (·.add (64 * 1))), c1 - 64)) ?_ ?_
      · show (r.drop 64).length < r.length
        rw [List.length_drop]
        omega
      · rintro w' hw
        obtain ⟨F', hF', hst'⟩ := hw.sel (M := [rowR 5 1 a1 r.length c1 (r.map B8), blk g 130 _]) (by repeat (first | exact Sel.nil | (apply Sel.cons; · (repeat (first | exact Pick.here | apply Pick.there)))))
        have h2 : St w F [rowR 5 1 (if c1 = 64 then a1 else a1.map (·.add (64 * 1))) (r.length - 64) (c1 - 64) ((r.drop 64).map B8), blk g 130 _] w' := ⟨F', stars_tail8 (by omega) hF', hst'⟩
        obtain ⟨F2, hF2, hst2⟩ := h2.sel (M := [blk g 130 _, rowR 5 1 _ _ _ ((r.drop 64).map B8)]) (by repeat (first | exact Sel.nil | (apply Sel.cons; · (repeat (first | exact Pick.here | apply Pick.there)))))
        refine ⟨F2, stars_pure_mk ⟨?_, ?_⟩ ?_, hst2⟩
        · rw [← hk.1, takes.eq_1 Kc v r, dif_pos (by omega)]
        · show (r.drop 64).length ≤ _; rw [List.length_drop]; omega
        · show stars [blk g 130 (v8c (take64 Kc v (r.take 64)) ++ [.slice (if c1 = 64 then a1 else a1.map (·.add (64 * 1))) (r.drop 64).length (c1 - 64), .int .u64 ((s.len + b.length : Nat) : Int)]), rowR 5 1 (if c1 = 64 then a1 else a1.map (·.add (64 * 1))) (r.drop 64).length (c1 - 64) ((r.drop 64).map B8)] w' F2
          rw [List.length_drop]; exact hF2
    · have hk' : ¬ 64 ≤ r.length := by (try simp only at hc28); omega
      refine gc_exit ?_
      refine gx_then_exit ?_
      refine gx_round_exit ?_
      refine gx_block_hit ?_
      refine gx_ret0' rfl ?_
      have e : takes Kc s.v (s.rest ++ b) = (v, r) := by rw [← hk.1, takes.eq_1, dif_neg hk']
      exact fun w' hw => ⟨(), rfl, St.hash (s := hWrite Kc s b) (hw.sel (M := [blk g 130 _, rowR 5 1 a1 _ c1 _]) (by repeat (first | exact Sel.nil | (apply Sel.cons; · (repeat (first | exact Pick.here | apply Pick.there)))))) (by simp [hWrite, e]) (by simp [hWrite, e]) (by simp [hWrite, e]) rfl⟩

end Go.Proofs.YtobjojeliibinaaDoor

/- Walks, by program (wg.py) out of a spec. -/
namespace Go.Proofs.YtobjojeliibinaaDoor
open Go
set_option linter.unusedVariables false
set_option linter.unusedSimpArgs false


theorem padN_le (m : Nat) : padN m ≤ 63 := by unfold padN; omega
theorem pad_hit {m k : Nat} (h : k ≤ padN m) (hm : m < 64) : (m + 1 + k) % 64 = 56 ↔ k = padN m := by unfold padN at *; omega
theorem fnc_sum (v : V8) : fnc B8 32 (outByte v) = ((List.range 32).map (outByte v)).map B8 := by simp [fnc]
theorem padded_length (s : HS) : (padded s).length = s.rest.length + 1 + padN s.rest.length + 8 := by simp [padded, lenBytes]; omega
theorem takes_nil (K : Nat → UInt32) (v : V8) : takes K v [] = (v, []) := by rw [takes.eq_1, dif_neg (by simp)]
theorem rem_nat {m k : Nat} : Int.tmod (m : Int) (k : Int) = ((m % k : Nat) : Int) := by rw [Int.tmod_eq_emod_of_nonneg (by omega)]; rfl
theorem quo_nat {m k : Nat} : Int.tdiv (m : Int) (k : Int) = ((m / k : Nat) : Int) := by rw [Int.tdiv_eq_ediv_of_nonneg (by omega)]; rfl
def padRow (s : HS) (k : Nat) : List UInt8 := s.rest ++ 128 :: List.replicate k 0
def lenRow (s : HS) (k : Nat) : List UInt8 := s.rest ++ 128 :: (List.replicate (padN s.rest.length) 0 ++ (List.range k).map fun i => UInt8.ofNat (s.len * 8 / 2 ^ (8 * (7 - i))))
theorem padRow_succ (s : HS) (k : Nat) : (padRow s k).map B8 ++ [.int .u8 0] = (padRow s (k + 1)).map B8 := by
  have e : (.int .u8 0 : Value) = B8 0 := rfl
  rw [e]; simp [padRow, List.replicate_succ']
theorem lenRow_zero (s : HS) : lenRow s 0 = padRow s (padN s.rest.length) := by simp [lenRow, padRow]
theorem lenRow_succ (s : HS) (k : Nat) : (lenRow s k).map B8 ++ [B8 (UInt8.ofNat (s.len * 8 / 2 ^ (8 * (7 - k))))] = (lenRow s (k + 1)).map B8 := by simp [lenRow, List.range_succ]
theorem lenRow_full (s : HS) : lenRow s 8 = padded s := rfl

attribute [local irreducible] Gl Gc Gx Gs Runs Wt

set_option maxHeartbeats 400000 in
theorem hsum_ok {w : World} {F : Nat → Prop} {g : Nat} {s : HS} (h : stars [HashR g s] w F) (hK : KR w (fun k => ¬ F k)) (hr : s.rest.length < 64) (hb : s.len ≤ 1099511627776) :
    Calls Tryd.prog 45 #[.pointer (some ⟨g, 0, none⟩)] w (Post w F (fun _ : Unit => .agg (fnc B8 32 (outByte (takes Kc s.v (padded s)).1)).toArray) (fun _ => [HashR g s])) := by
  obtain ⟨a0, c0, h'⟩ := h_open h
  refine g_enter (env := [(0, .pointer (some ⟨g, 0, none⟩))]) Tryd.func45 rfl h' Tryd.ntmps45 rfl rfl ?_
  refine gsr ?_
  refine zal fun b2 => ?_
  refine gnt ?_
  refine gsr ?_
  refine gp zmv ?_
  refine gp znc ?_
  refine gp zfa ?_
  refine gp zL ?_
  refine zal fun b3 => ?_
  refine gl_storeN (wt0 rfl) (cs' := v8c s.v ++ []) rfl rfl Ty.sz_126 (v8c_length _) (by repeat (first | exact Pick.here | apply Pick.there)) (by simp) (v8c_one _) ((updL_all (by simp [v8c_length])).trans (List.append_nil _).symm) ?_
  refine gnt ?_
  refine gsr ?_
  refine ze0 fun b12 => ?_
  refine gp zmv ?_
  refine gp znc ?_
  refine gp zfa ?_
  refine gp zl ?_
  refine gl_append (wt0 rfl) rfl rfl (by repeat (first | exact Pick.here | apply Pick.there)) Ty.el_54 (fun w' hw => hw.row (a := a0) (m := s.rest.length) (c := c0) (by repeat (first | exact Pick.here | apply Pick.there))) (one_B8 _) (by simp only [maxLen]; omega) (by omega) ?_
  intro a17 c17
  rw [show 0 + s.rest.length = s.rest.length from Nat.zero_add _]
  refine ze1 fun b18 => ?_
  refine gl_append (news := [.int .u8 128]) (wt0 rfl) rfl rfl (by repeat (first | exact Pick.here | apply Pick.there)) Ty.el_54 (fun w' hw => hw.row (m := 1) (xs := [.int .u8 128]) (by repeat (first | exact Pick.here | apply Pick.there))) (all_cons' rfl all_nil') (by simp only [maxLen]; omega) (by omega) ?_
  intro a19 c19
  refine gp zas ?_
  refine gnt ?_
  refine gc_seq ?_
  refine gc_block ?_
  refine gc_loop (α := Nat × Option Addr × Nat) (fun x => [pureR (x.1 ≤ padN s.rest.length), rowR 5 1 x.2.1 (s.rest.length + 1 + x.1) x.2.2 ((padRow s x.1).map B8), blk b3 126 (v8c s.v ++ []), blk b2 105 (List.replicate 32 (.int .u8 0)), blk g 130 (v8c s.v ++ [.slice a0 s.rest.length c0, .int .u64 (s.len : Int)]), rowR 5 1 a0 s.rest.length c0 (s.rest.map B8)]) (fun x => [(4, .slice x.2.1 (s.rest.length + 1 + x.1) x.2.2)]) [20, 21, 22, 23, 24, 25, 26] (fun x => padN s.rest.length - x.1) (0, a19, c19) ?_ ?_ ?_
  · refine env_start (by kernel_rfl)
  · rintro w' hw
    obtain ⟨F', hF', hst'⟩ := hw.sel (M := [rowR 5 1 a19 _ c19 _, blk b3 126 (v8c s.v ++ []), blk b2 105 (List.replicate 32 (.int .u8 0)), blk g 130 (v8c s.v ++ [.slice a0 s.rest.length c0, .int .u64 (s.len : Int)]), rowR 5 1 a0 s.rest.length c0 (s.rest.map B8)]) (by repeat (first | exact Sel.nil | (apply Sel.cons; · (repeat (first | exact Pick.here | apply Pick.there)))))
    refine ⟨F', stars_pure_mk (Nat.zero_le _) ?_, hst'⟩
    have e : ([] ++ s.rest.map B8 ++ [.int .u8 128] : List Value) = (padRow s 0).map B8 := by simp [padRow]
    rw [e] at hF'
    exact hF'
  · intro x u
    obtain ⟨k, a4, c4⟩ := x
    refine gc_pureR (fun hk => ?_)
    replace hk : k ≤ padN s.rest.length := hk
    have hp63 := padN_le s.rest.length
    refine gc_seq ?_
    refine gsr ?_
    refine gp zmv ?_
    refine gp zln ?_
    refine gp (r_int (r_rem rfl rfl (by decide)) (rem_nat (m := s.rest.length + 1 + k) (k := 64))) ?_
    refine gp zni ?_
    refine gnt ?_
    refine gif rfl (fun hc23 => ?_) (fun hc23 => ?_)
    · have hk' : k < padN s.rest.length := by have := pad_hit hk hr; (try simp only at hc23); omega
      refine gc_skip ?_
      refine gx_then ?_
      refine gc_block ?_
      refine gc_region ?_
      refine gp zmv ?_
      refine ze1 fun b25 => ?_
      refine gl_append (news := [.int .u8 0]) (a := a4) (m := s.rest.length + 1 + k) (c := c4) (wt0 rfl) rfl rfl (by repeat (first | exact Pick.here | apply Pick.there)) Ty.el_54 (fun w' hw => hw.row (m := 1) (xs := [.int .u8 0]) (by repeat (first | exact Pick.here | apply Pick.there))) (all_cons' rfl all_nil') (by simp only [maxLen]; omega) (by omega) ?_
      intro a26 c26
      refine gp zas ?_
      refine gl_nil ?_
      refine gx_block_normal ?_
      refine zrd ((k + 1, a26, c26)) ?_ ?_
      · show padN s.rest.length - (k + 1) < padN s.rest.length - k
        omega
      · rintro w' hw
        obtain ⟨F', hF', hst'⟩ := hw.sel (M := [rowR 5 1 a26 _ c26 _, blk b3 126 (v8c s.v ++ []), blk b2 105 (List.replicate 32 (.int .u8 0)), blk g 130 (v8c s.v ++ [.slice a0 s.rest.length c0, .int .u64 (s.len : Int)]), rowR 5 1 a0 s.rest.length c0 (s.rest.map B8)]) (by repeat (first | exact Sel.nil | (apply Sel.cons; · (repeat (first | exact Pick.here | apply Pick.there)))))
        refine ⟨F', stars_pure_mk (show k + 1 ≤ _ by omega) ?_, hst'⟩
        rw [padRow_succ] at hF'
        exact hF'
    · have hk' : k = padN s.rest.length := by have := pad_hit hk hr; (try simp only at hc23); omega
      subst hk'
      refine gc_exit ?_
      refine gx_then_exit ?_
      refine gx_round_exit ?_
      refine gx_block_hit ?_
      refine gx_then ?_
      refine gc_seq ?_
      refine gsr ?_
      refine gp zas ?_
      refine gnt ?_
      refine gc_block ?_
      refine gc_loop (α := Nat × Option Addr × Nat) (fun x => [pureR (x.1 ≤ 8), rowR 5 1 x.2.1 (s.rest.length + 1 + padN s.rest.length + x.1) x.2.2 ((lenRow s x.1).map B8), blk b3 126 (v8c s.v ++ []), blk b2 105 (List.replicate 32 (.int .u8 0)), blk g 130 (v8c s.v ++ [.slice a0 s.rest.length c0, .int .u64 (s.len : Int)]), rowR 5 1 a0 s.rest.length c0 (s.rest.map B8)]) (fun x => [(4, .slice x.2.1 (s.rest.length + 1 + padN s.rest.length + x.1) x.2.2), (5, .int .i64 (7 - (x.1 : Int)))]) [27, 28, 29, 30, 31, 32, 33, 34, 35, 36, 37, 38, 39, 40, 41, 42] (fun x => 8 - x.1) (0, a4, c4) ?_ ?_ ?_
      · refine env_start (by kernel_rfl)
      · rintro w' hw
        obtain ⟨F', hF', hst'⟩ := hw.sel (M := [rowR 5 1 a4 _ c4 _, blk b3 126 (v8c s.v ++ []), blk b2 105 (List.replicate 32 (.int .u8 0)), blk g 130 (v8c s.v ++ [.slice a0 s.rest.length c0, .int .u64 (s.len : Int)]), rowR 5 1 a0 s.rest.length c0 (s.rest.map B8)]) (by repeat (first | exact Sel.nil | (apply Sel.cons; · (repeat (first | exact Pick.here | apply Pick.there)))))
        refine ⟨F', stars_pure_mk (Nat.zero_le _) ?_, hst'⟩
        rw [← lenRow_zero] at hF'
        exact hF'
      · intro x u
        obtain ⟨k, a5, c5⟩ := x
        refine gc_pureR (fun hk => ?_)
        replace hk : k ≤ 8 := hk
        refine gc_seq ?_
        refine gsr ?_
        refine gp zmv ?_
        refine gp zge ?_
        refine gnt ?_
        refine gif rfl (fun hc28 => ?_) (fun hc28 => ?_)
        · have hk' : k < 8 := by (try simp only at hc28); omega
          refine gc_skip ?_
          refine gx_then ?_
          refine gc_seq ?_
          refine gc_block ?_
          refine gc_region ?_
          refine gp zmv ?_
          refine gp zmv ?_
          refine gp znc ?_
          refine gp zfa ?_
          refine gp zl ?_
          refine gp (r_int (r_arith (op := .mul) rfl rfl (wrap_u64 (by omega) (by omega))) (show (s.len : Int) * 8 = ((s.len * 8 : Nat) : Int) by omega)) ?_
          refine gp zmv ?_
          refine gp zml ?_
          refine gp zhr ?_
          refine gp (r_val (r_conv_int rfl Ty.un_128 Ty.un_5) (byte_shrU (j := 7 - k) (by omega) (by omega))) ?_
          refine ze1 fun b41 => ?_
          refine gl_append (news := [B8 (UInt8.ofNat (s.len * 8 / 2 ^ (8 * (7 - k))))]) (a := a5) (m := s.rest.length + 1 + padN s.rest.length + k) (c := c5) (wt0 rfl) rfl rfl (by repeat (first | exact Pick.here | apply Pick.there)) Ty.el_54 (fun w' hw => hw.row (m := 1) (xs := [B8 (UInt8.ofNat (s.len * 8 / 2 ^ (8 * (7 - k))))]) (by repeat (first | exact Pick.here | apply Pick.there))) (all_cons' rfl all_nil') (by simp only [maxLen]; omega) (by omega) ?_
          intro a42 c42
          refine gp zas ?_
          refine gl_nil ?_
          refine gx_block_normal ?_
          refine gx_then ?_
          refine gc_region ?_
          refine gp zmv ?_
          refine gp (r_int (r_arith (op := .sub) rfl rfl (wrap_i64 (by omega) (by omega))) (show 7 - (k : Int) - 1 = 7 - ((k + 1 : Nat) : Int) by omega)) ?_
          refine gp zas ?_
          refine gl_nil ?_
          refine zrd ((k + 1, a42, c42)) ?_ ?_
          · show 8 - (k + 1) < 8 - k
            omega
          · rintro w' hw
            obtain ⟨F', hF', hst'⟩ := hw.sel (M := [rowR 5 1 a42 _ c42 _, blk b3 126 (v8c s.v ++ []), blk b2 105 (List.replicate 32 (.int .u8 0)), blk g 130 (v8c s.v ++ [.slice a0 s.rest.length c0, .int .u64 (s.len : Int)]), rowR 5 1 a0 s.rest.length c0 (s.rest.map B8)]) (by repeat (first | exact Sel.nil | (apply Sel.cons; · (repeat (first | exact Pick.here | apply Pick.there)))))
            refine ⟨F', stars_pure_mk (show k + 1 ≤ _ by omega) ?_, hst'⟩
            rw [lenRow_succ] at hF'
            exact hF'
        · have hk' : k = 8 := by (try simp only at hc28); omega
          subst hk'
          refine gc_exit ?_
          refine gx_then_exit ?_
          refine gx_round_exit ?_
          refine gx_block_hit ?_
          refine gx_then ?_
          refine gc_seq ?_
          refine gc_block ?_
          have hpl := padded_length s
          refine gc_loop (α := V8 × List UInt8 × Option Addr × Nat × Nat) (fun x => [pureR (takes Kc x.1 x.2.1 = takes Kc s.v (padded s) ∧ x.2.1.length % 64 = 0 ∧ x.2.1.length ≤ 256 ∧ x.2.2.2.1 = x.2.1.length), rowR 5 1 x.2.2.1 x.2.2.2.1 x.2.2.2.2 (x.2.1.map B8), blk b3 126 (v8c x.1 ++ []), blk b2 105 (List.replicate 32 (.int .u8 0)), blk g 130 (v8c s.v ++ [.slice a0 s.rest.length c0, .int .u64 (s.len : Int)]), rowR 5 1 a0 s.rest.length c0 (s.rest.map B8)]) (fun x => [(4, .slice x.2.2.1 x.2.2.2.1 x.2.2.2.2)]) [43, 44, 45, 46, 47, 48, 49, 50] (fun x => x.2.1.length) (s.v, padded s, a5, s.rest.length + 1 + padN s.rest.length + 8, c5) ?_ ?_ ?_
          · refine env_start (by kernel_rfl)
          · rintro w' hw
            obtain ⟨F', hF', hst'⟩ := hw.sel (M := [rowR 5 1 a5 _ c5 _, blk b3 126 (v8c s.v ++ []), blk b2 105 (List.replicate 32 (.int .u8 0)), blk g 130 (v8c s.v ++ [.slice a0 s.rest.length c0, .int .u64 (s.len : Int)]), rowR 5 1 a0 s.rest.length c0 (s.rest.map B8)]) (by repeat (first | exact Sel.nil | (apply Sel.cons; · (repeat (first | exact Pick.here | apply Pick.there)))))
            refine ⟨F', stars_pure_mk ⟨rfl, ?_, ?_, hpl.symm⟩ ?_, hst'⟩
            · show (padded s).length % 64 = 0
              have := (pad_hit (Nat.le_refl _) hr).2 rfl
              omega
            · show (padded s).length ≤ 256; omega
            · exact hF'
          · intro x u
            obtain ⟨v, r, a6, n6, c6⟩ := x
            refine gc_pureR (fun hk => ?_)
            replace hk : takes Kc v r = takes Kc s.v (padded s) ∧ r.length % 64 = 0 ∧ r.length ≤ 256 ∧ n6 = r.length := hk
            obtain ⟨hk, hk64, hk256, rfl⟩ := hk
            refine gc_fact (p := r.length ≤ c6) (fun w hw => (hw.rowLe (e := 5) (size := 1) (a := a6) (m := r.length) (c := c6) (xs := r.map B8) (by repeat (first | exact Pick.here | apply Pick.there))).1) (fun hc6 => ?_)
            refine gc_seq ?_
            refine gsr ?_
            refine gp zmv ?_
            refine gp zln ?_
            refine gp zgt ?_
            refine gnt ?_
            refine gif rfl (fun hc45 => ?_) (fun hc45 => ?_)
            · have hk' : 64 ≤ r.length := by (try simp only at hc45); omega
              refine gc_skip ?_
              refine gx_then ?_
              refine gc_block ?_
              refine gsr ?_
              refine gp zmv ?_
              refine gp (r_slice_slice (a := a6) (m := r.length) (c := c6) (l := 0) (h := 64) rfl Ty.sl_54 Ty.sz_5 rfl ⟨_, rfl⟩ (by omega) (by omega)) ?_
              refine zc (fun _ => ?_) (c := fun w1 F1 F2 h1 h2 hd hst => take_ok (tl := []) h1 (hK.mv hst.still) ((rd_row (a := a6) (n := r.length) (c := c6) (xs := r.map B8) h2 hd (by repeat (first | exact Pick.here | apply Pick.there))).cut8 (l := 0) (h := 64) (by omega) hk' hc6))
              refine gnt ?_
              refine gc_region ?_
              refine gp zmv ?_
              refine gp (r_slice_slice (a := a6) (m := r.length) (c := c6) (l := 64) (h := r.length) rfl Ty.sl_54 Ty.sz_5 ⟨_, rfl⟩ rfl (by omega) (by omega)) ?_
              refine gp zas ?_
              refine gl_nil ?_
              refine gx_block_normal ?_
              have hdl : (r.drop 64).length = r.length - 64 := List.length_drop
              refine zrd ((take64 Kc v (r.take 64), r.drop 64, (if c6 = 64 then a6 else a6.map (·.add (64 * 1))), r.length - 64, c6 - 64)) ?_ ?_
              · show (r.drop 64).length < r.length
                omega
              · rintro w' hw
                obtain ⟨F', hF', hst'⟩ := hw.sel (M := [rowR 5 1 a6 r.length c6 (r.map B8), blk b3 126 (v8c (take64 Kc v (r.take 64)) ++ []), blk b2 105 (List.replicate 32 (.int .u8 0)), blk g 130 (v8c s.v ++ [.slice a0 s.rest.length c0, .int .u64 (s.len : Int)]), rowR 5 1 a0 s.rest.length c0 (s.rest.map B8)]) (by repeat (first | exact Sel.nil | (apply Sel.cons; · (repeat (first | exact Pick.here | apply Pick.there)))))
                refine ⟨F', stars_pure_mk ⟨?_, ?_, ?_, hdl.symm⟩ ?_, hst'⟩
                · rw [← hk, takes.eq_1 Kc v r, dif_pos (by omega)]
                · show (r.drop 64).length % 64 = 0; omega
                · show (r.drop 64).length ≤ 256; omega
                · have := stars_tail8 (l := 64) (by omega) hF'
                  exact this
            · have hk' : r = [] := by (try simp only at hc45); exact List.eq_nil_of_length_eq_zero (by omega)
              have hV : (takes Kc s.v (padded s)).1 = v := by rw [← hk, hk', takes_nil]
              rw [hV]
              refine gc_exit ?_
              refine gx_then_exit ?_
              refine gx_round_exit ?_
              refine gx_block_hit ?_
              refine gx_then ?_
              refine gsr ?_
              refine zal fun b6 => ?_
              refine gnt ?_
              refine gc_seq ?_
              refine gsr ?_
              refine gp zmv ?_
              refine gnt ?_
              refine gc_block ?_
              refine gc_loop (α := Nat) (fun k => [pureR (k ≤ 32), blk b6 105 (fnc B8 32 (pfx (outByte v) (fun _ => 0) k)), blk b3 126 (v8c v ++ []), blk b2 105 (List.replicate 32 (.int .u8 0)), blk g 130 (v8c s.v ++ [.slice a0 s.rest.length c0, .int .u64 (s.len : Int)]), rowR 5 1 a0 s.rest.length c0 (s.rest.map B8)]) (fun k => [(51, .int .i64 (k : Int))]) [7, 52, 53, 54, 55, 56, 57, 58, 59, 60, 61, 62, 63, 64, 65, 66] (fun k => 32 - k) 0 ?_ ?_ ?_
              · refine env_start (by kernel_rfl)
              · rintro w' hw
                obtain ⟨F', hF', hst'⟩ := hw.sel (M := [blk b6 105 _, blk b3 126 (v8c v ++ []), blk b2 105 (List.replicate 32 (.int .u8 0)), blk g 130 (v8c s.v ++ [.slice a0 s.rest.length c0, .int .u64 (s.len : Int)]), rowR 5 1 a0 s.rest.length c0 (s.rest.map B8)]) (by repeat (first | exact Sel.nil | (apply Sel.cons; · (repeat (first | exact Pick.here | apply Pick.there)))))
                refine ⟨F', stars_pure_mk (Nat.zero_le _) ?_, hst'⟩
                rw [pfx_zero, fnc_const]
                exact hF'
              · intro k u
                refine gc_pureR (fun hk2 => ?_)
                replace hk2 : k ≤ 32 := hk2
                refine gsr ?_
                refine gp zlt ?_
                refine gnt ?_
                refine gc_seq ?_
                refine gif rfl (fun hc52 => ?_) (fun hc52 => ?_)
                · have hk3 : k < 32 := by (try simp only at hc52); omega
                  refine gc_skip ?_
                  refine gx_then ?_
                  refine gc_seq ?_
                  refine gc_block ?_
                  refine gsr ?_
                  refine gp zmv ?_
                  refine gp zas ?_
                  refine gnt ?_
                  refine gc_region ?_
                  refine gp zmv ?_
                  refine gp zmv ?_
                  refine gp (r_int (r_val (r_quo rfl rfl (by decide)) (congrArg (Value.int .i64) ((congrArg IntKind.i64.wrap (quo_nat (m := k) (k := 4))).trans (wrap_i64 (by omega) (by omega))))) rfl) ?_
                  refine gp (r_indexAddr_arr rfl rfl Ty.arr_126 Ty.sz_124 (by omega) (by omega)) ?_
                  refine gp (r_ld1 (v := W32 (v.get (k / 4))) rfl Ty.row_124 (by repeat (first | exact Pick.here | apply Pick.there)) (by rw [show 0 + ((k / 4 : Nat) : Int).toNat * 1 = k / 4 by omega]; exact get_left (fnc_get (V := W32) (m := 8) (f := v.get) (by omega)))) ?_
                  refine gp zmv ?_
                  refine gp (r_int (r_rem rfl rfl (by decide)) (rem_nat (m := k) (k := 4))) ?_
                  refine gp zml ?_
                  refine gp zsb ?_
                  refine gp (r_shrw (j := 24 - 8 * (k % 4)) rfl rfl (by omega) (by omega)) ?_
                  refine gp (r_convw8 rfl Ty.un_124 Ty.un_5) ?_
                  refine gp (r_indexAddr_arr rfl rfl Ty.arr_105 Ty.sz_5 (by omega) (by omega)) ?_
                  refine gl_store1 (wt0 rfl) rfl rfl rfl Ty.sz_5 (by repeat (first | exact Pick.here | apply Pick.there)) (by rw [fnc_length]; omega) (pfx_set (k := k) (by omega) (by omega) rfl) ?_
                  refine gl_nil ?_
                  refine gx_block_normal ?_
                  refine gx_then ?_
                  refine gc_region ?_
                  refine gp zad ?_
                  refine gp zmv ?_
                  refine gl_nil ?_
                  refine zrd (k + 1) ?_ ?_
                  · show 32 - (k + 1) < 32 - k
                    omega
                  · rintro w' hw
                    obtain ⟨F', hF', hst'⟩ := hw.sel (M := [blk b6 105 _, blk b3 126 (v8c v ++ []), blk b2 105 (List.replicate 32 (.int .u8 0)), blk g 130 (v8c s.v ++ [.slice a0 s.rest.length c0, .int .u64 (s.len : Int)]), rowR 5 1 a0 s.rest.length c0 (s.rest.map B8)]) (by repeat (first | exact Sel.nil | (apply Sel.cons; · (repeat (first | exact Pick.here | apply Pick.there)))))
                    exact ⟨F', stars_pure_mk (show k + 1 ≤ 32 by omega) hF', hst'⟩
                · have hk3 : k = 32 := by (try simp only at hc52); omega
                  subst hk3
                  refine gc_exit ?_
                  refine gx_then_exit ?_
                  refine gx_round_exit ?_
                  refine gx_block_hit ?_
                  refine gx_then ?_
                  refine gsr ?_
                  refine gp (r_ldN rfl Ty.row_105 Ty.sz_105 (by repeat (first | exact Pick.here | apply Pick.there)) (seg_all fnc_length) fnc_length) ?_
                  refine gl_storeN (wt0 rfl) rfl rfl Ty.sz_105 fnc_length (by repeat (first | exact Pick.here | apply Pick.there)) (by simp) (fnc_one fun _ => rfl) (updL_all (by simp [fnc_length])) ?_
                  refine gnt ?_
                  refine gc_ret ?_
                  refine gx_retc rfl rfl (ld_aggS Ty.row_105 Ty.sz_105 (by repeat (first | exact Pick.here | apply Pick.there)) (seg_all fnc_length) fnc_length) ?_
                  rw [pfx_full]
                  exact fun w' hw => ⟨(), rfl, St.hash (hw.sel (M := [blk g 130 (v8c s.v ++ [.slice a0 s.rest.length c0, .int .u64 (s.len : Int)]), rowR 5 1 a0 s.rest.length c0 (s.rest.map B8)]) (by repeat (first | exact Sel.nil | (apply Sel.cons; · (repeat (first | exact Pick.here | apply Pick.there)))))) rfl rfl rfl rfl⟩

end Go.Proofs.YtobjojeliibinaaDoor

/- Walks, by program (wg.py) out of a spec. -/
namespace Go.Proofs.YtobjojeliibinaaDoor
open Go
set_option linter.unusedVariables false
set_option linter.unusedSimpArgs false


def dOf (K : Nat → UInt32) (dom : Int) (parts : List (List UInt8)) : Dig := ⟨hOf K dom parts, hOf_length K dom parts⟩
def hStep (K : Nat → UInt32) (s : HS) (p : List UInt8) : HS := hWrite K (hWrite K s (part4 p.length)) p
def hBeg (K : Nat → UInt32) (dom : Int) : HS := hWrite K hs0 [UInt8.ofNat (dom % 256).toNat]
def pcost (l : List (List UInt8)) : Nat := (l.map fun p => p.length + 4).sum
theorem hWrite_rest (K : Nat → UInt32) (s : HS) (b : List UInt8) : (hWrite K s b).rest.length < 64 := takes_rest K s.v (s.rest ++ b)
theorem hWrite_len (K : Nat → UInt32) (s : HS) (b : List UInt8) : (hWrite K s b).len = s.len + b.length := rfl
theorem hFold (K : Nat → UInt32) : ∀ (l : List (List UInt8)) (s : HS), s.rest.length < 64 → (l.foldl (hStep K) s).rest.length < 64 ∧ (l.foldl (hStep K) s).len = s.len + pcost l
  | [], s, h => ⟨h, by simp [pcost]⟩
  | p :: l, s, h => by
    have := hFold K l (hStep K s p) (hWrite_rest _ _ _)
    refine ⟨this.1, ?_⟩
    rw [List.foldl_cons, this.2]
    simp only [hStep, hWrite_len, part4, pcost, List.map_cons, List.sum_cons, List.length_cons, List.length_nil]
    omega
theorem pcost_take {l : List (List UInt8)} {k : Nat} {p : List UInt8} (h : l[k]? = some p) : pcost (l.take k) + (p.length + 4) ≤ pcost l := by
  have e : l = l.take k ++ p :: l.drop (k + 1) := by
    have hk : k < l.length := (List.getElem?_eq_some_iff.1 h).1
    rw [← (List.getElem?_eq_some_iff.1 h).2, List.getElem_cons_drop, List.take_append_drop]
  have : pcost l = pcost (l.take k) + (p.length + 4) + pcost (l.drop (k + 1)) := by
    conv => lhs; rw [e]
    simp [pcost]; omega
  omega
theorem byte_nat {n : Nat} : Value.int .u8 (IntKind.u8.wrap (n : Int)) = B8 (UInt8.ofNat n) := by
  have h1 : ∀ m : Int, IntKind.u8.wrap m = m % 256 := fun m => by simp [IntKind.wrap, IntKind.bits, IntKind.signed]
  simp only [B8, Value.int.injEq, true_and]
  rw [h1, UInt8.toNat_ofNat']; omega
theorem hOf_cut (K : Nat → UInt32) (dom : Int) (parts : List (List UInt8)) : ((fnc B8 32 (outByte (takes K (parts.foldl (hStep K) (hBeg K dom)).v (padded (parts.foldl (hStep K) (hBeg K dom)))).1)).drop 0).take 16 = dc (dOf K dom parts) := by
  rw [List.drop_zero, fnc_sum, ← List.map_take]; rfl
theorem foldl_step {α β : Type} (f : β → α → β) (l : List α) (s : β) {k : Nat} {x : α} (h : l[k]? = some x) : (l.take (k + 1)).foldl f s = f ((l.take k).foldl f s) x := by
  rw [List.take_add_one, h]; simp

attribute [local irreducible] Gl Gc Gx Gs Runs Wt

set_option maxHeartbeats 400000 in
theorem of_ok {w : World} {F : Nat → Prop} {dom : Int} {parts : List (List UInt8)} {a : Option Addr} {n c : Nat} (h : stars [] w F) (hK : KR w (fun k => ¬ F k)) (hx : RdList (RdBytes w fun k => ¬ F k) w (fun k => ¬ F k) 1 a n parts) (hb : 1 + pcost parts ≤ 1099511627776) :
    Calls Tryd.prog 24 #[.int .i64 dom, .slice a n c] w (Post w F (fun _ : Unit => .agg (dc (dOf Kc dom parts)).toArray) (fun _ => [])) := by
  have hnl := hx.len (by decide)
  have hmx := hx.max
  simp only [maxLen] at hmx
  refine g_enter (env := [(0, .int .i64 dom), (1, .slice a n c)]) Tryd.func24 rfl h Tryd.ntmps24 rfl rfl ?_
  refine gsr ?_
  refine zal fun b4 => ?_
  refine gnt ?_
  refine gsr ?_
  refine zc (fun g => ?_) (c := fun w1 F1 F2 h1 h2 hd hst => hnew_ok h1)
  refine gp zas ?_
  refine gnt ?_
  refine gsr ?_
  refine gp zmv ?_
  refine gp zmv ?_
  refine gp (r_val (r_conv_int rfl Ty.un_3 Ty.un_5) byte_int) ?_
  refine ze1 fun b14 => ?_
  refine zc (fun _ => ?_) (c := fun w1 F1 F2 h1 h2 hd hst => hwrite_ok (b := [UInt8.ofNat (dom % 256).toNat]) h1 (hK.mv hst.still) (rd_row (xs := [B8 (UInt8.ofNat (dom % 256).toNat)]) h2 hd (by repeat (first | exact Pick.here | apply Pick.there))) (by decide) (by simp [hs0]))
  refine gnt ?_
  refine gc_seq ?_
  refine gsr ?_
  refine gp zmv ?_
  refine gp zln ?_
  refine gp zmv ?_
  refine gnt ?_
  refine gc_block ?_
  refine gc_loop (α := Nat) (fun k => [pureR (k ≤ n), HashR g ((parts.take k).foldl (hStep Kc) (hBeg Kc dom)), blk b4 26 zD]) (fun k => [(18, .int .i64 (k : Int))]) [7, 8, 19, 20, 21, 22, 23, 24, 25, 26, 27, 28, 29, 30, 31, 32, 33, 34, 35, 36, 37, 38, 39, 40, 41] (fun k => n - k) 0 ?_ ?_ ?_
  · refine env_start (by kernel_rfl)
  · rintro w' hw
    obtain ⟨F', hF', hst'⟩ := hw.sel (M := [HashR g (hBeg Kc dom), blk b4 26 zD]) (by repeat (first | exact Sel.nil | (apply Sel.cons; · (repeat (first | exact Pick.here | apply Pick.there)))))
    exact ⟨F', stars_pure_mk (Nat.zero_le _) hF', hst'⟩
  · intro k u
    refine gc_pureR (fun hk => ?_)
    replace hk : k ≤ n := hk
    refine gsr ?_
    refine gp zlt ?_
    refine gnt ?_
    refine gc_seq ?_
    refine gif rfl (fun hc19 => ?_) (fun hc19 => ?_)
    · have hk' : k < n := by (try simp only at hc19); omega
      obtain ⟨ga, o, cs, y, ha, hA, hg, hra, hcl, hly, hrd⟩ := hx.elem (by decide) hk'
      subst ha
      obtain ⟨a', n', c', rfl, hn', hrb⟩ := hrd
      have hny : n' = y.length := by have := hrb.1; simp at this; omega
      have hpc := pcost_take hly
      have hf := hFold Kc (parts.take k) (hBeg Kc dom) (hWrite_rest _ _ _)
      have hbl : (hBeg Kc dom).len = 1 := rfl
      refine gc_skip ?_
      refine gx_then ?_
      refine gc_seq ?_
      refine gc_block ?_
      refine gsr ?_
      refine gp (r_indexAddr_slice rfl rfl Ty.sl_30 Ty.sz_54 (by omega) (by omega)) ?_
      refine gp (r_ld1o rfl Ty.row_54 (hra 0 _ rfl) hA) ?_
      refine gp zas ?_
      refine gnt ?_
      refine gsr ?_
      refine gp zmv ?_
      refine gp zln ?_
      refine gp zas ?_
      refine gnt ?_
      refine gsr ?_
      refine gp zmv ?_
      refine gp zmv ?_
      refine gp zhr ?_
      refine gp (r_val (r_conv_int rfl Ty.un_3 Ty.un_5) (byte_shrI (j := 24) rfl (by decide))) ?_
      refine gp zmv ?_
      refine gp zhr ?_
      refine gp (r_val (r_conv_int rfl Ty.un_3 Ty.un_5) (byte_shrI (j := 16) rfl (by decide))) ?_
      refine gp zmv ?_
      refine gp zhr ?_
      refine gp (r_val (r_conv_int rfl Ty.un_3 Ty.un_5) (byte_shrI (j := 8) rfl (by decide))) ?_
      refine gp zmv ?_
      refine gp (r_val (r_conv_int rfl Ty.un_3 Ty.un_5) byte_nat) ?_
      refine gl_bsls (vs := (part4 n').map B8) (wt0 rfl) Ty.sl_54 Ty.sz_5 Ty.zc_5 rfl rfl (one_B8 _) rfl rfl rfl ?_
      intro b36
      refine zc (fun _ => ?_) (c := fun w1 F1 F2 h1 h2 hd hst => hwrite_ok (b := part4 n') h1 (hK.mv hst.still) (rd_row (xs := (part4 n').map B8) h2 hd (by repeat (first | exact Pick.here | apply Pick.there))) hf.1 (by rw [hf.2]; simp only [part4, List.length_cons, List.length_nil]; omega))
      refine gnt ?_
      refine gc_region ?_
      refine gp zmv ?_
      refine gp zmv ?_
      refine zc (fun _ => ?_) (c := fun w1 F1 F2 h1 h2 hd hst => hwrite_ok (b := y) h1 (hK.mv hst.still) (hrb.mv hst.still) (hWrite_rest _ _ _) (by rw [hWrite_len, hf.2]; simp only [part4, List.length_cons, List.length_nil]; omega))
      refine gl_nil ?_
      refine gx_block_normal ?_
      refine gx_then ?_
      refine gc_region ?_
      refine gp zad ?_
      refine gp zmv ?_
      refine gl_nil ?_
      refine zrd (k + 1) ?_ ?_
      · show n - (k + 1) < n - k
        omega
      · rintro w' hw
        obtain ⟨F', hF', hst'⟩ := hw.sel (M := [HashR g _, blk b4 26 zD]) (by repeat (first | exact Sel.nil | (apply Sel.cons; · (repeat (first | exact Pick.here | apply Pick.there)))))
        refine ⟨F', stars_pure_mk (show k + 1 ≤ n by omega) ?_, hst'⟩
        rw [foldl_step _ _ _ hly]
        rw [hny] at hF'
        exact hF'
    · have hk' : k = parts.length := by (try simp only at hc19); omega
      subst hk'
      have hf := hFold Kc (parts.take parts.length) (hBeg Kc dom) (hWrite_rest _ _ _)
      rw [List.take_length] at hf
      have hbl : (hBeg Kc dom).len = 1 := rfl
      refine gc_exit ?_
      refine gx_then_exit ?_
      refine gx_round_exit ?_
      refine gx_block_hit ?_
      refine gx_then ?_
      refine gsr ?_
      refine gp zmv ?_
      refine zc (fun _ => ?_) (c := fun w1 F1 F2 h1 h2 hd hst => hsum_ok h1 (hK.mv hst.still) (by rw [List.take_length]; exact hf.1) (by rw [List.take_length, hf.2]; omega))
      rw [List.take_length]
      refine zal fun b9 => ?_
      refine gl_storeN (wt0 rfl) rfl rfl Ty.sz_105 fnc_length (by repeat (first | exact Pick.here | apply Pick.there)) (by simp) (fnc_one fun _ => rfl) (updL_all (by simp [fnc_length])) ?_
      refine gnt ?_
      refine gsr ?_
      refine gp (r_slice_arr (l := 0) (h := 16) rfl Ty.arr_105 Ty.sz_5 rfl ⟨_, rfl⟩ (by decide) (by decide) (by decide)) ?_
      refine gp (r_toArr rfl Ty.arr_26 (by decide)) ?_
      refine gp (r_ldN rfl Ty.row_26 Ty.sz_26 (by repeat (first | exact Pick.here | apply Pick.there)) (hOf_cut Kc dom parts) (dc_length _)) ?_
      refine gl_storeN (wt0 rfl) rfl rfl Ty.sz_26 (dc_length _) (by repeat (first | exact Pick.here | apply Pick.there)) (by decide) (dc_one _) (updL_all (by rw [dc_length]; rfl)) ?_
      refine gnt ?_
      refine gc_ret ?_
      refine gx_retc rfl rfl (ld_aggS Ty.row_26 Ty.sz_26 (by repeat (first | exact Pick.here | apply Pick.there)) (by (simp only [List.drop_succ_cons, List.drop_zero, List.take_succ_cons, List.take_zero, List.cons_append, List.nil_append, List.append_assoc, drop_dc, drop_dc', take_dc, take_dc', drop_L, drop_L', take_L, take_L', len_L, Nat.reduceLeDiff, Nat.reduceSub, Nat.reduceAdd, Nat.le_refl, List.length_cons, List.length_append, List.length_nil, dc_length, List.drop_nil, List.take_nil, List.append_nil, List.length_map, List.length_replicate]; first | done | rfl)) (by first | rfl | (simp only [List.drop_succ_cons, List.drop_zero, List.take_succ_cons, List.take_zero, List.cons_append, List.nil_append, List.append_assoc, drop_dc, drop_dc', take_dc, take_dc', drop_L, drop_L', take_L, take_L', len_L, Nat.reduceLeDiff, Nat.reduceSub, Nat.reduceAdd, Nat.le_refl, List.length_cons, List.length_append, List.length_nil, dc_length, List.drop_nil, List.take_nil, List.append_nil, List.length_map, List.length_replicate]; first | done | omega))) ?_
      exact ze ()

end Go.Proofs.YtobjojeliibinaaDoor

/- Walks, by program (wg.py) out of a spec. -/
namespace Go.Proofs.YtobjojeliibinaaDoor
open Go
set_option linter.unusedVariables false
set_option linter.unusedSimpArgs false


def wEnc (m : Msg) : WS := if m.kind < 1 ∨ 6 < m.kind then ⟨4, []⟩ else wMsg m ⟨0, []⟩
def idOf (b : Block) : Dig := if (wBlock b ⟨0, []⟩).err = 0 then dOf Kc 6 [(wBlock b ⟨0, []⟩).bs] else dig0
theorem wVote_len (v : Vote) (s : WS) : (wVote v s).bs.length ≤ s.bs.length + 1198 := by
  have h1 := wAt_len v.epoch v.round s; have h2 := wDig_len v.block (wAt v.epoch v.round s); have h3 := wSigned_len v.sender (wDig v.block (wAt v.epoch v.round s)); unfold wVote; omega
theorem wTmo_len (v : Tmo) (s : WS) : (wTmo v s).bs.length ≤ s.bs.length + 17670 := by
  have h1 := wAt_len v.epoch v.round s; have h2 := wQC_len v.high (wAt v.epoch v.round s); have h3 := wTC_len v.last (wQC v.high (wAt v.epoch v.round s)); have h4 := wSigned_len v.sender (wTC v.last (wQC v.high (wAt v.epoch v.round s))); unfold wTmo; omega
theorem wProp_len (v : Prop') (s : WS) : (wProp v s).bs.length ≤ s.bs.length + 17914 := by
  have h1 := wBlock_len v.block s; have h2 := wTC_len v.last (wBlock v.block s); have h3 := wSigned_len v.sender (wTC v.last (wBlock v.block s)); unfold wProp; omega
theorem wChg_len (c : Chg) (h : c.blocks.length = 3) (s : WS) : (wChg c s).bs.length ≤ s.bs.length + 33686 := by
  have h1 := foldl_len (c := 8485) (fun b s => wBlock_len b s) c.blocks s; have h2 := wQC_len c.qc (c.blocks.foldl (fun s b => wBlock b s) s); rw [h] at h1; unfold wChg; omega
theorem wBody_len (m : Msg) (h : m.chg.blocks.length = 3) (s : WS) : (wBody m s).bs.length ≤ s.bs.length + 33686 := by
  have h1 := wVote_len m.vote s; have h2 := wTmo_len m.tmo s; have h3 := wProp_len m.prop s; have h4 := wDig_len m.wantFrom s; have h5 := wDig_len m.wantBlock (wDig m.wantFrom s); have h6 := wBlock_len m.reply s; have h7 := wChg_len m.chg h s
  unfold wBody; split; omega; split; omega; split; omega; split; omega; split <;> omega
theorem wMsg_len (m : Msg) (h : m.chg.blocks.length = 3) (s : WS) : (wMsg m s).bs.length ≤ s.bs.length + 33687 := by
  have h1 := wNum_len m.kind 1 s; have h2 := wBody_len m h (wNum m.kind 1 s); unfold wMsg; omega
theorem RdMsg.three {w : World} {A : Nat → Prop} {cs : List Value} {m : Msg} (h : RdMsg w A cs m) : m.chg.blocks.length = 3 := by
  obtain ⟨v, t, p, r, c, h1, h2, h3, h4, h5, h6⟩ := h; obtain ⟨css, q, h1, h2, h3, h4, h5, h6⟩ := h6; exact h4
theorem RdList.single {α : Type} {rd : List Value → α → Prop} {w : World} {A : Nat → Prop} {size : Nat} {a : Option Addr} {cs : List Value} {x : α} (hr : RdRow w A size a 1 cs) (hx : rd cs x) : RdList rd w A size a 1 [x] :=
  ⟨[cs], by simpa using hr, by simpa using hr.1, rfl, fun i c y h1 h2 => by
    cases i with
    | zero => simp at h1 h2; subst h1; subst h2; exact hx
    | succ i => simp at h1⟩
theorem rd_le {L L' : List Res} {w : World} {F2 : Nat → Prop} {e size n c : Nat} {a : Option Addr} {xs : List Value} (h2 : stars L w F2) (hp : Pick L (rowR e size a n c xs) L') : n ≤ c := by
  obtain ⟨F', h', hs⟩ := stars_pick hp h2; exact h'.2.1

attribute [local irreducible] Gl Gc Gx Gs Runs Wt






set_option maxHeartbeats 400000 in
theorem id_ok {w : World} {F : Nat → Prop} {TE : Nat} {ea : Nat → Addr} {cs : List Value} {x : Block} (h : stars [] w F) {es : List Nat} [Has es 1] (hE : GErr es w (fun k => ¬ F k) TE ea) (hK : KR w (fun k => ¬ F k)) (hx : RdBlock w (fun k => ¬ F k) cs x) :
    Calls Tryd.prog 10 #[.agg cs.toArray] w (Post w F (fun _ : Unit => .tuple #[.agg (dc (idOf x)).toArray, eV TE ea (wBlock x ⟨0, []⟩).err]) (fun _ => [])) := by
  have hl := hx.len
  have hbl := wBlock_len x ⟨0, []⟩
  simp only [List.length_nil] at hbl
  refine g_enter (env := [(0, .agg cs.toArray)]) Tryd.func10 rfl h Tryd.ntmps10 rfl rfl ?_
  refine gsr ?_
  refine zbN fun b1 => ?_
  refine zal fun b2 => ?_
  refine gp zas ?_
  refine gnt ?_
  refine gsr ?_
  refine gp (r_ldN rfl Ty.row_33 Ty.sz_33 (by repeat (first | exact Pick.here | apply Pick.there)) (seg_all hl) hl) ?_
  refine zc (fun r8 => ?_) (c := fun w1 F1 F2 h1 h2 hd hst => bytes_ok h1 (hE.mv hst.still) (hx.mv hst.still))
  refine gp zmv ?_
  refine gp zex ?_
  refine gp zex ?_
  refine gp zas ?_
  refine gp zas ?_
  refine gnt ?_
  refine gc_seq ?_
  refine gsr ?_
  refine gp zmv ?_
  refine gp (r_nenil rfl (by kernel_rfl)) ?_
  refine gnt ?_
  refine gif rfl (fun hc12 => ?_) (fun hc12 => ?_)
  · try simp only at hc12
    have he : ¬ (wBlock x ⟨0, []⟩).err = 0 := by simpa using hc12
    refine gsr ?_
    refine gp zba ?_
    refine gp zmv ?_
    refine gl_storeN (wt0 rfl) (new := dc dig0) rfl rfl Ty.sz_26 (dc_length _) (by repeat (first | exact Pick.here | apply Pick.there)) (by decide) (dc_one _) (updL_all (by rw [dc_length]; rfl)) ?_
    refine gp zas ?_
    refine gnt ?_
    refine gc_ret ?_
    refine gx_then_ret ?_
    refine gx_retct rfl rfl (by conv => lhs; whnf) (ld_aggS Ty.row_26 Ty.sz_26 (by repeat (first | exact Pick.here | apply Pick.there)) (by (simp only [List.drop_succ_cons, List.drop_zero, List.take_succ_cons, List.take_zero, List.cons_append, List.nil_append, List.append_assoc, drop_dc, drop_dc', take_dc, take_dc', drop_L, drop_L', take_L, take_L', len_L, Nat.reduceLeDiff, Nat.reduceSub, Nat.reduceAdd, Nat.le_refl, List.length_cons, List.length_append, List.length_nil, dc_length, List.drop_nil, List.take_nil, List.append_nil, List.length_map, List.length_replicate]; first | done | rfl)) (by first | rfl | (simp only [List.drop_succ_cons, List.drop_zero, List.take_succ_cons, List.take_zero, List.cons_append, List.nil_append, List.append_assoc, drop_dc, drop_dc', take_dc, take_dc', drop_L, drop_L', take_L, take_L', len_L, Nat.reduceLeDiff, Nat.reduceSub, Nat.reduceAdd, Nat.le_refl, List.length_cons, List.length_append, List.length_nil, dc_length, List.drop_nil, List.take_nil, List.append_nil, List.length_map, List.length_replicate]; first | done | omega))) ?_
    exact fun w' hw => ⟨(), by rw [idOf, if_neg he], hw.sel (by repeat (first | exact Sel.nil | (apply Sel.cons; · (repeat (first | exact Pick.here | apply Pick.there)))))⟩
  · try simp only at hc12
    have he : (wBlock x ⟨0, []⟩).err = 0 := by simpa using hc12
    refine gc_skip ?_
    refine gx_then ?_
    refine gsr ?_
    refine gp zmv ?_
    refine ze1 fun b16 => ?_
    refine zc (fun _ => ?_) (c := fun w1 F1 F2 h1 h2 hd hst => of_ok (parts := [wOut (wBlock x ⟨0, []⟩)]) h1 (hK.mv hst.still) (RdList.single (rd_row (xs := [.slice r8.1 (wOut (wBlock x ⟨0, []⟩)).length r8.2]) h2 hd (by repeat (first | exact Pick.here | apply Pick.there))) ⟨_, _, _, rfl, rd_le (xs := (wOut (wBlock x ⟨0, []⟩)).map B8) h2 (by repeat (first | exact Pick.here | apply Pick.there)), rd_row (xs := (wOut (wBlock x ⟨0, []⟩)).map B8) h2 hd (by repeat (first | exact Pick.here | apply Pick.there))⟩) (by simp only [pcost, wOut, List.map_cons, List.map_nil, List.sum_cons, List.sum_nil]; split <;> simp <;> omega))
    refine gl_storeN (wt0 rfl) rfl rfl Ty.sz_26 (dc_length _) (by repeat (first | exact Pick.here | apply Pick.there)) (by decide) (dc_one _) (updL_all (by rw [dc_length]; rfl)) ?_
    refine gp zas ?_
    refine gnt ?_
    refine gc_ret ?_
    refine gx_retct rfl rfl (by conv => lhs; whnf) (ld_aggS Ty.row_26 Ty.sz_26 (by repeat (first | exact Pick.here | apply Pick.there)) (by (simp only [List.drop_succ_cons, List.drop_zero, List.take_succ_cons, List.take_zero, List.cons_append, List.nil_append, List.append_assoc, drop_dc, drop_dc', take_dc, take_dc', drop_L, drop_L', take_L, take_L', len_L, Nat.reduceLeDiff, Nat.reduceSub, Nat.reduceAdd, Nat.le_refl, List.length_cons, List.length_append, List.length_nil, dc_length, List.drop_nil, List.take_nil, List.append_nil, List.length_map, List.length_replicate]; first | done | rfl)) (by first | rfl | (simp only [List.drop_succ_cons, List.drop_zero, List.take_succ_cons, List.take_zero, List.cons_append, List.nil_append, List.append_assoc, drop_dc, drop_dc', take_dc, take_dc', drop_L, drop_L', take_L, take_L', len_L, Nat.reduceLeDiff, Nat.reduceSub, Nat.reduceAdd, Nat.le_refl, List.length_cons, List.length_append, List.length_nil, dc_length, List.drop_nil, List.take_nil, List.append_nil, List.length_map, List.length_replicate]; first | done | omega))) ?_
    exact fun w' hw => ⟨(), by rw [idOf, if_pos he, wOut, if_pos he, he, eV_zero], hw.sel (by repeat (first | exact Sel.nil | (apply Sel.cons; · (repeat (first | exact Pick.here | apply Pick.there)))))⟩

end Go.Proofs.YtobjojeliibinaaDoor

/- Plain words: what the reader of layer 9 makes of bytes; that it undoes the writer, and the writer it. No program in sight. -/
namespace Go.Proofs.YtobjojeliibinaaDoor
set_option linter.unusedVariables false

/-- A reading: a value and what is left, or an error's number. -/
abbrev PR (α : Type) := List UInt8 → Except Nat (α × List UInt8)
def pBind {α β : Type} (p : PR α) (f : α → PR β) : PR β := fun b => match p b with
  | .error e => .error e
  | .ok x => f x.1 x.2
def pPure {α : Type} (x : α) : PR α := fun b => .ok (x, b)
def pErr {α : Type} (e : Nat) : PR α := fun _ => .error e
def pTake (n : Nat) : PR (List UInt8) := fun b => if b.length < n then .error 2 else .ok (b.take n, b.drop n)
def valN (l : List UInt8) : Nat := l.foldl (fun n c => n * 256 + c.toNat) 0
def pNum (wd : Nat) : PR Int := pBind (pTake wd) fun l => pPure (valN l : Int)
def digOf (l : List UInt8) : Dig := if h : l.length = 16 then ⟨l, h⟩ else dig0
def pDig : PR Dig := pBind (pTake 16) fun l => pPure (digOf l)
def pMany {α : Type} (one : PR α) : Nat → PR (List α)
  | 0 => pPure []
  | k + 1 => pBind one fun x => pBind (pMany one k) fun l => pPure (x :: l)
def pList {α : Type} (one : PR α) (most : Nat) : PR (List α) := pBind (pNum 1) fun n => if (most : Int) < n then pErr 1 else pMany one n.toNat
def pBytes (most : Nat) : PR (List UInt8) := pBind (pNum 2) fun n => if (most : Int) < n then pErr 1 else pTake n.toNat
def pSig : PR Sig := pBind (pNum 1) fun l => pBind (pList pDig 68) fun c => pBind (pList pDig 5) fun p => pPure ⟨l, c, p⟩
def pSigned : PR Signed := pBind (pNum 1) fun w => pBind pSig fun s => pPure ⟨w, s⟩
def pAt : PR (Int × Int) := pBind (pNum 4) fun e => pBind (pNum 6) fun r => pPure (e, r)
def pQC : PR QC := pBind pAt fun a => pBind pDig fun d => pBind (pList pSigned 7) fun v => pPure ⟨a.1, a.2, d, v⟩
def pLate : PR Late := pBind (pNum 1) fun w => pBind (pNum 6) fun h => pBind pSig fun s => pPure ⟨w, h, s⟩
def pTC : PR TC := pBind pAt fun a => pBind (pList pLate 7) fun l => pPure ⟨a.1, a.2, l⟩
def pVdr : PR Vdr := pBind pDig fun k => pBind (pNum 6) fun p => pPure ⟨k, p⟩
def pBlock : PR Block := pBind pAt fun a => pBind pDig fun d => pBind pQC fun q => pBind (pList (pBytes 16) 4) fun t => pBind (pList pVdr 7) fun v => pPure ⟨a.1, a.2, d, q, t, v⟩
def pChg : PR Chg := pBind (pMany pBlock 3) fun bs => pBind pQC fun q => pPure ⟨bs, q⟩
def pVote : PR Vote := pBind pAt fun a => pBind pDig fun d => pBind pSigned fun s => pPure ⟨a.1, a.2, d, s⟩
def pTmo : PR Tmo := pBind pAt fun a => pBind pQC fun q => pBind pTC fun t => pBind pSigned fun s => pPure ⟨a.1, a.2, q, t, s⟩
def pProp : PR Prop' := pBind pBlock fun b => pBind pTC fun t => pBind pSigned fun s => pPure ⟨b, t, s⟩
def sig0 : Sig := ⟨0, [], []⟩
def sgn0 : Signed := ⟨0, sig0⟩
def qc0 : QC := ⟨0, 0, dig0, []⟩
def tc0 : TC := ⟨0, 0, []⟩
def blk0 : Block := ⟨0, 0, dig0, qc0, [], []⟩
def chg0 : Chg := ⟨[blk0, blk0, blk0], qc0⟩
def msg0 (k : Int) : Msg := ⟨k, ⟨0, 0, dig0, sgn0⟩, ⟨0, 0, qc0, tc0, sgn0⟩, ⟨blk0, tc0, sgn0⟩, dig0, dig0, blk0, chg0⟩
def pBody (k : Int) : PR Msg :=
  if k = 1 then pBind pVote fun v => pPure { msg0 k with vote := v }
  else if k = 2 then pBind pTmo fun v => pPure { msg0 k with tmo := v }
  else if k = 3 then pBind pProp fun v => pPure { msg0 k with prop := v }
  else if k = 4 then pBind pDig fun d => pBind pDig fun e => pPure { msg0 k with wantFrom := d, wantBlock := e }
  else if k = 5 then pBind pBlock fun v => pPure { msg0 k with reply := v }
  else if k = 6 then pBind pChg fun v => pPure { msg0 k with chg := v }
  else pErr 4
def pMsg : PR Msg := pBind (pNum 1) pBody
/-- All bytes are read. -/
def pAll {α : Type} (p : PR α) (b : List UInt8) : Except Nat α := match p b with
  | .error e => .error e
  | .ok x => if x.2 = [] then .ok x.1 else .error 3
/-- A message with its kind's fields alone. -/
def plainM (m : Msg) : Msg :=
  if m.kind = 1 then { msg0 m.kind with vote := m.vote }
  else if m.kind = 2 then { msg0 m.kind with tmo := m.tmo }
  else if m.kind = 3 then { msg0 m.kind with prop := m.prop }
  else if m.kind = 4 then { msg0 m.kind with wantFrom := m.wantFrom, wantBlock := m.wantBlock }
  else if m.kind = 5 then { msg0 m.kind with reply := m.reply }
  else if m.kind = 6 then { msg0 m.kind with chg := m.chg }
  else msg0 m.kind

/-! ### Numbers -/
theorem valN_go (l : List UInt8) (a : Nat) : l.foldl (fun n c => n * 256 + c.toNat) a = a * 256 ^ l.length + valN l := by
  unfold valN
  induction l generalizing a with
  | nil => simp
  | cons c l ih =>
    rw [List.foldl_cons, ih, List.foldl_cons, ih (0 * 256 + c.toNat), List.length_cons, Nat.pow_succ, Nat.add_mul, Nat.zero_mul, Nat.zero_add, Nat.mul_comm (256 ^ l.length) 256, ← Nat.mul_assoc]
    omega
theorem valN_cons (c : UInt8) (l : List UInt8) : valN (c :: l) = c.toNat * 256 ^ l.length + valN l := by
  conv => lhs; unfold valN
  rw [List.foldl_cons, valN_go, Nat.zero_mul, Nat.zero_add]
theorem valN_lt (l : List UInt8) : valN l < 256 ^ l.length := by
  induction l with
  | nil => simp [valN]
  | cons c l ih =>
    rw [valN_cons, List.length_cons, Nat.pow_succ]
    have := c.toNat_lt
    have h2 : c.toNat * 256 ^ l.length ≤ 255 * 256 ^ l.length := Nat.mul_le_mul_right _ (by omega)
    omega
theorem beN_succ (n : Int) (wd : Nat) : beN n (wd + 1) = byteAt n wd :: beN n wd := by
  simp only [beN, List.range_succ_eq_map, List.map_cons, List.map_map]
  congr 1
  apply List.map_congr_left
  intro j hj
  simp only [Function.comp]
  congr 1
  omega
theorem byteAt_nat (n i : Nat) : byteAt (n : Int) i = UInt8.ofNat (n / 256 ^ i) := by
  unfold byteAt
  have e : (2 : Int) ^ (8 * i) = ((256 ^ i : Nat) : Int) := by
    rw [Int.pow_mul]; simp
  rw [e, ← Int.natCast_ediv, show ((n / 256 ^ i : Nat) : Int) % 256 = ((n / 256 ^ i % 256 : Nat) : Int) by simp, Int.toNat_natCast]
  apply UInt8.toNat_inj.1
  simp
theorem valN_beN (n wd : Nat) : valN (beN (n : Int) wd) = n % 256 ^ wd := by
  induction wd with
  | zero => simp [beN, valN, Nat.mod_one]
  | succ wd ih =>
    have e : n % 256 ^ (wd + 1) = n % 256 ^ wd + 256 ^ wd * (n / 256 ^ wd % 256) := by rw [Nat.pow_succ, Nat.mod_mul]
    rw [beN_succ, valN_cons, ih, beN_length, byteAt_nat, UInt8.toNat_ofNat', e]
    rw [Nat.add_comm, Nat.mul_comm]
theorem beN_mod (c v k j : Nat) (h : j ≤ k) : beN ((c * 256 ^ k + v : Nat) : Int) j = beN (v : Int) j := by
  induction j with
  | zero => rfl
  | succ j ih =>
    rw [beN_succ, beN_succ, ih (by omega), byteAt_nat, byteAt_nat]
    congr 1
    apply UInt8.toNat_inj.1
    obtain ⟨d, rfl⟩ : ∃ d, k = j + 1 + d := ⟨k - (j + 1), by omega⟩
    have e : c * 256 ^ (j + 1 + d) + v = v + 256 ^ j * (256 * (256 ^ d * c)) := by
      rw [Nat.pow_add, Nat.pow_succ]
      rw [Nat.add_comm]; congr 1
      rw [Nat.mul_comm c, Nat.mul_assoc, Nat.mul_assoc]
    rw [e, UInt8.toNat_ofNat', UInt8.toNat_ofNat', Nat.add_mul_div_left _ _ (Nat.pow_pos (by decide))]
    omega
theorem beN_valN (l : List UInt8) : beN (valN l : Int) l.length = l := by
  induction l with
  | nil => rfl
  | cons c l ih =>
    rw [List.length_cons, beN_succ, valN_cons, beN_mod _ _ _ _ (Nat.le_refl _), ih, byteAt_nat]
    congr 1
    apply UInt8.toNat_inj.1
    rw [UInt8.toNat_ofNat', Nat.mul_comm, Nat.mul_add_div (Nat.pow_pos (by decide)), Nat.div_eq_of_lt (valN_lt l)]
    have := c.toNat_lt
    omega

/-! ### What is written is read -/
/-- What W writes is what p reads. -/
def Enc {α : Type} (W : α → WS → WS) (p : PR α) : Prop := ∀ x s, (W x s).err = 0 → s.err = 0 ∧ ∃ b, (W x s).bs = s.bs ++ b ∧ ∀ r, p (b ++ r) = .ok (x, r)
/-- What p reads is what W writes. -/
def Dec {α : Type} (W : α → WS → WS) (p : PR α) : Prop := ∀ b x r, p b = .ok (x, r) → ∃ b', b = b' ++ r ∧ ∀ s, s.err = 0 → W x s = ⟨0, s.bs ++ b'⟩
/-- What p reads it reads whatever is behind; cut short it is short. -/
def Loc {α : Type} (p : PR α) : Prop := ∀ b x r, p b = .ok (x, r) → ∃ b', b = b' ++ r ∧ (∀ m, p (b' ++ m) = .ok (x, m)) ∧ ∀ k, k < b'.length → p (b'.take k) = .error 2

theorem pBind_ok {α β : Type} {p : PR α} {f : α → PR β} {b r : List UInt8} {y : β} (h : pBind p f b = .ok (y, r)) : ∃ x r1, p b = .ok (x, r1) ∧ f x r1 = .ok (y, r) := by
  unfold pBind at h
  cases hp : p b with
  | error e => rw [hp] at h; cases h
  | ok x => rw [hp] at h; exact ⟨x.1, x.2, rfl, h⟩
theorem pBind_eq {α β : Type} {p : PR α} {f : α → PR β} {b r : List UInt8} {x : α} (h : p b = .ok (x, r)) : pBind p f b = f x r := by
  unfold pBind; rw [h]
theorem pBind_err {α β : Type} {p : PR α} {f : α → PR β} {b : List UInt8} {e : Nat} (h : p b = .error e) : pBind p f b = .error e := by
  unfold pBind; rw [h]
theorem pTake_ok {n : Nat} {b l r : List UInt8} (h : pTake n b = .ok (l, r)) : b = l ++ r ∧ l.length = n := by
  unfold pTake at h
  split at h
  · cases h
  · simp only [Except.ok.injEq, Prod.mk.injEq] at h
    obtain ⟨rfl, rfl⟩ := h
    simp; omega
theorem pTake_app (l r : List UInt8) : pTake l.length (l ++ r) = .ok (l, r) := by
  simp [pTake]
theorem pNum_app {wd n : Nat} (h : n < 256 ^ wd) (r : List UInt8) : pNum wd (beN (n : Int) wd ++ r) = .ok ((n : Int), r) := by
  have := pTake_app (beN (n : Int) wd) r
  rw [beN_length] at this
  rw [pNum, pBind_eq this, valN_beN, Nat.mod_eq_of_lt h]; rfl
theorem pNum_ok {wd : Nat} {b r : List UInt8} {n : Int} (h : pNum wd b = .ok (n, r)) : ∃ m : Nat, n = m ∧ m < 256 ^ wd ∧ b = beN n wd ++ r := by
  obtain ⟨l, r1, h1, h2⟩ := pBind_ok h
  obtain ⟨rfl, rfl⟩ := pTake_ok h1
  simp only [pPure, Except.ok.injEq, Prod.mk.injEq] at h2
  obtain ⟨rfl, rfl⟩ := h2
  exact ⟨valN l, rfl, valN_lt l, by rw [beN_valN]⟩
theorem wNum_ok {n : Int} {wd : Nat} {s : WS} (hw : wd < 8) (h : (wNum n wd s).err = 0) : s.err = 0 ∧ 0 ≤ n ∧ n < 256 ^ wd ∧ wNum n wd s = ⟨0, s.bs ++ beN n wd⟩ := by
  have e : (2 : Int) ^ (8 * wd) = 256 ^ wd := by rw [Int.pow_mul]; rfl
  unfold wNum at h ⊢
  split at h
  · exfalso
    unfold wFail at h
    split at h
    · simp at h
    · contradiction
  · rename_i hn
    rw [if_neg hn]
    have hn' : 0 ≤ n ∧ n < 256 ^ wd := by rw [← e]; omega
    unfold wFix at h ⊢
    split at h
    · rename_i hs
      rw [if_pos hs, hs]
      exact ⟨rfl, hn'.1, hn'.2, rfl⟩
    · contradiction
theorem wNum_of {n wd : Nat} {s : WS} (h : n < 256 ^ wd) (hs : s.err = 0) : wNum (n : Int) wd s = ⟨0, s.bs ++ beN n wd⟩ := by
  have e : (2 : Int) ^ (8 * wd) = ((256 ^ wd : Nat) : Int) := by rw [Int.pow_mul]; simp
  unfold wNum
  rw [e, if_neg (by omega), wFix, if_pos hs, hs]
theorem wFail_err {k : Nat} (hk : k ≠ 0) (s : WS) : (wFail k s).err ≠ 0 := by
  unfold wFail; split
  · exact hk
  · assumption
theorem wFix_ok {b : List UInt8} {s : WS} (h : (wFix b s).err = 0) : s.err = 0 ∧ wFix b s = ⟨0, s.bs ++ b⟩ := by
  unfold wFix at h ⊢
  split at h
  · rename_i hs; rw [if_pos hs, hs]; exact ⟨rfl, rfl⟩
  · contradiction
theorem wFix_of {b : List UInt8} {s : WS} (hs : s.err = 0) : wFix b s = ⟨0, s.bs ++ b⟩ := by rw [wFix, if_pos hs, hs]

theorem enc_num {wd : Nat} (hw : wd < 8) : Enc (fun n s => wNum n wd s) (pNum wd) := fun n s h => by
  obtain ⟨h1, h2, h3, h4⟩ := wNum_ok hw h
  refine ⟨h1, beN n wd, by simp only [h4], fun r => ?_⟩
  obtain ⟨m, rfl⟩ := Int.eq_ofNat_of_zero_le h2
  exact pNum_app (by have : ((m : Nat) : Int) < ((256 ^ wd : Nat) : Int) := by simpa using h3
                     omega) r
theorem dec_num {wd : Nat} : Dec (fun n s => wNum n wd s) (pNum wd) := fun b n r h => by
  obtain ⟨m, rfl, h2, h3⟩ := pNum_ok h
  exact ⟨beN m wd, h3, fun s hs => wNum_of h2 hs⟩
theorem enc_dig : Enc wDig pDig := fun d s h => by
  obtain ⟨h1, h2⟩ := wFix_ok h
  refine ⟨h1, d.l, by simp only [wDig, h2], fun r => ?_⟩
  have := pTake_app d.l r
  rw [d.h] at this
  rw [pDig, pBind_eq this, digOf, dif_pos d.h]; rfl
theorem dec_dig : Dec wDig pDig := fun b d r h => by
  obtain ⟨l, r1, h1, h2⟩ := pBind_ok h
  obtain ⟨rfl, hl⟩ := pTake_ok h1
  simp only [pPure, Except.ok.injEq, Prod.mk.injEq, digOf, dif_pos hl] at h2
  obtain ⟨rfl, rfl⟩ := h2
  exact ⟨l, rfl, fun s hs => wFix_of hs⟩
/-- One behind the other: first a part, then the rest. -/
theorem enc_bind {α β : Type} {W : α → WS → WS} {p : PR α} (h : Enc W p) {V : β → WS → WS} {q : α → PR β} {g : β → α} (hv : ∀ y s, (V y s).err = 0 → s.err = 0 ∧ ∃ b, (V y s).bs = s.bs ++ b ∧ ∀ r, q (g y) (b ++ r) = .ok (y, r)) :
    Enc (fun y s => V y (W (g y) s)) (pBind p q) := fun y s hs => by
  obtain ⟨h1, b2, e2, k2⟩ := hv y _ hs
  obtain ⟨h3, b1, e1, k1⟩ := h _ _ h1
  refine ⟨h3, b1 ++ b2, by rw [e2, e1, List.append_assoc], fun r => ?_⟩
  rw [List.append_assoc, pBind_eq (k1 _), k2]
theorem dec_bind {α β : Type} {W : α → WS → WS} {p : PR α} (h : Dec W p) {V : β → WS → WS} {q : α → PR β} {g : β → α}
    (hv : ∀ a b y r, q a b = .ok (y, r) → g y = a ∧ ∃ b', b = b' ++ r ∧ ∀ s, s.err = 0 → V y s = ⟨0, s.bs ++ b'⟩) : Dec (fun y s => V y (W (g y) s)) (pBind p q) := fun b y r hb => by
  obtain ⟨x, r1, h1, h2⟩ := pBind_ok hb
  obtain ⟨b1, rfl, k1⟩ := h _ _ _ h1
  obtain ⟨rfl, b2, rfl, k2⟩ := hv _ _ _ _ h2
  exact ⟨b1 ++ b2, by rw [List.append_assoc], fun s hs => by show V y (W (g y) s) = _; rw [k1 s hs, k2 _ rfl, List.append_assoc]⟩
theorem foldl_err {α : Type} {W : α → WS → WS} (h : ∀ x s, (W x s).err = 0 → s.err = 0) : ∀ (l : List α) (s : WS), (l.foldl (fun s x => W x s) s).err = 0 → s.err = 0
  | [], s, hs => hs
  | x :: l, s, hs => h x s (foldl_err h l _ hs)
theorem enc_many {α : Type} {W : α → WS → WS} {p : PR α} (h : Enc W p) : ∀ (l : List α) (s : WS), (l.foldl (fun s x => W x s) s).err = 0 → s.err = 0 ∧ ∃ b, (l.foldl (fun s x => W x s) s).bs = s.bs ++ b ∧ ∀ r, pMany p l.length (b ++ r) = .ok (l, r)
  | [], s, hs => ⟨hs, [], by simp, fun r => rfl⟩
  | x :: l, s, hs => by
    obtain ⟨h1, b2, e2, k2⟩ := enc_many h l (W x s) hs
    obtain ⟨h3, b1, e1, k1⟩ := h _ _ h1
    refine ⟨h3, b1 ++ b2, by rw [List.foldl_cons, e2, e1, List.append_assoc], fun r => ?_⟩
    rw [List.append_assoc, List.length_cons, pMany, pBind_eq (k1 _), pBind_eq (k2 _)]; rfl
theorem dec_many {α : Type} {W : α → WS → WS} {p : PR α} (h : Dec W p) : ∀ (n : Nat) (b : List UInt8) (l : List α) (r : List UInt8), pMany p n b = .ok (l, r) → l.length = n ∧ ∃ b', b = b' ++ r ∧ ∀ s, s.err = 0 → l.foldl (fun s x => W x s) s = ⟨0, s.bs ++ b'⟩
  | 0, b, l, r, hb => by
    simp only [pMany, pPure, Except.ok.injEq, Prod.mk.injEq] at hb
    obtain ⟨rfl, rfl⟩ := hb
    exact ⟨rfl, [], rfl, fun s hs => by rw [← hs]; simp⟩
  | n + 1, b, l, r, hb => by
    obtain ⟨x, r1, h1, h2⟩ := pBind_ok hb
    obtain ⟨l', r2, h3, h4⟩ := pBind_ok h2
    simp only [pPure, Except.ok.injEq, Prod.mk.injEq] at h4
    obtain ⟨rfl, rfl⟩ := h4
    obtain ⟨b1, rfl, k1⟩ := h _ _ _ h1
    obtain ⟨hl, b2, rfl, k2⟩ := dec_many h n _ _ _ h3
    exact ⟨by simp [hl], b1 ++ b2, by rw [List.append_assoc], fun s hs => by rw [List.foldl_cons, k1 s hs, k2 _ rfl, List.append_assoc]⟩
theorem enc_list {α : Type} {W : α → WS → WS} {p : PR α} (h : Enc W p) (most : Nat) : Enc (fun l s => wPut W l most s) (pList p most) := fun l s hs => by
  simp only [wPut] at hs ⊢
  split at hs
  · exact absurd hs (wFail_err (by decide) s)
  · rename_i hn
    rw [if_neg hn]
    obtain ⟨h1, b2, e2, k2⟩ := enc_many h l _ hs
    obtain ⟨h3, b1, e1, k1⟩ := enc_num (wd := 1) (by decide) _ _ h1
    refine ⟨h3, b1 ++ b2, by rw [e2, e1, List.append_assoc], fun r => ?_⟩
    rw [List.append_assoc, pList, pBind_eq (k1 _), if_neg (by omega), Int.toNat_natCast, k2]
theorem dec_list {α : Type} {W : α → WS → WS} {p : PR α} (h : Dec W p) (most : Nat) : Dec (fun l s => wPut W l most s) (pList p most) := fun b l r hb => by
  obtain ⟨n, r1, h1, h2⟩ := pBind_ok hb
  obtain ⟨m, rfl, hm, _⟩ := pNum_ok h1
  obtain ⟨b1, rfl, k1⟩ := dec_num _ _ _ h1
  split at h2
  · cases h2
  · rename_i hn
    rw [Int.toNat_natCast] at h2
    obtain ⟨hl, b2, rfl, k2⟩ := dec_many h _ _ _ _ h2
    refine ⟨b1 ++ b2, by rw [List.append_assoc], fun s hs => ?_⟩
    simp only [wPut]
    rw [if_neg (by omega), hl, show wNum (m : Int) 1 s = _ from k1 s hs, k2 _ rfl, List.append_assoc]
theorem enc_bytes {most : Nat} : Enc (fun b s => wBytes b most s) (pBytes most) := fun l s hs => by
  simp only [wBytes] at hs ⊢
  split at hs
  · exact absurd hs (wFail_err (by decide) s)
  · rename_i hn
    rw [if_neg hn]
    obtain ⟨h1, h2⟩ := wFix_ok hs
    obtain ⟨h3, b1, e1, k1⟩ := enc_num (wd := 2) (by decide) _ _ h1
    refine ⟨h3, b1 ++ l, by simp only [h2, e1, List.append_assoc], fun r => ?_⟩
    rw [List.append_assoc, pBytes, pBind_eq (k1 _), if_neg (by omega), Int.toNat_natCast, pTake_app]
theorem dec_bytes {most : Nat} : Dec (fun b s => wBytes b most s) (pBytes most) := fun b l r hb => by
  obtain ⟨n, r1, h1, h2⟩ := pBind_ok hb
  obtain ⟨m, rfl, hm, _⟩ := pNum_ok h1
  obtain ⟨b1, rfl, k1⟩ := dec_num _ _ _ h1
  split at h2
  · cases h2
  · rename_i hn
    rw [Int.toNat_natCast] at h2
    obtain ⟨rfl, hl⟩ := pTake_ok h2
    refine ⟨b1 ++ l, by rw [List.append_assoc], fun s hs => ?_⟩
    simp only [wBytes]
    rw [if_neg (by omega), hl, show wNum (m : Int) 2 s = _ from k1 s hs, wFix_of rfl, List.append_assoc]

/-! ### Cut short -/
theorem loc_pure {α : Type} (x : α) : Loc (pPure x) := fun b y r h => by
  simp only [pPure, Except.ok.injEq, Prod.mk.injEq] at h
  obtain ⟨rfl, rfl⟩ := h
  exact ⟨[], rfl, fun m => rfl, fun k hk => absurd hk (by simp)⟩
theorem loc_err {α : Type} (e : Nat) : Loc (pErr (α := α) e) := fun b y r h => by cases h
theorem loc_take (n : Nat) : Loc (pTake n) := fun b l r h => by
  obtain ⟨rfl, hl⟩ := pTake_ok h
  refine ⟨l, rfl, fun m => by rw [← hl]; exact pTake_app l m, fun k hk => ?_⟩
  unfold pTake
  rw [if_pos (by rw [List.length_take]; omega)]
theorem loc_bind {α β : Type} {p : PR α} {f : α → PR β} (hp : Loc p) (hf : ∀ x, Loc (f x)) : Loc (pBind p f) := fun b y r h => by
  obtain ⟨x, r1, h1, h2⟩ := pBind_ok h
  obtain ⟨b1, rfl, k1, s1⟩ := hp _ _ _ h1
  obtain ⟨b2, rfl, k2, s2⟩ := hf _ _ _ _ h2
  refine ⟨b1 ++ b2, by rw [List.append_assoc], fun m => by rw [List.append_assoc, pBind_eq (k1 _), k2], fun k hk => ?_⟩
  by_cases hk1 : k < b1.length
  · rw [List.take_append_of_le_length (by omega), pBind_err (s1 k hk1)]
  · obtain ⟨j, rfl⟩ : ∃ j, k = b1.length + j := ⟨k - b1.length, by omega⟩
    rw [List.take_append, pBind_eq (x := x) (r := b2.take j)]
    · exact s2 j (by rw [List.length_append] at hk; omega)
    · rw [List.take_of_length_le (by omega), Nat.add_sub_cancel_left]; exact k1 _
theorem loc_num (wd : Nat) : Loc (pNum wd) := loc_bind (loc_take wd) fun _ => loc_pure _
theorem loc_dig : Loc pDig := loc_bind (loc_take 16) fun _ => loc_pure _
theorem loc_many {α : Type} {p : PR α} (h : Loc p) : ∀ n, Loc (pMany p n)
  | 0 => loc_pure _
  | n + 1 => loc_bind h fun _ => loc_bind (loc_many h n) fun _ => loc_pure _
theorem loc_ite {α : Type} {c : Prop} [Decidable c] {p q : PR α} (hp : Loc p) (hq : Loc q) : Loc (if c then p else q) := by split <;> assumption
theorem loc_list {α : Type} {p : PR α} (h : Loc p) (most : Nat) : Loc (pList p most) := loc_bind (loc_num 1) fun _ => loc_ite (loc_err 1) (loc_many h _)
theorem loc_bytes (most : Nat) : Loc (pBytes most) := loc_bind (loc_num 2) fun _ => loc_ite (loc_err 1) (loc_take _)
theorem loc_sig : Loc pSig := loc_bind (loc_num 1) fun _ => loc_bind (loc_list loc_dig 68) fun _ => loc_bind (loc_list loc_dig 5) fun _ => loc_pure _
theorem loc_signed : Loc pSigned := loc_bind (loc_num 1) fun _ => loc_bind loc_sig fun _ => loc_pure _
theorem loc_at : Loc pAt := loc_bind (loc_num 4) fun _ => loc_bind (loc_num 6) fun _ => loc_pure _
theorem loc_qc : Loc pQC := loc_bind loc_at fun _ => loc_bind loc_dig fun _ => loc_bind (loc_list loc_signed 7) fun _ => loc_pure _
theorem loc_late : Loc pLate := loc_bind (loc_num 1) fun _ => loc_bind (loc_num 6) fun _ => loc_bind loc_sig fun _ => loc_pure _
theorem loc_tc : Loc pTC := loc_bind loc_at fun _ => loc_bind (loc_list loc_late 7) fun _ => loc_pure _
theorem loc_vdr : Loc pVdr := loc_bind loc_dig fun _ => loc_bind (loc_num 6) fun _ => loc_pure _
theorem loc_block : Loc pBlock := loc_bind loc_at fun _ => loc_bind loc_dig fun _ => loc_bind loc_qc fun _ => loc_bind (loc_list (loc_bytes 16) 4) fun _ => loc_bind (loc_list loc_vdr 7) fun _ => loc_pure _
theorem loc_chg : Loc pChg := loc_bind (loc_many loc_block 3) fun _ => loc_bind loc_qc fun _ => loc_pure _
theorem loc_vote : Loc pVote := loc_bind loc_at fun _ => loc_bind loc_dig fun _ => loc_bind loc_signed fun _ => loc_pure _
theorem loc_tmo : Loc pTmo := loc_bind loc_at fun _ => loc_bind loc_qc fun _ => loc_bind loc_tc fun _ => loc_bind loc_signed fun _ => loc_pure _
theorem loc_prop : Loc pProp := loc_bind loc_block fun _ => loc_bind loc_tc fun _ => loc_bind loc_signed fun _ => loc_pure _
theorem loc_body (k : Int) : Loc (pBody k) := by
  unfold pBody
  refine loc_ite (loc_bind loc_vote fun _ => loc_pure _) (loc_ite (loc_bind loc_tmo fun _ => loc_pure _) (loc_ite (loc_bind loc_prop fun _ => loc_pure _) (loc_ite (loc_bind loc_dig fun _ => loc_bind loc_dig fun _ => loc_pure _) (loc_ite (loc_bind loc_block fun _ => loc_pure _) (loc_ite (loc_bind loc_chg fun _ => loc_pure _) (loc_err 4))))))
theorem loc_msg : Loc pMsg := loc_bind (loc_num 1) loc_body

/-! ### The parts of messages -/
theorem pPure_ok {α : Type} {x y : α} {b r : List UInt8} (h : pPure x b = .ok (y, r)) : x = y ∧ b = r := by
  simpa only [pPure, Except.ok.injEq, Prod.mk.injEq] using h
/-- The same of one value. -/
def EncAt {β : Type} (f : WS → WS) (p : PR β) (y : β) : Prop := ∀ s, (f s).err = 0 → s.err = 0 ∧ ∃ b, (f s).bs = s.bs ++ b ∧ ∀ r, p (b ++ r) = .ok (y, r)
theorem encAt_pure {β : Type} (y : β) : EncAt (fun s => s) (pPure y) y := fun s h => ⟨h, [], by simp, fun r => rfl⟩
theorem encAt_bind {α β : Type} {f g : WS → WS} {p : PR α} {q : α → PR β} {x : α} {y : β} (h : EncAt f p x) (k : EncAt g (q x) y) : EncAt (fun s => g (f s)) (pBind p q) y := fun s hs => by
  obtain ⟨h1, b2, e2, k2⟩ := k _ hs
  obtain ⟨h3, b1, e1, k1⟩ := h _ h1
  refine ⟨h3, b1 ++ b2, by rw [e2, e1, List.append_assoc], fun r => ?_⟩
  rw [List.append_assoc, pBind_eq (k1 _), k2]
theorem encAt_many {α : Type} {W : α → WS → WS} {p : PR α} (h : Enc W p) (l : List α) : EncAt (fun s => l.foldl (fun s x => W x s) s) (pMany p l.length) l := fun s hs => enc_many h l s hs
theorem dec_manyAt {α : Type} {W : α → WS → WS} {p : PR α} (h : Dec W p) {n : Nat} {b r : List UInt8} {l : List α} (hb : pMany p n b = .ok (l, r)) : ∃ b', b = b' ++ r ∧ ∀ s, s.err = 0 → l.foldl (fun s x => W x s) s = ⟨0, s.bs ++ b'⟩ := (dec_many h n b l r hb).2
def wAtP (x : Int × Int) (s : WS) : WS := wAt x.1 x.2 s
theorem enc_sig : Enc wSig pSig := fun x s hs => by
  simp only [wSig] at hs ⊢
  obtain ⟨h2, b2, e2, k2⟩ := enc_list enc_dig 5 x.path _ hs
  obtain ⟨h1, b1, e1, k1⟩ := enc_list enc_dig 68 x.chains _ h2
  obtain ⟨h0, b0, e0, k0⟩ := enc_num (wd := 1) (by decide) x.leaf _ h1
  simp only at e0 e1 e2
  refine ⟨h0, b0 ++ b1 ++ b2, ?_, fun r => ?_⟩
  · rw [e2, e1, e0]; simp only [List.append_assoc]
  · unfold pSig; simp only [List.append_assoc]; rw [pBind_eq (k0 _), pBind_eq (k1 _), pBind_eq (k2 _)]; rfl
theorem dec_sig : Dec wSig pSig := fun b x r h => by
  obtain ⟨v0, r0, h0, h⟩ := pBind_ok h
  obtain ⟨v1, r1, h1, h⟩ := pBind_ok h
  obtain ⟨v2, r2, h2, h⟩ := pBind_ok h
  obtain ⟨rfl, rfl⟩ := pPure_ok h
  obtain ⟨b0, rfl, k0⟩ := dec_num _ _ _ h0
  obtain ⟨b1, rfl, k1⟩ := dec_list dec_dig 68 _ _ _ h1
  obtain ⟨b2, rfl, k2⟩ := dec_list dec_dig 5 _ _ _ h2
  refine ⟨b0 ++ b1 ++ b2, by simp only [List.append_assoc], fun s hs => ?_⟩
  have g0 := k0 s hs
  have g1 := k1 (⟨0, s.bs ++ b0⟩ : WS) rfl
  have g2 := k2 (⟨0, s.bs ++ b0 ++ b1⟩ : WS) rfl
  simp only [wSig] at g0 g1 g2 ⊢
  rw [g0, g1, g2]
  simp only [List.append_assoc]
theorem enc_signed : Enc wSigned pSigned := fun x s hs => by
  simp only [wSigned] at hs ⊢
  obtain ⟨h1, b1, e1, k1⟩ := enc_sig x.sig _ hs
  obtain ⟨h0, b0, e0, k0⟩ := enc_num (wd := 1) (by decide) x.who _ h1
  simp only at e0 e1
  refine ⟨h0, b0 ++ b1, ?_, fun r => ?_⟩
  · rw [e1, e0]; simp only [List.append_assoc]
  · unfold pSigned; simp only [List.append_assoc]; rw [pBind_eq (k0 _), pBind_eq (k1 _)]; rfl
theorem dec_signed : Dec wSigned pSigned := fun b x r h => by
  obtain ⟨v0, r0, h0, h⟩ := pBind_ok h
  obtain ⟨v1, r1, h1, h⟩ := pBind_ok h
  obtain ⟨rfl, rfl⟩ := pPure_ok h
  obtain ⟨b0, rfl, k0⟩ := dec_num _ _ _ h0
  obtain ⟨b1, rfl, k1⟩ := dec_sig _ _ _ h1
  refine ⟨b0 ++ b1, by simp only [List.append_assoc], fun s hs => ?_⟩
  have g0 := k0 s hs
  have g1 := k1 (⟨0, s.bs ++ b0⟩ : WS) rfl
  simp only [wSigned] at g0 g1 ⊢
  rw [g0, g1]
  simp only [List.append_assoc]
theorem enc_at : Enc wAtP pAt := fun x s hs => by
  simp only [wAtP, wAt] at hs ⊢
  obtain ⟨h1, b1, e1, k1⟩ := enc_num (wd := 6) (by decide) x.2 _ hs
  obtain ⟨h0, b0, e0, k0⟩ := enc_num (wd := 4) (by decide) x.1 _ h1
  simp only at e0 e1
  refine ⟨h0, b0 ++ b1, ?_, fun r => ?_⟩
  · rw [e1, e0]; simp only [List.append_assoc]
  · unfold pAt; simp only [List.append_assoc]; rw [pBind_eq (k0 _), pBind_eq (k1 _)]; rfl
theorem dec_at : Dec wAtP pAt := fun b x r h => by
  obtain ⟨v0, r0, h0, h⟩ := pBind_ok h
  obtain ⟨v1, r1, h1, h⟩ := pBind_ok h
  obtain ⟨rfl, rfl⟩ := pPure_ok h
  obtain ⟨b0, rfl, k0⟩ := dec_num _ _ _ h0
  obtain ⟨b1, rfl, k1⟩ := dec_num _ _ _ h1
  refine ⟨b0 ++ b1, by simp only [List.append_assoc], fun s hs => ?_⟩
  have g0 := k0 s hs
  have g1 := k1 (⟨0, s.bs ++ b0⟩ : WS) rfl
  simp only [wAtP, wAt] at g0 g1 ⊢
  rw [g0, g1]
  simp only [List.append_assoc]
theorem enc_qc : Enc wQC pQC := fun x s hs => by
  simp only [wQC] at hs ⊢
  obtain ⟨h2, b2, e2, k2⟩ := enc_list enc_signed 7 x.votes _ hs
  obtain ⟨h1, b1, e1, k1⟩ := enc_dig x.block _ h2
  obtain ⟨h0, b0, e0, k0⟩ := enc_at (x.epoch, x.round) _ h1
  simp only [wAtP] at e0 e1 e2
  refine ⟨h0, b0 ++ b1 ++ b2, ?_, fun r => ?_⟩
  · rw [e2, e1, e0]; simp only [List.append_assoc]
  · unfold pQC; simp only [List.append_assoc]; rw [pBind_eq (k0 _), pBind_eq (k1 _), pBind_eq (k2 _)]; rfl
theorem dec_qc : Dec wQC pQC := fun b x r h => by
  obtain ⟨v0, r0, h0, h⟩ := pBind_ok h
  obtain ⟨v1, r1, h1, h⟩ := pBind_ok h
  obtain ⟨v2, r2, h2, h⟩ := pBind_ok h
  obtain ⟨rfl, rfl⟩ := pPure_ok h
  obtain ⟨b0, rfl, k0⟩ := dec_at _ _ _ h0
  obtain ⟨b1, rfl, k1⟩ := dec_dig _ _ _ h1
  obtain ⟨b2, rfl, k2⟩ := dec_list dec_signed 7 _ _ _ h2
  refine ⟨b0 ++ b1 ++ b2, by simp only [List.append_assoc], fun s hs => ?_⟩
  have g0 := k0 s hs
  have g1 := k1 (⟨0, s.bs ++ b0⟩ : WS) rfl
  have g2 := k2 (⟨0, s.bs ++ b0 ++ b1⟩ : WS) rfl
  simp only [wQC, wAtP] at g0 g1 g2 ⊢
  rw [g0, g1, g2]
  simp only [List.append_assoc]
theorem enc_late : Enc wLate pLate := fun x s hs => by
  simp only [wLate] at hs ⊢
  obtain ⟨h2, b2, e2, k2⟩ := enc_sig x.sig _ hs
  obtain ⟨h1, b1, e1, k1⟩ := enc_num (wd := 6) (by decide) x.high _ h2
  obtain ⟨h0, b0, e0, k0⟩ := enc_num (wd := 1) (by decide) x.who _ h1
  simp only at e0 e1 e2
  refine ⟨h0, b0 ++ b1 ++ b2, ?_, fun r => ?_⟩
  · rw [e2, e1, e0]; simp only [List.append_assoc]
  · unfold pLate; simp only [List.append_assoc]; rw [pBind_eq (k0 _), pBind_eq (k1 _), pBind_eq (k2 _)]; rfl
theorem dec_late : Dec wLate pLate := fun b x r h => by
  obtain ⟨v0, r0, h0, h⟩ := pBind_ok h
  obtain ⟨v1, r1, h1, h⟩ := pBind_ok h
  obtain ⟨v2, r2, h2, h⟩ := pBind_ok h
  obtain ⟨rfl, rfl⟩ := pPure_ok h
  obtain ⟨b0, rfl, k0⟩ := dec_num _ _ _ h0
  obtain ⟨b1, rfl, k1⟩ := dec_num _ _ _ h1
  obtain ⟨b2, rfl, k2⟩ := dec_sig _ _ _ h2
  refine ⟨b0 ++ b1 ++ b2, by simp only [List.append_assoc], fun s hs => ?_⟩
  have g0 := k0 s hs
  have g1 := k1 (⟨0, s.bs ++ b0⟩ : WS) rfl
  have g2 := k2 (⟨0, s.bs ++ b0 ++ b1⟩ : WS) rfl
  simp only [wLate] at g0 g1 g2 ⊢
  rw [g0, g1, g2]
  simp only [List.append_assoc]
theorem enc_tc : Enc wTC pTC := fun x s hs => by
  simp only [wTC] at hs ⊢
  obtain ⟨h1, b1, e1, k1⟩ := enc_list enc_late 7 x.lates _ hs
  obtain ⟨h0, b0, e0, k0⟩ := enc_at (x.epoch, x.round) _ h1
  simp only [wAtP] at e0 e1
  refine ⟨h0, b0 ++ b1, ?_, fun r => ?_⟩
  · rw [e1, e0]; simp only [List.append_assoc]
  · unfold pTC; simp only [List.append_assoc]; rw [pBind_eq (k0 _), pBind_eq (k1 _)]; rfl
theorem dec_tc : Dec wTC pTC := fun b x r h => by
  obtain ⟨v0, r0, h0, h⟩ := pBind_ok h
  obtain ⟨v1, r1, h1, h⟩ := pBind_ok h
  obtain ⟨rfl, rfl⟩ := pPure_ok h
  obtain ⟨b0, rfl, k0⟩ := dec_at _ _ _ h0
  obtain ⟨b1, rfl, k1⟩ := dec_list dec_late 7 _ _ _ h1
  refine ⟨b0 ++ b1, by simp only [List.append_assoc], fun s hs => ?_⟩
  have g0 := k0 s hs
  have g1 := k1 (⟨0, s.bs ++ b0⟩ : WS) rfl
  simp only [wTC, wAtP] at g0 g1 ⊢
  rw [g0, g1]
  simp only [List.append_assoc]
theorem enc_vdr : Enc wVdr pVdr := fun x s hs => by
  simp only [wVdr] at hs ⊢
  obtain ⟨h1, b1, e1, k1⟩ := enc_num (wd := 6) (by decide) x.power _ hs
  obtain ⟨h0, b0, e0, k0⟩ := enc_dig x.key _ h1
  simp only at e0 e1
  refine ⟨h0, b0 ++ b1, ?_, fun r => ?_⟩
  · rw [e1, e0]; simp only [List.append_assoc]
  · unfold pVdr; simp only [List.append_assoc]; rw [pBind_eq (k0 _), pBind_eq (k1 _)]; rfl
theorem dec_vdr : Dec wVdr pVdr := fun b x r h => by
  obtain ⟨v0, r0, h0, h⟩ := pBind_ok h
  obtain ⟨v1, r1, h1, h⟩ := pBind_ok h
  obtain ⟨rfl, rfl⟩ := pPure_ok h
  obtain ⟨b0, rfl, k0⟩ := dec_dig _ _ _ h0
  obtain ⟨b1, rfl, k1⟩ := dec_num _ _ _ h1
  refine ⟨b0 ++ b1, by simp only [List.append_assoc], fun s hs => ?_⟩
  have g0 := k0 s hs
  have g1 := k1 (⟨0, s.bs ++ b0⟩ : WS) rfl
  simp only [wVdr] at g0 g1 ⊢
  rw [g0, g1]
  simp only [List.append_assoc]
theorem enc_block : Enc wBlock pBlock := fun x s hs => by
  simp only [wBlock] at hs ⊢
  obtain ⟨h4, b4, e4, k4⟩ := enc_list enc_vdr 7 x.next _ hs
  obtain ⟨h3, b3, e3, k3⟩ := enc_list (enc_bytes (most := 16)) 4 x.payload _ h4
  obtain ⟨h2, b2, e2, k2⟩ := enc_qc x.justify _ h3
  obtain ⟨h1, b1, e1, k1⟩ := enc_dig x.parent _ h2
  obtain ⟨h0, b0, e0, k0⟩ := enc_at (x.epoch, x.round) _ h1
  simp only [wAtP] at e0 e1 e2 e3 e4
  refine ⟨h0, b0 ++ b1 ++ b2 ++ b3 ++ b4, ?_, fun r => ?_⟩
  · rw [e4, e3, e2, e1, e0]; simp only [List.append_assoc]
  · unfold pBlock; simp only [List.append_assoc]; rw [pBind_eq (k0 _), pBind_eq (k1 _), pBind_eq (k2 _), pBind_eq (k3 _), pBind_eq (k4 _)]; rfl
theorem dec_block : Dec wBlock pBlock := fun b x r h => by
  obtain ⟨v0, r0, h0, h⟩ := pBind_ok h
  obtain ⟨v1, r1, h1, h⟩ := pBind_ok h
  obtain ⟨v2, r2, h2, h⟩ := pBind_ok h
  obtain ⟨v3, r3, h3, h⟩ := pBind_ok h
  obtain ⟨v4, r4, h4, h⟩ := pBind_ok h
  obtain ⟨rfl, rfl⟩ := pPure_ok h
  obtain ⟨b0, rfl, k0⟩ := dec_at _ _ _ h0
  obtain ⟨b1, rfl, k1⟩ := dec_dig _ _ _ h1
  obtain ⟨b2, rfl, k2⟩ := dec_qc _ _ _ h2
  obtain ⟨b3, rfl, k3⟩ := dec_list (dec_bytes (most := 16)) 4 _ _ _ h3
  obtain ⟨b4, rfl, k4⟩ := dec_list dec_vdr 7 _ _ _ h4
  refine ⟨b0 ++ b1 ++ b2 ++ b3 ++ b4, by simp only [List.append_assoc], fun s hs => ?_⟩
  have g0 := k0 s hs
  have g1 := k1 (⟨0, s.bs ++ b0⟩ : WS) rfl
  have g2 := k2 (⟨0, s.bs ++ b0 ++ b1⟩ : WS) rfl
  have g3 := k3 (⟨0, s.bs ++ b0 ++ b1 ++ b2⟩ : WS) rfl
  have g4 := k4 (⟨0, s.bs ++ b0 ++ b1 ++ b2 ++ b3⟩ : WS) rfl
  simp only [wBlock, wAtP] at g0 g1 g2 g3 g4 ⊢
  rw [g0, g1, g2, g3, g4]
  simp only [List.append_assoc]
theorem enc_vote : Enc wVote pVote := fun x s hs => by
  simp only [wVote] at hs ⊢
  obtain ⟨h2, b2, e2, k2⟩ := enc_signed x.sender _ hs
  obtain ⟨h1, b1, e1, k1⟩ := enc_dig x.block _ h2
  obtain ⟨h0, b0, e0, k0⟩ := enc_at (x.epoch, x.round) _ h1
  simp only [wAtP] at e0 e1 e2
  refine ⟨h0, b0 ++ b1 ++ b2, ?_, fun r => ?_⟩
  · rw [e2, e1, e0]; simp only [List.append_assoc]
  · unfold pVote; simp only [List.append_assoc]; rw [pBind_eq (k0 _), pBind_eq (k1 _), pBind_eq (k2 _)]; rfl
theorem dec_vote : Dec wVote pVote := fun b x r h => by
  obtain ⟨v0, r0, h0, h⟩ := pBind_ok h
  obtain ⟨v1, r1, h1, h⟩ := pBind_ok h
  obtain ⟨v2, r2, h2, h⟩ := pBind_ok h
  obtain ⟨rfl, rfl⟩ := pPure_ok h
  obtain ⟨b0, rfl, k0⟩ := dec_at _ _ _ h0
  obtain ⟨b1, rfl, k1⟩ := dec_dig _ _ _ h1
  obtain ⟨b2, rfl, k2⟩ := dec_signed _ _ _ h2
  refine ⟨b0 ++ b1 ++ b2, by simp only [List.append_assoc], fun s hs => ?_⟩
  have g0 := k0 s hs
  have g1 := k1 (⟨0, s.bs ++ b0⟩ : WS) rfl
  have g2 := k2 (⟨0, s.bs ++ b0 ++ b1⟩ : WS) rfl
  simp only [wVote, wAtP] at g0 g1 g2 ⊢
  rw [g0, g1, g2]
  simp only [List.append_assoc]
theorem enc_tmo : Enc wTmo pTmo := fun x s hs => by
  simp only [wTmo] at hs ⊢
  obtain ⟨h3, b3, e3, k3⟩ := enc_signed x.sender _ hs
  obtain ⟨h2, b2, e2, k2⟩ := enc_tc x.last _ h3
  obtain ⟨h1, b1, e1, k1⟩ := enc_qc x.high _ h2
  obtain ⟨h0, b0, e0, k0⟩ := enc_at (x.epoch, x.round) _ h1
  simp only [wAtP] at e0 e1 e2 e3
  refine ⟨h0, b0 ++ b1 ++ b2 ++ b3, ?_, fun r => ?_⟩
  · rw [e3, e2, e1, e0]; simp only [List.append_assoc]
  · unfold pTmo; simp only [List.append_assoc]; rw [pBind_eq (k0 _), pBind_eq (k1 _), pBind_eq (k2 _), pBind_eq (k3 _)]; rfl
theorem dec_tmo : Dec wTmo pTmo := fun b x r h => by
  obtain ⟨v0, r0, h0, h⟩ := pBind_ok h
  obtain ⟨v1, r1, h1, h⟩ := pBind_ok h
  obtain ⟨v2, r2, h2, h⟩ := pBind_ok h
  obtain ⟨v3, r3, h3, h⟩ := pBind_ok h
  obtain ⟨rfl, rfl⟩ := pPure_ok h
  obtain ⟨b0, rfl, k0⟩ := dec_at _ _ _ h0
  obtain ⟨b1, rfl, k1⟩ := dec_qc _ _ _ h1
  obtain ⟨b2, rfl, k2⟩ := dec_tc _ _ _ h2
  obtain ⟨b3, rfl, k3⟩ := dec_signed _ _ _ h3
  refine ⟨b0 ++ b1 ++ b2 ++ b3, by simp only [List.append_assoc], fun s hs => ?_⟩
  have g0 := k0 s hs
  have g1 := k1 (⟨0, s.bs ++ b0⟩ : WS) rfl
  have g2 := k2 (⟨0, s.bs ++ b0 ++ b1⟩ : WS) rfl
  have g3 := k3 (⟨0, s.bs ++ b0 ++ b1 ++ b2⟩ : WS) rfl
  simp only [wTmo, wAtP] at g0 g1 g2 g3 ⊢
  rw [g0, g1, g2, g3]
  simp only [List.append_assoc]
theorem enc_prop : Enc wProp pProp := fun x s hs => by
  simp only [wProp] at hs ⊢
  obtain ⟨h2, b2, e2, k2⟩ := enc_signed x.sender _ hs
  obtain ⟨h1, b1, e1, k1⟩ := enc_tc x.last _ h2
  obtain ⟨h0, b0, e0, k0⟩ := enc_block x.block _ h1
  refine ⟨h0, b0 ++ b1 ++ b2, ?_, fun r => ?_⟩
  · rw [e2, e1, e0]; simp only [List.append_assoc]
  · unfold pProp; simp only [List.append_assoc]; rw [pBind_eq (k0 _), pBind_eq (k1 _), pBind_eq (k2 _)]; rfl
theorem dec_prop : Dec wProp pProp := fun b x r h => by
  obtain ⟨v0, r0, h0, h⟩ := pBind_ok h
  obtain ⟨v1, r1, h1, h⟩ := pBind_ok h
  obtain ⟨v2, r2, h2, h⟩ := pBind_ok h
  obtain ⟨rfl, rfl⟩ := pPure_ok h
  obtain ⟨b0, rfl, k0⟩ := dec_block _ _ _ h0
  obtain ⟨b1, rfl, k1⟩ := dec_tc _ _ _ h1
  obtain ⟨b2, rfl, k2⟩ := dec_signed _ _ _ h2
  refine ⟨b0 ++ b1 ++ b2, by simp only [List.append_assoc], fun s hs => ?_⟩
  have g0 := k0 s hs
  have g1 := k1 (⟨0, s.bs ++ b0⟩ : WS) rfl
  have g2 := k2 (⟨0, s.bs ++ b0 ++ b1⟩ : WS) rfl
  simp only [wProp] at g0 g1 g2 ⊢
  rw [g0, g1, g2]
  simp only [List.append_assoc]
theorem enc_chg (x : Chg) (h3 : x.blocks.length = 3) : EncAt (wChg x) pChg x := fun s hs => by
  simp only [wChg] at hs ⊢
  obtain ⟨h1, b1, e1, k1⟩ := enc_qc x.qc _ hs
  obtain ⟨h0, b0, e0, k0⟩ := encAt_many enc_block x.blocks _ h1
  rw [h3] at k0
  refine ⟨h0, b0 ++ b1, ?_, fun r => ?_⟩
  · rw [e1, e0]; simp only [List.append_assoc]
  · unfold pChg; simp only [List.append_assoc]; rw [pBind_eq (k0 _), pBind_eq (k1 _)]; rfl
theorem dec_chg : Dec wChg pChg := fun b x r h => by
  obtain ⟨v0, r0, h0, h⟩ := pBind_ok h
  obtain ⟨v1, r1, h1, h⟩ := pBind_ok h
  obtain ⟨rfl, rfl⟩ := pPure_ok h
  obtain ⟨b0, rfl, k0⟩ := dec_manyAt dec_block h0
  obtain ⟨b1, rfl, k1⟩ := dec_qc _ _ _ h1
  refine ⟨b0 ++ b1, by simp only [List.append_assoc], fun s hs => ?_⟩
  have g0 := k0 s hs
  have g1 := k1 (⟨0, s.bs ++ b0⟩ : WS) rfl
  simp only [wChg] at g0 g1 ⊢
  rw [g0, g1]
  simp only [List.append_assoc]
theorem pChg_three {b r : List UInt8} {x : Chg} (h : pChg b = .ok (x, r)) : x.blocks.length = 3 := by
  obtain ⟨l, r1, h1, h⟩ := pBind_ok h
  obtain ⟨q, r2, h2, h⟩ := pBind_ok h
  obtain ⟨rfl, rfl⟩ := pPure_ok h
  exact (dec_many dec_block 3 _ _ _ h1).1
theorem encAt_map {α β : Type} {f : WS → WS} {p : PR α} {x : α} {g : α → β} (h : EncAt f p x) : EncAt f (pBind p fun v => pPure (g v)) (g x) := fun s hs => by
  obtain ⟨h1, b, e, k⟩ := h s hs
  exact ⟨h1, b, e, fun r => by rw [pBind_eq (k r)]; rfl⟩
theorem enc_body (m : Msg) (h3 : m.chg.blocks.length = 3) (k1 : 1 ≤ m.kind) (k6 : m.kind ≤ 6) : EncAt (wBody m) (pBody m.kind) (plainM m) := by
  unfold wBody pBody plainM
  split
  · exact encAt_map (enc_vote m.vote)
  split
  · exact encAt_map (enc_tmo m.tmo)
  split
  · exact encAt_map (enc_prop m.prop)
  split
  · exact encAt_bind (q := fun d => pBind pDig fun e => pPure ({ msg0 m.kind with wantFrom := d, wantBlock := e } : Msg)) (enc_dig m.wantFrom) (encAt_map (g := fun e => ({ msg0 m.kind with wantFrom := m.wantFrom, wantBlock := e } : Msg)) (enc_dig m.wantBlock))
  split
  · exact encAt_map (enc_block m.reply)
  rw [if_pos (show m.kind = 6 by omega), if_pos (show m.kind = 6 by omega)]
  exact encAt_map (enc_chg m.chg h3)
theorem enc_msg (m : Msg) (h3 : m.chg.blocks.length = 3) (k1 : 1 ≤ m.kind) (k6 : m.kind ≤ 6) : EncAt (wMsg m) pMsg (plainM m) := by
  exact encAt_bind (f := wNum m.kind 1) (g := wBody m) (q := pBody) (enc_num (wd := 1) (by decide) m.kind) (enc_body m h3 k1 k6)
theorem dec_map {α β : Type} {W : α → WS → WS} {p : PR α} (h : Dec W p) {g : α → β} {b r : List UInt8} {y : β} (hb : pBind p (fun v => pPure (g v)) b = .ok (y, r)) : ∃ x b', y = g x ∧ b = b' ++ r ∧ p b = .ok (x, r) ∧ ∀ s, s.err = 0 → W x s = ⟨0, s.bs ++ b'⟩ := by
  obtain ⟨x, r1, h1, h2⟩ := pBind_ok hb
  obtain ⟨rfl, rfl⟩ := pPure_ok h2
  obtain ⟨b', rfl, k⟩ := h _ _ _ h1
  exact ⟨x, b', rfl, rfl, h1, k⟩
theorem dec_body (k : Int) (b r : List UInt8) (m : Msg) (h : pBody k b = .ok (m, r)) : m.kind = k ∧ 1 ≤ k ∧ k ≤ 6 ∧ plainM m = m ∧ m.chg.blocks.length = 3 ∧ ∃ b', b = b' ++ r ∧ ∀ s, s.err = 0 → wBody m s = ⟨0, s.bs ++ b'⟩ := by
  unfold pBody at h
  split at h
  · rename_i hk; subst hk
    obtain ⟨x, b', rfl, rfl, _, k⟩ := dec_map dec_vote h
    exact ⟨rfl, by decide, by decide, rfl, rfl, b', rfl, k⟩
  split at h
  · rename_i _ hk; subst hk
    obtain ⟨x, b', rfl, rfl, _, k⟩ := dec_map dec_tmo h
    exact ⟨rfl, by decide, by decide, rfl, rfl, b', rfl, k⟩
  split at h
  · rename_i _ _ hk; subst hk
    obtain ⟨x, b', rfl, rfl, _, k⟩ := dec_map dec_prop h
    exact ⟨rfl, by decide, by decide, rfl, rfl, b', rfl, k⟩
  split at h
  · rename_i _ _ _ hk; subst hk
    obtain ⟨d, r1, h1, h2⟩ := pBind_ok h
    obtain ⟨x, b2, rfl, rfl, _, k2⟩ := dec_map dec_dig h2
    obtain ⟨b1, rfl, k1⟩ := dec_dig _ _ _ h1
    refine ⟨rfl, by decide, by decide, rfl, rfl, b1 ++ b2, by simp only [List.append_assoc], fun s hs => ?_⟩
    show wDig x (wDig d s) = _
    rw [k1 s hs, k2 _ rfl]; simp only [List.append_assoc]
  split at h
  · rename_i _ _ _ _ hk; subst hk
    obtain ⟨x, b', rfl, rfl, _, k⟩ := dec_map dec_block h
    exact ⟨rfl, by decide, by decide, rfl, rfl, b', rfl, k⟩
  split at h
  · rename_i _ _ _ _ _ hk; subst hk
    obtain ⟨x, b', rfl, rfl, hp, k⟩ := dec_map dec_chg h
    exact ⟨rfl, by decide, by decide, rfl, pChg_three hp, b', rfl, k⟩
  · cases h
theorem dec_msg (b r : List UInt8) (m : Msg) (h : pMsg b = .ok (m, r)) : 1 ≤ m.kind ∧ m.kind ≤ 6 ∧ plainM m = m ∧ m.chg.blocks.length = 3 ∧ (∃ c t, b = c :: t ∧ m.kind = (c.toNat : Int)) ∧ ∃ b', b = b' ++ r ∧ ∀ s, s.err = 0 → wMsg m s = ⟨0, s.bs ++ b'⟩ := by
  obtain ⟨k, r1, h1, h2⟩ := pBind_ok h
  obtain ⟨hk, k1, k6, hp, h3, b2, rfl, e2⟩ := dec_body _ _ _ _ h2
  obtain ⟨j, hj, hj2, hb⟩ := pNum_ok h1
  obtain ⟨b1, rfl, e1⟩ := dec_num _ _ _ h1
  subst hk
  refine ⟨k1, k6, hp, h3, ?_, b1 ++ b2, by simp only [List.append_assoc], fun s hs => ?_⟩
  · rw [hb, hj]
    refine ⟨UInt8.ofNat j, b2 ++ r, ?_, ?_⟩
    · rw [beN_succ, byteAt_nat]; simp [beN]
    · rw [UInt8.toNat_ofNat', Nat.mod_eq_of_lt (by omega)]
  · have e := e1 s hs
    simp only at e
    unfold wMsg
    rw [e, e2 _ rfl]; simp only [List.append_assoc]
/-- All bytes of what was written. -/
theorem pAll_enc {β : Type} {f : WS → WS} {p : PR β} {y : β} (h : EncAt f p y) (he : (f ⟨0, []⟩).err = 0) : pAll p (f ⟨0, []⟩).bs = .ok y := by
  obtain ⟨_, b, e, k⟩ := h _ he
  have := k []
  rw [List.append_nil] at this
  have e' : (f ⟨0, []⟩).bs = b := e.trans (by simp)
  rw [e', pAll, this]; rfl
theorem pAll_ok {β : Type} {p : PR β} {b : List UInt8} {y : β} (h : pAll p b = .ok y) : p b = .ok (y, []) := by
  unfold pAll at h
  cases hp : p b with
  | error e => rw [hp] at h; cases h
  | ok x =>
    rw [hp] at h
    obtain ⟨a, r⟩ := x
    by_cases hr : r = []
    · simp only [hr, if_true, Except.ok.injEq] at h; rw [h, hr]
    · simp only [hr, if_false] at h; cases h
theorem pAll_cut {β : Type} {p : PR β} {b : List UInt8} {y : β} (h : pAll p b = .ok y) (hl : Loc p) {k : Nat} (hk : k < b.length) : pAll p (b.take k) = .error 2 := by
  obtain ⟨b', e, _, s⟩ := hl _ _ _ (pAll_ok h)
  rw [List.append_nil] at e; subst e
  rw [pAll, s k hk]
theorem pAll_more {β : Type} {p : PR β} {b m : List UInt8} {y : β} (h : pAll p b = .ok y) (hl : Loc p) (hm : m ≠ []) : pAll p (b ++ m) = .error 3 := by
  obtain ⟨b', e, k, _⟩ := hl _ _ _ (pAll_ok h)
  rw [List.append_nil] at e; subst e
  rw [pAll, k m]
  simp only [hm, if_false]
end Go.Proofs.YtobjojeliibinaaDoor

/- Zero values: their cells, and what they read as. -/
namespace Go.Proofs.YtobjojeliibinaaDoor
open Go
set_option linter.unusedVariables false

def nilS : Value := .slice none 0 0
def i0 : Value := .int .i64 0
def sigC : List Value := [i0, nilS, nilS]
def sgnC : List Value := i0 :: sigC
def qcC : List Value := i0 :: i0 :: (dc dig0 ++ [nilS])
def tcC : List Value := [i0, i0, nilS]
def blkC : List Value := i0 :: i0 :: (dc dig0 ++ (qcC ++ [nilS, nilS]))
section zero
variable {w : World} {A : Nat → Prop}
theorem rdSig0 : RdSig w A sigC sig0 := ⟨none, 0, 0, none, 0, 0, rfl, Nat.le_refl _, Nat.le_refl _, RdList.nil, RdList.nil⟩
theorem rdSigned0 : RdSigned w A sgnC sgn0 := ⟨sigC, rfl, rdSig0⟩
theorem rdQC0 : RdQC w A qcC qc0 := ⟨none, 0, 0, rfl, Nat.le_refl _, RdList.nil⟩
theorem rdTC0 : RdTC w A tcC tc0 := ⟨none, 0, 0, rfl, Nat.le_refl _, RdList.nil⟩
theorem rdBlock0 : RdBlock w A blkC blk0 := ⟨qcC, none, 0, 0, none, 0, 0, rfl, rdQC0, Nat.le_refl _, RdList.nil, Nat.le_refl _, RdList.nil⟩
end zero
def voteC : List Value := i0 :: i0 :: (dc dig0 ++ sgnC)
def tmoC : List Value := i0 :: i0 :: (qcC ++ (tcC ++ sgnC))
def propC : List Value := blkC ++ (tcC ++ sgnC)
def chgC : List Value := [blkC, blkC, blkC].flatten ++ qcC
section zero2
variable {w : World} {A : Nat → Prop}
theorem rdVote0 : RdVote w A voteC ⟨0, 0, dig0, sgn0⟩ := ⟨sgnC, rfl, rdSigned0⟩
theorem rdTmo0 : RdTmo w A tmoC ⟨0, 0, qc0, tc0, sgn0⟩ := ⟨qcC, tcC, sgnC, rfl, rdQC0, rdTC0, rdSigned0⟩
theorem rdProp0 : RdProp w A propC ⟨blk0, tc0, sgn0⟩ := ⟨blkC, tcC, sgnC, rfl, rdBlock0, rdTC0, rdSigned0⟩
theorem rdChg0 : RdChg w A chgC chg0 := ⟨[blkC, blkC, blkC], qcC, rfl, (by intro x hx; simp only [List.mem_cons, List.not_mem_nil, or_false, or_self] at hx; subst hx; exact (rdBlock0 (w := w) (A := A)).len), rfl, rfl,
    (by intro i x b h1 h2
        have hx : x = blkC := by
          have := List.mem_of_getElem? h1
          simp only [List.mem_cons, List.not_mem_nil, or_false, or_self] at this; exact this
        have hb : b = blk0 := by
          have := List.mem_of_getElem? h2
          simp only [chg0, List.mem_cons, List.not_mem_nil, or_false, or_self] at this; exact this
        subst hx; subst hb; exact rdBlock0), rdQC0⟩
end zero2
def msgOf (k : Int) (a b : Dig) : Msg := { msg0 k with wantFrom := a, wantBlock := b }
def msgC (k : Int) (a b : Dig) : List Value := .int .i64 k :: (voteC ++ (tmoC ++ (propC ++ (dc a ++ (dc b ++ (blkC ++ chgC))))))
theorem rdMsgOf {w : World} {A : Nat → Prop} (k : Int) (a b : Dig) : RdMsg w A (msgC k a b) (msgOf k a b) := ⟨_, _, _, _, _, rfl, rdVote0, rdTmo0, rdProp0, rdBlock0, rdChg0⟩
end Go.Proofs.YtobjojeliibinaaDoor

/- The engine, part K: strings. -/
namespace Go.Proofs.YtobjojeliibinaaDoor
open Go
set_option linter.unusedVariables false
set_option linter.unusedSimpArgs false

theorem St.mapL0 {w0 w : World} {F0 : Nat → Prop} {L L' : List Res} (h : St w0 F0 L w) (k : ∀ F, stars L w F → stars L' w F) : St w0 F0 L' w := by
  obtain ⟨F, hF, hst⟩ := h; exact ⟨F, k F hF, hst⟩
theorem str_append (a b : List UInt8) : str a ++ str b = str (a ++ b) := by
  apply ByteArray.ext
  simp [str]
section
variable {P : Program} {w0 : World} {F0 : Nat → Prop} {L : List Res} {Q : Exit → Act → World → Prop} {n : Fm} {env : Env} {ops : Array Oper} {rest : List Oper}
variable {d : Option Tmp} {t : Tmp} {ty : TypeId} {pos : String} {af : Array Edge} {gd : Option (Nat × Bool)}
theorem zcat {x y : Operand} {T T' : TypeId} {a b : List UInt8} [UNT P T .string] (hx : ev n env x = .string (str a) := by exact rfl) (hy : ev n env y = .string (str b) := by exact rfl) (hl : a.length + b.length ≤ 9223372036854775807 := by omega) :
    Runs P w0 F0 L n env ⟨d, .binOp .add T x y T', ty, pos, af, gd⟩ (.string (str (a ++ b))) := fun w _ => by
  simp [execOp, hx, hy, eqGuard, binOp, Op.stringOp, str_append]
  rw [str_size, str_size]
  omega
theorem zlS {x : Operand} {T : TypeId} {b : List UInt8} [UNT P T .string] (hx : ev n env x = .string (str b) := by exact rfl) :
    Runs P w0 F0 L n env ⟨d, .call ⟨.builtin .len, #[x], #[T]⟩, ty, pos, af, gd⟩ (.int .i64 b.length) := r_val (r_len_string hx UNT.h) (by rw [str_size])
/-- []byte(s). -/
theorem gl_ofs {x : Operand} {S T e : TypeId} {b : List UInt8} (hw : Wt ops n env ⟨some t, .convert S T x, ty, pos, af, gd⟩ true) (hx : ev n env x = .string (str b)) {u : TypeDesc} (hs : P.underlying S = some u) (hd : P.underlying T = some (.slice e)) (he : P.underlying e = some (.int .u8)) (hl : b.length ≤ maxLen)
    (k : ∀ g c, Gl P w0 F0 (rowR e 1 (some ⟨g, 0, none⟩) b.length c (b.map B8) :: L) ops Q rest n ((t, .slice (some ⟨g, 0, none⟩) b.length c) :: env)) : Gl P w0 F0 L ops Q (⟨some t, .convert S T x, ty, pos, af, gd⟩ :: rest) n env := by
  refine gl_effx (α := Nat × Nat) (L' := fun p => rowR e 1 (some ⟨p.1, 0, none⟩) b.length p.2 (b.map B8) :: L) (v := fun p => .slice (some ⟨p.1, 0, none⟩) b.length p.2) hw (fun w hst => ?_) (fun p => k p.1 p.2)
  have hr := Lib.run_convert_string_bytes (P := P) w S T e (str b) hs hd he
  refine ⟨(w.heap.size, grownCap w (str b).size 0 e), Lib.bytesWorld w e (str b), ?_, ?_⟩
  · simp only [execOp, hx, str_size] at hr ⊢
    simp [hr]
  · have hge := grownCap_ge w (str b).size 0 e
    have hle := grownCap_le_maxLen w (str b).size 0 e (by rw [str_size]; exact hl)
    have hsz : (Lib.bytesCells w e (str b)).size = grownCap w (str b).size 0 e := by
      simp only [Lib.bytesCells, Array.size_append, Array.size_map, Array.size_replicate]
      have : (str b).data.size = (str b).size := rfl
      omega
    refine hst.newRow (w' := Lib.bytesWorld w e (str b)) (cs := Lib.bytesCells w e (str b)) (fz := ((Lib.bytesCells w e (str b)).size, (Lib.bytesCells w e (str b)).size + 1)) ?_ ?_ ?_ ?_ ?_ ?_ ?_ hle ?_
    · apply Array.ext_getElem?
      intro j
      rw [Array.getElem?_push]
      split
      · rename_i h; subst h; exact Lib.bytesWorld_at_new w e (str b)
      · by_cases hj : j < w.heap.size
        · exact Lib.bytesWorld_at_old w e (str b) j hj
        · rw [Array.getElem?_eq_none (by rw [Lib.bytesWorld_size]; omega), Array.getElem?_eq_none (by omega)]
    · rfl
    · rfl
    · rfl
    · intro i hi h; simp only at h; omega
    · have e1 : (Lib.bytesCells w e (str b)).toList = b.map B8 ++ List.replicate (grownCap w (str b).size 0 e - (str b).size) (.int .u8 0) := by
        simp only [Lib.bytesCells, Array.toList_append, Array.toList_map, Array.toList_replicate]
        rfl
      rw [e1, Nat.mul_one]
      exact List.take_left' (by simp)
    · rw [str_size] at hge; exact hge
    · rw [hsz]; omega
theorem zob {x : Operand} {S T e : TypeId} {b : List UInt8} [UNT P S .string] [SLT P T e] [UNT P e (.int .u8)] (k : ∀ g c, Gl P w0 F0 (rowR e 1 (some ⟨g, 0, none⟩) b.length c (b.map B8) :: L) ops Q rest n ((t, .slice (some ⟨g, 0, none⟩) b.length c) :: env)) (hx : ev n env x = .string (str b) := by exact rfl)
    (hl : b.length ≤ maxLen := by simp only [maxLen]; omega) (hw : Wt ops n env ⟨some t, .convert S T x, ty, pos, af, gd⟩ true := by first | exact wt0 rfl | exact wtgT rfl rfl rfl rfl) : Gl P w0 F0 L ops Q (⟨some t, .convert S T x, ty, pos, af, gd⟩ :: rest) n env :=
  gl_ofs hw hx UNT.h (run_sliceT SLT.h) UNT.h hl k
/-- string(b) of an owned row. -/
theorem zso {x : Operand} {S T e : TypeId} {a : Option Addr} {m c : Nat} {b : List UInt8} {L' : List Res} [SLT P S e] [UNT P e (.int .u8)] [UNT P T .string] (hx : ev n env x = .slice a m c := by exact rfl) (hp : Pick L (rowR e 1 a m c (b.map B8)) L' := by repeat (first | exact Pick.here | apply Pick.there)) :
    Runs P w0 F0 L n env ⟨d, .convert S T x, ty, pos, af, gd⟩ (.string (str b)) := r_str hx SLT.h UNT.h UNT.h (fun w hw => hw.row hp)
/-- copy into an array of one's own, all of the source. -/
theorem gl_copy {x y : Operand} {T S e size g o m c j c2 T' : Nat} {a2 : Option Addr} {cs news : List Value} {L' : List Res} [SLT P T e] [SZ P e size]
    (hx : ev n env x = .slice (some ⟨g, o, none⟩) m c := by exact rfl) (hy : ev n env y = .slice a2 j c2 := by exact rfl) (hp : Pick L (blk g T' cs) L' := by repeat (first | exact Pick.here | apply Pick.there))
    (hr : ∀ w, St w0 F0 L w → RdRow w (fun _ => True) size a2 j news) (hj : j ≤ m) (h1 : ∀ u ∈ news, u.oneCell' = true) (hl : o + j * size ≤ cs.length)
    (k : Gl P w0 F0 (blk g T' (updL cs o news) :: L') ops Q rest n ((t, .int .i64 j) :: env))
    (hw : Wt ops n env ⟨some t, .call ⟨.builtin .copy, #[x, y], #[T, S]⟩, ty, pos, af, gd⟩ true := by first | exact wt0 rfl | exact wtgT rfl rfl rfl rfl) : Gl P w0 F0 L ops Q (⟨some t, .call ⟨.builtin .copy, #[x, y], #[T, S]⟩, ty, pos, af, gd⟩ :: rest) n env := by
  refine gl_eff (L' := blk g T' (updL cs o news) :: L') (v := .int .i64 j) hw (fun w hst => ?_) k
  have hrow := hr w hst
  obtain ⟨w', hs, hst'⟩ := hst.store (P := P) (new := news) hp (by rw [hrow.1]; exact hl) h1
  refine ⟨w', ?_, hst'⟩
  have hf := hrow.first (P := P) (c := c2)
  have hmin : Nat.min j m = j := Nat.min_eq_left hj
  simp [execOp, resolve, invoke, builtin, Builtin.copy_, hx, hy, run_underlying (run_sliceT (SLT.h (P := P) (T := T))), Builtin.lenOf, run_sz (SZ.h (P := P) (T := e)), hmin, hf, hs, goInt]
/-- A block's cells, written another way. -/
theorem gl_eqc {g T : Nat} {cs cs' : List Value} {L' : List Res} (hp : Pick L (blk g T cs) L') (e : cs = cs') (k : Gl P w0 F0 (blk g T cs' :: L') ops Q rest n env) : Gl P w0 F0 L ops Q rest n env := by
  subst e
  exact fun w hw => k w (hw.mapL0 fun F hF => hp.stars hF)
theorem gc_eqc {c : Code} {g T : Nat} {cs cs' : List Value} {L' : List Res} (hp : Pick L (blk g T cs) L') (e : cs = cs') (k : Gc P w0 F0 (blk g T cs' :: L') c Q n env) : Gc P w0 F0 L c Q n env := by
  subst e
  exact fun w hw => k w (hw.mapL0 fun F hF => hp.stars hF)
end
instance {b : ByteArray} : One1 (.string b) := ⟨rfl⟩
end Go.Proofs.YtobjojeliibinaaDoor

/- The engine, part L: two variables made in either order. -/
namespace Go.Proofs.YtobjojeliibinaaDoor
open Go
set_option linter.unusedVariables false
theorem Sel.head {r : Res} {L M L' : List Res} (h : Sel L M L') : Sel (r :: L) M (r :: L') := by
  induction h with
  | nil => exact Sel.nil
  | cons p _ ih => exact Sel.cons (Pick.there p) ih
theorem env_swap {t u : Nat} {v x : Value} {env : Env} (h : Nat.beq t u = false) (s : Nat) : Env.get ((t, v) :: (u, x) :: env) s = Env.get ((u, x) :: (t, v) :: env) s := by
  show (bif Nat.beq s t then v else (bif Nat.beq s u then x else Env.get env s)) = (bif Nat.beq s u then x else (bif Nat.beq s t then v else Env.get env s))
  cases h1 : Nat.beq s t <;> cases h2 : Nat.beq s u <;> try rfl
  rw [← Nat.eq_of_beq_eq_true h1, ← Nat.eq_of_beq_eq_true h2, Nat.beq_refl] at h
  cases h
theorem st_swap {w0 : World} {F0 : Nat → Prop} {r s : Res} {L : List Res} {w : World} (h : St w0 F0 (r :: s :: L) w) : St w0 F0 (s :: r :: L) w := by
  obtain ⟨F, hF, hst⟩ := h
  exact ⟨F, Pick.stars (.there .here) hF, hst⟩
section
variable {P : Program} {w0 : World} {F0 : Nat → Prop} {K L : List Res} {Q : Exit → Act → World → Prop} {n : Fm} {env : Env} {ops : Array Oper} {listed : Array Bool} {fuel z : Nat}
/-- Two new variables, in either order. -/
theorem yas2 (i j : Nat) {ti tj : Tmp} {Ti Tj : TypeId} {yi yj : TypeId} {qi qj : String} {fi fj : Array Edge} {gi gj : Option (Nat × Bool)} {ci cj : List Value} {L' : List Res} [ZC P Ti ci] [ZC P Tj cj]
    (hi : ops[i]? = some ⟨some ti, .alloc Ti, yi, qi, fi, gi⟩) (hj : ops[j]? = some ⟨some tj, .alloc Tj, yj, qj, fj, gj⟩)
    (k : ∀ bi bj, Gt P w0 F0 K (blk bj Tj cj :: blk bi Ti ci :: L) ops Q z fuel ((listed.setIfInBounds i true).setIfInBounds j true) n ((tj, .pointer (some ⟨bj, 0, none⟩)) :: (ti, .pointer (some ⟨bi, 0, none⟩)) :: env))
    (hsel : Sel L K L' := by repeat (first | exact Sel.nil | (apply Sel.cons; · (repeat (first | exact Pick.here | apply Pick.there)))))
    (hwi : ∀ env, Wt ops n env ⟨some ti, .alloc Ti, yi, qi, fi, gi⟩ true := by exact fun _ => wt0 rfl) (hwj : ∀ env, Wt ops n env ⟨some tj, .alloc Tj, yj, qj, fj, gj⟩ true := by exact fun _ => wt0 rfl)
    (ht : Nat.beq ti tj = false := by kernel_rfl) (hij : Nat.beq i j = false := by kernel_rfl) (hzi : Nat.beq i z = false := by kernel_rfl) (hzj : Nat.beq j z = false := by kernel_rfl)
    (hr : Region.ready .any ops listed = [i, j] := by kernel_rfl) (hri : Region.ready .any ops (listed.setIfInBounds i true) = [j] := by kernel_rfl) (hrj : Region.ready .any ops (listed.setIfInBounds j true) = [i] := by kernel_rfl) :
    Gt P w0 F0 K L ops Q z (fuel + 2) listed n env := fun w hst => by
  refine ⟨fun h => ?_, ?_, fun x hx hxz => ?_⟩
  · rw [hr] at h; cases h
  · rw [hr]; simp
  · rw [hr] at hx
    rcases List.mem_cons.1 hx with rfl | hx
    · refine wpOpIn_of_list hi ?_
      refine zal (fun bi => ?_) (hw := hwi _) w hst
      refine gl_nil fun w2 hw2 => ⟨(hw2.sel (Sel.head hsel)), ?_⟩
      exact yos (fuel := fuel) j hj (zal (fun bj => gl_nil fun w3 hw3 => ⟨hw3.sel (Sel.head (Sel.head hsel)), k bi bj w3 hw3⟩) (hw := hwj _)) (hr := hri) (hz := hzj) w2 hw2
    · obtain rfl : x = j := by simpa using hx
      refine wpOpIn_of_list hj ?_
      refine zal (fun bj => ?_) (hw := hwj _) w hst
      refine gl_nil fun w2 hw2 => ⟨(hw2.sel (Sel.head hsel)), ?_⟩
      refine yos (fuel := fuel) i hi (zal (fun bi => gl_nil fun w3 hw3 => ⟨hw3.sel (Sel.head (Sel.head hsel)), ?_⟩) (hw := hwi _)) (hr := hrj) (hz := hzi) w2 hw2
      have := k bi bj w3 (st_swap hw3)
      rw [fr_ext (fun t _ => env_swap (by rw [Bool.eq_false_iff] at ht ⊢; intro e; exact ht (by rw [Nat.eq_of_beq_eq_true e]; exact Nat.beq_refl _)) t)] at this
      rw [Array.setIfInBounds_comm _ _ (by intro e; subst e; simp at hij)] at this
      exact this
end
end Go.Proofs.YtobjojeliibinaaDoor

/- The engine, part M: make([]T, n), n read off; a block as a row. -/
namespace Go.Proofs.YtobjojeliibinaaDoor
open Go
set_option linter.unusedVariables false
set_option linter.unusedSimpArgs false
theorem madeCells_one (v : Value) (n : Nat) : (madeCells #[v] n).toList = List.replicate n v := by
  apply List.ext_getElem?
  intro i
  simp only [madeCells, Array.toList_map, Array.toList_range, List.getElem?_map, List.getElem?_replicate, List.getElem?_range']
  by_cases h : i < n
  · simp [h, List.getElem?_range h, Nat.mod_one]
  · simp [h, List.getElem?_eq_none]
theorem stars_blk_row {w : World} {F : Nat → Prop} {L : List Res} {b e n : Nat} {cs : List Value} (h : stars (blk b e cs :: L) w F) (hl : cs.length = n) (hn : n ≤ maxLen) : stars (rowR e 1 (some ⟨b, 0, none⟩) n n cs :: L) w F := by
  obtain ⟨F1, F2, ⟨hF1, fz, h1, hz⟩, h2, hF, hd⟩ := h
  refine ⟨F1, F2, ⟨by omega, Nat.le_refl _, hn, .inr ⟨b, 0, cs.toArray, fz, rfl, hF1, h1, by simpa using hz, by simp; omega, ?_⟩⟩, h2, hF, hd⟩
  simp only [List.drop_zero]
  exact List.take_of_length_le (by omega)
section
variable {P : Program} {w0 : World} {F0 : Nat → Prop} {L : List Res} {Q : Exit → Act → World → Prop} {n : Fm} {env : Env} {ops : Array Oper} {rest : List Oper} {ty : TypeId} {pos : String} {af : Array Edge} {gd : Option (Nat × Bool)}
theorem gl_mk1 {t : Tmp} {T e bytes m : Nat} {x y : Operand} {z : Value} {k k' : IntKind} (hw : Wt ops n env ⟨some t, .makeSlice T x y, ty, pos, af, gd⟩ true) (ht : ElemT P T e 1 bytes) (hz : (P.info? e).map (·.zero) = some (some z)) (hzc : z.cells = #[z])
    (hx : ev n env x = .int k (m : Int)) (hy : ev n env y = .int k' (m : Int)) (hb : bytes * m ≤ 16777216) (hm : m ≤ 16777216)
    (K : ∀ b, Gl P w0 F0 (blk b e (List.replicate m z) :: L) ops Q rest n ((t, .slice (some ⟨b, 0, none⟩) m m) :: env)) : Gl P w0 F0 L ops Q (⟨some t, .makeSlice T x y, ty, pos, af, gd⟩ :: rest) n env := by
  refine gl_effx (α := Nat) (L' := fun b => blk b e (List.replicate m z) :: L) (v := fun b => .slice (some ⟨b, 0, none⟩) m m) hw (fun w hst => ?_) K
  obtain ⟨i, z', hi, hz', hs, hby, _⟩ := ht.info
  have hzz : z' = z := by rw [hi] at hz; simp only [Option.map_some, Option.some.injEq] at hz; rw [hz'] at hz; exact Option.some.inj hz
  subst hzz
  refine ⟨w.heap.size, { w with heap := w.heap.push (.cells (List.replicate m z').toArray e) }, ?_, hst.new⟩
  have hbb : (i.bytes : Int) * (m : Int) ≤ 281474976710656 := by
    rw [hby, ← Int.natCast_mul]; omega
  have hr := run_makeSlice (P := P) (w := w) T e i z' ht.sl hi hz' k k' (m : Int) (m : Int) (by omega) (Int.le_refl _) (by simp [hs]; omega) hbb (by omega)
  simp only [execOp, hx, hy, Sem.run_bind, hr, Result.andThen_ok, Sem.run_pure]
  simp only [Int.toNat_natCast, hs, Nat.mul_one, hzc]
  have e1 : madeCells #[z'] m = (List.replicate m z').toArray := by rw [← madeCells_one]
  rw [e1]
  first | rfl | simp [World.alloc]
end
section two
variable {P : Program} {w0 : World} {F0 : Nat → Prop} {K L : List Res} {Q : Exit → Act → World → Prop} {n : Fm} {env : Env} {ops : Array Oper} {listed : Array Bool} {fuel z : Nat}
/-- One of two comes, then the other. -/
theorem yo2 (i j : Nat) {oi oj : Oper} (hi : ops[i]? = some oi) (hj : ops[j]? = some oj)
    (ki : Gl P w0 F0 L ops (Exit.then (NextH P w0 F0 K ops Q fuel (listed.setIfInBounds i true) n) Q) [oi] n env) (kj : Gl P w0 F0 L ops (Exit.then (NextH P w0 F0 K ops Q fuel (listed.setIfInBounds j true) n) Q) [oj] n env)
    (hr : Region.ready .any ops listed = [i, j] := by kernel_rfl) : Gh P w0 F0 K L ops Q (fuel + 1) listed n env := fun w hst =>
  ⟨fun h => (by rw [hr] at h; cases h), fun x hx => by
    rw [hr] at hx
    rcases List.mem_cons.1 hx with rfl | hx
    · exact wpOpIn_of_list hi (ki w hst)
    · obtain rfl : x = j := by simpa using hx
      exact wpOpIn_of_list hj (kj w hst)⟩
theorem yo2s (i j : Nat) {oi oj : Oper} (hi : ops[i]? = some oi) (hj : ops[j]? = some oj)
    (ki : Gl P w0 F0 L ops (Exit.then (NextT P w0 F0 K ops Q z fuel (listed.setIfInBounds i true) n) Q) [oi] n env) (kj : Gl P w0 F0 L ops (Exit.then (NextT P w0 F0 K ops Q z fuel (listed.setIfInBounds j true) n) Q) [oj] n env)
    (hr : Region.ready .any ops listed = [i, j] := by kernel_rfl) : Gt P w0 F0 K L ops Q z (fuel + 1) listed n env := fun w hst =>
  ⟨fun h => (by rw [hr] at h; cases h), by rw [hr]; simp, fun x hx _ => by
    rw [hr] at hx
    rcases List.mem_cons.1 hx with rfl | hx
    · exact wpOpIn_of_list hi (ki w hst)
    · obtain rfl : x = j := by simpa using hx
      exact wpOpIn_of_list hj (kj w hst)⟩
end two
end Go.Proofs.YtobjojeliibinaaDoor

