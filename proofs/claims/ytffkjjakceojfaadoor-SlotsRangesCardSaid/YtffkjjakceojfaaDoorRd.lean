/- What memory reads as: digests, signatures, certificates, blocks. -/
import Derived.Test.YtffkjjakceojfaaDoorEngG
namespace Go.Proofs.YtffkjjakceojfaaDoor
open Go
set_option linter.unusedVariables false

structure Sig where
  leaf : Int
  chains : List Dig
  path : List Dig
  deriving DecidableEq
structure Signed where
  who : Int
  sig : Sig
  deriving DecidableEq
structure Vdr where
  key : Dig
  power : Int
  deriving DecidableEq
structure QC where
  epoch : Int
  round : Int
  block : Dig
  votes : List Signed
  deriving DecidableEq
structure Late where
  who : Int
  high : Int
  sig : Sig
  deriving DecidableEq
structure TC where
  epoch : Int
  round : Int
  lates : List Late
  deriving DecidableEq
structure Block where
  epoch : Int
  round : Int
  parent : Dig
  justify : QC
  payload : List (List UInt8)
  next : List Vdr
  deriving DecidableEq

structure Vote where
  epoch : Int
  round : Int
  block : Dig
  sender : Signed
  deriving DecidableEq
structure Tmo where
  epoch : Int
  round : Int
  high : QC
  last : TC
  sender : Signed
  deriving DecidableEq
structure Prop' where
  block : Block
  last : TC
  sender : Signed
  deriving DecidableEq
structure Chg where
  blocks : List Block
  qc : QC
  deriving DecidableEq
structure Msg where
  kind : Int
  vote : Vote
  tmo : Tmo
  prop : Prop'
  wantFrom : Dig
  wantBlock : Dig
  reply : Block
  chg : Chg
  deriving DecidableEq

/-- What is there in w at blocks of A is there in w' at blocks of A'. -/
def Still (w : World) (A : Nat → Prop) (w' : World) (A' : Nat → Prop) : Prop := ∀ k, k < w.heap.size → A k → w'.heap[k]? = w.heap[k]? ∧ A' k

/-! ### Lists -/
def RdList {α : Type} (rd : List Value → α → Prop) (w : World) (A : Nat → Prop) (size : Nat) (a : Option Addr) (n : Nat) (l : List α) : Prop :=
  ∃ css : List (List Value), RdRow w A size a n css.flatten ∧ (∀ c ∈ css, c.length = size) ∧ css.length = l.length ∧ ∀ (i : Nat) (c : List Value) (x : α), css[i]? = some c → l[i]? = some x → rd c x
theorem flatten_len {size : Nat} : ∀ {css : List (List Value)}, (∀ c ∈ css, c.length = size) → css.flatten.length = css.length * size
  | [], _ => by simp
  | c :: l, h => by
    rw [List.flatten_cons, List.length_append, flatten_len (fun c' hc' => h c' (by simp [hc'])), h c (by simp), List.length_cons, Nat.add_mul, Nat.one_mul, Nat.add_comm]
theorem flatten_at {size : Nat} : ∀ {css : List (List Value)} {i : Nat} {c : List Value}, (∀ c ∈ css, c.length = size) → css[i]? = some c → (css.flatten.drop (i * size)).take size = c
  | [], i, c, _, hi => by simp at hi
  | d :: l, 0, c, h, hi => by
    simp at hi; subst hi
    simp only [Nat.zero_mul, List.drop_zero, List.flatten_cons]
    rw [← h d (by simp)]; exact List.take_left
  | d :: l, i + 1, c, h, hi => by
    have hd := h d (by simp)
    simp only [List.getElem?_cons_succ] at hi
    rw [List.flatten_cons, List.drop_append, List.drop_eq_nil_of_le (by rw [hd, Nat.add_mul, Nat.one_mul]; omega), List.nil_append, hd, show (i + 1) * size - size = i * size by rw [Nat.add_mul, Nat.one_mul]; omega]
    exact flatten_at (fun c' hc' => h c' (by simp [hc'])) hi
section list
variable {α : Type} {rd rd' : List Value → α → Prop} {w w' : World} {A A' : Nat → Prop} {size n : Nat} {a : Option Addr} {l : List α}
theorem RdList.len (h : RdList rd w A size a n l) (hs : 0 < size) : n = l.length := by
  obtain ⟨css, hr, hc, hl, _⟩ := h
  have := hr.1
  rw [flatten_len hc, hl] at this
  exact (Nat.eq_of_mul_eq_mul_right hs this).symm
theorem RdList.max (h : RdList rd w A size a n l) : n ≤ maxLen := by obtain ⟨css, hr, _⟩ := h; exact hr.2.1
theorem RdList.elem (h : RdList rd w A size a n l) (hs : 0 < size) {i : Nat} (hi : i < n) :
    ∃ g o c x, a = some ⟨g, o, none⟩ ∧ A g ∧ g < w.heap.size ∧ w.rangeAt g (o + i * size) c ∧ c.length = size ∧ l[i]? = some x ∧ rd c x := by
  have hn := h.len hs
  obtain ⟨css, hr, hc, hl, hx⟩ := h
  obtain ⟨g, o, ha, hA, hg, hra⟩ := hr.elem hi
  have hci : css[i]? = some (css[i]'(by omega)) := List.getElem?_eq_getElem (by omega)
  have hli : l[i]? = some (l[i]'(by omega)) := List.getElem?_eq_getElem (by omega)
  rw [flatten_at hc hci] at hra
  exact ⟨g, o, _, _, ha, hA, hg, hra, hc _ (List.mem_of_getElem? hci), hli, hx i _ _ hci hli⟩
theorem RdList.mv (h : RdList rd w A size a n l) (hk : Still w A w' A') (hrd : ∀ c x, rd c x → rd' c x) : RdList rd' w' A' size a n l := by
  obtain ⟨css, hr, hc, hl, hx⟩ := h
  exact ⟨css, hr.mv hk, hc, hl, fun i c x h1 h2 => hrd c x (hx i c x h1 h2)⟩
theorem RdList.nil : RdList rd w A size a 0 ([] : List α) :=
  ⟨[], RdRow.nil, (by intro c hc; cases hc), rfl, (by intro i c x h; simp at h)⟩
end list

/-! ### The kinds -/
def RdDig (cs : List Value) (d : Dig) : Prop := cs = dc d
def RdBytes (w : World) (A : Nat → Prop) (cs : List Value) (b : List UInt8) : Prop := ∃ a n c, cs = [.slice a n c] ∧ n ≤ c ∧ RdRow w A 1 a n (b.map B8)
def RdDigs (w : World) (A : Nat → Prop) (a : Option Addr) (n : Nat) (l : List Dig) : Prop := RdList RdDig w A 16 a n l
def cSig (s : Sig) (a1 : Option Addr) (n1 c1 : Nat) (a2 : Option Addr) (n2 c2 : Nat) : List Value := [.int .i64 s.leaf, .slice a1 n1 c1, .slice a2 n2 c2]
def RdSig (w : World) (A : Nat → Prop) (cs : List Value) (s : Sig) : Prop :=
  ∃ a1 n1 c1 a2 n2 c2, cs = [.int .i64 s.leaf, .slice a1 n1 c1, .slice a2 n2 c2] ∧ n1 ≤ c1 ∧ n2 ≤ c2 ∧ RdDigs w A a1 n1 s.chains ∧ RdDigs w A a2 n2 s.path
def RdSigned (w : World) (A : Nat → Prop) (cs : List Value) (s : Signed) : Prop := ∃ ss, cs = .int .i64 s.who :: ss ∧ RdSig w A ss s.sig
def RdVdr (cs : List Value) (v : Vdr) : Prop := cs = dc v.key ++ [.int .i64 v.power]
def RdQC (w : World) (A : Nat → Prop) (cs : List Value) (q : QC) : Prop :=
  ∃ a n c, cs = .int .i64 q.epoch :: .int .i64 q.round :: (dc q.block ++ [.slice a n c]) ∧ n ≤ c ∧ RdList (RdSigned w A) w A 4 a n q.votes
def RdLate (w : World) (A : Nat → Prop) (cs : List Value) (l : Late) : Prop := ∃ ss, cs = .int .i64 l.who :: .int .i64 l.high :: ss ∧ RdSig w A ss l.sig
def RdTC (w : World) (A : Nat → Prop) (cs : List Value) (t : TC) : Prop :=
  ∃ a n c, cs = [.int .i64 t.epoch, .int .i64 t.round, .slice a n c] ∧ n ≤ c ∧ RdList (RdLate w A) w A 5 a n t.lates
def RdBlock (w : World) (A : Nat → Prop) (cs : List Value) (b : Block) : Prop :=
  ∃ q a1 n1 c1 a2 n2 c2, cs = .int .i64 b.epoch :: .int .i64 b.round :: (dc b.parent ++ (q ++ [.slice a1 n1 c1, .slice a2 n2 c2])) ∧ RdQC w A q b.justify ∧
    n1 ≤ c1 ∧ RdList (RdBytes w A) w A 1 a1 n1 b.payload ∧ n2 ≤ c2 ∧ RdList RdVdr w A 17 a2 n2 b.next

def RdVote (w : World) (A : Nat → Prop) (cs : List Value) (v : Vote) : Prop := ∃ sg, cs = .int .i64 v.epoch :: .int .i64 v.round :: (dc v.block ++ sg) ∧ RdSigned w A sg v.sender
def RdTmo (w : World) (A : Nat → Prop) (cs : List Value) (v : Tmo) : Prop := ∃ q t sg, cs = .int .i64 v.epoch :: .int .i64 v.round :: (q ++ (t ++ sg)) ∧ RdQC w A q v.high ∧ RdTC w A t v.last ∧ RdSigned w A sg v.sender
def RdProp (w : World) (A : Nat → Prop) (cs : List Value) (v : Prop') : Prop := ∃ b t sg, cs = b ++ (t ++ sg) ∧ RdBlock w A b v.block ∧ RdTC w A t v.last ∧ RdSigned w A sg v.sender
def RdChg (w : World) (A : Nat → Prop) (cs : List Value) (c : Chg) : Prop :=
  ∃ (css : List (List Value)) (q : List Value), cs = css.flatten ++ q ∧ (∀ x ∈ css, x.length = 39) ∧ css.length = 3 ∧ c.blocks.length = 3 ∧ (∀ (i : Nat) (x : List Value) (b : Block), css[i]? = some x → c.blocks[i]? = some b → RdBlock w A x b) ∧ RdQC w A q c.qc
def RdMsg (w : World) (A : Nat → Prop) (cs : List Value) (m : Msg) : Prop :=
  ∃ v t p r c, cs = .int .i64 m.kind :: (v ++ (t ++ (p ++ (dc m.wantFrom ++ (dc m.wantBlock ++ (r ++ c)))))) ∧ RdVote w A v m.vote ∧ RdTmo w A t m.tmo ∧ RdProp w A p m.prop ∧ RdBlock w A r m.reply ∧ RdChg w A c m.chg

section mv
variable {w w' : World} {A A' : Nat → Prop} {cs : List Value}
theorem RdBytes.mv {b : List UInt8} (h : RdBytes w A cs b) (hk : Still w A w' A') : RdBytes w' A' cs b := by
  obtain ⟨a, n, c, h1, h2, h3⟩ := h; exact ⟨a, n, c, h1, h2, h3.mv hk⟩
theorem RdDigs.mv {a : Option Addr} {n : Nat} {l : List Dig} (h : RdDigs w A a n l) (hk : Still w A w' A') : RdDigs w' A' a n l := RdList.mv h hk fun _ _ h => h
theorem RdSig.mv {s : Sig} (h : RdSig w A cs s) (hk : Still w A w' A') : RdSig w' A' cs s := by
  obtain ⟨a1, n1, c1, a2, n2, c2, h1, h2, h3, h4, h5⟩ := h; exact ⟨a1, n1, c1, a2, n2, c2, h1, h2, h3, h4.mv hk, h5.mv hk⟩
theorem RdSigned.mv {s : Signed} (h : RdSigned w A cs s) (hk : Still w A w' A') : RdSigned w' A' cs s := by
  obtain ⟨ss, h1, h2⟩ := h; exact ⟨ss, h1, h2.mv hk⟩
theorem RdQC.mv {q : QC} (h : RdQC w A cs q) (hk : Still w A w' A') : RdQC w' A' cs q := by
  obtain ⟨a, n, c, h1, h2, h3⟩ := h; exact ⟨a, n, c, h1, h2, RdList.mv h3 hk fun _ _ h => h.mv hk⟩
theorem RdLate.mv {l : Late} (h : RdLate w A cs l) (hk : Still w A w' A') : RdLate w' A' cs l := by
  obtain ⟨ss, h1, h2⟩ := h; exact ⟨ss, h1, h2.mv hk⟩
theorem RdTC.mv {t : TC} (h : RdTC w A cs t) (hk : Still w A w' A') : RdTC w' A' cs t := by
  obtain ⟨a, n, c, h1, h2, h3⟩ := h; exact ⟨a, n, c, h1, h2, RdList.mv h3 hk fun _ _ h => h.mv hk⟩
theorem RdBlock.mv {b : Block} (h : RdBlock w A cs b) (hk : Still w A w' A') : RdBlock w' A' cs b := by
  obtain ⟨q, a1, n1, c1, a2, n2, c2, h1, h2, h3, h4, h5, h6⟩ := h
  exact ⟨q, a1, n1, c1, a2, n2, c2, h1, h2.mv hk, h3, RdList.mv h4 hk fun _ _ h => h.mv hk, h5, RdList.mv h6 hk fun _ _ h => h⟩
theorem RdSig.len {s : Sig} (h : RdSig w A cs s) : cs.length = 3 := by obtain ⟨_, _, _, _, _, _, h, _⟩ := h; subst h; rfl
theorem RdSigned.len {s : Signed} (h : RdSigned w A cs s) : cs.length = 4 := by obtain ⟨ss, h, h2⟩ := h; subst h; simp [h2.len]
theorem RdLate.len {s : Late} (h : RdLate w A cs s) : cs.length = 5 := by obtain ⟨ss, h, h2⟩ := h; subst h; simp [h2.len]
theorem RdQC.len {q : QC} (h : RdQC w A cs q) : cs.length = 19 := by obtain ⟨_, _, _, h, _⟩ := h; subst h; simp [dc_length]
theorem RdTC.len {t : TC} (h : RdTC w A cs t) : cs.length = 3 := by obtain ⟨_, _, _, h, _⟩ := h; subst h; rfl
theorem RdVdr.len {v : Vdr} (h : RdVdr cs v) : cs.length = 17 := by subst h; simp [dc_length]
theorem RdBlock.len {b : Block} (h : RdBlock w A cs b) : cs.length = 39 := by obtain ⟨q, _, _, _, _, _, _, h, hq, _⟩ := h; subst h; simp [dc_length, hq.len]
theorem RdSig.one {s : Sig} (h : RdSig w A cs s) : ∀ v ∈ cs, v.oneCell' = true := by obtain ⟨_, _, _, _, _, _, h, _⟩ := h; subst h; exact all_cons' rfl (all_cons' rfl (all_cons' rfl all_nil'))
theorem RdSigned.one {s : Signed} (h : RdSigned w A cs s) : ∀ v ∈ cs, v.oneCell' = true := by obtain ⟨ss, h, h2⟩ := h; subst h; exact all_cons' rfl h2.one
theorem RdLate.one {s : Late} (h : RdLate w A cs s) : ∀ v ∈ cs, v.oneCell' = true := by obtain ⟨ss, h, h2⟩ := h; subst h; exact all_cons' rfl (all_cons' rfl h2.one)
theorem RdQC.one {q : QC} (h : RdQC w A cs q) : ∀ v ∈ cs, v.oneCell' = true := by obtain ⟨_, _, _, h, _⟩ := h; subst h; exact all_cons' rfl (all_cons' rfl (all_app' (dc_one _) (all_cons' rfl all_nil')))
theorem RdTC.one {t : TC} (h : RdTC w A cs t) : ∀ v ∈ cs, v.oneCell' = true := by obtain ⟨_, _, _, h, _⟩ := h; subst h; exact all_cons' rfl (all_cons' rfl (all_cons' rfl all_nil'))
theorem RdVdr.one {v : Vdr} (h : RdVdr cs v) : ∀ u ∈ cs, u.oneCell' = true := by subst h; exact all_app' (dc_one _) (all_cons' rfl all_nil')
theorem RdBlock.one {b : Block} (h : RdBlock w A cs b) : ∀ v ∈ cs, v.oneCell' = true := by
  obtain ⟨q, _, _, _, _, _, _, h, hq, _⟩ := h; subst h; exact all_cons' rfl (all_cons' rfl (all_app' (dc_one _) (all_app' hq.one (all_cons' rfl (all_cons' rfl all_nil')))))
theorem RdVote.mv {v : Vote} (h : RdVote w A cs v) (hk : Still w A w' A') : RdVote w' A' cs v := by
  obtain ⟨sg, h1, h2⟩ := h; exact ⟨sg, h1, h2.mv hk⟩
theorem RdTmo.mv {v : Tmo} (h : RdTmo w A cs v) (hk : Still w A w' A') : RdTmo w' A' cs v := by
  obtain ⟨q, t, sg, h1, h2, h3, h4⟩ := h; exact ⟨q, t, sg, h1, h2.mv hk, h3.mv hk, h4.mv hk⟩
theorem RdProp.mv {v : Prop'} (h : RdProp w A cs v) (hk : Still w A w' A') : RdProp w' A' cs v := by
  obtain ⟨b, t, sg, h1, h2, h3, h4⟩ := h; exact ⟨b, t, sg, h1, h2.mv hk, h3.mv hk, h4.mv hk⟩
theorem RdChg.mv {v : Chg} (h : RdChg w A cs v) (hk : Still w A w' A') : RdChg w' A' cs v := by
  obtain ⟨css, q, h1, h2, h3, h4, h5, h6⟩ := h; exact ⟨css, q, h1, h2, h3, h4, fun i x b hx hb => (h5 i x b hx hb).mv hk, h6.mv hk⟩
theorem RdMsg.mv {m : Msg} (h : RdMsg w A cs m) (hk : Still w A w' A') : RdMsg w' A' cs m := by
  obtain ⟨v, t, p, r, c, h1, h2, h3, h4, h5, h6⟩ := h; exact ⟨v, t, p, r, c, h1, h2.mv hk, h3.mv hk, h4.mv hk, h5.mv hk, h6.mv hk⟩
theorem RdVote.len {v : Vote} (h : RdVote w A cs v) : cs.length = 22 := by obtain ⟨sg, h1, h2⟩ := h; subst h1; simp [dc_length, h2.len]
theorem RdTmo.len {v : Tmo} (h : RdTmo w A cs v) : cs.length = 28 := by obtain ⟨q, t, sg, h1, h2, h3, h4⟩ := h; subst h1; simp [h2.len, h3.len, h4.len]
theorem RdProp.len {v : Prop'} (h : RdProp w A cs v) : cs.length = 46 := by obtain ⟨q, t, sg, h1, h2, h3, h4⟩ := h; subst h1; simp [h2.len, h3.len, h4.len]
theorem RdChg.len {v : Chg} (h : RdChg w A cs v) : cs.length = 136 := by obtain ⟨css, q, h1, h2, h3, h4, h5, h6⟩ := h; subst h1; simp only [List.length_append, flatten_len h2, h6.len, h3]
theorem RdMsg.len {m : Msg} (h : RdMsg w A cs m) : cs.length = 304 := by obtain ⟨v, t, p, r, c, h1, h2, h3, h4, h5, h6⟩ := h; subst h1; simp only [List.length_cons, List.length_append, dc_length, h2.len, h3.len, h4.len, h5.len, h6.len]
end mv
theorem Stp.still {w0 w : World} {F0 F1 F2 : Nat → Prop} (h : Stp w0 F0 w (fun k => F1 k ∨ F2 k)) : Still w0 (fun k => ¬ F0 k) w (fun k => ¬ F1 k) := h.rd
end Go.Proofs.YtffkjjakceojfaaDoor
