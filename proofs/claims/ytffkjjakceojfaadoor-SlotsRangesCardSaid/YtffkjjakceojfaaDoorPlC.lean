/- Plain words: what the writer of layer 9 makes of messages' parts. No program in sight. -/
import Derived.Test.YtffkjjakceojfaaDoorPlW
import Derived.Test.YtffkjjakceojfaaDoorRd
namespace Go.Proofs.YtffkjjakceojfaaDoor
set_option linter.unusedVariables false

def wPut {α : Type} (wX : α → WS → WS) (l : List α) (most : Nat) (s : WS) : WS :=
  if most < l.length ∨ 255 < l.length then wFail 1 s else l.foldl (fun s x => wX x s) (wNum (l.length : Int) 1 s)
def wDig (d : Dig) (s : WS) : WS := wFix d.l s
def wBytes (b : List UInt8) (most : Nat) (s : WS) : WS := if most < b.length ∨ 65535 < b.length then wFail 1 s else wFix b (wNum (b.length : Int) 2 s)
def wSig (x : Sig) (s : WS) : WS := wPut wDig x.path 5 (wPut wDig x.chains 68 (wNum x.leaf 1 s))
def wSigned (x : Signed) (s : WS) : WS := wSig x.sig (wNum x.who 1 s)
def wAt (e r : Int) (s : WS) : WS := wNum r 6 (wNum e 4 s)
def wQC (q : QC) (s : WS) : WS := wPut wSigned q.votes 7 (wDig q.block (wAt q.epoch q.round s))
def wLate (l : Late) (s : WS) : WS := wSig l.sig (wNum l.high 6 (wNum l.who 1 s))
def wTC (t : TC) (s : WS) : WS := wPut wLate t.lates 7 (wAt t.epoch t.round s)
def wVdr (v : Vdr) (s : WS) : WS := wNum v.power 6 (wDig v.key s)
def wBlock (b : Block) (s : WS) : WS := wPut wVdr b.next 7 (wPut (fun t => wBytes t 16) b.payload 4 (wQC b.justify (wDig b.parent (wAt b.epoch b.round s))))

theorem wDig_len (d : Dig) (s : WS) : (wDig d s).bs.length ≤ s.bs.length + 16 := by have := wFix_len d.l s; rw [d.h] at this; exact this
theorem wFail_len (k : Nat) (s : WS) : (wFail k s).bs.length ≤ s.bs.length := by rw [wFail_bs]; omega
theorem foldl_len {α : Type} {wX : α → WS → WS} {c : Nat} (h : ∀ x s, (wX x s).bs.length ≤ s.bs.length + c) : ∀ (l : List α) (s : WS), (l.foldl (fun s x => wX x s) s).bs.length ≤ s.bs.length + l.length * c
  | [], s => by simp
  | x :: l, s => by
    have h1 := h x s
    have h2 := foldl_len h l (wX x s)
    simp only [List.foldl_cons, List.length_cons, Nat.add_mul, Nat.one_mul] at h2 ⊢
    omega
theorem wPut_len {α : Type} {wX : α → WS → WS} {c : Nat} (h : ∀ x s, (wX x s).bs.length ≤ s.bs.length + c) (l : List α) (most : Nat) (s : WS) : (wPut wX l most s).bs.length ≤ s.bs.length + (1 + most * c) := by
  unfold wPut; split
  · have := wFail_len 1 s; omega
  · rename_i hh
    have h1 := foldl_len h l (wNum (l.length : Int) 1 s)
    have h2 := wNum_len (l.length : Int) 1 s
    have h3 : l.length * c ≤ most * c := Nat.mul_le_mul_right _ (by omega)
    omega
theorem wBytes_len (b : List UInt8) (most : Nat) (s : WS) : (wBytes b most s).bs.length ≤ s.bs.length + (2 + most) := by
  unfold wBytes; split
  · have := wFail_len 1 s; omega
  · have h1 := wFix_len b (wNum (b.length : Int) 2 s); have h2 := wNum_len (b.length : Int) 2 s; omega
theorem wSig_len (x : Sig) (s : WS) : (wSig x s).bs.length ≤ s.bs.length + 1171 := by
  have h1 := wNum_len x.leaf 1 s
  have h2 := wPut_len wDig_len x.chains 68 (wNum x.leaf 1 s)
  have h3 := wPut_len wDig_len x.path 5 (wPut wDig x.chains 68 (wNum x.leaf 1 s))
  unfold wSig; omega
theorem wSigned_len (x : Signed) (s : WS) : (wSigned x s).bs.length ≤ s.bs.length + 1172 := by
  have h1 := wNum_len x.who 1 s; have h2 := wSig_len x.sig (wNum x.who 1 s); unfold wSigned; omega
theorem wAt_len (e r : Int) (s : WS) : (wAt e r s).bs.length ≤ s.bs.length + 10 := by
  have h1 := wNum_len e 4 s; have h2 := wNum_len r 6 (wNum e 4 s); unfold wAt; omega
theorem wQC_len (q : QC) (s : WS) : (wQC q s).bs.length ≤ s.bs.length + 8231 := by
  have h1 := wAt_len q.epoch q.round s; have h2 := wDig_len q.block (wAt q.epoch q.round s); have h3 := wPut_len wSigned_len q.votes 7 (wDig q.block (wAt q.epoch q.round s)); unfold wQC; omega
theorem wLate_len (l : Late) (s : WS) : (wLate l s).bs.length ≤ s.bs.length + 1178 := by
  have h1 := wNum_len l.who 1 s; have h2 := wNum_len l.high 6 (wNum l.who 1 s); have h3 := wSig_len l.sig (wNum l.high 6 (wNum l.who 1 s)); unfold wLate; omega
theorem wTC_len (t : TC) (s : WS) : (wTC t s).bs.length ≤ s.bs.length + 8257 := by
  have h1 := wAt_len t.epoch t.round s; have h2 := wPut_len wLate_len t.lates 7 (wAt t.epoch t.round s); unfold wTC; omega
theorem wVdr_len (v : Vdr) (s : WS) : (wVdr v s).bs.length ≤ s.bs.length + 22 := by
  have h1 := wDig_len v.key s; have h2 := wNum_len v.power 6 (wDig v.key s); unfold wVdr; omega
theorem wBlock_len (b : Block) (s : WS) : (wBlock b s).bs.length ≤ s.bs.length + 8485 := by
  have h1 := wAt_len b.epoch b.round s; have h2 := wDig_len b.parent (wAt b.epoch b.round s); have h3 := wQC_len b.justify (wDig b.parent (wAt b.epoch b.round s))
  have h4 := wPut_len (wX := fun t => wBytes t 16) (c := 18) (fun x s => wBytes_len x 16 s) b.payload 4 (wQC b.justify (wDig b.parent (wAt b.epoch b.round s)))
  have h5 := wPut_len wVdr_len b.next 7 (wPut (fun t => wBytes t 16) b.payload 4 (wQC b.justify (wDig b.parent (wAt b.epoch b.round s))))
  unfold wBlock; omega
def wVote (v : Vote) (s : WS) : WS := wSigned v.sender (wDig v.block (wAt v.epoch v.round s))
def wTmo (v : Tmo) (s : WS) : WS := wSigned v.sender (wTC v.last (wQC v.high (wAt v.epoch v.round s)))
def wProp (v : Prop') (s : WS) : WS := wSigned v.sender (wTC v.last (wBlock v.block s))
def wChg (c : Chg) (s : WS) : WS := wQC c.qc (c.blocks.foldl (fun s b => wBlock b s) s)
def wBody (m : Msg) (s : WS) : WS :=
  if m.kind = 1 then wVote m.vote s else if m.kind = 2 then wTmo m.tmo s else if m.kind = 3 then wProp m.prop s
  else if m.kind = 4 then wDig m.wantBlock (wDig m.wantFrom s) else if m.kind = 5 then wBlock m.reply s else wChg m.chg s
def wMsg (m : Msg) (s : WS) : WS := wBody m (wNum m.kind 1 s)
theorem foldl_take_succ {α β : Type} (f : β → α → β) (l : List α) (s : β) {k : Nat} {x : α} (h : l[k]? = some x) : (l.take (k + 1)).foldl f s = f ((l.take k).foldl f s) x := by
  have hk : k < l.length := (List.getElem?_eq_some_iff.1 h).1
  rw [List.take_add_one, h]
  simp
end Go.Proofs.YtffkjjakceojfaaDoor
