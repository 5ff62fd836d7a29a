/- Part 3 of 6. What is proved: see the last part: for every input the law returns true, and the input reads as it did. -/
import Derived.Test.YtkgbbnhdioghmaaGreatDoorCg2
/- Walks, by program (wg.py) out of a spec. -/
namespace Go.Proofs.YtkgbbnhdioghmaaGreatDoor
open Go
set_option linter.unusedVariables false
set_option linter.unusedSimpArgs false


def wOut (s : WS) : List UInt8 := if s.err = 0 then s.bs else []
theorem wr_new {w0 w : World} {F0 : Nat → Prop} {TE : TypeId} {ea : Nat → Addr} {g : Nat}
    (h : St w0 F0 [blk g 184 [.nilIface, .slice none 0 0]] w) : St w0 F0 [WrR TE ea g ⟨0, []⟩] w := by
  obtain ⟨F, hF, hst⟩ := h
  have h1 : St w0 F0 [rowR 5 1 none 0 0 [], blk g 184 [.nilIface, .slice none 0 0]] w := ⟨F, stars_row_nil hF, hst⟩
  obtain ⟨F', hF', hst'⟩ := h1.sel (M := [blk g 184 [.nilIface, .slice none 0 0], rowR 5 1 none 0 0 []]) (by repeat (first | exact Sel.nil | (apply Sel.cons; · (repeat (first | exact Pick.here | apply Pick.there)))))
  refine ⟨F', wr_shut (k := 0) (m := 0) (c := 0) (a := none) (xs := []) ?_ rfl rfl rfl, hst'⟩
  rw [eV_zero]; exact hF'
theorem St.rowNil {w0 w : World} {F0 : Nat → Prop} {e size : Nat} {L : List Res} (h : St w0 F0 L w) : St w0 F0 (rowR e size none 0 0 [] :: L) w := by
  obtain ⟨F, hF, hst⟩ := h; exact ⟨F, stars_row_nil hF, hst⟩
theorem RdRow.none {w : World} {A : Nat → Prop} {size n : Nat} {xs : List Value} (h : RdRow w A size none n xs) : n = 0 ∧ xs = [] := by
  have h0 : n = 0 := by
    rcases Nat.eq_zero_or_pos n with h0 | h0
    · exact h0
    · obtain ⟨_, _, ha, _⟩ := h.2.2 h0; cases ha
  subst h0
  exact ⟨rfl, List.length_eq_zero_iff.1 (by simpa using h.1)⟩

attribute [local irreducible] Gl Gc Gx Gs Runs Wt

set_option maxHeartbeats 400000 in
theorem newwriter_ok {w : World} {F : Nat → Prop} {TE : Nat} {ea : Nat → Addr} (h : stars [] w F) :
    Calls Tryz.prog 91 #[] w (Post w F (fun g : Nat => .pointer (some ⟨g, 0, none⟩)) (fun g => [WrR TE ea g ⟨0, []⟩])) := by
  refine g_enter (env := []) Tryz.func91 rfl h Tryz.ntmps91 rfl rfl ?_
  refine gsr ?_
  refine gp zas ?_
  refine gnt ?_
  refine gsr ?_
  refine gp zbu ?_
  refine zbN fun b2 => ?_
  refine gp zas ?_
  refine gnt ?_
  refine gc_ret ?_
  refine gx_ret1 rfl (by conv => lhs; whnf) ?_
  exact fun w' hw => ⟨b2, rfl, wr_new (hw.sel (by repeat (first | exact Sel.nil | (apply Sel.cons; · (repeat (first | exact Pick.here | apply Pick.there))))))⟩

set_option maxHeartbeats 400000 in
theorem cloneBytes_ok {w : World} {F : Nat → Prop} {n c : Nat} {a : Option Addr} {xs : List Value} (h : stars [] w F) (hx : RdRow w (fun k => ¬ F k) 1 a n xs) (h1 : ∀ u ∈ xs, u.oneCell' = true) (hb : n ≤ 1099511627776) :
    Calls Tryz.prog 128 #[.slice a n c] w (Post w F (fun r : Option Addr × Nat => .slice r.1 n r.2) (fun r => [rowR 5 1 r.1 n r.2 xs])) := by
  refine g_enter (env := [(0, .slice a n c)]) Tryz.func128 rfl h Tryz.ntmps128 rfl rfl ?_
  refine gsr ?_
  refine gp zas ?_
  refine gnt ?_
  refine gc_seq ?_
  refine gsr ?_
  refine gp zmv ?_
  refine gp zen ?_
  refine gnt ?_
  refine gif rfl (fun hc4 => ?_) (fun hc4 => ?_)
  · refine gsr ?_
    refine gp zas ?_
    refine gnt ?_
    refine gc_ret ?_
    refine gx_then_ret ?_
    refine gx_ret1 rfl (by conv => lhs; whnf) ?_
    have ha : a = none := by cases a <;> simp_all
    subst ha
    obtain ⟨rfl, rfl⟩ := hx.none
    exact fun w' hw => ⟨(none, 0), rfl, hw.rowNil.sel (by repeat (first | exact Sel.nil | (apply Sel.cons; · (repeat (first | exact Pick.here | apply Pick.there)))))⟩
  · refine gc_skip ?_
    refine gx_then ?_
    refine gsr ?_
    refine ze0 fun b5 => ?_
    refine gp zmv ?_
    refine gl_append (wt0 rfl) rfl rfl (by repeat (first | exact Pick.here | apply Pick.there)) Ty.el_36 (fun w' hw => hw.rdOld hx) h1 (by simp only [maxLen]; omega) (by omega) ?_
    intro a1 c1
    refine gp zas ?_
    refine gnt ?_
    refine gc_ret ?_
    refine gx_ret1 rfl (by conv => lhs; whnf) ?_
    rw [Nat.zero_add]
    exact fun w' hw => ⟨(a1, c1), rfl, hw.sel (by repeat (first | exact Sel.nil | (apply Sel.cons; · (repeat (first | exact Pick.here | apply Pick.there)))))⟩

set_option maxHeartbeats 400000 in
theorem done_ok {w : World} {F : Nat → Prop} {g TE : Nat} {ea : Nat → Addr} {s : WS} (h : stars [WrR TE ea g s] w F) (hb : s.bs.length ≤ 1099511627776) :
    Calls Tryz.prog 92 #[.pointer (some ⟨g, 0, none⟩)] w (Post w F (fun r : Option Addr × Nat => .tuple #[.slice r.1 (wOut (s)).length r.2, eV TE ea (s).err]) (fun r => [rowR 5 1 r.1 (wOut (s)).length r.2 ((wOut (s)).map B8)])) := by
  obtain ⟨a0, c0, h'⟩ := wr_open h
  refine g_enter (env := [(0, .pointer (some ⟨g, 0, none⟩))]) Tryz.func92 rfl h' Tryz.ntmps92 rfl rfl ?_
  refine gsr ?_
  refine gp zas ?_
  refine gp zas ?_
  refine gnt ?_
  refine gc_seq ?_
  refine gsr ?_
  refine gp zmv ?_
  refine gp znc ?_
  refine gp zfa ?_
  refine gp zfa ?_
  refine gp zl ?_
  refine gp (r_nenil rfl (by kernel_rfl)) ?_
  refine gnt ?_
  refine gif rfl (fun hc9 => ?_) (fun hc9 => ?_)
  · refine gc_seq ?_
    refine gc_regionS (by kernel_rfl) (by kernel_rfl) ?_
    refine sp zmv ?_
    refine sp znc ?_
    refine sp zfa ?_
    refine sp zfa ?_
    refine sp zl ?_
    refine sp zas ?_
    refine sp zas ?_
    refine gs_nil ?_
    refine gx_then ?_
    refine gc_ret ?_
    refine gx_then_ret ?_
    refine gx_ret2 rfl (by conv => lhs; whnf) (by conv => lhs; whnf) ?_
    exact fun w' hw => ⟨(none, 0), by simp [wOut, hc9], by simpa [wOut, hc9] using hw.rowNil.sel (by repeat (first | exact Sel.nil | (apply Sel.cons; · (repeat (first | exact Pick.here | apply Pick.there)))))⟩
  · refine gc_skip ?_
    refine gx_then ?_
    refine gsr ?_
    refine gp zmv ?_
    refine gp znc ?_
    refine gp zfa ?_
    refine gp zl ?_
    refine zc (fun r19 => ?_) (c := fun w1 F1 F2 h1 h2 hd hst => cloneBytes_ok (xs := s.bs.map B8) h1 (rd_row h2 hd (by repeat (first | exact Pick.here | apply Pick.there))) (one_B8 _) (by omega))
    refine gp zas ?_
    refine gp zas ?_
    refine gnt ?_
    refine gc_ret ?_
    refine gx_ret2 rfl (by conv => lhs; whnf) (by conv => lhs; whnf) ?_
    have e : wOut s = s.bs := by simp [wOut, hc9]
    rw [e]
    exact fun w' hw => ⟨r19, by rw [hc9, eV_zero], hw.sel (by repeat (first | exact Sel.nil | (apply Sel.cons; · (repeat (first | exact Pick.here | apply Pick.there)))))⟩

set_option maxHeartbeats 400000 in
theorem written_ok {w : World} {F : Nat → Prop} {b T k TE : Nat} {ea : Nat → Addr} {cs : List Value} {fw : WS → WS} (h : stars [blk b T cs] w F) (hok : okCall Tryz.prog k = true) (hk : ∀ g w1 F1, stars [WrR TE ea g ⟨0, []⟩, blk b T cs] w1 F1 → Still w (fun k => ¬ F k) w1 (fun k => ¬ F1 k) → Calls Tryz.prog k #[.agg (List.toArray [.pointer (some ⟨g, 0, none⟩)]), .pointer (some ⟨b, 0, none⟩)] w1 (Post w1 F1 (fun _ : Unit => .tuple #[]) (fun _ => [WrR TE ea g (fw ⟨0, []⟩), blk b T cs]))) (hb : (fw ⟨0, []⟩).bs.length ≤ 1099511627776) :
    Calls Tryz.prog 39 #[.func (.func k) #[] (List.toArray [.pointer (some ⟨b, 0, none⟩)])] w (Post w F (fun r : Option Addr × Nat => .tuple #[.slice r.1 (wOut (fw ⟨0, []⟩)).length r.2, eV TE ea (fw ⟨0, []⟩).err]) (fun r => [rowR 5 1 r.1 (wOut (fw ⟨0, []⟩)).length r.2 ((wOut (fw ⟨0, []⟩)).map B8)])) := by
  refine g_enter (env := [(0, .func (.func k) #[] (List.toArray [.pointer (some ⟨b, 0, none⟩)]))]) Tryz.func39 rfl h Tryz.ntmps39 rfl rfl ?_
  refine gsr ?_
  refine gp zas ?_
  refine gp zas ?_
  refine gnt ?_
  refine gsr ?_
  refine zc (fun g => ?_) (c := fun w1 F1 F2 h1 h2 hd hst => newwriter_ok (TE := TE) (ea := ea) h1)
  refine gp zbu ?_
  refine zal fun b4 => ?_
  refine zsN ?_
  refine gnt ?_
  refine gsr ?_
  refine gp zmv ?_
  refine gp zL ?_
  refine gl_call (wt0 rfl) (e_callv (us := [.pointer (some ⟨b, 0, none⟩)]) rfl hok rfl) (by repeat (first | exact Sel.nil | (apply Sel.cons; · (repeat (first | exact Pick.here | apply Pick.there))))) (fun w1 F1 F2 h1 h2 hd hst => hk _ _ _ h1 hst.still) ?_
  intro _
  refine gnt ?_
  refine gsr ?_
  refine gp zfa ?_
  refine gp zl ?_
  refine zc (fun r12 => ?_) (c := fun w1 F1 F2 h1 h2 hd hst => done_ok h1 hb)
  refine gp zex ?_
  refine gp zex ?_
  refine gp zas ?_
  refine gp zas ?_
  refine gnt ?_
  refine gc_ret ?_
  refine gx_ret2 rfl (by conv => lhs; whnf) (by conv => lhs; whnf) ?_
  exact ze r12

set_option maxHeartbeats 400000 in
theorem bytes1_ok {w : World} {F : Nat → Prop} {g TE : Nat} {ea : Nat → Addr} {s : WS} {b : Nat} {cs : List Value} {x : Block} (h : stars [WrR TE ea g s, blk b 30 cs] w F) {es : List Nat} [Has es 1] (hE : GErr es w (fun k => ¬ F k) TE ea) (hx : RdBlock w (fun k => ¬ F k) cs x) (hb : s.bs.length + 8485 ≤ 1099511627776) :
    Calls Tryz.prog 84 #[.agg (List.toArray [.pointer (some ⟨g, 0, none⟩)]), .pointer (some ⟨b, 0, none⟩)] w (Post w F (fun _ : Unit => .tuple #[]) (fun _ => [WrR TE ea g (wBlock x s), blk b 30 cs])) := by
  have hl := hx.len
  refine g_enter (env := [(0, .agg (List.toArray [.pointer (some ⟨g, 0, none⟩)])), (1, .pointer (some ⟨b, 0, none⟩))]) Tryz.func84 rfl h Tryz.ntmps84 rfl rfl ?_
  refine gsr ?_
  refine zbN fun b2 => ?_
  refine gnt ?_
  refine gc_region ?_
  refine gp zL ?_
  refine gp (r_ldN rfl Ty.row_30 Ty.sz_30 (by repeat (first | exact Pick.here | apply Pick.there)) (seg_all hl) hl) ?_
  refine zc (fun _ => ?_) (c := fun w1 F1 F2 h1 h2 hd hst => block_ok h1 (hE.mv hst.still) (hx.mv hst.still) hb)
  refine gl_nil ?_
  refine gx_ret0' rfl ?_
  exact ze ()

set_option maxHeartbeats 400000 in
theorem bytes_ok {w : World} {F : Nat → Prop} {TE : Nat} {ea : Nat → Addr} {cs : List Value} {x : Block} (h : stars [] w F) {es : List Nat} [Has es 1] (hE : GErr es w (fun k => ¬ F k) TE ea) (hx : RdBlock w (fun k => ¬ F k) cs x) :
    Calls Tryz.prog 34 #[.agg cs.toArray] w (Post w F (fun r : Option Addr × Nat => .tuple #[.slice r.1 (wOut (wBlock x ⟨0, []⟩)).length r.2, eV TE ea (wBlock x ⟨0, []⟩).err]) (fun r => [rowR 5 1 r.1 (wOut (wBlock x ⟨0, []⟩)).length r.2 ((wOut (wBlock x ⟨0, []⟩)).map B8)])) := by
  refine g_enter (env := [(0, .agg cs.toArray)]) Tryz.func34 rfl h Tryz.ntmps34 rfl rfl ?_
  refine gsr ?_
  refine zbN fun b1 => ?_
  refine gp zas ?_
  refine gp zas ?_
  refine gnt ?_
  refine gsr ?_
  refine gp zmf ?_
  refine zc (fun r5 => ?_) (c := fun w1 F1 F2 h1 h2 hd hst => written_ok (fw := wBlock x) h1 Ty.call_84 (fun g w2 F3 h2 hs2 => bytes1_ok h2 ((hE.mv hst.still).mv hs2) ((hx.mv hst.still).mv hs2) (by simp)) (by have e0 := wBlock_len x ⟨0, []⟩; simp at e0 ⊢; omega))
  refine gp zex ?_
  refine gp zex ?_
  refine gp zas ?_
  refine gp zas ?_
  refine gnt ?_
  refine gc_ret ?_
  refine gx_ret2 rfl (by conv => lhs; whnf) (by conv => lhs; whnf) ?_
  exact ze r5

end Go.Proofs.YtkgbbnhdioghmaaGreatDoor

/- Plain words: what the reader of layer 9 makes of bytes; that it undoes the writer, and the writer it. No program in sight. -/
namespace Go.Proofs.YtkgbbnhdioghmaaGreatDoor
set_option linter.unusedVariables false

/-- A reading: a value and what is left, or an error's number. -/
abbrev PR (α : Type) := List UInt8 → Except Nat (α × List UInt8)
def pBind {α β : Type} (p : PR α) (f : α → PR β) : PR β := fun b => match p b with
  | .error e => .error e
  | .ok x => f x.1 x.2
def pPure {α : Type} (x : α) : PR α := fun b => .ok (x, b)
def pErr {α : Type} (e : Nat) : PR α := fun _ => .error e
def pTake (n : Nat) : PR (List UInt8) := fun b => if b.length < n then .error 2 else .ok (b.take n, b.drop n)
def valN (l : List UInt8) : Nat := l.foldl (fun n c => n * 256 + c.toNat) 0
def pNum (wd : Nat) : PR Int := pBind (pTake wd) fun l => pPure (valN l : Int)
def digOf (l : List UInt8) : Dig := if h : l.length = 16 then ⟨l, h⟩ else dig0
def pDig : PR Dig := pBind (pTake 16) fun l => pPure (digOf l)
def pMany {α : Type} (one : PR α) : Nat → PR (List α)
  | 0 => pPure []
  | k + 1 => pBind one fun x => pBind (pMany one k) fun l => pPure (x :: l)
def pList {α : Type} (one : PR α) (most : Nat) : PR (List α) := pBind (pNum 1) fun n => if (most : Int) < n then pErr 1 else pMany one n.toNat
def pBytes (most : Nat) : PR (List UInt8) := pBind (pNum 2) fun n => if (most : Int) < n then pErr 1 else pTake n.toNat
def pSig : PR Sig := pBind (pNum 1) fun l => pBind (pList pDig 68) fun c => pBind (pList pDig 5) fun p => pPure ⟨l, c, p⟩
def pSigned : PR Signed := pBind (pNum 1) fun w => pBind pSig fun s => pPure ⟨w, s⟩
def pAt : PR (Int × Int) := pBind (pNum 4) fun e => pBind (pNum 6) fun r => pPure (e, r)
def pQC : PR QC := pBind pAt fun a => pBind pDig fun d => pBind (pList pSigned 7) fun v => pPure ⟨a.1, a.2, d, v⟩
def pLate : PR Late := pBind (pNum 1) fun w => pBind (pNum 6) fun h => pBind pSig fun s => pPure ⟨w, h, s⟩
def pTC : PR TC := pBind pAt fun a => pBind (pList pLate 7) fun l => pPure ⟨a.1, a.2, l⟩
def pVdr : PR Vdr := pBind pDig fun k => pBind (pNum 6) fun p => pPure ⟨k, p⟩
def pBlock : PR Block := pBind pAt fun a => pBind pDig fun d => pBind pQC fun q => pBind (pList (pBytes 16) 4) fun t => pBind (pList pVdr 7) fun v => pPure ⟨a.1, a.2, d, q, t, v⟩
def pChg : PR Chg := pBind (pMany pBlock 3) fun bs => pBind pQC fun q => pPure ⟨bs, q⟩
def pVote : PR Vote := pBind pAt fun a => pBind pDig fun d => pBind pSigned fun s => pPure ⟨a.1, a.2, d, s⟩
def pTmo : PR Tmo := pBind pAt fun a => pBind pQC fun q => pBind pTC fun t => pBind pSigned fun s => pPure ⟨a.1, a.2, q, t, s⟩
def pProp : PR Prop' := pBind pBlock fun b => pBind pTC fun t => pBind pSigned fun s => pPure ⟨b, t, s⟩
def sig0 : Sig := ⟨0, [], []⟩
def sgn0 : Signed := ⟨0, sig0⟩
def qc0 : QC := ⟨0, 0, dig0, []⟩
def tc0 : TC := ⟨0, 0, []⟩
def blk0 : Block := ⟨0, 0, dig0, qc0, [], []⟩
def chg0 : Chg := ⟨[blk0, blk0, blk0], qc0⟩
def msg0 (k : Int) : Msg := ⟨k, ⟨0, 0, dig0, sgn0⟩, ⟨0, 0, qc0, tc0, sgn0⟩, ⟨blk0, tc0, sgn0⟩, dig0, dig0, blk0, chg0⟩
def pBody (k : Int) : PR Msg :=
  if k = 1 then pBind pVote fun v => pPure { msg0 k with vote := v }
  else if k = 2 then pBind pTmo fun v => pPure { msg0 k with tmo := v }
  else if k = 3 then pBind pProp fun v => pPure { msg0 k with prop := v }
  else if k = 4 then pBind pDig fun d => pBind pDig fun e => pPure { msg0 k with wantFrom := d, wantBlock := e }
  else if k = 5 then pBind pBlock fun v => pPure { msg0 k with reply := v }
  else if k = 6 then pBind pChg fun v => pPure { msg0 k with chg := v }
  else pErr 4
def pMsg : PR Msg := pBind (pNum 1) pBody
/-- All bytes are read. -/
def pAll {α : Type} (p : PR α) (b : List UInt8) : Except Nat α := match p b with
  | .error e => .error e
  | .ok x => if x.2 = [] then .ok x.1 else .error 3
/-- A message with its kind's fields alone. -/
def plainM (m : Msg) : Msg :=
  if m.kind = 1 then { msg0 m.kind with vote := m.vote }
  else if m.kind = 2 then { msg0 m.kind with tmo := m.tmo }
  else if m.kind = 3 then { msg0 m.kind with prop := m.prop }
  else if m.kind = 4 then { msg0 m.kind with wantFrom := m.wantFrom, wantBlock := m.wantBlock }
  else if m.kind = 5 then { msg0 m.kind with reply := m.reply }
  else if m.kind = 6 then { msg0 m.kind with chg := m.chg }
  else msg0 m.kind

/-! ### Numbers -/
theorem valN_go (l : List UInt8) (a : Nat) : l.foldl (fun n c => n * 256 + c.toNat) a = a * 256 ^ l.length + valN l := by
  unfold valN
  induction l generalizing a with
  | nil => simp
  | cons c l ih =>
    rw [List.foldl_cons, ih, List.foldl_cons, ih (0 * 256 + c.toNat), List.length_cons, Nat.pow_succ, Nat.add_mul, Nat.zero_mul, Nat.zero_add, Nat.mul_comm (256 ^ l.length) 256, ← Nat.mul_assoc]
    omega
theorem valN_cons (c : UInt8) (l : List UInt8) : valN (c :: l) = c.toNat * 256 ^ l.length + valN l := by
  conv => lhs; unfold valN
  rw [List.foldl_cons, valN_go, Nat.zero_mul, Nat.zero_add]
theorem valN_lt (l : List UInt8) : valN l < 256 ^ l.length := by
  induction l with
  | nil => simp [valN]
  | cons c l ih =>
    rw [valN_cons, List.length_cons, Nat.pow_succ]
    have := c.toNat_lt
    have h2 : c.toNat * 256 ^ l.length ≤ 255 * 256 ^ l.length := Nat.mul_le_mul_right _ (by omega)
    omega
theorem beN_succ (n : Int) (wd : Nat) : beN n (wd + 1) = byteAt n wd :: beN n wd := by
  simp only [beN, List.range_succ_eq_map, List.map_cons, List.map_map]
  congr 1
  apply List.map_congr_left
  intro j hj
  simp only [Function.comp]
  congr 1
  omega
theorem byteAt_nat (n i : Nat) : byteAt (n : Int) i = UInt8.ofNat (n / 256 ^ i) := by
  unfold byteAt
  have e : (2 : Int) ^ (8 * i) = ((256 ^ i : Nat) : Int) := by
    rw [Int.pow_mul]; simp
  rw [e, ← Int.natCast_ediv, show ((n / 256 ^ i : Nat) : Int) % 256 = ((n / 256 ^ i % 256 : Nat) : Int) by simp, Int.toNat_natCast]
  apply UInt8.toNat_inj.1
  simp
theorem valN_beN (n wd : Nat) : valN (beN (n : Int) wd) = n % 256 ^ wd := by
  induction wd with
  | zero => simp [beN, valN, Nat.mod_one]
  | succ wd ih =>
    have e : n % 256 ^ (wd + 1) = n % 256 ^ wd + 256 ^ wd * (n / 256 ^ wd % 256) := by rw [Nat.pow_succ, Nat.mod_mul]
    rw [beN_succ, valN_cons, ih, beN_length, byteAt_nat, UInt8.toNat_ofNat', e]
    rw [Nat.add_comm, Nat.mul_comm]
theorem beN_mod (c v k j : Nat) (h : j ≤ k) : beN ((c * 256 ^ k + v : Nat) : Int) j = beN (v : Int) j := by
  induction j with
  | zero => rfl
  | succ j ih =>
    rw [beN_succ, beN_succ, ih (by omega), byteAt_nat, byteAt_nat]
    congr 1
    apply UInt8.toNat_inj.1
    obtain ⟨d, rfl⟩ : ∃ d, k = j + 1 + d := ⟨k - (j + 1), by omega⟩
    have e : c * 256 ^ (j + 1 + d) + v = v + 256 ^ j * (256 * (256 ^ d * c)) := by
      rw [Nat.pow_add, Nat.pow_succ]
      rw [Nat.add_comm]; congr 1
      rw [Nat.mul_comm c, Nat.mul_assoc, Nat.mul_assoc]
    rw [e, UInt8.toNat_ofNat', UInt8.toNat_ofNat', Nat.add_mul_div_left _ _ (Nat.pow_pos (by decide))]
    omega
theorem beN_valN (l : List UInt8) : beN (valN l : Int) l.length = l := by
  induction l with
  | nil => rfl
  | cons c l ih =>
    rw [List.length_cons, beN_succ, valN_cons, beN_mod _ _ _ _ (Nat.le_refl _), ih, byteAt_nat]
    congr 1
    apply UInt8.toNat_inj.1
    rw [UInt8.toNat_ofNat', Nat.mul_comm, Nat.mul_add_div (Nat.pow_pos (by decide)), Nat.div_eq_of_lt (valN_lt l)]
    have := c.toNat_lt
    omega

/-! ### What is written is read -/
/-- What W writes is what p reads. -/
def Enc {α : Type} (W : α → WS → WS) (p : PR α) : Prop := ∀ x s, (W x s).err = 0 → s.err = 0 ∧ ∃ b, (W x s).bs = s.bs ++ b ∧ ∀ r, p (b ++ r) = .ok (x, r)
/-- What p reads is what W writes. -/
def Dec {α : Type} (W : α → WS → WS) (p : PR α) : Prop := ∀ b x r, p b = .ok (x, r) → ∃ b', b = b' ++ r ∧ ∀ s, s.err = 0 → W x s = ⟨0, s.bs ++ b'⟩
/-- What p reads it reads whatever is behind; cut short it is short. -/
def Loc {α : Type} (p : PR α) : Prop := ∀ b x r, p b = .ok (x, r) → ∃ b', b = b' ++ r ∧ (∀ m, p (b' ++ m) = .ok (x, m)) ∧ ∀ k, k < b'.length → p (b'.take k) = .error 2

theorem pBind_ok {α β : Type} {p : PR α} {f : α → PR β} {b r : List UInt8} {y : β} (h : pBind p f b = .ok (y, r)) : ∃ x r1, p b = .ok (x, r1) ∧ f x r1 = .ok (y, r) := by
  unfold pBind at h
  cases hp : p b with
  | error e => rw [hp] at h; cases h
  | ok x => rw [hp] at h; exact ⟨x.1, x.2, rfl, h⟩
theorem pBind_eq {α β : Type} {p : PR α} {f : α → PR β} {b r : List UInt8} {x : α} (h : p b = .ok (x, r)) : pBind p f b = f x r := by
  unfold pBind; rw [h]
theorem pBind_err {α β : Type} {p : PR α} {f : α → PR β} {b : List UInt8} {e : Nat} (h : p b = .error e) : pBind p f b = .error e := by
  unfold pBind; rw [h]
theorem pTake_ok {n : Nat} {b l r : List UInt8} (h : pTake n b = .ok (l, r)) : b = l ++ r ∧ l.length = n := by
  unfold pTake at h
  split at h
  · cases h
  · simp only [Except.ok.injEq, Prod.mk.injEq] at h
    obtain ⟨rfl, rfl⟩ := h
    simp; omega
theorem pTake_app (l r : List UInt8) : pTake l.length (l ++ r) = .ok (l, r) := by
  simp [pTake]
theorem pNum_app {wd n : Nat} (h : n < 256 ^ wd) (r : List UInt8) : pNum wd (beN (n : Int) wd ++ r) = .ok ((n : Int), r) := by
  have := pTake_app (beN (n : Int) wd) r
  rw [beN_length] at this
  rw [pNum, pBind_eq this, valN_beN, Nat.mod_eq_of_lt h]; rfl
theorem pNum_ok {wd : Nat} {b r : List UInt8} {n : Int} (h : pNum wd b = .ok (n, r)) : ∃ m : Nat, n = m ∧ m < 256 ^ wd ∧ b = beN n wd ++ r := by
  obtain ⟨l, r1, h1, h2⟩ := pBind_ok h
  obtain ⟨rfl, rfl⟩ := pTake_ok h1
  simp only [pPure, Except.ok.injEq, Prod.mk.injEq] at h2
  obtain ⟨rfl, rfl⟩ := h2
  exact ⟨valN l, rfl, valN_lt l, by rw [beN_valN]⟩
theorem wNum_ok {n : Int} {wd : Nat} {s : WS} (hw : wd < 8) (h : (wNum n wd s).err = 0) : s.err = 0 ∧ 0 ≤ n ∧ n < 256 ^ wd ∧ wNum n wd s = ⟨0, s.bs ++ beN n wd⟩ := by
  have e : (2 : Int) ^ (8 * wd) = 256 ^ wd := by rw [Int.pow_mul]; rfl
  unfold wNum at h ⊢
  split at h
  · exfalso
    unfold wFail at h
    split at h
    · simp at h
    · contradiction
  · rename_i hn
    rw [if_neg hn]
    have hn' : 0 ≤ n ∧ n < 256 ^ wd := by rw [← e]; omega
    unfold wFix at h ⊢
    split at h
    · rename_i hs
      rw [if_pos hs, hs]
      exact ⟨rfl, hn'.1, hn'.2, rfl⟩
    · contradiction
theorem wNum_of {n wd : Nat} {s : WS} (h : n < 256 ^ wd) (hs : s.err = 0) : wNum (n : Int) wd s = ⟨0, s.bs ++ beN n wd⟩ := by
  have e : (2 : Int) ^ (8 * wd) = ((256 ^ wd : Nat) : Int) := by rw [Int.pow_mul]; simp
  unfold wNum
  rw [e, if_neg (by omega), wFix, if_pos hs, hs]
theorem wFail_err {k : Nat} (hk : k ≠ 0) (s : WS) : (wFail k s).err ≠ 0 := by
  unfold wFail; split
  · exact hk
  · assumption
theorem wFix_ok {b : List UInt8} {s : WS} (h : (wFix b s).err = 0) : s.err = 0 ∧ wFix b s = ⟨0, s.bs ++ b⟩ := by
  unfold wFix at h ⊢
  split at h
  · rename_i hs; rw [if_pos hs, hs]; exact ⟨rfl, rfl⟩
  · contradiction
theorem wFix_of {b : List UInt8} {s : WS} (hs : s.err = 0) : wFix b s = ⟨0, s.bs ++ b⟩ := by rw [wFix, if_pos hs, hs]

theorem enc_num {wd : Nat} (hw : wd < 8) : Enc (fun n s => wNum n wd s) (pNum wd) := fun n s h => by
  obtain ⟨h1, h2, h3, h4⟩ := wNum_ok hw h
  refine ⟨h1, beN n wd, by simp only [h4], fun r => ?_⟩
  obtain ⟨m, rfl⟩ := Int.eq_ofNat_of_zero_le h2
  exact pNum_app (by have : ((m : Nat) : Int) < ((256 ^ wd : Nat) : Int) := by simpa using h3
                     omega) r
theorem dec_num {wd : Nat} : Dec (fun n s => wNum n wd s) (pNum wd) := fun b n r h => by
  obtain ⟨m, rfl, h2, h3⟩ := pNum_ok h
  exact ⟨beN m wd, h3, fun s hs => wNum_of h2 hs⟩
theorem enc_dig : Enc wDig pDig := fun d s h => by
  obtain ⟨h1, h2⟩ := wFix_ok h
  refine ⟨h1, d.l, by simp only [wDig, h2], fun r => ?_⟩
  have := pTake_app d.l r
  rw [d.h] at this
  rw [pDig, pBind_eq this, digOf, dif_pos d.h]; rfl
theorem dec_dig : Dec wDig pDig := fun b d r h => by
  obtain ⟨l, r1, h1, h2⟩ := pBind_ok h
  obtain ⟨rfl, hl⟩ := pTake_ok h1
  simp only [pPure, Except.ok.injEq, Prod.mk.injEq, digOf, dif_pos hl] at h2
  obtain ⟨rfl, rfl⟩ := h2
  exact ⟨l, rfl, fun s hs => wFix_of hs⟩
/-- One behind the other: first a part, then the rest. -/
theorem enc_bind {α β : Type} {W : α → WS → WS} {p : PR α} (h : Enc W p) {V : β → WS → WS} {q : α → PR β} {g : β → α} (hv : ∀ y s, (V y s).err = 0 → s.err = 0 ∧ ∃ b, (V y s).bs = s.bs ++ b ∧ ∀ r, q (g y) (b ++ r) = .ok (y, r)) :
    Enc (fun y s => V y (W (g y) s)) (pBind p q) := fun y s hs => by
  obtain ⟨h1, b2, e2, k2⟩ := hv y _ hs
  obtain ⟨h3, b1, e1, k1⟩ := h _ _ h1
  refine ⟨h3, b1 ++ b2, by rw [e2, e1, List.append_assoc], fun r => ?_⟩
  rw [List.append_assoc, pBind_eq (k1 _), k2]
theorem dec_bind {α β : Type} {W : α → WS → WS} {p : PR α} (h : Dec W p) {V : β → WS → WS} {q : α → PR β} {g : β → α}
    (hv : ∀ a b y r, q a b = .ok (y, r) → g y = a ∧ ∃ b', b = b' ++ r ∧ ∀ s, s.err = 0 → V y s = ⟨0, s.bs ++ b'⟩) : Dec (fun y s => V y (W (g y) s)) (pBind p q) := fun b y r hb => by
  obtain ⟨x, r1, h1, h2⟩ := pBind_ok hb
  obtain ⟨b1, rfl, k1⟩ := h _ _ _ h1
  obtain ⟨rfl, b2, rfl, k2⟩ := hv _ _ _ _ h2
  exact ⟨b1 ++ b2, by rw [List.append_assoc], fun s hs => by show V y (W (g y) s) = _; rw [k1 s hs, k2 _ rfl, List.append_assoc]⟩
theorem foldl_err {α : Type} {W : α → WS → WS} (h : ∀ x s, (W x s).err = 0 → s.err = 0) : ∀ (l : List α) (s : WS), (l.foldl (fun s x => W x s) s).err = 0 → s.err = 0
  | [], s, hs => hs
  | x :: l, s, hs => h x s (foldl_err h l _ hs)
theorem enc_many {α : Type} {W : α → WS → WS} {p : PR α} (h : Enc W p) : ∀ (l : List α) (s : WS), (l.foldl (fun s x => W x s) s).err = 0 → s.err = 0 ∧ ∃ b, (l.foldl (fun s x => W x s) s).bs = s.bs ++ b ∧ ∀ r, pMany p l.length (b ++ r) = .ok (l, r)
  | [], s, hs => ⟨hs, [], by simp, fun r => rfl⟩
  | x :: l, s, hs => by
    obtain ⟨h1, b2, e2, k2⟩ := enc_many h l (W x s) hs
    obtain ⟨h3, b1, e1, k1⟩ := h _ _ h1
    refine ⟨h3, b1 ++ b2, by rw [List.foldl_cons, e2, e1, List.append_assoc], fun r => ?_⟩
    rw [List.append_assoc, List.length_cons, pMany, pBind_eq (k1 _), pBind_eq (k2 _)]; rfl
theorem dec_many {α : Type} {W : α → WS → WS} {p : PR α} (h : Dec W p) : ∀ (n : Nat) (b : List UInt8) (l : List α) (r : List UInt8), pMany p n b = .ok (l, r) → l.length = n ∧ ∃ b', b = b' ++ r ∧ ∀ s, s.err = 0 → l.foldl (fun s x => W x s) s = ⟨0, s.bs ++ b'⟩
  | 0, b, l, r, hb => by
    simp only [pMany, pPure, Except.ok.injEq, Prod.mk.injEq] at hb
    obtain ⟨rfl, rfl⟩ := hb
    exact ⟨rfl, [], rfl, fun s hs => by rw [← hs]; simp⟩
  | n + 1, b, l, r, hb => by
    obtain ⟨x, r1, h1, h2⟩ := pBind_ok hb
    obtain ⟨l', r2, h3, h4⟩ := pBind_ok h2
    simp only [pPure, Except.ok.injEq, Prod.mk.injEq] at h4
    obtain ⟨rfl, rfl⟩ := h4
    obtain ⟨b1, rfl, k1⟩ := h _ _ _ h1
    obtain ⟨hl, b2, rfl, k2⟩ := dec_many h n _ _ _ h3
    exact ⟨by simp [hl], b1 ++ b2, by rw [List.append_assoc], fun s hs => by rw [List.foldl_cons, k1 s hs, k2 _ rfl, List.append_assoc]⟩
theorem enc_list {α : Type} {W : α → WS → WS} {p : PR α} (h : Enc W p) (most : Nat) : Enc (fun l s => wPut W l most s) (pList p most) := fun l s hs => by
  simp only [wPut] at hs ⊢
  split at hs
  · exact absurd hs (wFail_err (by decide) s)
  · rename_i hn
    rw [if_neg hn]
    obtain ⟨h1, b2, e2, k2⟩ := enc_many h l _ hs
    obtain ⟨h3, b1, e1, k1⟩ := enc_num (wd := 1) (by decide) _ _ h1
    refine ⟨h3, b1 ++ b2, by rw [e2, e1, List.append_assoc], fun r => ?_⟩
    rw [List.append_assoc, pList, pBind_eq (k1 _), if_neg (by omega), Int.toNat_natCast, k2]
theorem dec_list {α : Type} {W : α → WS → WS} {p : PR α} (h : Dec W p) (most : Nat) : Dec (fun l s => wPut W l most s) (pList p most) := fun b l r hb => by
  obtain ⟨n, r1, h1, h2⟩ := pBind_ok hb
  obtain ⟨m, rfl, hm, _⟩ := pNum_ok h1
  obtain ⟨b1, rfl, k1⟩ := dec_num _ _ _ h1
  split at h2
  · cases h2
  · rename_i hn
    rw [Int.toNat_natCast] at h2
    obtain ⟨hl, b2, rfl, k2⟩ := dec_many h _ _ _ _ h2
    refine ⟨b1 ++ b2, by rw [List.append_assoc], fun s hs => ?_⟩
    simp only [wPut]
    rw [if_neg (by omega), hl, show wNum (m : Int) 1 s = _ from k1 s hs, k2 _ rfl, List.append_assoc]
theorem enc_bytes {most : Nat} : Enc (fun b s => wBytes b most s) (pBytes most) := fun l s hs => by
  simp only [wBytes] at hs ⊢
  split at hs
  · exact absurd hs (wFail_err (by decide) s)
  · rename_i hn
    rw [if_neg hn]
    obtain ⟨h1, h2⟩ := wFix_ok hs
    obtain ⟨h3, b1, e1, k1⟩ := enc_num (wd := 2) (by decide) _ _ h1
    refine ⟨h3, b1 ++ l, by simp only [h2, e1, List.append_assoc], fun r => ?_⟩
    rw [List.append_assoc, pBytes, pBind_eq (k1 _), if_neg (by omega), Int.toNat_natCast, pTake_app]
theorem dec_bytes {most : Nat} : Dec (fun b s => wBytes b most s) (pBytes most) := fun b l r hb => by
  obtain ⟨n, r1, h1, h2⟩ := pBind_ok hb
  obtain ⟨m, rfl, hm, _⟩ := pNum_ok h1
  obtain ⟨b1, rfl, k1⟩ := dec_num _ _ _ h1
  split at h2
  · cases h2
  · rename_i hn
    rw [Int.toNat_natCast] at h2
    obtain ⟨rfl, hl⟩ := pTake_ok h2
    refine ⟨b1 ++ l, by rw [List.append_assoc], fun s hs => ?_⟩
    simp only [wBytes]
    rw [if_neg (by omega), hl, show wNum (m : Int) 2 s = _ from k1 s hs, wFix_of rfl, List.append_assoc]

/-! ### Cut short -/
theorem loc_pure {α : Type} (x : α) : Loc (pPure x) := fun b y r h => by
  simp only [pPure, Except.ok.injEq, Prod.mk.injEq] at h
  obtain ⟨rfl, rfl⟩ := h
  exact ⟨[], rfl, fun m => rfl, fun k hk => absurd hk (by simp)⟩
theorem loc_err {α : Type} (e : Nat) : Loc (pErr (α := α) e) := fun b y r h => by cases h
theorem loc_take (n : Nat) : Loc (pTake n) := fun b l r h => by
  obtain ⟨rfl, hl⟩ := pTake_ok h
  refine ⟨l, rfl, fun m => by rw [← hl]; exact pTake_app l m, fun k hk => ?_⟩
  unfold pTake
  rw [if_pos (by rw [List.length_take]; omega)]
theorem loc_bind {α β : Type} {p : PR α} {f : α → PR β} (hp : Loc p) (hf : ∀ x, Loc (f x)) : Loc (pBind p f) := fun b y r h => by
  obtain ⟨x, r1, h1, h2⟩ := pBind_ok h
  obtain ⟨b1, rfl, k1, s1⟩ := hp _ _ _ h1
  obtain ⟨b2, rfl, k2, s2⟩ := hf _ _ _ _ h2
  refine ⟨b1 ++ b2, by rw [List.append_assoc], fun m => by rw [List.append_assoc, pBind_eq (k1 _), k2], fun k hk => ?_⟩
  by_cases hk1 : k < b1.length
  · rw [List.take_append_of_le_length (by omega), pBind_err (s1 k hk1)]
  · obtain ⟨j, rfl⟩ : ∃ j, k = b1.length + j := ⟨k - b1.length, by omega⟩
    rw [List.take_append, pBind_eq (x := x) (r := b2.take j)]
    · exact s2 j (by rw [List.length_append] at hk; omega)
    · rw [List.take_of_length_le (by omega), Nat.add_sub_cancel_left]; exact k1 _
theorem loc_num (wd : Nat) : Loc (pNum wd) := loc_bind (loc_take wd) fun _ => loc_pure _
theorem loc_dig : Loc pDig := loc_bind (loc_take 16) fun _ => loc_pure _
theorem loc_many {α : Type} {p : PR α} (h : Loc p) : ∀ n, Loc (pMany p n)
  | 0 => loc_pure _
  | n + 1 => loc_bind h fun _ => loc_bind (loc_many h n) fun _ => loc_pure _
theorem loc_ite {α : Type} {c : Prop} [Decidable c] {p q : PR α} (hp : Loc p) (hq : Loc q) : Loc (if c then p else q) := by split <;> assumption
theorem loc_list {α : Type} {p : PR α} (h : Loc p) (most : Nat) : Loc (pList p most) := loc_bind (loc_num 1) fun _ => loc_ite (loc_err 1) (loc_many h _)
theorem loc_bytes (most : Nat) : Loc (pBytes most) := loc_bind (loc_num 2) fun _ => loc_ite (loc_err 1) (loc_take _)
theorem loc_sig : Loc pSig := loc_bind (loc_num 1) fun _ => loc_bind (loc_list loc_dig 68) fun _ => loc_bind (loc_list loc_dig 5) fun _ => loc_pure _
theorem loc_signed : Loc pSigned := loc_bind (loc_num 1) fun _ => loc_bind loc_sig fun _ => loc_pure _
theorem loc_at : Loc pAt := loc_bind (loc_num 4) fun _ => loc_bind (loc_num 6) fun _ => loc_pure _
theorem loc_qc : Loc pQC := loc_bind loc_at fun _ => loc_bind loc_dig fun _ => loc_bind (loc_list loc_signed 7) fun _ => loc_pure _
theorem loc_late : Loc pLate := loc_bind (loc_num 1) fun _ => loc_bind (loc_num 6) fun _ => loc_bind loc_sig fun _ => loc_pure _
theorem loc_tc : Loc pTC := loc_bind loc_at fun _ => loc_bind (loc_list loc_late 7) fun _ => loc_pure _
theorem loc_vdr : Loc pVdr := loc_bind loc_dig fun _ => loc_bind (loc_num 6) fun _ => loc_pure _
theorem loc_block : Loc pBlock := loc_bind loc_at fun _ => loc_bind loc_dig fun _ => loc_bind loc_qc fun _ => loc_bind (loc_list (loc_bytes 16) 4) fun _ => loc_bind (loc_list loc_vdr 7) fun _ => loc_pure _
theorem loc_chg : Loc pChg := loc_bind (loc_many loc_block 3) fun _ => loc_bind loc_qc fun _ => loc_pure _
theorem loc_vote : Loc pVote := loc_bind loc_at fun _ => loc_bind loc_dig fun _ => loc_bind loc_signed fun _ => loc_pure _
theorem loc_tmo : Loc pTmo := loc_bind loc_at fun _ => loc_bind loc_qc fun _ => loc_bind loc_tc fun _ => loc_bind loc_signed fun _ => loc_pure _
theorem loc_prop : Loc pProp := loc_bind loc_block fun _ => loc_bind loc_tc fun _ => loc_bind loc_signed fun _ => loc_pure _
theorem loc_body (k : Int) : Loc (pBody k) := by
  unfold pBody
  refine loc_ite (loc_bind loc_vote fun _ => loc_pure _) (loc_ite (loc_bind loc_tmo fun _ => loc_pure _) (loc_ite (loc_bind loc_prop fun _ => loc_pure _) (loc_ite (loc_bind loc_dig fun _ => loc_bind loc_dig fun _ => loc_pure _) (loc_ite (loc_bind loc_block fun _ => loc_pure _) (loc_ite (loc_bind loc_chg fun _ => loc_pure _) (loc_err 4))))))
theorem loc_msg : Loc pMsg := loc_bind (loc_num 1) loc_body

/-! ### The parts of messages -/
theorem pPure_ok {α : Type} {x y : α} {b r : List UInt8} (h : pPure x b = .ok (y, r)) : x = y ∧ b = r := by
  simpa only [pPure, Except.ok.injEq, Prod.mk.injEq] using h
/-- The same of one value. -/
def EncAt {β : Type} (f : WS → WS) (p : PR β) (y : β) : Prop := ∀ s, (f s).err = 0 → s.err = 0 ∧ ∃ b, (f s).bs = s.bs ++ b ∧ ∀ r, p (b ++ r) = .ok (y, r)
theorem encAt_pure {β : Type} (y : β) : EncAt (fun s => s) (pPure y) y := fun s h => ⟨h, [], by simp, fun r => rfl⟩
theorem encAt_bind {α β : Type} {f g : WS → WS} {p : PR α} {q : α → PR β} {x : α} {y : β} (h : EncAt f p x) (k : EncAt g (q x) y) : EncAt (fun s => g (f s)) (pBind p q) y := fun s hs => by
  obtain ⟨h1, b2, e2, k2⟩ := k _ hs
  obtain ⟨h3, b1, e1, k1⟩ := h _ h1
  refine ⟨h3, b1 ++ b2, by rw [e2, e1, List.append_assoc], fun r => ?_⟩
  rw [List.append_assoc, pBind_eq (k1 _), k2]
theorem encAt_many {α : Type} {W : α → WS → WS} {p : PR α} (h : Enc W p) (l : List α) : EncAt (fun s => l.foldl (fun s x => W x s) s) (pMany p l.length) l := fun s hs => enc_many h l s hs
theorem dec_manyAt {α : Type} {W : α → WS → WS} {p : PR α} (h : Dec W p) {n : Nat} {b r : List UInt8} {l : List α} (hb : pMany p n b = .ok (l, r)) : ∃ b', b = b' ++ r ∧ ∀ s, s.err = 0 → l.foldl (fun s x => W x s) s = ⟨0, s.bs ++ b'⟩ := (dec_many h n b l r hb).2
def wAtP (x : Int × Int) (s : WS) : WS := wAt x.1 x.2 s
theorem enc_sig : Enc wSig pSig := fun x s hs => by
  simp only [wSig] at hs ⊢
  obtain ⟨h2, b2, e2, k2⟩ := enc_list enc_dig 5 x.path _ hs
  obtain ⟨h1, b1, e1, k1⟩ := enc_list enc_dig 68 x.chains _ h2
  obtain ⟨h0, b0, e0, k0⟩ := enc_num (wd := 1) (by decide) x.leaf _ h1
  simp only at e0 e1 e2
  refine ⟨h0, b0 ++ b1 ++ b2, ?_, fun r => ?_⟩
  · rw [e2, e1, e0]; simp only [List.append_assoc]
  · unfold pSig; simp only [List.append_assoc]; rw [pBind_eq (k0 _), pBind_eq (k1 _), pBind_eq (k2 _)]; rfl
theorem dec_sig : Dec wSig pSig := fun b x r h => by
  obtain ⟨v0, r0, h0, h⟩ := pBind_ok h
  obtain ⟨v1, r1, h1, h⟩ := pBind_ok h
  obtain ⟨v2, r2, h2, h⟩ := pBind_ok h
  obtain ⟨rfl, rfl⟩ := pPure_ok h
  obtain ⟨b0, rfl, k0⟩ := dec_num _ _ _ h0
  obtain ⟨b1, rfl, k1⟩ := dec_list dec_dig 68 _ _ _ h1
  obtain ⟨b2, rfl, k2⟩ := dec_list dec_dig 5 _ _ _ h2
  refine ⟨b0 ++ b1 ++ b2, by simp only [List.append_assoc], fun s hs => ?_⟩
  have g0 := k0 s hs
  have g1 := k1 (⟨0, s.bs ++ b0⟩ : WS) rfl
  have g2 := k2 (⟨0, s.bs ++ b0 ++ b1⟩ : WS) rfl
  simp only [wSig] at g0 g1 g2 ⊢
  rw [g0, g1, g2]
  simp only [List.append_assoc]
theorem enc_signed : Enc wSigned pSigned := fun x s hs => by
  simp only [wSigned] at hs ⊢
  obtain ⟨h1, b1, e1, k1⟩ := enc_sig x.sig _ hs
  obtain ⟨h0, b0, e0, k0⟩ := enc_num (wd := 1) (by decide) x.who _ h1
  simp only at e0 e1
  refine ⟨h0, b0 ++ b1, ?_, fun r => ?_⟩
  · rw [e1, e0]; simp only [List.append_assoc]
  · unfold pSigned; simp only [List.append_assoc]; rw [pBind_eq (k0 _), pBind_eq (k1 _)]; rfl
theorem dec_signed : Dec wSigned pSigned := fun b x r h => by
  obtain ⟨v0, r0, h0, h⟩ := pBind_ok h
  obtain ⟨v1, r1, h1, h⟩ := pBind_ok h
  obtain ⟨rfl, rfl⟩ := pPure_ok h
  obtain ⟨b0, rfl, k0⟩ := dec_num _ _ _ h0
  obtain ⟨b1, rfl, k1⟩ := dec_sig _ _ _ h1
  refine ⟨b0 ++ b1, by simp only [List.append_assoc], fun s hs => ?_⟩
  have g0 := k0 s hs
  have g1 := k1 (⟨0, s.bs ++ b0⟩ : WS) rfl
  simp only [wSigned] at g0 g1 ⊢
  rw [g0, g1]
  simp only [List.append_assoc]
theorem enc_at : Enc wAtP pAt := fun x s hs => by
  simp only [wAtP, wAt] at hs ⊢
  obtain ⟨h1, b1, e1, k1⟩ := enc_num (wd := 6) (by decide) x.2 _ hs
  obtain ⟨h0, b0, e0, k0⟩ := enc_num (wd := 4) (by decide) x.1 _ h1
  simp only at e0 e1
  refine ⟨h0, b0 ++ b1, ?_, fun r => ?_⟩
  · rw [e1, e0]; simp only [List.append_assoc]
  · unfold pAt; simp only [List.append_assoc]; rw [pBind_eq (k0 _), pBind_eq (k1 _)]; rfl
theorem dec_at : Dec wAtP pAt := fun b x r h => by
  obtain ⟨v0, r0, h0, h⟩ := pBind_ok h
  obtain ⟨v1, r1, h1, h⟩ := pBind_ok h
  obtain ⟨rfl, rfl⟩ := pPure_ok h
  obtain ⟨b0, rfl, k0⟩ := dec_num _ _ _ h0
  obtain ⟨b1, rfl, k1⟩ := dec_num _ _ _ h1
  refine ⟨b0 ++ b1, by simp only [List.append_assoc], fun s hs => ?_⟩
  have g0 := k0 s hs
  have g1 := k1 (⟨0, s.bs ++ b0⟩ : WS) rfl
  simp only [wAtP, wAt] at g0 g1 ⊢
  rw [g0, g1]
  simp only [List.append_assoc]
theorem enc_qc : Enc wQC pQC := fun x s hs => by
  simp only [wQC] at hs ⊢
  obtain ⟨h2, b2, e2, k2⟩ := enc_list enc_signed 7 x.votes _ hs
  obtain ⟨h1, b1, e1, k1⟩ := enc_dig x.block _ h2
  obtain ⟨h0, b0, e0, k0⟩ := enc_at (x.epoch, x.round) _ h1
  simp only [wAtP] at e0 e1 e2
  refine ⟨h0, b0 ++ b1 ++ b2, ?_, fun r => ?_⟩
  · rw [e2, e1, e0]; simp only [List.append_assoc]
  · unfold pQC; simp only [List.append_assoc]; rw [pBind_eq (k0 _), pBind_eq (k1 _), pBind_eq (k2 _)]; rfl
theorem dec_qc : Dec wQC pQC := fun b x r h => by
  obtain ⟨v0, r0, h0, h⟩ := pBind_ok h
  obtain ⟨v1, r1, h1, h⟩ := pBind_ok h
  obtain ⟨v2, r2, h2, h⟩ := pBind_ok h
  obtain ⟨rfl, rfl⟩ := pPure_ok h
  obtain ⟨b0, rfl, k0⟩ := dec_at _ _ _ h0
  obtain ⟨b1, rfl, k1⟩ := dec_dig _ _ _ h1
  obtain ⟨b2, rfl, k2⟩ := dec_list dec_signed 7 _ _ _ h2
  refine ⟨b0 ++ b1 ++ b2, by simp only [List.append_assoc], fun s hs => ?_⟩
  have g0 := k0 s hs
  have g1 := k1 (⟨0, s.bs ++ b0⟩ : WS) rfl
  have g2 := k2 (⟨0, s.bs ++ b0 ++ b1⟩ : WS) rfl
  simp only [wQC, wAtP] at g0 g1 g2 ⊢
  rw [g0, g1, g2]
  simp only [List.append_assoc]
theorem enc_late : Enc wLate pLate := fun x s hs => by
  simp only [wLate] at hs ⊢
  obtain ⟨h2, b2, e2, k2⟩ := enc_sig x.sig _ hs
  obtain ⟨h1, b1, e1, k1⟩ := enc_num (wd := 6) (by decide) x.high _ h2
  obtain ⟨h0, b0, e0, k0⟩ := enc_num (wd := 1) (by decide) x.who _ h1
  simp only at e0 e1 e2
  refine ⟨h0, b0 ++ b1 ++ b2, ?_, fun r => ?_⟩
  · rw [e2, e1, e0]; simp only [List.append_assoc]
  · unfold pLate; simp only [List.append_assoc]; rw [pBind_eq (k0 _), pBind_eq (k1 _), pBind_eq (k2 _)]; rfl
theorem dec_late : Dec wLate pLate := fun b x r h => by
  obtain ⟨v0, r0, h0, h⟩ := pBind_ok h
  obtain ⟨v1, r1, h1, h⟩ := pBind_ok h
  obtain ⟨v2, r2, h2, h⟩ := pBind_ok h
  obtain ⟨rfl, rfl⟩ := pPure_ok h
  obtain ⟨b0, rfl, k0⟩ := dec_num _ _ _ h0
  obtain ⟨b1, rfl, k1⟩ := dec_num _ _ _ h1
  obtain ⟨b2, rfl, k2⟩ := dec_sig _ _ _ h2
  refine ⟨b0 ++ b1 ++ b2, by simp only [List.append_assoc], fun s hs => ?_⟩
  have g0 := k0 s hs
  have g1 := k1 (⟨0, s.bs ++ b0⟩ : WS) rfl
  have g2 := k2 (⟨0, s.bs ++ b0 ++ b1⟩ : WS) rfl
  simp only [wLate] at g0 g1 g2 ⊢
  rw [g0, g1, g2]
  simp only [List.append_assoc]
theorem enc_tc : Enc wTC pTC := fun x s hs => by
  simp only [wTC] at hs ⊢
  obtain ⟨h1, b1, e1, k1⟩ := enc_list enc_late 7 x.lates _ hs
  obtain ⟨h0, b0, e0, k0⟩ := enc_at (x.epoch, x.round) _ h1
  simp only [wAtP] at e0 e1
  refine ⟨h0, b0 ++ b1, ?_, fun r => ?_⟩
  · rw [e1, e0]; simp only [List.append_assoc]
  · unfold pTC; simp only [List.append_assoc]; rw [pBind_eq (k0 _), pBind_eq (k1 _)]; rfl
theorem dec_tc : Dec wTC pTC := fun b x r h => by
  obtain ⟨v0, r0, h0, h⟩ := pBind_ok h
  obtain ⟨v1, r1, h1, h⟩ := pBind_ok h
  obtain ⟨rfl, rfl⟩ := pPure_ok h
  obtain ⟨b0, rfl, k0⟩ := dec_at _ _ _ h0
  obtain ⟨b1, rfl, k1⟩ := dec_list dec_late 7 _ _ _ h1
  refine ⟨b0 ++ b1, by simp only [List.append_assoc], fun s hs => ?_⟩
  have g0 := k0 s hs
  have g1 := k1 (⟨0, s.bs ++ b0⟩ : WS) rfl
  simp only [wTC, wAtP] at g0 g1 ⊢
  rw [g0, g1]
  simp only [List.append_assoc]
theorem enc_vdr : Enc wVdr pVdr := fun x s hs => by
  simp only [wVdr] at hs ⊢
  obtain ⟨h1, b1, e1, k1⟩ := enc_num (wd := 6) (by decide) x.power _ hs
  obtain ⟨h0, b0, e0, k0⟩ := enc_dig x.key _ h1
  simp only at e0 e1
  refine ⟨h0, b0 ++ b1, ?_, fun r => ?_⟩
  · rw [e1, e0]; simp only [List.append_assoc]
  · unfold pVdr; simp only [List.append_assoc]; rw [pBind_eq (k0 _), pBind_eq (k1 _)]; rfl
theorem dec_vdr : Dec wVdr pVdr := fun b x r h => by
  obtain ⟨v0, r0, h0, h⟩ := pBind_ok h
  obtain ⟨v1, r1, h1, h⟩ := pBind_ok h
  obtain ⟨rfl, rfl⟩ := pPure_ok h
  obtain ⟨b0, rfl, k0⟩ := dec_dig _ _ _ h0
  obtain ⟨b1, rfl, k1⟩ := dec_num _ _ _ h1
  refine ⟨b0 ++ b1, by simp only [List.append_assoc], fun s hs => ?_⟩
  have g0 := k0 s hs
  have g1 := k1 (⟨0, s.bs ++ b0⟩ : WS) rfl
  simp only [wVdr] at g0 g1 ⊢
  rw [g0, g1]
  simp only [List.append_assoc]
theorem enc_block : Enc wBlock pBlock := fun x s hs => by
  simp only [wBlock] at hs ⊢
  obtain ⟨h4, b4, e4, k4⟩ := enc_list enc_vdr 7 x.next _ hs
  obtain ⟨h3, b3, e3, k3⟩ := enc_list (enc_bytes (most := 16)) 4 x.payload _ h4
  obtain ⟨h2, b2, e2, k2⟩ := enc_qc x.justify _ h3
  obtain ⟨h1, b1, e1, k1⟩ := enc_dig x.parent _ h2
  obtain ⟨h0, b0, e0, k0⟩ := enc_at (x.epoch, x.round) _ h1
  simp only [wAtP] at e0 e1 e2 e3 e4
  refine ⟨h0, b0 ++ b1 ++ b2 ++ b3 ++ b4, ?_, fun r => ?_⟩
  · rw [e4, e3, e2, e1, e0]; simp only [List.append_assoc]
  · unfold pBlock; simp only [List.append_assoc]; rw [pBind_eq (k0 _), pBind_eq (k1 _), pBind_eq (k2 _), pBind_eq (k3 _), pBind_eq (k4 _)]; rfl
theorem dec_block : Dec wBlock pBlock := fun b x r h => by
  obtain ⟨v0, r0, h0, h⟩ := pBind_ok h
  obtain ⟨v1, r1, h1, h⟩ := pBind_ok h
  obtain ⟨v2, r2, h2, h⟩ := pBind_ok h
  obtain ⟨v3, r3, h3, h⟩ := pBind_ok h
  obtain ⟨v4, r4, h4, h⟩ := pBind_ok h
  obtain ⟨rfl, rfl⟩ := pPure_ok h
  obtain ⟨b0, rfl, k0⟩ := dec_at _ _ _ h0
  obtain ⟨b1, rfl, k1⟩ := dec_dig _ _ _ h1
  obtain ⟨b2, rfl, k2⟩ := dec_qc _ _ _ h2
  obtain ⟨b3, rfl, k3⟩ := dec_list (dec_bytes (most := 16)) 4 _ _ _ h3
  obtain ⟨b4, rfl, k4⟩ := dec_list dec_vdr 7 _ _ _ h4
  refine ⟨b0 ++ b1 ++ b2 ++ b3 ++ b4, by simp only [List.append_assoc], fun s hs => ?_⟩
  have g0 := k0 s hs
  have g1 := k1 (⟨0, s.bs ++ b0⟩ : WS) rfl
  have g2 := k2 (⟨0, s.bs ++ b0 ++ b1⟩ : WS) rfl
  have g3 := k3 (⟨0, s.bs ++ b0 ++ b1 ++ b2⟩ : WS) rfl
  have g4 := k4 (⟨0, s.bs ++ b0 ++ b1 ++ b2 ++ b3⟩ : WS) rfl
  simp only [wBlock, wAtP] at g0 g1 g2 g3 g4 ⊢
  rw [g0, g1, g2, g3, g4]
  simp only [List.append_assoc]
theorem enc_vote : Enc wVote pVote := fun x s hs => by
  simp only [wVote] at hs ⊢
  obtain ⟨h2, b2, e2, k2⟩ := enc_signed x.sender _ hs
  obtain ⟨h1, b1, e1, k1⟩ := enc_dig x.block _ h2
  obtain ⟨h0, b0, e0, k0⟩ := enc_at (x.epoch, x.round) _ h1
  simp only [wAtP] at e0 e1 e2
  refine ⟨h0, b0 ++ b1 ++ b2, ?_, fun r => ?_⟩
  · rw [e2, e1, e0]; simp only [List.append_assoc]
  · unfold pVote; simp only [List.append_assoc]; rw [pBind_eq (k0 _), pBind_eq (k1 _), pBind_eq (k2 _)]; rfl
theorem dec_vote : Dec wVote pVote := fun b x r h => by
  obtain ⟨v0, r0, h0, h⟩ := pBind_ok h
  obtain ⟨v1, r1, h1, h⟩ := pBind_ok h
  obtain ⟨v2, r2, h2, h⟩ := pBind_ok h
  obtain ⟨rfl, rfl⟩ := pPure_ok h
  obtain ⟨b0, rfl, k0⟩ := dec_at _ _ _ h0
  obtain ⟨b1, rfl, k1⟩ := dec_dig _ _ _ h1
  obtain ⟨b2, rfl, k2⟩ := dec_signed _ _ _ h2
  refine ⟨b0 ++ b1 ++ b2, by simp only [List.append_assoc], fun s hs => ?_⟩
  have g0 := k0 s hs
  have g1 := k1 (⟨0, s.bs ++ b0⟩ : WS) rfl
  have g2 := k2 (⟨0, s.bs ++ b0 ++ b1⟩ : WS) rfl
  simp only [wVote, wAtP] at g0 g1 g2 ⊢
  rw [g0, g1, g2]
  simp only [List.append_assoc]
theorem enc_tmo : Enc wTmo pTmo := fun x s hs => by
  simp only [wTmo] at hs ⊢
  obtain ⟨h3, b3, e3, k3⟩ := enc_signed x.sender _ hs
  obtain ⟨h2, b2, e2, k2⟩ := enc_tc x.last _ h3
  obtain ⟨h1, b1, e1, k1⟩ := enc_qc x.high _ h2
  obtain ⟨h0, b0, e0, k0⟩ := enc_at (x.epoch, x.round) _ h1
  simp only [wAtP] at e0 e1 e2 e3
  refine ⟨h0, b0 ++ b1 ++ b2 ++ b3, ?_, fun r => ?_⟩
  · rw [e3, e2, e1, e0]; simp only [List.append_assoc]
  · unfold pTmo; simp only [List.append_assoc]; rw [pBind_eq (k0 _), pBind_eq (k1 _), pBind_eq (k2 _), pBind_eq (k3 _)]; rfl
theorem dec_tmo : Dec wTmo pTmo := fun b x r h => by
  obtain ⟨v0, r0, h0, h⟩ := pBind_ok h
  obtain ⟨v1, r1, h1, h⟩ := pBind_ok h
  obtain ⟨v2, r2, h2, h⟩ := pBind_ok h
  obtain ⟨v3, r3, h3, h⟩ := pBind_ok h
  obtain ⟨rfl, rfl⟩ := pPure_ok h
  obtain ⟨b0, rfl, k0⟩ := dec_at _ _ _ h0
  obtain ⟨b1, rfl, k1⟩ := dec_qc _ _ _ h1
  obtain ⟨b2, rfl, k2⟩ := dec_tc _ _ _ h2
  obtain ⟨b3, rfl, k3⟩ := dec_signed _ _ _ h3
  refine ⟨b0 ++ b1 ++ b2 ++ b3, by simp only [List.append_assoc], fun s hs => ?_⟩
  have g0 := k0 s hs
  have g1 := k1 (⟨0, s.bs ++ b0⟩ : WS) rfl
  have g2 := k2 (⟨0, s.bs ++ b0 ++ b1⟩ : WS) rfl
  have g3 := k3 (⟨0, s.bs ++ b0 ++ b1 ++ b2⟩ : WS) rfl
  simp only [wTmo, wAtP] at g0 g1 g2 g3 ⊢
  rw [g0, g1, g2, g3]
  simp only [List.append_assoc]
theorem enc_prop : Enc wProp pProp := fun x s hs => by
  simp only [wProp] at hs ⊢
  obtain ⟨h2, b2, e2, k2⟩ := enc_signed x.sender _ hs
  obtain ⟨h1, b1, e1, k1⟩ := enc_tc x.last _ h2
  obtain ⟨h0, b0, e0, k0⟩ := enc_block x.block _ h1
  refine ⟨h0, b0 ++ b1 ++ b2, ?_, fun r => ?_⟩
  · rw [e2, e1, e0]; simp only [List.append_assoc]
  · unfold pProp; simp only [List.append_assoc]; rw [pBind_eq (k0 _), pBind_eq (k1 _), pBind_eq (k2 _)]; rfl
theorem dec_prop : Dec wProp pProp := fun b x r h => by
  obtain ⟨v0, r0, h0, h⟩ := pBind_ok h
  obtain ⟨v1, r1, h1, h⟩ := pBind_ok h
  obtain ⟨v2, r2, h2, h⟩ := pBind_ok h
  obtain ⟨rfl, rfl⟩ := pPure_ok h
  obtain ⟨b0, rfl, k0⟩ := dec_block _ _ _ h0
  obtain ⟨b1, rfl, k1⟩ := dec_tc _ _ _ h1
  obtain ⟨b2, rfl, k2⟩ := dec_signed _ _ _ h2
  refine ⟨b0 ++ b1 ++ b2, by simp only [List.append_assoc], fun s hs => ?_⟩
  have g0 := k0 s hs
  have g1 := k1 (⟨0, s.bs ++ b0⟩ : WS) rfl
  have g2 := k2 (⟨0, s.bs ++ b0 ++ b1⟩ : WS) rfl
  simp only [wProp] at g0 g1 g2 ⊢
  rw [g0, g1, g2]
  simp only [List.append_assoc]
theorem enc_chg (x : Chg) (h3 : x.blocks.length = 3) : EncAt (wChg x) pChg x := fun s hs => by
  simp only [wChg] at hs ⊢
  obtain ⟨h1, b1, e1, k1⟩ := enc_qc x.qc _ hs
  obtain ⟨h0, b0, e0, k0⟩ := encAt_many enc_block x.blocks _ h1
  rw [h3] at k0
  refine ⟨h0, b0 ++ b1, ?_, fun r => ?_⟩
  · rw [e1, e0]; simp only [List.append_assoc]
  · unfold pChg; simp only [List.append_assoc]; rw [pBind_eq (k0 _), pBind_eq (k1 _)]; rfl
theorem dec_chg : Dec wChg pChg := fun b x r h => by
  obtain ⟨v0, r0, h0, h⟩ := pBind_ok h
  obtain ⟨v1, r1, h1, h⟩ := pBind_ok h
  obtain ⟨rfl, rfl⟩ := pPure_ok h
  obtain ⟨b0, rfl, k0⟩ := dec_manyAt dec_block h0
  obtain ⟨b1, rfl, k1⟩ := dec_qc _ _ _ h1
  refine ⟨b0 ++ b1, by simp only [List.append_assoc], fun s hs => ?_⟩
  have g0 := k0 s hs
  have g1 := k1 (⟨0, s.bs ++ b0⟩ : WS) rfl
  simp only [wChg] at g0 g1 ⊢
  rw [g0, g1]
  simp only [List.append_assoc]
theorem pChg_three {b r : List UInt8} {x : Chg} (h : pChg b = .ok (x, r)) : x.blocks.length = 3 := by
  obtain ⟨l, r1, h1, h⟩ := pBind_ok h
  obtain ⟨q, r2, h2, h⟩ := pBind_ok h
  obtain ⟨rfl, rfl⟩ := pPure_ok h
  exact (dec_many dec_block 3 _ _ _ h1).1
theorem encAt_map {α β : Type} {f : WS → WS} {p : PR α} {x : α} {g : α → β} (h : EncAt f p x) : EncAt f (pBind p fun v => pPure (g v)) (g x) := fun s hs => by
  obtain ⟨h1, b, e, k⟩ := h s hs
  exact ⟨h1, b, e, fun r => by rw [pBind_eq (k r)]; rfl⟩
theorem enc_body (m : Msg) (h3 : m.chg.blocks.length = 3) (k1 : 1 ≤ m.kind) (k6 : m.kind ≤ 6) : EncAt (wBody m) (pBody m.kind) (plainM m) := by
  unfold wBody pBody plainM
  split
  · exact encAt_map (enc_vote m.vote)
  split
  · exact encAt_map (enc_tmo m.tmo)
  split
  · exact encAt_map (enc_prop m.prop)
  split
  · exact encAt_bind (q := fun d => pBind pDig fun e => pPure ({ msg0 m.kind with wantFrom := d, wantBlock := e } : Msg)) (enc_dig m.wantFrom) (encAt_map (g := fun e => ({ msg0 m.kind with wantFrom := m.wantFrom, wantBlock := e } : Msg)) (enc_dig m.wantBlock))
  split
  · exact encAt_map (enc_block m.reply)
  rw [if_pos (show m.kind = 6 by omega), if_pos (show m.kind = 6 by omega)]
  exact encAt_map (enc_chg m.chg h3)
theorem enc_msg (m : Msg) (h3 : m.chg.blocks.length = 3) (k1 : 1 ≤ m.kind) (k6 : m.kind ≤ 6) : EncAt (wMsg m) pMsg (plainM m) := by
  exact encAt_bind (f := wNum m.kind 1) (g := wBody m) (q := pBody) (enc_num (wd := 1) (by decide) m.kind) (enc_body m h3 k1 k6)
theorem dec_map {α β : Type} {W : α → WS → WS} {p : PR α} (h : Dec W p) {g : α → β} {b r : List UInt8} {y : β} (hb : pBind p (fun v => pPure (g v)) b = .ok (y, r)) : ∃ x b', y = g x ∧ b = b' ++ r ∧ p b = .ok (x, r) ∧ ∀ s, s.err = 0 → W x s = ⟨0, s.bs ++ b'⟩ := by
  obtain ⟨x, r1, h1, h2⟩ := pBind_ok hb
  obtain ⟨rfl, rfl⟩ := pPure_ok h2
  obtain ⟨b', rfl, k⟩ := h _ _ _ h1
  exact ⟨x, b', rfl, rfl, h1, k⟩
theorem dec_body (k : Int) (b r : List UInt8) (m : Msg) (h : pBody k b = .ok (m, r)) : m.kind = k ∧ 1 ≤ k ∧ k ≤ 6 ∧ plainM m = m ∧ m.chg.blocks.length = 3 ∧ ∃ b', b = b' ++ r ∧ ∀ s, s.err = 0 → wBody m s = ⟨0, s.bs ++ b'⟩ := by
  unfold pBody at h
  split at h
  · rename_i hk; subst hk
    obtain ⟨x, b', rfl, rfl, _, k⟩ := dec_map dec_vote h
    exact ⟨rfl, by decide, by decide, rfl, rfl, b', rfl, k⟩
  split at h
  · rename_i _ hk; subst hk
    obtain ⟨x, b', rfl, rfl, _, k⟩ := dec_map dec_tmo h
    exact ⟨rfl, by decide, by decide, rfl, rfl, b', rfl, k⟩
  split at h
  · rename_i _ _ hk; subst hk
    obtain ⟨x, b', rfl, rfl, _, k⟩ := dec_map dec_prop h
    exact ⟨rfl, by decide, by decide, rfl, rfl, b', rfl, k⟩
  split at h
  · rename_i _ _ _ hk; subst hk
    obtain ⟨d, r1, h1, h2⟩ := pBind_ok h
    obtain ⟨x, b2, rfl, rfl, _, k2⟩ := dec_map dec_dig h2
    obtain ⟨b1, rfl, k1⟩ := dec_dig _ _ _ h1
    refine ⟨rfl, by decide, by decide, rfl, rfl, b1 ++ b2, by simp only [List.append_assoc], fun s hs => ?_⟩
    show wDig x (wDig d s) = _
    rw [k1 s hs, k2 _ rfl]; simp only [List.append_assoc]
  split at h
  · rename_i _ _ _ _ hk; subst hk
    obtain ⟨x, b', rfl, rfl, _, k⟩ := dec_map dec_block h
    exact ⟨rfl, by decide, by decide, rfl, rfl, b', rfl, k⟩
  split at h
  · rename_i _ _ _ _ _ hk; subst hk
    obtain ⟨x, b', rfl, rfl, hp, k⟩ := dec_map dec_chg h
    exact ⟨rfl, by decide, by decide, rfl, pChg_three hp, b', rfl, k⟩
  · cases h
theorem dec_msg (b r : List UInt8) (m : Msg) (h : pMsg b = .ok (m, r)) : 1 ≤ m.kind ∧ m.kind ≤ 6 ∧ plainM m = m ∧ m.chg.blocks.length = 3 ∧ (∃ c t, b = c :: t ∧ m.kind = (c.toNat : Int)) ∧ ∃ b', b = b' ++ r ∧ ∀ s, s.err = 0 → wMsg m s = ⟨0, s.bs ++ b'⟩ := by
  obtain ⟨k, r1, h1, h2⟩ := pBind_ok h
  obtain ⟨hk, k1, k6, hp, h3, b2, rfl, e2⟩ := dec_body _ _ _ _ h2
  obtain ⟨j, hj, hj2, hb⟩ := pNum_ok h1
  obtain ⟨b1, rfl, e1⟩ := dec_num _ _ _ h1
  subst hk
  refine ⟨k1, k6, hp, h3, ?_, b1 ++ b2, by simp only [List.append_assoc], fun s hs => ?_⟩
  · rw [hb, hj]
    refine ⟨UInt8.ofNat j, b2 ++ r, ?_, ?_⟩
    · rw [beN_succ, byteAt_nat]; simp [beN]
    · rw [UInt8.toNat_ofNat', Nat.mod_eq_of_lt (by omega)]
  · have e := e1 s hs
    simp only at e
    unfold wMsg
    rw [e, e2 _ rfl]; simp only [List.append_assoc]
/-- All bytes of what was written. -/
theorem pAll_enc {β : Type} {f : WS → WS} {p : PR β} {y : β} (h : EncAt f p y) (he : (f ⟨0, []⟩).err = 0) : pAll p (f ⟨0, []⟩).bs = .ok y := by
  obtain ⟨_, b, e, k⟩ := h _ he
  have := k []
  rw [List.append_nil] at this
  have e' : (f ⟨0, []⟩).bs = b := e.trans (by simp)
  rw [e', pAll, this]; rfl
theorem pAll_ok {β : Type} {p : PR β} {b : List UInt8} {y : β} (h : pAll p b = .ok y) : p b = .ok (y, []) := by
  unfold pAll at h
  cases hp : p b with
  | error e => rw [hp] at h; cases h
  | ok x =>
    rw [hp] at h
    obtain ⟨a, r⟩ := x
    by_cases hr : r = []
    · simp only [hr, if_true, Except.ok.injEq] at h; rw [h, hr]
    · simp only [hr, if_false] at h; cases h
theorem pAll_cut {β : Type} {p : PR β} {b : List UInt8} {y : β} (h : pAll p b = .ok y) (hl : Loc p) {k : Nat} (hk : k < b.length) : pAll p (b.take k) = .error 2 := by
  obtain ⟨b', e, _, s⟩ := hl _ _ _ (pAll_ok h)
  rw [List.append_nil] at e; subst e
  rw [pAll, s k hk]
theorem pAll_more {β : Type} {p : PR β} {b m : List UInt8} {y : β} (h : pAll p b = .ok y) (hl : Loc p) (hm : m ≠ []) : pAll p (b ++ m) = .error 3 := by
  obtain ⟨b', e, k, _⟩ := hl _ _ _ (pAll_ok h)
  rw [List.append_nil] at e; subst e
  rw [pAll, k m]
  simp only [hm, if_false]
end Go.Proofs.YtkgbbnhdioghmaaGreatDoor

/- Plain words: a reading under way: where it stands, or its first error. No program in sight. -/
namespace Go.Proofs.YtkgbbnhdioghmaaGreatDoor
set_option linter.unusedVariables false

abbrev RSt := Except Nat (List UInt8)
def rstep {α : Type} (p : PR α) : RSt → RSt
  | .error e => .error e
  | .ok b => match p b with
    | .error e => .error e
    | .ok x => .ok x.2
/-- If all goes well, this is what is read. -/
def Ag {α : Type} (p : PR α) (σ : RSt) (x : α) : Prop := ∀ b y r, σ = .ok b → p b = .ok (y, r) → x = y
def errOf : RSt → Nat
  | .ok _ => 0
  | .error e => e
def failE (k : Nat) : RSt → RSt
  | .ok _ => .error k
  | .error e => .error e
def WS.st (s : WS) : RSt := if s.err = 0 then .ok s.bs else .error s.err
theorem WS.errOf_st (s : WS) : errOf s.st = s.err := by
  unfold WS.st; split
  · rename_i h; exact h.symm
  · rfl
theorem Ag.bind {α β : Type} {p : PR α} {f : α → PR β} {σ : RSt} {x : α} {y : β} (h : Ag p σ x) (k : Ag (f x) (rstep p σ) y) : Ag (pBind p f) σ y := by
  rintro b y' r rfl hb
  obtain ⟨x', r1, h1, h2⟩ := pBind_ok hb
  obtain rfl := h b x' r1 rfl h1
  refine k r1 y' r ?_ h2
  simp only [rstep, h1]
theorem rstep_bind {α β : Type} {p : PR α} {f : α → PR β} {σ : RSt} {x : α} (h : Ag p σ x) : rstep (pBind p f) σ = rstep (f x) (rstep p σ) := by
  cases σ with
  | error e => rfl
  | ok b =>
    cases hp : p b with
    | error e => simp only [rstep, pBind_err hp, hp]
    | ok x' =>
      obtain ⟨x', r⟩ := x'
      obtain rfl := h b x' r rfl hp
      simp only [rstep, pBind_eq hp, hp]
theorem Ag.pure {α : Type} {σ : RSt} (x : α) : Ag (pPure x) σ x := by
  rintro b y r rfl h
  exact (pPure_ok h).1
theorem rstep_pure {α : Type} {σ : RSt} (x : α) : rstep (pPure x) σ = σ := by cases σ <;> rfl
theorem rstep_err {α : Type} {σ : RSt} (k : Nat) : rstep (pErr (α := α) k) σ = failE k σ := by cases σ <;> rfl
theorem Ag.err {α : Type} {σ : RSt} {k : Nat} (x : α) : Ag (pErr k) σ x := by rintro b y r _ h; cases h
theorem Ag.error {α : Type} {p : PR α} {e : Nat} (x : α) : Ag p (.error e) x := by rintro b y r h _; cases h
theorem Ag.of {α : Type} {p : PR α} {b r : List UInt8} {x : α} (h : p b = .ok (x, r)) : Ag p (.ok b) x := by
  rintro b' y r' he h'
  cases he; rw [h] at h'; cases h'; rfl
theorem Ag.ne {α : Type} {p : PR α} {b : List UInt8} {e : Nat} (h : p b = .error e) (x : α) : Ag p (.ok b) x := by
  rintro b' y r' he h'
  cases he; rw [h] at h'; cases h'
theorem errOf_rstep {α : Type} (p : PR α) {σ : RSt} (h : errOf σ ≠ 0) : rstep p σ = σ := by
  cases σ with
  | error e => rfl
  | ok b => exact absurd rfl h
theorem Ag.bad {α : Type} {p : PR α} {σ : RSt} (h : errOf σ ≠ 0) (x : α) : Ag p σ x := by
  cases σ with
  | error e => exact Ag.error x
  | ok b => exact absurd rfl h
theorem failE_bad {k : Nat} {σ : RSt} (h : errOf σ ≠ 0) : failE k σ = σ := by
  cases σ with
  | error e => rfl
  | ok b => exact absurd rfl h
/-- A list under way: m elements are still to come, out are there. -/
structure Many {α : Type} (one : PR α) (n : Nat) (σ0 : RSt) (m : Nat) (σ : RSt) (out : List α) : Prop where
  st : rstep (pMany one n) σ0 = rstep (pMany one m) σ
  ag : ∀ l, Ag (pMany one m) σ l → Ag (pMany one n) σ0 (out ++ l)
theorem Many.start {α : Type} {one : PR α} {n : Nat} {σ0 : RSt} : Many one n σ0 n σ0 [] := ⟨rfl, fun l h => h⟩
theorem Many.next {α : Type} {one : PR α} {n m : Nat} {σ0 σ : RSt} {out : List α} {x : α} (h : Many one n σ0 (m + 1) σ out) (hx : Ag one σ x) : Many one n σ0 m (rstep one σ) (out ++ [x]) := by
  refine ⟨?_, fun l hl => ?_⟩
  · rw [h.st, pMany, rstep_bind hx]
    cases hσ : rstep one σ with
    | error e => rfl
    | ok b =>
      cases hm : pMany one m b with
      | error e => simp only [rstep, pBind_err hm, hm]
      | ok y => simp only [rstep, pBind_eq (x := y.1) (r := y.2) hm, hm, pPure]
  · have := h.ag (x :: l) (by rw [pMany]; exact Ag.bind hx (Ag.bind hl (Ag.pure _)))
    simpa using this
theorem Many.done {α : Type} {one : PR α} {n : Nat} {σ0 σ : RSt} {out : List α} (h : Many one n σ0 0 σ out) : rstep (pMany one n) σ0 = σ ∧ Ag (pMany one n) σ0 out := by
  refine ⟨by rw [h.st]; exact rstep_pure _, ?_⟩
  have := h.ag [] (Ag.pure _)
  simpa using this
theorem Many.bad {α : Type} {one : PR α} {n m : Nat} {σ0 σ : RSt} {out : List α} (h : Many one n σ0 m σ out) (he : errOf σ ≠ 0) : rstep (pMany one n) σ0 = σ ∧ ∀ l, Ag (pMany one n) σ0 l := by
  have h1 : rstep (pMany one n) σ0 = σ := by rw [h.st]; exact errOf_rstep _ he
  refine ⟨h1, fun l => ?_⟩
  rintro b y r rfl hb
  exfalso
  apply he
  rw [← h1]
  simp only [rstep, hb]; rfl
theorem sel_fin {β : Type} {q p' : PR β} {most x : Nat} {σ1 σ2 : RSt} (hf : p' = if (most : Int) < (x : Int) then pErr 1 else q) (hc : (if errOf σ1 = 0 ∧ most < x then failE 1 σ1 else σ1) = σ2) : rstep p' σ1 = rstep q σ2 ∧ ∀ l, Ag q σ2 l → Ag p' σ1 l := by
  by_cases hm : most < x
  · rw [if_pos (by omega)] at hf
    subst hf
    refine ⟨?_, fun l _ => Ag.err l⟩
    rw [rstep_err]
    by_cases he : errOf σ1 = 0
    · rw [if_pos ⟨he, hm⟩] at hc
      subst hc
      cases σ1 with
      | error e => rfl
      | ok b => rfl
    · rw [if_neg (fun h => he h.1)] at hc
      subst hc
      rw [failE_bad he, errOf_rstep _ he]
  · rw [if_neg (by omega)] at hf
    rw [if_neg (fun h => hm h.2)] at hc
    subst hf; subst hc
    exact ⟨rfl, fun l h => h⟩
theorem bytes_fin {most x : Nat} {σ σ2 : RSt} {l : List UInt8} (hx : Ag (pNum 2) σ (x : Int)) (hc : (if errOf (rstep (pNum 2) σ) = 0 ∧ most < x then failE 1 (rstep (pNum 2) σ) else rstep (pNum 2) σ) = σ2) (ha : Ag (pTake x) σ2 l) :
    rstep (pBytes most) σ = rstep (pTake x) σ2 ∧ Ag (pBytes most) σ l := by
  have h := sel_fin (q := pTake x) (p' := if (most : Int) < (x : Int) then pErr 1 else pTake (x : Int).toNat) rfl hc
  exact ⟨by rw [pBytes, rstep_bind hx, h.1], hx.bind (h.2 l ha)⟩
theorem list_fin {α : Type} {one : PR α} {most x : Nat} {σ σ2 σ3 : RSt} {l : List α} (hx : Ag (pNum 1) σ (x : Int)) (hc : (if errOf (rstep (pNum 1) σ) = 0 ∧ most < x then failE 1 (rstep (pNum 1) σ) else rstep (pNum 1) σ) = σ2) (ha : rstep (pMany one x) σ2 = σ3 ∧ Ag (pMany one x) σ2 l) :
    rstep (pList one most) σ = σ3 ∧ Ag (pList one most) σ l := by
  have h := sel_fin (q := pMany one x) (p' := if (most : Int) < (x : Int) then pErr 1 else pMany one (x : Int).toNat) rfl hc
  exact ⟨by rw [pList, rstep_bind hx, h.1, ha.1], hx.bind (h.2 l ha.2)⟩
end Go.Proofs.YtkgbbnhdioghmaaGreatDoor

/- Walks, by program (wg.py) out of a spec. -/
namespace Go.Proofs.YtkgbbnhdioghmaaGreatDoor
open Go
set_option linter.unusedVariables false
set_option linter.unusedSimpArgs false


/-- A reading of cells that stays as long as its blocks stay. -/
class RdK {α : Type} (rd : World → (Nat → Prop) → List Value → α → Prop) : Prop where
  mv : ∀ {w w' : World} {A A' : Nat → Prop} {cs : List Value} {x : α}, rd w A cs x → Still w A w' A' → rd w' A' cs x
instance : RdK (fun _ _ => RdDig) := ⟨fun h _ => h⟩
instance : RdK (fun _ _ => RdVdr) := ⟨fun h _ => h⟩
instance : RdK RdBytes := ⟨fun h k => h.mv k⟩
instance : RdK RdSig := ⟨fun h k => h.mv k⟩
instance : RdK RdSigned := ⟨fun h k => h.mv k⟩
instance : RdK RdLate := ⟨fun h k => h.mv k⟩
instance : RdK RdQC := ⟨fun h k => h.mv k⟩
instance : RdK RdTC := ⟨fun h k => h.mv k⟩
instance : RdK RdBlock := ⟨fun h k => h.mv k⟩
instance : RdK RdVote := ⟨fun h k => h.mv k⟩
instance : RdK RdTmo := ⟨fun h k => h.mv k⟩
instance : RdK RdProp := ⟨fun h k => h.mv k⟩
instance : RdK RdChg := ⟨fun h k => h.mv k⟩
instance : RdK RdMsg := ⟨fun h k => h.mv k⟩
theorem still_of {w w' : World} {F : Nat → Prop} (hk : ∀ k, k < w.heap.size → F k → w'.heap[k]? = w.heap[k]?) : Still w F w' F := fun k h hF => ⟨hk k h hF, hF⟩
theorem still_sub {w : World} {F G : Nat → Prop} (h : ∀ k, F k → G k) : Still w F w G := fun k _ hF => ⟨rfl, h k hF⟩
section
variable {α : Type} (rd : World → (Nat → Prop) → List Value → α → Prop) [RdK rd]
/-- Cells that read as x, in blocks that are owned. -/
def VlR (cs : List Value) (x : α) : Res := rdR (fun w F => rd w F cs x) (fun h hk => RdK.mv h (still_of hk))
/-- A slice that reads as l, all of it owned. -/
def LsR (size : Nat) (a : Option Addr) (n : Nat) (l : List α) : Res := rdR (fun w F => RdList (rd w F) w F size a n l) (fun h hk => RdList.mv h (still_of hk) fun _ _ hc => RdK.mv hc (still_of hk))
/-- Elements: what lies behind their cells. -/
def ElR (css : List (List Value)) (l : List α) : Res := rdR (fun w F => css.length = l.length ∧ ∀ (i : Nat) (c : List Value) (x : α), css[i]? = some c → l[i]? = some x → rd w F c x) (fun h hk => ⟨h.1, fun i c x h1 h2 => RdK.mv (h.2 i c x h1 h2) (still_of hk)⟩)
end
theorem stars_two {r s : Res} {w : World} {F : Nat → Prop} (h : stars [r, s] w F) : ∃ F1 F2, r.on w F1 ∧ s.on w F2 ∧ ∀ k, F k ↔ F1 k ∨ F2 k := by
  obtain ⟨F1, F2, h1, h2, hF, _⟩ := h
  exact ⟨F1, F2, h1, stars_one' h2, hF⟩
theorem stars_swap {r s : Res} {L : List Res} {w : World} {F : Nat → Prop} (h : stars (r :: s :: L) w F) : stars (s :: r :: L) w F := Pick.stars (.there .here) h
theorem stars_cons {r : Res} {L : List Res} {w : World} {F : Nat → Prop} (h : stars (r :: L) w F) : ∃ F1 F2, r.on w F1 ∧ stars L w F2 ∧ ∀ k, F k ↔ F1 k ∨ F2 k := by
  obtain ⟨F1, F2, h1, h2, hF, _⟩ := h; exact ⟨F1, F2, h1, h2, hF⟩
theorem rdR_mk {φ : World → (Nat → Prop) → Prop} {hl} {w : World} {F : Nat → Prop} {L : List Res} (h : φ w F) (hs : stars L w F) : stars [rdR φ hl] w F := stars_one ⟨h, stars_lt hs⟩
section
variable {α : Type} {rd : World → (Nat → Prop) → List Value → α → Prop} [RdK rd]
theorem el_nil {L : List Res} {w : World} {F : Nat → Prop} (h : stars L w F) : stars (ElR rd [] [] :: L) w F :=
  ⟨fun _ => False, F, ⟨⟨rfl, fun i c x h1 _ => by simp at h1⟩, fun _ h => h.elim⟩, h, fun k => by simp, fun _ h => h.elim⟩
theorem el_snoc {css : List (List Value)} {l : List α} {c : List Value} {x : α} {w : World} {F : Nat → Prop} (h : stars [ElR rd css l, VlR rd c x] w F) : stars [ElR rd (css ++ [c]) (l ++ [x])] w F := by
  obtain ⟨F1, F2, h1, h2, hF⟩ := stars_two h
  obtain ⟨⟨he, h1⟩, _⟩ := h1
  refine rdR_mk ⟨by simp [he], fun i c' x' hc hx => ?_⟩ h
  by_cases hi : i < css.length
  · rw [List.getElem?_append_left hi] at hc
    rw [List.getElem?_append_left (by omega)] at hx
    exact RdK.mv (h1 i c' x' hc hx) (still_sub fun k hk => (hF k).2 (.inl hk))
  · have hi' : i = css.length := by
      have := (List.getElem?_eq_some_iff.1 hc).1; simp at this; omega
    subst hi'
    rw [List.getElem?_append_right (by omega)] at hc hx
    simp only [Nat.sub_self, List.getElem?_cons_zero, Option.some.injEq] at hc
    simp only [he, Nat.sub_self, List.getElem?_cons_zero, Option.some.injEq] at hx
    subst hc; subst hx
    exact RdK.mv h2.1 (still_sub fun k hk => (hF k).2 (.inr hk))
theorem ls_of {e size n cap : Nat} {a : Option Addr} {css : List (List Value)} {l : List α} {w : World} {F : Nat → Prop} (hsz : ∀ c ∈ css, c.length = size) (h : stars [rowR e size a n cap css.flatten, ElR rd css l] w F) : stars [LsR rd size a n l] w F := by
  obtain ⟨F1, F2, h1, h2, hF⟩ := stars_two h
  obtain ⟨⟨he, h2⟩, _⟩ := h2
  exact rdR_mk ⟨css, (rowR.rd h1).mv (still_sub fun k hk => (hF k).2 (.inl hk)), hsz, he, fun i c x hc hx => RdK.mv (h2 i c x hc hx) (still_sub fun k hk => (hF k).2 (.inr hk))⟩ h
theorem ls_nil {size : Nat} {L : List Res} {w : World} {F : Nat → Prop} (h : stars L w F) : stars (LsR rd size none 0 [] :: L) w F :=
  ⟨fun _ => False, F, ⟨RdList.nil, fun _ h => h.elim⟩, h, fun k => by simp, fun _ h => h.elim⟩
end
theorem St.pureI {w0 w : World} {F0 : Nat → Prop} {L : List Res} {p : Prop} (hp : p) (h : St w0 F0 L w) : St w0 F0 (pureR p :: L) w := by
  obtain ⟨F, hF, hst⟩ := h; exact ⟨F, stars_pure_mk hp hF, hst⟩
theorem St.mapL {w0 w : World} {F0 : Nat → Prop} {L L' : List Res} (h : St w0 F0 L w) (k : ∀ F, stars L w F → stars L' w F) : St w0 F0 L' w := by
  obtain ⟨F, hF, hst⟩ := h; exact ⟨F, k F hF, hst⟩
/-- A callee's step, beside what stays. -/
theorem calls_frame {P : Program} {f : FuncId} {args : Array Value} {w : World} {F F1 F2 : Nat → Prop} {α : Type} {V : α → Value} {N : α → List Res} {L : List Res} (hc : Calls P f args w (Post w F1 V N)) (h2 : stars L w F2) (hF : ∀ k, F k ↔ F1 k ∨ F2 k) (hd : ∀ k, F1 k → ¬ F2 k) :
    Calls P f args w (Post w F V (fun x => N x ++ L)) := Calls.mono hc fun e w' ⟨x, he, hs⟩ => ⟨x, he, St.call (Stp.refl w F) h2 hF hd hs⟩

/-- What is left to read, and bytes that were read. -/
def BtR (a : Option Addr) (bs : List UInt8) (a2 : Option Addr) (l : List UInt8) : Res :=
  rdR (fun w F => RdRow w F 1 a bs.length (bs.map B8) ∧ RdRow w F 1 a2 l.length (l.map B8)) (fun h hk => ⟨h.1.mv (still_of hk), h.2.mv (still_of hk)⟩)
/-- A reader in block g that stands at σ; bytes of it that were read lie at a2. -/
def RdrB (TE : TypeId) (ea : Nat → Addr) (g : Nat) (σ : RSt) (a2 : Option Addr) (l : List UInt8) : Res := exR fun p : WS × Option Addr × Nat => allR [pureR (p.1.st = σ ∧ p.1.bs.length ≤ p.2.2), blk g 194 [eV TE ea p.1.err, .slice p.2.1 p.1.bs.length p.2.2], BtR p.2.1 p.1.bs a2 l]
abbrev RdrR (TE : TypeId) (ea : Nat → Addr) (g : Nat) (σ : RSt) : Res := RdrB TE ea g σ none []
section
variable {TE : TypeId} {ea : Nat → Addr} {g : Nat} {σ : RSt} {a2 : Option Addr} {l : List UInt8} {L : List Res} {w : World} {F : Nat → Prop}
theorem rr_open (h : stars (RdrB TE ea g σ a2 l :: L) w F) : ∃ s a c, WS.st s = σ ∧ s.bs.length ≤ c ∧ stars (blk g 194 [eV TE ea s.err, .slice a s.bs.length c] :: BtR a s.bs a2 l :: L) w F := by
  obtain ⟨⟨s, a, c⟩, h⟩ := stars_ex h
  obtain ⟨⟨h1, h2⟩, h3⟩ := stars_pure (stars_all h)
  exact ⟨s, a, c, h1, h2, h3⟩
theorem rr_shut {s : WS} {k m c : Nat} {a : Option Addr} (h : stars (blk g 194 [eV TE ea k, .slice a m c] :: BtR a s.bs a2 l :: L) w F) (hk : k = s.err) (hm : m = s.bs.length) (hs : s.st = σ) (hc : m ≤ c) : stars (RdrB TE ea g σ a2 l :: L) w F := by
  subst hk; subst hm
  exact stars_ex_mk (s, a, c) (stars_all_mk (stars_pure_mk ⟨hs, hc⟩ h))
theorem St.rdr {w0 : World} {F0 : Nat → Prop} {s : WS} {k m c : Nat} {a : Option Addr} (h : St w0 F0 (blk g 194 [eV TE ea k, .slice a m c] :: BtR a s.bs a2 l :: L) w) (hk : k = s.err) (hm : m = s.bs.length) (hs : s.st = σ) (hc : m ≤ c) : St w0 F0 (RdrB TE ea g σ a2 l :: L) w :=
  h.mapL fun F hF => rr_shut hF hk hm hs hc
theorem bt_weak {a : Option Addr} {bs : List UInt8} (h : stars (BtR a bs a2 l :: L) w F) : stars (BtR a bs none [] :: L) w F := by
  obtain ⟨F1, F2, ⟨h1, hl⟩, h2, hF, hd⟩ := h
  exact ⟨F1, F2, ⟨⟨h1.1, RdRow.nil⟩, hl⟩, h2, hF, hd⟩
theorem rr_weak (h : stars (RdrB TE ea g σ a2 l :: L) w F) : stars (RdrR TE ea g σ :: L) w F := by
  obtain ⟨s, a, c, h1, h2, F1, F3, g1, g2, hF, hd⟩ := rr_open h
  exact rr_shut ⟨F1, F3, g1, bt_weak g2, hF, hd⟩ rfl rfl h1 h2
theorem St.rrw {w0 : World} {F0 : Nat → Prop} (h : St w0 F0 (RdrB TE ea g σ a2 l :: L) w) : St w0 F0 (RdrR TE ea g σ :: L) w := h.mapL fun F hF => rr_weak hF
theorem bt_cut {a : Option Addr} {bs : List UInt8} {n c : Nat} (h : stars (BtR a bs a2 l :: L) w F) (hn : n ≤ bs.length) (hc : bs.length ≤ c) :
    stars (BtR (if c = n then a else a.map (·.add (n * 1))) (bs.drop n) (if c = 0 then a else a.map (·.add (0 * 1))) (bs.take n) :: L) w F := by
  obtain ⟨F1, F2, ⟨h1, hl⟩, h2, hF, hd⟩ := h
  have e1 := h1.1.cut8 (l := n) (h := bs.length) hn (Nat.le_refl _) hc
  have e2 := h1.1.cut8 (l := 0) (h := n) (Nat.zero_le _) hn hc
  rw [show (bs.drop n).take (bs.length - n) = bs.drop n from List.take_of_length_le (by simp)] at e1
  rw [List.drop_zero, Nat.sub_zero] at e2
  refine ⟨F1, F2, ⟨⟨?_, ?_⟩, hl⟩, h2, hF, hd⟩
  · rw [List.length_drop]; exact e1
  · rw [List.length_take, Nat.min_eq_left hn]; exact e2
theorem rdB_row {L' : List Res} {w : World} {F1 F2 : Nat → Prop} (h2 : stars L w F2) (hd : ∀ k, F1 k → ¬ F2 k) (hp : Pick L (RdrB TE ea g σ a2 l) L') : RdRow w (fun k => ¬ F1 k) 1 a2 l.length (l.map B8) := by
  obtain ⟨s, a, c, _, _, G1, G2, _, ⟨G3, G4, ⟨⟨_, hr⟩, _⟩, _, hG2, _⟩, hG, _⟩ := rr_open (hp.stars h2)
  exact hr.mv fun k _ hk => ⟨rfl, fun h => hd k h ((hG k).2 (.inr ((hG2 k).2 (.inl hk))))⟩
theorem St.rdB {w0 : World} {F0 : Nat → Prop} {L' : List Res} (h : St w0 F0 L w) (hp : Pick L (RdrB TE ea g σ a2 l) L') : RdRow w (fun _ => True) 1 a2 l.length (l.map B8) := by
  obtain ⟨F, hF, _⟩ := h
  exact (rdB_row (F1 := fun _ => False) hF (fun _ h => h.elim) hp).mv fun _ _ _ => ⟨rfl, trivial⟩
end
section
variable {P : Program} {w0 : World} {F0 : Nat → Prop} {L : List Res} {n : Nat} {env : Env} {d : Option Tmp} {ty : TypeId} {pos : String} {af : Array Edge} {gd : Option (Nat × Bool)}
/-- The reader's error. -/
theorem r_lde {x : Operand} {T : TypeId} {TE : TypeId} {ea : Nat → Addr} {g : Nat} {σ : RSt} {a2 : Option Addr} {l : List UInt8} {L' : List Res} [RO P T] (hx : ev n env x = .pointer (some ⟨g, 0, none⟩) := by exact rfl) (hp : Pick L (RdrB TE ea g σ a2 l) L' := by repeat (first | exact Pick.here | apply Pick.there)) :
    Runs P w0 F0 L n env ⟨d, .load T x, ty, pos, af, gd⟩ (eV TE ea (errOf σ)) := r_load hx fun w ⟨F, hF, _⟩ => run_loadVar_one RO.h (by
  obtain ⟨s, a, c, hs, _, G1, G2, hb, _⟩ := rr_open (hp.stars hF)
  rw [cell_blk hb, ← hs, WS.errOf_st]; rfl)
/-- A byte that was read. -/
theorem r_ldb {x : Operand} {T : TypeId} {TE : TypeId} {ea : Nat → Addr} {g : Nat} {σ : RSt} {ga o i k : Nat} {l : List UInt8} {L' : List Res} [RO P T] (hx : ev n env x = .pointer (some ⟨ga, o + i, none⟩) := by exact rfl) (hp : Pick L (RdrB TE ea g σ (some ⟨ga, o, none⟩) l) L' := by repeat (first | exact Pick.here | apply Pick.there)) (hi : i = k) (hk : k < l.length) :
    Runs P w0 F0 L n env ⟨d, .load T x, ty, pos, af, gd⟩ (B8 (l.getD k 0)) := r_load hx fun w hw => run_loadVar_one RO.h (by
  obtain ⟨g', o', e, _, _, hr⟩ := (hw.rdB hp).2.2 (by omega)
  cases e
  subst hi
  refine hr i _ ?_
  rw [List.getElem?_map, List.getElem?_eq_getElem hk]; simp [List.getD, List.getElem?_eq_getElem hk])
end
theorem valN_snoc (l : List UInt8) (b : UInt8) : valN (l ++ [b]) = valN l * 256 + b.toNat := by simp [valN, List.foldl_append]
theorem or_byte {m : Nat} {b : UInt8} (h : m * 256 + b.toNat < 9223372036854775808) : bitop .or .i64 ((m * 256 : Nat) : Int) (b.toNat : Int) = ((m * 256 + b.toNat : Nat) : Int) := by
  have hb := b.toNat_lt
  have e : m * 256 ||| b.toNat = m * 256 + b.toNat := by
    have := Nat.shiftLeft_add_eq_or_of_lt (i := 8) (b := b.toNat) (by omega) m
    rw [Nat.shiftLeft_eq] at this
    exact this.symm
  have h1 : (BitVec.ofInt IntKind.i64.bits ((m * 256 : Nat) : Int) ||| BitVec.ofInt IntKind.i64.bits ((b.toNat : Nat) : Int)).toNat = m * 256 + b.toNat := by
    rw [BitVec.ofInt_natCast, BitVec.ofInt_natCast, BitVec.toNat_or, BitVec.toNat_ofNat, BitVec.toNat_ofNat]
    simp only [IntKind.bits]
    have h64 : (2 : Nat) ^ 64 = 18446744073709551616 := by decide
    rw [h64, Nat.mod_eq_of_lt (show m * 256 < 18446744073709551616 from Nat.lt_of_le_of_lt (Nat.le_add_right _ _) (Nat.lt_trans h (by decide))), Nat.mod_eq_of_lt (show b.toNat < 18446744073709551616 from Nat.lt_trans hb (by decide)), e]
  show IntKind.i64.wrap ((BitVec.ofInt IntKind.i64.bits ((m * 256 : Nat) : Int) ||| BitVec.ofInt IntKind.i64.bits ((b.toNat : Nat) : Int)).toNat : Int) = _
  rw [h1, wrap_i64 (by omega) (by omega)]
theorem rstep_num {wd : Nat} {σ : RSt} {l : List UInt8} (h : Ag (pTake wd) σ l) : rstep (pNum wd) σ = rstep (pTake wd) σ := by rw [pNum, rstep_bind h, rstep_pure]
theorem ag_num {wd : Nat} {σ : RSt} {l : List UInt8} (h : Ag (pTake wd) σ l) : Ag (pNum wd) σ (valN l : Int) := h.bind (Ag.pure _)

attribute [local irreducible] Gl Gc Gx Gs Runs Wt

set_option maxHeartbeats 400000 in
theorem newReader_ok {w : World} {F : Nat → Prop} {TE : Nat} {ea : Nat → Addr} {a : Option Addr} {n c : Nat} {b : List UInt8} (h : stars [] w F) (hx : RdRow w (fun k => ¬ F k) 1 a n (b.map B8)) (hb : n ≤ 1099511627776) :
    Calls Tryz.prog 96 #[.slice a n c] w (Post w F (fun g : Nat => .pointer (some ⟨g, 0, none⟩)) (fun g => [RdrR TE ea g (.ok b)])) := by
  have hnb : n = b.length := by have := hx.1; simp at this; omega
  refine g_enter (env := [(0, .slice a n c)]) Tryz.func96 rfl h Tryz.ntmps96 rfl rfl ?_
  refine gsr ?_
  refine gp zas ?_
  refine gnt ?_
  refine gsr ?_
  refine gp zmv ?_
  refine zc ?_ (c := fun w1 F1 F2 h1 h2 hd hst => cloneBytes_ok h1 (hx.mv hst.still) (one_B8 _) hb)
  rintro ⟨a4, c4⟩
  refine gp (r_build (cs := [.nilIface, .slice a4 n c4]) Ty.zc_194 Ty.pl_194 rfl) ?_
  refine zbN fun b6 => ?_
  refine gp zas ?_
  refine gnt ?_
  refine gc_ret ?_
  refine gx_ret1 rfl (by conv => lhs; whnf) ?_
  intro w' hw
  have hle := (hw.rowLe (e := 5) (size := 1) (a := a4) (m := n) (c := c4) (xs := b.map B8) (by repeat (first | exact Pick.here | apply Pick.there))).1
  refine ⟨b6, rfl, St.rdr (s := ⟨0, b⟩) (k := 0) (m := n) (c := c4) (a := a4) ?_ rfl hnb rfl hle⟩
  rw [eV_zero]
  refine (hw.sel (M := [blk b6 _ _, rowR 5 1 a4 n c4 _]) (by repeat (first | exact Sel.nil | (apply Sel.cons; · (repeat (first | exact Pick.here | apply Pick.there)))))).mapL fun F' hF' => ?_
  obtain ⟨G1, G2, h1, h2, hF, hd⟩ := hF'
  refine ⟨G1, G2, h1, ?_, hF, hd⟩
  obtain ⟨G3, G4, g3, g4, hG, _⟩ := h2
  have hr := rowR.rd g3
  rw [hnb] at hr
  exact rdR_mk (L := [rowR 5 1 a4 n c4 (b.map B8)]) ⟨hr.mv (still_sub fun k hk => (hG k).2 (.inl hk)), RdRow.nil⟩ ⟨G3, G4, g3, g4, hG, by assumption⟩


theorem failR_ok {w : World} {F : Nat → Prop} {TE : Nat} {ea : Nat → Addr} {g : Nat} {σ : RSt} {k : Nat} (hk : k ≠ 0) (h : stars [RdrR TE ea g σ] w F) : Calls Tryz.prog 99 #[.pointer (some ⟨g, 0, none⟩), eV TE ea k] w (Post w F (fun _ : Unit => .tuple #[]) (fun _ => [RdrR TE ea g (failE k σ)])) := by
  obtain ⟨s, a, c, hs, hc, G1, G2, hb, hr, hF, hd⟩ := rr_open h
  refine Calls.mono (calls_frame (fail_ok (j := k) (stars_one hb)) hr hF hd) fun e w' ⟨x, he, hst⟩ => ⟨x, he, ?_⟩
  have hst' : St w F [blk g 194 [eV TE ea (if s.err = 0 then k else s.err), .slice a s.bs.length c], BtR a s.bs none []] w' := hst
  refine St.rdr (s := ⟨if s.err = 0 then k else s.err, s.bs⟩) hst' rfl rfl ?_ hc
  rw [← hs]
  by_cases he : s.err = 0 <;> simp [WS.st, failE, he, hk]

set_option maxHeartbeats 400000 in
theorem take_ok' {w : World} {F : Nat → Prop} {TE : Nat} {ea : Nat → Addr} {g : Nat} {σ : RSt} (h : stars [RdrR TE ea g σ] w F) {es : List Nat} [Has es 2] (hE : GErr es w (fun k => ¬ F k) TE ea) {n : Nat}  :
    Calls Tryz.prog 114 #[.pointer (some ⟨g, 0, none⟩), .int .i64 (n : Int)] w (Post w F (fun r : Option Addr × Nat × List UInt8 => .slice r.1 r.2.2.length r.2.1) (fun r => [pureR (Ag (pTake n) σ r.2.2 ∧ r.2.2.length ≤ r.2.1 ∧ r.2.2.length ≤ n), RdrB TE ea g (rstep (pTake n) σ) r.1 r.2.2])) := by
  obtain ⟨s, a, c, hs, hc, h'⟩ := rr_open h
  refine g_enter (env := [(0, .pointer (some ⟨g, 0, none⟩)), (1, .int .i64 (n : Int))]) Tryz.func114 rfl h' Tryz.ntmps114 rfl rfl ?_
  refine gsr ?_
  refine gp zas ?_
  refine gnt ?_
  refine gc_seq ?_
  refine gsr ?_
  refine gp zmv ?_
  refine gp znc ?_
  refine gp zfa ?_
  refine gp zfa ?_
  refine gp zl ?_
  refine gp (r_nenil rfl (by kernel_rfl)) ?_
  refine gnt ?_
  refine gif rfl (fun hc11 => ?_) (fun hc11 => ?_)
  · try simp only at hc11
    have e1 : errOf σ ≠ 0 := by rw [← hs, WS.errOf_st]; exact hc11
    refine gsr ?_
    refine gp zas ?_
    refine gnt ?_
    refine gc_ret ?_
    refine gx_then_ret ?_
    refine gx_ret1 rfl (by conv => lhs; whnf) ?_
    exact fun w' hw => ⟨(none, 0, []), rfl, St.pureI ⟨Ag.bad e1 _, Nat.le_refl _, Nat.zero_le _⟩ (St.rdr (hw.sel (M := [blk g 194 [_, .slice a _ c], BtR a s.bs none []]) (by repeat (first | exact Sel.nil | (apply Sel.cons; · (repeat (first | exact Pick.here | apply Pick.there)))))) rfl rfl (by rw [errOf_rstep _ e1]; exact hs) hc)⟩
  · try simp only at hc11
    have hs' : σ = .ok s.bs := by rw [← hs, WS.st, if_pos hc11]
    refine gc_skip ?_
    refine gx_then ?_
    refine gc_seq ?_
    refine gsr ?_
    refine gp zmv ?_
    refine gp zmv ?_
    refine gp znc ?_
    refine gp zfa ?_
    refine gp zl ?_
    refine gp zln ?_
    refine gp zgt ?_
    refine gnt ?_
    refine gif rfl (fun hc18 => ?_) (fun hc18 => ?_)
    · try simp only at hc18
      have hn : s.bs.length < n := by omega
      have hp : pTake n s.bs = .error 2 := by rw [pTake, if_pos hn]
      refine gc_seq ?_
      refine gc_regionT 4 (by kernel_rfl) (by kernel_rfl) ?_
      refine sp zmv ?_
      refine sp znc ?_
      refine sp zfa ?_
      refine sp (r_ld1o rfl Ty.row_38 (hE.c 2 Has.h) (hE.n 2 Has.h)) ?_
      refine gs_nil ?_
      refine zc (fun _ => ?_) (c := fun w1 F1 F2 h1 h2 hd hst => fail_ok h1)
      refine gnt ?_
      refine gsr ?_
      refine gp zas ?_
      refine gnt ?_
      refine gc_ret ?_
      refine gx_then_ret ?_
      refine gx_ret1 rfl (by conv => lhs; whnf) ?_
      rw [if_pos hc11]
      exact fun w' hw => ⟨(none, 0, []), rfl, St.pureI ⟨by rw [hs']; exact Ag.ne hp _, Nat.le_refl _, Nat.zero_le _⟩ (St.rdr (s := ⟨2, s.bs⟩) (hw.sel (M := [blk g 194 [_, .slice a _ c], BtR a s.bs none []]) (by repeat (first | exact Sel.nil | (apply Sel.cons; · (repeat (first | exact Pick.here | apply Pick.there)))))) rfl rfl (by rw [hs']; simp only [rstep, hp]; rfl) hc)⟩
    · try simp only at hc18
      have hn : n ≤ s.bs.length := by omega
      have hp : pTake n s.bs = .ok (s.bs.take n, s.bs.drop n) := by rw [pTake, if_neg (by omega)]
      refine gc_skip ?_
      refine gx_then ?_
      refine gsr ?_
      refine gp zmv ?_
      refine gp znc ?_
      refine gp zfa ?_
      refine gp zl ?_
      refine gp zmv ?_
      refine gp (r_slice_slice (a := a) (m := s.bs.length) (c := c) (l := 0) (h := n) rfl Ty.sl_36 Ty.sz_5 rfl ⟨_, rfl⟩ (by omega) (by omega)) ?_
      refine gp zas ?_
      refine gnt ?_
      refine gsr ?_
      refine gp zmv ?_
      refine gp zmv ?_
      refine gp znc ?_
      refine gp zfa ?_
      refine gp zl ?_
      refine gp zmv ?_
      refine gp (r_slice_slice (a := a) (m := s.bs.length) (c := c) (l := n) (h := s.bs.length) rfl Ty.sl_36 Ty.sz_5 ⟨_, rfl⟩ rfl (by omega) (by omega)) ?_
      refine gp znc ?_
      refine gp zfa ?_
      refine zs1 ?_
      refine gnt ?_
      refine gsr ?_
      refine gp zmv ?_
      refine gp zas ?_
      refine gnt ?_
      refine gc_ret ?_
      refine gx_ret1 rfl (by conv => lhs; whnf) ?_
      have hdl : (s.bs.drop n).length = s.bs.length - n := List.length_drop
      have htl : (s.bs.take n).length = n := by rw [List.length_take]; omega
      refine fun w' hw => ⟨((if c = 0 then a else a.map (·.add (0 * 1))), c - 0, s.bs.take n), by simp only [htl]; rfl, St.pureI ⟨by rw [hs']; exact Ag.of hp, by simp only [htl]; omega, by simp only [htl]; omega⟩ (St.rdr (s := ⟨0, s.bs.drop n⟩) (k := s.err) (m := s.bs.length - n) (c := c - n) (a := if c = n then a else a.map (·.add (n * 1))) ?_ hc11 hdl.symm (by rw [hs']; simp only [rstep, hp]; rfl) (by omega))⟩
      refine (hw.sel (M := [BtR a s.bs none [], blk g 194 [_, .slice (if c = n then a else a.map (·.add (n * 1))) _ _]]) (by repeat (first | exact Sel.nil | (apply Sel.cons; · (repeat (first | exact Pick.here | apply Pick.there)))))).mapL fun F' hF' => ?_
      have := bt_cut (n := n) hF' hn hc
      exact stars_swap this

end Go.Proofs.YtkgbbnhdioghmaaGreatDoor

/- Walks, by program (wg.py) out of a spec. -/
namespace Go.Proofs.YtkgbbnhdioghmaaGreatDoor
open Go
set_option linter.unusedVariables false
set_option linter.unusedSimpArgs false


theorem V8.add_get (x y : V8) (k : Nat) : (x.add y).get k = x.get k + y.get k := by
  unfold V8.get V8.add; split <;> rfl
theorem v8c_length (v : V8) : (v8c v).length = 8 := rfl
instance {v : V8} : Len (v8c v) 8 := ⟨v8c_length v⟩
theorem v8c_one (v : V8) : ∀ u ∈ v8c v, u.oneCell' = true := fun u hu => fnc_one (V := W32) (m := 8) (f := v.get) (fun _ => rfl) u hu

attribute [local irreducible] Gl Gc Gx Gs Runs Wt

set_option maxHeartbeats 400000 in
theorem take_ok {w : World} {F : Nat → Prop} {g T : Nat} {v : V8} {tl : List Value} (h : stars [blk g T (v8c v ++ tl)] w F) (hK : KR w (fun k => ¬ F k)) {b : List UInt8} {a : Option Addr} {c : Nat} (hx : RdRow w (fun k => ¬ F k) 1 a 64 (b.map B8))  :
    Calls Tryz.prog 162 #[.pointer (some ⟨g, 0, none⟩), .slice a 64 c] w (Post w F (fun _ : Unit => .tuple #[]) (fun _ => [blk g T (v8c (take64 Kc v b) ++ tl)])) := by
  refine g_enter (env := [(0, .pointer (some ⟨g, 0, none⟩)), (1, .slice a 64 c)]) Tryz.func162 rfl h Tryz.ntmps162 rfl rfl ?_
  refine gsr ?_
  refine gp zmv ?_
  refine zc (fun _ => ?_) (c := fun w1 F1 F2 h1 h2 hd hst => schedule_ok h1 (hx.mv hst.still))
  refine zal fun b4 => ?_
  refine gl_storeN (wt0 rfl) rfl rfl Ty.sz_250 fnc_length (by repeat (first | exact Pick.here | apply Pick.there)) (by simp) (fnc_one fun _ => rfl) (updL_all (by simp [fnc_length])) ?_
  refine gnt ?_
  refine gc_seq ?_
  refine gc_regionS (by kernel_rfl) (by kernel_rfl) ?_
  refine sp zmv ?_
  refine sp znc ?_
  refine sp (r_indexAddr_arr rfl rfl Ty.arr_254 Ty.sz_249 (by decide) (by decide)) ?_
  refine sp zl ?_
  refine sp zmv ?_
  refine sp znc ?_
  refine sp (r_indexAddr_arr rfl rfl Ty.arr_254 Ty.sz_249 (by decide) (by decide)) ?_
  refine sp zl ?_
  refine sp zmv ?_
  refine sp znc ?_
  refine sp (r_indexAddr_arr rfl rfl Ty.arr_254 Ty.sz_249 (by decide) (by decide)) ?_
  refine sp zl ?_
  refine sp zmv ?_
  refine sp znc ?_
  refine sp (r_indexAddr_arr rfl rfl Ty.arr_254 Ty.sz_249 (by decide) (by decide)) ?_
  refine sp zl ?_
  refine sp zas ?_
  refine sp zas ?_
  refine sp zas ?_
  refine sp zas ?_
  refine gs_nil ?_
  refine gx_then ?_
  refine gc_seq ?_
  refine gc_regionS (by kernel_rfl) (by kernel_rfl) ?_
  refine sp zmv ?_
  refine sp znc ?_
  refine sp (r_indexAddr_arr rfl rfl Ty.arr_254 Ty.sz_249 (by decide) (by decide)) ?_
  refine sp zl ?_
  refine sp zmv ?_
  refine sp znc ?_
  refine sp (r_indexAddr_arr rfl rfl Ty.arr_254 Ty.sz_249 (by decide) (by decide)) ?_
  refine sp zl ?_
  refine sp zmv ?_
  refine sp znc ?_
  refine sp (r_indexAddr_arr rfl rfl Ty.arr_254 Ty.sz_249 (by decide) (by decide)) ?_
  refine sp zl ?_
  refine sp zmv ?_
  refine sp znc ?_
  refine sp (r_indexAddr_arr rfl rfl Ty.arr_254 Ty.sz_249 (by decide) (by decide)) ?_
  refine sp zl ?_
  refine sp zas ?_
  refine sp zas ?_
  refine sp zas ?_
  refine sp zas ?_
  refine gs_nil ?_
  refine gx_then ?_
  refine gc_seq ?_
  refine gsr ?_
  refine gp zmv ?_
  refine gnt ?_
  refine gc_block ?_
  refine gc_loop (α := Nat) (fun k => [pureR (k ≤ 64), blk b4 250 (fnc W32 64 (sch b)), blk g T (v8c v ++ tl)]) (fun k => [(54, .int .i64 (k : Int)), (5, W32 (rnds Kc (sch b) v k).a), (9, W32 (rnds Kc (sch b) v k).b), (6, W32 (rnds Kc (sch b) v k).c), (10, W32 (rnds Kc (sch b) v k).d), (7, W32 (rnds Kc (sch b) v k).e), (11, W32 (rnds Kc (sch b) v k).f), (8, W32 (rnds Kc (sch b) v k).g), (12, W32 (rnds Kc (sch b) v k).h)]) [13, 14, 15, 16, 17, 55, 56, 57, 58, 59, 60, 61, 62, 63, 64, 65, 66, 67, 68, 69, 70, 71, 72, 73, 74, 75, 76, 77, 78, 79, 80, 81, 82, 83, 84, 85, 86, 87, 88, 89, 90, 91, 92, 93, 94, 95, 96, 97, 98, 99, 100, 101, 102, 103, 104, 105, 106, 107, 108, 109, 110, 111, 112, 113, 114, 115, 116, 117, 118] (fun k => 64 - k) 0 ?_ ?_ ?_
  · refine env_start (by kernel_rfl)
  · rintro w' hw
    obtain ⟨F', hF', hst'⟩ := hw.sel (M := [blk b4 250 _, blk g T _]) (by repeat (first | exact Sel.nil | (apply Sel.cons; · (repeat (first | exact Pick.here | apply Pick.there)))))
    exact ⟨F', stars_pure_mk (Nat.zero_le _) hF', hst'⟩
  · intro k u
    refine gc_pureR (fun hk => ?_)
    replace hk : k ≤ 64 := hk
    refine gsr ?_
    refine gp zlt ?_
    refine gnt ?_
    refine gc_seq ?_
    refine gif rfl (fun hc55 => ?_) (fun hc55 => ?_)
    · have hk' : k < 64 := by (try simp only at hc55); omega
      refine gc_skip ?_
      refine gx_then ?_
      refine gc_seq ?_
      refine gc_block ?_
      refine gsr ?_
      refine gp zmv ?_
      refine gp zas ?_
      refine gnt ?_
      refine gsr ?_
      refine gp zmv ?_
      refine zc (fun _ => ?_) (c := fun w1 F1 F2 h1 h2 hd hst => rot_ok (n := 6) h1 (by decide) (by decide))
      refine gp zmv ?_
      refine zc (fun _ => ?_) (c := fun w1 F1 F2 h1 h2 hd hst => rot_ok (n := 11) h1 (by decide) (by decide))
      refine gp zwx ?_
      refine gp zmv ?_
      refine zc (fun _ => ?_) (c := fun w1 F1 F2 h1 h2 hd hst => rot_ok (n := 25) h1 (by decide) (by decide))
      refine gp zwx ?_
      refine gp zas ?_
      refine gnt ?_
      refine gc_seq ?_
      refine gc_regionS (by kernel_rfl) (by kernel_rfl) ?_
      refine sp zmv ?_
      refine sp zmv ?_
      refine sp zwa ?_
      refine sp zmv ?_
      refine sp zmv ?_
      refine sp zwn ?_
      refine sp zmv ?_
      refine sp zwc ?_
      refine sp zmv ?_
      refine sp zwn ?_
      refine sp zwx ?_
      refine sp zwa ?_
      refine sp zmv ?_
      refine sp (r_indexAddr_arr rfl rfl Ty.arr_250 Ty.sz_249 (by omega) (by omega)) ?_
      refine sp (r_ld1o rfl Ty.row_249 (hK.at (i := k) (by omega) hk') hK.n) ?_
      refine sp zwa ?_
      refine sp zmv ?_
      refine sp (r_indexAddr_arr rfl rfl Ty.arr_250 Ty.sz_249 (by omega) (by omega)) ?_
      refine sp (r_ld1 (v := W32 (sch b k)) rfl Ty.row_249 (by repeat (first | exact Pick.here | apply Pick.there)) (by rw [show 0 + (k : Int).toNat * 1 = k by omega]; exact fnc_get hk')) ?_
      refine sp zwa ?_
      refine sp zas ?_
      refine gs_nil ?_
      refine gx_then ?_
      refine gsr ?_
      refine gp zmv ?_
      refine zc (fun _ => ?_) (c := fun w1 F1 F2 h1 h2 hd hst => rot_ok (n := 2) h1 (by decide) (by decide))
      refine gp zmv ?_
      refine zc (fun _ => ?_) (c := fun w1 F1 F2 h1 h2 hd hst => rot_ok (n := 13) h1 (by decide) (by decide))
      refine gp zwx ?_
      refine gp zmv ?_
      refine zc (fun _ => ?_) (c := fun w1 F1 F2 h1 h2 hd hst => rot_ok (n := 22) h1 (by decide) (by decide))
      refine gp zwx ?_
      refine gp zas ?_
      refine gnt ?_
      refine gsr ?_
      refine gp zmv ?_
      refine gp zmv ?_
      refine gp zmv ?_
      refine gp zwn ?_
      refine gp zmv ?_
      refine gp zmv ?_
      refine gp zwn ?_
      refine gp zwx ?_
      refine gp zmv ?_
      refine gp zmv ?_
      refine gp zwn ?_
      refine gp zwx ?_
      refine gp zwa ?_
      refine gp zas ?_
      refine gnt ?_
      refine gc_region ?_
      refine gp zmv ?_
      refine gp zmv ?_
      refine gp zmv ?_
      refine gp zmv ?_
      refine gp zmv ?_
      refine gp zwa ?_
      refine gp zmv ?_
      refine gp zmv ?_
      refine gp zmv ?_
      refine gp zmv ?_
      refine gp zmv ?_
      refine gp zwa ?_
      refine gp zas ?_
      refine gp zas ?_
      refine gp zas ?_
      refine gp zas ?_
      refine gp zas ?_
      refine gp zas ?_
      refine gp zas ?_
      refine gp zas ?_
      refine gl_nil ?_
      refine gx_block_normal ?_
      refine gx_then ?_
      refine gc_region ?_
      refine gp zad ?_
      refine gp zmv ?_
      refine gl_nil ?_
      refine zrd (k + 1) ?_ ?_
      · show 64 - (k + 1) < 64 - k
        omega
      · rintro w' hw
        obtain ⟨F', hF', hst'⟩ := hw.sel (M := [blk b4 250 _, blk g T _]) (by repeat (first | exact Sel.nil | (apply Sel.cons; · (repeat (first | exact Pick.here | apply Pick.there)))))
        exact ⟨F', stars_pure_mk (show k + 1 ≤ 64 by omega) hF', hst'⟩
    · have hk' : k = 64 := by (try simp only at hc55); omega
      subst hk'
      refine gc_exit ?_
      refine gx_then_exit ?_
      refine gx_round_exit ?_
      refine gx_block_hit ?_
      refine gx_then ?_
      refine gsr ?_
      refine gp zmv ?_
      refine gp zmv ?_
      refine gp zmv ?_
      refine gp zmv ?_
      refine gp zmv ?_
      refine gp zmv ?_
      refine gp zmv ?_
      refine gp zmv ?_
      refine gp zba ?_
      refine gp zmv ?_
      refine gnt ?_
      refine gc_block ?_
      generalize hV : rnds Kc (sch b) v 64 = V
      refine gc_loop (α := Nat) (fun k => [pureR (k ≤ 8), blk g T (fnc W32 8 (pfx (v.add V).get v.get k) ++ tl)]) (fun k => [(128, .int .i64 (k : Int))]) [18, 19, 129, 130, 131, 132, 133, 134, 135, 136, 137, 138, 139, 140, 141] (fun k => 8 - k) 0 ?_ ?_ ?_
      · refine env_start (by kernel_rfl)
      · rintro w' hw
        obtain ⟨F', hF', hst'⟩ := hw.sel (M := [blk g T _]) (by repeat (first | exact Sel.nil | (apply Sel.cons; · (repeat (first | exact Pick.here | apply Pick.there)))))
        refine ⟨F', stars_pure_mk (Nat.zero_le _) ?_, hst'⟩
        show stars [blk g T (fnc W32 8 (pfx (v.add V).get v.get 0) ++ tl)] w' F'
        rw [pfx_zero]
        exact hF'
      · intro k u
        refine gc_pureR (fun hk => ?_)
        replace hk : k ≤ 8 := hk
        refine gsr ?_
        refine gp zlt ?_
        refine gnt ?_
        refine gc_seq ?_
        refine gif rfl (fun hc129 => ?_) (fun hc129 => ?_)
        · have hk' : k < 8 := by (try simp only at hc129); omega
          refine gc_skip ?_
          refine gx_then ?_
          refine gc_seq ?_
          refine gc_block ?_
          refine gsr ?_
          refine gp zmv ?_
          refine gp (r_index1 (cs := fnc W32 8 V.get) (v := W32 (V.get k)) rfl rfl Ty.arr_251 Ty.sz_249 Ty.row_249 (by omega) (by omega) (by rw [show (k : Int).toNat * 1 = k by omega]; exact fnc_get hk')) ?_
          refine gp zas ?_
          refine gp zas ?_
          refine gnt ?_
          refine gc_regionT 9 (by kernel_rfl) (by kernel_rfl) ?_
          refine sp zmv ?_
          refine sp zmv ?_
          refine sp znc ?_
          refine sp (r_indexAddr_arr rfl rfl Ty.arr_254 Ty.sz_249 (by omega) (by omega)) ?_
          refine sp (r_ld1 (v := W32 (v.get k)) rfl Ty.row_249 (by repeat (first | exact Pick.here | apply Pick.there)) (get_left (pfx_get2 (by omega) (by omega) (by omega)))) ?_
          refine sp zmv ?_
          refine sp zwa ?_
          refine sp znc ?_
          refine sp (r_indexAddr_arr rfl rfl Ty.arr_254 Ty.sz_249 (by omega) (by omega)) ?_
          refine gs_nil ?_
          refine gl_store1 (wt0 rfl) rfl rfl rfl Ty.sz_249 (by repeat (first | exact Pick.here | apply Pick.there)) (by rw [List.length_append, fnc_length]; omega) ((updL_left (by rw [fnc_length]; simp; omega)).trans (congrArg (· ++ tl) (pfx_set (k := k) (by omega) (by omega) (congrArg W32 (V8.add_get _ _ _).symm)))) ?_
          refine gl_nil ?_
          refine gx_block_normal ?_
          refine gx_then ?_
          refine gc_region ?_
          refine gp zad ?_
          refine gp zmv ?_
          refine gl_nil ?_
          refine zrd (k + 1) ?_ ?_
          · show 8 - (k + 1) < 8 - k
            omega
          · rintro w' hw
            obtain ⟨F', hF', hst'⟩ := hw.sel (M := [blk g T _]) (by repeat (first | exact Sel.nil | (apply Sel.cons; · (repeat (first | exact Pick.here | apply Pick.there)))))
            exact ⟨F', stars_pure_mk (show k + 1 ≤ 8 by omega) hF', hst'⟩
        · have hk' : k = 8 := by (try simp only at hc129); omega
          subst hk'
          refine gc_exit ?_
          refine gx_then_exit ?_
          refine gx_round_exit ?_
          refine gx_block_hit ?_
          refine gx_ret0' rfl ?_
          have e : v8c (take64 Kc v b) = fnc W32 8 (pfx (v.add V).get v.get 8) := by rw [pfx_full, ← hV]; rfl
          rw [e]
          exact ze ()

end Go.Proofs.YtkgbbnhdioghmaaGreatDoor

/- Walks, by program (wg.py) out of a spec. -/
namespace Go.Proofs.YtkgbbnhdioghmaaGreatDoor
open Go
set_option linter.unusedVariables false
set_option linter.unusedSimpArgs false


def HashR (g : Nat) (s : HS) : Res := exR fun p : Option Addr × Nat => allR [blk g 257 (v8c s.v ++ [.slice p.1 s.rest.length p.2, .int .u64 (s.len : Int)]), rowR 5 1 p.1 s.rest.length p.2 (s.rest.map B8)]
theorem h_open {g : Nat} {s : HS} {L : List Res} {w : World} {F : Nat → Prop} (h : stars (HashR g s :: L) w F) :
    ∃ a c, stars (blk g 257 (v8c s.v ++ [.slice a s.rest.length c, .int .u64 (s.len : Int)]) :: rowR 5 1 a s.rest.length c (s.rest.map B8) :: L) w F := by
  obtain ⟨⟨a, c⟩, h⟩ := stars_ex h
  exact ⟨a, c, stars_all h⟩
theorem St.hash {w0 w : World} {F0 : Nat → Prop} {g m c : Nat} {a : Option Addr} {v : V8} {l : Nat} {s : HS} {L : List Res} {xs : List Value}
    (h : St w0 F0 (blk g 257 (v8c v ++ [.slice a m c, .int .u64 (l : Int)]) :: rowR 5 1 a m c xs :: L) w) (hv : v = s.v) (hr : xs = s.rest.map B8) (hm : m = s.rest.length) (hl : l = s.len) : St w0 F0 (HashR g s :: L) w := by
  subst hv; subst hr; subst hl; subst hm
  obtain ⟨F, hF, hst⟩ := h
  exact ⟨F, stars_ex_mk (a, c) (stars_all_mk hF), hst⟩
theorem h_new {w0 w : World} {F0 : Nat → Prop} {g : Nat} (h : St w0 F0 [blk g 257 (v8c v0 ++ [.slice none 0 0, .int .u64 0])] w) : St w0 F0 [HashR g hs0] w := by
  obtain ⟨F, hF, hst⟩ := h
  have h1 : St w0 F0 [rowR 5 1 none 0 0 [], blk g 257 (v8c v0 ++ [.slice none 0 0, .int .u64 0])] w := ⟨F, stars_row_nil hF, hst⟩
  exact St.hash (l := 0) (h1.sel (M := [blk g 257 (v8c v0 ++ [.slice none 0 0, .int .u64 ((0 : Nat) : Int)]), rowR 5 1 none 0 0 []]) (by repeat (first | exact Sel.nil | (apply Sel.cons; · (repeat (first | exact Pick.here | apply Pick.there)))))) rfl rfl rfl rfl

attribute [local irreducible] Gl Gc Gx Gs Runs Wt

set_option maxHeartbeats 400000 in
theorem begin_ok {w : World} {F : Nat → Prop} (h : stars [] w F) :
    Calls Tryz.prog 161 #[] w (Post w F (fun _ : Unit => .agg (v8c v0).toArray) (fun _ => [])) := by
  refine g_enter (env := []) Tryz.func161 rfl h Tryz.ntmps161 rfl rfl ?_
  refine gsr ?_
  refine zal fun b0 => ?_
  refine gnt ?_
  refine gsr ?_
  refine gp zba ?_
  refine zsN ?_
  refine gnt ?_
  refine gc_ret ?_
  refine gx_retc rfl rfl (ld_aggS Ty.row_254 Ty.sz_254 (by repeat (first | exact Pick.here | apply Pick.there)) (by (simp only [List.drop_succ_cons, List.drop_zero, List.take_succ_cons, List.take_zero, List.cons_append, List.nil_append, List.append_assoc, drop_dc, drop_dc', take_dc, take_dc', drop_L, drop_L', take_L, take_L', len_L, Nat.reduceLeDiff, Nat.reduceSub, Nat.reduceAdd, Nat.le_refl, List.length_cons, List.length_append, List.length_nil, dc_length, List.drop_nil, List.take_nil, List.append_nil, List.length_map, List.length_replicate]; first | done | rfl)) (by first | rfl | (simp only [List.drop_succ_cons, List.drop_zero, List.take_succ_cons, List.take_zero, List.cons_append, List.nil_append, List.append_assoc, drop_dc, drop_dc', take_dc, take_dc', drop_L, drop_L', take_L, take_L', len_L, Nat.reduceLeDiff, Nat.reduceSub, Nat.reduceAdd, Nat.le_refl, List.length_cons, List.length_append, List.length_nil, dc_length, List.drop_nil, List.take_nil, List.append_nil, List.length_map, List.length_replicate]; first | done | omega))) ?_
  exact fun w' hw => ⟨(), congrArg (fun l : List Value => Ending.returned (.agg l.toArray)) (by kernel_rfl), hw.sel (by repeat (first | exact Sel.nil | (apply Sel.cons; · (repeat (first | exact Pick.here | apply Pick.there)))))⟩

set_option maxHeartbeats 400000 in
theorem hnew_ok {w : World} {F : Nat → Prop} (h : stars [] w F) :
    Calls Tryz.prog 135 #[] w (Post w F (fun g : Nat => .pointer (some ⟨g, 0, none⟩)) (fun g => [HashR g hs0])) := by
  refine g_enter (env := []) Tryz.func135 rfl h Tryz.ntmps135 rfl rfl ?_
  refine gsr ?_
  refine gp zas ?_
  refine gnt ?_
  refine gsr ?_
  refine zc (fun _ => ?_) (c := fun w1 F1 F2 h1 h2 hd hst => begin_ok h1)
  refine gp zbu ?_
  refine zbN fun b3 => ?_
  refine gp zas ?_
  refine gnt ?_
  refine gc_ret ?_
  refine gx_ret1 rfl (by conv => lhs; whnf) ?_
  exact fun w' hw => ⟨b3, rfl, h_new (hw.sel (by repeat (first | exact Sel.nil | (apply Sel.cons; · (repeat (first | exact Pick.here | apply Pick.there))))))⟩

set_option maxHeartbeats 400000 in
theorem hwrite_ok {w : World} {F : Nat → Prop} {g : Nat} {s : HS} {b : List UInt8} {a : Option Addr} {n c : Nat} (h : stars [HashR g s] w F) (hK : KR w (fun k => ¬ F k)) (hx : RdRow w (fun k => ¬ F k) 1 a n (b.map B8)) (hr : s.rest.length < 64) (hb : s.len + b.length ≤ 1099511627776) :
    Calls Tryz.prog 136 #[.pointer (some ⟨g, 0, none⟩), .slice a n c] w (Post w F (fun _ : Unit => .tuple #[]) (fun _ => [HashR g (hWrite Kc s b)])) := by
  obtain ⟨a0, c0, h'⟩ := h_open h
  have hnb : n = b.length := by have := hx.1; simp at this; omega
  refine g_enter (env := [(0, .pointer (some ⟨g, 0, none⟩)), (1, .slice a n c)]) Tryz.func136 rfl h' Tryz.ntmps136 rfl rfl ?_
  refine gsr ?_
  refine gp zmv ?_
  refine gp znc ?_
  refine gp zfa ?_
  refine gp zl ?_
  refine gp zmv ?_
  refine gp zln ?_
  refine gp (r_int (r_conv_int rfl Ty.un_3 Ty.un_248) (wrap_u64 (by omega) (by omega))) ?_
  refine gp (r_int (r_arith (op := .add) rfl rfl (wrap_u64 (by omega) (by omega))) (show (s.len : Int) + (n : Int) = ((s.len + b.length : Nat) : Int) by omega)) ?_
  refine gp znc ?_
  refine gp zfa ?_
  refine zs1 ?_
  refine gnt ?_
  refine gsr ?_
  refine gp zmv ?_
  refine gp zmv ?_
  refine gp znc ?_
  refine gp zfa ?_
  refine gp zl ?_
  refine gp zmv ?_
  refine gl_append (wt0 rfl) rfl rfl (by repeat (first | exact Pick.here | apply Pick.there)) Ty.el_36 (fun w' hw => hw.rdOld hx) (one_B8 _) (by simp only [maxLen]; omega) (by omega) ?_
  intro a1 c1
  refine gp znc ?_
  refine gp zfa ?_
  refine zs1 ?_
  refine gnt ?_
  refine gc_block ?_
  refine gc_loop (α := V8 × List UInt8 × Option Addr × Nat) (fun x => [pureR (takes Kc x.1 x.2.1 = takes Kc s.v (s.rest ++ b) ∧ x.2.1.length ≤ 1099511627840), blk g 257 (v8c x.1 ++ [.slice x.2.2.1 x.2.1.length x.2.2.2, .int .u64 ((s.len + b.length : Nat) : Int)]), rowR 5 1 x.2.2.1 x.2.1.length x.2.2.2 (x.2.1.map B8)]) (fun x => []) [23, 24, 25, 26, 27, 28, 29, 30, 31, 32, 33, 34, 35, 36, 37, 38, 39, 40, 41, 42, 43, 44, 45] (fun x => x.2.1.length) (s.v, s.rest ++ b, a1, c1) ?_ ?_ ?_
  · refine env_start (by kernel_rfl)
  · rintro w' hw
    obtain ⟨F', hF', hst'⟩ := hw.sel (M := [blk g 257 _, rowR 5 1 a1 _ c1 _]) (by repeat (first | exact Sel.nil | (apply Sel.cons; · (repeat (first | exact Pick.here | apply Pick.there)))))
    refine ⟨F', stars_pure_mk ⟨rfl, by simp; omega⟩ ?_, hst'⟩
    show stars [blk g 257 (v8c s.v ++ [.slice a1 (s.rest ++ b).length c1, .int .u64 ((s.len + b.length : Nat) : Int)]), rowR 5 1 a1 (s.rest ++ b).length c1 ((s.rest ++ b).map B8)] w' F'
    rw [List.length_append, List.map_append]
    rw [hnb] at hF'
    exact hF'
  · intro x u
    obtain ⟨v, r, a1, c1⟩ := x
    refine gc_pureR (fun hk => ?_)
    replace hk : takes Kc v r = takes Kc s.v (s.rest ++ b) ∧ r.length ≤ 1099511627840 := hk
    refine gc_fact (p := r.length ≤ c1) (fun w hw => (hw.rowLe (e := 5) (size := 1) (a := a1) (m := r.length) (c := c1) (xs := r.map B8) (by repeat (first | exact Pick.here | apply Pick.there))).1) (fun hc1 => ?_)
    refine gc_seq ?_
    refine gsr ?_
    refine gp zmv ?_
    refine gp znc ?_
    refine gp zfa ?_
    refine gp zl ?_
    refine gp zln ?_
    refine gp zge ?_
    refine gnt ?_
    refine gif rfl (fun hc28 => ?_) (fun hc28 => ?_)
    · have hk' : 64 ≤ r.length := by (try simp only at hc28); omega
      refine gc_skip ?_
      refine gx_then ?_
      refine gc_block ?_
      refine gc_seq ?_
      refine gc_regionT 8 (by kernel_rfl) (by kernel_rfl) ?_
      refine sp zmv ?_
      refine sp znc ?_
      refine sp zfa ?_
      refine sp zmv ?_
      refine sp znc ?_
      refine sp zfa ?_
      refine sp zl ?_
      refine sp (r_slice_slice (a := a1) (m := r.length) (c := c1) (l := 0) (h := 64) rfl Ty.sl_36 Ty.sz_5 rfl ⟨_, rfl⟩ (by omega) (by omega)) ?_
      refine gs_nil ?_
      refine zc (fun _ => ?_) (c := fun w1 F1 F2 h1 h2 hd hst => take_ok (tl := [.slice a1 r.length c1, .int .u64 ((s.len + b.length : Nat) : Int)]) h1 (hK.mv hst.still) ((rd_row h2 hd (by repeat (first | exact Pick.here | apply Pick.there))).cut8 (l := 0) (h := 64) (by omega) hk' hc1))
      refine gnt ?_
      refine gc_region ?_
      refine gp zmv ?_
      refine gp zmv ?_
      refine gp znc ?_
      refine gp zfa ?_
      refine gp zl ?_
      refine gp (r_slice_slice (a := a1) (m := r.length) (c := c1) (l := 64) (h := r.length) rfl Ty.sl_36 Ty.sz_5 ⟨_, rfl⟩ rfl (by omega) (by omega)) ?_
      refine gp znc ?_
      refine gp zfa ?_
      refine zs1 ?_
      refine gl_nil ?_
      refine gx_block_normal ?_
      refine zrd ((take64 Kc v (r.take 64), r.drop 64, (if c1 = 64 then a1 else a1.map (·.add (64 * 1))), c1 - 64)) ?_ ?_
      · show (r.drop 64).length < r.length
        rw [List.length_drop]
        omega
      · rintro w' hw
        obtain ⟨F', hF', hst'⟩ := hw.sel (M := [rowR 5 1 a1 r.length c1 (r.map B8), blk g 257 _]) (by repeat (first | exact Sel.nil | (apply Sel.cons; · (repeat (first | exact Pick.here | apply Pick.there)))))
        have h2 : St w F [rowR 5 1 (if c1 = 64 then a1 else a1.map (·.add (64 * 1))) (r.length - 64) (c1 - 64) ((r.drop 64).map B8), blk g 257 _] w' := ⟨F', stars_tail8 (by omega) hF', hst'⟩
        obtain ⟨F2, hF2, hst2⟩ := h2.sel (M := [blk g 257 _, rowR 5 1 _ _ _ ((r.drop 64).map B8)]) (by repeat (first | exact Sel.nil | (apply Sel.cons; · (repeat (first | exact Pick.here | apply Pick.there)))))
        refine ⟨F2, stars_pure_mk ⟨?_, ?_⟩ ?_, hst2⟩
        · rw [← hk.1, takes.eq_1 Kc v r, dif_pos (by omega)]
        · show (r.drop 64).length ≤ _; rw [List.length_drop]; omega
        · show stars [blk g 257 (v8c (take64 Kc v (r.take 64)) ++ [.slice (if c1 = 64 then a1 else a1.map (·.add (64 * 1))) (r.drop 64).length (c1 - 64), .int .u64 ((s.len + b.length : Nat) : Int)]), rowR 5 1 (if c1 = 64 then a1 else a1.map (·.add (64 * 1))) (r.drop 64).length (c1 - 64) ((r.drop 64).map B8)] w' F2
          rw [List.length_drop]; exact hF2
    · have hk' : ¬ 64 ≤ r.length := by (try simp only at hc28); omega
      refine gc_exit ?_
      refine gx_then_exit ?_
      refine gx_round_exit ?_
      refine gx_block_hit ?_
      refine gx_ret0' rfl ?_
      have e : takes Kc s.v (s.rest ++ b) = (v, r) := by rw [← hk.1, takes.eq_1, dif_neg hk']
      exact fun w' hw => ⟨(), rfl, St.hash (s := hWrite Kc s b) (hw.sel (M := [blk g 257 _, rowR 5 1 a1 _ c1 _]) (by repeat (first | exact Sel.nil | (apply Sel.cons; · (repeat (first | exact Pick.here | apply Pick.there)))))) (by simp [hWrite, e]) (by simp [hWrite, e]) (by simp [hWrite, e]) rfl⟩

end Go.Proofs.YtkgbbnhdioghmaaGreatDoor

/- Walks, by program (wg.py) out of a spec. -/
namespace Go.Proofs.YtkgbbnhdioghmaaGreatDoor
open Go
set_option linter.unusedVariables false
set_option linter.unusedSimpArgs false


theorem padN_le (m : Nat) : padN m ≤ 63 := by unfold padN; omega
theorem pad_hit {m k : Nat} (h : k ≤ padN m) (hm : m < 64) : (m + 1 + k) % 64 = 56 ↔ k = padN m := by unfold padN at *; omega
theorem fnc_sum (v : V8) : fnc B8 32 (outByte v) = ((List.range 32).map (outByte v)).map B8 := by simp [fnc]
theorem padded_length (s : HS) : (padded s).length = s.rest.length + 1 + padN s.rest.length + 8 := by simp [padded, lenBytes]; omega
theorem takes_nil (K : Nat → UInt32) (v : V8) : takes K v [] = (v, []) := by rw [takes.eq_1, dif_neg (by simp)]
theorem rem_nat {m k : Nat} : Int.tmod (m : Int) (k : Int) = ((m % k : Nat) : Int) := by rw [Int.tmod_eq_emod_of_nonneg (by omega)]; rfl
theorem quo_nat {m k : Nat} : Int.tdiv (m : Int) (k : Int) = ((m / k : Nat) : Int) := by rw [Int.tdiv_eq_ediv_of_nonneg (by omega)]; rfl
def padRow (s : HS) (k : Nat) : List UInt8 := s.rest ++ 128 :: List.replicate k 0
def lenRow (s : HS) (k : Nat) : List UInt8 := s.rest ++ 128 :: (List.replicate (padN s.rest.length) 0 ++ (List.range k).map fun i => UInt8.ofNat (s.len * 8 / 2 ^ (8 * (7 - i))))
theorem padRow_succ (s : HS) (k : Nat) : (padRow s k).map B8 ++ [.int .u8 0] = (padRow s (k + 1)).map B8 := by
  have e : (.int .u8 0 : Value) = B8 0 := rfl
  rw [e]; simp [padRow, List.replicate_succ']
theorem lenRow_zero (s : HS) : lenRow s 0 = padRow s (padN s.rest.length) := by simp [lenRow, padRow]
theorem lenRow_succ (s : HS) (k : Nat) : (lenRow s k).map B8 ++ [B8 (UInt8.ofNat (s.len * 8 / 2 ^ (8 * (7 - k))))] = (lenRow s (k + 1)).map B8 := by simp [lenRow, List.range_succ]
theorem lenRow_full (s : HS) : lenRow s 8 = padded s := rfl

attribute [local irreducible] Gl Gc Gx Gs Runs Wt

set_option maxHeartbeats 400000 in
theorem hsum_ok {w : World} {F : Nat → Prop} {g : Nat} {s : HS} (h : stars [HashR g s] w F) (hK : KR w (fun k => ¬ F k)) (hr : s.rest.length < 64) (hb : s.len ≤ 1099511627776) :
    Calls Tryz.prog 137 #[.pointer (some ⟨g, 0, none⟩)] w (Post w F (fun _ : Unit => .agg (fnc B8 32 (outByte (takes Kc s.v (padded s)).1)).toArray) (fun _ => [HashR g s])) := by
  obtain ⟨a0, c0, h'⟩ := h_open h
  refine g_enter (env := [(0, .pointer (some ⟨g, 0, none⟩))]) Tryz.func137 rfl h' Tryz.ntmps137 rfl rfl ?_
  refine gsr ?_
  refine zal fun b2 => ?_
  refine gnt ?_
  refine gsr ?_
  refine gp zmv ?_
  refine gp znc ?_
  refine gp zfa ?_
  refine gp zL ?_
  refine zal fun b3 => ?_
  refine gl_storeN (wt0 rfl) (cs' := v8c s.v ++ []) rfl rfl Ty.sz_254 (v8c_length _) (by repeat (first | exact Pick.here | apply Pick.there)) (by simp) (v8c_one _) ((updL_all (by simp [v8c_length])).trans (List.append_nil _).symm) ?_
  refine gnt ?_
  refine gsr ?_
  refine ze0 fun b12 => ?_
  refine gp zmv ?_
  refine gp znc ?_
  refine gp zfa ?_
  refine gp zl ?_
  refine gl_append (wt0 rfl) rfl rfl (by repeat (first | exact Pick.here | apply Pick.there)) Ty.el_36 (fun w' hw => hw.row (a := a0) (m := s.rest.length) (c := c0) (by repeat (first | exact Pick.here | apply Pick.there))) (one_B8 _) (by simp only [maxLen]; omega) (by omega) ?_
  intro a17 c17
  rw [show 0 + s.rest.length = s.rest.length from Nat.zero_add _]
  refine ze1 fun b18 => ?_
  refine gl_append (news := [.int .u8 128]) (wt0 rfl) rfl rfl (by repeat (first | exact Pick.here | apply Pick.there)) Ty.el_36 (fun w' hw => hw.row (m := 1) (xs := [.int .u8 128]) (by repeat (first | exact Pick.here | apply Pick.there))) (all_cons' rfl all_nil') (by simp only [maxLen]; omega) (by omega) ?_
  intro a19 c19
  refine gp zas ?_
  refine gnt ?_
  refine gc_seq ?_
  refine gc_block ?_
  refine gc_loop (α := Nat × Option Addr × Nat) (fun x => [pureR (x.1 ≤ padN s.rest.length), rowR 5 1 x.2.1 (s.rest.length + 1 + x.1) x.2.2 ((padRow s x.1).map B8), blk b3 254 (v8c s.v ++ []), blk b2 207 (List.replicate 32 (.int .u8 0)), blk g 257 (v8c s.v ++ [.slice a0 s.rest.length c0, .int .u64 (s.len : Int)]), rowR 5 1 a0 s.rest.length c0 (s.rest.map B8)]) (fun x => [(4, .slice x.2.1 (s.rest.length + 1 + x.1) x.2.2)]) [20, 21, 22, 23, 24, 25, 26] (fun x => padN s.rest.length - x.1) (0, a19, c19) ?_ ?_ ?_
  · refine env_start (by kernel_rfl)
  · rintro w' hw
    obtain ⟨F', hF', hst'⟩ := hw.sel (M := [rowR 5 1 a19 _ c19 _, blk b3 254 (v8c s.v ++ []), blk b2 207 (List.replicate 32 (.int .u8 0)), blk g 257 (v8c s.v ++ [.slice a0 s.rest.length c0, .int .u64 (s.len : Int)]), rowR 5 1 a0 s.rest.length c0 (s.rest.map B8)]) (by repeat (first | exact Sel.nil | (apply Sel.cons; · (repeat (first | exact Pick.here | apply Pick.there)))))
    refine ⟨F', stars_pure_mk (Nat.zero_le _) ?_, hst'⟩
    have e : ([] ++ s.rest.map B8 ++ [.int .u8 128] : List Value) = (padRow s 0).map B8 := by simp [padRow]
    rw [e] at hF'
    exact hF'
  · intro x u
    obtain ⟨k, a4, c4⟩ := x
    refine gc_pureR (fun hk => ?_)
    replace hk : k ≤ padN s.rest.length := hk
    have hp63 := padN_le s.rest.length
    refine gc_seq ?_
    refine gsr ?_
    refine gp zmv ?_
    refine gp zln ?_
    refine gp (r_int (r_rem rfl rfl (by decide)) (rem_nat (m := s.rest.length + 1 + k) (k := 64))) ?_
    refine gp zni ?_
    refine gnt ?_
    refine gif rfl (fun hc23 => ?_) (fun hc23 => ?_)
    · have hk' : k < padN s.rest.length := by have := pad_hit hk hr; (try simp only at hc23); omega
      refine gc_skip ?_
      refine gx_then ?_
      refine gc_block ?_
      refine gc_region ?_
      refine gp zmv ?_
      refine ze1 fun b25 => ?_
      refine gl_append (news := [.int .u8 0]) (a := a4) (m := s.rest.length + 1 + k) (c := c4) (wt0 rfl) rfl rfl (by repeat (first | exact Pick.here | apply Pick.there)) Ty.el_36 (fun w' hw => hw.row (m := 1) (xs := [.int .u8 0]) (by repeat (first | exact Pick.here | apply Pick.there))) (all_cons' rfl all_nil') (by simp only [maxLen]; omega) (by omega) ?_
      intro a26 c26
      refine gp zas ?_
      refine gl_nil ?_
      refine gx_block_normal ?_
      refine zrd ((k + 1, a26, c26)) ?_ ?_
      · show padN s.rest.length - (k + 1) < padN s.rest.length - k
        omega
      · rintro w' hw
        obtain ⟨F', hF', hst'⟩ := hw.sel (M := [rowR 5 1 a26 _ c26 _, blk b3 254 (v8c s.v ++ []), blk b2 207 (List.replicate 32 (.int .u8 0)), blk g 257 (v8c s.v ++ [.slice a0 s.rest.length c0, .int .u64 (s.len : Int)]), rowR 5 1 a0 s.rest.length c0 (s.rest.map B8)]) (by repeat (first | exact Sel.nil | (apply Sel.cons; · (repeat (first | exact Pick.here | apply Pick.there)))))
        refine ⟨F', stars_pure_mk (show k + 1 ≤ _ by omega) ?_, hst'⟩
        rw [padRow_succ] at hF'
        exact hF'
    · have hk' : k = padN s.rest.length := by have := pad_hit hk hr; (try simp only at hc23); omega
      subst hk'
      refine gc_exit ?_
      refine gx_then_exit ?_
      refine gx_round_exit ?_
      refine gx_block_hit ?_
      refine gx_then ?_
      refine gc_seq ?_
      refine gsr ?_
      refine gp zas ?_
      refine gnt ?_
      refine gc_block ?_
      refine gc_loop (α := Nat × Option Addr × Nat) (fun x => [pureR (x.1 ≤ 8), rowR 5 1 x.2.1 (s.rest.length + 1 + padN s.rest.length + x.1) x.2.2 ((lenRow s x.1).map B8), blk b3 254 (v8c s.v ++ []), blk b2 207 (List.replicate 32 (.int .u8 0)), blk g 257 (v8c s.v ++ [.slice a0 s.rest.length c0, .int .u64 (s.len : Int)]), rowR 5 1 a0 s.rest.length c0 (s.rest.map B8)]) (fun x => [(4, .slice x.2.1 (s.rest.length + 1 + padN s.rest.length + x.1) x.2.2), (5, .int .i64 (7 - (x.1 : Int)))]) [27, 28, 29, 30, 31, 32, 33, 34, 35, 36, 37, 38, 39, 40, 41, 42] (fun x => 8 - x.1) (0, a4, c4) ?_ ?_ ?_
      · refine env_start (by kernel_rfl)
      · rintro w' hw
        obtain ⟨F', hF', hst'⟩ := hw.sel (M := [rowR 5 1 a4 _ c4 _, blk b3 254 (v8c s.v ++ []), blk b2 207 (List.replicate 32 (.int .u8 0)), blk g 257 (v8c s.v ++ [.slice a0 s.rest.length c0, .int .u64 (s.len : Int)]), rowR 5 1 a0 s.rest.length c0 (s.rest.map B8)]) (by repeat (first | exact Sel.nil | (apply Sel.cons; · (repeat (first | exact Pick.here | apply Pick.there)))))
        refine ⟨F', stars_pure_mk (Nat.zero_le _) ?_, hst'⟩
        rw [← lenRow_zero] at hF'
        exact hF'
      · intro x u
        obtain ⟨k, a5, c5⟩ := x
        refine gc_pureR (fun hk => ?_)
        replace hk : k ≤ 8 := hk
        refine gc_seq ?_
        refine gsr ?_
        refine gp zmv ?_
        refine gp zge ?_
        refine gnt ?_
        refine gif rfl (fun hc28 => ?_) (fun hc28 => ?_)
        · have hk' : k < 8 := by (try simp only at hc28); omega
          refine gc_skip ?_
          refine gx_then ?_
          refine gc_seq ?_
          refine gc_block ?_
          refine gc_region ?_
          refine gp zmv ?_
          refine gp zmv ?_
          refine gp znc ?_
          refine gp zfa ?_
          refine gp zl ?_
          refine gp (r_int (r_arith (op := .mul) rfl rfl (wrap_u64 (by omega) (by omega))) (show (s.len : Int) * 8 = ((s.len * 8 : Nat) : Int) by omega)) ?_
          refine gp zmv ?_
          refine gp zml ?_
          refine gp zhr ?_
          refine gp (r_val (r_conv_int rfl Ty.un_248 Ty.un_5) (byte_shrU (j := 7 - k) (by omega) (by omega))) ?_
          refine ze1 fun b41 => ?_
          refine gl_append (news := [B8 (UInt8.ofNat (s.len * 8 / 2 ^ (8 * (7 - k))))]) (a := a5) (m := s.rest.length + 1 + padN s.rest.length + k) (c := c5) (wt0 rfl) rfl rfl (by repeat (first | exact Pick.here | apply Pick.there)) Ty.el_36 (fun w' hw => hw.row (m := 1) (xs := [B8 (UInt8.ofNat (s.len * 8 / 2 ^ (8 * (7 - k))))]) (by repeat (first | exact Pick.here | apply Pick.there))) (all_cons' rfl all_nil') (by simp only [maxLen]; omega) (by omega) ?_
          intro a42 c42
          refine gp zas ?_
          refine gl_nil ?_
          refine gx_block_normal ?_
          refine gx_then ?_
          refine gc_region ?_
          refine gp zmv ?_
          refine gp (r_int (r_arith (op := .sub) rfl rfl (wrap_i64 (by omega) (by omega))) (show 7 - (k : Int) - 1 = 7 - ((k + 1 : Nat) : Int) by omega)) ?_
          refine gp zas ?_
          refine gl_nil ?_
          refine zrd ((k + 1, a42, c42)) ?_ ?_
          · show 8 - (k + 1) < 8 - k
            omega
          · rintro w' hw
            obtain ⟨F', hF', hst'⟩ := hw.sel (M := [rowR 5 1 a42 _ c42 _, blk b3 254 (v8c s.v ++ []), blk b2 207 (List.replicate 32 (.int .u8 0)), blk g 257 (v8c s.v ++ [.slice a0 s.rest.length c0, .int .u64 (s.len : Int)]), rowR 5 1 a0 s.rest.length c0 (s.rest.map B8)]) (by repeat (first | exact Sel.nil | (apply Sel.cons; · (repeat (first | exact Pick.here | apply Pick.there)))))
            refine ⟨F', stars_pure_mk (show k + 1 ≤ _ by omega) ?_, hst'⟩
            rw [lenRow_succ] at hF'
            exact hF'
        · have hk' : k = 8 := by (try simp only at hc28); omega
          subst hk'
          refine gc_exit ?_
          refine gx_then_exit ?_
          refine gx_round_exit ?_
          refine gx_block_hit ?_
          refine gx_then ?_
          refine gc_seq ?_
          refine gc_block ?_
          have hpl := padded_length s
          refine gc_loop (α := V8 × List UInt8 × Option Addr × Nat × Nat) (fun x => [pureR (takes Kc x.1 x.2.1 = takes Kc s.v (padded s) ∧ x.2.1.length % 64 = 0 ∧ x.2.1.length ≤ 256 ∧ x.2.2.2.1 = x.2.1.length), rowR 5 1 x.2.2.1 x.2.2.2.1 x.2.2.2.2 (x.2.1.map B8), blk b3 254 (v8c x.1 ++ []), blk b2 207 (List.replicate 32 (.int .u8 0)), blk g 257 (v8c s.v ++ [.slice a0 s.rest.length c0, .int .u64 (s.len : Int)]), rowR 5 1 a0 s.rest.length c0 (s.rest.map B8)]) (fun x => [(4, .slice x.2.2.1 x.2.2.2.1 x.2.2.2.2)]) [43, 44, 45, 46, 47, 48, 49, 50] (fun x => x.2.1.length) (s.v, padded s, a5, s.rest.length + 1 + padN s.rest.length + 8, c5) ?_ ?_ ?_
          · refine env_start (by kernel_rfl)
          · rintro w' hw
            obtain ⟨F', hF', hst'⟩ := hw.sel (M := [rowR 5 1 a5 _ c5 _, blk b3 254 (v8c s.v ++ []), blk b2 207 (List.replicate 32 (.int .u8 0)), blk g 257 (v8c s.v ++ [.slice a0 s.rest.length c0, .int .u64 (s.len : Int)]), rowR 5 1 a0 s.rest.length c0 (s.rest.map B8)]) (by repeat (first | exact Sel.nil | (apply Sel.cons; · (repeat (first | exact Pick.here | apply Pick.there)))))
            refine ⟨F', stars_pure_mk ⟨rfl, ?_, ?_, hpl.symm⟩ ?_, hst'⟩
            · show (padded s).length % 64 = 0
              have := (pad_hit (Nat.le_refl _) hr).2 rfl
              omega
            · show (padded s).length ≤ 256; omega
            · exact hF'
          · intro x u
            obtain ⟨v, r, a6, n6, c6⟩ := x
            refine gc_pureR (fun hk => ?_)
            replace hk : takes Kc v r = takes Kc s.v (padded s) ∧ r.length % 64 = 0 ∧ r.length ≤ 256 ∧ n6 = r.length := hk
            obtain ⟨hk, hk64, hk256, rfl⟩ := hk
            refine gc_fact (p := r.length ≤ c6) (fun w hw => (hw.rowLe (e := 5) (size := 1) (a := a6) (m := r.length) (c := c6) (xs := r.map B8) (by repeat (first | exact Pick.here | apply Pick.there))).1) (fun hc6 => ?_)
            refine gc_seq ?_
            refine gsr ?_
            refine gp zmv ?_
            refine gp zln ?_
            refine gp zgt ?_
            refine gnt ?_
            refine gif rfl (fun hc45 => ?_) (fun hc45 => ?_)
            · have hk' : 64 ≤ r.length := by (try simp only at hc45); omega
              refine gc_skip ?_
              refine gx_then ?_
              refine gc_block ?_
              refine gsr ?_
              refine gp zmv ?_
              refine gp (r_slice_slice (a := a6) (m := r.length) (c := c6) (l := 0) (h := 64) rfl Ty.sl_36 Ty.sz_5 rfl ⟨_, rfl⟩ (by omega) (by omega)) ?_
              refine zc (fun _ => ?_) (c := fun w1 F1 F2 h1 h2 hd hst => take_ok (tl := []) h1 (hK.mv hst.still) ((rd_row (a := a6) (n := r.length) (c := c6) (xs := r.map B8) h2 hd (by repeat (first | exact Pick.here | apply Pick.there))).cut8 (l := 0) (h := 64) (by omega) hk' hc6))
              refine gnt ?_
              refine gc_region ?_
              refine gp zmv ?_
              refine gp (r_slice_slice (a := a6) (m := r.length) (c := c6) (l := 64) (h := r.length) rfl Ty.sl_36 Ty.sz_5 ⟨_, rfl⟩ rfl (by omega) (by omega)) ?_
              refine gp zas ?_
              refine gl_nil ?_
              refine gx_block_normal ?_
              have hdl : (r.drop 64).length = r.length - 64 := List.length_drop
              refine zrd ((take64 Kc v (r.take 64), r.drop 64, (if c6 = 64 then a6 else a6.map (·.add (64 * 1))), r.length - 64, c6 - 64)) ?_ ?_
              · show (r.drop 64).length < r.length
                omega
              · rintro w' hw
                obtain ⟨F', hF', hst'⟩ := hw.sel (M := [rowR 5 1 a6 r.length c6 (r.map B8), blk b3 254 (v8c (take64 Kc v (r.take 64)) ++ []), blk b2 207 (List.replicate 32 (.int .u8 0)), blk g 257 (v8c s.v ++ [.slice a0 s.rest.length c0, .int .u64 (s.len : Int)]), rowR 5 1 a0 s.rest.length c0 (s.rest.map B8)]) (by repeat (first | exact Sel.nil | (apply Sel.cons; · (repeat (first | exact Pick.here | apply Pick.there)))))
                refine ⟨F', stars_pure_mk ⟨?_, ?_, ?_, hdl.symm⟩ ?_, hst'⟩
                · rw [← hk, takes.eq_1 Kc v r, dif_pos (by omega)]
                · show (r.drop 64).length % 64 = 0; omega
                · show (r.drop 64).length ≤ 256; omega
                · have := stars_tail8 (l := 64) (by omega) hF'
                  exact this
            · have hk' : r = [] := by (try simp only at hc45); exact List.eq_nil_of_length_eq_zero (by omega)
              have hV : (takes Kc s.v (padded s)).1 = v := by rw [← hk, hk', takes_nil]
              rw [hV]
              refine gc_exit ?_
              refine gx_then_exit ?_
              refine gx_round_exit ?_
              refine gx_block_hit ?_
              refine gx_then ?_
              refine gsr ?_
              refine zal fun b6 => ?_
              refine gnt ?_
              refine gc_seq ?_
              refine gsr ?_
              refine gp zmv ?_
              refine gnt ?_
              refine gc_block ?_
              refine gc_loop (α := Nat) (fun k => [pureR (k ≤ 32), blk b6 207 (fnc B8 32 (pfx (outByte v) (fun _ => 0) k)), blk b3 254 (v8c v ++ []), blk b2 207 (List.replicate 32 (.int .u8 0)), blk g 257 (v8c s.v ++ [.slice a0 s.rest.length c0, .int .u64 (s.len : Int)]), rowR 5 1 a0 s.rest.length c0 (s.rest.map B8)]) (fun k => [(51, .int .i64 (k : Int))]) [7, 52, 53, 54, 55, 56, 57, 58, 59, 60, 61, 62, 63, 64, 65, 66] (fun k => 32 - k) 0 ?_ ?_ ?_
              · refine env_start (by kernel_rfl)
              · rintro w' hw
                obtain ⟨F', hF', hst'⟩ := hw.sel (M := [blk b6 207 _, blk b3 254 (v8c v ++ []), blk b2 207 (List.replicate 32 (.int .u8 0)), blk g 257 (v8c s.v ++ [.slice a0 s.rest.length c0, .int .u64 (s.len : Int)]), rowR 5 1 a0 s.rest.length c0 (s.rest.map B8)]) (by repeat (first | exact Sel.nil | (apply Sel.cons; · (repeat (first | exact Pick.here | apply Pick.there)))))
                refine ⟨F', stars_pure_mk (Nat.zero_le _) ?_, hst'⟩
                rw [pfx_zero, fnc_const]
                exact hF'
              · intro k u
                refine gc_pureR (fun hk2 => ?_)
                replace hk2 : k ≤ 32 := hk2
                refine gsr ?_
                refine gp zlt ?_
                refine gnt ?_
                refine gc_seq ?_
                refine gif rfl (fun hc52 => ?_) (fun hc52 => ?_)
                · have hk3 : k < 32 := by (try simp only at hc52); omega
                  refine gc_skip ?_
                  refine gx_then ?_
                  refine gc_seq ?_
                  refine gc_block ?_
                  refine gsr ?_
                  refine gp zmv ?_
                  refine gp zas ?_
                  refine gnt ?_
                  refine gc_region ?_
                  refine gp zmv ?_
                  refine gp zmv ?_
                  refine gp (r_int (r_val (r_quo rfl rfl (by decide)) (congrArg (Value.int .i64) ((congrArg IntKind.i64.wrap (quo_nat (m := k) (k := 4))).trans (wrap_i64 (by omega) (by omega))))) rfl) ?_
                  refine gp (r_indexAddr_arr rfl rfl Ty.arr_254 Ty.sz_249 (by omega) (by omega)) ?_
                  refine gp (r_ld1 (v := W32 (v.get (k / 4))) rfl Ty.row_249 (by repeat (first | exact Pick.here | apply Pick.there)) (by rw [show 0 + ((k / 4 : Nat) : Int).toNat * 1 = k / 4 by omega]; exact get_left (fnc_get (V := W32) (m := 8) (f := v.get) (by omega)))) ?_
                  refine gp zmv ?_
                  refine gp (r_int (r_rem rfl rfl (by decide)) (rem_nat (m := k) (k := 4))) ?_
                  refine gp zml ?_
                  refine gp zsb ?_
                  refine gp (r_shrw (j := 24 - 8 * (k % 4)) rfl rfl (by omega) (by omega)) ?_
                  refine gp (r_convw8 rfl Ty.un_249 Ty.un_5) ?_
                  refine gp (r_indexAddr_arr rfl rfl Ty.arr_207 Ty.sz_5 (by omega) (by omega)) ?_
                  refine gl_store1 (wt0 rfl) rfl rfl rfl Ty.sz_5 (by repeat (first | exact Pick.here | apply Pick.there)) (by rw [fnc_length]; omega) (pfx_set (k := k) (by omega) (by omega) rfl) ?_
                  refine gl_nil ?_
                  refine gx_block_normal ?_
                  refine gx_then ?_
                  refine gc_region ?_
                  refine gp zad ?_
                  refine gp zmv ?_
                  refine gl_nil ?_
                  refine zrd (k + 1) ?_ ?_
                  · show 32 - (k + 1) < 32 - k
                    omega
                  · rintro w' hw
                    obtain ⟨F', hF', hst'⟩ := hw.sel (M := [blk b6 207 _, blk b3 254 (v8c v ++ []), blk b2 207 (List.replicate 32 (.int .u8 0)), blk g 257 (v8c s.v ++ [.slice a0 s.rest.length c0, .int .u64 (s.len : Int)]), rowR 5 1 a0 s.rest.length c0 (s.rest.map B8)]) (by repeat (first | exact Sel.nil | (apply Sel.cons; · (repeat (first | exact Pick.here | apply Pick.there)))))
                    exact ⟨F', stars_pure_mk (show k + 1 ≤ 32 by omega) hF', hst'⟩
                · have hk3 : k = 32 := by (try simp only at hc52); omega
                  subst hk3
                  refine gc_exit ?_
                  refine gx_then_exit ?_
                  refine gx_round_exit ?_
                  refine gx_block_hit ?_
                  refine gx_then ?_
                  refine gsr ?_
                  refine gp (r_ldN rfl Ty.row_207 Ty.sz_207 (by repeat (first | exact Pick.here | apply Pick.there)) (seg_all fnc_length) fnc_length) ?_
                  refine gl_storeN (wt0 rfl) rfl rfl Ty.sz_207 fnc_length (by repeat (first | exact Pick.here | apply Pick.there)) (by simp) (fnc_one fun _ => rfl) (updL_all (by simp [fnc_length])) ?_
                  refine gnt ?_
                  refine gc_ret ?_
                  refine gx_retc rfl rfl (ld_aggS Ty.row_207 Ty.sz_207 (by repeat (first | exact Pick.here | apply Pick.there)) (seg_all fnc_length) fnc_length) ?_
                  rw [pfx_full]
                  exact fun w' hw => ⟨(), rfl, St.hash (hw.sel (M := [blk g 257 (v8c s.v ++ [.slice a0 s.rest.length c0, .int .u64 (s.len : Int)]), rowR 5 1 a0 s.rest.length c0 (s.rest.map B8)]) (by repeat (first | exact Sel.nil | (apply Sel.cons; · (repeat (first | exact Pick.here | apply Pick.there)))))) rfl rfl rfl rfl⟩

end Go.Proofs.YtkgbbnhdioghmaaGreatDoor

/- Walks, by program (wg.py) out of a spec. -/
namespace Go.Proofs.YtkgbbnhdioghmaaGreatDoor
open Go
set_option linter.unusedVariables false
set_option linter.unusedSimpArgs false


def dOf (K : Nat → UInt32) (dom : Int) (parts : List (List UInt8)) : Dig := ⟨hOf K dom parts, hOf_length K dom parts⟩
def hStep (K : Nat → UInt32) (s : HS) (p : List UInt8) : HS := hWrite K (hWrite K s (part4 p.length)) p
def hBeg (K : Nat → UInt32) (dom : Int) : HS := hWrite K hs0 [UInt8.ofNat (dom % 256).toNat]
def pcost (l : List (List UInt8)) : Nat := (l.map fun p => p.length + 4).sum
theorem hWrite_rest (K : Nat → UInt32) (s : HS) (b : List UInt8) : (hWrite K s b).rest.length < 64 := takes_rest K s.v (s.rest ++ b)
theorem hWrite_len (K : Nat → UInt32) (s : HS) (b : List UInt8) : (hWrite K s b).len = s.len + b.length := rfl
theorem hFold (K : Nat → UInt32) : ∀ (l : List (List UInt8)) (s : HS), s.rest.length < 64 → (l.foldl (hStep K) s).rest.length < 64 ∧ (l.foldl (hStep K) s).len = s.len + pcost l
  | [], s, h => ⟨h, by simp [pcost]⟩
  | p :: l, s, h => by
    have := hFold K l (hStep K s p) (hWrite_rest _ _ _)
    refine ⟨this.1, ?_⟩
    rw [List.foldl_cons, this.2]
    simp only [hStep, hWrite_len, part4, pcost, List.map_cons, List.sum_cons, List.length_cons, List.length_nil]
    omega
theorem pcost_take {l : List (List UInt8)} {k : Nat} {p : List UInt8} (h : l[k]? = some p) : pcost (l.take k) + (p.length + 4) ≤ pcost l := by
  have e : l = l.take k ++ p :: l.drop (k + 1) := by
    have hk : k < l.length := (List.getElem?_eq_some_iff.1 h).1
    rw [← (List.getElem?_eq_some_iff.1 h).2, List.getElem_cons_drop, List.take_append_drop]
  have : pcost l = pcost (l.take k) + (p.length + 4) + pcost (l.drop (k + 1)) := by
    conv => lhs; rw [e]
    simp [pcost]; omega
  omega
theorem byte_nat {n : Nat} : Value.int .u8 (IntKind.u8.wrap (n : Int)) = B8 (UInt8.ofNat n) := by
  have h1 : ∀ m : Int, IntKind.u8.wrap m = m % 256 := fun m => by simp [IntKind.wrap, IntKind.bits, IntKind.signed]
  simp only [B8, Value.int.injEq, true_and]
  rw [h1, UInt8.toNat_ofNat']; omega
theorem hOf_cut (K : Nat → UInt32) (dom : Int) (parts : List (List UInt8)) : ((fnc B8 32 (outByte (takes K (parts.foldl (hStep K) (hBeg K dom)).v (padded (parts.foldl (hStep K) (hBeg K dom)))).1)).drop 0).take 16 = dc (dOf K dom parts) := by
  rw [List.drop_zero, fnc_sum, ← List.map_take]; rfl
theorem foldl_step {α β : Type} (f : β → α → β) (l : List α) (s : β) {k : Nat} {x : α} (h : l[k]? = some x) : (l.take (k + 1)).foldl f s = f ((l.take k).foldl f s) x := by
  rw [List.take_add_one, h]; simp

attribute [local irreducible] Gl Gc Gx Gs Runs Wt

set_option maxHeartbeats 400000 in
theorem of_ok {w : World} {F : Nat → Prop} {dom : Int} {parts : List (List UInt8)} {a : Option Addr} {n c : Nat} (h : stars [] w F) (hK : KR w (fun k => ¬ F k)) (hx : RdList (RdBytes w fun k => ¬ F k) w (fun k => ¬ F k) 1 a n parts) (hb : 1 + pcost parts ≤ 1099511627776) :
    Calls Tryz.prog 86 #[.int .i64 dom, .slice a n c] w (Post w F (fun _ : Unit => .agg (dc (dOf Kc dom parts)).toArray) (fun _ => [])) := by
  have hnl := hx.len (by decide)
  have hmx := hx.max
  simp only [maxLen] at hmx
  refine g_enter (env := [(0, .int .i64 dom), (1, .slice a n c)]) Tryz.func86 rfl h Tryz.ntmps86 rfl rfl ?_
  refine gsr ?_
  refine zal fun b4 => ?_
  refine gnt ?_
  refine gsr ?_
  refine zc (fun g => ?_) (c := fun w1 F1 F2 h1 h2 hd hst => hnew_ok h1)
  refine gp zas ?_
  refine gnt ?_
  refine gsr ?_
  refine gp zmv ?_
  refine gp zmv ?_
  refine gp (r_val (r_conv_int rfl Ty.un_3 Ty.un_5) byte_int) ?_
  refine ze1 fun b14 => ?_
  refine zc (fun _ => ?_) (c := fun w1 F1 F2 h1 h2 hd hst => hwrite_ok (b := [UInt8.ofNat (dom % 256).toNat]) h1 (hK.mv hst.still) (rd_row (xs := [B8 (UInt8.ofNat (dom % 256).toNat)]) h2 hd (by repeat (first | exact Pick.here | apply Pick.there))) (by decide) (by simp [hs0]))
  refine gnt ?_
  refine gc_seq ?_
  refine gsr ?_
  refine gp zmv ?_
  refine gp zln ?_
  refine gp zmv ?_
  refine gnt ?_
  refine gc_block ?_
  refine gc_loop (α := Nat) (fun k => [pureR (k ≤ n), HashR g ((parts.take k).foldl (hStep Kc) (hBeg Kc dom)), blk b4 23 zD]) (fun k => [(18, .int .i64 (k : Int))]) [7, 8, 19, 20, 21, 22, 23, 24, 25, 26, 27, 28, 29, 30, 31, 32, 33, 34, 35, 36, 37, 38, 39, 40, 41] (fun k => n - k) 0 ?_ ?_ ?_
  · refine env_start (by kernel_rfl)
  · rintro w' hw
    obtain ⟨F', hF', hst'⟩ := hw.sel (M := [HashR g (hBeg Kc dom), blk b4 23 zD]) (by repeat (first | exact Sel.nil | (apply Sel.cons; · (repeat (first | exact Pick.here | apply Pick.there)))))
    exact ⟨F', stars_pure_mk (Nat.zero_le _) hF', hst'⟩
  · intro k u
    refine gc_pureR (fun hk => ?_)
    replace hk : k ≤ n := hk
    refine gsr ?_
    refine gp zlt ?_
    refine gnt ?_
    refine gc_seq ?_
    refine gif rfl (fun hc19 => ?_) (fun hc19 => ?_)
    · have hk' : k < n := by (try simp only at hc19); omega
      obtain ⟨ga, o, cs, y, ha, hA, hg, hra, hcl, hly, hrd⟩ := hx.elem (by decide) hk'
      subst ha
      obtain ⟨a', n', c', rfl, hn', hrb⟩ := hrd
      have hny : n' = y.length := by have := hrb.1; simp at this; omega
      have hpc := pcost_take hly
      have hf := hFold Kc (parts.take k) (hBeg Kc dom) (hWrite_rest _ _ _)
      have hbl : (hBeg Kc dom).len = 1 := rfl
      refine gc_skip ?_
      refine gx_then ?_
      refine gc_seq ?_
      refine gc_block ?_
      refine gsr ?_
      refine gp (r_indexAddr_slice rfl rfl Ty.sl_27 Ty.sz_36 (by omega) (by omega)) ?_
      refine gp (r_ld1o rfl Ty.row_36 (hra 0 _ rfl) hA) ?_
      refine gp zas ?_
      refine gnt ?_
      refine gsr ?_
      refine gp zmv ?_
      refine gp zln ?_
      refine gp zas ?_
      refine gnt ?_
      refine gsr ?_
      refine gp zmv ?_
      refine gp zmv ?_
      refine gp zhr ?_
      refine gp (r_val (r_conv_int rfl Ty.un_3 Ty.un_5) (byte_shrI (j := 24) rfl (by decide))) ?_
      refine gp zmv ?_
      refine gp zhr ?_
      refine gp (r_val (r_conv_int rfl Ty.un_3 Ty.un_5) (byte_shrI (j := 16) rfl (by decide))) ?_
      refine gp zmv ?_
      refine gp zhr ?_
      refine gp (r_val (r_conv_int rfl Ty.un_3 Ty.un_5) (byte_shrI (j := 8) rfl (by decide))) ?_
      refine gp zmv ?_
      refine gp (r_val (r_conv_int rfl Ty.un_3 Ty.un_5) byte_nat) ?_
      refine gl_bsls (vs := (part4 n').map B8) (wt0 rfl) Ty.sl_36 Ty.sz_5 Ty.zc_5 rfl rfl (one_B8 _) rfl rfl rfl ?_
      intro b36
      refine zc (fun _ => ?_) (c := fun w1 F1 F2 h1 h2 hd hst => hwrite_ok (b := part4 n') h1 (hK.mv hst.still) (rd_row (xs := (part4 n').map B8) h2 hd (by repeat (first | exact Pick.here | apply Pick.there))) hf.1 (by rw [hf.2]; simp only [part4, List.length_cons, List.length_nil]; omega))
      refine gnt ?_
      refine gc_region ?_
      refine gp zmv ?_
      refine gp zmv ?_
      refine zc (fun _ => ?_) (c := fun w1 F1 F2 h1 h2 hd hst => hwrite_ok (b := y) h1 (hK.mv hst.still) (hrb.mv hst.still) (hWrite_rest _ _ _) (by rw [hWrite_len, hf.2]; simp only [part4, List.length_cons, List.length_nil]; omega))
      refine gl_nil ?_
      refine gx_block_normal ?_
      refine gx_then ?_
      refine gc_region ?_
      refine gp zad ?_
      refine gp zmv ?_
      refine gl_nil ?_
      refine zrd (k + 1) ?_ ?_
      · show n - (k + 1) < n - k
        omega
      · rintro w' hw
        obtain ⟨F', hF', hst'⟩ := hw.sel (M := [HashR g _, blk b4 23 zD]) (by repeat (first | exact Sel.nil | (apply Sel.cons; · (repeat (first | exact Pick.here | apply Pick.there)))))
        refine ⟨F', stars_pure_mk (show k + 1 ≤ n by omega) ?_, hst'⟩
        rw [foldl_step _ _ _ hly]
        rw [hny] at hF'
        exact hF'
    · have hk' : k = parts.length := by (try simp only at hc19); omega
      subst hk'
      have hf := hFold Kc (parts.take parts.length) (hBeg Kc dom) (hWrite_rest _ _ _)
      rw [List.take_length] at hf
      have hbl : (hBeg Kc dom).len = 1 := rfl
      refine gc_exit ?_
      refine gx_then_exit ?_
      refine gx_round_exit ?_
      refine gx_block_hit ?_
      refine gx_then ?_
      refine gsr ?_
      refine gp zmv ?_
      refine zc (fun _ => ?_) (c := fun w1 F1 F2 h1 h2 hd hst => hsum_ok h1 (hK.mv hst.still) (by rw [List.take_length]; exact hf.1) (by rw [List.take_length, hf.2]; omega))
      rw [List.take_length]
      refine zal fun b9 => ?_
      refine gl_storeN (wt0 rfl) rfl rfl Ty.sz_207 fnc_length (by repeat (first | exact Pick.here | apply Pick.there)) (by simp) (fnc_one fun _ => rfl) (updL_all (by simp [fnc_length])) ?_
      refine gnt ?_
      refine gsr ?_
      refine gp (r_slice_arr (l := 0) (h := 16) rfl Ty.arr_207 Ty.sz_5 rfl ⟨_, rfl⟩ (by decide) (by decide) (by decide)) ?_
      refine gp (r_toArr rfl Ty.arr_23 (by decide)) ?_
      refine gp (r_ldN rfl Ty.row_23 Ty.sz_23 (by repeat (first | exact Pick.here | apply Pick.there)) (hOf_cut Kc dom parts) (dc_length _)) ?_
      refine gl_storeN (wt0 rfl) rfl rfl Ty.sz_23 (dc_length _) (by repeat (first | exact Pick.here | apply Pick.there)) (by decide) (dc_one _) (updL_all (by rw [dc_length]; rfl)) ?_
      refine gnt ?_
      refine gc_ret ?_
      refine gx_retc rfl rfl (ld_aggS Ty.row_23 Ty.sz_23 (by repeat (first | exact Pick.here | apply Pick.there)) (by (simp only [List.drop_succ_cons, List.drop_zero, List.take_succ_cons, List.take_zero, List.cons_append, List.nil_append, List.append_assoc, drop_dc, drop_dc', take_dc, take_dc', drop_L, drop_L', take_L, take_L', len_L, Nat.reduceLeDiff, Nat.reduceSub, Nat.reduceAdd, Nat.le_refl, List.length_cons, List.length_append, List.length_nil, dc_length, List.drop_nil, List.take_nil, List.append_nil, List.length_map, List.length_replicate]; first | done | rfl)) (by first | rfl | (simp only [List.drop_succ_cons, List.drop_zero, List.take_succ_cons, List.take_zero, List.cons_append, List.nil_append, List.append_assoc, drop_dc, drop_dc', take_dc, take_dc', drop_L, drop_L', take_L, take_L', len_L, Nat.reduceLeDiff, Nat.reduceSub, Nat.reduceAdd, Nat.le_refl, List.length_cons, List.length_append, List.length_nil, dc_length, List.drop_nil, List.take_nil, List.append_nil, List.length_map, List.length_replicate]; first | done | omega))) ?_
      exact ze ()

end Go.Proofs.YtkgbbnhdioghmaaGreatDoor

/- Plain words: SHA-256 piece by piece is SHA-256 of the whole. No program in sight. -/
namespace Go.Proofs.YtkgbbnhdioghmaaGreatDoor
set_option linter.unusedVariables false

def refPad (b : List UInt8) : List UInt8 := b ++ 128 :: (List.replicate (padN b.length) 0 ++ lenBytes b.length)
def refSum (K : Nat → UInt32) (b : List UInt8) : List UInt8 := (List.range 32).map (outByte (takes K v0 (refPad b)).1)
def framed (dom : Int) (parts : List (List UInt8)) : List UInt8 := UInt8.ofNat (dom % 256).toNat :: parts.flatMap fun p => part4 p.length ++ p

theorem takes_append (K : Nat → UInt32) (v : V8) (a b : List UInt8) : takes K v (a ++ b) = takes K (takes K v a).1 ((takes K v a).2 ++ b) := by
  fun_induction takes K v a with
  | case1 v a h ih =>
    rw [takes.eq_1 K v (a ++ b), dif_pos (by simp; omega), List.take_append_of_le_length h, List.drop_append_of_le_length h]
    exact ih
  | case2 v a h => rfl
theorem takes_mod (K : Nat → UInt32) (v : V8) (a : List UInt8) : (takes K v a).2.length % 64 = a.length % 64 := by
  fun_induction takes K v a with
  | case1 v a h ih => rw [ih, List.length_drop]; omega
  | case2 v a h => rfl
/-- What a hash is that was handed all these bytes. -/
def HAll (K : Nat → UInt32) (s : HS) (b : List UInt8) : Prop := takes K v0 b = (s.v, s.rest) ∧ s.len = b.length
theorem HAll.nil (K : Nat → UInt32) : HAll K hs0 [] := ⟨by rw [takes.eq_1, dif_neg (by simp)]; rfl, rfl⟩
theorem HAll.write {K : Nat → UInt32} {s : HS} {a : List UInt8} (h : HAll K s a) (b : List UInt8) : HAll K (hWrite K s b) (a ++ b) := by
  refine ⟨?_, ?_⟩
  · rw [takes_append, h.1]; rfl
  · simp [hWrite, h.2]
theorem HAll.sum {K : Nat → UInt32} {s : HS} {a : List UInt8} (h : HAll K s a) : hSum K s = refSum K a := by
  have hm : padN s.rest.length = padN a.length := by
    have e : s.rest.length % 64 = a.length % 64 := by
      have := takes_mod K v0 a
      rw [h.1] at this
      exact this
    unfold padN; rw [e]
  have e : takes K s.v (padded s) = takes K v0 (refPad a) := by
    rw [refPad, takes_append, h.1, padded, hm, h.2]
  rw [hSum, refSum, e]
theorem hOf_ref (K : Nat → UInt32) (dom : Int) (parts : List (List UInt8)) : hOf K dom parts = (refSum K (framed dom parts)).take 16 := by
  have h : ∀ (l : List (List UInt8)) (s : HS) (a : List UInt8), HAll K s a → HAll K (l.foldl (fun s p => hWrite K (hWrite K s (part4 p.length)) p) s) (a ++ l.flatMap fun p => part4 p.length ++ p) := by
    intro l
    induction l with
    | nil => intro s a h; simpa using h
    | cons p l ih =>
      intro s a h
      have := ih _ _ ((h.write (part4 p.length)).write p)
      simpa using this
  have := (h parts _ _ ((HAll.nil K).write [UInt8.ofNat (dom % 256).toNat])).sum
  rw [hOf, this]
  simp [framed]
end Go.Proofs.YtkgbbnhdioghmaaGreatDoor

/- Walks, by program (wg.py) out of a spec. -/
namespace Go.Proofs.YtkgbbnhdioghmaaGreatDoor
open Go
set_option linter.unusedVariables false
set_option linter.unusedSimpArgs false


instance {n : Nat} {x : Value} : Len (List.replicate n x) n := ⟨List.length_replicate⟩
theorem byte_sh56 {n : Int} {k : Nat} {i : Int} (hi : i = 56 - 8 * (k : Int)) (hk : k < 8) : Value.int .u8 (IntKind.u8.wrap (n.fdiv (2 ^ (min i.toNat IntKind.i64.bits)))) = B8 (byteAt n (7 - k)) := by
  have e : i = 8 * (((8 : Nat) : Int) - 1 - k) := by omega
  have h := byte_shr (n := n) (wd := 8) (k := k) rfl hk (by decide)
  rw [show 8 - 1 - k = 7 - k by omega] at h
  rw [e]; exact h
theorem emod_ediv {n : Int} {a c d : Int} (ha : 0 < a) (hc : c = 256 * d) : n % (a * c) / a % 256 = n / a % 256 := by
  have h : n = n % (a * c) + a * (c * (n / (a * c))) := by
    have := Int.emod_add_mul_ediv n (a * c)
    rw [Int.mul_assoc] at this
    exact this.symm
  conv => rhs; rw [h]
  rw [Int.add_mul_ediv_left _ _ (by omega), hc, Int.mul_assoc 256, Int.add_mul_emod_self_left]
theorem byte_u64 {n : Int} {k : Nat} {i : Int} (hi : i = 8 * (7 - (k : Int))) (hk : k < 8) : Value.int .u8 (IntKind.u8.wrap ((IntKind.u64.wrap n).fdiv (2 ^ (min i.toNat IntKind.u64.bits)))) = B8 (byteAt n (7 - k)) := by
  subst hi
  have e : min (8 * (7 - (k : Int))).toNat IntKind.u64.bits = 8 * (7 - k) := by simp only [IntKind.bits]; omega
  have h1 : ∀ m : Int, IntKind.u8.wrap m = m % 256 := fun m => by simp [IntKind.wrap, IntKind.bits, IntKind.signed]
  have h2 : IntKind.u64.wrap n = n % (2 ^ (8 * (7 - k)) * 2 ^ (8 * (k + 1))) := by
    rw [← Int.pow_add, show 8 * (7 - k) + 8 * (k + 1) = 64 by omega]
    simp [IntKind.wrap, IntKind.bits, IntKind.signed]
  rw [e, h2, h1, Int.fdiv_eq_ediv_of_nonneg _ (by exact Int.le_of_lt (Int.pow_pos (by omega)))]
  rw [emod_ediv (d := 2 ^ (8 * k)) (Int.pow_pos (by omega)) (by rw [show 8 * (k + 1) = 8 + 8 * k by omega, Int.pow_add]; rfl)]
  simp only [B8, byteAt, Value.int.injEq, true_and]
  generalize n / 2 ^ (8 * (7 - k)) = m
  rw [UInt8.toNat_ofNat']
  omega
theorem range_succ_map {α : Type} (f : Nat → α) (k : Nat) : (List.range (k + 1)).map f = (List.range k).map f ++ [f k] := by simp [List.range_succ]
theorem map_B8_snoc (l : List UInt8) (x : UInt8) : (l ++ [x]).map B8 = l.map B8 ++ [B8 x] := by simp
theorem take_snoc {l : List UInt8} {k : Nat} (h : k < l.length) : l.take (k + 1) = l.take k ++ [l.getD k 0] := by
  rw [List.take_add_one]; simp [List.getD, List.getElem?_eq_getElem h]
theorem rep_one {n : Nat} {v : Value} (hv : v.oneCell' = true) : ∀ u ∈ List.replicate n v, u.oneCell' = true := fun u hu => by rw [List.eq_of_mem_replicate hu]; exact hv
theorem word_eq (a b c d : UInt8) : a.toUInt32 * 16777216 + b.toUInt32 * 65536 + c.toUInt32 * 256 + d.toUInt32 = ((a.toUInt32 <<< UInt32.ofNat 24 ||| b.toUInt32 <<< UInt32.ofNat 16) ||| c.toUInt32 <<< UInt32.ofNat 8) ||| d.toUInt32 := by
  apply UInt32.toNat_inj.1
  have ha := a.toNat_lt; have hb := b.toNat_lt; have hc := c.toNat_lt; have hd := d.toNat_lt
  have e1 : (a.toUInt32 <<< UInt32.ofNat 24).toNat = a.toNat <<< 24 := by
    rw [UInt32.toNat_shiftLeft]; simp [Nat.shiftLeft_eq]; omega
  have e2 : (b.toUInt32 <<< UInt32.ofNat 16).toNat = b.toNat <<< 16 := by
    rw [UInt32.toNat_shiftLeft]; simp [Nat.shiftLeft_eq]; omega
  have e3 : (c.toUInt32 <<< UInt32.ofNat 8).toNat = c.toNat <<< 8 := by
    rw [UInt32.toNat_shiftLeft]; simp [Nat.shiftLeft_eq]; omega
  simp only [UInt32.toNat_or, e1, e2, e3, UInt32.toNat_add, UInt32.toNat_mul, UInt8.toNat_toUInt32]
  have f1 : a.toNat <<< 24 ||| b.toNat <<< 16 = (a.toNat * 256 + b.toNat) <<< 16 := by
    have : a.toNat <<< 24 = (a.toNat <<< 8) <<< 16 := by rw [← Nat.shiftLeft_add]
    rw [this, ← Nat.shiftLeft_or_distrib, ← Nat.shiftLeft_add_eq_or_of_lt (by omega : b.toNat < 2 ^ 8)]
    simp [Nat.shiftLeft_eq]
  have f2 : (a.toNat * 256 + b.toNat) <<< 16 ||| c.toNat <<< 8 = ((a.toNat * 256 + b.toNat) * 256 + c.toNat) <<< 8 := by
    have : (a.toNat * 256 + b.toNat) <<< 16 = ((a.toNat * 256 + b.toNat) <<< 8) <<< 8 := by rw [← Nat.shiftLeft_add]
    rw [this, ← Nat.shiftLeft_or_distrib, ← Nat.shiftLeft_add_eq_or_of_lt (by omega : c.toNat < 2 ^ 8)]
    simp [Nat.shiftLeft_eq]
  rw [f1, f2, ← Nat.shiftLeft_add_eq_or_of_lt (by omega : d.toNat < 2 ^ 8)]
  simp [Nat.shiftLeft_eq]
  omega
def rPadRow (b : List UInt8) (k : Nat) : List UInt8 := b ++ 128 :: List.replicate k 0
def rLenRow (b : List UInt8) (k : Nat) : List UInt8 := b ++ 128 :: (List.replicate (padN b.length) 0 ++ (List.range k).map fun i => UInt8.ofNat (b.length * 8 / 2 ^ (8 * (7 - i))))
theorem rPadRow_succ (b : List UInt8) (k : Nat) : (rPadRow b (k + 1)).map B8 = (rPadRow b k).map B8 ++ [.int .u8 0] := by
  have e : (.int .u8 0 : Value) = B8 0 := rfl
  rw [e]; simp [rPadRow, List.replicate_succ']
theorem rLenRow_zero (b : List UInt8) : rLenRow b 0 = rPadRow b (padN b.length) := by simp [rLenRow, rPadRow]
theorem rLenRow_succ (b : List UInt8) (k : Nat) : (rLenRow b (k + 1)).map B8 = (rLenRow b k).map B8 ++ [B8 (UInt8.ofNat (b.length * 8 / 2 ^ (8 * (7 - k))))] := by simp [rLenRow, List.range_succ]
theorem rLenRow_full (b : List UInt8) : rLenRow b 8 = refPad b := rfl
theorem refPad_length (b : List UInt8) : (refPad b).length = b.length + 1 + padN b.length + 8 := by simp [refPad, lenBytes]; omega
theorem pad_hit' {m k : Nat} (h : k ≤ padN m) : (m + 1 + k) % 64 = 56 ↔ k = padN m := by unfold padN at *; omega
theorem row_byte {r : List UInt8} {e j : Nat} (he : e = j) (hj : j < r.length) : (r.map B8)[e]? = some (B8 (r.getD j 0)) := by
  subst he; rw [List.getElem?_map, List.getElem?_eq_getElem hj]; simp [List.getD, List.getElem?_eq_getElem hj]
theorem rotr' (x : UInt32) (n : Nat) : x >>> UInt32.ofNat n ||| x <<< UInt32.ofNat (32 - n) = rotr x n := UInt32.or_comm _ _
theorem word_take {r : List UInt8} {k : Nat} (hk : k < 16) (hr : 64 ≤ r.length) : (r.getD (4 * k) 0).toUInt32 * 16777216 + (r.getD (4 * k + 1) 0).toUInt32 * 65536 + (r.getD (4 * k + 2) 0).toUInt32 * 256 + (r.getD (4 * k + 3) 0).toUInt32 = sch (r.take 64) k := by
  have h : ∀ j, j < 64 → (r.take 64).getD j 0 = r.getD j 0 := fun j hj => by simp [List.getD, List.getElem?_take, hj]
  rw [sch_lo hk, wordAt, word_eq, h _ (by omega), h _ (by omega), h _ (by omega), h _ (by omega)]

attribute [local irreducible] Gl Gc Gx Gs Runs Wt



set_option maxHeartbeats 400000 in
theorem text_ok {w : World} {F : Nat → Prop} {d : Dig} (h : stars [] w F) :
    Calls Tryz.prog 107 #[.agg (dc d).toArray] w (Post w F (fun _ : Unit => .string (str d.l)) (fun _ => [])) := by
  refine g_enter (env := [(0, .agg (dc d).toArray)]) Tryz.func107 rfl h Tryz.ntmps107 rfl rfl ?_
  refine gsr ?_
  refine zbN fun b1 => ?_
  refine gp zas ?_
  refine gnt ?_
  refine gsr ?_
  refine ze0 fun b6 => ?_
  refine gp zas ?_
  refine gnt ?_
  refine gc_seq ?_
  refine gsr ?_
  refine gp zL ?_
  refine gp zmv ?_
  refine gnt ?_
  refine gc_block ?_
  refine gc_loop (α := Nat × Option Addr × Nat) (fun x => [pureR (x.1 ≤ 16), rowR 5 1 x.2.1 x.1 x.2.2 ((d.l.take x.1).map B8)]) (fun x => [(3, .slice x.2.1 x.1 x.2.2), (8, .int .i64 (x.1 : Int))]) [5, 9, 10, 11, 12, 13, 14, 15] (fun x => 16 - x.1) (0, some ⟨b6, 0, none⟩, 0) ?_ ?_ ?_
  · refine env_start (by kernel_rfl)
  · exact zlp (Nat.zero_le _)
  · intro x u
    obtain ⟨k, a, c⟩ := x
    refine gc_pureR (fun hk => ?_)
    replace hk : k ≤ 16 := hk
    refine gsr ?_
    refine gp zlt ?_
    refine gnt ?_
    refine gc_seq ?_
    refine gif rfl (fun hc9 => ?_) (fun hc9 => ?_)
    · try simp only at hc9
      have hk' : k < 16 := by omega
      refine gc_skip ?_
      refine gx_then ?_
      refine gc_seq ?_
      refine gc_block ?_
      refine gsr ?_
      refine gp (r_index1 (v := B8 (d.l.getD k 0)) rfl rfl Ty.arr_23 Ty.sz_5 Ty.row_5 (by omega) (by omega) (row_byte (by omega) (by rw [d.h]; exact hk'))) ?_
      refine gp zas ?_
      refine gnt ?_
      refine gc_region ?_
      refine gp zmv ?_
      refine gp zmv ?_
      refine ze1 fun b13 => ?_
      refine zapo fun a14 c14 => ?_
      refine gp zas ?_
      refine gl_nil ?_
      refine gx_block_normal ?_
      refine gx_then ?_
      refine gc_region ?_
      refine gp zad ?_
      refine gp zmv ?_
      refine gl_nil ?_
      refine zrd ((k + 1, a14, c14)) ?_ ?_
      · show 16 - (k + 1) < 16 - k
        omega
      · exact zlq (show k + 1 ≤ 16 by omega) (by rw [take_snoc (by rw [d.h]; exact hk'), map_B8_snoc])
    · try simp only at hc9
      have hk' : k = 16 := by omega
      subst hk'
      have e : d.l.take 16 = d.l := List.take_of_length_le (by rw [d.h]; decide)
      rw [e]
      refine gc_exit ?_
      refine gx_then_exit ?_
      refine gx_round_exit ?_
      refine gx_block_hit ?_
      refine gx_then ?_
      refine gsr ?_
      refine gp zmv ?_
      refine gp (zso (b := d.l)) ?_
      refine gp zas ?_
      refine gnt ?_
      refine gc_ret ?_
      refine gx_ret1 rfl (by conv => lhs; whnf) ?_
      exact ze ()

set_option maxHeartbeats 400000 in
theorem k_ok {w : World} {F : Nat → Prop} {i : Nat} (h : stars [] w F) (hi : i < 64) :
    Calls Tryz.prog 159 #[.int .i64 (i : Int)] w (Post w F (fun _ : Unit => W32 (Kc i)) (fun _ => [])) := by
  refine g_enter (env := [(0, .int .i64 (i : Int))]) Tryz.func159 rfl h Tryz.ntmps159 rfl rfl ?_
  refine gsr ?_
  refine gp zas ?_
  refine gnt ?_
  refine gsr ?_
  refine gp (r_buildA (cs := fnc W32 64 Kc) Ty.zc_250 Ty.arr_250 Ty.sz_249 (by kernel_rfl)) ?_
  refine gp zmv ?_
  refine gp (r_index1 (v := W32 (Kc i)) rfl rfl Ty.arr_250 Ty.sz_249 Ty.row_249 (by omega) (by omega) (by rw [show (i : Int).toNat * 1 = i by omega]; exact fnc_get hi)) ?_
  refine gp zas ?_
  refine gnt ?_
  refine gc_ret ?_
  refine gx_ret1 rfl (by conv => lhs; whnf) ?_
  exact ze ()

set_option maxHeartbeats 400000 in
theorem right_ok {w : World} {F : Nat → Prop} {x : UInt32} {j : Nat} (h : stars [] w F) (h1 : 1 ≤ j) (h2 : j ≤ 31) :
    Calls Tryz.prog 160 #[W32 x, .int .u64 (j : Int)] w (Post w F (fun _ : Unit => W32 (rotr x j)) (fun _ => [])) := by
  refine g_enter (env := [(0, W32 x), (1, .int .u64 (j : Int))]) Tryz.func160 rfl h Tryz.ntmps160 rfl rfl ?_
  refine gsr ?_
  refine gp zas ?_
  refine gnt ?_
  refine gsr ?_
  refine gp zmv ?_
  refine gp zmv ?_
  refine gp (r_shrw (j := j) rfl rfl rfl (by omega)) ?_
  refine gp zmv ?_
  refine gp zmv ?_
  refine gp (r_int (r_sub rfl rfl) (show IntKind.u64.wrap (32 - (j : Int)) = ((32 - j : Nat) : Int) by rw [wrap_u64 (by omega) (by omega)]; omega)) ?_
  refine gp (r_shlw (j := 32 - j) rfl rfl rfl (by omega)) ?_
  refine gp zwo ?_
  refine gp zas ?_
  refine gnt ?_
  refine gc_ret ?_
  refine gx_ret1 rfl (by conv => lhs; whnf) ?_
  rw [rotr']
  exact ze ()

end Go.Proofs.YtkgbbnhdioghmaaGreatDoor

/- Walks, by program (wg.py) out of a spec. -/
namespace Go.Proofs.YtkgbbnhdioghmaaGreatDoor
open Go
set_option linter.unusedVariables false
set_option linter.unusedSimpArgs false

attribute [local irreducible] Gl Gc Gx Gs Runs Wt

set_option maxHeartbeats 400000 in
theorem rnum_ok {w : World} {F : Nat → Prop} {TE : Nat} {ea : Nat → Addr} {g : Nat} {σ : RSt} (h : stars [RdrR TE ea g σ] w F) {es : List Nat} [Has es 1] [Has es 2] (hE : GErr es w (fun k => ¬ F k) TE ea) {wd : Nat} (h1 : 1 ≤ wd) (h7 : wd ≤ 7) :
    Calls Tryz.prog 61 #[.pointer (some ⟨g, 0, none⟩), .int .i64 (wd : Int)] w (Post w F (fun x : Nat => .int .i64 (x : Int)) (fun x => [pureR (Ag (pNum wd) σ (x : Int) ∧ x < 256 ^ wd), RdrR TE ea g (rstep (pNum wd) σ)])) := by
  refine g_enter (env := [(0, .pointer (some ⟨g, 0, none⟩)), (1, .int .i64 (wd : Int))]) Tryz.func61 rfl h Tryz.ntmps61 rfl rfl ?_
  refine gsr ?_
  refine gp zas ?_
  refine gnt ?_
  refine gc_seq ?_
  refine gsr ?_
  refine gp zmv ?_
  refine gp (r_bool zlt (decide_eq_false (by omega))) ?_
  refine gp zmv ?_
  refine gq zmv ?_
  refine gq (r_bool zgt (decide_eq_false (by omega))) ?_
  refine gp zpk ?_
  refine gnt ?_
  refine gc_condF rfl rfl ?_
  refine gc_skip ?_
  refine gx_then ?_
  refine gc_seq ?_
  refine gc_join (α := Unit) (fun z => [RdrR TE ea g σ]) (fun z => [(45, .bool false)]) [19, 20, 21, 22, 23, 24, 25, 26, 27, 28, 29, 30, 31, 32, 33, 34, 35, 36, 37, 38, 39, 40, 41, 42, 43, 44] ?_ ?_
  · by_cases he : errOf σ = 0
    · refine gc_region ?_
      refine gp zmv ?_
      refine gp znc ?_
      refine gp zfa ?_
      refine gp zfa ?_
      refine gp r_lde ?_
      refine gp (r_bool (c := true) (r_eqnil rfl (by kernel_rfl)) (decide_eq_true he)) ?_
      refine gp zmv ?_
      refine gq zmv ?_
      refine gq (r_bool zei (decide_eq_false (by omega))) ?_
      refine gp zpk ?_
      refine gp zmv ?_
      refine gn ?_
      refine gn ?_
      refine gn ?_
      refine gn ?_
      refine gn ?_
      refine gn ?_
      refine gp zpk ?_
      refine gp zmv ?_
      refine gn ?_
      refine gn ?_
      refine gn ?_
      refine gn ?_
      refine gn ?_
      refine gn ?_
      refine gn ?_
      refine gp zpk ?_
      refine gl_nil ?_
      refine zjn (()) ?_
      · exact zsel
    · refine gc_region ?_
      refine gp zmv ?_
      refine gp znc ?_
      refine gp zfa ?_
      refine gp zfa ?_
      refine gp r_lde ?_
      refine gp (r_bool (c := false) (r_eqnil rfl (by kernel_rfl)) (decide_eq_false he)) ?_
      refine gp zmv ?_
      refine gn ?_
      refine gn ?_
      refine gp zpk ?_
      refine gp zmv ?_
      refine gn ?_
      refine gn ?_
      refine gn ?_
      refine gn ?_
      refine gn ?_
      refine gn ?_
      refine gp zpk ?_
      refine gp zmv ?_
      refine gn ?_
      refine gn ?_
      refine gn ?_
      refine gn ?_
      refine gn ?_
      refine gn ?_
      refine gn ?_
      refine gp zpk ?_
      refine gl_nil ?_
      refine zjn (()) ?_
      · exact zsel
  · intro z u
    refine gc_condF rfl rfl ?_
    refine gc_skip ?_
    refine gx_then ?_
    refine gsr ?_
    refine gp zas ?_
    refine gnt ?_
    refine gc_seq ?_
    refine gsr ?_
    refine gp zmv ?_
    refine gp zmv ?_
    refine zc ?_ (c := fun w1 F1 F2 h1 h2 hd hst => take_ok' (n := wd) h1 (hE.mv hst.still))
    rintro ⟨a53, c53, l⟩
    refine gl_pureR (fun h53 => ?_)
    obtain ⟨hag, hlc, hlw⟩ := h53
    replace hag : Ag (pTake wd) σ l := hag
    replace hlw : l.length ≤ wd := hlw
    refine gp zln ?_
    refine gp zmv ?_
    refine gnt ?_
    refine gc_block ?_
    refine gc_loop (α := Nat) (fun k => [pureR (k ≤ l.length), RdrB TE ea g (rstep (pTake wd) σ) a53 l]) (fun k => [(55, .int .i64 (k : Int)), (5, .int .i64 ((valN (l.take k) : Nat) : Int))]) [7, 56, 57, 58, 59, 60, 61, 62, 63, 64] (fun k => l.length - k) 0 ?_ ?_ ?_
    · refine env_start (by kernel_rfl)
    · exact zlp (by first | exact Nat.zero_le _ | omega)
    · intro k u
      refine gc_pureR (fun hk => ?_)
      replace hk : k ≤ l.length := hk
      refine gsr ?_
      refine gp zlt ?_
      refine gnt ?_
      refine gc_seq ?_
      refine gif rfl (fun hc56 => ?_) (fun hc56 => ?_)
      · try simp only at hc56
        have hk' : k < l.length := by omega
        refine gc_fact (p := ∃ g o, a53 = some ⟨g, o, none⟩) (fun w hw => (by obtain ⟨g, o, e, _⟩ := (hw.rdB (l := l) (a2 := a53) (by repeat (first | exact Pick.here | apply Pick.there))).2.2 (by omega); exact ⟨g, o, e⟩)) (fun ha => ?_)
        obtain ⟨g6, o6, rfl⟩ := ha
        have hv := valN_lt (l.take k)
        have hp : 256 ^ (l.take k).length ≤ 256 ^ 6 := Nat.pow_le_pow_right (by decide) (by rw [List.length_take]; omega)
        have h56 : (256 : Nat) ^ 6 = 281474976710656 := by decide
        have hbl := (l.getD k 0).toNat_lt
        refine gc_skip ?_
        refine gx_then ?_
        refine gc_seq ?_
        refine gc_block ?_
        refine gsr ?_
        refine gp zia ?_
        refine gp (r_ldb (hi := by omega) (hk := hk')) ?_
        refine gp zas ?_
        refine gnt ?_
        refine gc_region ?_
        refine gp zmv ?_
        refine gp (r_int zhl (show IntKind.i64.wrap (((valN (l.take k) : Nat) : Int) * 2 ^ (min (8 : Int).toNat IntKind.i64.bits)) = ((valN (l.take k) * 256 : Nat) : Int) by rw [show (2 : Int) ^ (min (8 : Int).toNat IntKind.i64.bits) = 256 from rfl, wrap_i64 (by omega) (by omega)]; omega)) ?_
        refine gp zmv ?_
        refine gp (r_int zci (wrap_i64 (by omega) (by omega))) ?_
        refine gp (r_int (j := ((valN (l.take (k + 1)) : Nat) : Int)) zbt ((or_byte (by omega)).trans (by rw [take_snoc hk', valN_snoc]))) ?_
        refine gp zas ?_
        refine gl_nil ?_
        refine gx_block_normal ?_
        refine gx_then ?_
        refine gc_region ?_
        refine gp zad ?_
        refine gp zmv ?_
        refine gl_nil ?_
        refine zrd (k + 1) ?_ ?_
        · show l.length - (k + 1) < l.length - k
          omega
        · exact zlp (show k + 1 ≤ l.length by omega)
      · try simp only at hc56
        have hk' : k = l.length := by omega
        subst hk'
        have hv := valN_lt l
        have hp : 256 ^ l.length ≤ 256 ^ wd := Nat.pow_le_pow_right (by decide) hlw
        refine gc_exit ?_
        refine gx_then_exit ?_
        refine gx_round_exit ?_
        refine gx_block_hit ?_
        refine gx_then ?_
        refine gsr ?_
        refine gp zmv ?_
        refine gp zas ?_
        refine gnt ?_
        refine gc_ret ?_
        refine gx_ret1 rfl (by conv => lhs; whnf) ?_
        exact fun w' hw => ⟨valN l, congrArg (fun m : List UInt8 => Ending.returned (.int .i64 (valN m : Int))) List.take_length, St.pureI ⟨ag_num hag, Nat.lt_of_lt_of_le hv hp⟩ (by rw [rstep_num hag]; exact (hw.sel (M := [RdrB TE ea g _ _ l]) (by repeat (first | exact Sel.nil | (apply Sel.cons; · (repeat (first | exact Pick.here | apply Pick.there)))))).rrw)⟩

set_option maxHeartbeats 400000 in
theorem rfixed_ok {w : World} {F : Nat → Prop} {TE : Nat} {ea : Nat → Addr} {g : Nat} {σ : RSt} (h : stars [RdrR TE ea g σ] w F) {es : List Nat} [Has es 1] [Has es 2] (hE : GErr es w (fun k => ¬ F k) TE ea) {n : Nat} (hn : n ≤ 65535) :
    Calls Tryz.prog 151 #[.pointer (some ⟨g, 0, none⟩), .int .i64 (n : Int)] w (Post w F (fun r : Option Addr × Nat × List UInt8 => .slice r.1 r.2.2.length r.2.1) (fun r => [pureR (Ag (pTake n) σ r.2.2 ∧ r.2.2.length ≤ n), rowR 5 1 r.1 r.2.2.length r.2.1 (r.2.2.map B8), RdrR TE ea g (rstep (pTake n) σ)])) := by
  refine g_enter (env := [(0, .pointer (some ⟨g, 0, none⟩)), (1, .int .i64 (n : Int))]) Tryz.func151 rfl h Tryz.ntmps151 rfl rfl ?_
  refine gsr ?_
  refine gp zas ?_
  refine gnt ?_
  refine gc_seq ?_
  refine gsr ?_
  refine gp zmv ?_
  refine gp (r_bool zlt (decide_eq_false (by omega))) ?_
  refine gnt ?_
  refine gc_condF rfl rfl ?_
  refine gc_skip ?_
  refine gx_then ?_
  refine gsr ?_
  refine gp zmv ?_
  refine gp zmv ?_
  refine zc ?_ (c := fun w1 F1 F2 h1 h2 hd hst => take_ok' (n := n) h1 (hE.mv hst.still))
  rintro ⟨a14, c14, l⟩
  refine gl_pureR (fun h14 => ?_)
  obtain ⟨hag, hlc, hlw⟩ := h14
  replace hlw : l.length ≤ n := hlw
  refine zc ?_ (c := fun w1 F1 F2 h1 h2 hd hst => cloneBytes_ok (xs := l.map B8) h1 (rdB_row h2 hd (by repeat (first | exact Pick.here | apply Pick.there))) (one_B8 _) (by omega))
  rintro ⟨a15, c15⟩
  refine gp zas ?_
  refine gnt ?_
  refine gc_ret ?_
  refine gx_ret1 rfl (by conv => lhs; whnf) ?_
  exact fun w' hw => ⟨(a15, c15, l), rfl, St.pureI ⟨hag, hlw⟩ ((hw.sel (M := [RdrB TE ea g _ _ l, rowR 5 1 a15 _ c15 _]) (by repeat (first | exact Sel.nil | (apply Sel.cons; · (repeat (first | exact Pick.here | apply Pick.there)))))).rrw.sel (by repeat (first | exact Sel.nil | (apply Sel.cons; · (repeat (first | exact Pick.here | apply Pick.there))))))⟩

set_option maxHeartbeats 400000 in
theorem rbytes_ok {w : World} {F : Nat → Prop} {TE : Nat} {ea : Nat → Addr} {g : Nat} {σ : RSt} (h : stars [RdrR TE ea g σ] w F) {es : List Nat} [Has es 1] [Has es 2] (hE : GErr es w (fun k => ¬ F k) TE ea) {most : Nat} (hm : most ≤ 65535) :
    Calls Tryz.prog 140 #[.pointer (some ⟨g, 0, none⟩), .int .i64 (most : Int)] w (Post w F (fun r : Option Addr × Nat × List UInt8 => .slice r.1 r.2.2.length r.2.1) (fun r => [pureR (Ag (pBytes most) σ r.2.2 ∧ r.2.2.length ≤ 65535), rowR 5 1 r.1 r.2.2.length r.2.1 (r.2.2.map B8), RdrR TE ea g (rstep (pBytes most) σ)])) := by
  refine g_enter (env := [(0, .pointer (some ⟨g, 0, none⟩)), (1, .int .i64 (most : Int))]) Tryz.func140 rfl h Tryz.ntmps140 rfl rfl ?_
  refine gsr ?_
  refine gp zas ?_
  refine gnt ?_
  refine gsr ?_
  refine gp zmv ?_
  refine zc (fun x => ?_) (c := fun w1 F1 F2 h1 h2 hd hst => rnum_ok (wd := 2) h1 (hE.mv hst.still) (by decide) (by decide))
  refine gl_pureR (fun hx => ?_)
  obtain ⟨hx, hxb⟩ := hx
  have hx256 : x < 65536 := by simpa using hxb
  refine gp zas ?_
  refine gnt ?_
  refine gc_join (α := RSt) (fun σ2 => [pureR ((if errOf (rstep (pNum 2) σ) = 0 ∧ most < x then failE 1 (rstep (pNum 2) σ) else rstep (pNum 2) σ) = σ2), RdrR TE ea g σ2]) (fun σ2 => []) [8, 9, 10, 11, 12, 13, 14, 15, 16, 17, 18, 19, 20, 21, 22, 23] ?_ ?_
  · refine gc_join (α := Bool) (fun z => [pureR (z = (decide (errOf (rstep (pNum 2) σ) = 0) && decide (most < x))), RdrR TE ea g (rstep (pNum 2) σ)]) (fun z => [(18, .bool z)]) [8, 9, 10, 11, 12, 13, 14, 15, 16, 17] ?_ ?_
    · by_cases he : errOf (rstep (pNum 2) σ) = 0
      · refine gc_region ?_
        refine gp zmv ?_
        refine gp znc ?_
        refine gp zfa ?_
        refine gp zfa ?_
        refine gp r_lde ?_
        refine gp (r_bool (c := true) (r_eqnil rfl (by kernel_rfl)) (decide_eq_true he)) ?_
        refine gp zmv ?_
        refine gq zmv ?_
        refine gq zmv ?_
        refine gq (r_bool (b := decide ((most : Int) < (x : Int))) zgt rfl) ?_
        refine gp zpk ?_
        refine gl_nil ?_
        refine zjn (decide ((most : Int) < (x : Int))) ?_
        · exact zlp (by rw [decide_eq_true he, Bool.true_and]; exact decide_eq_decide.2 (by omega))
      · refine gc_region ?_
        refine gp zmv ?_
        refine gp znc ?_
        refine gp zfa ?_
        refine gp zfa ?_
        refine gp r_lde ?_
        refine gp (r_bool (c := false) (r_eqnil rfl (by kernel_rfl)) (decide_eq_false he)) ?_
        refine gp zmv ?_
        refine gn ?_
        refine gn ?_
        refine gn ?_
        refine gp zpk ?_
        refine gl_nil ?_
        refine zjn (false) ?_
        · exact zlp (by rw [decide_eq_false he]; rfl)
    · intro z u
      refine gc_pureR (fun hz => ?_)
      subst hz
      refine gif rfl (fun hc18 => ?_) (fun hc18 => ?_)
      · try simp only at hc18
        have hb : errOf (rstep (pNum 2) σ) = 0 ∧ most < x := by omega
        refine gc_regionT 4 (by kernel_rfl) (by kernel_rfl) ?_
        refine sp zmv ?_
        refine sp znc ?_
        refine sp zfa ?_
        refine sp (r_ld1o rfl Ty.row_38 (hE.c 1 Has.h) (hE.n 1 Has.h)) ?_
        refine gs_nil ?_
        refine zc (fun _ => ?_) (c := fun w1 F1 F2 h1 h2 hd hst => failR_ok (by decide) h1)
        refine gl_nil ?_
        refine zjn (failE 1 (rstep (pNum 2) σ)) ?_
        · exact zlp (if_pos hb)
      · try simp only at hc18
        have hb : ¬ (errOf (rstep (pNum 2) σ) = 0 ∧ most < x) := by omega
        refine gc_skip ?_
        refine zjn ((rstep (pNum 2) σ)) ?_
        · exact zlp (if_neg hb)
  · intro σ2 u
    refine gc_pureR (fun hc2 => ?_)
    refine gsr ?_
    refine gp zmv ?_
    refine gp zmv ?_
    refine zc ?_ (c := fun w1 F1 F2 h1 h2 hd hst => rfixed_ok (n := x) h1 (hE.mv hst.still) (by omega))
    rintro ⟨a26, c26, l⟩
    refine gl_pureR (fun h26 => ?_)
    obtain ⟨hag, hlw⟩ := h26
    replace hlw : l.length ≤ x := hlw
    have hfin := bytes_fin hx hc2 hag
    refine gp zas ?_
    refine gnt ?_
    refine gc_ret ?_
    refine gx_ret1 rfl (by conv => lhs; whnf) ?_
    rw [hfin.1]
    exact fun w' hw => ⟨(a26, c26, l), rfl, St.pureI ⟨hfin.2, by show l.length ≤ 65535; omega⟩ (hw.sel (by repeat (first | exact Sel.nil | (apply Sel.cons; · (repeat (first | exact Pick.here | apply Pick.there))))))⟩

end Go.Proofs.YtkgbbnhdioghmaaGreatDoor

/- Walks, by program (wg.py) out of a spec. -/
namespace Go.Proofs.YtkgbbnhdioghmaaGreatDoor
open Go
set_option linter.unusedVariables false
set_option linter.unusedSimpArgs false


def padDig (l : List UInt8) : Dig := digOf (l ++ List.replicate (16 - l.length) 0)
theorem padDig_cells {l : List UInt8} (h : l.length ≤ 16) : updL zD 0 (l.map B8) = dc (padDig l) := by
  have e : (l ++ List.replicate (16 - l.length) 0).length = 16 := by simp; omega
  rw [padDig, digOf, dif_pos e]
  simp only [dc, updL, List.take_zero, List.nil_append, Nat.zero_add, List.length_map, List.map_append, List.map_replicate]
  rw [zD, List.drop_replicate]
  rfl
theorem ag_dig {σ : RSt} {l : List UInt8} (h : Ag (pTake 16) σ l) : Ag pDig σ (padDig l) := by
  rintro b y r rfl hb
  obtain ⟨l', r1, h1, h2⟩ := pBind_ok hb
  obtain rfl := h b l' r1 rfl h1
  have hl := (pTake_ok h1).2
  obtain ⟨rfl, rfl⟩ := pPure_ok h2
  rw [padDig, hl]; simp
theorem rstep_dig {σ : RSt} {l : List UInt8} (h : Ag (pTake 16) σ l) : rstep pDig σ = rstep (pTake 16) σ := by rw [pDig, rstep_bind h, rstep_pure]
section
variable {w : World} {F : Nat → Prop}
theorem vl_pure {α : Type} {rd : World → (Nat → Prop) → List Value → α → Prop} [RdK rd] {L : List Res} {cs : List Value} {x : α} (h : rd w (fun _ => False) cs x) (hs : stars L w F) : stars (VlR rd cs x :: L) w F :=
  ⟨fun _ => False, F, ⟨h, fun _ h => h.elim⟩, hs, fun k => by simp, fun _ h => h.elim⟩
theorem St.vl {α : Type} {rd : World → (Nat → Prop) → List Value → α → Prop} [RdK rd] {w0 : World} {F0 : Nat → Prop} {L : List Res} {cs : List Value} {x : α} (hs : St w0 F0 L w) (h : rd w (fun _ => False) cs x) : St w0 F0 (VlR rd cs x :: L) w := hs.mapL fun F hF => vl_pure h hF
theorem vl_sig {leaf : Int} {a1 a2 : Option Addr} {n1 c1 n2 c2 : Nat} {l1 l2 : List Dig} (k1 : n1 ≤ c1) (k2 : n2 ≤ c2) (h : stars [LsR (fun _ _ => RdDig) 16 a1 n1 l1, LsR (fun _ _ => RdDig) 16 a2 n2 l2] w F) : stars [VlR RdSig [.int .i64 leaf, .slice a1 n1 c1, .slice a2 n2 c2] ⟨leaf, l1, l2⟩] w F := by
  obtain ⟨F1, F2, h1, h2, hF⟩ := stars_two h
  exact rdR_mk ⟨a1, n1, c1, a2, n2, c2, rfl, k1, k2, RdList.mv h1.1 (still_sub fun k hk => (hF k).2 (.inl hk)) fun _ _ h => h, RdList.mv h2.1 (still_sub fun k hk => (hF k).2 (.inr hk)) fun _ _ h => h⟩ h
theorem vl_signed {who : Int} {ss : List Value} {s : Sig} (h : stars [VlR RdSig ss s] w F) : stars [VlR RdSigned (.int .i64 who :: ss) ⟨who, s⟩] w F := rdR_mk ⟨ss, rfl, (stars_one' h).1⟩ h
theorem vl_late {who high : Int} {ss : List Value} {s : Sig} (h : stars [VlR RdSig ss s] w F) : stars [VlR RdLate (.int .i64 who :: .int .i64 high :: ss) ⟨who, high, s⟩] w F := rdR_mk ⟨ss, rfl, (stars_one' h).1⟩ h
theorem vl_qc {e r : Int} {d : Dig} {a : Option Addr} {n c : Nat} {l : List Signed} (k : n ≤ c) (h : stars [LsR RdSigned 4 a n l] w F) : stars [VlR RdQC (.int .i64 e :: .int .i64 r :: (dc d ++ [.slice a n c])) ⟨e, r, d, l⟩] w F := rdR_mk ⟨a, n, c, rfl, k, (stars_one' h).1⟩ h
theorem vl_tc {e r : Int} {a : Option Addr} {n c : Nat} {l : List Late} (k : n ≤ c) (h : stars [LsR RdLate 5 a n l] w F) : stars [VlR RdTC [.int .i64 e, .int .i64 r, .slice a n c] ⟨e, r, l⟩] w F := rdR_mk ⟨a, n, c, rfl, k, (stars_one' h).1⟩ h
theorem vl_bytes {e n c : Nat} {a : Option Addr} {b : List UInt8} (h : stars [rowR e 1 a n c (b.map B8)] w F) : stars [VlR RdBytes [.slice a n c] b] w F := by
  have hr := stars_one' h
  exact rdR_mk ⟨a, n, c, rfl, hr.2.1, rowR.rd hr⟩ h
theorem vl_block {e r : Int} {d : Dig} {q : List Value} {x : QC} {a1 a2 : Option Addr} {n1 c1 n2 c2 : Nat} {l1 : List (List UInt8)} {l2 : List Vdr} (k1 : n1 ≤ c1) (k2 : n2 ≤ c2)
    (h : stars [VlR RdQC q x, LsR RdBytes 1 a1 n1 l1, LsR (fun _ _ => RdVdr) 17 a2 n2 l2] w F) : stars [VlR RdBlock (.int .i64 e :: .int .i64 r :: (dc d ++ (q ++ [.slice a1 n1 c1, .slice a2 n2 c2]))) ⟨e, r, d, x, l1, l2⟩] w F := by
  obtain ⟨F1, F2, h1, h2, hF⟩ := stars_cons h
  obtain ⟨F3, F4, h3, h4, hF2⟩ := stars_two h2
  have s3 : ∀ k, F3 k → F k := fun k hk => (hF k).2 (.inr ((hF2 k).2 (.inl hk)))
  exact rdR_mk ⟨q, a1, n1, c1, a2, n2, c2, rfl, h1.1.mv (still_sub fun k hk => (hF k).2 (.inl hk)), k1, RdList.mv h3.1 (still_sub s3) fun _ _ h => h.mv (still_sub s3), k2, RdList.mv h4.1 (still_sub fun k hk => (hF k).2 (.inr ((hF2 k).2 (.inr hk)))) fun _ _ h => h⟩ h
end

attribute [local irreducible] Gl Gc Gx Gs Runs Wt

set_option maxHeartbeats 400000 in
theorem rdigest_ok {w : World} {F : Nat → Prop} {TE : Nat} {ea : Nat → Addr} {g : Nat} {σ : RSt} (h : stars [RdrR TE ea g σ] w F) {es : List Nat} [Has es 1] [Has es 2] (hE : GErr es w (fun k => ¬ F k) TE ea) :
    Calls Tryz.prog 111 #[.agg (List.toArray [.pointer (some ⟨g, 0, none⟩)])] w (Post w F (fun r : Dig => .agg (dc r).toArray) (fun r => [pureR (Ag pDig σ r), RdrR TE ea g (rstep pDig σ)])) := by
  refine g_enter (env := [(0, .agg (List.toArray [.pointer (some ⟨g, 0, none⟩)]))]) Tryz.func111 rfl h Tryz.ntmps111 rfl rfl ?_
  refine gsr ?_
  refine zbN fun b1 => ?_
  refine zal fun b2 => ?_
  refine gnt ?_
  refine gsr ?_
  refine zal fun b3 => ?_
  refine gnt ?_
  refine gc_seq ?_
  refine gc_regionH ([blk b1 123 [.pointer (some ⟨g, 0, none⟩)]]) ?_
  refine yp 0 rfl (r_slice_arr (l := 0) (h := 16) rfl Ty.arr_23 Ty.sz_5 rfl rfl (by decide) (by decide) (by decide)) ?_
  refine yp 1 rfl zfa ?_
  refine yp 2 rfl zl ?_
  refine yo 3 rfl ?_
  refine zc ?_ (c := fun w1 F1 F2 h1 h2 hd hst => rfixed_ok (n := 16) h1 (hE.mv hst.still) (by decide))
  rintro ⟨a7, c7, l⟩
  refine gl_pureR (fun h7 => ?_)
  obtain ⟨hag, hlw⟩ := h7
  replace hlw : l.length ≤ 16 := hlw
  replace hag : Ag (pTake 16) σ l := hag
  refine yx ?_
  refine yo 4 rfl ?_
  refine gl_copy (news := l.map B8) (hr := fun w hw => hw.row (by repeat (first | exact Pick.here | apply Pick.there))) (hj := hlw) (h1 := one_B8 _) (hl := by rw [zD_length]; omega) (k := ?_)
  rw [padDig_cells hlw]
  refine yx ?_
  refine yd ?_
  refine gx_then ?_
  refine gsr ?_
  refine gp (zLa (cs := dc (padDig l))) ?_
  refine zsA (dc_length _) (dc_one _) ?_
  refine gnt ?_
  refine gc_ret ?_
  refine gx_retc rfl rfl (ld_aggS Ty.row_23 Ty.sz_23 (by repeat (first | exact Pick.here | apply Pick.there)) (by (simp only [List.drop_succ_cons, List.drop_zero, List.take_succ_cons, List.take_zero, List.cons_append, List.nil_append, List.append_assoc, drop_dc, drop_dc', take_dc, take_dc', drop_L, drop_L', take_L, take_L', len_L, Nat.reduceLeDiff, Nat.reduceSub, Nat.reduceAdd, Nat.le_refl, List.length_cons, List.length_append, List.length_nil, dc_length, List.drop_nil, List.take_nil, List.append_nil, List.length_map, List.length_replicate]; first | done | rfl)) (by first | rfl | (simp only [List.drop_succ_cons, List.drop_zero, List.take_succ_cons, List.take_zero, List.cons_append, List.nil_append, List.append_assoc, drop_dc, drop_dc', take_dc, take_dc', drop_L, drop_L', take_L, take_L', len_L, Nat.reduceLeDiff, Nat.reduceSub, Nat.reduceAdd, Nat.le_refl, List.length_cons, List.length_append, List.length_nil, dc_length, List.drop_nil, List.take_nil, List.append_nil, List.length_map, List.length_replicate]; first | done | omega))) ?_
  rw [rstep_dig hag]
  exact fun w' hw => ⟨padDig l, rfl, St.pureI (ag_dig hag) (hw.sel (by repeat (first | exact Sel.nil | (apply Sel.cons; · (repeat (first | exact Pick.here | apply Pick.there))))))⟩

set_option maxHeartbeats 400000 in
theorem takeDigest_ok {w : World} {F : Nat → Prop} {TE : Nat} {ea : Nat → Addr} {g : Nat} {σ : RSt} (h : stars [RdrR TE ea g σ] w F) {es : List Nat} [Has es 1] [Has es 2] (hE : GErr es w (fun k => ¬ F k) TE ea) :
    Calls Tryz.prog 143 #[.pointer (some ⟨g, 0, none⟩)] w (Post w F (fun r : Dig => .agg (dc r).toArray) (fun r => [pureR (Ag pDig σ r), RdrR TE ea g (rstep pDig σ)])) := by
  refine g_enter (env := [(0, .pointer (some ⟨g, 0, none⟩))]) Tryz.func143 rfl h Tryz.ntmps143 rfl rfl ?_
  refine gsr ?_
  refine zal fun b2 => ?_
  refine gnt ?_
  refine gsr ?_
  refine gp zmv ?_
  refine gp zbu ?_
  refine zc (fun d5 => ?_) (c := fun w1 F1 F2 h1 h2 hd hst => rdigest_ok h1 (hE.mv hst.still))
  refine gl_pureR (fun g5 => ?_)
  refine zsA (dc_length _) (dc_one _) ?_
  refine gnt ?_
  refine gc_ret ?_
  refine gx_retc rfl rfl (ld_aggS Ty.row_23 Ty.sz_23 (by repeat (first | exact Pick.here | apply Pick.there)) (by (simp only [List.drop_succ_cons, List.drop_zero, List.take_succ_cons, List.take_zero, List.cons_append, List.nil_append, List.append_assoc, drop_dc, drop_dc', take_dc, take_dc', drop_L, drop_L', take_L, take_L', len_L, Nat.reduceLeDiff, Nat.reduceSub, Nat.reduceAdd, Nat.le_refl, List.length_cons, List.length_append, List.length_nil, dc_length, List.drop_nil, List.take_nil, List.append_nil, List.length_map, List.length_replicate]; first | done | rfl)) (by first | rfl | (simp only [List.drop_succ_cons, List.drop_zero, List.take_succ_cons, List.take_zero, List.cons_append, List.nil_append, List.append_assoc, drop_dc, drop_dc', take_dc, take_dc', drop_L, drop_L', take_L, take_L', len_L, Nat.reduceLeDiff, Nat.reduceSub, Nat.reduceAdd, Nat.le_refl, List.length_cons, List.length_append, List.length_nil, dc_length, List.drop_nil, List.take_nil, List.append_nil, List.length_map, List.length_replicate]; first | done | omega))) ?_
  exact fun w' hw => ⟨d5, rfl, St.pureI g5 (hw.sel (by repeat (first | exact Sel.nil | (apply Sel.cons; · (repeat (first | exact Pick.here | apply Pick.there))))))⟩

set_option maxHeartbeats 400000 in
theorem rat_ok {w : World} {F : Nat → Prop} {TE : Nat} {ea : Nat → Addr} {g : Nat} {σ : RSt} (h : stars [RdrR TE ea g σ] w F) {es : List Nat} [Has es 1] [Has es 2] (hE : GErr es w (fun k => ¬ F k) TE ea) :
    Calls Tryz.prog 110 #[.agg (List.toArray [.pointer (some ⟨g, 0, none⟩)])] w (Post w F (fun r : Nat × Nat => .tuple #[.int .i64 (r.1 : Int), .int .i64 (r.2 : Int)]) (fun r => [pureR (Ag pAt σ ((r.1 : Int), (r.2 : Int))), RdrR TE ea g (rstep pAt σ)])) := by
  refine g_enter (env := [(0, .agg (List.toArray [.pointer (some ⟨g, 0, none⟩)]))]) Tryz.func110 rfl h Tryz.ntmps110 rfl rfl ?_
  refine gsr ?_
  refine zbN fun b1 => ?_
  refine gp zas ?_
  refine gp zas ?_
  refine gnt ?_
  refine gsr ?_
  refine gp zfa ?_
  refine gp zl ?_
  refine zc (fun x => ?_) (c := fun w1 F1 F2 h1 h2 hd hst => rnum_ok (wd := 4) h1 (hE.mv hst.still) (by decide) (by decide))
  refine gl_pureR (fun hp7 => ?_)
  obtain ⟨g7, _⟩ := hp7
  refine gp zas ?_
  refine gnt ?_
  refine gsr ?_
  refine gp zmv ?_
  refine gp zfa ?_
  refine gp zl ?_
  refine zc (fun y => ?_) (c := fun w1 F1 F2 h1 h2 hd hst => rnum_ok (wd := 6) h1 (hE.mv hst.still) (by decide) (by decide))
  refine gl_pureR (fun hp11 => ?_)
  obtain ⟨g11, _⟩ := hp11
  refine gp zas ?_
  refine gp zas ?_
  refine gnt ?_
  refine gc_ret ?_
  refine gx_ret2 rfl (by conv => lhs; whnf) (by conv => lhs; whnf) ?_
  have ha : Ag pAt σ ((x : Int), (y : Int)) := g7.bind (g11.bind (Ag.pure _))
  have hr : rstep pAt σ = rstep (pNum 6) (rstep (pNum 4) (σ)) := by rw [pAt, rstep_bind g7, rstep_bind g11, rstep_pure]
  rw [hr]
  exact fun w' hw => ⟨(x, y), rfl, St.pureI ha (hw.sel (by repeat (first | exact Sel.nil | (apply Sel.cons; · (repeat (first | exact Pick.here | apply Pick.there))))))⟩

set_option maxHeartbeats 400000 in
theorem takeDigs_ok {w : World} {F : Nat → Prop} {TE : Nat} {ea : Nat → Addr} {g : Nat} {σ : RSt} (h : stars [RdrR TE ea g σ] w F) {es : List Nat} [Has es 1] [Has es 2] (hE : GErr es w (fun k => ¬ F k) TE ea) {most : Nat} (hm : most ≤ 255) :
    Calls Tryz.prog 164 #[.pointer (some ⟨g, 0, none⟩), .int .i64 (most : Int), .func (.func 143) #[] #[]] w (Post w F (fun r : Option Addr × Nat × Nat × List Dig => .slice r.1 r.2.1 r.2.2.1) (fun r => [pureR (Ag (pList pDig most) σ r.2.2.2 ∧ r.2.1 ≤ r.2.2.1 ∧ r.2.1 = r.2.2.2.length), LsR (fun _ _ => RdDig) 16 r.1 r.2.1 r.2.2.2, RdrR TE ea g (rstep (pList pDig most) σ)])) := by
  refine g_enter (env := [(0, .pointer (some ⟨g, 0, none⟩)), (1, .int .i64 (most : Int)), (2, .func (.func 143) #[] #[])]) Tryz.func164 rfl h Tryz.ntmps164 rfl rfl ?_
  refine gsr ?_
  refine gp zas ?_
  refine gnt ?_
  refine gsr ?_
  refine gp zmv ?_
  refine zc (fun x => ?_) (c := fun w1 F1 F2 h1 h2 hd hst => rnum_ok (wd := 1) h1 (hE.mv hst.still) (by decide) (by decide))
  refine gl_pureR (fun hx => ?_)
  obtain ⟨hx, hxb⟩ := hx
  have hx256 : x < 256 := by simpa using hxb
  refine gp zas ?_
  refine gnt ?_
  refine gc_join (α := RSt) (fun σ2 => [pureR ((if errOf (rstep (pNum 1) σ) = 0 ∧ most < x then failE 1 (rstep (pNum 1) σ) else rstep (pNum 1) σ) = σ2), RdrR TE ea g σ2]) (fun σ2 => []) [12, 13, 14, 15, 16, 17, 18, 19, 20, 21, 22, 23, 24, 25, 26, 27] ?_ ?_
  · refine gc_join (α := Bool) (fun z => [pureR (z = (decide (errOf (rstep (pNum 1) σ) = 0) && decide (most < x))), RdrR TE ea g (rstep (pNum 1) σ)]) (fun z => [(22, .bool z)]) [12, 13, 14, 15, 16, 17, 18, 19, 20, 21] ?_ ?_
    · by_cases he : errOf (rstep (pNum 1) σ) = 0
      · refine gc_region ?_
        refine gp zmv ?_
        refine gp znc ?_
        refine gp zfa ?_
        refine gp zfa ?_
        refine gp r_lde ?_
        refine gp (r_bool (c := true) (r_eqnil rfl (by kernel_rfl)) (decide_eq_true he)) ?_
        refine gp zmv ?_
        refine gq zmv ?_
        refine gq zmv ?_
        refine gq (r_bool (b := decide ((most : Int) < (x : Int))) zgt rfl) ?_
        refine gp zpk ?_
        refine gl_nil ?_
        refine zjn (decide ((most : Int) < (x : Int))) ?_
        · exact zlp (by rw [decide_eq_true he, Bool.true_and]; exact decide_eq_decide.2 (by omega))
      · refine gc_region ?_
        refine gp zmv ?_
        refine gp znc ?_
        refine gp zfa ?_
        refine gp zfa ?_
        refine gp r_lde ?_
        refine gp (r_bool (c := false) (r_eqnil rfl (by kernel_rfl)) (decide_eq_false he)) ?_
        refine gp zmv ?_
        refine gn ?_
        refine gn ?_
        refine gn ?_
        refine gp zpk ?_
        refine gl_nil ?_
        refine zjn (false) ?_
        · exact zlp (by rw [decide_eq_false he]; rfl)
    · intro z u
      refine gc_pureR (fun hz => ?_)
      subst hz
      refine gif rfl (fun hc22 => ?_) (fun hc22 => ?_)
      · try simp only at hc22
        have hb : errOf (rstep (pNum 1) σ) = 0 ∧ most < x := by omega
        refine gc_regionT 4 (by kernel_rfl) (by kernel_rfl) ?_
        refine sp zmv ?_
        refine sp znc ?_
        refine sp zfa ?_
        refine sp (r_ld1o rfl Ty.row_38 (hE.c 1 Has.h) (hE.n 1 Has.h)) ?_
        refine gs_nil ?_
        refine zc (fun _ => ?_) (c := fun w1 F1 F2 h1 h2 hd hst => failR_ok (by decide) h1)
        refine gl_nil ?_
        refine zjn (failE 1 (rstep (pNum 1) σ)) ?_
        · exact zlp (if_pos hb)
      · try simp only at hc22
        have hb : ¬ (errOf (rstep (pNum 1) σ) = 0 ∧ most < x) := by omega
        refine gc_skip ?_
        refine zjn ((rstep (pNum 1) σ)) ?_
        · exact zlp (if_neg hb)
  · intro σ2 u
    refine gc_pureR (fun hc2 => ?_)
    refine gsr ?_
    refine gp zas ?_
    refine gnt ?_
    refine gc_seq ?_
    refine gsr ?_
    refine gp zas ?_
    refine gnt ?_
    refine gc_block ?_
    refine gc_loop (α := Nat × RSt × Option Addr × Nat × List (List Value) × List Dig) (fun y => [pureR (y.1 ≤ x ∧ Many pDig x σ2 (x - y.1) y.2.1 y.2.2.2.2.2 ∧ (∀ c ∈ y.2.2.2.2.1, c.length = 16) ∧ y.2.2.2.2.2.length = y.1), rowR 23 16 y.2.2.1 y.1 y.2.2.2.1 y.2.2.2.2.1.flatten, ElR (fun _ _ => RdDig) y.2.2.2.2.1 y.2.2.2.2.2, RdrR TE ea g y.2.1]) (fun y => [(8, .slice y.2.2.1 y.1 y.2.2.2.1), (9, .int .i64 (y.1 : Int))]) [28, 29, 30, 31, 32, 33, 34, 35, 36, 37, 38, 39, 40, 41, 42, 43, 44, 45, 46] (fun y => x - y.1) (0, σ2, none, 0, [], []) ?_ ?_ ?_
    · refine env_start (by kernel_rfl)
    · exact fun w' hw => zlp ⟨Nat.zero_le _, Many.start, (by intro c hc; cases hc), rfl⟩ (by repeat (first | exact Sel.nil | (apply Sel.cons; · (repeat (first | exact Pick.here | apply Pick.there))))) w' (hw.mapL fun F' hF' => stars_row_nil (e := 23) (size := 16) (el_nil (rd := fun _ _ => RdDig) hF'))
    · intro y u
      obtain ⟨k, τ, a, c, css, l⟩ := y
      refine gc_pureR (fun hk => ?_)
      obtain ⟨hk, hmany, hcss, hll⟩ := hk
      replace hk : k ≤ x := hk
      replace hll : l.length = k := hll
      replace hcss : ∀ c ∈ css, c.length = 16 := hcss
      replace hmany : Many pDig x σ2 (x - k) τ l := hmany
      refine gc_seq ?_
      refine gc_seq ?_
      by_cases hkx : k < x
      · refine gc_region ?_
        refine gp zmv ?_
        refine gp zmv ?_
        refine gp (r_bool (c := true) zlt (decide_eq_true (by omega))) ?_
        refine gp zmv ?_
        refine gq zmv ?_
        refine gq znc ?_
        refine gq zfa ?_
        refine gq zfa ?_
        refine gq r_lde ?_
        refine gq (r_eqnil rfl (by kernel_rfl)) ?_
        refine gp zpk ?_
        refine gnt ?_
        refine gif rfl (fun hc38 => ?_) (fun hc38 => ?_)
        · try simp only at hc38
          have he2 : errOf τ = 0 := hc38
          refine gc_skip ?_
          refine gx_then ?_
          refine gc_seq ?_
          refine gc_block ?_
          refine gc_region ?_
          refine gp zmv ?_
          refine gp zmv ?_
          refine gp zmv ?_
          refine gl_call (wt0 rfl) (e_callv (us := []) rfl Ty.call_143 rfl) (by repeat (first | exact Sel.nil | (apply Sel.cons; · (repeat (first | exact Pick.here | apply Pick.there))))) (fun w1 F1 F2 h1 h2 hd hst => takeDigest_ok h1 (hE.mv hst.still)) ?_
          intro v
          refine gl_pureR (fun hag => ?_)
          obtain ⟨cs, hcs⟩ : ∃ cs, cs = dc v := ⟨_, rfl⟩
          have hcl : cs.length = 16 := by rw [hcs]; exact dc_length _
          rw [← hcs]
          have i1 := Len.of hcl
          have i2 := One.of (l := cs) (by rw [hcs]; exact dc_one _)
          refine gl_conv (M := []) (N := [VlR (fun _ _ => RdDig) cs v]) Sel.nil (fun w F hF => vl_pure (show RdDig cs v from hcs) hF) ?_
          refine zeN fun b45 => ?_
          refine zapo (news := cs) (fun a46 c46 => ?_)
          refine gp zas ?_
          refine gl_nil ?_
          refine gx_block_normal ?_
          refine gx_then ?_
          refine gc_region ?_
          refine gp zmv ?_
          refine gp zad ?_
          refine gp zas ?_
          refine gl_nil ?_
          refine zrd ((k + 1, rstep pDig τ, a46, c46, css ++ [cs], l ++ [v])) ?_ ?_
          · show x - (k + 1) < x - k
            omega
          · rintro w' hw
            have h1 := hw.conv (M := [ElR (fun _ _ => RdDig) css l, VlR (fun _ _ => RdDig) cs v]) (by repeat (first | exact Sel.nil | (apply Sel.cons; · (repeat (first | exact Pick.here | apply Pick.there))))) (fun _ _ => el_snoc)
            refine zlq (M' := [rowR 23 16 a46 (k + 1) c46 (css.flatten ++ cs), ElR (fun _ _ => RdDig) (css ++ [cs]) (l ++ [v]), RdrR TE ea g (rstep pDig τ)]) ⟨?_, ?_, ?_, ?_⟩ (by simp) (by repeat (first | exact Sel.nil | (apply Sel.cons; · (repeat (first | exact Pick.here | apply Pick.there))))) w' h1
            · show k + 1 ≤ x; omega
            · rw [show x - k = x - (k + 1) + 1 by omega] at hmany; exact hmany.next hag
            · intro c' hc'; rcases List.mem_append.1 hc' with h | h; exact hcss c' h; rw [List.mem_singleton.1 h]; exact hcl
            · simp [hll]
        · try simp only at hc38
          have he2 : ¬ errOf τ = 0 := hc38
          refine gc_exit ?_
          refine gx_then_exit ?_
          refine gx_round_exit ?_
          refine gx_block_hit ?_
          refine gx_then ?_
          refine gc_seq ?_
          refine gsr ?_
          refine gp zmv ?_
          refine gp znc ?_
          refine gp zfa ?_
          refine gp zfa ?_
          refine gp r_lde ?_
          refine gp (r_nenil rfl (by kernel_rfl)) ?_
          refine gnt ?_
          refine gif rfl (fun hc52 => ?_) (fun hc52 => ?_)
          · try simp only at hc52
            have hbad := hmany.bad hc52
            have hfin := list_fin hx hc2 ⟨hbad.1, hbad.2 []⟩
            refine gsr ?_
            refine gp zas ?_
            refine gnt ?_
            refine gc_ret ?_
            refine gx_then_ret ?_
            refine gx_ret1 rfl (by conv => lhs; whnf) ?_
            rw [hfin.1]
            exact fun w' hw => ⟨(none, 0, 0, []), rfl, St.pureI ⟨hfin.2, Nat.le_refl _, rfl⟩ ((hw.sel (M := [RdrR TE ea g τ]) (by repeat (first | exact Sel.nil | (apply Sel.cons; · (repeat (first | exact Pick.here | apply Pick.there)))))).mapL fun F' hF' => ls_nil hF')⟩
          · try simp only at hc52
            have hm0 : x - k = 0 := by first | omega | exact absurd hc52 he2
            rw [hm0] at hmany
            have hfin := list_fin hx hc2 hmany.done
            refine gc_skip ?_
            refine gx_then ?_
            refine gsr ?_
            refine gp zmv ?_
            refine gp zas ?_
            refine gnt ?_
            refine gc_ret ?_
            refine gx_ret1 rfl (by conv => lhs; whnf) ?_
            rw [hfin.1]
            intro w' hw
            have hle := (hw.rowLe (e := 23) (size := 16) (a := a) (m := k) (c := c) (xs := css.flatten) (by repeat (first | exact Pick.here | apply Pick.there))).1
            exact ⟨(a, k, c, l), rfl, St.pureI ⟨hfin.2, hle, hll.symm⟩ ((hw.conv (M := [rowR 23 16 a k c css.flatten, ElR (fun _ _ => RdDig) css l]) (by repeat (first | exact Sel.nil | (apply Sel.cons; · (repeat (first | exact Pick.here | apply Pick.there))))) (fun _ _ => ls_of hcss)).sel (by repeat (first | exact Sel.nil | (apply Sel.cons; · (repeat (first | exact Pick.here | apply Pick.there))))))⟩
      · refine gc_region ?_
        refine gp zmv ?_
        refine gp zmv ?_
        refine gp (r_bool (c := false) zlt (decide_eq_false (by omega))) ?_
        refine gp zmv ?_
        refine gn ?_
        refine gn ?_
        refine gn ?_
        refine gn ?_
        refine gn ?_
        refine gn ?_
        refine gp zpk ?_
        refine gnt ?_
        refine gc_condF rfl rfl ?_
        refine gc_exit ?_
        refine gx_then_exit ?_
        refine gx_round_exit ?_
        refine gx_block_hit ?_
        refine gx_then ?_
        refine gc_seq ?_
        refine gsr ?_
        refine gp zmv ?_
        refine gp znc ?_
        refine gp zfa ?_
        refine gp zfa ?_
        refine gp r_lde ?_
        refine gp (r_nenil rfl (by kernel_rfl)) ?_
        refine gnt ?_
        refine gif rfl (fun hc52 => ?_) (fun hc52 => ?_)
        · try simp only at hc52
          have hbad := hmany.bad hc52
          have hfin := list_fin hx hc2 ⟨hbad.1, hbad.2 []⟩
          refine gsr ?_
          refine gp zas ?_
          refine gnt ?_
          refine gc_ret ?_
          refine gx_then_ret ?_
          refine gx_ret1 rfl (by conv => lhs; whnf) ?_
          rw [hfin.1]
          exact fun w' hw => ⟨(none, 0, 0, []), rfl, St.pureI ⟨hfin.2, Nat.le_refl _, rfl⟩ ((hw.sel (M := [RdrR TE ea g τ]) (by repeat (first | exact Sel.nil | (apply Sel.cons; · (repeat (first | exact Pick.here | apply Pick.there)))))).mapL fun F' hF' => ls_nil hF')⟩
        · try simp only at hc52
          have hm0 : x - k = 0 := by first | omega | exact absurd hc52 he2
          rw [hm0] at hmany
          have hfin := list_fin hx hc2 hmany.done
          refine gc_skip ?_
          refine gx_then ?_
          refine gsr ?_
          refine gp zmv ?_
          refine gp zas ?_
          refine gnt ?_
          refine gc_ret ?_
          refine gx_ret1 rfl (by conv => lhs; whnf) ?_
          rw [hfin.1]
          intro w' hw
          have hle := (hw.rowLe (e := 23) (size := 16) (a := a) (m := k) (c := c) (xs := css.flatten) (by repeat (first | exact Pick.here | apply Pick.there))).1
          exact ⟨(a, k, c, l), rfl, St.pureI ⟨hfin.2, hle, hll.symm⟩ ((hw.conv (M := [rowR 23 16 a k c css.flatten, ElR (fun _ _ => RdDig) css l]) (by repeat (first | exact Sel.nil | (apply Sel.cons; · (repeat (first | exact Pick.here | apply Pick.there))))) (fun _ _ => ls_of hcss)).sel (by repeat (first | exact Sel.nil | (apply Sel.cons; · (repeat (first | exact Pick.here | apply Pick.there))))))⟩

set_option maxHeartbeats 400000 in
theorem rsig_ok {w : World} {F : Nat → Prop} {TE : Nat} {ea : Nat → Addr} {g : Nat} {σ : RSt} (h : stars [RdrR TE ea g σ] w F) {es : List Nat} [Has es 1] [Has es 2] (hE : GErr es w (fun k => ¬ F k) TE ea) :
    Calls Tryz.prog 152 #[.agg (List.toArray [.pointer (some ⟨g, 0, none⟩)])] w (Post w F (fun r : List Value × Sig => .agg r.1.toArray) (fun r => [pureR (Ag pSig σ r.2 ∧ r.1.length = 3 ∧ ∀ v ∈ r.1, v.oneCell' = true), VlR RdSig r.1 r.2, RdrR TE ea g (rstep pSig σ)])) := by
  refine g_enter (env := [(0, .agg (List.toArray [.pointer (some ⟨g, 0, none⟩)]))]) Tryz.func152 rfl h Tryz.ntmps152 rfl rfl ?_
  refine gsr ?_
  refine zbN fun b1 => ?_
  refine zal fun b2 => ?_
  refine gnt ?_
  refine gsr ?_
  refine gp zfa ?_
  refine gp zl ?_
  refine zc (fun x => ?_) (c := fun w1 F1 F2 h1 h2 hd hst => rnum_ok (wd := 1) h1 (hE.mv hst.still) (by decide) (by decide))
  refine gl_pureR (fun hp7 => ?_)
  obtain ⟨g7, _⟩ := hp7
  refine gp zas ?_
  refine gnt ?_
  refine gsr ?_
  refine gp zfa ?_
  refine gp zl ?_
  refine zc ?_ (c := fun w1 F1 F2 h1 h2 hd hst => takeDigs_ok (most := 68) h1 (hE.mv hst.still) (by decide))
  rintro ⟨a10, n10, c10, l10⟩
  refine gl_pureR (fun hp10 => ?_)
  obtain ⟨g10, k10, e10⟩ := hp10
  replace g10 : Ag (pList pDig 68) _ l10 := g10
  replace k10 : n10 ≤ c10 := k10
  refine gp zas ?_
  refine gnt ?_
  refine gsr ?_
  refine gp zmv ?_
  refine gp zmv ?_
  refine gp zfa ?_
  refine gp zl ?_
  refine zc ?_ (c := fun w1 F1 F2 h1 h2 hd hst => takeDigs_ok (most := 5) h1 (hE.mv hst.still) (by decide))
  rintro ⟨a15, n15, c15, l15⟩
  refine gl_pureR (fun hp15 => ?_)
  obtain ⟨g15, k15, e15⟩ := hp15
  replace g15 : Ag (pList pDig 5) _ l15 := g15
  replace k15 : n15 ≤ c15 := k15
  refine gp zbu ?_
  refine zsN ?_
  refine gnt ?_
  refine gc_ret ?_
  refine gx_retc rfl rfl (ld_aggS Ty.row_49 Ty.sz_49 (by repeat (first | exact Pick.here | apply Pick.there)) (by (simp only [List.drop_succ_cons, List.drop_zero, List.take_succ_cons, List.take_zero, List.cons_append, List.nil_append, List.append_assoc, drop_dc, drop_dc', take_dc, take_dc', drop_L, drop_L', take_L, take_L', len_L, Nat.reduceLeDiff, Nat.reduceSub, Nat.reduceAdd, Nat.le_refl, List.length_cons, List.length_append, List.length_nil, dc_length, List.drop_nil, List.take_nil, List.append_nil, List.length_map, List.length_replicate]; first | done | rfl)) (by first | rfl | (simp only [List.drop_succ_cons, List.drop_zero, List.take_succ_cons, List.take_zero, List.cons_append, List.nil_append, List.append_assoc, drop_dc, drop_dc', take_dc, take_dc', drop_L, drop_L', take_L, take_L', len_L, Nat.reduceLeDiff, Nat.reduceSub, Nat.reduceAdd, Nat.le_refl, List.length_cons, List.length_append, List.length_nil, dc_length, List.drop_nil, List.take_nil, List.append_nil, List.length_map, List.length_replicate]; first | done | omega))) ?_
  have ha : Ag pSig σ ⟨x, l10, l15⟩ := g7.bind (g10.bind (g15.bind (Ag.pure _)))
  have hr : rstep pSig σ = rstep (pList pDig 5) (rstep (pList pDig 68) (rstep (pNum 1) (σ))) := by rw [pSig, rstep_bind g7, rstep_bind g10, rstep_bind g15, rstep_pure]
  rw [hr]
  intro w' hw
  refine ⟨([.int .i64 x, .slice a10 n10 c10, .slice a15 n15 c15], ⟨x, l10, l15⟩), rfl, St.pureI ⟨ha, by first | rfl | simp only [List.length_cons, List.length_append, List.length_nil, dc_length, len_L] , all_cons' rfl (all_cons' rfl (all_cons' rfl all_nil'))⟩ ?_⟩
  exact (hw.conv (M := [LsR (fun _ _ => RdDig) 16 a10 n10 l10, LsR (fun _ _ => RdDig) 16 a15 n15 l15]) (by repeat (first | exact Sel.nil | (apply Sel.cons; · (repeat (first | exact Pick.here | apply Pick.there))))) (fun _ _ => vl_sig k10 k15)).sel (by repeat (first | exact Sel.nil | (apply Sel.cons; · (repeat (first | exact Pick.here | apply Pick.there)))))

set_option maxHeartbeats 400000 in
theorem rsigned_ok {w : World} {F : Nat → Prop} {TE : Nat} {ea : Nat → Addr} {g : Nat} {σ : RSt} (h : stars [RdrR TE ea g σ] w F) {es : List Nat} [Has es 1] [Has es 2] (hE : GErr es w (fun k => ¬ F k) TE ea) :
    Calls Tryz.prog 112 #[.agg (List.toArray [.pointer (some ⟨g, 0, none⟩)])] w (Post w F (fun r : List Value × Signed => .agg r.1.toArray) (fun r => [pureR (Ag pSigned σ r.2 ∧ r.1.length = 4 ∧ ∀ v ∈ r.1, v.oneCell' = true), VlR RdSigned r.1 r.2, RdrR TE ea g (rstep pSigned σ)])) := by
  refine g_enter (env := [(0, .agg (List.toArray [.pointer (some ⟨g, 0, none⟩)]))]) Tryz.func112 rfl h Tryz.ntmps112 rfl rfl ?_
  refine gsr ?_
  refine zbN fun b1 => ?_
  refine zal fun b2 => ?_
  refine gnt ?_
  refine gsr ?_
  refine gp zfa ?_
  refine gp zl ?_
  refine zc (fun x => ?_) (c := fun w1 F1 F2 h1 h2 hd hst => rnum_ok (wd := 1) h1 (hE.mv hst.still) (by decide) (by decide))
  refine gl_pureR (fun hp6 => ?_)
  obtain ⟨g6, _⟩ := hp6
  refine gp zas ?_
  refine gnt ?_
  refine gsr ?_
  refine gp zmv ?_
  refine gp zL ?_
  refine zc ?_ (c := fun w1 F1 F2 h1 h2 hd hst => rsig_ok h1 (hE.mv hst.still))
  rintro ⟨q9, v9⟩
  refine gl_pureR (fun hp9 => ?_)
  obtain ⟨g9, z9, o9⟩ := hp9
  replace z9 : q9.length = _ := z9
  have i9 := Len.of z9
  have j9 := One.of (show ∀ v ∈ q9, v.oneCell' = true from o9)
  refine gp zbu ?_
  refine zsN ?_
  refine gnt ?_
  refine gc_ret ?_
  refine gx_retc rfl rfl (ld_aggS Ty.row_51 Ty.sz_51 (by repeat (first | exact Pick.here | apply Pick.there)) (by (simp only [List.drop_succ_cons, List.drop_zero, List.take_succ_cons, List.take_zero, List.cons_append, List.nil_append, List.append_assoc, drop_dc, drop_dc', take_dc, take_dc', drop_L, drop_L', take_L, take_L', len_L, Nat.reduceLeDiff, Nat.reduceSub, Nat.reduceAdd, Nat.le_refl, List.length_cons, List.length_append, List.length_nil, dc_length, List.drop_nil, List.take_nil, List.append_nil, List.length_map, List.length_replicate]; first | done | rfl)) (by first | rfl | (simp only [List.drop_succ_cons, List.drop_zero, List.take_succ_cons, List.take_zero, List.cons_append, List.nil_append, List.append_assoc, drop_dc, drop_dc', take_dc, take_dc', drop_L, drop_L', take_L, take_L', len_L, Nat.reduceLeDiff, Nat.reduceSub, Nat.reduceAdd, Nat.le_refl, List.length_cons, List.length_append, List.length_nil, dc_length, List.drop_nil, List.take_nil, List.append_nil, List.length_map, List.length_replicate]; first | done | omega))) ?_
  have ha : Ag pSigned σ ⟨x, v9⟩ := g6.bind (g9.bind (Ag.pure _))
  have hr : rstep pSigned σ = rstep pSig (rstep (pNum 1) (σ)) := by rw [pSigned, rstep_bind g6, rstep_bind g9, rstep_pure]
  rw [hr]
  intro w' hw
  refine ⟨(.int .i64 x :: q9, ⟨x, v9⟩), rfl, St.pureI ⟨ha, by first | rfl | simp only [List.length_cons, List.length_append, List.length_nil, dc_length, len_L] , all_cons' rfl o9⟩ ?_⟩
  exact (hw.conv (M := [VlR RdSig q9 v9]) (by repeat (first | exact Sel.nil | (apply Sel.cons; · (repeat (first | exact Pick.here | apply Pick.there))))) (fun _ _ => vl_signed)).sel (by repeat (first | exact Sel.nil | (apply Sel.cons; · (repeat (first | exact Pick.here | apply Pick.there)))))

set_option maxHeartbeats 400000 in
theorem rqc1_ok {w : World} {F : Nat → Prop} {TE : Nat} {ea : Nat → Addr} {g : Nat} {σ : RSt} (h : stars [RdrR TE ea g σ] w F) {es : List Nat} [Has es 1] [Has es 2] (hE : GErr es w (fun k => ¬ F k) TE ea) :
    Calls Tryz.prog 147 #[.pointer (some ⟨g, 0, none⟩)] w (Post w F (fun r : List Value × Signed => .agg r.1.toArray) (fun r => [pureR (Ag pSigned σ r.2 ∧ r.1.length = 4 ∧ ∀ v ∈ r.1, v.oneCell' = true), VlR RdSigned r.1 r.2, RdrR TE ea g (rstep pSigned σ)])) := by
  refine g_enter (env := [(0, .pointer (some ⟨g, 0, none⟩))]) Tryz.func147 rfl h Tryz.ntmps147 rfl rfl ?_
  refine gsr ?_
  refine zal fun b2 => ?_
  refine gnt ?_
  refine gsr ?_
  refine gp zmv ?_
  refine gp zbu ?_
  refine zc ?_ (c := fun w1 F1 F2 h1 h2 hd hst => rsigned_ok h1 (hE.mv hst.still))
  rintro ⟨q5, v5⟩
  refine gl_pureR (fun hp5 => ?_)
  obtain ⟨g5, z5, o5⟩ := hp5
  replace z5 : q5.length = _ := z5
  have i5 := Len.of z5
  have j5 := One.of (show ∀ v ∈ q5, v.oneCell' = true from o5)
  refine zsN ?_
  refine gnt ?_
  refine gc_ret ?_
  refine gx_retc rfl rfl (ld_aggS Ty.row_51 Ty.sz_51 (by repeat (first | exact Pick.here | apply Pick.there)) (by (simp only [List.drop_succ_cons, List.drop_zero, List.take_succ_cons, List.take_zero, List.cons_append, List.nil_append, List.append_assoc, drop_dc, drop_dc', take_dc, take_dc', drop_L, drop_L', take_L, take_L', len_L, Nat.reduceLeDiff, Nat.reduceSub, Nat.reduceAdd, Nat.le_refl, List.length_cons, List.length_append, List.length_nil, dc_length, List.drop_nil, List.take_nil, List.append_nil, List.length_map, List.length_replicate]; first | done | rfl)) (by first | rfl | (simp only [List.drop_succ_cons, List.drop_zero, List.take_succ_cons, List.take_zero, List.cons_append, List.nil_append, List.append_assoc, drop_dc, drop_dc', take_dc, take_dc', drop_L, drop_L', take_L, take_L', len_L, Nat.reduceLeDiff, Nat.reduceSub, Nat.reduceAdd, Nat.le_refl, List.length_cons, List.length_append, List.length_nil, dc_length, List.drop_nil, List.take_nil, List.append_nil, List.length_map, List.length_replicate]; first | done | omega))) ?_
  exact fun w' hw => ⟨(q5, v5), rfl, St.pureI ⟨g5, z5, o5⟩ (hw.sel (by repeat (first | exact Sel.nil | (apply Sel.cons; · (repeat (first | exact Pick.here | apply Pick.there))))))⟩

set_option maxHeartbeats 400000 in
theorem takeSigneds_ok {w : World} {F : Nat → Prop} {TE : Nat} {ea : Nat → Addr} {g : Nat} {σ : RSt} (h : stars [RdrR TE ea g σ] w F) {es : List Nat} [Has es 1] [Has es 2] (hE : GErr es w (fun k => ¬ F k) TE ea) {most : Nat} (hm : most ≤ 255) :
    Calls Tryz.prog 146 #[.pointer (some ⟨g, 0, none⟩), .int .i64 (most : Int), .func (.func 147) #[] #[]] w (Post w F (fun r : Option Addr × Nat × Nat × List Signed => .slice r.1 r.2.1 r.2.2.1) (fun r => [pureR (Ag (pList pSigned most) σ r.2.2.2 ∧ r.2.1 ≤ r.2.2.1 ∧ r.2.1 = r.2.2.2.length), LsR (RdSigned) 4 r.1 r.2.1 r.2.2.2, RdrR TE ea g (rstep (pList pSigned most) σ)])) := by
  refine g_enter (env := [(0, .pointer (some ⟨g, 0, none⟩)), (1, .int .i64 (most : Int)), (2, .func (.func 147) #[] #[])]) Tryz.func146 rfl h Tryz.ntmps146 rfl rfl ?_
  refine gsr ?_
  refine gp zas ?_
  refine gnt ?_
  refine gsr ?_
  refine gp zmv ?_
  refine zc (fun x => ?_) (c := fun w1 F1 F2 h1 h2 hd hst => rnum_ok (wd := 1) h1 (hE.mv hst.still) (by decide) (by decide))
  refine gl_pureR (fun hx => ?_)
  obtain ⟨hx, hxb⟩ := hx
  have hx256 : x < 256 := by simpa using hxb
  refine gp zas ?_
  refine gnt ?_
  refine gc_join (α := RSt) (fun σ2 => [pureR ((if errOf (rstep (pNum 1) σ) = 0 ∧ most < x then failE 1 (rstep (pNum 1) σ) else rstep (pNum 1) σ) = σ2), RdrR TE ea g σ2]) (fun σ2 => []) [12, 13, 14, 15, 16, 17, 18, 19, 20, 21, 22, 23, 24, 25, 26, 27] ?_ ?_
  · refine gc_join (α := Bool) (fun z => [pureR (z = (decide (errOf (rstep (pNum 1) σ) = 0) && decide (most < x))), RdrR TE ea g (rstep (pNum 1) σ)]) (fun z => [(22, .bool z)]) [12, 13, 14, 15, 16, 17, 18, 19, 20, 21] ?_ ?_
    · by_cases he : errOf (rstep (pNum 1) σ) = 0
      · refine gc_region ?_
        refine gp zmv ?_
        refine gp znc ?_
        refine gp zfa ?_
        refine gp zfa ?_
        refine gp r_lde ?_
        refine gp (r_bool (c := true) (r_eqnil rfl (by kernel_rfl)) (decide_eq_true he)) ?_
        refine gp zmv ?_
        refine gq zmv ?_
        refine gq zmv ?_
        refine gq (r_bool (b := decide ((most : Int) < (x : Int))) zgt rfl) ?_
        refine gp zpk ?_
        refine gl_nil ?_
        refine zjn (decide ((most : Int) < (x : Int))) ?_
        · exact zlp (by rw [decide_eq_true he, Bool.true_and]; exact decide_eq_decide.2 (by omega))
      · refine gc_region ?_
        refine gp zmv ?_
        refine gp znc ?_
        refine gp zfa ?_
        refine gp zfa ?_
        refine gp r_lde ?_
        refine gp (r_bool (c := false) (r_eqnil rfl (by kernel_rfl)) (decide_eq_false he)) ?_
        refine gp zmv ?_
        refine gn ?_
        refine gn ?_
        refine gn ?_
        refine gp zpk ?_
        refine gl_nil ?_
        refine zjn (false) ?_
        · exact zlp (by rw [decide_eq_false he]; rfl)
    · intro z u
      refine gc_pureR (fun hz => ?_)
      subst hz
      refine gif rfl (fun hc22 => ?_) (fun hc22 => ?_)
      · try simp only at hc22
        have hb : errOf (rstep (pNum 1) σ) = 0 ∧ most < x := by omega
        refine gc_regionT 4 (by kernel_rfl) (by kernel_rfl) ?_
        refine sp zmv ?_
        refine sp znc ?_
        refine sp zfa ?_
        refine sp (r_ld1o rfl Ty.row_38 (hE.c 1 Has.h) (hE.n 1 Has.h)) ?_
        refine gs_nil ?_
        refine zc (fun _ => ?_) (c := fun w1 F1 F2 h1 h2 hd hst => failR_ok (by decide) h1)
        refine gl_nil ?_
        refine zjn (failE 1 (rstep (pNum 1) σ)) ?_
        · exact zlp (if_pos hb)
      · try simp only at hc22
        have hb : ¬ (errOf (rstep (pNum 1) σ) = 0 ∧ most < x) := by omega
        refine gc_skip ?_
        refine zjn ((rstep (pNum 1) σ)) ?_
        · exact zlp (if_neg hb)
  · intro σ2 u
    refine gc_pureR (fun hc2 => ?_)
    refine gsr ?_
    refine gp zas ?_
    refine gnt ?_
    refine gc_seq ?_
    refine gsr ?_
    refine gp zas ?_
    refine gnt ?_
    refine gc_block ?_
    refine gc_loop (α := Nat × RSt × Option Addr × Nat × List (List Value) × List Signed) (fun y => [pureR (y.1 ≤ x ∧ Many pSigned x σ2 (x - y.1) y.2.1 y.2.2.2.2.2 ∧ (∀ c ∈ y.2.2.2.2.1, c.length = 4) ∧ y.2.2.2.2.2.length = y.1), rowR 51 4 y.2.2.1 y.1 y.2.2.2.1 y.2.2.2.2.1.flatten, ElR (RdSigned) y.2.2.2.2.1 y.2.2.2.2.2, RdrR TE ea g y.2.1]) (fun y => [(8, .slice y.2.2.1 y.1 y.2.2.2.1), (9, .int .i64 (y.1 : Int))]) [28, 29, 30, 31, 32, 33, 34, 35, 36, 37, 38, 39, 40, 41, 42, 43, 44, 45, 46] (fun y => x - y.1) (0, σ2, none, 0, [], []) ?_ ?_ ?_
    · refine env_start (by kernel_rfl)
    · exact fun w' hw => zlp ⟨Nat.zero_le _, Many.start, (by intro c hc; cases hc), rfl⟩ (by repeat (first | exact Sel.nil | (apply Sel.cons; · (repeat (first | exact Pick.here | apply Pick.there))))) w' (hw.mapL fun F' hF' => stars_row_nil (e := 51) (size := 4) (el_nil (rd := RdSigned) hF'))
    · intro y u
      obtain ⟨k, τ, a, c, css, l⟩ := y
      refine gc_pureR (fun hk => ?_)
      obtain ⟨hk, hmany, hcss, hll⟩ := hk
      replace hk : k ≤ x := hk
      replace hll : l.length = k := hll
      replace hcss : ∀ c ∈ css, c.length = 4 := hcss
      replace hmany : Many pSigned x σ2 (x - k) τ l := hmany
      refine gc_seq ?_
      refine gc_seq ?_
      by_cases hkx : k < x
      · refine gc_region ?_
        refine gp zmv ?_
        refine gp zmv ?_
        refine gp (r_bool (c := true) zlt (decide_eq_true (by omega))) ?_
        refine gp zmv ?_
        refine gq zmv ?_
        refine gq znc ?_
        refine gq zfa ?_
        refine gq zfa ?_
        refine gq r_lde ?_
        refine gq (r_eqnil rfl (by kernel_rfl)) ?_
        refine gp zpk ?_
        refine gnt ?_
        refine gif rfl (fun hc38 => ?_) (fun hc38 => ?_)
        · try simp only at hc38
          have he2 : errOf τ = 0 := hc38
          refine gc_skip ?_
          refine gx_then ?_
          refine gc_seq ?_
          refine gc_block ?_
          refine gc_region ?_
          refine gp zmv ?_
          refine gp zmv ?_
          refine gp zmv ?_
          refine gl_call (wt0 rfl) (e_callv (us := []) rfl Ty.call_147 rfl) (by repeat (first | exact Sel.nil | (apply Sel.cons; · (repeat (first | exact Pick.here | apply Pick.there))))) (fun w1 F1 F2 h1 h2 hd hst => rqc1_ok h1 (hE.mv hst.still)) ?_
          rintro ⟨cs, v⟩
          refine gl_pureR (fun h44 => ?_)
          obtain ⟨hag, hcl, hone⟩ := h44
          replace hcl : cs.length = _ := hcl
          have i1 := Len.of hcl
          have i2 := One.of (show ∀ v ∈ cs, v.oneCell' = true from hone)
          refine zeN fun b45 => ?_
          refine zapo (news := cs) (fun a46 c46 => ?_)
          refine gp zas ?_
          refine gl_nil ?_
          refine gx_block_normal ?_
          refine gx_then ?_
          refine gc_region ?_
          refine gp zmv ?_
          refine gp zad ?_
          refine gp zas ?_
          refine gl_nil ?_
          refine zrd ((k + 1, rstep pSigned τ, a46, c46, css ++ [cs], l ++ [v])) ?_ ?_
          · show x - (k + 1) < x - k
            omega
          · rintro w' hw
            have h1 := hw.conv (M := [ElR (RdSigned) css l, VlR (RdSigned) cs v]) (by repeat (first | exact Sel.nil | (apply Sel.cons; · (repeat (first | exact Pick.here | apply Pick.there))))) (fun _ _ => el_snoc)
            refine zlq (M' := [rowR 51 4 a46 (k + 1) c46 (css.flatten ++ cs), ElR (RdSigned) (css ++ [cs]) (l ++ [v]), RdrR TE ea g (rstep pSigned τ)]) ⟨?_, ?_, ?_, ?_⟩ (by simp) (by repeat (first | exact Sel.nil | (apply Sel.cons; · (repeat (first | exact Pick.here | apply Pick.there))))) w' h1
            · show k + 1 ≤ x; omega
            · rw [show x - k = x - (k + 1) + 1 by omega] at hmany; exact hmany.next hag
            · intro c' hc'; rcases List.mem_append.1 hc' with h | h; exact hcss c' h; rw [List.mem_singleton.1 h]; exact hcl
            · simp [hll]
        · try simp only at hc38
          have he2 : ¬ errOf τ = 0 := hc38
          refine gc_exit ?_
          refine gx_then_exit ?_
          refine gx_round_exit ?_
          refine gx_block_hit ?_
          refine gx_then ?_
          refine gc_seq ?_
          refine gsr ?_
          refine gp zmv ?_
          refine gp znc ?_
          refine gp zfa ?_
          refine gp zfa ?_
          refine gp r_lde ?_
          refine gp (r_nenil rfl (by kernel_rfl)) ?_
          refine gnt ?_
          refine gif rfl (fun hc52 => ?_) (fun hc52 => ?_)
          · try simp only at hc52
            have hbad := hmany.bad hc52
            have hfin := list_fin hx hc2 ⟨hbad.1, hbad.2 []⟩
            refine gsr ?_
            refine gp zas ?_
            refine gnt ?_
            refine gc_ret ?_
            refine gx_then_ret ?_
            refine gx_ret1 rfl (by conv => lhs; whnf) ?_
            rw [hfin.1]
            exact fun w' hw => ⟨(none, 0, 0, []), rfl, St.pureI ⟨hfin.2, Nat.le_refl _, rfl⟩ ((hw.sel (M := [RdrR TE ea g τ]) (by repeat (first | exact Sel.nil | (apply Sel.cons; · (repeat (first | exact Pick.here | apply Pick.there)))))).mapL fun F' hF' => ls_nil hF')⟩
          · try simp only at hc52
            have hm0 : x - k = 0 := by first | omega | exact absurd hc52 he2
            rw [hm0] at hmany
            have hfin := list_fin hx hc2 hmany.done
            refine gc_skip ?_
            refine gx_then ?_
            refine gsr ?_
            refine gp zmv ?_
            refine gp zas ?_
            refine gnt ?_
            refine gc_ret ?_
            refine gx_ret1 rfl (by conv => lhs; whnf) ?_
            rw [hfin.1]
            intro w' hw
            have hle := (hw.rowLe (e := 51) (size := 4) (a := a) (m := k) (c := c) (xs := css.flatten) (by repeat (first | exact Pick.here | apply Pick.there))).1
            exact ⟨(a, k, c, l), rfl, St.pureI ⟨hfin.2, hle, hll.symm⟩ ((hw.conv (M := [rowR 51 4 a k c css.flatten, ElR (RdSigned) css l]) (by repeat (first | exact Sel.nil | (apply Sel.cons; · (repeat (first | exact Pick.here | apply Pick.there))))) (fun _ _ => ls_of hcss)).sel (by repeat (first | exact Sel.nil | (apply Sel.cons; · (repeat (first | exact Pick.here | apply Pick.there))))))⟩
      · refine gc_region ?_
        refine gp zmv ?_
        refine gp zmv ?_
        refine gp (r_bool (c := false) zlt (decide_eq_false (by omega))) ?_
        refine gp zmv ?_
        refine gn ?_
        refine gn ?_
        refine gn ?_
        refine gn ?_
        refine gn ?_
        refine gn ?_
        refine gp zpk ?_
        refine gnt ?_
        refine gc_condF rfl rfl ?_
        refine gc_exit ?_
        refine gx_then_exit ?_
        refine gx_round_exit ?_
        refine gx_block_hit ?_
        refine gx_then ?_
        refine gc_seq ?_
        refine gsr ?_
        refine gp zmv ?_
        refine gp znc ?_
        refine gp zfa ?_
        refine gp zfa ?_
        refine gp r_lde ?_
        refine gp (r_nenil rfl (by kernel_rfl)) ?_
        refine gnt ?_
        refine gif rfl (fun hc52 => ?_) (fun hc52 => ?_)
        · try simp only at hc52
          have hbad := hmany.bad hc52
          have hfin := list_fin hx hc2 ⟨hbad.1, hbad.2 []⟩
          refine gsr ?_
          refine gp zas ?_
          refine gnt ?_
          refine gc_ret ?_
          refine gx_then_ret ?_
          refine gx_ret1 rfl (by conv => lhs; whnf) ?_
          rw [hfin.1]
          exact fun w' hw => ⟨(none, 0, 0, []), rfl, St.pureI ⟨hfin.2, Nat.le_refl _, rfl⟩ ((hw.sel (M := [RdrR TE ea g τ]) (by repeat (first | exact Sel.nil | (apply Sel.cons; · (repeat (first | exact Pick.here | apply Pick.there)))))).mapL fun F' hF' => ls_nil hF')⟩
        · try simp only at hc52
          have hm0 : x - k = 0 := by first | omega | exact absurd hc52 he2
          rw [hm0] at hmany
          have hfin := list_fin hx hc2 hmany.done
          refine gc_skip ?_
          refine gx_then ?_
          refine gsr ?_
          refine gp zmv ?_
          refine gp zas ?_
          refine gnt ?_
          refine gc_ret ?_
          refine gx_ret1 rfl (by conv => lhs; whnf) ?_
          rw [hfin.1]
          intro w' hw
          have hle := (hw.rowLe (e := 51) (size := 4) (a := a) (m := k) (c := c) (xs := css.flatten) (by repeat (first | exact Pick.here | apply Pick.there))).1
          exact ⟨(a, k, c, l), rfl, St.pureI ⟨hfin.2, hle, hll.symm⟩ ((hw.conv (M := [rowR 51 4 a k c css.flatten, ElR (RdSigned) css l]) (by repeat (first | exact Sel.nil | (apply Sel.cons; · (repeat (first | exact Pick.here | apply Pick.there))))) (fun _ _ => ls_of hcss)).sel (by repeat (first | exact Sel.nil | (apply Sel.cons; · (repeat (first | exact Pick.here | apply Pick.there))))))⟩

set_option maxHeartbeats 400000 in
theorem rqc_ok {w : World} {F : Nat → Prop} {TE : Nat} {ea : Nat → Addr} {g : Nat} {σ : RSt} (h : stars [RdrR TE ea g σ] w F) {es : List Nat} [Has es 1] [Has es 2] (hE : GErr es w (fun k => ¬ F k) TE ea) :
    Calls Tryz.prog 98 #[.agg (List.toArray [.pointer (some ⟨g, 0, none⟩)])] w (Post w F (fun r : List Value × QC => .agg r.1.toArray) (fun r => [pureR (Ag pQC σ r.2 ∧ r.1.length = 19 ∧ ∀ v ∈ r.1, v.oneCell' = true), VlR RdQC r.1 r.2, RdrR TE ea g (rstep pQC σ)])) := by
  refine g_enter (env := [(0, .agg (List.toArray [.pointer (some ⟨g, 0, none⟩)]))]) Tryz.func98 rfl h Tryz.ntmps98 rfl rfl ?_
  refine gsr ?_
  refine zbN fun b1 => ?_
  refine zal fun b2 => ?_
  refine gnt ?_
  refine gsr ?_
  refine gp zL ?_
  refine zc ?_ (c := fun w1 F1 F2 h1 h2 hd hst => rat_ok h1 (hE.mv hst.still))
  rintro ⟨x5, y5⟩
  refine gl_pureR (fun g5 => ?_)
  replace g5 : Ag pAt _ ((x5 : Int), (y5 : Int)) := g5
  refine gp zmv ?_
  refine gp zex ?_
  refine gp zex ?_
  refine gp zfa ?_
  refine zs1 ?_
  refine gp zfa ?_
  refine zs1 ?_
  refine gnt ?_
  refine gsr ?_
  refine gp zL ?_
  refine zc (fun d11 => ?_) (c := fun w1 F1 F2 h1 h2 hd hst => rdigest_ok h1 (hE.mv hst.still))
  refine gl_pureR (fun g11 => ?_)
  refine gp zfa ?_
  refine zsN ?_
  refine gnt ?_
  refine gsr ?_
  refine gp zfa ?_
  refine gp zl ?_
  refine zc ?_ (c := fun w1 F1 F2 h1 h2 hd hst => takeSigneds_ok (most := 7) h1 (hE.mv hst.still) (by decide))
  rintro ⟨a15, n15, c15, l15⟩
  refine gl_pureR (fun hp15 => ?_)
  obtain ⟨g15, k15, e15⟩ := hp15
  replace g15 : Ag (pList pSigned 7) _ l15 := g15
  replace k15 : n15 ≤ c15 := k15
  refine gp zfa ?_
  refine zs1 ?_
  refine gnt ?_
  refine gsr ?_
  refine gp zL ?_
  refine zsN ?_
  refine gnt ?_
  refine gc_ret ?_
  refine gx_retc rfl rfl (ld_aggS Ty.row_26 Ty.sz_26 (by repeat (first | exact Pick.here | apply Pick.there)) (by (simp only [List.drop_succ_cons, List.drop_zero, List.take_succ_cons, List.take_zero, List.cons_append, List.nil_append, List.append_assoc, drop_dc, drop_dc', take_dc, take_dc', drop_L, drop_L', take_L, take_L', len_L, Nat.reduceLeDiff, Nat.reduceSub, Nat.reduceAdd, Nat.le_refl, List.length_cons, List.length_append, List.length_nil, dc_length, List.drop_nil, List.take_nil, List.append_nil, List.length_map, List.length_replicate]; first | done | rfl)) (by first | rfl | (simp only [List.drop_succ_cons, List.drop_zero, List.take_succ_cons, List.take_zero, List.cons_append, List.nil_append, List.append_assoc, drop_dc, drop_dc', take_dc, take_dc', drop_L, drop_L', take_L, take_L', len_L, Nat.reduceLeDiff, Nat.reduceSub, Nat.reduceAdd, Nat.le_refl, List.length_cons, List.length_append, List.length_nil, dc_length, List.drop_nil, List.take_nil, List.append_nil, List.length_map, List.length_replicate]; first | done | omega))) ?_
  have ha : Ag pQC σ ⟨x5, y5, d11, l15⟩ := g5.bind (g11.bind (g15.bind (Ag.pure _)))
  have hr : rstep pQC σ = rstep (pList pSigned 7) (rstep pDig (rstep pAt (σ))) := by rw [pQC, rstep_bind g5, rstep_bind g11, rstep_bind g15, rstep_pure]
  rw [hr]
  intro w' hw
  refine ⟨(.int .i64 x5 :: .int .i64 y5 :: (dc d11 ++ [.slice a15 n15 c15]), ⟨x5, y5, d11, l15⟩), rfl, St.pureI ⟨ha, by first | rfl | simp only [List.length_cons, List.length_append, List.length_nil, dc_length, len_L] , all_cons' rfl (all_cons' rfl (all_app' (dc_one _) (all_cons' rfl all_nil')))⟩ ?_⟩
  exact (hw.conv (M := [LsR RdSigned 4 a15 n15 l15]) (by repeat (first | exact Sel.nil | (apply Sel.cons; · (repeat (first | exact Pick.here | apply Pick.there))))) (fun _ _ => vl_qc k15)).sel (by repeat (first | exact Sel.nil | (apply Sel.cons; · (repeat (first | exact Pick.here | apply Pick.there)))))

end Go.Proofs.YtkgbbnhdioghmaaGreatDoor

