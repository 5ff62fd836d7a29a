/- Walks, by program (wg.py) out of a spec. -/
import Derived.Test.YtkgbbnhdioghmaaDoorEngK
import Derived.Test.YtkgbbnhdioghmaaDoorWe
import Derived.Test.YtkgbbnhdioghmaaDoorPlP
namespace Go.Proofs.YtkgbbnhdioghmaaDoor
open Go
set_option linter.unusedVariables false
set_option linter.unusedSimpArgs false


/-- A reading of cells that stays as long as its blocks stay. -/
class RdK {α : Type} (rd : World → (Nat → Prop) → List Value → α → Prop) : Prop where
  mv : ∀ {w w' : World} {A A' : Nat → Prop} {cs : List Value} {x : α}, rd w A cs x → Still w A w' A' → rd w' A' cs x
instance : RdK (fun _ _ => RdDig) := ⟨fun h _ => h⟩
instance : RdK (fun _ _ => RdVdr) := ⟨fun h _ => h⟩
instance : RdK RdBytes := ⟨fun h k => h.mv k⟩
instance : RdK RdSig := ⟨fun h k => h.mv k⟩
instance : RdK RdSigned := ⟨fun h k => h.mv k⟩
instance : RdK RdLate := ⟨fun h k => h.mv k⟩
instance : RdK RdQC := ⟨fun h k => h.mv k⟩
instance : RdK RdTC := ⟨fun h k => h.mv k⟩
instance : RdK RdBlock := ⟨fun h k => h.mv k⟩
instance : RdK RdVote := ⟨fun h k => h.mv k⟩
instance : RdK RdTmo := ⟨fun h k => h.mv k⟩
instance : RdK RdProp := ⟨fun h k => h.mv k⟩
instance : RdK RdChg := ⟨fun h k => h.mv k⟩
instance : RdK RdMsg := ⟨fun h k => h.mv k⟩
theorem still_of {w w' : World} {F : Nat → Prop} (hk : ∀ k, k < w.heap.size → F k → w'.heap[k]? = w.heap[k]?) : Still w F w' F := fun k h hF => ⟨hk k h hF, hF⟩
theorem still_sub {w : World} {F G : Nat → Prop} (h : ∀ k, F k → G k) : Still w F w G := fun k _ hF => ⟨rfl, h k hF⟩
section
variable {α : Type} (rd : World → (Nat → Prop) → List Value → α → Prop) [RdK rd]
/-- Cells that read as x, in blocks that are owned. -/
def VlR (cs : List Value) (x : α) : Res := rdR (fun w F => rd w F cs x) (fun h hk => RdK.mv h (still_of hk))
/-- A slice that reads as l, all of it owned. -/
def LsR (size : Nat) (a : Option Addr) (n : Nat) (l : List α) : Res := rdR (fun w F => RdList (rd w F) w F size a n l) (fun h hk => RdList.mv h (still_of hk) fun _ _ hc => RdK.mv hc (still_of hk))
/-- Elements: what lies behind their cells. -/
def ElR (css : List (List Value)) (l : List α) : Res := rdR (fun w F => css.length = l.length ∧ ∀ (i : Nat) (c : List Value) (x : α), css[i]? = some c → l[i]? = some x → rd w F c x) (fun h hk => ⟨h.1, fun i c x h1 h2 => RdK.mv (h.2 i c x h1 h2) (still_of hk)⟩)
end
theorem stars_two {r s : Res} {w : World} {F : Nat → Prop} (h : stars [r, s] w F) : ∃ F1 F2, r.on w F1 ∧ s.on w F2 ∧ ∀ k, F k ↔ F1 k ∨ F2 k := by
  obtain ⟨F1, F2, h1, h2, hF, _⟩ := h
  exact ⟨F1, F2, h1, stars_one' h2, hF⟩
theorem stars_swap {r s : Res} {L : List Res} {w : World} {F : Nat → Prop} (h : stars (r :: s :: L) w F) : stars (s :: r :: L) w F := Pick.stars (.there .here) h
theorem stars_cons {r : Res} {L : List Res} {w : World} {F : Nat → Prop} (h : stars (r :: L) w F) : ∃ F1 F2, r.on w F1 ∧ stars L w F2 ∧ ∀ k, F k ↔ F1 k ∨ F2 k := by
  obtain ⟨F1, F2, h1, h2, hF, _⟩ := h; exact ⟨F1, F2, h1, h2, hF⟩
theorem rdR_mk {φ : World → (Nat → Prop) → Prop} {hl} {w : World} {F : Nat → Prop} {L : List Res} (h : φ w F) (hs : stars L w F) : stars [rdR φ hl] w F := stars_one ⟨h, stars_lt hs⟩
section
variable {α : Type} {rd : World → (Nat → Prop) → List Value → α → Prop} [RdK rd]
theorem el_nil {L : List Res} {w : World} {F : Nat → Prop} (h : stars L w F) : stars (ElR rd [] [] :: L) w F :=
  ⟨fun _ => False, F, ⟨⟨rfl, fun i c x h1 _ => by simp at h1⟩, fun _ h => h.elim⟩, h, fun k => by simp, fun _ h => h.elim⟩
theorem el_snoc {css : List (List Value)} {l : List α} {c : List Value} {x : α} {w : World} {F : Nat → Prop} (h : stars [ElR rd css l, VlR rd c x] w F) : stars [ElR rd (css ++ [c]) (l ++ [x])] w F := by
  obtain ⟨F1, F2, h1, h2, hF⟩ := stars_two h
  obtain ⟨⟨he, h1⟩, _⟩ := h1
  refine rdR_mk ⟨by simp [he], fun i c' x' hc hx => ?_⟩ h
  by_cases hi : i < css.length
  · rw [List.getElem?_append_left hi] at hc
    rw [List.getElem?_append_left (by omega)] at hx
    exact RdK.mv (h1 i c' x' hc hx) (still_sub fun k hk => (hF k).2 (.inl hk))
  · have hi' : i = css.length := by
      have := (List.getElem?_eq_some_iff.1 hc).1; simp at this; omega
    subst hi'
    rw [List.getElem?_append_right (by omega)] at hc hx
    simp only [Nat.sub_self, List.getElem?_cons_zero, Option.some.injEq] at hc
    simp only [he, Nat.sub_self, List.getElem?_cons_zero, Option.some.injEq] at hx
    subst hc; subst hx
    exact RdK.mv h2.1 (still_sub fun k hk => (hF k).2 (.inr hk))
theorem ls_of {e size n cap : Nat} {a : Option Addr} {css : List (List Value)} {l : List α} {w : World} {F : Nat → Prop} (hsz : ∀ c ∈ css, c.length = size) (h : stars [rowR e size a n cap css.flatten, ElR rd css l] w F) : stars [LsR rd size a n l] w F := by
  obtain ⟨F1, F2, h1, h2, hF⟩ := stars_two h
  obtain ⟨⟨he, h2⟩, _⟩ := h2
  exact rdR_mk ⟨css, (rowR.rd h1).mv (still_sub fun k hk => (hF k).2 (.inl hk)), hsz, he, fun i c x hc hx => RdK.mv (h2 i c x hc hx) (still_sub fun k hk => (hF k).2 (.inr hk))⟩ h
theorem ls_nil {size : Nat} {L : List Res} {w : World} {F : Nat → Prop} (h : stars L w F) : stars (LsR rd size none 0 [] :: L) w F :=
  ⟨fun _ => False, F, ⟨RdList.nil, fun _ h => h.elim⟩, h, fun k => by simp, fun _ h => h.elim⟩
end
theorem St.pureI {w0 w : World} {F0 : Nat → Prop} {L : List Res} {p : Prop} (hp : p) (h : St w0 F0 L w) : St w0 F0 (pureR p :: L) w := by
  obtain ⟨F, hF, hst⟩ := h; exact ⟨F, stars_pure_mk hp hF, hst⟩
theorem St.mapL {w0 w : World} {F0 : Nat → Prop} {L L' : List Res} (h : St w0 F0 L w) (k : ∀ F, stars L w F → stars L' w F) : St w0 F0 L' w := by
  obtain ⟨F, hF, hst⟩ := h; exact ⟨F, k F hF, hst⟩
/-- A callee's step, beside what stays. -/
theorem calls_frame {P : Program} {f : FuncId} {args : Array Value} {w : World} {F F1 F2 : Nat → Prop} {α : Type} {V : α → Value} {N : α → List Res} {L : List Res} (hc : Calls P f args w (Post w F1 V N)) (h2 : stars L w F2) (hF : ∀ k, F k ↔ F1 k ∨ F2 k) (hd : ∀ k, F1 k → ¬ F2 k) :
    Calls P f args w (Post w F V (fun x => N x ++ L)) := Calls.mono hc fun e w' ⟨x, he, hs⟩ => ⟨x, he, St.call (Stp.refl w F) h2 hF hd hs⟩

/-- What is left to read, and bytes that were read. -/
def BtR (a : Option Addr) (bs : List UInt8) (a2 : Option Addr) (l : List UInt8) : Res :=
  rdR (fun w F => RdRow w F 1 a bs.length (bs.map B8) ∧ RdRow w F 1 a2 l.length (l.map B8)) (fun h hk => ⟨h.1.mv (still_of hk), h.2.mv (still_of hk)⟩)
/-- A reader in block g that stands at σ; bytes of it that were read lie at a2. -/
def RdrB (TE : TypeId) (ea : Nat → Addr) (g : Nat) (σ : RSt) (a2 : Option Addr) (l : List UInt8) : Res := exR fun p : WS × Option Addr × Nat => allR [pureR (p.1.st = σ ∧ p.1.bs.length ≤ p.2.2), blk g 195 [eV TE ea p.1.err, .slice p.2.1 p.1.bs.length p.2.2], BtR p.2.1 p.1.bs a2 l]
abbrev RdrR (TE : TypeId) (ea : Nat → Addr) (g : Nat) (σ : RSt) : Res := RdrB TE ea g σ none []
section
variable {TE : TypeId} {ea : Nat → Addr} {g : Nat} {σ : RSt} {a2 : Option Addr} {l : List UInt8} {L : List Res} {w : World} {F : Nat → Prop}
theorem rr_open (h : stars (RdrB TE ea g σ a2 l :: L) w F) : ∃ s a c, WS.st s = σ ∧ s.bs.length ≤ c ∧ stars (blk g 195 [eV TE ea s.err, .slice a s.bs.length c] :: BtR a s.bs a2 l :: L) w F := by
  obtain ⟨⟨s, a, c⟩, h⟩ := stars_ex h
  obtain ⟨⟨h1, h2⟩, h3⟩ := stars_pure (stars_all h)
  exact ⟨s, a, c, h1, h2, h3⟩
theorem rr_shut {s : WS} {k m c : Nat} {a : Option Addr} (h : stars (blk g 195 [eV TE ea k, .slice a m c] :: BtR a s.bs a2 l :: L) w F) (hk : k = s.err) (hm : m = s.bs.length) (hs : s.st = σ) (hc : m ≤ c) : stars (RdrB TE ea g σ a2 l :: L) w F := by
  subst hk; subst hm
  exact stars_ex_mk (s, a, c) (stars_all_mk (stars_pure_mk ⟨hs, hc⟩ h))
theorem St.rdr {w0 : World} {F0 : Nat → Prop} {s : WS} {k m c : Nat} {a : Option Addr} (h : St w0 F0 (blk g 195 [eV TE ea k, .slice a m c] :: BtR a s.bs a2 l :: L) w) (hk : k = s.err) (hm : m = s.bs.length) (hs : s.st = σ) (hc : m ≤ c) : St w0 F0 (RdrB TE ea g σ a2 l :: L) w :=
  h.mapL fun F hF => rr_shut hF hk hm hs hc
theorem bt_weak {a : Option Addr} {bs : List UInt8} (h : stars (BtR a bs a2 l :: L) w F) : stars (BtR a bs none [] :: L) w F := by
  obtain ⟨F1, F2, ⟨h1, hl⟩, h2, hF, hd⟩ := h
  exact ⟨F1, F2, ⟨⟨h1.1, RdRow.nil⟩, hl⟩, h2, hF, hd⟩
theorem rr_weak (h : stars (RdrB TE ea g σ a2 l :: L) w F) : stars (RdrR TE ea g σ :: L) w F := by
  obtain ⟨s, a, c, h1, h2, F1, F3, g1, g2, hF, hd⟩ := rr_open h
  exact rr_shut ⟨F1, F3, g1, bt_weak g2, hF, hd⟩ rfl rfl h1 h2
theorem St.rrw {w0 : World} {F0 : Nat → Prop} (h : St w0 F0 (RdrB TE ea g σ a2 l :: L) w) : St w0 F0 (RdrR TE ea g σ :: L) w := h.mapL fun F hF => rr_weak hF
theorem bt_cut {a : Option Addr} {bs : List UInt8} {n c : Nat} (h : stars (BtR a bs a2 l :: L) w F) (hn : n ≤ bs.length) (hc : bs.length ≤ c) :
    stars (BtR (if c = n then a else a.map (·.add (n * 1))) (bs.drop n) (if c = 0 then a else a.map (·.add (0 * 1))) (bs.take n) :: L) w F := by
  obtain ⟨F1, F2, ⟨h1, hl⟩, h2, hF, hd⟩ := h
  have e1 := h1.1.cut8 (l := n) (h := bs.length) hn (Nat.le_refl _) hc
  have e2 := h1.1.cut8 (l := 0) (h := n) (Nat.zero_le _) hn hc
  rw [show (bs.drop n).take (bs.length - n) = bs.drop n from List.take_of_length_le (by simp)] at e1
  rw [List.drop_zero, Nat.sub_zero] at e2
  refine ⟨F1, F2, ⟨⟨?_, ?_⟩, hl⟩, h2, hF, hd⟩
  · rw [List.length_drop]; exact e1
  · rw [List.length_take, Nat.min_eq_left hn]; exact e2
theorem rdB_row {L' : List Res} {w : World} {F1 F2 : Nat → Prop} (h2 : stars L w F2) (hd : ∀ k, F1 k → ¬ F2 k) (hp : Pick L (RdrB TE ea g σ a2 l) L') : RdRow w (fun k => ¬ F1 k) 1 a2 l.length (l.map B8) := by
  obtain ⟨s, a, c, _, _, G1, G2, _, ⟨G3, G4, ⟨⟨_, hr⟩, _⟩, _, hG2, _⟩, hG, _⟩ := rr_open (hp.stars h2)
  exact hr.mv fun k _ hk => ⟨rfl, fun h => hd k h ((hG k).2 (.inr ((hG2 k).2 (.inl hk))))⟩
theorem St.rdB {w0 : World} {F0 : Nat → Prop} {L' : List Res} (h : St w0 F0 L w) (hp : Pick L (RdrB TE ea g σ a2 l) L') : RdRow w (fun _ => True) 1 a2 l.length (l.map B8) := by
  obtain ⟨F, hF, _⟩ := h
  exact (rdB_row (F1 := fun _ => False) hF (fun _ h => h.elim) hp).mv fun _ _ _ => ⟨rfl, trivial⟩
end
section
variable {P : Program} {w0 : World} {F0 : Nat → Prop} {L : List Res} {n : Nat} {env : Env} {d : Option Tmp} {ty : TypeId} {pos : String} {af : Array Edge} {gd : Option (Nat × Bool)}
/-- The reader's error. -/
theorem r_lde {x : Operand} {T : TypeId} {TE : TypeId} {ea : Nat → Addr} {g : Nat} {σ : RSt} {a2 : Option Addr} {l : List UInt8} {L' : List Res} [RO P T] (hx : ev n env x = .pointer (some ⟨g, 0, none⟩) := by exact rfl) (hp : Pick L (RdrB TE ea g σ a2 l) L' := by repeat (first | exact Pick.here | apply Pick.there)) :
    Runs P w0 F0 L n env ⟨d, .load T x, ty, pos, af, gd⟩ (eV TE ea (errOf σ)) := r_load hx fun w ⟨F, hF, _⟩ => run_loadVar_one RO.h (by
  obtain ⟨s, a, c, hs, _, G1, G2, hb, _⟩ := rr_open (hp.stars hF)
  rw [cell_blk hb, ← hs, WS.errOf_st]; rfl)
/-- A byte that was read. -/
theorem r_ldb {x : Operand} {T : TypeId} {TE : TypeId} {ea : Nat → Addr} {g : Nat} {σ : RSt} {ga o i k : Nat} {l : List UInt8} {L' : List Res} [RO P T] (hx : ev n env x = .pointer (some ⟨ga, o + i, none⟩) := by exact rfl) (hp : Pick L (RdrB TE ea g σ (some ⟨ga, o, none⟩) l) L' := by repeat (first | exact Pick.here | apply Pick.there)) (hi : i = k) (hk : k < l.length) :
    Runs P w0 F0 L n env ⟨d, .load T x, ty, pos, af, gd⟩ (B8 (l.getD k 0)) := r_load hx fun w hw => run_loadVar_one RO.h (by
  obtain ⟨g', o', e, _, _, hr⟩ := (hw.rdB hp).2.2 (by omega)
  cases e
  subst hi
  refine hr i _ ?_
  rw [List.getElem?_map, List.getElem?_eq_getElem hk]; simp [List.getD, List.getElem?_eq_getElem hk])
end
theorem valN_snoc (l : List UInt8) (b : UInt8) : valN (l ++ [b]) = valN l * 256 + b.toNat := by simp [valN, List.foldl_append]
theorem or_byte {m : Nat} {b : UInt8} (h : m * 256 + b.toNat < 9223372036854775808) : bitop .or .i64 ((m * 256 : Nat) : Int) (b.toNat : Int) = ((m * 256 + b.toNat : Nat) : Int) := by
  have hb := b.toNat_lt
  have e : m * 256 ||| b.toNat = m * 256 + b.toNat := by
    have := Nat.shiftLeft_add_eq_or_of_lt (i := 8) (b := b.toNat) (by omega) m
    rw [Nat.shiftLeft_eq] at this
    exact this.symm
  have h1 : (BitVec.ofInt IntKind.i64.bits ((m * 256 : Nat) : Int) ||| BitVec.ofInt IntKind.i64.bits ((b.toNat : Nat) : Int)).toNat = m * 256 + b.toNat := by
    rw [BitVec.ofInt_natCast, BitVec.ofInt_natCast, BitVec.toNat_or, BitVec.toNat_ofNat, BitVec.toNat_ofNat]
    simp only [IntKind.bits]
    have h64 : (2 : Nat) ^ 64 = 18446744073709551616 := by decide
    rw [h64, Nat.mod_eq_of_lt (show m * 256 < 18446744073709551616 from Nat.lt_of_le_of_lt (Nat.le_add_right _ _) (Nat.lt_trans h (by decide))), Nat.mod_eq_of_lt (show b.toNat < 18446744073709551616 from Nat.lt_trans hb (by decide)), e]
  show IntKind.i64.wrap ((BitVec.ofInt IntKind.i64.bits ((m * 256 : Nat) : Int) ||| BitVec.ofInt IntKind.i64.bits ((b.toNat : Nat) : Int)).toNat : Int) = _
  rw [h1, wrap_i64 (by omega) (by omega)]
theorem rstep_num {wd : Nat} {σ : RSt} {l : List UInt8} (h : Ag (pTake wd) σ l) : rstep (pNum wd) σ = rstep (pTake wd) σ := by rw [pNum, rstep_bind h, rstep_pure]
theorem ag_num {wd : Nat} {σ : RSt} {l : List UInt8} (h : Ag (pTake wd) σ l) : Ag (pNum wd) σ (valN l : Int) := h.bind (Ag.pure _)

attribute [local irreducible] Gl Gc Gx Gs Runs Wt

set_option maxHeartbeats 400000 in
theorem newReader_ok {w : World} {F : Nat → Prop} {TE : Nat} {ea : Nat → Addr} {a : Option Addr} {n c : Nat} {b : List UInt8} (h : stars [] w F) (hx : RdRow w (fun k => ¬ F k) 1 a n (b.map B8)) (hb : n ≤ 1099511627776) :
    Calls Tryd.prog 105 #[.slice a n c] w (Post w F (fun g : Nat => .pointer (some ⟨g, 0, none⟩)) (fun g => [RdrR TE ea g (.ok b)])) := by
  have hnb : n = b.length := by have := hx.1; simp at this; omega
  refine g_enter (env := [(0, .slice a n c)]) Tryd.func105 rfl h Tryd.ntmps105 rfl rfl ?_
  refine gsr ?_
  refine gp zas ?_
  refine gnt ?_
  refine gsr ?_
  refine gp zmv ?_
  refine zc ?_ (c := fun w1 F1 F2 h1 h2 hd hst => cloneBytes_ok h1 (hx.mv hst.still) (one_B8 _) hb)
  rintro ⟨a4, c4⟩
  refine gp (r_build (cs := [.nilIface, .slice a4 n c4]) Ty.zc_195 Ty.pl_195 rfl) ?_
  refine zbN fun b6 => ?_
  refine gp zas ?_
  refine gnt ?_
  refine gc_ret ?_
  refine gx_ret1 rfl (by conv => lhs; whnf) ?_
  intro w' hw
  have hle := (hw.rowLe (e := 5) (size := 1) (a := a4) (m := n) (c := c4) (xs := b.map B8) (by repeat (first | exact Pick.here | apply Pick.there))).1
  refine ⟨b6, rfl, St.rdr (s := ⟨0, b⟩) (k := 0) (m := n) (c := c4) (a := a4) ?_ rfl hnb rfl hle⟩
  rw [eV_zero]
  refine (hw.sel (M := [blk b6 _ _, rowR 5 1 a4 n c4 _]) (by repeat (first | exact Sel.nil | (apply Sel.cons; · (repeat (first | exact Pick.here | apply Pick.there)))))).mapL fun F' hF' => ?_
  obtain ⟨G1, G2, h1, h2, hF, hd⟩ := hF'
  refine ⟨G1, G2, h1, ?_, hF, hd⟩
  obtain ⟨G3, G4, g3, g4, hG, _⟩ := h2
  have hr := rowR.rd g3
  rw [hnb] at hr
  exact rdR_mk (L := [rowR 5 1 a4 n c4 (b.map B8)]) ⟨hr.mv (still_sub fun k hk => (hG k).2 (.inl hk)), RdRow.nil⟩ ⟨G3, G4, g3, g4, hG, by assumption⟩


theorem failR_ok {w : World} {F : Nat → Prop} {TE : Nat} {ea : Nat → Addr} {g : Nat} {σ : RSt} {k : Nat} (hk : k ≠ 0) (h : stars [RdrR TE ea g σ] w F) : Calls Tryd.prog 100 #[.pointer (some ⟨g, 0, none⟩), eV TE ea k] w (Post w F (fun _ : Unit => .tuple #[]) (fun _ => [RdrR TE ea g (failE k σ)])) := by
  obtain ⟨s, a, c, hs, hc, G1, G2, hb, hr, hF, hd⟩ := rr_open h
  refine Calls.mono (calls_frame (fail_ok (j := k) (stars_one hb)) hr hF hd) fun e w' ⟨x, he, hst⟩ => ⟨x, he, ?_⟩
  have hst' : St w F [blk g 195 [eV TE ea (if s.err = 0 then k else s.err), .slice a s.bs.length c], BtR a s.bs none []] w' := hst
  refine St.rdr (s := ⟨if s.err = 0 then k else s.err, s.bs⟩) hst' rfl rfl ?_ hc
  rw [← hs]
  by_cases he : s.err = 0 <;> simp [WS.st, failE, he, hk]

set_option maxHeartbeats 400000 in
theorem take_ok' {w : World} {F : Nat → Prop} {TE : Nat} {ea : Nat → Addr} {g : Nat} {σ : RSt} (h : stars [RdrR TE ea g σ] w F) {es : List Nat} [Has es 2] (hE : GErr es w (fun k => ¬ F k) TE ea) {n : Nat}  :
    Calls Tryd.prog 114 #[.pointer (some ⟨g, 0, none⟩), .int .i64 (n : Int)] w (Post w F (fun r : Option Addr × Nat × List UInt8 => .slice r.1 r.2.2.length r.2.1) (fun r => [pureR (Ag (pTake n) σ r.2.2 ∧ r.2.2.length ≤ r.2.1 ∧ r.2.2.length ≤ n), RdrB TE ea g (rstep (pTake n) σ) r.1 r.2.2])) := by
  obtain ⟨s, a, c, hs, hc, h'⟩ := rr_open h
  refine g_enter (env := [(0, .pointer (some ⟨g, 0, none⟩)), (1, .int .i64 (n : Int))]) Tryd.func114 rfl h' Tryd.ntmps114 rfl rfl ?_
  refine gsr ?_
  refine gp zas ?_
  refine gnt ?_
  refine gc_seq ?_
  refine gsr ?_
  refine gp zmv ?_
  refine gp znc ?_
  refine gp zfa ?_
  refine gp zfa ?_
  refine gp zl ?_
  refine gp (r_nenil rfl (by kernel_rfl)) ?_
  refine gnt ?_
  refine gif rfl (fun hc11 => ?_) (fun hc11 => ?_)
  · try simp only at hc11
    have e1 : errOf σ ≠ 0 := by rw [← hs, WS.errOf_st]; exact hc11
    refine gsr ?_
    refine gp zas ?_
    refine gnt ?_
    refine gc_ret ?_
    refine gx_then_ret ?_
    refine gx_ret1 rfl (by conv => lhs; whnf) ?_
    exact fun w' hw => ⟨(none, 0, []), rfl, St.pureI ⟨Ag.bad e1 _, Nat.le_refl _, Nat.zero_le _⟩ (St.rdr (hw.sel (M := [blk g 195 [_, .slice a _ c], BtR a s.bs none []]) (by repeat (first | exact Sel.nil | (apply Sel.cons; · (repeat (first | exact Pick.here | apply Pick.there)))))) rfl rfl (by rw [errOf_rstep _ e1]; exact hs) hc)⟩
  · try simp only at hc11
    have hs' : σ = .ok s.bs := by rw [← hs, WS.st, if_pos hc11]
    refine gc_skip ?_
    refine gx_then ?_
    refine gc_seq ?_
    refine gsr ?_
    refine gp zmv ?_
    refine gp zmv ?_
    refine gp znc ?_
    refine gp zfa ?_
    refine gp zl ?_
    refine gp zln ?_
    refine gp zgt ?_
    refine gnt ?_
    refine gif rfl (fun hc18 => ?_) (fun hc18 => ?_)
    · try simp only at hc18
      have hn : s.bs.length < n := by omega
      have hp : pTake n s.bs = .error 2 := by rw [pTake, if_pos hn]
      refine gc_seq ?_
      refine gc_regionT 4 (by kernel_rfl) (by kernel_rfl) ?_
      refine sp zmv ?_
      refine sp znc ?_
      refine sp zfa ?_
      refine sp (r_ld1o rfl Ty.row_35 (hE.c 2 Has.h) (hE.n 2 Has.h)) ?_
      refine gs_nil ?_
      refine zc (fun _ => ?_) (c := fun w1 F1 F2 h1 h2 hd hst => fail_ok h1)
      refine gnt ?_
      refine gsr ?_
      refine gp zas ?_
      refine gnt ?_
      refine gc_ret ?_
      refine gx_then_ret ?_
      refine gx_ret1 rfl (by conv => lhs; whnf) ?_
      rw [if_pos hc11]
      exact fun w' hw => ⟨(none, 0, []), rfl, St.pureI ⟨by rw [hs']; exact Ag.ne hp _, Nat.le_refl _, Nat.zero_le _⟩ (St.rdr (s := ⟨2, s.bs⟩) (hw.sel (M := [blk g 195 [_, .slice a _ c], BtR a s.bs none []]) (by repeat (first | exact Sel.nil | (apply Sel.cons; · (repeat (first | exact Pick.here | apply Pick.there)))))) rfl rfl (by rw [hs']; simp only [rstep, hp]; rfl) hc)⟩
    · try simp only at hc18
      have hn : n ≤ s.bs.length := by omega
      have hp : pTake n s.bs = .ok (s.bs.take n, s.bs.drop n) := by rw [pTake, if_neg (by omega)]
      refine gc_skip ?_
      refine gx_then ?_
      refine gsr ?_
      refine gp zmv ?_
      refine gp znc ?_
      refine gp zfa ?_
      refine gp zl ?_
      refine gp zmv ?_
      refine gp (r_slice_slice (a := a) (m := s.bs.length) (c := c) (l := 0) (h := n) rfl Ty.sl_33 Ty.sz_5 rfl ⟨_, rfl⟩ (by omega) (by omega)) ?_
      refine gp zas ?_
      refine gnt ?_
      refine gsr ?_
      refine gp zmv ?_
      refine gp zmv ?_
      refine gp znc ?_
      refine gp zfa ?_
      refine gp zl ?_
      refine gp zmv ?_
      refine gp (r_slice_slice (a := a) (m := s.bs.length) (c := c) (l := n) (h := s.bs.length) rfl Ty.sl_33 Ty.sz_5 ⟨_, rfl⟩ rfl (by omega) (by omega)) ?_
      refine gp znc ?_
      refine gp zfa ?_
      refine zs1 ?_
      refine gnt ?_
      refine gsr ?_
      refine gp zmv ?_
      refine gp zas ?_
      refine gnt ?_
      refine gc_ret ?_
      refine gx_ret1 rfl (by conv => lhs; whnf) ?_
      have hdl : (s.bs.drop n).length = s.bs.length - n := List.length_drop
      have htl : (s.bs.take n).length = n := by rw [List.length_take]; omega
      refine fun w' hw => ⟨((if c = 0 then a else a.map (·.add (0 * 1))), c - 0, s.bs.take n), by simp only [htl]; rfl, St.pureI ⟨by rw [hs']; exact Ag.of hp, by simp only [htl]; omega, by simp only [htl]; omega⟩ (St.rdr (s := ⟨0, s.bs.drop n⟩) (k := s.err) (m := s.bs.length - n) (c := c - n) (a := if c = n then a else a.map (·.add (n * 1))) ?_ hc11 hdl.symm (by rw [hs']; simp only [rstep, hp]; rfl) (by omega))⟩
      refine (hw.sel (M := [BtR a s.bs none [], blk g 195 [_, .slice (if c = n then a else a.map (·.add (n * 1))) _ _]]) (by repeat (first | exact Sel.nil | (apply Sel.cons; · (repeat (first | exact Pick.here | apply Pick.there)))))).mapL fun F' hF' => ?_
      have := bt_cut (n := n) hF' hn hc
      exact stars_swap this

end Go.Proofs.YtkgbbnhdioghmaaDoor
