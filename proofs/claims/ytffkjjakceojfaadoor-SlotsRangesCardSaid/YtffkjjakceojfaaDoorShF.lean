/- The shell, part F (with part A): what an argument reads as, rows of bytes, numbers, bools, as the walks' reading of memory. -/
import Derived.Test.YtffkjjakceojfaaDoorRd
import Derived.Test.YtffkjjakceojfaaDoorTy
import Derived.OpenShut
import Derived.ChangeArms
namespace Go.Proofs.YtffkjjakceojfaaDoor
open Go
set_option linter.unusedVariables false
set_option linter.unusedSimpArgs false

section
variable {H : Type} {enc : TypeId × Value → H} {P : Program} {w : World} {base : Nat} {sp : Nat → Bool} {held : Bool}
/-- Cells of type T read as something that rd says. -/
def Opens {α : Type} (enc : TypeId × Value → H) (P : Program) (w : World) (base : Nat) (sp : Nat → Bool) (held : Bool) (T : TypeId) (rd : List Value → α → Prop) : Prop :=
  ∀ fuel cs x, DataW.trod enc P w base sp held fuel T cs = some x → ∃ o, rd cs o
theorem cellsOf_sz {e s : Nat} (hs : szT P e = some s) : P.cellsOf e = s := by
  unfold szT at hs
  cases hi : P.info? e with
  | none => simp [hi] at hs
  | some i => simp [hi] at hs; simp [Program.cellsOf, hi, hs]
theorem opens_int {T : TypeId} {k : IntKind} (ht : P.underlying T = some (.int k)) : Opens enc P w base sp held T (fun cs n => cs = [.int k n]) := fun fuel cs x h => by
  obtain ⟨n, h1, _⟩ := DataW.trod_int ht h
  exact ⟨n, h1⟩
theorem opens_dig {T e : TypeId} (ht : arrT P T = some (16, e)) (he : P.underlying e = some (.int .u8)) (hs : szT P e = some 1) (hsT : szT P T = some 16) : Opens enc P w base sp held T RdDig := fun fuel cs x h => by
  obtain ⟨xs, m, rfl, rfl, hl, hx, hi⟩ := DataW.trod_array (run_arrT ht) h
  rw [cellsOf_sz hsT] at hl
  have hb : ∀ i, i < 16 → ∃ b : UInt8, cs[i]? = some (B8 b) := fun i hi16 => by
    have h1 := hi i hi16
    rw [cellsOf_sz hs, List.getElem?_eq_getElem (by omega)] at h1
    obtain ⟨n, h2, _, h3⟩ := DataW.trod_int he h1
    have h4 : cs[i]? = some (.int .u8 n) := by
      have : ((cs.drop (i * 1)).take 1)[0]? = some (.int .u8 n) := by rw [h2]; rfl
      rw [List.getElem?_take] at this
      simpa using this
    have hn : 0 ≤ n ∧ n ≤ 255 := by
      simp [Lit.wf, IntKind.min, IntKind.max, IntKind.signed, IntKind.bits] at h3; omega
    refine ⟨UInt8.ofNat n.toNat, ?_⟩
    rw [h4]
    simp only [B8, UInt8.toNat_ofNat', Option.some.injEq, Value.int.injEq, true_and]
    omega
  have hall : ∃ l : List UInt8, l.map B8 = cs := by
    have : ∀ (cs : List Value), (∀ i, i < cs.length → ∃ b : UInt8, cs[i]? = some (B8 b)) → ∃ l : List UInt8, l.map B8 = cs := by
      intro cs
      induction cs with
      | nil => intro _; exact ⟨[], rfl⟩
      | cons v r ih =>
        intro hh
        obtain ⟨b, hb0⟩ := hh 0 (by simp)
        obtain ⟨l, hl'⟩ := ih fun i hi' => by simpa using hh (i + 1) (by simpa using hi')
        simp at hb0
        exact ⟨b :: l, by simp [hl', hb0]⟩
    exact this cs (by rw [hl]; exact hb)
  obtain ⟨l, hl'⟩ := hall
  exact ⟨⟨l, by have := congrArg List.length hl'; simp at this; omega⟩, by rw [RdDig, dc]; exact hl'.symm⟩
theorem opens_byte {T : TypeId} (he : P.underlying T = some (.int .u8)) : Opens enc P w base sp held T (fun cs (b : UInt8) => cs = [B8 b]) := fun fuel cs x h => by
  obtain ⟨n, h2, _, h3⟩ := DataW.trod_int he h
  have hn : 0 ≤ n ∧ n ≤ 255 := by
    simp [Lit.wf, IntKind.min, IntKind.max, IntKind.signed, IntKind.bits] at h3; omega
  refine ⟨UInt8.ofNat n.toNat, ?_⟩
  rw [h2]
  simp only [B8, UInt8.toNat_ofNat', List.cons.injEq, Value.int.injEq, true_and, and_true]
  omega
theorem choose_list {α : Type} {rd : List Value → α → Prop} : ∀ (n : Nat) (f : Nat → List Value), (∀ i, i < n → ∃ o, rd (f i) o) → ∃ l : List α, l.length = n ∧ ∀ i o, l[i]? = some o → rd (f i) o
  | 0, _, _ => ⟨[], rfl, fun i o h => by simp at h⟩
  | n + 1, f, h => by
    obtain ⟨l, h1, h2⟩ := choose_list n f fun i hi => h i (by omega)
    obtain ⟨o, ho⟩ := h n (by omega)
    refine ⟨l ++ [o], by simp [h1], fun i x hx => ?_⟩
    by_cases hi : i < l.length
    · rw [List.getElem?_append_left hi] at hx; exact h2 i x hx
    · rw [List.getElem?_append_right (by omega)] at hx
      have : i - l.length = 0 := by
        rcases Nat.eq_zero_or_pos (i - l.length) with h0 | h0
        · exact h0
        · rw [List.getElem?_eq_none (by simp; omega)] at hx; cases hx
      rw [this] at hx
      simp at hx; subst hx
      rw [show i = n by omega]; exact ho
theorem opens_slice {α : Type} {rd : List Value → α → Prop} {T e : TypeId} {s : Nat} (ht : sliceT P T = some e) (hs : szT P e = some s) (hpos : 0 < s) (he : Opens enc P w base sp held e rd) :
    Opens enc P w base sp held T (fun cs (l : List α) => ∃ a n c, cs = [.slice a n c] ∧ n ≤ c ∧ RdList rd w (fun _ => True) s a n l) := fun fuel cs x h => by
  rcases DataW.trod_slice (run_sliceT ht) h with ⟨rfl, _⟩ | ⟨a, len, cap, elems, rest, m, rfl, rfl, _, hb, hlc, hcm, hel, hi, _, _⟩
  · exact ⟨[], none, 0, 0, rfl, Nat.le_refl _, RdList.nil⟩
  · rw [cellsOf_sz hs] at hi
    have hc : ∀ i, i < len → ∃ cs, w.cells? base (a.add (i * s)) s = some cs ∧ ∃ o, rd cs o := fun i hil => by
      have h1 := hi i hil
      rw [List.getElem?_eq_getElem (by omega)] at h1
      cases hcs : w.cells? base (a.add (i * s)) s with
      | none => simp [hcs] at h1
      | some cs => rw [hcs] at h1; exact ⟨cs, rfl, he _ _ _ h1⟩
    let f : Nat → List Value := fun i => (w.cells? base (a.add (i * s)) s).getD []
    have hf : ∀ i, i < len → w.cells? base (a.add (i * s)) s = some (f i) := fun i hil => by
      obtain ⟨cs, h1, _⟩ := hc i hil
      simp [f, h1]
    have hfl : ∀ i, i < len → (f i).length = s := fun i hil => (World.cells?_some (hf i hil)).2.1
    obtain ⟨l, hl1, hl2⟩ := choose_list (rd := rd) len f fun i hil => by
      obtain ⟨cs, h1, o, ho⟩ := hc i hil
      rw [hf i hil] at h1; cases h1; exact ⟨o, ho⟩
    refine ⟨l, some a, len, cap, rfl, hlc, (List.range len).map f, ?_, ?_, by simp [hl1], ?_⟩
    · have hcss : ∀ c ∈ (List.range len).map f, c.length = s := by
        intro c hc'
        obtain ⟨i, hi', rfl⟩ := List.mem_map.1 hc'
        exact hfl i (List.mem_range.1 hi')
      refine ⟨by rw [flatten_len hcss]; simp, Nat.le_trans hlc hcm, fun hlen => ?_⟩
      have h00 : w.cell? a = (f 0)[0]? := by
        have := (World.cells?_some (hf 0 hlen)).2.2 0 hpos
        simpa [Addr.add] using this
      rw [List.getElem?_eq_getElem (by rw [hfl 0 hlen]; exact hpos)] at h00
      have hlt : a.block < w.heap.size := World.block_lt_of_cell? w a h00
      have hspot : a.spot = none := by
        unfold World.cell? at h00
        split at h00
        · split at h00
          · cases h00
          · rename_i hsp; simpa using hsp
        · cases h00
      obtain ⟨g, o, z⟩ := a
      simp only at hspot; subst hspot
      have hcell : ∀ i j, i < len → j < s → w.cell? ⟨g, o + (i * s + j), none⟩ = (f i)[j]? := fun i j hil hj => by
        have := (World.cells?_some (hf i hil)).2.2 j hj
        rwa [Addr.add_mid, Addr.add_mid, Nat.add_assoc] at this
      refine ⟨g, o, rfl, trivial, hlt, fun j v hj => ?_⟩
      have hjl : j < len * s := by
        have := (List.getElem?_eq_some_iff.1 hj).1
        rw [flatten_len hcss] at this; simpa using this
      have hdiv : j / s < len := by rw [Nat.div_lt_iff_lt_mul hpos]; exact hjl
      have hmod : j % s < s := Nat.mod_lt _ hpos
      have hj' : j = j / s * s + j % s := by rw [Nat.mul_comm]; exact (Nat.div_add_mod j s).symm
      have hseg : (((List.range len).map f).flatten.drop (j / s * s)).take s = f (j / s) := flatten_at hcss (by simp [hdiv])
      have hv : (f (j / s))[j % s]? = some v := by
        rw [← hseg, List.getElem?_take, if_pos hmod, List.getElem?_drop, ← hj']; exact hj
      rw [← hv, ← hcell _ _ hdiv hmod, ← hj']
    · intro c hc'
      obtain ⟨i, hi', rfl⟩ := List.mem_map.1 hc'
      exact hfl i (List.mem_range.1 hi')
    · intro i c x h1 h2
      rw [List.getElem?_map] at h1
      have hil : i < len := by rw [← hl1]; exact (List.getElem?_eq_some_iff.1 h2).1
      rw [List.getElem?_range hil] at h1
      simp at h1; subst h1
      exact hl2 i x h2
/-- A slice of bytes. -/
theorem opens_bytes {T e : TypeId} (ht : sliceT P T = some e) (hs : szT P e = some 1) (he : P.underlying e = some (.int .u8)) : Opens enc P w base sp held T (RdBytes w (fun _ => True)) := fun fuel cs x h => by
  obtain ⟨l, a, n, c, h1, h2, css, h3, h4, h5, h6⟩ := opens_slice ht hs (by decide) (opens_byte he) fuel cs x h
  refine ⟨l, a, n, c, h1, h2, ?_⟩
  have e1 : css.flatten = l.map B8 := by
    have : css = l.map fun b => [B8 b] := by
      apply List.ext_getElem?
      intro i
      rw [List.getElem?_map]
      by_cases hi : i < l.length
      · have a1 : css[i]? = some css[i] := List.getElem?_eq_getElem (by omega)
        have a2 : l[i]? = some l[i] := List.getElem?_eq_getElem hi
        rw [a1, a2, h6 i _ _ a1 a2]; rfl
      · rw [List.getElem?_eq_none (by omega), List.getElem?_eq_none (by omega)]; rfl
    rw [this]
    clear h3 h4 h5 h6 this
    induction l with
    | nil => rfl
    | cons b r ih => simp [ih]
  rw [e1] at h3; exact h3
/-- The field of a struct. -/
theorem opens_field {α : Type} {rd : List Value → α → Prop} {T : TypeId} {fs : Array Field} {fuel : Nat} {cs : List Value} {x : DataW H × List MemPlace} (ht : P.underlying T = some (.struct fs)) (h : DataW.trod enc P w base sp held fuel T cs = some x)
    {i o : Nat} {f : TypeId} (hf : (fs[i]?).map (fun f => (f.type, f.offset)) = some (f, o)) {s : Nat} (hs : szT P f = some s) (ho : Opens enc P w base sp held f rd) : ∃ a, rd ((cs.drop o).take s) a := by
  obtain ⟨xs, n, rfl, rfl, hl, hx, hi⟩ := DataW.trod_struct ht h
  cases hfi : fs[i]? with
  | none => simp [hfi] at hf
  | some fd =>
    simp only [hfi, Option.map_some, Option.some.injEq, Prod.mk.injEq] at hf
    obtain ⟨rfl, rfl⟩ := hf
    have h1 := hi i fd hfi
    have hlt : i < fs.size := (Array.getElem?_eq_some_iff.1 hfi).1
    rw [List.getElem?_eq_getElem (by omega), cellsOf_sz hs] at h1
    exact ho _ _ _ h1
theorem opens_len {T : TypeId} {fs : Array Field} {fuel s : Nat} {cs : List Value} {x : DataW H × List MemPlace} (ht : P.underlying T = some (.struct fs)) (h : DataW.trod enc P w base sp held fuel T cs = some x) (hs : szT P T = some s) : cs.length = s := by
  obtain ⟨xs, n, _, _, hl, _⟩ := DataW.trod_struct ht h
  rw [hl, cellsOf_sz hs]
def fieldT (P : Program) (T i : Nat) : Option (Nat × Nat) := match P.underlying T with
  | some (.struct fs) => (fs[i]?).map fun f => (f.type, f.offset)
  | _ => none
theorem fieldT_struct {T i f o : Nat} (h : fieldT P T i = some (f, o)) : ∃ fs, P.underlying T = some (.struct fs) ∧ (fs[i]?).map (fun f => (f.type, f.offset)) = some (f, o) := by
  unfold fieldT at h
  split at h
  · rename_i fs hu; exact ⟨fs, hu, h⟩
  · cases h
theorem opens_fieldT {α : Type} {rd : List Value → α → Prop} {T i f o s : Nat} {fuel : Nat} {cs : List Value} {x : DataW H × List MemPlace} (hf : fieldT P T i = some (f, o)) (hs : szT P f = some s) (ho : Opens enc P w base sp held f rd)
    (h : DataW.trod enc P w base sp held fuel T cs = some x) : ∃ a, rd ((cs.drop o).take s) a := by
  obtain ⟨fs, hu, hi⟩ := fieldT_struct hf
  exact opens_field hu h hi hs ho
theorem opens_lenT {T i f o s : Nat} {fuel : Nat} {cs : List Value} {x : DataW H × List MemPlace} (hf : fieldT P T i = some (f, o)) (hs : szT P T = some s) (h : DataW.trod enc P w base sp held fuel T cs = some x) : cs.length = s := by
  obtain ⟨fs, hu, hi⟩ := fieldT_struct hf
  exact opens_len hu h hs
theorem seg (cs : List Value) (o s : Nat) : cs.drop o = (cs.drop o).take s ++ cs.drop (o + s) := by
  rw [← List.drop_drop, List.take_append_drop]
theorem drop_all {cs : List Value} {n : Nat} (h : cs.length = n) : cs.drop n = [] := List.drop_eq_nil_of_le (by omega)
end
section
variable {H : Type} {enc : TypeId × Value → H} {P : Program} {w : World} {base : Nat} {sp : Nat → Bool} {held : Bool}
abbrev TT : Nat → Prop := fun _ => True
def Int64 (n : Int) : Prop := -9223372036854775808 ≤ n ∧ n ≤ 9223372036854775807
theorem opens_i64 {T : TypeId} (ht : P.underlying T = some (.int .i64)) : Opens enc P w base sp held T (fun cs n => cs = [.int .i64 n] ∧ Int64 n) := fun fuel cs x h => by
  obtain ⟨n, h1, _, h3⟩ := DataW.trod_int ht h
  refine ⟨n, h1, ?_⟩
  simp [Lit.wf, IntKind.min, IntKind.max, IntKind.signed, IntKind.bits] at h3
  unfold Int64; omega
theorem opens_bool {T : TypeId} (ht : P.underlying T = some .bool) : Opens enc P w base sp held T (fun cs b => cs = [.bool b]) := fun fuel cs x h => by
  obtain ⟨b, h1, _⟩ := DataW.trod_bool ht h
  exact ⟨b, h1⟩
theorem rd_rowL {α : Type} {V : α → Value} {A : Nat → Prop} {a : Option Addr} {n : Nat} {l : List α} (h : RdList (fun cs x => cs = [V x]) w A 1 a n l) : RdRow w A 1 a n (l.map V) := by
  obtain ⟨css, h3, h4, h5, h6⟩ := h
  have e1 : css.flatten = l.map V := by
    have : css = l.map fun b => [V b] := by
      apply List.ext_getElem?
      intro i
      rw [List.getElem?_map]
      by_cases hi : i < l.length
      · have a1 : css[i]? = some css[i] := List.getElem?_eq_getElem (by omega)
        have a2 : l[i]? = some l[i] := List.getElem?_eq_getElem hi
        rw [a1, a2, h6 i _ _ a1 a2]; rfl
      · rw [List.getElem?_eq_none (by omega), List.getElem?_eq_none (by omega)]; rfl
    rw [this]
    clear h3 h4 h5 h6 this
    induction l with
    | nil => rfl
    | cons b r ih => simp [ih]
  rw [e1] at h3; exact h3
/-- Cells of a slice whose elements are V of something. -/
def RdRowC {α : Type} (V : α → Value) (w : World) (A : Nat → Prop) (cs : List Value) (l : List α) : Prop := ∃ a n c, cs = [.slice a n c] ∧ n ≤ c ∧ RdRow w A 1 a n (l.map V)
theorem RdRowC.row {α : Type} {V : α → Value} {A : Nat → Prop} {a : Option Addr} {n c : Nat} {l : List α} (h : RdRowC V w A [.slice a n c] l) : RdRow w A 1 a n (l.map V) := by
  obtain ⟨a', n', c', e, _, hr⟩ := h
  injection e with e _
  injection e with e1 e2 e3
  subst e1; subst e2
  exact hr
theorem opens_row {α : Type} {V : α → Value} {T e : TypeId} (ht : sliceT P T = some e) (hs : szT P e = some 1) (he : Opens enc P w base sp held e (fun cs (x : α) => cs = [V x])) : Opens enc P w base sp held T (RdRowC V w TT) := fun fuel cs x h => by
  obtain ⟨l, a, n, c, h1, h2, h3⟩ := opens_slice ht hs (by decide) he fuel cs x h
  exact ⟨l, a, n, c, h1, h2, rd_rowL h3⟩
theorem o_rbytes : Opens enc Tryd.prog w base sp held 32 (RdRowC B8 w TT) := opens_row Ty.sl_32 Ty.sz_5 (opens_byte Ty.un_5)
theorem o_rints : Opens enc Tryd.prog w base sp held 74 (RdRowC (Value.int .i64) w TT) := opens_row Ty.sl_74 Ty.sz_3 (opens_int Ty.un_3)
theorem o_rbools : Opens enc Tryd.prog w base sp held 51 (RdRowC Value.bool w TT) := opens_row Ty.sl_51 Ty.sz_4 (opens_bool Tryd.underlying4)
end
end Go.Proofs.YtffkjjakceojfaaDoor
