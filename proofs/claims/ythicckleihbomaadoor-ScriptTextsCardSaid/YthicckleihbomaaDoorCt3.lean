/- Part 3. What is proved: see the last part: for every input the law returns true, and the input reads as it did. -/
import Derived.Test.YthicckleihbomaaDoorCt2
import Derived.Lib.Builder
import Derived.Lib.UnsafeStr
/- The engine, part Y: strings.Builder: a pointer held against itself, unsafe.Pointer, a string made of a row of bytes. -/
namespace Go.Proofs.YthicckleihbomaaDoor
open Go
set_option linter.unusedVariables false
set_option linter.unusedSimpArgs false

section
variable {P : Program} {w0 : World} {F0 : Nat → Prop} {L : List Res} {Q : Exit → Act → World → Prop} {n : Fm} {env : Env} {ops : Array Oper} {rest : List Oper}
variable {d : Option Tmp} {t : Tmp} {ty : TypeId} {pos : String} {af : Array Edge} {gd : Option (Nat × Bool)}
theorem r_nepself {x y : Operand} {T T' e : TypeId} {a : Addr} (ht : P.underlying T = some (.pointer e)) (hj : (P.info? e).isSome = true) (hx : ev n env x = .pointer (some a) := by exact rfl) (hy : ev n env y = .pointer (some a) := by exact rfl) :
    Runs P w0 F0 L n env ⟨d, .binOp .neq T x y T', ty, pos, af, gd⟩ (.bool false) := fun w _ => by
  obtain ⟨j, hj⟩ := Option.isSome_iff_exists.1 hj
  have h := Lib.run_neq_ptr_same (P := P) w a ht hj
  simp [execOp, hx, hy, eqGuard, h]
theorem St.shapeOf {w : World} {b e : Nat} {cs : List Value} {L' : List Res} (hs : St w0 F0 L w) (hp : Pick L (blk b e cs) L') : w.shape? b = some (e, cs.length) := by
  obtain ⟨F, hF, _⟩ := hs
  obtain ⟨F1, F2, ⟨_, fz, hg, _⟩, _⟩ := hp.stars hF
  simp [World.shape?, hg]
theorem r_toUns {x : Operand} {S T t e b : Nat} {cs : List Value} {L' : List Res} {m : Nat} (hs : P.underlying S = some (.pointer t)) (hd : P.underlying T = some .unsafePointer) (hj : (P.info? t).map (·.size) = some (m + 1)) (hp : Pick L (blk b e cs) L') (hl : 0 < cs.length) (hx : ev n env x = .pointer (some ⟨b, 0, none⟩) := by exact rfl) :
    Runs P w0 F0 L n env ⟨d, .convert S T x, ty, pos, af, gd⟩ (.pointer (some ⟨b, 0, none⟩)) := fun w hw => by
  obtain ⟨j, hj, hz⟩ := Option.map_eq_some_iff.1 hj
  have h := Lib.run_to_unsafe (P := P) w ⟨b, 0, none⟩ hs hd hj (by omega) (hw.shapeOf hp) hl
  simp [execOp, hx, h]
theorem r_fromUns {x : Operand} {S T u e b m : Nat} {cs : List Value} {L' : List Res} (hs : P.underlying S = some .unsafePointer) (hd : P.underlying T = some (.pointer u)) (hj : (P.info? u).isSome = true) (hp : Pick L (blk b e cs) L') (hm : cs.length = m) (hl : liesAt P P.depth e (m / P.cellsOf e) 0 u 1 = true) (hx : ev n env x = .pointer (some ⟨b, 0, none⟩) := by exact rfl) :
    Runs P w0 F0 L n env ⟨d, .convert S T x, ty, pos, af, gd⟩ (.pointer (some ⟨b, 0, none⟩)) := fun w hw => by
  obtain ⟨j, hj⟩ := Option.isSome_iff_exists.1 hj
  subst hm
  have h := Lib.run_from_unsafe (P := P) w ⟨b, 0, none⟩ hs hd hj (hw.shapeOf hp) hl
  simp [execOp, hx, h]
theorem r_noEscape {x : Operand} {f : FuncId} {fn : Func} {ts : Array TypeId} {v : Value} (hf : P.funcs[f]? = some fn) (hname : (fn.name == "runtime.NumGoroutine") = false) (hb : fn.body.isNone = true) (hn : Extern.findNext fn = none) (he : Extern.find fn = some Extern.AbiNoEscape.same) (hx : ev n env x = v := by exact rfl) :
    Runs P w0 F0 L n env ⟨d, .call ⟨.value (.func f), #[x], ts⟩, ty, pos, af, gd⟩ v := fun w hw => by
  have h := run_callFunc_extern hf hname hb hn he #[v] w
  rw [Lib.run_noEscape] at h
  have hf' : ev n env (.func f) = .func (.func f) #[] #[] := rfl
  simp [execOp, resolve, hf', Deferred.ofValue, invoke, hx, h]
theorem liesAt_off {e : TypeId} (hc : P.cellsOf e = 1) (count o n : Nat) (hn : o + n ≤ count) : liesAt P P.depth e count o e n = true := by
  have hd : P.depth = (2 * (P.types.size + Made.depth) + 1) + 1 := rfl
  rw [hd]
  simp only [liesAt, Bool.or_eq_true]
  left
  rw [hd]
  simp [rowAt, hc, hn, sameLayout, Nat.mod_one]
/-- unsafe.SliceData -/
theorem r_sdata {x : Operand} {S : TypeId} {a : Option Addr} {m c : Nat} (hc : a = none ∨ c ≠ 0) (hx : ev n env x = .slice a m c := by exact rfl) :
    Runs P w0 F0 L n env ⟨d, .call ⟨.builtin .unsafeSliceData, #[x], #[S]⟩, ty, pos, af, gd⟩ (.pointer a) := fun w hw => by
  have h : (Builtin.unsafeSliceData_ #[S] ty #[.slice a m c]).run P w = .ok (.pointer a) w := by
    cases a with
    | none => exact Lib.run_unsafeSliceData_nil w _ _ _ _
    | some a => exact Lib.run_unsafeSliceData_row w _ _ _ _ _ (hc.resolve_left (by simp))
  simp [execOp, resolve, invoke, hx, builtin, h]
theorem run_uStr {w : World} {pt it ty e g o cells : Nat} (hp : P.underlying pt = some (.pointer e)) (hc : P.cellsOf e = 1) (hsh : w.shape? g = some (e, cells)) (l : List UInt8) (h0 : l ≠ []) (hn : o + l.length ≤ cells) (h63 : l.length ≤ 9223372036854775807)
    (hcell : ∀ j x, l[j]? = some x → w.cell? ((⟨g, o, none⟩ : Addr).add j) = some (.int .u8 x.toNat)) :
    (Builtin.unsafeString_ #[pt, it] ty #[.pointer (some ⟨g, o, none⟩), .int .i64 l.length]).run P w = .ok (.string (str l)) (w.freeze ⟨g, o, none⟩ l.length) := by
  have hl : l.length ≠ 0 := by simpa using h0
  have hlb := Lib.run_loadBytes (P := P) w l ⟨g, o, none⟩ .empty hcell
  have hlies := liesAt_off (P := P) hc (cells / P.cellsOf e) o l.length (by rw [hc]; simpa using hn)
  have h63' : ¬ (9223372036854775807 : Int) < (l.length : Int) := by omega
  have hdef : Builtin.unsafeString_ #[pt, it] ty #[.pointer (some ⟨g, o, none⟩), .int .i64 l.length] =
      (do
        let n ← asInt (.int .i64 l.length)
        if n < 0 then runtimePanic (.error "unsafe.String: len out of range")
        if n > IntKind.i64.max then unsupported (.unsafePointer "String: a length above the largest int")
        if n = 0 then pure (.string .empty)
        else if ← variablesAt ⟨g, o, none⟩ (← elemOf pt) n.toNat then do
          let s ← loadBytes ⟨g, o, none⟩ .empty n.toNat
          freeze ⟨g, o, none⟩ n.toNat
          pure (.string s)
        else unsupported (.unsafePointer "String: not so many bytes at ptr")) := rfl
  rw [hdef]
  have hmax : IntKind.i64.max = 9223372036854775807 := rfl
  have hneg : ¬ (l.length : Int) < 0 := by omega
  simp [asInt, asIntOf, hmax, h63', hneg, hl, variablesAt, hsh, elemOf, run_underlying hp, hlies, hlb, str]
theorem gl_uStr {x y : Operand} {S I e c : Nat} {a : Option Addr} {b : List UInt8} {L' : List Res} (hp : Pick L (rowR e 1 a b.length c (b.map B8)) L') (hS : P.underlying S = some (.pointer e)) (hc : P.cellsOf e = 1) (k : Gl P w0 F0 L' ops Q rest n ((t, .string (str b)) :: env))
    (hx : ev n env x = .pointer a := by exact rfl) (hy : ev n env y = .int .i64 (b.length : Int) := by exact rfl)
    (hw : Wt ops n env ⟨some t, .call ⟨.builtin .unsafeString, #[x, y], #[S, I]⟩, ty, pos, af, gd⟩ true := by first | exact wt0 rfl | exact wtgT rfl rfl rfl rfl) :
    Gl P w0 F0 L ops Q (⟨some t, .call ⟨.builtin .unsafeString, #[x, y], #[S, I]⟩, ty, pos, af, gd⟩ :: rest) n env := by
  refine gl_eff hw (fun w hs => ?_) k
  obtain ⟨F, hF, hst⟩ := hs
  obtain ⟨F1, F2, hrow, h2, hE, hd⟩ := hp.stars hF
  obtain ⟨hxl, hmc, hcm, hcase⟩ := hrow
  by_cases h0 : b = []
  · subst h0
    refine ⟨w, ?_, F2, h2, hst.weak fun k hk => (hE k).2 (.inr hk)⟩
    have h := Lib.run_unsafeString_none (P := P) w S I ty a
    have e0 : (str []) = ByteArray.empty := rfl
    rw [e0]
    have hy' : ev n env y = .int .i64 0 := hy
    simp [execOp, resolve, invoke, hx, hy', builtin, h]
  · have hpos : 0 < b.length := by cases b with | nil => exact absurd rfl h0 | cons _ _ => simp
    rcases hcase with ⟨_, hc0, _⟩ | ⟨g, o, cs, fz, rfl, hF1, hg, hfz, hl, hx'⟩
    · omega
    · have hm : c ≤ 281474976710656 ∨ True := .inr trivial
      have h63 : b.length ≤ 9223372036854775807 := by simp only [maxLen] at hcm; omega
      have h := run_uStr (P := P) (w := w) (pt := S) (it := I) (ty := ty) (g := g) (o := o) (cells := cs.size) hS hc (by simp [World.shape?, hg]) b h0 (by omega) h63 (fun j x hj => by
        rw [Addr.add_mid]
        have hj' := (List.getElem?_eq_some_iff.1 hj).1
        have : (cs.toList.drop o)[j]? = (b.map B8)[j]? := by
          rw [← hx', List.getElem?_take, if_pos (by omega)]
        rw [List.getElem?_drop, List.getElem?_map, hj] at this
        simp only [World.cell?, hg]
        simpa [B8] using this)
      refine ⟨w.freeze ⟨g, o, none⟩ b.length, by simp [execOp, resolve, invoke, hx, hy, builtin, h], ?_⟩
      have hfr : ∀ k, k ≠ g → (w.freeze ⟨g, o, none⟩ b.length).heap[k]? = w.heap[k]? := fun k hk => by
        unfold World.freeze
        split
        · rfl
        · simp only [Array.getElem?_modify]; rw [if_neg (by omega)]
      have hsz : (w.freeze ⟨g, o, none⟩ b.length).heap.size = w.heap.size := by unfold World.freeze; split <;> simp
      have hos : (w.freeze ⟨g, o, none⟩ b.length).os = w.os ∧ (w.freeze ⟨g, o, none⟩ b.length).tape = w.tape ∧ (w.freeze ⟨g, o, none⟩ b.length).output = w.output := by unfold World.freeze; split <;> exact ⟨rfl, rfl, rfl⟩
      refine ⟨F2, stars_loc h2 fun j hj => hfr j fun e => hd j ((hF1 j).2 e) hj, ?_⟩
      refine ⟨hos.1 ▸ hst.os, hos.2.1 ▸ hst.tape, hos.2.2 ▸ hst.output, by rw [hsz]; exact hst.size, fun j hj hn => ?_, fun k hk => hst.own k ((hE k).2 (.inr hk))⟩
      rw [← hst.block j hj hn]
      exact hfr j fun e => (hst.old hj hn).2 ((hE j).2 (.inl ((hF1 j).2 e)))
end
end Go.Proofs.YthicckleihbomaaDoor

/- Script: strings.Join; the powers of ten in every later world; lines and texts that are written. -/
namespace Go.Proofs.YthicckleihbomaaDoor
open Go Go.Shelf Go.Lib Go.RowKit
set_option linter.unusedVariables false
set_option linter.unusedSimpArgs false
theorem joiX : Builder.Extra Tryd.prog Tryd.joiA_ren where
  sizeBuilder := by kernel_rfl
  liesBuilder := by kernel_rfl
  t5 := Tryd.underlying5
  a5 := Tryd.isAgg5
  z5 := Tryd.sizeOf5
  v5 := Tryd.zeroValue5
  infoByte := by kernel_rfl
  cellsByte := by kernel_rfl
  sizeByte := by kernel_rfl
  neB5 := by decide
theorem joinB_lib (c : UInt8) : ∀ ps : List Bs, Lib.join ps [c] = joinB c ps
  | [] => rfl
  | [p] => by rw [join_one]; rfl
  | p :: q :: r => by
    have ih := joinB_lib c (q :: r)
    rw [join_cons] at ih ⊢
    rw [joinB, ← ih]; simp [joinTail]
theorem joi_ok {w : World} {F : Nat → Prop} {bk o c n : Nat} {s : UInt8} {ps : List Bs} (h : stars [] w F) (hr : RdRow w (fun k => ¬ F k) 1 (some ⟨bk, o, none⟩) n (ps.map fun p => .string (str p))) (hnn : n = ps.length) (h0 : 0 < ps.length) (hc : ps.length ≤ c) (hl : (joinB s ps).length ≤ 140737488355328) (hn : ps.length ≤ 140737488355328) :
    Calls Tryd.prog 56 #[.slice (some ⟨bk, o, none⟩) n c, .string (str [s])] w (Post w F (fun _ : Unit => .string (str (joinB s ps))) (fun _ => [])) := by
  subst hnn
  obtain ⟨g', o', ha, _, hlt, hra⟩ := hr.2.2 h0
  injection ha with ha; injection ha with e1 e2; subst e1; subst e2
  have em : (ps.map str).map (·.data.toList) = ps := by
    rw [List.map_map]
    conv => rhs; rw [← List.map_id ps]
    rfl
  have ej : Lib.join ((ps.map str).map (·.data.toList)) (str [s]).data.toList = joinB s ps := by rw [em]; exact joinB_lib s ps
  have hj := Any.strings_Join Tryd.joiA joiX bk o c (ps.map str) (str [s]) w (fun j x hx => by
    rw [List.getElem?_map] at hx
    obtain ⟨p, hp, rfl⟩ := Option.map_eq_some_iff.1 hx
    exact hra j _ (by rw [List.getElem?_map, hp]; rfl)) hlt (by rw [List.length_map]; exact hn) (by rw [List.length_map]; exact hc) (by rw [ej]; exact hl)
  rw [ej, List.length_map] at hj
  exact Calls.mono hj fun e w' ⟨he, hw⟩ => ⟨(), by rw [he]; rfl, (St.init h).belowS hw⟩
/-- The table of powers of ten, where nothing owns it. -/
structure TenG (w : World) (A : Nat → Prop) : Prop where
  t : TenR w
  a : A 21
theorem TenG.mv {w w' : World} {A A' : Nat → Prop} (h : TenG w A) (k : Still w A w' A') : TenG w' A' := by
  have hg : Tryd.prog.globalNamed "internal/strconv.uint64pow10" = some 21 := by kernel_rfl
  have ht := h.t
  unfold TenR TabIs World.var? at ht
  rw [hg, Option.bind_some] at ht
  have hlt : 21 < w.heap.size := by
    rcases Nat.lt_or_ge 21 w.heap.size with h' | h'
    · exact h'
    · rw [Array.getElem?_eq_none h'] at ht; cases ht
  obtain ⟨e, hA⟩ := k _ hlt h.a
  refine ⟨?_, hA⟩
  unfold TenR TabIs World.var?
  rw [hg, Option.bind_some, e]; exact ht
def R64 (x : Int) : Prop := -9223372036854775808 ≤ x ∧ x ≤ 9223372036854775807
/-- An op's numbers are ints. -/
def WfO (o : OpS) : Prop := R64 o.n ∧ R64 o.node ∧ ∀ x ∈ o.set, R64 x
theorem bitT_take {l : List Bool} {k : Nat} {b : Bool} (h : l[k]? = some b) : bitT (l.take (k + 1)) = bitT (l.take k) ++ [if b then 49 else 48] := by
  rw [List.take_add_one, h]; simp [bitT]
theorem take_min {α : Type} (l : List α) (n : Nat) : l.take (min l.length n) = l.take n := by
  rw [List.take_eq_take_iff]; omega
theorem hexT_take {d : Bs} {k : Nat} {c : UInt8} (h : d[k]? = some c) : hexT (d.take (k + 1)) = (hexT (d.take k) ++ [hx (c.toNat / 16)]) ++ [hx (c.toNat % 16)] := by
  rw [List.take_add_one, h]; simp [hexT]
theorem hexT_len (d : Bs) : (hexT d).length = 2 * d.length := by
  induction d with
  | nil => rfl
  | cons a r ih => show (hx _ :: hx _ :: hexT r).length = _; simp [ih]; omega
theorem hexes_at {j : Nat} (h : j < 16) : hexesB[j]? = some (hx j) := by
  have : ∀ n : Fin 16, hexesB[n.val]? = some (hx n.val) := by decide
  exact this ⟨j, h⟩
theorem and15 (c : UInt8) : bitop .and .u8 (c.toNat : Int) 15 = ((c.toNat % 16 : Nat) : Int) := by
  have h : ∀ n : Fin 256, bitop .and .u8 (n.val : Int) 15 = ((n.val % 16 : Nat) : Int) := by decide +kernel
  exact h ⟨c.toNat, c.toNat_lt⟩
theorem shr4 (c : UInt8) : (c.toNat : Int).fdiv (2 ^ (min (4 : Int).toNat IntKind.u8.bits)) = ((c.toNat / 16 : Nat) : Int) := by
  have h : ∀ n : Fin 256, (n.val : Int).fdiv (2 ^ (min (4 : Int).toNat IntKind.u8.bits)) = ((n.val / 16 : Nat) : Int) := by decide +kernel
  exact h ⟨c.toNat, c.toNat_lt⟩
theorem hexW_ne {d : Bs} (h : d ≠ []) : hexW d = hexT d := if_neg h
theorem bitW_ne {l : List Bool} (h : l ≠ []) : bitW l = bitT l := if_neg h
theorem hexW_len {d : Bs} (h : d.length ≤ 65535) : (hexW d).length ≤ 131071 := by
  unfold hexW
  split
  · simp
  · rw [hexT_len]; omega
theorem bitW_len (l : List Bool) : (bitW (l.take 64)).length ≤ 131071 := by
  unfold bitW
  split
  · simp
  · simp [bitT]; omega
theorem numW_eq (n : Int) : numW n = if okN n = true then some (itoa n) else none := by
  unfold numW okN
  by_cases h : 0 ≤ n ∧ n ≤ 999999
  · rw [if_pos h, if_pos (by simp [h])]
  · rw [if_neg h, if_neg (by simp; intro h1; exact Int.not_le.1 fun h2 => h ⟨h1, h2⟩)]
theorem numW_is {n : Int} {s : Bs} (h : numW n = some s) : itoa n = s := by
  unfold numW at h
  split at h
  · injection h
  · cases h
theorem joinB_len {c : UInt8} {m : Nat} : ∀ {ps : List Bs}, (∀ p ∈ ps, p.length ≤ m) → (joinB c ps).length ≤ ps.length * (m + 1)
  | [], _ => by simp [joinB]
  | [p], h => by have := h p (by simp); simp [joinB]; omega
  | p :: q :: r, h => by
    have h1 := h p (by simp)
    have h2 := joinB_len (c := c) (ps := q :: r) fun x hx => h x (List.mem_cons_of_mem _ hx)
    have e : (joinB c (p :: q :: r)).length = p.length + (1 + (joinB c (q :: r)).length) := by simp [joinB]; omega
    have e2 : (p :: q :: r).length * (m + 1) = (q :: r).length * (m + 1) + (m + 1) := by rw [List.length_cons, Nat.succ_mul]
    rw [e, e2]; omega
theorem numsW_len {l : List Int} {ps : List Bs} (h : numsW l = some ps) : ps.length = l.length ∧ ∀ p ∈ ps, p.length ≤ 6 := by
  obtain ⟨m, rfl, hm, rfl⟩ := numsW_some h
  refine ⟨by simp, fun p hp => ?_⟩
  obtain ⟨k, hk, rfl⟩ := List.mem_map.1 hp
  rw [decDigits_length]
  exact nD_le 5 k (by have := hm k hk; omega)
theorem itoa_len {n : Int} (h : R64 n) : (itoa n).length ≤ 21 := by
  unfold R64 at h
  have h1 : ∀ u : Nat, u < 10 ^ 20 → (decDigits u).length ≤ 20 := fun u hu => by rw [decDigits_length]; exact nD_le 19 u hu
  unfold itoa
  split
  · have := h1 n.natAbs (by omega); simp; omega
  · have := h1 n.toNat (by omega); omega
theorem powsW_go {l : List Int} {ps : List Bs} (h0 : ¬ l = []) (h7 : ¬ 7 < l.length) (h : numsW l = some ps) : powsW l = some (joinB 44 ps) := by
  unfold powsW; rw [if_neg h0, if_neg h7, h]; rfl
theorem powsW_bad {l : List Int} (h0 : ¬ l = []) (h7 : ¬ 7 < l.length) (h : numsW l = none) : powsW l = none := by
  unfold powsW; rw [if_neg h0, if_neg h7, h]; rfl
theorem powsW_big {l : List Int} (h0 : ¬ l = []) (h7 : 7 < l.length) : powsW l = none := by
  unfold powsW; rw [if_neg h0, if_pos h7]
theorem textB_snoc (ls : List Bs) (s : Bs) : textB (ls ++ [s]) = textB ls ++ (s ++ [10]) := by simp [textB]
theorem totB_snoc (ls : List Bs) (s : Bs) : totB (ls ++ [s]) = totB ls + (s.length + 1) := by simp [totB]
/-- the pieces of a line one by one -/
theorem gets_snoc {o : OpS} {c : UInt8} {s : Bs} : ∀ {cs : Bs} {t : Bs}, getsP o cs = some t → getP o c = some s → getsP o (cs ++ [c]) = some (t ++ 32 :: s)
  | [], t, h, hs => by rw [getsP] at h; injection h with h; subst h; simp [getsP, hs]
  | d :: cs, t, h, hs => by
    rw [getsP] at h
    split at h
    · rename_i u v hu hv
      injection h with h; subst h
      rw [List.cons_append, getsP, hu, gets_snoc hv hs]; simp
    · cases h
theorem gets_none {o : OpS} {c : UInt8} (hc : getP o c = none) : ∀ {cs : Bs}, c ∈ cs → getsP o cs = none
  | d :: cs, h => by
    rcases List.mem_cons.1 h with rfl | h
    · rw [getsP, hc]
    · rw [getsP, gets_none hc h]; cases getP o d <;> rfl
theorem forms_kind {i : Nat} {f : FormS} (h : forms[i]? = some f) : f.kind = i + 1 := by
  have h' : ∀ i : Fin 10, ∀ f, forms[i.val]? = some f → f.kind = i.val + 1 := by decide
  have hi := (List.getElem?_eq_some_iff.1 h).1
  exact h' ⟨i, hi⟩ f h
theorem forms_wl : ∀ f ∈ forms, f.word.length ≤ 7 := by decide
/-- where a kind's form stands -/
def fixI (k : Int) : Int := if 1 ≤ k ∧ k ≤ 10 then k - 1 else -1
theorem fixI_hit {k : Int} {i : Nat} (hi : i < 10) (h : ((i + 1 : Nat) : Int) = k) : fixI k = (i : Int) := by unfold fixI; rw [if_pos (by omega)]; omega
theorem fixI_miss {k : Int} (h : ∀ i, i < 10 → ¬ ((i + 1 : Nat) : Int) = k) : fixI k = -1 := by
  unfold fixI
  rw [if_neg]
  intro hk
  exact h (k.toNat - 1) (by omega) (by omega)
theorem formK_none {k : Int} (h : ¬ (1 ≤ k ∧ k ≤ 10)) : formK k = none := by
  cases e : formK k with
  | none => rfl
  | some f => exact absurd (kinds_of.1 ⟨f, form_mem e⟩) h
theorem formK_at {k : Int} (h : 1 ≤ k ∧ k ≤ 10) : ∃ f, forms[(k - 1).toNat]? = some f ∧ formK k = some f ∧ f ∈ forms := by
  have hl : (k - 1).toNat < forms.length := by show _ < 10; omega
  refine ⟨forms[(k - 1).toNat], List.getElem?_eq_getElem hl, ?_, List.getElem_mem hl⟩
  have hk := forms_kind (List.getElem?_eq_getElem hl)
  have := formK_of (List.getElem_mem hl)
  rw [hk] at this
  rwa [show (((k - 1).toNat + 1 : Nat) : Int) = k by omega] at this
theorem getP_len {o : OpS} {c : UInt8} {s : Bs} (h : getP o c = some s) (hd : o.data.length ≤ 65535) : s.length ≤ 131071 := by
  have hn : ∀ {n : Int} {s : Bs}, numW n = some s → s.length ≤ 131071 := fun h => by
    obtain ⟨k, rfl, hk, rfl⟩ := numW_some h
    rw [decDigits_length]
    have := nD_le 5 k (by omega); omega
  unfold getP at h
  split at h
  · exact hn h
  · split at h
    · exact hn h
    · split at h
      · injection h with h; subst h; exact hexW_len hd
      · split at h
        · unfold powsW at h
          split at h
          · injection h with h; subst h; simp
          · split at h
            · cases h
            · obtain ⟨ps, hps, rfl⟩ := Option.map_eq_some_iff.1 h
              have h2 := numsW_len hps
              have h3 := joinB_len (c := 44) h2.2
              have h4 : ps.length ≤ 7 := by omega
              have := Nat.mul_le_mul_right 7 h4; omega
        · split at h
          · injection h with h; subst h
            have := bitW_len o.keep
            rwa [List.take_of_length_le (by assumption)] at this
          · cases h
theorem getsP_len {o : OpS} (hd : o.data.length ≤ 65535) : ∀ {cs : Bs} {t : Bs}, getsP o cs = some t → t.length ≤ 131072 * cs.length
  | [], t, h => by rw [getsP] at h; injection h with h; subst h; simp
  | c :: cs, t, h => by
    rw [getsP] at h
    split at h
    · rename_i s u hs hu
      injection h with h; subst h
      have h1 := getP_len hs hd
      have h2 := getsP_len hd hu
      simp; omega
    · cases h
theorem lin_len {o : OpS} {s : Bs} (h : linP o = some s) (hd : o.data.length ≤ 65535) : s.length ≤ 400000 := by
  unfold linP at h
  split at h
  · rename_i f hf
    obtain ⟨hm, _⟩ := form_mem hf
    obtain ⟨t, ht, rfl⟩ := Option.map_eq_some_iff.1 h
    have h1 := getsP_len hd ht
    have h2 := forms_wl f hm
    have h3 : f.parts.length ≤ 3 := (show ∀ f ∈ forms, f.parts.length ≤ 3 by decide) f hm
    simp; omega
  · cases h
def linE (o : OpS) : Nat := if (linP o).isSome = true then 0 else 4
def linO (o : OpS) : Bs := (linP o).getD []
theorem lin_none {o : OpS} (h : linP o = none) : linE o = 4 ∧ linO o = [] := by unfold linE linO; rw [h]; exact ⟨rfl, rfl⟩
theorem lin_is {o : OpS} {s : Bs} (h : linP o = some s) : linE o = 0 ∧ linO o = s := by unfold linE linO; rw [h]; exact ⟨rfl, rfl⟩
def texE (l : List OpS) : Nat := match linsP l with | none => 4 | some ls => if 65535 < totB ls then 3 else 0
def texO (l : List OpS) : Bs := match linsP l with | none => [] | some ls => if 65535 < totB ls then [] else textB ls
theorem tex_none {l : List OpS} (h : linsP l = none) : texE l = 4 ∧ texO l = [] := by unfold texE texO; rw [h]; exact ⟨rfl, rfl⟩
theorem tex_long {l : List OpS} {ls : List Bs} (h : linsP l = some ls) (hl : 65535 < totB ls) : texE l = 3 ∧ texO l = [] := by unfold texE texO; rw [h]; simp only; rw [if_pos hl, if_pos hl]; exact ⟨rfl, rfl⟩
theorem tex_is {l : List OpS} {ls : List Bs} (h : linsP l = some ls) (hl : ¬ 65535 < totB ls) : texE l = 0 ∧ texO l = textB ls := by unfold texE texO; rw [h]; simp only; rw [if_neg hl, if_neg hl]; exact ⟨rfl, rfl⟩
end Go.Proofs.YthicckleihbomaaDoor

/- Walks, by program (wg.py) out of a spec. -/
namespace Go.Proofs.YthicckleihbomaaDoor
open Go
set_option linter.unusedVariables false
set_option linter.unusedSimpArgs false


/-- A strings.Builder that holds bytes. -/
def BldR (b : Nat) (bs : Bs) : Res := exR fun p : (Option Addr × Nat) × Bool => allR [pureR (bs = [] → p.1.1 = none), blk b 73 [.pointer (bif p.2 then some ⟨b, 0, none⟩ else none), .slice p.1.1 bs.length p.1.2], rowR 5 1 p.1.1 bs.length p.1.2 (bs.map B8)]
section
variable {P : Program} {w0 w : World} {F F0 : Nat → Prop} {L L' : List Res} {Q : Exit → Act → World → Prop} {n : Fm} {env : Env} {ops : Array Oper} {rest : List Oper} {b m c : Nat} {bs : Bs} {a : Option Addr} {xs : List Value} {u : Bool}
theorem gc_bld {k : Code} (hp : Pick L (BldR b bs) L') (K : ∀ a c u, (bs = [] → a = none) → bs.length ≤ c → Gc P w0 F0 (blk b 73 [.pointer (bif u then some ⟨b, 0, none⟩ else none), .slice a bs.length c] :: rowR 5 1 a bs.length c (bs.map B8) :: L') k Q n env) : Gc P w0 F0 L k Q n env := fun w hw => by
  obtain ⟨F, hF, hst⟩ := hw.pick hp
  obtain ⟨⟨⟨a, c⟩, u⟩, h⟩ := stars_ex hF
  have h2 := stars_all h
  obtain ⟨h3, h4⟩ := stars_pure h2
  obtain ⟨F1, F2, _, h5, _⟩ := stars_cons h4
  obtain ⟨F3, F4, h6, _⟩ := stars_cons h5
  exact K a c u h3 h6.2.1 w ⟨F, h4, hst⟩
theorem St.bld (h : St w0 F0 (blk b 73 [.pointer (bif u then some ⟨b, 0, none⟩ else none), .slice a m c] :: rowR 5 1 a m c xs :: L) w) (h1 : m = bs.length) (h2 : xs = bs.map B8) (h3 : bs = [] → a = none) : St w0 F0 (BldR b bs :: L) w := by
  subst h1; subst h2
  obtain ⟨F, hF, hst⟩ := h
  exact ⟨F, stars_ex_mk ((a, c), u) (stars_all_mk (stars_pure_mk h3 hF)), hst⟩
end

attribute [local irreducible] Gl Gc Gx Gs Runs Wt

set_option maxHeartbeats 400000 in
theorem copyCheck_ok {w : World} {F : Nat → Prop} {b : Nat} {u : Bool} {v : Value} (h : stars [blk b 73 [.pointer (bif u then some ⟨b, 0, none⟩ else none), v]] w F) (h1v : v.oneCell' = true) :
    Calls Tryd.prog 46 #[.pointer (some ⟨b, 0, none⟩)] w (Post w F (fun _ : Unit => .tuple #[]) (fun _ => [blk b 73 [.pointer (some ⟨b, 0, none⟩), v]])) := by
  refine g_enter (env := [(0, .pointer (some ⟨b, 0, none⟩))]) Tryd.func46 rfl h Tryd.ntmps46 rfl rfl ?_
  refine gc_seq ?_
  by_cases g0 : u = true
  · subst g0
    refine gc_region ?_
    refine gp zmv ?_
    refine gp znc ?_
    refine gp zfa ?_
    refine gp (zl (v := .pointer (some ⟨b, 0, none⟩)) (hv := rfl)) ?_
    refine gp (r_bool (c := false) (r_eqpn rfl Ty.un_71) rfl) ?_
    refine gnt ?_
    refine gc_condF rfl rfl ?_
    refine gsr ?_
    refine gp zmv ?_
    refine gp znc ?_
    refine gp zfa ?_
    refine gp (zl (v := .pointer (some ⟨b, 0, none⟩)) (hv := rfl)) ?_
    refine gp zmv ?_
    refine gp (r_nepself Ty.un_71 (by kernel_rfl)) ?_
    refine gnt ?_
    refine gc_condF rfl rfl ?_
    refine gc_skip ?_
    refine gx_ret0' rfl ?_
    exact ze ()
  · obtain rfl : u = false := by simpa using g0
    refine gc_region ?_
    refine gp zmv ?_
    refine gp znc ?_
    refine gp zfa ?_
    refine gp (zl (v := .pointer none) (hv := rfl)) ?_
    refine gp (r_bool (c := true) (r_eqpn rfl Ty.un_71) rfl) ?_
    refine gnt ?_
    refine gc_condT rfl rfl ?_
    refine gc_region ?_
    refine gp zmv ?_
    refine gp zmv ?_
    refine gp (r_toUns (m := 1) Ty.un_71 Tryd.underlying117 (by kernel_rfl) (by repeat (first | exact Pick.here | apply Pick.there)) (by simp)) ?_
    refine gp (r_noEscape Tryd.func57 (by kernel_rfl) (by kernel_rfl) (by kernel_rfl) (by kernel_rfl)) ?_
    refine gp (r_fromUns (m := 2) Tryd.underlying117 Ty.un_71 (by kernel_rfl) (by repeat (first | exact Pick.here | apply Pick.there)) rfl (by kernel_rfl)) ?_
    refine gp znc ?_
    refine gp zfa ?_
    refine zs1 ?_
    refine gl_nil ?_
    refine gx_ret0' rfl ?_
    exact ze ()

set_option maxHeartbeats 400000 in
theorem bwb_ok {w : World} {F : Nat → Prop} {b : Nat} {bs : Bs} {x : UInt8} (h : stars [BldR b bs] w F) (hl : bs.length ≤ 140737488355327) :
    Calls Tryd.prog 55 #[.pointer (some ⟨b, 0, none⟩), .int .u8 x.toNat] w (Post w F (fun _ : Unit => .nilIface) (fun _ => [BldR b (bs ++ [x])])) := by
  refine g_enter (env := [(0, .pointer (some ⟨b, 0, none⟩)), (1, .int .u8 x.toNat)]) Tryd.func55 rfl h Tryd.ntmps55 rfl rfl ?_
  refine gsr ?_
  refine gp zas ?_
  refine gnt ?_
  refine gc_seq ?_
  refine gc_bld (by repeat (first | exact Pick.here | apply Pick.there)) (fun a c u hn hc0 => ?_)
  refine gc_region ?_
  refine gp zmv ?_
  refine zc (fun _ => ?_) (c := fun w1 F1 F2 h1 h2 hd hst => copyCheck_ok (u := u) (v := .slice a bs.length c) h1 rfl)
  refine gnt ?_
  refine gsr ?_
  refine gp zmv ?_
  refine gp zmv ?_
  refine gp znc ?_
  refine gp zfa ?_
  refine gp zl ?_
  refine gp zmv ?_
  refine ze1 fun b13 => ?_
  refine zapo (m := bs.length) (j := 1) (fun a14 c14 => ?_)
  refine gp znc ?_
  refine gp zfa ?_
  refine zs1 ?_
  refine gnt ?_
  refine gsr ?_
  refine gp zas ?_
  refine gnt ?_
  refine gc_ret ?_
  refine gx_ret1 rfl (by conv => lhs; whnf) ?_
  exact fun w' hw => ⟨(), rfl, (St.bld (u := true) (bs := bs ++ [x]) (hw.sel (M := [blk b 73 [.pointer (some ⟨b, 0, none⟩), .slice a14 (bs.length + 1) c14], rowR 5 1 a14 (bs.length + 1) c14 _]) (by repeat (first | exact Sel.nil | (apply Sel.cons; · (repeat (first | exact Pick.here | apply Pick.there)))))) (by simp) (by simp [B8]) (fun e => by simp at e)).sel (by repeat (first | exact Sel.nil | (apply Sel.cons; · (repeat (first | exact Pick.here | apply Pick.there)))))⟩

set_option maxHeartbeats 400000 in
theorem bws_ok {w : World} {F : Nat → Prop} {b : Nat} {bs s : Bs} (h : stars [BldR b bs] w F) (hl : bs.length + s.length ≤ 140737488355328) (hs : s ≠ []) :
    Calls Tryd.prog 30 #[.pointer (some ⟨b, 0, none⟩), .string (str s)] w (Post w F (fun _ : Unit => .tuple #[.int .i64 (s.length : Int), .nilIface]) (fun _ => [BldR b (bs ++ s)])) := by
  refine g_enter (env := [(0, .pointer (some ⟨b, 0, none⟩)), (1, .string (str s))]) Tryd.func30 rfl h Tryd.ntmps30 rfl rfl ?_
  refine gsr ?_
  refine gp zas ?_
  refine gp zas ?_
  refine gnt ?_
  refine gc_seq ?_
  refine gc_bld (by repeat (first | exact Pick.here | apply Pick.there)) (fun a c u hn hc0 => ?_)
  refine gc_region ?_
  refine gp zmv ?_
  refine zc (fun _ => ?_) (c := fun w1 F1 F2 h1 h2 hd hst => copyCheck_ok (u := u) (v := .slice a bs.length c) h1 rfl)
  refine gnt ?_
  refine gsr ?_
  refine gp zmv ?_
  refine gp zmv ?_
  refine gp znc ?_
  refine gp zfa ?_
  refine gp zl ?_
  refine gp zmv ?_
  refine zaps (m := bs.length) (b := s) (fun a14 c14 => ?_)
  refine gp znc ?_
  refine gp zfa ?_
  refine zs1 ?_
  refine gnt ?_
  refine gsr ?_
  refine gp zmv ?_
  refine gp zlS ?_
  refine gp zas ?_
  refine gp zas ?_
  refine gnt ?_
  refine gc_ret ?_
  refine gx_ret2 rfl (by conv => lhs; whnf) (by conv => lhs; whnf) ?_
  exact fun w' hw => ⟨(), rfl, (St.bld (u := true) (bs := bs ++ s) (hw.sel (M := [blk b 73 [.pointer (some ⟨b, 0, none⟩), .slice a14 (bs.length + s.length) c14], rowR 5 1 a14 (bs.length + s.length) c14 _]) (by repeat (first | exact Sel.nil | (apply Sel.cons; · (repeat (first | exact Pick.here | apply Pick.there)))))) (by simp) (by simp) (fun e => absurd (List.append_eq_nil_iff.1 e).2 hs)).sel (by repeat (first | exact Sel.nil | (apply Sel.cons; · (repeat (first | exact Pick.here | apply Pick.there)))))⟩

set_option maxHeartbeats 400000 in
theorem blen_ok {w : World} {F : Nat → Prop} {b : Nat} {bs : Bs} (h : stars [BldR b bs] w F) :
    Calls Tryd.prog 29 #[.pointer (some ⟨b, 0, none⟩)] w (Post w F (fun _ : Unit => .int .i64 (bs.length : Int)) (fun _ => [BldR b bs])) := by
  refine g_enter (env := [(0, .pointer (some ⟨b, 0, none⟩))]) Tryd.func29 rfl h Tryd.ntmps29 rfl rfl ?_
  refine gsr ?_
  refine gp zas ?_
  refine gnt ?_
  refine gc_seq ?_
  refine gc_bld (by repeat (first | exact Pick.here | apply Pick.there)) (fun a c u hn hc0 => ?_)
  refine gc_region ?_
  refine gp zmv ?_
  refine gp znc ?_
  refine gp zfa ?_
  refine gp zl ?_
  refine gp zln ?_
  refine gp zas ?_
  refine gnt ?_
  refine gc_ret ?_
  refine gx_ret1 rfl (by conv => lhs; whnf) ?_
  exact fun w' hw => ⟨(), rfl, (St.bld (u := u) (bs := bs) hw rfl rfl hn).sel (by repeat (first | exact Sel.nil | (apply Sel.cons; · (repeat (first | exact Pick.here | apply Pick.there)))))⟩

set_option maxHeartbeats 400000 in
theorem bstr_ok {w : World} {F : Nat → Prop} {b : Nat} {bs : Bs} (h : stars [BldR b bs] w F) :
    Calls Tryd.prog 31 #[.pointer (some ⟨b, 0, none⟩)] w (Post w F (fun _ : Unit => .string (str bs)) (fun _ => [])) := by
  refine g_enter (env := [(0, .pointer (some ⟨b, 0, none⟩))]) Tryd.func31 rfl h Tryd.ntmps31 rfl rfl ?_
  refine gsr ?_
  refine gp zas ?_
  refine gnt ?_
  refine gc_seq ?_
  refine gc_bld (by repeat (first | exact Pick.here | apply Pick.there)) (fun a c u hn hc0 => ?_)
  have hac : a = none ∨ c ≠ 0 := by
    by_cases e : bs = []
    · exact .inl (hn e)
    · exact .inr (by have := List.length_pos_iff.2 e; omega)
  refine gc_regionT 10 (by kernel_rfl) (by kernel_rfl) ?_
  refine sp zmv ?_
  refine sp znc ?_
  refine sp zfa ?_
  refine sp zl ?_
  refine sp (r_sdata hac) ?_
  refine sp zmv ?_
  refine sp znc ?_
  refine sp zfa ?_
  refine sp zl ?_
  refine sp zln ?_
  refine gs_nil ?_
  refine gl_uStr (by repeat (first | exact Pick.here | apply Pick.there)) Ty.un_94 (by kernel_rfl) ?_
  refine gp zas ?_
  refine gnt ?_
  refine gc_ret ?_
  refine gx_ret1 rfl (by conv => lhs; whnf) ?_
  exact ze ()

end Go.Proofs.YthicckleihbomaaDoor

/- Walks, by program (wg.py) out of a spec. -/
namespace Go.Proofs.YthicckleihbomaaDoor
open Go
set_option linter.unusedVariables false
set_option linter.unusedSimpArgs false

attribute [local irreducible] Gl Gc Gx Gs Runs Wt

set_option maxHeartbeats 400000 in
theorem sdigits_ok {w : World} {F : Nat → Prop} {n : Int} (h : stars [] w F) (hT : TenG w (fun k => ¬ F k)) (h64 : R64 n) :
    Calls Tryd.prog 42 #[.int .i64 n] w (Post w F (fun _ : Unit => .tuple #[.string (str (Lib.itoa n)), .bool (okN n)]) (fun _ => [])) := by
  refine g_enter (env := [(0, .int .i64 n)]) Tryd.func42 rfl h Tryd.ntmps42 rfl rfl ?_
  refine gsr ?_
  refine gp zas ?_
  refine gp zas ?_
  refine gnt ?_
  refine gc_seq ?_
  by_cases g1 : 0 ≤ n
  · have hok : okN n = decide (n ≤ 999999) := by unfold okN; rw [decide_eq_true g1]; rfl
    refine gc_region ?_
    refine gp zmv ?_
    refine zc (fun _ => ?_) (c := fun w1 F1 F2 h1 h2 hd hst => itoa_ok (n := n) h1 h64.1 h64.2 (hT.mv hst.still).t)
    refine gp zmv ?_
    refine gp (r_bool (c := true) zge (decide_eq_true g1)) ?_
    refine gp zmv ?_
    refine gq zmv ?_
    refine gq zle ?_
    refine gp zpk ?_
    refine gp zas ?_
    refine gp zas ?_
    refine gnt ?_
    refine gc_ret ?_
    refine gx_ret2 rfl (by conv => lhs; whnf) (by conv => lhs; whnf) ?_
    rw [hok]
    exact ze ()
  · have hok : okN n = false := by unfold okN; rw [decide_eq_false g1]; rfl
    refine gc_region ?_
    refine gp zmv ?_
    refine zc (fun _ => ?_) (c := fun w1 F1 F2 h1 h2 hd hst => itoa_ok (n := n) h1 h64.1 h64.2 (hT.mv hst.still).t)
    refine gp zmv ?_
    refine gp (r_bool (c := false) zge (decide_eq_false g1)) ?_
    refine gp zmv ?_
    refine gn ?_
    refine gn ?_
    refine gp zpk ?_
    refine gp zas ?_
    refine gp zas ?_
    refine gnt ?_
    refine gc_ret ?_
    refine gx_ret2 rfl (by conv => lhs; whnf) (by conv => lhs; whnf) ?_
    rw [hok]
    exact ze ()

set_option maxHeartbeats 400000 in
set_option maxRecDepth 20000 in
theorem sunbitted_ok {w : World} {F : Nat → Prop} {a : Option Addr} {n c : Nat} {l : List Bool} (h : stars [] w F) (hr : RdRow w (fun k => ¬ F k) 1 a n (l.map Value.bool)) (hc : n ≤ c) :
    Calls Tryd.prog 45 #[.slice a n c] w (Post w F (fun _ : Unit => .string (str (bitW (l.take 64)))) (fun _ => [])) := by
  have hn : n = l.length := by have := hr.1; simp at this; omega
  subst hn
  have hmx := hr.2.1
  simp only [maxLen] at hmx
  refine g_enter (env := [(0, .slice a l.length c)]) Tryd.func45 rfl h Tryd.ntmps45 rfl rfl ?_
  refine gsr ?_
  refine gp zas ?_
  refine gnt ?_
  refine gc_seq ?_
  refine gsr ?_
  refine gp zmv ?_
  refine gp zln ?_
  refine gp zei ?_
  refine gnt ?_
  refine gif rfl (fun hc8 => ?_) (fun hc8 => ?_)
  · try simp only at hc8
    have g0 : l = [] := List.eq_nil_of_length_eq_zero (by omega)
    refine gsr ?_
    refine gp zas ?_
    refine gnt ?_
    refine gc_ret ?_
    refine gx_then_ret ?_
    refine gx_ret1 rfl (by conv => lhs; whnf) ?_
    exact fun w' hw => ⟨(), by rw [g0]; rfl, hw.sel (by repeat (first | exact Sel.nil | (apply Sel.cons; · (repeat (first | exact Pick.here | apply Pick.there)))))⟩
  · try simp only at hc8
    have g0 : ¬ l = [] := fun e => hc8 (by rw [e]; rfl)
    have hpos : 0 < l.length := List.length_pos_iff.2 g0
    obtain ⟨g1, o1, ha1, hA1, _, _⟩ := hr.2.2 hpos
    subst ha1
    obtain ⟨m, hm⟩ : ∃ m, m = min l.length 64 := ⟨_, rfl⟩
    refine gc_skip ?_
    refine gx_then ?_
    refine gsr ?_
    refine gp zas ?_
    refine gnt ?_
    refine gc_seq ?_
    refine gsr ?_
    refine gp zmv ?_
    refine gp zmv ?_
    refine gp zln ?_
    refine gp (r_int (j := (m : Int)) r_min (by rw [hm]; split <;> omega)) ?_
    refine gp (r_val (v' := .slice (some ⟨g1, o1, none⟩) m c) (r_slice_slice (a := some ⟨g1, o1, none⟩) (m := l.length) (c := c) (l := 0) (h := m) rfl Ty.sl_35 Ty.sz_4 rfl ⟨_, rfl⟩ (by omega) (by omega)) (by rw [if_neg (by omega)]; simp [Addr.add])) ?_
    refine gp zln ?_
    refine gp zmv ?_
    refine gnt ?_
    refine gc_block ?_
    refine gc_loop (α := Nat) (fun k => [pureR (k ≤ m)]) (fun k => [(15, .int .i64 (k : Int)), (3, .string (str (bitT (l.take k))))]) [5, 16, 17, 18, 19, 20, 21, 22, 23, 24] (fun k => m - k) 0 ?_ ?_ ?_
    · refine env_start (by kernel_rfl)
    · exact zlp (Nat.zero_le _)
    · intro k u
      refine gc_pureR (fun hk => ?_)
      replace hk : k ≤ m := hk
      refine gsr ?_
      refine gp zlt ?_
      refine gnt ?_
      refine gc_seq ?_
      refine gif rfl (fun hc16 => ?_) (fun hc16 => ?_)
      · try simp only at hc16
        have hk' : k < m := by omega
        have hkl : k < l.length := by omega
        have hget : l[k]? = some (l[k]'hkl) := List.getElem?_eq_getElem hkl
        have hst := bitT_take hget
        have hlb : (bitT (l.take k)).length = k := by simp [bitT]; omega
        refine gc_skip ?_
        refine gx_then ?_
        refine gc_seq ?_
        refine gc_block ?_
        refine gsr ?_
        refine gp (r_val (v' := .pointer (some ⟨g1, o1 + k * 1, none⟩)) zia (by simp)) ?_
        refine gp (r_val (v' := .bool (l[k]'hkl)) (r_ld1o rfl Ty.row_4 (hr.cellV hkl false).1 hA1) (by rw [List.getD_eq_getElem?_getD, hget]; rfl)) ?_
        refine gp zas ?_
        refine gnt ?_
        refine gsr ?_
        refine gp zmv ?_
        refine gnt ?_
        refine gif rfl (fun hc19 => ?_) (fun hc19 => ?_)
        · refine gc_region ?_
          refine gp zmv ?_
          refine gp (r_val (v' := .string (str (bitT (l.take (k + 1))))) (zcat (hl := by simp; omega)) (by rw [hst, hc19]; rfl)) ?_
          refine gp zas ?_
          refine gl_nil ?_
          refine gx_block_normal ?_
          refine gx_then ?_
          refine gc_region ?_
          refine gp zad ?_
          refine gp zmv ?_
          refine gl_nil ?_
          refine zrd (k + 1) ?_ ?_
          · show m - (k + 1) < m - k
            omega
          · exact zlp (show k + 1 ≤ m by omega)
        · refine gc_region ?_
          refine gp zmv ?_
          refine gp (r_val (v' := .string (str (bitT (l.take (k + 1))))) (zcat (hl := by simp; omega)) (by rw [hst, hc19]; rfl)) ?_
          refine gp zas ?_
          refine gl_nil ?_
          refine gx_block_normal ?_
          refine gx_then ?_
          refine gc_region ?_
          refine gp zad ?_
          refine gp zmv ?_
          refine gl_nil ?_
          refine zrd (k + 1) ?_ ?_
          · show m - (k + 1) < m - k
            omega
          · exact zlp (show k + 1 ≤ m by omega)
      · try simp only at hc16
        have hk' : k = m := by omega
        refine gc_exit ?_
        refine gx_then_exit ?_
        refine gx_round_exit ?_
        refine gx_block_hit ?_
        refine gx_then ?_
        refine gsr ?_
        refine gp zmv ?_
        refine gp zas ?_
        refine gnt ?_
        refine gc_ret ?_
        refine gx_ret1 rfl (by conv => lhs; whnf) ?_
        have hne : l.take 64 ≠ [] := by intro e; have := congrArg List.length e; rw [List.length_take, List.length_nil] at this; omega
        have e : bitW (l.take 64) = bitT (l.take k) := by rw [hk', hm, take_min, bitW_ne hne]
        exact fun w' hw => ⟨(), by rw [e], hw.sel (by repeat (first | exact Sel.nil | (apply Sel.cons; · (repeat (first | exact Pick.here | apply Pick.there)))))⟩

set_option maxHeartbeats 400000 in
set_option maxRecDepth 20000 in
theorem sunhexed_ok {w : World} {F : Nat → Prop} {a : Option Addr} {n c : Nat} {d : Bs} (h : stars [] w F) (hr : RdRow w (fun k => ¬ F k) 1 a n (d.map B8)) (hc : n ≤ c) (hd : d.length ≤ 65535) :
    Calls Tryd.prog 43 #[.slice a n c] w (Post w F (fun _ : Unit => .string (str (hexW d))) (fun _ => [])) := by
  have hn : n = d.length := by have := hr.1; simp at this; omega
  subst hn
  refine g_enter (env := [(0, .slice a d.length c)]) Tryd.func43 rfl h Tryd.ntmps43 rfl rfl ?_
  refine gsr ?_
  refine gp zas ?_
  refine gnt ?_
  refine gc_seq ?_
  refine gsr ?_
  refine gp zmv ?_
  refine gp zln ?_
  refine gp zei ?_
  refine gnt ?_
  refine gif rfl (fun hc8 => ?_) (fun hc8 => ?_)
  · try simp only at hc8
    have g0 : d = [] := List.eq_nil_of_length_eq_zero (by omega)
    refine gsr ?_
    refine gp zas ?_
    refine gnt ?_
    refine gc_ret ?_
    refine gx_then_ret ?_
    refine gx_ret1 rfl (by conv => lhs; whnf) ?_
    exact fun w' hw => ⟨(), by rw [g0]; rfl, hw.sel (by repeat (first | exact Sel.nil | (apply Sel.cons; · (repeat (first | exact Pick.here | apply Pick.there)))))⟩
  · try simp only at hc8
    have g0 : ¬ d = [] := fun e => hc8 (by rw [e]; rfl)
    have hpos : 0 < d.length := List.length_pos_iff.2 g0
    obtain ⟨g1, o1, ha1, hA1, _, _⟩ := hr.2.2 hpos
    subst ha1
    refine gc_skip ?_
    refine gx_then ?_
    refine gsr ?_
    refine zal fun b3 => ?_
    refine gnt ?_
    refine gc_seq ?_
    refine gsr ?_
    refine gp zmv ?_
    refine gp zmv ?_
    refine gp zln ?_
    refine gp (r_int (j := (d.length : Int)) r_min (by split <;> omega)) ?_
    refine gp (r_val (v' := .slice (some ⟨g1, o1, none⟩) d.length c) (r_slice_slice (a := some ⟨g1, o1, none⟩) (m := d.length) (c := c) (l := 0) (h := d.length) rfl Ty.sl_36 Ty.sz_5 rfl ⟨_, rfl⟩ (by omega) (by omega)) (by rw [if_neg (by omega)]; simp [Addr.add])) ?_
    refine gp zln ?_
    refine gp zmv ?_
    refine gnt ?_
    refine gc_block ?_
    refine gc_loop (α := Nat) (fun k => [pureR (k ≤ d.length), BldR b3 (hexT (d.take k))]) (fun k => [(15, .int .i64 (k : Int))]) [5, 16, 17, 18, 19, 20, 21, 22, 23, 24, 25, 26, 27] (fun k => d.length - k) 0 ?_ ?_ ?_
    · refine env_start (by kernel_rfl)
    · exact fun w' hw => St.pureI (Nat.zero_le _) (St.bld (u := false) (bs := hexT (d.take 0)) ((hw.rowNil (e := 5) (size := 1)).sel (M := [blk b3 73 [.pointer none, .slice none 0 0], rowR 5 1 none 0 0 []]) (by repeat (first | exact Sel.nil | (apply Sel.cons; · (repeat (first | exact Pick.here | apply Pick.there)))))) rfl rfl (fun _ => rfl))
    · intro k u
      refine gc_pureR (fun hk => ?_)
      replace hk : k ≤ d.length := hk
      refine gsr ?_
      refine gp zlt ?_
      refine gnt ?_
      refine gc_seq ?_
      refine gif rfl (fun hc16 => ?_) (fun hc16 => ?_)
      · try simp only at hc16
        have hk' : k < d.length := by omega
        obtain ⟨x, _, _, hget, _, _, _⟩ := drop_at hk'
        have hst := hexT_take hget
        have hlb : (hexT (d.take k)).length = 2 * k := by rw [hexT_len, List.length_take]; omega
        have hxl := x.toNat_lt
        refine gc_skip ?_
        refine gx_then ?_
        refine gc_seq ?_
        refine gc_block ?_
        refine gsr ?_
        refine gp (r_val (v' := .pointer (some ⟨g1, o1 + k * 1, none⟩)) zia (by simp)) ?_
        refine gp (r_val (v' := B8 x) (r_ld1o rfl Ty.row_5 (hr.cellV hk' 0).1 hA1) (by rw [List.getD_eq_getElem?_getD, hget]; rfl)) ?_
        refine gp zas ?_
        refine gnt ?_
        refine gsr ?_
        refine gp zmv ?_
        refine gp (r_int (j := ((x.toNat / 16 : Nat) : Int)) zhr (shr4 x)) ?_
        refine gp (r_ixs (b := hexesB) (j := x.toNat / 16) (c := hx (x.toNat / 16)) (hexes_at (by omega))) ?_
        refine zc (fun _ => ?_) (c := fun w1 F1 F2 h1 h2 hd hst => bwb_ok (bs := hexT (d.take k)) (x := hx (x.toNat / 16)) h1 (by omega))
        refine gnt ?_
        refine gc_region ?_
        refine gp zmv ?_
        refine gp (r_int (j := ((x.toNat % 16 : Nat) : Int)) zbt (and15 x)) ?_
        refine gp (r_ixs (b := hexesB) (j := x.toNat % 16) (c := hx (x.toNat % 16)) (hexes_at (by omega))) ?_
        refine zc (fun _ => ?_) (c := fun w1 F1 F2 h1 h2 hd hst => bwb_ok (bs := hexT (d.take k) ++ [hx (x.toNat / 16)]) (x := hx (x.toNat % 16)) h1 (by simp; omega))
        refine gl_nil ?_
        refine gx_block_normal ?_
        refine gx_then ?_
        refine gc_region ?_
        refine gp zad ?_
        refine gp zmv ?_
        refine gl_nil ?_
        refine zrd (k + 1) ?_ ?_
        · show d.length - (k + 1) < d.length - k
          omega
        · simp only [hst]
          exact zlp (show k + 1 ≤ d.length by omega)
      · try simp only at hc16
        have hk' : k = d.length := by omega
        subst hk'
        rw [List.take_of_length_le (Nat.le_refl _)]
        refine gc_exit ?_
        refine gx_then_exit ?_
        refine gx_round_exit ?_
        refine gx_block_hit ?_
        refine gx_then ?_
        refine gsr ?_
        refine zc (fun _ => ?_) (c := fun w1 F1 F2 h1 h2 hd hst => bstr_ok (bs := hexT d) h1)
        refine gp zas ?_
        refine gnt ?_
        refine gc_ret ?_
        refine gx_ret1 rfl (by conv => lhs; whnf) ?_
        exact fun w' hw => ⟨(), by rw [hexW_ne g0], hw.sel (by repeat (first | exact Sel.nil | (apply Sel.cons; · (repeat (first | exact Pick.here | apply Pick.there)))))⟩

end Go.Proofs.YthicckleihbomaaDoor

/- Walks, by program (wg.py) out of a spec. -/
namespace Go.Proofs.YthicckleihbomaaDoor
open Go
set_option linter.unusedVariables false
set_option linter.unusedSimpArgs false

attribute [local irreducible] Gl Gc Gx Gs Runs Wt

set_option maxHeartbeats 400000 in
set_option maxRecDepth 20000 in
theorem sunpowered_ok {w : World} {F : Nat → Prop} {a : Option Addr} {n c : Nat} {l : List Int} (h : stars [] w F) (hr : RdRow w (fun k => ¬ F k) 1 a n (l.map (Value.int .i64))) (hc : n ≤ c) (hT : TenG w (fun k => ¬ F k)) (h64 : ∀ x ∈ l, R64 x) :
    Calls Tryd.prog 44 #[.slice a n c] w (Post w F (fun x : Bs => .tuple #[.string (str x), .bool (powsW l).isSome]) (fun x => [pureR (∀ s, powsW l = some s → x = s ∧ s.length ≤ 49)])) := by
  have hn : n = l.length := by have := hr.1; simp at this; omega
  subst hn
  have hmx := hr.2.1
  simp only [maxLen] at hmx
  refine g_enter (env := [(0, .slice a l.length c)]) Tryd.func44 rfl h Tryd.ntmps44 rfl rfl ?_
  refine gsr ?_
  refine gp zas ?_
  refine gp zas ?_
  refine gnt ?_
  refine gc_seq ?_
  refine gsr ?_
  refine gp zmv ?_
  refine gp zln ?_
  refine gp zei ?_
  refine gnt ?_
  refine gif rfl (fun hc11 => ?_) (fun hc11 => ?_)
  · try simp only at hc11
    have g0 : l = [] := List.eq_nil_of_length_eq_zero (by omega)
    refine gsr ?_
    refine gp zas ?_
    refine gp zas ?_
    refine gnt ?_
    refine gc_ret ?_
    refine gx_then_ret ?_
    refine gx_ret2 rfl (by conv => lhs; whnf) (by conv => lhs; whnf) ?_
    have hz : powsW l = some [45] := by rw [g0]; rfl
    exact fun w' hw => ⟨[45], by rw [hz]; rfl, St.pureI (fun s hs => by rw [hz] at hs; injection hs with hs; subst hs; exact ⟨rfl, by simp⟩) (hw.sel (by repeat (first | exact Sel.nil | (apply Sel.cons; · (repeat (first | exact Pick.here | apply Pick.there))))))⟩
  · try simp only at hc11
    have g0 : ¬ l = [] := fun e => hc11 (by rw [e]; rfl)
    have hpos : 0 < l.length := List.length_pos_iff.2 g0
    refine gc_skip ?_
    refine gx_then ?_
    refine gc_seq ?_
    refine gsr ?_
    refine gp zmv ?_
    refine gp zln ?_
    refine gp zgt ?_
    refine gnt ?_
    refine gif rfl (fun hc14 => ?_) (fun hc14 => ?_)
    · try simp only at hc14
      have g7 : 7 < l.length := by omega
      refine gsr ?_
      refine gp zas ?_
      refine gp zas ?_
      refine gnt ?_
      refine gc_ret ?_
      refine gx_then_ret ?_
      refine gx_ret2 rfl (by conv => lhs; whnf) (by conv => lhs; whnf) ?_
      have hz : powsW l = none := powsW_big g0 g7
      exact fun w' hw => ⟨[], by rw [hz]; rfl, St.pureI (fun s hs => by rw [hz] at hs; cases hs) (hw.sel (by repeat (first | exact Sel.nil | (apply Sel.cons; · (repeat (first | exact Pick.here | apply Pick.there))))))⟩
    · try simp only at hc14
      have g7 : ¬ 7 < l.length := by omega
      obtain ⟨g1, o1, ha1, hA1, _, _⟩ := hr.2.2 hpos
      subst ha1
      refine gc_skip ?_
      refine gx_then ?_
      refine gsr ?_
      refine gp zas ?_
      refine gnt ?_
      refine gc_seq ?_
      refine gsr ?_
      refine gp zmv ?_
      refine gp zln ?_
      refine gp zmv ?_
      refine gnt ?_
      refine gc_block ?_
      refine gc_loop (α := Nat × (Option Addr × Nat) × List Bs) (fun y => [pureR (y.1 ≤ l.length ∧ allL numW (l.take y.1) = some y.2.2), rowR 9 1 y.2.1.1 y.1 y.2.1.2 (y.2.2.map (fun p : List UInt8 => Value.string (str p)))]) (fun y => [(17, .int .i64 (y.1 : Int)), (4, .slice y.2.1.1 y.1 y.2.1.2)]) [2, 3, 6, 7, 8, 18, 19, 20, 21, 22, 23, 24, 25, 26, 27, 28, 29, 30, 31, 32] (fun y => l.length - y.1) (0, (none, 0), []) ?_ ?_ ?_
      · refine env_start (by kernel_rfl)
      · exact fun w' hw => zlp ⟨Nat.zero_le _, rfl⟩ (by repeat (first | exact Sel.nil | (apply Sel.cons; · (repeat (first | exact Pick.here | apply Pick.there))))) w' (hw.rowNil (e := 9) (size := 1))
      · intro y u
        obtain ⟨k, ⟨ao, co⟩, ps⟩ := y
        refine gc_pureR (fun hq => ?_)
        obtain ⟨hk, hl⟩ := hq
        replace hk : k ≤ l.length := hk
        replace hl : allL numW (l.take k) = some ps := hl
        have hll : ps.length = k := by have := allL_len hl; rw [List.length_take] at this; omega
        refine gsr ?_
        refine gp zlt ?_
        refine gnt ?_
        refine gc_seq ?_
        refine gif rfl (fun hc18 => ?_) (fun hc18 => ?_)
        · try simp only at hc18
          have hk' : k < l.length := by omega
          obtain ⟨x, _, _, hget, _, hmem, htk⟩ := drop_at hk'
          refine gc_skip ?_
          refine gx_then ?_
          refine gc_seq ?_
          refine gc_block ?_
          refine gsr ?_
          refine gp (r_val (v' := .pointer (some ⟨g1, o1 + k * 1, none⟩)) zia (by simp)) ?_
          refine gp (r_int (j := x) (r_ld1o rfl Ty.row_3 (hr.cellV hk' 0).1 hA1) (by rw [List.getD_eq_getElem?_getD, hget]; rfl)) ?_
          refine gp zas ?_
          refine gnt ?_
          refine gsr ?_
          refine gp zmv ?_
          refine zc (fun _ => ?_) (c := fun w1 F1 F2 h1 h2 hd hst => sdigits_ok (n := x) h1 (hT.mv hst.still) (h64 x hmem))
          refine gp zmv ?_
          refine gp zex ?_
          refine gp zex ?_
          refine gp zas ?_
          refine gp zas ?_
          refine gnt ?_
          refine gc_seq ?_
          refine gc_seq ?_
          by_cases g4 : okN x = true
          · have hnx : numW x = some (Lib.itoa x) := by rw [numW_eq, if_pos g4]
            refine gc_region ?_
            refine gp zmv ?_
            refine gp (r_bool (c := false) znt (by rw [g4]; rfl)) ?_
            refine gnt ?_
            refine gc_condF rfl rfl ?_
            refine gc_skip ?_
            refine gx_then ?_
            refine gc_region ?_
            refine gp zmv ?_
            refine gp zmv ?_
            refine ze1 fun b30 => ?_
            refine zapo (m := k) (j := 1) (fun a31 c31 => ?_)
            refine gp zas ?_
            refine gl_nil ?_
            refine gx_block_normal ?_
            refine gx_then ?_
            refine gc_region ?_
            refine gp zad ?_
            refine gp zmv ?_
            refine gl_nil ?_
            refine zrd ((k + 1, (a31, c31), ps ++ [Lib.itoa x])) ?_ ?_
            · show l.length - (k + 1) < l.length - k
              omega
            · have hl2 := allL_snoc hl hnx
              rw [← htk] at hl2
              simp only [List.length_append, List.map_append, List.length_singleton, List.map_cons, List.map_nil]
              exact zlp (show k + 1 ≤ l.length ∧ allL numW (l.take (k + 1)) = some (ps ++ [Lib.itoa x]) from ⟨by omega, hl2⟩)
          · have hnx : numW x = none := by rw [numW_eq, if_neg g4]
            refine gc_region ?_
            refine gp zmv ?_
            refine gp (r_bool (c := true) znt (by rw [show okN x = false by simpa using g4]; rfl)) ?_
            refine gnt ?_
            refine gc_condT rfl rfl ?_
            refine gsr ?_
            refine gp zas ?_
            refine gp zas ?_
            refine gnt ?_
            refine gc_ret ?_
            refine gx_then_ret ?_
            refine gx_block_ret ?_
            refine gx_then_ret ?_
            refine gx_round_ret ?_
            refine gx_block_ret ?_
            refine gx_then_ret ?_
            refine gx_ret2 rfl (by conv => lhs; whnf) (by conv => lhs; whnf) ?_
            have hz : powsW l = none := powsW_bad g0 g7 (by rw [numsW_allL]; exact allL_none hnx hmem)
            exact fun w' hw => ⟨[], by rw [hz]; rfl, St.pureI (fun s hs => by rw [hz] at hs; cases hs) (hw.sel (by repeat (first | exact Sel.nil | (apply Sel.cons; · (repeat (first | exact Pick.here | apply Pick.there))))))⟩
        · try simp only at hc18
          have hk' : k = l.length := by omega
          subst hk'
          rw [List.take_of_length_le (Nat.le_refl _), ← numsW_allL] at hl
          have hpl := numsW_len hl
          refine gc_exit ?_
          refine gx_then_exit ?_
          refine gx_round_exit ?_
          refine gx_block_hit ?_
          refine gx_then ?_
          refine gc_seq ?_
          refine gc_fact (fun w' hw => St.rowAt (hw.sel (M := [rowR 9 1 ao l.length co (ps.map (fun p : List UInt8 => Value.string (str p)))]) (by repeat (first | exact Sel.nil | (apply Sel.cons; · (repeat (first | exact Pick.here | apply Pick.there)))))) .here (by omega)) (fun hra => ?_)
          obtain ⟨hcap, gb, ob, ha⟩ := hra
          subst ha
          have hjl := joinB_len (c := 44) hpl.2
          have h49 : (joinB 44 ps).length ≤ 49 := by have : ps.length ≤ 7 := (by omega); have := Nat.mul_le_mul_right 7 this; omega
          refine gc_region ?_
          refine gp zmv ?_
          refine zc (fun _ => ?_) (c := fun w1 F1 F2 h1 h2 hd hst => joi_ok (c := co) (s := 44) (ps := ps) h1 (rd_row h2 hd (by repeat (first | exact Pick.here | apply Pick.there))) (by omega) (by omega) (by omega) (by omega) (by omega))
          refine gp zas ?_
          refine gp zas ?_
          refine gnt ?_
          refine gc_ret ?_
          refine gx_ret2 rfl (by conv => lhs; whnf) (by conv => lhs; whnf) ?_
          have hz : powsW l = some (joinB 44 ps) := powsW_go g0 g7 hl
          exact fun w' hw => ⟨(joinB 44 ps), by rw [hz]; rfl, St.pureI (fun s hs => by rw [hz] at hs; injection hs with hs; subst hs; exact ⟨rfl, h49⟩) (hw.sel (by repeat (first | exact Sel.nil | (apply Sel.cons; · (repeat (first | exact Pick.here | apply Pick.there))))))⟩

end Go.Proofs.YthicckleihbomaaDoor

/- Walks, by program (wg.py) out of a spec. -/
namespace Go.Proofs.YthicckleihbomaaDoor
open Go
set_option linter.unusedVariables false
set_option linter.unusedSimpArgs false

attribute [local irreducible] Gl Gc Gx Gs Runs Wt

set_option maxHeartbeats 400000 in
set_option maxRecDepth 20000 in
theorem sget_ok {w : World} {F : Nat → Prop} {csa : List Value} {o : OpS} {c : UInt8} (h : stars [] w F) (hx : RdOpS w (fun k => ¬ F k) csa o) (hg : Good c) (hdl : o.data.length ≤ 65535) (hwf : WfO o) (hT : TenG w (fun k => ¬ F k))  :
    Calls Tryd.prog 28 #[.agg csa.toArray, .int .u8 c.toNat] w (Post w F (fun x : Bs => .tuple #[.string (str x), .bool (getP o c).isSome]) (fun x => [pureR ((∀ s, getP o c = some s → x = s) ∧ ((getP o c).isSome = true → x.length ≤ 131071))])) := by
  obtain ⟨aa1, aa2, aa3, ca1, ca2, ca3, rfl, ⟨hsa, hsca⟩, ⟨hka, hkca⟩, hda, hdca⟩ := hx
  refine g_enter (env := [(0, .agg (List.toArray ([.int .i64 o.kind, .int .i64 o.node, .int .i64 o.n, .slice aa1 o.set.length ca1, .slice aa2 o.keep.length ca2, .slice aa3 o.data.length ca3]))), (1, .int .u8 c.toNat)]) Tryd.func28 rfl h Tryd.ntmps28 rfl rfl ?_
  refine gsr ?_
  refine zbN fun b2 => ?_
  refine gp zas ?_
  refine gp zas ?_
  refine gnt ?_
  refine gc_seq ?_
  refine gsr ?_
  refine gp zmv ?_
  refine gnt ?_
  refine gc_block ?_
  refine gsr ?_
  refine gp zei ?_
  refine gp zas ?_
  refine gnt ?_
  refine gif rfl (fun hc7 => ?_) (fun hc7 => ?_)
  · try simp only at hc7
    obtain rfl := u8c (n := 110) hc7 (by decide)
    refine gsr ?_
    refine gp zfa ?_
    refine gp zl ?_
    refine zc (fun _ => ?_) (c := fun w1 F1 F2 h1 h2 hd hst => sdigits_ok (n := o.n) h1 (hT.mv hst.still) hwf.1)
    refine gp zex ?_
    refine gp zex ?_
    refine gp zas ?_
    refine gp zas ?_
    refine gnt ?_
    refine gc_ret ?_
    refine gx_block_ret ?_
    refine gx_then_ret ?_
    refine gx_ret2 rfl (by conv => lhs; whnf) (by conv => lhs; whnf) ?_
    exact fun w' hw => ⟨(Lib.itoa o.n), by rw [show (getP o (UInt8.ofNat 110)).isSome = okN o.n from get_n o], St.pureI ⟨fun s hs => numW_is hs, fun hi => by have := itoa_len hwf.1; omega⟩ (hw.sel (by repeat (first | exact Sel.nil | (apply Sel.cons; · (repeat (first | exact Pick.here | apply Pick.there))))))⟩
  · refine gsr ?_
    refine gp zei ?_
    refine gp zas ?_
    refine gnt ?_
    refine gif rfl (fun hc14 => ?_) (fun hc14 => ?_)
    · try simp only at hc14
      obtain rfl := u8c (n := 105) hc14 (by decide)
      refine gsr ?_
      refine gp zfa ?_
      refine gp zl ?_
      refine zc (fun _ => ?_) (c := fun w1 F1 F2 h1 h2 hd hst => sdigits_ok (n := o.node) h1 (hT.mv hst.still) hwf.2.1)
      refine gp zex ?_
      refine gp zex ?_
      refine gp zas ?_
      refine gp zas ?_
      refine gnt ?_
      refine gc_ret ?_
      refine gx_block_ret ?_
      refine gx_then_ret ?_
      refine gx_ret2 rfl (by conv => lhs; whnf) (by conv => lhs; whnf) ?_
      exact fun w' hw => ⟨(Lib.itoa o.node), by rw [show (getP o (UInt8.ofNat 105)).isSome = okN o.node from get_i o], St.pureI ⟨fun s hs => numW_is hs, fun hi => by have := itoa_len hwf.2.1; omega⟩ (hw.sel (by repeat (first | exact Sel.nil | (apply Sel.cons; · (repeat (first | exact Pick.here | apply Pick.there))))))⟩
    · refine gsr ?_
      refine gp zei ?_
      refine gp zas ?_
      refine gnt ?_
      refine gif rfl (fun hc21 => ?_) (fun hc21 => ?_)
      · try simp only at hc21
        obtain rfl := u8c (n := 104) hc21 (by decide)
        refine gc_seq ?_
        refine gc_regionZ 8 ([blk b2 38 [.int .i64 o.kind, .int .i64 o.node, .int .i64 o.n, .slice aa1 o.set.length ca1, .slice aa2 o.keep.length ca2, .slice aa3 o.data.length ca3]]) ?_
        refine yps 0 rfl zfa ?_
        refine yps 1 rfl zl ?_
        refine yps 3 rfl zfa ?_
        refine yps 4 rfl zl ?_
        refine yps 5 rfl zln ?_
        refine yps 6 rfl (r_bool (c := true) zle (decide_eq_true (by omega))) ?_
        refine yos 2 rfl ?_
        refine zc (fun _ => ?_) (c := fun w1 F1 F2 h1 h2 hd hst => sunhexed_ok (d := o.data) h1 (hda.mv hst.still) hdca hdl)
        refine yxs ?_
        refine yps 7 rfl zas ?_
        refine yzs rfl ?_
        refine gp zas ?_
        refine gnt ?_
        refine gc_ret ?_
        refine gx_block_ret ?_
        refine gx_then_ret ?_
        refine gx_ret2 rfl (by conv => lhs; whnf) (by conv => lhs; whnf) ?_
        have hz : getP o (UInt8.ofNat 104) = some (hexW o.data) := by show (if o.data.length ≤ 65535 then some (hexW o.data) else none) = _; rw [if_pos hdl]
        exact fun w' hw => ⟨hexW o.data, by rw [hz]; rfl, St.pureI ⟨fun s hs => by rw [hz] at hs; injection hs, fun _ => hexW_len hdl⟩ (hw.sel (by repeat (first | exact Sel.nil | (apply Sel.cons; · (repeat (first | exact Pick.here | apply Pick.there))))))⟩
      · refine gsr ?_
        refine gp zei ?_
        refine gp zas ?_
        refine gnt ?_
        refine gif rfl (fun hc30 => ?_) (fun hc30 => ?_)
        · try simp only at hc30
          obtain rfl := u8c (n := 112) hc30 (by decide)
          refine gsr ?_
          refine gp zfa ?_
          refine gp zl ?_
          refine zc (fun x34 => ?_) (c := fun w1 F1 F2 h1 h2 hd hst => sunpowered_ok (l := o.set) h1 (hsa.mv hst.still) hsca (hT.mv hst.still) hwf.2.2)
          refine gl_pureR (fun hx34 => ?_)
          refine gp zex ?_
          refine gp zex ?_
          refine gp zas ?_
          refine gp zas ?_
          refine gnt ?_
          refine gc_ret ?_
          refine gx_block_ret ?_
          refine gx_then_ret ?_
          refine gx_ret2 rfl (by conv => lhs; whnf) (by conv => lhs; whnf) ?_
          exact fun w' hw => ⟨x34, rfl, St.pureI ⟨fun s hs => (hx34 s hs).1, fun hi => by obtain ⟨s, hs⟩ := Option.isSome_iff_exists.1 hi; have := hx34 s hs; rw [this.1]; omega⟩ (hw.sel (by repeat (first | exact Sel.nil | (apply Sel.cons; · (repeat (first | exact Pick.here | apply Pick.there))))))⟩
        · try simp only at hc30
          obtain rfl : c = 98 := by
            rcases hg with rfl | rfl | rfl | rfl | rfl
            · exact absurd rfl hc7
            · exact absurd rfl hc14
            · exact absurd rfl hc21
            · exact absurd rfl hc30
            · rfl
          refine gc_skip ?_
          refine gx_block_normal ?_
          refine gx_then ?_
          refine gc_seq ?_
          refine gc_regionZ 8 ([blk b2 38 [.int .i64 o.kind, .int .i64 o.node, .int .i64 o.n, .slice aa1 o.set.length ca1, .slice aa2 o.keep.length ca2, .slice aa3 o.data.length ca3]]) ?_
          refine yps 0 rfl zfa ?_
          refine yps 1 rfl zl ?_
          refine yps 3 rfl zfa ?_
          refine yps 4 rfl zl ?_
          refine yps 5 rfl zln ?_
          refine yps 6 rfl (r_bool (c := decide (o.keep.length ≤ 64)) zle (by rw [decide_eq_decide]; omega)) ?_
          refine yos 2 rfl ?_
          refine zc (fun _ => ?_) (c := fun w1 F1 F2 h1 h2 hd hst => sunbitted_ok (l := o.keep) h1 (hka.mv hst.still) hkca)
          refine yxs ?_
          refine yps 7 rfl zas ?_
          refine yzs rfl ?_
          refine gp zas ?_
          refine gnt ?_
          refine gc_ret ?_
          refine gx_ret2 rfl (by conv => lhs; whnf) (by conv => lhs; whnf) ?_
          have hz : getP o 98 = if o.keep.length ≤ 64 then some (bitW o.keep) else none := rfl
          have hq : ∀ s, getP o 98 = some s → bitW (o.keep.take 64) = s := fun s hs => by
            rw [hz] at hs
            split at hs
            · rw [List.take_of_length_le (by assumption)]; injection hs
            · cases hs
          exact fun w' hw => ⟨bitW (o.keep.take 64), by rw [get_b o], St.pureI ⟨hq, fun _ => bitW_len _⟩ (hw.sel (by repeat (first | exact Sel.nil | (apply Sel.cons; · (repeat (first | exact Pick.here | apply Pick.there))))))⟩

end Go.Proofs.YthicckleihbomaaDoor

/- Walks, by program (wg.py) out of a spec. -/
namespace Go.Proofs.YthicckleihbomaaDoor
open Go
set_option linter.unusedVariables false
set_option linter.unusedSimpArgs false

attribute [local irreducible] Gl Gc Gx Gs Runs Wt

set_option maxHeartbeats 400000 in
theorem line1_ok {w : World} {F : Nat → Prop} {f : FormS} {b1 : Nat} {k : Int} {t : List Value} (h : stars [blk b1 38 (.int .i64 k :: t)] w F) :
    Calls Tryd.prog 27 #[.agg (foC f).toArray, .pointer (some ⟨b1, 0, none⟩)] w (Post w F (fun _ : Unit => .bool (decide ((f.kind : Int) = k))) (fun _ => [blk b1 38 (.int .i64 k :: t)])) := by
  refine g_enter (env := [(0, .agg (foC f).toArray), (1, .pointer (some ⟨b1, 0, none⟩))]) Tryd.func27 rfl h Tryd.ntmps27 rfl rfl ?_
  refine gsr ?_
  refine zbN fun b2 => ?_
  refine gp zas ?_
  refine gnt ?_
  refine gsr ?_
  refine gp zfa ?_
  refine gp zl ?_
  refine gp zfa ?_
  refine gp zl ?_
  refine gp zei ?_
  refine gp zas ?_
  refine gnt ?_
  refine gc_ret ?_
  refine gx_ret1 rfl (by conv => lhs; whnf) ?_
  exact ze ()

set_option maxHeartbeats 400000 in
set_option maxRecDepth 20000 in
theorem fidx_ok {w : World} {F : Nat → Prop} {g b1 : Nat} {k : Int} {t : List Value} (h : stars [blk b1 38 (.int .i64 k :: t)] w F) (hr : RdRow w (fun k => ¬ F k) 3 (some ⟨g, 0, none⟩) 10 (forms.map foC).flatten) :
    Calls Tryd.prog 25 #[.slice (some ⟨g, 0, none⟩) 10 10, .func (.func 27) #[] #[.pointer (some ⟨b1, 0, none⟩)]] w (Post w F (fun _ : Unit => .int .i64 (fixI k)) (fun _ => [blk b1 38 (.int .i64 k :: t)])) := by
  refine g_enter (env := [(0, .slice (some ⟨g, 0, none⟩) 10 10), (1, .func (.func 27) #[] #[.pointer (some ⟨b1, 0, none⟩)])]) Tryd.func25 rfl h Tryd.ntmps25 rfl rfl ?_
  refine gsr ?_
  refine gp zas ?_
  refine gnt ?_
  refine gc_seq ?_
  refine gsr ?_
  refine gp zmv ?_
  refine gp zln ?_
  refine gp zmv ?_
  refine gnt ?_
  refine gc_block ?_
  refine gc_loop (α := Nat) (fun i => [pureR (i ≤ 10 ∧ ∀ j, j < i → ¬ ((j + 1 : Nat) : Int) = k), blk b1 38 (.int .i64 k :: t)]) (fun i => [(8, .int .i64 (i : Int))]) [4, 5, 9, 10, 11, 12, 13, 14, 15, 16, 17, 18] (fun i => 10 - i) 0 ?_ ?_ ?_
  · refine env_start (by kernel_rfl)
  · exact zlp ⟨Nat.zero_le _, fun i hi => absurd hi (Nat.not_lt_zero _)⟩
  · intro i u
    refine gc_pureR (fun hk => ?_)
    obtain ⟨hi, hm⟩ := hk
    replace hi : i ≤ 10 := hi
    refine gsr ?_
    refine gp zlt ?_
    refine gnt ?_
    refine gc_seq ?_
    refine gif rfl (fun hc9 => ?_) (fun hc9 => ?_)
    · try simp only at hc9
      have hi' : i < 10 := by omega
      obtain ⟨f, _, _, hfg, _, _, _⟩ := drop_at (l := forms) (k := i) hi'
      obtain ⟨g', o', ha, hA, _, hra⟩ := hr.elem hi'
      injection ha with ha
      injection ha with e1 e2
      subst e1
      subst e2
      rw [flatten_at (c := foC f) foCs_len (by rw [List.getElem?_map, hfg]; rfl)] at hra
      have hfk := forms_kind hfg
      refine gc_skip ?_
      refine gx_then ?_
      refine gc_seq ?_
      refine gc_block ?_
      refine gsr ?_
      refine gp zmv ?_
      refine gp zas ?_
      refine gnt ?_
      refine gsr ?_
      refine gp zmv ?_
      refine gp zmv ?_
      refine gp zmv ?_
      refine gp (r_val (v' := .pointer (some ⟨g, 0 + i * 3, none⟩)) zia (by simp)) ?_
      refine gp (r_ldNo (seg := foC f) rfl Ty.row_67 Ty.sz_67 hra (foC_len f) (by decide) hA) ?_
      refine gl_call (wt0 rfl) (e_callv (us := [.pointer (some ⟨b1, 0, none⟩)]) rfl Ty.call_27 rfl) (by repeat (first | exact Sel.nil | (apply Sel.cons; · (repeat (first | exact Pick.here | apply Pick.there))))) (fun w1 F1 F2 h1 h2 hd hst => line1_ok (f := f) (k := k) (t := t) h1) ?_
      intro _
      refine gnt ?_
      refine gif rfl (fun hc16 => ?_) (fun hc16 => ?_)
      · try simp only at hc16
        have hhit : ((i + 1 : Nat) : Int) = k := by have : (f.kind : Int) = k := (by simpa using hc16); rw [← hfk]; exact this
        have hz := fixI_hit hi' hhit
        refine gsr ?_
        refine gp zmv ?_
        refine gp zas ?_
        refine gnt ?_
        refine gc_ret ?_
        refine gx_block_ret ?_
        refine gx_then_ret ?_
        refine gx_round_ret ?_
        refine gx_block_ret ?_
        refine gx_then_ret ?_
        refine gx_ret1 rfl (by conv => lhs; whnf) ?_
        exact fun w' hw => ⟨(), by rw [hz], hw.sel (by repeat (first | exact Sel.nil | (apply Sel.cons; · (repeat (first | exact Pick.here | apply Pick.there)))))⟩
      · try simp only at hc16
        have hne : ¬ ((i + 1 : Nat) : Int) = k := by have : ¬ (f.kind : Int) = k := (by simpa using hc16); rw [← hfk]; exact this
        refine gc_skip ?_
        refine gx_block_normal ?_
        refine gx_then ?_
        refine gc_region ?_
        refine gp zad ?_
        refine gp zmv ?_
        refine gl_nil ?_
        refine zrd (i + 1) ?_ ?_
        · show 10 - (i + 1) < 10 - i
          omega
        · exact zlp (show i + 1 ≤ 10 ∧ ∀ j, j < i + 1 → ¬ ((j + 1 : Nat) : Int) = k from ⟨by omega, fun j hj => (by by_cases h' : j < i; exact hm j h'; (obtain rfl : j = i := by omega); exact hne)⟩)
    · try simp only at hc9
      have hi' : i = 10 := by omega
      subst hi'
      have hz := fixI_miss hm
      refine gc_exit ?_
      refine gx_then_exit ?_
      refine gx_round_exit ?_
      refine gx_block_hit ?_
      refine gx_then ?_
      refine gsr ?_
      refine gp zas ?_
      refine gnt ?_
      refine gc_ret ?_
      refine gx_ret1 rfl (by conv => lhs; whnf) ?_
      exact fun w' hw => ⟨(), by rw [hz], hw.sel (by repeat (first | exact Sel.nil | (apply Sel.cons; · (repeat (first | exact Pick.here | apply Pick.there)))))⟩

set_option maxHeartbeats 1000000 in
set_option maxRecDepth 20000 in
theorem sline_ok {w : World} {F : Nat → Prop} {csa : List Value} {o : OpS} (h : stars [] w F) (hx : RdOpS w (fun k => ¬ F k) csa o) (hdl : o.data.length ≤ 65535) (hwf : WfO o) (hT : TenG w (fun k => ¬ F k)) {ea : Nat → Addr} {es : List Nat} [Has es 4] (hE : GErr es w (fun k => ¬ F k) 153 ea)  :
    Calls Tryd.prog 13 #[.agg csa.toArray] w (Post w F (fun _ : Unit => .tuple #[.string (str (linO o)), eV 153 ea (linE o)]) (fun _ => [])) := by
  have hx0 := hx
  obtain ⟨aa1, aa2, aa3, ca1, ca2, ca3, rfl, ⟨hsa, hsca⟩, ⟨hka, hkca⟩, hda, hdca⟩ := hx
  refine g_enter (env := [(0, .agg (List.toArray ([.int .i64 o.kind, .int .i64 o.node, .int .i64 o.n, .slice aa1 o.set.length ca1, .slice aa2 o.keep.length ca2, .slice aa3 o.data.length ca3])))]) Tryd.func13 rfl h Tryd.ntmps13 rfl rfl ?_
  refine gsr ?_
  refine zbN fun b1 => ?_
  refine gp zas ?_
  refine gp zas ?_
  refine gnt ?_
  refine gsr ?_
  refine zc (fun g10 => ?_) (c := fun w1 F1 F2 h1 h2 hd hst => sforms_ok h1)
  refine gp zmf ?_
  refine zc (fun _ => ?_) (c := fun w1 F1 F2 h1 h2 hd hst => fidx_ok (k := o.kind) h1 (rd_row h2 hd (by repeat (first | exact Pick.here | apply Pick.there))))
  refine gp zas ?_
  refine gnt ?_
  refine gc_seq ?_
  refine gc_seq ?_
  by_cases g0 : 1 ≤ o.kind ∧ o.kind ≤ 10
  · obtain ⟨f, hfg, hfk, hfm⟩ := formK_at g0
    obtain ⟨i, hi⟩ : ∃ i : Nat, i = (o.kind - 1).toNat := ⟨_, rfl⟩
    rw [← hi] at hfg
    have hfi : fixI o.kind = (i : Int) := by unfold fixI; rw [if_pos g0]; omega
    have hi10 : i < 10 := by omega
    have hgd := forms_good f hfm
    have hfs := forms_small f hfm
    have hlin : linP o = (getsP o f.parts).map (f.word ++ ·) := by unfold linP; rw [hfk]
    refine gc_region ?_
    refine gp (r_int (j := (i : Int)) zmv hfi) ?_
    refine gp (r_bool (c := false) zlt (decide_eq_false (by omega))) ?_
    refine gnt ?_
    refine gc_condF rfl rfl ?_
    refine gc_skip ?_
    refine gx_then ?_
    refine gsr ?_
    refine zc (fun g16 => ?_) (c := fun w1 F1 F2 h1 h2 hd hst => sforms_ok h1)
    refine gp (r_int (j := (i : Int)) zmv hfi) ?_
    refine gp zia ?_
    refine gp (r_ldRow (css := forms.map foC) (cs := foC f) (i := i) rfl Ty.row_67 Ty.sz_67 (by repeat (first | exact Pick.here | apply Pick.there)) foCs_len (by rw [List.getElem?_map, hfg]; rfl) hi10) ?_
    refine zal fun b5 => ?_
    refine zsA (foC_len f) (foC_one f) ?_
    refine gl_eqc (cs' := [.int .i64 (f.kind : Int), .string (str f.word), .string (str f.parts)]) (by repeat (first | exact Pick.here | apply Pick.there)) rfl ?_
    refine gnt ?_
    refine gsr ?_
    refine gp zfa ?_
    refine gp zl ?_
    refine gp zas ?_
    refine gnt ?_
    refine gc_seq ?_
    refine gsr ?_
    refine gp zfa ?_
    refine gp zl ?_
    refine gp zlS ?_
    refine gp zmv ?_
    refine gnt ?_
    refine gc_block ?_
    refine gc_loop (α := Nat × Bs) (fun y => [pureR (y.1 ≤ f.parts.length ∧ (getsP o (f.parts.take y.1)).map (f.word ++ ·) = some y.2 ∧ y.2.length ≤ 131073 * (y.1 + 1)), blk b5 67 [.int .i64 (f.kind : Int), .string (str f.word), .string (str f.parts)], blk b1 38 [.int .i64 o.kind, .int .i64 o.node, .int .i64 o.n, .slice aa1 o.set.length ca1, .slice aa2 o.keep.length ca2, .slice aa3 o.data.length ca3]]) (fun y => [(25, .int .i64 (y.1 : Int)), (6, .string (str y.2))]) [2, 3, 7, 8, 9, 26, 27, 28, 29, 30, 31, 32, 33, 34, 35, 36, 37, 38, 39, 40, 41, 42, 43, 44] (fun y => f.parts.length - y.1) (0, f.word) ?_ ?_ ?_
    · refine env_start (by kernel_rfl)
    · exact zlp ⟨Nat.zero_le _, by simp [getsP], by have := forms_wl f hfm; show f.word.length ≤ 131073 * (0 + 1); omega⟩
    · intro y u
      obtain ⟨k, tx⟩ := y
      refine gc_pureR (fun hq => ?_)
      obtain ⟨hk, hu, hul⟩ := hq
      replace hk : k ≤ f.parts.length := hk
      replace hu : (getsP o (f.parts.take k)).map (f.word ++ ·) = some tx := hu
      replace hul : tx.length ≤ 131073 * (k + 1) := hul
      refine gsr ?_
      refine gp zlt ?_
      refine gnt ?_
      refine gc_seq ?_
      refine gif rfl (fun hc26 => ?_) (fun hc26 => ?_)
      · try simp only at hc26
        have hk' : k < f.parts.length := by omega
        obtain ⟨pc, _, _, hpg, _, hpm, hpt⟩ := drop_at hk'
        refine gc_skip ?_
        refine gx_then ?_
        refine gc_seq ?_
        refine gc_block ?_
        refine gsr ?_
        refine gp zmv ?_
        refine gp zas ?_
        refine gnt ?_
        refine gc_seq ?_
        refine gc_regionZ 10 ([blk b1 38 [.int .i64 o.kind, .int .i64 o.node, .int .i64 o.n, .slice aa1 o.set.length ca1, .slice aa2 o.keep.length ca2, .slice aa3 o.data.length ca3], blk b5 67 [.int .i64 (f.kind : Int), .string (str f.word), .string (str f.parts)]]) ?_
        refine yps 0 rfl zL ?_
        refine yps 1 rfl zfa ?_
        refine yps 2 rfl zl ?_
        refine yps 3 rfl zmv ?_
        refine yps 4 rfl (r_ixs (b := f.parts) (j := k) (c := pc) hpg) ?_
        refine yos 5 rfl ?_
        refine zc (fun x34 => ?_) (c := fun w1 F1 F2 h1 h2 hd hst => sget_ok (o := o) (c := pc) h1 (RdK.mv hx0 hst.still) (hgd.2.1 pc hpm) hdl hwf (hT.mv hst.still))
        refine gl_pureR (fun hx34 => ?_)
        obtain ⟨hx34, hxl34⟩ := hx34
        refine yxs ?_
        refine yps 6 rfl zmv ?_
        refine yps 7 rfl zex ?_
        refine yps 8 rfl zex ?_
        refine yps 9 rfl zas ?_
        refine yzs rfl ?_
        refine gp zas ?_
        refine gnt ?_
        refine gc_seq ?_
        refine gsr ?_
        refine gp zmv ?_
        refine gp znt ?_
        refine gnt ?_
        refine gif rfl (fun hc38 => ?_) (fun hc38 => ?_)
        · try simp only at hc38
          have hn : getP o pc = none := by simpa using hc38
          refine gc_seq ?_
          refine gc_regionS (by kernel_rfl) (by kernel_rfl) ?_
          refine sp (r_ld1o rfl Ty.row_25 (hE.c 4 Has.h) (hE.n 4 Has.h)) ?_
          refine sp zas ?_
          refine sp zas ?_
          refine gs_nil ?_
          refine gx_then ?_
          refine gc_ret ?_
          refine gx_then_ret ?_
          refine gx_block_ret ?_
          refine gx_then_ret ?_
          refine gx_round_ret ?_
          refine gx_block_ret ?_
          refine gx_then_ret ?_
          refine gx_ret2 rfl (by conv => lhs; whnf) (by conv => lhs; whnf) ?_
          have hz : linP o = none := by rw [hlin, gets_none hn hpm]; rfl
          exact fun w' hw => ⟨(), by rw [(lin_none hz).1, (lin_none hz).2]; rfl, hw.sel (by repeat (first | exact Sel.nil | (apply Sel.cons; · (repeat (first | exact Pick.here | apply Pick.there)))))⟩
        · try simp only at hc38
          have hn : (getP o pc).isSome = true := by simpa using hc38
          obtain ⟨sg, hsg⟩ := Option.isSome_iff_exists.1 hn
          have hxs := hx34 sg hsg
          subst hxs
          have hxl := hxl34 hn
          obtain ⟨tt, htt, htx⟩ := Option.map_eq_some_iff.1 hu
          have hu2 : (getsP o (f.parts.take (k + 1))).map (f.word ++ ·) = some (tx ++ ([32] ++ x34)) := by rw [hpt, gets_snoc htt hsg, ← htx]; simp
          refine gc_skip ?_
          refine gx_then ?_
          refine gc_region ?_
          refine gp zmv ?_
          refine gp zmv ?_
          refine gp (zcat (a := [32]) (b := x34) (hl := by simp; omega)) ?_
          refine gp (zcat (b := [32] ++ x34) (hl := by simp; omega)) ?_
          refine gp zas ?_
          refine gl_nil ?_
          refine gx_block_normal ?_
          refine gx_then ?_
          refine gc_region ?_
          refine gp zad ?_
          refine gp zmv ?_
          refine gl_nil ?_
          refine zrd ((k + 1, tx ++ ([32] ++ x34))) ?_ ?_
          · show f.parts.length - (k + 1) < f.parts.length - k
            omega
          · exact zlp (show k + 1 ≤ f.parts.length ∧ (getsP o (f.parts.take (k + 1))).map (f.word ++ ·) = some (tx ++ ([32] ++ x34)) ∧ (tx ++ ([32] ++ x34)).length ≤ 131073 * (k + 1 + 1) from ⟨by omega, hu2, by simp; omega⟩)
      · try simp only at hc26
        have hk' : k = f.parts.length := by omega
        subst hk'
        rw [List.take_of_length_le (Nat.le_refl _), ← hlin] at hu
        refine gc_exit ?_
        refine gx_then_exit ?_
        refine gx_round_exit ?_
        refine gx_block_hit ?_
        refine gx_then ?_
        refine gsr ?_
        refine gp zmv ?_
        refine gp zas ?_
        refine gp zas ?_
        refine gnt ?_
        refine gc_ret ?_
        refine gx_ret2 rfl (by conv => lhs; whnf) (by conv => lhs; whnf) ?_
        exact fun w' hw => ⟨(), by rw [(lin_is hu).1, (lin_is hu).2, eV_zero], hw.sel (by repeat (first | exact Sel.nil | (apply Sel.cons; · (repeat (first | exact Pick.here | apply Pick.there)))))⟩
  · have hfi : fixI o.kind = -1 := by unfold fixI; rw [if_neg g0]
    refine gc_region ?_
    refine gp (r_int (j := -1) zmv hfi) ?_
    refine gp (r_bool (c := true) zlt (rfl)) ?_
    refine gnt ?_
    refine gc_condT rfl rfl ?_
    refine gc_seq ?_
    refine gc_regionS (by kernel_rfl) (by kernel_rfl) ?_
    refine sp (r_ld1o rfl Ty.row_25 (hE.c 4 Has.h) (hE.n 4 Has.h)) ?_
    refine sp zas ?_
    refine sp zas ?_
    refine gs_nil ?_
    refine gx_then ?_
    refine gc_ret ?_
    refine gx_then_ret ?_
    refine gx_ret2 rfl (by conv => lhs; whnf) (by conv => lhs; whnf) ?_
    have hz : linP o = none := by unfold linP; rw [formK_none g0]
    exact fun w' hw => ⟨(), by rw [(lin_none hz).1, (lin_none hz).2]; rfl, hw.sel (by repeat (first | exact Sel.nil | (apply Sel.cons; · (repeat (first | exact Pick.here | apply Pick.there)))))⟩

end Go.Proofs.YthicckleihbomaaDoor

/- Walks, by program (wg.py) out of a spec. -/
namespace Go.Proofs.YthicckleihbomaaDoor
open Go
set_option linter.unusedVariables false
set_option linter.unusedSimpArgs false

attribute [local irreducible] Gl Gc Gx Gs Runs Wt

set_option maxHeartbeats 1000000 in
set_option maxRecDepth 20000 in
theorem stext_ok {w : World} {F : Nat → Prop} {a : Option Addr} {n c : Nat} {l : List OpS} (h : stars [] w F) (hl : RdList (RdOpS w (fun k => ¬ F k)) w (fun k => ¬ F k) 6 a n l) (hok : ∀ o ∈ l, o.data.length ≤ 65535 ∧ WfO o) (hT : TenG w (fun k => ¬ F k)) {ea : Nat → Addr} {es : List Nat} [Has es 3] [Has es 4] (hE : GErr es w (fun k => ¬ F k) 153 ea)  :
    Calls Tryd.prog 14 #[.slice a n c] w (Post w F (fun _ : Unit => .tuple #[.string (str (texO l)), eV 153 ea (texE l)]) (fun _ => [])) := by
  have hn := hl.len (by decide)
  have hmx := hl.max
  simp only [maxLen] at hmx
  refine g_enter (env := [(0, .slice a n c)]) Tryd.func14 rfl h Tryd.ntmps14 rfl rfl ?_
  refine gsr ?_
  refine gp zas ?_
  refine gp zas ?_
  refine gnt ?_
  refine gsr ?_
  refine zal fun b4 => ?_
  refine gnt ?_
  refine gsr ?_
  refine gp zas ?_
  refine gnt ?_
  refine gc_seq ?_
  refine gsr ?_
  refine gp zmv ?_
  refine gp zln ?_
  refine gp zmv ?_
  refine gnt ?_
  refine gc_block ?_
  refine gc_loop (α := Nat × (Bool × (List Bs × Bs))) (fun y => [pureR (y.1 ≤ n ∧ linsP (l.take y.1) = some y.2.2.1 ∧ (y.2.1 = false → y.2.2.2 = textB y.2.2.1 ∧ totB y.2.2.1 ≤ 65535) ∧ (y.2.1 = true → 65535 < totB y.2.2.1) ∧ List.length y.2.2.2 ≤ 65535), BldR b4 y.2.2.2]) (fun y => [(12, .int .i64 (y.1 : Int)), (5, .bool y.2.1)]) [2, 3, 7, 8, 9, 13, 14, 15, 16, 17, 18, 19, 20, 21, 22, 23, 24, 25, 26, 27, 28, 29, 30, 31, 32, 33, 34, 35, 36, 37] (fun y => n - y.1) (0, (false, ([], []))) ?_ ?_ ?_
  · refine env_start (by kernel_rfl)
  · exact fun w' hw => St.pureI ⟨Nat.zero_le _, rfl, fun _ => ⟨rfl, Nat.zero_le _⟩, fun e => (by cases e), Nat.zero_le _⟩ (St.bld (u := false) (bs := []) ((hw.rowNil (e := 5) (size := 1)).sel (M := [blk b4 73 [.pointer none, .slice none 0 0], rowR 5 1 none 0 0 []]) (by repeat (first | exact Sel.nil | (apply Sel.cons; · (repeat (first | exact Pick.here | apply Pick.there)))))) rfl rfl (fun _ => rfl))
  · intro y u
    obtain ⟨k, lg, ls, out⟩ := y
    refine gc_pureR (fun hq => ?_)
    obtain ⟨hk, hls, hf, ht, ho⟩ := hq
    replace hk : k ≤ n := hk
    replace hls : linsP (l.take k) = some ls := hls
    replace hf : lg = false → out = textB ls ∧ totB ls ≤ 65535 := hf
    replace ht : lg = true → 65535 < totB ls := ht
    replace ho : out.length ≤ 65535 := ho
    refine gsr ?_
    refine gp zlt ?_
    refine gnt ?_
    refine gc_seq ?_
    refine gif rfl (fun hc13 => ?_) (fun hc13 => ?_)
    · try simp only at hc13
      have hk' : k < n := by omega
      obtain ⟨g1, o1, d1, x1, ha1, hA1, _, hra1, hcl1, hx1, hrd1⟩ := hl.elem (i := k) (by decide) hk'
      subst ha1
      have hrk := hrd1
      obtain ⟨ax1, ax2, ax3, cx1, cx2, cx3, rfl, ⟨hsx, hscx⟩, ⟨hkx, hkcx⟩, hdx, hdcx⟩ := hrd1
      obtain ⟨hil, hie⟩ := List.getElem?_eq_some_iff.1 hx1
      obtain ⟨x2, _, _, hg2, _, hmem, htk⟩ := drop_at hil
      obtain rfl : x2 = x1 := by rw [hx1] at hg2; injection hg2 with hg2; exact hg2.symm
      obtain ⟨hxd, hxw⟩ := hok x2 hmem
      refine gc_skip ?_
      refine gx_then ?_
      refine gc_seq ?_
      refine gc_block ?_
      refine gsr ?_
      refine gp (r_val (v' := .pointer (some ⟨g1, o1 + k * 6, none⟩)) zia (by simp)) ?_
      refine gp (r_ldNo (seg := [.int .i64 x2.kind, .int .i64 x2.node, .int .i64 x2.n, .slice ax1 x2.set.length cx1, .slice ax2 x2.keep.length cx2, .slice ax3 x2.data.length cx3]) rfl Ty.row_38 Ty.sz_38 hra1 rfl (by decide) hA1) ?_
      refine zal fun b7 => ?_
      refine zsN ?_
      refine gnt ?_
      refine gc_seq ?_
      by_cases g1 : (linP x2).isSome = true
      · obtain ⟨s, hs⟩ := Option.isSome_iff_exists.1 g1
        have hls2 : linsP (l.take (k + 1)) = some (ls ++ [s]) := by rw [linsP_allL] at hls ⊢; rw [htk]; exact allL_snoc hls hs
        have htb := totB_snoc ls s
        have htx := textB_len ls
        have hsl := lin_len hs hxd
        refine gc_region ?_
        refine gp zL ?_
        refine zc (fun _ => ?_) (c := fun w1 F1 F2 h1 h2 hd hst => sline_ok (o := x2) h1 (RdK.mv hrk hst.still) hxd hxw (hT.mv hst.still) (hE.mv hst.still))
        rw [(lin_is hs).1, (lin_is hs).2]
        refine gp zmv ?_
        refine gp zex ?_
        refine gp zex ?_
        refine gp zas ?_
        refine gp zas ?_
        refine gnt ?_
        refine gc_seq ?_
        refine gsr ?_
        refine gp zmv ?_
        refine gp (r_bool (c := false) (r_nenil (k := 0) rfl (by kernel_rfl)) rfl) ?_
        refine gnt ?_
        refine gc_condF rfl rfl ?_
        refine gc_skip ?_
        refine gx_then ?_
        refine gc_seq ?_
        by_cases g5 : lg = true
        · subst g5
          have htl : 65535 < totB (ls ++ [s]) := by have := ht rfl; omega
          refine gc_region ?_
          refine gp zmv ?_
          refine gp zmv ?_
          refine gn ?_
          refine gn ?_
          refine gn ?_
          refine gn ?_
          refine gn ?_
          refine gp zpk ?_
          refine gp zas ?_
          refine gnt ?_
          refine gsr ?_
          refine gp zmv ?_
          refine gp (r_bool (c := false) znt (rfl)) ?_
          refine gnt ?_
          refine gc_condF rfl rfl ?_
          refine gc_skip ?_
          refine gx_block_normal ?_
          refine gx_then ?_
          refine gc_region ?_
          refine gp zad ?_
          refine gp zmv ?_
          refine gl_nil ?_
          refine zrd ((k + 1, (true, (ls ++ [s], out)))) ?_ ?_
          · show n - (k + 1) < n - k
            omega
          · exact zlp (show k + 1 ≤ n ∧ linsP (l.take (k + 1)) = some (ls ++ [s]) ∧ (true = false → out = textB (ls ++ [s]) ∧ totB (ls ++ [s]) ≤ 65535) ∧ (true = true → 65535 < totB (ls ++ [s])) ∧ List.length out ≤ 65535 from ⟨by omega, hls2, fun e => (by cases e), fun _ => htl, ho⟩)
        · obtain rfl : lg = false := by simpa using g5
          obtain ⟨hfo, hft⟩ := hf rfl
          have hole : out.length = totB ls := by rw [hfo, htx]
          by_cases g6 : 65535 < out.length + s.length + 1
          · have htl : 65535 < totB (ls ++ [s]) := by omega
            refine gc_region ?_
            refine gp zmv ?_
            refine gp zmv ?_
            refine gq zmv ?_
            refine gq zlS ?_
            refine zc (fun _ => ?_) (c := fun w1 F1 F2 h1 h2 hd hst => blen_ok (bs := out) h1)
            refine gq (r_int (j := ((65535 - out.length : Nat) : Int)) zsb (by omega)) ?_
            refine gq (r_bool (c := true) zge (decide_eq_true (by omega))) ?_
            refine gp zpk ?_
            refine gp zas ?_
            refine gnt ?_
            refine gsr ?_
            refine gp zmv ?_
            refine gp (r_bool (c := false) znt (rfl)) ?_
            refine gnt ?_
            refine gc_condF rfl rfl ?_
            refine gc_skip ?_
            refine gx_block_normal ?_
            refine gx_then ?_
            refine gc_region ?_
            refine gp zad ?_
            refine gp zmv ?_
            refine gl_nil ?_
            refine zrd ((k + 1, (true, (ls ++ [s], out)))) ?_ ?_
            · show n - (k + 1) < n - k
              omega
            · exact zlp (show k + 1 ≤ n ∧ linsP (l.take (k + 1)) = some (ls ++ [s]) ∧ (true = false → out = textB (ls ++ [s]) ∧ totB (ls ++ [s]) ≤ 65535) ∧ (true = true → 65535 < totB (ls ++ [s])) ∧ List.length out ≤ 65535 from ⟨by omega, hls2, fun e => (by cases e), fun _ => htl, ho⟩)
          · have htl : totB (ls ++ [s]) ≤ 65535 := by omega
            have hol : (out ++ (s ++ [10])).length ≤ 65535 := by simp; omega
            refine gc_region ?_
            refine gp zmv ?_
            refine gp zmv ?_
            refine gq zmv ?_
            refine gq zlS ?_
            refine zc (fun _ => ?_) (c := fun w1 F1 F2 h1 h2 hd hst => blen_ok (bs := out) h1)
            refine gq (r_int (j := ((65535 - out.length : Nat) : Int)) zsb (by omega)) ?_
            refine gq (r_bool (c := false) zge (decide_eq_false (by omega))) ?_
            refine gp zpk ?_
            refine gp zas ?_
            refine gnt ?_
            refine gsr ?_
            refine gp zmv ?_
            refine gp (r_bool (c := true) znt (rfl)) ?_
            refine gnt ?_
            refine gc_condT rfl rfl ?_
            refine gc_region ?_
            refine gp zmv ?_
            refine gp (zcat (a := s) (b := [10]) (hl := by simp; omega)) ?_
            refine zc (fun _ => ?_) (c := fun w1 F1 F2 h1 h2 hd hst => bws_ok (bs := out) (s := s ++ [10]) h1 (by simp at hol ⊢; omega) (by simp))
            refine gl_nil ?_
            refine gx_block_normal ?_
            refine gx_then ?_
            refine gc_region ?_
            refine gp zad ?_
            refine gp zmv ?_
            refine gl_nil ?_
            refine zrd ((k + 1, (false, (ls ++ [s], out ++ (s ++ [10]))))) ?_ ?_
            · show n - (k + 1) < n - k
              omega
            · exact zlp (show k + 1 ≤ n ∧ linsP (l.take (k + 1)) = some (ls ++ [s]) ∧ (false = false → (out ++ (s ++ [10])) = textB (ls ++ [s]) ∧ totB (ls ++ [s]) ≤ 65535) ∧ (false = true → 65535 < totB (ls ++ [s])) ∧ List.length (out ++ (s ++ [10])) ≤ 65535 from ⟨by omega, hls2, fun _ => ⟨by rw [textB_snoc, (hf rfl).1], htl⟩, fun e => (by cases e), hol⟩)
      · have hz : linP x2 = none := by simpa using g1
        refine gc_region ?_
        refine gp zL ?_
        refine zc (fun _ => ?_) (c := fun w1 F1 F2 h1 h2 hd hst => sline_ok (o := x2) h1 (RdK.mv hrk hst.still) hxd hxw (hT.mv hst.still) (hE.mv hst.still))
        rw [(lin_none hz).1, (lin_none hz).2]
        refine gp zmv ?_
        refine gp zex ?_
        refine gp zex ?_
        refine gp zas ?_
        refine gp zas ?_
        refine gnt ?_
        refine gc_seq ?_
        refine gsr ?_
        refine gp zmv ?_
        refine gp (r_bool (c := true) (r_nenil (k := 4) rfl (by kernel_rfl)) rfl) ?_
        refine gnt ?_
        refine gc_condT rfl rfl ?_
        refine gsr ?_
        refine gp zmv ?_
        refine gp zas ?_
        refine gp zas ?_
        refine gnt ?_
        refine gc_ret ?_
        refine gx_then_ret ?_
        refine gx_block_ret ?_
        refine gx_then_ret ?_
        refine gx_round_ret ?_
        refine gx_block_ret ?_
        refine gx_then_ret ?_
        refine gx_ret2 rfl (by conv => lhs; whnf) (by conv => lhs; whnf) ?_
        have hzz : linsP l = none := by rw [linsP_allL]; exact allL_none hz hmem
        exact fun w' hw => ⟨(), by rw [(tex_none hzz).1, (tex_none hzz).2]; rfl, hw.sel (by repeat (first | exact Sel.nil | (apply Sel.cons; · (repeat (first | exact Pick.here | apply Pick.there)))))⟩
    · try simp only at hc13
      have hk' : k = n := by omega
      rw [hk', hn, List.take_of_length_le (Nat.le_refl _)] at hls
      refine gc_exit ?_
      refine gx_then_exit ?_
      refine gx_round_exit ?_
      refine gx_block_hit ?_
      refine gx_then ?_
      refine gc_seq ?_
      refine gc_seq ?_
      by_cases g7 : lg = true
      · subst g7
        have htl := ht rfl
        refine gc_region ?_
        refine gp zmv ?_
        refine gnt ?_
        refine gc_condT rfl rfl ?_
        refine gc_seq ?_
        refine gc_regionS (by kernel_rfl) (by kernel_rfl) ?_
        refine sp (r_ld1o rfl Ty.row_25 (hE.c 3 Has.h) (hE.n 3 Has.h)) ?_
        refine sp zas ?_
        refine sp zas ?_
        refine gs_nil ?_
        refine gx_then ?_
        refine gc_ret ?_
        refine gx_then_ret ?_
        refine gx_ret2 rfl (by conv => lhs; whnf) (by conv => lhs; whnf) ?_
        exact fun w' hw => ⟨(), by rw [(tex_long hls htl).1, (tex_long hls htl).2]; rfl, hw.sel (by repeat (first | exact Sel.nil | (apply Sel.cons; · (repeat (first | exact Pick.here | apply Pick.there)))))⟩
      · obtain rfl : lg = false := by simpa using g7
        obtain ⟨hfo, hft⟩ := hf rfl
        refine gc_region ?_
        refine gp zmv ?_
        refine gnt ?_
        refine gc_condF rfl rfl ?_
        refine gc_skip ?_
        refine gx_then ?_
        refine gsr ?_
        refine zc (fun _ => ?_) (c := fun w1 F1 F2 h1 h2 hd hst => bstr_ok (bs := out) h1)
        refine gp zas ?_
        refine gp zas ?_
        refine gnt ?_
        refine gc_ret ?_
        refine gx_ret2 rfl (by conv => lhs; whnf) (by conv => lhs; whnf) ?_
        exact fun w' hw => ⟨(), by rw [(tex_is hls (by omega)).1, (tex_is hls (by omega)).2, eV_zero, hfo], hw.sel (by repeat (first | exact Sel.nil | (apply Sel.cons; · (repeat (first | exact Pick.here | apply Pick.there)))))⟩

end Go.Proofs.YthicckleihbomaaDoor

/- Walks, by program (wg.py) out of a spec. -/
namespace Go.Proofs.YthicckleihbomaaDoor
open Go
set_option linter.unusedVariables false
set_option linter.unusedSimpArgs false


theorem right_iff {o : OpS} : rightP o = true ↔ 1 ≤ (refPlain o).kind ∧ (refPlain o).kind ≤ 10 ∧ 0 ≤ (refPlain o).n ∧ (refPlain o).n ≤ 999999 ∧ 0 ≤ (refPlain o).node ∧ (refPlain o).node ≤ 999999 ∧ (refPlain o).set.length ≤ 7 ∧ (refPlain o).keep.length ≤ 64 ∧ ∀ x ∈ (refPlain o).set, 0 ≤ x ∧ x ≤ 999999 := by
  simp only [rightP, okN, Bool.and_eq_true, decide_eq_true_eq, List.all_eq_true, and_assoc]
theorem right_no {o : OpS} (h : ¬ (1 ≤ (refPlain o).kind ∧ (refPlain o).kind ≤ 10 ∧ 0 ≤ (refPlain o).n ∧ (refPlain o).n ≤ 999999 ∧ 0 ≤ (refPlain o).node ∧ (refPlain o).node ≤ 999999 ∧ (refPlain o).set.length ≤ 7 ∧ (refPlain o).keep.length ≤ 64)) : rightP o = false := by
  cases e : rightP o with
  | false => rfl
  | true => obtain ⟨h1, h2, h3, h4, h5, h6, h7, h8, _⟩ := right_iff.1 e; exact absurd ⟨h1, h2, h3, h4, h5, h6, h7, h8⟩ h
theorem right_bad {o : OpS} {x : Int} (hx : x ∈ (refPlain o).set) (h : x < 0 ∨ 999999 < x) : rightP o = false := by
  cases e : rightP o with
  | false => rfl
  | true => obtain ⟨_, _, _, _, _, _, _, _, h9⟩ := right_iff.1 e; have := h9 x hx; omega

attribute [local irreducible] Gl Gc Gx Gs Runs Wt

set_option maxHeartbeats 2000000 in
set_option maxRecDepth 20000 in
theorem rplain_ok {w : World} {F : Nat → Prop} {w' : World} {A : Nat → Prop} {csa : List Value} {o : OpS} (h : stars [] w F) (hx : RdOpS w' A csa o) :
    Calls Tryd.prog 16 #[.agg csa.toArray] w (Post w F (fun d : List Value => .agg d.toArray) (fun d => [pureR (RdOpS w' A d (refPlain o))])) := by
  obtain ⟨aa1, aa2, aa3, ca1, ca2, ca3, rfl, ⟨hsa, hsca⟩, ⟨hka, hkca⟩, hda, hdca⟩ := hx
  refine g_enter (env := [(0, .agg (List.toArray ([.int .i64 o.kind, .int .i64 o.node, .int .i64 o.n, .slice aa1 o.set.length ca1, .slice aa2 o.keep.length ca2, .slice aa3 o.data.length ca3])))]) Tryd.func16 rfl h Tryd.ntmps16 rfl rfl ?_
  refine gsr ?_
  refine zbN fun b1 => ?_
  refine zal fun b2 => ?_
  refine gnt ?_
  refine gsr ?_
  refine gp zfa ?_
  refine gp zl ?_
  refine gp (zbu (cs := [.int .i64 o.kind, .int .i64 0, .int .i64 0, .slice none 0 0, .slice none 0 0, .slice none 0 0]) (hf := rfl)) ?_
  refine zal fun b3 => ?_
  refine zsN ?_
  refine gnt ?_
  refine gc_seq ?_
  refine gsr ?_
  refine gp zfa ?_
  refine gp zl ?_
  refine gnt ?_
  refine gc_block ?_
  refine gc_seq ?_
  refine gc_seq ?_
  by_cases g1 : o.kind = 1
  · refine gc_region ?_
    refine gp (r_bool (c := true) zei (decide_eq_true g1)) ?_
    refine gp zas ?_
    refine gnt ?_
    refine gc_condT rfl rfl ?_
    refine gc_skip ?_
    refine gx_then ?_
    refine gc_condT rfl rfl ?_
    refine gc_region ?_
    refine gp zfa ?_
    refine gp zl ?_
    refine gp zfa ?_
    refine zs1 ?_
    refine gl_nil ?_
    refine gx_block_normal ?_
    refine gx_then ?_
    refine gsr ?_
    refine gp zL ?_
    refine zsN ?_
    refine gnt ?_
    refine gc_ret ?_
    refine gx_retc rfl rfl (ld_aggS Ty.row_44 Ty.sz_44 (by repeat (first | exact Pick.here | apply Pick.there)) (by (simp only [List.drop_succ_cons, List.drop_zero, List.take_succ_cons, List.take_zero, List.cons_append, List.nil_append, List.append_assoc, drop_dc, drop_dc', take_dc, take_dc', drop_L, drop_L', take_L, take_L', len_L, Nat.reduceLeDiff, Nat.reduceSub, Nat.reduceAdd, Nat.le_refl, List.length_cons, List.length_append, List.length_nil, dc_length, List.drop_nil, List.take_nil, List.append_nil, List.length_map, List.length_replicate]; first | done | rfl)) (by first | rfl | (simp only [List.drop_succ_cons, List.drop_zero, List.take_succ_cons, List.take_zero, List.cons_append, List.nil_append, List.append_assoc, drop_dc, drop_dc', take_dc, take_dc', drop_L, drop_L', take_L, take_L', len_L, Nat.reduceLeDiff, Nat.reduceSub, Nat.reduceAdd, Nat.le_refl, List.length_cons, List.length_append, List.length_nil, dc_length, List.drop_nil, List.take_nil, List.append_nil, List.length_map, List.length_replicate]; first | done | omega))) ?_
    have hp : refPlain o = ⟨o.kind, 0, o.n, [], [], []⟩ := by rw [refPlain, if_pos (by omega)]
    exact fun w1 hw => ⟨[.int .i64 o.kind, .int .i64 0, .int .i64 o.n, .slice none 0 0, .slice none 0 0, .slice none 0 0], rfl, St.pureI (by rw [hp]; exact ⟨none, none, none, 0, 0, 0, rfl, ⟨RdRow.nil, Nat.le_refl _⟩, ⟨RdRow.nil, Nat.le_refl _⟩, RdRow.nil, Nat.le_refl _⟩) (hw.sel (by repeat (first | exact Sel.nil | (apply Sel.cons; · (repeat (first | exact Pick.here | apply Pick.there))))))⟩
  · refine gc_region ?_
    refine gp (r_bool (c := false) zei (decide_eq_false g1)) ?_
    refine gp zas ?_
    refine gnt ?_
    refine gc_condF rfl rfl ?_
    refine gc_seq ?_
    by_cases g2 : o.kind = 2
    · refine gc_region ?_
      refine gp (r_bool (c := true) zei (decide_eq_true g2)) ?_
      refine gp zas ?_
      refine gnt ?_
      refine gc_condT rfl rfl ?_
      refine gc_skip ?_
      refine gx_then ?_
      refine gc_condT rfl rfl ?_
      refine gc_region ?_
      refine gp zfa ?_
      refine gp zl ?_
      refine gp zfa ?_
      refine zs1 ?_
      refine gl_nil ?_
      refine gx_block_normal ?_
      refine gx_then ?_
      refine gsr ?_
      refine gp zL ?_
      refine zsN ?_
      refine gnt ?_
      refine gc_ret ?_
      refine gx_retc rfl rfl (ld_aggS Ty.row_44 Ty.sz_44 (by repeat (first | exact Pick.here | apply Pick.there)) (by (simp only [List.drop_succ_cons, List.drop_zero, List.take_succ_cons, List.take_zero, List.cons_append, List.nil_append, List.append_assoc, drop_dc, drop_dc', take_dc, take_dc', drop_L, drop_L', take_L, take_L', len_L, Nat.reduceLeDiff, Nat.reduceSub, Nat.reduceAdd, Nat.le_refl, List.length_cons, List.length_append, List.length_nil, dc_length, List.drop_nil, List.take_nil, List.append_nil, List.length_map, List.length_replicate]; first | done | rfl)) (by first | rfl | (simp only [List.drop_succ_cons, List.drop_zero, List.take_succ_cons, List.take_zero, List.cons_append, List.nil_append, List.append_assoc, drop_dc, drop_dc', take_dc, take_dc', drop_L, drop_L', take_L, take_L', len_L, Nat.reduceLeDiff, Nat.reduceSub, Nat.reduceAdd, Nat.le_refl, List.length_cons, List.length_append, List.length_nil, dc_length, List.drop_nil, List.take_nil, List.append_nil, List.length_map, List.length_replicate]; first | done | omega))) ?_
      have hp : refPlain o = ⟨o.kind, 0, o.n, [], [], []⟩ := by rw [refPlain, if_pos (by omega)]
      exact fun w1 hw => ⟨[.int .i64 o.kind, .int .i64 0, .int .i64 o.n, .slice none 0 0, .slice none 0 0, .slice none 0 0], rfl, St.pureI (by rw [hp]; exact ⟨none, none, none, 0, 0, 0, rfl, ⟨RdRow.nil, Nat.le_refl _⟩, ⟨RdRow.nil, Nat.le_refl _⟩, RdRow.nil, Nat.le_refl _⟩) (hw.sel (by repeat (first | exact Sel.nil | (apply Sel.cons; · (repeat (first | exact Pick.here | apply Pick.there))))))⟩
    · refine gc_region ?_
      refine gp (r_bool (c := false) zei (decide_eq_false g2)) ?_
      refine gp zas ?_
      refine gnt ?_
      refine gc_condF rfl rfl ?_
      by_cases g3 : o.kind = 3
      · refine gc_region ?_
        refine gp (r_bool (c := true) zei (decide_eq_true g3)) ?_
        refine gp zas ?_
        refine gnt ?_
        refine gc_condT rfl rfl ?_
        refine gc_region ?_
        refine gp zfa ?_
        refine gp zl ?_
        refine gp zfa ?_
        refine zs1 ?_
        refine gl_nil ?_
        refine gx_block_normal ?_
        refine gx_then ?_
        refine gsr ?_
        refine gp zL ?_
        refine zsN ?_
        refine gnt ?_
        refine gc_ret ?_
        refine gx_retc rfl rfl (ld_aggS Ty.row_44 Ty.sz_44 (by repeat (first | exact Pick.here | apply Pick.there)) (by (simp only [List.drop_succ_cons, List.drop_zero, List.take_succ_cons, List.take_zero, List.cons_append, List.nil_append, List.append_assoc, drop_dc, drop_dc', take_dc, take_dc', drop_L, drop_L', take_L, take_L', len_L, Nat.reduceLeDiff, Nat.reduceSub, Nat.reduceAdd, Nat.le_refl, List.length_cons, List.length_append, List.length_nil, dc_length, List.drop_nil, List.take_nil, List.append_nil, List.length_map, List.length_replicate]; first | done | rfl)) (by first | rfl | (simp only [List.drop_succ_cons, List.drop_zero, List.take_succ_cons, List.take_zero, List.cons_append, List.nil_append, List.append_assoc, drop_dc, drop_dc', take_dc, take_dc', drop_L, drop_L', take_L, take_L', len_L, Nat.reduceLeDiff, Nat.reduceSub, Nat.reduceAdd, Nat.le_refl, List.length_cons, List.length_append, List.length_nil, dc_length, List.drop_nil, List.take_nil, List.append_nil, List.length_map, List.length_replicate]; first | done | omega))) ?_
        have hp : refPlain o = ⟨o.kind, 0, o.n, [], [], []⟩ := by rw [refPlain, if_pos (by omega)]
        exact fun w1 hw => ⟨[.int .i64 o.kind, .int .i64 0, .int .i64 o.n, .slice none 0 0, .slice none 0 0, .slice none 0 0], rfl, St.pureI (by rw [hp]; exact ⟨none, none, none, 0, 0, 0, rfl, ⟨RdRow.nil, Nat.le_refl _⟩, ⟨RdRow.nil, Nat.le_refl _⟩, RdRow.nil, Nat.le_refl _⟩) (hw.sel (by repeat (first | exact Sel.nil | (apply Sel.cons; · (repeat (first | exact Pick.here | apply Pick.there))))))⟩
      · refine gc_region ?_
        refine gp (r_bool (c := false) zei (decide_eq_false g3)) ?_
        refine gp zas ?_
        refine gnt ?_
        refine gc_condF rfl rfl ?_
        refine gsr ?_
        refine gp zei ?_
        refine gp zas ?_
        refine gnt ?_
        refine gif rfl (fun hc16 => ?_) (fun hc16 => ?_)
        · refine gc_region ?_
          refine gp zfa ?_
          refine gp zl ?_
          refine gp zfa ?_
          refine zs1 ?_
          refine gl_nil ?_
          refine gx_block_normal ?_
          refine gx_then ?_
          refine gsr ?_
          refine gp zL ?_
          refine zsN ?_
          refine gnt ?_
          refine gc_ret ?_
          refine gx_retc rfl rfl (ld_aggS Ty.row_44 Ty.sz_44 (by repeat (first | exact Pick.here | apply Pick.there)) (by (simp only [List.drop_succ_cons, List.drop_zero, List.take_succ_cons, List.take_zero, List.cons_append, List.nil_append, List.append_assoc, drop_dc, drop_dc', take_dc, take_dc', drop_L, drop_L', take_L, take_L', len_L, Nat.reduceLeDiff, Nat.reduceSub, Nat.reduceAdd, Nat.le_refl, List.length_cons, List.length_append, List.length_nil, dc_length, List.drop_nil, List.take_nil, List.append_nil, List.length_map, List.length_replicate]; first | done | rfl)) (by first | rfl | (simp only [List.drop_succ_cons, List.drop_zero, List.take_succ_cons, List.take_zero, List.cons_append, List.nil_append, List.append_assoc, drop_dc, drop_dc', take_dc, take_dc', drop_L, drop_L', take_L, take_L', len_L, Nat.reduceLeDiff, Nat.reduceSub, Nat.reduceAdd, Nat.le_refl, List.length_cons, List.length_append, List.length_nil, dc_length, List.drop_nil, List.take_nil, List.append_nil, List.length_map, List.length_replicate]; first | done | omega))) ?_
          have hp : refPlain o = ⟨o.kind, o.node, 0, [], [], []⟩ := by rw [refPlain, if_neg (by omega), if_pos (by omega)]
          exact fun w1 hw => ⟨[.int .i64 o.kind, .int .i64 o.node, .int .i64 0, .slice none 0 0, .slice none 0 0, .slice none 0 0], rfl, St.pureI (by rw [hp]; exact ⟨none, none, none, 0, 0, 0, rfl, ⟨RdRow.nil, Nat.le_refl _⟩, ⟨RdRow.nil, Nat.le_refl _⟩, RdRow.nil, Nat.le_refl _⟩) (hw.sel (by repeat (first | exact Sel.nil | (apply Sel.cons; · (repeat (first | exact Pick.here | apply Pick.there))))))⟩
        · refine gc_seq ?_
          refine gc_seq ?_
          by_cases g5 : o.kind = 5
          · refine gc_region ?_
            refine gp (r_bool (c := true) zei (decide_eq_true g5)) ?_
            refine gp zas ?_
            refine gnt ?_
            refine gc_condT rfl rfl ?_
            refine gc_skip ?_
            refine gx_then ?_
            refine gc_condT rfl rfl ?_
            refine gc_regionZ 7 ([blk b1 44 [.int .i64 o.kind, .int .i64 o.node, .int .i64 o.n, .slice aa1 o.set.length ca1, .slice aa2 o.keep.length ca2, .slice aa3 o.data.length ca3]]) ?_
            refine yps 0 rfl zfa ?_
            refine yps 1 rfl zl ?_
            refine yps 2 rfl zfa ?_
            refine yps 3 rfl zl ?_
            refine yps 4 rfl zfa ?_
            refine yos 5 rfl ?_
            refine zs1 ?_
            refine yxs ?_
            refine yps 6 rfl zfa ?_
            refine yzs rfl ?_
            refine zs1 ?_
            refine gl_nil ?_
            refine gx_block_normal ?_
            refine gx_then ?_
            refine gsr ?_
            refine gp zL ?_
            refine zsN ?_
            refine gnt ?_
            refine gc_ret ?_
            refine gx_retc rfl rfl (ld_aggS Ty.row_44 Ty.sz_44 (by repeat (first | exact Pick.here | apply Pick.there)) (by (simp only [List.drop_succ_cons, List.drop_zero, List.take_succ_cons, List.take_zero, List.cons_append, List.nil_append, List.append_assoc, drop_dc, drop_dc', take_dc, take_dc', drop_L, drop_L', take_L, take_L', len_L, Nat.reduceLeDiff, Nat.reduceSub, Nat.reduceAdd, Nat.le_refl, List.length_cons, List.length_append, List.length_nil, dc_length, List.drop_nil, List.take_nil, List.append_nil, List.length_map, List.length_replicate]; first | done | rfl)) (by first | rfl | (simp only [List.drop_succ_cons, List.drop_zero, List.take_succ_cons, List.take_zero, List.cons_append, List.nil_append, List.append_assoc, drop_dc, drop_dc', take_dc, take_dc', drop_L, drop_L', take_L, take_L', len_L, Nat.reduceLeDiff, Nat.reduceSub, Nat.reduceAdd, Nat.le_refl, List.length_cons, List.length_append, List.length_nil, dc_length, List.drop_nil, List.take_nil, List.append_nil, List.length_map, List.length_replicate]; first | done | omega))) ?_
            have hp : refPlain o = ⟨o.kind, o.node, 0, [], [], o.data⟩ := by rw [refPlain, if_neg (by omega), if_neg (by omega), if_pos (by omega)]
            exact fun w1 hw => ⟨[.int .i64 o.kind, .int .i64 o.node, .int .i64 0, .slice none 0 0, .slice none 0 0, .slice aa3 o.data.length ca3], rfl, St.pureI (by rw [hp]; exact ⟨none, none, aa3, 0, 0, ca3, rfl, ⟨RdRow.nil, Nat.le_refl _⟩, ⟨RdRow.nil, Nat.le_refl _⟩, hda, hdca⟩) (hw.sel (by repeat (first | exact Sel.nil | (apply Sel.cons; · (repeat (first | exact Pick.here | apply Pick.there))))))⟩
          · refine gc_region ?_
            refine gp (r_bool (c := false) zei (decide_eq_false g5)) ?_
            refine gp zas ?_
            refine gnt ?_
            refine gc_condF rfl rfl ?_
            by_cases g9 : o.kind = 9
            · refine gc_region ?_
              refine gp (r_bool (c := true) zei (decide_eq_true g9)) ?_
              refine gp zas ?_
              refine gnt ?_
              refine gc_condT rfl rfl ?_
              refine gc_regionZ 7 ([blk b1 44 [.int .i64 o.kind, .int .i64 o.node, .int .i64 o.n, .slice aa1 o.set.length ca1, .slice aa2 o.keep.length ca2, .slice aa3 o.data.length ca3]]) ?_
              refine yps 0 rfl zfa ?_
              refine yps 1 rfl zl ?_
              refine yps 2 rfl zfa ?_
              refine yps 3 rfl zl ?_
              refine yps 4 rfl zfa ?_
              refine yos 5 rfl ?_
              refine zs1 ?_
              refine yxs ?_
              refine yps 6 rfl zfa ?_
              refine yzs rfl ?_
              refine zs1 ?_
              refine gl_nil ?_
              refine gx_block_normal ?_
              refine gx_then ?_
              refine gsr ?_
              refine gp zL ?_
              refine zsN ?_
              refine gnt ?_
              refine gc_ret ?_
              refine gx_retc rfl rfl (ld_aggS Ty.row_44 Ty.sz_44 (by repeat (first | exact Pick.here | apply Pick.there)) (by (simp only [List.drop_succ_cons, List.drop_zero, List.take_succ_cons, List.take_zero, List.cons_append, List.nil_append, List.append_assoc, drop_dc, drop_dc', take_dc, take_dc', drop_L, drop_L', take_L, take_L', len_L, Nat.reduceLeDiff, Nat.reduceSub, Nat.reduceAdd, Nat.le_refl, List.length_cons, List.length_append, List.length_nil, dc_length, List.drop_nil, List.take_nil, List.append_nil, List.length_map, List.length_replicate]; first | done | rfl)) (by first | rfl | (simp only [List.drop_succ_cons, List.drop_zero, List.take_succ_cons, List.take_zero, List.cons_append, List.nil_append, List.append_assoc, drop_dc, drop_dc', take_dc, take_dc', drop_L, drop_L', take_L, take_L', len_L, Nat.reduceLeDiff, Nat.reduceSub, Nat.reduceAdd, Nat.le_refl, List.length_cons, List.length_append, List.length_nil, dc_length, List.drop_nil, List.take_nil, List.append_nil, List.length_map, List.length_replicate]; first | done | omega))) ?_
              have hp : refPlain o = ⟨o.kind, o.node, 0, [], [], o.data⟩ := by rw [refPlain, if_neg (by omega), if_neg (by omega), if_pos (by omega)]
              exact fun w1 hw => ⟨[.int .i64 o.kind, .int .i64 o.node, .int .i64 0, .slice none 0 0, .slice none 0 0, .slice aa3 o.data.length ca3], rfl, St.pureI (by rw [hp]; exact ⟨none, none, aa3, 0, 0, ca3, rfl, ⟨RdRow.nil, Nat.le_refl _⟩, ⟨RdRow.nil, Nat.le_refl _⟩, hda, hdca⟩) (hw.sel (by repeat (first | exact Sel.nil | (apply Sel.cons; · (repeat (first | exact Pick.here | apply Pick.there))))))⟩
            · refine gc_region ?_
              refine gp (r_bool (c := false) zei (decide_eq_false g9)) ?_
              refine gp zas ?_
              refine gnt ?_
              refine gc_condF rfl rfl ?_
              refine gsr ?_
              refine gp zei ?_
              refine gp zas ?_
              refine gnt ?_
              refine gif rfl (fun hc30 => ?_) (fun hc30 => ?_)
              · refine gc_regionZ 7 ([blk b1 44 [.int .i64 o.kind, .int .i64 o.node, .int .i64 o.n, .slice aa1 o.set.length ca1, .slice aa2 o.keep.length ca2, .slice aa3 o.data.length ca3]]) ?_
                refine yps 0 rfl zfa ?_
                refine yps 1 rfl zl ?_
                refine yps 2 rfl zfa ?_
                refine yps 3 rfl zl ?_
                refine yps 4 rfl zfa ?_
                refine yos 5 rfl ?_
                refine zs1 ?_
                refine yxs ?_
                refine yps 6 rfl zfa ?_
                refine yzs rfl ?_
                refine zs1 ?_
                refine gl_nil ?_
                refine gx_block_normal ?_
                refine gx_then ?_
                refine gsr ?_
                refine gp zL ?_
                refine zsN ?_
                refine gnt ?_
                refine gc_ret ?_
                refine gx_retc rfl rfl (ld_aggS Ty.row_44 Ty.sz_44 (by repeat (first | exact Pick.here | apply Pick.there)) (by (simp only [List.drop_succ_cons, List.drop_zero, List.take_succ_cons, List.take_zero, List.cons_append, List.nil_append, List.append_assoc, drop_dc, drop_dc', take_dc, take_dc', drop_L, drop_L', take_L, take_L', len_L, Nat.reduceLeDiff, Nat.reduceSub, Nat.reduceAdd, Nat.le_refl, List.length_cons, List.length_append, List.length_nil, dc_length, List.drop_nil, List.take_nil, List.append_nil, List.length_map, List.length_replicate]; first | done | rfl)) (by first | rfl | (simp only [List.drop_succ_cons, List.drop_zero, List.take_succ_cons, List.take_zero, List.cons_append, List.nil_append, List.append_assoc, drop_dc, drop_dc', take_dc, take_dc', drop_L, drop_L', take_L, take_L', len_L, Nat.reduceLeDiff, Nat.reduceSub, Nat.reduceAdd, Nat.le_refl, List.length_cons, List.length_append, List.length_nil, dc_length, List.drop_nil, List.take_nil, List.append_nil, List.length_map, List.length_replicate]; first | done | omega))) ?_
                have hp : refPlain o = ⟨o.kind, o.node, 0, o.set, [], []⟩ := by rw [refPlain, if_neg (by omega), if_neg (by omega), if_neg (by omega), if_pos (by omega)]
                exact fun w1 hw => ⟨[.int .i64 o.kind, .int .i64 o.node, .int .i64 0, .slice aa1 o.set.length ca1, .slice none 0 0, .slice none 0 0], rfl, St.pureI (by rw [hp]; exact ⟨aa1, none, none, ca1, 0, 0, rfl, ⟨hsa, hsca⟩, ⟨RdRow.nil, Nat.le_refl _⟩, RdRow.nil, Nat.le_refl _⟩) (hw.sel (by repeat (first | exact Sel.nil | (apply Sel.cons; · (repeat (first | exact Pick.here | apply Pick.there))))))⟩
              · refine gsr ?_
                refine gp zei ?_
                refine gp zas ?_
                refine gnt ?_
                refine gif rfl (fun hc38 => ?_) (fun hc38 => ?_)
                · refine gc_regionZ 7 ([blk b1 44 [.int .i64 o.kind, .int .i64 o.node, .int .i64 o.n, .slice aa1 o.set.length ca1, .slice aa2 o.keep.length ca2, .slice aa3 o.data.length ca3]]) ?_
                  refine yps 0 rfl zfa ?_
                  refine yps 1 rfl zl ?_
                  refine yps 2 rfl zfa ?_
                  refine yps 3 rfl zl ?_
                  refine yps 4 rfl zfa ?_
                  refine yos 5 rfl ?_
                  refine zs1 ?_
                  refine yxs ?_
                  refine yps 6 rfl zfa ?_
                  refine yzs rfl ?_
                  refine zs1 ?_
                  refine gl_nil ?_
                  refine gx_block_normal ?_
                  refine gx_then ?_
                  refine gsr ?_
                  refine gp zL ?_
                  refine zsN ?_
                  refine gnt ?_
                  refine gc_ret ?_
                  refine gx_retc rfl rfl (ld_aggS Ty.row_44 Ty.sz_44 (by repeat (first | exact Pick.here | apply Pick.there)) (by (simp only [List.drop_succ_cons, List.drop_zero, List.take_succ_cons, List.take_zero, List.cons_append, List.nil_append, List.append_assoc, drop_dc, drop_dc', take_dc, take_dc', drop_L, drop_L', take_L, take_L', len_L, Nat.reduceLeDiff, Nat.reduceSub, Nat.reduceAdd, Nat.le_refl, List.length_cons, List.length_append, List.length_nil, dc_length, List.drop_nil, List.take_nil, List.append_nil, List.length_map, List.length_replicate]; first | done | rfl)) (by first | rfl | (simp only [List.drop_succ_cons, List.drop_zero, List.take_succ_cons, List.take_zero, List.cons_append, List.nil_append, List.append_assoc, drop_dc, drop_dc', take_dc, take_dc', drop_L, drop_L', take_L, take_L', len_L, Nat.reduceLeDiff, Nat.reduceSub, Nat.reduceAdd, Nat.le_refl, List.length_cons, List.length_append, List.length_nil, dc_length, List.drop_nil, List.take_nil, List.append_nil, List.length_map, List.length_replicate]; first | done | omega))) ?_
                  have hp : refPlain o = ⟨o.kind, o.node, o.n, [], [], []⟩ := by rw [refPlain, if_neg (by omega), if_neg (by omega), if_neg (by omega), if_neg (by omega), if_pos (by omega)]
                  exact fun w1 hw => ⟨[.int .i64 o.kind, .int .i64 o.node, .int .i64 o.n, .slice none 0 0, .slice none 0 0, .slice none 0 0], rfl, St.pureI (by rw [hp]; exact ⟨none, none, none, 0, 0, 0, rfl, ⟨RdRow.nil, Nat.le_refl _⟩, ⟨RdRow.nil, Nat.le_refl _⟩, RdRow.nil, Nat.le_refl _⟩) (hw.sel (by repeat (first | exact Sel.nil | (apply Sel.cons; · (repeat (first | exact Pick.here | apply Pick.there))))))⟩
                · refine gsr ?_
                  refine gp zei ?_
                  refine gp zas ?_
                  refine gnt ?_
                  refine gif rfl (fun hc46 => ?_) (fun hc46 => ?_)
                  · refine gc_regionZ 7 ([blk b1 44 [.int .i64 o.kind, .int .i64 o.node, .int .i64 o.n, .slice aa1 o.set.length ca1, .slice aa2 o.keep.length ca2, .slice aa3 o.data.length ca3]]) ?_
                    refine yps 0 rfl zfa ?_
                    refine yps 1 rfl zl ?_
                    refine yps 2 rfl zfa ?_
                    refine yps 3 rfl zl ?_
                    refine yps 4 rfl zfa ?_
                    refine yos 5 rfl ?_
                    refine zs1 ?_
                    refine yxs ?_
                    refine yps 6 rfl zfa ?_
                    refine yzs rfl ?_
                    refine zs1 ?_
                    refine gl_nil ?_
                    refine gx_block_normal ?_
                    refine gx_then ?_
                    refine gsr ?_
                    refine gp zL ?_
                    refine zsN ?_
                    refine gnt ?_
                    refine gc_ret ?_
                    refine gx_retc rfl rfl (ld_aggS Ty.row_44 Ty.sz_44 (by repeat (first | exact Pick.here | apply Pick.there)) (by (simp only [List.drop_succ_cons, List.drop_zero, List.take_succ_cons, List.take_zero, List.cons_append, List.nil_append, List.append_assoc, drop_dc, drop_dc', take_dc, take_dc', drop_L, drop_L', take_L, take_L', len_L, Nat.reduceLeDiff, Nat.reduceSub, Nat.reduceAdd, Nat.le_refl, List.length_cons, List.length_append, List.length_nil, dc_length, List.drop_nil, List.take_nil, List.append_nil, List.length_map, List.length_replicate]; first | done | rfl)) (by first | rfl | (simp only [List.drop_succ_cons, List.drop_zero, List.take_succ_cons, List.take_zero, List.cons_append, List.nil_append, List.append_assoc, drop_dc, drop_dc', take_dc, take_dc', drop_L, drop_L', take_L, take_L', len_L, Nat.reduceLeDiff, Nat.reduceSub, Nat.reduceAdd, Nat.le_refl, List.length_cons, List.length_append, List.length_nil, dc_length, List.drop_nil, List.take_nil, List.append_nil, List.length_map, List.length_replicate]; first | done | omega))) ?_
                    have hp : refPlain o = ⟨o.kind, o.node, 0, [], o.keep, []⟩ := by rw [refPlain, if_neg (by omega), if_neg (by omega), if_neg (by omega), if_neg (by omega), if_neg (by omega), if_pos (by omega)]
                    exact fun w1 hw => ⟨[.int .i64 o.kind, .int .i64 o.node, .int .i64 0, .slice none 0 0, .slice aa2 o.keep.length ca2, .slice none 0 0], rfl, St.pureI (by rw [hp]; exact ⟨none, aa2, none, 0, ca2, 0, rfl, ⟨RdRow.nil, Nat.le_refl _⟩, ⟨hka, hkca⟩, RdRow.nil, Nat.le_refl _⟩) (hw.sel (by repeat (first | exact Sel.nil | (apply Sel.cons; · (repeat (first | exact Pick.here | apply Pick.there))))))⟩
                  · refine gsr ?_
                    refine gp zei ?_
                    refine gp zas ?_
                    refine gnt ?_
                    refine gif rfl (fun hc54 => ?_) (fun hc54 => ?_)
                    · refine gc_regionZ 11 ([blk b1 44 [.int .i64 o.kind, .int .i64 o.node, .int .i64 o.n, .slice aa1 o.set.length ca1, .slice aa2 o.keep.length ca2, .slice aa3 o.data.length ca3]]) ?_
                      refine yps 0 rfl zfa ?_
                      refine yps 1 rfl zl ?_
                      refine yps 2 rfl zfa ?_
                      refine yps 3 rfl zl ?_
                      refine yps 4 rfl zfa ?_
                      refine yps 5 rfl zl ?_
                      refine yps 6 rfl zfa ?_
                      refine yos 7 rfl ?_
                      refine zs1 ?_
                      refine yxs ?_
                      refine yps 8 rfl zfa ?_
                      refine yos 9 rfl ?_
                      refine zs1 ?_
                      refine yxs ?_
                      refine yps 10 rfl zfa ?_
                      refine yzs rfl ?_
                      refine zs1 ?_
                      refine gl_nil ?_
                      refine gx_block_normal ?_
                      refine gx_then ?_
                      refine gsr ?_
                      refine gp zL ?_
                      refine zsN ?_
                      refine gnt ?_
                      refine gc_ret ?_
                      refine gx_retc rfl rfl (ld_aggS Ty.row_44 Ty.sz_44 (by repeat (first | exact Pick.here | apply Pick.there)) (by (simp only [List.drop_succ_cons, List.drop_zero, List.take_succ_cons, List.take_zero, List.cons_append, List.nil_append, List.append_assoc, drop_dc, drop_dc', take_dc, take_dc', drop_L, drop_L', take_L, take_L', len_L, Nat.reduceLeDiff, Nat.reduceSub, Nat.reduceAdd, Nat.le_refl, List.length_cons, List.length_append, List.length_nil, dc_length, List.drop_nil, List.take_nil, List.append_nil, List.length_map, List.length_replicate]; first | done | rfl)) (by first | rfl | (simp only [List.drop_succ_cons, List.drop_zero, List.take_succ_cons, List.take_zero, List.cons_append, List.nil_append, List.append_assoc, drop_dc, drop_dc', take_dc, take_dc', drop_L, drop_L', take_L, take_L', len_L, Nat.reduceLeDiff, Nat.reduceSub, Nat.reduceAdd, Nat.le_refl, List.length_cons, List.length_append, List.length_nil, dc_length, List.drop_nil, List.take_nil, List.append_nil, List.length_map, List.length_replicate]; first | done | omega))) ?_
                      have hp : refPlain o = ⟨o.kind, o.node, o.n, [], [], o.data⟩ := by rw [refPlain, if_neg (by omega), if_neg (by omega), if_neg (by omega), if_neg (by omega), if_neg (by omega), if_neg (by omega), if_pos (by omega)]
                      exact fun w1 hw => ⟨[.int .i64 o.kind, .int .i64 o.node, .int .i64 o.n, .slice none 0 0, .slice none 0 0, .slice aa3 o.data.length ca3], rfl, St.pureI (by rw [hp]; exact ⟨none, none, aa3, 0, 0, ca3, rfl, ⟨RdRow.nil, Nat.le_refl _⟩, ⟨RdRow.nil, Nat.le_refl _⟩, hda, hdca⟩) (hw.sel (by repeat (first | exact Sel.nil | (apply Sel.cons; · (repeat (first | exact Pick.here | apply Pick.there))))))⟩
                    · refine gc_skip ?_
                      refine gx_block_normal ?_
                      refine gx_then ?_
                      refine gsr ?_
                      refine gp zL ?_
                      refine zsN ?_
                      refine gnt ?_
                      refine gc_ret ?_
                      refine gx_retc rfl rfl (ld_aggS Ty.row_44 Ty.sz_44 (by repeat (first | exact Pick.here | apply Pick.there)) (by (simp only [List.drop_succ_cons, List.drop_zero, List.take_succ_cons, List.take_zero, List.cons_append, List.nil_append, List.append_assoc, drop_dc, drop_dc', take_dc, take_dc', drop_L, drop_L', take_L, take_L', len_L, Nat.reduceLeDiff, Nat.reduceSub, Nat.reduceAdd, Nat.le_refl, List.length_cons, List.length_append, List.length_nil, dc_length, List.drop_nil, List.take_nil, List.append_nil, List.length_map, List.length_replicate]; first | done | rfl)) (by first | rfl | (simp only [List.drop_succ_cons, List.drop_zero, List.take_succ_cons, List.take_zero, List.cons_append, List.nil_append, List.append_assoc, drop_dc, drop_dc', take_dc, take_dc', drop_L, drop_L', take_L, take_L', len_L, Nat.reduceLeDiff, Nat.reduceSub, Nat.reduceAdd, Nat.le_refl, List.length_cons, List.length_append, List.length_nil, dc_length, List.drop_nil, List.take_nil, List.append_nil, List.length_map, List.length_replicate]; first | done | omega))) ?_
                      have hp : refPlain o = ⟨o.kind, 0, 0, [], [], []⟩ := by rw [refPlain, if_neg (by omega), if_neg (by omega), if_neg (by omega), if_neg (by omega), if_neg (by omega), if_neg (by omega), if_neg (by omega)]
                      exact fun w1 hw => ⟨[.int .i64 o.kind, .int .i64 0, .int .i64 0, .slice none 0 0, .slice none 0 0, .slice none 0 0], rfl, St.pureI (by rw [hp]; exact ⟨none, none, none, 0, 0, 0, rfl, ⟨RdRow.nil, Nat.le_refl _⟩, ⟨RdRow.nil, Nat.le_refl _⟩, RdRow.nil, Nat.le_refl _⟩) (hw.sel (by repeat (first | exact Sel.nil | (apply Sel.cons; · (repeat (first | exact Pick.here | apply Pick.there))))))⟩

set_option maxHeartbeats 2000000 in
set_option maxRecDepth 20000 in
theorem rright_ok {w : World} {F : Nat → Prop} {csa : List Value} {o : OpS} (h : stars [] w F) (hx : RdOpS w (fun k => ¬ F k) csa o) :
    Calls Tryd.prog 15 #[.agg csa.toArray] w (Post w F (fun _ : Unit => .bool (rightP o)) (fun _ => [])) := by
  have hx0 := hx
  obtain ⟨aa1, aa2, aa3, ca1, ca2, ca3, rfl, ⟨hsa, hsca⟩, ⟨hka, hkca⟩, hda, hdca⟩ := hx
  refine g_enter (env := [(0, .agg (List.toArray ([.int .i64 o.kind, .int .i64 o.node, .int .i64 o.n, .slice aa1 o.set.length ca1, .slice aa2 o.keep.length ca2, .slice aa3 o.data.length ca3])))]) Tryd.func15 rfl h Tryd.ntmps15 rfl rfl ?_
  refine gsr ?_
  refine zbN fun b1 => ?_
  refine gp zas ?_
  refine gnt ?_
  refine gsr ?_
  refine gp zL ?_
  refine zc (fun d6 => ?_) (c := fun w1 F1 F2 h1 h2 hd hst => rplain_ok (o := o) h1 hx0)
  refine gl_pureR (fun hd6 => ?_)
  obtain ⟨ap1, ap2, ap3, cp1, cp2, cp3, rfl, ⟨hsp, hscp⟩, ⟨hkp, hkcp⟩, hdp, hdcp⟩ := hd6
  have hmx := hsp.2.1
  simp only [maxLen] at hmx
  refine zsN ?_
  refine gnt ?_
  refine gc_seq ?_
  refine gc_seq ?_
  by_cases r0 : (refPlain o).kind < 1
  · refine gc_region ?_
    refine gp zfa ?_
    refine gp zl ?_
    refine gp (r_bool (c := true) zlt (decide_eq_true r0)) ?_
    refine gp zmv ?_
    refine gn ?_
    refine gn ?_
    refine gn ?_
    refine gp zpk ?_
    refine gp zmv ?_
    refine gn ?_
    refine gn ?_
    refine gn ?_
    refine gp zpk ?_
    refine gp zmv ?_
    refine gn ?_
    refine gn ?_
    refine gn ?_
    refine gp zpk ?_
    refine gp zmv ?_
    refine gn ?_
    refine gn ?_
    refine gn ?_
    refine gp zpk ?_
    refine gp zmv ?_
    refine gn ?_
    refine gn ?_
    refine gn ?_
    refine gp zpk ?_
    refine gp zmv ?_
    refine gn ?_
    refine gn ?_
    refine gn ?_
    refine gn ?_
    refine gp zpk ?_
    refine gp zmv ?_
    refine gn ?_
    refine gn ?_
    refine gn ?_
    refine gn ?_
    refine gp zpk ?_
    refine gnt ?_
    refine gc_condT rfl rfl ?_
    refine gsr ?_
    refine gp zas ?_
    refine gnt ?_
    refine gc_ret ?_
    refine gx_then_ret ?_
    refine gx_ret1 rfl (by conv => lhs; whnf) ?_
    have hz := right_no (o := o) (by omega)
    rw [hz]
    exact ze ()
  · by_cases r1 : (10 : Int) < (refPlain o).kind
    · refine gc_region ?_
      refine gp zfa ?_
      refine gp zl ?_
      refine gp (r_bool (c := false) zlt (decide_eq_false r0)) ?_
      refine gp zmv ?_
      refine gq zfa ?_
      refine gq zl ?_
      refine gq (r_bool (c := true) zgt (decide_eq_true r1)) ?_
      refine gp zpk ?_
      refine gp zmv ?_
      refine gn ?_
      refine gn ?_
      refine gn ?_
      refine gp zpk ?_
      refine gp zmv ?_
      refine gn ?_
      refine gn ?_
      refine gn ?_
      refine gp zpk ?_
      refine gp zmv ?_
      refine gn ?_
      refine gn ?_
      refine gn ?_
      refine gp zpk ?_
      refine gp zmv ?_
      refine gn ?_
      refine gn ?_
      refine gn ?_
      refine gp zpk ?_
      refine gp zmv ?_
      refine gn ?_
      refine gn ?_
      refine gn ?_
      refine gn ?_
      refine gp zpk ?_
      refine gp zmv ?_
      refine gn ?_
      refine gn ?_
      refine gn ?_
      refine gn ?_
      refine gp zpk ?_
      refine gnt ?_
      refine gc_condT rfl rfl ?_
      refine gsr ?_
      refine gp zas ?_
      refine gnt ?_
      refine gc_ret ?_
      refine gx_then_ret ?_
      refine gx_ret1 rfl (by conv => lhs; whnf) ?_
      have hz := right_no (o := o) (by omega)
      rw [hz]
      exact ze ()
    · by_cases r2 : (refPlain o).n < 0
      · refine gc_region ?_
        refine gp zfa ?_
        refine gp zl ?_
        refine gp (r_bool (c := false) zlt (decide_eq_false r0)) ?_
        refine gp zmv ?_
        refine gq zfa ?_
        refine gq zl ?_
        refine gq (r_bool (c := false) zgt (decide_eq_false r1)) ?_
        refine gp zpk ?_
        refine gp zmv ?_
        refine gq zfa ?_
        refine gq zl ?_
        refine gq (r_bool (c := true) zlt (decide_eq_true r2)) ?_
        refine gp zpk ?_
        refine gp zmv ?_
        refine gn ?_
        refine gn ?_
        refine gn ?_
        refine gp zpk ?_
        refine gp zmv ?_
        refine gn ?_
        refine gn ?_
        refine gn ?_
        refine gp zpk ?_
        refine gp zmv ?_
        refine gn ?_
        refine gn ?_
        refine gn ?_
        refine gp zpk ?_
        refine gp zmv ?_
        refine gn ?_
        refine gn ?_
        refine gn ?_
        refine gn ?_
        refine gp zpk ?_
        refine gp zmv ?_
        refine gn ?_
        refine gn ?_
        refine gn ?_
        refine gn ?_
        refine gp zpk ?_
        refine gnt ?_
        refine gc_condT rfl rfl ?_
        refine gsr ?_
        refine gp zas ?_
        refine gnt ?_
        refine gc_ret ?_
        refine gx_then_ret ?_
        refine gx_ret1 rfl (by conv => lhs; whnf) ?_
        have hz := right_no (o := o) (by omega)
        rw [hz]
        exact ze ()
      · by_cases r3 : (999999 : Int) < (refPlain o).n
        · refine gc_region ?_
          refine gp zfa ?_
          refine gp zl ?_
          refine gp (r_bool (c := false) zlt (decide_eq_false r0)) ?_
          refine gp zmv ?_
          refine gq zfa ?_
          refine gq zl ?_
          refine gq (r_bool (c := false) zgt (decide_eq_false r1)) ?_
          refine gp zpk ?_
          refine gp zmv ?_
          refine gq zfa ?_
          refine gq zl ?_
          refine gq (r_bool (c := false) zlt (decide_eq_false r2)) ?_
          refine gp zpk ?_
          refine gp zmv ?_
          refine gq zfa ?_
          refine gq zl ?_
          refine gq (r_bool (c := true) zgt (decide_eq_true r3)) ?_
          refine gp zpk ?_
          refine gp zmv ?_
          refine gn ?_
          refine gn ?_
          refine gn ?_
          refine gp zpk ?_
          refine gp zmv ?_
          refine gn ?_
          refine gn ?_
          refine gn ?_
          refine gp zpk ?_
          refine gp zmv ?_
          refine gn ?_
          refine gn ?_
          refine gn ?_
          refine gn ?_
          refine gp zpk ?_
          refine gp zmv ?_
          refine gn ?_
          refine gn ?_
          refine gn ?_
          refine gn ?_
          refine gp zpk ?_
          refine gnt ?_
          refine gc_condT rfl rfl ?_
          refine gsr ?_
          refine gp zas ?_
          refine gnt ?_
          refine gc_ret ?_
          refine gx_then_ret ?_
          refine gx_ret1 rfl (by conv => lhs; whnf) ?_
          have hz := right_no (o := o) (by omega)
          rw [hz]
          exact ze ()
        · by_cases r4 : (refPlain o).node < 0
          · refine gc_region ?_
            refine gp zfa ?_
            refine gp zl ?_
            refine gp (r_bool (c := false) zlt (decide_eq_false r0)) ?_
            refine gp zmv ?_
            refine gq zfa ?_
            refine gq zl ?_
            refine gq (r_bool (c := false) zgt (decide_eq_false r1)) ?_
            refine gp zpk ?_
            refine gp zmv ?_
            refine gq zfa ?_
            refine gq zl ?_
            refine gq (r_bool (c := false) zlt (decide_eq_false r2)) ?_
            refine gp zpk ?_
            refine gp zmv ?_
            refine gq zfa ?_
            refine gq zl ?_
            refine gq (r_bool (c := false) zgt (decide_eq_false r3)) ?_
            refine gp zpk ?_
            refine gp zmv ?_
            refine gq zfa ?_
            refine gq zl ?_
            refine gq (r_bool (c := true) zlt (decide_eq_true r4)) ?_
            refine gp zpk ?_
            refine gp zmv ?_
            refine gn ?_
            refine gn ?_
            refine gn ?_
            refine gp zpk ?_
            refine gp zmv ?_
            refine gn ?_
            refine gn ?_
            refine gn ?_
            refine gn ?_
            refine gp zpk ?_
            refine gp zmv ?_
            refine gn ?_
            refine gn ?_
            refine gn ?_
            refine gn ?_
            refine gp zpk ?_
            refine gnt ?_
            refine gc_condT rfl rfl ?_
            refine gsr ?_
            refine gp zas ?_
            refine gnt ?_
            refine gc_ret ?_
            refine gx_then_ret ?_
            refine gx_ret1 rfl (by conv => lhs; whnf) ?_
            have hz := right_no (o := o) (by omega)
            rw [hz]
            exact ze ()
          · by_cases r5 : (999999 : Int) < (refPlain o).node
            · refine gc_region ?_
              refine gp zfa ?_
              refine gp zl ?_
              refine gp (r_bool (c := false) zlt (decide_eq_false r0)) ?_
              refine gp zmv ?_
              refine gq zfa ?_
              refine gq zl ?_
              refine gq (r_bool (c := false) zgt (decide_eq_false r1)) ?_
              refine gp zpk ?_
              refine gp zmv ?_
              refine gq zfa ?_
              refine gq zl ?_
              refine gq (r_bool (c := false) zlt (decide_eq_false r2)) ?_
              refine gp zpk ?_
              refine gp zmv ?_
              refine gq zfa ?_
              refine gq zl ?_
              refine gq (r_bool (c := false) zgt (decide_eq_false r3)) ?_
              refine gp zpk ?_
              refine gp zmv ?_
              refine gq zfa ?_
              refine gq zl ?_
              refine gq (r_bool (c := false) zlt (decide_eq_false r4)) ?_
              refine gp zpk ?_
              refine gp zmv ?_
              refine gq zfa ?_
              refine gq zl ?_
              refine gq (r_bool (c := true) zgt (decide_eq_true r5)) ?_
              refine gp zpk ?_
              refine gp zmv ?_
              refine gn ?_
              refine gn ?_
              refine gn ?_
              refine gn ?_
              refine gp zpk ?_
              refine gp zmv ?_
              refine gn ?_
              refine gn ?_
              refine gn ?_
              refine gn ?_
              refine gp zpk ?_
              refine gnt ?_
              refine gc_condT rfl rfl ?_
              refine gsr ?_
              refine gp zas ?_
              refine gnt ?_
              refine gc_ret ?_
              refine gx_then_ret ?_
              refine gx_ret1 rfl (by conv => lhs; whnf) ?_
              have hz := right_no (o := o) (by omega)
              rw [hz]
              exact ze ()
            · by_cases r6 : (7 : Int) < ((refPlain o).set.length : Int)
              · refine gc_region ?_
                refine gp zfa ?_
                refine gp zl ?_
                refine gp (r_bool (c := false) zlt (decide_eq_false r0)) ?_
                refine gp zmv ?_
                refine gq zfa ?_
                refine gq zl ?_
                refine gq (r_bool (c := false) zgt (decide_eq_false r1)) ?_
                refine gp zpk ?_
                refine gp zmv ?_
                refine gq zfa ?_
                refine gq zl ?_
                refine gq (r_bool (c := false) zlt (decide_eq_false r2)) ?_
                refine gp zpk ?_
                refine gp zmv ?_
                refine gq zfa ?_
                refine gq zl ?_
                refine gq (r_bool (c := false) zgt (decide_eq_false r3)) ?_
                refine gp zpk ?_
                refine gp zmv ?_
                refine gq zfa ?_
                refine gq zl ?_
                refine gq (r_bool (c := false) zlt (decide_eq_false r4)) ?_
                refine gp zpk ?_
                refine gp zmv ?_
                refine gq zfa ?_
                refine gq zl ?_
                refine gq (r_bool (c := false) zgt (decide_eq_false r5)) ?_
                refine gp zpk ?_
                refine gp zmv ?_
                refine gq zfa ?_
                refine gq zl ?_
                refine gq zln ?_
                refine gq (r_bool (c := true) zgt (decide_eq_true r6)) ?_
                refine gp zpk ?_
                refine gp zmv ?_
                refine gn ?_
                refine gn ?_
                refine gn ?_
                refine gn ?_
                refine gp zpk ?_
                refine gnt ?_
                refine gc_condT rfl rfl ?_
                refine gsr ?_
                refine gp zas ?_
                refine gnt ?_
                refine gc_ret ?_
                refine gx_then_ret ?_
                refine gx_ret1 rfl (by conv => lhs; whnf) ?_
                have hz := right_no (o := o) (by omega)
                rw [hz]
                exact ze ()
              · by_cases r7 : (64 : Int) < ((refPlain o).keep.length : Int)
                · refine gc_region ?_
                  refine gp zfa ?_
                  refine gp zl ?_
                  refine gp (r_bool (c := false) zlt (decide_eq_false r0)) ?_
                  refine gp zmv ?_
                  refine gq zfa ?_
                  refine gq zl ?_
                  refine gq (r_bool (c := false) zgt (decide_eq_false r1)) ?_
                  refine gp zpk ?_
                  refine gp zmv ?_
                  refine gq zfa ?_
                  refine gq zl ?_
                  refine gq (r_bool (c := false) zlt (decide_eq_false r2)) ?_
                  refine gp zpk ?_
                  refine gp zmv ?_
                  refine gq zfa ?_
                  refine gq zl ?_
                  refine gq (r_bool (c := false) zgt (decide_eq_false r3)) ?_
                  refine gp zpk ?_
                  refine gp zmv ?_
                  refine gq zfa ?_
                  refine gq zl ?_
                  refine gq (r_bool (c := false) zlt (decide_eq_false r4)) ?_
                  refine gp zpk ?_
                  refine gp zmv ?_
                  refine gq zfa ?_
                  refine gq zl ?_
                  refine gq (r_bool (c := false) zgt (decide_eq_false r5)) ?_
                  refine gp zpk ?_
                  refine gp zmv ?_
                  refine gq zfa ?_
                  refine gq zl ?_
                  refine gq zln ?_
                  refine gq (r_bool (c := false) zgt (decide_eq_false r6)) ?_
                  refine gp zpk ?_
                  refine gp zmv ?_
                  refine gq zfa ?_
                  refine gq zl ?_
                  refine gq zln ?_
                  refine gq (r_bool (c := true) zgt (decide_eq_true r7)) ?_
                  refine gp zpk ?_
                  refine gnt ?_
                  refine gc_condT rfl rfl ?_
                  refine gsr ?_
                  refine gp zas ?_
                  refine gnt ?_
                  refine gc_ret ?_
                  refine gx_then_ret ?_
                  refine gx_ret1 rfl (by conv => lhs; whnf) ?_
                  have hz := right_no (o := o) (by omega)
                  rw [hz]
                  exact ze ()
                · refine gc_region ?_
                  refine gp zfa ?_
                  refine gp zl ?_
                  refine gp (r_bool (c := false) zlt (decide_eq_false r0)) ?_
                  refine gp zmv ?_
                  refine gq zfa ?_
                  refine gq zl ?_
                  refine gq (r_bool (c := false) zgt (decide_eq_false r1)) ?_
                  refine gp zpk ?_
                  refine gp zmv ?_
                  refine gq zfa ?_
                  refine gq zl ?_
                  refine gq (r_bool (c := false) zlt (decide_eq_false r2)) ?_
                  refine gp zpk ?_
                  refine gp zmv ?_
                  refine gq zfa ?_
                  refine gq zl ?_
                  refine gq (r_bool (c := false) zgt (decide_eq_false r3)) ?_
                  refine gp zpk ?_
                  refine gp zmv ?_
                  refine gq zfa ?_
                  refine gq zl ?_
                  refine gq (r_bool (c := false) zlt (decide_eq_false r4)) ?_
                  refine gp zpk ?_
                  refine gp zmv ?_
                  refine gq zfa ?_
                  refine gq zl ?_
                  refine gq (r_bool (c := false) zgt (decide_eq_false r5)) ?_
                  refine gp zpk ?_
                  refine gp zmv ?_
                  refine gq zfa ?_
                  refine gq zl ?_
                  refine gq zln ?_
                  refine gq (r_bool (c := false) zgt (decide_eq_false r6)) ?_
                  refine gp zpk ?_
                  refine gp zmv ?_
                  refine gq zfa ?_
                  refine gq zl ?_
                  refine gq zln ?_
                  refine gq (r_bool (c := false) zgt (decide_eq_false r7)) ?_
                  refine gp zpk ?_
                  refine gnt ?_
                  refine gc_condF rfl rfl ?_
                  refine gc_skip ?_
                  refine gx_then ?_
                  refine gc_seq ?_
                  refine gsr ?_
                  refine gp zfa ?_
                  refine gp zl ?_
                  refine gp zln ?_
                  refine gp zmv ?_
                  refine gnt ?_
                  refine gc_block ?_
                  refine gc_loop (α := Nat) (fun k => [pureR (k ≤ (refPlain o).set.length ∧ ∀ x ∈ (refPlain o).set.take k, 0 ≤ x ∧ x ≤ 999999), blk b1 44 [.int .i64 (refPlain o).kind, .int .i64 (refPlain o).node, .int .i64 (refPlain o).n, .slice ap1 (refPlain o).set.length cp1, .slice ap2 (refPlain o).keep.length cp2, .slice ap3 (refPlain o).data.length cp3]]) (fun k => [(50, .int .i64 (k : Int))]) [2, 4, 51, 52, 53, 54, 55, 56, 57, 58, 59, 60] (fun k => (refPlain o).set.length - k) 0 ?_ ?_ ?_
                  · refine env_start (by kernel_rfl)
                  · exact zlp ⟨Nat.zero_le _, fun x hx => by simp at hx⟩
                  · intro k u
                    refine gc_pureR (fun hq => ?_)
                    obtain ⟨hk, hall⟩ := hq
                    replace hk : k ≤ (refPlain o).set.length := hk
                    refine gsr ?_
                    refine gp zlt ?_
                    refine gnt ?_
                    refine gc_seq ?_
                    refine gif rfl (fun hc51 => ?_) (fun hc51 => ?_)
                    · try simp only at hc51
                      have hk' : k < (refPlain o).set.length := by omega
                      obtain ⟨x, _, _, hget, _, hmem, htk⟩ := drop_at hk'
                      obtain ⟨g1, o1, ha1, hA1, _, _⟩ := hsp.2.2 (by omega)
                      subst ha1
                      refine gc_skip ?_
                      refine gx_then ?_
                      refine gc_seq ?_
                      refine gc_block ?_
                      refine gsr ?_
                      refine gp (r_val (v' := .pointer (some ⟨g1, o1 + k * 1, none⟩)) zia (by simp)) ?_
                      refine gp (r_int (j := x) (r_ld1o rfl Ty.row_3 (hsp.cellV hk' 0).1 hA1) (by rw [List.getD_eq_getElem?_getD, hget]; rfl)) ?_
                      refine gp zas ?_
                      refine gnt ?_
                      refine gc_seq ?_
                      by_cases g8 : x < 0
                      · refine gc_region ?_
                        refine gp zmv ?_
                        refine gp (r_bool (c := true) zlt (decide_eq_true g8)) ?_
                        refine gp zmv ?_
                        refine gn ?_
                        refine gn ?_
                        refine gp zpk ?_
                        refine gnt ?_
                        refine gc_condT rfl rfl ?_
                        refine gsr ?_
                        refine gp zas ?_
                        refine gnt ?_
                        refine gc_ret ?_
                        refine gx_block_ret ?_
                        refine gx_then_ret ?_
                        refine gx_round_ret ?_
                        refine gx_block_ret ?_
                        refine gx_then_ret ?_
                        refine gx_ret1 rfl (by conv => lhs; whnf) ?_
                        have hz := right_bad (o := o) hmem (by omega)
                        rw [hz]
                        exact ze ()
                      · by_cases g9 : (999999 : Int) < x
                        · refine gc_region ?_
                          refine gp zmv ?_
                          refine gp (r_bool (c := false) zlt (decide_eq_false g8)) ?_
                          refine gp zmv ?_
                          refine gq zmv ?_
                          refine gq (r_bool (c := true) zgt (decide_eq_true g9)) ?_
                          refine gp zpk ?_
                          refine gnt ?_
                          refine gc_condT rfl rfl ?_
                          refine gsr ?_
                          refine gp zas ?_
                          refine gnt ?_
                          refine gc_ret ?_
                          refine gx_block_ret ?_
                          refine gx_then_ret ?_
                          refine gx_round_ret ?_
                          refine gx_block_ret ?_
                          refine gx_then_ret ?_
                          refine gx_ret1 rfl (by conv => lhs; whnf) ?_
                          have hz := right_bad (o := o) hmem (by omega)
                          rw [hz]
                          exact ze ()
                        · refine gc_region ?_
                          refine gp zmv ?_
                          refine gp (r_bool (c := false) zlt (decide_eq_false g8)) ?_
                          refine gp zmv ?_
                          refine gq zmv ?_
                          refine gq (r_bool (c := false) zgt (decide_eq_false g9)) ?_
                          refine gp zpk ?_
                          refine gnt ?_
                          refine gc_condF rfl rfl ?_
                          refine gc_skip ?_
                          refine gx_block_normal ?_
                          refine gx_then ?_
                          refine gc_region ?_
                          refine gp zad ?_
                          refine gp zmv ?_
                          refine gl_nil ?_
                          refine zrd (k + 1) ?_ ?_
                          · show (refPlain o).set.length - (k + 1) < (refPlain o).set.length - k
                            omega
                          · exact zlp (show k + 1 ≤ (refPlain o).set.length ∧ ∀ x ∈ (refPlain o).set.take (k + 1), 0 ≤ x ∧ x ≤ 999999 from ⟨by omega, fun y hy => by rw [htk] at hy; rcases List.mem_append.1 hy with h' | h'; exact hall y h'; (rw [List.mem_singleton] at h'; subst h'; omega)⟩)
                    · try simp only at hc51
                      have hk' : k = (refPlain o).set.length := by omega
                      subst hk'
                      rw [List.take_of_length_le (Nat.le_refl _)] at hall
                      refine gc_exit ?_
                      refine gx_then_exit ?_
                      refine gx_round_exit ?_
                      refine gx_block_hit ?_
                      refine gx_then ?_
                      refine gsr ?_
                      refine gp zas ?_
                      refine gnt ?_
                      refine gc_ret ?_
                      refine gx_ret1 rfl (by conv => lhs; whnf) ?_
                      have hz := (right_iff (o := o)).2 ⟨by omega, by omega, by omega, by omega, by omega, by omega, by omega, by omega, hall⟩
                      rw [hz]
                      exact ze ()

end Go.Proofs.YthicckleihbomaaDoor

