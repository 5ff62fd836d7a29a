/- A map's keys, sorted: the library's contracts (laid at this program), in the engine's words. -/
import Derived.Test.YtffkjjakceojfaaDoorPlD
import Derived.Test.YtffkjjakceojfaaDoorLay
import Derived.Test.YtffkjjakceojfaaDoorTy
import Derived.Shelf.SlIterI.Nil
import Derived.Shelf.SlIterI.Sorted
import Derived.Shelf.SortM.Plain
import Derived.Shelf.SortM.SortNone
namespace Go.Proofs.YtffkjjakceojfaaDoor
open Go Go.RowKit Go.Maps Go.Sort Go.Shelf
set_option linter.unusedVariables false
set_option linter.unusedSimpArgs false

/-- slices.Sort's two contracts, at the fence that asks nothing. -/
theorem sortsA (m : Nat) : AnyZI.SortsIn Tryd.prog Tryd.sortedA_ren Fence.wide m :=
  ⟨fun blk off cap ss W hH hblk hsz => callsIn_wide.2 (AnyM.slices_Sort_int Tryd.sortA blk off cap ss W hH hblk hsz),
   fun p cap W => callsIn_wide.2 (AnyM.slices_Sort_int_none Tryd.sortA p cap W)⟩
theorem St.belowR {w0 w w' : World} {F0 : Nat → Prop} {L : List Res} (hs : St w0 F0 L w) (hb : Below w.heap.size w w') : St w0 F0 L w' := by
  obtain ⟨F, hF, hst⟩ := hs
  have hlt := stars_lt hF
  exact ⟨F, stars_loc hF fun k hk => hb.block k (hlt k hk), hst.os ▸ hb.os, hst.tape ▸ hb.tape, hst.output ▸ hb.output, Nat.le_trans hst.size hb.size, fun k hk hn => (hb.block k (Nat.lt_of_lt_of_le hk hst.size)).trans (hst.block k hk hn), hst.own⟩
theorem keys_ok {w : World} {F : Nat → Prop} {m : Nat} (h : stars [] w F) : Calls Tryd.prog 46 #[.map (some m)] w
    (Post w F (fun b : Nat => .func (.func 53) #[] #[.pointer (some ⟨b, 0, none⟩)]) (fun b => [blk b 58 [.map (some m)]])) :=
  Calls.mono (callsIn_wide.1 (AnyZI.keys_in Tryd.keysA Fence.wide 5 trivial rfl (some m) w)) fun e w' ⟨he, hw⟩ => ⟨w.heap.size, he, by rw [hw]; exact (St.init h).new (T := 58) (cs := [.map (some m)])⟩
theorem keyOf_int {x : Int} (h : 0 ≤ x ∧ x ≤ 4096) : keyOf Tryd.prog 3 (.int .i64 x) = some (.int .i64 x) := by
  have hw : (Lit.int .i64 x).wf = true := by simp [Lit.wf, IntKind.min, IntKind.max, IntKind.signed, IntKind.bits]; omega
  simp [keyOf, Ty.un_3, mapKey, hw]
section
variable {w : World} {F : Nat → Prop} {m b : Nat} {l : List (Int × Value)}
abbrev RZ : Value → Option (DataW Nat × List MemPlace) := fun _ => some (.nil, [])
theorem es_keys {es : Array MapEntry} (hk : kvs es = encK (Value.int .i64) l) : es.toList.map (·.key) = l.map fun p => Value.int .i64 p.1 := by
  have := congrArg (List.map Prod.fst) hk
  simpa [kvs, encK, Function.comp_def] using this
theorem sortedK_ok (h : stars [mapR m (encK (Value.int .i64) l), blk b 58 [.map (some m)]] w F) (hn : (l.map (·.1)).Nodup) (hr : ∀ p ∈ l, 0 ≤ p.1 ∧ p.1 ≤ 4096) (hl : l.length ≤ 4096) :
    Calls Tryd.prog 45 #[.func (.func 53) #[] #[.pointer (some ⟨b, 0, none⟩)]] w
      (Post w F (fun r : Option Addr × Nat => .slice r.1 l.length r.2) (fun r => [rowR 3 1 r.1 l.length r.2 ((sortZ (l.map (·.1))).map (Value.int .i64)), mapR m (encK (Value.int .i64) l), blk b 58 [.map (some m)]])) := by
  have hst := St.init h
  obtain ⟨es, clock, hh, hk, hb, hbn⟩ := hst.mapAt Pick.here
  have hcell := hst.cellOf (Pick.there .here) 0
  have hblt : b < w.heap.size := by
    obtain ⟨F1, F2, _, h2, _⟩ := h
    exact stars_lt h2 b (by obtain ⟨G1, G2, g1, _, hG, _⟩ := h2; exact (hG b).2 (.inl ((g1.1 b).2 rfl)))
  have hkeys := es_keys hk
  have hes : es.size = l.length := by rw [← kvs_length, hk, encK_length]
  have hkey : ∀ x ∈ es.toList, ∃ i : Int, x.key = .int .i64 i ∧ 0 ≤ i ∧ i ≤ 4096 := fun x hx => by
    have : x.key ∈ es.toList.map (·.key) := List.mem_map.2 ⟨x, hx, rfl⟩
    rw [hkeys] at this
    obtain ⟨p, hp, e⟩ := List.mem_map.1 this
    exact ⟨p.1, e.symm, hr p hp⟩
  have hrg : ∀ x ∈ es.toList, ∀ i : Int, x.key = .int .i64 i → WideElems.rd Tryd.prog 3 RZ x = some (.int .i64 i, .nil) := fun x hx i e => by
    obtain ⟨i', e', hi⟩ := hkey x hx
    rw [e'] at e; cases e
    unfold WideElems.rd
    rw [e', keyOf_int hi]; rfl
  let D0 : DataW Nat := .map ((es.toList.map (WideElems.rg Tryd.prog 3 RZ)).foldr DataW.insert [])
  have hperm : (intKeys D0).Perm (l.map (·.1)) := by
    have h1 : (intKeys D0).Perm ((es.toList.map (WideElems.rg Tryd.prog 3 RZ)).map fun p => Go.intOf p.1) := (WideShapes.sorted_perm _).map _
    have h2 : ((es.toList.map (WideElems.rg Tryd.prog 3 RZ)).map fun p => Go.intOf p.1) = l.map (·.1) := by
      have h3 : (es.toList.map (WideElems.rg Tryd.prog 3 RZ)).map (fun p => Go.intOf p.1) = (es.toList.map (·.key)).map fun v => match v with | .int _ i => i | _ => 0 := by
        rw [List.map_map, List.map_map]
        refine List.map_congr_left fun x hx => ?_
        obtain ⟨i, e, _⟩ := hkey x hx
        simp only [Function.comp, WideElems.rg, hrg x hx i e, e, Option.getD_some, Go.intOf]
      rw [h3, hkeys, List.map_map]; rfl
    rw [h2] at h1; exact h1
  have hsize : Maps.size D0 = l.length := by
    have := hperm.length_eq
    have h2 : (intKeys D0).length = Maps.size D0 := by simp [D0, intKeys, Maps.size]
    rw [← h2, this, List.length_map]
  have hown : w.ownsMap Tryd.prog 3 RZ m l.length D0 := ⟨es, clock, hh, ⟨by rw [hes]; simp only [maxLen]; omega, ⟨hb, hbn, by rw [hkeys]; unfold List.Nodup at hn ⊢; rw [List.pairwise_map] at hn ⊢; exact hn.imp fun h e => h (by injection e)⟩, fun x hx => by obtain ⟨i, e, _⟩ := hkey x hx; exact ⟨_, hrg x hx i e⟩⟩, by omega, rfl⟩
  have hseq := AnyZI.keys_gives (ρ := Tryd.keysA_ren) { Tryd.keysA with } Fence.wide 2 trivial rfl (by omega) b m l.length D0 w hblt hcell hown
  have cS := callsIn_wide.1 (AnyZI.sorted_in Tryd.sortedA Fence.wide 5 trivial trivial trivial trivial rfl (by omega) (sortsA _) (enters_of Tryd.func52 (by kernel_rfl) rfl) 53 #[.pointer (some ⟨b, 0, none⟩)] trivial (enters_of Tryd.func53 (by kernel_rfl) rfl) (fun ss => ss.Perm (intKeys D0)) (Maps.size D0) (by rw [hsize]; simp only [maxLen]; omega) (by rw [hsize]; omega) w hseq)
  refine Calls.mono cS fun e w' ⟨v, ss, he, hS, hrow, hnil, hbel⟩ => ?_
  have hss : ss.Perm (l.map (·.1)) := hS.trans hperm
  have hsort : ss.mergeSort (fun x y => decide (x ≤ y)) = sortZ (l.map (·.1)) := mergeSort_of_perm_i hss
  have hlen : ss.length = l.length := by rw [hss.length_eq, List.length_map]
  rw [hsort, hlen] at hrow
  have hst2 := stars_loc h fun k hk => hbel.block k (stars_lt h k hk)
  have hstp : Stp w F w' F := ⟨hbel.os, hbel.tape, hbel.output, hbel.size, fun k hk _ => hbel.block k hk, fun k hk => .inl hk⟩
  rcases hrow.2 with ⟨hv, h0⟩ | ⟨g, cap, cur, hv, hg, hgh, hle, hmax, hcs, htake⟩
  · have hxs : (sortZ (l.map (·.1))).map (Value.int .i64) = [] := List.eq_nil_of_length_eq_zero (by rw [hrow.1, h0])
    refine ⟨(none, 0), by rw [he, hv, h0], ?_⟩
    simp only [hxs, h0]
    exact ⟨F, stars_row_nil hst2, hstp⟩
  · refine ⟨(some ⟨g, 0, none⟩, cap), by rw [he, hv], fun k => k = g ∨ F k, ⟨fun k => k = g, F, ⟨hrow.1, hle, hmax, .inr ⟨g, 0, cur, (0, 0), rfl, fun k => Iff.rfl, hgh, fun i _ h => absurd h.2 (Nat.not_lt_zero _), by simp only [Nat.zero_add, Nat.mul_one]; omega, by simpa using htake⟩⟩, hst2, fun k => Iff.rfl, ?_⟩, ?_⟩
    · rintro k rfl hk
      exact absurd (stars_lt h k hk) (by omega)
    · refine ⟨hbel.os, hbel.tape, hbel.output, hbel.size, fun k hk _ => hbel.block k hk, ?_⟩
      rintro k (rfl | hk)
      · exact .inr hg
      · exact .inl hk
end
end Go.Proofs.YtffkjjakceojfaaDoor
