/- Part 4. What is proved: see the last part: for every input the law returns true, and the input reads as it did. -/
import Derived.Test.YthicckleihbomaaDoorCu3
import Derived.Lib.LaidTab
import Derived.ChangeMaps5
import Derived.Test.YthicckleihbomaaDoorCards
import Derived.Test.YthicckleihbomaaDoorTie
import Derived.Deep.DeepHandedRow
import Derived.Deep.DeepWitnessRowRef
/- The shell, part S: the table of powers of ten; a script's ops. -/
namespace Go.Proofs.YthicckleihbomaaDoor
open Go
open Go.ChangeShapes Go.WideShapes Go.ChangeAt Go.RowKit
set_option linter.unusedVariables false
theorem laid_ten {W : World} {r : List (String × DataW Unit)} (h : laidMet Tryd.prog (("internal/strconv.uint64pow10", Rows.laid_internal_strconv_uint64pow10) :: r) W) : TenR W :=
  Lib.tabIs_of_head (k := .u64) (zs := Lib.pow10Tab) (g := 21) (by kernel_rfl) (by kernel_rfl) (run_arrT Ty.arr_147) Ty.un_133 (by kernel_rfl) (by kernel_rfl) h
end Go.Proofs.YthicckleihbomaaDoor

/- Walks, by program (wg.py) out of a spec. -/
namespace Go.Proofs.YthicckleihbomaaDoor
open Go
set_option linter.unusedVariables false
set_option linter.unusedSimpArgs false


theorem u64_rem (a : Int) {m : Nat} (hm : 0 < m) : (IntKind.u64.wrap a).tmod (m : Int) = ((((IntKind.u64.wrap a).tmod (m : Int)).toNat : Nat) : Int) ∧ ((IntKind.u64.wrap a).tmod (m : Int)).toNat < m := by
  have h0 : 0 ≤ IntKind.u64.wrap a := by simp only [IntKind.wrap, IntKind.bits, IntKind.signed]; simp; omega
  have h1 : (IntKind.u64.wrap a).tmod (m : Int) = (IntKind.u64.wrap a) % (m : Int) := Int.tmod_eq_emod_of_nonneg h0
  have h2 := Int.emod_nonneg (IntKind.u64.wrap a) (show (m : Int) ≠ 0 by omega)
  have h3 := Int.emod_lt_of_pos (IntKind.u64.wrap a) (show (0 : Int) < (m : Int) by omega)
  rw [h1]
  omega
def moN (x : Int) : Nat := ((IntKind.u64.wrap x).tmod 9).toNat
theorem moN_eq (x : Int) : (IntKind.u64.wrap x).tmod 9 = (moN x : Int) ∧ moN x < 9 := u64_rem x (m := 9) (by decide)
def lonC (k : Int) (n : Int) : List Value := [.int .i64 k, .int .i64 0, .int .i64 n, .slice none 0 0, .slice none 0 0, .slice none 0 0]
theorem rd_lon {w : World} {A : Nat → Prop} (k n : Int) : RdOpS w A (lonC k n) ⟨k, 0, n, [], [], []⟩ := ⟨none, none, none, 0, 0, 0, rfl, ⟨RdRow.nil, Nat.le_refl _⟩, ⟨RdRow.nil, Nat.le_refl _⟩, RdRow.nil, Nat.le_refl _⟩
def tickC : List Value := lonC 4 0
theorem rep_snoc {α : Type} (k : Nat) (x : α) : List.replicate (k + 1) x = List.replicate k x ++ [x] := by rw [List.replicate_succ']
def lonCs (k r : Nat) : List (List Value) := List.replicate k tickC ++ [lonC 2 (onesN r)]
def lonL (k r : Nat) : List OpS := List.replicate k tickO ++ [dropO (onesN r)]
theorem lon_len (k r : Nat) : (lonL k r).length = k + 1 := by simp [lonL]
theorem lon_list {w : World} {A : Nat → Prop} {a : Option Addr} {k r n : Nat} (hr : RdRow w A 6 a n ((List.replicate k tickC).flatten ++ lonC 2 (onesN r))) : RdList (RdOpS w A) w A 6 a n (lonL k r) := by
  have e : (lonCs k r).flatten = (List.replicate k tickC).flatten ++ lonC 2 (onesN r) := by simp [lonCs]
  refine ⟨lonCs k r, by rw [e]; exact hr, fun c hc => ?_, by simp [lonCs, lonL], fun i c x hc hx => ?_⟩
  · rcases List.mem_append.1 hc with hc | hc
    · rw [List.eq_of_mem_replicate hc]; rfl
    · rw [List.mem_singleton.1 hc]; rfl
  · by_cases hi : i < k
    · rw [lonCs, List.getElem?_append_left (by simpa using hi)] at hc
      rw [lonL, List.getElem?_append_left (by simpa using hi)] at hx
      have h1 := List.eq_of_mem_replicate (List.mem_of_getElem? hc)
      have h2 := List.eq_of_mem_replicate (List.mem_of_getElem? hx)
      rw [h1, h2]; exact rd_lon 4 0
    · have hi' : i = k := by have := (List.getElem?_eq_some_iff.1 hc).1; simp [lonCs] at this; omega
      subst hi'
      rw [lonCs, List.getElem?_append_right (by simp)] at hc
      rw [lonL, List.getElem?_append_right (by simp)] at hx
      simp at hc hx
      subst hc; subst hx; exact rd_lon 2 (onesN r)
theorem ones_le {r : Nat} (h : r ≤ 6) : onesN r ≤ 111111 := by
  have h' : r = 0 ∨ r = 1 ∨ r = 2 ∨ r = 3 ∨ r = 4 ∨ r = 5 ∨ r = 6 := by omega
  rcases h' with rfl | rfl | rfl | rfl | rfl | rfl | rfl <;> decide
theorem lon_ok (k : Nat) {r : Nat} (h : r ≤ 6) : ∀ o ∈ lonL k r, o.data.length ≤ 65535 ∧ WfO o := fun o ho => by
  rcases List.mem_append.1 ho with ho | ho
  · rw [List.eq_of_mem_replicate ho]; exact okS0 4
  · rw [List.mem_singleton.1 ho]; exact ⟨Nat.zero_le _, r64_nat (by have := ones_le h; omega), r64_nat (Nat.zero_le _), fun x hx => by cases hx⟩
theorem lon_lins (k : Nat) {r : Nat} (h1 : 1 ≤ r) (h6 : r ≤ 6) : ∃ ls, linsP (lonL k r) = some ls ∧ totB ls = 7 * k + 6 + r := ⟨_, long_lins (by have := ones_le h6; omega), long_len h1 h6⟩
theorem par_over {s t : Bs} (h : 65535 < s.length + t.length) : parE (s ++ t) = 3 ∧ parO (s ++ t) = [] := par_long (by simp; omega)

attribute [local irreducible] Gl Gc Gx Gs Runs Wt

set_option maxHeartbeats 4000000 in
set_option maxRecDepth 20000 in
theorem scriptLong_ok {w : World} {F : Nat → Prop} {x : Int} (h : stars [] w F) (hT : TenG w (fun k => ¬ F k)) {ea : Nat → Addr} (hN : NErr w (fun k => ¬ F k) ea)  :
    Calls Tryd.prog 7 #[.int .i64 x] w (Post w F (fun _ : Unit => .bool true) (fun _ => [])) := by
  have hE := hN.g
  obtain ⟨mv, hmv⟩ : ∃ m, m = moN x := ⟨_, rfl⟩
  have hm9 := (moN_eq x).2
  have hme := (moN_eq x).1
  rw [← hmv] at hm9 hme
  refine g_enter (env := [(0, .int .i64 x)]) Tryd.func7 rfl h Tryd.ntmps7 rfl rfl ?_
  refine gsr ?_
  refine gp zas ?_
  refine gnt ?_
  refine gc_seq ?_
  refine gsr ?_
  refine zc (fun _ => ?_) (c := fun w1 F1 F2 h1 h2 hd hst => alive23_ok h1 (hE.mv hst.still))
  refine gp (r_bool (c := false) znt (rfl)) ?_
  refine gnt ?_
  refine gc_condF rfl rfl ?_
  refine gc_skip ?_
  refine gx_then ?_
  refine gsr ?_
  refine gp zmv ?_
  refine gp zci ?_
  refine gp (r_int (j := (mv : Int)) zrm hme) ?_
  refine gp (r_int (j := (mv : Int)) zci (wrap_i64 (by omega) (by omega))) ?_
  refine gp (r_int (j := (mv : Int) - 4) zsb (by omega)) ?_
  refine gp zas ?_
  refine gnt ?_
  refine gsr ?_
  refine ze0 fun b20 => ?_
  refine gp zas ?_
  refine gnt ?_
  refine gsr ?_
  refine gp zas ?_
  refine gnt ?_
  refine gc_seq ?_
  refine gc_block ?_
  refine gc_loop (α := Nat × (Option Addr × Nat)) (fun y => [pureR (7 * y.1 + 11 < 65535 + mv), rowR 38 6 y.2.1 y.1 y.2.2 (List.replicate y.1 tickC).flatten]) (fun y => [(4, .int .i64 ((7 * y.1 : Nat) : Int)), (3, .slice y.2.1 y.1 y.2.2)]) [21, 22, 23, 24, 25, 26, 27, 28, 29, 30, 31] (fun y => 70000 - 7 * y.1) (0, (some ⟨b20, 0, none⟩, 0)) ?_ ?_ ?_
  · refine env_start (by kernel_rfl)
  · exact zlp (by show 7 * 0 + 11 < 65535 + mv; omega)
  · intro y u
    obtain ⟨k, ⟨al, cl⟩⟩ := y
    refine gc_pureR (fun hk => ?_)
    replace hk : 7 * k + 11 < 65535 + mv := hk
    refine gc_seq ?_
    refine gsr ?_
    refine gp zmv ?_
    refine gp (r_int (j := ((7 * k + 14 : Nat) : Int)) zad (by omega)) ?_
    refine gp zmv ?_
    refine gp (r_int (j := ((65531 + mv : Nat) : Int)) zad (by omega)) ?_
    refine gp zlt ?_
    refine gnt ?_
    refine gif rfl (fun hc25 => ?_) (fun hc25 => ?_)
    · try simp only at hc25
      have hlt : 7 * k + 14 < 65531 + mv := by omega
      refine gc_skip ?_
      refine gx_then ?_
      refine gc_block ?_
      refine gsr ?_
      refine gp zmv ?_
      refine gp (zbu (cs := lonC 4 0) (hf := by kernel_rfl)) ?_
      refine zeN fun b28 => ?_
      refine zapo (m := k) (j := 1) (fun a29 c29 => ?_)
      refine gp zas ?_
      refine gnt ?_
      refine gc_region ?_
      refine gp zmv ?_
      refine gp (r_int (j := ((7 * (k + 1) : Nat) : Int)) zad (by omega)) ?_
      refine gp zas ?_
      refine gl_nil ?_
      refine gx_block_normal ?_
      refine zrd ((k + 1, (a29, c29))) ?_ ?_
      · show 70000 - 7 * (k + 1) < 70000 - 7 * k
        omega
      · have e : (List.replicate (k + 1) tickC).flatten = (List.replicate k tickC).flatten ++ lonC 4 0 := by rw [rep_snoc]; simp [tickC]
        simp only [e]
        exact zlp (show 7 * (k + 1) + 11 < 65535 + mv by omega)
    · try simp only at hc25
      obtain ⟨r, hr⟩ : ∃ r, r = 65531 + mv - 7 * k - 6 := ⟨_, rfl⟩
      have hr1 : 2 ≤ r ∧ r ≤ 8 := by omega
      refine gc_exit ?_
      refine gx_then_exit ?_
      refine gx_round_exit ?_
      refine gx_block_hit ?_
      refine gx_then ?_
      refine gsr ?_
      refine gp (zbu (cs := lonC 2 0) (hf := by kernel_rfl)) ?_
      refine zal fun b5 => ?_
      refine zsN ?_
      refine gl_eqc (cs' := lonC 2 ((onesN 0 : Nat) : Int)) (by repeat (first | exact Pick.here | apply Pick.there)) rfl ?_
      refine gnt ?_
      refine gsr ?_
      refine gp zmv ?_
      refine gp (r_int (j := ((65531 + mv : Nat) : Int)) zad (by omega)) ?_
      refine gp zmv ?_
      refine gp (r_int (j := ((65531 + mv - 7 * k : Nat) : Int)) zsb (by omega)) ?_
      refine gp (r_int (j := (r : Int)) zsb (by omega)) ?_
      refine gp zas ?_
      refine gnt ?_
      refine gc_seq ?_
      refine gsr ?_
      refine gp zmv ?_
      refine gp (r_bool (c := false) zlt (decide_eq_false (by omega))) ?_
      refine gp zmv ?_
      refine gq zmv ?_
      refine gq (r_bool (c := false) zgt (decide_eq_false (by omega))) ?_
      refine gp zpk ?_
      refine gnt ?_
      refine gc_condF rfl rfl ?_
      refine gc_skip ?_
      refine gx_then ?_
      refine gc_seq ?_
      refine gsr ?_
      refine gp zmv ?_
      refine gp zgt ?_
      refine gnt ?_
      refine gif rfl (fun hc45 => ?_) (fun hc45 => ?_)
      · refine gsr ?_
        refine gp zas ?_
        refine gnt ?_
        refine gc_ret ?_
        refine gx_then_ret ?_
        refine gx_ret1 rfl (by conv => lhs; whnf) ?_
        exact ze ()
      · try simp only at hc45
        have hr6 : r ≤ 6 := by omega
        have ho6 := ones_le hr6
        obtain ⟨ls, hls, htot⟩ := lon_lins k (by omega) hr6
        have hok := lon_ok k hr6
        have htl := textB_len ls
        refine gc_skip ?_
        refine gx_then ?_
        refine gc_seq ?_
        refine gsr ?_
        refine gp zmv ?_
        refine gp zmv ?_
        refine gnt ?_
        refine gc_block ?_
        refine gc_loop (α := Nat) (fun j => [pureR (j ≤ r), blk b5 38 (lonC 2 ((onesN j : Nat) : Int)), rowR 38 6 al k cl (List.replicate k tickC).flatten]) (fun j => [(47, .int .i64 (j : Int))]) [48, 49, 50, 51, 52, 53, 54] (fun j => r - j) 0 ?_ ?_ ?_
        · refine env_start (by kernel_rfl)
        · exact zlp (Nat.zero_le _)
        · intro j u
          refine gc_pureR (fun hj => ?_)
          replace hj : j ≤ r := hj
          refine gsr ?_
          refine gp zlt ?_
          refine gnt ?_
          refine gc_seq ?_
          refine gif rfl (fun hc48 => ?_) (fun hc48 => ?_)
          · try simp only at hc48
            have hj' : j < r := by omega
            have ilc := Len.of (show (lonC 2 ((onesN j : Nat) : Int)).length = 6 from rfl)
            have hoj := ones_le (show j ≤ 6 by omega)
            refine gc_skip ?_
            refine gx_then ?_
            refine gc_seq ?_
            refine gc_block ?_
            refine gc_region ?_
            refine gp zfa ?_
            refine gp (zl (v := .int .i64 ((onesN j : Nat) : Int)) (hv := rfl)) ?_
            refine gp (r_int (j := ((10 * onesN j : Nat) : Int)) zml (by omega)) ?_
            refine gp (r_int (j := ((onesN (j + 1) : Nat) : Int)) zad (by show _ = ((10 * onesN j + 1 : Nat) : Int); omega)) ?_
            refine gp zfa ?_
            refine zs1 ?_
            refine gl_eqc (cs' := lonC 2 ((onesN (j + 1) : Nat) : Int)) (by repeat (first | exact Pick.here | apply Pick.there)) rfl ?_
            refine gl_nil ?_
            refine gx_block_normal ?_
            refine gx_then ?_
            refine gc_region ?_
            refine gp zad ?_
            refine gp zmv ?_
            refine gl_nil ?_
            refine zrd (j + 1) ?_ ?_
            · show r - (j + 1) < r - j
              omega
            · exact zlp (show j + 1 ≤ r by omega)
          · try simp only at hc48
            have hj' : j = r := by omega
            subst hj'
            refine gc_exit ?_
            refine gx_then_exit ?_
            refine gx_round_exit ?_
            refine gx_block_hit ?_
            refine gx_then ?_
            refine gsr ?_
            refine gp zmv ?_
            refine gp (zL (sg := lonC 2 ((onesN j : Nat) : Int)) (hg := rfl) (hl := rfl)) ?_
            refine zeN fun b57 => ?_
            refine zapo (m := k) (j := 1) (fun a58 c58 => ?_)
            refine gp zas ?_
            refine gnt ?_
            refine gc_seq ?_
            by_cases g5 : 4 < mv
            · obtain ⟨hte, hto⟩ := tex_long hls (by omega)
              refine gc_region ?_
              refine gp zmv ?_
              refine zc (fun _ => ?_) (c := fun w1 F1 F2 h1 h2 hd hst => stext_ok (l := lonL k j) h1 (lon_list (rd_row h2 hd (by repeat (first | exact Pick.here | apply Pick.there)))) hok (hT.mv hst.still) (hE.mv hst.still))
              rw [hte, hto]
              refine gp zmv ?_
              refine gp zex ?_
              refine gp zex ?_
              refine gp zas ?_
              refine gp zas ?_
              refine gnt ?_
              refine gc_seq ?_
              refine gsr ?_
              refine gp zmv ?_
              refine gp (r_bool (c := true) zgt (decide_eq_true (by omega))) ?_
              refine gnt ?_
              refine gc_condT rfl rfl ?_
              refine gsr ?_
              refine gp zmv ?_
              refine gp (r_bool (c := true) zes (rfl)) ?_
              refine gp zmv ?_
              refine gq zmv ?_
              refine zc (fun _ => ?_) (c := fun w1 F1 F2 h1 h2 hd hst => errNum_ok (n := 3) h1 (hN.mv hst.still) (by decide))
              refine gq (r_bool (c := true) zei (rfl)) ?_
              refine gp zpk ?_
              refine gp zas ?_
              refine gnt ?_
              refine gc_ret ?_
              refine gx_then_ret ?_
              refine gx_ret1 rfl (by conv => lhs; whnf) ?_
              exact ze ()
            · obtain ⟨hte, hto⟩ := tex_is hls (by omega)
              have hpar := text_parse hls
              obtain ⟨hpe, hpo⟩ := par_some (s := textB ls) (by omega) hpar
              obtain ⟨hqe, hqo⟩ := par_over (s := textB ls) (t := [116, 105, 99, 107, 32, 48, 10]) (by simp; omega)
              refine gc_region ?_
              refine gp zmv ?_
              refine zc (fun _ => ?_) (c := fun w1 F1 F2 h1 h2 hd hst => stext_ok (l := lonL k j) h1 (lon_list (rd_row h2 hd (by repeat (first | exact Pick.here | apply Pick.there)))) hok (hT.mv hst.still) (hE.mv hst.still))
              rw [hte, hto]
              refine gp zmv ?_
              refine gp zex ?_
              refine gp zex ?_
              refine gp zas ?_
              refine gp zas ?_
              refine gnt ?_
              refine gc_seq ?_
              refine gsr ?_
              refine gp zmv ?_
              refine gp (r_bool (c := false) zgt (decide_eq_false (by omega))) ?_
              refine gnt ?_
              refine gc_condF rfl rfl ?_
              refine gc_skip ?_
              refine gx_then ?_
              refine gsr ?_
              refine gp zmv ?_
              refine zc ?_ (c := fun w1 F1 F2 h1 h2 hd hst => sparse_ok (s := textB ls) h1 (hE.mv hst.still))
              rintro ⟨a75, c75⟩
              rw [hpe, hpo]
              refine gp zmv ?_
              refine gp zex ?_
              refine gp zex ?_
              refine gp zas ?_
              refine gp zas ?_
              refine gnt ?_
              refine gsr ?_
              refine gp zmv ?_
              refine gp (zcat (a := textB ls) (b := [116, 105, 99, 107, 32, 48, 10]) (hl := by simp; omega)) ?_
              refine zc ?_ (c := fun w1 F1 F2 h1 h2 hd hst => sparse_ok (s := textB ls ++ [116, 105, 99, 107, 32, 48, 10]) h1 (hE.mv hst.still))
              rintro ⟨a81, c81⟩
              rw [hqe, hqo]
              refine gp zmv ?_
              refine gp zex ?_
              refine gp zex ?_
              refine gp zas ?_
              refine gp zas ?_
              refine gnt ?_
              refine gsr ?_
              refine gp zmv ?_
              refine gp (r_bool (c := true) (r_eqnil (k := 0) rfl (by kernel_rfl)) rfl) ?_
              refine gp zmv ?_
              refine gq zmv ?_
              refine gq (r_bool (c := true) (r_eqnil (k := 0) rfl (by kernel_rfl)) rfl) ?_
              refine gp zpk ?_
              refine gp zmv ?_
              refine gq zmv ?_
              refine gq zlS ?_
              refine gq zmv ?_
              refine gq (r_int (j := ((65531 + mv : Nat) : Int)) zad (by omega)) ?_
              refine gq (r_bool (c := true) zei (decide_eq_true (by omega))) ?_
              refine gp zpk ?_
              refine gp zmv ?_
              refine gq zmv ?_
              refine gq zln ?_
              refine gq zmv ?_
              refine gq zln ?_
              refine gq (r_bool (c := true) zei (decide_eq_true (by rw [List.length_map, lon_len]))) ?_
              refine gp zpk ?_
              refine gp zmv ?_
              refine gq zmv ?_
              refine zc (fun _ => ?_) (c := fun w1 F1 F2 h1 h2 hd hst => errNum_ok (n := 3) h1 (hN.mv hst.still) (by decide))
              refine gq (r_bool (c := true) zei (rfl)) ?_
              refine gp zpk ?_
              refine gp zas ?_
              refine gnt ?_
              refine gc_ret ?_
              refine gx_ret1 rfl (by conv => lhs; whnf) ?_
              exact ze ()

end Go.Proofs.YthicckleihbomaaDoor

/- ScriptLong: for every input the law returns true, and the input reads as it did: the row and its card. -/
namespace Go.Proofs.YthicckleihbomaaDoor
open Go
open Go.ChangeShapes Go.WideShapes Go.ChangeAt Go.RowKit
set_option linter.unusedVariables false

/-- One world that fits: the settled one, the listed variables as their initialisers lay them. -/
noncomputable def scriptLong_world (os : Os) : World :=
  let w0 := World.holding Tryd.prog os ⟨#[.cells #[.string ⟨#[113, 117, 111, 114, 97, 116, 101, 58, 32, 114, 97, 110, 103, 101]⟩] 175, .cells #[.string ⟨#[113, 117, 111, 114, 97, 116, 101, 58, 32, 115, 104, 111, 114, 116]⟩] 175, .cells #[.string ⟨#[113, 117, 111, 114, 97, 116, 101, 58, 32, 108, 111, 110, 103]⟩] 175, .cells #[.string ⟨#[113, 117, 111, 114, 97, 116, 101, 58, 32, 102, 111, 114, 109]⟩] 175, .cells #[.string ⟨#[113, 117, 111, 114, 97, 116, 101, 58, 32, 115, 112, 101, 110, 116]⟩] 175, .cells #[.string ⟨#[113, 117, 111, 114, 97, 116, 101, 58, 32, 112, 111, 119, 101, 114]⟩] 175, .cells #[.string ⟨#[113, 117, 111, 114, 97, 116, 101, 58, 32, 100, 105, 115, 107]⟩] 175, .cells #[.string ⟨#[113, 117, 111, 114, 97, 116, 101, 58, 32, 102, 117, 108, 108]⟩] 175, .cells #[.string ⟨#[113, 117, 111, 114, 97, 116, 101, 58, 32, 110, 111, 110, 101]⟩] 175, .cells #[.string ⟨#[113, 117, 111, 114, 97, 116, 101, 58, 32, 111, 108, 100]⟩] 175, .cells #[.string ⟨#[113, 117, 111, 114, 97, 116, 101, 58, 32, 115, 101, 116]⟩] 175, .cells #[.string ⟨#[113, 117, 111, 114, 97, 116, 101, 58, 32, 112, 114, 111, 111, 102]⟩] 175, .cells #[.string ⟨#[113, 117, 111, 114, 97, 116, 101, 58, 32, 108, 101, 97, 100, 101, 114]⟩] 175, .cells #[.string ⟨#[113, 117, 111, 114, 97, 116, 101, 58, 32, 114, 111, 117, 110, 100]⟩] 175, .cells #[.string ⟨#[113, 117, 111, 114, 97, 116, 101, 58, 32, 117, 110, 115, 97, 102, 101]⟩] 175, .cells #[.string ⟨#[113, 117, 111, 114, 97, 116, 101, 58, 32, 112, 97, 114, 101, 110, 116]⟩] 175, .cells #[.string ⟨#[113, 117, 111, 114, 97, 116, 101, 58, 32, 116, 119, 105, 99, 101]⟩] 175, .cells #[.string ⟨#[113, 117, 111, 114, 97, 116, 101, 58, 32, 101, 112, 111, 99, 104]⟩] 175], #[], []⟩
  { w0 with heap := ((((((((((((((((((((((w0.heap.modify 2 fun
      | .cells _ t fz => .cells #[.iface 153 (.pointer (some ⟨lowB + 0, 0, none⟩))] t fz
      | o => o).modify 3 fun
      | .cells _ t fz => .cells #[.iface 153 (.pointer (some ⟨lowB + 1, 0, none⟩))] t fz
      | o => o).modify 0 fun
      | .cells _ t fz => .cells #[.iface 153 (.pointer (some ⟨lowB + 2, 0, none⟩))] t fz
      | o => o).modify 1 fun
      | .cells _ t fz => .cells #[.iface 153 (.pointer (some ⟨lowB + 3, 0, none⟩))] t fz
      | o => o).modify 4 fun
      | .cells _ t fz => .cells #[.iface 153 (.pointer (some ⟨lowB + 4, 0, none⟩))] t fz
      | o => o).modify 5 fun
      | .cells _ t fz => .cells #[.iface 153 (.pointer (some ⟨lowB + 5, 0, none⟩))] t fz
      | o => o).modify 6 fun
      | .cells _ t fz => .cells #[.iface 153 (.pointer (some ⟨lowB + 6, 0, none⟩))] t fz
      | o => o).modify 7 fun
      | .cells _ t fz => .cells #[.iface 153 (.pointer (some ⟨lowB + 7, 0, none⟩))] t fz
      | o => o).modify 8 fun
      | .cells _ t fz => .cells #[.iface 153 (.pointer (some ⟨lowB + 8, 0, none⟩))] t fz
      | o => o).modify 9 fun
      | .cells _ t fz => .cells #[.iface 153 (.pointer (some ⟨lowB + 9, 0, none⟩))] t fz
      | o => o).modify 10 fun
      | .cells _ t fz => .cells #[.iface 153 (.pointer (some ⟨lowB + 10, 0, none⟩))] t fz
      | o => o).modify 11 fun
      | .cells _ t fz => .cells #[.iface 153 (.pointer (some ⟨lowB + 11, 0, none⟩))] t fz
      | o => o).modify 12 fun
      | .cells _ t fz => .cells #[.iface 153 (.pointer (some ⟨lowB + 12, 0, none⟩))] t fz
      | o => o).modify 13 fun
      | .cells _ t fz => .cells #[.iface 153 (.pointer (some ⟨lowB + 13, 0, none⟩))] t fz
      | o => o).modify 14 fun
      | .cells _ t fz => .cells #[.iface 153 (.pointer (some ⟨lowB + 14, 0, none⟩))] t fz
      | o => o).modify 15 fun
      | .cells _ t fz => .cells #[.iface 153 (.pointer (some ⟨lowB + 15, 0, none⟩))] t fz
      | o => o).modify 16 fun
      | .cells _ t fz => .cells #[.iface 153 (.pointer (some ⟨lowB + 16, 0, none⟩))] t fz
      | o => o).modify 17 fun
      | .cells _ t fz => .cells #[.iface 153 (.pointer (some ⟨lowB + 17, 0, none⟩))] t fz
      | o => o).modify 22 fun
      | .cells _ t fz => .cells #[.int .u8 0, .int .u8 1, .int .u8 28, .int .u8 2, .int .u8 29, .int .u8 14, .int .u8 24, .int .u8 3, .int .u8 30, .int .u8 22, .int .u8 20, .int .u8 15, .int .u8 25, .int .u8 17, .int .u8 4, .int .u8 8, .int .u8 31, .int .u8 27, .int .u8 13, .int .u8 23, .int .u8 21, .int .u8 19, .int .u8 16, .int .u8 7, .int .u8 26, .int .u8 12, .int .u8 18, .int .u8 6, .int .u8 11, .int .u8 5, .int .u8 10, .int .u8 9] t fz
      | o => o).modify 23 fun
      | .cells _ t fz => .cells #[.int .u8 0, .int .u8 1, .int .u8 56, .int .u8 2, .int .u8 57, .int .u8 49, .int .u8 28, .int .u8 3, .int .u8 61, .int .u8 58, .int .u8 42, .int .u8 50, .int .u8 38, .int .u8 29, .int .u8 17, .int .u8 4, .int .u8 62, .int .u8 47, .int .u8 59, .int .u8 36, .int .u8 45, .int .u8 43, .int .u8 51, .int .u8 22, .int .u8 53, .int .u8 39, .int .u8 33, .int .u8 30, .int .u8 24, .int .u8 18, .int .u8 12, .int .u8 5, .int .u8 63, .int .u8 55, .int .u8 48, .int .u8 27, .int .u8 60, .int .u8 41, .int .u8 37, .int .u8 16, .int .u8 46, .int .u8 35, .int .u8 44, .int .u8 21, .int .u8 52, .int .u8 32, .int .u8 23, .int .u8 11, .int .u8 54, .int .u8 26, .int .u8 40, .int .u8 15, .int .u8 34, .int .u8 20, .int .u8 31, .int .u8 10, .int .u8 25, .int .u8 14, .int .u8 19, .int .u8 9, .int .u8 13, .int .u8 8, .int .u8 7, .int .u8 6] t fz
      | o => o).modify 21 fun
      | .cells _ t fz => .cells #[.int .u64 1, .int .u64 10, .int .u64 100, .int .u64 1000, .int .u64 10000, .int .u64 100000, .int .u64 1000000, .int .u64 10000000, .int .u64 100000000, .int .u64 1000000000, .int .u64 10000000000, .int .u64 100000000000, .int .u64 1000000000000, .int .u64 10000000000000, .int .u64 100000000000000, .int .u64 1000000000000000, .int .u64 10000000000000000, .int .u64 100000000000000000, .int .u64 1000000000000000000, .int .u64 10000000000000000000] t fz
      | o => o).modify 20 fun
      | .cells _ t fz => .cells #[.int .u8 128, .int .u8 191, .int .u8 160, .int .u8 191, .int .u8 128, .int .u8 159, .int .u8 144, .int .u8 191, .int .u8 128, .int .u8 143, .int .u8 0, .int .u8 0, .int .u8 0, .int .u8 0, .int .u8 0, .int .u8 0, .int .u8 0, .int .u8 0, .int .u8 0, .int .u8 0, .int .u8 0, .int .u8 0, .int .u8 0, .int .u8 0, .int .u8 0, .int .u8 0, .int .u8 0, .int .u8 0, .int .u8 0, .int .u8 0, .int .u8 0, .int .u8 0] t fz
      | o => o).modify 19 fun
      | .cells _ t fz => .cells (Pinned.utf8FirstZ.map fun z : Nat => Value.int .u8 (z : Int)).toArray t fz
      | o => o }
def scriptLong_args : Array Value := #[.int .i64 0]
theorem scriptLong_laid (os : Os) (args : Array Value) : laidMet Tryd.prog Rows.scriptLongRow.laid ((scriptLong_world os).forCall (fun _ _ => 0) ⟨#[], args, []⟩).memory :=
  laidMet_of_run' 8 (by kernel_rfl) (by kernel_rfl)
theorem scriptLong_reads (os : Os) {H : Type} (enc : TypeId × Value → H) : ∃ places, DataW.whole enc Tryd.prog ((scriptLong_world os).forCall (fun _ _ => 0) ⟨#[], scriptLong_args, []⟩).memory Tryd.f7.params.toList Rows.scriptLongSpec.vars false scriptLong_args.toList 8 = some ([.lit (.int .i64 0)], [], places) :=
  ⟨[], by kernel_rfl⟩
set_option maxRecDepth 20000 in
theorem scriptLong_contract (H : Type) (enc : TypeId × Value → H) (W : World) (base : Nat) (args : Array Value) (ds gs : List (DataW H)) (before : List MemPlace)
    (hval : ∀ (j : Nat) t v, Tryd.f7.params[j]? = some t → args[j]? = some v → Value.okWide Tryd.prog W .any base t v)
    (hW : DataW.Whole enc Tryd.prog Tryd.f7.params.toList Rows.scriptLongSpec.vars false W args.toList ds gs before) (hL : laidMetH Tryd.prog Rows.scriptLongRow.laid W) :
    Calls Tryd.prog 7 args W fun e W' => ∃ v, e = .returned v ∧ Rows.scriptLongSpec.post enc Tryd.prog Tryd.f7 false true false false W args v W' := by
  have hW' := hW
  have hlt : ∀ p ∈ before, p.block < W.heap.size := fun p hp => hW.lt p hp
  obtain ⟨p, q, hA0, hV, rfl, hfz, hnd⟩ := hW
  have hA : DataW.TrodAll enc Tryd.prog W 0 (fun _ => true) true Tryd.f7.params.toList args.toList ds p := hA0
  rw [Tryd.params7] at hA hval
  obtain ⟨v0, vs0, d0, ds0, p0, q0, hargs, rfl, rfl, h0, r0⟩ := trodAll_cons hA
  obtain ⟨rfl, rfl, rfl⟩ := trodAll_nil r0
  obtain rfl : args = #[v0] := by cases args; simp_all
  obtain ⟨rfl, rfl⟩ := trodVars_none hV
  obtain ⟨n0, rfl, _, _, wf0⟩ := open_int Ty.un_3 (hval 0 3 v0 rfl rfl) h0
  have hL' : laidMet Tryd.prog Rows.scriptLongRow.laid W := hL
  obtain ⟨ea, hN⟩ := laid_nerr (r := [("unicode/utf8.first", Rows.laid_unicode_utf8_first)]) (show laidMet Tryd.prog (errNames.map errRow ++ [("unicode/utf8.first", Rows.laid_unicode_utf8_first)]) W from hL'.tail.tail.tail.tail)
  have hT : TenR W := laid_ten (r := [("unicode/utf8.acceptRanges", Rows.laid_unicode_utf8_acceptRanges), ("quorate/api.ErrRange", Rows.laid_quorate_api_ErrRange), ("quorate/api.ErrShort", Rows.laid_quorate_api_ErrShort), ("quorate/api.ErrLong", Rows.laid_quorate_api_ErrLong), ("quorate/api.ErrForm", Rows.laid_quorate_api_ErrForm), ("quorate/api.ErrSpent", Rows.laid_quorate_api_ErrSpent), ("quorate/api.ErrPower", Rows.laid_quorate_api_ErrPower), ("quorate/api.ErrDisk", Rows.laid_quorate_api_ErrDisk), ("quorate/api.ErrFull", Rows.laid_quorate_api_ErrFull), ("quorate/api.ErrNone", Rows.laid_quorate_api_ErrNone), ("quorate/api.ErrOld", Rows.laid_quorate_api_ErrOld), ("quorate/api.ErrSet", Rows.laid_quorate_api_ErrSet), ("quorate/api.ErrProof", Rows.laid_quorate_api_ErrProof), ("quorate/api.ErrLeader", Rows.laid_quorate_api_ErrLeader), ("quorate/api.ErrRound", Rows.laid_quorate_api_ErrRound), ("quorate/api.ErrUnsafe", Rows.laid_quorate_api_ErrUnsafe), ("quorate/api.ErrParent", Rows.laid_quorate_api_ErrParent), ("quorate/api.ErrTwice", Rows.laid_quorate_api_ErrTwice), ("quorate/api.ErrEpoch", Rows.laid_quorate_api_ErrEpoch), ("unicode/utf8.first", Rows.laid_unicode_utf8_first)]) hL'.tail.tail
  have walk := scriptLong_ok (x := n0) no_res ⟨hT, id⟩ hN
  refine Calls.mono (show Calls Tryd.prog 7 #[.int .i64 n0] W _ from walk) fun e W' ⟨_, he, hs⟩ => ?_
  subst he
  have bel := below_of hs
  have eF : Rows.scriptLongSpec.fn H ([d0] ++ []) = { results := [.lit (.bool true)], args := [d0] } := rfl
  have l0 : ∀ z ∈ p0, z.block < W.heap.size := fun z hz => hlt z (by simp [hz])
  refine ⟨_, rfl, _, _, _, [], p0 ++ ([]), [], hW', ?_, ?_, ?_, bel.frame _, fun h => by cases h⟩
  · rw [eF]; exact trodAll_cons_mk (shut_bool Tryd.underlying4 _) trodAll_mk0
  · rw [eF, Tryd.params7]
    exact trodAll_cons_mk (Below.trod laidOut (by kernel_rfl) (of_decide_eq_true (by kernel_rfl)) h0 bel l0) (trodAll_mk0)
  · rw [eF]; rfl

set_option maxRecDepth 100000 in
theorem scriptLong_lifted (os : Os) (started : os.Started) (H : Type) (enc : TypeId × Value → H) (F : Stop.Interp) :
    ReturnsInHanded {} Tryd.checked os 7 .any ((OpenSpec.ofChange Rows.scriptLongSpec).preRow enc Tryd.prog Tryd.f7 Rows.scriptLongRow.domain false Rows.scriptLongRow.laid) (((OpenSpec.ofChange Rows.scriptLongSpec).at F).post enc Tryd.prog Tryd.f7 false true false false) := by
  obtain ⟨places, hx⟩ := scriptLong_reads os enc
  refine returnsInHanded_of_row (C := Tryd.checked) (s := OpenSpec.ofChange Rows.scriptLongSpec) own started (by kernel_rfl) Tryd.func7
    (witness_row_atRef (enc := enc) (C := Tryd.checked) false (scriptLong_world os) scriptLong_args rfl (by kernel_rfl) (by kernel_rfl) (by kernel_rfl)
      (OpenSpec.preRow_of_cond 8 hx (by kernel_rfl) (fun k hk => by cases hk) (by kernel_rfl) (scriptLong_laid os _))) ?_
  intro W base args ds gs before hval hW _ _ _ hL _ _
  exact scriptLong_contract H enc W base args ds gs before hval hW hL

theorem scriptLong_said : Rows.ScriptLongSaid :=
  OpenClaim.holds_of_cond 7 Tryd.f7 rfl rfl rfl rfl rfl rfl rfl ⟨rfl, rfl, rfl, rfl, rfl⟩ rfl rfl rfl rfl rfl (by kernel_rfl) Tryd.func7 (by kernel_rfl)
    (of_decide_eq_true (by kernel_rfl)) (by unfold Func.isWrapper; first | (rw [if_pos (by decide +kernel)]; kernel_rfl) | (rw [if_neg (by decide +kernel)]; exact ⟨rfl, rfl⟩))
    (fun os started H enc _ F => by rw [OpenClaim.pre_eq_preRow]; exact scriptLong_lifted os started H enc F)
theorem scriptLong_plain (f : FuncId) (fn : Func) (hf : Tryd.pinned.checked.prog.funcNamed "quorate/quoratelaw23.ScriptLong" = some f) (hfn : Tryd.pinned.checked.prog.funcs[f]? = some fn) :
    true = Tryd.pinned.checked.prog.looks [] ∧ ∀ (j : Nat) t, fn.params[j]? = some t → Tryd.pinned.checked.prog.wantsStandIn t = false := by
  obtain rfl : f = 7 := Option.some.inj ((show Tryd.prog.funcNamed "quorate/quoratelaw23.ScriptLong" = some 7 by kernel_rfl).symm.trans hf) |>.symm
  obtain rfl : fn = Tryd.f7 := (Option.some.inj (Tryd.func7.symm.trans hfn)).symm
  refine ⟨by kernel_rfl, fun j t ht => ?_⟩
  rw [Tryd.params7] at ht
  have hm := Array.mem_of_getElem? ht
  have h : t = 3 := by simpa using hm
  subst h
  exact (show Tryd.prog.wantsStandIn 3 = false by kernel_rfl)
theorem scriptLong_holds : Rows.ScriptLongCardSaid :=
  Claim7.holds_tied_plain_at .later [] _ _ _ _ scriptLong_said (fun _ h => by cases h) (by kernel_rfl) (fun _ h => by cases h) scriptLong_row_tie rfl ⟨rfl, rfl⟩ (by kernel_rfl) rfl scriptLong_plain (by kernel_rfl)
#print axioms scriptLong_holds
end Go.Proofs.YthicckleihbomaaDoor

