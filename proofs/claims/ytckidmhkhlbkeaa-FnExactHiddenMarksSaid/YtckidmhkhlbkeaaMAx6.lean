-- Written by a program of this session (wip/drv.py) out of Lean's own print of the loaded program; hand-proved parts from wip/inj.
import Derived.RangeFuncNested
import Derived.RangeFuncBound
import Derived.RangeFuncCalls
import Derived.RangeFuncLeaves
import Derived.RangeFuncBox
import Derived.Shelf.Abstract
import Derived.Shelf.RegionOpen
import Derived.OwnWalkIn
import Derived.TacticsInMore
import Derived.LoopNIn
import Derived.LoopIn
import Derived.Test.YtckidmhkhlbkeaaShelf
import Derived.Lib.Builder
import Derived.Lib.AppendStr
import Derived.WalkKit
import Derived.Laws.Externs
import Derived.Lib.ConvBytes
import Derived.OrdersIn
import Derived.TacticsIn
import Derived.RegionIn
import Derived.Deep.RegionHeld3
import Derived.Test.YtckidmhkhlbkeaaMAx0
import Derived.Test.YtckidmhkhlbkeaaMAx5
namespace Go.Proofs.Ytckidmhkhlbkeaa.MA
open Go.RowKit Go.Proofs.YtckidmhkhlbkeaaW.PrintWords Go.Proofs.YtckidmhkhlbkeaaW.PrintLast Go.Proofs.YtckidmhkhlbkeaaW.PrintMore
attribute [local go_sem] max2_int min2_int max_two min_two max_three min_three max_four min_four   -- for this text's walks alone
set_option linter.unusedVariables false
set_option linter.unusedSimpArgs false

/-! ### bits_Mul32: function 109 -/
def bits_Mul32.f (a0 : Int) (a1 : Int) : Option (Int × Int) := some (((IntKind.u64.wrap ((IntKind.u64.wrap (a0)) * (IntKind.u64.wrap (a1)))) / 4294967296) % 4294967296, (IntKind.u64.wrap ((IntKind.u64.wrap (a0)) * (IntKind.u64.wrap (a1)))) % 4294967296)
set_option maxHeartbeats 8000000 in
set_option maxRecDepth 100000 in
theorem bits_Mul32.calls (a0 : Int) (a1 : Int) (r1 : Int) (r2 : Int) (w : World) (h : bits_Mul32.f a0 a1 = some (r1, r2)) :
    Calls Try.prog 109 #[.int .u32 a0, .int .u32 a1] w fun e w' => e = .returned (.tuple #[.int .u32 r1, .int .u32 r2]) ∧ Drawn0 w w' := by
  have H : (some (((IntKind.u64.wrap ((IntKind.u64.wrap (a0)) * (IntKind.u64.wrap (a1)))) / 4294967296) % 4294967296, (IntKind.u64.wrap ((IntKind.u64.wrap (a0)) * (IntKind.u64.wrap (a1)))) % 4294967296)) = some (r1, r2) := h
  clear h
  simp only [Option.some.injEq, Prod.mk.injEq] at H
  obtain ⟨rfl, rfl⟩ := H
  go_enter Try.func109, Try.ntmps109
  go_wp2
  go_ret2
  exact ⟨by first | rfl | (simp; done) | (simp [*]; done), by repeat (first | exact Drawn0.refl _ | apply Drawn0.step)⟩

/-! ### bits_Mul64: function 110 -/
def bits_Mul64.f (a0 : Int) (a1 : Int) : Option (Int × Int) := some (IntKind.u64.wrap ((IntKind.u64.wrap ((IntKind.u64.wrap ((a0 / 4294967296) * (a1 / 4294967296))) + ((IntKind.u64.wrap ((IntKind.u64.wrap ((a0 / 4294967296) * (Go.bits .and .u64 a1 4294967295))) + ((IntKind.u64.wrap ((Go.bits .and .u64 a0 4294967295) * (Go.bits .and .u64 a1 4294967295))) / 4294967296))) / 4294967296))) + ((IntKind.u64.wrap ((Go.bits .and .u64 (IntKind.u64.wrap ((IntKind.u64.wrap ((a0 / 4294967296) * (Go.bits .and .u64 a1 4294967295))) + ((IntKind.u64.wrap ((Go.bits .and .u64 a0 4294967295) * (Go.bits .and .u64 a1 4294967295))) / 4294967296))) 4294967295) + (IntKind.u64.wrap ((Go.bits .and .u64 a0 4294967295) * (a1 / 4294967296))))) / 4294967296)), IntKind.u64.wrap (a0 * a1))
set_option maxHeartbeats 8000000 in
set_option maxRecDepth 100000 in
theorem bits_Mul64.calls (a0 : Int) (a1 : Int) (r1 : Int) (r2 : Int) (w : World) (h : bits_Mul64.f a0 a1 = some (r1, r2)) :
    Calls Try.prog 110 #[.int .u64 a0, .int .u64 a1] w fun e w' => e = .returned (.tuple #[.int .u64 r1, .int .u64 r2]) ∧ Drawn0 w w' := by
  have H : (some (IntKind.u64.wrap ((IntKind.u64.wrap ((IntKind.u64.wrap ((a0 / 4294967296) * (a1 / 4294967296))) + ((IntKind.u64.wrap ((IntKind.u64.wrap ((a0 / 4294967296) * (Go.bits .and .u64 a1 4294967295))) + ((IntKind.u64.wrap ((Go.bits .and .u64 a0 4294967295) * (Go.bits .and .u64 a1 4294967295))) / 4294967296))) / 4294967296))) + ((IntKind.u64.wrap ((Go.bits .and .u64 (IntKind.u64.wrap ((IntKind.u64.wrap ((a0 / 4294967296) * (Go.bits .and .u64 a1 4294967295))) + ((IntKind.u64.wrap ((Go.bits .and .u64 a0 4294967295) * (Go.bits .and .u64 a1 4294967295))) / 4294967296))) 4294967295) + (IntKind.u64.wrap ((Go.bits .and .u64 a0 4294967295) * (a1 / 4294967296))))) / 4294967296)), IntKind.u64.wrap (a0 * a1))) = some (r1, r2) := h
  clear h
  simp only [Option.some.injEq, Prod.mk.injEq] at H
  obtain ⟨rfl, rfl⟩ := H
  go_enter Try.func110, Try.ntmps110
  go_wp2
  go_ret2
  exact ⟨by first | rfl | (simp; done) | (simp [*]; done), by repeat (first | exact Drawn0.refl _ | apply Drawn0.step)⟩

/-! ### bits_Mul: function 90 -/
def bits_Mul.f (a0 : Int) (a1 : Int) : Option (Int × Int) := (bits_Mul64.f a0 a1).bind fun bt164 => (some (bt164.1, bt164.2))
set_option maxHeartbeats 8000000 in
set_option maxRecDepth 100000 in
theorem bits_Mul.calls (a0 : Int) (a1 : Int) (r1 : Int) (r2 : Int) (w : World) (h : bits_Mul.f a0 a1 = some (r1, r2)) :
    Calls Try.prog 90 #[.int .u64 a0, .int .u64 a1] w fun e w' => e = .returned (.tuple #[.int .u64 r1, .int .u64 r2]) ∧ Drawn0 w w' := by
  have H : ((bits_Mul64.f a0 a1).bind fun bt164 => (some (bt164.1, bt164.2))) = some (r1, r2) := h
  clear h
  replace H := Option.bind_eq_some_iff.mp H
  obtain ⟨⟨t164, t165⟩, A30, H⟩ := H
  replace H : (some (t164, t165)) = some (r1, r2) := H
  have A3 := Aside0.mk A30
  clear A30
  simp only [Option.some.injEq, Prod.mk.injEq] at H
  obtain ⟨rfl, rfl⟩ := H
  go_enter Try.func90, Try.ntmps90
  go_wp2_with (first | ((with_reducible refine gate_callee (f := 110) rfl ?_); refine goesL_ (some 25) rfl rfl Try.func110 (by kernel_rfl) rfl #[.int .u64 a0, .int .u64 a1] rfl (by (try simp only [List.map_toArray, List.map_cons, List.map_nil]); first | done | rfl | (simp only [List.length_drop, List.length_take]; rfl)) ?_; (with_reducible refine (bits_Mul64.calls a0 a1 t164 t165 _ A3.out).mono ?_); rintro e w' ⟨rfl, ⟨nd, rfl⟩⟩; refine ⟨_, rfl, ?_⟩))
  go_ret2
  exact ⟨by first | rfl | (simp; done) | (simp [*]; done), by repeat (first | exact Drawn0.refl _ | apply Drawn0.step)⟩

/-! ### stringslite_HasPrefix: function 111 -/
def stringslite_HasPrefix.f (a0 : ByteArray) (a1 : ByteArray) : Option (Bool) := if (a0.size : Int) ≥ (a1.size : Int) then (if 0 ≤ (a1.size : Int) then (if (a1.size : Int) ≤ (a0.size : Int) then (some ((a0.extract 0 ((a1.size : Int) : Int).toNat).toList == a1.toList)) else (none)) else (none)) else (some false)
set_option maxHeartbeats 8000000 in
set_option maxRecDepth 100000 in
theorem stringslite_HasPrefix.calls (a0 : ByteArray) (a1 : ByteArray) (r : Bool) (w : World) (h : stringslite_HasPrefix.f a0 a1 = some r) :
    Calls Try.prog 111 #[.string a0, .string a1] w fun e w' => e = .returned (.bool r) ∧ Drawn0 w w' := by
  have H : (if (a0.size : Int) ≥ (a1.size : Int) then (if 0 ≤ (a1.size : Int) then (if (a1.size : Int) ≤ (a0.size : Int) then (some ((a0.extract 0 ((a1.size : Int) : Int).toNat).toList == a1.toList)) else (none)) else (none)) else (some false)) = some r := h
  clear h
  by_cases c3 : (a0.size : Int) ≥ (a1.size : Int)
  · rw [if_pos c3] at H
    have c3b0 : decide ((a1.size : Int) ≤ (a0.size : Int)) = true := decide_eq_true c3
    have c3b1 : decide (a1.size ≤ a0.size) = true := decide_eq_true (Int.ofNat_le.mp c3)
    clear c3
    by_cases c4 : 0 ≤ (a1.size : Int)
    · rw [if_pos c4] at H
      have c4b0 := eq_true c4
      have c4b1 : decide (0 ≤ (a1.size : Int)) = true := decide_eq_true c4
      clear c4
      by_cases c5 : (a1.size : Int) ≤ (a0.size : Int)
      · rw [if_pos c5] at H
        have c5b0 := eq_true c5
        have c5b1 : decide ((a1.size : Int) ≤ (a0.size : Int)) = true := decide_eq_true c5
        clear c5
        obtain rfl := Option.some.inj H
        go_enter Try.func111, Try.ntmps111
        go_wp2
        go_ret
        exact ⟨by first | rfl | (simp; done) | (simp [*]; done), by repeat (first | exact Drawn0.refl _ | apply Drawn0.step)⟩
      · rw [if_neg c5] at H
        exact absurd H (by simp)
    · rw [if_neg c4] at H
      exact absurd H (by simp)
  · rw [if_neg c3] at H
    have c3b0 : decide ((a1.size : Int) ≤ (a0.size : Int)) = false := decide_eq_false c3
    have c3b1 : decide (a1.size ≤ a0.size) = false := decide_eq_false (fun h => c3 (Int.ofNat_le.mpr h))
    clear c3
    obtain rfl := Option.some.inj H
    go_enter Try.func111, Try.ntmps111
    go_wp2
    go_ret
    exact ⟨by first | rfl | (simp; done) | (simp [*]; done), by repeat (first | exact Drawn0.refl _ | apply Drawn0.step)⟩

/-! ### strings_HasPrefix: function 91 -/
def strings_HasPrefix.f (a0 : ByteArray) (a1 : ByteArray) : Option (Bool) := (stringslite_HasPrefix.f a0 a1).bind fun t166 => (some t166)
set_option maxHeartbeats 8000000 in
set_option maxRecDepth 100000 in
theorem strings_HasPrefix.calls (a0 : ByteArray) (a1 : ByteArray) (r : Bool) (w : World) (h : strings_HasPrefix.f a0 a1 = some r) :
    Calls Try.prog 91 #[.string a0, .string a1] w fun e w' => e = .returned (.bool r) ∧ Drawn0 w w' := by
  have H : ((stringslite_HasPrefix.f a0 a1).bind fun t166 => (some t166)) = some r := h
  clear h
  replace H := Option.bind_eq_some_iff.mp H
  obtain ⟨t166, A30, H⟩ := H
  replace H : (some t166) = some r := H
  have A3 := Aside0.mk A30
  clear A30
  obtain rfl := Option.some.inj H
  go_enter Try.func91, Try.ntmps91
  go_wp2_with (first | ((with_reducible refine gate_callee (f := 111) rfl ?_); refine goesL_ (some 7) rfl rfl Try.func111 (by kernel_rfl) rfl #[.string a0, .string a1] rfl (by (try simp only [List.map_toArray, List.map_cons, List.map_nil]); first | done | rfl | (simp only [List.length_drop, List.length_take]; rfl)) ?_; (with_reducible refine (stringslite_HasPrefix.calls a0 a1 t166 _ A3.out).mono ?_); rintro e w' ⟨rfl, ⟨nd, rfl⟩⟩; refine ⟨_, rfl, ?_⟩))
  go_ret
  exact ⟨by first | rfl | (simp; done) | (simp [*]; done), by repeat (first | exact Drawn0.refl _ | apply Drawn0.step)⟩

-- NOT PRINTED: function 119 (bytealg_MakeNoZero)

-- NOT PRINTED: function 112 (strings_Builder_grow)

-- NOT PRINTED: function 92 (strings_Builder_Grow)

-- NOT PRINTED: function 93 (strings_Builder_Len)

-- NOT PRINTED: function 80 (strings_Repeat)

-- NOT PRINTED: function 94 (impl_PlanMark_1)

-- NOT PRINTED: function 81 (impl_PlanMark)

/-! ### impl_plan_lines: function 52 (by hand: wip/inj) -/
/-! strings.Builder: WriteString onto a builder whose buffer lies in a row made from B on; every other block that was there stays -/
def Bld (B b : Nat) (p : Value) (bs : List Value) (w : World) : Prop := ∃ v, w.heap[b]? = some (.cells #[p, v] 105 (0, 0)) ∧ w.ownsRow B 5 1 v bs.length bs ∧ v.ownBlock ≠ some b
/-- Every block but b, and but those from B on, stands. -/
def Stands (B b : Nat) (w w' : World) : Prop := w.heap.size ≤ w'.heap.size ∧ w'.os = w.os ∧ w'.tape = w.tape ∧ w'.output = w.output ∧ ∀ k, k < w.heap.size → k < B → k ≠ b → w'.heap[k]? = w.heap[k]?
theorem bld_size : ∃ j, Try.prog.info? 105 = some j ∧ j.size = 2 := by
  have h : (Try.prog.info? 105).map (·.size) = some 2 := by kernel_rfl
  exact Option.map_eq_some_iff.1 h
theorem bld_lies : liesAt Try.prog Try.prog.depth 105 (2 / Try.prog.cellsOf 105) 0 105 1 = true := by kernel_rfl
set_option maxHeartbeats 1000000 in
set_option maxRecDepth 100000 in
theorem Bld.copy_used (b : Nat) (w : World) (h0 : w.cell? ⟨b, 0, none⟩ = some (.pointer (some ⟨b, 0, none⟩))) :
    Calls Try.prog 89 #[.pointer (some ⟨b, 0, none⟩)] w fun e w' => e = .returned (.tuple #[]) ∧ w' = w := by
  obtain ⟨j, hj, _⟩ := bld_size
  go_enter Try.func89, Try.ntmps89
  go_wp2
  rw [Lib.run_neq_ptr_same w _ Try.underlying103 hj]
  go_wp2
  go_end0
  exact ⟨rfl, rfl⟩
set_option maxHeartbeats 1000000 in
set_option maxRecDepth 100000 in
theorem Bld.copy_fresh (b : Nat) (w : World) (h0 : w.cell? ⟨b, 0, none⟩ = some (.pointer none)) (hsh : w.shape? b = some (105, 2)) (hfz : w.frozen? ⟨b, 0, none⟩ = false) :
    Calls Try.prog 89 #[.pointer (some ⟨b, 0, none⟩)] w fun e w' => e = .returned (.tuple #[]) ∧ w' = w.setCell ⟨b, 0, none⟩ (.pointer (some ⟨b, 0, none⟩)) := by
  obtain ⟨j, hj, hjs⟩ := bld_size
  go_enter Try.func89, Try.ntmps89
  go_wp2
  rw [Lib.run_to_unsafe w ⟨b, 0, none⟩ Try.underlying103 Try.underlying134 hj (by rw [hjs]; decide) hsh (Nat.zero_lt_succ 1)]
  simp only [Result.andThen]
  rw [Oper.upon_value]
  go_wp2
  rw [run_callFunc_extern Try.func108 (by kernel_rfl) (by kernel_rfl) (by kernel_rfl) (e := Extern.AbiNoEscape.same) (by kernel_rfl)]
  rw [Lib.run_noEscape]
  simp only [Result.andThen]
  rw [Oper.upon_value]
  go_wp2
  rw [Lib.run_from_unsafe w ⟨b, 0, none⟩ Try.underlying134 Try.underlying103 hj hsh bld_lies]
  simp only [Result.andThen]
  rw [Oper.upon_value]
  go_wp2
  go_end0
  exact ⟨rfl, rfl⟩
theorem setBox {w : World} {b : Nat} {p v : Value} {t : TypeId} (hb : w.heap[b]? = some (.cells #[p, v] t (0, 0))) (q : Value) : (w.setCell ⟨b, 0, none⟩ q).heap[b]? = some (.cells #[q, v] t (0, 0)) := by simp [World.setCell, Array.getElem?_modify, hb]
theorem setBox1 {w : World} {b : Nat} {p v : Value} {t : TypeId} (hb : w.heap[b]? = some (.cells #[p, v] t (0, 0))) (q : Value) : (w.setCell ⟨b, 1, none⟩ q).heap[b]? = some (.cells #[p, q] t (0, 0)) := by simp [World.setCell, Array.getElem?_modify, hb]
theorem Stands.refl (B b : Nat) (w : World) : Stands B b w w := ⟨Nat.le_refl _, rfl, rfl, rfl, fun _ _ _ _ => rfl⟩
theorem Stands.trans {B b : Nat} {x y z : World} (h : Stands B b x y) (k : Stands B b y z) : Stands B b x z := ⟨Nat.le_trans h.1 k.1, k.2.1.trans h.2.1, k.2.2.1.trans h.2.2.1, k.2.2.2.1.trans h.2.2.2.1, fun i h1 h2 h3 => (k.2.2.2.2 i (Nat.lt_of_lt_of_le h1 h.1) h2 h3).trans (h.2.2.2.2 i h1 h2 h3)⟩
theorem Stands.set (B b j : Nat) (w : World) (v : Value) : Stands B b w (w.setCell ⟨b, j, none⟩ v) := ⟨by simp [World.setCell], rfl, rfl, rfl, fun k _ _ hk => Below.heap_setCell _ _ _ _ (fun e => hk (by simp [e]))⟩
theorem Stands.of_grown {B b : Nat} {w w' : World} {row : Option Nat} (hg : w.grownBy w' row) (hr : ∀ k, row = some k → B ≤ k) : Stands B b w w' := ⟨hg.size, hg.os, hg.tape, hg.output, fun k h1 h2 _ => hg.block k h1 (fun e => by have := hr k e.symm; omega)⟩
theorem Bld.copy (B b : Nat) (p : Value) (bs : List Value) (w : World) (hp : p = .pointer none ∨ p = .pointer (some ⟨b, 0, none⟩)) (h : Bld B b p bs w) :
    Calls Try.prog 89 #[.pointer (some ⟨b, 0, none⟩)] w fun e w' => e = .returned (.tuple #[]) ∧ Bld B b (.pointer (some ⟨b, 0, none⟩)) bs w' ∧ Stands B b w w' := by
  obtain ⟨v, hb, hown, hne⟩ := h
  rcases hp with rfl | rfl
  · refine (Bld.copy_fresh b w (by rw [Lib.cell_of_heap hb]; rfl) (by simp [World.shape?, hb]) (Lib.frozen_of_heap hb 0)).mono ?_
    rintro e w' ⟨rfl, rfl⟩
    refine ⟨rfl, ⟨v, setBox hb _, ?_, hne⟩, Stands.set B b 0 w _⟩
    exact hown.kept (row := some b) ⟨rfl, rfl, rfl, by simp [World.setCell], fun k _ hk => Below.heap_setCell _ _ _ _ (fun e => hk (by simp [e]))⟩ (Or.inr hne)
  · refine (Bld.copy_used b w (by rw [Lib.cell_of_heap hb]; rfl)).mono ?_
    rintro e w' ⟨rfl, rfl⟩
    exact ⟨rfl, ⟨v, hb, hown, hne⟩, Stands.refl _ _ _⟩
set_option maxHeartbeats 2000000 in
set_option maxRecDepth 100000 in
theorem Bld.write (B b : Nat) (p : Value) (bs : List Value) (s : ByteArray) (w : World) (hp : p = .pointer none ∨ p = .pointer (some ⟨b, 0, none⟩)) (h : Bld B b p bs w) (hlen : bs.length + s.size ≤ 140737488355328) (hBw : B ≤ w.heap.size) :
    Calls Try.prog 78 #[.pointer (some ⟨b, 0, none⟩), .string s] w fun e w' => e = .returned (.tuple #[.int .i64 s.size, .nilIface]) ∧ Bld B b (.pointer (some ⟨b, 0, none⟩)) (bs ++ Lib.strCells s) w' ∧ Stands B b w w' := by
  obtain ⟨i0, hi, hz⟩ := Option.map_eq_some_iff.1 (show (Try.prog.info? 5).map (fun i => (i.zero, i.size, i.bytes)) = some (some (.int .u8 0), 1, 1) by kernel_rfl)
  simp only [Prod.mk.injEq] at hz
  obtain ⟨hz0, hz1, hz2⟩ := hz
  go_enter Try.func78, Try.ntmps78
  go_wp2_with (go_at_call 89; refine (Bld.copy B b p bs _ hp h).mono ?_)
  rintro e w1 ⟨rfl, h1, hs1⟩
  obtain ⟨v, hbk, hown, hne⟩ := h1
  have c0 : w1.cell? ⟨b, 0, none⟩ = some (.pointer (some ⟨b, 0, none⟩)) := by rw [Lib.cell_of_heap hbk]; rfl
  have c1 : w1.cell? ⟨b, 1, none⟩ = some v := by rw [Lib.cell_of_heap hbk]; rfl
  go_wp2_with (at_builtin; refine Lib.wpList_append_own_string _ rfl _ _ 36 9 rfl B 5 i0 Try.underlying36 Try.underlying9 hi hz0 hz1 hz2 _ _ _ rfl hown s rfl ?c3 ?c4 ?c5 ?_)
  case c3 => unfold maxLen; omega
  case c4 => omega
  case c5 => have := hs1.1; omega
  intro v' w2 hown' hgrow _
  have hlt : b < w1.heap.size := (Array.getElem?_eq_some_iff.1 hbk).1
  have hb2 : w2.heap[b]? = some (.cells #[.pointer (some ⟨b, 0, none⟩), v] 105 (0, 0)) := by
    rw [hgrow.block b hlt (fun e => hne e.symm)]
    exact hbk
  have d0 : w2.cell? ⟨b, 0, none⟩ = some (.pointer (some ⟨b, 0, none⟩)) := by rw [Lib.cell_of_heap hb2]; rfl
  have d1 : w2.cell? ⟨b, 1, none⟩ = some v := by rw [Lib.cell_of_heap hb2]; rfl
  have f1 : w2.frozen? ⟨b, 1, none⟩ = false := Lib.frozen_of_heap hb2 1
  obtain ⟨ao, n', cap, rfl⟩ : ∃ ao n' cap, v' = .slice ao n' cap := by
    rcases hown'.2 with ⟨hv, _⟩ | ⟨g, cap, cur, hv, _⟩
    · exact ⟨_, _, _, hv⟩
    · exact ⟨_, _, _, hv⟩
  go_wp2
  go_ret2
  have hne' := Lib.ownBlock_ne hown' hb2 (by decide)
  refine ⟨rfl, ⟨_, setBox1 hb2 _, ?_, hne'⟩, hs1.trans ((Stands.of_grown hgrow (fun k hk => ?_)).trans (Stands.set B b 1 w2 _))⟩
  · have := hown'.kept (w' := w2.setCell ⟨b, 1, none⟩ (.slice ao n' cap)) (row := some b) ⟨rfl, rfl, rfl, by simp [World.setCell], fun k _ hk => Below.heap_setCell _ _ _ _ (fun e => hk (by simp [e]))⟩ (Or.inr hne')
    simpa [Lib.strCells_length] using this
  · exact own_base hown k hk
section
variable {n : Nat} {P : Program} {ops : Array Oper} {Q : Exit → Act → World → Prop} {md : Region.Mode} {l : Nat}
theorem uponIn_round (o : Oper) (a : Act) (K : Act → World → Prop) (r : Result Next) (h : o.uponIn Fence.wide n P a K Q r) : o.uponIn (Fence.wide.inRound l) n P a K Q r := by
  cases r with
  | ok x w => cases x <;> exact h
  | halt x w => cases x <;> exact h
theorem wpOpIn_round (hd : ∀ (i : Nat) (o : Oper), ops[i]? = some o → ∀ c, o.op ≠ .defer c) {i : Nat} {K : Act → World → Prop} {a : Act} {w : World} (h : wpOpIn Fence.wide n P ops Q i K a w) : wpOpIn (Fence.wide.inRound l) n P ops Q i K a w := by
  unfold wpOpIn at *
  split
  · rename_i ho; simpa [ho] using h
  · rename_i o ho
    simp only [ho] at h
    split
    · rename_i hw
      simp only [hw, if_true] at h
      refine ⟨fun _ _ => trivial, ?_⟩
      have h2 := h.2
      rw [Oper.semAt_eq _ _ _ (hd i o ho)] at h2 ⊢
      exact uponIn_round o a K _ h2
    · rename_i hw
      simp only [hw] at h
      exact ⟨fun _ _ => trivial, h.2⟩
theorem wpAnyIn_round (hd : ∀ (i : Nat) (o : Oper), ops[i]? = some o → ∀ c, o.op ≠ .defer c) : ∀ (fuel : Nat) (listed : Array Bool) (a : Act) (w : World), wpAnyIn Fence.wide n P md ops Q fuel listed a w → wpAnyIn (Fence.wide.inRound l) n P md ops Q fuel listed a w
  | 0, _, _, _, h => h
  | fuel + 1, _, _, _, h => ⟨h.1, fun i hi => wpOpIn_mono (fun a' w' h' => wpAnyIn_round hd fuel _ a' w' h') (wpOpIn_round hd (h.2 i hi))⟩
def noDefer (ops : Array Oper) : Bool := ops.all fun o => match o.op with
  | .defer _ => false
  | _ => true
theorem noDefer_spec {ops : Array Oper} (h : noDefer ops = true) : ∀ (i : Nat) (o : Oper), ops[i]? = some o → ∀ c, o.op ≠ .defer c := by
  intro i o ho c hc
  have hi := (Array.getElem?_eq_some_iff.1 ho)
  have := Array.all_eq_true.1 h i hi.1
  rw [hi.2, hc] at this
  cases this
theorem wpIn_region_round {id : Nat} {a : Act} {w : World} (hm : P.follows .mixedOrders = true) (hd : noDefer ops = true)
    (h : wpAnyIn Fence.wide n P .any ops Q ops.size (Array.replicate ops.size false) a w.drew) : (Code.region id ops true).wpIn (Fence.wide.inRound l) n P Q a w :=
  wpIn_region_any hm (wpAnyIn_round (noDefer_spec hd) _ _ _ _ h)
end
/-- A row of bytes at block b: its first cells. -/
def RowAt (W : World) (b cols : Nat) (row : Nat → Int) : Prop := ∃ cs fz, W.heap[b]? = some (.cells cs 5 fz) ∧ cs.size ≤ fz.1 ∧ cols ≤ cs.size ∧ ∀ x, x < cols → cs[x]? = some (.int .u8 (row x))
def outerOf (n i cols : Nat) (bl cp : Nat → Nat) : List Value := (List.range n).map fun y => if y < i then .slice (some ⟨bl y, 0, none⟩) cols (cp y) else .slice none 0 0
structure Grid (B : Nat) (W : World) (go n cols i : Nat) (bl cp : Nat → Nat) (G : Nat → Nat → Int) : Prop where
  outer : W.heap[go]? = some (.cells (outerOf n i cols bl cp).toArray 36 (0, 0))
  row : ∀ y, y < i → RowAt W (bl y) cols (G y)
  ge : ∀ y, y < i → B ≤ bl y
  inj : ∀ y y', y < i → y' < i → bl y = bl y' → y = y'
theorem RowAt.same {W W' : World} {b cols : Nat} {row : Nat → Int} (h : RowAt W b cols row) (hs : W'.heap[b]? = W.heap[b]?) : RowAt W' b cols row := by
  obtain ⟨cs, fz, h1, h2⟩ := h
  exact ⟨cs, fz, hs.trans h1, h2⟩
theorem RowAt.lt {W : World} {b cols : Nat} {row : Nat → Int} (h : RowAt W b cols row) : b < W.heap.size := by
  obtain ⟨cs, fz, h1, h2⟩ := h
  exact (Array.getElem?_eq_some_iff.1 h1).1
theorem RowAt.cell {W : World} {b cols : Nat} {row : Nat → Int} (h : RowAt W b cols row) (x : Nat) (hx : x < cols) : W.cell? ⟨b, x, none⟩ = some (.int .u8 (row x)) := by
  obtain ⟨cs, fz, h1, _, _, h2⟩ := h
  simp [World.cell?, h1, h2 x hx]
theorem RowAt.frozen {W : World} {b cols : Nat} {row : Nat → Int} (h : RowAt W b cols row) (x : Nat) (hx : x < cols) : W.frozen? ⟨b, x, none⟩ = false := by
  obtain ⟨cs, fz, h1, h3, h4, h2⟩ := h
  simp [World.frozen?, h1]
  omega
theorem RowAt.put {W : World} {b cols : Nat} {row : Nat → Int} (h : RowAt W b cols row) (x : Nat) (v : Int) : RowAt (W.setCell ⟨b, x, none⟩ (.int .u8 v)) b cols (fun k => if k = x then v else row k) := by
  obtain ⟨cs, fz, h1, h3, h4, h2⟩ := h
  refine ⟨cs.setIfInBounds x (.int .u8 v), fz, ?_, by simpa using h3, by simpa using h4, fun k hk => ?_⟩
  · simp [World.setCell, Array.getElem?_modify, h1]
  · rw [Array.getElem?_setIfInBounds]
    by_cases hkx : x = k
    · subst hkx
      simp
      omega
    · simp only [if_neg hkx]
      rw [h2 k hk]
      simp [Ne.symm hkx]
theorem RowAt.ne {W : World} {b cols : Nat} {row : Nat → Int} (h : RowAt W b cols row) {g t : Nat} {cs : Array Value} (hg : W.heap[g]? = some (.cells cs t (0, 0))) (ht : 5 ≠ t) : b ≠ g := by
  obtain ⟨cs', fz, h1, _⟩ := h
  rintro rfl
  rw [h1] at hg
  injection hg with hg
  injection hg with _ hg
  exact ht hg
theorem Grid.same {B : Nat} {W W' : World} {go n cols i : Nat} {bl cp : Nat → Nat} {G : Nat → Nat → Int} (h : Grid B W go n cols i bl cp G) (hs : ∀ k cs t fz, W.heap[k]? = some (.cells cs t fz) → (t = 36 ∨ t = 5) → (k = go ∨ ∃ y, y < i ∧ k = bl y) → W'.heap[k]? = W.heap[k]?) : Grid B W' go n cols i bl cp G :=
  ⟨(hs go _ _ _ h.outer (.inl rfl) (.inl rfl)).trans h.outer, fun y hy => (h.row y hy).same (by
    obtain ⟨cs, fz, h1, _⟩ := h.row y hy
    exact hs _ _ _ _ h1 (.inr rfl) (.inr ⟨y, hy, rfl⟩)), h.ge, h.inj⟩
theorem outer_get (n i cols : Nat) (bl cp : Nat → Nat) (y : Nat) (hy : y < n) : (outerOf n i cols bl cp)[y]? = some (if y < i then .slice (some ⟨bl y, 0, none⟩) cols (cp y) else .slice none 0 0) := by
  simp [outerOf, hy]
theorem outer_length (n i cols : Nat) (bl cp : Nat → Nat) : (outerOf n i cols bl cp).length = n := by simp [outerOf]
theorem Grid.cell {B : Nat} {W : World} {go n cols i : Nat} {bl cp : Nat → Nat} {G : Nat → Nat → Int} (h : Grid B W go n cols i bl cp G) (y : Nat) (hy : y < n) : W.cell? ⟨go, y, none⟩ = some (if y < i then .slice (some ⟨bl y, 0, none⟩) cols (cp y) else .slice none 0 0) := by
  rw [(blk_cell h.outer y)]
  simp [outer_get _ _ _ _ _ y hy]
/-- One row more. -/
theorem Grid.next {B : Nat} {W : World} {go n cols i : Nat} {bl cp : Nat → Nat} {G : Nat → Nat → Int} (h : Grid B W go n cols i bl cp G) (hi : i < n) (b c : Nat) (row : Nat → Int) (hb : B ≤ b) (hr : RowAt W b cols row) (hnew : ∀ y, y < i → bl y ≠ b) :
    Grid B (W.setCell ⟨go, i, none⟩ (.slice (some ⟨b, 0, none⟩) cols c)) go n cols (i + 1) (fun y => if y = i then b else bl y) (fun y => if y = i then c else cp y) (fun y => if y = i then row else G y) := by
  have hne : b ≠ go := hr.ne h.outer (by decide)
  refine ⟨?_, fun y hy => ?_, fun y hy => ?_, fun y y' hy hy' e => ?_⟩
  · have e : (outerOf n (i + 1) cols (fun y => if y = i then b else bl y) (fun y => if y = i then c else cp y)).toArray = (outerOf n i cols bl cp).toArray.setIfInBounds i (.slice (some ⟨b, 0, none⟩) cols c) := by
      apply Array.ext'
      simp only [Array.toList_setIfInBounds]
      refine List.ext_getElem? (fun k => ?_)
      rw [List.getElem?_set]
      by_cases hk : k < n
      · rw [outer_get _ _ _ _ _ k hk, outer_get _ _ _ _ _ k hk, outer_length]
        by_cases hki : k = i
        · subst hki; simp [hi]
        · by_cases hk2 : k < i
          · simp [hki, Ne.symm hki, hk2, show k < i + 1 by omega]
          · simp [Ne.symm hki, hk2, show ¬ k < i + 1 by omega]
      · have hki : i ≠ k := by omega
        rw [List.getElem?_eq_none (by rw [outer_length]; omega)]
        simp only [if_neg hki]
        rw [List.getElem?_eq_none (by rw [outer_length]; omega)]
    rw [e]
    simp [World.setCell, Array.getElem?_modify, h.outer]
  · by_cases hy2 : y = i
    · subst hy2
      simp only [if_true]
      exact hr.same (Below.heap_setCell _ _ _ _ hne)
    · have hy3 : y < i := by omega
      simp only [if_neg hy2]
      exact (h.row y hy3).same (Below.heap_setCell _ _ _ _ ((h.row y hy3).ne h.outer (by decide)))
  · by_cases hy2 : y = i
    · simp [hy2, hb]
    · simp only [if_neg hy2]
      exact h.ge y (by omega)
  · by_cases hy2 : y = i
    · by_cases hy3 : y' = i
      · omega
      · simp only [if_pos hy2, if_neg hy3] at e
        exact absurd e.symm (hnew y' (by omega))
    · by_cases hy3 : y' = i
      · simp only [if_neg hy2, if_pos hy3] at e
        exact absurd e (hnew y (by omega))
      · simp only [if_neg hy2, if_neg hy3] at e
        exact h.inj y y' (by omega) (by omega) e
/-- A byte written. -/
theorem Grid.put {B : Nat} {W : World} {go n cols i : Nat} {bl cp : Nat → Nat} {G : Nat → Nat → Int} (h : Grid B W go n cols i bl cp G) (y x : Nat) (hy : y < i) (v : Int) :
    Grid B (W.setCell ⟨bl y, x, none⟩ (.int .u8 v)) go n cols i bl cp (fun y' x' => if y' = y ∧ x' = x then v else G y' x') := by
  refine ⟨?_, fun y' hy' => ?_, h.ge, h.inj⟩
  · rw [Below.heap_setCell _ _ _ _ (Ne.symm ((h.row y hy).ne h.outer (by decide)))]
    exact h.outer
  · by_cases hyy : y' = y
    · subst hyy
      have := (h.row y' hy).put x v
      simpa using this
    · have := (h.row y' hy').same (Below.heap_setCell W ⟨bl y, x, none⟩ (.int .u8 v) _ (fun e => hyy (h.inj y' y hy' hy e)))
      simpa [hyy] using this
structure LS (w0 w : World) (g : Nat) (s0 : List S44) (s1 s2 s3 s4 s5 : Int) (gp gl go n cols i : Nat) (bl cp : Nat → Nat) (G : Nat → Nat → Int) (W : World) : Prop where
  b : Below w0.heap.size w0 W
  k : KeepBut w W g none
  z : w0.heap.size ≤ w.heap.size
  s : IsS79 w0 W g s0 s1 s2 s3 s4 s5
  p : W.heap[gp]? = some (.cells #[.pointer (some ⟨g, 0, none⟩)] 67 (0, 0))
  l : W.heap[gl]? = some (.cells #[.slice (some ⟨go, 0, none⟩) n n] 73 (0, 0))
  g : Grid w.heap.size W go n cols i bl cp G
  lo : w.heap.size ≤ go
section
variable {w0 w : World} {g : Nat} {s0 : List S44} {s1 s2 s3 s4 s5 : Int} {gp gl go n cols i : Nat} {bl cp : Nat → Nat} {G : Nat → Nat → Int} {W W' : World}
theorem LS.below (h : LS w0 w g s0 s1 s2 s3 s4 s5 gp gl go n cols i bl cp G W) (hb : Below W.heap.size W W') : LS w0 w g s0 s1 s2 s3 s4 s5 gp gl go n cols i bl cp G W' :=
  ⟨below_step h.b hb, h.k.trans (KeepBut.of_below hb g none) (.inl rfl), h.z, h.s.below hb, blk_below h.p hb, blk_below h.l hb, h.g.same (fun k cs t fz hk _ _ => hb.block k (Array.getElem?_eq_some_iff.1 hk).1), h.lo⟩
theorem LS.cellp (h : LS w0 w g s0 s1 s2 s3 s4 s5 gp gl go n cols i bl cp G W) : W.cell? ⟨gp, 0, none⟩ = some (.pointer (some ⟨g, 0, none⟩)) := (blk_cell h.p 0).trans rfl
theorem LS.celll (h : LS w0 w g s0 s1 s2 s3 s4 s5 gp gl go n cols i bl cp G W) : W.cell? ⟨gl, 0, none⟩ = some (.slice (some ⟨go, 0, none⟩) n n) := (blk_cell h.l 0).trans rfl
theorem LS.cell4 (h : LS w0 w g s0 s1 s2 s3 s4 s5 gp gl go n cols i bl cp G W) : W.cell? ⟨g, 4, none⟩ = some (.int .i64 s4) := by
  obtain ⟨A0, c0, hb, _⟩ := h.s
  exact (blk_cell hb 4).trans rfl
theorem LS.next (h : LS w0 w g s0 s1 s2 s3 s4 s5 gp gl go n cols i bl cp G W) (hi : i < n) (b c : Nat) (row : Nat → Int) (hb : w.heap.size ≤ b) (hr : RowAt W b cols row) (hnew : ∀ y, y < i → bl y ≠ b) :
    LS w0 w g s0 s1 s2 s3 s4 s5 gp gl go n cols (i + 1) (fun y => if y = i then b else bl y) (fun y => if y = i then c else cp y) (fun y => if y = i then row else G y) (W.setCell ⟨go, i, none⟩ (.slice (some ⟨b, 0, none⟩) cols c)) :=
  ⟨below_set h.b (Nat.le_trans h.z h.lo), keep_far h.k h.lo _, h.z, h.s.far (h.s.ne_blk h.g.outer (by decide)) _, by rw [Below.heap_setCell _ _ _ _ (blk_ne h.p h.g.outer (by decide))]; exact h.p, by rw [Below.heap_setCell _ _ _ _ (blk_ne h.l h.g.outer (by decide))]; exact h.l, h.g.next hi b c row hb hr hnew, h.lo⟩
theorem LS.put (h : LS w0 w g s0 s1 s2 s3 s4 s5 gp gl go n cols i bl cp G W) (y x : Nat) (hy : y < i) (v : Int) :
    LS w0 w g s0 s1 s2 s3 s4 s5 gp gl go n cols i bl cp (fun y' x' => if y' = y ∧ x' = x then v else G y' x') (W.setCell ⟨bl y, x, none⟩ (.int .u8 v)) := by
  have hr := h.g.row y hy
  obtain ⟨A0, c0, hb, _⟩ := h.s
  exact ⟨below_set h.b (Nat.le_trans h.z (h.g.ge y hy)), keep_far h.k (h.g.ge y hy) _, h.z, h.s.far (Ne.symm (hr.ne hb (by decide))) _, by rw [Below.heap_setCell _ _ _ _ (Ne.symm (hr.ne h.p (by decide)))]; exact h.p, by rw [Below.heap_setCell _ _ _ _ (Ne.symm (hr.ne h.l (by decide)))]; exact h.l, h.g.put y x hy v, h.lo⟩
theorem LS.grown (h : LS w0 w g s0 s1 s2 s3 s4 s5 gp gl go n cols i bl cp G W) {row : Option Nat} (hg : W.grownBy W' row) (hr : ∀ r, row = some r → w.heap.size ≤ r ∧ ∃ o, W.heap[r]? = some o ∧ o.isCells = false) : LS w0 w g s0 s1 s2 s3 s4 s5 gp gl go n cols i bl cp G W' := by
  have hne : ∀ (k : Nat) (cs : Array Value) (t : TypeId) (fz : Nat × Nat), W.heap[k]? = some (.cells cs t fz) → some k ≠ row := fun k cs t fz hk e => by
    obtain ⟨_, o, ho, hc⟩ := hr k e.symm
    rw [hk] at ho
    cases ho
    cases hc
  obtain ⟨A0, c0, hb, _⟩ := h.s
  exact ⟨h.b.grown hg (Nat.le_trans h.z h.k.1) (fun k e => Nat.le_trans h.z (hr k e).1), h.k.trans ⟨hg.size, fun i hi _ hr' => hg.block i hi hr'⟩ (by
    cases row with
    | none => exact .inl rfl
    | some r => exact .inr ⟨r, rfl, (hr r rfl).1⟩), h.z, h.s.grown hg (hne _ _ _ _ hb), blk_grown h.p hg (hne _ _ _ _ h.p), blk_grown h.l hg (hne _ _ _ _ h.l), h.g.same (fun k cs t fz hk _ _ => hg.block k (Array.getElem?_eq_some_iff.1 hk).1 (hne _ _ _ _ hk)), h.lo⟩
/-- What the square's call may turn: the plan's own block, which holds the plan still. -/
theorem LS.kept (h : LS w0 w g s0 s1 s2 s3 s4 s5 gp gl go n cols i bl cp G W) (hb : Below w0.heap.size w0 W') (hs : IsS79 w0 W' g s0 s1 s2 s3 s4 s5) (hk : KeepBut W W' g none) : LS w0 w g s0 s1 s2 s3 s4 s5 gp gl go n cols i bl cp G W' := by
  obtain ⟨A0, c0, hgb, _⟩ := h.s
  have e : ∀ (k : Nat) (cs : Array Value) (t : TypeId) (fz : Nat × Nat), W.heap[k]? = some (.cells cs t fz) → t ≠ 79 → W'.heap[k]? = W.heap[k]? := fun k cs t fz h1 ht => hk.2 k (Array.getElem?_eq_some_iff.1 h1).1 (fun e => by
    subst e
    rw [hgb] at h1
    injection h1 with h1
    injection h1 with _ h1
    exact ht h1.symm) (by simp)
  exact ⟨hb, h.k.trans hk (.inl rfl), h.z, hs, (e _ _ _ _ h.p (by decide)).trans h.p, (e _ _ _ _ h.l (by decide)).trans h.l, h.g.same (fun k cs t fz h1 ht _ => e _ _ _ _ h1 (by rcases ht with rfl | rfl <;> decide)), h.lo⟩
theorem LS.keepsFrom (h : LS w0 w g s0 s1 s2 s3 s4 s5 gp gl go n cols i bl cp G W) (hk : KeepBut W W' g none) (B : Nat) : KeepsFrom B W W' := by
  obtain ⟨A0, c0, hgb, _⟩ := h.s
  exact ⟨hk.1, fun k o _ hko hc => (hk.2 k (Array.getElem?_eq_some_iff.1 hko).1 (fun e => by
    subst e
    rw [hgb] at hko
    cases hko
    cases hc) (by simp)).trans hko⟩
theorem LS.belows (h : Below w0.heap.size w0 W) (h' : Below w0.heap.size w0 W') (hk : W.heap.size ≤ W'.heap.size) : Below w0.heap.size W W' :=
  ⟨h'.os.trans h.os.symm, h'.tape.trans h.tape.symm, h'.output.trans h.output.symm, hk, fun i hi => (h'.block i hi).trans (h.block i hi).symm⟩
end
theorem bytes_below (W : World) (s : ByteArray) : Below W.heap.size W (Lib.bytesWorld W 5 s) := by
  refine ⟨?_, ?_, ?_, by rw [Lib.bytesWorld_size]; omega, fun i hi => Lib.bytesWorld_at_old W 5 s i hi⟩ <;> simp [Lib.bytesWorld, World.freeze, World.alloc, World.drew, -World.alloc_eq, -World.drew_eq]
theorem bytes_row (W : World) (s : ByteArray) (row : Nat → Int) (hr : ∀ x, x < s.size → row x = ((s.data.toList.getD x 0).toNat : Int)) : RowAt (Lib.bytesWorld W 5 s) W.heap.size s.size row := by
  refine ⟨_, _, Lib.bytesWorld_at_new W 5 s, Nat.le_refl _, by simp [Lib.bytesCells], fun x hx => ?_⟩
  have h := Lib.bytesWorld_cell W 5 s x hx
  rw [hr x hx]
  rw [← h]
  simp [World.cell?, Lib.bytesWorld_at_new]
/-- The byte that a plan shows at a place: the first mark's letter, or a dot. -/
def pl_at (X Y : S44 → Int) (l : List S44) (y x : Nat) : Int := match l.find? (fun m => decide (Y m = y) && decide (X m = x)) with
  | some m => bt m.f0 0
  | none => 46
theorem pl_at_cons (X Y : S44 → Int) (m : S44) (l : List S44) (y x : Nat) : pl_at X Y (m :: l) y x = if Y m = y ∧ X m = x then bt m.f0 0 else pl_at X Y l y x := by
  unfold pl_at
  rw [List.find?_cons]
  by_cases h1 : Y m = y <;> by_cases h2 : X m = x <;> simp [h1, h2]
theorem pl_at_put (X Y : S44 → Int) (m : S44) (l : List S44) (yn xn : Nat) (hx : X m = xn) (hy : Y m = yn) : (fun y x => if y = yn ∧ x = xn then bt m.f0 0 else pl_at X Y l y x) = pl_at X Y (m :: l) := by
  funext y x
  rw [pl_at_cons, hx, hy]
  by_cases h1 : y = yn <;> by_cases h2 : x = xn
  · subst h1; subst h2; simp
  · have : ¬ (xn : Int) = (x : Int) := by omega
    simp [h2, this]
  · have : ¬ (yn : Int) = (y : Int) := by omega
    simp [h1, this]
  · have : ¬ (yn : Int) = (y : Int) := by omega
    simp [h1, this]
/-- One round of the marks: the letter is written. -/
theorem LS.round {w0 w : World} {g : Nat} {s0 : List S44} {s1 s2 s3 s4 s5 : Int} {gp gl go n cols : Nat} {bl cp : Nat → Nat} {X Y : S44 → Int} {l : List S44} {W w1 : World} {Bs : Nat} {vb : Value} (m : S44) (xn yn : Nat)
    (h : LS w0 w g s0 s1 s2 s3 s4 s5 gp gl go n cols n bl cp (pl_at X Y l) W) (h1 : LS w0 w g s0 s1 s2 s3 s4 s5 gp gl go n cols n bl cp (pl_at X Y l) w1) (hk : KeepBut W w1 g none) (hb : Boxed W Bs 26 vb) (hy : yn < n) (hxm : X m = xn) (hym : Y m = yn) (B : Nat) :
    KeepsFrom B W (w1.setCell ⟨bl yn, xn, none⟩ (.int .u8 (bt m.f0 0))).drew ∧ (Below w0.heap.size W (w1.setCell ⟨bl yn, xn, none⟩ (.int .u8 (bt m.f0 0))).drew ∧ (w1.setCell ⟨bl yn, xn, none⟩ (.int .u8 (bt m.f0 0))).drew.heap[Bs]? = W.heap[Bs]?) ∧
      LS w0 w g s0 s1 s2 s3 s4 s5 gp gl go n cols n bl cp (pl_at X Y (m :: l)) (w1.setCell ⟨bl yn, xn, none⟩ (.int .u8 (bt m.f0 0))).drew ∧ Boxed (w1.setCell ⟨bl yn, xn, none⟩ (.int .u8 (bt m.f0 0))).drew Bs 26 vb := by
  have hf := (h1.put yn xn hy (bt m.f0 0)).below (below_drew1 (Below.refl _ _))
  rw [pl_at_put X Y m l yn xn hxm hym] at hf
  have hbs : W.heap[Bs]? = some (.cells #[vb] 26 (0, 0)) := hb
  obtain ⟨A0, c0, hgb, _⟩ := h.s
  have e1 : w1.heap[Bs]? = some (.cells #[vb] 26 (0, 0)) := (hk.2 Bs (blk_lt hbs) (blk_ne hbs hgb (by decide)) (by simp)).trans hbs
  have e2 : (w1.setCell ⟨bl yn, xn, none⟩ (.int .u8 (bt m.f0 0))).drew.heap[Bs]? = some (.cells #[vb] 26 (0, 0)) := blk_far e1 (p := ⟨bl yn, xn, none⟩) (Ne.symm ((h1.g.row yn hy).ne e1 (by decide))) _
  have sz : W.heap.size ≤ (w1.setCell ⟨bl yn, xn, none⟩ (.int .u8 (bt m.f0 0))).drew.heap.size := Nat.le_trans hk.1 (by simp [World.setCell])
  exact ⟨(h.keepsFrom hk B).trans (((KeepsOthers.setCell w1 _ _).trans (KeepsOthers.drew _)).from B), ⟨LS.belows h.b hf.b sz, e2.trans hbs.symm⟩, hf, e2⟩
section
attribute [local go_sem] Oper.semAt_some
/-! slices.Backward over structs of two whole numbers: the iterator's contract; a slice in memory, read from its end -/
def bk44.at {V : S44 → Prop} (l : List S44) (hV : ∀ m, m ∈ l → V m) (d : {m : S44 // V m}) (j : Nat) : Nat × {m : S44 // V m} := (l.length - 1 - j, if h : l.length - 1 - j < l.length then ⟨l[l.length - 1 - j], hV _ (List.getElem_mem h)⟩ else d)
/-- What a round keeps: what lay below n₀, and the iterator's own box. -/
def bk44.Keep (n₀ Bs : Nat) (W W' : World) : Prop := Below n₀ W W' ∧ W'.heap[Bs]? = W.heap[Bs]?
theorem bk44.keep_t {n₀ Bs : Nat} {A B C : World} (h : bk44.Keep n₀ Bs A B) (k : bk44.Keep n₀ Bs B C) : bk44.Keep n₀ Bs A C := ⟨h.1.trans k.1, k.2.trans h.2⟩
theorem bk44.keep_b {n₀ Bs : Nat} {w : World} (hn : n₀ ≤ w.heap.size) (hb : Bs < w.heap.size) (W : World) (l : Nat) (o o' : Obj) (hl : w.heap.size ≤ l) (h : W.heap[l]? = some o) (hc : o.isCells = false) (hw : o.isWalk = false) : bk44.Keep n₀ Bs W (W.putObj l o') := ⟨belowK_b hn W l o o' hl h hc hw, World.putObj_heap_other (fun e => by omega)⟩
def bk44.upto {V : S44 → Prop} (l : List S44) (hV : ∀ m, m ∈ l → V m) (d : {m : S44 // V m}) (k : Nat) : List (Nat × {m : S44 // V m}) := (List.range k).map (bk44.at l hV d)
theorem bk44.upto_succ {V : S44 → Prop} (l : List S44) (hV : ∀ m, m ∈ l → V m) (d : {m : S44 // V m}) (k : Nat) : bk44.upto l hV d (k + 1) = bk44.upto l hV d k ++ [bk44.at l hV d k] := by simp [bk44.upto, List.range_succ]
theorem bk44.upto_length {V : S44 → Prop} (l : List S44) (hV : ∀ m, m ∈ l → V m) (d : {m : S44 // V m}) (k : Nat) : (bk44.upto l hV d k).length = k := by simp [bk44.upto]
def bk44.sn {V : S44 → Prop} (x : Nat × {m : S44 // V m}) : S44 := x.2.1
theorem bk44.all {V : S44 → Prop} (l : List S44) (hV : ∀ m, m ∈ l → V m) (d : {m : S44 // V m}) : ((bk44.upto l hV d l.length).map bk44.sn).reverse = l := by
  refine List.ext_getElem (by simp [bk44.upto]) (fun i h1 h2 => ?_)
  have hj : l.length - 1 - (l.length - 1 - i) = i := by omega
  simp [bk44.upto, bk44.at, bk44.sn, hj, h2]
set_option maxRecDepth 100000 in
set_option maxHeartbeats 4000000 in
theorem bk44.loop_in (F : Fence) (n : Nat) (h8 : F.fn 94) (hro : F.round = none) (hn : 1 ≤ n) (l Bs n₀ : Nat) (A0 : Option Addr) (c0 : Nat) (l0 : List S44) {V : S44 → Prop} (hV : ∀ m, m ∈ l0 → V m) (d : {m : S44 // V m}) (w : World) (hr0 : Kd.C k44 w A0 l0.length l0) (hn₀ : w.heap.size ≤ n₀) (J Jx : List (Nat × {m : S44 // V m}) → World → Prop)
    (hY : ∀ pre x W, J pre W → pre.length < l0.length → YieldAt F (n - 1) Try.prog l #[.int .i64 (x.1 : Int), .agg #[.string x.2.1.f0, .int .i64 x.2.1.f1, .int .i64 x.2.1.f2]] W fun e W' =>
      (e = .returned (.bool true) ∧ J (pre ++ [x]) W' ∧ bk44.Keep n₀ Bs W W') ∨ (e = .returned (.bool false) ∧ Jx (pre ++ [x]) W'))
    (W : World) (hwW : Below w.heap.size w W) (hB0 : W.cell? ⟨Bs, 0, none⟩ = some (.slice A0 l0.length c0)) (h0 : J [] W) :
    CallsIn F n Try.prog 94 #[.func (.yield l) #[] #[], .pointer (some ⟨Bs, 0, none⟩)] W fun e W' => (∃ v, e = .returned v) ∧
      ((∃ ys, ys = bk44.upto l0 hV d l0.length ∧ J ys W') ∨ (∃ pre, (∃ k, k ≤ l0.length ∧ pre = bk44.upto l0 hV d k) ∧ Jx pre W')) := by
  have hm := hr0.2.1
  refine callsIn_of_wp Try.func94 rfl h8 ?_ hro
  simp only [Try.ntmps94, List.size_toArray, List.length_cons, List.length_nil, Nat.reduceAdd, Nat.reduceSub, Array.replicate_succ, Array.replicate_zero, List.push_toArray, List.append_toArray, List.nil_append, List.cons_append]
  gi_wp2
  gi_loopw [3] (fun i wr => ∃ k : Nat, k ≤ l0.length ∧ i = .int .i64 ((l0.length : Int) - 1 - (k : Int)) ∧ J (bk44.upto l0 hV d k) wr ∧ bk44.Keep n₀ Bs W wr)
    (fun i _ => (intOf i + 1).toNat)
  case atStart => exact ⟨0, Nat.zero_le _, by simp, h0, Below.refl _ _, rfl⟩
  case round =>
    obtain ⟨k, hk, rfl, hJs, hnx⟩ := hrel
    have hBr := (World.cell?_of_block (a := ⟨Bs, 0, none⟩) hnx.2).trans hB0
    by_cases hlt : k < l0.length
    · obtain ⟨fn, tmps, assign, body, hy, hR⟩ := hY _ (bk44.at l0 hV d k) wr hJs (by rw [bk44.upto_length]; exact hlt)
      obtain ⟨ad, ead, hx0, hx1, hx2⟩ := at_T44 (Kd.C_below hr0 (hwW.trans (hnx.1.mono hn₀))) ((l0.length : Int) - 1 - (k : Int)) (by omega) (by omega)
      have hat : rd_T44 l0 ((l0.length : Int) - 1 - (k : Int)) = (bk44.at l0 hV d k).2.1 := by
        simp only [rd_T44, bk44.at]
        rw [dif_pos (show l0.length - 1 - k < l0.length by omega), show ((l0.length : Int) - 1 - (k : Int)).toNat = l0.length - 1 - k by omega]
        simp [List.getD_eq_getElem?_getD, List.getElem?_eq_getElem (show l0.length - 1 - k < l0.length by omega)]
      have hat1 : ((bk44.at l0 hV d k).1 : Int) = (l0.length : Int) - 1 - (k : Int) := by
        simp only [bk44.at]
        omega
      have et : ((l0.length : Int) - 1 - (k : Int)).toNat = l0.length - 1 - k := by omega
      rw [hat, et] at hx0 hx1 hx2
      clear et
      rw [hat1] at hy
      obtain ⟨x, hx⟩ : ∃ x, x = bk44.at l0 hV d k := ⟨_, rfl⟩
      rw [← hx] at hx0 hx1 hx2 hy hR
      have HX := Aside0.mk hx
      clear hx hat hat1
      cases ead
      try dsimp only at hy
      gi_wp2
      refine hR.mono ?_
      rintro e W3 (⟨rfl, hJ3, hk3⟩ | ⟨rfl, hJx3⟩)
      · gi_wp2
        go_roundw
        case rel => exact ⟨k + 1, by omega, by simp; omega, by rw [bk44.upto_succ, ← HX.out]; exact hJ3, bk44.keep_t hnx hk3⟩
        case measure => simp [intOf]; omega
      · gi_wp2
        refine bodyPost_ret (results_none rfl _ _ _) rfl ?_
        exact ⟨⟨_, rfl⟩, .inr ⟨_, ⟨k + 1, by omega, by rw [bk44.upto_succ, ← HX.out]⟩, hJx3⟩⟩
    · obtain rfl : k = l0.length := by omega
      gi_wp2
      go_end0
      exact ⟨⟨_, rfl⟩, .inl ⟨_, rfl, hJs⟩⟩
set_option maxHeartbeats 1000000 in
theorem bk44.maker_in (F : Fence) (n : Nat) (h6 : F.fn 81) (hro : F.round = none) (a : Option Addr) (len cap : Nat) (w : World) :
    CallsIn F n Try.prog 81 #[.slice a len cap] w fun e w' => e = .returned (.func (.func 94) #[] #[.pointer (some ⟨w.heap.size, 0, none⟩)]) ∧ w' = w.alloc (.cells #[.slice a len cap] 26) := by
  refine callsIn_of_wp Try.func81 rfl h6 ?_ hro
  simp only [Try.ntmps81, List.size_toArray, List.length_cons, List.length_nil, Nat.reduceAdd, Nat.reduceSub, Array.replicate_succ, Array.replicate_zero, List.push_toArray, List.append_toArray, List.nil_append, List.cons_append]
  gi_wp2
  go_ret
  exact ⟨rfl, rfl⟩
theorem bk44.stops (F : Fence) (n : Nat) (h8 : F.fn 94) (hro : F.round = none) (hn : 1 ≤ n) (Bs n₀ : Nat) (A0 : Option Addr) (c0 : Nat) (l0 : List S44) {V : S44 → Prop} (hV : ∀ m, m ∈ l0 → V m) (d : {m : S44 // V m}) (w W0 : World) (hr0 : Kd.C k44 w A0 l0.length l0) (hn₀ : w.heap.size ≤ n₀) (hwW : Below w.heap.size w W0) (hBn : Bs < W0.heap.size)
    (hc : W0.cell? ⟨Bs, 0, none⟩ = some (.slice A0 l0.length c0)) :
    SeqStopsK F n Try.prog 94 #[.pointer (some ⟨Bs, 0, none⟩)] (fun x : Nat × {m : S44 // V m} => #[Value.int .i64 (x.1 : Int), Value.agg #[.string x.2.1.f0, .int .i64 x.2.1.f1, .int .i64 x.2.1.f2]]) (bk44.Keep n₀ Bs) (fun ys => ys = bk44.upto l0 hV d l0.length)
      (fun pre => ∃ k, k ≤ l0.length ∧ pre = bk44.upto l0 hV d k) l0.length W0 := fun l J Jx W hW _ _ hY h0 =>
  bk44.loop_in F n h8 hro hn l Bs n₀ A0 c0 l0 hV d w hr0 hn₀ J Jx hY W (hwW.trans (hW.mono hwW.size)) ((hW.cell (p := ⟨Bs, 0, none⟩) hBn).trans hc) h0
theorem dots (cols : Nat) : (⟨(Lib.repeatL [46] cols).toArray⟩ : ByteArray).size = cols ∧ ∀ x, x < (⟨(Lib.repeatL [46] cols).toArray⟩ : ByteArray).size → (46 : Int) = (((⟨(Lib.repeatL [46] cols).toArray⟩ : ByteArray).data.toList.getD x 0).toNat : Int) := by
  have e : Lib.repeatL [46] cols = List.replicate cols 46 := by
    have := Lib.repeatL_replicate 46 1 cols
    simpa using this
  refine ⟨by simp [ByteArray.size, e], fun x hx => ?_⟩
  have hx' : x < cols := by simpa [ByteArray.size, e] using hx
  simp [e, List.getD, hx']
theorem k3_below {a b c : Addr} {x y z : Value} {W W' : World} (h : W.cell? a = some x ∧ W.cell? b = some y ∧ W.cell? c = some z) (hb : Below W.heap.size W W') : W'.cell? a = some x ∧ W'.cell? b = some y ∧ W'.cell? c = some z :=
  ⟨(hb.cell (World.block_lt_of_cell? _ _ h.1)).trans h.1, (hb.cell (World.block_lt_of_cell? _ _ h.2.1)).trans h.2.1, (hb.cell (World.block_lt_of_cell? _ _ h.2.2)).trans h.2.2⟩
theorem k3_set {a b c : Addr} {x y z : Value} {W : World} (h : W.cell? a = some x ∧ W.cell? b = some y ∧ W.cell? c = some z) (p : Addr) (v : Value) (ha : a.block ≠ p.block) (hb : b.block ≠ p.block) (hc : c.block ≠ p.block) : (W.setCell p v).cell? a = some x ∧ (W.setCell p v).cell? b = some y ∧ (W.setCell p v).cell? c = some z :=
  ⟨(World.cell?_of_block (Below.heap_setCell _ _ _ _ ha)).trans h.1, (World.cell?_of_block (Below.heap_setCell _ _ _ _ hb)).trans h.2.1, (World.cell?_of_block (Below.heap_setCell _ _ _ _ hc)).trans h.2.2⟩
set_option maxHeartbeats 2000000 in
set_option maxRecDepth 100000 in
theorem impl_plan_lines.calls (g : Nat) (s0 : List S44) (s1 s2 s3 : Int) (n cols : Nat) (X Y : S44 → Int) (w0 w : World) (hI : IsS79 w0 w g s0 s1 s2 s3 cols n) (hB : Below w0.heap.size w0 w) (hn : 1 ≤ n ∧ n ≤ 20) (hc : 1 ≤ cols ∧ cols ≤ 20)
    (hm : ∀ m, m ∈ s0 → m.f0.size = 1 ∧ impl_plan_square.f s0 s1 s2 s3 cols n m.f0 m.f1 m.f2 = some (X m, Y m, s1, s2, s3, (cols : Int), (n : Int)) ∧ 0 ≤ X m ∧ X m < cols ∧ 0 ≤ Y m ∧ Y m < n) (hne0 : s0 ≠ []) :
    Calls Try.prog 52 #[.pointer (some ⟨g, 0, none⟩)] w fun e w' => ∃ (gp gl go_ : Nat) (bl cp : Nat → Nat), e = .returned (.slice (some ⟨go_, 0, none⟩) n n) ∧ LS w0 w g s0 s1 s2 s3 cols n gp gl go_ n cols n bl cp (pl_at X Y s0) w' := by
  have HMM := Aside0.mk hm
  have HNE := Aside0.mk hne0
  clear hm hne0
  have HN := Aside0.mk hn
  have HCL := Aside0.mk hc
  have HZ := Aside0.mk hB.size
  have HI := Aside0.mk hI
  have HB := Aside0.mk hB
  obtain ⟨A0, c0, hgb, hgg, hC0⟩ := hI
  have hcz5 := cellS79_5 hgb
  have hgl : g < w.heap.size := blk_lt hgb
  have hng : g ≠ w.heap.size := Nat.ne_of_lt hgl
  have hmk : ∀ W : World, (Instr.makeSlice 73 (.int .i64 (n : Int)) (.int .i64 (n : Int))).run Try.prog W = .ok (.slice (some ⟨W.heap.size, 0, none⟩) n n) (W.alloc (.cells (outerOf n 0 cols (fun _ => 0) (fun _ => 0)).toArray 36 (0, 0))) := by
    intro W
    obtain ⟨i0, hi, hzz⟩ := Option.map_eq_some_iff.1 (show (Try.prog.info? 36).map (fun i => (i.zero, i.size, i.bytes)) = some (some (.slice none 0 0), 1, 24) by kernel_rfl)
    simp only [Prod.mk.injEq] at hzz
    obtain ⟨hz0, hz1, hz2⟩ := hzz
    have hr := run_make (P := Try.prog) W 73 36 i0 (.slice none 0 0) Try.underlying73 hi hz0 .i64 .i64 (n : Int) (n : Int) (by omega) (by omega) (by rw [hz2]; omega) (by omega)
    simp only [Int.toNat_natCast] at hr
    rw [hz1] at hr
    rw [hr]
    congr 3
    apply Array.ext'
    simp [madeCells, outerOf, Value.cells, Nat.mod_one, Array.toList_range]
  clear hn hc hB hgg hC0
  refine (callsIn_wide (n := 5)).1 ?_
  refine callsIn_of_wp_marks Try.func52 rfl trivial ?_ rfl
  simp only [Try.ntmps52, List.size_toArray, List.length_cons, List.length_nil, Nat.reduceAdd, Nat.reduceSub, Array.replicate_succ, Array.replicate_zero, List.push_toArray, List.append_toArray, List.nil_append, List.cons_append]
  refine wpIn_wide.2 ?_
  go_wp2_with (first | fail)
  have HS : Aside0 (LS w0 w g s0 s1 s2 s3 cols n w.heap.size (w.heap.size + 1 + 1) (w.heap.size + 1) n cols 0 (fun _ => 0) (fun _ => 0) (fun _ _ => 46) (((w.alloc (.cells #[.pointer (some ⟨g, 0, none⟩)] 67)).alloc (.cells (outerOf n 0 cols (fun _ => 0) (fun _ => 0)).toArray 36)).alloc (.cells #[.slice (some ⟨w.heap.size + 1, 0, none⟩) n n] 73))) := by
    have e1 : (w.alloc (.cells #[.pointer (some ⟨g, 0, none⟩)] 67)).heap.size = w.heap.size + 1 := by simp
    have e2 : ((w.alloc (.cells #[.pointer (some ⟨g, 0, none⟩)] 67)).alloc (.cells (outerOf n 0 cols (fun _ => 0) (fun _ => 0)).toArray 36)).heap.size = w.heap.size + 1 + 1 := by simp
    have n1 := blk_new w (.cells #[.pointer (some ⟨g, 0, none⟩)] 67)
    have n2 := blk_new (w.alloc (.cells #[.pointer (some ⟨g, 0, none⟩)] 67)) (.cells (outerOf n 0 cols (fun _ => 0) (fun _ => 0)).toArray 36)
    have n3 := blk_new ((w.alloc (.cells #[.pointer (some ⟨g, 0, none⟩)] 67)).alloc (.cells (outerOf n 0 cols (fun _ => 0) (fun _ => 0)).toArray 36)) (.cells #[.slice (some ⟨w.heap.size + 1, 0, none⟩) n n] 73)
    rw [e1] at n2
    rw [e2] at n3
    have hb := below_alloc (below_alloc (below_alloc (Below.refl w.heap.size w) (.cells #[.pointer (some ⟨g, 0, none⟩)] 67)) (.cells (outerOf n 0 cols (fun _ => 0) (fun _ => 0)).toArray 36)) (.cells #[.slice (some ⟨w.heap.size + 1, 0, none⟩) n n] 73)
    exact ⟨⟨below_step HB.out hb, KeepBut.of_below hb g none, HZ.out, HI.out.below hb, blk_alloc (blk_alloc n1 _) _, n3, ⟨blk_alloc n2 _, fun y hy => absurd hy (Nat.not_lt_zero _), fun y hy => absurd hy (Nat.not_lt_zero _), fun y y' hy => absurd hy (Nat.not_lt_zero _)⟩, Nat.le_succ _⟩⟩
  generalize (((w.alloc (.cells #[.pointer (some ⟨g, 0, none⟩)] 67)).alloc (.cells (outerOf n 0 cols (fun _ => 0) (fun _ => 0)).toArray 36)).alloc (.cells #[.slice (some ⟨w.heap.size + 1, 0, none⟩) n n] 73)) = W0 at HS ⊢
  obtain ⟨gp, hgp⟩ : ∃ gp, gp = w.heap.size := ⟨_, rfl⟩
  obtain ⟨go_, hgo⟩ : ∃ go_, go_ = w.heap.size + 1 := ⟨_, rfl⟩
  obtain ⟨gl, hgl2⟩ : ∃ gl, gl = w.heap.size + 1 + 1 := ⟨_, rfl⟩
  rw [← hgl2, ← hgo] at HS ⊢
  have HS' := Aside0.mk (show LS w0 w g s0 s1 s2 s3 cols n gp gl go_ n cols 0 (fun _ => 0) (fun _ => 0) (fun _ _ => 46) W0 by rw [hgp]; exact HS.out)
  clear HS
  rw [← hgp]
  clear hgp hgo hgl2 hng hgl hcz5 hmk hgb
  go_loopg [16] n (fun kq v16 W => ∃ (i : Nat) (bl cp : Nat → Nat), v16 = .int .i64 (i : Int) ∧ Aside0 (kq + i = n) ∧ Aside0 (LS w0 w g s0 s1 s2 s3 cols n gp gl go_ n cols i bl cp (fun _ _ => 46) W))
  case atStart => exact ⟨0, _, _, rfl, ⟨by omega⟩, HS'⟩
  case round =>
    clear HS'
    obtain ⟨i, bl, cp, rfl, HA, HS⟩ := hrel
    by_cases hlt : i < n
    · have d0 : decide ((i : Int) < (n : Int)) = true := decide_eq_true (by omega)
      have w1 : wrap64 ((i : Int) + 1) = ((i + 1 : Nat) : Int) := by have := HN.out; unfold wrap64; omega
      have HLT := Aside0.mk hlt
      obtain ⟨k1, rfl⟩ : ∃ k1, gk = k1 + 1 := ⟨gk - 1, by have := HA.out; omega⟩
      have c1 := HS.out.cellp
      have c2 := HS.out.celll
      have c3 := HS.out.cell4
      have p1 : (0 : Int) ≤ (i : Int) := Int.natCast_nonneg _
      have p2 : (i : Int) < (n : Int) := by omega
      clear hlt
      obtain ⟨S, hSe⟩ : ∃ S : ByteArray, S = ⟨(Lib.repeatL [46] cols).toArray⟩ := ⟨_, rfl⟩
      have hS1 : S.size = cols := by rw [hSe]; exact (dots cols).1
      have hS2 : ∀ x, x < S.size → (46 : Int) = ((S.data.toList.getD x 0).toNat : Int) := by rw [hSe]; exact (dots cols).2
      have hRep : ∀ W : World, Calls Try.prog 80 #[.string ⟨#[46]⟩, .int .i64 (cols : Int)] W fun e w' => e = .returned (.string S) ∧ Below W.heap.size W w' := fun W => by
        rw [hSe]
        exact Try.strings_Repeat ⟨#[46]⟩ cols W (by have := HCL.out; omega) (by have := HCL.out; have e : (⟨#[46]⟩ : ByteArray).size = 1 := rfl; rw [e]; omega)
      clear hSe
      have hcv : ∀ W : World, (convert 9 36 (.string S)).run Try.prog W = .ok (.slice (some ⟨W.heap.size, 0, none⟩) S.size (grownCap W S.size 0 5)) (Lib.bytesWorld W 5 S) := fun W => Lib.run_convert_string_bytes W 9 36 5 S Try.underlying9 Try.underlying36 Try.underlying5
      have ngp : gp ≠ go_ := blk_ne HS.out.p HS.out.g.outer (by decide)
      have ngl : gl ≠ go_ := blk_ne HS.out.l HS.out.g.outer (by decide)
      have ngg : g ≠ go_ := HS.out.s.ne_blk HS.out.g.outer (by decide)
      have HSS := Aside0.mk hS1
      have HS2 := Aside0.mk hS2
      clear hS1 hS2
      go_wp2
      refine wp_region_noPanic ?_
      go_region_with ((go_at_call 80; refine (hRep _).mono ?_; rintro e w2 ⟨rfl, hb2⟩; have HB2 := Aside0.mk hb2; have hLS2 := Aside0.mk ((HS.out.below (below_drew1 (Below.refl _ _))).below hb2); have hLS3 := Aside0.mk (hLS2.out.below (bytes_below _ S)); have hc5 := hLS3.out.g.cell i HLT.out; have hf5 := blk_frozen hLS3.out.g.outer i; simp only [Nat.lt_irrefl, if_false] at hc5; have e2 := hLS2.out.celll; have e3 := hLS3.out.celll; clear hb2))
      all_goals (
        refine NoPanic.normal ?_
        have hLS4 := hLS3.out.next HLT.out w2.heap.size (grownCap w2 S.size 0 5) (fun _ => 46) (by have := HS.out.k.1; have := HB2.out.size; have e : wr.drew.heap.size = wr.heap.size := rfl; omega) (by have h := bytes_row w2 S (fun _ => 46) HS2.out; rw [HSS.out] at h; exact h) (fun y hy => by
          have h1 := (HS.out.g.row y hy).lt
          have := HB2.out.size
          have e : wr.drew.heap.size = wr.heap.size := rfl
          omega)
        have HL4 := Aside0.mk (show LS w0 w g s0 s1 s2 s3 cols n gp gl go_ n cols (i + 1) (fun y => if y = i then w2.heap.size else bl y) (fun y => if y = i then grownCap w2 S.size 0 5 else cp y) (fun _ _ => 46) _ by simpa using hLS4)
        rw [HSS.out]
        rw [HSS.out] at HL4
        clear hLS4 hLS3 hLS2 HB2 hf5 hc5 e2 e3 c1 c2 c3 HS HS2 HSS hcv hRep
        go_wp2
        go_roundg k1
        case measure => omega
        case rel => exact ⟨i + 1, _, _, by rw [w1], ⟨by have := HA.out; omega⟩, HL4⟩)
    · obtain rfl : i = n := by have := HA.out; omega
      have d0 : decide ((i : Int) < (i : Int)) = false := decide_eq_false (by omega)
      obtain ⟨A1, cA1, hgb1, _, hC1⟩ := HS.out.s
      have c1 := HS.out.cellp
      have c0 := cellS79_0 hgb1
      clear hgb1 hlt
      have hmaker : Calls Try.prog 81 #[.slice A1 s0.length cA1] wr fun e w' => e = .returned (.func (.func 94) #[] #[.pointer (some ⟨wr.heap.size, 0, none⟩)]) ∧ w' = wr.alloc (.cells #[.slice A1 s0.length cA1] 26) := (callsIn_wide (n := 4)).1 (bk44.maker_in Fence.wide 4 trivial rfl _ _ _ _)
      go_wp2_with (first | (go_at_call 81; refine hmaker.mono ?_; rintro e w' ⟨rfl, rfl⟩))
      have HS2 := Aside0.mk HS.out
      refine (wpIn_wide (n := 5)).1 ?_
      gi_wp2
      have hWs : (wr.alloc (.cells #[.slice A1 s0.length cA1] 26)).heap.size = wr.heap.size + 1 := by simp
      have hB1 : Below wr.heap.size wr (wr.alloc (.cells #[.slice A1 s0.length cA1] 26)) := below_alloc (Below.refl _ _) _
      have hbN := Boxed.new wr 26 (.slice A1 s0.length cA1)
      have hLS1 := HS2.out.below hB1
      have hwr : w.heap.size ≤ wr.heap.size := HS2.out.k.1
      have hz := HS2.out.z
      obtain ⟨W0', hW0'⟩ : ∃ W0', wr.alloc (.cells #[.slice A1 s0.length cA1] 26) = W0' := ⟨_, rfl⟩
      obtain ⟨Bs, hBs⟩ : ∃ Bs, wr.heap.size = Bs := ⟨_, rfl⟩
      rw [hW0'] at hWs hB1 hbN hLS1 ⊢
      rw [hBs] at hWs hbN hwr ⊢
      clear hW0' hB1 HS HS2 c1 c0 hmaker
      obtain ⟨dm⟩ : Nonempty {m : S44 // m.f0.size = 1 ∧ impl_plan_square.f s0 s1 s2 s3 cols i m.f0 m.f1 m.f2 = some (X m, Y m, s1, s2, s3, (cols : Int), (i : Int)) ∧ 0 ≤ X m ∧ X m < cols ∧ 0 ≤ Y m ∧ Y m < i} := ⟨⟨s0.head HNE.out, HMM.out _ (List.head_mem _)⟩⟩
      refine wpIn_rangeFunc_ownH rfl (by decide) (gf := 94) (lb := #[.pointer (some ⟨Bs, 0, none⟩)]) rfl trivial (enters_of Try.func94 (by kernel_rfl) rfl)
        (bk44.stops Fence.wide 4 trivial rfl (by decide) Bs w0.heap.size A1 cA1 s0 HMM.out dm w0 W0' hC1 (Nat.le_refl _) hLS1.b (by omega) hbN.cell) bk44.keep_t (bk44.keep_b (by omega) (by omega)) (Below.refl _ _) (fun _ => rfl)
        (fun (pre : List (Nat × {m : S44 // m.f0.size = 1 ∧ impl_plan_square.f s0 s1 s2 s3 cols i m.f0 m.f1 m.f2 = some (X m, Y m, s1, s2, s3, (cols : Int), (i : Int)) ∧ 0 ≤ X m ∧ X m < cols ∧ 0 ≤ Y m ∧ Y m < i})) W => LS w0 w g s0 s1 s2 s3 cols i gp gl go_ i cols i bl cp (pl_at X Y (pre.map bk44.sn).reverse) W ∧ Boxed W Bs 26 (.slice A1 s0.length cA1))
        (fun _ _ _ => False)
        (OwnFrom.and (fun s W W' row hs hg hr => hs.grown hg (fun r e => ⟨by have := (hr r e).1; omega, (hr r e).2⟩)) (Own.from (boxed_own _ _ _) _))
        (fun _ _ _ _ _ hs _ _ => hs)
        ⟨hLS1, hbN⟩
        (fun x a' W => ∃ Bx, w.heap.size ≤ Bx ∧ W.heap[Bx]? = some (.cells #[.string x.2.1.f0, .int .i64 x.2.1.f1, .int .i64 x.2.1.f2] 44 (0, 0)) ∧ a' = { tmps := #[.pointer (some ⟨g, 0, none⟩), .pointer (some ⟨gp, 0, none⟩), .slice none 0 0, .pointer (some ⟨gl, 0, none⟩), u4, undef, .pointer (some ⟨Bx, 0, none⟩), undef, undef, .pointer (some ⟨g, 0, none⟩), .pointer (some ⟨g, 0, none⟩), .pointer (some ⟨g, 5, none⟩), .int .i64 (i : Int), .slice (some ⟨go_, 0, none⟩) i i, .slice (some ⟨go_, 0, none⟩) i i, .int .i64 (i : Int), .int .i64 (i : Int), .bool false, u18, u19, u20, u21, u22, u23, u24, u25, u26, u27, u28, .pointer (some ⟨g, 0, none⟩), .pointer (some ⟨g, 0, none⟩), .pointer (some ⟨g, 0, none⟩), .slice A1 s0.length cA1, .func (.func 94) #[] #[.pointer (some ⟨Bs, 0, none⟩)], .int .i64 (x.1 : Int), .agg #[.string x.2.1.f0, .int .i64 x.2.1.f1, .int .i64 x.2.1.f2], undef, undef, undef, undef, undef, undef, undef, undef, undef, undef, undef, undef, undef, undef, undef, undef], defers := [] })
        (fun x a' _ XX YY row hs hg hr => by
          obtain ⟨Bx, h1, h2, h3⟩ := hs
          refine ⟨Bx, h1, (hg.block Bx (Array.getElem?_eq_some_iff.1 h2).1 (fun e => ?_)).trans h2, h3⟩
          obtain ⟨_, o, ho, hc⟩ := hr Bx e.symm
          rw [h2] at ho
          cases ho
          cases hc)
        ?assign ?body ?done ?stop
      case assign =>
        rintro l pre x W K ⟨hL, hbs⟩ hK
        gi_wp2
        refine hK _ _ ((KeepsOthers.alloc _ _).from _) ⟨(below_alloc (Below.refl W.heap.size W) _).mono (by have := hL.k.1; omega), (hbs.alloc _).trans hbs.symm⟩ ⟨hL.below (below_alloc (Below.refl _ _) _), hbs.alloc _⟩ ⟨W.heap.size, hL.k.1, World.alloc_heap_new W _, rfl⟩
      case body =>
        rintro l pre ⟨xi, m, hm1, hsq, hx0, hx1, hy0, hy1⟩ a' W hl - ⟨hL, hbs⟩ ⟨Bx, hBx, bX, rfl⟩ hlt
        obtain ⟨xn, hxn⟩ : ∃ xn : Nat, X m = xn := ⟨(X m).toNat, by omega⟩
        obtain ⟨yn, hyn⟩ : ∃ yn : Nat, Y m = yn := ⟨(Y m).toNat, by omega⟩
        rw [hxn, hyn] at hsq
        rw [hxn] at hx0 hx1
        rw [hyn] at hy0 hy1
        have hyi : yn < i := by omega
        have hxi : xn < cols := by omega
        have HSQ := Aside0.mk (impl_plan_square.calls g s0 s1 s2 s3 cols i m.f0 m.f1 m.f2 xn yn s1 s2 s3 cols i w0 W hL.s hL.b hsq)
        have cp1 := hL.cellp
        have cx0 : W.cell? ⟨Bx, 0, none⟩ = some (.string m.f0) := (blk_cell bX 0).trans rfl
        have cx1 : W.cell? ⟨Bx, 1, none⟩ = some (.int .i64 m.f1) := (blk_cell bX 1).trans rfl
        have cx2 : W.cell? ⟨Bx, 2, none⟩ = some (.int .i64 m.f2) := (blk_cell bX 2).trans rfl
        have h4 : ∀ h : 0 < m.f0.size, ((m.f0[0]'h).toNat : Int) = bt m.f0 0 := bt_at m.f0 0
        have h5 : 0 < m.f0.size := by omega
        clear hsq
        gi_wp2_with (refine ⟨trivial, ?_⟩; gi_at_call 53; refine (callsIn_wide.2 HSQ.out).mono ?_; rintro e w1 ⟨rfl, hs1, hb1, hk1⟩)
        have hL1 := hL.kept hb1 hs1 hk1
        have bX1 : w1.heap[Bx]? = some (.cells #[.string m.f0, .int .i64 m.f1, .int .i64 m.f2] 44 (0, 0)) := (hk1.2 Bx (blk_lt bX) (Ne.symm (hL.s.ne_blk bX (by decide))) (by simp)).trans bX
        have cl1 := hL1.celll
        have cy1 := hL1.g.cell yn hyi
        rw [if_pos hyi] at cy1
        have dx0 : w1.cell? ⟨Bx, 0, none⟩ = some (.string m.f0) := (blk_cell bX1 0).trans rfl
        have dr := (hL1.g.row yn hyi).cell xn hxi
        have df := (hL1.g.row yn hyi).frozen xn hxi
        have HL1 := Aside0.mk hL1
        have HLW := Aside0.mk hL
        have HBS := Aside0.mk hbs
        have HBX := Aside0.mk bX1
        have HK1 := Aside0.mk hk1
        have HB1 := Aside0.mk hb1
        have HYI := Aside0.mk hyi
        have HXY := Aside0.mk (And.intro hxn hyn)
        have HWZ := Aside0.mk (And.intro hWs (And.intro hwr hz))
        clear hL1 hL hbs bX1 bX hk1 hb1 HSQ cp1 cx0 cx1 cx2 hs1 hyi hxi hxn hyn hlt hbN hWs hLS1 hwr hz hC1 hl hBx HI HB HMM HNE HA d0
        refine wpIn_region_round (by kernel_rfl) (by kernel_rfl) ?_
        refine wpAnyIn_take (i := 1) (v := ?v1) rfl rfl (by kernel_rfl) (by kernel_rfl) (by kernel_rfl) (fun _ _ _ h => h) ⟨Or.inl ⟨by rfl, ?hy1⟩, fun _ => rfl⟩ ?rest1
        case hy1 => (intro w; (try go_simp); (try with_reducible rfl))
        refine wpAnyIn_take (i := 4) (v := ?v2) rfl rfl (by kernel_rfl) (by kernel_rfl) (by kernel_rfl) (fun _ _ _ h => h) ⟨Or.inl ⟨by rfl, ?hy2⟩, fun _ => rfl⟩ ?rest2
        case hy2 => (intro w; (try go_simp); (try with_reducible rfl))
        refine wpAnyIn_take (i := 5) (v := ?v3) rfl rfl (by kernel_rfl) (by kernel_rfl) (by kernel_rfl) (fun _ _ _ h => h) ⟨Or.inl ⟨by rfl, ?hy3⟩, fun _ => rfl⟩ ?rest3
        case hy3 => (intro w; (try go_simp); (try with_reducible rfl))
        refine wpAnyIn_ready (rs := [0, 6]) (by kernel_rfl) (by simp) ?_
        refine AllReadyIn.cons rfl (fun K hK => ?_) (AllReadyIn.cons rfl (fun K hK => ?_) AllReadyIn.nil)
        · go_simp
          refine hK _ _ ?_
          clear hK K
          refine wpAnyIn_take (i := 2) (v := ?v4) rfl rfl (by kernel_rfl) (by kernel_rfl) (by kernel_rfl) (fun _ _ _ h => h) ⟨Or.inl ⟨by rfl, ?hy4⟩, fun _ => rfl⟩ ?rest4
          case hy4 => (intro w; (try go_simp); (try with_reducible rfl))
          refine wpAnyIn_ready (rs := [3, 6]) (by kernel_rfl) (by simp) ?_
          refine AllReadyIn.cons rfl (fun K hK => ?_) (AllReadyIn.cons rfl (fun K hK => ?_) AllReadyIn.nil)
          · go_simp
            refine hK _ _ ?_
            clear hK K
            refine wpAnyIn_ready (rs := [6]) (by kernel_rfl) (by simp) ?_
            refine AllReadyIn.cons rfl (fun K hK => ?_) AllReadyIn.nil
            go_simp
            refine hK _ _ ?_
            clear hK K
            refine wpAnyIn_take (i := 7) (v := ?v5) rfl rfl (by kernel_rfl) (by kernel_rfl) (by kernel_rfl) (fun _ _ _ h => h) ⟨Or.inl ⟨by rfl, ?hy5⟩, fun _ => rfl⟩ ?rest5
            case hy5 => (intro w; (try go_simp); (try with_reducible rfl))
            refine wpAnyIn_take (i := 8) (v := ?v6) rfl rfl (by kernel_rfl) (by kernel_rfl) (by kernel_rfl) (fun _ _ _ h => h) ⟨Or.inl ⟨by rfl, ?hy6⟩, fun _ => rfl⟩ ?rest6
            case hy6 => (intro w; (try go_simp); (try with_reducible rfl))
            refine wpAnyIn_ready (rs := [9]) (by kernel_rfl) (by simp) ?_
            refine AllReadyIn.cons rfl (fun K hK => ?_) AllReadyIn.nil
            go_simp
            refine hK _ _ ?_
            clear hK K
            refine wpAnyIn_done (by kernel_rfl) ?_ _
            have hR := LS.round m xn yn HLW.out HL1.out HK1.out HBS.out HYI.out HXY.out.1 HXY.out.2 W0'.heap.size
            exact ⟨hR.1, hR.2.1, by rw [List.map_append, List.reverse_append]; exact hR.2.2.1, hR.2.2.2⟩
          · go_simp
            refine hK _ _ ?_
            clear hK K
            refine wpAnyIn_take (i := 7) (v := ?v7) rfl rfl (by kernel_rfl) (by kernel_rfl) (by kernel_rfl) (fun _ _ _ h => h) ⟨Or.inl ⟨by rfl, ?hy7⟩, fun _ => rfl⟩ ?rest7
            case hy7 => (intro w; (try go_simp); (try with_reducible rfl))
            refine wpAnyIn_ready (rs := [3]) (by kernel_rfl) (by simp) ?_
            refine AllReadyIn.cons rfl (fun K hK => ?_) AllReadyIn.nil
            go_simp
            refine hK _ _ ?_
            clear hK K
            refine wpAnyIn_take (i := 8) (v := ?v8) rfl rfl (by kernel_rfl) (by kernel_rfl) (by kernel_rfl) (fun _ _ _ h => h) ⟨Or.inl ⟨by rfl, ?hy8⟩, fun _ => rfl⟩ ?rest8
            case hy8 => (intro w; (try go_simp); (try with_reducible rfl))
            refine wpAnyIn_ready (rs := [9]) (by kernel_rfl) (by simp) ?_
            refine AllReadyIn.cons rfl (fun K hK => ?_) AllReadyIn.nil
            go_simp
            refine hK _ _ ?_
            clear hK K
            refine wpAnyIn_done (by kernel_rfl) ?_ _
            have hR := LS.round m xn yn HLW.out HL1.out HK1.out HBS.out HYI.out HXY.out.1 HXY.out.2 W0'.heap.size
            exact ⟨hR.1, hR.2.1, by rw [List.map_append, List.reverse_append]; exact hR.2.2.1, hR.2.2.2⟩
        · go_simp
          refine hK _ _ ?_
          clear hK K
          refine wpAnyIn_take (i := 7) (v := ?v9) rfl rfl (by kernel_rfl) (by kernel_rfl) (by kernel_rfl) (fun _ _ _ h => h) ⟨Or.inl ⟨by rfl, ?hy9⟩, fun _ => rfl⟩ ?rest9
          case hy9 => (intro w; (try go_simp); (try with_reducible rfl))
          refine wpAnyIn_ready (rs := [0]) (by kernel_rfl) (by simp) ?_
          refine AllReadyIn.cons rfl (fun K hK => ?_) AllReadyIn.nil
          go_simp
          refine hK _ _ ?_
          clear hK K
          refine wpAnyIn_take (i := 2) (v := ?v10) rfl rfl (by kernel_rfl) (by kernel_rfl) (by kernel_rfl) (fun _ _ _ h => h) ⟨Or.inl ⟨by rfl, ?hy10⟩, fun _ => rfl⟩ ?rest10
          case hy10 => (intro w; (try go_simp); (try with_reducible rfl))
          refine wpAnyIn_ready (rs := [3]) (by kernel_rfl) (by simp) ?_
          refine AllReadyIn.cons rfl (fun K hK => ?_) AllReadyIn.nil
          go_simp
          refine hK _ _ ?_
          clear hK K
          refine wpAnyIn_take (i := 8) (v := ?v11) rfl rfl (by kernel_rfl) (by kernel_rfl) (by kernel_rfl) (fun _ _ _ h => h) ⟨Or.inl ⟨by rfl, ?hy11⟩, fun _ => rfl⟩ ?rest11
          case hy11 => (intro w; (try go_simp); (try with_reducible rfl))
          refine wpAnyIn_ready (rs := [9]) (by kernel_rfl) (by simp) ?_
          refine AllReadyIn.cons rfl (fun K hK => ?_) AllReadyIn.nil
          go_simp
          refine hK _ _ ?_
          clear hK K
          refine wpAnyIn_done (by kernel_rfl) ?_ _
          have hR := LS.round m xn yn HLW.out HL1.out HK1.out HBS.out HYI.out HXY.out.1 HXY.out.2 W0'.heap.size
          exact ⟨hR.1, hR.2.1, by rw [List.map_append, List.reverse_append]; exact hR.2.2.1, hR.2.2.2⟩
      case done =>
        rintro D ys W hD hys ⟨hL, hbs⟩ hK
        rw [hys, bk44.all] at hL
        have hcl := hL.celll
        gi_wp2
        go_wp2
        refine ⟨by simp, .inl ⟨_, _, rfl, run_takeDeferred hK, ?_⟩⟩
        exact ⟨_, results_tmp rfl _ _ _, gp, gl, go_, bl, cp, rfl, hL.grown (grownBy_putObj' W D _) (fun r e => by cases e; exact ⟨by omega, _, hK, rfl⟩)⟩
      case stop =>
        rintro D c pre W _ _ h _
        exact h.elim
end


end Go.Proofs.Ytckidmhkhlbkeaa.MA
