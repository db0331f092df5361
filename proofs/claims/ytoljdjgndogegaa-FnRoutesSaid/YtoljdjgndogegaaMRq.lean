-- Written by a program of this session (wip/tight2.py). -- tight2
import Derived.Test.YtoljdjgndogegaaProg
import Derived.Below
import Derived.Deep.Draws
import Derived.Deep.AppendLies
import Derived.Maps.AppendAt
import Derived.OwnWalk
import Derived.Laws.BytesArg
import Derived.Laws.MakeOwn
import Derived.Laws.OwnMore
import Derived.Deep.OwnRows
import Derived.Tactics
import Derived.Lib.ConvBytes
import Derived.Laws.Slices
import Derived.WalkKit
import Derived.KernelRfl
import Derived.RowKit3
import Derived.Deep.LoopGhost
import Derived.Deep.QuietTactic
import Derived.BigQuiet
import Derived.WideLaws
import Derived.Deep.DeepCutAuto
import Derived.Deep.CutBlock
import Derived.Deep.RegionHeld3
import Derived.Laws.Rows
import Derived.Lib.AppendStr
import Derived.ArgAppend
import Derived.Laws.IdiomCopy
import Derived.OrdersHeld
import Derived.Laws.BitsLemmas
import Derived.RowKit
import Derived.Deep.RegionHeld3
import Derived.Laws.CopyOwn
import Derived.StillTailTactics
import Derived.Test.YtoljdjgndogegaaWWords
import Derived.Test.YtoljdjgndogegaaWLast
import Derived.Test.YtoljdjgndogegaaWTab
import Derived.Test.YtoljdjgndogegaaWApart
import Derived.Test.YtoljdjgndogegaaWArr
import Derived.Test.YtoljdjgndogegaaWFoot
import Derived.Test.YtoljdjgndogegaaWKept
import Derived.Test.YtoljdjgndogegaaWRepsOne
import Derived.Test.YtoljdjgndogegaaWGuard
namespace Go.Proofs.Ytoljdjgndogegaa.MR
open Go.RowKit Go.Proofs.YtoljdjgndogegaaW.PrintWords Go.Proofs.YtoljdjgndogegaaW.PrintLast
-- Small words of this claim's own (the module 'More' of the words has such too; it would bring five modules along of which nothing is used here).
section
variable {P : Program} {ops : Array Oper} {rest : List Oper} {o : Oper} {a : Act} {Q : Exit → Act → World → Prop} {W : World}
theorem gate_callee {f : FuncId} {xs : Array Operand} {ts : Array TypeId} (_ho : o.op = .call { callee := .value (.func f), args := xs, argTypes := ts }) (h : wpList P ops Q (o :: rest) a W) : wpList P ops Q (o :: rest) a W := h
theorem gate_builtin {b : Builtin} {xs : Array Operand} {ts : Array TypeId} (_ho : o.op = .call { callee := .builtin b, args := xs, argTypes := ts }) (h : wpList P ops Q (o :: rest) a W) : wpList P ops Q (o :: rest) a W := h
end
theorem drewN_self (w : World) (n : Nat) : w.drewN n = w.drewN n := rfl
theorem calls_of_args {P : Program} {f : FuncId} {args args' : Array Value} {w : World} {Q : Ending → World → Prop} (h : args = args') (hc : Calls P f args' w Q) : Calls P f args w Q := by
  subst h
  exact hc
def mx (a b : Int) : Int := if a < b then b else a
def mn (a b : Int) : Int := if b < a then b else a
theorem max2_int (k k' : IntKind) (x y : Int) : Builtin.max2 (.int k x) (.int k' y) = pure (.int k (if x < y then y else x)) := by simp only [Builtin.max2, gt_iff_lt]
theorem min2_int (k k' : IntKind) (x y : Int) : Builtin.min2 (.int k x) (.int k' y) = pure (.int k (if y < x then y else x)) := by simp only [Builtin.min2]
theorem max_two (ats : Array TypeId) (ty : TypeId) (a b : Value) : Builtin.max_ ats ty #[a, b] = (Builtin.max2 a b >>= fun s => pure s) := by simp only [Builtin.max_, List.foldlM_cons, List.foldlM_nil]
theorem min_two (ats : Array TypeId) (ty : TypeId) (a b : Value) : Builtin.min_ ats ty #[a, b] = (Builtin.min2 a b >>= fun s => pure s) := by simp only [Builtin.min_, List.foldlM_cons, List.foldlM_nil]
theorem Kd.R_newM {α : Type} {d : Kd α} {e : Nat} {w w1 W : World} {ok M : Nat → Prop} {v : Value} {xs : List α} (h : d.R e w1 W.heap.size ok v xs) (hle : w.heap.size ≤ W.heap.size) (hM : ∀ k, w.heap.size ≤ k → M k) : d.R e w1 W.heap.size (fun k => M k ∧ ok k) v xs :=
  Kd.R_mono (Kd.R_bound h) (fun k hk => ⟨hM k (Nat.le_trans hle hk.2.1), hk.1⟩)
theorem Kd.R_keptB {α : Type} {d : Kd α} {e base : Nat} {W W2 : World} {S ok : Nat → Prop} {v : Value} {xs : List α} (h : d.R e W base ok v xs) (hk : Kept W W2 S) (hne : ∀ k, ok k → ¬ S k) : d.R e W2 base (fun k => ok k ∧ (¬ S k ∧ k < W.heap.size)) v xs :=
  Kd.R_kept (Kd.R_mono (Kd.R_bound h) (fun k hk => ⟨hk.1, hne k hk.1, hk.2.2.1⟩)) hk (fun _ hk => hk.2.1)
theorem qmono {p : Prop} (h : p := by
  repeat' first
  | (with_reducible first | apply ih0 | apply ih1 | apply ih2 | apply ih3 | apply ih4 | apply ih5 | apply ih6 | apply ih7 | apply ih8 | apply ih9)
  | (with_reducible first | apply m0 | apply m1 | apply m2 | apply m3 | apply m4 | apply m5 | apply m6 | apply m7 | apply m8 | apply m9 | apply m10 | apply m11 | apply m12 | apply m13 | apply m14 | apply m15 | apply m16 | apply m17 | apply m18 | apply m19 | apply m20 | apply m21 | apply m22 | apply m23 | apply m24 | apply m25)
  | (with_reducible exact LeO.refl _)
  | (with_reducible exact LeO.none _)
  | (with_reducible refine LeO.ite ?_ ?_)
  | (with_reducible refine LeO.bind ?_ (fun _ => ?_))
  | first | apply ih0 | apply ih1 | apply ih2 | apply ih3 | apply ih4 | apply ih5 | apply ih6 | apply ih7 | apply ih8 | apply ih9
  | exact LeO.none _
  | refine LeO.ite ?_ ?_
  | refine LeO.bind ?_ (fun _ => ?_)) : p := h
theorem bindA {α β : Type} {x : Option α} {f : α → Option β} {r : β} (h : x.bind f = some r) : ∃ a, Aside0 (x = some a) ∧ f a = some r := by
  obtain ⟨a, h1, h2⟩ := Option.bind_eq_some_iff.mp h
  exact ⟨a, ⟨h1⟩, h2⟩
theorem qR0 {p : Prop} (h : p := by repeat (first | (with_reducible first | exact HB.out | apply below_alloc | apply pw_below_drewN | apply below_drew1) | exact HB.out)) : p := h
theorem qR1 {q0 p : Prop} (x0 : q0) (h : q0 → p := by intro hx0_; (with_reducible repeat (first | apply Kd.R_alloc | apply Kd.R_drewN | apply Kd.R_drew)); exact hx0_) : p := h x0
theorem qR2 {p : Prop} (h : p := by (try simp only [List.map_toArray, List.map_cons, List.map_nil]); first | done | rfl | (simp only [List.length_drop, List.length_take]; rfl)) : p := h
theorem qR3 {p : Prop} (h : p := by repeat (first | (with_reducible first | exact HI0.out | apply IsS47.alloc | apply IsS47.drewN | apply IsS47.drew | apply IsS47.set_1 | apply IsS47.set_2) | exact HI0.out)) : p := h
theorem qR4 {p : Prop} (h : p := by repeat (first | (with_reducible first | exact HK.out | apply KeepBut.set_ | apply keep_drewN | apply keep_drew | apply keep_alloc) | exact HK.out)) : p := h
theorem qR5 {q0 p : Prop} (x0 : q0) (h : q0 → p := by intro hx0_; repeat (first | exact (Kd.R_reads' hx0_).2.2 | (with_reducible refine Kd.C_alloc ?_ _) | (with_reducible refine Kd.C_drewN ?_ _) | (with_reducible refine Kd.C_drew ?_))) : p := h x0
theorem qR6 {q0 p : Prop} (x0 : q0) (h : q0 → p := by intro hx0_; first | (rw [hx0_]; with_reducible exact H) | (have H2_ := (Option.bind_some _ _).symm.trans H; rw [hx0_]; with_reducible exact H2_) | (have H2_ := (Option.bind_some _ _).symm.trans H; with_reducible exact H2_) | with_reducible exact H | (rw [hx0_]; exact H) | exact H) : p := h x0
theorem qR7 {p : Prop} (h : p := by repeat (first | (with_reducible first | exact HB.out | apply below_alloc | apply pw_below_drewN | apply below_drew1 | refine below_set ?_ (IsS47.ge HI0.out)) | exact HB.out)) : p := h
theorem qR8 {p : Prop} (h : p := by first | (with_reducible assumption) | assumption) : p := h
theorem qR9 {q0 p : Prop} (x0 : q0) (h : q0 → p := by intro hx0_; repeat (first | (with_reducible first | exact HI0.out | apply IsS47.alloc | apply IsS47.drewN | apply IsS47.drew | apply IsS47.set_1 | apply IsS47.set_2 | refine IsS47.far ?_ hx0_ _) | exact HI0.out)) : p := h x0
theorem qR10 {p : Prop} (h : p := by first | rfl | (simp [errW_none, errW_some] <;> rfl) | (simp [*, errW_none, errW_some] <;> rfl)) : p := h
theorem qR11 {q0 p : Prop} (x0 : q0) (h : q0 → p := by intro hx0_; repeat (first | exact hx0_ | (with_reducible refine Kd.C_alloc ?_ _) | (with_reducible refine Kd.C_drewN ?_ _) | (with_reducible refine Kd.C_drew ?_))) : p := h x0
theorem qR12 {p : Prop} (h : p := by first | rfl | (simp; done) | (simp [*]; done)) : p := h
theorem qR13 {q0 p : Prop} (x0 : q0) (h : q0 → p := by intro hx0_; (with_reducible repeat (first | refine blk_drewN ?_ _ | refine blk_drew ?_ | refine blk_alloc ?_ _)); exact hx0_) : p := h x0
theorem qR14 {q0 p : Prop} (x0 : q0) (h : q0 → p := by intro hx0_; repeat (first | exact (Kd.C_below hx0_ HB.out) | (with_reducible refine Kd.C_alloc ?_ _) | (with_reducible refine Kd.C_drewN ?_ _) | (with_reducible refine Kd.C_drew ?_))) : p := h x0
theorem qR15 {q0 p : Prop} (x0 : q0) (h : q0 → p := by intro hx0_; repeat (first | (with_reducible first | exact HK.out | apply KeepBut.set_ | apply keep_drewN | apply keep_drew | apply keep_alloc | refine keep_far ?_ hx0_ _) | exact HK.out)) : p := h x0
theorem qR16 {q0 p : Prop} (x0 : q0) (h : q0 → p := by intro hx0_; repeat (first | (with_reducible first | exact HB.out | apply below_alloc | apply pw_below_drewN | apply below_drew1 | refine below_set ?_ (IsS47.ge HI0.out) | refine below_set ?_ hx0_) | exact HB.out)) : p := h x0
theorem qR17 {p : Prop} (h : p := by repeat (first | (with_reducible first | exact HK.out | apply Kept.alloc | apply Kept.drewN | apply Kept.drew) | exact HK.out)) : p := h
theorem qR18 {p : Prop} (h : p := by repeat (first | (with_reducible first | exact HI0.out | apply IsS47.alloc | apply IsS47.drewN | apply IsS47.drew | apply IsS47.set_1 | apply IsS47.set_2 | refine IsS47.far ?_ NB0_115.out _ | refine IsS47.far ?_ NB0_140.out _) | exact HI0.out)) : p := h
theorem qR19 {p : Prop} (h : p := by repeat (first | (with_reducible first | exact HI592.out | apply IsS47.alloc | apply IsS47.drewN | apply IsS47.drew | apply IsS47.set_1 | apply IsS47.set_2) | exact HI592.out)) : p := h
theorem qR20 {p : Prop} (h : p := by first | exact Kd.own_blk (Kd.R_away HO_5.out (fun _ hk => hk)) | (rw [add_block]; exact Kd.own_blk (Kd.R_away HO_5.out (fun _ hk => hk))) | (show (Addr.add _ _).block ≠ _; rw [add_block]; exact Kd.own_blk (Kd.R_away HO_5.out (fun _ hk => hk))) | (dsimp only; exact Kd.own_blk (Kd.R_away HO_5.out (fun _ hk => hk)))) : p := h
theorem qR21 {q0 p : Prop} (x0 : q0) (h : q0 → p := by intro hx0_; repeat (first | (with_reducible first | exact HB.out | apply below_alloc | apply pw_below_drewN | apply below_drew1 | refine below_set ?_ hx0_) | exact HB.out)) : p := h x0
theorem qR22 {p : Prop} (h : p := by repeat (first | (with_reducible first | exact HK.out | apply KeepBut.set_ | apply keep_drewN | apply keep_drew | apply keep_alloc | refine keep_far ?_ GW115.out _ | refine keep_far ?_ GW140.out _) | exact HK.out)) : p := h
theorem qR23 {p : Prop} (h : p := by repeat (first | (with_reducible first | exact HB.out | apply below_alloc | apply pw_below_drewN | apply below_drew1 | refine below_set ?_ (IsS47.ge HI0.out) | refine below_set ?_ GE115.out | refine below_set ?_ GE140.out) | exact HB.out)) : p := h
theorem qR24 {p : Prop} (h : p := by repeat (first | (with_reducible first | exact HB.out | apply below_alloc | apply pw_below_drewN | apply below_drew1 | refine below_set ?_ (IsS47.ge HI592.out)) | exact HB.out)) : p := h
theorem qR25 {p : Prop} (h : p := by first | (go_simp; done) | (go_simp; rfl)) : p := h
theorem qR26 {p : Prop} (h : p := by repeat (first | exact Drawn0.refl _ | apply Drawn0.step)) : p := h
theorem qR27 {p : Prop} (h : p := by (with_reducible repeat (first | refine blk_drewN ?_ _ | refine blk_drew ?_ | refine blk_alloc ?_ _)); refine blk_put (cs := #[.int .i64 ((rd_T58 l0 x14_1).f0), .int .i64 ((rd_T58 l0 x14_1).f1), .int .i64 ((rd_T58 l0 x14_1).f2), .int .i64 ((rd_T58 l0 x14_1).f3), .int .i64 0]) ?_ 4 _ rfl; (with_reducible repeat (first | refine blk_drewN ?_ _ | refine blk_drew ?_ | refine blk_alloc ?_ _)); refine blk_put (cs := #[.int .i64 ((rd_T58 l0 x14_1).f0), .int .i64 ((rd_T58 l0 x14_1).f1), .int .i64 ((rd_T58 l0 x14_1).f2), .int .i64 0, .int .i64 0]) ?_ 3 _ rfl; (with_reducible repeat (first | refine blk_drewN ?_ _ | refine blk_drew ?_ | refine blk_alloc ?_ _)); refine blk_put (cs := #[.int .i64 ((rd_T58 l0 x14_1).f0), .int .i64 ((rd_T58 l0 x14_1).f1), .int .i64 0, .int .i64 0, .int .i64 0]) ?_ 2 _ rfl; (with_reducible repeat (first | refine blk_drewN ?_ _ | refine blk_drew ?_ | refine blk_alloc ?_ _)); refine blk_put (cs := #[.int .i64 ((rd_T58 l0 x14_1).f0), .int .i64 0, .int .i64 0, .int .i64 0, .int .i64 0]) ?_ 1 _ rfl; (with_reducible repeat (first | refine blk_drewN ?_ _ | refine blk_drew ?_ | refine blk_alloc ?_ _)); refine blk_put (cs := #[.int .i64 0, .int .i64 0, .int .i64 0, .int .i64 0, .int .i64 0]) ?_ 0 _ rfl; (with_reducible repeat (first | refine blk_drewN ?_ _ | refine blk_drew ?_ | refine blk_alloc ?_ _)); exact BK424.out) : p := h
theorem qR28 {p : Prop} (h : p := by exact any_of HT_.out (by kernel_rfl)) : p := h
theorem qR29 {q0 p : Prop} (x0 : q0) (h : q0 → p := by intro hx0_; (with_reducible repeat (first | apply Kd.R_alloc | apply Kd.R_drewN | apply Kd.R_drew)); exact Kd.R_mono hx0_ (fun _ hk => hk.2)) : p := h x0
theorem qR30 {p : Prop} (h : p := by repeat (first | (with_reducible first | exact HI387.out | apply IsS47.alloc | apply IsS47.drewN | apply IsS47.drew | apply IsS47.set_1 | apply IsS47.set_2) | exact HI387.out)) : p := h
theorem qR31 {q0 p : Prop} (x0 : q0) (h : q0 → p := by intro hx0_; (with_reducible repeat (first | apply Kd.R_alloc | apply Kd.R_drewN | apply Kd.R_drew)); exact Kd.R_mono hx0_ (fun _ hk => trivial)) : p := h x0
theorem qR32 {q0 p : Prop} (x0 : q0) (h : q0 → p := by intro hx0_; exact (Kd.R_reads' hx0_).2.1) : p := h x0
theorem qR33 {q0 q1 p : Prop} (x0 : q0) (x1 : q1) (h : q0 → q1 → p := by intro hx0_ hx1_; repeat (first | (with_reducible first | exact HB.out | apply below_alloc | apply pw_below_drewN | apply below_drew1 | refine below_set ?_ hx0_ | refine below_set ?_ hx1_) | exact HB.out)) : p := h x0 x1
theorem qR34 {p : Prop} (h : p := by repeat (first | (with_reducible first | exact HB.out | apply below_alloc | apply pw_below_drewN | apply below_drew1 | refine below_set ?_ (IsS47.ge HI387.out)) | exact HB.out)) : p := h
theorem qR35 {p : Prop} (h : p := by (with_reducible repeat (first | refine blk_drewN ?_ _ | refine blk_drew ?_ | refine blk_alloc ?_ _)); refine blk_put (cs := #[.int .i64 ((rd_T58 l0 x7_1).f0), .int .i64 ((rd_T58 l0 x7_1).f1), .int .i64 ((rd_T58 l0 x7_1).f2), .int .i64 ((rd_T58 l0 x7_1).f3), .int .i64 0]) ?_ 4 _ rfl; (with_reducible repeat (first | refine blk_drewN ?_ _ | refine blk_drew ?_ | refine blk_alloc ?_ _)); refine blk_put (cs := #[.int .i64 ((rd_T58 l0 x7_1).f0), .int .i64 ((rd_T58 l0 x7_1).f1), .int .i64 ((rd_T58 l0 x7_1).f2), .int .i64 0, .int .i64 0]) ?_ 3 _ rfl; (with_reducible repeat (first | refine blk_drewN ?_ _ | refine blk_drew ?_ | refine blk_alloc ?_ _)); refine blk_put (cs := #[.int .i64 ((rd_T58 l0 x7_1).f0), .int .i64 ((rd_T58 l0 x7_1).f1), .int .i64 0, .int .i64 0, .int .i64 0]) ?_ 2 _ rfl; (with_reducible repeat (first | refine blk_drewN ?_ _ | refine blk_drew ?_ | refine blk_alloc ?_ _)); refine blk_put (cs := #[.int .i64 ((rd_T58 l0 x7_1).f0), .int .i64 0, .int .i64 0, .int .i64 0, .int .i64 0]) ?_ 1 _ rfl; (with_reducible repeat (first | refine blk_drewN ?_ _ | refine blk_drew ?_ | refine blk_alloc ?_ _)); refine blk_put (cs := #[.int .i64 0, .int .i64 0, .int .i64 0, .int .i64 0, .int .i64 0]) ?_ 0 _ rfl; (with_reducible repeat (first | refine blk_drewN ?_ _ | refine blk_drew ?_ | refine blk_alloc ?_ _)); exact BK417.out) : p := h
theorem qR36 {p : Prop} (h : p := by exact one_of HT_.out (by kernel_rfl)) : p := h
theorem qR37 {q0 q1 p : Prop} (x0 : q0) (x1 : q1) (h : q0 → q1 → p := by intro hx0_ hx1_; (with_reducible repeat (first | apply Kd.R_alloc | apply Kd.R_drewN | apply Kd.R_drew)); exact Kd.R_mono (Kd.R_far (p := ⟨gb249, 4, none⟩) (Kd.R_far (p := ⟨gb249, 3, none⟩) (Kd.R_far (p := ⟨gb249, 2, none⟩) (Kd.R_far (p := ⟨gb249, 1, none⟩) (Kd.R_far (p := ⟨gb249, 0, none⟩) (Kd.R_types hx0_ hx1_ (by decide)) (fun _ hk => hk.2) (.int .i64 t228)) (fun _ hk => hk.2) (.int .i64 x6_1)) (fun _ hk => hk.2) (.int .i64 t234)) (fun _ hk => hk.2) (.int .i64 t240)) (fun _ hk => hk.2) (.int .i64 t246)) (fun _ hk => ⟨hk.1.1.2, hk.1.2⟩)) : p := h x0 x1
theorem qR38 {q0 p : Prop} (x0 : q0) (h : q0 → p := by intro hx0_; (with_reducible repeat (first | apply Kd.R_alloc | apply Kd.R_drewN | apply Kd.R_drew)); exact Kd.R_mono hx0_ (fun _ hk => hk.1.2)) : p := h x0
theorem qR39 {p : Prop} (h : p := by (with_reducible repeat (first | refine blk_drewN ?_ _ | refine blk_drew ?_ | refine blk_alloc ?_ _)); refine blk_put (cs := #[.int .i64 t285, .int .i64 t286, .int .i64 0]) ?_ 2 _ rfl; (with_reducible repeat (first | refine blk_drewN ?_ _ | refine blk_drew ?_ | refine blk_alloc ?_ _)); refine blk_put (cs := #[.int .i64 t285, .int .i64 0, .int .i64 0]) ?_ 1 _ rfl; (with_reducible repeat (first | refine blk_drewN ?_ _ | refine blk_drew ?_ | refine blk_alloc ?_ _)); refine blk_put (cs := #[.int .i64 0, .int .i64 0, .int .i64 0]) ?_ 0 _ rfl; (with_reducible repeat (first | refine blk_drewN ?_ _ | refine blk_drew ?_ | refine blk_alloc ?_ _)); exact BK288.out) : p := h
theorem qR40 {p : Prop} (h : p := by simp only [putAll, Act.put, List.setIfInBounds_toArray, List.set_cons_zero, List.set_cons_succ]) : p := h
theorem qR41 {q0 p : Prop} (x0 : q0) (h : q0 → p := by intro hx0_; (with_reducible repeat (first | apply Kd.R_alloc | apply Kd.R_drewN | apply Kd.R_drew)); exact Kd.R_mono hx0_ (fun _ hk => ⟨hk.1, hk.2.1⟩)) : p := h x0
theorem qR42 {q0 p : Prop} (x0 : q0) (h : q0 → p := by intro hx0_; exact far_slice (IsS47.own_ne HI0.out hx0_ (by decide))) : p := h x0
theorem qR43 {p : Prop} (h : p := by (with_reducible repeat (first | apply Kd.R_alloc | apply Kd.R_drewN | apply Kd.R_drew)); exact Kd.R_mono HO486.out (fun _ hk => ⟨hk.1.1.1, ⟨hk.1.2, hk.2⟩⟩)) : p := h
theorem qR44 {p : Prop} (h : p := by repeat (first | exact HCr1.out | (with_reducible refine Kd.C_alloc ?_ _) | (with_reducible refine Kd.C_drewN ?_ _) | (with_reducible refine Kd.C_drew ?_))) : p := h
theorem qR45 {p : Prop} (h : p := by exact (Reps.one (show Kd.M (Kd.int .i64) _ _ _ a1 [.int .i64 a1] from rfl) (Reps.none _ _))) : p := h
theorem qR46 {p : Prop} (h : p := by repeat (first | (with_reducible exact HB.out) | apply pw_below_drewN | apply below_drew1 | exact HB.out)) : p := h
theorem qR47 {q0 p : Prop} (x0 : q0) (h : q0 → p := by intro hx0_; first | (rw [← show (l0.drop (x5_1 : Int).toNat).length = (l0.length - x5_1.toNat) from List.length_drop]; repeat (first | exact (Kd.C_below hx0_ HB.out) | (with_reducible refine Kd.C_alloc ?_ _) | (with_reducible refine Kd.C_drewN ?_ _) | (with_reducible refine Kd.C_drew ?_))) | (repeat (first | exact (Kd.C_below hx0_ HB.out) | (with_reducible refine Kd.C_alloc ?_ _) | (with_reducible refine Kd.C_drewN ?_ _) | (with_reducible refine Kd.C_drew ?_)))) : p := h x0
theorem qR48 {p : Prop} (h : p := by (with_reducible repeat (first | apply Kd.R_alloc | apply Kd.R_drewN | apply Kd.R_drew)); exact Kd.R_mono (Kd.R_far (p := ⟨gb288, 2, none⟩) (Kd.R_far (p := ⟨gb288, 1, none⟩) (Kd.R_far (p := ⟨gb288, 0, none⟩) (Kd.R_mono HO_5.out (fun k_ hk => (⟨hk, hk⟩ : _ ∧ k_ ≠ gb288))) (fun _ hk => hk.2) (.int .i64 t285)) (fun _ hk => hk.2) (.int .i64 t286)) (fun _ hk => hk.2) (.int .i64 t287)) (fun _ hk => hk.1)) : p := h
theorem qR49 {p : Prop} (h : p := by (with_reducible repeat (first | apply Kd.R_alloc | apply Kd.R_drewN | apply Kd.R_drew)); exact Kd.R_mono (Kd.R_far (p := ⟨gb288, 2, none⟩) (Kd.R_far (p := ⟨gb288, 1, none⟩) (Kd.R_far (p := ⟨gb288, 0, none⟩) (Kd.R_types HO_3.out BK288.out (by decide)) (fun _ hk => hk.2) (.int .i64 t285)) (fun _ hk => hk.2) (.int .i64 t286)) (fun _ hk => hk.2) (.int .i64 t287)) (fun _ hk => trivial)) : p := h
theorem qR50 {p : Prop} (h : p := by exact (Reps.one (show Kd.M (Kd.int .i64) _ _ _ a2 [.int .i64 a2] from rfl) (Reps.none _ _))) : p := h
theorem qR51 {q0 p : Prop} (x0 : q0) (h : q0 → p := by intro hx0_; exact Kd.R_after (ok := (fun _ => True)) (by (with_reducible repeat (first | apply Kd.R_alloc | apply Kd.R_drewN | apply Kd.R_drew)); exact Kd.R_mono hx0_ (fun _ hk => ⟨trivial, hk⟩)) hg hat) : p := h x0
theorem qR52 {p : Prop} (h : p := by exact done_of HT_.out (by kernel_rfl)) : p := h
theorem qR53 {p : Prop} (h : p := by first | rfl | (simp [errW_none, errW_some] <;> rfl) | (simp only [← hji92]; first | rfl | (simp [errW_none, errW_some] <;> rfl)) | (simp [*, errW_none, errW_some] <;> rfl)) : p := h
theorem qR54 {p : Prop} (h : p := by first | rfl | (simp [errW_none, errW_some] <;> rfl) | (simp only [← hji6]; first | rfl | (simp [errW_none, errW_some] <;> rfl)) | (simp [*, errW_none, errW_some] <;> rfl)) : p := h
theorem qR55 {p : Prop} (h : p := by (try simp only [List.map_toArray, List.map_cons, List.map_nil]); first | done | (simp only [hji92]; rfl) | rfl | (simp only [List.length_drop, List.length_take]; rfl)) : p := h
theorem qR56 {p : Prop} (h : p := by (try simp only [List.map_toArray, List.map_cons, List.map_nil]); first | done | (simp only [hji22]; rfl) | rfl | (simp only [List.length_drop, List.length_take]; rfl)) : p := h
theorem qR57 {p : Prop} (h : p := by exact below_step (below_step (below_step HBgL.out HBgp.out) HBgt.out) HBgm.out) : p := h
theorem qR58 {p : Prop} (h : p := by (with_reducible repeat (first | apply Kd.R_alloc | apply Kd.R_drewN | apply Kd.R_drew)); exact Kd.R_mono HO_2.out (fun _ hk => ⟨hk.1, hk.2.2⟩)) : p := h
theorem qR59 {p : Prop} (h : p := by have := HK1.out; have := HJ16.out; omega) : p := h
theorem qR60 {p : Prop} (h : p := by exact Kd.R_tight rfl HO489.out) : p := h
theorem qR61 {q0 p : Prop} (x0 : q0) (h : q0 → p := by intro hx0_; exact Kd.R_mono (Kd.R_keep (IsS47.apart (show IsS47 w0 _ g _ _ _ from (qR3)) (qR1 hx0_) (by decide)) hk (fun _ h => h.2)) (fun _ h => h.1)) : p := h x0
theorem qR62 {p : Prop} (h : p := by exact below_step (qR0) hb) : p := h
theorem qR63 {q0 p : Prop} (x0 : q0) (h : q0 → p := by intro hx0_; first | (refine Eq.mp (congrArg (fun z_ => ReadsRow _ _ _ _ z_ _) (show (l0.take (x5_1 : Int).toNat).length = x5_1.toNat from (by rw [List.length_take]; have h_ : (x5_1 : Int) ≤ (l0.length : Int) := of_decide_eq_true (qR8); omega))) ?_; repeat (first | exact (Kd.C_below hx0_ HB.out) | (with_reducible refine Kd.C_alloc ?_ _) | (with_reducible refine Kd.C_drewN ?_ _) | (with_reducible refine Kd.C_drew ?_))) | (repeat (first | exact (Kd.C_below hx0_ HB.out) | (with_reducible refine Kd.C_alloc ?_ _) | (with_reducible refine Kd.C_drewN ?_ _) | (with_reducible refine Kd.C_drew ?_)))) : p := h x0
theorem qR64 {q0 p : Prop} (x0 : q0) (h : q0 → p := by intro hx0_; exact Kd.R_below (qR1 hx0_) hb) : p := h x0
theorem qR65 {q0 q1 p : Prop} (x0 : q0) (x1 : q1) (h : q0 → q1 → p := by intro hx0_ hx1_; exact Kd.R_elder' (qR1 hx0_) (Kd.R_base hx1_) hb) : p := h x0 x1
theorem qR66 {p : Prop} (h : p := by exact KeepBut.trans (qR4) hk (.inl rfl)) : p := h
theorem qR67 {p : Prop} (h : p := by first | exact HK.out.1 | exact (show Kept w _ (fun k_ => P2_ k_) from (qR17)).1) : p := h
theorem qR68 {q0 p : Prop} (x0 : q0) (h : q0 → p := by intro hx0_; have := hx0_; have hlx_ := (show (l0.take (x5_1 : Int).toNat).length = x5_1.toNat from (by rw [List.length_take]; have h_ : (x5_1 : Int) ≤ (l0.length : Int) := of_decide_eq_true (qR8); omega)); omega) : p := h x0
theorem qR69 {p : Prop} (h : p := by exact KeepBut.trans (qR4) (KeepBut.of_below hb g none) (.inl rfl)) : p := h
theorem qR70 {q0 p : Prop} (x0 : q0) (h : q0 → p := by intro hx0_; exact Kd.R_lower hx0_ (below_size (qR0))) : p := h x0
theorem qR71 {p : Prop} (h : p := by exact (by rw [hg]; exact (below_size (qR0)) : w.heap.size ≤ gb436)) : p := h
theorem qR72 {p : Prop} (h : p := by exact (by rw [hg]; exact (below_size (qR0)) : w.heap.size ≤ gb410)) : p := h
theorem qR73 {q0 q1 p : Prop} (x0 : q0) (x1 : q1) (h : q0 → q1 → p := by intro hx0_ hx1_; exact Kd.R_lower (Kd.R_new' hx0_ (Kd.R_lt (qR1 hx1_))) (below_size (qR0))) : p := h x0 x1
theorem qR74 {q0 q1 p : Prop} (x0 : q0) (x1 : q1) (h : q0 → q1 → p := by intro hx0_ hx1_; exact Kd.R_over' (qR1 hx0_) (Kd.R_typed (qR1 hx1_)) (by decide) hg) : p := h x0 x1
theorem qR75 {p : Prop} (h : p := by exact Kd.R_after (ok := (fun k_ => (P2_ k_ ∨ w.heap.size ≤ k_) ∧ some k_ ≠ (.slice (some ad475) l2.length co12 : Value).ownBlock)) (qR1 HO_15.out) hg hat) : p := h
theorem qR76 {q0 p : Prop} (x0 : q0) (h : q0 → p := by intro hx0_; exact (fun k_ hk => Kd.fresh' (Kd.R_lt (qR1 hx0_)) k_ hk)) : p := h x0
theorem qR77 {q0 q1 p : Prop} (x0 : q0) (x1 : q1) (h : q0 → q1 → p := by intro hx0_ hx1_; exact Kd.C_kept_call hx0_ (qR17) (fun k_ hs_ => (fun e_ => (hx1_.1 k_ e_.symm).1) hs_)) : p := h x0 x1
theorem qR78 {q0 p : Prop} (x0 : q0) (h : q0 → p := by intro hx0_; repeat (first | exact (Kd.C_below hx0_ (qR0)) | (with_reducible refine Kd.C_alloc ?_ _) | (with_reducible refine Kd.C_drewN ?_ _) | (with_reducible refine Kd.C_drew ?_))) : p := h x0
theorem qR79 {q0 p : Prop} (x0 : q0) (h : q0 → p := by intro hx0_; exact Kd.R_mono (Kd.R_keep (IsS47.apart (show IsS47 w _ gb592 l0 x593001_6 x593002_6 from (qR19)) (qR1 hx0_) (by decide)) hk (fun _ h => h.2)) (fun _ h => h.1)) : p := h x0
theorem qR80 {q0 p : Prop} (x0 : q0) (h : q0 → p := by intro hx0_; exact Kd.R_mono (Kd.R_keep (IsS47.apart (show IsS47 w _ gb592 l0 t611 t612 from (qR19)) (qR1 hx0_) (by decide)) hk (fun _ h => h.2)) (fun _ h => h.1)) : p := h x0
theorem qR81 {p : Prop} (h : p := by exact Kd.R_after (ok := (fun k_ => (P2_ k_ ∨ w.heap.size ≤ k_) ∧ some k_ ≠ (u15 : Value).ownBlock)) (qR1 HO_2.out) hg hat) : p := h
theorem qR82 {p : Prop} (h : p := by exact IsS47.below (qR3) hb) : p := h
theorem qR83 {p : Prop} (h : p := by exact Kept.then_ (S := (fun k_ => P2_ k_)) (qR17) hkp (fun k_ hs_ => (fun e_ => (HO489.out.1 k_ e_.symm).1) hs_)) : p := h
theorem qR84 {p : Prop} (h : p := by exact (below_size (qR0))) : p := h
theorem qR85 {p : Prop} (h : p := by exact (by rw [hg]; exact (below_size (qR0)) : w.heap.size ≤ gb424)) : p := h
theorem qR86 {q0 p : Prop} (x0 : q0) (h : q0 → p := by intro hx0_; exact KeepBut.trans (qR4) (KeepBut.of_grown hg g) (Kd.R_base2 hx0_)) : p := h x0
theorem qR87 {q0 p : Prop} (x0 : q0) (h : q0 → p := by intro hx0_; exact IsS47.grown (show IsS47 w0 _ g _ _ _ from (qR3)) hg (IsS47.own_ne HI0.out hx0_ (by decide))) : p := h x0
theorem qR88 {q0 p : Prop} (x0 : q0) (h : q0 → p := by intro hx0_; exact Kd.R_after (ok := (fun _ => True)) (qR1 hx0_) hg hat) : p := h x0
theorem qR89 {p : Prop} (h : p := by exact Kept.of_grown (S := (fun k_ => P2_ k_)) hg (qR17) (fun k_ e_ => (HO486.out.1 k_ e_).1.1.1)) : p := h
theorem qR90 {q0 p : Prop} (x0 : q0) (h : q0 → p := by intro hx0_; exact Kd.R_lower hx0_ (keep_size (w := w) (g := g) (row := none) (qR4))) : p := h x0
theorem qR91 {q0 p : Prop} (x0 : q0) (h : q0 → p := by intro hx0_; exact Kd.R_mono (Kd.R_keep (IsS47.apart (show IsS47 w _ gb592 l0 x593001_2 x593002_2 from (qR19)) (qR1 hx0_) (by decide)) hk (fun _ h => h.2)) (fun _ h => h.1)) : p := h x0
theorem qR92 {q0 p : Prop} (x0 : q0) (h : q0 → p := by intro hx0_; exact Kd.R_mono (Kd.R_keep (IsS47.apart (show IsS47 w _ gb592 l0 t605 t606 from (qR19)) (qR1 hx0_) (by decide)) hk (fun _ h => h.2)) (fun _ h => h.1)) : p := h x0
theorem qR93 {q0 p : Prop} (x0 : q0) (h : q0 → p := by intro hx0_; exact Kd.R_mono (Kd.R_keep (IsS47.apart (show IsS47 w _ gb387 l0 t400 t401 from (qR30)) (qR1 hx0_) (by decide)) hk (fun _ h => h.2)) (fun _ h => h.1)) : p := h x0
theorem qR94 {p : Prop} (h : p := by exact (keep_size (w := w) (g := g) (row := none) (qR4))) : p := h
theorem qR95 {q0 q1 p : Prop} (x0 : q0) (x1 : q1) (h : q0 → q1 → p := by intro hx0_ hx1_; exact Kd.R_lower (Kd.R_new' hx0_ (Kd.R_lt (qR1 hx1_))) (keep_size (w := w) (g := g) (row := none) (qR4))) : p := h x0 x1
theorem qR96 {p : Prop} (h : p := by exact Kept.below (S := (fun k_ => P2_ k_)) (qR17) hb) : p := h
theorem qR97 {p : Prop} (h : p := by exact (by rw [hg]; exact (below_size (qR0)) : w.heap.size ≤ gb417)) : p := h
theorem qR98 {p : Prop} (h : p := by exact (Nat.le_trans HW0.out (by rw [hg]; exact (keep_size (w := w) (g := g) (row := none) (qR4)) : w.heap.size ≤ gb288) : w0.heap.size ≤ gb288)) : p := h
theorem qR99 {p : Prop} (h : p := by exact (keep_size (w := w) (g := g) (row := none) (qR15 GW249.out))) : p := h
theorem qR100 {p : Prop} (h : p := by exact (by rw [hg]; exact Nat.ne_of_lt (IsS47.lt (show IsS47 w0 _ g _ _ _ from (qR3))) : g ≠ gb288)) : p := h
theorem qR101 {p : Prop} (h : p := by exact (by rw [hg]; exact Nat.ne_of_gt (IsS47.lt (show IsS47 w0 _ g _ _ _ from (qR3))) : gb288 ≠ g)) : p := h
theorem qR102 {p : Prop} (h : p := by exact (by rw [hg]; exact (keep_size (w := w) (g := g) (row := none) (qR4)) : w.heap.size ≤ gb288)) : p := h
theorem qR103 {q0 p : Prop} (x0 : q0) (h : q0 → p := by intro hx0_; exact Kd.R_mono (Kd.R_keep (IsS47.apart (show IsS47 w _ gb592 l0 t602 t603 from (qR19)) (qR1 hx0_) (by decide)) hk (fun _ h => h.2)) (fun _ h => h.1)) : p := h x0
theorem qR104 {q0 p : Prop} (x0 : q0) (h : q0 → p := by intro hx0_; exact Kd.R_mono (Kd.R_keep (IsS47.apart (show IsS47 w _ gb592 l0 t599 t600 from (qR19)) (qR1 hx0_) (by decide)) hk (fun _ h => h.2)) (fun _ h => h.1)) : p := h x0
theorem qR105 {q0 p : Prop} (x0 : q0) (h : q0 → p := by intro hx0_; exact Kd.R_mono (Kd.R_keep (IsS47.apart (show IsS47 w _ gb387 l0 t397 t398 from (qR30)) (qR1 hx0_) (by decide)) hk (fun _ h => h.2)) (fun _ h => h.1)) : p := h x0
theorem qR106 {q0 p : Prop} (x0 : q0) (h : q0 → p := by intro hx0_; exact Kd.R_mono (Kd.R_keep (IsS47.apart (show IsS47 w _ gb387 l0 t394 t395 from (qR30)) (qR1 hx0_) (by decide)) hk (fun _ h => h.2)) (fun _ h => h.1)) : p := h x0
theorem qR107 {p : Prop} (h : p := by exact Kd.R_below (Kd.R_elderB (qR1 HO_5.out) gb288 (Nat.le_of_eq hg.symm)) hb) : p := h
theorem qR108 {p : Prop} (h : p := by exact Kd.R_lower (Kd.R_new' (Kd.R_new' (Kd.R_newM (M := fun k_ => (P2_ k_ ∨ w.heap.size ≤ k_)) ho0 (qR67) (fun k_ h_ => .inr h_)) (Kd.R_lt (qR1 HO_2.out))) (Kd.R_lt (qR1 HO_15.out))) (below_size (qR0))) : p := h
theorem qR109 {p : Prop} (h : p := by exact (fun k_ hk => ⟨(.inr (Nat.le_trans (qR67) hk)), Kd.fresh' (Kd.R_lt (qR1 HO_2.out)) k_ hk, Kd.fresh' (Kd.R_lt (qR1 HO_15.out)) k_ hk⟩)) : p := h
abbrev qRb0 : Array Bool := #[true, true, true, true, true, true, true, true, true, true, false]
abbrev qRb1 : Array Bool := #[false, false, false, false, false, false, false, false, false, false, false, false, false]
abbrev qRb2 : Array Bool := #[false, true, false, false, false, false, false, false, false, false, false, false, false]
abbrev qRb3 : Array Bool := #[false, true, true, false, false, false, false, false, false, false, false, false, false]
abbrev qRb4 : Array Bool := #[false, true, true, true, false, false, false, false, false, false, false, false, false]
abbrev qRb5 : Array Bool := #[false, true, true, true, false, true, false, false, false, false, false, false, false]
abbrev qRb6 : Array Bool := #[false, true, true, true, false, true, false, false, true, false, false, false, false]
abbrev qRb7 : Array Bool := #[false, true, true, true, false, true, false, false, true, true, false, false, false]
abbrev qRb8 : Array Bool := #[false, true, true, true, false, true, false, false, true, true, true, false, false]
abbrev qRb9 : Array Bool := #[true, true, true, true, true, true, true, false, true, true, true, false, false]
abbrev qRb10 : Array Bool := #[true, true, true, true, false, true, false, false, true, true, true, false, false]
abbrev qRb11 : Array Bool := #[false, true, true, true, false, true, true, false, true, true, true, false, false]
abbrev qRb12 : Array Bool := #[true, true, true, true, true, true, false, false, true, true, true, false, false]
abbrev qRb13 : Array Bool := #[true, true, true, true, false, true, true, false, true, true, true, false, false]
abbrev qRb14 : Array Bool := #[true, true, true, true, true, true, true, true, true, true, true, false, false]
abbrev qRb15 : Array Bool := #[true, true, true, true, true, true, true, true, true, true, true, true, false]
abbrev qRb16 : Array Bool := #[true, true, true, true, true, true, true, true, true, true, true, true, true]
abbrev qRb17 : Array Bool := #[false, false, false, false, false, false, false, false, false, false, false, false, false, false, false, false, false]
abbrev qRb18 : Array Bool := #[true, false, false, false, false, false, false, false, false, false, false, false, false, false, false, false, false]
abbrev qRb19 : Array Bool := #[true, true, false, false, false, false, false, false, false, false, false, false, false, false, false, false, false]
abbrev qRb20 : Array Bool := #[true, true, true, false, false, false, false, false, false, false, false, false, false, false, false, false, false]
abbrev qRb21 : Array Bool := #[true, true, true, true, false, false, false, false, false, false, false, false, false, false, false, false, false]
abbrev qRb22 : Array Bool := #[true, true, true, true, false, true, false, false, false, false, false, false, false, false, false, false, false]
abbrev qRb23 : Array Bool := #[true, true, true, true, false, true, true, false, false, false, false, false, false, false, false, false, false]
abbrev qRb24 : Array Bool := #[true, true, true, true, false, true, true, true, false, false, false, false, false, false, false, false, false]
abbrev qRb25 : Array Bool := #[true, true, true, true, false, true, true, true, true, false, false, false, false, false, false, false, false]
abbrev qRb26 : Array Bool := #[true, true, true, true, false, true, true, true, true, true, false, false, false, false, false, false, false]
abbrev qRb27 : Array Bool := #[true, true, true, true, true, true, true, true, true, true, false, false, false, false, false, false, false]
abbrev qRb28 : Array Bool := #[true, true, true, true, true, true, true, true, true, true, true, false, false, false, false, false, false]
abbrev qRb29 : Array Bool := #[true, true, true, true, true, true, true, true, true, true, true, true, false, false, false, false, false]
abbrev qRb30 : Array Bool := #[true, true, true, true, true, true, true, true, true, true, true, true, true, false, false, false, false]
abbrev qRb31 : Array Bool := #[true, true, true, true, true, true, true, true, true, true, true, true, true, true, false, false, false]
abbrev qRb32 : Array Bool := #[true, true, true, true, true, true, true, true, true, true, true, true, true, true, true, false, false]
abbrev qRb33 : Array Bool := #[true, true, true, true, true, true, true, true, true, true, true, true, true, true, true, true, false]
abbrev qRb34 : Array Bool := #[true, true, true, true, true, true, true, true, true, true, true, true, true, true, true, true, true]
end Go.Proofs.Ytoljdjgndogegaa.MR
