-- Written by a program of this session (wip/tight2.py). -- tight2
import Derived.Test.YtffdglecmjbolaaProg
import Derived.Below
import Derived.Deep.Draws
import Derived.Deep.AppendLies
import Derived.Maps.AppendAt
import Derived.OwnWalk
import Derived.Laws.BytesArg
import Derived.Laws.MakeOwn
import Derived.Laws.OwnMore
import Derived.Deep.OwnRows
import Derived.Tactics
import Derived.Lib.ConvBytes
import Derived.Laws.Slices
import Derived.WalkKit
import Derived.KernelRfl
import Derived.RowKit3
import Derived.Deep.LoopGhost
import Derived.Deep.QuietTactic
import Derived.BigQuiet
import Derived.WideLaws
import Derived.Deep.DeepCutAuto
import Derived.Deep.CutBlock
import Derived.Deep.RegionHeld3
import Derived.Laws.Rows
import Derived.Lib.AppendStr
import Derived.ArgAppend
import Derived.Laws.IdiomCopy
import Derived.OrdersHeld
import Derived.Laws.BitsLemmas
import Derived.RowKit
import Derived.Deep.RegionHeld3
import Derived.Laws.CopyOwn
import Derived.StillTailTactics
import Derived.Test.YtffdglecmjbolaaWWords
import Derived.Test.YtffdglecmjbolaaWLast
import Derived.Test.YtffdglecmjbolaaWTab
import Derived.Test.YtffdglecmjbolaaWQPut
import Derived.Test.YtffdglecmjbolaaWApart
import Derived.Test.YtffdglecmjbolaaWArr
import Derived.Test.YtffdglecmjbolaaWZeros
import Derived.Test.YtffdglecmjbolaaWFoot
import Derived.Test.YtffdglecmjbolaaWKept
import Derived.Test.YtffdglecmjbolaaWShare
import Derived.Test.YtffdglecmjbolaaWN
import Derived.Test.YtffdglecmjbolaaWEqStruct
import Derived.Test.YtffdglecmjbolaaWRepsOne
import Derived.Test.YtffdglecmjbolaaWInv
import Derived.Test.YtffdglecmjbolaaWGuard
import Derived.Test.YtffdglecmjbolaaWNEv
import Derived.Test.YtffdglecmjbolaaWMore
namespace Go.Proofs.Ytffdglecmjbolaa.MP
open Go.RowKit Go.Proofs.YtffdglecmjbolaaW.PrintWords Go.Proofs.YtffdglecmjbolaaW.PrintLast Go.Proofs.YtffdglecmjbolaaW.PrintMore
theorem qmono {p : Prop} (h : p := by
  repeat' first
  | (with_reducible first | apply ih0 | apply ih1 | apply ih2 | apply ih3 | apply ih4 | apply ih5 | apply ih6 | apply ih7 | apply ih8 | apply ih9)
  | (with_reducible first | apply m0 | apply m1 | apply m2 | apply m3 | apply m4 | apply m5 | apply m6 | apply m7 | apply m8 | apply m9 | apply m10 | apply m11 | apply m12 | apply m13 | apply m14 | apply m15 | apply m16 | apply m17 | apply m18 | apply m19 | apply m20 | apply m21 | apply m22 | apply m23 | apply m24 | apply m25)
  | (with_reducible exact LeO.refl _)
  | (with_reducible exact LeO.none _)
  | (with_reducible refine LeO.ite ?_ ?_)
  | (with_reducible refine LeO.bind ?_ (fun _ => ?_))
  | first | apply ih0 | apply ih1 | apply ih2 | apply ih3 | apply ih4 | apply ih5 | apply ih6 | apply ih7 | apply ih8 | apply ih9
  | exact LeO.none _
  | refine LeO.ite ?_ ?_
  | refine LeO.bind ?_ (fun _ => ?_)) : p := h
theorem bindA {α β : Type} {x : Option α} {f : α → Option β} {r : β} (h : x.bind f = some r) : ∃ a, Aside0 (x = some a) ∧ f a = some r := by
  obtain ⟨a, h1, h2⟩ := Option.bind_eq_some_iff.mp h
  exact ⟨a, ⟨h1⟩, h2⟩
theorem qP0 {p : Prop} (h : p := by repeat (first | (with_reducible first | exact HB.out | apply below_alloc | apply pw_below_drewN | apply below_drew1) | exact HB.out)) : p := h
theorem qP1 {q0 p : Prop} (x0 : q0) (h : q0 → p := by intro hx0_; (with_reducible repeat (first | apply Kd.R_alloc | apply Kd.R_drewN | apply Kd.R_drew)); exact hx0_) : p := h x0
theorem qP2 {p : Prop} (h : p := by (try simp only [List.map_toArray, List.map_cons, List.map_nil]); first | done | rfl | (simp only [List.length_drop, List.length_take]; rfl)) : p := h
theorem qP3 {p : Prop} (h : p := by repeat (first | (with_reducible first | exact HI0.out | apply IsS50.alloc | apply IsS50.drewN | apply IsS50.drew | apply IsS50.set_1 | apply IsS50.set_2) | exact HI0.out)) : p := h
theorem qP4 {q0 p : Prop} (x0 : q0) (h : q0 → p := by intro hx0_; repeat (first | exact (Kd.R_reads' hx0_).2.2 | (with_reducible refine Kd.C_alloc ?_ _) | (with_reducible refine Kd.C_drewN ?_ _) | (with_reducible refine Kd.C_drew ?_))) : p := h x0
theorem qP5 {q0 p : Prop} (x0 : q0) (h : q0 → p := by intro hx0_; repeat (first | (with_reducible first | exact HB.out | apply below_alloc | apply pw_below_drewN | apply below_drew1 | refine below_set ?_ hx0_) | exact HB.out)) : p := h x0
theorem qP6 {p : Prop} (h : p := by repeat (first | (with_reducible first | exact HK.out | apply KeepBut.set_ | apply keep_drewN | apply keep_drew | apply keep_alloc) | exact HK.out)) : p := h
theorem qP7 {p : Prop} (h : p := by repeat (first | (with_reducible first | exact HB.out | apply below_alloc | apply pw_below_drewN | apply below_drew1 | refine below_set ?_ (IsS50.ge HI0.out)) | exact HB.out)) : p := h
theorem qP8 {p : Prop} (h : p := by first | rfl | (simp [errW_none, errW_some] <;> rfl) | (simp [*, errW_none, errW_some] <;> rfl)) : p := h
theorem qP9 {q0 p : Prop} (x0 : q0) (h : q0 → p := by intro hx0_; (with_reducible repeat (first | refine blk_drewN ?_ _ | refine blk_drew ?_ | refine blk_alloc ?_ _)); exact hx0_) : p := h x0
theorem qP10 {q0 p : Prop} (x0 : q0) (h : q0 → p := by intro hx0_; first | (rw [hx0_]; with_reducible exact H) | (have H2_ := (Option.bind_some _ _).symm.trans H; rw [hx0_]; with_reducible exact H2_) | (have H2_ := (Option.bind_some _ _).symm.trans H; with_reducible exact H2_) | with_reducible exact H | (rw [hx0_]; exact H) | exact H) : p := h x0
theorem qP11 {p : Prop} (h : p := by exact any_of HT_.out (by kernel_rfl)) : p := h
theorem qP12 {p : Prop} (h : p := by first | (with_reducible assumption) | assumption) : p := h
theorem qP13 {q0 p : Prop} (x0 : q0) (h : q0 → p := by intro hx0_; repeat (first | exact (Kd.C_below hx0_ HB.out) | (with_reducible refine Kd.C_alloc ?_ _) | (with_reducible refine Kd.C_drewN ?_ _) | (with_reducible refine Kd.C_drew ?_))) : p := h x0
theorem qP14 {p : Prop} (h : p := by first | rfl | (simp; done) | (simp [*]; done)) : p := h
theorem qP15 {p : Prop} (h : p := by repeat (first | (with_reducible first | exact HI0.out | apply IsS50.alloc | apply IsS50.drewN | apply IsS50.drew | apply IsS50.set_1 | apply IsS50.set_2 | refine IsS50.far ?_ NB0_166.out _ | refine IsS50.far ?_ NB0_191.out _) | exact HI0.out)) : p := h
theorem qP16 {p : Prop} (h : p := by repeat (first | (with_reducible first | exact HK.out | apply KeepBut.set_ | apply keep_drewN | apply keep_drew | apply keep_alloc | refine keep_far ?_ GW166.out _ | refine keep_far ?_ GW191.out _) | exact HK.out)) : p := h
theorem qP17 {p : Prop} (h : p := by repeat (first | (with_reducible first | exact HB.out | apply below_alloc | apply pw_below_drewN | apply below_drew1 | refine below_set ?_ (IsS50.ge HI0.out) | refine below_set ?_ GE166.out | refine below_set ?_ GE191.out) | exact HB.out)) : p := h
theorem qP18 {q0 q1 p : Prop} (x0 : q0) (x1 : q1) (h : q0 → q1 → p := by intro hx0_ hx1_; repeat (first | (with_reducible first | exact HB.out | apply below_alloc | apply pw_below_drewN | apply below_drew1 | refine below_set ?_ hx0_ | refine below_set ?_ hx1_) | exact HB.out)) : p := h x0 x1
theorem qP19 {p : Prop} (h : p := by (with_reducible repeat (first | refine blk_drewN ?_ _ | refine blk_drew ?_ | refine blk_alloc ?_ _)); refine blk_put (cs := #[.int .i64 ((rd_T60 l0 x7_1).f0), .int .i64 ((rd_T60 l0 x7_1).f1), .int .i64 ((rd_T60 l0 x7_1).f2), .int .i64 ((rd_T60 l0 x7_1).f3), .int .i64 0]) ?_ 4 _ rfl; (with_reducible repeat (first | refine blk_drewN ?_ _ | refine blk_drew ?_ | refine blk_alloc ?_ _)); refine blk_put (cs := #[.int .i64 ((rd_T60 l0 x7_1).f0), .int .i64 ((rd_T60 l0 x7_1).f1), .int .i64 ((rd_T60 l0 x7_1).f2), .int .i64 0, .int .i64 0]) ?_ 3 _ rfl; (with_reducible repeat (first | refine blk_drewN ?_ _ | refine blk_drew ?_ | refine blk_alloc ?_ _)); refine blk_put (cs := #[.int .i64 ((rd_T60 l0 x7_1).f0), .int .i64 ((rd_T60 l0 x7_1).f1), .int .i64 0, .int .i64 0, .int .i64 0]) ?_ 2 _ rfl; (with_reducible repeat (first | refine blk_drewN ?_ _ | refine blk_drew ?_ | refine blk_alloc ?_ _)); refine blk_put (cs := #[.int .i64 ((rd_T60 l0 x7_1).f0), .int .i64 0, .int .i64 0, .int .i64 0, .int .i64 0]) ?_ 1 _ rfl; (with_reducible repeat (first | refine blk_drewN ?_ _ | refine blk_drew ?_ | refine blk_alloc ?_ _)); refine blk_put (cs := #[.int .i64 0, .int .i64 0, .int .i64 0, .int .i64 0, .int .i64 0]) ?_ 0 _ rfl; (with_reducible repeat (first | refine blk_drewN ?_ _ | refine blk_drew ?_ | refine blk_alloc ?_ _)); exact BK263.out) : p := h
theorem qP20 {q0 p : Prop} (x0 : q0) (h : q0 → p := by intro hx0_; repeat (first | (with_reducible exact hx0_) | (with_reducible refine Kd.C_alloc ?_ _) | (with_reducible refine Kd.C_drewN ?_ _) | (with_reducible refine Kd.C_drew ?_) | exact hx0_)) : p := h x0
theorem qP21 {p : Prop} (h : p := by repeat (first | (with_reducible first | exact HI0.out | apply IsS50.alloc | apply IsS50.drewN | apply IsS50.drew | apply IsS50.set_1 | apply IsS50.set_2 | refine IsS50.far ?_ NB0_166.out _) | exact HI0.out)) : p := h
theorem qP22 {q0 q1 p : Prop} (x0 : q0) (x1 : q1) (h : q0 → q1 → p := by intro hx0_ hx1_; (with_reducible repeat (first | refine blk_drewN ?_ _ | refine blk_drew ?_ | refine blk_alloc ?_ _)); refine blk_far ?_ hx0_ _; (with_reducible repeat (first | refine blk_drewN ?_ _ | refine blk_drew ?_ | refine blk_alloc ?_ _)); refine blk_far ?_ hx0_ _; (with_reducible repeat (first | refine blk_drewN ?_ _ | refine blk_drew ?_ | refine blk_alloc ?_ _)); refine blk_far ?_ hx0_ _; (with_reducible repeat (first | refine blk_drewN ?_ _ | refine blk_drew ?_ | refine blk_alloc ?_ _)); refine blk_far ?_ hx0_ _; (with_reducible repeat (first | refine blk_drewN ?_ _ | refine blk_drew ?_ | refine blk_alloc ?_ _)); refine blk_far ?_ hx0_ _; (with_reducible repeat (first | refine blk_drewN ?_ _ | refine blk_drew ?_ | refine blk_alloc ?_ _)); exact hx1_) : p := h x0 x1
theorem qP23 {p : Prop} (h : p := by first | (go_simp; done) | (go_simp; rfl)) : p := h
theorem qP24 {q0 p : Prop} (x0 : q0) (h : q0 → p := by intro hx0_; (with_reducible repeat (first | refine blk_drewN ?_ _ | refine blk_drew ?_ | refine blk_alloc ?_ _)); refine blk_put (cs := #[.int .i64 ((rd_T60 l0 x20_2).f0), .int .i64 ((rd_T60 l0 x20_2).f1), .int .i64 ((rd_T60 l0 x20_2).f2), .int .i64 ((rd_T60 l0 x20_2).f3), .int .i64 0]) ?_ 4 _ rfl; (with_reducible repeat (first | refine blk_drewN ?_ _ | refine blk_drew ?_ | refine blk_alloc ?_ _)); refine blk_put (cs := #[.int .i64 ((rd_T60 l0 x20_2).f0), .int .i64 ((rd_T60 l0 x20_2).f1), .int .i64 ((rd_T60 l0 x20_2).f2), .int .i64 0, .int .i64 0]) ?_ 3 _ rfl; (with_reducible repeat (first | refine blk_drewN ?_ _ | refine blk_drew ?_ | refine blk_alloc ?_ _)); refine blk_put (cs := #[.int .i64 ((rd_T60 l0 x20_2).f0), .int .i64 ((rd_T60 l0 x20_2).f1), .int .i64 0, .int .i64 0, .int .i64 0]) ?_ 2 _ rfl; (with_reducible repeat (first | refine blk_drewN ?_ _ | refine blk_drew ?_ | refine blk_alloc ?_ _)); refine blk_put (cs := #[.int .i64 ((rd_T60 l0 x20_2).f0), .int .i64 0, .int .i64 0, .int .i64 0, .int .i64 0]) ?_ 1 _ rfl; (with_reducible repeat (first | refine blk_drewN ?_ _ | refine blk_drew ?_ | refine blk_alloc ?_ _)); refine blk_put (cs := #[.int .i64 0, .int .i64 0, .int .i64 0, .int .i64 0, .int .i64 0]) ?_ 0 _ rfl; (with_reducible repeat (first | refine blk_drewN ?_ _ | refine blk_drew ?_ | refine blk_alloc ?_ _)); exact hx0_) : p := h x0
theorem qP25 {p : Prop} (h : p := by repeat (first | (with_reducible first | exact HK.out | apply KeepBut.set_ | apply keep_drewN | apply keep_drew | apply keep_alloc | refine keep_far ?_ GW166.out _) | exact HK.out)) : p := h
theorem qP26 {p : Prop} (h : p := by repeat (first | exact Drawn0.refl _ | apply Drawn0.step)) : p := h
theorem qP27 {q0 p : Prop} (x0 : q0) (h : q0 → p := by intro hx0_; exact (Kd.R_reads' hx0_).2.1) : p := h x0
theorem qP28 {q0 p : Prop} (x0 : q0) (h : q0 → p := by intro hx0_; repeat (first | exact hx0_ | (with_reducible refine Kd.C_alloc ?_ _) | (with_reducible refine Kd.C_drewN ?_ _) | (with_reducible refine Kd.C_drew ?_))) : p := h x0
theorem qP29 {p : Prop} (h : p := by repeat (first | (with_reducible first | exact HB.out | apply below_alloc | apply pw_below_drewN | apply below_drew1 | refine below_set ?_ (IsS50.ge HI0.out) | refine below_set ?_ GE166.out) | exact HB.out)) : p := h
theorem qP30 {p : Prop} (h : p := by repeat (first | (with_reducible first | exact HI397.out | apply IsS50.alloc | apply IsS50.drewN | apply IsS50.drew | apply IsS50.set_1 | apply IsS50.set_2) | exact HI397.out)) : p := h
theorem qP31 {p : Prop} (h : p := by repeat (first | (with_reducible first | exact HB.out | apply below_alloc | apply pw_below_drewN | apply below_drew1 | refine below_set ?_ (IsS50.ge HI397.out)) | exact HB.out)) : p := h
theorem qP32 {p : Prop} (h : p := by (with_reducible repeat (first | refine blk_drewN ?_ _ | refine blk_drew ?_ | refine blk_alloc ?_ _)); refine blk_put (cs := #[.int .i64 ((rd_T60 l0 x24_2).f0), .int .i64 ((rd_T60 l0 x24_2).f1), .int .i64 ((rd_T60 l0 x24_2).f2), .int .i64 ((rd_T60 l0 x24_2).f3), .int .i64 0]) ?_ 4 _ rfl; (with_reducible repeat (first | refine blk_drewN ?_ _ | refine blk_drew ?_ | refine blk_alloc ?_ _)); refine blk_put (cs := #[.int .i64 ((rd_T60 l0 x24_2).f0), .int .i64 ((rd_T60 l0 x24_2).f1), .int .i64 ((rd_T60 l0 x24_2).f2), .int .i64 0, .int .i64 0]) ?_ 3 _ rfl; (with_reducible repeat (first | refine blk_drewN ?_ _ | refine blk_drew ?_ | refine blk_alloc ?_ _)); refine blk_put (cs := #[.int .i64 ((rd_T60 l0 x24_2).f0), .int .i64 ((rd_T60 l0 x24_2).f1), .int .i64 0, .int .i64 0, .int .i64 0]) ?_ 2 _ rfl; (with_reducible repeat (first | refine blk_drewN ?_ _ | refine blk_drew ?_ | refine blk_alloc ?_ _)); refine blk_put (cs := #[.int .i64 ((rd_T60 l0 x24_2).f0), .int .i64 0, .int .i64 0, .int .i64 0, .int .i64 0]) ?_ 1 _ rfl; (with_reducible repeat (first | refine blk_drewN ?_ _ | refine blk_drew ?_ | refine blk_alloc ?_ _)); refine blk_put (cs := #[.int .i64 0, .int .i64 0, .int .i64 0, .int .i64 0, .int .i64 0]) ?_ 0 _ rfl; (with_reducible repeat (first | refine blk_drewN ?_ _ | refine blk_drew ?_ | refine blk_alloc ?_ _)); exact BK418.out) : p := h
theorem qP33 {p : Prop} (h : p := by (with_reducible repeat (first | refine blk_drewN ?_ _ | refine blk_drew ?_ | refine blk_alloc ?_ _)); refine blk_put (cs := #[.int .i64 ((rd_T55 l0 x7_1).f0), .int .i64 ((rd_T55 l0 x7_1).f1), .int .i64 ((rd_T55 l0 x7_1).f2), .int .i64 ((rd_T55 l0 x7_1).f3), .int .i64 0]) ?_ 4 _ rfl; (with_reducible repeat (first | refine blk_drewN ?_ _ | refine blk_drew ?_ | refine blk_alloc ?_ _)); refine blk_put (cs := #[.int .i64 ((rd_T55 l0 x7_1).f0), .int .i64 ((rd_T55 l0 x7_1).f1), .int .i64 ((rd_T55 l0 x7_1).f2), .int .i64 0, .int .i64 0]) ?_ 3 _ rfl; (with_reducible repeat (first | refine blk_drewN ?_ _ | refine blk_drew ?_ | refine blk_alloc ?_ _)); refine blk_put (cs := #[.int .i64 ((rd_T55 l0 x7_1).f0), .int .i64 ((rd_T55 l0 x7_1).f1), .int .i64 0, .int .i64 0, .int .i64 0]) ?_ 2 _ rfl; (with_reducible repeat (first | refine blk_drewN ?_ _ | refine blk_drew ?_ | refine blk_alloc ?_ _)); refine blk_put (cs := #[.int .i64 ((rd_T55 l0 x7_1).f0), .int .i64 0, .int .i64 0, .int .i64 0, .int .i64 0]) ?_ 1 _ rfl; (with_reducible repeat (first | refine blk_drewN ?_ _ | refine blk_drew ?_ | refine blk_alloc ?_ _)); refine blk_put (cs := #[.int .i64 0, .int .i64 0, .int .i64 0, .int .i64 0, .int .i64 0]) ?_ 0 _ rfl; (with_reducible repeat (first | refine blk_drewN ?_ _ | refine blk_drew ?_ | refine blk_alloc ?_ _)); exact BK274.out) : p := h
theorem qP34 {p : Prop} (h : p := by (with_reducible repeat (first | refine blk_drewN ?_ _ | refine blk_drew ?_ | refine blk_alloc ?_ _)); refine blk_put (cs := #[.int .i64 t353, .int .i64 t354, .int .i64 t355, .int .i64 t356, .int .i64 0]) ?_ 4 _ rfl; (with_reducible repeat (first | refine blk_drewN ?_ _ | refine blk_drew ?_ | refine blk_alloc ?_ _)); refine blk_put (cs := #[.int .i64 t353, .int .i64 t354, .int .i64 t355, .int .i64 0, .int .i64 0]) ?_ 3 _ rfl; (with_reducible repeat (first | refine blk_drewN ?_ _ | refine blk_drew ?_ | refine blk_alloc ?_ _)); refine blk_put (cs := #[.int .i64 t353, .int .i64 t354, .int .i64 0, .int .i64 0, .int .i64 0]) ?_ 2 _ rfl; (with_reducible repeat (first | refine blk_drewN ?_ _ | refine blk_drew ?_ | refine blk_alloc ?_ _)); refine blk_put (cs := #[.int .i64 t353, .int .i64 0, .int .i64 0, .int .i64 0, .int .i64 0]) ?_ 1 _ rfl; (with_reducible repeat (first | refine blk_drewN ?_ _ | refine blk_drew ?_ | refine blk_alloc ?_ _)); refine blk_put (cs := #[.int .i64 0, .int .i64 0, .int .i64 0, .int .i64 0, .int .i64 0]) ?_ 0 _ rfl; (with_reducible repeat (first | refine blk_drewN ?_ _ | refine blk_drew ?_ | refine blk_alloc ?_ _)); exact BK359.out) : p := h
theorem qP35 {p : Prop} (h : p := by exact one_of HT_.out (by kernel_rfl)) : p := h
theorem qP36 {q0 p : Prop} (x0 : q0) (h : q0 → p := by intro hx0_; (with_reducible repeat (first | apply Kd.R_alloc | apply Kd.R_drewN | apply Kd.R_drew)); exact Kd.R_mono hx0_ (fun _ hk => trivial)) : p := h x0
theorem qP37 {p : Prop} (h : p := by repeat (first | (with_reducible first | exact HB.out | apply below_alloc | apply pw_below_drewN | apply below_drew1 | refine below_set ?_ (IsS50.ge HI333.out)) | exact HB.out)) : p := h
theorem qP38 {p : Prop} (h : p := by repeat (first | (with_reducible first | exact HB.out | apply below_alloc | apply pw_below_drewN | apply below_drew1 | refine below_set ?_ (IsS50.ge HI244.out)) | exact HB.out)) : p := h
theorem qP39 {p : Prop} (h : p := by exact Kd.R_below (by (with_reducible repeat (first | apply Kd.R_alloc | apply Kd.R_drewN | apply Kd.R_drew)); exact (Kd.R_mono (Kd.R_far (p := ⟨gb418, 4, none⟩) (Kd.R_far (p := ⟨gb418, 3, none⟩) (Kd.R_far (p := ⟨gb418, 2, none⟩) (Kd.R_far (p := ⟨gb418, 1, none⟩) (Kd.R_far (p := ⟨gb418, 0, none⟩) (Kd.R_types HO_8.out BK418.out (by decide)) (fun _ hk => hk.2) (.int .i64 ((rd_T60 l0 x24_2).f0))) (fun _ hk => hk.2) (.int .i64 ((rd_T60 l0 x24_2).f1))) (fun _ hk => hk.2) (.int .i64 ((rd_T60 l0 x24_2).f2))) (fun _ hk => hk.2) (.int .i64 ((rd_T60 l0 x24_2).f3))) (fun _ hk => hk.2) (.int .i64 ((rd_T60 l0 x24_2).f4))) (fun _ h_ => h_.1))) hb) : p := h
theorem qP40 {p : Prop} (h : p := by (with_reducible repeat (first | apply Kd.R_alloc | apply Kd.R_drewN | apply Kd.R_drew)); exact Kd.R_mono (Kd.R_far (p := ⟨gb359, 4, none⟩) (Kd.R_far (p := ⟨gb359, 3, none⟩) (Kd.R_far (p := ⟨gb359, 2, none⟩) (Kd.R_far (p := ⟨gb359, 1, none⟩) (Kd.R_far (p := ⟨gb359, 0, none⟩) (Kd.R_mono HO_6.out (fun k_ hk => (⟨hk, hk.2⟩ : _ ∧ k_ ≠ gb359))) (fun _ hk => hk.2) (.int .i64 t353)) (fun _ hk => hk.2) (.int .i64 t354)) (fun _ hk => hk.2) (.int .i64 t355)) (fun _ hk => hk.2) (.int .i64 t356)) (fun _ hk => hk.2) (.int .i64 t357)) (fun _ hk => ⟨hk.1.1.2, hk.1.2⟩)) : p := h
theorem qP41 {q0 p : Prop} (x0 : q0) (h : q0 → p := by intro hx0_; exact far_slice (IsS50.own_ne HI0.out hx0_ (by decide))) : p := h x0
theorem qP42 {p : Prop} (h : p := by exact show ((ji23) : Int).toNat ≤ t472.length from by omega) : p := h
theorem qP43 {p : Prop} (h : p := by exact done_of HT_.out (by kernel_rfl)) : p := h
theorem qP44 {q0 p : Prop} (x0 : q0) (h : q0 → p := by intro hx0_; (with_reducible repeat (first | apply Kd.R_alloc | apply Kd.R_drewN | apply Kd.R_drew)); exact Kd.R_mono hx0_ (fun _ hk => ⟨hk.1.1, hk.1.2⟩)) : p := h x0
theorem qP45 {p : Prop} (h : p := by repeat (first | (with_reducible first | exact HB.out | apply below_alloc | apply pw_below_drewN | apply below_drew1 | refine below_set ?_ (IsS50.ge HI440.out)) | exact HB.out)) : p := h
theorem qP46 {p : Prop} (h : p := by repeat (first | (with_reducible first | exact HI333.out | apply IsS50.alloc | apply IsS50.drewN | apply IsS50.drew | apply IsS50.set_1 | apply IsS50.set_2) | exact HI333.out)) : p := h
theorem qP47 {p : Prop} (h : p := by repeat (first | (with_reducible first | exact HI244.out | apply IsS50.alloc | apply IsS50.drewN | apply IsS50.drew | apply IsS50.set_1 | apply IsS50.set_2) | exact HI244.out)) : p := h
theorem qP48 {p : Prop} (h : p := by first | rfl | (simp [errW_none, errW_some] <;> rfl) | (simp only [← hji23]; first | rfl | (simp [errW_none, errW_some] <;> rfl)) | (simp [*, errW_none, errW_some] <;> rfl)) : p := h
theorem qP49 {p : Prop} (h : p := by exact Below.trans (below_alloc (below_alloc (Below.refl w.heap.size w) (.cells #[.int .i64 a1] 3 (0, 0))) (.cells #[.int .i64 0, .int .i64 0, .int .i64 0, .int .i64 0, .int .i64 0] 60 (0, 0))) (hb.mono (below_alloc (below_alloc (Below.refl w.heap.size w) _) _).size)) : p := h
theorem qP50 {p : Prop} (h : p := by exact blk_below (heap_alloc2_new w (.cells #[.int .i64 a1] 3 (0, 0)) (.cells #[.int .i64 0, .int .i64 0, .int .i64 0, .int .i64 0, .int .i64 0] 60 (0, 0))) hb) : p := h
theorem qP51 {p : Prop} (h : p := by (with_reducible repeat (first | apply Kd.R_alloc | apply Kd.R_drewN | apply Kd.R_drew)); exact Kd.R_mono HO508.out (fun _ hk => ⟨hk.1.1.2, hk.1.2⟩)) : p := h
theorem qP52 {p : Prop} (h : p := by exact show y485.length ≤ co10 from by omega) : p := h
theorem qP53 {p : Prop} (h : p := by rw [Ny492.out, List.length_drop] <;> omega) : p := h
theorem qP54 {p : Prop} (h : p := by rw [Ny485.out, List.length_take]; omega) : p := h
theorem qP55 {p : Prop} (h : p := by simp only [putAll, Act.put, List.setIfInBounds_toArray, List.set_cons_zero, List.set_cons_succ]) : p := h
theorem qP56 {q0 p : Prop} (x0 : q0) (h : q0 → p := by intro hx0_; exact Kd.R_mono (Kd.R_keep (IsS50.apart (show IsS50 w0 _ g _ _ _ from (qP3)) (qP1 hx0_) (by decide)) hk (fun _ h => h.2)) (fun _ h => h.1)) : p := h x0
theorem qP57 {p : Prop} (h : p := by exact below_step (qP0) hb) : p := h
theorem qP58 {q0 q1 p : Prop} (x0 : q0) (x1 : q1) (h : q0 → q1 → p := by intro hx0_ hx1_; exact Kd.R_elder' (qP1 hx0_) (Kd.R_base hx1_) hb) : p := h x0 x1
theorem qP59 {q0 p : Prop} (x0 : q0) (h : q0 → p := by intro hx0_; exact Kd.R_below (qP1 hx0_) hb) : p := h x0
theorem qP60 {q0 p : Prop} (x0 : q0) (h : q0 → p := by intro hx0_; repeat (first | exact (qP20 hx0_) | (with_reducible refine Kd.C_alloc ?_ _) | (with_reducible refine Kd.C_drewN ?_ _) | (with_reducible refine Kd.C_drew ?_))) : p := h x0
theorem qP61 {p : Prop} (h : p := by exact KeepBut.trans (qP6) hk (.inl rfl)) : p := h
theorem qP62 {p : Prop} (h : p := by exact Kd.R_lower (Kd.R_new' (Kd.R_new' (Kd.R_new' (Kd.R_new' ho0 (Kd.R_lt (qP1 HO_18.out))) (Kd.R_lt (qP1 HO_19.out))) (Kd.R_lt (qP1 HO_20.out))) (Kd.R_lt (qP1 HO517.out))) (below_size (qP0))) : p := h
theorem qP63 {p : Prop} (h : p := by exact (by rw [hg]; exact (below_size (qP0)) : w.heap.size ≤ gb309)) : p := h
theorem qP64 {p : Prop} (h : p := by exact (by rw [hg]; exact (below_size (qP0)) : w.heap.size ≤ gb267)) : p := h
theorem qP65 {p : Prop} (h : p := by exact (fun k_ hk => ⟨Kd.freshB (g := gb352) (o := .cells #[.int .i64 t346, .int .i64 t347, .int .i64 t348, .int .i64 t349, .int .i64 t350] 60 (0, 0)) (qP9 BK352.out) k_ hk, Kd.freshB (g := gb359) (o := .cells #[.int .i64 t353, .int .i64 t354, .int .i64 t355, .int .i64 t356, .int .i64 t357] 60 (0, 0)) (qP9 BK359.out) k_ hk⟩)) : p := h
theorem qP66 {p : Prop} (h : p := by exact Kd.R_lower (Kd.R_new' (Kd.R_new' (Kd.R_new' ho0 (Kd.R_lt (qP1 HO_18.out))) (Kd.R_lt (qP1 HO_19.out))) (Kd.R_lt (qP1 HO_20.out))) (below_size (qP0))) : p := h
theorem qP67 {p : Prop} (h : p := by exact (by rw [hg]; exact (below_size (qP0)) : w.heap.size ≤ gb298)) : p := h
theorem qP68 {p : Prop} (h : p := by exact (by rw [hg]; exact (below_size (qP0)) : w.heap.size ≤ gb256)) : p := h
theorem qP69 {p : Prop} (h : p := by exact KeepBut.trans (qP6) (KeepBut.of_below hb g none) (.inl rfl)) : p := h
theorem qP70 {p : Prop} (h : p := by exact (by rw [hg]; exact (below_size (qP0)) : w.heap.size ≤ gb263)) : p := h
theorem qP71 {q0 p : Prop} (x0 : q0) (h : q0 → p := by intro hx0_; exact Kd.R_lower hx0_ (below_size (qP0))) : p := h x0
theorem qP72 {p : Prop} (h : p := by exact IsS50.grown (show IsS50 w0 _ g _ _ _ from (qP3)) hg (IsS50.own_ne HI0.out HO_3.out (by decide))) : p := h
theorem qP73 {q0 p : Prop} (x0 : q0) (h : q0 → p := by intro hx0_; exact Kd.R_mono (Kd.R_keep (IsS50.apart (show IsS50 w _ gb397 l0 t407 t408 from (qP30)) (qP1 hx0_) (by decide)) hk (fun _ h => h.2)) (fun _ h => h.1)) : p := h x0
theorem qP74 {p : Prop} (h : p := by exact KeepBut.trans (qP6) (KeepBut.of_grown hg g) (Kd.R_base2 HO_3.out)) : p := h
theorem qP75 {q0 q1 p : Prop} (x0 : q0) (x1 : q1) (h : q0 → q1 → p := by intro hx0_ hx1_; exact Kd.R_over' (qP1 hx0_) (Kd.R_typed (qP1 hx1_)) (by decide) hg) : p := h x0 x1
theorem qP76 {p : Prop} (h : p := by exact IsS50.below (qP3) hb) : p := h
theorem qP77 {p : Prop} (h : p := by exact (by rw [hg]; exact (below_size (qP0)) : w.heap.size ≤ gb418)) : p := h
theorem qP78 {p : Prop} (h : p := by exact (by rw [hg]; exact (below_size (qP0)) : w.heap.size ≤ gb415)) : p := h
theorem qP79 {p : Prop} (h : p := by exact (by rw [hg]; exact (below_size (qP0)) : w.heap.size ≤ gb274)) : p := h
theorem qP80 {p : Prop} (h : p := by exact (keep_size (w := w) (g := g) (row := none) (qP6))) : p := h
theorem qP81 {p : Prop} (h : p := by exact Kd.R_lower (Kd.R_new' ho0 (Kd.R_lt (qP1 HO_31.out))) (below_size (qP0))) : p := h
theorem qP82 {q0 p : Prop} (x0 : q0) (h : q0 → p := by intro hx0_; exact Kd.R_lower hx0_ (keep_size (w := w) (g := g) (row := none) (qP6))) : p := h x0
theorem qP83 {q0 p : Prop} (x0 : q0) (h : q0 → p := by intro hx0_; repeat (first | exact (Kd.C_below hx0_ (qP0)) | (with_reducible refine Kd.C_alloc ?_ _) | (with_reducible refine Kd.C_drewN ?_ _) | (with_reducible refine Kd.C_drew ?_))) : p := h x0
theorem qP84 {p : Prop} (h : p := by rw [hg]; exact (below_size (qP0))) : p := h
theorem qP85 {q0 p : Prop} (x0 : q0) (h : q0 → p := by intro hx0_; exact Kd.R_mono (Kd.R_keep (IsS50.apart (show IsS50 w _ gb397 l0 t401 t402 from (qP30)) (qP1 hx0_) (by decide)) hk (fun _ h => h.2)) (fun _ h => h.1)) : p := h x0
theorem qP86 {p : Prop} (h : p := by exact (below_size (qP0))) : p := h
theorem qP87 {p : Prop} (h : p := by exact (below_size (qP18 GE352.out GE359.out))) : p := h
theorem qP88 {p : Prop} (h : p := by exact Kd.R_below (Kd.R_elderB (qP1 HO_6.out) gb379 (Nat.le_of_eq hg.symm)) hb) : p := h
theorem qP89 {p : Prop} (h : p := by exact Kd.R_below (Kd.R_elderB (qP1 HO_6.out) gb378 (Nat.le_of_eq hg.symm)) hb) : p := h
abbrev qPb0 : Array Bool := #[false, false, false, false, false, false, false, false, false, false, false, false, false, false, false, false, false, false]
abbrev qPb1 : Array Bool := #[true, false, false, false, false, false, false, false, false, false, false, false, false, false, false, false, false, false]
abbrev qPb2 : Array Bool := #[true, true, false, false, false, false, false, false, false, false, false, false, false, false, false, false, false, false]
abbrev qPb3 : Array Bool := #[true, true, true, false, false, false, false, false, false, false, false, false, false, false, false, false, false, false]
abbrev qPb4 : Array Bool := #[true, true, true, true, false, false, false, false, false, false, false, false, false, false, false, false, false, false]
abbrev qPb5 : Array Bool := #[true, true, true, true, true, false, false, false, false, false, false, false, false, false, false, false, false, false]
abbrev qPb6 : Array Bool := #[true, true, true, true, true, true, false, false, false, false, false, false, false, false, false, false, false, false]
abbrev qPb7 : Array Bool := #[true, true, true, true, true, true, true, false, false, false, false, false, false, false, false, false, false, false]
abbrev qPb8 : Array Bool := #[true, true, true, true, true, true, true, true, false, false, false, false, false, false, false, false, false, false]
abbrev qPb9 : Array Bool := #[true, true, true, true, true, true, true, true, true, false, false, false, false, false, false, false, false, false]
abbrev qPb10 : Array Bool := #[true, true, true, true, true, true, true, true, true, true, false, false, false, false, false, false, false, false]
abbrev qPb11 : Array Bool := #[true, true, true, true, true, true, true, true, true, true, true, false, false, false, false, false, false, false]
abbrev qPb12 : Array Bool := #[true, true, true, true, true, true, true, true, true, true, true, true, false, false, false, false, false, false]
abbrev qPb13 : Array Bool := #[true, true, true, true, true, true, true, true, true, true, true, true, false, true, false, false, false, false]
abbrev qPb14 : Array Bool := #[true, true, true, true, true, true, true, true, true, true, true, true, true, true, false, false, false, false]
abbrev qPb15 : Array Bool := #[true, true, true, true, true, true, true, true, true, true, true, true, true, true, true, false, false, false]
abbrev qPb16 : Array Bool := #[true, true, true, true, true, true, true, true, true, true, true, true, true, true, true, true, false, false]
abbrev qPb17 : Array Bool := #[true, true, true, true, true, true, true, true, true, true, true, true, true, true, true, true, true, false]
abbrev qPb18 : Array Bool := #[true, true, true, true, true, true, true, true, true, true, true, true, true, true, true, true, true, true]
abbrev qPb19 : Array Bool := #[true, true, true, true, true, true, true, true, true, true, true, true, true, false, false, false, false, false]
abbrev qPb20 : Array Bool := #[false, false, false, false, false, false, false, false, false, false, false, false, false, false, false, false, false, false, false, false, false, false, false, false]
abbrev qPb21 : Array Bool := #[true, false, false, false, false, false, false, false, false, false, false, false, false, false, false, false, false, false, false, false, false, false, false, false]
abbrev qPb22 : Array Bool := #[true, true, false, false, false, false, false, false, false, false, false, false, false, false, false, false, false, false, false, false, false, false, false, false]
abbrev qPb23 : Array Bool := #[true, true, true, false, false, false, false, false, false, false, false, false, false, false, false, false, false, false, false, false, false, false, false, false]
abbrev qPb24 : Array Bool := #[true, true, true, true, false, false, false, false, false, false, false, false, false, false, false, false, false, false, false, false, false, false, false, false]
abbrev qPb25 : Array Bool := #[true, true, true, true, true, false, false, false, false, false, false, false, false, false, false, false, false, false, false, false, false, false, false, false]
abbrev qPb26 : Array Bool := #[true, true, true, true, true, true, false, false, false, false, false, false, false, false, false, false, false, false, false, false, false, false, false, false]
abbrev qPb27 : Array Bool := #[true, true, true, true, true, true, true, false, false, false, false, false, false, false, false, false, false, false, false, false, false, false, false, false]
abbrev qPb28 : Array Bool := #[true, true, true, true, true, true, true, true, false, false, false, false, false, false, false, false, false, false, false, false, false, false, false, false]
abbrev qPb29 : Array Bool := #[true, true, true, true, true, true, true, true, true, false, false, false, false, false, false, false, false, false, false, false, false, false, false, false]
abbrev qPb30 : Array Bool := #[true, true, true, true, true, true, true, true, true, true, false, false, false, false, false, false, false, false, false, false, false, false, false, false]
abbrev qPb31 : Array Bool := #[true, true, true, true, true, true, true, true, true, true, true, false, false, false, false, false, false, false, false, false, false, false, false, false]
abbrev qPb32 : Array Bool := #[true, true, true, true, true, true, true, true, true, true, true, true, false, false, false, false, false, false, false, false, false, false, false, false]
abbrev qPb33 : Array Bool := #[true, true, true, true, true, true, true, true, true, true, true, true, true, false, false, false, false, false, false, false, false, false, false, false]
abbrev qPb34 : Array Bool := #[true, true, true, true, true, true, true, true, true, true, true, true, true, true, false, false, false, false, false, false, false, false, false, false]
abbrev qPb35 : Array Bool := #[true, true, true, true, true, true, true, true, true, true, true, true, true, true, true, false, false, false, false, false, false, false, false, false]
abbrev qPb36 : Array Bool := #[true, true, true, true, true, true, true, true, true, true, true, true, true, true, true, false, true, false, false, false, false, false, false, false]
abbrev qPb37 : Array Bool := #[true, true, true, true, true, true, true, true, true, true, true, true, true, true, true, false, true, true, false, false, false, false, false, false]
abbrev qPb38 : Array Bool := #[true, true, true, true, true, true, true, true, true, true, true, true, true, true, true, false, true, true, true, false, false, false, false, false]
abbrev qPb39 : Array Bool := #[true, true, true, true, true, true, true, true, true, true, true, true, true, true, true, false, true, true, true, true, false, false, false, false]
abbrev qPb40 : Array Bool := #[true, true, true, true, true, true, true, true, true, true, true, true, true, true, true, true, true, true, true, true, false, false, false, false]
abbrev qPb41 : Array Bool := #[true, true, true, true, true, true, true, true, true, true, true, true, true, true, true, true, true, true, true, true, true, false, false, false]
abbrev qPb42 : Array Bool := #[true, true, true, true, true, true, true, true, true, true, true, true, true, true, true, true, true, true, true, true, true, true, false, false]
abbrev qPb43 : Array Bool := #[true, true, true, true, true, true, true, true, true, true, true, true, true, true, true, true, true, true, true, true, true, true, true, false]
abbrev qPb44 : Array Bool := #[true, true, true, true, true, true, true, true, true, true, true, true, true, true, true, true, true, true, true, true, true, true, true, true]
abbrev qPb45 : Array Bool := #[true, true, true, true, true, true, true, true, true, true, true, true, true, true, true, true, false, false, false, false, false, false, false, false]
abbrev qPb46 : Array Bool := #[true, true, true, true, true, true, true, true, true, true, true, true, true, true, true, true, true, false, false, false, false, false, false, false]
abbrev qPb47 : Array Bool := #[true, true, true, true, true, true, true, true, true, true, true, true, true, true, true, true, true, true, false, false, false, false, false, false]
abbrev qPb48 : Array Bool := #[true, true, true, true, true, true, true, true, true, true, true, true, true, true, true, true, true, true, true, false, false, false, false, false]
abbrev qPb49 : Array Bool := #[true, true, true, true, true, true, true, true, true, true, false, false]
end Go.Proofs.Ytffdglecmjbolaa.MP
