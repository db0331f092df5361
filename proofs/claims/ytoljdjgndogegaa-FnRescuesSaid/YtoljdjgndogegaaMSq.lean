-- Written by a program of this session (wip/tight2.py). -- tight2
import Derived.Test.YtoljdjgndogegaaProg
import Derived.Below
import Derived.Deep.Draws
import Derived.Deep.AppendLies
import Derived.Maps.AppendAt
import Derived.OwnWalk
import Derived.Laws.BytesArg
import Derived.Laws.MakeOwn
import Derived.Laws.OwnMore
import Derived.Deep.OwnRows
import Derived.Tactics
import Derived.Lib.ConvBytes
import Derived.Laws.Slices
import Derived.WalkKit
import Derived.KernelRfl
import Derived.RowKit3
import Derived.Deep.LoopGhost
import Derived.Deep.QuietTactic
import Derived.BigQuiet
import Derived.WideLaws
import Derived.Deep.DeepCutAuto
import Derived.Deep.CutBlock
import Derived.Deep.RegionHeld3
import Derived.Laws.Rows
import Derived.Lib.AppendStr
import Derived.ArgAppend
import Derived.Laws.IdiomCopy
import Derived.OrdersHeld
import Derived.Laws.BitsLemmas
import Derived.RowKit
import Derived.Deep.RegionHeld3
import Derived.Laws.CopyOwn
import Derived.StillTailTactics
import Derived.Test.YtoljdjgndogegaaWWords
import Derived.Test.YtoljdjgndogegaaWLast
import Derived.Test.YtoljdjgndogegaaWTab
import Derived.Test.YtoljdjgndogegaaWApart
import Derived.Test.YtoljdjgndogegaaWArr
import Derived.Test.YtoljdjgndogegaaWFoot
import Derived.Test.YtoljdjgndogegaaWKept
import Derived.Test.YtoljdjgndogegaaWRepsOne
import Derived.Test.YtoljdjgndogegaaWGuard
namespace Go.Proofs.Ytoljdjgndogegaa.MS
open Go.RowKit Go.Proofs.YtoljdjgndogegaaW.PrintWords Go.Proofs.YtoljdjgndogegaaW.PrintLast
-- Small words of this claim's own (the module 'More' of the words has such too; it would bring five modules along of which nothing is used here).
section
variable {P : Program} {ops : Array Oper} {rest : List Oper} {o : Oper} {a : Act} {Q : Exit → Act → World → Prop} {W : World}
theorem gate_callee {f : FuncId} {xs : Array Operand} {ts : Array TypeId} (_ho : o.op = .call { callee := .value (.func f), args := xs, argTypes := ts }) (h : wpList P ops Q (o :: rest) a W) : wpList P ops Q (o :: rest) a W := h
theorem gate_builtin {b : Builtin} {xs : Array Operand} {ts : Array TypeId} (_ho : o.op = .call { callee := .builtin b, args := xs, argTypes := ts }) (h : wpList P ops Q (o :: rest) a W) : wpList P ops Q (o :: rest) a W := h
end
theorem drewN_self (w : World) (n : Nat) : w.drewN n = w.drewN n := rfl
theorem calls_of_args {P : Program} {f : FuncId} {args args' : Array Value} {w : World} {Q : Ending → World → Prop} (h : args = args') (hc : Calls P f args' w Q) : Calls P f args w Q := by
  subst h
  exact hc
def mx (a b : Int) : Int := if a < b then b else a
def mn (a b : Int) : Int := if b < a then b else a
theorem max2_int (k k' : IntKind) (x y : Int) : Builtin.max2 (.int k x) (.int k' y) = pure (.int k (if x < y then y else x)) := by simp only [Builtin.max2, gt_iff_lt]
theorem min2_int (k k' : IntKind) (x y : Int) : Builtin.min2 (.int k x) (.int k' y) = pure (.int k (if y < x then y else x)) := by simp only [Builtin.min2]
theorem max_two (ats : Array TypeId) (ty : TypeId) (a b : Value) : Builtin.max_ ats ty #[a, b] = (Builtin.max2 a b >>= fun s => pure s) := by simp only [Builtin.max_, List.foldlM_cons, List.foldlM_nil]
theorem min_two (ats : Array TypeId) (ty : TypeId) (a b : Value) : Builtin.min_ ats ty #[a, b] = (Builtin.min2 a b >>= fun s => pure s) := by simp only [Builtin.min_, List.foldlM_cons, List.foldlM_nil]
theorem Kd.R_newM {α : Type} {d : Kd α} {e : Nat} {w w1 W : World} {ok M : Nat → Prop} {v : Value} {xs : List α} (h : d.R e w1 W.heap.size ok v xs) (hle : w.heap.size ≤ W.heap.size) (hM : ∀ k, w.heap.size ≤ k → M k) : d.R e w1 W.heap.size (fun k => M k ∧ ok k) v xs :=
  Kd.R_mono (Kd.R_bound h) (fun k hk => ⟨hM k (Nat.le_trans hle hk.2.1), hk.1⟩)
theorem Kd.R_keptB {α : Type} {d : Kd α} {e base : Nat} {W W2 : World} {S ok : Nat → Prop} {v : Value} {xs : List α} (h : d.R e W base ok v xs) (hk : Kept W W2 S) (hne : ∀ k, ok k → ¬ S k) : d.R e W2 base (fun k => ok k ∧ (¬ S k ∧ k < W.heap.size)) v xs :=
  Kd.R_kept (Kd.R_mono (Kd.R_bound h) (fun k hk => ⟨hk.1, hne k hk.1, hk.2.2.1⟩)) hk (fun _ hk => hk.2.1)
abbrev za := @Aside0.mk
abbrev zb := @of_decide_eq_true
abbrev zc := @decide_eq_true
abbrev zd := @World.block_lt_of_cell?
abbrev ze := @blk_frozen
abbrev zf := @blk_cell
abbrev zg := @blk_alloc
abbrev zh := @blk_drewN
abbrev zi := @blk_drew
abbrev zj := @blk_put
abbrev zk := @blk_far
abbrev zl := @blk_below
abbrev zm := @Option.some.inj
theorem zn {b : Bool} (h : b ≠ true) : b = false := Bool.eq_false_iff.mpr h
abbrev zo := @Nat.le_refl
abbrev zp := @gate_callee
abbrev zq := @gate_dst
abbrev zr := @gate_builtin
abbrev zs := @Below.refl
abbrev zt := @Reps.one
abbrev zu := @Reps.none
abbrev zv := @decide_eq_false
abbrev zw := @eq_true
theorem zx {α : Type} [BEq α] [LawfulBEq α] {a b : α} (h : a ≠ b) : (a == b) = false := beq_eq_false_iff_ne.mpr h
theorem zy {α : Type} [BEq α] [LawfulBEq α] {a b : α} (h : a = b) : (a != b) = false := bne_eq_false_iff_eq.mpr h
abbrev zz := @KeepBut.blk
abbrev zA := @KeepBut.trans
abbrev zB := @box_event
theorem zC {α β : Type} {x : Option α} {f : α → Option β} {b : β} (h : x.bind f = some b) : ∃ a, x = some a ∧ f a = some b := Option.bind_eq_some_iff.mp h
abbrev zD := @Kd.C_alloc
abbrev zE := @Kd.C_drewN
abbrev zF := @Kd.C_drew
abbrev zG := @Kd.C_below
abbrev zH := @Kd.R_reads'
abbrev zI := @Kd.R_slice
abbrev zJ := @Kd.at_int
abbrev zK := @Kd.R_mono
abbrev zL := @Kd.R_far
abbrev zM := @Kd.R_append_rows_step
abbrev zN := @Kd.R_keep
abbrev zO := @Kd.R_drew
abbrev zP := @Kd.R_lower
abbrev zQ := @Kd.R_lit
abbrev zR := @KeepBut.of_below
abbrev zS := @World.drewN_drewN
theorem zT {α : Type} [BEq α] [LawfulBEq α] {a b : α} (h : a = b) : (a == b) = true := beq_iff_eq.mpr h
theorem zU {α : Type} [BEq α] [LawfulBEq α] {a b : α} (h : a ≠ b) : (a != b) = true := bne_iff_ne.mpr h
abbrev zV := @goesL_
abbrev zW := @below_step
abbrev zX := @below_size
abbrev zY := @Or.inl
abbrev zZ := @below_alloc
abbrev ya := @below_set
theorem yb {c : Prop} {h : Decidable c} (hc : c) {α : Type} {t e : α} : ite c t e = t := if_pos hc
theorem yc {c : Prop} {h : Decidable c} (hc : ¬ c) {α : Type} {t e : α} : ite c t e = e := if_neg hc
theorem yd {α : Type} (a b : α) : (some a = some b) = (a = b) := Option.some.injEq a b
theorem ye {α β : Type} (a : α) (b : β) (c : α) (d : β) : ((a, b) = (c, d)) = (a = c ∧ b = d) := Prod.mk.injEq a b c d
theorem yf {α : Type} (l : List α) (i : Nat) (a : α) : l.toArray.setIfInBounds i a = (l.set i a).toArray := List.setIfInBounds_toArray ..
theorem yg {α : Type} {x : α} {xs : List α} {a : α} : (x :: xs).set 0 a = a :: xs := rfl
theorem yh {α : Type} {x : α} {xs : List α} {n : Nat} {a : α} : (x :: xs).set (n + 1) a = x :: xs.set n a := rfl
theorem qmono {p : Prop} (h : p := by
  repeat' first
  | (with_reducible first | apply ih0 | apply ih1 | apply ih2 | apply ih3 | apply ih4 | apply ih5 | apply ih6 | apply ih7 | apply ih8 | apply ih9)
  | (with_reducible first | apply m0 | apply m1 | apply m2 | apply m3 | apply m4 | apply m5 | apply m6 | apply m7 | apply m8 | apply m9 | apply m10 | apply m11 | apply m12 | apply m13 | apply m14 | apply m15 | apply m16 | apply m17 | apply m18 | apply m19 | apply m20 | apply m21 | apply m22 | apply m23 | apply m24 | apply m25)
  | (with_reducible exact LeO.refl _)
  | (with_reducible exact LeO.none _)
  | (with_reducible refine LeO.ite ?_ ?_)
  | (with_reducible refine LeO.bind ?_ (fun _ => ?_))
  | first | apply ih0 | apply ih1 | apply ih2 | apply ih3 | apply ih4 | apply ih5 | apply ih6 | apply ih7 | apply ih8 | apply ih9
  | exact LeO.none _
  | refine LeO.ite ?_ ?_
  | refine LeO.bind ?_ (fun _ => ?_)) : p := h
theorem bindA {α β : Type} {x : Option α} {f : α → Option β} {r : β} (h : x.bind f = some r) : ∃ a, Aside0 (x = some a) ∧ f a = some r := by
  obtain ⟨a, h1, h2⟩ := zC h
  exact ⟨a, ⟨h1⟩, h2⟩
theorem qS0 {p : Prop} (h : p := by repeat (first | (with_reducible first | exact HB.1 | apply zZ | apply pw_below_drewN | apply below_drew1) | exact HB.1)) : p := h
theorem qS1 {q0 p : Prop} (x0 : q0) (h : q0 → p := by intro hx0_; (with_reducible repeat (first | apply Kd.R_alloc | apply Kd.R_drewN | apply zO)); exact hx0_) : p := h x0
theorem qS2 {p : Prop} (h : p := by (try simp only [List.map_toArray, List.map_cons, List.map_nil]); first | done | rfl | (simp only [List.length_drop, List.length_take]; rfl)) : p := h
theorem qS3 {p : Prop} (h : p := by repeat (first | (with_reducible first | exact HI0.1 | apply IsS47.alloc | apply IsS47.drewN | apply IsS47.drew | apply IsS47.set_1 | apply IsS47.set_2) | exact HI0.1)) : p := h
theorem qS4 {q0 p : Prop} (x0 : q0) (h : q0 → p := by intro hx0_; first | (rw [hx0_]; with_reducible exact H) | (have H2_ := (Option.bind_some _ _).symm.trans H; rw [hx0_]; with_reducible exact H2_) | (have H2_ := (Option.bind_some _ _).symm.trans H; with_reducible exact H2_) | with_reducible exact H | (rw [hx0_]; exact H) | exact H) : p := h x0
theorem qS5 {p : Prop} (h : p := by repeat (first | (with_reducible first | exact HK.1 | apply KeepBut.set_ | apply keep_drewN | apply keep_drew | apply keep_alloc) | exact HK.1)) : p := h
theorem qS6 {p : Prop} (h : p := by repeat (first | (with_reducible first | exact HB.1 | apply zZ | apply pw_below_drewN | apply below_drew1 | refine ya ?_ (IsS47.ge HI0.1)) | exact HB.1)) : p := h
theorem qS7 {q0 p : Prop} (x0 : q0) (h : q0 → p := by intro hx0_; repeat (first | exact (zH hx0_).2.2 | (with_reducible refine zD ?_ _) | (with_reducible refine zE ?_ _) | (with_reducible refine zF ?_))) : p := h x0
theorem qS8 {p : Prop} (h : p := by first | (with_reducible assumption) | assumption) : p := h
theorem qS9 {q0 p : Prop} (x0 : q0) (h : q0 → p := by intro hx0_; repeat (first | (with_reducible first | exact HI0.1 | apply IsS47.alloc | apply IsS47.drewN | apply IsS47.drew | apply IsS47.set_1 | apply IsS47.set_2 | refine IsS47.far ?_ hx0_ _) | exact HI0.1)) : p := h x0
theorem qS10 {q0 p : Prop} (x0 : q0) (h : q0 → p := by intro hx0_; (with_reducible repeat (first | refine zh ?_ _ | refine zi ?_ | refine zg ?_ _)); exact hx0_) : p := h x0
theorem qS11 {p : Prop} (h : p := by first | rfl | (simp [errW_none, errW_some] <;> rfl) | (simp [*, errW_none, errW_some] <;> rfl)) : p := h
theorem qS12 {q0 p : Prop} (x0 : q0) (h : q0 → p := by intro hx0_; repeat (first | (with_reducible exact hx0_) | (with_reducible refine zD ?_ _) | (with_reducible refine zE ?_ _) | (with_reducible refine zF ?_) | exact hx0_)) : p := h x0
theorem qS13 {q0 p : Prop} (x0 : q0) (h : q0 → p := by intro hx0_; repeat (first | exact (zG hx0_ HB.1) | (with_reducible refine zD ?_ _) | (with_reducible refine zE ?_ _) | (with_reducible refine zF ?_))) : p := h x0
theorem qS14 {q0 p : Prop} (x0 : q0) (h : q0 → p := by intro hx0_; repeat (first | (with_reducible first | exact HK.1 | apply KeepBut.set_ | apply keep_drewN | apply keep_drew | apply keep_alloc | refine keep_far ?_ hx0_ _) | exact HK.1)) : p := h x0
theorem qS15 {p : Prop} (h : p := by repeat (first | (with_reducible first | exact HI565.1 | apply IsS47.alloc | apply IsS47.drewN | apply IsS47.drew | apply IsS47.set_1 | apply IsS47.set_2) | exact HI565.1)) : p := h
theorem qS16 {p : Prop} (h : p := by first | rfl | (simp; done) | (simp [*]; done)) : p := h
theorem qS17 {q0 p : Prop} (x0 : q0) (h : q0 → p := by intro hx0_; repeat (first | (with_reducible first | exact HB.1 | apply zZ | apply pw_below_drewN | apply below_drew1 | refine ya ?_ (IsS47.ge HI0.1) | refine ya ?_ hx0_) | exact HB.1)) : p := h x0
theorem qS18 {p : Prop} (h : p := by repeat (first | (with_reducible first | exact HI0.1 | apply IsS47.alloc | apply IsS47.drewN | apply IsS47.drew | apply IsS47.set_1 | apply IsS47.set_2 | refine IsS47.far ?_ NB0_134.1 _ | refine IsS47.far ?_ NB0_159.1 _) | exact HI0.1)) : p := h
theorem qS19 {p : Prop} (h : p := by first | exact Kd.own_blk (Kd.R_away HO_5.1 (fun _ hk => hk)) | (rw [add_block]; exact Kd.own_blk (Kd.R_away HO_5.1 (fun _ hk => hk))) | (show (Addr.add _ _).block ≠ _; rw [add_block]; exact Kd.own_blk (Kd.R_away HO_5.1 (fun _ hk => hk))) | (dsimp only; exact Kd.own_blk (Kd.R_away HO_5.1 (fun _ hk => hk)))) : p := h
theorem qS20 {p : Prop} (h : p := by repeat (first | (with_reducible first | exact HK.1 | apply KeepBut.set_ | apply keep_drewN | apply keep_drew | apply keep_alloc | refine keep_far ?_ GW134.1 _ | refine keep_far ?_ GW159.1 _) | exact HK.1)) : p := h
theorem qS21 {q0 p : Prop} (x0 : q0) (h : q0 → p := by intro hx0_; repeat (first | exact hx0_ | (with_reducible refine zD ?_ _) | (with_reducible refine zE ?_ _) | (with_reducible refine zF ?_))) : p := h x0
theorem qS22 {p : Prop} (h : p := by repeat (first | (with_reducible first | exact HB.1 | apply zZ | apply pw_below_drewN | apply below_drew1 | refine ya ?_ (IsS47.ge HI0.1) | refine ya ?_ GE134.1 | refine ya ?_ GE159.1) | exact HB.1)) : p := h
theorem qS23 {p : Prop} (h : p := by repeat (first | (with_reducible first | exact HB.1 | apply zZ | apply pw_below_drewN | apply below_drew1 | refine ya ?_ (IsS47.ge HI565.1)) | exact HB.1)) : p := h
theorem qS24 {p : Prop} (h : p := by exact any_of HT_.1 (by kernel_rfl)) : p := h
theorem qS25 {q0 p : Prop} (x0 : q0) (h : q0 → p := by intro hx0_; repeat (first | (with_reducible first | exact HB.1 | apply zZ | apply pw_below_drewN | apply below_drew1 | refine ya ?_ hx0_) | exact HB.1)) : p := h x0
theorem qS26 {p : Prop} (h : p := by first | (go_simp; done) | (go_simp; rfl)) : p := h
theorem qS27 {p : Prop} (h : p := by kernel_rfl) : p := h
theorem qS28 {q0 p : Prop} (x0 : q0) (h : q0 → p := by intro hx0_; (with_reducible repeat (first | apply Kd.R_alloc | apply Kd.R_drewN | apply zO)); exact zK hx0_ (fun _ hk => ⟨hk.2, hk.1⟩)) : p := h x0
theorem qS29 {q0 p : Prop} (x0 : q0) (h : q0 → p := by intro hx0_; (with_reducible repeat (first | apply Kd.R_alloc | apply Kd.R_drewN | apply zO)); exact zK hx0_ (fun _ hk => hk.2)) : p := h x0
theorem qS30 {p : Prop} (h : p := by repeat (first | exact Drawn0.refl _ | apply Drawn0.step)) : p := h
theorem qS31 {q0 p : Prop} (x0 : q0) (h : q0 → p := by intro hx0_; (with_reducible repeat (first | apply Kd.R_alloc | apply Kd.R_drewN | apply zO)); exact zK hx0_ (fun _ hk => ⟨hk.1.2, hk.2⟩)) : p := h x0
theorem qS32 {q0 p : Prop} (x0 : q0) (h : q0 → p := by intro hx0_; (with_reducible repeat (first | apply Kd.R_alloc | apply Kd.R_drewN | apply zO)); exact zK hx0_ (fun _ hk => trivial)) : p := h x0
theorem qS33 {q0 q1 p : Prop} (x0 : q0) (x1 : q1) (h : q0 → q1 → p := by intro hx0_ hx1_; repeat (first | (with_reducible first | exact HB.1 | apply zZ | apply pw_below_drewN | apply below_drew1 | refine ya ?_ hx0_ | refine ya ?_ hx1_) | exact HB.1)) : p := h x0 x1
theorem qS34 {p : Prop} (h : p := by repeat (first | (with_reducible first | exact HI670.1 | apply IsS47.alloc | apply IsS47.drewN | apply IsS47.drew | apply IsS47.set_1 | apply IsS47.set_2) | exact HI670.1)) : p := h
theorem qS35 {p : Prop} (h : p := by (with_reducible repeat (first | refine zh ?_ _ | refine zi ?_ | refine zg ?_ _)); refine zj (cs := #[.int .i64 ((rd_T58 l0 x7_1).f0), .int .i64 ((rd_T58 l0 x7_1).f1), .int .i64 ((rd_T58 l0 x7_1).f2), .int .i64 ((rd_T58 l0 x7_1).f3), .int .i64 0]) ?_ 4 _ rfl; (with_reducible repeat (first | refine zh ?_ _ | refine zi ?_ | refine zg ?_ _)); refine zj (cs := #[.int .i64 ((rd_T58 l0 x7_1).f0), .int .i64 ((rd_T58 l0 x7_1).f1), .int .i64 ((rd_T58 l0 x7_1).f2), .int .i64 0, .int .i64 0]) ?_ 3 _ rfl; (with_reducible repeat (first | refine zh ?_ _ | refine zi ?_ | refine zg ?_ _)); refine zj (cs := #[.int .i64 ((rd_T58 l0 x7_1).f0), .int .i64 ((rd_T58 l0 x7_1).f1), .int .i64 0, .int .i64 0, .int .i64 0]) ?_ 2 _ rfl; (with_reducible repeat (first | refine zh ?_ _ | refine zi ?_ | refine zg ?_ _)); refine zj (cs := #[.int .i64 ((rd_T58 l0 x7_1).f0), .int .i64 0, .int .i64 0, .int .i64 0, .int .i64 0]) ?_ 1 _ rfl; (with_reducible repeat (first | refine zh ?_ _ | refine zi ?_ | refine zg ?_ _)); refine zj (cs := #[.int .i64 0, .int .i64 0, .int .i64 0, .int .i64 0, .int .i64 0]) ?_ 0 _ rfl; (with_reducible repeat (first | refine zh ?_ _ | refine zi ?_ | refine zg ?_ _)); exact BK112.1) : p := h
theorem qS36 {p : Prop} (h : p := by repeat (first | (with_reducible first | exact HB.1 | apply zZ | apply pw_below_drewN | apply below_drew1 | refine ya ?_ (IsS47.ge HI670.1)) | exact HB.1)) : p := h
theorem qS37 {p : Prop} (h : p := by simp only [putAll, Act.put, yf, yg, yh]) : p := h
theorem qS38 {q0 p : Prop} (x0 : q0) (h : q0 → p := by intro hx0_; exact (zH hx0_).2.1) : p := h x0
theorem qS39 {q0 p : Prop} (x0 : q0) (h : q0 → p := by intro hx0_; (with_reducible repeat (first | apply Kd.R_alloc | apply Kd.R_drewN | apply zO)); exact zK hx0_ (fun _ hk => hk.1.2)) : p := h x0
theorem qS40 {q0 p : Prop} (x0 : q0) (h : q0 → p := by intro hx0_; (with_reducible repeat (first | apply Kd.R_alloc | apply Kd.R_drewN | apply zO)); exact zK hx0_ (fun _ hk => ⟨hk.2, hk.1.2⟩)) : p := h x0
theorem qS41 {p : Prop} (h : p := by repeat (first | (with_reducible exact HB.1) | apply pw_below_drewN | apply below_drew1 | exact HB.1)) : p := h
theorem qS42 {p : Prop} (h : p := by repeat (first | (with_reducible first | exact HI406.1 | apply IsS47.alloc | apply IsS47.drewN | apply IsS47.drew | apply IsS47.set_1 | apply IsS47.set_2) | exact HI406.1)) : p := h
theorem qS43 {q0 q1 p : Prop} (x0 : q0) (x1 : q1) (h : q0 → q1 → p := by intro hx0_ hx1_; (with_reducible repeat (first | apply Kd.R_alloc | apply Kd.R_drewN | apply zO)); exact zK (zL (p := ⟨gb268, 4, none⟩) (zL (p := ⟨gb268, 3, none⟩) (zL (p := ⟨gb268, 2, none⟩) (zL (p := ⟨gb268, 1, none⟩) (zL (p := ⟨gb268, 0, none⟩) (Kd.R_types hx0_ hx1_ (by decide)) (fun _ hk => hk.2) (.int .i64 t247)) (fun _ hk => hk.2) (.int .i64 x6_1)) (fun _ hk => hk.2) (.int .i64 t253)) (fun _ hk => hk.2) (.int .i64 t259)) (fun _ hk => hk.2) (.int .i64 t265)) (fun _ hk => ⟨hk.1.1.2, hk.1.2⟩)) : p := h x0 x1
theorem qS44 {p : Prop} (h : p := by first | (rw [← show (l1.drop ((ji21) : Int).toNat).length = (l1.length - (ji21).toNat) from List.length_drop]; repeat (first | exact (zG HR553.1 HB.1) | (with_reducible refine zD ?_ _) | (with_reducible refine zE ?_ _) | (with_reducible refine zF ?_))) | (repeat (first | exact (zG HR553.1 HB.1) | (with_reducible refine zD ?_ _) | (with_reducible refine zE ?_ _) | (with_reducible refine zF ?_)))) : p := h
theorem qS45 {p : Prop} (h : p := by repeat (first | (with_reducible first | exact HB.1 | apply zZ | apply pw_below_drewN | apply below_drew1 | refine ya ?_ (IsS47.ge HI406.1)) | exact HB.1)) : p := h
theorem qS46 {q0 p : Prop} (x0 : q0) (h : q0 → p := by intro hx0_; exact Kd.R_after (ok := (fun _ => True)) (by (with_reducible repeat (first | apply Kd.R_alloc | apply Kd.R_drewN | apply zO)); exact zK hx0_ (fun _ hk => ⟨trivial, hk⟩)) hg hat) : p := h x0
theorem qS47 {p : Prop} (h : p := by (with_reducible repeat (first | refine zh ?_ _ | refine zi ?_ | refine zg ?_ _)); refine zj (cs := #[.int .i64 t304, .int .i64 t305, .int .i64 0]) ?_ 2 _ rfl; (with_reducible repeat (first | refine zh ?_ _ | refine zi ?_ | refine zg ?_ _)); refine zj (cs := #[.int .i64 t304, .int .i64 0, .int .i64 0]) ?_ 1 _ rfl; (with_reducible repeat (first | refine zh ?_ _ | refine zi ?_ | refine zg ?_ _)); refine zj (cs := #[.int .i64 0, .int .i64 0, .int .i64 0]) ?_ 0 _ rfl; (with_reducible repeat (first | refine zh ?_ _ | refine zi ?_ | refine zg ?_ _)); exact BK307.1) : p := h
theorem qS48 {p : Prop} (h : p := by exact (zt (show Kd.M (Kd.int .i64) _ _ _ (rd l3 x11_2) [.int .i64 (rd l3 x11_2)] from rfl) (zu _ _))) : p := h
theorem qS49 {q0 p : Prop} (x0 : q0) (h : q0 → p := by intro hx0_; exact far_slice (IsS47.own_ne HI0.1 hx0_ (by decide))) : p := h x0
theorem qS50 {p : Prop} (h : p := by exact (zt (show Kd.M (Kd.int .i64) _ _ _ a1 [.int .i64 a1] from rfl) (zu _ _))) : p := h
theorem qS51 {q0 p : Prop} (x0 : q0) (h : q0 → p := by intro hx0_; first | (rw [← show (l0.drop (x5_1 : Int).toNat).length = (l0.length - x5_1.toNat) from List.length_drop]; repeat (first | exact (zG hx0_ HB.1) | (with_reducible refine zD ?_ _) | (with_reducible refine zE ?_ _) | (with_reducible refine zF ?_))) | (repeat (first | exact (zG hx0_ HB.1) | (with_reducible refine zD ?_ _) | (with_reducible refine zE ?_ _) | (with_reducible refine zF ?_)))) : p := h x0
theorem qS52 {p : Prop} (h : p := by (with_reducible repeat (first | apply Kd.R_alloc | apply Kd.R_drewN | apply zO)); exact zK (zL (p := ⟨gb307, 2, none⟩) (zL (p := ⟨gb307, 1, none⟩) (zL (p := ⟨gb307, 0, none⟩) (zK HO_5.1 (fun k_ hk => (⟨hk, hk⟩ : _ ∧ k_ ≠ gb307))) (fun _ hk => hk.2) (.int .i64 t304)) (fun _ hk => hk.2) (.int .i64 t305)) (fun _ hk => hk.2) (.int .i64 t306)) (fun _ hk => hk.1)) : p := h
theorem qS53 {p : Prop} (h : p := by (with_reducible repeat (first | apply Kd.R_alloc | apply Kd.R_drewN | apply zO)); exact zK (zL (p := ⟨gb307, 2, none⟩) (zL (p := ⟨gb307, 1, none⟩) (zL (p := ⟨gb307, 0, none⟩) (Kd.R_types HO_3.1 BK307.1 (by decide)) (fun _ hk => hk.2) (.int .i64 t304)) (fun _ hk => hk.2) (.int .i64 t305)) (fun _ hk => hk.2) (.int .i64 t306)) (fun _ hk => trivial)) : p := h
theorem qS54 {p : Prop} (h : p := by (with_reducible repeat (first | apply Kd.R_alloc | apply Kd.R_drewN | apply zO)); exact HO.1) : p := h
theorem qS55 {p : Prop} (h : p := by (with_reducible repeat (first | apply Kd.R_alloc | apply Kd.R_drewN | apply zO)); exact zK HO770.1 (fun _ hk => hk.1.1.2)) : p := h
theorem qS56 {p : Prop} (h : p := by have := LMc24.1; have hlx_ := (show (l1.drop ((ji21) : Int).toNat).length = (l1.length - (ji21).toNat) from List.length_drop); omega) : p := h
theorem qS57 {q0 p : Prop} (x0 : q0) (h : q0 → p := by intro hx0_; (with_reducible repeat (first | apply Kd.R_alloc | apply Kd.R_drewN | apply zO)); exact zK hx0_ (fun _ hk => hk.1)) : p := h x0
theorem qS58 {p : Prop} (h : p := by first | rfl | (simp; done) | (simp only [← hji21] <;> (first | rfl | simp)) | (simp [*]; done)) : p := h
theorem qS59 {p : Prop} (h : p := by exact show (x13_3 : Int).toNat ≤ x10_2.length from by omega) : p := h
theorem qS60 {p : Prop} (h : p := by exact Below.grown n1_.out hg2 (Nat.le_trans HBL.1 (by exact hg.size)) (fun k_ hk_ => by cases hk_; exact HGB.1)) : p := h
theorem qS61 {q0 p : Prop} (x0 : q0) (h : q0 → p := by intro hx0_; rw [hx0_, List.length_drop] <;> omega) : p := h x0
theorem qS62 {p : Prop} (h : p := by repeat (first | apply pw_below_drewN | apply below_drew1 | exact zs _ _)) : p := h
theorem qS63 {q0 p : Prop} (x0 : q0) (h : q0 → p := by intro hx0_; exact zK (zN (IsS47.apart (show IsS47 w0 _ g _ _ _ from (qS3)) (qS1 hx0_) (by decide)) hk (fun _ h => h.2)) (fun _ h => h.1)) : p := h x0
theorem qS64 {p : Prop} (h : p := by exact zW (qS0) hb) : p := h
theorem qS65 {q0 p : Prop} (x0 : q0) (h : q0 → p := by intro hx0_; first | (refine Eq.mp (congrArg (fun z_ => ReadsRow _ _ _ _ z_ _) (show (l0.take (x5_1 : Int).toNat).length = x5_1.toNat from (by rw [List.length_take]; have h_ : (x5_1 : Int) ≤ (l0.length : Int) := zb (qS8); omega))) ?_; repeat (first | exact (zG hx0_ HB.1) | (with_reducible refine zD ?_ _) | (with_reducible refine zE ?_ _) | (with_reducible refine zF ?_))) | (repeat (first | exact (zG hx0_ HB.1) | (with_reducible refine zD ?_ _) | (with_reducible refine zE ?_ _) | (with_reducible refine zF ?_)))) : p := h x0
theorem qS66 {q0 p : Prop} (x0 : q0) (h : q0 → p := by intro hx0_; exact Kd.R_below (qS1 hx0_) hb) : p := h x0
theorem qS67 {q0 q1 p : Prop} (x0 : q0) (x1 : q1) (h : q0 → q1 → p := by intro hx0_ hx1_; exact Kd.R_elder' (qS1 hx0_) (Kd.R_base hx1_) hb) : p := h x0 x1
theorem qS68 {q0 p : Prop} (x0 : q0) (h : q0 → p := by intro hx0_; repeat (first | exact (qS12 hx0_) | (with_reducible refine zD ?_ _) | (with_reducible refine zE ?_ _) | (with_reducible refine zF ?_))) : p := h x0
theorem qS69 {q0 p : Prop} (x0 : q0) (h : q0 → p := by intro hx0_; exact zK (zN (IsS47.apart (show IsS47 w _ gb565 l0 x566001_1 x566002_1 from (qS15)) (qS1 hx0_) (by decide)) hk (fun _ h => h.2)) (fun _ h => h.1)) : p := h x0
theorem qS70 {p : Prop} (h : p := by exact one_of HT_.1 (qS27)) : p := h
theorem qS71 {p : Prop} (h : p := by first | (refine Eq.mp (congrArg (fun z_ => ReadsRow _ _ _ _ z_ _) (show (l1.take (x12_2 : Int).toNat).length = x12_2.toNat from (by rw [List.length_take]; have h_ : (x12_2 : Int) ≤ (l1.length : Int) := zb (qS8); omega))) ?_; repeat (first | exact (zG HR549.1 HB.1) | (with_reducible refine zD ?_ _) | (with_reducible refine zE ?_ _) | (with_reducible refine zF ?_))) | (repeat (first | exact (zG HR549.1 HB.1) | (with_reducible refine zD ?_ _) | (with_reducible refine zE ?_ _) | (with_reducible refine zF ?_)))) : p := h
theorem qS72 {q0 q1 p : Prop} (x0 : q0) (x1 : q1) (h : q0 → q1 → p := by intro hx0_ hx1_; exact Kd.R_over' (qS1 hx0_) (Kd.R_typed (qS1 hx1_)) (by decide) hg) : p := h x0 x1
theorem qS73 {q0 p : Prop} (x0 : q0) (h : q0 → p := by intro hx0_; exact (fun k_ hk => Kd.fresh' (Kd.R_lt (qS1 hx0_)) k_ hk)) : p := h x0
theorem qS74 {p : Prop} (h : p := by exact zA (qS5) hk (.inl rfl)) : p := h
theorem qS75 {q0 q1 p : Prop} (x0 : q0) (x1 : q1) (h : q0 → q1 → p := by intro hx0_ hx1_; exact zP (Kd.R_new' hx0_ (Kd.R_lt (qS1 hx1_))) (zX (qS0))) : p := h x0 x1
theorem qS76 {q0 p : Prop} (x0 : q0) (h : q0 → p := by intro hx0_; have := hx0_; have hlx_ := (show (l0.take (x5_1 : Int).toNat).length = x5_1.toNat from (by rw [List.length_take]; have h_ : (x5_1 : Int) ≤ (l0.length : Int) := zb (qS8); omega)); omega) : p := h x0
theorem qS77 {q0 p : Prop} (x0 : q0) (h : q0 → p := by intro hx0_; exact zP hx0_ (zX (qS0))) : p := h x0
theorem qS78 {p : Prop} (h : p := by exact zA (qS5) (zR hb g none) (.inl rfl)) : p := h
theorem qS79 {q0 p : Prop} (x0 : q0) (h : q0 → p := by intro hx0_; exact Kd.R_after (ok := (fun _ => True)) (qS1 hx0_) hg hat) : p := h x0
theorem qS80 {q0 p : Prop} (x0 : q0) (h : q0 → p := by intro hx0_; exact zK (zN (IsS47.apart (show IsS47 w _ gb565 l0 t584 t585 from (qS15)) (qS1 hx0_) (by decide)) hk (fun _ h => h.2)) (fun _ h => h.1)) : p := h x0
theorem qS81 {q0 q1 p : Prop} (x0 : q0) (x1 : q1) (h : q0 → q1 → p := by intro hx0_ hx1_; exact (fun k_ hk => ⟨Kd.fresh' (Kd.R_lt (qS1 hx0_)) k_ hk, Kd.fresh' (Kd.R_lt (qS1 hx1_)) k_ hk⟩)) : p := h x0 x1
theorem qS82 {p : Prop} (h : p := by exact (zX (qS0))) : p := h
theorem qS83 {p : Prop} (h : p := by exact (by rw [hg]; exact (zX (qS0)) : w.heap.size ≤ gb454)) : p := h
theorem qS84 {p : Prop} (h : p := by exact (by rw [hg]; exact (zX (qS0)) : w.heap.size ≤ gb105)) : p := h
theorem qS85 {q0 q1 q2 p : Prop} (x0 : q0) (x1 : q1) (x2 : q2) (h : q0 → q1 → q2 → p := by intro hx0_ hx1_ hx2_; exact zP (Kd.R_new' (Kd.R_new' hx0_ (Kd.R_lt (qS1 hx1_))) (Kd.R_lt (qS1 hx2_))) (zX (qS0))) : p := h x0 x1 x2
theorem qS86 {p : Prop} (h : p := by have := LMc20.1; have hlx_ := (show (l1.take (x12_2 : Int).toNat).length = x12_2.toNat from (by rw [List.length_take]; have h_ : (x12_2 : Int) ≤ (l1.length : Int) := zb (qS8); omega)); omega) : p := h
theorem qS87 {q0 p : Prop} (x0 : q0) (h : q0 → p := by intro hx0_; exact zK (zN (IsS47.apart (show IsS47 w _ gb565 l0 t590 t591 from (qS15)) (qS1 hx0_) (by decide)) hk (fun _ h => h.2)) (fun _ h => h.1)) : p := h x0
theorem qS88 {p : Prop} (h : p := by exact done_of HT_.1 (qS27)) : p := h
theorem qS89 {p : Prop} (h : p := by exact IsS47.below (qS3) hb) : p := h
theorem qS90 {q0 p : Prop} (x0 : q0) (h : q0 → p := by intro hx0_; exact zA (qS5) (KeepBut.of_grown hg g) (Kd.R_base2 hx0_)) : p := h x0
theorem qS91 {q0 p : Prop} (x0 : q0) (h : q0 → p := by intro hx0_; exact IsS47.grown (show IsS47 w0 _ g _ _ _ from (qS3)) hg (IsS47.own_ne HI0.1 hx0_ (by decide))) : p := h x0
theorem qS92 {q0 p : Prop} (x0 : q0) (h : q0 → p := by intro hx0_; exact zP hx0_ (keep_size (w := w) (g := g) (row := none) (qS5))) : p := h x0
theorem qS93 {q0 p : Prop} (x0 : q0) (h : q0 → p := by intro hx0_; exact zK (zN (IsS47.apart (show IsS47 w _ gb670 l0 t680 t681 from (qS34)) (qS1 hx0_) (by decide)) hk (fun _ h => h.2)) (fun _ h => h.1)) : p := h x0
theorem qS94 {p : Prop} (h : p := by exact (keep_size (w := w) (g := g) (row := none) (qS5))) : p := h
theorem qS95 {q0 q1 p : Prop} (x0 : q0) (x1 : q1) (h : q0 → q1 → p := by intro hx0_ hx1_; exact zP (Kd.R_new' hx0_ (Kd.R_lt (qS1 hx1_))) (keep_size (w := w) (g := g) (row := none) (qS5))) : p := h x0 x1
theorem qS96 {p : Prop} (h : p := by exact (by rw [hg]; exact (zX (qS0)) : w.heap.size ≤ gb112)) : p := h
theorem qS97 {p : Prop} (h : p := by exact (Nat.le_trans HW0.1 (by rw [hg]; exact (keep_size (w := w) (g := g) (row := none) (qS5)) : w.heap.size ≤ gb307) : w0.heap.size ≤ gb307)) : p := h
theorem qS98 {p : Prop} (h : p := by exact (keep_size (w := w) (g := g) (row := none) (qS14 GW268.1))) : p := h
theorem qS99 {p : Prop} (h : p := by exact Kd.R_after (ok := (fun k_ => some k_ ≠ (.slice (some ad617) x10_2.length co20 : Value).ownBlock)) (qS31 HO632.1) hg hat) : p := h
theorem qS100 {p : Prop} (h : p := by exact Kd.R_after (ok := (fun k_ => some k_ ≠ (.slice (some ad719) t708.length co61 : Value).ownBlock)) (qS1 HO_4.1) hg hat) : p := h
theorem qS101 {p : Prop} (h : p := by exact Kd.R_after (ok := (fun k_ => some k_ ≠ (.slice Ao20 x10_2.length co20 : Value).ownBlock)) (qS31 HO656.1) hg hat) : p := h
theorem qS102 {p : Prop} (h : p := by exact Kd.R_after (ok := (fun k_ => some k_ ≠ (.slice Ao10 t701.length co10 : Value).ownBlock)) (qS1 HO_7.1) hg hat) : p := h
theorem qS103 {q0 p : Prop} (x0 : q0) (h : q0 → p := by intro hx0_; repeat (first | exact (zG hx0_ (qS0)) | (with_reducible refine zD ?_ _) | (with_reducible refine zE ?_ _) | (with_reducible refine zF ?_))) : p := h x0
theorem qS104 {p : Prop} (h : p := by exact (by rw [hg]; exact Nat.ne_of_lt (IsS47.lt (show IsS47 w0 _ g _ _ _ from (qS3))) : g ≠ gb307)) : p := h
theorem qS105 {p : Prop} (h : p := by exact (by rw [hg]; exact Nat.ne_of_gt (IsS47.lt (show IsS47 w0 _ g _ _ _ from (qS3))) : gb307 ≠ g)) : p := h
theorem qS106 {p : Prop} (h : p := by exact (by rw [hg]; exact (keep_size (w := w) (g := g) (row := none) (qS5)) : w.heap.size ≤ gb307)) : p := h
theorem qS107 {q0 p : Prop} (x0 : q0) (h : q0 → p := by intro hx0_; exact zK (zN (IsS47.apart (show IsS47 w _ gb670 l0 t677 t678 from (qS34)) (qS1 hx0_) (by decide)) hk (fun _ h => h.2)) (fun _ h => h.1)) : p := h x0
theorem qS108 {q0 p : Prop} (x0 : q0) (h : q0 → p := by intro hx0_; exact zK (zN (IsS47.apart (show IsS47 w _ gb406 l0 t416 t417 from (qS42)) (qS1 hx0_) (by decide)) hk (fun _ h => h.2)) (fun _ h => h.1)) : p := h x0
theorem qS109 {q0 p : Prop} (x0 : q0) (h : q0 → p := by intro hx0_; exact zK (zN (IsS47.apart (show IsS47 w _ gb406 l0 t413 t414 from (qS42)) (qS1 hx0_) (by decide)) hk (fun _ h => h.2)) (fun _ h => h.1)) : p := h x0
theorem qS110 {p : Prop} (h : p := by exact Kd.R_below (Kd.R_elderB (qS1 HO_5.1) gb307 (Nat.le_of_eq hg.symm)) hb) : p := h
abbrev qSb0 : Array Bool := #[false, false, false, false, false, false, false, false, false, false, false]
abbrev qSb1 : Array Bool := #[true, true, true, true, true, true, true, true, true, true, false]
abbrev qSb2 : Array Bool := #[true, true, true, true, true, true, true, true, true, false, false]
abbrev qSb3 : Array Bool := #[true, true, true, true, true, true, true, true, true, true, true]
abbrev qSb4 : Array Bool := #[false, false, false, false, false, false, false, false, false, false, false, false, false]
abbrev qSb5 : Array Bool := #[false, true, false, false, false, false, false, false, false, false, false, false, false]
abbrev qSb6 : Array Bool := #[false, true, true, false, false, false, false, false, false, false, false, false, false]
abbrev qSb7 : Array Bool := #[false, true, true, true, false, false, false, false, false, false, false, false, false]
abbrev qSb8 : Array Bool := #[false, true, true, true, false, true, false, false, false, false, false, false, false]
abbrev qSb9 : Array Bool := #[false, true, true, true, false, true, false, false, true, false, false, false, false]
abbrev qSb10 : Array Bool := #[false, true, true, true, false, true, false, false, true, true, false, false, false]
abbrev qSb11 : Array Bool := #[false, true, true, true, false, true, false, false, true, true, true, false, false]
abbrev qSb12 : Array Bool := #[true, true, true, true, true, true, true, false, true, true, true, false, false]
abbrev qSb13 : Array Bool := #[true, true, true, true, false, true, false, false, true, true, true, false, false]
abbrev qSb14 : Array Bool := #[false, true, true, true, false, true, true, false, true, true, true, false, false]
abbrev qSb15 : Array Bool := #[true, true, true, true, true, true, false, false, true, true, true, false, false]
abbrev qSb16 : Array Bool := #[true, true, true, true, false, true, true, false, true, true, true, false, false]
abbrev qSb17 : Array Bool := #[true, true, true, true, true, true, true, true, true, true, true, false, false]
abbrev qSb18 : Array Bool := #[true, true, true, true, true, true, true, true, true, true, true, true, false]
abbrev qSb19 : Array Bool := #[true, true, true, true, true, true, true, true, true, true, true, true, true]
abbrev qSb20 : Array Bool := #[false, true, false, false, false, false, false, false, false, false, false]
abbrev qSb21 : Array Bool := #[false, true, true, false, false, false, false, false, false, false, false]
abbrev qSb22 : Array Bool := #[false, true, true, true, false, false, false, false, false, false, false]
abbrev qSb23 : Array Bool := #[false, true, true, true, false, true, false, false, false, false, false]
abbrev qSb24 : Array Bool := #[false, true, true, true, false, true, true, false, false, false, false]
abbrev qSb25 : Array Bool := #[false, true, true, true, false, true, true, true, false, false, false]
abbrev qSb26 : Array Bool := #[false, true, true, true, false, true, true, true, true, false, false]
abbrev qSb27 : Array Bool := #[true, true, true, true, false, true, true, true, true, false, false]
abbrev qSb28 : Array Bool := #[false, false, false, false, false, false, false, false, false, false, false, false, false, false, false, false]
abbrev qSb29 : Array Bool := #[false, true, false, false, false, false, false, false, false, false, false, false, false, false, false, false]
abbrev qSb30 : Array Bool := #[false, true, true, false, false, false, false, false, false, false, false, false, false, false, false, false]
abbrev qSb31 : Array Bool := #[false, true, true, true, false, false, false, false, false, false, false, false, false, false, false, false]
abbrev qSb32 : Array Bool := #[false, true, true, true, false, true, false, false, false, false, false, false, false, false, false, false]
abbrev qSb33 : Array Bool := #[false, true, true, true, false, true, true, false, false, false, false, false, false, false, false, false]
abbrev qSb34 : Array Bool := #[false, true, true, true, false, true, true, true, false, false, false, false, false, false, false, false]
abbrev qSb35 : Array Bool := #[false, true, true, true, false, true, true, true, false, false, false, true, false, false, false, false]
abbrev qSb36 : Array Bool := #[false, true, true, true, false, true, true, true, false, false, false, true, true, false, false, false]
abbrev qSb37 : Array Bool := #[false, true, true, true, false, true, true, true, false, false, false, true, true, true, false, false]
abbrev qSb38 : Array Bool := #[false, true, true, true, false, true, true, true, true, false, false, true, true, true, false, false]
abbrev qSb39 : Array Bool := #[true, true, true, true, true, true, true, true, true, true, false, true, true, true, false, false]
abbrev qSb40 : Array Bool := #[true, true, true, true, false, true, true, true, true, false, false, true, true, true, false, false]
abbrev qSb41 : Array Bool := #[false, true, true, true, false, true, true, true, true, true, false, true, true, true, false, false]
abbrev qSb42 : Array Bool := #[true, true, true, true, true, true, true, true, true, false, false, true, true, true, false, false]
abbrev qSb43 : Array Bool := #[true, true, true, true, false, true, true, true, true, true, false, true, true, true, false, false]
abbrev qSb44 : Array Bool := #[true, true, true, true, true, true, true, true, true, true, true, true, true, true, false, false]
abbrev qSb45 : Array Bool := #[true, true, true, true, true, true, true, true, true, true, true, true, true, true, true, false]
abbrev qSb46 : Array Bool := #[true, true, true, true, true, true, true, true, true, true, true, true, true, true, true, true]
end Go.Proofs.Ytoljdjgndogegaa.MS
