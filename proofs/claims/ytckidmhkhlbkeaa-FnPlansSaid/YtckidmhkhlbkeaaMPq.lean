-- Written by a program of this session (wip/tight2.py). -- tight2
import Derived.Test.YtckidmhkhlbkeaaProg
import Derived.Below
import Derived.Deep.Draws
import Derived.Deep.AppendLies
import Derived.Maps.AppendAt
import Derived.OwnWalk
import Derived.Laws.BytesArg
import Derived.Laws.MakeOwn
import Derived.Laws.OwnMore
import Derived.Deep.OwnRows
import Derived.Tactics
import Derived.Lib.ConvBytes
import Derived.Laws.Slices
import Derived.WalkKit
import Derived.KernelRfl
import Derived.RowKit3
import Derived.Deep.LoopGhost
import Derived.Deep.QuietTactic
import Derived.BigQuiet
import Derived.WideLaws
import Derived.Deep.DeepCutAuto
import Derived.Deep.CutBlock
import Derived.Deep.RegionHeld3
import Derived.Laws.Rows
import Derived.Lib.AppendStr
import Derived.ArgAppend
import Derived.Laws.IdiomCopy
import Derived.OrdersHeld
import Derived.Laws.BitsLemmas
import Derived.RowKit
import Derived.Deep.RegionHeld3
import Derived.Laws.CopyOwn
import Derived.StillTailTactics
import Derived.Test.YtckidmhkhlbkeaaWWords
import Derived.Test.YtckidmhkhlbkeaaWLast
import Derived.Test.YtckidmhkhlbkeaaWTab
import Derived.Test.YtckidmhkhlbkeaaWApart
import Derived.Test.YtckidmhkhlbkeaaWArr
import Derived.Test.YtckidmhkhlbkeaaWFoot
import Derived.Test.YtckidmhkhlbkeaaWKept
import Derived.Test.YtckidmhkhlbkeaaWRepsOne
namespace Go.Proofs.Ytckidmhkhlbkeaa.MP
open Go.RowKit Go.Proofs.YtckidmhkhlbkeaaW.PrintWords Go.Proofs.YtckidmhkhlbkeaaW.PrintLast
-- Small words of this claim's own (the module 'More' of the words has such too; it would bring five modules along of which nothing is used here).
section
variable {P : Program} {ops : Array Oper} {rest : List Oper} {o : Oper} {a : Act} {Q : Exit → Act → World → Prop} {W : World}
theorem gate_callee {f : FuncId} {xs : Array Operand} {ts : Array TypeId} (_ho : o.op = .call { callee := .value (.func f), args := xs, argTypes := ts }) (h : wpList P ops Q (o :: rest) a W) : wpList P ops Q (o :: rest) a W := h
theorem gate_builtin {b : Builtin} {xs : Array Operand} {ts : Array TypeId} (_ho : o.op = .call { callee := .builtin b, args := xs, argTypes := ts }) (h : wpList P ops Q (o :: rest) a W) : wpList P ops Q (o :: rest) a W := h
end
theorem drewN_self (w : World) (n : Nat) : w.drewN n = w.drewN n := rfl
theorem calls_of_args {P : Program} {f : FuncId} {args args' : Array Value} {w : World} {Q : Ending → World → Prop} (h : args = args') (hc : Calls P f args' w Q) : Calls P f args w Q := by
  subst h
  exact hc
def mx (a b : Int) : Int := if a < b then b else a
def mn (a b : Int) : Int := if b < a then b else a
theorem max2_int (k k' : IntKind) (x y : Int) : Builtin.max2 (.int k x) (.int k' y) = pure (.int k (if x < y then y else x)) := by simp only [Builtin.max2, gt_iff_lt]
theorem min2_int (k k' : IntKind) (x y : Int) : Builtin.min2 (.int k x) (.int k' y) = pure (.int k (if y < x then y else x)) := by simp only [Builtin.min2]
theorem max_two (ats : Array TypeId) (ty : TypeId) (a b : Value) : Builtin.max_ ats ty #[a, b] = (Builtin.max2 a b >>= fun s => pure s) := by simp only [Builtin.max_, List.foldlM_cons, List.foldlM_nil]
theorem min_two (ats : Array TypeId) (ty : TypeId) (a b : Value) : Builtin.min_ ats ty #[a, b] = (Builtin.min2 a b >>= fun s => pure s) := by simp only [Builtin.min_, List.foldlM_cons, List.foldlM_nil]
theorem Kd.R_newM {α : Type} {d : Kd α} {e : Nat} {w w1 W : World} {ok M : Nat → Prop} {v : Value} {xs : List α} (h : d.R e w1 W.heap.size ok v xs) (hle : w.heap.size ≤ W.heap.size) (hM : ∀ k, w.heap.size ≤ k → M k) : d.R e w1 W.heap.size (fun k => M k ∧ ok k) v xs :=
  Kd.R_mono (Kd.R_bound h) (fun k hk => ⟨hM k (Nat.le_trans hle hk.2.1), hk.1⟩)
theorem Kd.R_keptB {α : Type} {d : Kd α} {e base : Nat} {W W2 : World} {S ok : Nat → Prop} {v : Value} {xs : List α} (h : d.R e W base ok v xs) (hk : Kept W W2 S) (hne : ∀ k, ok k → ¬ S k) : d.R e W2 base (fun k => ok k ∧ (¬ S k ∧ k < W.heap.size)) v xs :=
  Kd.R_kept (Kd.R_mono (Kd.R_bound h) (fun k hk => ⟨hk.1, hne k hk.1, hk.2.2.1⟩)) hk (fun _ hk => hk.2.1)
abbrev za := @Aside0.mk
abbrev zb := @of_decide_eq_true
abbrev zc := @decide_eq_true
abbrev zd := @World.block_lt_of_cell?
abbrev ze := @blk_frozen
abbrev zf := @blk_alloc
abbrev zg := @blk_drewN
abbrev zh := @blk_drew
abbrev zi := @blk_put
abbrev zj := @blk_below
abbrev zk := @Option.some.inj
theorem zl {b : Bool} (h : b ≠ true) : b = false := Bool.eq_false_iff.mpr h
abbrev zm := @Nat.le_refl
abbrev zn := @gate_callee
abbrev zo := @gate_dst
abbrev zp := @Below.refl
abbrev zq := @Reps.one
abbrev zr := @Reps.none
abbrev zs := @decide_eq_false
abbrev zt := @eq_true
theorem zu {α : Type} [BEq α] [LawfulBEq α] {a b : α} (h : a ≠ b) : (a == b) = false := beq_eq_false_iff_ne.mpr h
theorem zv {α : Type} [BEq α] [LawfulBEq α] {a b : α} (h : a = b) : (a != b) = false := bne_eq_false_iff_eq.mpr h
abbrev zw := @KeepBut.blk
abbrev zx := @KeepBut.trans
abbrev zy := @box_event
theorem zz {α β : Type} {x : Option α} {f : α → Option β} {b : β} (h : x.bind f = some b) : ∃ a, x = some a ∧ f a = some b := Option.bind_eq_some_iff.mp h
abbrev zA := @Kd.C_below
abbrev zB := @Kd.R_reads'
abbrev zC := @Kd.R_slice
abbrev zD := @Kd.R_mono
abbrev zE := @Kd.R_far
abbrev zF := @Kd.R_keep
abbrev zG := @Kd.R_drew
abbrev zH := @Kd.R_lower
abbrev zI := @Kd.R_lit
abbrev zJ := @absurd
abbrev zK := @KeepBut.of_below
abbrev zL := @World.drewN_drewN
theorem zM {α : Type} [BEq α] [LawfulBEq α] {a b : α} (h : a = b) : (a == b) = true := beq_iff_eq.mpr h
theorem zN {α : Type} [BEq α] [LawfulBEq α] {a b : α} (h : a ≠ b) : (a != b) = true := bne_iff_ne.mpr h
abbrev zO := @goesL_
abbrev zP := @below_step
abbrev zQ := @below_size
abbrev zR := @Or.inl
abbrev zS := @below_alloc
abbrev zT := @below_set
theorem zU {c : Prop} {h : Decidable c} (hc : c) {α : Type} {t e : α} : ite c t e = t := if_pos hc
theorem zV {c : Prop} {h : Decidable c} (hc : ¬ c) {α : Type} {t e : α} : ite c t e = e := if_neg hc
theorem zW {α : Type} (a b : α) : (some a = some b) = (a = b) := Option.some.injEq a b
theorem zX {α β : Type} (a : α) (b : β) (c : α) (d : β) : ((a, b) = (c, d)) = (a = c ∧ b = d) := Prod.mk.injEq a b c d
theorem zY {α : Type} (l : List α) (i : Nat) (a : α) : l.toArray.setIfInBounds i a = (l.set i a).toArray := List.setIfInBounds_toArray ..
theorem zZ {α : Type} {x : α} {xs : List α} {a : α} : (x :: xs).set 0 a = a :: xs := rfl
theorem ya {α : Type} {x : α} {xs : List α} {n : Nat} {a : α} : (x :: xs).set (n + 1) a = x :: xs.set n a := rfl
theorem qB {w w1 : World} {g : Nat} {o : Obj} (B : w.heap[g]? = some o) (h : w.heap[g]? = some o → w1.heap[g]? = some o := by intro B; (with_reducible repeat (first | refine zg ?_ _ | refine zh ?_ | refine zf ?_ _)); exact B) : w1.heap[g]? = some o := h B
theorem qmono {p : Prop} (h : p := by
  repeat' first
  | (with_reducible first | apply ih0 | apply ih1 | apply ih2 | apply ih3 | apply ih4 | apply ih5 | apply ih6 | apply ih7 | apply ih8 | apply ih9)
  | (with_reducible first | apply m0 | apply m1 | apply m2 | apply m3 | apply m4 | apply m5 | apply m6 | apply m7 | apply m8 | apply m9 | apply m10 | apply m11 | apply m12 | apply m13 | apply m14 | apply m15 | apply m16 | apply m17 | apply m18 | apply m19 | apply m20 | apply m21 | apply m22 | apply m23 | apply m24 | apply m25)
  | (with_reducible exact LeO.refl _)
  | (with_reducible exact LeO.none _)
  | (with_reducible refine LeO.ite ?_ ?_)
  | (with_reducible refine LeO.bind ?_ (fun _ => ?_))
  | first | apply ih0 | apply ih1 | apply ih2 | apply ih3 | apply ih4 | apply ih5 | apply ih6 | apply ih7 | apply ih8 | apply ih9
  | exact LeO.none _
  | refine LeO.ite ?_ ?_
  | refine LeO.bind ?_ (fun _ => ?_)) : p := h
theorem bindA {α β : Type} {x : Option α} {f : α → Option β} {r : β} (h : x.bind f = some r) : ∃ a, Aside0 (x = some a) ∧ f a = some r := by
  obtain ⟨a, h1, h2⟩ := zz h
  exact ⟨a, ⟨h1⟩, h2⟩
theorem qP0 {q0 p : Prop} (x0 : q0) (h : q0 → p := by intro hx0_; (with_reducible repeat (first | apply Kd.R_alloc | apply Kd.R_drewN | apply zG)); exact hx0_) : p := h x0
theorem qP1 {p : Prop} (h : p := by repeat (first | (with_reducible first | exact HB.1 | apply zS | apply pw_below_drewN | apply below_drew1) | exact HB.1)) : p := h
theorem qP2 {p : Prop} (h : p := by repeat (first | (with_reducible first | exact HI0.1 | apply IsS85.alloc | apply IsS85.drewN | apply IsS85.drew | apply IsS85.set_1 | apply IsS85.set_2) | exact HI0.1)) : p := h
theorem qP3 {p : Prop} (h : p := by repeat (first | (with_reducible first | exact HK.1 | apply KeepBut.set_ | apply keep_drewN | apply keep_drew | apply keep_alloc) | exact HK.1)) : p := h
theorem qP4 {p : Prop} (h : p := by repeat (first | (with_reducible first | exact HB.1 | apply zS | apply pw_below_drewN | apply below_drew1 | refine zT ?_ (IsS85.ge HI0.1)) | exact HB.1)) : p := h
theorem qP5 {p : Prop} (h : p := by (try simp only [List.map_toArray, List.map_cons, List.map_nil]); first | done | rfl | (simp only [List.length_drop, List.length_take]; rfl)) : p := h
theorem qP6 {q0 p : Prop} (x0 : q0) (h : q0 → p := by intro hx0_; repeat (first | exact (zB hx0_).2.2 | (with_reducible refine Kd.C_alloc ?_ _) | (with_reducible refine Kd.C_drewN ?_ _) | (with_reducible refine Kd.C_drew ?_))) : p := h x0
theorem qP7 {p : Prop} (h : p := by repeat (first | (with_reducible first | exact HI0.1 | apply IsS85.alloc | apply IsS85.drewN | apply IsS85.drew | apply IsS85.set_1 | apply IsS85.set_2 | refine IsS85.far ?_ NB0_211.1 _) | exact HI0.1)) : p := h
theorem qP8 {p : Prop} (h : p := by first | (simp only [putAll, Act.put, zY, zZ, ya]; done) | (simp only [putAll, Act.put, zY, zZ, ya]; rfl)) : p := h
theorem qP9 {p : Prop} (h : p := by first | (with_reducible assumption) | assumption) : p := h
theorem qP10 {p : Prop} (h : p := by exact any_of HT_.1 (by kernel_rfl)) : p := h
theorem qP11 {p : Prop} (h : p := by repeat (first | exact (zA HR0.1 HB.1) | (with_reducible refine Kd.C_alloc ?_ _) | (with_reducible refine Kd.C_drewN ?_ _) | (with_reducible refine Kd.C_drew ?_))) : p := h
theorem qP12 {p : Prop} (h : p := by repeat (first | (with_reducible first | exact HK.1 | apply KeepBut.set_ | apply keep_drewN | apply keep_drew | apply keep_alloc | refine keep_far ?_ GW211.1 _) | exact HK.1)) : p := h
theorem qP13 {q0 p : Prop} (x0 : q0) (h : q0 → p := by intro hx0_; first | (rw [hx0_]; with_reducible exact H) | (have H2_ := (Option.bind_some _ _).symm.trans H; rw [hx0_]; with_reducible exact H2_) | (have H2_ := (Option.bind_some _ _).symm.trans H; with_reducible exact H2_) | with_reducible exact H | (rw [hx0_]; exact H) | exact H) : p := h x0
theorem qP14 {q0 p : Prop} (x0 : q0) (h : q0 → p := by intro hx0_; repeat (first | (with_reducible first | exact HB.1 | apply zS | apply pw_below_drewN | apply below_drew1 | refine zT ?_ hx0_) | exact HB.1)) : p := h x0
theorem qP15 {p : Prop} (h : p := by repeat (first | (with_reducible first | exact HB.1 | apply zS | apply pw_below_drewN | apply below_drew1 | refine zT ?_ (IsS85.ge HI0.1) | refine zT ?_ GE211.1) | exact HB.1)) : p := h
theorem qP16 {q0 p : Prop} (x0 : q0) (h : q0 → p := by intro hx0_; (with_reducible repeat (first | refine zg ?_ _ | refine zh ?_ | refine zf ?_ _)); refine zi (cs := #[.string ((rd_T44 l0 x7_1).f0), .int .i64 ((rd_T44 l0 x7_1).f1), .int .i64 0]) ?_ 2 _ rfl; (with_reducible repeat (first | refine zg ?_ _ | refine zh ?_ | refine zf ?_ _)); refine zi (cs := #[.string ((rd_T44 l0 x7_1).f0), .int .i64 0, .int .i64 0]) ?_ 1 _ rfl; (with_reducible repeat (first | refine zg ?_ _ | refine zh ?_ | refine zf ?_ _)); refine zi (cs := #[.string (⟨#[]⟩ : ByteArray), .int .i64 0, .int .i64 0]) ?_ 0 _ rfl; (with_reducible repeat (first | refine zg ?_ _ | refine zh ?_ | refine zf ?_ _)); exact hx0_) : p := h x0
theorem qP17 {p : Prop} (h : p := by first | rfl | (simp; done) | (simp [*]; done)) : p := h
theorem qP18 {p : Prop} (h : p := by exact (zq (show Kd.M (Kd.int .i64) _ _ _ (-25) [.int .i64 (-25)] from rfl) (zq (show Kd.M (Kd.int .i64) _ _ _ (-10) [.int .i64 (-10)] from rfl) (zq (show Kd.M (Kd.int .i64) _ _ _ 0 [.int .i64 0] from rfl) (zq (show Kd.M (Kd.int .i64) _ _ _ 1 [.int .i64 1] from rfl) (zq (show Kd.M (Kd.int .i64) _ _ _ 9 [.int .i64 9] from rfl) (zq (show Kd.M (Kd.int .i64) _ _ _ 20 [.int .i64 20] from rfl) (zq (show Kd.M (Kd.int .i64) _ _ _ (-1000) [.int .i64 (-1000)] from rfl) (zr _ _))))))))) : p := h
theorem qP19 {p : Prop} (h : p := by first | rfl | (simp [errW_none, errW_some] <;> rfl) | (simp [*, errW_none, errW_some] <;> rfl)) : p := h
theorem qP20 {p : Prop} (h : p := by repeat (first | exact HR0.1 | (with_reducible refine Kd.C_alloc ?_ _) | (with_reducible refine Kd.C_drewN ?_ _) | (with_reducible refine Kd.C_drew ?_))) : p := h
theorem qP21 {p : Prop} (h : p := by (with_reducible repeat (first | refine zg ?_ _ | refine zh ?_ | refine zf ?_ _)); refine zi (cs := #[.string ((rd_T44 l0 x3_1).f0), .int .i64 ((rd_T44 l0 x3_1).f1), .int .i64 0]) ?_ 2 _ rfl; (with_reducible repeat (first | refine zg ?_ _ | refine zh ?_ | refine zf ?_ _)); refine zi (cs := #[.string ((rd_T44 l0 x3_1).f0), .int .i64 0, .int .i64 0]) ?_ 1 _ rfl; (with_reducible repeat (first | refine zg ?_ _ | refine zh ?_ | refine zf ?_ _)); refine zi (cs := #[.string (⟨#[]⟩ : ByteArray), .int .i64 0, .int .i64 0]) ?_ 0 _ rfl; (with_reducible repeat (first | refine zg ?_ _ | refine zh ?_ | refine zf ?_ _)); exact BK114.1) : p := h
theorem qP22 {p : Prop} (h : p := by kernel_rfl) : p := h
theorem qP23 {p : Prop} (h : p := by exact (zq (show Kd.M (Kd.int .i64) _ _ _ (-30) [.int .i64 (-30)] from rfl) (zq (show Kd.M (Kd.int .i64) _ _ _ (-1) [.int .i64 (-1)] from rfl) (zq (show Kd.M (Kd.int .i64) _ _ _ 0 [.int .i64 0] from rfl) (zq (show Kd.M (Kd.int .i64) _ _ _ 5 [.int .i64 5] from rfl) (zq (show Kd.M (Kd.int .i64) _ _ _ 9 [.int .i64 9] from rfl) (zq (show Kd.M (Kd.int .i64) _ _ _ 10 [.int .i64 10] from rfl) (zq (show Kd.M (Kd.int .i64) _ _ _ 40 [.int .i64 40] from rfl) (zq (show Kd.M (Kd.int .i64) _ _ _ 1000 [.int .i64 1000] from rfl) (zr _ _)))))))))) : p := h
theorem qP24 {p : Prop} (h : p := by first | (go_simp; done) | (go_simp; rfl)) : p := h
theorem qP25 {p : Prop} (h : p := by (with_reducible repeat (first | refine zg ?_ _ | refine zh ?_ | refine zf ?_ _)); refine zi (cs := #[.string ((rd_T44 x3_1 t207).f0), .int .i64 ((rd_T44 x3_1 t207).f1), .int .i64 0]) ?_ 2 _ rfl; (with_reducible repeat (first | refine zg ?_ _ | refine zh ?_ | refine zf ?_ _)); refine zi (cs := #[.string ((rd_T44 x3_1 t207).f0), .int .i64 0, .int .i64 0]) ?_ 1 _ rfl; (with_reducible repeat (first | refine zg ?_ _ | refine zh ?_ | refine zf ?_ _)); refine zi (cs := #[.string (⟨#[]⟩ : ByteArray), .int .i64 0, .int .i64 0]) ?_ 0 _ rfl; (with_reducible repeat (first | refine zg ?_ _ | refine zh ?_ | refine zf ?_ _)); exact BK211.1) : p := h
theorem qP26 {p : Prop} (h : p := by repeat (first | (with_reducible first | exact HI283.1 | apply IsS85.alloc | apply IsS85.drewN | apply IsS85.drew | apply IsS85.set_1 | apply IsS85.set_2) | exact HI283.1)) : p := h
theorem qP27 {q0 p : Prop} (x0 : q0) (h : q0 → p := by intro hx0_; (with_reducible repeat (first | apply Kd.R_alloc | apply Kd.R_drewN | apply zG)); exact zD hx0_ (fun _ hk => hk.2)) : p := h x0
theorem qP28 {p : Prop} (h : p := by (with_reducible repeat (first | apply Kd.R_alloc | apply Kd.R_drewN | apply zG)); exact (zD (zE (p := ⟨gb211, 2, none⟩) (zE (p := ⟨gb211, 1, none⟩) (zE (p := ⟨gb211, 0, none⟩) (zD HO_3.1 (fun k_ hk => (⟨hk, hk.2⟩ : _ ∧ k_ ≠ gb211))) (fun _ hk => hk.2) (.string ((rd_T44 x3_1 t207).f0))) (fun _ hk => hk.2) (.int .i64 ((rd_T44 x3_1 t207).f1))) (fun _ hk => hk.2) (.int .i64 ((rd_T44 x3_1 t207).f2))) (fun _ h_ => h_.1))) : p := h
theorem qP29 {p : Prop} (h : p := by repeat (first | (with_reducible first | exact HI0.1 | apply IsS79.alloc | apply IsS79.drewN | apply IsS79.drew | apply IsS79.set_1 | apply IsS79.set_2 | apply IsS79.set_3 | apply IsS79.set_4 | apply IsS79.set_5) | exact HI0.1)) : p := h
theorem qP30 {p : Prop} (h : p := by repeat (first | (with_reducible first | exact HB.1 | apply zS | apply pw_below_drewN | apply below_drew1 | refine zT ?_ (IsS85.ge HI283.1)) | exact HB.1)) : p := h
theorem qP31 {p : Prop} (h : p := by repeat (first | exact Drawn0.refl _ | apply Drawn0.step)) : p := h
theorem qP32 {q0 p : Prop} (x0 : q0) (h : q0 → p := by intro hx0_; exact (zB hx0_).2.1) : p := h x0
theorem qP33 {p : Prop} (h : p := by (with_reducible repeat (first | apply Kd.R_alloc | apply Kd.R_drewN | apply zG)); exact zD (zE (p := ⟨gb158, 2, none⟩) (zE (p := ⟨gb158, 1, none⟩) (zE (p := ⟨gb158, 0, none⟩) (Kd.R_types HO_6.1 BK158.1 (by decide)) (fun _ hk => hk.2) (.string ((rd_T44 l0 x7_1).f0))) (fun _ hk => hk.2) (.int .i64 ((rd_T44 l0 x7_1).f1))) (fun _ hk => hk.2) (.int .i64 ((rd_T44 l0 x7_1).f2))) (fun _ hk => trivial)) : p := h
theorem qP34 {p : Prop} (h : p := by repeat (first | (with_reducible first | exact HB.1 | apply zS | apply pw_below_drewN | apply below_drew1 | refine zT ?_ (IsS85.ge HI330.1)) | exact HB.1)) : p := h
theorem qP35 {p : Prop} (h : p := by repeat (first | (with_reducible first | exact HI330.1 | apply IsS85.alloc | apply IsS85.drewN | apply IsS85.drew | apply IsS85.set_1 | apply IsS85.set_2) | exact HI330.1)) : p := h
theorem qP36 {q0 p : Prop} (x0 : q0) (h : q0 → p := by intro hx0_; (with_reducible repeat (first | apply Kd.R_alloc | apply Kd.R_drewN | apply zG)); exact zD hx0_ (fun _ hk => trivial)) : p := h x0
theorem qP37 {p : Prop} (h : p := by repeat (first | (with_reducible first | exact HBW.1 | apply zS | apply pw_below_drewN | apply below_drew1 | refine zT ?_ GW142.1) | exact HBW.1)) : p := h
theorem qP38 {p : Prop} (h : p := by (with_reducible repeat (first | refine zg ?_ _ | refine zh ?_ | refine zf ?_ _)); refine zi (cs := #[.string ((rd_T44 l0 x18_1).f0), .int .i64 ((rd_T44 l0 x18_1).f1), .int .i64 0]) ?_ 2 _ rfl; (with_reducible repeat (first | refine zg ?_ _ | refine zh ?_ | refine zf ?_ _)); refine zi (cs := #[.string ((rd_T44 l0 x18_1).f0), .int .i64 0, .int .i64 0]) ?_ 1 _ rfl; (with_reducible repeat (first | refine zg ?_ _ | refine zh ?_ | refine zf ?_ _)); refine zi (cs := #[.string (⟨#[]⟩ : ByteArray), .int .i64 0, .int .i64 0]) ?_ 0 _ rfl; (with_reducible repeat (first | refine zg ?_ _ | refine zh ?_ | refine zf ?_ _)); exact BK144.1) : p := h
theorem qP39 {p : Prop} (h : p := by repeat (first | (with_reducible first | exact HBW.1 | apply zS | apply pw_below_drewN | apply below_drew1 | refine zT ?_ GW142.1 | refine zT ?_ GW144.1) | exact HBW.1)) : p := h
theorem qP40 {p : Prop} (h : p := by repeat (first | (with_reducible first | exact HB.1 | apply zS | apply pw_below_drewN | apply below_drew1 | refine zT ?_ GE142.1 | refine zT ?_ GE144.1) | exact HB.1)) : p := h
theorem qP41 {p : Prop} (h : p := by exact (zq (show Kd.M (Kd.int .u8) _ _ _ x4_1 [.int .u8 x4_1] from rfl) (zr _ _))) : p := h
theorem qP42 {q0 p : Prop} (x0 : q0) (h : q0 → p := by intro hx0_; exact far_slice (IsS85.own_ne HI0.1 hx0_ (by decide))) : p := h x0
theorem qP43 {p : Prop} (h : p := by (with_reducible repeat (first | refine zg ?_ _ | refine zh ?_ | refine zf ?_ _)); refine blk_far ?_ NB142_144.1 _; (with_reducible repeat (first | refine zg ?_ _ | refine zh ?_ | refine zf ?_ _)); refine blk_far ?_ NB142_144.1 _; (with_reducible repeat (first | refine zg ?_ _ | refine zh ?_ | refine zf ?_ _)); refine blk_far ?_ NB142_144.1 _; (with_reducible repeat (first | refine zg ?_ _ | refine zh ?_ | refine zf ?_ _)); exact BK142.1) : p := h
theorem qP44 {p : Prop} (h : p := by repeat (first | (with_reducible first | exact HB.1 | apply zS | apply pw_below_drewN | apply below_drew1 | refine zT ?_ (IsS85.ge HI261.1)) | exact HB.1)) : p := h
theorem qP45 {p : Prop} (h : p := by exact (zq (show Kd.M (Kd.int .i64) _ _ _ 1 [.int .i64 1] from rfl) (zq (show Kd.M (Kd.int .i64) _ _ _ 3 [.int .i64 3] from rfl) (zq (show Kd.M (Kd.int .i64) _ _ _ 10 [.int .i64 10] from rfl) (zq (show Kd.M (Kd.int .i64) _ _ _ 20 [.int .i64 20] from rfl) (zq (show Kd.M (Kd.int .i64) _ _ _ 0 [.int .i64 0] from rfl) (zq (show Kd.M (Kd.int .i64) _ _ _ 21 [.int .i64 21] from rfl) (zr _ _)))))))) : p := h
theorem qP46 {p : Prop} (h : p := by repeat (first | (with_reducible first | exact HB.1 | apply zS | apply pw_below_drewN | apply below_drew1 | refine zT ?_ (IsS79.ge HI322.1)) | exact HB.1)) : p := h
theorem qP47 {p : Prop} (h : p := by repeat (first | (with_reducible first | exact HI261.1 | apply IsS85.alloc | apply IsS85.drewN | apply IsS85.drew | apply IsS85.set_1 | apply IsS85.set_2) | exact HI261.1)) : p := h
theorem qP48 {p : Prop} (h : p := by repeat (first | (with_reducible first | exact HB.1 | apply zS | apply pw_below_drewN | apply below_drew1 | refine zT ?_ (IsS79.ge HI0.1)) | exact HB.1)) : p := h
theorem qP49 {p : Prop} (h : p := by exact blk_grown (qB BK211.1) hg (Kd.R_away HO_3.1 (fun _ hk => hk))) : p := h
theorem qP50 {p : Prop} (h : p := by exact zP (zS (zp w.heap.size w) (.cells #[.string a2] 9 (0, 0))) hb) : p := h
theorem qP51 {p : Prop} (h : p := by first | rfl | (simp only [i64_w]; rfl) | (simp [errW_none, errW_some] <;> rfl) | (simp [*, errW_none, errW_some] <;> rfl)) : p := h
theorem qP52 {p : Prop} (h : p := by exact zw hk (qB BK211.1) NB211_0.1 (by simp)) : p := h
theorem qP53 {p : Prop} (h : p := by exact zj (blk_new w (.cells #[.string a2] 9 (0, 0))) hb) : p := h
theorem qP54 {p : Prop} (h : p := by exact (zq (show Kd.M (Kd.int .i64) _ _ _ (-1001) [.int .i64 (-1001)] from rfl) (zq (show Kd.M (Kd.int .i64) _ _ _ 1001 [.int .i64 1001] from rfl) (zr _ _)))) : p := h
theorem qP55 {p : Prop} (h : p := by exact impl_planOf.yes3 k A0 c0 l0 a1 p _ w hr0 hc0 A1 hb56) : p := h
theorem qP56 {q0 p : Prop} (x0 : q0) (h : q0 → p := by intro hx0_; (with_reducible repeat (first | refine zg ?_ _ | refine zh ?_ | refine zf ?_ _)); exact hx0_) : p := h x0
theorem qP57 {p : Prop} (h : p := by repeat (first | (with_reducible first | exact HS3.1.b | apply zS | apply pw_below_drewN | apply below_drew1) | exact HS3.1.b)) : p := h
theorem qP58 {p : Prop} (h : p := by repeat (first | (with_reducible first | exact HBW.1 | apply zS | apply pw_below_drewN | apply below_drew1) | exact HBW.1)) : p := h
theorem qP59 {p : Prop} (h : p := by first | exact zp _ _ | exact pw_below_drewN (zp _ _) _ | exact below_drew1 (zp _ _)) : p := h
theorem qP60 {p : Prop} (h : p := by exact (by rw [hg]; exact Nat.ne_of_lt (blk_lt (qB BK142.1)) : gb142 ≠ gb144)) : p := h
theorem qP61 {p : Prop} (h : p := by exact (by rw [hg]; exact Nat.ne_of_gt (blk_lt (qB BK142.1)) : gb144 ≠ gb142)) : p := h
theorem qP62 {q0 p : Prop} (x0 : q0) (h : q0 → p := by intro hx0_; exact zD (zF (IsS85.apart (show IsS85 w0 _ g _ _ _ from (qP2)) (qP0 hx0_) (by decide)) hk (fun _ h => h.2)) (fun _ h => h.1)) : p := h x0
theorem qP63 {q0 p : Prop} (x0 : q0) (h : q0 → p := by intro hx0_; exact Kd.R_below (qP0 hx0_) hb) : p := h x0
theorem qP64 {p : Prop} (h : p := by exact zP (qP1) hb) : p := h
theorem qP65 {p : Prop} (h : p := by exact zx (qP3) (zK hb g none) (.inl rfl)) : p := h
theorem qP66 {q0 p : Prop} (x0 : q0) (h : q0 → p := by intro hx0_; exact zH hx0_ (keep_size (w := w) (g := g) (row := none) (qP3))) : p := h x0
theorem qP67 {p : Prop} (h : p := by exact zx (qP3) hk (.inl rfl)) : p := h
theorem qP68 {p : Prop} (h : p := by exact (by rw [hg]; exact (zQ (qP1)) : w.heap.size ≤ gb158)) : p := h
theorem qP69 {p : Prop} (h : p := by exact (by rw [hg]; exact (zQ (qP1)) : w.heap.size ≤ gb114)) : p := h
theorem qP70 {p : Prop} (h : p := by exact one_of HT_.1 (qP22)) : p := h
theorem qP71 {p : Prop} (h : p := by exact IsS85.below (qP2) hb) : p := h
theorem qP72 {q0 q1 p : Prop} (x0 : q0) (x1 : q1) (h : q0 → q1 → p := by intro hx0_ hx1_; exact zH (Kd.R_new' hx0_ (Kd.R_lt (qP0 hx1_))) (keep_size (w := w) (g := g) (row := none) (qP3))) : p := h x0 x1
theorem qP73 {q0 q1 p : Prop} (x0 : q0) (x1 : q1) (h : q0 → q1 → p := by intro hx0_ hx1_; exact Kd.R_elder' (qP0 hx0_) (Kd.R_base hx1_) hb) : p := h x0 x1
theorem qP74 {p : Prop} (h : p := by exact (Nat.le_trans HW0.1 (by rw [hg]; exact (keep_size (w := w) (g := g) (row := none) (qP3)) : w.heap.size ≤ gb211) : w0.heap.size ≤ gb211)) : p := h
theorem qP75 {q0 p : Prop} (x0 : q0) (h : q0 → p := by intro hx0_; exact zH hx0_ (zQ (qP1))) : p := h x0
theorem qP76 {q0 q1 p : Prop} (x0 : q0) (x1 : q1) (h : q0 → q1 → p := by intro hx0_ hx1_; exact zH (Kd.R_new' hx0_ (Kd.R_lt (qP0 hx1_))) (zQ (qP1))) : p := h x0 x1
theorem qP77 {p : Prop} (h : p := by exact (by rw [hg]; exact Nat.ne_of_lt (IsS85.lt (show IsS85 w0 _ g _ _ _ from (qP2))) : g ≠ gb211)) : p := h
theorem qP78 {p : Prop} (h : p := by exact (by rw [hg]; exact Nat.ne_of_gt (IsS85.lt (show IsS85 w0 _ g _ _ _ from (qP2))) : gb211 ≠ g)) : p := h
theorem qP79 {p : Prop} (h : p := by exact (by rw [hg]; exact (keep_size (w := w) (g := g) (row := none) (qP3)) : w.heap.size ≤ gb211)) : p := h
theorem qP80 {p : Prop} (h : p := by exact (by rw [hg]; exact (zQ (qP1)) : w.heap.size ≤ gb137)) : p := h
theorem qP81 {p : Prop} (h : p := by exact Kd.R_below (Kd.R_elderB (qP0 HO_3.1) gb211 (Nat.le_of_eq hg.symm)) hb) : p := h
theorem qP82 {p : Prop} (h : p := by exact (Nat.le_trans HW0.1 (by rw [hg]; exact (keep_size (w := w) (g := g) (row := none) (qP3)) : w.heap.size ≤ gb147) : w0.heap.size ≤ gb147)) : p := h
theorem qP83 {q0 p : Prop} (x0 : q0) (h : q0 → p := by intro hx0_; exact zD (zF (IsS85.apart (show IsS85 w _ gb283 l0 t305 t306 from (qP26)) (qP0 hx0_) (by decide)) hk (fun _ h => h.2)) (fun _ h => h.1)) : p := h x0
theorem qP84 {q0 p : Prop} (x0 : q0) (h : q0 → p := by intro hx0_; exact zD (zF (IsS85.apart (show IsS85 w _ gb283 l0 t299 t300 from (qP26)) (qP0 hx0_) (by decide)) hk (fun _ h => h.2)) (fun _ h => h.1)) : p := h x0
theorem qP85 {p : Prop} (h : p := by exact done_of HT_.1 (qP22)) : p := h
theorem qP86 {p : Prop} (h : p := by exact (by rw [hg]; exact Nat.ne_of_lt (IsS79.lt (show IsS79 w0 _ g _ _ _ _ _ _ from (qP29))) : g ≠ gb147)) : p := h
theorem qP87 {p : Prop} (h : p := by exact (by rw [hg]; exact Nat.ne_of_gt (IsS79.lt (show IsS79 w0 _ g _ _ _ _ _ _ from (qP29))) : gb147 ≠ g)) : p := h
theorem qP88 {p : Prop} (h : p := by exact zA HR0.1 (qP14 GE158.1)) : p := h
theorem qP89 {p : Prop} (h : p := by exact (by rw [hg]; exact (keep_size (w := w) (g := g) (row := none) (qP3)) : w.heap.size ≤ gb147)) : p := h
theorem qP90 {p : Prop} (h : p := by repeat (first | exact (zA HR0.1 (qP1)) | (with_reducible refine Kd.C_alloc ?_ _) | (with_reducible refine Kd.C_drewN ?_ _) | (with_reducible refine Kd.C_drew ?_))) : p := h
theorem qP91 {q0 p : Prop} (x0 : q0) (h : q0 → p := by intro hx0_; exact zD (zF (IsS85.apart (show IsS85 w _ gb330 l0 t337 t338 from (qP35)) (qP0 hx0_) (by decide)) hk (fun _ h => h.2)) (fun _ h => h.1)) : p := h x0
theorem qP92 {q0 p : Prop} (x0 : q0) (h : q0 → p := by intro hx0_; exact zD (zF (IsS85.apart (show IsS85 w _ gb283 l0 t293 t294 from (qP26)) (qP0 hx0_) (by decide)) hk (fun _ h => h.2)) (fun _ h => h.1)) : p := h x0
theorem qP93 {q0 p : Prop} (x0 : q0) (h : q0 → p := by intro hx0_; exact zD (zF (IsS85.apart (show IsS85 w _ gb283 l0 t287 t288 from (qP26)) (qP0 hx0_) (by decide)) hk (fun _ h => h.2)) (fun _ h => h.1)) : p := h x0
theorem qP94 {q0 q1 p : Prop} (x0 : q0) (x1 : q1) (h : q0 → q1 → p := by intro hx0_ hx1_; exact Kd.R_over' (qP0 hx0_) (Kd.R_typed (qP0 hx1_)) (by decide) hg) : p := h x0 x1
abbrev qPb0 : Array Bool := #[false, false, false, false, false, false, false, false, false, false, false, false, false, false, false, false, false, false, false, false, false, false, false, false, false, false, false, false, false, false, false]
abbrev qPb1 : Array Bool := #[true, false, false, false, false, false, false, false, false, false, false, false, false, false, false, false, false, false, false, false, false, false, false, false, false, false, false, false, false, false, false]
abbrev qPb2 : Array Bool := #[true, true, false, false, false, false, false, false, false, false, false, false, false, false, false, false, false, false, false, false, false, false, false, false, false, false, false, false, false, false, false]
abbrev qPb3 : Array Bool := #[true, true, true, false, false, false, false, false, false, false, false, false, false, false, false, false, false, false, false, false, false, false, false, false, false, false, false, false, false, false, false]
abbrev qPb4 : Array Bool := #[true, true, true, true, false, false, false, false, false, false, false, false, false, false, false, false, false, false, false, false, false, false, false, false, false, false, false, false, false, false, false]
abbrev qPb5 : Array Bool := #[true, true, true, true, true, false, false, false, false, false, false, false, false, false, false, false, false, false, false, false, false, false, false, false, false, false, false, false, false, false, false]
abbrev qPb6 : Array Bool := #[true, true, true, true, true, true, false, false, false, false, false, false, false, false, false, false, false, false, false, false, false, false, false, false, false, false, false, false, false, false, false]
abbrev qPb7 : Array Bool := #[true, true, true, true, true, true, true, false, false, false, false, false, false, false, false, false, false, false, false, false, false, false, false, false, false, false, false, false, false, false, false]
abbrev qPb8 : Array Bool := #[true, true, true, true, true, true, true, true, false, false, false, false, false, false, false, false, false, false, false, false, false, false, false, false, false, false, false, false, false, false, false]
abbrev qPb9 : Array Bool := #[true, true, true, true, true, true, true, true, true, false, false, false, false, false, false, false, false, false, false, false, false, false, false, false, false, false, false, false, false, false, false]
abbrev qPb10 : Array Bool := #[true, true, true, true, true, true, true, true, true, true, false, false, false, false, false, false, false, false, false, false, false, false, false, false, false, false, false, false, false, false, false]
abbrev qPb11 : Array Bool := #[true, true, true, true, true, true, true, true, true, true, true, false, false, false, false, false, false, false, false, false, false, false, false, false, false, false, false, false, false, false, false]
abbrev qPb12 : Array Bool := #[true, true, true, true, true, true, true, true, true, true, true, true, false, false, false, false, false, false, false, false, false, false, false, false, false, false, false, false, false, false, false]
abbrev qPb13 : Array Bool := #[true, true, true, true, true, true, true, true, true, true, true, true, true, false, false, false, false, false, false, false, false, false, false, false, false, false, false, false, false, false, false]
abbrev qPb14 : Array Bool := #[true, true, true, true, true, true, true, true, true, true, true, true, true, true, false, false, false, false, false, false, false, false, false, false, false, false, false, false, false, false, false]
abbrev qPb15 : Array Bool := #[true, true, true, true, true, true, true, true, true, true, true, true, true, true, true, false, false, false, false, false, false, false, false, false, false, false, false, false, false, false, false]
abbrev qPb16 : Array Bool := #[true, true, true, true, true, true, true, true, true, true, true, true, true, true, true, true, false, false, false, false, false, false, false, false, false, false, false, false, false, false, false]
abbrev qPb17 : Array Bool := #[true, true, true, true, true, true, true, true, true, true, true, true, true, true, true, true, true, false, false, false, false, false, false, false, false, false, false, false, false, false, false]
abbrev qPb18 : Array Bool := #[true, true, true, true, true, true, true, true, true, true, true, true, true, true, true, true, true, true, false, false, false, false, false, false, false, false, false, false, false, false, false]
abbrev qPb19 : Array Bool := #[true, true, true, true, true, true, true, true, true, true, true, true, true, true, true, true, true, true, true, false, false, false, false, false, false, false, false, false, false, false, false]
abbrev qPb20 : Array Bool := #[true, true, true, true, true, true, true, true, true, true, true, true, true, true, true, true, true, true, true, true, false, false, false, false, false, false, false, false, false, false, false]
abbrev qPb21 : Array Bool := #[true, true, true, true, true, true, true, true, true, true, true, true, true, true, true, true, true, true, true, true, true, false, false, false, false, false, false, false, false, false, false]
abbrev qPb22 : Array Bool := #[true, true, true, true, true, true, true, true, true, true, true, true, true, true, true, true, true, true, true, true, true, true, false, false, false, false, false, false, false, false, false]
abbrev qPb23 : Array Bool := #[true, true, true, true, true, true, true, true, true, true, true, true, true, true, true, true, true, true, true, true, true, true, true, false, false, false, false, false, false, false, false]
abbrev qPb24 : Array Bool := #[true, true, true, true, true, true, true, true, true, true, true, true, true, true, true, true, true, true, true, true, true, true, true, true, false, false, false, false, false, false, false]
abbrev qPb25 : Array Bool := #[true, true, true, true, true, true, true, true, true, true, true, true, true, true, true, true, true, true, true, true, true, true, true, true, true, false, false, false, false, false, false]
abbrev qPb26 : Array Bool := #[true, true, true, true, true, true, true, true, true, true, true, true, true, true, true, true, true, true, true, true, true, true, true, true, true, false, true, false, false, false, false]
abbrev qPb27 : Array Bool := #[true, true, true, true, true, true, true, true, true, true, true, true, true, true, true, true, true, true, true, true, true, true, true, true, true, true, true, false, false, false, false]
abbrev qPb28 : Array Bool := #[true, true, true, true, true, true, true, true, true, true, true, true, true, true, true, true, true, true, true, true, true, true, true, true, true, true, true, true, false, false, false]
abbrev qPb29 : Array Bool := #[true, true, true, true, true, true, true, true, true, true, true, true, true, true, true, true, true, true, true, true, true, true, true, true, true, true, true, true, true, false, false]
abbrev qPb30 : Array Bool := #[true, true, true, true, true, true, true, true, true, true, true, true, true, true, true, true, true, true, true, true, true, true, true, true, true, true, true, true, true, true, false]
abbrev qPb31 : Array Bool := #[true, true, true, true, true, true, true, true, true, true, true, true, true, true, true, true, true, true, true, true, true, true, true, true, true, true, true, true, true, true, true]
abbrev qPb32 : Array Bool := #[true, true, true, true, true, true, true, true, true, true, true, true, true, true, true, true, true, true, true, true, true, true, true, true, true, true, false, false, false, false, false]
abbrev qPb33 : Array Bool := #[false, false, false, false, false, false, false, false, false, false]
abbrev qPb34 : Array Bool := #[true, false, false, false, false, false, false, false, false, false]
abbrev qPb35 : Array Bool := #[true, false, true, false, false, false, false, false, false, false]
abbrev qPb36 : Array Bool := #[true, false, true, false, true, false, false, false, false, false]
abbrev qPb37 : Array Bool := #[true, false, true, false, true, false, true, false, false, false]
abbrev qPb38 : Array Bool := #[true, true, true, false, true, false, true, false, false, false]
abbrev qPb39 : Array Bool := #[true, true, true, false, true, true, true, false, false, false]
abbrev qPb40 : Array Bool := #[true, true, true, true, true, true, true, false, false, false]
abbrev qPb41 : Array Bool := #[true, true, true, true, true, true, true, true, false, false]
abbrev qPb42 : Array Bool := #[true, true, true, true, true, true, true, true, true, false]
abbrev qPb43 : Array Bool := #[true, true, true, true, true, true, true, true, true, true]
abbrev qPb44 : Array Bool := #[true, true, true, true, true, true, true, true, true, true, false, false, false, false]
abbrev qPb45 : Array Bool := #[true, true, true, true, true, true, true, true, true, false, false, false, false, false]
abbrev qPb46 : Array Bool := #[true, true, true, false, true, true, true, true, true, true, false, false, false, false]
abbrev qPb47 : Array Bool := #[true, true, true, true, true, true, true, true, false, false, false, false, false, false]
abbrev qPb48 : Array Bool := #[true, true, true, true, true, true, false, true, true, false, false, false, false, false]
abbrev qPb49 : Array Bool := #[true, true, true, false, true, true, true, true, true, false, false, false, false, false]
abbrev qPb50 : Array Bool := #[true, true, false, false, true, true, true, true, true, true, false, false, false, false]
abbrev qPb51 : Array Bool := #[true, true, true, true, true, true, false, true, false, false, false, false, false, false]
abbrev qPb52 : Array Bool := #[true, true, true, true, true, false, false, true, true, false, false, false, false, false]
abbrev qPb53 : Array Bool := #[true, true, true, false, true, true, true, true, false, false, false, false, false, false]
abbrev qPb54 : Array Bool := #[true, true, true, false, true, true, false, true, true, false, false, false, false, false]
abbrev qPb55 : Array Bool := #[true, true, false, false, true, true, true, true, true, false, false, false, false, false]
abbrev qPb56 : Array Bool := #[true, true, true, true, true, false, false, true, false, false, false, false, false, false]
abbrev qPb57 : Array Bool := #[true, true, true, false, true, true, false, true, false, false, false, false, false, false]
abbrev qPb58 : Array Bool := #[true, true, true, false, true, false, false, true, true, false, false, false, false, false]
abbrev qPb59 : Array Bool := #[true, true, false, false, true, true, true, true, false, false, false, false, false, false]
abbrev qPb60 : Array Bool := #[true, true, false, false, true, true, false, true, true, false, false, false, false, false]
abbrev qPb61 : Array Bool := #[true, true, true, false, true, false, false, true, false, false, false, false, false, false]
abbrev qPb62 : Array Bool := #[true, true, false, false, true, true, false, true, false, false, false, false, false, false]
abbrev qPb63 : Array Bool := #[true, true, false, false, true, false, false, true, true, false, false, false, false, false]
end Go.Proofs.Ytckidmhkhlbkeaa.MP
