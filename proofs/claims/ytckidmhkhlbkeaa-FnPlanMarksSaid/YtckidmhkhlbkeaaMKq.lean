-- Written by a program of this session (wip/tight2.py). -- tight2
import Derived.Test.YtckidmhkhlbkeaaProg
import Derived.Below
import Derived.Deep.Draws
import Derived.Deep.AppendLies
import Derived.Maps.AppendAt
import Derived.OwnWalk
import Derived.Laws.BytesArg
import Derived.Laws.MakeOwn
import Derived.Laws.OwnMore
import Derived.Deep.OwnRows
import Derived.Tactics
import Derived.Lib.ConvBytes
import Derived.Laws.Slices
import Derived.WalkKit
import Derived.KernelRfl
import Derived.RowKit3
import Derived.Deep.LoopGhost
import Derived.Deep.QuietTactic
import Derived.BigQuiet
import Derived.WideLaws
import Derived.Deep.DeepCutAuto
import Derived.Deep.CutBlock
import Derived.Deep.RegionHeld3
import Derived.Laws.Rows
import Derived.Lib.AppendStr
import Derived.ArgAppend
import Derived.Laws.IdiomCopy
import Derived.OrdersHeld
import Derived.Laws.BitsLemmas
import Derived.RowKit
import Derived.Deep.RegionHeld3
import Derived.Laws.CopyOwn
import Derived.StillTailTactics
import Derived.Test.YtckidmhkhlbkeaaWWords
import Derived.Test.YtckidmhkhlbkeaaWLast
import Derived.Test.YtckidmhkhlbkeaaWTab
import Derived.Test.YtckidmhkhlbkeaaWApart
import Derived.Test.YtckidmhkhlbkeaaWArr
import Derived.Test.YtckidmhkhlbkeaaWFoot
import Derived.Test.YtckidmhkhlbkeaaWKept
import Derived.Test.YtckidmhkhlbkeaaWEqStruct
import Derived.Test.YtckidmhkhlbkeaaWRepsOne
namespace Go.Proofs.Ytckidmhkhlbkeaa.MK
open Go.RowKit Go.Proofs.YtckidmhkhlbkeaaW.PrintWords Go.Proofs.YtckidmhkhlbkeaaW.PrintLast
-- Small words of this claim's own (the module 'More' of the words has such too; it would bring five modules along of which nothing is used here).
section
variable {P : Program} {ops : Array Oper} {rest : List Oper} {o : Oper} {a : Act} {Q : Exit → Act → World → Prop} {W : World}
theorem gate_callee {f : FuncId} {xs : Array Operand} {ts : Array TypeId} (_ho : o.op = .call { callee := .value (.func f), args := xs, argTypes := ts }) (h : wpList P ops Q (o :: rest) a W) : wpList P ops Q (o :: rest) a W := h
theorem gate_builtin {b : Builtin} {xs : Array Operand} {ts : Array TypeId} (_ho : o.op = .call { callee := .builtin b, args := xs, argTypes := ts }) (h : wpList P ops Q (o :: rest) a W) : wpList P ops Q (o :: rest) a W := h
end
theorem drewN_self (w : World) (n : Nat) : w.drewN n = w.drewN n := rfl
theorem calls_of_args {P : Program} {f : FuncId} {args args' : Array Value} {w : World} {Q : Ending → World → Prop} (h : args = args') (hc : Calls P f args' w Q) : Calls P f args w Q := by
  subst h
  exact hc
def mx (a b : Int) : Int := if a < b then b else a
def mn (a b : Int) : Int := if b < a then b else a
theorem max2_int (k k' : IntKind) (x y : Int) : Builtin.max2 (.int k x) (.int k' y) = pure (.int k (if x < y then y else x)) := by simp only [Builtin.max2, gt_iff_lt]
theorem min2_int (k k' : IntKind) (x y : Int) : Builtin.min2 (.int k x) (.int k' y) = pure (.int k (if y < x then y else x)) := by simp only [Builtin.min2]
theorem max_two (ats : Array TypeId) (ty : TypeId) (a b : Value) : Builtin.max_ ats ty #[a, b] = (Builtin.max2 a b >>= fun s => pure s) := by simp only [Builtin.max_, List.foldlM_cons, List.foldlM_nil]
theorem min_two (ats : Array TypeId) (ty : TypeId) (a b : Value) : Builtin.min_ ats ty #[a, b] = (Builtin.min2 a b >>= fun s => pure s) := by simp only [Builtin.min_, List.foldlM_cons, List.foldlM_nil]
theorem Kd.R_newM {α : Type} {d : Kd α} {e : Nat} {w w1 W : World} {ok M : Nat → Prop} {v : Value} {xs : List α} (h : d.R e w1 W.heap.size ok v xs) (hle : w.heap.size ≤ W.heap.size) (hM : ∀ k, w.heap.size ≤ k → M k) : d.R e w1 W.heap.size (fun k => M k ∧ ok k) v xs :=
  Kd.R_mono (Kd.R_bound h) (fun k hk => ⟨hM k (Nat.le_trans hle hk.2.1), hk.1⟩)
theorem Kd.R_keptB {α : Type} {d : Kd α} {e base : Nat} {W W2 : World} {S ok : Nat → Prop} {v : Value} {xs : List α} (h : d.R e W base ok v xs) (hk : Kept W W2 S) (hne : ∀ k, ok k → ¬ S k) : d.R e W2 base (fun k => ok k ∧ (¬ S k ∧ k < W.heap.size)) v xs :=
  Kd.R_kept (Kd.R_mono (Kd.R_bound h) (fun k hk => ⟨hk.1, hne k hk.1, hk.2.2.1⟩)) hk (fun _ hk => hk.2.1)
abbrev za := @Aside0.mk
abbrev zb := @of_decide_eq_true
abbrev zc := @decide_eq_true
abbrev zd := @World.block_lt_of_cell?
abbrev ze := @blk_frozen
abbrev zf := @blk_alloc
abbrev zg := @blk_drewN
abbrev zh := @blk_drew
abbrev zi := @blk_put
abbrev zj := @blk_far
abbrev zk := @blk_below
abbrev zl := @Option.some.inj
theorem zm {b : Bool} (h : b ≠ true) : b = false := Bool.eq_false_iff.mpr h
abbrev zn := @Nat.le_refl
abbrev zo := @gate_callee
abbrev zp := @gate_dst
abbrev zq := @gate_builtin
abbrev zr := @Below.refl
abbrev zs := @Reps.one
abbrev zt := @Reps.none
abbrev zu := @decide_eq_false
abbrev zv := @eq_true
theorem zw {α : Type} [BEq α] [LawfulBEq α] {a b : α} (h : a ≠ b) : (a == b) = false := beq_eq_false_iff_ne.mpr h
theorem zx {α : Type} [BEq α] [LawfulBEq α] {a b : α} (h : a = b) : (a != b) = false := bne_eq_false_iff_eq.mpr h
abbrev zy := @KeepBut.blk
abbrev zz := @KeepBut.trans
abbrev zA := @box_event
theorem zB {α β : Type} {x : Option α} {f : α → Option β} {b : β} (h : x.bind f = some b) : ∃ a, x = some a ∧ f a = some b := Option.bind_eq_some_iff.mp h
abbrev zC := @Kd.C_below
abbrev zD := @Kd.R_reads'
abbrev zE := @Kd.R_slice
abbrev zF := @Kd.R_mono
abbrev zG := @Kd.R_far
abbrev zH := @Kd.R_append_rows_step
abbrev zI := @Kd.R_keep
abbrev zJ := @Kd.R_drew
abbrev zK := @Kd.R_lower
abbrev zL := @Kd.R_lit
abbrev zM := @absurd
abbrev zN := @KeepBut.of_below
abbrev zO := @World.drewN_drewN
theorem zP {α : Type} [BEq α] [LawfulBEq α] {a b : α} (h : a = b) : (a == b) = true := beq_iff_eq.mpr h
theorem zQ {α : Type} [BEq α] [LawfulBEq α] {a b : α} (h : a ≠ b) : (a != b) = true := bne_iff_ne.mpr h
abbrev zR := @goesL_
abbrev zS := @below_step
abbrev zT := @below_size
abbrev zU := @Or.inl
abbrev zV := @below_alloc
abbrev zW := @below_set
theorem zX {c : Prop} {h : Decidable c} (hc : c) {α : Type} {t e : α} : ite c t e = t := if_pos hc
theorem zY {c : Prop} {h : Decidable c} (hc : ¬ c) {α : Type} {t e : α} : ite c t e = e := if_neg hc
theorem zZ {α : Type} (a b : α) : (some a = some b) = (a = b) := Option.some.injEq a b
theorem ya {α β : Type} (a : α) (b : β) (c : α) (d : β) : ((a, b) = (c, d)) = (a = c ∧ b = d) := Prod.mk.injEq a b c d
theorem yb {α : Type} (l : List α) (i : Nat) (a : α) : l.toArray.setIfInBounds i a = (l.set i a).toArray := List.setIfInBounds_toArray ..
theorem yc {α : Type} {x : α} {xs : List α} {a : α} : (x :: xs).set 0 a = a :: xs := rfl
theorem yd {α : Type} {x : α} {xs : List α} {n : Nat} {a : α} : (x :: xs).set (n + 1) a = x :: xs.set n a := rfl
theorem qB {w w1 : World} {g : Nat} {o : Obj} (B : w.heap[g]? = some o) (h : w.heap[g]? = some o → w1.heap[g]? = some o := by intro B; (with_reducible repeat (first | refine zg ?_ _ | refine zh ?_ | refine zf ?_ _)); exact B) : w1.heap[g]? = some o := h B
theorem qmono {p : Prop} (h : p := by
  repeat' first
  | (with_reducible first | apply ih0 | apply ih1 | apply ih2 | apply ih3 | apply ih4 | apply ih5 | apply ih6 | apply ih7 | apply ih8 | apply ih9)
  | (with_reducible first | apply m0 | apply m1 | apply m2 | apply m3 | apply m4 | apply m5 | apply m6 | apply m7 | apply m8 | apply m9 | apply m10 | apply m11 | apply m12 | apply m13 | apply m14 | apply m15 | apply m16 | apply m17 | apply m18 | apply m19 | apply m20 | apply m21 | apply m22 | apply m23 | apply m24 | apply m25)
  | (with_reducible exact LeO.refl _)
  | (with_reducible exact LeO.none _)
  | (with_reducible refine LeO.ite ?_ ?_)
  | (with_reducible refine LeO.bind ?_ (fun _ => ?_))
  | first | apply ih0 | apply ih1 | apply ih2 | apply ih3 | apply ih4 | apply ih5 | apply ih6 | apply ih7 | apply ih8 | apply ih9
  | exact LeO.none _
  | refine LeO.ite ?_ ?_
  | refine LeO.bind ?_ (fun _ => ?_)) : p := h
theorem bindA {α β : Type} {x : Option α} {f : α → Option β} {r : β} (h : x.bind f = some r) : ∃ a, Aside0 (x = some a) ∧ f a = some r := by
  obtain ⟨a, h1, h2⟩ := zB h
  exact ⟨a, ⟨h1⟩, h2⟩
theorem qK0 {q0 p : Prop} (x0 : q0) (h : q0 → p := by intro hx0_; (with_reducible repeat (first | apply Kd.R_alloc | apply Kd.R_drewN | apply zJ)); exact hx0_) : p := h x0
theorem qK1 {p : Prop} (h : p := by repeat (first | (with_reducible first | exact HI0.1 | apply IsS85.alloc | apply IsS85.drewN | apply IsS85.drew | apply IsS85.set_1 | apply IsS85.set_2) | exact HI0.1)) : p := h
theorem qK2 {p : Prop} (h : p := by repeat (first | (with_reducible first | exact HB.1 | apply zV | apply pw_below_drewN | apply below_drew1) | exact HB.1)) : p := h
theorem qK3 {p : Prop} (h : p := by repeat (first | (with_reducible first | exact HK.1 | apply KeepBut.set_ | apply keep_drewN | apply keep_drew | apply keep_alloc) | exact HK.1)) : p := h
theorem qK4 {p : Prop} (h : p := by repeat (first | (with_reducible first | exact HB.1 | apply zV | apply pw_below_drewN | apply below_drew1 | refine zW ?_ (IsS85.ge HI0.1)) | exact HB.1)) : p := h
theorem qK5 {p : Prop} (h : p := by (try simp only [List.map_toArray, List.map_cons, List.map_nil]); first | done | rfl | (simp only [List.length_drop, List.length_take]; rfl)) : p := h
theorem qK6 {q0 p : Prop} (x0 : q0) (h : q0 → p := by intro hx0_; repeat (first | (with_reducible first | exact HB.1 | apply zV | apply pw_below_drewN | apply below_drew1 | refine zW ?_ hx0_) | exact HB.1)) : p := h x0
theorem qK7 {q0 p : Prop} (x0 : q0) (h : q0 → p := by intro hx0_; first | (rw [hx0_]; with_reducible exact H) | (have H2_ := (Option.bind_some _ _).symm.trans H; rw [hx0_]; with_reducible exact H2_) | (have H2_ := (Option.bind_some _ _).symm.trans H; with_reducible exact H2_) | with_reducible exact H | (rw [hx0_]; exact H) | exact H) : p := h x0
theorem qK8 {p : Prop} (h : p := by repeat (first | (with_reducible first | exact HI0.1 | apply IsS85.alloc | apply IsS85.drewN | apply IsS85.drew | apply IsS85.set_1 | apply IsS85.set_2 | refine IsS85.far ?_ NB0_278.1 _) | exact HI0.1)) : p := h
theorem qK9 {p : Prop} (h : p := by exact any_of HT_.1 (by kernel_rfl)) : p := h
theorem qK10 {p : Prop} (h : p := by first | (simp only [putAll, Act.put, yb, yc, yd]; done) | (simp only [putAll, Act.put, yb, yc, yd]; rfl)) : p := h
theorem qK11 {q0 p : Prop} (x0 : q0) (h : q0 → p := by intro hx0_; repeat (first | exact (zD hx0_).2.2 | (with_reducible refine Kd.C_alloc ?_ _) | (with_reducible refine Kd.C_drewN ?_ _) | (with_reducible refine Kd.C_drew ?_))) : p := h x0
theorem qK12 {p : Prop} (h : p := by first | (with_reducible assumption) | assumption) : p := h
theorem qK13 {p : Prop} (h : p := by repeat (first | (with_reducible first | exact HK.1 | apply KeepBut.set_ | apply keep_drewN | apply keep_drew | apply keep_alloc | refine keep_far ?_ GW278.1 _) | exact HK.1)) : p := h
theorem qK14 {p : Prop} (h : p := by repeat (first | (with_reducible first | exact HB.1 | apply zV | apply pw_below_drewN | apply below_drew1 | refine zW ?_ (IsS85.ge HI0.1) | refine zW ?_ GE278.1) | exact HB.1)) : p := h
theorem qK15 {p : Prop} (h : p := by first | rfl | (simp [errW_none, errW_some] <;> rfl) | (simp [*, errW_none, errW_some] <;> rfl)) : p := h
theorem qK16 {q0 p : Prop} (x0 : q0) (h : q0 → p := by intro hx0_; repeat (first | (with_reducible exact hx0_) | (with_reducible refine Kd.C_alloc ?_ _) | (with_reducible refine Kd.C_drewN ?_ _) | (with_reducible refine Kd.C_drew ?_) | exact hx0_)) : p := h x0
theorem qK17 {p : Prop} (h : p := by first | rfl | (simp; done) | (simp [*]; done)) : p := h
theorem qK18 {p : Prop} (h : p := by kernel_rfl) : p := h
theorem qK19 {p : Prop} (h : p := by exact (zs (show Kd.M (Kd.int .i64) _ _ _ (-25) [.int .i64 (-25)] from rfl) (zs (show Kd.M (Kd.int .i64) _ _ _ (-10) [.int .i64 (-10)] from rfl) (zs (show Kd.M (Kd.int .i64) _ _ _ 0 [.int .i64 0] from rfl) (zs (show Kd.M (Kd.int .i64) _ _ _ 1 [.int .i64 1] from rfl) (zs (show Kd.M (Kd.int .i64) _ _ _ 9 [.int .i64 9] from rfl) (zs (show Kd.M (Kd.int .i64) _ _ _ 20 [.int .i64 20] from rfl) (zs (show Kd.M (Kd.int .i64) _ _ _ (-1000) [.int .i64 (-1000)] from rfl) (zt _ _))))))))) : p := h
theorem qK20 {p : Prop} (h : p := by (with_reducible repeat (first | refine zg ?_ _ | refine zh ?_ | refine zf ?_ _)); refine zi (cs := #[.string ((rd_T44 l0 x3_1).f0), .int .i64 ((rd_T44 l0 x3_1).f1), .int .i64 0]) ?_ 2 _ rfl; (with_reducible repeat (first | refine zg ?_ _ | refine zh ?_ | refine zf ?_ _)); refine zi (cs := #[.string ((rd_T44 l0 x3_1).f0), .int .i64 0, .int .i64 0]) ?_ 1 _ rfl; (with_reducible repeat (first | refine zg ?_ _ | refine zh ?_ | refine zf ?_ _)); refine zi (cs := #[.string (⟨#[]⟩ : ByteArray), .int .i64 0, .int .i64 0]) ?_ 0 _ rfl; (with_reducible repeat (first | refine zg ?_ _ | refine zh ?_ | refine zf ?_ _)); exact BK131.1) : p := h
theorem qK21 {p : Prop} (h : p := by first | (go_simp; done) | (go_simp; rfl)) : p := h
theorem qK22 {p : Prop} (h : p := by repeat (first | (with_reducible first | exact HI328.1 | apply IsS85.alloc | apply IsS85.drewN | apply IsS85.drew | apply IsS85.set_1 | apply IsS85.set_2) | exact HI328.1)) : p := h
theorem qK23 {p : Prop} (h : p := by exact (zs (show Kd.M (Kd.int .i64) _ _ _ (-30) [.int .i64 (-30)] from rfl) (zs (show Kd.M (Kd.int .i64) _ _ _ (-1) [.int .i64 (-1)] from rfl) (zs (show Kd.M (Kd.int .i64) _ _ _ 0 [.int .i64 0] from rfl) (zs (show Kd.M (Kd.int .i64) _ _ _ 5 [.int .i64 5] from rfl) (zs (show Kd.M (Kd.int .i64) _ _ _ 9 [.int .i64 9] from rfl) (zs (show Kd.M (Kd.int .i64) _ _ _ 10 [.int .i64 10] from rfl) (zs (show Kd.M (Kd.int .i64) _ _ _ 40 [.int .i64 40] from rfl) (zs (show Kd.M (Kd.int .i64) _ _ _ 1000 [.int .i64 1000] from rfl) (zt _ _)))))))))) : p := h
theorem qK24 {p : Prop} (h : p := by (with_reducible repeat (first | refine zg ?_ _ | refine zh ?_ | refine zf ?_ _)); refine zi (cs := #[.string ((rd_T44 x3_1 t274).f0), .int .i64 ((rd_T44 x3_1 t274).f1), .int .i64 0]) ?_ 2 _ rfl; (with_reducible repeat (first | refine zg ?_ _ | refine zh ?_ | refine zf ?_ _)); refine zi (cs := #[.string ((rd_T44 x3_1 t274).f0), .int .i64 0, .int .i64 0]) ?_ 1 _ rfl; (with_reducible repeat (first | refine zg ?_ _ | refine zh ?_ | refine zf ?_ _)); refine zi (cs := #[.string (⟨#[]⟩ : ByteArray), .int .i64 0, .int .i64 0]) ?_ 0 _ rfl; (with_reducible repeat (first | refine zg ?_ _ | refine zh ?_ | refine zf ?_ _)); exact BK278.1) : p := h
theorem qK25 {p : Prop} (h : p := by repeat (first | exact (zC HR0.1 HB.1) | (with_reducible refine Kd.C_alloc ?_ _) | (with_reducible refine Kd.C_drewN ?_ _) | (with_reducible refine Kd.C_drew ?_))) : p := h
theorem qK26 {p : Prop} (h : p := by (with_reducible repeat (first | refine zg ?_ _ | refine zh ?_ | refine zf ?_ _)); refine zi (cs := #[.string ((rd_T44 l0 x7_1).f0), .int .i64 ((rd_T44 l0 x7_1).f1), .int .i64 0]) ?_ 2 _ rfl; (with_reducible repeat (first | refine zg ?_ _ | refine zh ?_ | refine zf ?_ _)); refine zi (cs := #[.string ((rd_T44 l0 x7_1).f0), .int .i64 0, .int .i64 0]) ?_ 1 _ rfl; (with_reducible repeat (first | refine zg ?_ _ | refine zh ?_ | refine zf ?_ _)); refine zi (cs := #[.string (⟨#[]⟩ : ByteArray), .int .i64 0, .int .i64 0]) ?_ 0 _ rfl; (with_reducible repeat (first | refine zg ?_ _ | refine zh ?_ | refine zf ?_ _)); exact BK102.1) : p := h
theorem qK27 {p : Prop} (h : p := by repeat (first | (with_reducible first | exact HB.1 | apply zV | apply pw_below_drewN | apply below_drew1 | refine zW ?_ (IsS85.ge HI328.1)) | exact HB.1)) : p := h
theorem qK28 {p : Prop} (h : p := by exact (Reps.c3 (show Kd.M k44 _ _ _ (⟨((rdOf ByteArray.empty t168 x6_1).extract (x7_2 : Int).toNat ((wrap64 (x7_2 + 1)) : Int).toNat), x7_2, (wrap64 (-x6_1))⟩ : S44) [.string ((rdOf ByteArray.empty t168 x6_1).extract (x7_2 : Int).toNat ((wrap64 (x7_2 + 1)) : Int).toNat), .int .i64 x7_2, .int .i64 (wrap64 (-x6_1))] from (k44_mkM _ _ _ (⟨((rdOf ByteArray.empty t168 x6_1).extract (x7_2 : Int).toNat ((wrap64 (x7_2 + 1)) : Int).toNat), x7_2, (wrap64 (-x6_1))⟩ : S44) )) (zt _ _))) : p := h
theorem qK29 {q0 p : Prop} (x0 : q0) (h : q0 → p := by intro hx0_; (with_reducible repeat (first | apply Kd.R_alloc | apply Kd.R_drewN | apply zJ)); exact zF hx0_ (fun _ hk => hk.2)) : p := h x0
theorem qK30 {p : Prop} (h : p := by (with_reducible repeat (first | apply Kd.R_alloc | apply Kd.R_drewN | apply zJ)); exact (zF (zG (p := ⟨gb278, 2, none⟩) (zG (p := ⟨gb278, 1, none⟩) (zG (p := ⟨gb278, 0, none⟩) (zF HO_3.1 (fun k_ hk => (⟨hk, hk.2⟩ : _ ∧ k_ ≠ gb278))) (fun _ hk => hk.2) (.string ((rd_T44 x3_1 t274).f0))) (fun _ hk => hk.2) (.int .i64 ((rd_T44 x3_1 t274).f1))) (fun _ hk => hk.2) (.int .i64 ((rd_T44 x3_1 t274).f2))) (fun _ h_ => h_.1))) : p := h
theorem qK31 {p : Prop} (h : p := by repeat (first | (with_reducible first | exact HI0.1 | apply IsS79.alloc | apply IsS79.drewN | apply IsS79.drew | apply IsS79.set_1 | apply IsS79.set_2 | apply IsS79.set_3 | apply IsS79.set_4 | apply IsS79.set_5) | exact HI0.1)) : p := h
theorem qK32 {p : Prop} (h : p := by repeat (first | exact HR0.1 | (with_reducible refine Kd.C_alloc ?_ _) | (with_reducible refine Kd.C_drewN ?_ _) | (with_reducible refine Kd.C_drew ?_))) : p := h
theorem qK33 {q0 p : Prop} (x0 : q0) (h : q0 → p := by intro hx0_; (with_reducible repeat (first | apply Kd.R_alloc | apply Kd.R_drewN | apply zJ)); exact zF hx0_ (fun _ hk => trivial)) : p := h x0
theorem qK34 {p : Prop} (h : p := by repeat (first | (with_reducible first | exact HI374.1 | apply IsS85.alloc | apply IsS85.drewN | apply IsS85.drew | apply IsS85.set_1 | apply IsS85.set_2) | exact HI374.1)) : p := h
theorem qK35 {p : Prop} (h : p := by repeat (first | exact Drawn0.refl _ | apply Drawn0.step)) : p := h
theorem qK36 {p : Prop} (h : p := by repeat (first | (with_reducible first | exact HB.1 | apply zV | apply pw_below_drewN | apply below_drew1 | refine zW ?_ (IsS85.ge HI374.1)) | exact HB.1)) : p := h
theorem qK37 {q0 p : Prop} (x0 : q0) (h : q0 → p := by intro hx0_; (with_reducible repeat (first | apply Kd.R_alloc | apply Kd.R_drewN | apply zJ)); exact zF hx0_ (fun _ hk => ⟨⟨hk.2.1, hk.2.2⟩, hk.1⟩)) : p := h x0
theorem qK38 {q0 p : Prop} (x0 : q0) (h : q0 → p := by intro hx0_; (with_reducible repeat (first | apply Kd.R_alloc | apply Kd.R_drewN | apply zJ)); exact zF hx0_ (fun _ hk => ⟨hk.2, ⟨hk.1.1, hk.1.2⟩⟩)) : p := h x0
theorem qK39 {p : Prop} (h : p := by (with_reducible repeat (first | apply Kd.R_alloc | apply Kd.R_drewN | apply zJ)); exact zF HO_4.1 (fun _ hk => ⟨⟨hk.2, hk.1.1⟩, hk.1.2⟩)) : p := h
theorem qK40 {p : Prop} (h : p := by (with_reducible repeat (first | apply Kd.R_alloc | apply Kd.R_drewN | apply zJ)); exact zF HO_4.1 (fun _ hk => ⟨⟨hk.1.2, hk.1.1⟩, hk.2⟩)) : p := h
theorem qK41 {q0 p : Prop} (x0 : q0) (h : q0 → p := by intro hx0_; (with_reducible repeat (first | refine zg ?_ _ | refine zh ?_ | refine zf ?_ _)); exact hx0_) : p := h x0
theorem qK42 {q0 p : Prop} (x0 : q0) (h : q0 → p := by intro hx0_; exact (zD hx0_).2.1) : p := h x0
theorem qK43 {p : Prop} (h : p := by repeat (first | (with_reducible first | exact HBW.1 | apply zV | apply pw_below_drewN | apply below_drew1 | refine zW ?_ GW107.1) | exact HBW.1)) : p := h
theorem qK44 {q0 p : Prop} (x0 : q0) (h : q0 → p := by intro hx0_; (with_reducible repeat (first | apply Kd.R_alloc | apply Kd.R_drewN | apply zJ)); exact zF hx0_ (fun _ hk => hk.1.2)) : p := h x0
theorem qK45 {p : Prop} (h : p := by (with_reducible repeat (first | refine zg ?_ _ | refine zh ?_ | refine zf ?_ _)); refine zi (cs := #[.string ((rd_T44 l0 x26_2).f0), .int .i64 ((rd_T44 l0 x26_2).f1), .int .i64 0]) ?_ 2 _ rfl; (with_reducible repeat (first | refine zg ?_ _ | refine zh ?_ | refine zf ?_ _)); refine zi (cs := #[.string ((rd_T44 l0 x26_2).f0), .int .i64 0, .int .i64 0]) ?_ 1 _ rfl; (with_reducible repeat (first | refine zg ?_ _ | refine zh ?_ | refine zf ?_ _)); refine zi (cs := #[.string (⟨#[]⟩ : ByteArray), .int .i64 0, .int .i64 0]) ?_ 0 _ rfl; (with_reducible repeat (first | refine zg ?_ _ | refine zh ?_ | refine zf ?_ _)); exact BK396.1) : p := h
theorem qK46 {p : Prop} (h : p := by (with_reducible repeat (first | refine zg ?_ _ | refine zh ?_ | refine zf ?_ _)); refine zi (cs := #[.string ((rd_T44 l0 x18_1).f0), .int .i64 ((rd_T44 l0 x18_1).f1), .int .i64 0]) ?_ 2 _ rfl; (with_reducible repeat (first | refine zg ?_ _ | refine zh ?_ | refine zf ?_ _)); refine zi (cs := #[.string ((rd_T44 l0 x18_1).f0), .int .i64 0, .int .i64 0]) ?_ 1 _ rfl; (with_reducible repeat (first | refine zg ?_ _ | refine zh ?_ | refine zf ?_ _)); refine zi (cs := #[.string (⟨#[]⟩ : ByteArray), .int .i64 0, .int .i64 0]) ?_ 0 _ rfl; (with_reducible repeat (first | refine zg ?_ _ | refine zh ?_ | refine zf ?_ _)); exact BK109.1) : p := h
theorem qK47 {p : Prop} (h : p := by (with_reducible repeat (first | refine zg ?_ _ | refine zh ?_ | refine zf ?_ _)); refine zi (cs := #[.string ((rd_T44 l0 x12_1).f0), .int .i64 ((rd_T44 l0 x12_1).f1), .int .i64 0]) ?_ 2 _ rfl; (with_reducible repeat (first | refine zg ?_ _ | refine zh ?_ | refine zf ?_ _)); refine zi (cs := #[.string ((rd_T44 l0 x12_1).f0), .int .i64 0, .int .i64 0]) ?_ 1 _ rfl; (with_reducible repeat (first | refine zg ?_ _ | refine zh ?_ | refine zf ?_ _)); refine zi (cs := #[.string (⟨#[]⟩ : ByteArray), .int .i64 0, .int .i64 0]) ?_ 0 _ rfl; (with_reducible repeat (first | refine zg ?_ _ | refine zh ?_ | refine zf ?_ _)); exact BK361.1) : p := h
theorem qK48 {p : Prop} (h : p := by (with_reducible repeat (first | refine zg ?_ _ | refine zh ?_ | refine zf ?_ _)); refine zi (cs := #[.string ((rd_T44 l0 x9_2).f0), .int .i64 ((rd_T44 l0 x9_2).f1), .int .i64 0]) ?_ 2 _ rfl; (with_reducible repeat (first | refine zg ?_ _ | refine zh ?_ | refine zf ?_ _)); refine zi (cs := #[.string ((rd_T44 l0 x9_2).f0), .int .i64 0, .int .i64 0]) ?_ 1 _ rfl; (with_reducible repeat (first | refine zg ?_ _ | refine zh ?_ | refine zf ?_ _)); refine zi (cs := #[.string (⟨#[]⟩ : ByteArray), .int .i64 0, .int .i64 0]) ?_ 0 _ rfl; (with_reducible repeat (first | refine zg ?_ _ | refine zh ?_ | refine zf ?_ _)); exact BK408.1) : p := h
theorem qK49 {p : Prop} (h : p := by (with_reducible repeat (first | refine zg ?_ _ | refine zh ?_ | refine zf ?_ _)); refine zi (cs := #[.string ((rd_T44 l0 x5_1).f0), .int .i64 ((rd_T44 l0 x5_1).f1), .int .i64 0]) ?_ 2 _ rfl; (with_reducible repeat (first | refine zg ?_ _ | refine zh ?_ | refine zf ?_ _)); refine zi (cs := #[.string ((rd_T44 l0 x5_1).f0), .int .i64 0, .int .i64 0]) ?_ 1 _ rfl; (with_reducible repeat (first | refine zg ?_ _ | refine zh ?_ | refine zf ?_ _)); refine zi (cs := #[.string (⟨#[]⟩ : ByteArray), .int .i64 0, .int .i64 0]) ?_ 0 _ rfl; (with_reducible repeat (first | refine zg ?_ _ | refine zh ?_ | refine zf ?_ _)); exact BK370.1) : p := h
theorem qK50 {q0 p : Prop} (x0 : q0) (h : q0 → p := by intro hx0_; (with_reducible repeat (first | apply Kd.R_alloc | apply Kd.R_drewN | apply zJ)); exact zF hx0_ (fun _ hk => ⟨hk.2.1, ⟨hk.1, hk.2.2⟩⟩)) : p := h x0
theorem qK51 {p : Prop} (h : p := by repeat (first | (with_reducible first | exact HBW.1 | apply zV | apply pw_below_drewN | apply below_drew1 | refine zW ?_ GW107.1 | refine zW ?_ GW109.1) | exact HBW.1)) : p := h
theorem qK52 {p : Prop} (h : p := by repeat (first | (with_reducible first | exact HB.1 | apply zV | apply pw_below_drewN | apply below_drew1 | refine zW ?_ GE107.1 | refine zW ?_ GE109.1) | exact HB.1)) : p := h
theorem qK53 {p : Prop} (h : p := by exact (zs (show Kd.M (Kd.int .u8) _ _ _ x4_1 [.int .u8 x4_1] from rfl) (zt _ _))) : p := h
theorem qK54 {p : Prop} (h : p := by (with_reducible repeat (first | refine zg ?_ _ | refine zh ?_ | refine zf ?_ _)); refine zj ?_ NB107_109.1 _; (with_reducible repeat (first | refine zg ?_ _ | refine zh ?_ | refine zf ?_ _)); refine zj ?_ NB107_109.1 _; (with_reducible repeat (first | refine zg ?_ _ | refine zh ?_ | refine zf ?_ _)); refine zj ?_ NB107_109.1 _; (with_reducible repeat (first | refine zg ?_ _ | refine zh ?_ | refine zf ?_ _)); exact BK107.1) : p := h
theorem qK55 {p : Prop} (h : p := by (with_reducible repeat (first | apply Kd.R_alloc | apply Kd.R_drewN | apply zJ)); exact zF (zG (p := ⟨gb181, 2, none⟩) (zG (p := ⟨gb181, 1, none⟩) (zG (p := ⟨gb181, 0, none⟩) (Kd.R_types HO_5.1 BK181.1 (by decide)) (fun _ hk => hk.2) (.string ((rdOf ByteArray.empty t168 x6_1).extract (x7_2 : Int).toNat ((wrap64 (x7_2 + 1)) : Int).toNat))) (fun _ hk => hk.2) (.int .i64 x7_2)) (fun _ hk => hk.2) (.int .i64 (wrap64 (-x6_1)))) (fun _ hk => trivial)) : p := h
theorem qK56 {q0 p : Prop} (x0 : q0) (h : q0 → p := by intro hx0_; exact far_slice (IsS85.own_ne HI0.1 hx0_ (by decide))) : p := h x0
theorem qK57 {p : Prop} (h : p := by simp only [putAll, Act.put, yb, yc, yd]) : p := h
theorem qK58 {p : Prop} (h : p := by repeat (first | (with_reducible first | exact HB.1 | apply zV | apply pw_below_drewN | apply below_drew1 | refine zW ?_ (IsS85.ge HI350.1)) | exact HB.1)) : p := h
theorem qK59 {p : Prop} (h : p := by repeat (first | (with_reducible first | exact HB.1 | apply zV | apply pw_below_drewN | apply below_drew1 | refine zW ?_ (IsS79.ge HI0.1)) | exact HB.1)) : p := h
theorem qK60 {p : Prop} (h : p := by exact (zs (show Kd.M (Kd.int .i64) _ _ _ 3 [.int .i64 3] from rfl) (zs (show Kd.M (Kd.int .i64) _ _ _ 5 [.int .i64 5] from rfl) (zs (show Kd.M (Kd.int .i64) _ _ _ 10 [.int .i64 10] from rfl) (zs (show Kd.M (Kd.int .i64) _ _ _ 60 [.int .i64 60] from rfl) (zt _ _)))))) : p := h
theorem qK61 {p : Prop} (h : p := by exact blk_grown (qB BK278.1) hg (Kd.R_away HO_3.1 (fun _ hk => hk))) : p := h
theorem qK62 {p : Prop} (h : p := by exact zy hk (qB BK278.1) NB278_0.1 (by simp)) : p := h
theorem qK63 {p : Prop} (h : p := by exact (zs (show Kd.M (Kd.int .i64) _ _ _ (-1001) [.int .i64 (-1001)] from rfl) (zs (show Kd.M (Kd.int .i64) _ _ _ 1001 [.int .i64 1001] from rfl) (zt _ _)))) : p := h
theorem qK64 {p : Prop} (h : p := by exact show (x9_3 : Int).toNat ≤ x4_2.length from by omega) : p := h
theorem qK65 {p : Prop} (h : p := by (with_reducible repeat (first | apply Kd.R_alloc | apply Kd.R_drewN | apply zJ)); exact zF HO_4.1 (fun _ hk => ⟨hk.1.2, ⟨hk.2, hk.1.1⟩⟩)) : p := h
theorem qK66 {p : Prop} (h : p := by repeat (first | (with_reducible first | exact HBW.1 | apply zV | apply pw_below_drewN | apply below_drew1) | exact HBW.1)) : p := h
theorem qK67 {p : Prop} (h : p := by have h := HT2.1 w1 HS1.1.r; rw [HN.1] at h; exact h) : p := h
theorem qK68 {p : Prop} (h : p := by rw [← HN.1]; exact (blk_cell HS2.1.l 0).trans rfl) : p := h
theorem qK69 {p : Prop} (h : p := by rw [← HN.1]; exact (blk_cell HS1.1.l 0).trans rfl) : p := h
theorem qK70 {p : Prop} (h : p := by exact (hb2.block _ (blk_lt HK1.1)).trans HK1.1) : p := h
theorem qK71 {q0 p : Prop} (x0 : q0) (h : q0 → p := by intro hx0_; (with_reducible repeat (first | apply Kd.R_alloc | apply Kd.R_drewN | apply zJ)); exact zF hx0_ (fun _ hk => ⟨⟨hk.1.1.2, hk.2⟩, hk.1.2⟩)) : p := h x0
theorem qK72 {q0 p : Prop} (x0 : q0) (h : q0 → p := by intro hx0_; (with_reducible repeat (first | apply Kd.R_alloc | apply Kd.R_drewN | apply zJ)); exact zF hx0_ (fun _ hk => ⟨⟨hk.1.1.2, hk.1.2⟩, hk.2⟩)) : p := h x0
theorem qK73 {q0 p : Prop} (x0 : q0) (h : q0 → p := by intro hx0_; (with_reducible repeat (first | apply Kd.R_alloc | apply Kd.R_drewN | apply zJ)); exact zF hx0_ (fun _ hk => ⟨hk.1.2, ⟨hk.1.1.2, hk.2⟩⟩)) : p := h x0
theorem qK74 {q0 p : Prop} (x0 : q0) (h : q0 → p := by intro hx0_; (with_reducible repeat (first | apply Kd.R_alloc | apply Kd.R_drewN | apply zJ)); exact zF hx0_ (fun _ hk => ⟨hk.1.1.2, ⟨hk.2, hk.1.2⟩⟩)) : p := h x0
theorem qK75 {q0 p : Prop} (x0 : q0) (h : q0 → p := by intro hx0_; (with_reducible repeat (first | apply Kd.R_alloc | apply Kd.R_drewN | apply zJ)); exact zF hx0_ (fun _ hk => ⟨hk.1.1.2, ⟨hk.1.2, hk.2⟩⟩)) : p := h x0
theorem qK76 {q0 q1 p : Prop} (x0 : q0) (x1 : q1) (h : q0 → q1 → p := by intro hx0_ hx1_; exact blk_grown (qB hx0_) hg (Kd.R_away hx1_ (fun _ hk => hk.2.2))) : p := h x0 x1
theorem qK77 {q0 q1 p : Prop} (x0 : q0) (x1 : q1) (h : q0 → q1 → p := by intro hx0_ hx1_; exact blk_grown (qB hx0_) hg (Kd.R_away hx1_ (fun _ hk => hk.2))) : p := h x0 x1
theorem qK78 {q0 p : Prop} (x0 : q0) (h : q0 → p := by intro hx0_; (with_reducible repeat (first | apply Kd.R_alloc | apply Kd.R_drewN | apply zJ)); exact zF hx0_ (fun _ hk => ⟨hk.1.2, hk.2⟩)) : p := h x0
theorem qK79 {p : Prop} (h : p := by exact (by rw [hg]; exact Nat.ne_of_lt (blk_lt (qB BK107.1)) : gb107 ≠ gb109)) : p := h
theorem qK80 {p : Prop} (h : p := by exact (by rw [hg]; exact Nat.ne_of_gt (blk_lt (qB BK107.1)) : gb109 ≠ gb107)) : p := h
theorem qK81 {q0 p : Prop} (x0 : q0) (h : q0 → p := by intro hx0_; exact zF (zI (IsS85.apart (show IsS85 w0 _ g _ _ _ from (qK1)) (qK0 hx0_) (by decide)) hk (fun _ h => h.2)) (fun _ h => h.1)) : p := h x0
theorem qK82 {p : Prop} (h : p := by exact zz (qK3) (zN hb g none) (.inl rfl)) : p := h
theorem qK83 {q0 p : Prop} (x0 : q0) (h : q0 → p := by intro hx0_; exact Kd.R_below (qK0 hx0_) hb) : p := h x0
theorem qK84 {p : Prop} (h : p := by exact zz (qK3) hk (.inl rfl)) : p := h
theorem qK85 {p : Prop} (h : p := by exact zS (qK2) hb) : p := h
theorem qK86 {q0 q1 p : Prop} (x0 : q0) (x1 : q1) (h : q0 → q1 → p := by intro hx0_ hx1_; exact Kd.R_elder' (qK0 hx0_) (Kd.R_base hx1_) hb) : p := h x0 x1
theorem qK87 {q0 p : Prop} (x0 : q0) (h : q0 → p := by intro hx0_; repeat (first | exact (qK16 hx0_) | (with_reducible refine Kd.C_alloc ?_ _) | (with_reducible refine Kd.C_drewN ?_ _) | (with_reducible refine Kd.C_drew ?_))) : p := h x0
theorem qK88 {p : Prop} (h : p := by exact one_of HT_.1 (qK18)) : p := h
theorem qK89 {q0 p : Prop} (x0 : q0) (h : q0 → p := by intro hx0_; exact zK hx0_ (keep_size (w := w) (g := g) (row := none) (qK3))) : p := h x0
theorem qK90 {p : Prop} (h : p := by exact (by rw [hg]; exact (zT (qK2)) : w.heap.size ≤ gb131)) : p := h
theorem qK91 {q0 q1 p : Prop} (x0 : q0) (x1 : q1) (h : q0 → q1 → p := by intro hx0_ hx1_; exact zK (Kd.R_new' hx0_ (Kd.R_lt (qK0 hx1_))) (keep_size (w := w) (g := g) (row := none) (qK3))) : p := h x0 x1
theorem qK92 {q0 q1 q2 p : Prop} (x0 : q0) (x1 : q1) (x2 : q2) (h : q0 → q1 → q2 → p := by intro hx0_ hx1_ hx2_; exact (fun k_ hk => ⟨Kd.fresh' (Kd.R_lt (qK0 hx0_)) k_ hk, Kd.fresh' (Kd.R_lt (qK0 hx1_)) k_ hk, Kd.freshB (qB hx2_) k_ hk⟩)) : p := h x0 x1 x2
theorem qK93 {p : Prop} (h : p := by exact IsS85.below (qK1) hb) : p := h
theorem qK94 {q0 q1 p : Prop} (x0 : q0) (x1 : q1) (h : q0 → q1 → p := by intro hx0_ hx1_; exact Kd.R_over' (qK0 hx0_) (Kd.R_typed (qK0 hx1_)) (by decide) hg) : p := h x0 x1
theorem qK95 {p : Prop} (h : p := by exact (Nat.le_trans HW0.1 (by rw [hg]; exact (keep_size (w := w) (g := g) (row := none) (qK3)) : w.heap.size ≤ gb278) : w0.heap.size ≤ gb278)) : p := h
theorem qK96 {p : Prop} (h : p := by exact (by rw [hg]; exact Nat.ne_of_lt (IsS85.lt (show IsS85 w0 _ g _ _ _ from (qK1))) : g ≠ gb278)) : p := h
theorem qK97 {p : Prop} (h : p := by exact (by rw [hg]; exact Nat.ne_of_gt (IsS85.lt (show IsS85 w0 _ g _ _ _ from (qK1))) : gb278 ≠ g)) : p := h
theorem qK98 {p : Prop} (h : p := by exact (by rw [hg]; exact (keep_size (w := w) (g := g) (row := none) (qK3)) : w.heap.size ≤ gb278)) : p := h
theorem qK99 {q0 p : Prop} (x0 : q0) (h : q0 → p := by intro hx0_; exact zF (zI (IsS85.apart (show IsS85 w _ gb328 l0 t338 t339 from (qK22)) (qK0 hx0_) (by decide)) hk (fun _ h => h.2)) (fun _ h => h.1)) : p := h x0
theorem qK100 {q0 p : Prop} (x0 : q0) (h : q0 → p := by intro hx0_; exact zF (zI (IsS85.apart (show IsS85 w _ gb328 l0 t332 t333 from (qK22)) (qK0 hx0_) (by decide)) hk (fun _ h => h.2)) (fun _ h => h.1)) : p := h x0
theorem qK101 {p : Prop} (h : p := by exact done_of HT_.1 (qK18)) : p := h
theorem qK102 {p : Prop} (h : p := by exact (by rw [hg]; exact (zT (qK2)) : w.heap.size ≤ gb102)) : p := h
theorem qK103 {p : Prop} (h : p := by exact Kd.R_below (Kd.R_elderB (qK0 HO_3.1) gb278 (Nat.le_of_eq hg.symm)) hb) : p := h
theorem qK104 {p : Prop} (h : p := by exact (zT (qK6 GE181.1))) : p := h
theorem qK105 {p : Prop} (h : p := by exact (Nat.le_trans HW0.1 (by rw [hg]; exact (keep_size (w := w) (g := g) (row := none) (qK3)) : w.heap.size ≤ gb112) : w0.heap.size ≤ gb112)) : p := h
theorem qK106 {q0 p : Prop} (x0 : q0) (h : q0 → p := by intro hx0_; exact zK hx0_ (zT (qK2))) : p := h x0
theorem qK107 {q0 p : Prop} (x0 : q0) (h : q0 → p := by intro hx0_; exact zF (zI (IsS85.apart (show IsS85 w _ gb374 l0 t384 t385 from (qK34)) (qK0 hx0_) (by decide)) hk (fun _ h => h.2)) (fun _ h => h.1)) : p := h x0
theorem qK108 {q0 q1 p : Prop} (x0 : q0) (x1 : q1) (h : q0 → q1 → p := by intro hx0_ hx1_; exact zK (Kd.R_new' hx0_ (Kd.R_lt (qK0 hx1_))) (zT (qK2))) : p := h x0 x1
theorem qK109 {p : Prop} (h : p := by exact (by rw [hg]; exact Nat.ne_of_lt (IsS79.lt (show IsS79 w0 _ g _ _ _ _ _ _ from (qK31))) : g ≠ gb112)) : p := h
theorem qK110 {p : Prop} (h : p := by exact (by rw [hg]; exact Nat.ne_of_gt (IsS79.lt (show IsS79 w0 _ g _ _ _ _ _ _ from (qK31))) : gb112 ≠ g)) : p := h
theorem qK111 {p : Prop} (h : p := by exact (by rw [hg]; exact (zT (qK2)) : w.heap.size ≤ gb328)) : p := h
theorem qK112 {p : Prop} (h : p := by exact (by rw [hg]; exact (zT (qK2)) : w.heap.size ≤ gb181)) : p := h
theorem qK113 {p : Prop} (h : p := by exact (by rw [hg]; exact (keep_size (w := w) (g := g) (row := none) (qK3)) : w.heap.size ≤ gb112)) : p := h
theorem qK114 {p : Prop} (h : p := by repeat (first | exact (zC HR0.1 (qK2)) | (with_reducible refine Kd.C_alloc ?_ _) | (with_reducible refine Kd.C_drewN ?_ _) | (with_reducible refine Kd.C_drew ?_))) : p := h
theorem qK115 {q0 q1 q2 p : Prop} (x0 : q0) (x1 : q1) (x2 : q2) (h : q0 → q1 → q2 → p := by intro hx0_ hx1_ hx2_; exact zK (Kd.R_new' (Kd.R_new' hx0_ (Kd.R_lt (qK0 hx1_))) (Kd.R_lt (qK0 hx2_))) (zT (qK2))) : p := h x0 x1 x2
theorem qK116 {p : Prop} (h : p := by rw [hg]; exact (zT (qK2))) : p := h
theorem qK117 {p : Prop} (h : p := by exact (fun k_ hk => ⟨Kd.fresh' (Kd.R_lt (qK0 HO_4.1)) k_ hk, Kd.freshB (qB BK181.1) k_ hk⟩)) : p := h
theorem qK118 {q0 p : Prop} (x0 : q0) (h : q0 → p := by intro hx0_; exact zF (zI (IsS85.apart (show IsS85 w _ gb374 l0 t378 t379 from (qK34)) (qK0 hx0_) (by decide)) hk (fun _ h => h.2)) (fun _ h => h.1)) : p := h x0
theorem qK119 {q0 p : Prop} (x0 : q0) (h : q0 → p := by intro hx0_; exact zF (zI (IsS85.apart (show IsS85 w _ gb328 l0 t343 t344 from (qK22)) (qK0 hx0_) (by decide)) hk (fun _ h => h.2)) (fun _ h => h.1)) : p := h x0
theorem qK120 {p : Prop} (h : p := by exact Kd.R_below (Kd.R_elderB (qK0 HO_4.1) gb181 (Nat.le_of_eq hg.symm)) hb) : p := h
theorem qK121 {p : Prop} (h : p := by exact IsS85.below (qK22) hb) : p := h
abbrev qKb0 : Array Bool := #[false, false, false, false, false, false, false, false, false, false]
abbrev qKb1 : Array Bool := #[true, false, false, false, false, false, false, false, false, false]
abbrev qKb2 : Array Bool := #[true, false, true, false, false, false, false, false, false, false]
abbrev qKb3 : Array Bool := #[true, false, true, false, true, false, false, false, false, false]
abbrev qKb4 : Array Bool := #[true, false, true, false, true, false, true, false, false, false]
abbrev qKb5 : Array Bool := #[true, true, true, false, true, false, true, false, false, false]
abbrev qKb6 : Array Bool := #[true, true, true, false, true, true, true, false, false, false]
abbrev qKb7 : Array Bool := #[true, true, true, true, true, true, true, false, false, false]
abbrev qKb8 : Array Bool := #[true, true, true, true, true, true, true, true, false, false]
abbrev qKb9 : Array Bool := #[true, true, true, true, true, true, true, true, true, false]
abbrev qKb10 : Array Bool := #[true, true, true, true, true, true, true, true, true, true]
abbrev qKb11 : Array Bool := #[false, false, false, false, false, false, false, false, false, false, false, false, false, false, false, false, false, false, false, false, false, false, false, false, false, false, false, false, false, false, false]
abbrev qKb12 : Array Bool := #[true, false, false, false, false, false, false, false, false, false, false, false, false, false, false, false, false, false, false, false, false, false, false, false, false, false, false, false, false, false, false]
abbrev qKb13 : Array Bool := #[true, true, false, false, false, false, false, false, false, false, false, false, false, false, false, false, false, false, false, false, false, false, false, false, false, false, false, false, false, false, false]
abbrev qKb14 : Array Bool := #[true, true, true, false, false, false, false, false, false, false, false, false, false, false, false, false, false, false, false, false, false, false, false, false, false, false, false, false, false, false, false]
abbrev qKb15 : Array Bool := #[true, true, true, true, false, false, false, false, false, false, false, false, false, false, false, false, false, false, false, false, false, false, false, false, false, false, false, false, false, false, false]
abbrev qKb16 : Array Bool := #[true, true, true, true, true, false, false, false, false, false, false, false, false, false, false, false, false, false, false, false, false, false, false, false, false, false, false, false, false, false, false]
abbrev qKb17 : Array Bool := #[true, true, true, true, true, true, false, false, false, false, false, false, false, false, false, false, false, false, false, false, false, false, false, false, false, false, false, false, false, false, false]
abbrev qKb18 : Array Bool := #[true, true, true, true, true, true, true, false, false, false, false, false, false, false, false, false, false, false, false, false, false, false, false, false, false, false, false, false, false, false, false]
abbrev qKb19 : Array Bool := #[true, true, true, true, true, true, true, true, false, false, false, false, false, false, false, false, false, false, false, false, false, false, false, false, false, false, false, false, false, false, false]
abbrev qKb20 : Array Bool := #[true, true, true, true, true, true, true, true, true, false, false, false, false, false, false, false, false, false, false, false, false, false, false, false, false, false, false, false, false, false, false]
abbrev qKb21 : Array Bool := #[true, true, true, true, true, true, true, true, true, true, false, false, false, false, false, false, false, false, false, false, false, false, false, false, false, false, false, false, false, false, false]
abbrev qKb22 : Array Bool := #[true, true, true, true, true, true, true, true, true, true, true, false, false, false, false, false, false, false, false, false, false, false, false, false, false, false, false, false, false, false, false]
abbrev qKb23 : Array Bool := #[true, true, true, true, true, true, true, true, true, true, true, true, false, false, false, false, false, false, false, false, false, false, false, false, false, false, false, false, false, false, false]
abbrev qKb24 : Array Bool := #[true, true, true, true, true, true, true, true, true, true, true, true, true, false, false, false, false, false, false, false, false, false, false, false, false, false, false, false, false, false, false]
abbrev qKb25 : Array Bool := #[true, true, true, true, true, true, true, true, true, true, true, true, true, true, false, false, false, false, false, false, false, false, false, false, false, false, false, false, false, false, false]
abbrev qKb26 : Array Bool := #[true, true, true, true, true, true, true, true, true, true, true, true, true, true, true, false, false, false, false, false, false, false, false, false, false, false, false, false, false, false, false]
abbrev qKb27 : Array Bool := #[true, true, true, true, true, true, true, true, true, true, true, true, true, true, true, true, false, false, false, false, false, false, false, false, false, false, false, false, false, false, false]
abbrev qKb28 : Array Bool := #[true, true, true, true, true, true, true, true, true, true, true, true, true, true, true, true, true, false, false, false, false, false, false, false, false, false, false, false, false, false, false]
abbrev qKb29 : Array Bool := #[true, true, true, true, true, true, true, true, true, true, true, true, true, true, true, true, true, true, false, false, false, false, false, false, false, false, false, false, false, false, false]
abbrev qKb30 : Array Bool := #[true, true, true, true, true, true, true, true, true, true, true, true, true, true, true, true, true, true, true, false, false, false, false, false, false, false, false, false, false, false, false]
abbrev qKb31 : Array Bool := #[true, true, true, true, true, true, true, true, true, true, true, true, true, true, true, true, true, true, true, true, false, false, false, false, false, false, false, false, false, false, false]
abbrev qKb32 : Array Bool := #[true, true, true, true, true, true, true, true, true, true, true, true, true, true, true, true, true, true, true, true, true, false, false, false, false, false, false, false, false, false, false]
abbrev qKb33 : Array Bool := #[true, true, true, true, true, true, true, true, true, true, true, true, true, true, true, true, true, true, true, true, true, true, false, false, false, false, false, false, false, false, false]
abbrev qKb34 : Array Bool := #[true, true, true, true, true, true, true, true, true, true, true, true, true, true, true, true, true, true, true, true, true, true, true, false, false, false, false, false, false, false, false]
abbrev qKb35 : Array Bool := #[true, true, true, true, true, true, true, true, true, true, true, true, true, true, true, true, true, true, true, true, true, true, true, true, false, false, false, false, false, false, false]
abbrev qKb36 : Array Bool := #[true, true, true, true, true, true, true, true, true, true, true, true, true, true, true, true, true, true, true, true, true, true, true, true, true, false, false, false, false, false, false]
abbrev qKb37 : Array Bool := #[true, true, true, true, true, true, true, true, true, true, true, true, true, true, true, true, true, true, true, true, true, true, true, true, true, false, true, false, false, false, false]
abbrev qKb38 : Array Bool := #[true, true, true, true, true, true, true, true, true, true, true, true, true, true, true, true, true, true, true, true, true, true, true, true, true, true, true, false, false, false, false]
abbrev qKb39 : Array Bool := #[true, true, true, true, true, true, true, true, true, true, true, true, true, true, true, true, true, true, true, true, true, true, true, true, true, true, true, true, false, false, false]
abbrev qKb40 : Array Bool := #[true, true, true, true, true, true, true, true, true, true, true, true, true, true, true, true, true, true, true, true, true, true, true, true, true, true, true, true, true, false, false]
abbrev qKb41 : Array Bool := #[true, true, true, true, true, true, true, true, true, true, true, true, true, true, true, true, true, true, true, true, true, true, true, true, true, true, true, true, true, true, false]
abbrev qKb42 : Array Bool := #[true, true, true, true, true, true, true, true, true, true, true, true, true, true, true, true, true, true, true, true, true, true, true, true, true, true, true, true, true, true, true]
abbrev qKb43 : Array Bool := #[true, true, true, true, true, true, true, true, true, true, true, true, true, true, true, true, true, true, true, true, true, true, true, true, true, true, false, false, false, false, false]
abbrev qKb44 : Array Bool := #[false, false, false, false, false, false, false, false, false, false, false, false, false, false]
abbrev qKb45 : Array Bool := #[true, false, false, false, false, false, false, false, false, false, false, false, false, false]
abbrev qKb46 : Array Bool := #[true, true, false, false, false, false, false, false, false, false, false, false, false, false]
abbrev qKb47 : Array Bool := #[true, true, true, false, false, false, false, false, false, false, false, false, false, false]
abbrev qKb48 : Array Bool := #[true, true, true, true, false, false, false, false, false, false, false, false, false, false]
abbrev qKb49 : Array Bool := #[true, true, true, true, true, false, false, false, false, false, false, false, false, false]
abbrev qKb50 : Array Bool := #[true, true, true, true, true, true, false, false, false, false, false, false, false, false]
abbrev qKb51 : Array Bool := #[true, true, true, true, true, true, true, false, false, false, false, false, false, false]
abbrev qKb52 : Array Bool := #[true, true, true, true, true, true, true, true, false, false, false, false, false, false]
abbrev qKb53 : Array Bool := #[true, true, true, true, true, true, true, true, true, false, false, false, false, false]
abbrev qKb54 : Array Bool := #[true, true, true, true, true, true, true, true, true, false, true, false, false, false]
abbrev qKb55 : Array Bool := #[true, true, true, true, true, true, true, true, true, true, true, false, false, false]
abbrev qKb56 : Array Bool := #[true, true, true, true, true, true, true, true, true, true, true, true, false, false]
abbrev qKb57 : Array Bool := #[true, true, true, true, true, true, true, true, true, true, true, true, true, false]
abbrev qKb58 : Array Bool := #[true, true, true, true, true, true, true, true, true, true, true, true, true, true]
abbrev qKb59 : Array Bool := #[false, false, false, false, false, false, false, false, false, false, false, false, false]
abbrev qKb60 : Array Bool := #[false, true, false, false, false, false, false, false, false, false, false, false, false]
abbrev qKb61 : Array Bool := #[false, true, true, false, false, false, false, false, false, false, false, false, false]
abbrev qKb62 : Array Bool := #[false, true, true, true, false, false, false, false, false, false, false, false, false]
abbrev qKb63 : Array Bool := #[false, true, true, true, false, false, false, false, true, false, false, false, false]
abbrev qKb64 : Array Bool := #[false, true, true, true, false, false, false, false, true, true, false, false, false]
abbrev qKb65 : Array Bool := #[false, true, true, true, false, false, false, false, true, true, true, false, false]
abbrev qKb66 : Array Bool := #[false, true, true, true, false, true, false, false, true, true, true, false, false]
abbrev qKb67 : Array Bool := #[true, true, true, true, true, true, true, false, true, true, true, false, false]
abbrev qKb68 : Array Bool := #[true, true, true, true, false, true, false, false, true, true, true, false, false]
abbrev qKb69 : Array Bool := #[false, true, true, true, false, true, true, false, true, true, true, false, false]
abbrev qKb70 : Array Bool := #[true, true, true, true, true, true, false, false, true, true, true, false, false]
abbrev qKb71 : Array Bool := #[true, true, true, true, false, true, true, false, true, true, true, false, false]
abbrev qKb72 : Array Bool := #[true, true, true, true, true, true, true, true, true, true, true, false, false]
abbrev qKb73 : Array Bool := #[true, true, true, true, true, true, true, true, true, true, true, true, false]
abbrev qKb74 : Array Bool := #[true, true, true, true, true, true, true, true, true, true, true, true, true]
abbrev qKb75 : Array Bool := #[true, true, true, true, true, true, true, true, true, true, false, false, false, false]
abbrev qKb76 : Array Bool := #[true, true, true, false, true, true, true, true, true, true, false, false, false, false]
abbrev qKb77 : Array Bool := #[true, true, true, true, true, true, false, true, true, false, false, false, false, false]
abbrev qKb78 : Array Bool := #[true, true, true, false, true, true, true, true, true, false, false, false, false, false]
abbrev qKb79 : Array Bool := #[true, true, false, false, true, true, true, true, true, true, false, false, false, false]
abbrev qKb80 : Array Bool := #[true, true, true, true, true, true, false, true, false, false, false, false, false, false]
abbrev qKb81 : Array Bool := #[true, true, true, true, true, false, false, true, true, false, false, false, false, false]
abbrev qKb82 : Array Bool := #[true, true, true, false, true, true, true, true, false, false, false, false, false, false]
abbrev qKb83 : Array Bool := #[true, true, true, false, true, true, false, true, true, false, false, false, false, false]
abbrev qKb84 : Array Bool := #[true, true, false, false, true, true, true, true, true, false, false, false, false, false]
abbrev qKb85 : Array Bool := #[true, true, true, true, true, false, false, true, false, false, false, false, false, false]
abbrev qKb86 : Array Bool := #[true, true, true, false, true, true, false, true, false, false, false, false, false, false]
abbrev qKb87 : Array Bool := #[true, true, true, false, true, false, false, true, true, false, false, false, false, false]
abbrev qKb88 : Array Bool := #[true, true, false, false, true, true, true, true, false, false, false, false, false, false]
abbrev qKb89 : Array Bool := #[true, true, false, false, true, true, false, true, true, false, false, false, false, false]
abbrev qKb90 : Array Bool := #[true, true, true, false, true, false, false, true, false, false, false, false, false, false]
abbrev qKb91 : Array Bool := #[true, true, false, false, true, true, false, true, false, false, false, false, false, false]
abbrev qKb92 : Array Bool := #[true, true, false, false, true, false, false, true, true, false, false, false, false, false]
end Go.Proofs.Ytckidmhkhlbkeaa.MK
