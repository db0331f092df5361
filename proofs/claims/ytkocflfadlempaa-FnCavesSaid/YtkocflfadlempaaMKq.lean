-- Written by a program of this session (wip/tight2.py). -- tight2
import Derived.Test.YtkocflfadlempaaProg
import Derived.Below
import Derived.Deep.Draws
import Derived.Deep.AppendLies
import Derived.Maps.AppendAt
import Derived.OwnWalk
import Derived.Laws.BytesArg
import Derived.Laws.MakeOwn
import Derived.Laws.OwnMore
import Derived.Deep.OwnRows
import Derived.Tactics
import Derived.Lib.ConvBytes
import Derived.Laws.Slices
import Derived.WalkKit
import Derived.KernelRfl
import Derived.RowKit3
import Derived.Deep.LoopGhost
import Derived.Deep.QuietTactic
import Derived.BigQuiet
import Derived.WideLaws
import Derived.Deep.DeepCutAuto
import Derived.Deep.CutBlock
import Derived.Deep.RegionHeld3
import Derived.Laws.Rows
import Derived.Lib.AppendStr
import Derived.ArgAppend
import Derived.Laws.IdiomCopy
import Derived.OrdersHeld
import Derived.Laws.BitsLemmas
import Derived.RowKit
import Derived.Deep.RegionHeld3
import Derived.Laws.CopyOwn
import Derived.StillTailTactics
import Derived.Test.YtkocflfadlempaaWWords
import Derived.Test.YtkocflfadlempaaWLast
import Derived.Test.YtkocflfadlempaaWTab
import Derived.Test.YtkocflfadlempaaWApart
import Derived.Test.YtkocflfadlempaaWArr
import Derived.Test.YtkocflfadlempaaWZeros
import Derived.Test.YtkocflfadlempaaWFoot
import Derived.Test.YtkocflfadlempaaWKept
import Derived.Test.YtkocflfadlempaaWShare
import Derived.Test.YtkocflfadlempaaWN
import Derived.Test.YtkocflfadlempaaWFootNe
import Derived.Test.YtkocflfadlempaaWAt
import Derived.Test.YtkocflfadlempaaWRepsOne
import Derived.Test.YtkocflfadlempaaWInv
import Derived.Test.YtkocflfadlempaaWGuard
import Derived.Test.YtkocflfadlempaaWNEv
namespace Go.Proofs.Ytkocflfadlempaa.MK
open Go.RowKit Go.Proofs.YtkocflfadlempaaW.PrintWords Go.Proofs.YtkocflfadlempaaW.PrintLast
-- Small words of this claim's own (the module 'More' of the words has such too; it would bring five modules along of which nothing is used here).
section
variable {P : Program} {ops : Array Oper} {rest : List Oper} {o : Oper} {a : Act} {Q : Exit → Act → World → Prop} {W : World}
theorem gate_callee {f : FuncId} {xs : Array Operand} {ts : Array TypeId} (_ho : o.op = .call { callee := .value (.func f), args := xs, argTypes := ts }) (h : wpList P ops Q (o :: rest) a W) : wpList P ops Q (o :: rest) a W := h
theorem gate_builtin {b : Builtin} {xs : Array Operand} {ts : Array TypeId} (_ho : o.op = .call { callee := .builtin b, args := xs, argTypes := ts }) (h : wpList P ops Q (o :: rest) a W) : wpList P ops Q (o :: rest) a W := h
end
theorem drewN_self (w : World) (n : Nat) : w.drewN n = w.drewN n := rfl
theorem calls_of_args {P : Program} {f : FuncId} {args args' : Array Value} {w : World} {Q : Ending → World → Prop} (h : args = args') (hc : Calls P f args' w Q) : Calls P f args w Q := by
  subst h
  exact hc
def mx (a b : Int) : Int := if a < b then b else a
def mn (a b : Int) : Int := if b < a then b else a
theorem max2_int (k k' : IntKind) (x y : Int) : Builtin.max2 (.int k x) (.int k' y) = pure (.int k (if x < y then y else x)) := by simp only [Builtin.max2, gt_iff_lt]
theorem min2_int (k k' : IntKind) (x y : Int) : Builtin.min2 (.int k x) (.int k' y) = pure (.int k (if y < x then y else x)) := by simp only [Builtin.min2]
theorem max_two (ats : Array TypeId) (ty : TypeId) (a b : Value) : Builtin.max_ ats ty #[a, b] = (Builtin.max2 a b >>= fun s => pure s) := by simp only [Builtin.max_, List.foldlM_cons, List.foldlM_nil]
theorem min_two (ats : Array TypeId) (ty : TypeId) (a b : Value) : Builtin.min_ ats ty #[a, b] = (Builtin.min2 a b >>= fun s => pure s) := by simp only [Builtin.min_, List.foldlM_cons, List.foldlM_nil]
theorem Kd.R_newM {α : Type} {d : Kd α} {e : Nat} {w w1 W : World} {ok M : Nat → Prop} {v : Value} {xs : List α} (h : d.R e w1 W.heap.size ok v xs) (hle : w.heap.size ≤ W.heap.size) (hM : ∀ k, w.heap.size ≤ k → M k) : d.R e w1 W.heap.size (fun k => M k ∧ ok k) v xs :=
  Kd.R_mono (Kd.R_bound h) (fun k hk => ⟨hM k (Nat.le_trans hle hk.2.1), hk.1⟩)
theorem Kd.R_keptB {α : Type} {d : Kd α} {e base : Nat} {W W2 : World} {S ok : Nat → Prop} {v : Value} {xs : List α} (h : d.R e W base ok v xs) (hk : Kept W W2 S) (hne : ∀ k, ok k → ¬ S k) : d.R e W2 base (fun k => ok k ∧ (¬ S k ∧ k < W.heap.size)) v xs :=
  Kd.R_kept (Kd.R_mono (Kd.R_bound h) (fun k hk => ⟨hk.1, hne k hk.1, hk.2.2.1⟩)) hk (fun _ hk => hk.2.1)
namespace Kd
open Kd
def V {α : Type} (d : Kd α) (_e : Nat) (W : World) (_b : Nat) (ok : Nat → Prop) (v : Value) (xs : List α) : Prop := ∃ A c, v = .slice A xs.length c ∧ xs.length ≤ c ∧ F d W ok A xs.length xs
section
variable {α : Type} {d : Kd α} {e base n c : Nat} {ok ok' : Nat → Prop} {W w1 : World} {A : Option Addr} {u v v1 : Value} {xs : List α}
theorem V_map (h : V d e W base ok v xs) (hF : ∀ A, F d W ok A xs.length xs → F d w1 ok' A xs.length xs) : V d e w1 base ok' v xs := by
  obtain ⟨A, c, hv, hl, hf⟩ := h
  exact ⟨A, c, hv, hl, hF A hf⟩
theorem V_mk (hl : xs.length ≤ c) (hf : F d W ok A xs.length xs) : V d e W base ok (.slice A xs.length c) xs := ⟨A, c, rfl, hl, hf⟩
theorem V_at (h : V d e W base ok (.slice A n c) xs) : n = xs.length ∧ n ≤ c ∧ F d W ok A xs.length xs := by
  obtain ⟨A', c', hv, hl, hf⟩ := h
  injection hv with ha hn hc
  subst ha; subst hc
  exact ⟨hn, by rw [hn]; exact hl, hf⟩
theorem V_reads' (h : V d e W base ok (.slice A n c) xs) : n = xs.length ∧ n ≤ c ∧ d.C W A xs.length xs := ⟨(V_at h).1, (V_at h).2.1, F_now (V_at h).2.2⟩
theorem V_F (h : V d e W base ok (.slice A n c) xs) : F d W ok A n xs := by
  obtain ⟨hn, _, hf⟩ := V_at h
  rw [hn]; exact hf
theorem V_nil (d : Kd α) (e : Nat) (W : World) (base : Nat) (ok : Nat → Prop) : V d e W base ok (.slice none 0 0) [] := ⟨none, 0, rfl, Nat.le_refl _, F_nil d W ok⟩
theorem V_mono (h : V d e W base ok v xs) (hok : ∀ k, ok k → ok' k) : V d e W base ok' v xs := V_map h (fun _ hf => F_mono hf hok)
theorem V_below (h : V d e W base ok v xs) (hb : Below W.heap.size W w1) : V d e w1 base ok v xs := V_map h (fun _ hf => F_below hf hb)
theorem V_alloc (h : V d e W base ok v xs) (o : Obj) : V d e (W.alloc o) base ok v xs := V_map h (fun _ hf => F_alloc hf o)
theorem V_drew (h : V d e W base ok v xs) : V d e W.drew base ok v xs := V_map h (fun _ hf => F_drew hf)
theorem V_drewN (h : V d e W base ok v xs) (m : Nat) : V d e (W.drewN m) base ok v xs := V_map h (fun _ hf => F_drewN hf m)
theorem V_afterv (h : V d e W base (fun k => ok k ∧ some k ≠ v.ownBlock) u xs) (hg : W.grownBy w1 v.ownBlock) (hat : v1.ownBlock = v.ownBlock ∨ ∃ b, v1.ownBlock = some b ∧ W.heap.size ≤ b) : V d e w1 base (fun k => ok k ∧ some k ≠ v1.ownBlock) u xs := V_map h (fun _ hf => F_after hf hg hat)
theorem N_afterv (h : N d e W base (fun k => ok k ∧ some k ≠ v.ownBlock) u xs) (hg : W.grownBy w1 v.ownBlock) (hat : v1.ownBlock = v.ownBlock ∨ ∃ b, v1.ownBlock = some b ∧ W.heap.size ≤ b) : N d e w1 base (fun k => ok k ∧ some k ≠ v1.ownBlock) u xs := N_after h hg hat
theorem FK_slice_open {cs : List Value} (h : FK (Kd.slice e d) W ok xs cs) : ∃ A c, cs = [.slice A xs.length c] ∧ xs.length ≤ c ∧ F d W ok A xs.length xs := by
  obtain ⟨A, c, rfl, hl, _⟩ := FK_now h
  refine ⟨A, c, rfl, hl, fun W' hW => ?_⟩
  obtain ⟨A', c', he, _, g'⟩ := h W' hW
  injection he with he _
  injection he with ha _ _
  rw [ha]; exact g'
theorem FK_slice_mk (hl : xs.length ≤ c) (hf : F d W ok A xs.length xs) : FK (Kd.slice e d) W ok xs [.slice A xs.length c] := fun W' hW => ⟨A, c, rfl, hl, hf W' hW⟩
end
end Kd
abbrev za := @Aside0.mk
abbrev zb := @of_decide_eq_true
abbrev zc := @decide_eq_true
abbrev zd := @World.block_lt_of_cell?
abbrev ze := @blk_frozen
abbrev zf := @blk_cell
abbrev zg := @blk_alloc
abbrev zh := @blk_drewN
abbrev zi := @blk_drew
abbrev zj := @blk_put
abbrev zk := @blk_far
abbrev zl := @blk_below
abbrev zm := @Option.some.inj
theorem zn {b : Bool} (h : b ≠ true) : b = false := Bool.eq_false_iff.mpr h
abbrev zo := @Nat.le_refl
abbrev zp := @gate_callee
abbrev zq := @gate_dst
abbrev zr := @gate_builtin
abbrev zs := @Below.refl
abbrev zt := @Reps.one
abbrev zu := @Reps.none
abbrev zv := @decide_eq_false
abbrev zw := @eq_true
theorem zx {α : Type} [BEq α] [LawfulBEq α] {a b : α} (h : a ≠ b) : (a == b) = false := beq_eq_false_iff_ne.mpr h
theorem zy {α : Type} [BEq α] [LawfulBEq α] {a b : α} (h : a = b) : (a != b) = false := bne_eq_false_iff_eq.mpr h
abbrev zz := @KeepBut.blk
abbrev zA := @KeepBut.trans
abbrev zB := @box_event
theorem zC {α β : Type} {x : Option α} {f : α → Option β} {b : β} (h : x.bind f = some b) : ∃ a, x = some a ∧ f a = some b := Option.bind_eq_some_iff.mp h
abbrev zD := @Kd.C_alloc
abbrev zE := @Kd.C_drewN
abbrev zF := @Kd.C_drew
abbrev zG := @Kd.C_below
abbrev zH := @Kd.R_reads'
abbrev zI := @Kd.R_slice
abbrev zJ := @Kd.at_int
abbrev zK := @Kd.R_mono
abbrev zL := @Kd.R_far
abbrev zM := @Kd.R_append_rows_step
abbrev zN := @Kd.R_keep
abbrev zO := @Kd.R_drew
abbrev zP := @Kd.R_lower
abbrev zQ := @Kd.R_lit
abbrev zR := @KeepBut.of_below
abbrev zS := @World.drewN_drewN
theorem zT {α : Type} [BEq α] [LawfulBEq α] {a b : α} (h : a = b) : (a == b) = true := beq_iff_eq.mpr h
theorem zU {α : Type} [BEq α] [LawfulBEq α] {a b : α} (h : a ≠ b) : (a != b) = true := bne_iff_ne.mpr h
abbrev zV := @goesL_
abbrev zW := @below_step
abbrev zX := @below_size
abbrev zY := @Or.inl
abbrev zZ := @below_alloc
abbrev ya := @below_set
theorem yb {c : Prop} {h : Decidable c} (hc : c) {α : Type} {t e : α} : ite c t e = t := if_pos hc
theorem yc {c : Prop} {h : Decidable c} (hc : ¬ c) {α : Type} {t e : α} : ite c t e = e := if_neg hc
theorem yd {α : Type} (a b : α) : (some a = some b) = (a = b) := Option.some.injEq a b
theorem ye {α β : Type} (a : α) (b : β) (c : α) (d : β) : ((a, b) = (c, d)) = (a = c ∧ b = d) := Prod.mk.injEq a b c d
theorem yf {α : Type} (l : List α) (i : Nat) (a : α) : l.toArray.setIfInBounds i a = (l.set i a).toArray := List.setIfInBounds_toArray ..
theorem yg {α : Type} {x : α} {xs : List α} {a : α} : (x :: xs).set 0 a = a :: xs := rfl
theorem yh {α : Type} {x : α} {xs : List α} {n : Nat} {a : α} : (x :: xs).set (n + 1) a = x :: xs.set n a := rfl
theorem qmono {p : Prop} (h : p := by
  repeat' first
  | (with_reducible first | apply ih0 | apply ih1 | apply ih2 | apply ih3 | apply ih4 | apply ih5 | apply ih6 | apply ih7 | apply ih8 | apply ih9)
  | (with_reducible first | apply m0 | apply m1 | apply m2 | apply m3 | apply m4 | apply m5 | apply m6 | apply m7 | apply m8 | apply m9 | apply m10 | apply m11 | apply m12 | apply m13 | apply m14 | apply m15 | apply m16 | apply m17 | apply m18 | apply m19 | apply m20 | apply m21 | apply m22 | apply m23 | apply m24 | apply m25)
  | (with_reducible exact LeO.refl _)
  | (with_reducible exact LeO.none _)
  | (with_reducible refine LeO.ite ?_ ?_)
  | (with_reducible refine LeO.bind ?_ (fun _ => ?_))
  | first | apply ih0 | apply ih1 | apply ih2 | apply ih3 | apply ih4 | apply ih5 | apply ih6 | apply ih7 | apply ih8 | apply ih9
  | exact LeO.none _
  | refine LeO.ite ?_ ?_
  | refine LeO.bind ?_ (fun _ => ?_)) : p := h
theorem bindA {α β : Type} {x : Option α} {f : α → Option β} {r : β} (h : x.bind f = some r) : ∃ a, Aside0 (x = some a) ∧ f a = some r := by
  obtain ⟨a, h1, h2⟩ := zC h
  exact ⟨a, ⟨h1⟩, h2⟩
theorem qK0 {p : Prop} (h : p := by repeat (first | (with_reducible first | exact HB.1 | apply zZ | apply pw_below_drewN | apply below_drew1) | exact HB.1)) : p := h
theorem qK1 {q0 p : Prop} (x0 : q0) (h : q0 → p := by intro hx0_; (with_reducible repeat (first | apply Kd.R_alloc | apply Kd.R_drewN | apply zO)); exact hx0_) : p := h x0
theorem qK2 {p : Prop} (h : p := by (try simp only [List.map_toArray, List.map_cons, List.map_nil]); first | done | rfl | (simp only [List.length_drop, List.length_take]; rfl)) : p := h
theorem qK3 {p : Prop} (h : p := by repeat (first | (with_reducible first | exact HI0.1 | apply IsS54.alloc | apply IsS54.drewN | apply IsS54.drew | apply IsS54.set_1 | apply IsS54.set_2) | exact HI0.1)) : p := h
theorem qK4 {q0 p : Prop} (x0 : q0) (h : q0 → p := by intro hx0_; first | (rw [hx0_]; with_reducible exact H) | (have H2_ := (Option.bind_some _ _).symm.trans H; rw [hx0_]; with_reducible exact H2_) | (have H2_ := (Option.bind_some _ _).symm.trans H; with_reducible exact H2_) | with_reducible exact H | (rw [hx0_]; exact H) | exact H) : p := h x0
theorem qK5 {p : Prop} (h : p := by repeat (first | (with_reducible first | exact HK.1 | apply KeepBut.set_ | apply keep_drewN | apply keep_drew | apply keep_alloc) | exact HK.1)) : p := h
theorem qK6 {p : Prop} (h : p := by repeat (first | (with_reducible first | exact HB.1 | apply zZ | apply pw_below_drewN | apply below_drew1 | refine ya ?_ (IsS54.ge HI0.1)) | exact HB.1)) : p := h
theorem qK7 {p : Prop} (h : p := by first | (with_reducible assumption) | assumption) : p := h
theorem qK8 {q0 p : Prop} (x0 : q0) (h : q0 → p := by intro hx0_; repeat (first | (with_reducible first | exact HI0.1 | apply IsS54.alloc | apply IsS54.drewN | apply IsS54.drew | apply IsS54.set_1 | apply IsS54.set_2 | refine IsS54.far ?_ hx0_ _) | exact HI0.1)) : p := h x0
theorem qK9 {q0 p : Prop} (x0 : q0) (h : q0 → p := by intro hx0_; repeat (first | exact (zG hx0_ HB.1) | (with_reducible refine zD ?_ _) | (with_reducible refine zE ?_ _) | (with_reducible refine zF ?_))) : p := h x0
theorem qK10 {p : Prop} (h : p := by first | rfl | (simp; done) | (simp [*]; done)) : p := h
theorem qK11 {p : Prop} (h : p := by first | rfl | (simp [errW_none, errW_some] <;> rfl) | (simp [*, errW_none, errW_some] <;> rfl)) : p := h
theorem qK12 {q0 p : Prop} (x0 : q0) (h : q0 → p := by intro hx0_; (with_reducible repeat (first | refine zh ?_ _ | refine zi ?_ | refine zg ?_ _)); exact hx0_) : p := h x0
theorem qK13 {q0 p : Prop} (x0 : q0) (h : q0 → p := by intro hx0_; repeat (first | exact (zH hx0_).2.2 | (with_reducible refine zD ?_ _) | (with_reducible refine zE ?_ _) | (with_reducible refine zF ?_))) : p := h x0
theorem qK14 {q0 p : Prop} (x0 : q0) (h : q0 → p := by intro hx0_; repeat (first | (with_reducible first | exact HK.1 | apply KeepBut.set_ | apply keep_drewN | apply keep_drew | apply keep_alloc | refine keep_far ?_ hx0_ _) | exact HK.1)) : p := h x0
theorem qK15 {q0 p : Prop} (x0 : q0) (h : q0 → p := by intro hx0_; repeat (first | (with_reducible first | exact HB.1 | apply zZ | apply pw_below_drewN | apply below_drew1 | refine ya ?_ (IsS54.ge HI0.1) | refine ya ?_ hx0_) | exact HB.1)) : p := h x0
theorem qK16 {p : Prop} (h : p := by repeat (first | (with_reducible first | exact HI0.1 | apply IsS54.alloc | apply IsS54.drewN | apply IsS54.drew | apply IsS54.set_1 | apply IsS54.set_2 | refine IsS54.far ?_ NB0_166.1 _ | refine IsS54.far ?_ NB0_191.1 _) | exact HI0.1)) : p := h
theorem qK17 {p : Prop} (h : p := by first | exact Kd.own_blk (Kd.R_away HO_5.1 (fun _ hk => hk)) | (rw [add_block]; exact Kd.own_blk (Kd.R_away HO_5.1 (fun _ hk => hk))) | (show (Addr.add _ _).block ≠ _; rw [add_block]; exact Kd.own_blk (Kd.R_away HO_5.1 (fun _ hk => hk))) | (dsimp only; exact Kd.own_blk (Kd.R_away HO_5.1 (fun _ hk => hk)))) : p := h
theorem qK18 {p : Prop} (h : p := by repeat (first | (with_reducible first | exact HK.1 | apply KeepBut.set_ | apply keep_drewN | apply keep_drew | apply keep_alloc | refine keep_far ?_ GW166.1 _ | refine keep_far ?_ GW191.1 _) | exact HK.1)) : p := h
theorem qK19 {q0 p : Prop} (x0 : q0) (h : q0 → p := by intro hx0_; repeat (first | (with_reducible first | exact HB.1 | apply zZ | apply pw_below_drewN | apply below_drew1 | refine ya ?_ hx0_) | exact HB.1)) : p := h x0
theorem qK20 {p : Prop} (h : p := by repeat (first | (with_reducible first | exact HB.1 | apply zZ | apply pw_below_drewN | apply below_drew1 | refine ya ?_ (IsS54.ge HI0.1) | refine ya ?_ GE166.1 | refine ya ?_ GE191.1) | exact HB.1)) : p := h
theorem qK21 {q0 p : Prop} (x0 : q0) (h : q0 → p := by intro hx0_; repeat (first | exact hx0_ | (with_reducible refine zD ?_ _) | (with_reducible refine zE ?_ _) | (with_reducible refine zF ?_))) : p := h x0
theorem qK22 {q0 p : Prop} (x0 : q0) (h : q0 → p := by intro hx0_; (with_reducible repeat (first | apply Kd.N_alloc | apply Kd.N_drewN | apply Kd.N_drew)); exact hx0_) : p := h x0
theorem qK23 {p : Prop} (h : p := by first | (go_simp; done) | (go_simp; rfl)) : p := h
theorem qK24 {p : Prop} (h : p := by repeat (first | exact Drawn0.refl _ | apply Drawn0.step)) : p := h
theorem qK25 {p : Prop} (h : p := by kernel_rfl) : p := h
theorem qK26 {q0 p : Prop} (x0 : q0) (h : q0 → p := by intro hx0_; (with_reducible repeat (first | apply Kd.R_alloc | apply Kd.R_drewN | apply zO)); exact zK hx0_ (fun _ hk => hk.2)) : p := h x0
theorem qK27 {q0 q1 p : Prop} (x0 : q0) (x1 : q1) (h : q0 → q1 → p := by intro hx0_ hx1_; repeat (first | (with_reducible first | exact HB.1 | apply zZ | apply pw_below_drewN | apply below_drew1 | refine ya ?_ hx0_ | refine ya ?_ hx1_) | exact HB.1)) : p := h x0 x1
theorem qK28 {p : Prop} (h : p := by (with_reducible repeat (first | refine zh ?_ _ | refine zi ?_ | refine zg ?_ _)); refine zj (cs := #[.int .i64 ((rd_T72 l0 x10_1).f0), .int .i64 ((rd_T72 l0 x10_1).f1), .int .i64 ((rd_T72 l0 x10_1).f2), .int .i64 ((rd_T72 l0 x10_1).f3), .int .i64 0]) ?_ 4 _ rfl; (with_reducible repeat (first | refine zh ?_ _ | refine zi ?_ | refine zg ?_ _)); refine zj (cs := #[.int .i64 ((rd_T72 l0 x10_1).f0), .int .i64 ((rd_T72 l0 x10_1).f1), .int .i64 ((rd_T72 l0 x10_1).f2), .int .i64 0, .int .i64 0]) ?_ 3 _ rfl; (with_reducible repeat (first | refine zh ?_ _ | refine zi ?_ | refine zg ?_ _)); refine zj (cs := #[.int .i64 ((rd_T72 l0 x10_1).f0), .int .i64 ((rd_T72 l0 x10_1).f1), .int .i64 0, .int .i64 0, .int .i64 0]) ?_ 2 _ rfl; (with_reducible repeat (first | refine zh ?_ _ | refine zi ?_ | refine zg ?_ _)); refine zj (cs := #[.int .i64 ((rd_T72 l0 x10_1).f0), .int .i64 0, .int .i64 0, .int .i64 0, .int .i64 0]) ?_ 1 _ rfl; (with_reducible repeat (first | refine zh ?_ _ | refine zi ?_ | refine zg ?_ _)); refine zj (cs := #[.int .i64 0, .int .i64 0, .int .i64 0, .int .i64 0, .int .i64 0]) ?_ 0 _ rfl; (with_reducible repeat (first | refine zh ?_ _ | refine zi ?_ | refine zg ?_ _)); exact BK384.1) : p := h
theorem qK29 {p : Prop} (h : p := by (with_reducible repeat (first | refine zh ?_ _ | refine zi ?_ | refine zg ?_ _)); refine zj (cs := #[.int .i64 ((rd_T72 l0 x7_1).f0), .int .i64 ((rd_T72 l0 x7_1).f1), .int .i64 ((rd_T72 l0 x7_1).f2), .int .i64 ((rd_T72 l0 x7_1).f3), .int .i64 0]) ?_ 4 _ rfl; (with_reducible repeat (first | refine zh ?_ _ | refine zi ?_ | refine zg ?_ _)); refine zj (cs := #[.int .i64 ((rd_T72 l0 x7_1).f0), .int .i64 ((rd_T72 l0 x7_1).f1), .int .i64 ((rd_T72 l0 x7_1).f2), .int .i64 0, .int .i64 0]) ?_ 3 _ rfl; (with_reducible repeat (first | refine zh ?_ _ | refine zi ?_ | refine zg ?_ _)); refine zj (cs := #[.int .i64 ((rd_T72 l0 x7_1).f0), .int .i64 ((rd_T72 l0 x7_1).f1), .int .i64 0, .int .i64 0, .int .i64 0]) ?_ 2 _ rfl; (with_reducible repeat (first | refine zh ?_ _ | refine zi ?_ | refine zg ?_ _)); refine zj (cs := #[.int .i64 ((rd_T72 l0 x7_1).f0), .int .i64 0, .int .i64 0, .int .i64 0, .int .i64 0]) ?_ 1 _ rfl; (with_reducible repeat (first | refine zh ?_ _ | refine zi ?_ | refine zg ?_ _)); refine zj (cs := #[.int .i64 0, .int .i64 0, .int .i64 0, .int .i64 0, .int .i64 0]) ?_ 0 _ rfl; (with_reducible repeat (first | refine zh ?_ _ | refine zi ?_ | refine zg ?_ _)); exact BK381.1) : p := h
theorem qK30 {p : Prop} (h : p := by (with_reducible repeat (first | apply Kd.R_alloc | apply Kd.R_drewN | apply zO)); exact zK (zL (p := ⟨gb384, 4, none⟩) (zL (p := ⟨gb384, 3, none⟩) (zL (p := ⟨gb384, 2, none⟩) (zL (p := ⟨gb384, 1, none⟩) (zL (p := ⟨gb384, 0, none⟩) (Kd.R_types HO_5.1 BK384.1 (by decide)) (fun _ hk => hk.2) (.int .i64 ((rd_T72 l0 x10_1).f0))) (fun _ hk => hk.2) (.int .i64 ((rd_T72 l0 x10_1).f1))) (fun _ hk => hk.2) (.int .i64 ((rd_T72 l0 x10_1).f2))) (fun _ hk => hk.2) (.int .i64 ((rd_T72 l0 x10_1).f3))) (fun _ hk => hk.2) (.int .i64 ((rd_T72 l0 x10_1).f4))) (fun _ hk => trivial)) : p := h
theorem qK31 {q0 p : Prop} (x0 : q0) (h : q0 → p := by intro hx0_; (with_reducible repeat (first | apply Kd.R_alloc | apply Kd.R_drewN | apply zO)); exact zK hx0_ (fun _ hk => trivial)) : p := h x0
theorem qK32 {q0 p : Prop} (x0 : q0) (h : q0 → p := by intro hx0_; (with_reducible repeat (first | apply Kd.S_alloc | apply Kd.S_drewN | apply Kd.S_drew)); exact hx0_) : p := h x0
theorem qK33 {p : Prop} (h : p := by exact (Kd.FK_slice_mk (Kd.V_reads' (Kd.V_mono (ok' := (fun k_ => ((fun k_ => (w.heap.size ≤ k_) ∧ some k_ ≠ (.slice (some ad576) t570.length co11 : Value).ownBlock)) k_ ∧ some k_ ≠ (u6 : Value).ownBlock)) (HL576_0.1) (fun k_ hk => ⟨⟨hk.1.1, hk.2⟩, hk.1.2⟩))).2.1 (Kd.V_F (Kd.V_mono (ok' := (fun k_ => ((fun k_ => (w.heap.size ≤ k_) ∧ some k_ ≠ (.slice (some ad576) t570.length co11 : Value).ownBlock)) k_ ∧ some k_ ≠ (u6 : Value).ownBlock)) (HL576_0.1) (fun k_ hk => ⟨⟨hk.1.1, hk.2⟩, hk.1.2⟩))))) : p := h
theorem qK34 {q0 q1 p : Prop} (x0 : q0) (x1 : q1) (h : q0 → q1 → p := by intro hx0_ hx1_; (with_reducible repeat (first | apply Kd.R_alloc | apply Kd.R_drewN | apply zO)); exact zK (zL (p := ⟨gb249, 4, none⟩) (zL (p := ⟨gb249, 3, none⟩) (zL (p := ⟨gb249, 2, none⟩) (zL (p := ⟨gb249, 1, none⟩) (zL (p := ⟨gb249, 0, none⟩) (Kd.R_types hx0_ hx1_ (by decide)) (fun _ hk => hk.2) (.int .i64 t228)) (fun _ hk => hk.2) (.int .i64 x6_1)) (fun _ hk => hk.2) (.int .i64 t234)) (fun _ hk => hk.2) (.int .i64 t240)) (fun _ hk => hk.2) (.int .i64 t246)) (fun _ hk => ⟨hk.1.1.2, hk.1.2⟩)) : p := h x0 x1
theorem qK35 {q0 p : Prop} (x0 : q0) (h : q0 → p := by intro hx0_; exact (zH hx0_).2.1) : p := h x0
theorem qK36 {p : Prop} (h : p := by repeat (first | (with_reducible exact HR494_0.1) | (with_reducible refine zD ?_ _) | (with_reducible refine zE ?_ _) | (with_reducible refine zF ?_) | exact HR494_0.1)) : p := h
theorem qK37 {p : Prop} (h : p := by repeat (first | (with_reducible first | exact HB.1 | apply zZ | apply pw_below_drewN | apply below_drew1 | refine ya ?_ (IsS54.ge HI614.1)) | exact HB.1)) : p := h
theorem qK38 {p : Prop} (h : p := by repeat (first | (with_reducible first | exact HB.1 | apply zZ | apply pw_below_drewN | apply below_drew1 | refine ya ?_ (IsS54.ge HI519.1)) | exact HB.1)) : p := h
theorem qK39 {p : Prop} (h : p := by repeat (first | (with_reducible first | exact HI614.1 | apply IsS54.alloc | apply IsS54.drewN | apply IsS54.drew | apply IsS54.set_1 | apply IsS54.set_2) | exact HI614.1)) : p := h
theorem qK40 {p : Prop} (h : p := by repeat (first | exact (by repeat (first | (with_reducible exact HR573_0.1) | (with_reducible refine zD ?_ _) | (with_reducible refine zE ?_ _) | (with_reducible refine zF ?_) | exact HR573_0.1)) | (with_reducible refine zD ?_ _) | (with_reducible refine zE ?_ _) | (with_reducible refine zF ?_))) : p := h
theorem qK41 {q0 p : Prop} (x0 : q0) (h : q0 → p := by intro hx0_; repeat (first | (with_reducible exact hx0_) | (with_reducible refine zD ?_ _) | (with_reducible refine zE ?_ _) | (with_reducible refine zF ?_) | exact hx0_)) : p := h x0
theorem qK42 {p : Prop} (h : p := by (with_reducible repeat (first | refine zh ?_ _ | refine zi ?_ | refine zg ?_ _)); refine zj (cs := #[.int .i64 t285, .int .i64 t286, .int .i64 0]) ?_ 2 _ rfl; (with_reducible repeat (first | refine zh ?_ _ | refine zi ?_ | refine zg ?_ _)); refine zj (cs := #[.int .i64 t285, .int .i64 0, .int .i64 0]) ?_ 1 _ rfl; (with_reducible repeat (first | refine zh ?_ _ | refine zi ?_ | refine zg ?_ _)); refine zj (cs := #[.int .i64 0, .int .i64 0, .int .i64 0]) ?_ 0 _ rfl; (with_reducible repeat (first | refine zh ?_ _ | refine zi ?_ | refine zg ?_ _)); exact BK288.1) : p := h
theorem qK43 {p : Prop} (h : p := by simp only [putAll, Act.put, yf, yg, yh]) : p := h
theorem qK44 {p : Prop} (h : p := by exact Kd.V_afterv (ok := (fun k_ => (w.heap.size ≤ k_) ∧ some k_ ≠ (.slice (some ad576) t570.length co11 : Value).ownBlock)) (by (with_reducible repeat (first | apply Kd.V_alloc | apply Kd.V_drewN | apply Kd.V_drew)); exact Kd.V_mono HL576_0.1 (fun _ hk => ⟨⟨hk.1.1, hk.2⟩, hk.1.2⟩)) hg hat) : p := h
theorem qK45 {p : Prop} (h : p := by repeat (first | (with_reducible exact HR670_0.1) | (with_reducible refine zD ?_ _) | (with_reducible refine zE ?_ _) | (with_reducible refine zF ?_) | exact HR670_0.1)) : p := h
theorem qK46 {p : Prop} (h : p := by exact (zt (show Kd.M (Kd.int .i64) _ _ _ a1 [.int .i64 a1] from rfl) (zu _ _))) : p := h
theorem qK47 {p : Prop} (h : p := by repeat (first | (with_reducible first | exact HB.1 | apply zZ | apply pw_below_drewN | apply below_drew1 | refine ya ?_ (IsS54.ge HI645.1)) | exact HB.1)) : p := h
theorem qK48 {q0 p : Prop} (x0 : q0) (h : q0 → p := by intro hx0_; exact far_slice (IsS54.own_ne HI0.1 hx0_ (by decide))) : p := h x0
theorem qK49 {p : Prop} (h : p := by repeat (first | exact HR481_0.1 | (with_reducible refine zD ?_ _) | (with_reducible refine zE ?_ _) | (with_reducible refine zF ?_))) : p := h
theorem qK50 {p : Prop} (h : p := by repeat (first | exact HR480_0.1 | (with_reducible refine zD ?_ _) | (with_reducible refine zE ?_ _) | (with_reducible refine zF ?_))) : p := h
theorem qK51 {q0 p : Prop} (x0 : q0) (h : q0 → p := by intro hx0_; repeat (first | exact (Kd.N_reads' hx0_).2.2 | (with_reducible refine zD ?_ _) | (with_reducible refine zE ?_ _) | (with_reducible refine zF ?_))) : p := h x0
theorem qK52 {q0 p : Prop} (x0 : q0) (h : q0 → p := by intro hx0_; first | (rw [← show (l0.drop (x5_1 : Int).toNat).length = (l0.length - x5_1.toNat) from List.length_drop]; repeat (first | exact (zG hx0_ HB.1) | (with_reducible refine zD ?_ _) | (with_reducible refine zE ?_ _) | (with_reducible refine zF ?_))) | (repeat (first | exact (zG hx0_ HB.1) | (with_reducible refine zD ?_ _) | (with_reducible refine zE ?_ _) | (with_reducible refine zF ?_)))) : p := h x0
theorem qK53 {p : Prop} (h : p := by (with_reducible repeat (first | apply Kd.R_alloc | apply Kd.R_drewN | apply zO)); exact zK (zL (p := ⟨gb288, 2, none⟩) (zL (p := ⟨gb288, 1, none⟩) (zL (p := ⟨gb288, 0, none⟩) (zK HO_5.1 (fun k_ hk => (⟨hk, hk⟩ : _ ∧ k_ ≠ gb288))) (fun _ hk => hk.2) (.int .i64 t285)) (fun _ hk => hk.2) (.int .i64 t286)) (fun _ hk => hk.2) (.int .i64 t287)) (fun _ hk => hk.1)) : p := h
theorem qK54 {p : Prop} (h : p := by (with_reducible repeat (first | apply Kd.R_alloc | apply Kd.R_drewN | apply zO)); exact zK (zL (p := ⟨gb288, 2, none⟩) (zL (p := ⟨gb288, 1, none⟩) (zL (p := ⟨gb288, 0, none⟩) (Kd.R_types HO_3.1 BK288.1 (by decide)) (fun _ hk => hk.2) (.int .i64 t285)) (fun _ hk => hk.2) (.int .i64 t286)) (fun _ hk => hk.2) (.int .i64 t287)) (fun _ hk => trivial)) : p := h
theorem qK55 {p : Prop} (h : p := by repeat (first | (with_reducible first | exact HB.1 | apply zZ | apply pw_below_drewN | apply below_drew1 | refine ya ?_ (IsS54.ge HI366.1)) | exact HB.1)) : p := h
theorem qK56 {p : Prop} (h : p := by repeat (first | (with_reducible first | exact HI645.1 | apply IsS54.alloc | apply IsS54.drewN | apply IsS54.drew | apply IsS54.set_1 | apply IsS54.set_2) | exact HI645.1)) : p := h
theorem qK57 {p : Prop} (h : p := by repeat (first | (with_reducible first | exact HI519.1 | apply IsS54.alloc | apply IsS54.drewN | apply IsS54.drew | apply IsS54.set_1 | apply IsS54.set_2) | exact HI519.1)) : p := h
theorem qK58 {q0 p : Prop} (x0 : q0) (h : q0 → p := by intro hx0_; (with_reducible repeat (first | apply Kd.N_alloc | apply Kd.N_drewN | apply Kd.N_drew)); exact Kd.N_mono hx0_ (fun _ hk => hk.1)) : p := h x0
theorem qK59 {p : Prop} (h : p := by (try simp only [List.map_toArray, List.map_cons, List.map_nil]); first | done | (simp only [hji9]; rfl) | rfl | (simp only [List.length_drop, List.length_take]; rfl)) : p := h
theorem qK60 {p : Prop} (h : p := by exact zl (zj (cs := #[.int .i64 0]) HBX.1 0 (.int .i64 x) rfl) hb) : p := h
theorem qK61 {q0 p : Prop} (x0 : q0) (h : q0 → p := by intro hx0_; exact Kd.R_after (ok := (fun _ => True)) (by (with_reducible repeat (first | apply Kd.R_alloc | apply Kd.R_drewN | apply zO)); exact zK hx0_ (fun _ hk => ⟨trivial, hk⟩)) hg hat) : p := h x0
theorem qK62 {p : Prop} (h : p := by exact (zt (show Kd.M (Kd.int .i64) _ _ _ ((rd_T45 t685 x28_5).f0) [.int .i64 ((rd_T45 t685 x28_5).f0)] from rfl) (zu _ _))) : p := h
theorem qK63 {p : Prop} (h : p := by (with_reducible repeat (first | apply Kd.S_alloc | apply Kd.S_drewN | apply Kd.S_drew)); exact Kd.S_mono HO_3.1 (fun _ hk => trivial)) : p := h
theorem qK64 {p : Prop} (h : p := by exact zW (zW HB.1 (ya HWB.1 HGE.1)) hb) : p := h
theorem qK65 {p : Prop} (h : p := by exact Kd.S_below (Kd.S_below HO.1 (ya HWB.1 HGE.1)) hb) : p := h
theorem qK66 {p : Prop} (h : p := by exact Kd.V_below (by (with_reducible repeat (first | apply Kd.V_alloc | apply Kd.V_drewN | apply Kd.V_drew)); exact HL670_0.1) hb) : p := h
theorem qK67 {p : Prop} (h : p := by exact Kd.R_below (by (with_reducible repeat (first | apply Kd.R_alloc | apply Kd.R_drewN | apply zO)); exact HL494_0.1) hb) : p := h
theorem qK68 {p : Prop} (h : p := by exact show Kd.V (Kd.int .i64) 3 _ w.heap.size _ _ (rd_L5 t661 x10_2) from Kd.V_mk ul670_0 ge670_0) : p := h
theorem qK69 {p : Prop} (h : p := by unfold impl_reach.f; rw [yb HOK.1.1]; rfl) : p := h
theorem qK70 {p : Prop} (h : p := by exact zj (cs := #[.slice none 0 0]) HBX.1 0 (.slice Ai li.length ci) rfl) : p := h
theorem qK71 {p : Prop} (h : p := by have := HX.1; have := HLT.1; omega) : p := h
theorem qK72 {q0 p : Prop} (x0 : q0) (h : q0 → p := by intro hx0_; exact zK (zN (IsS54.apart (show IsS54 w0 _ g _ _ _ from (qK3)) (qK1 hx0_) (by decide)) hk (fun _ h => h.2)) (fun _ h => h.1)) : p := h x0
theorem qK73 {p : Prop} (h : p := by exact zW (qK0) hb) : p := h
theorem qK74 {q0 p : Prop} (x0 : q0) (h : q0 → p := by intro hx0_; first | (refine Eq.mp (congrArg (fun z_ => ReadsRow _ _ _ _ z_ _) (show (l0.take (x5_1 : Int).toNat).length = x5_1.toNat from (by rw [List.length_take]; have h_ : (x5_1 : Int) ≤ (l0.length : Int) := zb (qK7); omega))) ?_; repeat (first | exact (zG hx0_ HB.1) | (with_reducible refine zD ?_ _) | (with_reducible refine zE ?_ _) | (with_reducible refine zF ?_))) | (repeat (first | exact (zG hx0_ HB.1) | (with_reducible refine zD ?_ _) | (with_reducible refine zE ?_ _) | (with_reducible refine zF ?_)))) : p := h x0
theorem qK75 {q0 p : Prop} (x0 : q0) (h : q0 → p := by intro hx0_; exact Kd.R_below (qK1 hx0_) hb) : p := h x0
theorem qK76 {p : Prop} (h : p := by exact any_of HT_.1 (qK25)) : p := h
theorem qK77 {p : Prop} (h : p := by exact zA (qK5) hk (.inl rfl)) : p := h
theorem qK78 {q0 p : Prop} (x0 : q0) (h : q0 → p := by intro hx0_; have := hx0_; have hlx_ := (show (l0.take (x5_1 : Int).toNat).length = x5_1.toNat from (by rw [List.length_take]; have h_ : (x5_1 : Int) ≤ (l0.length : Int) := zb (qK7); omega)); omega) : p := h x0
theorem qK79 {p : Prop} (h : p := by exact zA (qK5) (zR hb g none) (.inl rfl)) : p := h
theorem qK80 {q0 p : Prop} (x0 : q0) (h : q0 → p := by intro hx0_; exact zP hx0_ (zX (qK0))) : p := h x0
theorem qK81 {p : Prop} (h : p := by exact one_of HT_.1 (qK25)) : p := h
theorem qK82 {p : Prop} (h : p := by exact (by rw [hg]; exact (zX (qK0)) : w.heap.size ≤ gb400)) : p := h
theorem qK83 {p : Prop} (h : p := by exact (by rw [hg]; exact (zX (qK0)) : w.heap.size ≤ gb374)) : p := h
theorem qK84 {q0 q1 p : Prop} (x0 : q0) (x1 : q1) (h : q0 → q1 → p := by intro hx0_ hx1_; exact Kd.R_elder' (qK1 hx0_) (Kd.R_base hx1_) hb) : p := h x0 x1
theorem qK85 {q0 p : Prop} (x0 : q0) (h : q0 → p := by intro hx0_; exact (fun k_ hk => Kd.fresh' (Kd.R_lt (qK1 hx0_)) k_ hk)) : p := h x0
theorem qK86 {q0 q1 p : Prop} (x0 : q0) (x1 : q1) (h : q0 → q1 → p := by intro hx0_ hx1_; exact zP (Kd.R_new' hx0_ (Kd.R_lt (qK1 hx1_))) (zX (qK0))) : p := h x0 x1
theorem qK87 {q0 q1 p : Prop} (x0 : q0) (x1 : q1) (h : q0 → q1 → p := by intro hx0_ hx1_; exact Kd.R_over' (qK1 hx0_) (Kd.R_typed (qK1 hx1_)) (by decide) hg) : p := h x0 x1
theorem qK88 {q0 p : Prop} (x0 : q0) (h : q0 → p := by intro hx0_; exact Kd.R_after (ok := (fun _ => True)) (qK1 hx0_) hg hat) : p := h x0
theorem qK89 {q0 p : Prop} (x0 : q0) (h : q0 → p := by intro hx0_; exact IsS54.grown (show IsS54 w0 _ g _ _ _ from (qK3)) hg (IsS54.own_ne HI0.1 hx0_ (by decide))) : p := h x0
theorem qK90 {q0 p : Prop} (x0 : q0) (h : q0 → p := by intro hx0_; exact zP hx0_ (keep_size (w := w) (g := g) (row := none) (qK5))) : p := h x0
theorem qK91 {p : Prop} (h : p := by exact (zX (qK0))) : p := h
theorem qK92 {p : Prop} (h : p := by repeat (first | exact (zG HR0.1 (qK0)) | (with_reducible refine zD ?_ _) | (with_reducible refine zE ?_ _) | (with_reducible refine zF ?_))) : p := h
theorem qK93 {p : Prop} (h : p := by exact IsS54.below (qK3) hb) : p := h
theorem qK94 {p : Prop} (h : p := by exact (by rw [hg]; exact (zX (qK0)) : w.heap.size ≤ gb384)) : p := h
theorem qK95 {q0 p : Prop} (x0 : q0) (h : q0 → p := by intro hx0_; exact zA (qK5) (KeepBut.of_grown hg g) (Kd.R_base2 hx0_)) : p := h x0
theorem qK96 {p : Prop} (h : p := by exact (keep_size (w := w) (g := g) (row := none) (qK5))) : p := h
theorem qK97 {q0 p : Prop} (x0 : q0) (h : q0 → p := by intro hx0_; repeat (first | exact (qK41 hx0_) | (with_reducible refine zD ?_ _) | (with_reducible refine zE ?_ _) | (with_reducible refine zF ?_))) : p := h x0
theorem qK98 {q0 p : Prop} (x0 : q0) (h : q0 → p := by intro hx0_; exact Kd.N_below (qK22 hx0_) hb) : p := h x0
theorem qK99 {q0 q1 p : Prop} (x0 : q0) (x1 : q1) (h : q0 → q1 → p := by intro hx0_ hx1_; exact zP (Kd.R_new' hx0_ (Kd.R_lt (qK1 hx1_))) (keep_size (w := w) (g := g) (row := none) (qK5))) : p := h x0 x1
theorem qK100 {p : Prop} (h : p := by exact (fun k_ hk => ⟨(Nat.le_trans (zX (qK0)) hk), Kd.fresh' (Kd.N_lt (qK22 HO_7.1)) k_ hk⟩)) : p := h
theorem qK101 {p : Prop} (h : p := by exact (by rw [hg]; exact (zX (qK0)) : w.heap.size ≤ gb381)) : p := h
theorem qK102 {p : Prop} (h : p := by exact done_of HT_.1 (qK25)) : p := h
theorem qK103 {p : Prop} (h : p := by exact Kd.N_afterv (ok := (fun k_ => (w.heap.size ≤ k_))) (qK22 HO_7.1) hg hat) : p := h
theorem qK104 {p : Prop} (h : p := by exact (Nat.le_trans HW0.1 (by rw [hg]; exact (keep_size (w := w) (g := g) (row := none) (qK5)) : w.heap.size ≤ gb288) : w0.heap.size ≤ gb288)) : p := h
theorem qK105 {p : Prop} (h : p := by exact (keep_size (w := w) (g := g) (row := none) (qK14 GW249.1))) : p := h
theorem qK106 {q0 p : Prop} (x0 : q0) (h : q0 → p := by intro hx0_; exact Kd.N_lower hx0_ (zX (qK0))) : p := h x0
theorem qK107 {p : Prop} (h : p := by exact Kd.N_elder' (qK22 HO568.1) (Kd.S_base ho0) hb) : p := h
theorem qK108 {p : Prop} (h : p := by exact Kd.S_elder' (qK32 HO_3.1) (Kd.R_base ho0) hb) : p := h
theorem qK109 {p : Prop} (h : p := by first | exact q494 | exact zb (qK7) | (have e_ := (Kd.S_reads' HO_14.1).1; omega)) : p := h
theorem qK110 {p : Prop} (h : p := by exact (by rw [hg]; exact Nat.ne_of_lt (IsS54.lt (show IsS54 w0 _ g _ _ _ from (qK3))) : g ≠ gb288)) : p := h
theorem qK111 {p : Prop} (h : p := by exact (by rw [hg]; exact Nat.ne_of_gt (IsS54.lt (show IsS54 w0 _ g _ _ _ from (qK3))) : gb288 ≠ g)) : p := h
theorem qK112 {p : Prop} (h : p := by first | exact q670 | exact zb (qK7) | (have e_ := (Kd.N_reads' HO_4.1).1; omega)) : p := h
theorem qK113 {p : Prop} (h : p := by exact (by rw [hg]; exact (keep_size (w := w) (g := g) (row := none) (qK5)) : w.heap.size ≤ gb288)) : p := h
theorem qK114 {p : Prop} (h : p := by rw [hg]; exact (zX (qK0))) : p := h
theorem qK115 {q0 p : Prop} (x0 : q0) (h : q0 → p := by intro hx0_; exact Kd.S_lower hx0_ (zX (qK0))) : p := h x0
theorem qK116 {p : Prop} (h : p := by exact Kd.R_below (Kd.R_elderB (qK1 HO_5.1) gb288 (Nat.le_of_eq hg.symm)) hb) : p := h
abbrev qKb0 : Array Bool := #[false, false, false, false, false, false, false, false, false, false, false]
abbrev qKb1 : Array Bool := #[true, true, true, true, true, true, true, true, true, true, false]
abbrev qKb2 : Array Bool := #[true, true, true, true, true, true, true, true, true, false, false]
abbrev qKb3 : Array Bool := #[true, true, true, true, true, true, true, true, true, true, true]
abbrev qKb4 : Array Bool := #[false, false, false, false, false, false, false, false, false, false, false, false, false]
abbrev qKb5 : Array Bool := #[false, true, false, false, false, false, false, false, false, false, false, false, false]
abbrev qKb6 : Array Bool := #[false, true, true, false, false, false, false, false, false, false, false, false, false]
abbrev qKb7 : Array Bool := #[false, true, true, true, false, false, false, false, false, false, false, false, false]
abbrev qKb8 : Array Bool := #[false, true, true, true, false, true, false, false, false, false, false, false, false]
abbrev qKb9 : Array Bool := #[false, true, true, true, false, true, false, false, true, false, false, false, false]
abbrev qKb10 : Array Bool := #[false, true, true, true, false, true, false, false, true, true, false, false, false]
abbrev qKb11 : Array Bool := #[false, true, true, true, false, true, false, false, true, true, true, false, false]
abbrev qKb12 : Array Bool := #[true, true, true, true, true, true, true, false, true, true, true, false, false]
abbrev qKb13 : Array Bool := #[true, true, true, true, false, true, false, false, true, true, true, false, false]
abbrev qKb14 : Array Bool := #[false, true, true, true, false, true, true, false, true, true, true, false, false]
abbrev qKb15 : Array Bool := #[true, true, true, true, true, true, false, false, true, true, true, false, false]
abbrev qKb16 : Array Bool := #[true, true, true, true, false, true, true, false, true, true, true, false, false]
abbrev qKb17 : Array Bool := #[true, true, true, true, true, true, true, true, true, true, true, false, false]
abbrev qKb18 : Array Bool := #[true, true, true, true, true, true, true, true, true, true, true, true, false]
abbrev qKb19 : Array Bool := #[true, true, true, true, true, true, true, true, true, true, true, true, true]
end Go.Proofs.Ytkocflfadlempaa.MK
