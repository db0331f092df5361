-- Written by a program of this session (wip/tight2.py). -- tight2
import Derived.Test.YtckidmhkhlbkeaaProg
import Derived.Below
import Derived.Deep.Draws
import Derived.Deep.AppendLies
import Derived.Maps.AppendAt
import Derived.OwnWalk
import Derived.Laws.BytesArg
import Derived.Laws.MakeOwn
import Derived.Laws.OwnMore
import Derived.Deep.OwnRows
import Derived.Tactics
import Derived.Lib.ConvBytes
import Derived.Laws.Slices
import Derived.WalkKit
import Derived.KernelRfl
import Derived.RowKit3
import Derived.Deep.LoopGhost
import Derived.Deep.QuietTactic
import Derived.BigQuiet
import Derived.WideLaws
import Derived.Deep.DeepCutAuto
import Derived.Deep.CutBlock
import Derived.Deep.RegionHeld3
import Derived.Laws.Rows
import Derived.Lib.AppendStr
import Derived.ArgAppend
import Derived.Laws.IdiomCopy
import Derived.OrdersHeld
import Derived.Laws.BitsLemmas
import Derived.RowKit
import Derived.Deep.RegionHeld3
import Derived.Laws.CopyOwn
import Derived.StillTailTactics
import Derived.Test.YtckidmhkhlbkeaaWWords
import Derived.Test.YtckidmhkhlbkeaaWLast
import Derived.Test.YtckidmhkhlbkeaaWTab
import Derived.Test.YtckidmhkhlbkeaaWQPut
import Derived.Test.YtckidmhkhlbkeaaWApart
import Derived.Test.YtckidmhkhlbkeaaWArr
import Derived.Test.YtckidmhkhlbkeaaWZeros
import Derived.Test.YtckidmhkhlbkeaaWFoot
import Derived.Test.YtckidmhkhlbkeaaWKept
import Derived.Test.YtckidmhkhlbkeaaWShare
import Derived.Test.YtckidmhkhlbkeaaWN
import Derived.Test.YtckidmhkhlbkeaaWRepsOne
import Derived.Test.YtckidmhkhlbkeaaWNEv
import Derived.Test.YtckidmhkhlbkeaaWMore
namespace Go.Proofs.Ytckidmhkhlbkeaa.MR
open Go.RowKit Go.Proofs.YtckidmhkhlbkeaaW.PrintWords Go.Proofs.YtckidmhkhlbkeaaW.PrintLast Go.Proofs.YtckidmhkhlbkeaaW.PrintMore
abbrev za := @Aside0.mk
abbrev zb := @of_decide_eq_true
abbrev zc := @decide_eq_true
abbrev zd := @World.block_lt_of_cell?
abbrev ze := @blk_frozen
abbrev zf := @blk_alloc
abbrev zg := @blk_drewN
abbrev zh := @blk_drew
abbrev zi := @blk_put
abbrev zj := @blk_far
abbrev zk := @blk_below
abbrev zl := @Option.some.inj
theorem zm {b : Bool} (h : b ≠ true) : b = false := Bool.eq_false_iff.mpr h
abbrev zn := @Nat.le_refl
abbrev zo := @gate_callee
abbrev zp := @gate_dst
abbrev zq := @Below.refl
abbrev zr := @Reps.none
abbrev zs := @decide_eq_false
abbrev zt := @eq_true
theorem zu {α : Type} [BEq α] [LawfulBEq α] {a b : α} (h : a ≠ b) : (a == b) = false := beq_eq_false_iff_ne.mpr h
theorem zv {α : Type} [BEq α] [LawfulBEq α] {a b : α} (h : a = b) : (a != b) = false := bne_eq_false_iff_eq.mpr h
abbrev zw := @box_event
theorem zx {α β : Type} {x : Option α} {f : α → Option β} {b : β} (h : x.bind f = some b) : ∃ a, x = some a ∧ f a = some b := Option.bind_eq_some_iff.mp h
abbrev zy := @Kd.C_below
abbrev zz := @Kd.R_slice
abbrev zA := @Kd.R_mono
abbrev zB := @Kd.R_far
abbrev zC := @Kd.R_append_rows_step
abbrev zD := @Kd.R_drew
abbrev zE := @Kd.R_lower
abbrev zF := @absurd
abbrev zG := @World.drewN_drewN
theorem zH {α : Type} [BEq α] [LawfulBEq α] {a b : α} (h : a = b) : (a == b) = true := beq_iff_eq.mpr h
theorem zI {α : Type} [BEq α] [LawfulBEq α] {a b : α} (h : a ≠ b) : (a != b) = true := bne_iff_ne.mpr h
abbrev zJ := @goesL_
abbrev zK := @below_step
abbrev zL := @below_size
abbrev zM := @Or.inl
abbrev zN := @below_alloc
abbrev zO := @below_set
theorem zP {c : Prop} {h : Decidable c} (hc : c) {α : Type} {t e : α} : ite c t e = t := if_pos hc
theorem zQ {c : Prop} {h : Decidable c} (hc : ¬ c) {α : Type} {t e : α} : ite c t e = e := if_neg hc
theorem zR {α : Type} (a b : α) : (some a = some b) = (a = b) := Option.some.injEq a b
theorem zS {α β : Type} (a : α) (b : β) (c : α) (d : β) : ((a, b) = (c, d)) = (a = c ∧ b = d) := Prod.mk.injEq a b c d
theorem zT {α : Type} (l : List α) (i : Nat) (a : α) : l.toArray.setIfInBounds i a = (l.set i a).toArray := List.setIfInBounds_toArray ..
theorem zU {α : Type} {x : α} {xs : List α} {a : α} : (x :: xs).set 0 a = a :: xs := rfl
theorem zV {α : Type} {x : α} {xs : List α} {n : Nat} {a : α} : (x :: xs).set (n + 1) a = x :: xs.set n a := rfl
theorem qB {w w1 : World} {g : Nat} {o : Obj} (B : w.heap[g]? = some o) (h : w.heap[g]? = some o → w1.heap[g]? = some o := by intro B; (with_reducible repeat (first | refine zg ?_ _ | refine zh ?_ | refine zf ?_ _)); exact B) : w1.heap[g]? = some o := h B
theorem qmono {p : Prop} (h : p := by
  repeat' first
  | (with_reducible first | apply ih0 | apply ih1 | apply ih2 | apply ih3 | apply ih4 | apply ih5 | apply ih6 | apply ih7 | apply ih8 | apply ih9)
  | (with_reducible first | apply m0 | apply m1 | apply m2 | apply m3 | apply m4 | apply m5 | apply m6 | apply m7 | apply m8 | apply m9 | apply m10 | apply m11 | apply m12 | apply m13 | apply m14 | apply m15 | apply m16 | apply m17 | apply m18 | apply m19 | apply m20 | apply m21 | apply m22 | apply m23 | apply m24 | apply m25)
  | (with_reducible exact LeO.refl _)
  | (with_reducible exact LeO.none _)
  | (with_reducible refine LeO.ite ?_ ?_)
  | (with_reducible refine LeO.bind ?_ (fun _ => ?_))
  | first | apply ih0 | apply ih1 | apply ih2 | apply ih3 | apply ih4 | apply ih5 | apply ih6 | apply ih7 | apply ih8 | apply ih9
  | exact LeO.none _
  | refine LeO.ite ?_ ?_
  | refine LeO.bind ?_ (fun _ => ?_)) : p := h
theorem bindA {α β : Type} {x : Option α} {f : α → Option β} {r : β} (h : x.bind f = some r) : ∃ a, Aside0 (x = some a) ∧ f a = some r := by
  obtain ⟨a, h1, h2⟩ := zx h
  exact ⟨a, ⟨h1⟩, h2⟩
theorem qR0 {p : Prop} (h : p := by repeat (first | (with_reducible first | exact HB.1 | apply zN | apply pw_below_drewN | apply below_drew1) | exact HB.1)) : p := h
theorem qR1 {q0 p : Prop} (x0 : q0) (h : q0 → p := by intro hx0_; (with_reducible repeat (first | apply Kd.R_alloc | apply Kd.R_drewN | apply zD)); exact hx0_) : p := h x0
theorem qR2 {q0 p : Prop} (x0 : q0) (h : q0 → p := by intro hx0_; repeat (first | (with_reducible first | exact HB.1 | apply zN | apply pw_below_drewN | apply below_drew1 | refine zO ?_ hx0_) | exact HB.1)) : p := h x0
theorem qR3 {p : Prop} (h : p := by exact any_of HT_.1 (by kernel_rfl)) : p := h
theorem qR4 {p : Prop} (h : p := by (try simp only [List.map_toArray, List.map_cons, List.map_nil]); first | done | rfl | (simp only [List.length_drop, List.length_take]; rfl)) : p := h
theorem qR5 {q0 p : Prop} (x0 : q0) (h : q0 → p := by intro hx0_; first | (rw [hx0_]; with_reducible exact H) | (have H2_ := (Option.bind_some _ _).symm.trans H; rw [hx0_]; with_reducible exact H2_) | (have H2_ := (Option.bind_some _ _).symm.trans H; with_reducible exact H2_) | with_reducible exact H | (rw [hx0_]; exact H) | exact H) : p := h x0
theorem qR6 {p : Prop} (h : p := by first | (with_reducible assumption) | assumption) : p := h
theorem qR7 {q0 p : Prop} (x0 : q0) (h : q0 → p := by intro hx0_; repeat (first | (with_reducible exact hx0_) | (with_reducible refine Kd.C_alloc ?_ _) | (with_reducible refine Kd.C_drewN ?_ _) | (with_reducible refine Kd.C_drew ?_) | exact hx0_)) : p := h x0
theorem qR8 {p : Prop} (h : p := by kernel_rfl) : p := h
theorem qR9 {p : Prop} (h : p := by first | rfl | (simp [errW_none, errW_some] <;> rfl) | (simp [*, errW_none, errW_some] <;> rfl)) : p := h
theorem qR10 {p : Prop} (h : p := by first | rfl | (simp; done) | (simp [*]; done)) : p := h
theorem qR11 {p : Prop} (h : p := by (with_reducible repeat (first | refine zg ?_ _ | refine zh ?_ | refine zf ?_ _)); refine zi (cs := #[.string ((rd_T44 l0 x3_1).f0), .int .i64 ((rd_T44 l0 x3_1).f1), .int .i64 0]) ?_ 2 _ rfl; (with_reducible repeat (first | refine zg ?_ _ | refine zh ?_ | refine zf ?_ _)); refine zi (cs := #[.string ((rd_T44 l0 x3_1).f0), .int .i64 0, .int .i64 0]) ?_ 1 _ rfl; (with_reducible repeat (first | refine zg ?_ _ | refine zh ?_ | refine zf ?_ _)); refine zi (cs := #[.string (⟨#[]⟩ : ByteArray), .int .i64 0, .int .i64 0]) ?_ 0 _ rfl; (with_reducible repeat (first | refine zg ?_ _ | refine zh ?_ | refine zf ?_ _)); exact BK126.1) : p := h
theorem qR12 {p : Prop} (h : p := by (with_reducible repeat (first | refine zg ?_ _ | refine zh ?_ | refine zf ?_ _)); refine zi (cs := #[.string ((rd_T44 l0 x7_1).f0), .int .i64 ((rd_T44 l0 x7_1).f1), .int .i64 0]) ?_ 2 _ rfl; (with_reducible repeat (first | refine zg ?_ _ | refine zh ?_ | refine zf ?_ _)); refine zi (cs := #[.string ((rd_T44 l0 x7_1).f0), .int .i64 0, .int .i64 0]) ?_ 1 _ rfl; (with_reducible repeat (first | refine zg ?_ _ | refine zh ?_ | refine zf ?_ _)); refine zi (cs := #[.string (⟨#[]⟩ : ByteArray), .int .i64 0, .int .i64 0]) ?_ 0 _ rfl; (with_reducible repeat (first | refine zg ?_ _ | refine zh ?_ | refine zf ?_ _)); exact BK226.1) : p := h
theorem qR13 {q0 p : Prop} (x0 : q0) (h : q0 → p := by intro hx0_; repeat (first | exact (Kd.R_reads' hx0_).2.2 | (with_reducible refine Kd.C_alloc ?_ _) | (with_reducible refine Kd.C_drewN ?_ _) | (with_reducible refine Kd.C_drew ?_))) : p := h x0
theorem qR14 {p : Prop} (h : p := by exact (Reps.c3 (show Kd.M k44 _ _ _ (⟨((rdOf ByteArray.empty t163 x6_1).extract (x7_2 : Int).toNat ((wrap64 (x7_2 + 1)) : Int).toNat), x7_2, (wrap64 (-x6_1))⟩ : S44) [.string ((rdOf ByteArray.empty t163 x6_1).extract (x7_2 : Int).toNat ((wrap64 (x7_2 + 1)) : Int).toNat), .int .i64 x7_2, .int .i64 (wrap64 (-x6_1))] from (k44_mkM _ _ _ (⟨((rdOf ByteArray.empty t163 x6_1).extract (x7_2 : Int).toNat ((wrap64 (x7_2 + 1)) : Int).toNat), x7_2, (wrap64 (-x6_1))⟩ : S44) )) (zr _ _))) : p := h
theorem qR15 {p : Prop} (h : p := by repeat (first | (with_reducible first | exact HI0.1 | apply IsS79.alloc | apply IsS79.drewN | apply IsS79.drew | apply IsS79.set_1 | apply IsS79.set_2 | apply IsS79.set_3 | apply IsS79.set_4 | apply IsS79.set_5) | exact HI0.1)) : p := h
theorem qR16 {p : Prop} (h : p := by first | (go_simp; done) | (go_simp; rfl)) : p := h
theorem qR17 {q0 p : Prop} (x0 : q0) (h : q0 → p := by intro hx0_; (with_reducible repeat (first | apply Kd.R_alloc | apply Kd.R_drewN | apply zD)); exact zA hx0_ (fun _ hk => ⟨⟨hk.2.1, hk.2.2⟩, hk.1⟩)) : p := h x0
theorem qR18 {q0 p : Prop} (x0 : q0) (h : q0 → p := by intro hx0_; (with_reducible repeat (first | apply Kd.R_alloc | apply Kd.R_drewN | apply zD)); exact zA hx0_ (fun _ hk => ⟨hk.2, ⟨hk.1.1, hk.1.2⟩⟩)) : p := h x0
theorem qR19 {p : Prop} (h : p := by repeat (first | exact (zy HR0.1 HB.1) | (with_reducible refine Kd.C_alloc ?_ _) | (with_reducible refine Kd.C_drewN ?_ _) | (with_reducible refine Kd.C_drew ?_))) : p := h
theorem qR20 {p : Prop} (h : p := by repeat (first | (with_reducible first | exact HK.1 | apply KeepBut.set_ | apply keep_drewN | apply keep_drew | apply keep_alloc) | exact HK.1)) : p := h
theorem qR21 {q0 q1 p : Prop} (x0 : q0) (x1 : q1) (h : q0 → q1 → p := by intro hx0_ hx1_; repeat (first | (with_reducible first | exact HB.1 | apply zN | apply pw_below_drewN | apply below_drew1 | refine zO ?_ hx0_ | refine zO ?_ hx1_) | exact HB.1)) : p := h x0 x1
theorem qR22 {p : Prop} (h : p := by repeat (first | exact Drawn0.refl _ | apply Drawn0.step)) : p := h
theorem qR23 {p : Prop} (h : p := by (with_reducible repeat (first | apply Kd.R_alloc | apply Kd.R_drewN | apply zD)); exact zA HO_4.1 (fun _ hk => ⟨⟨hk.2, hk.1.1⟩, hk.1.2⟩)) : p := h
theorem qR24 {p : Prop} (h : p := by (with_reducible repeat (first | apply Kd.R_alloc | apply Kd.R_drewN | apply zD)); exact zA HO_4.1 (fun _ hk => ⟨⟨hk.1.2, hk.1.1⟩, hk.2⟩)) : p := h
theorem qR25 {p : Prop} (h : p := by repeat (first | exact HR0.1 | (with_reducible refine Kd.C_alloc ?_ _) | (with_reducible refine Kd.C_drewN ?_ _) | (with_reducible refine Kd.C_drew ?_))) : p := h
theorem qR26 {p : Prop} (h : p := by repeat (first | (with_reducible first | exact HBW.1 | apply zN | apply pw_below_drewN | apply below_drew1 | refine zO ?_ GW231.1) | exact HBW.1)) : p := h
theorem qR27 {p : Prop} (h : p := by repeat (first | (with_reducible first | exact HK.1 | apply Kept.alloc | apply Kept.drewN | apply Kept.drew) | exact HK.1)) : p := h
theorem qR28 {p : Prop} (h : p := by (with_reducible repeat (first | refine zg ?_ _ | refine zh ?_ | refine zf ?_ _)); refine zi (cs := #[.string ((rd_T44 l0 x18_1).f0), .int .i64 ((rd_T44 l0 x18_1).f1), .int .i64 0]) ?_ 2 _ rfl; (with_reducible repeat (first | refine zg ?_ _ | refine zh ?_ | refine zf ?_ _)); refine zi (cs := #[.string ((rd_T44 l0 x18_1).f0), .int .i64 0, .int .i64 0]) ?_ 1 _ rfl; (with_reducible repeat (first | refine zg ?_ _ | refine zh ?_ | refine zf ?_ _)); refine zi (cs := #[.string (⟨#[]⟩ : ByteArray), .int .i64 0, .int .i64 0]) ?_ 0 _ rfl; (with_reducible repeat (first | refine zg ?_ _ | refine zh ?_ | refine zf ?_ _)); exact BK233.1) : p := h
theorem qR29 {p : Prop} (h : p := by (with_reducible repeat (first | refine zg ?_ _ | refine zh ?_ | refine zf ?_ _)); exact BK176.1) : p := h
theorem qR30 {q0 p : Prop} (x0 : q0) (h : q0 → p := by intro hx0_; (with_reducible repeat (first | apply Kd.R_alloc | apply Kd.R_drewN | apply zD)); exact zA hx0_ (fun _ hk => ⟨hk.2.1, ⟨hk.1, hk.2.2⟩⟩)) : p := h x0
theorem qR31 {p : Prop} (h : p := by repeat (first | (with_reducible first | exact HBW.1 | apply zN | apply pw_below_drewN | apply below_drew1 | refine zO ?_ GW231.1 | refine zO ?_ GW233.1) | exact HBW.1)) : p := h
theorem qR32 {q0 p : Prop} (x0 : q0) (h : q0 → p := by intro hx0_; (with_reducible repeat (first | apply Kd.R_alloc | apply Kd.R_drewN | apply zD)); exact zA hx0_ (fun _ hk => trivial)) : p := h x0
theorem qR33 {p : Prop} (h : p := by (with_reducible repeat (first | refine zg ?_ _ | refine zh ?_ | refine zf ?_ _)); refine zj ?_ NB231_233.1 _; (with_reducible repeat (first | refine zg ?_ _ | refine zh ?_ | refine zf ?_ _)); refine zj ?_ NB231_233.1 _; (with_reducible repeat (first | refine zg ?_ _ | refine zh ?_ | refine zf ?_ _)); refine zj ?_ NB231_233.1 _; (with_reducible repeat (first | refine zg ?_ _ | refine zh ?_ | refine zf ?_ _)); exact BK231.1) : p := h
theorem qR34 {p : Prop} (h : p := by (with_reducible repeat (first | apply Kd.R_alloc | apply Kd.R_drewN | apply zD)); exact zA (zB (p := ⟨gb176, 2, none⟩) (zB (p := ⟨gb176, 1, none⟩) (zB (p := ⟨gb176, 0, none⟩) (Kd.R_types HO_5.1 BK176.1 (by decide)) (fun _ hk => hk.2) (.string ((rdOf ByteArray.empty t163 x6_1).extract (x7_2 : Int).toNat ((wrap64 (x7_2 + 1)) : Int).toNat))) (fun _ hk => hk.2) (.int .i64 x7_2)) (fun _ hk => hk.2) (.int .i64 (wrap64 (-x6_1)))) (fun _ hk => trivial)) : p := h
theorem qR35 {p : Prop} (h : p := by simp only [putAll, Act.put, zT, zU, zV]) : p := h
theorem qR36 {p : Prop} (h : p := by (try simp only [List.map_toArray, List.map_cons, List.map_nil]); first | done | (rw [show t258.length = t252.length from (Kd.R_reads' HO_5.1).1.symm] <;> rfl) | rfl | (simp only [List.length_drop, List.length_take]; rfl)) : p := h
theorem qR37 {p : Prop} (h : p := by repeat (first | (with_reducible first | exact HB.1 | apply zN | apply pw_below_drewN | apply below_drew1 | refine zO ?_ (IsS79.ge HI0.1)) | exact HB.1)) : p := h
theorem qR38 {q0 p : Prop} (x0 : q0) (h : q0 → p := by intro hx0_; (with_reducible repeat (first | apply Kd.R_alloc | apply Kd.R_drewN | apply zD)); exact zA hx0_ (fun _ hk => hk.2)) : p := h x0
theorem qR39 {p : Prop} (h : p := by exact (by rw [hg]; exact Nat.ne_of_lt (blk_lt (qB BK101.1)) : gb101 ≠ gb102)) : p := h
theorem qR40 {p : Prop} (h : p := by exact (by rw [hg]; exact Nat.ne_of_gt (blk_lt (qB BK101.1)) : gb102 ≠ gb101)) : p := h
theorem qR41 {q0 p : Prop} (x0 : q0) (h : q0 → p := by intro hx0_; exact (Kd.R_reads' hx0_).2.1) : p := h x0
theorem qR42 {p : Prop} (h : p := by rw [show t258.length = t252.length from (Kd.R_reads' HO_5.1).1.symm]; exact (Kd.R_reads' HO_5.1).2.1) : p := h
theorem qR43 {p : Prop} (h : p := by exact show (x9_3 : Int).toNat ≤ x4_2.length from by omega) : p := h
theorem qR44 {p : Prop} (h : p := by (with_reducible repeat (first | apply Kd.R_alloc | apply Kd.R_drewN | apply zD)); exact zA HO_4.1 (fun _ hk => ⟨hk.1.2, ⟨hk.2, hk.1.1⟩⟩)) : p := h
theorem qR45 {p : Prop} (h : p := by repeat (first | (with_reducible first | exact HBW.1 | apply zN | apply pw_below_drewN | apply below_drew1) | exact HBW.1)) : p := h
theorem qR46 {p : Prop} (h : p := by have h := HT2.1 w1 HS1.1.r; rw [HN.1] at h; exact h) : p := h
theorem qR47 {p : Prop} (h : p := by exact Kd.R_reok rfl hy0 (fun k_ e_ => HO_5.1.1 k_ e_)) : p := h
theorem qR48 {p : Prop} (h : p := by rw [← HN.1]; exact (blk_cell HS2.1.l 0).trans rfl) : p := h
theorem qR49 {p : Prop} (h : p := by rw [← HN.1]; exact (blk_cell HS1.1.l 0).trans rfl) : p := h
theorem qR50 {p : Prop} (h : p := by exact (hb2.block _ (blk_lt HK1.1)).trans HK1.1) : p := h
theorem qR51 {q0 p : Prop} (x0 : q0) (h : q0 → p := by intro hx0_; (with_reducible repeat (first | apply Kd.R_alloc | apply Kd.R_drewN | apply zD)); exact zA hx0_ (fun _ hk => ⟨⟨hk.1.1.2, hk.2⟩, hk.1.2⟩)) : p := h x0
theorem qR52 {q0 p : Prop} (x0 : q0) (h : q0 → p := by intro hx0_; (with_reducible repeat (first | apply Kd.R_alloc | apply Kd.R_drewN | apply zD)); exact zA hx0_ (fun _ hk => ⟨⟨hk.1.1.2, hk.1.2⟩, hk.2⟩)) : p := h x0
theorem qR53 {q0 p : Prop} (x0 : q0) (h : q0 → p := by intro hx0_; (with_reducible repeat (first | apply Kd.R_alloc | apply Kd.R_drewN | apply zD)); exact zA hx0_ (fun _ hk => ⟨hk.1.2, ⟨hk.1.1.2, hk.2⟩⟩)) : p := h x0
theorem qR54 {q0 p : Prop} (x0 : q0) (h : q0 → p := by intro hx0_; (with_reducible repeat (first | apply Kd.R_alloc | apply Kd.R_drewN | apply zD)); exact zA hx0_ (fun _ hk => ⟨hk.1.1.2, ⟨hk.2, hk.1.2⟩⟩)) : p := h x0
theorem qR55 {q0 p : Prop} (x0 : q0) (h : q0 → p := by intro hx0_; (with_reducible repeat (first | apply Kd.R_alloc | apply Kd.R_drewN | apply zD)); exact zA hx0_ (fun _ hk => ⟨hk.1.1.2, ⟨hk.1.2, hk.2⟩⟩)) : p := h x0
theorem qR56 {q0 q1 p : Prop} (x0 : q0) (x1 : q1) (h : q0 → q1 → p := by intro hx0_ hx1_; exact blk_grown (qB hx0_) hg (Kd.R_away hx1_ (fun _ hk => hk.2.2))) : p := h x0 x1
theorem qR57 {q0 q1 p : Prop} (x0 : q0) (x1 : q1) (h : q0 → q1 → p := by intro hx0_ hx1_; exact blk_grown (qB hx0_) hg (Kd.R_away hx1_ (fun _ hk => hk.2))) : p := h x0 x1
theorem qR58 {q0 p : Prop} (x0 : q0) (h : q0 → p := by intro hx0_; (with_reducible repeat (first | apply Kd.R_alloc | apply Kd.R_drewN | apply zD)); exact zA hx0_ (fun _ hk => ⟨hk.1.2, hk.2⟩)) : p := h x0
theorem qR59 {p : Prop} (h : p := by exact (by rw [hg]; exact Nat.ne_of_lt (blk_lt (qB BK231.1)) : gb231 ≠ gb233)) : p := h
theorem qR60 {p : Prop} (h : p := by exact (by rw [hg]; exact Nat.ne_of_gt (blk_lt (qB BK231.1)) : gb233 ≠ gb231)) : p := h
theorem qR61 {p : Prop} (h : p := by exact zK (qR0) hb) : p := h
theorem qR62 {q0 p : Prop} (x0 : q0) (h : q0 → p := by intro hx0_; repeat (first | exact (qR7 hx0_) | (with_reducible refine Kd.C_alloc ?_ _) | (with_reducible refine Kd.C_drewN ?_ _) | (with_reducible refine Kd.C_drew ?_))) : p := h x0
theorem qR63 {p : Prop} (h : p := by exact one_of HT_.1 (qR8)) : p := h
theorem qR64 {q0 p : Prop} (x0 : q0) (h : q0 → p := by intro hx0_; exact Kd.R_below (qR1 hx0_) hb) : p := h x0
theorem qR65 {p : Prop} (h : p := by exact (by rw [hg]; exact (zL (qR0)) : w.heap.size ≤ gb126)) : p := h
theorem qR66 {q0 q1 q2 p : Prop} (x0 : q0) (x1 : q1) (x2 : q2) (h : q0 → q1 → q2 → p := by intro hx0_ hx1_ hx2_; exact (fun k_ hk => ⟨Kd.fresh' (Kd.R_lt (qR1 hx0_)) k_ hk, Kd.fresh' (Kd.R_lt (qR1 hx1_)) k_ hk, Kd.freshB (qB hx2_) k_ hk⟩)) : p := h x0 x1 x2
theorem qR67 {q0 q1 p : Prop} (x0 : q0) (x1 : q1) (h : q0 → q1 → p := by intro hx0_ hx1_; exact Kd.R_elder' (qR1 hx0_) (Kd.R_base hx1_) hb) : p := h x0 x1
theorem qR68 {p : Prop} (h : p := by exact done_of HT_.1 (qR8)) : p := h
theorem qR69 {p : Prop} (h : p := by exact (by rw [hg]; exact (zL (qR0)) : w.heap.size ≤ gb101)) : p := h
theorem qR70 {q0 q1 p : Prop} (x0 : q0) (x1 : q1) (h : q0 → q1 → p := by intro hx0_ hx1_; exact Kd.R_over' (qR1 hx0_) (Kd.R_typed (qR1 hx1_)) (by decide) hg) : p := h x0 x1
theorem qR71 {p : Prop} (h : p := by exact (by rw [hg]; exact (zL (qR0)) : w.heap.size ≤ gb226)) : p := h
theorem qR72 {p : Prop} (h : p := by exact (zL (qR2 GE176.1))) : p := h
theorem qR73 {p : Prop} (h : p := by exact (Nat.le_trans HW0.1 (by rw [hg]; exact (keep_size (w := w) (g := g) (row := none) (qR20)) : w.heap.size ≤ gb236) : w0.heap.size ≤ gb236)) : p := h
theorem qR74 {p : Prop} (h : p := by exact (by rw [hg]; exact Nat.ne_of_lt (IsS79.lt (show IsS79 w0 _ g _ _ _ _ _ _ from (qR15))) : g ≠ gb236)) : p := h
theorem qR75 {p : Prop} (h : p := by exact (by rw [hg]; exact Nat.ne_of_gt (IsS79.lt (show IsS79 w0 _ g _ _ _ _ _ _ from (qR15))) : gb236 ≠ g)) : p := h
theorem qR76 {p : Prop} (h : p := by exact (by rw [hg]; exact (keep_size (w := w) (g := g) (row := none) (qR20)) : w.heap.size ≤ gb236)) : p := h
theorem qR77 {p : Prop} (h : p := by exact (by rw [hg]; exact (zL (qR0)) : w.heap.size ≤ gb176)) : p := h
theorem qR78 {p : Prop} (h : p := by exact Kept.of_grown (S := (fun k_ => P0_ k_)) hg (qR27) (fun k_ e_ => (HO_0.1.1 k_ e_))) : p := h
theorem qR79 {p : Prop} (h : p := by repeat (first | exact (zy HR0.1 (qR0)) | (with_reducible refine Kd.C_alloc ?_ _) | (with_reducible refine Kd.C_drewN ?_ _) | (with_reducible refine Kd.C_drew ?_))) : p := h
theorem qR80 {p : Prop} (h : p := by exact KeepBut.trans (qR20) (KeepBut.of_below hb g none) (.inl rfl)) : p := h
theorem qR81 {q0 p : Prop} (x0 : q0) (h : q0 → p := by intro hx0_; exact zE hx0_ (zL (qR0))) : p := h x0
theorem qR82 {p : Prop} (h : p := by exact (fun k_ hk => ⟨Kd.fresh' (Kd.R_lt (qR1 HO_4.1)) k_ hk, Kd.freshB (qB BK176.1) k_ hk⟩)) : p := h
theorem qR83 {p : Prop} (h : p := by exact Kd.R_below (Kd.R_elderB (qR1 HO_4.1) gb176 (Nat.le_of_eq hg.symm)) hb) : p := h
abbrev qRb0 : Array Bool := #[false, false, false, false, false, false, false, false, false, false]
abbrev qRb1 : Array Bool := #[true, false, false, false, false, false, false, false, false, false]
abbrev qRb2 : Array Bool := #[true, true, false, false, false, false, false, false, false, false]
abbrev qRb3 : Array Bool := #[true, true, true, false, false, false, false, false, false, false]
abbrev qRb4 : Array Bool := #[true, true, true, false, true, false, false, false, false, false]
abbrev qRb5 : Array Bool := #[true, true, true, false, true, true, false, false, false, false]
abbrev qRb6 : Array Bool := #[true, true, true, false, true, true, true, false, false, false]
abbrev qRb7 : Array Bool := #[true, true, true, true, true, true, true, false, false, false]
abbrev qRb8 : Array Bool := #[true, true, true, true, true, true, true, true, false, false]
abbrev qRb9 : Array Bool := #[true, true, true, true, true, true, true, true, true, false]
abbrev qRb10 : Array Bool := #[true, true, true, true, true, true, true, true, true, true]
abbrev qRb11 : Array Bool := #[false, false, false, false, false, false, false, false, false, false, false, false, false, false, false, false, false, false, false, false, false, false, false, false, false, false, false, false, false, false, false]
abbrev qRb12 : Array Bool := #[true, false, false, false, false, false, false, false, false, false, false, false, false, false, false, false, false, false, false, false, false, false, false, false, false, false, false, false, false, false, false]
abbrev qRb13 : Array Bool := #[true, true, false, false, false, false, false, false, false, false, false, false, false, false, false, false, false, false, false, false, false, false, false, false, false, false, false, false, false, false, false]
abbrev qRb14 : Array Bool := #[true, true, true, false, false, false, false, false, false, false, false, false, false, false, false, false, false, false, false, false, false, false, false, false, false, false, false, false, false, false, false]
abbrev qRb15 : Array Bool := #[true, true, true, true, false, false, false, false, false, false, false, false, false, false, false, false, false, false, false, false, false, false, false, false, false, false, false, false, false, false, false]
abbrev qRb16 : Array Bool := #[true, true, true, true, true, false, false, false, false, false, false, false, false, false, false, false, false, false, false, false, false, false, false, false, false, false, false, false, false, false, false]
abbrev qRb17 : Array Bool := #[true, true, true, true, true, true, false, false, false, false, false, false, false, false, false, false, false, false, false, false, false, false, false, false, false, false, false, false, false, false, false]
abbrev qRb18 : Array Bool := #[true, true, true, true, true, true, true, false, false, false, false, false, false, false, false, false, false, false, false, false, false, false, false, false, false, false, false, false, false, false, false]
abbrev qRb19 : Array Bool := #[true, true, true, true, true, true, true, true, false, false, false, false, false, false, false, false, false, false, false, false, false, false, false, false, false, false, false, false, false, false, false]
abbrev qRb20 : Array Bool := #[true, true, true, true, true, true, true, true, true, false, false, false, false, false, false, false, false, false, false, false, false, false, false, false, false, false, false, false, false, false, false]
abbrev qRb21 : Array Bool := #[true, true, true, true, true, true, true, true, true, true, false, false, false, false, false, false, false, false, false, false, false, false, false, false, false, false, false, false, false, false, false]
abbrev qRb22 : Array Bool := #[true, true, true, true, true, true, true, true, true, true, true, false, false, false, false, false, false, false, false, false, false, false, false, false, false, false, false, false, false, false, false]
abbrev qRb23 : Array Bool := #[true, true, true, true, true, true, true, true, true, true, true, true, false, false, false, false, false, false, false, false, false, false, false, false, false, false, false, false, false, false, false]
abbrev qRb24 : Array Bool := #[true, true, true, true, true, true, true, true, true, true, true, true, true, false, false, false, false, false, false, false, false, false, false, false, false, false, false, false, false, false, false]
abbrev qRb25 : Array Bool := #[true, true, true, true, true, true, true, true, true, true, true, true, true, true, false, false, false, false, false, false, false, false, false, false, false, false, false, false, false, false, false]
abbrev qRb26 : Array Bool := #[true, true, true, true, true, true, true, true, true, true, true, true, true, true, true, false, false, false, false, false, false, false, false, false, false, false, false, false, false, false, false]
abbrev qRb27 : Array Bool := #[true, true, true, true, true, true, true, true, true, true, true, true, true, true, true, true, false, false, false, false, false, false, false, false, false, false, false, false, false, false, false]
abbrev qRb28 : Array Bool := #[true, true, true, true, true, true, true, true, true, true, true, true, true, true, true, true, true, false, false, false, false, false, false, false, false, false, false, false, false, false, false]
abbrev qRb29 : Array Bool := #[true, true, true, true, true, true, true, true, true, true, true, true, true, true, true, true, true, true, false, false, false, false, false, false, false, false, false, false, false, false, false]
abbrev qRb30 : Array Bool := #[true, true, true, true, true, true, true, true, true, true, true, true, true, true, true, true, true, true, true, false, false, false, false, false, false, false, false, false, false, false, false]
abbrev qRb31 : Array Bool := #[true, true, true, true, true, true, true, true, true, true, true, true, true, true, true, true, true, true, true, true, false, false, false, false, false, false, false, false, false, false, false]
abbrev qRb32 : Array Bool := #[true, true, true, true, true, true, true, true, true, true, true, true, true, true, true, true, true, true, true, true, true, false, false, false, false, false, false, false, false, false, false]
abbrev qRb33 : Array Bool := #[true, true, true, true, true, true, true, true, true, true, true, true, true, true, true, true, true, true, true, true, true, true, false, false, false, false, false, false, false, false, false]
abbrev qRb34 : Array Bool := #[true, true, true, true, true, true, true, true, true, true, true, true, true, true, true, true, true, true, true, true, true, true, true, false, false, false, false, false, false, false, false]
abbrev qRb35 : Array Bool := #[true, true, true, true, true, true, true, true, true, true, true, true, true, true, true, true, true, true, true, true, true, true, true, true, false, false, false, false, false, false, false]
abbrev qRb36 : Array Bool := #[true, true, true, true, true, true, true, true, true, true, true, true, true, true, true, true, true, true, true, true, true, true, true, true, true, false, false, false, false, false, false]
abbrev qRb37 : Array Bool := #[true, true, true, true, true, true, true, true, true, true, true, true, true, true, true, true, true, true, true, true, true, true, true, true, true, false, true, false, false, false, false]
abbrev qRb38 : Array Bool := #[true, true, true, true, true, true, true, true, true, true, true, true, true, true, true, true, true, true, true, true, true, true, true, true, true, true, true, false, false, false, false]
abbrev qRb39 : Array Bool := #[true, true, true, true, true, true, true, true, true, true, true, true, true, true, true, true, true, true, true, true, true, true, true, true, true, true, true, true, false, false, false]
abbrev qRb40 : Array Bool := #[true, true, true, true, true, true, true, true, true, true, true, true, true, true, true, true, true, true, true, true, true, true, true, true, true, true, true, true, true, false, false]
abbrev qRb41 : Array Bool := #[true, true, true, true, true, true, true, true, true, true, true, true, true, true, true, true, true, true, true, true, true, true, true, true, true, true, true, true, true, true, false]
abbrev qRb42 : Array Bool := #[true, true, true, true, true, true, true, true, true, true, true, true, true, true, true, true, true, true, true, true, true, true, true, true, true, true, true, true, true, true, true]
abbrev qRb43 : Array Bool := #[true, true, true, true, true, true, true, true, true, true, true, true, true, true, true, true, true, true, true, true, true, true, true, true, true, true, false, false, false, false, false]
abbrev qRb44 : Array Bool := #[false, false, false, false, false, false, false, false, false, false, false, false, false, false]
abbrev qRb45 : Array Bool := #[true, false, false, false, false, false, false, false, false, false, false, false, false, false]
abbrev qRb46 : Array Bool := #[true, true, false, false, false, false, false, false, false, false, false, false, false, false]
abbrev qRb47 : Array Bool := #[true, true, true, false, false, false, false, false, false, false, false, false, false, false]
abbrev qRb48 : Array Bool := #[true, true, true, true, false, false, false, false, false, false, false, false, false, false]
abbrev qRb49 : Array Bool := #[true, true, true, true, true, false, false, false, false, false, false, false, false, false]
abbrev qRb50 : Array Bool := #[true, true, true, true, true, true, false, false, false, false, false, false, false, false]
abbrev qRb51 : Array Bool := #[true, true, true, true, true, true, true, false, false, false, false, false, false, false]
abbrev qRb52 : Array Bool := #[true, true, true, true, true, true, true, true, false, false, false, false, false, false]
abbrev qRb53 : Array Bool := #[true, true, true, true, true, true, true, true, true, false, false, false, false, false]
abbrev qRb54 : Array Bool := #[true, true, true, true, true, true, true, true, true, false, true, false, false, false]
abbrev qRb55 : Array Bool := #[true, true, true, true, true, true, true, true, true, true, true, false, false, false]
abbrev qRb56 : Array Bool := #[true, true, true, true, true, true, true, true, true, true, true, true, false, false]
abbrev qRb57 : Array Bool := #[true, true, true, true, true, true, true, true, true, true, true, true, true, false]
abbrev qRb58 : Array Bool := #[true, true, true, true, true, true, true, true, true, true, true, true, true, true]
abbrev qRb59 : Array Bool := #[false, false, false, false, false, false, false, false, false, false, false, false, false]
abbrev qRb60 : Array Bool := #[false, true, false, false, false, false, false, false, false, false, false, false, false]
abbrev qRb61 : Array Bool := #[false, true, true, false, false, false, false, false, false, false, false, false, false]
abbrev qRb62 : Array Bool := #[false, true, true, true, false, false, false, false, false, false, false, false, false]
abbrev qRb63 : Array Bool := #[false, true, true, true, false, false, false, false, true, false, false, false, false]
abbrev qRb64 : Array Bool := #[false, true, true, true, false, false, false, false, true, true, false, false, false]
abbrev qRb65 : Array Bool := #[false, true, true, true, false, false, false, false, true, true, true, false, false]
abbrev qRb66 : Array Bool := #[false, true, true, true, false, true, false, false, true, true, true, false, false]
abbrev qRb67 : Array Bool := #[true, true, true, true, true, true, true, false, true, true, true, false, false]
abbrev qRb68 : Array Bool := #[true, true, true, true, false, true, false, false, true, true, true, false, false]
abbrev qRb69 : Array Bool := #[false, true, true, true, false, true, true, false, true, true, true, false, false]
abbrev qRb70 : Array Bool := #[true, true, true, true, true, true, false, false, true, true, true, false, false]
abbrev qRb71 : Array Bool := #[true, true, true, true, false, true, true, false, true, true, true, false, false]
abbrev qRb72 : Array Bool := #[true, true, true, true, true, true, true, true, true, true, true, false, false]
abbrev qRb73 : Array Bool := #[true, true, true, true, true, true, true, true, true, true, true, true, false]
abbrev qRb74 : Array Bool := #[true, true, true, true, true, true, true, true, true, true, true, true, true]
abbrev qRb75 : Array Bool := #[true, false, true, false, false, false, false, false, false, false]
abbrev qRb76 : Array Bool := #[true, false, true, false, true, false, false, false, false, false]
abbrev qRb77 : Array Bool := #[true, false, true, false, true, false, true, false, false, false]
abbrev qRb78 : Array Bool := #[true, true, true, false, true, false, true, false, false, false]
abbrev qRb79 : Array Bool := #[false, false, false, false, false, false, false, false]
abbrev qRb80 : Array Bool := #[true, false, false, false, false, false, false, false]
abbrev qRb81 : Array Bool := #[true, true, false, false, false, false, false, false]
abbrev qRb82 : Array Bool := #[true, true, true, false, false, false, false, false]
abbrev qRb83 : Array Bool := #[true, true, true, true, false, false, false, false]
abbrev qRb84 : Array Bool := #[true, true, true, true, false, true, false, false]
abbrev qRb85 : Array Bool := #[true, true, true, true, true, true, false, false]
abbrev qRb86 : Array Bool := #[true, true, true, true, true, true, true, false]
abbrev qRb87 : Array Bool := #[true, true, true, true, true, true, true, true]
end Go.Proofs.Ytckidmhkhlbkeaa.MR
