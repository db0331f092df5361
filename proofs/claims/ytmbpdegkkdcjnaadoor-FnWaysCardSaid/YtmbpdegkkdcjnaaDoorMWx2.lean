-- Written by a program of this session (wip/drv.py, wip/tight2.py). -- tight2
import Derived.Test.YtmbpdegkkdcjnaaDoorMWx0
namespace Go.Proofs.YtmbpdegkkdcjnaaDoor.MW
open Go.RowKit Go.Proofs.YtmbpdegkkdcjnaaDoorW.PrintWords Go.Proofs.YtmbpdegkkdcjnaaDoorW.PrintLast Go.Proofs.YtmbpdegkkdcjnaaDoorW.PrintMore
set_option maxHeartbeats 8000000
set_option maxRecDepth 100000
attribute [local go_sem] max2_int min2_int max_two min_two max_three min_three max_four min_four   -- for this text's walks alone
set_option linter.unusedVariables false
set_option linter.unusedSimpArgs false

/-! ### laws_rBig: function 4 -/
def laws_rBig.f (l0 : List Int) : Option (Bool) := some (decide ((l0.length : Int) > 65536))
theorem laws_rBig.calls (A0 : Option Addr) (c0 : Nat) (l0 : List Int) (r : Bool) (w : World) (hr0 : Kd.C (Kd.int .u8) w A0 l0.length l0) (hc0 : l0.length ≤ c0) (h : laws_rBig.f l0 = some r) :
  Calls Tryd.prog 4 #[.slice A0 l0.length c0] w fun e w' => e = .returned (.bool r) ∧ Drawn0 w w' := by
 have HR0 := Aside0.mk hr0; have HC0 := Aside0.mk hc0; clear hr0 hc0
 have H : (some (decide ((l0.length : Int) > 65536))) = some r := h
 clear h; obtain rfl := Option.some.inj H
 go_enter Tryd.func4, Tryd.ntmps4
 go_wp2
 go_ret
 exact ⟨(qW14), (qW32)⟩

/-- A state of type 54 at block g of W; what its slices lead to came in by w0. -/
def IsS54 (w0 W : World) (g : Nat) (f0 : List Int) (f1 : Int) (f2 : Int) : Prop := ∃ A0 c0, W.heap[g]? = some (.cells #[.slice A0 f0.length c0, .int .i64 f1, .int .u64 f2] 54 (0, 0)) ∧ w0.heap.size ≤ g ∧ Kd.C (Kd.int .u8) w0 A0 f0.length f0
theorem IsS54.grown {w0 W : World} {g : Nat} {f0 : List Int} {f1 : Int} {f2 : Int} {W1 : World} {row : Option Nat} (h : IsS54 w0 W g f0 f1 f2) (hw : W.grownBy W1 row) (hne : some g ≠ row) : IsS54 w0 W1 g f0 f1 f2 := by
 obtain ⟨A0, c0, hb, hg, hr0⟩ := h
 exact ⟨A0, c0, blk_grown hb hw hne, hg, hr0⟩
theorem IsS54.own_neN {w0 W : World} {g : Nat} {f0 : List Int} {f1 : Int} {f2 : Int} {α : Type} {d : Kd α} {e : Nat} {base : Nat} {ok : Nat → Prop} {v : Value} {xs : List α} (h : IsS54 w0 W g f0 f1 f2) (ho : Kd.N d e W base ok v xs) (ht : e ≠ 54) : some g ≠ v.ownBlock := by
 obtain ⟨A0, c0, hb, hg, hr0⟩ := h
 exact Kd.N_ne ho hb ht
theorem IsS54.fresh {w0 W : World} {g : Nat} {f0 : List Int} {f1 : Int} {f2 : Int} (h : IsS54 w0 W g f0 f1 f2) : ∀ k, W.heap.size ≤ k → k ≠ g := by
 obtain ⟨A0, c0, hb, hg, hr0⟩ := h
 exact Kd.freshB hb
theorem IsS54.kept {w0 W : World} {g : Nat} {f0 : List Int} {f1 : Int} {f2 : Int} {W1 : World} {S : Nat → Prop} (h : IsS54 w0 W g f0 f1 f2) (hk : Kept W W1 S) (hne : ¬ S g) : IsS54 w0 W1 g f0 f1 f2 := by
 obtain ⟨A0, c0, hb, hg, hr0⟩ := h
 exact ⟨A0, c0, blk_kept hb hk hne, hg, hr0⟩
theorem IsS54.below {w0 W : World} {g : Nat} {f0 : List Int} {f1 : Int} {f2 : Int} {W1 : World} (h : IsS54 w0 W g f0 f1 f2) (hw : Below W.heap.size W W1) : IsS54 w0 W1 g f0 f1 f2 := h.grown (grown_of_below hw none) (by simp)
theorem IsS54.alloc {w0 W : World} {g : Nat} {f0 : List Int} {f1 : Int} {f2 : Int} (h : IsS54 w0 W g f0 f1 f2) (o : Obj) : IsS54 w0 (W.alloc o) g f0 f1 f2 := h.below (below_alloc (Below.refl _ _) o)
theorem IsS54.drewN {w0 W : World} {g : Nat} {f0 : List Int} {f1 : Int} {f2 : Int} (h : IsS54 w0 W g f0 f1 f2) (m : Nat) : IsS54 w0 (W.drewN m) g f0 f1 f2 := h
theorem IsS54.drew {w0 W : World} {g : Nat} {f0 : List Int} {f1 : Int} {f2 : Int} (h : IsS54 w0 W g f0 f1 f2) : IsS54 w0 W.drew g f0 f1 f2 := h
theorem IsS54.at_ {w0 W : World} {g : Nat} {f0 : List Int} {f1 : Int} {f2 : Int} {w' : World} {m : Nat} (hq : W.drewN m = w') (h : IsS54 w0 W g f0 f1 f2) : IsS54 w0 w' g f0 f1 f2 := by subst hq; exact IsS54.drewN h m
theorem IsS54.apart {w0 W : World} {g : Nat} {f0 : List Int} {f1 : Int} {f2 : Int} {α : Type} {d : Kd α} {e : Nat} {base : Nat} {ok : Nat → Prop} {v : Value} {xs : List α} (h : IsS54 w0 W g f0 f1 f2) (ho : d.R e W base ok v xs) (ht : ∀ q, q ∈ e :: d.E → q ≠ 54) : d.R e W base (fun k => ok k ∧ k ≠ g) v xs := by
 obtain ⟨A0, c0, hb, hg, hr0⟩ := h
 exact Kd.R_types ho hb ht
theorem IsS54.own_ne {w0 W : World} {g : Nat} {f0 : List Int} {f1 : Int} {f2 : Int} {α : Type} {d : Kd α} {e : Nat} {base : Nat} {ok : Nat → Prop} {v : Value} {xs : List α} (h : IsS54 w0 W g f0 f1 f2) (ho : d.R e W base ok v xs) (ht : e ≠ 54) : some g ≠ v.ownBlock := by
 obtain ⟨A0, c0, hb, hg, hr0⟩ := h
 exact Kd.R_ne ho hb ht
theorem IsS54.apartQ {w0 W : World} {g : Nat} {f0 : List Int} {f1 : Int} {f2 : Int} {α : Type} {d : Kd α} {e : Nat} {base : Nat} {ok : Nat → Prop} {v : Value} {xs : List α} (h : IsS54 w0 W g f0 f1 f2) (ho : d.Q e W base ok v xs) (ht : ∀ q, q ∈ e :: d.E → q ≠ 54) : d.Q e W base (fun k => ok k ∧ k ≠ g) v xs := by
 obtain ⟨A0, c0, hb, hg, hr0⟩ := h
 exact Kd.Q_types ho hb ht
theorem IsS54.own_neQ {w0 W : World} {g : Nat} {f0 : List Int} {f1 : Int} {f2 : Int} {α : Type} {d : Kd α} {e : Nat} {base : Nat} {ok : Nat → Prop} {v : Value} {xs : List α} (h : IsS54 w0 W g f0 f1 f2) (ho : d.Q e W base ok v xs) (ht : e ≠ 54) : some g ≠ v.ownBlock := by
 obtain ⟨A0, c0, hb, hg, hr0⟩ := h
 exact Kd.Q_ne ho hb ht
theorem IsS54.apartS {w0 W : World} {g : Nat} {f0 : List Int} {f1 : Int} {f2 : Int} {α : Type} {d : Kd α} {e : Nat} {base : Nat} {ok : Nat → Prop} {v : Value} {xs : List α} (h : IsS54 w0 W g f0 f1 f2) (ho : d.S e W base ok v xs) (ht : ∀ q, q ∈ e :: d.E → q ≠ 54) : d.S e W base (fun k => ok k ∧ k ≠ g) v xs := by
 obtain ⟨A0, c0, hb, hg, hr0⟩ := h
 exact Kd.S_types ho hb ht
theorem IsS54.own_neS {w0 W : World} {g : Nat} {f0 : List Int} {f1 : Int} {f2 : Int} {α : Type} {d : Kd α} {e : Nat} {base : Nat} {ok : Nat → Prop} {v : Value} {xs : List α} (h : IsS54 w0 W g f0 f1 f2) (ho : d.S e W base ok v xs) (ht : e ≠ 54) : some g ≠ v.ownBlock := by
 obtain ⟨A0, c0, hb, hg, hr0⟩ := h
 exact Kd.S_ne ho hb ht
theorem IsS54.lt {w0 W : World} {g : Nat} {f0 : List Int} {f1 : Int} {f2 : Int} (h : IsS54 w0 W g f0 f1 f2) : g < W.heap.size := by
 obtain ⟨A0, c0, hb, hg, hr0⟩ := h
 exact blk_lt hb
theorem IsS54.ge {w0 W : World} {g : Nat} {f0 : List Int} {f1 : Int} {f2 : Int} (h : IsS54 w0 W g f0 f1 f2) : w0.heap.size ≤ g := by
 obtain ⟨A0, c0, hb, hg, hr0⟩ := h
 exact hg
theorem IsS54.ne_blk {w0 W : World} {g : Nat} {f0 : List Int} {f1 : Int} {f2 : Int} {a : Nat} {cs : Array Value} {t : TypeId} {fr : Nat × Nat} (h : IsS54 w0 W g f0 f1 f2) (hb2 : W.heap[a]? = some (.cells cs t fr)) (ht : t ≠ 54) : g ≠ a := by
 obtain ⟨A0, c0, hb, hg, hr0⟩ := h
 rintro rfl
 rw [hb] at hb2
 injection hb2 with hb2
 injection hb2 with _ ht2
 exact ht ht2.symm
theorem IsS54.far {w0 W : World} {g : Nat} {f0 : List Int} {f1 : Int} {f2 : Int} {p : Addr} (h : IsS54 w0 W g f0 f1 f2) (hne : g ≠ p.block) (u : Value) : IsS54 w0 (W.setCell p u) g f0 f1 f2 := by
 obtain ⟨A0, c0, hb, hg, hr0⟩ := h
 exact ⟨A0, c0, blk_far hb hne u, hg, hr0⟩
theorem cellS54_0 {W : World} {g : Nat} {A0 : Option Addr} {c0 : Nat} {f0 : List Int} {f1 : Int} {f2 : Int} (h : W.heap[g]? = some (.cells #[.slice A0 f0.length c0, .int .i64 f1, .int .u64 f2] 54 (0, 0))) : W.cell? ⟨g, 0, none⟩ = some (.slice A0 f0.length c0) := (blk_cell h 0).trans rfl
theorem cellS54_1 {W : World} {g : Nat} {A0 : Option Addr} {c0 : Nat} {f0 : List Int} {f1 : Int} {f2 : Int} (h : W.heap[g]? = some (.cells #[.slice A0 f0.length c0, .int .i64 f1, .int .u64 f2] 54 (0, 0))) : W.cell? ⟨g, 1, none⟩ = some (.int .i64 f1) := (blk_cell h 1).trans rfl
theorem IsS54.set_1 {w0 W : World} {g : Nat} {f0 : List Int} {f1 : Int} {f2 : Int} (h : IsS54 w0 W g f0 f1 f2) (x : Int) : IsS54 w0 (W.setCell ⟨g, 1, none⟩ (.int .i64 x)) g f0 x f2 := by
 obtain ⟨A0, c0, hb, hg, hr0⟩ := h
 exact ⟨A0, c0, by simpa using blk_set hb 1 (.int .i64 x), hg, hr0⟩
theorem cellS54_2 {W : World} {g : Nat} {A0 : Option Addr} {c0 : Nat} {f0 : List Int} {f1 : Int} {f2 : Int} (h : W.heap[g]? = some (.cells #[.slice A0 f0.length c0, .int .i64 f1, .int .u64 f2] 54 (0, 0))) : W.cell? ⟨g, 2, none⟩ = some (.int .u64 f2) := (blk_cell h 2).trans rfl
theorem IsS54.set_2 {w0 W : World} {g : Nat} {f0 : List Int} {f1 : Int} {f2 : Int} (h : IsS54 w0 W g f0 f1 f2) (x : Int) : IsS54 w0 (W.setCell ⟨g, 2, none⟩ (.int .u64 x)) g f0 f1 x := by
 obtain ⟨A0, c0, hb, hg, hr0⟩ := h
 exact ⟨A0, c0, by simpa using blk_set hb 2 (.int .u64 x), hg, hr0⟩
theorem IsS54.new (w0 W : World) (A0 : Option Addr) (c0 : Nat) (f0 : List Int) (f1 : Int) (f2 : Int) (hB : Below w0.heap.size w0 W) (hr0 : Kd.C (Kd.int .u8) w0 A0 f0.length f0) : IsS54 w0 (W.alloc (.cells #[.slice A0 f0.length c0, .int .i64 f1, .int .u64 f2] 54)) W.heap.size f0 f1 f2 := ⟨A0, c0, by simpa using heap_alloc_new W _, hB.size, hr0⟩

/-! ### spec_l1Cur_next: function 44 -/
def spec_l1Cur_next.f (s0_0 : List Int) (s0_1 : Int) (s0_2 : Int) : Option (Int × Int × Int) := if s0_1 < (s0_0.length : Int) then (if 0 ≤ s0_1 then (if (wrap64 (s0_1 + 1)) ≤ (s0_0.length : Int) then (some (wrap64 (rd s0_0 s0_1), wrap64 (s0_1 + 1), IntKind.u64.wrap ((IntKind.u64.wrap ((IntKind.u64.wrap (s0_2 * 6364136223846793005)) + (IntKind.u64.wrap (wrap64 (rd s0_0 s0_1))))) + 933933))) else (some (wrap64 (Go.bits .and .u64 ((IntKind.u64.wrap ((IntKind.u64.wrap ((IntKind.u64.wrap (s0_2 * 6364136223846793005)) + (IntKind.u64.wrap (wrap64 (rd s0_0 s0_1))))) + 933933)) / 1099511627776) 255), wrap64 (s0_1 + 1), IntKind.u64.wrap ((IntKind.u64.wrap ((IntKind.u64.wrap (s0_2 * 6364136223846793005)) + (IntKind.u64.wrap (wrap64 (rd s0_0 s0_1))))) + 933933)))) else (none)) else (if (wrap64 (s0_1 + 1)) ≤ (s0_0.length : Int) then (some (0, wrap64 (s0_1 + 1), IntKind.u64.wrap ((IntKind.u64.wrap (IntKind.u64.wrap (s0_2 * 6364136223846793005))) + 933933))) else (some (wrap64 (Go.bits .and .u64 ((IntKind.u64.wrap ((IntKind.u64.wrap (IntKind.u64.wrap (s0_2 * 6364136223846793005))) + 933933)) / 1099511627776) 255), wrap64 (s0_1 + 1), IntKind.u64.wrap ((IntKind.u64.wrap (IntKind.u64.wrap (s0_2 * 6364136223846793005))) + 933933))))
theorem spec_l1Cur_next.calls (g : Nat) (s0_0 : List Int) (s0_1 : Int) (s0_2 : Int) (r1 : Int) (r2 : Int) (r3 : Int) (w0 w : World) (hI : IsS54 w0 w g s0_0 s0_1 s0_2) (hB : Below w0.heap.size w0 w) (h : spec_l1Cur_next.f s0_0 s0_1 s0_2 = some (r1, r2, r3)) :
  Calls Tryd.prog 44 #[.pointer (some ⟨g, 0, none⟩)] w fun e w' => e = .returned (.int .i64 r1) ∧ IsS54 w0 w' g s0_0 r2 r3 ∧ Below w0.heap.size w0 w' ∧ KeepBut w w' g none := by
 have HI0 := Aside0.mk hI
 have HK := Aside0.mk (KeepBut.refl w g none)
 have HL := Aside0.mk hB.size
 clear hI
 have HW0 := Aside0.mk hB.size
 have HB := Aside0.mk hB; clear hB
 have H : (if s0_1 < (s0_0.length : Int) then (if 0 ≤ s0_1 then (if (wrap64 (s0_1 + 1)) ≤ (s0_0.length : Int) then (some (wrap64 (rd s0_0 s0_1), wrap64 (s0_1 + 1), IntKind.u64.wrap ((IntKind.u64.wrap ((IntKind.u64.wrap (s0_2 * 6364136223846793005)) + (IntKind.u64.wrap (wrap64 (rd s0_0 s0_1))))) + 933933))) else (some (wrap64 (Go.bits .and .u64 ((IntKind.u64.wrap ((IntKind.u64.wrap ((IntKind.u64.wrap (s0_2 * 6364136223846793005)) + (IntKind.u64.wrap (wrap64 (rd s0_0 s0_1))))) + 933933)) / 1099511627776) 255), wrap64 (s0_1 + 1), IntKind.u64.wrap ((IntKind.u64.wrap ((IntKind.u64.wrap (s0_2 * 6364136223846793005)) + (IntKind.u64.wrap (wrap64 (rd s0_0 s0_1))))) + 933933)))) else (none)) else (if (wrap64 (s0_1 + 1)) ≤ (s0_0.length : Int) then (some (0, wrap64 (s0_1 + 1), IntKind.u64.wrap ((IntKind.u64.wrap (IntKind.u64.wrap (s0_2 * 6364136223846793005))) + 933933))) else (some (wrap64 (Go.bits .and .u64 ((IntKind.u64.wrap ((IntKind.u64.wrap (IntKind.u64.wrap (s0_2 * 6364136223846793005))) + 933933)) / 1099511627776) 255), wrap64 (s0_1 + 1), IntKind.u64.wrap ((IntKind.u64.wrap (IntKind.u64.wrap (s0_2 * 6364136223846793005))) + 933933))))) = some (r1, r2, r3) := h
 clear h
 by_cases c2 : s0_1 < (s0_0.length : Int)
 ·rw [if_pos c2] at H
  have c2b0 : decide (s0_1 < (s0_0.length : Int)) = true := decide_eq_true c2
  clear c2
  by_cases c3 : 0 ≤ s0_1
  ·rw [if_pos c3] at H
   have c3b0 : decide (0 ≤ s0_1) = true := decide_eq_true c3
   clear c3
   by_cases c4 : (wrap64 (s0_1 + 1)) ≤ (s0_0.length : Int)
   ·rw [if_pos c4] at H
    have c4b0 : decide ((wrap64 (s0_1 + 1)) ≤ (s0_0.length : Int)) = true := decide_eq_true c4
    clear c4
    simp only [Option.some.injEq, Prod.mk.injEq] at H
    obtain ⟨rfl, rfl, rfl⟩ := H
    obtain ⟨ASz5_0, cSz5_0, HGz5, hgz5, HSz5_0⟩ := HI0.out
    have hcz5_0 := cellS54_0 HGz5
    have hcz5_1 := cellS54_1 HGz5
    have hcz5_2 := cellS54_2 HGz5
    have hfz5_1 := blk_frozen HGz5 1
    have hfz5_2 := blk_frozen HGz5 2
    clear HGz5 hgz5
    have p101 : 0 ≤ (s0_1 : Int) := of_decide_eq_true (qW13)
    have q101 : s0_1 < (s0_0.length : Int) := of_decide_eq_true (qW13)
    obtain ⟨ad101, e101, hx101_0⟩ := Kd.at_int HSz5_0 s0_1 p101 q101
    cases e101
    replace hx101_0 := pw_cell_below HB.out hx101_0
    replace p101 := eq_true p101
    replace q101 := eq_true q101
    go_enter Tryd.func44, Tryd.ntmps44
    go_wp2
    repeat (go_quiet (fail); try go_wp2)
    go_ret
    exact ⟨(qW9), (qW3), (qW8), (qW4)⟩
   ·rw [if_neg c4] at H
    have c4b0 : decide ((wrap64 (s0_1 + 1)) ≤ (s0_0.length : Int)) = false := decide_eq_false c4
    clear c4
    simp only [Option.some.injEq, Prod.mk.injEq] at H
    obtain ⟨rfl, rfl, rfl⟩ := H
    obtain ⟨ASz6_0, cSz6_0, HGz6, hgz6, HSz6_0⟩ := HI0.out
    have hcz6_0 := cellS54_0 HGz6
    have hcz6_1 := cellS54_1 HGz6
    have hcz6_2 := cellS54_2 HGz6
    have hfz6_1 := blk_frozen HGz6 1
    have hfz6_2 := blk_frozen HGz6 2
    clear HGz6 hgz6
    have p101 : 0 ≤ (s0_1 : Int) := of_decide_eq_true (qW13)
    have q101 : s0_1 < (s0_0.length : Int) := of_decide_eq_true (qW13)
    obtain ⟨ad101, e101, hx101_0⟩ := Kd.at_int HSz6_0 s0_1 p101 q101
    cases e101
    replace hx101_0 := pw_cell_below HB.out hx101_0
    replace p101 := eq_true p101
    replace q101 := eq_true q101
    go_enter Tryd.func44, Tryd.ntmps44
    go_wp2
    repeat (go_quiet (fail); try go_wp2)
    go_ret
    exact ⟨(qW9), (qW3), (qW8), (qW4)⟩
  ·rw [if_neg c3] at H
   exact absurd H (by simp)
 ·rw [if_neg c2] at H
  have c2b0 : decide (s0_1 < (s0_0.length : Int)) = false := decide_eq_false c2
  clear c2
  by_cases c7 : (wrap64 (s0_1 + 1)) ≤ (s0_0.length : Int)
  ·rw [if_pos c7] at H
   have c7b0 : decide ((wrap64 (s0_1 + 1)) ≤ (s0_0.length : Int)) = true := decide_eq_true c7
   clear c7
   simp only [Option.some.injEq, Prod.mk.injEq] at H
   obtain ⟨rfl, rfl, rfl⟩ := H
   obtain ⟨ASz8_0, cSz8_0, HGz8, hgz8, HSz8_0⟩ := HI0.out
   have hcz8_0 := cellS54_0 HGz8
   have hcz8_1 := cellS54_1 HGz8
   have hcz8_2 := cellS54_2 HGz8
   have hfz8_1 := blk_frozen HGz8 1
   have hfz8_2 := blk_frozen HGz8 2
   clear HGz8 hgz8
   go_enter Tryd.func44, Tryd.ntmps44
   go_wp2
   repeat (go_quiet (fail); try go_wp2)
   go_ret
   exact ⟨(qW9), (qW3), (qW8), (qW4)⟩
  ·rw [if_neg c7] at H
   have c7b0 : decide ((wrap64 (s0_1 + 1)) ≤ (s0_0.length : Int)) = false := decide_eq_false c7
   clear c7
   simp only [Option.some.injEq, Prod.mk.injEq] at H
   obtain ⟨rfl, rfl, rfl⟩ := H
   obtain ⟨ASz9_0, cSz9_0, HGz9, hgz9, HSz9_0⟩ := HI0.out
   have hcz9_0 := cellS54_0 HGz9
   have hcz9_1 := cellS54_1 HGz9
   have hcz9_2 := cellS54_2 HGz9
   have hfz9_1 := blk_frozen HGz9 1
   have hfz9_2 := blk_frozen HGz9 2
   clear HGz9 hgz9
   go_enter Tryd.func44, Tryd.ntmps44
   go_wp2
   repeat (go_quiet (fail); try go_wp2)
   go_ret
   exact ⟨(qW9), (qW3), (qW8), (qW4)⟩

/-! ### spec_l1Cur_pick: function 31 -/
def spec_l1Cur_pick.f (s0_0 : List Int) (s0_1 : Int) (s0_2 : Int) (a1 : Int) : Option (Int × Int × Int) := if a1 ≤ 1 then (some (0, s0_1, s0_2)) else ((spec_l1Cur_next.f s0_0 s0_1 s0_2).bind fun bt102 => (if a1 > 200 then ((spec_l1Cur_next.f s0_0 bt102.2.1 bt102.2.2).bind fun bt105 => (if a1 = 0 then (none) else (some (Int.tmod (wrap64 ((wrap64 (bt102.1 * 256)) + bt105.1)) a1, bt105.2.1, bt105.2.2)))) else (if a1 = 0 then (none) else (some (Int.tmod bt102.1 a1, bt102.2.1, bt102.2.2)))))
theorem spec_l1Cur_pick.calls (g : Nat) (s0_0 : List Int) (s0_1 : Int) (s0_2 : Int) (a1 : Int) (r1 : Int) (r2 : Int) (r3 : Int) (w0 w : World) (hI : IsS54 w0 w g s0_0 s0_1 s0_2) (hB : Below w0.heap.size w0 w) (h : spec_l1Cur_pick.f s0_0 s0_1 s0_2 a1 = some (r1, r2, r3)) :
  Calls Tryd.prog 31 #[.pointer (some ⟨g, 0, none⟩), .int .i64 a1] w fun e w' => e = .returned (.int .i64 r1) ∧ IsS54 w0 w' g s0_0 r2 r3 ∧ Below w0.heap.size w0 w' ∧ KeepBut w w' g none := by
 have HI0 := Aside0.mk hI
 have HK := Aside0.mk (KeepBut.refl w g none)
 have HL := Aside0.mk hB.size
 clear hI
 have HW0 := Aside0.mk hB.size
 have HB := Aside0.mk hB; clear hB
 have H : (if a1 ≤ 1 then (some (0, s0_1, s0_2)) else ((spec_l1Cur_next.f s0_0 s0_1 s0_2).bind fun bt102 => (if a1 > 200 then ((spec_l1Cur_next.f s0_0 bt102.2.1 bt102.2.2).bind fun bt105 => (if a1 = 0 then (none) else (some (Int.tmod (wrap64 ((wrap64 (bt102.1 * 256)) + bt105.1)) a1, bt105.2.1, bt105.2.2)))) else (if a1 = 0 then (none) else (some (Int.tmod bt102.1 a1, bt102.2.1, bt102.2.2)))))) = some (r1, r2, r3) := h
 clear h
 by_cases c3 : a1 ≤ 1
 ·rw [if_pos c3] at H
  have c3b0 : decide (a1 ≤ 1) = true := decide_eq_true c3
  clear c3
  simp only [Option.some.injEq, Prod.mk.injEq] at H
  obtain ⟨rfl, rfl, rfl⟩ := H
  go_enter Tryd.func31, Tryd.ntmps31
  go_wp2
  go_ret
  exact ⟨(qW9), (qW3), (qW8), (qW4)⟩
 ·rw [if_neg c3] at H
  have c3b0 : decide (a1 ≤ 1) = false := decide_eq_false c3
  clear c3; replace H := Option.bind_eq_some_iff.mp H; obtain ⟨⟨t102, t103, t104⟩, A40, H⟩ := H
  try dsimp only at H
  have A4 := Aside0.mk A40; clear A40
  by_cases c5 : a1 > 200
  ·rw [if_pos c5] at H
   have c5b0 : decide (200 < a1) = true := decide_eq_true c5
   clear c5; replace H := Option.bind_eq_some_iff.mp H; obtain ⟨⟨t105, t106, t107⟩, A60, H⟩ := H
   try dsimp only at H
   have A6 := Aside0.mk A60; clear A60
   by_cases c7 : a1 = 0
   ·rw [if_pos c7] at H
    exact absurd H (by simp)
   ·rw [if_neg c7] at H
    have c7b0 : (a1 == 0) = false := beq_eq_false_iff_ne.mpr c7
    have c7b1 : (a1 != 0) = true := bne_iff_ne.mpr c7
    simp only [Option.some.injEq, Prod.mk.injEq] at H
    obtain ⟨rfl, rfl, rfl⟩ := H
    go_enter Tryd.func31, Tryd.ntmps31
    go_wp2_with (first | ((with_reducible refine gate_callee (f := 44) rfl ?_); refine goesL_ (some 9) rfl rfl Tryd.func44 (by kernel_rfl) rfl #[.pointer (some ⟨g, 0, none⟩)] rfl (qW1) ?_; (with_reducible refine (spec_l1Cur_next.calls g s0_0 s0_1 s0_2 t102 t103 t104 w0 _ ?side1 ?side2 A4.out).mono ?_); (case side1 => exact (qW3)); (case side2 => exact (qW8)); rintro e w8 ⟨rfl, hi, hb, hk⟩; refine ⟨_, rfl, ?_⟩; replace HK := Aside0.mk (KeepBut.trans (qW4) hk (.inl rfl)); replace HB := Aside0.mk (hb); replace HI0 := Aside0.mk (hi); clear hb hk hi) | ((with_reducible refine gate_callee (f := 44) rfl ?_); refine goesL_ (some 15) rfl rfl Tryd.func44 (by kernel_rfl) rfl #[.pointer (some ⟨g, 0, none⟩)] rfl (qW1) ?_; (with_reducible refine (spec_l1Cur_next.calls g s0_0 t103 t104 t105 t106 t107 w0 _ ?side1 ?side2 A6.out).mono ?_); (case side1 => exact (qW3)); (case side2 => exact (qW8)); rintro e w9 ⟨rfl, hi, hb, hk⟩; refine ⟨_, rfl, ?_⟩; replace HK := Aside0.mk (KeepBut.trans (qW4) hk (.inl rfl)); replace HB := Aside0.mk (hb); replace HI0 := Aside0.mk (hi); clear hb hk hi))
    go_ret
    exact ⟨(qW9), (qW3), (qW8), (qW4)⟩
  ·rw [if_neg c5] at H
   have c5b0 : decide (200 < a1) = false := decide_eq_false c5
   clear c5
   by_cases c10 : a1 = 0
   ·rw [if_pos c10] at H
    exact absurd H (by simp)
   ·rw [if_neg c10] at H
    have c10b0 : (a1 == 0) = false := beq_eq_false_iff_ne.mpr c10
    have c10b1 : (a1 != 0) = true := bne_iff_ne.mpr c10
    simp only [Option.some.injEq, Prod.mk.injEq] at H
    obtain ⟨rfl, rfl, rfl⟩ := H
    go_enter Tryd.func31, Tryd.ntmps31
    go_wp2_with (first | ((with_reducible refine gate_callee (f := 44) rfl ?_); refine goesL_ (some 9) rfl rfl Tryd.func44 (by kernel_rfl) rfl #[.pointer (some ⟨g, 0, none⟩)] rfl (qW1) ?_; (with_reducible refine (spec_l1Cur_next.calls g s0_0 s0_1 s0_2 t102 t103 t104 w0 _ ?side1 ?side2 A4.out).mono ?_); (case side1 => exact (qW3)); (case side2 => exact (qW8)); rintro e w11 ⟨rfl, hi, hb, hk⟩; refine ⟨_, rfl, ?_⟩; replace HK := Aside0.mk (KeepBut.trans (qW4) hk (.inl rfl)); replace HB := Aside0.mk (hb); replace HI0 := Aside0.mk (hi); clear hb hk hi))
    go_ret
    exact ⟨(qW9), (qW3), (qW8), (qW4)⟩

/-! ### spec_l1Cur_one: function 33 -/
def spec_l1Cur_one.f (s0_0 : List Int) (s0_1 : Int) (s0_2 : Int) (a1 : Int) : Option (Bool × Int × Int) := (spec_l1Cur_pick.f s0_0 s0_1 s0_2 a1).bind fun bt108 => (some ((bt108.1 == 0), bt108.2.1, bt108.2.2))
theorem spec_l1Cur_one.calls (g : Nat) (s0_0 : List Int) (s0_1 : Int) (s0_2 : Int) (a1 : Int) (r1 : Bool) (r2 : Int) (r3 : Int) (w0 w : World) (hI : IsS54 w0 w g s0_0 s0_1 s0_2) (hB : Below w0.heap.size w0 w) (h : spec_l1Cur_one.f s0_0 s0_1 s0_2 a1 = some (r1, r2, r3)) :
  Calls Tryd.prog 33 #[.pointer (some ⟨g, 0, none⟩), .int .i64 a1] w fun e w' => e = .returned (.bool r1) ∧ IsS54 w0 w' g s0_0 r2 r3 ∧ Below w0.heap.size w0 w' ∧ KeepBut w w' g none := by
 have HI0 := Aside0.mk hI
 have HK := Aside0.mk (KeepBut.refl w g none)
 have HL := Aside0.mk hB.size
 clear hI
 have HW0 := Aside0.mk hB.size
 have HB := Aside0.mk hB; clear hB
 have H : ((spec_l1Cur_pick.f s0_0 s0_1 s0_2 a1).bind fun bt108 => (some ((bt108.1 == 0), bt108.2.1, bt108.2.2))) = some (r1, r2, r3) := h
 clear h; replace H := Option.bind_eq_some_iff.mp H; obtain ⟨⟨t108, t109, t110⟩, A30, H⟩ := H
 replace H : (some ((t108 == 0), t109, t110)) = some (r1, r2, r3) := H
 have A3 := Aside0.mk A30; clear A30
 simp only [Option.some.injEq, Prod.mk.injEq] at H
 obtain ⟨rfl, rfl, rfl⟩ := H
 go_enter Tryd.func33, Tryd.ntmps33
 go_wp2_with (first | ((with_reducible refine gate_callee (f := 31) rfl ?_); refine goesL_ (some 7) rfl rfl Tryd.func31 (by kernel_rfl) rfl #[.pointer (some ⟨g, 0, none⟩), .int .i64 a1] rfl (qW1) ?_; (with_reducible refine (spec_l1Cur_pick.calls g s0_0 s0_1 s0_2 a1 t108 t109 t110 w0 _ ?side1 ?side2 A3.out).mono ?_); (case side1 => exact (qW3)); (case side2 => exact (qW8)); rintro e w4 ⟨rfl, hi, hb, hk⟩; refine ⟨_, rfl, ?_⟩; replace HK := Aside0.mk (KeepBut.trans (qW4) hk (.inl rfl)); replace HB := Aside0.mk (hb); replace HI0 := Aside0.mk (hi); clear hb hk hi))
 go_ret
 exact ⟨(qW9), (qW3), (qW8), (qW4)⟩

/-! ### spec_l1Cur_among: function 42 -/
def spec_l1Cur_among.f (s0_0 : List Int) (s0_1 : Int) (s0_2 : Int) (l1 : List Int) : Option (Int × Int × Int) := (spec_l1Cur_pick.f s0_0 s0_1 s0_2 (l1.length : Int)).bind fun bt111 => (if 0 ≤ bt111.1 then (if bt111.1 < (l1.length : Int) then (some (rd l1 bt111.1, bt111.2.1, bt111.2.2)) else (none)) else (none))
theorem spec_l1Cur_among.calls (g : Nat) (s0_0 : List Int) (s0_1 : Int) (s0_2 : Int) (A1 : Option Addr) (c1 : Nat) (l1 : List Int) (r1 : Int) (r2 : Int) (r3 : Int) (w0 w : World) (hI : IsS54 w0 w g s0_0 s0_1 s0_2) (hB : Below w0.heap.size w0 w) (hr1 : Kd.C (Kd.int .i64) w A1 l1.length l1) (hc1 : l1.length ≤ c1) (hf1 : ∀ ad, A1 = some ad → 0 < l1.length → ad.block ≠ g) (h : spec_l1Cur_among.f s0_0 s0_1 s0_2 l1 = some (r1, r2, r3)) :
  Calls Tryd.prog 42 #[.pointer (some ⟨g, 0, none⟩), .slice A1 l1.length c1] w fun e w' => e = .returned (.int .i64 r1) ∧ IsS54 w0 w' g s0_0 r2 r3 ∧ Below w0.heap.size w0 w' ∧ KeepBut w w' g none := by
 have HR1 := Aside0.mk hr1; have HC1 := Aside0.mk hc1; clear hr1 hc1; have HI0 := Aside0.mk hI
 have HK := Aside0.mk (KeepBut.refl w g none)
 have HL := Aside0.mk hB.size
 clear hI
 have HW0 := Aside0.mk hB.size
 have HB := Aside0.mk hB; clear hB
 have H : ((spec_l1Cur_pick.f s0_0 s0_1 s0_2 (l1.length : Int)).bind fun bt111 => (if 0 ≤ bt111.1 then (if bt111.1 < (l1.length : Int) then (some (rd l1 bt111.1, bt111.2.1, bt111.2.2)) else (none)) else (none))) = some (r1, r2, r3) := h
 clear h; replace H := Option.bind_eq_some_iff.mp H; obtain ⟨⟨t111, t112, t113⟩, A30, H⟩ := H
 try dsimp only at H
 have A3 := Aside0.mk A30; clear A30
 by_cases c4 : 0 ≤ t111
 ·rw [if_pos c4] at H
  have c4b0 : decide (0 ≤ t111) = true := decide_eq_true c4
  clear c4
  by_cases c5 : t111 < (l1.length : Int)
  ·rw [if_pos c5] at H
   have c5b0 : decide (t111 < (l1.length : Int)) = true := decide_eq_true c5
   clear c5
   simp only [Option.some.injEq, Prod.mk.injEq] at H
   obtain ⟨rfl, rfl, rfl⟩ := H
   go_enter Tryd.func42, Tryd.ntmps42
   go_wp2_with (first | ((with_reducible refine gate_callee (f := 31) rfl ?_); refine goesL_ (some 9) rfl rfl Tryd.func31 (by kernel_rfl) rfl #[.pointer (some ⟨g, 0, none⟩), .int .i64 (l1.length : Int)] rfl (qW1) ?_; (with_reducible refine (spec_l1Cur_pick.calls g s0_0 s0_1 s0_2 (l1.length : Int) t111 t112 t113 w0 _ ?side1 ?side2 A3.out).mono ?_); (case side1 => exact (qW3)); (case side2 => exact (qW8)); rintro e w6 ⟨rfl, hi, hb, hk⟩; refine ⟨_, rfl, ?_⟩; replace HK := Aside0.mk (KeepBut.trans (qW4) hk (.inl rfl)); replace HB := Aside0.mk (hb); replace HI0 := Aside0.mk (hi); clear hb hk hi; have p114 : 0 ≤ (t111 : Int) := of_decide_eq_true (qW13); have q114 : t111 < (l1.length : Int) := of_decide_eq_true (qW13); obtain ⟨ad114, e114, hx114_0⟩ := Kd.at_int HR1.out t111 p114 q114; cases e114; replace hx114_0 := keep_cell HK.out hx114_0 (by first | (rw [add_block]; exact hf1 _ rfl (by omega)) | exact hf1 _ rfl (by omega) | exact hf1 ad114 rfl (by omega)); replace p114 := eq_true p114; replace q114 := eq_true q114))
   go_ret
   exact ⟨(qW9), (qW3), (qW8), (qW4)⟩
  ·rw [if_neg c5] at H
   exact absurd H (by simp)
 ·rw [if_neg c4] at H
  exact absurd H (by simp)

/-! ### spec_l1Cur_way14: function 29 -/
mutual
def spec_l1Cur_way14.l0 : Nat → List (S44) → Int → List Int → Int → Int → Option ((List (S44)) × Int × Int)
 | 0, _, _, _, _, _ => none
 | k + 1, x3, x4, x1000, x1001, x1002 => if x4 > 0 then ((spec_l1Cur_among.f x1000 x1001 x1002 (([0, 10, 10, 25, 300, 500] : List Int))).bind fun bt124 => ((spec_l1Cur_among.f x1000 bt124.2.1 bt124.2.2 (([(-500), (-10), 0, 5, 10, 120] : List Int))).bind fun bt130 => (if bt124.1 = 0 then (if bt130.1 = 0 then ((spec_l1Cur_one.f x1000 bt130.2.1 bt130.2.2 8).bind fun bt134 => (if bt134.1 = true then (if x3.length < 8796093022208 then (spec_l1Cur_way14.l0 k (x3 ++ [(⟨bt124.1, bt130.1⟩ : S44)]) (wrap64 (x4 - 1)) x1000 bt134.2.1 bt134.2.2) else (none)) else (if x3.length < 8796093022208 then (spec_l1Cur_way14.l0 k (x3 ++ [(⟨1, bt130.1⟩ : S44)]) (wrap64 (x4 - 1)) x1000 bt134.2.1 bt134.2.2) else (none)))) else (if x3.length < 8796093022208 then (spec_l1Cur_way14.l0 k (x3 ++ [(⟨bt124.1, bt130.1⟩ : S44)]) (wrap64 (x4 - 1)) x1000 bt130.2.1 bt130.2.2) else (none))) else (if x3.length < 8796093022208 then (spec_l1Cur_way14.l0 k (x3 ++ [(⟨bt124.1, bt130.1⟩ : S44)]) (wrap64 (x4 - 1)) x1000 bt130.2.1 bt130.2.2) else (none))))) else ((spec_l1Cur_pick.f x1000 x1001 x1002 40).bind fun bt149 => (if bt149.1 = 0 then ((spec_l1Cur_among.f x1000 bt149.2.1 bt149.2.2 (([(-1), 501] : List Int))).bind fun bt155 => (if x3.length < 8796093022208 then (some ((x3 ++ [(⟨bt155.1, 3⟩ : S44)]), bt155.2.1, bt155.2.2)) else (none))) else (if bt149.1 = 1 then ((spec_l1Cur_among.f x1000 bt149.2.1 bt149.2.2 (([(-501), 501] : List Int))).bind fun bt164 => (if x3.length < 8796093022208 then (some ((x3 ++ [(⟨3, bt164.1⟩ : S44)]), bt164.2.1, bt164.2.2)) else (none))) else (if bt149.1 = 2 then (spec_l1Cur_way14.l1 k x3 x1000 bt149.2.1 bt149.2.2) else (some (x3, bt149.2.1, bt149.2.2))))))
def spec_l1Cur_way14.l1 : Nat → List (S44) → List Int → Int → Int → Option ((List (S44)) × Int × Int)
 | 0, _, _, _, _ => none
 | k + 1, x3, x1000, x1001, x1002 => (spec_l1Cur_pick.f x1000 x1001 x1002 2).bind fun bt170 => (if (x3.length : Int) < (wrap64 (12 + bt170.1)) then (if x3.length < 8796093022208 then (spec_l1Cur_way14.l1 k (x3 ++ [(⟨7, 0⟩ : S44)]) x1000 bt170.2.1 bt170.2.2) else (none)) else (some (x3, bt170.2.1, bt170.2.2)))
end
def spec_l1Cur_way14.f (k : Nat) (s0_0 : List Int) (s0_1 : Int) (s0_2 : Int) : Option ((List (S44)) × Int × Int) := (spec_l1Cur_pick.f s0_0 s0_1 s0_2 7).bind fun bt118 => (spec_l1Cur_way14.l0 k (([] : List (S44))) bt118.1 s0_0 bt118.2.1 bt118.2.2)
theorem spec_l1Cur_way14.mono_l : ∀ k, (∀ y0 y1 y2 y3 y4, LeO (spec_l1Cur_way14.l0 k y0 y1 y2 y3 y4) (spec_l1Cur_way14.l0 (k + 1) y0 y1 y2 y3 y4)) ∧ (∀ y0 y1 y2 y3, LeO (spec_l1Cur_way14.l1 k y0 y1 y2 y3) (spec_l1Cur_way14.l1 (k + 1) y0 y1 y2 y3))
 | 0 => ⟨fun _ _ _ _ _ r h => by simp [spec_l1Cur_way14.l0] at h, fun _ _ _ _ r h => by simp [spec_l1Cur_way14.l1] at h⟩
 | k + 1 => by
  obtain ⟨ih0, ih1⟩ := spec_l1Cur_way14.mono_l k
  refine ⟨?_, ?_⟩
  ·intro y0 y1 y2 y3 y4
   unfold spec_l1Cur_way14.l0
   exact qmono
  ·intro y0 y1 y2 y3
   unfold spec_l1Cur_way14.l1
   exact qmono
theorem spec_l1Cur_way14.mono : ∀ a0 a1 a2 k, LeO (spec_l1Cur_way14.f k a0 a1 a2) (spec_l1Cur_way14.f (k + 1) a0 a1 a2) := by
 intro a0 a1 a2 k
 obtain ⟨ih0, ih1⟩ := spec_l1Cur_way14.mono_l k
 unfold spec_l1Cur_way14.f
 exact qmono
theorem spec_l1Cur_way14.calls (k : Nat) (g : Nat) (s0_0 : List Int) (s0_1 : Int) (s0_2 : Int) (r1 : List (S44)) (r2 : Int) (r3 : Int) (w0 w : World) (hI : IsS54 w0 w g s0_0 s0_1 s0_2) (hB : Below w0.heap.size w0 w) (h : spec_l1Cur_way14.f k s0_0 s0_1 s0_2 = some (r1, r2, r3)) :
  Calls Tryd.prog 29 #[.pointer (some ⟨g, 0, none⟩)] w fun e w' => ∃ v0_ : Value, e = .returned (v0_) ∧ Kd.R k44 44 w' w.heap.size (fun _ => True) v0_ r1 ∧ IsS54 w0 w' g s0_0 r2 r3 ∧ Below w0.heap.size w0 w' ∧ KeepBut w w' g none := by
 have hu44 := Tryd.underlying44
 have HI0 := Aside0.mk hI
 have HK := Aside0.mk (KeepBut.refl w g none)
 have HL := Aside0.mk hB.size
 clear hI
 have HW0 := Aside0.mk hB.size
 have HB := Aside0.mk hB; clear hB
 have H : ((spec_l1Cur_pick.f s0_0 s0_1 s0_2 7).bind fun bt118 => (spec_l1Cur_way14.l0 k (([] : List (S44))) bt118.1 s0_0 bt118.2.1 bt118.2.2)) = some (r1, r2, r3) := h
 clear h
 obtain ⟨y115, hy115⟩ : ∃ y_ : List (S44), y_ = (([] : List (S44))) := ⟨_, rfl⟩
 replace H : ((spec_l1Cur_pick.f s0_0 s0_1 s0_2 7).bind fun bt118 => (spec_l1Cur_way14.l0 k y115 bt118.1 s0_0 bt118.2.1 bt118.2.2)) = some (r1, r2, r3) := (qW7 hy115)
 have Ny115 := Aside0.mk hy115; clear hy115; replace H := Option.bind_eq_some_iff.mp H; obtain ⟨⟨t118, t119, t120⟩, A20, H⟩ := H
 try dsimp only at H
 have A2 := Aside0.mk A20; clear A20
 have H' := Aside0.mk H
 clear H
 go_enter Tryd.func29, Tryd.ntmps29
 go_wp2_with (first | ((with_reducible refine gate_dst (N := 6) rfl ?_); refine Kd.R_lit k44 _ 44 ?hg (N := 6) ?hd (xs := ([] : List (S44))) (inner := []) (ok := fun _ => True) (okp := fun _ => True) ?hr ?hp (fun _ hk => hk) trivial (Below.refl _ _) (Nat.le_refl _) (by simp) ?_; (case hd => rfl); (case hg => rfl); (case hr => exact (qW22)); (case hp => exact (Reps.none _ _)); intro v116 w3 ho4 hb hg_ hnew_; clear hg_ hnew_; (first | rw [← Ny115.out] at ho4 | (simp only [Int.reduceToNat] at ho4; rw [← Ny115.out] at ho4)); have HO117 := Aside0.mk (Kd.R_lower ho4 (keep_size (w := w) (g := g) (row := none) (qW4))); replace HK := Aside0.mk (KeepBut.trans (qW4) (KeepBut.of_below hb g none) (.inl rfl)); replace HB := Aside0.mk (below_step (qW8) hb); replace HI0 := Aside0.mk (IsS54.below (qW3) hb); clear hb ho4) | ((with_reducible refine gate_callee (f := 31) rfl ?_); refine goesL_ (some 8) rfl rfl Tryd.func31 (by kernel_rfl) rfl #[.pointer (some ⟨g, 0, none⟩), .int .i64 7] rfl (qW1) ?_; (with_reducible refine (spec_l1Cur_pick.calls g s0_0 s0_1 s0_2 7 t118 t119 t120 w0 _ ?side1 ?side2 A2.out).mono ?_); (case side1 => exact (qW3)); (case side2 => exact (qW8)); rintro e w5 ⟨rfl, hi, hb, hk⟩; refine ⟨_, rfl, ?_⟩; replace HO117 := Aside0.mk (Kd.R_mono (Kd.R_keep (IsS54.apart (show IsS54 w0 _ g s0_0 s0_1 s0_2 from (qW3)) (qW2 HO117.out) (by decide)) hk (fun _ h => h.2)) (fun _ h => h.1)); replace HK := Aside0.mk (KeepBut.trans (qW4) hk (.inl rfl)); replace HB := Aside0.mk (hb); replace HI0 := Aside0.mk (hi); clear hb hk hi))
 go_loopg [3, 4] k (fun kq v3 v4 w' => ∃ (x3_1 : List (S44)) (x4_1 : Int) (x1001_1 : Int) (x1002_1 : Int), v4 = .int .i64 x4_1 ∧ Aside0 (spec_l1Cur_way14.l0 kq x3_1 x4_1 s0_0 x1001_1 x1002_1 = some (r1, r2, r3)) ∧ Aside0 (kq ≤ k) ∧ Aside0 (Kd.R k44 44 w' w.heap.size (fun _ => True) v3 x3_1) ∧ Aside0 (IsS54 w0 w' g s0_0 x1001_1 x1002_1) ∧ Aside0 (KeepBut w w' g none) ∧ Aside0 (Below w0.heap.size w0 w'))
 case atStart => exact ⟨(y115), (t118), (t119), (t120), (qW14), H', ⟨Nat.le_refl _⟩, ⟨(qW2 HO117.out)⟩, ⟨(qW3)⟩, ⟨(qW4)⟩, ⟨(qW8)⟩⟩
 case round =>
  clear H'
  try clear c2
  try clear p2
  try clear c3
  obtain ⟨x3_1, x4_1, x1001_1, x1002_1, rfl, HA, HK1, HO_3, HI0, HK, HB⟩ := hrel
  cases gk with
  | zero => exact absurd HA.out (by simp [spec_l1Cur_way14.l0])
  | succ k1 =>
   have H := HA.out
   clear HA
   simp only [spec_l1Cur_way14.l0] at H
   by_cases c6 : x4_1 > 0
   ·rw [if_pos c6] at H
    have c6b0 : decide (0 < x4_1) = true := decide_eq_true c6
    clear c6
    obtain ⟨y121, hy121⟩ : ∃ y_ : List Int, y_ = (([0, 10, 10, 25, 300, 500] : List Int)) := ⟨_, rfl⟩
    replace H : ((spec_l1Cur_among.f s0_0 x1001_1 x1002_1 y121).bind fun bt124 => ((spec_l1Cur_among.f s0_0 bt124.2.1 bt124.2.2 (([(-500), (-10), 0, 5, 10, 120] : List Int))).bind fun bt130 => (if bt124.1 = 0 then (if bt130.1 = 0 then ((spec_l1Cur_one.f s0_0 bt130.2.1 bt130.2.2 8).bind fun bt134 => (if bt134.1 = true then (if x3_1.length < 8796093022208 then (spec_l1Cur_way14.l0 k1 (x3_1 ++ [(⟨bt124.1, bt130.1⟩ : S44)]) (wrap64 (x4_1 - 1)) s0_0 bt134.2.1 bt134.2.2) else (none)) else (if x3_1.length < 8796093022208 then (spec_l1Cur_way14.l0 k1 (x3_1 ++ [(⟨1, bt130.1⟩ : S44)]) (wrap64 (x4_1 - 1)) s0_0 bt134.2.1 bt134.2.2) else (none)))) else (if x3_1.length < 8796093022208 then (spec_l1Cur_way14.l0 k1 (x3_1 ++ [(⟨bt124.1, bt130.1⟩ : S44)]) (wrap64 (x4_1 - 1)) s0_0 bt130.2.1 bt130.2.2) else (none))) else (if x3_1.length < 8796093022208 then (spec_l1Cur_way14.l0 k1 (x3_1 ++ [(⟨bt124.1, bt130.1⟩ : S44)]) (wrap64 (x4_1 - 1)) s0_0 bt130.2.1 bt130.2.2) else (none))))) = some (r1, r2, r3) := (qW7 hy121)
    have Ny121 := Aside0.mk hy121; clear hy121; replace H := Option.bind_eq_some_iff.mp H; obtain ⟨⟨t124, t125, t126⟩, A70, H⟩ := H
    try dsimp only at H
    have A7 := Aside0.mk A70; clear A70
    obtain ⟨y127, hy127⟩ : ∃ y_ : List Int, y_ = (([(-500), (-10), 0, 5, 10, 120] : List Int)) := ⟨_, rfl⟩
    replace H : ((spec_l1Cur_among.f s0_0 t125 t126 y127).bind fun bt130 => (if t124 = 0 then (if bt130.1 = 0 then ((spec_l1Cur_one.f s0_0 bt130.2.1 bt130.2.2 8).bind fun bt134 => (if bt134.1 = true then (if x3_1.length < 8796093022208 then (spec_l1Cur_way14.l0 k1 (x3_1 ++ [(⟨t124, bt130.1⟩ : S44)]) (wrap64 (x4_1 - 1)) s0_0 bt134.2.1 bt134.2.2) else (none)) else (if x3_1.length < 8796093022208 then (spec_l1Cur_way14.l0 k1 (x3_1 ++ [(⟨1, bt130.1⟩ : S44)]) (wrap64 (x4_1 - 1)) s0_0 bt134.2.1 bt134.2.2) else (none)))) else (if x3_1.length < 8796093022208 then (spec_l1Cur_way14.l0 k1 (x3_1 ++ [(⟨t124, bt130.1⟩ : S44)]) (wrap64 (x4_1 - 1)) s0_0 bt130.2.1 bt130.2.2) else (none))) else (if x3_1.length < 8796093022208 then (spec_l1Cur_way14.l0 k1 (x3_1 ++ [(⟨t124, bt130.1⟩ : S44)]) (wrap64 (x4_1 - 1)) s0_0 bt130.2.1 bt130.2.2) else (none)))) = some (r1, r2, r3) := (qW7 hy127)
    have Ny127 := Aside0.mk hy127; clear hy127; replace H := Option.bind_eq_some_iff.mp H; obtain ⟨⟨t130, t131, t132⟩, A80, H⟩ := H
    try dsimp only at H
    have A8 := Aside0.mk A80; clear A80
    by_cases c9 : t124 = 0
    ·rw [if_pos c9] at H
     have c9b0 : (t124 == 0) = true := beq_iff_eq.mpr c9
     have c9b1 : (t124 != 0) = false := bne_eq_false_iff_eq.mpr c9
     clear c9
     by_cases c10 : t130 = 0
     ·rw [if_pos c10] at H
      have c10b0 : (t130 == 0) = true := beq_iff_eq.mpr c10
      have c10b1 : (t130 != 0) = false := bne_eq_false_iff_eq.mpr c10
      clear c10; replace H := Option.bind_eq_some_iff.mp H; obtain ⟨⟨t134, t135, t136⟩, A110, H⟩ := H
      try dsimp only at H
      have A11 := Aside0.mk A110; clear A110
      by_cases c12 : t134 = true
      ·subst c12; rw [if_pos rfl] at H
       by_cases c13 : x3_1.length < 8796093022208
       ·rw [if_pos c13] at H; have LMc13 := Aside0.mk c13; clear c13
        obtain ⟨y137, hy137⟩ : ∃ y_ : List (S44), y_ = (x3_1 ++ [(⟨t124, t130⟩ : S44)]) := ⟨_, rfl⟩
        replace H : (spec_l1Cur_way14.l0 k1 y137 (wrap64 (x4_1 - 1)) s0_0 t135 t136) = some (r1, r2, r3) := (qW7 hy137)
        have Ny137 := Aside0.mk hy137; clear hy137
        have H' := Aside0.mk H
        clear H
        go_wp2_with (first | ((with_reducible refine gate_dst (N := 14) rfl ?_); refine Kd.R_lit (Kd.int .i64) _ 3 ?hg (N := 14) ?hd (xs := ([0, 10, 10, 25, 300, 500] : List Int)) (inner := [.int .i64 0, .int .i64 10, .int .i64 10, .int .i64 25, .int .i64 300, .int .i64 500]) (ok := fun _ => True) (okp := fun _ => True) ?hr ?hp (fun _ hk => hk) trivial (Below.refl _ _) (Nat.le_refl _) (by simp) ?_; (case hd => rfl); (case hg => rfl); (case hr => exact (qW22)); (case hp => exact (qW40)); intro v122 w14 ho15 hb hg_ hnew_; clear hg_ hnew_; (first | rw [← Ny121.out] at ho15 | (simp only [Int.reduceToNat] at ho15; rw [← Ny121.out] at ho15)); replace HO_3 := Aside0.mk (Kd.R_below (qW2 HO_3.out) hb); have HO123 := Aside0.mk (Kd.R_lower ho15 (keep_size (w := w) (g := g) (row := none) (qW4))); replace HK := Aside0.mk (KeepBut.trans (qW4) (KeepBut.of_below hb g none) (.inl rfl)); replace HB := Aside0.mk (below_step (qW8) hb); replace HI0 := Aside0.mk (IsS54.below (qW3) hb); clear hb ho15; obtain ⟨Ao16, co16, eo16⟩ := Kd.R_slice HO123.out; subst eo16) | ((with_reducible refine gate_callee (f := 42) rfl ?_); refine goesL_ (some 15) rfl rfl Tryd.func42 (by kernel_rfl) rfl #[.pointer (some ⟨g, 0, none⟩), .slice Ao16 y121.length co16] rfl (qW1) ?_; (with_reducible refine (spec_l1Cur_among.calls g s0_0 x1001_1 x1002_1 _ _ y121 t124 t125 t126 w0 _ ?side1 ?side2 ?side3 ?side4 ?side5 A7.out).mono ?_); (case side1 => exact (qW3)); (case side2 => exact (qW8)); (case side3 => exact (qW6 HO123.out)); (case side4 => exact (qW41 HO123.out)); (case side5 => exact (qW47 HO123.out)); rintro e w17 ⟨rfl, hi, hb, hk⟩; refine ⟨_, rfl, ?_⟩; replace HO_3 := Aside0.mk (Kd.R_mono (Kd.R_keep (IsS54.apart (show IsS54 w0 _ g s0_0 x1001_1 x1002_1 from (qW3)) (qW2 HO_3.out) (by decide)) hk (fun _ h => h.2)) (fun _ h => h.1)); replace HO123 := Aside0.mk (Kd.R_mono (Kd.R_keep (IsS54.apart (show IsS54 w0 _ g s0_0 x1001_1 x1002_1 from (qW3)) (qW2 HO123.out) (by decide)) hk (fun _ h => h.2)) (fun _ h => h.1)); replace HK := Aside0.mk (KeepBut.trans (qW4) hk (.inl rfl)); replace HB := Aside0.mk (hb); replace HI0 := Aside0.mk (hi); clear hb hk hi) | ((with_reducible refine gate_dst (N := 17) rfl ?_); refine Kd.R_lit (Kd.int .i64) _ 3 ?hg (N := 17) ?hd (xs := ([(-500), (-10), 0, 5, 10, 120] : List Int)) (inner := [.int .i64 (-500), .int .i64 (-10), .int .i64 0, .int .i64 5, .int .i64 10, .int .i64 120]) (ok := fun _ => True) (okp := fun _ => True) ?hr ?hp (fun _ hk => hk) trivial (Below.refl _ _) (Nat.le_refl _) (by simp) ?_; (case hd => rfl); (case hg => rfl); (case hr => exact (qW22)); (case hp => exact (qW37)); intro v128 w18 ho19 hb hg_ hnew_; clear hg_ hnew_; (first | rw [← Ny127.out] at ho19 | (simp only [Int.reduceToNat] at ho19; rw [← Ny127.out] at ho19)); replace HO_3 := Aside0.mk (Kd.R_below (qW2 HO_3.out) hb); have HO129 := Aside0.mk (Kd.R_lower (Kd.R_new' ho19 (Kd.R_lt (qW2 HO123.out))) (keep_size (w := w) (g := g) (row := none) (qW4))); replace HO123 := Aside0.mk (Kd.R_elder' (qW2 HO123.out) (Kd.R_base ho19) hb); replace HK := Aside0.mk (KeepBut.trans (qW4) (KeepBut.of_below hb g none) (.inl rfl)); replace HB := Aside0.mk (below_step (qW8) hb); replace HI0 := Aside0.mk (IsS54.below (qW3) hb); clear hb ho19; obtain ⟨Ao20, co20, eo20⟩ := Kd.R_slice HO129.out; subst eo20) | ((with_reducible refine gate_callee (f := 42) rfl ?_); refine goesL_ (some 18) rfl rfl Tryd.func42 (by kernel_rfl) rfl #[.pointer (some ⟨g, 0, none⟩), .slice Ao20 y127.length co20] rfl (qW1) ?_; (with_reducible refine (spec_l1Cur_among.calls g s0_0 t125 t126 _ _ y127 t130 t131 t132 w0 _ ?side1 ?side2 ?side3 ?side4 ?side5 A8.out).mono ?_); (case side1 => exact (qW3)); (case side2 => exact (qW8)); (case side3 => exact (qW6 HO129.out)); (case side4 => exact (qW41 HO129.out)); (case side5 => exact (qW47 HO129.out)); rintro e w21 ⟨rfl, hi, hb, hk⟩; refine ⟨_, rfl, ?_⟩; replace HO_3 := Aside0.mk (Kd.R_mono (Kd.R_keep (IsS54.apart (show IsS54 w0 _ g s0_0 t125 t126 from (qW3)) (qW2 HO_3.out) (by decide)) hk (fun _ h => h.2)) (fun _ h => h.1)); replace HO123 := Aside0.mk (Kd.R_mono (Kd.R_keep (IsS54.apart (show IsS54 w0 _ g s0_0 t125 t126 from (qW3)) (qW2 HO123.out) (by decide)) hk (fun _ h => h.2)) (fun _ h => h.1)); replace HO129 := Aside0.mk (Kd.R_mono (Kd.R_keep (IsS54.apart (show IsS54 w0 _ g s0_0 t125 t126 from (qW3)) (qW2 HO129.out) (by decide)) hk (fun _ h => h.2)) (fun _ h => h.1)); replace HK := Aside0.mk (KeepBut.trans (qW4) hk (.inl rfl)); replace HB := Aside0.mk (hb); replace HI0 := Aside0.mk (hi); clear hb hk hi) | ((with_reducible refine gate_dst (N := 5) rfl ?_); refine box_event ?hg (N := 5) ?hd (cs := #[.int .i64 0, .int .i64 0]) (t := 44) ?hr ?_; (case hd => rfl); (case hg => rfl); (case hr => exact (qW22)); intro gb133 hg w22 hbox hb; replace HO_3 := Aside0.mk (Kd.R_below (Kd.R_elderB (qW2 HO_3.out) gb133 (Nat.le_of_eq hg.symm)) hb); replace HO123 := Aside0.mk (Kd.R_below (qW2 HO123.out) hb); replace HO129 := Aside0.mk (Kd.R_below (qW2 HO129.out) hb); replace HB := Aside0.mk (below_step (qW8) hb); have BK133 := Aside0.mk (hbox); have GW133 := Aside0.mk ((by rw [hg]; exact (keep_size (w := w) (g := g) (row := none) (qW4)) : w.heap.size ≤ gb133)); have GE133 := Aside0.mk ((Nat.le_trans HW0.out (by rw [hg]; exact (keep_size (w := w) (g := g) (row := none) (qW4)) : w.heap.size ≤ gb133) : w0.heap.size ≤ gb133)); replace HK := Aside0.mk (KeepBut.trans (qW4) (KeepBut.of_below hb g none) (.inl rfl)); have NB0_133 := Aside0.mk ((by rw [hg]; exact Nat.ne_of_lt (IsS54.lt (show IsS54 w0 _ g s0_0 t131 t132 from (qW3))) : g ≠ gb133)); have NB133_0 := Aside0.mk ((by rw [hg]; exact Nat.ne_of_gt (IsS54.lt (show IsS54 w0 _ g s0_0 t131 t132 from (qW3))) : gb133 ≠ g)); replace HI0 := Aside0.mk (IsS54.below (qW3) hb); clear hb hbox hg; have hnb23 := NB133_0.out; have hnc23 := NB0_133.out; have hcz24_0 : w22.cell? ⟨gb133, 0, none⟩ = some (.int .i64 0) := (blk_cell BK133.out 0).trans rfl; have hcz24_1 : w22.cell? ⟨gb133, 1, none⟩ = some (.int .i64 0) := (blk_cell BK133.out 1).trans rfl; have hfz24_0 := blk_frozen BK133.out 0; have hfz24_1 := blk_frozen BK133.out 1) | (go_at_call 33; (with_reducible refine (spec_l1Cur_one.calls g s0_0 t131 t132 8 true t135 t136 w0 _ ?side1 ?side2 A11.out).mono ?_); (case side1 => exact (qW11 NB0_133.out)); (case side2 => exact (qW21 GE133.out)); rintro e w25 ⟨rfl, hi, hb, hk⟩; replace HO_3 := Aside0.mk (Kd.R_mono (Kd.R_keep (IsS54.apart (show IsS54 w0 _ g s0_0 t131 t132 from (qW11 NB0_133.out)) (qW34) (by decide)) hk (fun _ h => h.2)) (fun _ h => h.1)); replace HO123 := Aside0.mk (Kd.R_mono (Kd.R_keep (IsS54.apart (show IsS54 w0 _ g s0_0 t131 t132 from (qW11 NB0_133.out)) (qW31 HO123.out BK133.out) (by decide)) hk (fun _ h => h.2)) (fun _ h => h.1)); replace HO129 := Aside0.mk (Kd.R_mono (Kd.R_keep (IsS54.apart (show IsS54 w0 _ g s0_0 t131 t132 from (qW11 NB0_133.out)) (qW31 HO129.out BK133.out) (by decide)) hk (fun _ h => h.2)) (fun _ h => h.1)); replace BK133 := Aside0.mk (KeepBut.blk hk (g' := gb133) (o := .cells #[.int .i64 t124, .int .i64 t130] 44 (0, 0)) (qW28) NB133_0.out (by simp)); replace HK := Aside0.mk (KeepBut.trans (qW17 GW133.out) hk (.inl rfl)); replace HB := Aside0.mk (hb); replace HI0 := Aside0.mk (hi); clear hb hk hi; have hcz26_0 : w25.cell? ⟨gb133, 0, none⟩ = some (.int .i64 t124) := (blk_cell BK133.out 0).trans rfl; have hcz26_1 : w25.cell? ⟨gb133, 1, none⟩ = some (.int .i64 t130) := (blk_cell BK133.out 1).trans rfl; have hfz26_0 := blk_frozen BK133.out 0; have hfz26_1 := blk_frozen BK133.out 1) | ((with_reducible refine gate_builtin (b := .append) (xs := #[.tmp 34, .tmp 36]) rfl ?_); at_builtin; refine Kd.R_append k44 w.heap.size rfl (.tmp 34) (.tmp 36) 24 44 (.agg #[(.int .i64 0), (.int .i64 0)]) 16 rfl Tryd.underlying24 info44 rfl (by decide) (by omega) u3 x3_1 (⟨t124, t130⟩ : S44) [.int .i64 t124, .int .i64 t130] (fun k_ => k_ ≠ gb133) (fun _ => False) rfl rfl ?aP (fun _ hk => hk.elim) ?aF ?aO (Below.refl _ _) ?aS ?aL ?_; (case aP => exact (qW69)); (case aF => exact (by exact (fun k_ hk => Kd.freshB (g := gb133) (o := .cells #[.int .i64 t124, .int .i64 t130] 44 (0, 0)) (qW5 BK133.out) k_ hk))); (case aO => exact (qW58 HO_3.out)); (case aS => exact (qW72)); (case aL => have := LMc13.out; omega); intro v138 w27 ho hb hg hat; rw [← Ny137.out] at ho; replace HO123 := Aside0.mk (Kd.R_over' (qW2 HO123.out) (Kd.R_typed (qW2 HO_3.out)) (by decide) hg); replace HO129 := Aside0.mk (Kd.R_over' (qW2 HO129.out) (Kd.R_typed (qW2 HO_3.out)) (by decide) hg); replace BK133 := Aside0.mk (blk_grown (g := gb133) (o := .cells #[.int .i64 t124, .int .i64 t130] 44 (0, 0)) (qW5 BK133.out) hg (Kd.R_away HO_3.out (fun _ hk => hk.2))); replace HB := Aside0.mk (below_weaken (qW21 GE133.out) HL.out hb); replace HI0 := Aside0.mk (IsS54.grown (show IsS54 w0 _ g s0_0 t135 t136 from (qW11 NB0_133.out)) hg (IsS54.own_ne HI0.out HO_3.out (by decide))); replace HK := Aside0.mk (KeepBut.trans (qW17 GW133.out) (KeepBut.of_grown hg g) (Kd.R_base2 HO_3.out)); have HO139 := Aside0.mk (ho); clear HO_3; clear ho hb hg hat))
        go_roundg k1
        case measure => have := HK1.out; omega
        case rel => exact ⟨(y137), (wrap64 (x4_1 - 1)), (t135), (t136), (qW14), H', ⟨by have := HK1.out; omega⟩, ⟨(qW43 HO139.out)⟩, ⟨(qW11 NB0_133.out)⟩, ⟨(qW17 GW133.out)⟩, ⟨(qW21 GE133.out)⟩⟩
       ·rw [if_neg c13] at H
        exact absurd H (by simp)
      ·replace c12 := Bool.eq_false_iff.mpr c12
       subst c12
       rw [if_neg (show ¬ (false = true) by decide)] at H
       by_cases c28 : x3_1.length < 8796093022208
       ·rw [if_pos c28] at H; have LMc28 := Aside0.mk c28; clear c28
        obtain ⟨y140, hy140⟩ : ∃ y_ : List (S44), y_ = (x3_1 ++ [(⟨1, t130⟩ : S44)]) := ⟨_, rfl⟩
        replace H : (spec_l1Cur_way14.l0 k1 y140 (wrap64 (x4_1 - 1)) s0_0 t135 t136) = some (r1, r2, r3) := (qW7 hy140)
        have Ny140 := Aside0.mk hy140; clear hy140
        have H' := Aside0.mk H
        clear H
        go_wp2_with (first | ((with_reducible refine gate_dst (N := 14) rfl ?_); refine Kd.R_lit (Kd.int .i64) _ 3 ?hg (N := 14) ?hd (xs := ([0, 10, 10, 25, 300, 500] : List Int)) (inner := [.int .i64 0, .int .i64 10, .int .i64 10, .int .i64 25, .int .i64 300, .int .i64 500]) (ok := fun _ => True) (okp := fun _ => True) ?hr ?hp (fun _ hk => hk) trivial (Below.refl _ _) (Nat.le_refl _) (by simp) ?_; (case hd => rfl); (case hg => rfl); (case hr => exact (qW22)); (case hp => exact (qW40)); intro v122 w29 ho30 hb hg_ hnew_; clear hg_ hnew_; (first | rw [← Ny121.out] at ho30 | (simp only [Int.reduceToNat] at ho30; rw [← Ny121.out] at ho30)); replace HO_3 := Aside0.mk (Kd.R_below (qW2 HO_3.out) hb); have HO123 := Aside0.mk (Kd.R_lower ho30 (keep_size (w := w) (g := g) (row := none) (qW4))); replace HK := Aside0.mk (KeepBut.trans (qW4) (KeepBut.of_below hb g none) (.inl rfl)); replace HB := Aside0.mk (below_step (qW8) hb); replace HI0 := Aside0.mk (IsS54.below (qW3) hb); clear hb ho30; obtain ⟨Ao31, co31, eo31⟩ := Kd.R_slice HO123.out; subst eo31) | ((with_reducible refine gate_callee (f := 42) rfl ?_); refine goesL_ (some 15) rfl rfl Tryd.func42 (by kernel_rfl) rfl #[.pointer (some ⟨g, 0, none⟩), .slice Ao31 y121.length co31] rfl (qW1) ?_; (with_reducible refine (spec_l1Cur_among.calls g s0_0 x1001_1 x1002_1 _ _ y121 t124 t125 t126 w0 _ ?side1 ?side2 ?side3 ?side4 ?side5 A7.out).mono ?_); (case side1 => exact (qW3)); (case side2 => exact (qW8)); (case side3 => exact (qW6 HO123.out)); (case side4 => exact (qW41 HO123.out)); (case side5 => exact (qW47 HO123.out)); rintro e w32 ⟨rfl, hi, hb, hk⟩; refine ⟨_, rfl, ?_⟩; replace HO_3 := Aside0.mk (Kd.R_mono (Kd.R_keep (IsS54.apart (show IsS54 w0 _ g s0_0 x1001_1 x1002_1 from (qW3)) (qW2 HO_3.out) (by decide)) hk (fun _ h => h.2)) (fun _ h => h.1)); replace HO123 := Aside0.mk (Kd.R_mono (Kd.R_keep (IsS54.apart (show IsS54 w0 _ g s0_0 x1001_1 x1002_1 from (qW3)) (qW2 HO123.out) (by decide)) hk (fun _ h => h.2)) (fun _ h => h.1)); replace HK := Aside0.mk (KeepBut.trans (qW4) hk (.inl rfl)); replace HB := Aside0.mk (hb); replace HI0 := Aside0.mk (hi); clear hb hk hi) | ((with_reducible refine gate_dst (N := 17) rfl ?_); refine Kd.R_lit (Kd.int .i64) _ 3 ?hg (N := 17) ?hd (xs := ([(-500), (-10), 0, 5, 10, 120] : List Int)) (inner := [.int .i64 (-500), .int .i64 (-10), .int .i64 0, .int .i64 5, .int .i64 10, .int .i64 120]) (ok := fun _ => True) (okp := fun _ => True) ?hr ?hp (fun _ hk => hk) trivial (Below.refl _ _) (Nat.le_refl _) (by simp) ?_; (case hd => rfl); (case hg => rfl); (case hr => exact (qW22)); (case hp => exact (qW37)); intro v128 w33 ho34 hb hg_ hnew_; clear hg_ hnew_; (first | rw [← Ny127.out] at ho34 | (simp only [Int.reduceToNat] at ho34; rw [← Ny127.out] at ho34)); replace HO_3 := Aside0.mk (Kd.R_below (qW2 HO_3.out) hb); have HO129 := Aside0.mk (Kd.R_lower (Kd.R_new' ho34 (Kd.R_lt (qW2 HO123.out))) (keep_size (w := w) (g := g) (row := none) (qW4))); replace HO123 := Aside0.mk (Kd.R_elder' (qW2 HO123.out) (Kd.R_base ho34) hb); replace HK := Aside0.mk (KeepBut.trans (qW4) (KeepBut.of_below hb g none) (.inl rfl)); replace HB := Aside0.mk (below_step (qW8) hb); replace HI0 := Aside0.mk (IsS54.below (qW3) hb); clear hb ho34; obtain ⟨Ao35, co35, eo35⟩ := Kd.R_slice HO129.out; subst eo35) | ((with_reducible refine gate_callee (f := 42) rfl ?_); refine goesL_ (some 18) rfl rfl Tryd.func42 (by kernel_rfl) rfl #[.pointer (some ⟨g, 0, none⟩), .slice Ao35 y127.length co35] rfl (qW1) ?_; (with_reducible refine (spec_l1Cur_among.calls g s0_0 t125 t126 _ _ y127 t130 t131 t132 w0 _ ?side1 ?side2 ?side3 ?side4 ?side5 A8.out).mono ?_); (case side1 => exact (qW3)); (case side2 => exact (qW8)); (case side3 => exact (qW6 HO129.out)); (case side4 => exact (qW41 HO129.out)); (case side5 => exact (qW47 HO129.out)); rintro e w36 ⟨rfl, hi, hb, hk⟩; refine ⟨_, rfl, ?_⟩; replace HO_3 := Aside0.mk (Kd.R_mono (Kd.R_keep (IsS54.apart (show IsS54 w0 _ g s0_0 t125 t126 from (qW3)) (qW2 HO_3.out) (by decide)) hk (fun _ h => h.2)) (fun _ h => h.1)); replace HO123 := Aside0.mk (Kd.R_mono (Kd.R_keep (IsS54.apart (show IsS54 w0 _ g s0_0 t125 t126 from (qW3)) (qW2 HO123.out) (by decide)) hk (fun _ h => h.2)) (fun _ h => h.1)); replace HO129 := Aside0.mk (Kd.R_mono (Kd.R_keep (IsS54.apart (show IsS54 w0 _ g s0_0 t125 t126 from (qW3)) (qW2 HO129.out) (by decide)) hk (fun _ h => h.2)) (fun _ h => h.1)); replace HK := Aside0.mk (KeepBut.trans (qW4) hk (.inl rfl)); replace HB := Aside0.mk (hb); replace HI0 := Aside0.mk (hi); clear hb hk hi) | ((with_reducible refine gate_dst (N := 5) rfl ?_); refine box_event ?hg (N := 5) ?hd (cs := #[.int .i64 0, .int .i64 0]) (t := 44) ?hr ?_; (case hd => rfl); (case hg => rfl); (case hr => exact (qW22)); intro gb133 hg w37 hbox hb; replace HO_3 := Aside0.mk (Kd.R_below (Kd.R_elderB (qW2 HO_3.out) gb133 (Nat.le_of_eq hg.symm)) hb); replace HO123 := Aside0.mk (Kd.R_below (qW2 HO123.out) hb); replace HO129 := Aside0.mk (Kd.R_below (qW2 HO129.out) hb); replace HB := Aside0.mk (below_step (qW8) hb); have BK133 := Aside0.mk (hbox); have GW133 := Aside0.mk ((by rw [hg]; exact (keep_size (w := w) (g := g) (row := none) (qW4)) : w.heap.size ≤ gb133)); have GE133 := Aside0.mk ((Nat.le_trans HW0.out (by rw [hg]; exact (keep_size (w := w) (g := g) (row := none) (qW4)) : w.heap.size ≤ gb133) : w0.heap.size ≤ gb133)); replace HK := Aside0.mk (KeepBut.trans (qW4) (KeepBut.of_below hb g none) (.inl rfl)); have NB0_133 := Aside0.mk ((by rw [hg]; exact Nat.ne_of_lt (IsS54.lt (show IsS54 w0 _ g s0_0 t131 t132 from (qW3))) : g ≠ gb133)); have NB133_0 := Aside0.mk ((by rw [hg]; exact Nat.ne_of_gt (IsS54.lt (show IsS54 w0 _ g s0_0 t131 t132 from (qW3))) : gb133 ≠ g)); replace HI0 := Aside0.mk (IsS54.below (qW3) hb); clear hb hbox hg; have hnb38 := NB133_0.out; have hnc38 := NB0_133.out; have hcz39_0 : w37.cell? ⟨gb133, 0, none⟩ = some (.int .i64 0) := (blk_cell BK133.out 0).trans rfl; have hcz39_1 : w37.cell? ⟨gb133, 1, none⟩ = some (.int .i64 0) := (blk_cell BK133.out 1).trans rfl; have hfz39_0 := blk_frozen BK133.out 0; have hfz39_1 := blk_frozen BK133.out 1) | (go_at_call 33; (with_reducible refine (spec_l1Cur_one.calls g s0_0 t131 t132 8 false t135 t136 w0 _ ?side1 ?side2 A11.out).mono ?_); (case side1 => exact (qW11 NB0_133.out)); (case side2 => exact (qW21 GE133.out)); rintro e w40 ⟨rfl, hi, hb, hk⟩; replace HO_3 := Aside0.mk (Kd.R_mono (Kd.R_keep (IsS54.apart (show IsS54 w0 _ g s0_0 t131 t132 from (qW11 NB0_133.out)) (qW34) (by decide)) hk (fun _ h => h.2)) (fun _ h => h.1)); replace HO123 := Aside0.mk (Kd.R_mono (Kd.R_keep (IsS54.apart (show IsS54 w0 _ g s0_0 t131 t132 from (qW11 NB0_133.out)) (qW31 HO123.out BK133.out) (by decide)) hk (fun _ h => h.2)) (fun _ h => h.1)); replace HO129 := Aside0.mk (Kd.R_mono (Kd.R_keep (IsS54.apart (show IsS54 w0 _ g s0_0 t131 t132 from (qW11 NB0_133.out)) (qW31 HO129.out BK133.out) (by decide)) hk (fun _ h => h.2)) (fun _ h => h.1)); replace BK133 := Aside0.mk (KeepBut.blk hk (g' := gb133) (o := .cells #[.int .i64 t124, .int .i64 t130] 44 (0, 0)) (qW28) NB133_0.out (by simp)); replace HK := Aside0.mk (KeepBut.trans (qW17 GW133.out) hk (.inl rfl)); replace HB := Aside0.mk (hb); replace HI0 := Aside0.mk (hi); clear hb hk hi; have hcz41_0 : w40.cell? ⟨gb133, 0, none⟩ = some (.int .i64 t124) := (blk_cell BK133.out 0).trans rfl; have hcz41_1 : w40.cell? ⟨gb133, 1, none⟩ = some (.int .i64 t130) := (blk_cell BK133.out 1).trans rfl; have hfz41_0 := blk_frozen BK133.out 0; have hfz41_1 := blk_frozen BK133.out 1) | ((with_reducible refine gate_builtin (b := .append) (xs := #[.tmp 34, .tmp 36]) rfl ?_); at_builtin; refine Kd.R_append k44 w.heap.size rfl (.tmp 34) (.tmp 36) 24 44 (.agg #[(.int .i64 0), (.int .i64 0)]) 16 rfl Tryd.underlying24 info44 rfl (by decide) (by omega) u3 x3_1 (⟨1, t130⟩ : S44) [.int .i64 1, .int .i64 t130] (fun k_ => k_ ≠ gb133) (fun _ => False) rfl (qW22) ?aP (fun _ hk => hk.elim) ?aF ?aO (Below.refl _ _) ?aS ?aL ?_; (case aP => exact (by exact k44_mkM _ _ _ (⟨1, t130⟩ : S44))); (case aF => exact (by exact (fun k_ hk => Kd.freshB (g := gb133) (o := .cells #[.int .i64 1, .int .i64 t130] 44 (0, 0)) (qW60) k_ hk))); (case aO => exact (by (with_reducible repeat (first | apply Kd.R_alloc | apply Kd.R_drewN | apply Kd.R_drew)); exact Kd.R_mono (Kd.R_far (p := ⟨gb133, 0, none⟩) (Kd.R_mono HO_3.out (fun k_ hk => (⟨hk, hk.2⟩ : _ ∧ k_ ≠ gb133))) (fun _ hk => hk.2) (.int .i64 1)) (fun _ hk => hk.1.2))); (case aS => exact (qW72)); (case aL => have := LMc28.out; omega); intro v141 w42 ho hb hg hat; rw [← Ny140.out] at ho; replace HO123 := Aside0.mk (Kd.R_over' (qW65 HO123.out BK133.out) (Kd.R_typed (qW61)) (by decide) hg); replace HO129 := Aside0.mk (Kd.R_over' (qW65 HO129.out BK133.out) (Kd.R_typed (qW61)) (by decide) hg); replace BK133 := Aside0.mk (blk_grown (g := gb133) (o := .cells #[.int .i64 1, .int .i64 t130] 44 (0, 0)) (qW60) hg (Kd.R_away HO_3.out (fun _ hk => hk.2))); replace HB := Aside0.mk (below_weaken (qW21 GE133.out) HL.out hb); replace HI0 := Aside0.mk (IsS54.grown (show IsS54 w0 _ g s0_0 t135 t136 from (qW11 NB0_133.out)) hg (IsS54.own_ne HI0.out HO_3.out (by decide))); replace HK := Aside0.mk (KeepBut.trans (qW17 GW133.out) (KeepBut.of_grown hg g) (Kd.R_base2 HO_3.out)); have HO142 := Aside0.mk (ho); clear HO_3; clear ho hb hg hat))
        go_roundg k1
        case measure => have := HK1.out; omega
        case rel => exact ⟨(y140), (wrap64 (x4_1 - 1)), (t135), (t136), (qW14), H', ⟨by have := HK1.out; omega⟩, ⟨(qW43 HO142.out)⟩, ⟨(qW11 NB0_133.out)⟩, ⟨(qW17 GW133.out)⟩, ⟨(qW21 GE133.out)⟩⟩
       ·rw [if_neg c28] at H
        exact absurd H (by simp)
     ·rw [if_neg c10] at H
      have c10b0 : (t130 == 0) = false := beq_eq_false_iff_ne.mpr c10
      have c10b1 : (t130 != 0) = true := bne_iff_ne.mpr c10
      by_cases c43 : x3_1.length < 8796093022208
      ·rw [if_pos c43] at H; have LMc43 := Aside0.mk c43; clear c43
       obtain ⟨y143, hy143⟩ : ∃ y_ : List (S44), y_ = (x3_1 ++ [(⟨t124, t130⟩ : S44)]) := ⟨_, rfl⟩
       replace H : (spec_l1Cur_way14.l0 k1 y143 (wrap64 (x4_1 - 1)) s0_0 t131 t132) = some (r1, r2, r3) := (qW7 hy143)
       have Ny143 := Aside0.mk hy143; clear hy143
       have H' := Aside0.mk H
       clear H
       go_wp2_with (first | ((with_reducible refine gate_dst (N := 14) rfl ?_); refine Kd.R_lit (Kd.int .i64) _ 3 ?hg (N := 14) ?hd (xs := ([0, 10, 10, 25, 300, 500] : List Int)) (inner := [.int .i64 0, .int .i64 10, .int .i64 10, .int .i64 25, .int .i64 300, .int .i64 500]) (ok := fun _ => True) (okp := fun _ => True) ?hr ?hp (fun _ hk => hk) trivial (Below.refl _ _) (Nat.le_refl _) (by simp) ?_; (case hd => rfl); (case hg => rfl); (case hr => exact (qW22)); (case hp => exact (qW40)); intro v122 w44 ho45 hb hg_ hnew_; clear hg_ hnew_; (first | rw [← Ny121.out] at ho45 | (simp only [Int.reduceToNat] at ho45; rw [← Ny121.out] at ho45)); replace HO_3 := Aside0.mk (Kd.R_below (qW2 HO_3.out) hb); have HO123 := Aside0.mk (Kd.R_lower ho45 (keep_size (w := w) (g := g) (row := none) (qW4))); replace HK := Aside0.mk (KeepBut.trans (qW4) (KeepBut.of_below hb g none) (.inl rfl)); replace HB := Aside0.mk (below_step (qW8) hb); replace HI0 := Aside0.mk (IsS54.below (qW3) hb); clear hb ho45; obtain ⟨Ao46, co46, eo46⟩ := Kd.R_slice HO123.out; subst eo46) | ((with_reducible refine gate_callee (f := 42) rfl ?_); refine goesL_ (some 15) rfl rfl Tryd.func42 (by kernel_rfl) rfl #[.pointer (some ⟨g, 0, none⟩), .slice Ao46 y121.length co46] rfl (qW1) ?_; (with_reducible refine (spec_l1Cur_among.calls g s0_0 x1001_1 x1002_1 _ _ y121 t124 t125 t126 w0 _ ?side1 ?side2 ?side3 ?side4 ?side5 A7.out).mono ?_); (case side1 => exact (qW3)); (case side2 => exact (qW8)); (case side3 => exact (qW6 HO123.out)); (case side4 => exact (qW41 HO123.out)); (case side5 => exact (qW47 HO123.out)); rintro e w47 ⟨rfl, hi, hb, hk⟩; refine ⟨_, rfl, ?_⟩; replace HO_3 := Aside0.mk (Kd.R_mono (Kd.R_keep (IsS54.apart (show IsS54 w0 _ g s0_0 x1001_1 x1002_1 from (qW3)) (qW2 HO_3.out) (by decide)) hk (fun _ h => h.2)) (fun _ h => h.1)); replace HO123 := Aside0.mk (Kd.R_mono (Kd.R_keep (IsS54.apart (show IsS54 w0 _ g s0_0 x1001_1 x1002_1 from (qW3)) (qW2 HO123.out) (by decide)) hk (fun _ h => h.2)) (fun _ h => h.1)); replace HK := Aside0.mk (KeepBut.trans (qW4) hk (.inl rfl)); replace HB := Aside0.mk (hb); replace HI0 := Aside0.mk (hi); clear hb hk hi) | ((with_reducible refine gate_dst (N := 17) rfl ?_); refine Kd.R_lit (Kd.int .i64) _ 3 ?hg (N := 17) ?hd (xs := ([(-500), (-10), 0, 5, 10, 120] : List Int)) (inner := [.int .i64 (-500), .int .i64 (-10), .int .i64 0, .int .i64 5, .int .i64 10, .int .i64 120]) (ok := fun _ => True) (okp := fun _ => True) ?hr ?hp (fun _ hk => hk) trivial (Below.refl _ _) (Nat.le_refl _) (by simp) ?_; (case hd => rfl); (case hg => rfl); (case hr => exact (qW22)); (case hp => exact (qW37)); intro v128 w48 ho49 hb hg_ hnew_; clear hg_ hnew_; (first | rw [← Ny127.out] at ho49 | (simp only [Int.reduceToNat] at ho49; rw [← Ny127.out] at ho49)); replace HO_3 := Aside0.mk (Kd.R_below (qW2 HO_3.out) hb); have HO129 := Aside0.mk (Kd.R_lower (Kd.R_new' ho49 (Kd.R_lt (qW2 HO123.out))) (keep_size (w := w) (g := g) (row := none) (qW4))); replace HO123 := Aside0.mk (Kd.R_elder' (qW2 HO123.out) (Kd.R_base ho49) hb); replace HK := Aside0.mk (KeepBut.trans (qW4) (KeepBut.of_below hb g none) (.inl rfl)); replace HB := Aside0.mk (below_step (qW8) hb); replace HI0 := Aside0.mk (IsS54.below (qW3) hb); clear hb ho49; obtain ⟨Ao50, co50, eo50⟩ := Kd.R_slice HO129.out; subst eo50) | ((with_reducible refine gate_callee (f := 42) rfl ?_); refine goesL_ (some 18) rfl rfl Tryd.func42 (by kernel_rfl) rfl #[.pointer (some ⟨g, 0, none⟩), .slice Ao50 y127.length co50] rfl (qW1) ?_; (with_reducible refine (spec_l1Cur_among.calls g s0_0 t125 t126 _ _ y127 t130 t131 t132 w0 _ ?side1 ?side2 ?side3 ?side4 ?side5 A8.out).mono ?_); (case side1 => exact (qW3)); (case side2 => exact (qW8)); (case side3 => exact (qW6 HO129.out)); (case side4 => exact (qW41 HO129.out)); (case side5 => exact (qW47 HO129.out)); rintro e w51 ⟨rfl, hi, hb, hk⟩; refine ⟨_, rfl, ?_⟩; replace HO_3 := Aside0.mk (Kd.R_mono (Kd.R_keep (IsS54.apart (show IsS54 w0 _ g s0_0 t125 t126 from (qW3)) (qW2 HO_3.out) (by decide)) hk (fun _ h => h.2)) (fun _ h => h.1)); replace HO123 := Aside0.mk (Kd.R_mono (Kd.R_keep (IsS54.apart (show IsS54 w0 _ g s0_0 t125 t126 from (qW3)) (qW2 HO123.out) (by decide)) hk (fun _ h => h.2)) (fun _ h => h.1)); replace HO129 := Aside0.mk (Kd.R_mono (Kd.R_keep (IsS54.apart (show IsS54 w0 _ g s0_0 t125 t126 from (qW3)) (qW2 HO129.out) (by decide)) hk (fun _ h => h.2)) (fun _ h => h.1)); replace HK := Aside0.mk (KeepBut.trans (qW4) hk (.inl rfl)); replace HB := Aside0.mk (hb); replace HI0 := Aside0.mk (hi); clear hb hk hi) | ((with_reducible refine gate_dst (N := 5) rfl ?_); refine box_event ?hg (N := 5) ?hd (cs := #[.int .i64 0, .int .i64 0]) (t := 44) ?hr ?_; (case hd => rfl); (case hg => rfl); (case hr => exact (qW22)); intro gb133 hg w52 hbox hb; replace HO_3 := Aside0.mk (Kd.R_below (Kd.R_elderB (qW2 HO_3.out) gb133 (Nat.le_of_eq hg.symm)) hb); replace HO123 := Aside0.mk (Kd.R_below (qW2 HO123.out) hb); replace HO129 := Aside0.mk (Kd.R_below (qW2 HO129.out) hb); replace HB := Aside0.mk (below_step (qW8) hb); have BK133 := Aside0.mk (hbox); have GW133 := Aside0.mk ((by rw [hg]; exact (keep_size (w := w) (g := g) (row := none) (qW4)) : w.heap.size ≤ gb133)); have GE133 := Aside0.mk ((Nat.le_trans HW0.out (by rw [hg]; exact (keep_size (w := w) (g := g) (row := none) (qW4)) : w.heap.size ≤ gb133) : w0.heap.size ≤ gb133)); replace HK := Aside0.mk (KeepBut.trans (qW4) (KeepBut.of_below hb g none) (.inl rfl)); have NB0_133 := Aside0.mk ((by rw [hg]; exact Nat.ne_of_lt (IsS54.lt (show IsS54 w0 _ g s0_0 t131 t132 from (qW3))) : g ≠ gb133)); have NB133_0 := Aside0.mk ((by rw [hg]; exact Nat.ne_of_gt (IsS54.lt (show IsS54 w0 _ g s0_0 t131 t132 from (qW3))) : gb133 ≠ g)); replace HI0 := Aside0.mk (IsS54.below (qW3) hb); clear hb hbox hg; have hnb53 := NB133_0.out; have hnc53 := NB0_133.out; have hcz54_0 : w52.cell? ⟨gb133, 0, none⟩ = some (.int .i64 0) := (blk_cell BK133.out 0).trans rfl; have hcz54_1 : w52.cell? ⟨gb133, 1, none⟩ = some (.int .i64 0) := (blk_cell BK133.out 1).trans rfl; have hfz54_0 := blk_frozen BK133.out 0; have hfz54_1 := blk_frozen BK133.out 1) | ((with_reducible refine gate_builtin (b := .append) (xs := #[.tmp 34, .tmp 36]) rfl ?_); at_builtin; refine Kd.R_append k44 w.heap.size rfl (.tmp 34) (.tmp 36) 24 44 (.agg #[(.int .i64 0), (.int .i64 0)]) 16 rfl Tryd.underlying24 info44 rfl (by decide) (by omega) u3 x3_1 (⟨t124, t130⟩ : S44) [.int .i64 t124, .int .i64 t130] (fun k_ => k_ ≠ gb133) (fun _ => False) rfl (qW22) ?aP (fun _ hk => hk.elim) ?aF ?aO (Below.refl _ _) ?aS ?aL ?_; (case aP => exact (qW69)); (case aF => exact (qW74)); (case aO => exact (qW57)); (case aS => exact (qW72)); (case aL => have := LMc43.out; omega); intro v144 w55 ho hb hg hat; rw [← Ny143.out] at ho; replace HO123 := Aside0.mk (Kd.R_over' (qW31 HO123.out BK133.out) (Kd.R_typed (qW34)) (by decide) hg); replace HO129 := Aside0.mk (Kd.R_over' (qW31 HO129.out BK133.out) (Kd.R_typed (qW34)) (by decide) hg); replace BK133 := Aside0.mk (blk_grown (g := gb133) (o := .cells #[.int .i64 t124, .int .i64 t130] 44 (0, 0)) (qW28) hg (Kd.R_away HO_3.out (fun _ hk => hk.2))); replace HB := Aside0.mk (below_weaken (qW21 GE133.out) HL.out hb); replace HI0 := Aside0.mk (IsS54.grown (show IsS54 w0 _ g s0_0 t131 t132 from (qW11 NB0_133.out)) hg (IsS54.own_ne HI0.out HO_3.out (by decide))); replace HK := Aside0.mk (KeepBut.trans (qW17 GW133.out) (KeepBut.of_grown hg g) (Kd.R_base2 HO_3.out)); have HO145 := Aside0.mk (ho); clear HO_3; clear ho hb hg hat))
       go_roundg k1
       case measure => have := HK1.out; omega
       case rel => exact ⟨(y143), (wrap64 (x4_1 - 1)), (t131), (t132), (qW14), H', ⟨by have := HK1.out; omega⟩, ⟨(qW43 HO145.out)⟩, ⟨(qW11 NB0_133.out)⟩, ⟨(qW17 GW133.out)⟩, ⟨(qW21 GE133.out)⟩⟩
      ·rw [if_neg c43] at H
       exact absurd H (by simp)
    ·rw [if_neg c9] at H
     have c9b0 : (t124 == 0) = false := beq_eq_false_iff_ne.mpr c9
     have c9b1 : (t124 != 0) = true := bne_iff_ne.mpr c9
     by_cases c56 : x3_1.length < 8796093022208
     ·rw [if_pos c56] at H; have LMc56 := Aside0.mk c56; clear c56
      obtain ⟨y146, hy146⟩ : ∃ y_ : List (S44), y_ = (x3_1 ++ [(⟨t124, t130⟩ : S44)]) := ⟨_, rfl⟩
      replace H : (spec_l1Cur_way14.l0 k1 y146 (wrap64 (x4_1 - 1)) s0_0 t131 t132) = some (r1, r2, r3) := (qW7 hy146)
      have Ny146 := Aside0.mk hy146; clear hy146
      have H' := Aside0.mk H
      clear H
      go_wp2_with (first | ((with_reducible refine gate_dst (N := 14) rfl ?_); refine Kd.R_lit (Kd.int .i64) _ 3 ?hg (N := 14) ?hd (xs := ([0, 10, 10, 25, 300, 500] : List Int)) (inner := [.int .i64 0, .int .i64 10, .int .i64 10, .int .i64 25, .int .i64 300, .int .i64 500]) (ok := fun _ => True) (okp := fun _ => True) ?hr ?hp (fun _ hk => hk) trivial (Below.refl _ _) (Nat.le_refl _) (by simp) ?_; (case hd => rfl); (case hg => rfl); (case hr => exact (qW22)); (case hp => exact (qW40)); intro v122 w57 ho58 hb hg_ hnew_; clear hg_ hnew_; (first | rw [← Ny121.out] at ho58 | (simp only [Int.reduceToNat] at ho58; rw [← Ny121.out] at ho58)); replace HO_3 := Aside0.mk (Kd.R_below (qW2 HO_3.out) hb); have HO123 := Aside0.mk (Kd.R_lower ho58 (keep_size (w := w) (g := g) (row := none) (qW4))); replace HK := Aside0.mk (KeepBut.trans (qW4) (KeepBut.of_below hb g none) (.inl rfl)); replace HB := Aside0.mk (below_step (qW8) hb); replace HI0 := Aside0.mk (IsS54.below (qW3) hb); clear hb ho58; obtain ⟨Ao59, co59, eo59⟩ := Kd.R_slice HO123.out; subst eo59) | ((with_reducible refine gate_callee (f := 42) rfl ?_); refine goesL_ (some 15) rfl rfl Tryd.func42 (by kernel_rfl) rfl #[.pointer (some ⟨g, 0, none⟩), .slice Ao59 y121.length co59] rfl (qW1) ?_; (with_reducible refine (spec_l1Cur_among.calls g s0_0 x1001_1 x1002_1 _ _ y121 t124 t125 t126 w0 _ ?side1 ?side2 ?side3 ?side4 ?side5 A7.out).mono ?_); (case side1 => exact (qW3)); (case side2 => exact (qW8)); (case side3 => exact (qW6 HO123.out)); (case side4 => exact (qW41 HO123.out)); (case side5 => exact (qW47 HO123.out)); rintro e w60 ⟨rfl, hi, hb, hk⟩; refine ⟨_, rfl, ?_⟩; replace HO_3 := Aside0.mk (Kd.R_mono (Kd.R_keep (IsS54.apart (show IsS54 w0 _ g s0_0 x1001_1 x1002_1 from (qW3)) (qW2 HO_3.out) (by decide)) hk (fun _ h => h.2)) (fun _ h => h.1)); replace HO123 := Aside0.mk (Kd.R_mono (Kd.R_keep (IsS54.apart (show IsS54 w0 _ g s0_0 x1001_1 x1002_1 from (qW3)) (qW2 HO123.out) (by decide)) hk (fun _ h => h.2)) (fun _ h => h.1)); replace HK := Aside0.mk (KeepBut.trans (qW4) hk (.inl rfl)); replace HB := Aside0.mk (hb); replace HI0 := Aside0.mk (hi); clear hb hk hi) | ((with_reducible refine gate_dst (N := 17) rfl ?_); refine Kd.R_lit (Kd.int .i64) _ 3 ?hg (N := 17) ?hd (xs := ([(-500), (-10), 0, 5, 10, 120] : List Int)) (inner := [.int .i64 (-500), .int .i64 (-10), .int .i64 0, .int .i64 5, .int .i64 10, .int .i64 120]) (ok := fun _ => True) (okp := fun _ => True) ?hr ?hp (fun _ hk => hk) trivial (Below.refl _ _) (Nat.le_refl _) (by simp) ?_; (case hd => rfl); (case hg => rfl); (case hr => exact (qW22)); (case hp => exact (qW37)); intro v128 w61 ho62 hb hg_ hnew_; clear hg_ hnew_; (first | rw [← Ny127.out] at ho62 | (simp only [Int.reduceToNat] at ho62; rw [← Ny127.out] at ho62)); replace HO_3 := Aside0.mk (Kd.R_below (qW2 HO_3.out) hb); have HO129 := Aside0.mk (Kd.R_lower (Kd.R_new' ho62 (Kd.R_lt (qW2 HO123.out))) (keep_size (w := w) (g := g) (row := none) (qW4))); replace HO123 := Aside0.mk (Kd.R_elder' (qW2 HO123.out) (Kd.R_base ho62) hb); replace HK := Aside0.mk (KeepBut.trans (qW4) (KeepBut.of_below hb g none) (.inl rfl)); replace HB := Aside0.mk (below_step (qW8) hb); replace HI0 := Aside0.mk (IsS54.below (qW3) hb); clear hb ho62; obtain ⟨Ao63, co63, eo63⟩ := Kd.R_slice HO129.out; subst eo63) | ((with_reducible refine gate_callee (f := 42) rfl ?_); refine goesL_ (some 18) rfl rfl Tryd.func42 (by kernel_rfl) rfl #[.pointer (some ⟨g, 0, none⟩), .slice Ao63 y127.length co63] rfl (qW1) ?_; (with_reducible refine (spec_l1Cur_among.calls g s0_0 t125 t126 _ _ y127 t130 t131 t132 w0 _ ?side1 ?side2 ?side3 ?side4 ?side5 A8.out).mono ?_); (case side1 => exact (qW3)); (case side2 => exact (qW8)); (case side3 => exact (qW6 HO129.out)); (case side4 => exact (qW41 HO129.out)); (case side5 => exact (qW47 HO129.out)); rintro e w64 ⟨rfl, hi, hb, hk⟩; refine ⟨_, rfl, ?_⟩; replace HO_3 := Aside0.mk (Kd.R_mono (Kd.R_keep (IsS54.apart (show IsS54 w0 _ g s0_0 t125 t126 from (qW3)) (qW2 HO_3.out) (by decide)) hk (fun _ h => h.2)) (fun _ h => h.1)); replace HO123 := Aside0.mk (Kd.R_mono (Kd.R_keep (IsS54.apart (show IsS54 w0 _ g s0_0 t125 t126 from (qW3)) (qW2 HO123.out) (by decide)) hk (fun _ h => h.2)) (fun _ h => h.1)); replace HO129 := Aside0.mk (Kd.R_mono (Kd.R_keep (IsS54.apart (show IsS54 w0 _ g s0_0 t125 t126 from (qW3)) (qW2 HO129.out) (by decide)) hk (fun _ h => h.2)) (fun _ h => h.1)); replace HK := Aside0.mk (KeepBut.trans (qW4) hk (.inl rfl)); replace HB := Aside0.mk (hb); replace HI0 := Aside0.mk (hi); clear hb hk hi) | ((with_reducible refine gate_dst (N := 5) rfl ?_); refine box_event ?hg (N := 5) ?hd (cs := #[.int .i64 0, .int .i64 0]) (t := 44) ?hr ?_; (case hd => rfl); (case hg => rfl); (case hr => exact (qW22)); intro gb133 hg w65 hbox hb; replace HO_3 := Aside0.mk (Kd.R_below (Kd.R_elderB (qW2 HO_3.out) gb133 (Nat.le_of_eq hg.symm)) hb); replace HO123 := Aside0.mk (Kd.R_below (qW2 HO123.out) hb); replace HO129 := Aside0.mk (Kd.R_below (qW2 HO129.out) hb); replace HB := Aside0.mk (below_step (qW8) hb); have BK133 := Aside0.mk (hbox); have GW133 := Aside0.mk ((by rw [hg]; exact (keep_size (w := w) (g := g) (row := none) (qW4)) : w.heap.size ≤ gb133)); have GE133 := Aside0.mk ((Nat.le_trans HW0.out (by rw [hg]; exact (keep_size (w := w) (g := g) (row := none) (qW4)) : w.heap.size ≤ gb133) : w0.heap.size ≤ gb133)); replace HK := Aside0.mk (KeepBut.trans (qW4) (KeepBut.of_below hb g none) (.inl rfl)); have NB0_133 := Aside0.mk ((by rw [hg]; exact Nat.ne_of_lt (IsS54.lt (show IsS54 w0 _ g s0_0 t131 t132 from (qW3))) : g ≠ gb133)); have NB133_0 := Aside0.mk ((by rw [hg]; exact Nat.ne_of_gt (IsS54.lt (show IsS54 w0 _ g s0_0 t131 t132 from (qW3))) : gb133 ≠ g)); replace HI0 := Aside0.mk (IsS54.below (qW3) hb); clear hb hbox hg; have hnb66 := NB133_0.out; have hnc66 := NB0_133.out; have hcz67_0 : w65.cell? ⟨gb133, 0, none⟩ = some (.int .i64 0) := (blk_cell BK133.out 0).trans rfl; have hcz67_1 : w65.cell? ⟨gb133, 1, none⟩ = some (.int .i64 0) := (blk_cell BK133.out 1).trans rfl; have hfz67_0 := blk_frozen BK133.out 0; have hfz67_1 := blk_frozen BK133.out 1) | ((with_reducible refine gate_builtin (b := .append) (xs := #[.tmp 34, .tmp 36]) rfl ?_); at_builtin; refine Kd.R_append k44 w.heap.size rfl (.tmp 34) (.tmp 36) 24 44 (.agg #[(.int .i64 0), (.int .i64 0)]) 16 rfl Tryd.underlying24 info44 rfl (by decide) (by omega) u3 x3_1 (⟨t124, t130⟩ : S44) [.int .i64 t124, .int .i64 t130] (fun k_ => k_ ≠ gb133) (fun _ => False) rfl (qW22) ?aP (fun _ hk => hk.elim) ?aF ?aO (Below.refl _ _) ?aS ?aL ?_; (case aP => exact (qW69)); (case aF => exact (qW74)); (case aO => exact (qW57)); (case aS => exact (qW72)); (case aL => have := LMc56.out; omega); intro v147 w68 ho hb hg hat; rw [← Ny146.out] at ho; replace HO123 := Aside0.mk (Kd.R_over' (qW31 HO123.out BK133.out) (Kd.R_typed (qW34)) (by decide) hg); replace HO129 := Aside0.mk (Kd.R_over' (qW31 HO129.out BK133.out) (Kd.R_typed (qW34)) (by decide) hg); replace BK133 := Aside0.mk (blk_grown (g := gb133) (o := .cells #[.int .i64 t124, .int .i64 t130] 44 (0, 0)) (qW28) hg (Kd.R_away HO_3.out (fun _ hk => hk.2))); replace HB := Aside0.mk (below_weaken (qW21 GE133.out) HL.out hb); replace HI0 := Aside0.mk (IsS54.grown (show IsS54 w0 _ g s0_0 t131 t132 from (qW11 NB0_133.out)) hg (IsS54.own_ne HI0.out HO_3.out (by decide))); replace HK := Aside0.mk (KeepBut.trans (qW17 GW133.out) (KeepBut.of_grown hg g) (Kd.R_base2 HO_3.out)); have HO148 := Aside0.mk (ho); clear HO_3; clear ho hb hg hat))
      go_roundg k1
      case measure => have := HK1.out; omega
      case rel => exact ⟨(y146), (wrap64 (x4_1 - 1)), (t131), (t132), (qW14), H', ⟨by have := HK1.out; omega⟩, ⟨(qW43 HO148.out)⟩, ⟨(qW11 NB0_133.out)⟩, ⟨(qW17 GW133.out)⟩, ⟨(qW21 GE133.out)⟩⟩
     ·rw [if_neg c56] at H
      exact absurd H (by simp)
   ·rw [if_neg c6] at H
    have c6b0 : decide (0 < x4_1) = false := decide_eq_false c6
    clear c6; replace H := Option.bind_eq_some_iff.mp H; obtain ⟨⟨t149, t150, t151⟩, A690, H⟩ := H
    try dsimp only at H
    have A69 := Aside0.mk A690; clear A690
    by_cases c70 : t149 = 0
    ·rw [if_pos c70] at H
     have c70b0 : (t149 == 0) = true := beq_iff_eq.mpr c70
     have c70b1 : (t149 != 0) = false := bne_eq_false_iff_eq.mpr c70
     clear c70
     obtain ⟨y152, hy152⟩ : ∃ y_ : List Int, y_ = (([(-1), 501] : List Int)) := ⟨_, rfl⟩
     replace H : ((spec_l1Cur_among.f s0_0 t150 t151 y152).bind fun bt155 => (if x3_1.length < 8796093022208 then (some ((x3_1 ++ [(⟨bt155.1, 3⟩ : S44)]), bt155.2.1, bt155.2.2)) else (none))) = some (r1, r2, r3) := (qW7 hy152)
     have Ny152 := Aside0.mk hy152; clear hy152; replace H := Option.bind_eq_some_iff.mp H; obtain ⟨⟨t155, t156, t157⟩, A710, H⟩ := H
     try dsimp only at H
     have A71 := Aside0.mk A710; clear A710
     by_cases c72 : x3_1.length < 8796093022208
     ·rw [if_pos c72] at H; have LMc72 := Aside0.mk c72; clear c72
      obtain ⟨y158, hy158⟩ : ∃ y_ : List (S44), y_ = (x3_1 ++ [(⟨t155, 3⟩ : S44)]) := ⟨_, rfl⟩
      replace H : (some (y158, t156, t157)) = some (r1, r2, r3) := (qW7 hy158)
      have Ny158 := Aside0.mk hy158; clear hy158
      simp only [Option.some.injEq, Prod.mk.injEq] at H
      obtain ⟨rfl, rfl, rfl⟩ := H
      go_wp2_with (first | ((with_reducible refine gate_callee (f := 31) rfl ?_); refine goesL_ (some 39) rfl rfl Tryd.func31 (by kernel_rfl) rfl #[.pointer (some ⟨g, 0, none⟩), .int .i64 40] rfl (qW1) ?_; (with_reducible refine (spec_l1Cur_pick.calls g s0_0 x1001_1 x1002_1 40 t149 t150 t151 w0 _ ?side1 ?side2 A69.out).mono ?_); (case side1 => exact (qW3)); (case side2 => exact (qW8)); rintro e w73 ⟨rfl, hi, hb, hk⟩; refine ⟨_, rfl, ?_⟩; replace HO_3 := Aside0.mk (Kd.R_mono (Kd.R_keep (IsS54.apart (show IsS54 w0 _ g s0_0 x1001_1 x1002_1 from (qW3)) (qW2 HO_3.out) (by decide)) hk (fun _ h => h.2)) (fun _ h => h.1)); replace HK := Aside0.mk (KeepBut.trans (qW4) hk (.inl rfl)); replace HB := Aside0.mk (hb); replace HI0 := Aside0.mk (hi); clear hb hk hi) | ((with_reducible refine gate_dst (N := 44) rfl ?_); refine Kd.R_lit (Kd.int .i64) _ 3 ?hg (N := 44) ?hd (xs := ([(-1), 501] : List Int)) (inner := [.int .i64 (-1), .int .i64 501]) (ok := fun _ => True) (okp := fun _ => True) ?hr ?hp (fun _ hk => hk) trivial (Below.refl _ _) (Nat.le_refl _) (by simp) ?_; (case hd => rfl); (case hg => rfl); (case hr => exact (qW22)); (case hp => exact (by exact (Reps.one (show Kd.M (Kd.int .i64) _ _ _ (-1) [.int .i64 (-1)] from rfl) (Reps.one (show Kd.M (Kd.int .i64) _ _ _ 501 [.int .i64 501] from rfl) (Reps.none _ _))))); intro v153 w74 ho75 hb hg_ hnew_; clear hg_ hnew_; (first | rw [← Ny152.out] at ho75 | (simp only [Int.reduceToNat] at ho75; rw [← Ny152.out] at ho75)); replace HO_3 := Aside0.mk (Kd.R_below (qW2 HO_3.out) hb); have HO154 := Aside0.mk (Kd.R_lower ho75 (keep_size (w := w) (g := g) (row := none) (qW4))); replace HK := Aside0.mk (KeepBut.trans (qW4) (KeepBut.of_below hb g none) (.inl rfl)); replace HB := Aside0.mk (below_step (qW8) hb); replace HI0 := Aside0.mk (IsS54.below (qW3) hb); clear hb ho75; obtain ⟨Ao76, co76, eo76⟩ := Kd.R_slice HO154.out; subst eo76) | ((with_reducible refine gate_callee (f := 42) rfl ?_); refine goesL_ (some 45) rfl rfl Tryd.func42 (by kernel_rfl) rfl #[.pointer (some ⟨g, 0, none⟩), .slice Ao76 y152.length co76] rfl (qW1) ?_; (with_reducible refine (spec_l1Cur_among.calls g s0_0 t150 t151 _ _ y152 t155 t156 t157 w0 _ ?side1 ?side2 ?side3 ?side4 ?side5 A71.out).mono ?_); (case side1 => exact (qW3)); (case side2 => exact (qW8)); (case side3 => exact (qW6 HO154.out)); (case side4 => exact (qW41 HO154.out)); (case side5 => exact (qW47 HO154.out)); rintro e w77 ⟨rfl, hi, hb, hk⟩; refine ⟨_, rfl, ?_⟩; replace HO_3 := Aside0.mk (Kd.R_mono (Kd.R_keep (IsS54.apart (show IsS54 w0 _ g s0_0 t150 t151 from (qW3)) (qW2 HO_3.out) (by decide)) hk (fun _ h => h.2)) (fun _ h => h.1)); replace HO154 := Aside0.mk (Kd.R_mono (Kd.R_keep (IsS54.apart (show IsS54 w0 _ g s0_0 t150 t151 from (qW3)) (qW2 HO154.out) (by decide)) hk (fun _ h => h.2)) (fun _ h => h.1)); replace HK := Aside0.mk (KeepBut.trans (qW4) hk (.inl rfl)); replace HB := Aside0.mk (hb); replace HI0 := Aside0.mk (hi); clear hb hk hi) | ((with_reducible refine gate_builtin (b := .append) (xs := #[.tmp 42, .tmp 47]) rfl ?_); at_builtin; refine Kd.R_append k44 w.heap.size rfl (.tmp 42) (.tmp 47) 24 44 (.agg #[(.int .i64 0), (.int .i64 0)]) 16 rfl Tryd.underlying24 info44 rfl (by decide) (by omega) u3 x3_1 (⟨t155, 3⟩ : S44) [.int .i64 t155, .int .i64 3] (fun _ => True) (fun _ => False) rfl rfl ?aP (fun _ hk => hk.elim) ?aF ?aO (Below.refl _ _) ?aS ?aL ?_; (case aP => exact (by exact k44_mkM _ _ _ (⟨t155, 3⟩ : S44))); (case aF => exact (fun _ _ => trivial)); (case aO => exact (qW2 HO_3.out)); (case aS => exact (qW76)); (case aL => have := LMc72.out; omega); intro v159 w78 ho hb hg hat; rw [← Ny158.out] at ho; replace HO154 := Aside0.mk (Kd.R_over' (qW2 HO154.out) (Kd.R_typed (qW2 HO_3.out)) (by decide) hg); replace HB := Aside0.mk (below_weaken (qW8) HL.out hb); replace HI0 := Aside0.mk (IsS54.grown (show IsS54 w0 _ g s0_0 t156 t157 from (qW3)) hg (IsS54.own_ne HI0.out HO_3.out (by decide))); replace HK := Aside0.mk (KeepBut.trans (qW4) (KeepBut.of_grown hg g) (Kd.R_base2 HO_3.out)); have HO160 := Aside0.mk (ho); clear HO_3; clear ho hb hg hat))
      go_ret
      exact ⟨_, (qW9), (qW2 HO160.out), (qW3), (qW8), (qW4)⟩
     ·rw [if_neg c72] at H
      exact absurd H (by simp)
    ·rw [if_neg c70] at H
     have c70b0 : (t149 == 0) = false := beq_eq_false_iff_ne.mpr c70
     have c70b1 : (t149 != 0) = true := bne_iff_ne.mpr c70
     by_cases c79 : t149 = 1
     ·rw [if_pos c79] at H
      have c79b0 : (t149 == 1) = true := beq_iff_eq.mpr c79
      have c79b1 : (t149 != 1) = false := bne_eq_false_iff_eq.mpr c79
      clear c79
      obtain ⟨y161, hy161⟩ : ∃ y_ : List Int, y_ = (([(-501), 501] : List Int)) := ⟨_, rfl⟩
      replace H : ((spec_l1Cur_among.f s0_0 t150 t151 y161).bind fun bt164 => (if x3_1.length < 8796093022208 then (some ((x3_1 ++ [(⟨3, bt164.1⟩ : S44)]), bt164.2.1, bt164.2.2)) else (none))) = some (r1, r2, r3) := (qW7 hy161)
      have Ny161 := Aside0.mk hy161; clear hy161; replace H := Option.bind_eq_some_iff.mp H; obtain ⟨⟨t164, t165, t166⟩, A800, H⟩ := H
      try dsimp only at H
      have A80 := Aside0.mk A800; clear A800
      by_cases c81 : x3_1.length < 8796093022208
      ·rw [if_pos c81] at H; have LMc81 := Aside0.mk c81; clear c81
       obtain ⟨y167, hy167⟩ : ∃ y_ : List (S44), y_ = (x3_1 ++ [(⟨3, t164⟩ : S44)]) := ⟨_, rfl⟩
       replace H : (some (y167, t165, t166)) = some (r1, r2, r3) := (qW7 hy167)
       have Ny167 := Aside0.mk hy167; clear hy167
       simp only [Option.some.injEq, Prod.mk.injEq] at H
       obtain ⟨rfl, rfl, rfl⟩ := H
       go_wp2_with (first | ((with_reducible refine gate_callee (f := 31) rfl ?_); refine goesL_ (some 39) rfl rfl Tryd.func31 (by kernel_rfl) rfl #[.pointer (some ⟨g, 0, none⟩), .int .i64 40] rfl (qW1) ?_; (with_reducible refine (spec_l1Cur_pick.calls g s0_0 x1001_1 x1002_1 40 t149 t150 t151 w0 _ ?side1 ?side2 A69.out).mono ?_); (case side1 => exact (qW3)); (case side2 => exact (qW8)); rintro e w82 ⟨rfl, hi, hb, hk⟩; refine ⟨_, rfl, ?_⟩; replace HO_3 := Aside0.mk (Kd.R_mono (Kd.R_keep (IsS54.apart (show IsS54 w0 _ g s0_0 x1001_1 x1002_1 from (qW3)) (qW2 HO_3.out) (by decide)) hk (fun _ h => h.2)) (fun _ h => h.1)); replace HK := Aside0.mk (KeepBut.trans (qW4) hk (.inl rfl)); replace HB := Aside0.mk (hb); replace HI0 := Aside0.mk (hi); clear hb hk hi) | ((with_reducible refine gate_dst (N := 53) rfl ?_); refine Kd.R_lit (Kd.int .i64) _ 3 ?hg (N := 53) ?hd (xs := ([(-501), 501] : List Int)) (inner := [.int .i64 (-501), .int .i64 501]) (ok := fun _ => True) (okp := fun _ => True) ?hr ?hp (fun _ hk => hk) trivial (Below.refl _ _) (Nat.le_refl _) (by simp) ?_; (case hd => rfl); (case hg => rfl); (case hr => exact (qW22)); (case hp => exact (by exact (Reps.one (show Kd.M (Kd.int .i64) _ _ _ (-501) [.int .i64 (-501)] from rfl) (Reps.one (show Kd.M (Kd.int .i64) _ _ _ 501 [.int .i64 501] from rfl) (Reps.none _ _))))); intro v162 w83 ho84 hb hg_ hnew_; clear hg_ hnew_; (first | rw [← Ny161.out] at ho84 | (simp only [Int.reduceToNat] at ho84; rw [← Ny161.out] at ho84)); replace HO_3 := Aside0.mk (Kd.R_below (qW2 HO_3.out) hb); have HO163 := Aside0.mk (Kd.R_lower ho84 (keep_size (w := w) (g := g) (row := none) (qW4))); replace HK := Aside0.mk (KeepBut.trans (qW4) (KeepBut.of_below hb g none) (.inl rfl)); replace HB := Aside0.mk (below_step (qW8) hb); replace HI0 := Aside0.mk (IsS54.below (qW3) hb); clear hb ho84; obtain ⟨Ao85, co85, eo85⟩ := Kd.R_slice HO163.out; subst eo85) | ((with_reducible refine gate_callee (f := 42) rfl ?_); refine goesL_ (some 54) rfl rfl Tryd.func42 (by kernel_rfl) rfl #[.pointer (some ⟨g, 0, none⟩), .slice Ao85 y161.length co85] rfl (qW1) ?_; (with_reducible refine (spec_l1Cur_among.calls g s0_0 t150 t151 _ _ y161 t164 t165 t166 w0 _ ?side1 ?side2 ?side3 ?side4 ?side5 A80.out).mono ?_); (case side1 => exact (qW3)); (case side2 => exact (qW8)); (case side3 => exact (qW6 HO163.out)); (case side4 => exact (qW41 HO163.out)); (case side5 => exact (qW47 HO163.out)); rintro e w86 ⟨rfl, hi, hb, hk⟩; refine ⟨_, rfl, ?_⟩; replace HO_3 := Aside0.mk (Kd.R_mono (Kd.R_keep (IsS54.apart (show IsS54 w0 _ g s0_0 t150 t151 from (qW3)) (qW2 HO_3.out) (by decide)) hk (fun _ h => h.2)) (fun _ h => h.1)); replace HO163 := Aside0.mk (Kd.R_mono (Kd.R_keep (IsS54.apart (show IsS54 w0 _ g s0_0 t150 t151 from (qW3)) (qW2 HO163.out) (by decide)) hk (fun _ h => h.2)) (fun _ h => h.1)); replace HK := Aside0.mk (KeepBut.trans (qW4) hk (.inl rfl)); replace HB := Aside0.mk (hb); replace HI0 := Aside0.mk (hi); clear hb hk hi) | ((with_reducible refine gate_builtin (b := .append) (xs := #[.tmp 51, .tmp 56]) rfl ?_); at_builtin; refine Kd.R_append k44 w.heap.size rfl (.tmp 51) (.tmp 56) 24 44 (.agg #[(.int .i64 0), (.int .i64 0)]) 16 rfl Tryd.underlying24 info44 rfl (by decide) (by omega) u3 x3_1 (⟨3, t164⟩ : S44) [.int .i64 3, .int .i64 t164] (fun _ => True) (fun _ => False) rfl rfl ?aP (fun _ hk => hk.elim) ?aF ?aO (Below.refl _ _) ?aS ?aL ?_; (case aP => exact (by exact k44_mkM _ _ _ (⟨3, t164⟩ : S44))); (case aF => exact (fun _ _ => trivial)); (case aO => exact (qW2 HO_3.out)); (case aS => exact (qW76)); (case aL => have := LMc81.out; omega); intro v168 w87 ho hb hg hat; rw [← Ny167.out] at ho; replace HO163 := Aside0.mk (Kd.R_over' (qW2 HO163.out) (Kd.R_typed (qW2 HO_3.out)) (by decide) hg); replace HB := Aside0.mk (below_weaken (qW8) HL.out hb); replace HI0 := Aside0.mk (IsS54.grown (show IsS54 w0 _ g s0_0 t165 t166 from (qW3)) hg (IsS54.own_ne HI0.out HO_3.out (by decide))); replace HK := Aside0.mk (KeepBut.trans (qW4) (KeepBut.of_grown hg g) (Kd.R_base2 HO_3.out)); have HO169 := Aside0.mk (ho); clear HO_3; clear ho hb hg hat))
       go_ret
       exact ⟨_, (qW9), (qW2 HO169.out), (qW3), (qW8), (qW4)⟩
      ·rw [if_neg c81] at H
       exact absurd H (by simp)
     ·rw [if_neg c79] at H
      have c79b0 : (t149 == 1) = false := beq_eq_false_iff_ne.mpr c79
      have c79b1 : (t149 != 1) = true := bne_iff_ne.mpr c79
      by_cases c88 : t149 = 2
      ·rw [if_pos c88] at H
       have c88b0 : (t149 == 2) = true := beq_iff_eq.mpr c88
       have c88b1 : (t149 != 2) = false := bne_eq_false_iff_eq.mpr c88
       clear c88
       have H' := Aside0.mk H
       clear H
       go_wp2_with (first | ((with_reducible refine gate_callee (f := 31) rfl ?_); refine goesL_ (some 39) rfl rfl Tryd.func31 (by kernel_rfl) rfl #[.pointer (some ⟨g, 0, none⟩), .int .i64 40] rfl (qW1) ?_; (with_reducible refine (spec_l1Cur_pick.calls g s0_0 x1001_1 x1002_1 40 t149 t150 t151 w0 _ ?side1 ?side2 A69.out).mono ?_); (case side1 => exact (qW3)); (case side2 => exact (qW8)); rintro e w89 ⟨rfl, hi, hb, hk⟩; refine ⟨_, rfl, ?_⟩; replace HO_3 := Aside0.mk (Kd.R_mono (Kd.R_keep (IsS54.apart (show IsS54 w0 _ g s0_0 x1001_1 x1002_1 from (qW3)) (qW2 HO_3.out) (by decide)) hk (fun _ h => h.2)) (fun _ h => h.1)); replace HK := Aside0.mk (KeepBut.trans (qW4) hk (.inl rfl)); replace HB := Aside0.mk (hb); replace HI0 := Aside0.mk (hi); clear hb hk hi))
       try go_simp
       go_loopg [3] k1 (fun kq v3 w' => ∃ (x3_2 : List (S44)) (x1001_2 : Int) (x1002_2 : Int), Aside0 (spec_l1Cur_way14.l1 kq x3_2 s0_0 x1001_2 x1002_2 = some (r1, r2, r3)) ∧ Aside0 (kq ≤ k1) ∧ Aside0 (Kd.R k44 44 w' w.heap.size (fun _ => True) v3 x3_2) ∧ Aside0 (IsS54 w0 w' g s0_0 x1001_2 x1002_2) ∧ Aside0 (KeepBut w w' g none) ∧ Aside0 (Below w0.heap.size w0 w'))
       case atStart => exact ⟨(x3_1), (t150), (t151), H', ⟨Nat.le_refl _⟩, ⟨(qW2 HO_3.out)⟩, ⟨(qW3)⟩, ⟨(qW4)⟩, ⟨(qW8)⟩⟩
       case round =>
        clear H'
        try clear c1
        try clear c2
        try clear p2
        try clear c3
        try clear c4
        try clear c5
        try clear c6
        try clear c6b0
        try clear p6
        try clear c7
        try clear c8
        try clear c9
        try clear c9b0
        try clear c9b1
        try clear c10
        try clear c10b0
        try clear c10b1
        try clear c12
        try clear c13
        try clear c23
        try clear c28
        try clear c29
        try clear c31
        try clear c38
        try clear c42
        try clear c43
        try clear c53
        try clear c56
        try clear p64
        try clear c66
        try clear c70
        try clear c70b0
        try clear c70b1
        try clear c72
        try clear c79
        try clear c79b0
        try clear c79b1
        try clear c81
        try clear c88
        try clear c88b0
        try clear c88b1
        try clear hcz24_0
        try clear hcz24_1
        try clear hcz26_0
        try clear hcz26_1
        try clear hcz39_0
        try clear hcz39_1
        try clear hcz41_0
        try clear hcz41_1
        try clear hcz54_0
        try clear hcz54_1
        try clear hcz67_0
        try clear hcz67_1
        try clear hfz24_0
        try clear hfz24_1
        try clear hfz26_0
        try clear hfz26_1
        try clear hfz39_0
        try clear hfz39_1
        try clear hfz41_0
        try clear hfz41_1
        try clear hfz54_0
        try clear hfz54_1
        try clear hfz67_0
        try clear hfz67_1
        try clear p2
        obtain ⟨x3_2, x1001_2, x1002_2, HA, HK2, HO_3, HI0, HK, HB⟩ := hrel
        cases gk with
        | zero => exact absurd HA.out (by simp [spec_l1Cur_way14.l1])
        | succ k2 =>
         have H := HA.out
         clear HA
         simp only [spec_l1Cur_way14.l1] at H
         replace H := Option.bind_eq_some_iff.mp H; obtain ⟨⟨t170, t171, t172⟩, A900, H⟩ := H
         try dsimp only at H
         have A90 := Aside0.mk A900; clear A900
         by_cases c91 : (x3_2.length : Int) < (wrap64 (12 + t170))
         ·rw [if_pos c91] at H
          have c91b0 : decide ((x3_2.length : Int) < (wrap64 (12 + t170))) = true := decide_eq_true c91
          clear c91
          by_cases c92 : x3_2.length < 8796093022208
          ·rw [if_pos c92] at H; have LMc92 := Aside0.mk c92; clear c92
           obtain ⟨y173, hy173⟩ : ∃ y_ : List (S44), y_ = (x3_2 ++ [(⟨7, 0⟩ : S44)]) := ⟨_, rfl⟩
           replace H : (spec_l1Cur_way14.l1 k2 y173 s0_0 t171 t172) = some (r1, r2, r3) := (qW7 hy173)
           have Ny173 := Aside0.mk hy173; clear hy173
           have H' := Aside0.mk H
           clear H
           obtain ⟨Ao93, co93, eo93⟩ := Kd.R_slice HO_3.out
           subst eo93
           go_wp2_with (first | ((with_reducible refine gate_callee (f := 31) rfl ?_); refine goesL_ (some 63) rfl rfl Tryd.func31 (by kernel_rfl) rfl #[.pointer (some ⟨g, 0, none⟩), .int .i64 2] rfl (qW1) ?_; (with_reducible refine (spec_l1Cur_pick.calls g s0_0 x1001_2 x1002_2 2 t170 t171 t172 w0 _ ?side1 ?side2 A90.out).mono ?_); (case side1 => exact (qW3)); (case side2 => exact (qW8)); rintro e w94 ⟨rfl, hi, hb, hk⟩; refine ⟨_, rfl, ?_⟩; replace HO_3 := Aside0.mk (Kd.R_mono (Kd.R_keep (IsS54.apart (show IsS54 w0 _ g s0_0 x1001_2 x1002_2 from (qW3)) (qW2 HO_3.out) (by decide)) hk (fun _ h => h.2)) (fun _ h => h.1)); replace HK := Aside0.mk (KeepBut.trans (qW4) hk (.inl rfl)); replace HB := Aside0.mk (hb); replace HI0 := Aside0.mk (hi); clear hb hk hi) | ((with_reducible refine gate_builtin (b := .append) (xs := #[.tmp 66, .tmp 68]) rfl ?_); at_builtin; refine Kd.R_append k44 w.heap.size rfl (.tmp 66) (.tmp 68) 24 44 (.agg #[(.int .i64 0), (.int .i64 0)]) 16 rfl Tryd.underlying24 info44 rfl (by decide) (by omega) (.slice Ao93 x3_2.length co93) x3_2 (⟨7, 0⟩ : S44) [.int .i64 7, .int .i64 0] (fun _ => True) (fun _ => False) rfl rfl ?aP (fun _ hk => hk.elim) ?aF ?aO (Below.refl _ _) ?aS ?aL ?_; (case aP => exact (by exact k44_mkM _ _ _ (⟨7, 0⟩ : S44))); (case aF => exact (fun _ _ => trivial)); (case aO => exact (qW2 HO_3.out)); (case aS => exact (qW76)); (case aL => have := LMc92.out; omega); intro v174 w95 ho hb hg hat; rw [← Ny173.out] at ho; replace HB := Aside0.mk (below_weaken (qW8) HL.out hb); replace HI0 := Aside0.mk (IsS54.grown (show IsS54 w0 _ g s0_0 t171 t172 from (qW3)) hg (IsS54.own_ne HI0.out HO_3.out (by decide))); replace HK := Aside0.mk (KeepBut.trans (qW4) (KeepBut.of_grown hg g) (Kd.R_base2 HO_3.out)); have HO175 := Aside0.mk (ho); clear HO_3; clear ho hb hg hat))
           go_roundg k2
           case measure => have := HK1.out; have := HK2.out; omega
           case rel => exact ⟨(y173), (t171), (t172), H', ⟨by have := HK1.out; have := HK2.out; omega⟩, ⟨(qW2 HO175.out)⟩, ⟨(qW3)⟩, ⟨(qW4)⟩, ⟨(qW8)⟩⟩
          ·rw [if_neg c92] at H
           exact absurd H (by simp)
         ·rw [if_neg c91] at H
          have c91b0 : decide ((x3_2.length : Int) < (wrap64 (12 + t170))) = false := decide_eq_false c91
          clear c91
          simp only [Option.some.injEq, Prod.mk.injEq] at H
          obtain ⟨rfl, rfl, rfl⟩ := H
          obtain ⟨Ao96, co96, eo96⟩ := Kd.R_slice HO_3.out
          subst eo96
          go_wp2_with (first | ((with_reducible refine gate_callee (f := 31) rfl ?_); refine goesL_ (some 63) rfl rfl Tryd.func31 (by kernel_rfl) rfl #[.pointer (some ⟨g, 0, none⟩), .int .i64 2] rfl (qW1) ?_; (with_reducible refine (spec_l1Cur_pick.calls g s0_0 x1001_2 x1002_2 2 t170 t171 t172 w0 _ ?side1 ?side2 A90.out).mono ?_); (case side1 => exact (qW3)); (case side2 => exact (qW8)); rintro e w97 ⟨rfl, hi, hb, hk⟩; refine ⟨_, rfl, ?_⟩; replace HO_3 := Aside0.mk (Kd.R_mono (Kd.R_keep (IsS54.apart (show IsS54 w0 _ g s0_0 x1001_2 x1002_2 from (qW3)) (qW2 HO_3.out) (by decide)) hk (fun _ h => h.2)) (fun _ h => h.1)); replace HK := Aside0.mk (KeepBut.trans (qW4) hk (.inl rfl)); replace HB := Aside0.mk (hb); replace HI0 := Aside0.mk (hi); clear hb hk hi))
          go_ret
          exact ⟨_, (qW9), (qW2 HO_3.out), (qW3), (qW8), (qW4)⟩
      ·rw [if_neg c88] at H
       have c88b0 : (t149 == 2) = false := beq_eq_false_iff_ne.mpr c88
       have c88b1 : (t149 != 2) = true := bne_iff_ne.mpr c88
       simp only [Option.some.injEq, Prod.mk.injEq] at H
       obtain ⟨rfl, rfl, rfl⟩ := H
       go_wp2_with (first | ((with_reducible refine gate_callee (f := 31) rfl ?_); refine goesL_ (some 39) rfl rfl Tryd.func31 (by kernel_rfl) rfl #[.pointer (some ⟨g, 0, none⟩), .int .i64 40] rfl (qW1) ?_; (with_reducible refine (spec_l1Cur_pick.calls g s0_0 x1001_1 x1002_1 40 t149 t150 t151 w0 _ ?side1 ?side2 A69.out).mono ?_); (case side1 => exact (qW3)); (case side2 => exact (qW8)); rintro e w98 ⟨rfl, hi, hb, hk⟩; refine ⟨_, rfl, ?_⟩; replace HO_3 := Aside0.mk (Kd.R_mono (Kd.R_keep (IsS54.apart (show IsS54 w0 _ g s0_0 x1001_1 x1002_1 from (qW3)) (qW2 HO_3.out) (by decide)) hk (fun _ h => h.2)) (fun _ h => h.1)); replace HK := Aside0.mk (KeepBut.trans (qW4) hk (.inl rfl)); replace HB := Aside0.mk (hb); replace HI0 := Aside0.mk (hi); clear hb hk hi))
       go_ret
       exact ⟨_, (qW9), (qW2 HO_3.out), (qW3), (qW8), (qW4)⟩

/-! ### spec_DrawIsWay: function 22 -/
def spec_DrawIsWay.f (k : Nat) (l0 : List Int) : Option ((List (S44))) := (spec_l1Cur_way14.f k l0 0 0).bind fun bt177 => (some bt177.1)
theorem spec_DrawIsWay.mono : ∀ a0 k, LeO (spec_DrawIsWay.f k a0) (spec_DrawIsWay.f (k + 1) a0) := by
 intro a0 k
 unfold spec_DrawIsWay.f
 have m0 := @spec_l1Cur_way14.mono
 exact qmono
theorem spec_DrawIsWay.calls (k : Nat) (A0 : Option Addr) (c0 : Nat) (l0 : List Int) (r : List (S44)) (w : World) (hr0 : Kd.C (Kd.int .u8) w A0 l0.length l0) (hc0 : l0.length ≤ c0) (h : spec_DrawIsWay.f k l0 = some r) :
  Calls Tryd.prog 22 #[.slice A0 l0.length c0] w fun e w' => ∃ v0_ : Value, e = .returned (v0_) ∧ Kd.R k44 44 w' w.heap.size (fun _ => True) v0_ r ∧ Below w.heap.size w w' := by
 have hu54 := Tryd.underlying54
 have HR0 := Aside0.mk hr0; have HC0 := Aside0.mk hc0; clear hr0 hc0
 have HB := Aside0.mk (Below.refl w.heap.size w)
 have H : ((spec_l1Cur_way14.f k l0 0 0).bind fun bt177 => (some bt177.1)) = some r := h
 clear h; replace H := Option.bind_eq_some_iff.mp H; obtain ⟨⟨t177, t180, t181⟩, A20, H⟩ := H
 replace H : (some t177) = some r := H
 have A2 := Aside0.mk A20; clear A20; obtain rfl := Option.some.inj H
 go_enter Tryd.func22, Tryd.ntmps22
 go_wp2_with (first | ((with_reducible refine gate_dst (N := 6) rfl ?_); refine box_event ?hg (N := 6) ?hd (cs := #[.slice A0 l0.length c0, .int .i64 0, .int .u64 0]) (t := 54) ?hr ?_; (case hd => rfl); (case hg => rfl); (case hr => exact (qW22)); intro gb176 hg w3 hbox hb; have GW176 := Aside0.mk ((by rw [hg]; exact (below_size (qW0)) : w.heap.size ≤ gb176)); have GE176 := Aside0.mk ((by rw [hg]; exact (below_size (qW0)) : w.heap.size ≤ gb176)); have HI176 := Aside0.mk ((show IsS54 w w3 gb176 l0 0 0 from ⟨_, _, hbox, (by rw [hg]; exact (below_size (qW0))), HR0.out⟩)); replace HB := Aside0.mk (below_step (qW0) hb); clear hb hbox hg) | ((with_reducible refine gate_callee (f := 29) rfl ?_); refine goesL_ (some 8) rfl rfl Tryd.func29 (by kernel_rfl) rfl #[.pointer (some ⟨gb176, 0, none⟩)] rfl (qW1) ?_; (with_reducible refine (spec_l1Cur_way14.calls k gb176 l0 0 0 t177 t180 t181 w _ ?side1 ?side2 A2.out).mono ?_); (case side1 => exact (by repeat (first | (with_reducible first | exact HI176.out | apply IsS54.alloc | apply IsS54.drewN | apply IsS54.drew | apply IsS54.set_1 | apply IsS54.set_2) | exact HI176.out))); (case side2 => exact (qW53)); rintro e w4 ⟨v178, rfl, ho0, hi, hb, hk⟩; refine ⟨_, rfl, ?_⟩; have HO179 := Aside0.mk (Kd.R_lower ho0 (below_size (qW53))); replace HB := Aside0.mk (hb); replace HI176 := Aside0.mk (hi); clear hb hk hi ho0))
 go_ret
 exact ⟨_, (qW9), (qW2 HO179.out), (qW53)⟩

/-! ### spec_DrawPointsOf: function 5 -/
def spec_DrawPointsOf.f (k : Nat) (l0 : List Int) : Option ((List (S44))) := (spec_DrawIsWay.f k l0).bind fun t182 => (some t182)
theorem spec_DrawPointsOf.mono : ∀ a0 k, LeO (spec_DrawPointsOf.f k a0) (spec_DrawPointsOf.f (k + 1) a0) := by
 intro a0 k
 unfold spec_DrawPointsOf.f
 have m0 := @spec_DrawIsWay.mono
 exact qmono
theorem spec_DrawPointsOf.calls (k : Nat) (A0 : Option Addr) (c0 : Nat) (l0 : List Int) (r : List (S44)) (w : World) (hr0 : Kd.C (Kd.int .u8) w A0 l0.length l0) (hc0 : l0.length ≤ c0) (h : spec_DrawPointsOf.f k l0 = some r) :
  Calls Tryd.prog 5 #[.slice A0 l0.length c0] w fun e w' => ∃ v0_ : Value, e = .returned (v0_) ∧ Kd.R k44 44 w' w.heap.size (fun _ => True) v0_ r ∧ Below w.heap.size w w' := by
 have HR0 := Aside0.mk hr0; have HC0 := Aside0.mk hc0; clear hr0 hc0
 have HB := Aside0.mk (Below.refl w.heap.size w)
 have H : ((spec_DrawIsWay.f k l0).bind fun t182 => (some t182)) = some r := h
 clear h; replace H := Option.bind_eq_some_iff.mp H; obtain ⟨t182, A20, H⟩ := H
 replace H : (some t182) = some r := H
 have A2 := Aside0.mk A20; clear A20; obtain rfl := Option.some.inj H
 go_enter Tryd.func5, Tryd.ntmps5
 go_wp2_with (first | ((with_reducible refine gate_callee (f := 22) rfl ?_); refine goesL_ (some 4) rfl rfl Tryd.func22 (by kernel_rfl) rfl #[.slice A0 l0.length c0] rfl (qW1) ?_; (with_reducible refine (spec_DrawIsWay.calls k _ _ l0 t182 _ ?side1 ?side2 A2.out).mono ?_); (case side1 => exact (qW26)); (case side2 => exact HC0.out); rintro e w3 ⟨v183, rfl, ho0, hb⟩; refine ⟨_, rfl, ?_⟩; have HO184 := Aside0.mk (Kd.R_lower ho0 (below_size (qW0))); replace HB := Aside0.mk (below_step (qW0) hb); clear hb ho0))
 go_ret
 exact ⟨_, (qW9), (qW2 HO184.out), (qW0)⟩

end Go.Proofs.YtmbpdegkkdcjnaaDoor.MW
