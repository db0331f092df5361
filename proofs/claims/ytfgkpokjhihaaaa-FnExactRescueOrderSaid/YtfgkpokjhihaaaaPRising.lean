/- Rising numbers within bounds: the program's and the reference's check. -/
import Derived.Test.YtfgkpokjhihaaaaMRx8
import Derived.Test.YtfgkpokjhihaaaaMRx5
import Derived.Test.YtfgkpokjhihaaaaPBase
namespace Go.Proofs.Ytfgkpokjhihaaaa.Pure
open Go.RowKit Go.Proofs.Ytfgkpokjhihaaaa.MR Go.Proofs.YtfgkpokjhihaaaaW.PrintWords Go.Proofs.YtfgkpokjhihaaaaW.PrintLast Go.Proofs.YtfgkpokjhihaaaaW.PrintMore
set_option linter.unusedVariables false
set_option linter.unusedSimpArgs false
def risesAt (lo hi : Int) (e : List Int) (i : Nat) : Bool := decide (lo ≤ e.getD i 0 ∧ e.getD i 0 ≤ hi) && !(decide (0 < i) && decide (e.getD (i - 1) 0 ≥ e.getD i 0))
def rises (lo hi : Int) (e : List Int) : Bool := (List.range' 0 e.length).all (risesAt lo hi e)
theorem strictly_loop {e : List Int} (he : e.length ≤ 1048576) (lo hi : Int) : ∀ d i, i + d = e.length → Ev (fun k => impl_strictly.l0 k e lo hi e (e.length : Int) (i : Int)) ((List.range' i d).all (risesAt lo hi e)) := by
 intro d
 induction d with
 | zero =>
  intro i hi_
  refine Ev.step (f := fun _ => some true) (fun k => ?_) (by simpa using Ev.now true)
  simp only [impl_strictly.l0]
  rw [if_neg (by omega)]
 | succ d ih =>
  intro i hi_
  have hil : i < e.length := by omega
  have hn := ih (i + 1) (by omega)
  have hwr : wrap64 ((i : Int) + 1) = ((i + 1 : Nat) : Int) := by unfold wrap64; omega
  rw [List.range'_succ, List.all_cons]
  by_cases h1 : lo ≤ e.getD i 0 ∧ e.getD i 0 ≤ hi
  ·by_cases h0 : 0 < i
   ·have hwm : wrap64 ((i : Int) - 1) = ((i - 1 : Nat) : Int) := by unfold wrap64; omega
    by_cases h2 : e.getD (i - 1) 0 ≥ e.getD i 0
    ·rw [show risesAt lo hi e i = false by simp only [risesAt, h1, h0, h2]; rfl, Bool.false_and]
     refine Ev.step (f := fun _ => some false) (fun k => ?_) (Ev.now _)
     simp only [impl_strictly.l0, rd_nat, within_eq, Option.bind_some, hwm]
     rw [if_pos (by omega), if_pos (by omega), if_pos (by omega), if_pos (decide_eq_true h1), if_pos (by omega), if_pos (by omega), if_pos (by omega), if_pos h2]
    ·rw [show risesAt lo hi e i = true by simp only [risesAt, h1, h0, h2]; rfl, Bool.true_and]
     refine Ev.step (fun k => ?_) hn
     simp only [impl_strictly.l0, rd_nat, within_eq, Option.bind_some, hwm, hwr]
     rw [if_pos (by omega), if_pos (by omega), if_pos (by omega), if_pos (decide_eq_true h1), if_pos (by omega), if_pos (by omega), if_pos (by omega), if_neg h2]
   ·rw [show risesAt lo hi e i = true by simp only [risesAt, h1, h0]; rfl, Bool.true_and]
    refine Ev.step (fun k => ?_) hn
    simp only [impl_strictly.l0, rd_nat, within_eq, Option.bind_some, hwr]
    rw [if_pos (by omega), if_pos (by omega), if_pos (by omega), if_pos (decide_eq_true h1), if_neg (by omega)]
  ·rw [show risesAt lo hi e i = false by simp only [risesAt, h1]; rfl, Bool.false_and]
   refine Ev.step (f := fun _ => some false) (fun k => ?_) (Ev.now _)
   simp only [impl_strictly.l0, rd_nat, within_eq, Option.bind_some]
   rw [if_pos (by omega), if_pos (by omega), if_pos (by omega), if_neg (by simpa using h1)]
theorem strictly_ev (e : List Int) (he : e.length ≤ 1048576) (lo hi : Int) : Ev (fun k => impl_strictly.f k e lo hi) (rises lo hi e) := by
 have h := strictly_loop he lo hi e.length 0 (by omega)
 simp only [impl_strictly.f]
 exact h
theorem rising_loop {e : List Int} (he : e.length ≤ 1048576) (lo hi : Int) : ∀ d i, i + d = e.length → Ev (fun k => spec_l1Rising.l0 k e lo hi (i : Int)) ((List.range' i d).all (risesAt lo hi e)) := by
 intro d
 induction d with
 | zero =>
  intro i hi_
  refine Ev.step (f := fun _ => some true) (fun k => ?_) (by simpa using Ev.now true)
  simp only [spec_l1Rising.l0]
  rw [if_neg (by omega)]
 | succ d ih =>
  intro i hi_
  have hil : i < e.length := by omega
  have hn := ih (i + 1) (by omega)
  have hwr : wrap64 ((i : Int) + 1) = ((i + 1 : Nat) : Int) := by unfold wrap64; omega
  rw [List.range'_succ, List.all_cons]
  by_cases h1 : lo ≤ e.getD i 0 ∧ e.getD i 0 ≤ hi
  ·by_cases h0 : 0 < i
   ·have hwm : wrap64 ((i : Int) - 1) = ((i - 1 : Nat) : Int) := by unfold wrap64; omega
    by_cases h2 : e.getD (i - 1) 0 ≥ e.getD i 0
    ·rw [show risesAt lo hi e i = false by simp only [risesAt, h1, h0, h2]; rfl, Bool.false_and]
     refine Ev.step (f := fun _ => some false) (fun k => ?_) (Ev.now _)
     simp only [spec_l1Rising.l0, rd_nat, l1In_eq, Option.bind_some, hwm]
     rw [if_pos (by omega), if_pos (by omega), if_pos (decide_eq_true h1), if_pos (by omega), if_pos (by omega), if_pos (by omega), if_pos h2]
    ·rw [show risesAt lo hi e i = true by simp only [risesAt, h1, h0, h2]; rfl, Bool.true_and]
     refine Ev.step (fun k => ?_) hn
     simp only [spec_l1Rising.l0, rd_nat, l1In_eq, Option.bind_some, hwm, hwr]
     rw [if_pos (by omega), if_pos (by omega), if_pos (decide_eq_true h1), if_pos (by omega), if_pos (by omega), if_pos (by omega), if_neg h2]
   ·rw [show risesAt lo hi e i = true by simp only [risesAt, h1, h0]; rfl, Bool.true_and]
    refine Ev.step (fun k => ?_) hn
    simp only [spec_l1Rising.l0, rd_nat, l1In_eq, Option.bind_some, hwr]
    rw [if_pos (by omega), if_pos (by omega), if_pos (decide_eq_true h1), if_neg (by omega)]
  ·rw [show risesAt lo hi e i = false by simp only [risesAt, h1]; rfl, Bool.false_and]
   refine Ev.step (f := fun _ => some false) (fun k => ?_) (Ev.now _)
   simp only [spec_l1Rising.l0, rd_nat, l1In_eq, Option.bind_some]
   rw [if_pos (by omega), if_pos (by omega), if_neg (by simpa using h1)]
theorem rising_ev (e : List Int) (he : e.length ≤ 1048576) (lo hi : Int) : Ev (fun k => spec_l1Rising.f k e lo hi) (rises lo hi e) := by
 have h := rising_loop he lo hi e.length 0 (by omega)
 simp only [spec_l1Rising.f]
 exact h
theorem rises_at {lo hi : Int} {e : List Int} (h : rises lo hi e = true) {i : Nat} (hi_ : i < e.length) : (lo ≤ e.getD i 0 ∧ e.getD i 0 ≤ hi) ∧ (0 < i → e.getD (i - 1) 0 < e.getD i 0) := by
 have := List.all_eq_true.1 h i (by simp [List.mem_range'_1, hi_])
 simp only [risesAt, Bool.and_eq_true, decide_eq_true_eq, Bool.not_eq_true', Bool.and_eq_false_iff, decide_eq_false_iff_not] at this
 exact ⟨this.1, fun h0 => by rcases this.2 with h2 | h2 <;> omega⟩
theorem rises_pairwise {lo hi : Int} {e : List Int} (h : rises lo hi e = true) : e.Pairwise (· < ·) := by
 have key : ∀ d i, i + d < e.length → 0 < d → e.getD i 0 < e.getD (i + d) 0 := by
  intro d
  induction d with
  | zero => intro i _ h0; omega
  | succ d ih =>
   intro i hi_ _
   have h1 := (rises_at h (i := i + (d + 1)) hi_).2 (by omega)
   rw [show i + (d + 1) - 1 = i + d by omega] at h1
   by_cases hd : 0 < d
   ·have := ih i (by omega) hd
    omega
   ·obtain rfl : d = 0 := by omega
    exact h1
 rw [List.pairwise_iff_getElem]
 intro i j hi_ hj hij
 have := key (j - i) i (by omega) (by omega)
 rw [show i + (j - i) = j by omega, getD_lt _ _ _ hi_, getD_lt _ _ _ hj] at this
 exact this
theorem rises_in {lo hi : Int} {e : List Int} (h : rises lo hi e = true) : ∀ z ∈ e, lo ≤ z ∧ z ≤ hi := by
 intro z hz
 obtain ⟨i, hi_, rfl⟩ := List.mem_iff_getElem.1 hz
 have := (rises_at h hi_).1
 rwa [getD_lt _ _ _ hi_] at this
end Go.Proofs.Ytfgkpokjhihaaaa.Pure
