/- Draws step by step: what is drawn comes to an end, and keeps what is asked of it. -/
import Derived.Test.YtmbpdegkkdcjnaaDoorMWx2
import Derived.Test.YtmbpdegkkdcjnaaDoorPCur
namespace Go.Proofs.YtmbpdegkkdcjnaaDoor.Pure
open Go.RowKit Go.Proofs.YtmbpdegkkdcjnaaDoor.MW Go.Proofs.YtmbpdegkkdcjnaaDoorW.PrintWords Go.Proofs.YtmbpdegkkdcjnaaDoorW.PrintLast Go.Proofs.YtmbpdegkkdcjnaaDoorW.PrintMore
set_option linter.unusedVariables false
set_option linter.unusedSimpArgs false
def Dr {α : Type} (g : Nat → Option α) (P : α → Prop) : Prop := ∃ r, Ev g r ∧ P r
theorem Dr.now {α : Type} {P : α → Prop} (r : α) (h : P r) : Dr (fun _ => some r) P := ⟨r, Ev.now r, h⟩
theorem Dr.none {α : Type} {P : α → Prop} (h : False) : Dr (fun _ => (none : Option α)) P := h.elim
theorem Dr.ite {α : Type} {c : Prop} [Decidable c] {g g' : Nat → Option α} {P : α → Prop} (h : c → Dr g P) (h' : ¬ c → Dr g' P) : Dr (fun k => if c then g k else g' k) P := by
 by_cases hc : c
 ·obtain ⟨r, h1, h2⟩ := h hc
  exact ⟨r, Ev.ite_pos hc h1, h2⟩
 ·obtain ⟨r, h1, h2⟩ := h' hc
  exact ⟨r, Ev.ite_neg hc h1, h2⟩
theorem Dr.step {α : Type} {g f : Nat → Option α} {P : α → Prop} (he : ∀ k, g (k + 1) = f k) (h : Dr f P) : Dr g P := by
 obtain ⟨r, h1, h2⟩ := h
 exact ⟨r, Ev.step he h1, h2⟩
theorem Dr.bind {α β : Type} {g : Nat → Option α} {f : Nat → α → Option β} {Q : α → Prop} {P : β → Prop} (h : Dr g Q) (k : ∀ r, Q r → Dr (fun n => f n r) P) : Dr (fun n => (g n).bind (f n)) P := by
 obtain ⟨a, h1, h2⟩ := h
 obtain ⟨b, h3, h4⟩ := k a h2
 exact ⟨b, Ev.bind h1 h3, h4⟩
theorem Dr.bindc {α β : Type} {x : Option α} {f : Nat → α → Option β} {P : β → Prop} {a : α} (h : x = some a) (k : Dr (fun n => f n a) P) : Dr (fun n => x.bind (f n)) P := by
 subst h
 exact k
theorem Dr.mono {α : Type} {g : Nat → Option α} {P Q : α → Prop} (h : Dr g P) (hpq : ∀ r, P r → Q r) : Dr g Q := by
 obtain ⟨r, h1, h2⟩ := h
 exact ⟨r, h1, hpq r h2⟩
theorem Dr.pick {α : Type} {l : List Int} (hb : Bytes l) {i s n : Int} {f : Nat → Int × Int × Int → Option α} {P : α → Prop} (h0 : 0 ≤ i) (h1 : i ≤ 999999990) (hn : n ≤ 1000000) (k : ∀ v j t, i ≤ j → j ≤ i + 2 → 0 ≤ v → (v < n ∨ v = 0) → Dr (fun m => f m (v, j, t)) P) : Dr (fun m => (spec_l1Cur_pick.f l i s n).bind (f m)) P := by
 obtain ⟨v, j, t, e, g0, g1, g2, g3⟩ := cur_pick (s := s) hb h0 h1 hn
 exact Dr.bindc e (k v j t g0 g1 g2 g3)
theorem Dr.among {α : Type} {l : List Int} (hb : Bytes l) {i s : Int} {xs : List Int} {f : Nat → Int × Int × Int → Option α} {P : α → Prop} (h0 : 0 ≤ i) (h1 : i ≤ 999999990) (hx : 0 < xs.length) (hx2 : xs.length ≤ 1000000) (k : ∀ v j t, i ≤ j → j ≤ i + 2 → v ∈ xs → Dr (fun m => f m (v, j, t)) P) : Dr (fun m => (spec_l1Cur_among.f l i s xs).bind (f m)) P := by
 obtain ⟨v, j, t, e, g0, g1, g2⟩ := cur_among (s := s) hb xs h0 h1 hx hx2
 exact Dr.bindc e (k v j t g0 g1 g2)
theorem Dr.one {α : Type} {l : List Int} (hb : Bytes l) {i s n : Int} {f : Nat → Bool × Int × Int → Option α} {P : α → Prop} (h0 : 0 ≤ i) (h1 : i ≤ 999999990) (hn : n ≤ 1000000) (k : ∀ b j t, i ≤ j → j ≤ i + 2 → Dr (fun m => f m (b, j, t)) P) : Dr (fun m => (spec_l1Cur_one.f l i s n).bind (f m)) P := by
 obtain ⟨v, j, t, e, g0, g1, g2, g3⟩ := cur_pick (s := s) hb h0 h1 hn
 refine Dr.bindc (a := (v == 0, j, t)) ?_ (k _ j t g0 g1)
 unfold spec_l1Cur_one.f
 rw [e]
 rfl
theorem snoc_len {α : Type} (l : List α) (x : α) : (l ++ [x]).length = l.length + 1 := by simp
theorem wrap_pred (d : Nat) (h : d < 1000000) : wrap64 (((d + 1 : Nat) : Int) - 1) = (d : Int) := by
 unfold wrap64
 omega
theorem wrap_succ (d : Nat) (h : d < 1000000) : wrap64 ((d : Int) + 1) = ((d + 1 : Nat) : Int) := by
 unfold wrap64
 omega
end Go.Proofs.YtmbpdegkkdcjnaaDoor.Pure
