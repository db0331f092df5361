/- An argument of a law is read as a list (or a struct) of plain data: for whatever element type, by what its cells say. No condition. -/
import Derived.Test.YtckidmhkhlbkeaaWWords
import Derived.Deep.Slices
import Derived.WideShapes
namespace Go.Proofs.Ytckidmhkhlbkeaa.Open
open Go.RowKit Go.Deep Go.ChangeShapes Go.WideShapes Go.Proofs.YtckidmhkhlbkeaaW.PrintWords
section
variable {H : Type} {enc : TypeId × Value → H} {P : Program} {w : World} {base : Nat} {spare : Nat → Bool} {held : Bool}

/-- What every reading of type t's cells gives: a value whose cells these are. -/
def Dec {α : Type} (d : Kd α) (OK : α → Prop) (P : Program) (t : TypeId) : Prop :=
 ∀ (H : Type) (enc : TypeId × Value → H) (w : World) (base : Nat) (spare : Nat → Bool) (held : Bool) (n : Nat) (cs : List Value) (y : DataW H × List MemPlace),
  DataW.trod enc P w base spare held n t cs = some y → ∃ x : α, OK x ∧ d.K w x cs

theorem dec_int {t : TypeId} {k : IntKind} (ht : P.underlying t = some (.int k)) : Dec (Kd.int k) (fun x => (Lit.int k x).wf = true) P t := by
 intro H enc w base spare held n cs y h
 obtain ⟨x, rfl, _, hw⟩ := DataW.trod_int ht h
 exact ⟨x, hw, rfl⟩

theorem dec_string {t : TypeId} (ht : P.underlying t = some .string) : Dec Kd.string (fun s => s.size ≤ maxLen) P t := by
 intro H enc w base spare held n cs y h
 obtain ⟨s, rfl, _, hs⟩ := DataW.trod_string ht h
 exact ⟨s, hs, rfl⟩

theorem list_of {α : Type} {Q : Nat → α → Prop} (n : Nat) (h : ∀ i, i < n → ∃ x, Q i x) : ∃ l : List α, l.length = n ∧ ∀ j p, l[j]? = some p → Q j p := by
 induction n with
 | zero => exact ⟨[], rfl, fun j p hp => by simp at hp⟩
 | succ n ih =>
  obtain ⟨l, hl, hq⟩ := ih (fun i hi => h i (by omega))
  obtain ⟨x, hx⟩ := h n (by omega)
  refine ⟨l ++ [x], by simp [hl], fun j p hp => ?_⟩
  rcases Nat.lt_or_ge j l.length with hj | hj
  ·rw [List.getElem?_append_left hj] at hp
   exact hq j p hp
  ·have hj2 := (List.getElem?_eq_some_iff.1 hp).1
   simp at hj2
   obtain rfl : j = l.length := by omega
   simp at hp
   subst hp
   rw [hl]
   exact hx

/-- A slice argument, as a list. -/
theorem open_slice_Kd {α : Type} {d : Kd α} {OK : α → Prop} {t e : TypeId} (hd : Dec d OK P e) (ht : P.underlying t = some (.slice e)) (hsz : P.cellsOf e = d.sz)
  {v : Value} {x : DataW H} {p : List MemPlace} {r : Reach} {b0 : Nat} (hv : Value.okWide P w r b0 t v) (h : DataW.Trod enc P w base spare held t v x p) :
  ∃ (a : Option Addr) (cap : Nat) (l : List α), v = .slice a l.length cap ∧ l.length ≤ cap ∧ l.length ≤ 9223372036854775807 ∧ d.C w a l.length l ∧ ∀ x ∈ l, OK x := by
 obtain ⟨a0, len, cap, rfl⟩ := okWide_slice ht hv
 obtain ⟨fuel, hf⟩ := h
 rcases open_slice ht hf with ⟨hcs, _⟩ | ⟨a, len', cap', m, n, D, Pl, hcs, _, hl, hm, hmm, _, hi⟩
 ·simp [Value.cells] at hcs
  obtain ⟨rfl, rfl, rfl⟩ := hcs
  exact ⟨none, 0, [], rfl, Nat.le_refl _, by simp, ⟨rfl, by simp, fun h0 => by simp at h0⟩, fun x hx => by simp at hx⟩
 ·simp [Value.cells] at hcs
  obtain ⟨rfl, rfl, rfl⟩ := hcs
  have hlm : len ≤ m := by
   rw [hmm]
   split <;> omega
  have hq : ∀ i, i < len → ∃ x : α, OK x ∧ ∃ c, c.length = d.sz ∧ d.K w x c ∧ ∀ j u, c[j]? = some u → w.cell? (a.add (i * d.sz + j)) = some u := by
   intro i hil
   obtain ⟨cs', hc, hr⟩ := hi i (by omega)
   obtain ⟨x, hx, hk⟩ := hd _ _ _ _ _ _ _ _ _ hr
   obtain ⟨_, hcl, hat⟩ := World.cells?_some hc
   refine ⟨x, hx, cs', d.K_len hk, hk, fun j u hu => ?_⟩
   have hj : j < cs'.length := (List.getElem?_eq_some_iff.1 hu).1
   have := hat j (by omega)
   rw [hsz] at this
   rw [← Go.Deep.add_add, this, hu]
  obtain ⟨l, hll, hlq⟩ := list_of len hq
  subst hll
  have hmx : l.length ≤ 9223372036854775807 := by
   unfold maxLen at hm
   omega
  refine ⟨some a, cap, l, rfl, hl, hmx, ⟨rfl, hmx, fun _ => ⟨a, rfl, fun j p hp => ?_⟩⟩, fun x hx => ?_⟩
  ·obtain ⟨_, c, hc⟩ := hlq j p hp
   exact ⟨c, hc⟩
  ·obtain ⟨j, hj⟩ := List.mem_iff_getElem?.1 hx
   exact (hlq j x hj).1

/-- A struct argument by value. -/
theorem open_agg_Kd {α : Type} {d : Kd α} {OK : α → Prop} {t : TypeId} {fs : Array Field} (hd : Dec d OK P t) (ht : P.underlying t = some (.struct fs))
  {v : Value} {x : DataW H} {p : List MemPlace} {r : Reach} {b0 : Nat} (hv : Value.okWide P w r b0 t v) (h : DataW.Trod enc P w base spare held t v x p) :
  ∃ (cs : List Value) (x : α), v = .agg cs.toArray ∧ OK x ∧ d.K w x cs := by
 obtain ⟨cs, rfl, _⟩ := okWide_struct ht hv
 obtain ⟨fuel, hf⟩ := h
 obtain ⟨x, hx, hk⟩ := hd _ _ _ _ _ _ _ _ _ hf
 exact ⟨cs.toList, x, by simp, hx, hk⟩
end
end Go.Proofs.Ytckidmhkhlbkeaa.Open
