/- Legs and entrances: both checks. -/
import Derived.Test.YtdlbciobndpgnaaMTx4
import Derived.Test.YtdlbciobndpgnaaMTx1
import Derived.Test.YtdlbciobndpgnaaPLegs
import Derived.Test.YtdlbciobndpgnaaPRising
namespace Go.Proofs.Ytdlbciobndpgnaa.Pure
open Go.RowKit Go.Proofs.Ytdlbciobndpgnaa.MT Go.Proofs.YtdlbciobndpgnaaW.PrintWords Go.Proofs.YtdlbciobndpgnaaW.PrintLast Go.Proofs.YtdlbciobndpgnaaW.PrintMore
set_option linter.unusedVariables false
set_option linter.unusedSimpArgs false
def okEnts (e : List Int) : Bool := rises 0 7 e
theorem areEnts_ev (l : List S65) (e : List Int) (hm : l.length ≤ 9223372036854775807) (he : e.length ≤ 1048576) : Ev (fun k => impl_areEntrances.f k l e) (okLegs l && okEnts e) := by
  simp only [impl_areEntrances.f]
  refine Ev.bind (areLegs_ev l hm) ?_
  by_cases h : okLegs l = true
  · rw [h, Bool.true_and]
    exact Ev.ite_pos rfl (Ev.bind (strictly_ev e he 0 7) (Ev.now _))
  · rw [show okLegs l = false by simpa using h, Bool.false_and]
    exact Ev.ite_neg (by decide) (Ev.now _)
theorem asked_ev (l : List S65) (e : List Int) (hm : l.length ≤ 9223372036854775807) (he : e.length ≤ 1048576) : Ev (fun k => spec_l17Asked.f k l e) (okLegs l && okEnts e) := by
  simp only [spec_l17Asked.f]
  refine Ev.bind (l4Legs_ev l hm) ?_
  by_cases h : okLegs l = true
  · rw [h, Bool.true_and]
    exact Ev.ite_pos rfl (Ev.bind (rising_ev e he 0 7) (Ev.now _))
  · rw [show okLegs l = false by simpa using h, Bool.false_and]
    exact Ev.ite_neg (by decide) (Ev.now _)
theorem okEnts_len {e : List Int} (h : okEnts e = true) : e.length ≤ 8 := by
  have key : ∀ (n : Nat) (l : List Int), l.Pairwise (· < ·) → (∀ z ∈ l, 8 - (n : Int) ≤ z ∧ z ≤ 7) → n ≤ 8 → l.length ≤ n := by
    intro n
    induction n with
    | zero =>
      intro l _ hz _
      cases l with
      | nil => simp
      | cons x l => have := hz x List.mem_cons_self; omega
    | succ n ih =>
      intro l hp hz hn
      cases l with
      | nil => simp
      | cons x l =>
        rw [List.pairwise_cons] at hp
        have hx := hz x List.mem_cons_self
        have := ih l hp.2 (fun z h => by have := hp.1 z h; have := hz z (List.mem_cons_of_mem _ h); omega) (by omega)
        simp only [List.length_cons]
        omega
  exact key 8 e (rises_pairwise h) (fun z hz => by have := rises_in h z hz; omega) (by omega)
end Go.Proofs.Ytdlbciobndpgnaa.Pure
