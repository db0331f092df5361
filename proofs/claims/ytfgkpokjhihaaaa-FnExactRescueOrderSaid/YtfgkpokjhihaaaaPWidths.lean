/- Legs and widths: what the program's and the reference's checks say. -/
import Derived.Test.YtfgkpokjhihaaaaMRx3
import Derived.Test.YtfgkpokjhihaaaaMRx7
import Derived.Test.YtfgkpokjhihaaaaMRx2
import Derived.Test.YtfgkpokjhihaaaaPLegs
namespace Go.Proofs.Ytfgkpokjhihaaaa.Pure
open Go.RowKit Go.Proofs.Ytfgkpokjhihaaaa.MR Go.Proofs.YtfgkpokjhihaaaaW.PrintWords Go.Proofs.YtfgkpokjhihaaaaW.PrintLast Go.Proofs.YtfgkpokjhihaaaaW.PrintMore
set_option linter.unusedVariables false
set_option linter.unusedSimpArgs false
def okWidth (x : Int) : Bool := decide (0 ≤ x ∧ x ≤ 200)
def okWidths (l : List S66) (ws : List Int) : Bool := okLegs l && (decide (ws.length = l.length) && ws.all okWidth)
theorem areWidths_ev (l : List S66) (ws : List Int) (hm : l.length ≤ 9223372036854775807) : Ev (fun k => impl_AreWidths.f k l ws) (okWidths l ws) := by
 simp only [impl_AreWidths.f]
 refine Ev.bind (areLegs_ev l hm) ?_
 have h : (!ws.any impl_AreWidths.bad) = ws.all okWidth := by
  rw [List.any_eq_not_all_not, Bool.not_not]
  congr 1
  funext x
  simp [impl_AreWidths.bad, okWidth]
 rw [h]
 exact Ev.now _
theorem l15Good_ev (l : List S66) (ws : List Int) (hm : l.length ≤ 9223372036854775807) (hw : ws.length ≤ 9223372036854775807) : Ev (fun k => spec_l15Good.f k l ws) (okWidths l ws) := by
 obtain ⟨K, hK⟩ := l4Legs_ev l hm
 have h := loopT_ev (fun k i (_ : Unit) => spec_l15Good.l0 k l ws i) ws.length K (fun i (_ : Unit) => if okWidth (ws.getD i 0) = true then Sum.inl () else Sum.inr false) (fun _ => okLegs l && decide (ws.length = l.length)) () ?_ ?_
 ·rw [foldN_all] at h
  rw [show okWidths l ws = (ws.all okWidth && (okLegs l && decide (ws.length = l.length))) by unfold okWidths; cases okLegs l <;> cases decide (ws.length = l.length) <;> cases ws.all okWidth <;> rfl]
  exact h
 ·rintro k i - - hi
  cases hp : okWidth (ws.getD i 0) with
  | true =>
   refine .inl ⟨(), by simp, ?_⟩
   simp only [spec_l15Good.l0, spec_l12Far.f, l1In_eq, rd_nat, Option.bind_some]
   rw [if_pos (by omega), if_pos (by omega), wrap_up hi hw, if_pos (show decide (0 ≤ ws.getD i 0 ∧ ws.getD i 0 ≤ 200) = true from hp)]
  | false =>
   refine .inr ⟨false, by simp, ?_⟩
   simp only [spec_l15Good.l0, spec_l12Far.f, l1In_eq, rd_nat, Option.bind_some]
   rw [if_pos (by omega), if_pos (by omega), if_neg (by rw [show decide (0 ≤ ws.getD i 0 ∧ ws.getD i 0 ≤ 200) = false from hp]; decide)]
 ·rintro k - hk
  simp only [spec_l15Good.l0, hK k hk, Option.bind_some]
  rw [if_neg (by omega)]
  cases okLegs l with
  | true =>
   rw [if_pos rfl]
   simp
   rw [Bool.eq_iff_iff]
   simp
   omega
  | false => rw [if_neg (by decide)]; rfl
theorem okWidths_legs {l : List S66} {ws : List Int} (h : okWidths l ws = true) : okLegs l = true := by
 simp only [okWidths, Bool.and_eq_true] at h
 exact h.1
theorem okWidths_len {l : List S66} {ws : List Int} (h : okWidths l ws = true) : ws.length = l.length := by
 simp only [okWidths, Bool.and_eq_true, decide_eq_true_eq] at h
 exact h.2.1
theorem okWidths_at {l : List S66} {ws : List Int} (h : okWidths l ws = true) {i : Nat} (hi : i < ws.length) : 0 ≤ ws.getD i 0 ∧ ws.getD i 0 ≤ 200 := by
 simp only [okWidths, Bool.and_eq_true, List.all_eq_true] at h
 have := h.2.2 _ (List.getElem_mem hi)
 rw [getD_lt _ _ _ hi]
 simpa only [okWidth, decide_eq_true_eq] using this
end Go.Proofs.Ytfgkpokjhihaaaa.Pure
