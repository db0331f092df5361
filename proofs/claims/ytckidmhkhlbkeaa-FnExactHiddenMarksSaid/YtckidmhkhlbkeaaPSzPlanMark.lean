/- The laws' sizes of slices of marks. -/
import Derived.Test.YtckidmhkhlbkeaaMAx1
import Derived.Test.YtckidmhkhlbkeaaPBase
namespace Go.Proofs.Ytckidmhkhlbkeaa.Pure
open Go.RowKit Go.Proofs.Ytckidmhkhlbkeaa.MA Go.Proofs.YtckidmhkhlbkeaaW.PrintWords Go.Proofs.YtckidmhkhlbkeaaW.PrintLast Go.Proofs.YtckidmhkhlbkeaaW.PrintMore
set_option linter.unusedVariables false
set_option linter.unusedSimpArgs false
theorem szM_eq (x : S61) (left : Int) : laws_szPlanMark.f x.f0 x.f1 x.f2 left = some (if wrap64 (left - (x.f0.size : Int)) < 0 then -1 else wrap64 (left - (x.f0.size : Int))) := by
  unfold laws_szPlanMark.f
  split <;> rfl
theorem rdSzM (l : List S61) (i : Nat) : rd_T61 l (i : Int) = l.getD i z61 := by simp [rd_T61]
theorem szM_loop (l : List S61) (hm : l.length ≤ 9223372036854775807) : ∀ (d i : Nat) (left : Int), i + d = l.length → 0 ≤ left → Ev (fun k => laws_szPlanMarkS.l0 k l left (i : Int)) (-1) ∨ ∃ v : Int, 0 ≤ v ∧ Ev (fun k => laws_szPlanMarkS.l0 k l left (i : Int)) v := by
  intro d
  induction d with
  | zero =>
    intro i left hi h0
    refine .inr ⟨left, h0, Ev.step (f := fun _ => some left) (fun k => ?_) (Ev.now _)⟩
    simp only [laws_szPlanMarkS.l0]
    rw [if_neg (by omega)]
  | succ d ih =>
    intro i left hi h0
    have hil : i < l.length := by omega
    have hb : ∀ k, laws_szPlanMarkS.l0 (k + 1) l left (i : Int) = if (if wrap64 (left - ((l.getD i z61).f0.size : Int)) < 0 then (-1 : Int) else wrap64 (left - ((l.getD i z61).f0.size : Int))) < 0 then some (-1) else laws_szPlanMarkS.l0 k l (if wrap64 (left - ((l.getD i z61).f0.size : Int)) < 0 then (-1 : Int) else wrap64 (left - ((l.getD i z61).f0.size : Int))) ((i + 1 : Nat) : Int) := by
      intro k
      simp only [laws_szPlanMarkS.l0, rdSzM, szM_eq, Option.bind_some]
      rw [if_pos (by omega), if_pos (by omega), wrap_up hil hm]
    generalize (if wrap64 (left - ((l.getD i z61).f0.size : Int)) < 0 then (-1 : Int) else wrap64 (left - ((l.getD i z61).f0.size : Int))) = t at hb
    by_cases ht : t < 0
    · exact .inl (Ev.step (f := fun _ => some (-1)) (fun k => by rw [hb, if_pos ht]) (Ev.now _))
    · rcases ih (i + 1) t (by omega) (by omega) with h | ⟨v, hv, h⟩
      · exact .inl (Ev.step (fun k => by rw [hb, if_neg ht]) h)
      · exact .inr ⟨v, hv, Ev.step (fun k => by rw [hb, if_neg ht]) h⟩
theorem szPlanMarkS_at (l : List S61) (hm : l.length ≤ 9223372036854775807) : Ev (fun k => laws_szPlanMarkS.f k l 1048576) (-1) ∨ ∃ (_ : l.length ≤ 1048576) (v : Int) (_ : 0 ≤ v), Ev (fun k => laws_szPlanMarkS.f k l 1048576) v := by
  simp only [laws_szPlanMarkS.f]
  by_cases h : wrap64 (1048576 - (l.length : Int)) < 0
  · exact .inl (Ev.ite_pos h (Ev.now _))
  · have hw : wrap64 (1048576 - (l.length : Int)) = 1048576 - (l.length : Int) := wrap_id (by omega) (by omega)
    rcases szM_loop l hm l.length 0 (wrap64 (1048576 - (l.length : Int))) (by omega) (by omega) with h1 | ⟨v, hv, h1⟩
    · exact .inl (Ev.ite_neg h h1)
    · exact .inr ⟨by omega, v, hv, Ev.ite_neg h h1⟩
end Go.Proofs.Ytckidmhkhlbkeaa.Pure
