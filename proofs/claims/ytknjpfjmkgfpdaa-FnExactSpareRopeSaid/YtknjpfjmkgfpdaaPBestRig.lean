/- The best rigging: the program's search and the reference's come to the same. -/
import Derived.Test.YtknjpfjmkgfpdaaMRx3
import Derived.Test.YtknjpfjmkgfpdaaMRx5
import Derived.Test.YtknjpfjmkgfpdaaMRx4
import Derived.Test.YtknjpfjmkgfpdaaMRx2
import Derived.Test.YtknjpfjmkgfpdaaPPitches
import Derived.Test.YtknjpfjmkgfpdaaPRopes
import Derived.Test.YtknjpfjmkgfpdaaPL1Has
namespace Go.Proofs.Ytknjpfjmkgfpdaa.Pure
open Go.RowKit Go.Proofs.Ytknjpfjmkgfpdaa.MR Go.Proofs.YtknjpfjmkgfpdaaW.PrintWords Go.Proofs.YtknjpfjmkgfpdaaW.PrintLast Go.Proofs.YtknjpfjmkgfpdaaW.PrintMore
set_option linter.unusedVariables false
set_option linter.unusedSimpArgs false
/-- The reference's search: what is found behind a begun rigging. -/
def bestLoop (f : List Int → Int → List Int × Int) (need : Int) (l1 : List Int) (rig : List Int) (sum : Int) : Nat → Nat → List Int × Int → List Int × Int
  | 0, _, acc => acc
  | d + 1, k, acc => bestLoop f need l1 rig sum d (k + 1) (if (k : Int) ∈ rig ∨ l1.getD k 0 < need then acc else if (f (rig ++ [(k : Int)]) (sum + l1.getD k 0)).2 ≥ 0 ∧ (acc.2 < 0 ∨ (f (rig ++ [(k : Int)]) (sum + l1.getD k 0)).2 < acc.2) then f (rig ++ [(k : Int)]) (sum + l1.getD k 0) else acc)
def bestGo (l0 : List S26) (l1 : List Int) : Nat → List Int → Int → List Int × Int
  | 0, rig, sum => (rig, sum)
  | d + 1, rig, sum => bestLoop (bestGo l0 l1 d) (rigNeed (l0.getD rig.length z26)) l1 rig sum l1.length 0 ([], -1)
/-- The better of what is known and of what is found. -/
def comb (st : RigSt) (r : List Int × Int) : RigSt := if 0 ≤ r.2 ∧ (st.2.2 = false ∨ r.2 < st.2.1) then (r.1, r.2, true) else st
theorem comb_comb (st : RigSt) (acc r : List Int × Int) (ha : acc.2 = -1 ∨ 0 ≤ acc.2) : comb (comb st acc) r = comb st (if r.2 ≥ 0 ∧ (acc.2 < 0 ∨ r.2 < acc.2) then r else acc) := by
  obtain ⟨b, l, f⟩ := st
  obtain ⟨x, m⟩ := acc
  obtain ⟨y, n⟩ := r
  simp only at ha
  unfold comb
  simp only
  by_cases h1 : 0 ≤ m
  · by_cases h2 : 0 ≤ n
    · cases f with
      | false =>
        by_cases h3 : n < m
        · simp [h1, h2, h3]
        · simp [h1, h2, h3, show ¬ m < 0 by omega]
      | true =>
        by_cases h4 : m < l
        · by_cases h3 : n < m
          · simp [h1, h2, h3, h4, show n < l by omega]
          · simp [h1, h2, h3, h4, show ¬ m < 0 by omega]
        · by_cases h3 : n < m
          · simp [h1, h2, h3, h4]
          · simp [h1, h2, h3, h4, show ¬ m < 0 by omega, show ¬ n < l by omega]
    · simp [h1, h2]
  · have hm : m < 0 := by omega
    by_cases h2 : 0 ≤ n
    · simp [h1, h2, hm]
    · simp [h1, h2]
theorem rigLoop_comb {F : List Int → Int → RigSt → RigSt} {G : List Int → Int → List Int × Int} {need : Int} {l1 : List Int} {rig : List Int} {sum : Int} (hF : ∀ k, k < l1.length → ∀ st, F (rig ++ [(k : Int)]) (sum + l1.getD k 0) st = comb st (G (rig ++ [(k : Int)]) (sum + l1.getD k 0))) (st : RigSt) :
    ∀ d k (acc : List Int × Int), k + d = l1.length → (acc.2 = -1 ∨ 0 ≤ acc.2) → rigLoop F need l1 rig sum d k (comb st acc) = comb st (bestLoop G need l1 rig sum d k acc)
  | 0, _, _, _, _ => rfl
  | d + 1, k, acc, hk, ha => by
    simp only [rigLoop, bestLoop]
    by_cases hc : (k : Int) ∈ rig ∨ l1.getD k 0 < need
    · rw [if_pos hc, if_pos hc]
      exact rigLoop_comb hF st d (k + 1) acc (by omega) ha
    · rw [if_neg hc, if_neg hc, hF k (by omega), comb_comb st acc _ ha]
      refine rigLoop_comb hF st d (k + 1) _ (by omega) ?_
      split
      · rename_i h; exact .inr h.1
      · exact ha
theorem comb_none (st : RigSt) : comb st ([], -1) = st := by
  unfold comb
  exact if_neg (fun h => absurd h.1 (by decide))
theorem rigGo_comb {l0 : List S26} {l1 : List Int} (h1 : ∀ x ∈ l1, 0 ≤ x) : ∀ d rig (sum : Int) st, 0 ≤ sum → rigGo l0 l1 d rig sum st = comb st (bestGo l0 l1 d rig sum)
  | 0, rig, sum, st, hs => by
    show rigLeaf rig sum st = comb st (rig, sum)
    by_cases h : st.2.2 = false ∨ sum < st.2.1
    · have e1 : rigLeaf rig sum st = (rig, sum, true) := if_pos h
      have e2 : comb st (rig, sum) = (rig, sum, true) := if_pos ⟨hs, h⟩
      rw [e1, e2]
    · have e1 : rigLeaf rig sum st = st := if_neg h
      have e2 : comb st (rig, sum) = st := if_neg (fun hh => h hh.2)
      rw [e1, e2]
  | d + 1, rig, sum, st, hs => by
    have hF : ∀ k, k < l1.length → ∀ st, rigGo l0 l1 d (rig ++ [(k : Int)]) (sum + l1.getD k 0) st = comb st (bestGo l0 l1 d (rig ++ [(k : Int)]) (sum + l1.getD k 0)) := by
      intro k hk st
      refine rigGo_comb h1 d _ _ st ?_
      have := h1 _ (List.getElem_mem hk)
      rw [getD_lt _ _ _ hk]
      omega
    have h := rigLoop_comb (need := rigNeed (l0.getD rig.length z26)) hF st l1.length 0 ([], -1) (by omega) (.inl rfl)
    rw [comb_none] at h
    exact h
/-- The reference's walk. -/
theorem specBest_ev {l0 : List S26} {l1 : List Int} (hp : l0.length ≤ 6) (hr : l1.length ≤ 8) (hv : ∀ x ∈ l1, 0 ≤ x ∧ x ≤ 4000) : ∀ d rig (sum : Int), rig.length + d = l0.length → 0 ≤ sum → sum ≤ 4000 * rig.length →
    Ev (fun k => spec_l16Best.f k l0 l1 rig sum) (bestGo l0 l1 d rig sum) := by
  intro d
  induction d with
  | zero =>
    intro rig sum hd _ _
    refine Ev.step (f := fun _ => some (rig, sum)) (fun k => ?_) (Ev.now _)
    rw [spec_l16Best.f]
    exact if_pos (by omega)
  | succ d ih =>
    intro rig sum hd h0 h1
    have key : ∀ e k (acc : List Int × Int), k + e = l1.length → Ev (fun n => spec_l16Best.l0 n l0 l1 rig sum (rig.length : Int) acc.1 acc.2 (k : Int)) (bestLoop (bestGo l0 l1 d) (rigNeed (l0.getD rig.length z26)) l1 rig sum e k acc) := by
      intro e
      induction e with
      | zero =>
        intro k acc hk
        refine Ev.step (f := fun _ => some acc) (fun n => ?_) (Ev.now _)
        rw [spec_l16Best.l0]
        exact if_neg (by omega)
      | succ e ihe =>
        intro k acc hk
        have hkl : k < l1.length := by omega
        have hwr : wrap64 ((k : Int) + 1) = ((k + 1 : Nat) : Int) := by unfold wrap64; omega
        have hx := hv _ (List.getElem_mem hkl)
        have hgd := getD_lt l1 0 k hkl
        have hrd : rd_T26 l0 (rig.length : Int) = l0.getD rig.length z26 := rdP l0 rig.length
        simp only [bestLoop]
        refine Ev.step (f := fun n => (spec_l1Has.f n rig (k : Int)).bind fun t144 => (if t144 = true then (spec_l16Best.j1 n l0 l1 rig sum (rig.length : Int) acc.1 acc.2 (k : Int) true) else (spec_l16Best.j1 n l0 l1 rig sum (rig.length : Int) acc.1 acc.2 (k : Int) (decide (l1.getD k 0 < rigNeed (l0.getD rig.length z26)))))) (fun n => ?_) (Ev.bind (l1Has_ev (by omega)) ?_)
        · rw [spec_l16Best.l0, if_pos (by omega)]
          congr 1
          funext t
          by_cases ht : t = true
          · rw [if_pos ht, if_pos ht]
          · rw [if_neg ht, if_neg ht, if_pos (by omega), if_pos (by omega), if_pos (by omega), hrd, rd_nat]
            rfl
        · have hskip : ∀ r, Ev (fun n => spec_l16Best.l0 n l0 l1 rig sum (rig.length : Int) acc.1 acc.2 ((k + 1 : Nat) : Int)) r → Ev (fun n => spec_l16Best.j1 n l0 l1 rig sum (rig.length : Int) acc.1 acc.2 (k : Int) true) r := fun r h =>
            Ev.step (fun n => by rw [spec_l16Best.j1, if_pos rfl, hwr]) h
          by_cases hin : (k : Int) ∈ rig
          · rw [if_pos (.inl hin)]
            refine Ev.ite_pos (decide_eq_true hin) (hskip _ (ihe (k + 1) acc (by omega)))
          · refine Ev.ite_neg (by simpa using hin) ?_
            by_cases hlow : l1.getD k 0 < rigNeed (l0.getD rig.length z26)
            · rw [if_pos (.inr hlow), decide_eq_true hlow]
              exact hskip _ (ihe (k + 1) acc (by omega))
            · rw [if_neg (fun h => h.elim hin hlow), decide_eq_false hlow]
              have hsum : wrap64 (sum + l1.getD k 0) = sum + l1.getD k 0 := by rw [hgd]; unfold wrap64; omega
              have hcall := ih (rig ++ [(k : Int)]) (sum + l1.getD k 0) (by rw [List.length_append, List.length_singleton]; omega) (by rw [hgd]; omega) (by rw [hgd, List.length_append, List.length_singleton]; omega)
              refine Ev.step (f := fun n => (spec_l16Best.f n l0 l1 (rig ++ [(k : Int)]) (sum + l1.getD k 0)).bind fun bt158 => (if bt158.2 ≥ 0 then (if acc.2 < 0 then (spec_l16Best.l0 n l0 l1 rig sum (rig.length : Int) bt158.1 bt158.2 ((k + 1 : Nat) : Int)) else (if bt158.2 < acc.2 then (spec_l16Best.l0 n l0 l1 rig sum (rig.length : Int) bt158.1 bt158.2 ((k + 1 : Nat) : Int)) else (spec_l16Best.l0 n l0 l1 rig sum (rig.length : Int) acc.1 acc.2 ((k + 1 : Nat) : Int)))) else (spec_l16Best.l0 n l0 l1 rig sum (rig.length : Int) acc.1 acc.2 ((k + 1 : Nat) : Int)))) (fun n => ?_) (Ev.bind hcall ?_)
              · rw [spec_l16Best.j1, if_neg (by decide)]
                simp only [spec_l1Own.f, Option.bind_some, List.nil_append, List.length_nil, Nat.zero_add, rd_nat, hsum, hwr, List.length_cons]
                rw [if_pos (by omega)]
                simp only [Option.bind_some]
                rw [if_pos (by omega), if_pos (by omega), if_pos (by omega)]
              · by_cases g1 : (bestGo l0 l1 d (rig ++ [(k : Int)]) (sum + l1.getD k 0)).2 ≥ 0
                · refine Ev.ite_pos g1 ?_
                  by_cases g2 : acc.2 < 0
                  · rw [if_pos ⟨g1, .inl g2⟩]
                    exact Ev.ite_pos g2 (ihe (k + 1) _ (by omega))
                  · refine Ev.ite_neg g2 ?_
                    by_cases g3 : (bestGo l0 l1 d (rig ++ [(k : Int)]) (sum + l1.getD k 0)).2 < acc.2
                    · rw [if_pos ⟨g1, .inr g3⟩]
                      exact Ev.ite_pos g3 (ihe (k + 1) _ (by omega))
                    · rw [if_neg (fun h => h.2.elim g2 g3)]
                      exact Ev.ite_neg g3 (ihe (k + 1) acc (by omega))
                · rw [if_neg (fun h => g1 h.1)]
                  exact Ev.ite_neg g1 (ihe (k + 1) acc (by omega))
    refine Ev.step (f := fun n => spec_l16Best.l0 n l0 l1 rig sum (rig.length : Int) [] (-1) 0) (fun n => ?_) (key l1.length 0 ([], -1) (by omega))
    rw [spec_l16Best.f]
    exact if_neg (by omega)
theorem okRopes_says {l : List Int} (h : okRopes l = true) : l.length ≤ 8 ∧ ∀ x ∈ l, 50 ≤ x ∧ x ≤ 4000 := by
  simp only [okRopes, Bool.and_eq_true, decide_eq_true_eq, List.all_eq_true, okRope] at h
  exact ⟨h.2, h.1⟩
theorem okPitches_len {l : List S26} (h : okPitches l = true) : l.length ≤ 6 := by
  simp only [okPitches, Bool.and_eq_true, decide_eq_true_eq] at h
  exact h.2
theorem rigOk_of {l0 : List S26} {l1 : List Int} (hp : l0.length ≤ 6) (hr : okRopes l1 = true) : rigOk l0 l1 = true := by
  have h := okRopes_says hr
  unfold rigOk
  rw [Bool.and_eq_true, Bool.and_eq_true, decide_eq_true_eq, decide_eq_true_eq, List.all_eq_true]
  exact ⟨⟨hp, h.1⟩, fun x hx => decide_eq_true (h.2 x hx)⟩
theorem implBest_eq {l0 : List S26} {l1 : List Int} (hp : l0.length ≤ 6) (hr : okRopes l1 = true) : impl_bestRigging.f l0 l1 = some (comb ([], 0, false) (bestGo l0 l1 l0.length [] 0)) := by
  unfold impl_bestRigging.f
  rw [if_pos (rigOk_of hp hr), rigGo_comb (fun x hx => by have := (okRopes_says hr).2 x hx; omega) _ _ _ _ (by omega)]
theorem asked_ev (l0 : List S26) (l1 : List Int) (hm0 : l0.length ≤ 9223372036854775807) (hm1 : l1.length ≤ 9223372036854775807) : Ev (fun k => spec_l16Asked.f k l0 l1) (okPitches l0 && okRopes l1) := by
  simp only [spec_l16Asked.f]
  refine Ev.bind (l16Good_ev l0 hm0) ?_
  cases h : okPitches l0 with
  | true => exact Ev.ite_pos rfl (Ev.bind (l16Ropes_ev l1 hm1) (by rw [Bool.true_and]; exact Ev.now _))
  | false => exact Ev.ite_neg (by decide) (Ev.now _)
def bestAns (l0 : List S26) (l1 : List Int) : List Int × Int × Bool := if (okPitches l0 && okRopes l1) = true then (if 0 ≤ (bestGo l0 l1 l0.length [] 0).2 then ((bestGo l0 l1 l0.length [] 0).1, (bestGo l0 l1 l0.length [] 0).2, true) else ([], 0, false)) else ([], 0, false)
theorem specBestRig_ev (l0 : List S26) (l1 : List Int) (hm0 : l0.length ≤ 9223372036854775807) (hm1 : l1.length ≤ 9223372036854775807) : Ev (fun k => spec_BestRigging.f k l0 l1) (bestAns l0 l1) := by
  simp only [spec_BestRigging.f]
  refine Ev.bind (asked_ev l0 l1 hm0 hm1) ?_
  by_cases h : (okPitches l0 && okRopes l1) = true
  · have hh : okPitches l0 = true ∧ okRopes l1 = true := by simpa using h
    have hr := okRopes_says hh.2
    refine Ev.ite_pos h (Ev.bind (specBest_ev (okPitches_len hh.1) hr.1 (fun x hx => by have := hr.2 x hx; omega) l0.length [] 0 (by simp) (by omega) (by simp)) ?_)
    rw [bestAns, if_pos h]
    by_cases h2 : 0 ≤ (bestGo l0 l1 l0.length [] 0).2
    · rw [if_pos h2]
      exact Ev.ite_neg (by omega) (Ev.now _)
    · rw [if_neg h2]
      exact Ev.ite_pos (by omega) (Ev.now _)
  · rw [bestAns, if_neg h]
    exact Ev.ite_neg h (Ev.now _)
theorem implBestRig_ev (l0 : List S26) (l1 : List Int) : Ev (fun k => impl_BestRigging.f k l0 l1) (bestAns l0 l1) := by
  have hno : Ev (fun k => impl_BestRigging.j0 k l0 l1 true) ([], 0, false) := Ev.step (f := fun _ => some ([], 0, false)) (fun k => by rw [impl_BestRigging.j0, if_pos rfl]) (Ev.now _)
  simp only [impl_BestRigging.f, arePitches_eq, areRopes_eq, Option.bind_some]
  unfold bestAns
  cases hp : okPitches l0 with
  | false => exact Ev.ite_neg (by decide) hno
  | true =>
    refine Ev.ite_pos rfl ?_
    cases hr : okRopes l1 with
    | false => exact hno
    | true =>
      rw [Bool.true_and, if_pos rfl]
      refine Ev.step (f := fun _ => (impl_bestRigging.f l0 l1).bind fun bt190 => (if bt190.2.2 = true then (some (bt190.1, bt190.2.1, true)) else (some (([] : List Int), 0, false)))) (fun k => by rw [impl_BestRigging.j0, if_neg (by decide)]) ?_
      rw [implBest_eq (okPitches_len hp) hr]
      by_cases h2 : 0 ≤ (bestGo l0 l1 l0.length [] 0).2
      · have e : comb ([], 0, false) (bestGo l0 l1 l0.length [] 0) = ((bestGo l0 l1 l0.length [] 0).1, (bestGo l0 l1 l0.length [] 0).2, true) := if_pos ⟨h2, .inl rfl⟩
        rw [e, if_pos h2]
        exact Ev.now _
      · have e : comb ([], 0, false) (bestGo l0 l1 l0.length [] 0) = ([], 0, false) := if_neg (fun hh => h2 hh.1)
        rw [e, if_neg h2]
        exact Ev.now _
end Go.Proofs.Ytknjpfjmkgfpdaa.Pure
