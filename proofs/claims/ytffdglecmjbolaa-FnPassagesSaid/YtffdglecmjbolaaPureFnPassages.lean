/- The law FnPassages's pure statement. -/
import Derived.Test.YtffdglecmjbolaaPAllFnPassages
import Derived.Test.YtffdglecmjbolaaMPx14
import Derived.Test.YtffdglecmjbolaaMPx2
import Derived.Test.YtffdglecmjbolaaMPx7
import Derived.Test.YtffdglecmjbolaaMPx10
import Derived.Test.YtffdglecmjbolaaMPx12
import Derived.Test.YtffdglecmjbolaaMPx9
import Derived.Test.YtffdglecmjbolaaMPx6
import Derived.Test.YtffdglecmjbolaaMPx13
namespace Go.Proofs.Ytffdglecmjbolaa.Pure
open Go.RowKit Go.Proofs.Ytffdglecmjbolaa.MP Go.Proofs.YtffdglecmjbolaaW.PrintWords Go.Proofs.YtffdglecmjbolaaW.PrintLast Go.Proofs.YtffdglecmjbolaaW.PrintMore
set_option linter.unusedVariables false
set_option linter.unusedSimpArgs false
theorem vPasses_ev (l : List S60) (hm : l.length ≤ 9223372036854775807) : Ev (fun k => laws_vPassages.f k l l) true := by
 simp only [laws_vPassages.f]
 refine Ev.ite_pos (by trivial) ?_
 refine loopV_ev (fun k i (_ : Unit) => laws_vPassages.l0 k l l i) l.length 0 (fun _ _ => True) true () trivial ?_ ?_
 ·rintro k i - - hi -
  refine .inl ⟨(), trivial, ?_⟩
  simp only [laws_vPassages.l0]
  rw [if_pos (by omega), if_pos (by omega), if_pos (by omega), if_neg (by simp), wrap_up hi hm]
 ·rintro k - - -
  simp only [laws_vPassages.l0]
  rw [if_neg (by omega)]
theorem dr_mean {l : List Int} (hb : Bytes l) : Dr (fun k => spec_DrawMeanArea.f k l) (fun r => r.length ≤ 8) := by
 simp only [spec_DrawMeanArea.f, spec_DrawArePassages.f]
 exact Dr.bind (Q := fun r => r.length ≤ 8) (Dr.bind (dr_passes hb (by omega) (by omega)) (fun r hr => Dr.now _ hr.1)) (fun r hr => Dr.now _ hr)
theorem dr_merge {l : List Int} (hb : Bytes l) : Dr (fun k => spec_DrawMergePassages.f k l) (fun r => r.1.length ≤ 8 ∧ r.2.length ≤ 8) := by
 simp only [spec_DrawMergePassages.f]
 refine Dr.bind (dr_passes hb (by omega) (by omega)) (fun r hr => ?_)
 exact Dr.bind (dr_passes hb (by omega) (by omega)) (fun q hq => Dr.now _ ⟨hr.1, hq.1⟩)
theorem dr_volume {l : List Int} (hb : Bytes l) : Dr (fun k => spec_DrawVolumeOf.f k l) (fun r => r.1.length ≤ 8 ∧ r.2.length ≤ 13) := by
 simp only [spec_DrawVolumeOf.f]
 refine Dr.bind (dr_passes hb (by omega) (by omega)) (fun r hr => ?_)
 exact Dr.bind (dr_legs hb (by omega) (by omega)) (fun q hq => Dr.now _ ⟨hr.1, hq⟩)
theorem dr_fitting {l : List Int} (hb : Bytes l) : Dr (fun k => spec_DrawFittingStations.f k l) (fun r => r.1.length ≤ 8 ∧ r.2.1 ≤ 1000) := by
 simp only [spec_DrawFittingStations.f]
 refine Dr.bind (dr_passes hb (by omega) (by omega)) (fun r hr => ?_)
 refine Dr.among hb (by omega) (by omega) (by decide) (by decide) (fun v2 j2 t2 g2 g3 g4 => ?_)
 dsimp only
 refine Dr.among hb (by omega) (by omega) (by decide) (by decide) (fun v3 j3 t3 g5 g6 _ => ?_)
 refine Dr.now _ ⟨hr.1, ?_⟩
 simp at g4
 dsimp only
 omega
theorem implAreaAt_ev (l : List S60) (a : Int) (hm : l.length ≤ 9223372036854775807) (h : okPasses l = true) (h0 : 0 ≤ a ∧ a ≤ 7) : Ev (fun k => impl_AreaAt.f k l a) (areaAtOf l a, true) := by
 simp only [impl_AreaAt.f, implAt_eq, Option.bind_some, impl_isStation.f, within_eq]
 refine Ev.bind (arePasses_ev l hm) (Ev.ite_pos h (Ev.ite_pos (by simp; omega) (Ev.now _)))
theorem passages_j5 {l : List Int} (hb : Bytes l) : Ev (fun k => laws_FnPassages.j5 k l) true := by
 obtain ⟨u, h1, h2⟩ := dr_mean hb
 refine Ev.step (fun k => by rw [laws_FnPassages.j5]) ?_
 refine Ev.bind h1 (Ev.bind (implMean_ev u (by omega)) (Ev.bind (specMean_ev u (by omega)) (Ev.ite_pos rfl (Ev.ite_pos rfl ?_))))
 rw [show ((meanAnswer u).2.2 != (meanAnswer u).2.2) = false by simp]
 refine Ev.step (fun k => by rw [laws_FnPassages.j6]) (Ev.ite_neg (by decide) ?_)
 by_cases h : okPasses u = true ∧ u.length ≠ 0
 ·obtain ⟨y, hy1, hy2⟩ := widest_ev (by omega) h.1 h.2
  obtain ⟨m1, m2, m3, m4⟩ := mean_le h.1 h.2 hy2
  rw [m4]
  refine Ev.ite_pos rfl (Ev.bind hy1 (Ev.bind (implAreaAt_ev u y.f0 (by omega) h.1 m2) (Ev.ite_pos rfl (Ev.ite_pos rfl ?_))))
  rw [m1, decide_eq_true m3]
  exact Ev.now _
 ·have e : (meanAnswer u).2.2 = false := by
   unfold meanAnswer
   rw [if_neg h]
  rw [e]
  exact Ev.ite_neg (by decide) (Ev.now _)
theorem passages_j3 {l : List Int} (hb : Bytes l) : Ev (fun k => laws_FnPassages.j3 k l) true := by
 obtain ⟨⟨z, w, h⟩, h1, h2, h3⟩ := dr_fitting hb
 simp only at h2 h3
 refine Ev.step (fun k => by rw [laws_FnPassages.j3]) ?_
 refine Ev.bind h1 (Ev.bind (implFitting_ev z w h (by omega)) (Ev.bind (specFitting_ev z w h (by omega)) (Ev.ite_neg (by simp) ?_)))
 have hlen := fitAnswer_len z w h
 refine Ev.bind (vInts_ev _ (by omega)) ?_
 refine Ev.step (fun k => by rw [laws_FnPassages.j4]) (Ev.ite_neg (by decide) ?_)
 by_cases hc : okPasses z = true ∧ ¬ w < 1 ∧ ¬ h < 1
 ·have e : (fitAnswer z w h).2 = true := by rw [fit_is hc]
  obtain ⟨m1, m2⟩ := fit_mono hc h3
  have hlen2 := fitAnswer_len z (wrap64 (w + 1)) h
  rw [e]
  refine Ev.ite_pos rfl (Ev.bind (implFitting_ev z _ h (by omega)) ?_)
  rw [m1]
  exact Ev.ite_pos rfl (Ev.bind (vWithin_ev _ _ (Nat.le_trans hlen2 (by decide)) (Nat.le_trans hlen (by decide)) m2) (Ev.ite_pos rfl (passages_j5 hb)))
 ·have e : (fitAnswer z w h).2 = false := by
   unfold fitAnswer
   rw [if_neg hc]
  rw [e]
  exact Ev.ite_neg (by decide) (passages_j5 hb)
theorem passages_j1 {l : List Int} (hb : Bytes l) : Ev (fun k => laws_FnPassages.j1 k l) true := by
 obtain ⟨⟨x, y⟩, h1, h2, h3⟩ := dr_merge hb
 simp only at h2 h3
 refine Ev.step (fun k => by rw [laws_FnPassages.j1]) ?_
 refine Ev.bind h1 (Ev.bind (implMerge_ev x y (by omega) (by omega)) (Ev.bind (specMerge_ev x y (by omega) (by omega)) (Ev.ite_neg (by simp) ?_)))
 have hlen := mergeAns_len x y
 refine Ev.bind (vPasses_ev _ (by omega)) ?_
 refine Ev.step (fun k => by rw [laws_FnPassages.j2]) (Ev.ite_neg (by decide) ?_)
 by_cases hc : okPasses x = true ∧ okPasses y = true
 ·obtain ⟨m1, m2, m3⟩ := mergeAns_is hc.1 hc.2
  rw [m1] at hlen ⊢
  dsimp only at hlen
  refine Ev.ite_pos rfl (Ev.bind (implMerge_ev y x (by omega) (by omega)) ?_)
  rw [m2]
  refine Ev.bind (implMerge_ev _ x (by dsimp only; omega) (by omega)) ?_
  rw [m3]
  refine Ev.ite_pos rfl (Ev.bind (vPasses_ev _ (by dsimp only; omega)) (Ev.ite_pos rfl (Ev.ite_pos rfl (Ev.bind (vPasses_ev _ (by dsimp only; omega)) (Ev.ite_pos rfl (passages_j3 hb))))))
 ·have e : (mergeAns x y).2 = false := by
   unfold mergeAns
   rw [if_neg hc]
  rw [e]
  exact Ev.ite_neg (by decide) (passages_j3 hb)
theorem FnPassages (l0 : List Int) (hm0 : l0.length ≤ 9223372036854775807) (hw0 : ∀ x ∈ l0, (Lit.int .u8 x).wf = true) : ∃ k, laws_FnPassages.f k l0 = some true := by
 apply Ev.rounds
 have hb := bytes_of hw0
 simp only [laws_FnPassages.f, laws_vBig.f, Option.bind_some]
 by_cases hbig : (l0.length : Int) > 65536
 ·exact Ev.ite_pos (decide_eq_true hbig) (Ev.now true)
 refine Ev.ite_neg (by simpa using hbig) ?_
 obtain ⟨⟨z, g⟩, h1, h2, h3⟩ := dr_volume hb
 simp only at h2 h3
 refine Ev.bind h1 (Ev.bind (implVol_ev z g (by omega) (by omega)) (Ev.bind (specVol_ev z g (by omega) (by omega)) (Ev.ite_pos rfl (Ev.ite_pos rfl (Ev.ite_neg (by simp) ?_)))))
 refine Ev.bind (arePasses_ev z (by omega)) ?_
 simp only [spec_ArePassages.f]
 refine Ev.bind (a := okPasses z) (Ev.bind (l12Good_ev z (by omega)) (Ev.now _)) ?_
 rw [show (okPasses z != okPasses z) = false by simp]
 refine Ev.step (fun k => by rw [laws_FnPassages.j0]) (Ev.ite_neg (by decide) ?_)
 by_cases hc : okPasses z = true ∧ okLegs g = true
 ·have e : (volAns z g).2.2 = true := by
   unfold volAns
   rw [if_pos hc]
  have h12 := okLegs_len hc.2
  have hw : wrap64 ((g.length : Int) / 2) = ((g.length / 2 : Nat) : Int) := by
   rw [wrap_id (by omega) (by omega)]
   omega
  obtain ⟨a, b, c, d, v1, v2, v3⟩ := vol_adds hc.1 hc.2 (g.length / 2) (by omega)
  rw [e, hw]
  refine Ev.ite_pos rfl (Ev.ite_pos (by omega) (Ev.ite_pos (by omega) ?_))
  rw [Int.toNat_natCast]
  refine Ev.bind (implVol_ev z _ (by omega) (by rw [List.length_take]; omega)) ?_
  rw [v1]
  refine Ev.bind (implVol_ev z _ (by omega) (by rw [List.length_drop]; omega)) ?_
  rw [v2]
  exact Ev.ite_pos rfl (Ev.ite_pos rfl (Ev.ite_pos v3 (passages_j1 hb)))
 ·have e : (volAns z g).2.2 = false := by
   unfold volAns
   rw [if_neg hc]
  rw [e]
  exact Ev.ite_neg (by decide) (passages_j1 hb)
end Go.Proofs.Ytffdglecmjbolaa.Pure
