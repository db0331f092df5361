-- Written by a program of this session (wip/drv.py) out of Lean's own print of the loaded program; hand-proved parts from wip/inj.
import Derived.Test.YtckidmhkhlbkeaaMAx0
import Derived.Test.YtckidmhkhlbkeaaOpen
import Derived.ChangeArms
import Derived.Deep.Fields
import Derived.KernelRfl
namespace Go.Proofs.Ytckidmhkhlbkeaa.MA
open Go.RowKit Go.Deep Go.ChangeShapes Go.WideShapes Go.Proofs.YtckidmhkhlbkeaaW.PrintWords Go.Proofs.YtckidmhkhlbkeaaW.PrintLast Go.Proofs.Ytckidmhkhlbkeaa.Open
def OK61 (x : S61) : Prop := x.f0.size ≤ maxLen ∧ (Lit.int .i64 x.f1).wf = true ∧ (Lit.int .i64 x.f2).wf = true
set_option maxRecDepth 100000 in
theorem dec61 : Dec k61 OK61 Try.prog 61 := by
  intro H enc w base spare held n cs y h
  obtain ⟨ys, n', _, _, hlen, hyl, hf⟩ := DataW.trod_struct Try.underlying61 h
  have hC : Try.prog.cellsOf 61 = 3 := by kernel_rfl
  rw [hC] at hlen
  have hC3 : Try.prog.cellsOf 3 = 1 := by kernel_rfl
  have hC9 : Try.prog.cellsOf 9 = 1 := by kernel_rfl
  match cs, hlen with
  | [c0, c1, c2], _ =>
    have hys : ∀ i, i < 3 → ∃ y, ys[i]? = some y := fun i hi => ⟨_, List.getElem?_eq_getElem (by rw [hyl]; exact hi)⟩
    obtain ⟨y0, hy0⟩ := hys 0 (by omega)
    have g0 : DataW.trod enc Try.prog w base spare held n' 9 (([c0, c1, c2].drop 0).take (Try.prog.cellsOf 9)) = ys[0]? := hf 0 _ rfl
    rw [hy0, hC9] at g0
    obtain ⟨y1, hy1⟩ := hys 1 (by omega)
    have g1 : DataW.trod enc Try.prog w base spare held n' 3 (([c0, c1, c2].drop 1).take (Try.prog.cellsOf 3)) = ys[1]? := hf 1 _ rfl
    rw [hy1, hC3] at g1
    obtain ⟨y2, hy2⟩ := hys 2 (by omega)
    have g2 : DataW.trod enc Try.prog w base spare held n' 3 (([c0, c1, c2].drop 2).take (Try.prog.cellsOf 3)) = ys[2]? := hf 2 _ rfl
    rw [hy2, hC3] at g2
    obtain ⟨x0, e0, _, w0⟩ := DataW.trod_string Try.underlying9 g0
    obtain rfl : c0 = _ := by simpa using e0
    obtain ⟨x1, e1, _, w1⟩ := DataW.trod_int Try.underlying3 g1
    obtain rfl : c1 = _ := by simpa using e1
    obtain ⟨x2, e2, _, w2⟩ := DataW.trod_int Try.underlying3 g2
    obtain rfl : c2 = _ := by simpa using e2
    exact ⟨(⟨x0, x1, x2⟩ : S61), ⟨w0, w1, w2⟩, k61_mk w (⟨x0, x1, x2⟩ : S61)⟩
end Go.Proofs.Ytckidmhkhlbkeaa.MA
