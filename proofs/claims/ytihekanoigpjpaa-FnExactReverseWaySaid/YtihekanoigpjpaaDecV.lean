-- Written by a program of this session (wip/drv.py) out of Lean's own print of the loaded program; hand-proved parts from wip/inj.
import Derived.Test.YtihekanoigpjpaaMVx0
import Derived.Test.YtihekanoigpjpaaOpen
import Derived.ChangeArms
import Derived.Deep.Fields
import Derived.KernelRfl
namespace Go.Proofs.Ytihekanoigpjpaa.MV
open Go.RowKit Go.Deep Go.ChangeShapes Go.WideShapes Go.Proofs.YtihekanoigpjpaaW.PrintWords Go.Proofs.YtihekanoigpjpaaW.PrintLast Go.Proofs.Ytihekanoigpjpaa.Open
def OK47 (x : S47) : Prop := (Lit.int .i64 x.f0).wf = true ∧ (Lit.int .i64 x.f1).wf = true
set_option maxRecDepth 100000 in
theorem dec47 : Dec k47 OK47 Try.prog 47 := by
  intro H enc w base spare held n cs y h
  obtain ⟨ys, n', _, _, hlen, hyl, hf⟩ := DataW.trod_struct Try.underlying47 h
  have hC : Try.prog.cellsOf 47 = 2 := by kernel_rfl
  rw [hC] at hlen
  have hC3 : Try.prog.cellsOf 3 = 1 := by kernel_rfl
  match cs, hlen with
  | [c0, c1], _ =>
    have hys : ∀ i, i < 2 → ∃ y, ys[i]? = some y := fun i hi => ⟨_, List.getElem?_eq_getElem (by rw [hyl]; exact hi)⟩
    obtain ⟨y0, hy0⟩ := hys 0 (by omega)
    have g0 : DataW.trod enc Try.prog w base spare held n' 3 (([c0, c1].drop 0).take (Try.prog.cellsOf 3)) = ys[0]? := hf 0 _ rfl
    rw [hy0, hC3] at g0
    obtain ⟨y1, hy1⟩ := hys 1 (by omega)
    have g1 : DataW.trod enc Try.prog w base spare held n' 3 (([c0, c1].drop 1).take (Try.prog.cellsOf 3)) = ys[1]? := hf 1 _ rfl
    rw [hy1, hC3] at g1
    obtain ⟨x0, e0, _, w0⟩ := DataW.trod_int Try.underlying3 g0
    obtain rfl : c0 = _ := by simpa using e0
    obtain ⟨x1, e1, _, w1⟩ := DataW.trod_int Try.underlying3 g1
    obtain rfl : c1 = _ := by simpa using e1
    exact ⟨(⟨x0, x1⟩ : S47), ⟨w0, w1⟩, k47_mk w (⟨x0, x1⟩ : S47)⟩
end Go.Proofs.Ytihekanoigpjpaa.MV
