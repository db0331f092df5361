-- Written by a program of this session (wip/drv.py) out of Lean's own print of the loaded program; hand-proved parts from wip/inj.
import Derived.Test.YtfbkhdlhkfbfcaaDoorMAx0
import Derived.Test.YtfbkhdlhkfbfcaaDoorOpen
import Derived.ChangeArms
import Derived.Deep.Fields
import Derived.KernelRfl
namespace Go.Proofs.YtfbkhdlhkfbfcaaDoor.MA
open Go.RowKit Go.Deep Go.ChangeShapes Go.WideShapes Go.Proofs.YtfbkhdlhkfbfcaaDoorW.PrintWords Go.Proofs.YtfbkhdlhkfbfcaaDoorW.PrintLast Go.Proofs.YtfbkhdlhkfbfcaaDoor.Open
def OK64 (x : S64) : Prop := (Lit.int .i64 x.f0).wf = true ∧ (Lit.int .i64 x.f1).wf = true ∧ (Lit.int .i64 x.f2).wf = true ∧ (Lit.int .i64 x.f3).wf = true ∧ (Lit.int .i64 x.f4).wf = true
set_option maxRecDepth 100000 in
theorem dec64 : Dec k64 OK64 Tryd.prog 64 := by
 intro H enc w base spare held n cs y h
 obtain ⟨ys, n', _, _, hlen, hyl, hf⟩ := DataW.trod_struct Tryd.underlying64 h
 have hC : Tryd.prog.cellsOf 64 = 5 := by kernel_rfl
 rw [hC] at hlen
 have hC3 : Tryd.prog.cellsOf 3 = 1 := by kernel_rfl
 match cs, hlen with
 | [c0, c1, c2, c3, c4], _ =>
  have hys : ∀ i, i < 5 → ∃ y, ys[i]? = some y := fun i hi => ⟨_, List.getElem?_eq_getElem (by rw [hyl]; exact hi)⟩
  obtain ⟨y0, hy0⟩ := hys 0 (by omega)
  have g0 : DataW.trod enc Tryd.prog w base spare held n' 3 (([c0, c1, c2, c3, c4].drop 0).take (Tryd.prog.cellsOf 3)) = ys[0]? := hf 0 _ rfl
  rw [hy0, hC3] at g0
  obtain ⟨y1, hy1⟩ := hys 1 (by omega)
  have g1 : DataW.trod enc Tryd.prog w base spare held n' 3 (([c0, c1, c2, c3, c4].drop 1).take (Tryd.prog.cellsOf 3)) = ys[1]? := hf 1 _ rfl
  rw [hy1, hC3] at g1
  obtain ⟨y2, hy2⟩ := hys 2 (by omega)
  have g2 : DataW.trod enc Tryd.prog w base spare held n' 3 (([c0, c1, c2, c3, c4].drop 2).take (Tryd.prog.cellsOf 3)) = ys[2]? := hf 2 _ rfl
  rw [hy2, hC3] at g2
  obtain ⟨y3, hy3⟩ := hys 3 (by omega)
  have g3 : DataW.trod enc Tryd.prog w base spare held n' 3 (([c0, c1, c2, c3, c4].drop 3).take (Tryd.prog.cellsOf 3)) = ys[3]? := hf 3 _ rfl
  rw [hy3, hC3] at g3
  obtain ⟨y4, hy4⟩ := hys 4 (by omega)
  have g4 : DataW.trod enc Tryd.prog w base spare held n' 3 (([c0, c1, c2, c3, c4].drop 4).take (Tryd.prog.cellsOf 3)) = ys[4]? := hf 4 _ rfl
  rw [hy4, hC3] at g4
  obtain ⟨x0, e0, _, w0⟩ := DataW.trod_int Tryd.underlying3 g0
  obtain rfl : c0 = _ := by simpa using e0
  obtain ⟨x1, e1, _, w1⟩ := DataW.trod_int Tryd.underlying3 g1
  obtain rfl : c1 = _ := by simpa using e1
  obtain ⟨x2, e2, _, w2⟩ := DataW.trod_int Tryd.underlying3 g2
  obtain rfl : c2 = _ := by simpa using e2
  obtain ⟨x3, e3, _, w3⟩ := DataW.trod_int Tryd.underlying3 g3
  obtain rfl : c3 = _ := by simpa using e3
  obtain ⟨x4, e4, _, w4⟩ := DataW.trod_int Tryd.underlying3 g4
  obtain rfl : c4 = _ := by simpa using e4
  exact ⟨(⟨x0, x1, x2, x3, x4⟩ : S64), ⟨w0, w1, w2, w3, w4⟩, k64_mk w (⟨x0, x1, x2, x3, x4⟩ : S64)⟩
def OK24 (x : S24) : Prop := (Lit.int .i64 x.f0).wf = true ∧ (Lit.int .i64 x.f1).wf = true ∧ (Lit.int .i64 x.f2).wf = true ∧ (Lit.int .i64 x.f3).wf = true ∧ (Lit.int .i64 x.f4).wf = true
set_option maxRecDepth 100000 in
theorem dec24 : Dec k24 OK24 Tryd.prog 24 := by
 intro H enc w base spare held n cs y h
 obtain ⟨ys, n', _, _, hlen, hyl, hf⟩ := DataW.trod_struct Tryd.underlying24 h
 have hC : Tryd.prog.cellsOf 24 = 5 := by kernel_rfl
 rw [hC] at hlen
 have hC3 : Tryd.prog.cellsOf 3 = 1 := by kernel_rfl
 match cs, hlen with
 | [c0, c1, c2, c3, c4], _ =>
  have hys : ∀ i, i < 5 → ∃ y, ys[i]? = some y := fun i hi => ⟨_, List.getElem?_eq_getElem (by rw [hyl]; exact hi)⟩
  obtain ⟨y0, hy0⟩ := hys 0 (by omega)
  have g0 : DataW.trod enc Tryd.prog w base spare held n' 3 (([c0, c1, c2, c3, c4].drop 0).take (Tryd.prog.cellsOf 3)) = ys[0]? := hf 0 _ rfl
  rw [hy0, hC3] at g0
  obtain ⟨y1, hy1⟩ := hys 1 (by omega)
  have g1 : DataW.trod enc Tryd.prog w base spare held n' 3 (([c0, c1, c2, c3, c4].drop 1).take (Tryd.prog.cellsOf 3)) = ys[1]? := hf 1 _ rfl
  rw [hy1, hC3] at g1
  obtain ⟨y2, hy2⟩ := hys 2 (by omega)
  have g2 : DataW.trod enc Tryd.prog w base spare held n' 3 (([c0, c1, c2, c3, c4].drop 2).take (Tryd.prog.cellsOf 3)) = ys[2]? := hf 2 _ rfl
  rw [hy2, hC3] at g2
  obtain ⟨y3, hy3⟩ := hys 3 (by omega)
  have g3 : DataW.trod enc Tryd.prog w base spare held n' 3 (([c0, c1, c2, c3, c4].drop 3).take (Tryd.prog.cellsOf 3)) = ys[3]? := hf 3 _ rfl
  rw [hy3, hC3] at g3
  obtain ⟨y4, hy4⟩ := hys 4 (by omega)
  have g4 : DataW.trod enc Tryd.prog w base spare held n' 3 (([c0, c1, c2, c3, c4].drop 4).take (Tryd.prog.cellsOf 3)) = ys[4]? := hf 4 _ rfl
  rw [hy4, hC3] at g4
  obtain ⟨x0, e0, _, w0⟩ := DataW.trod_int Tryd.underlying3 g0
  obtain rfl : c0 = _ := by simpa using e0
  obtain ⟨x1, e1, _, w1⟩ := DataW.trod_int Tryd.underlying3 g1
  obtain rfl : c1 = _ := by simpa using e1
  obtain ⟨x2, e2, _, w2⟩ := DataW.trod_int Tryd.underlying3 g2
  obtain rfl : c2 = _ := by simpa using e2
  obtain ⟨x3, e3, _, w3⟩ := DataW.trod_int Tryd.underlying3 g3
  obtain rfl : c3 = _ := by simpa using e3
  obtain ⟨x4, e4, _, w4⟩ := DataW.trod_int Tryd.underlying3 g4
  obtain rfl : c4 = _ := by simpa using e4
  exact ⟨(⟨x0, x1, x2, x3, x4⟩ : S24), ⟨w0, w1, w2, w3, w4⟩, k24_mk w (⟨x0, x1, x2, x3, x4⟩ : S24)⟩
end Go.Proofs.YtfbkhdlhkfbfcaaDoor.MA
