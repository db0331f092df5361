-- tight2 (a walk)
import Derived.RangeFuncNested
import Derived.RangeFuncBound
import Derived.RangeFuncCalls
import Derived.RangeFuncLeaves
import Derived.RangeFuncBox
import Derived.Shelf.Abstract
import Derived.Shelf.RegionOpen
import Derived.OwnWalkIn
import Derived.TacticsInMore
import Derived.LoopNIn
import Derived.LoopIn
import Derived.Test.YtckidmhkhlbkeaaShelf
import Derived.Lib.Builder
import Derived.Lib.AppendStr
import Derived.WalkKit
import Derived.Laws.Externs
import Derived.Lib.ConvBytes
import Derived.OrdersIn
import Derived.TacticsIn
import Derived.RegionIn
import Derived.Deep.RegionHeld3
import Derived.Test.YtckidmhkhlbkeaaMKx0
import Derived.Test.YtckidmhkhlbkeaaMKx2
namespace Go.Proofs.Ytckidmhkhlbkeaa.MK
open Go.RowKit Go.Proofs.YtckidmhkhlbkeaaW.PrintWords Go.Proofs.YtckidmhkhlbkeaaW.PrintLast
set_option maxRecDepth 100000
attribute [local go_sem] max2_int min2_int max_two min_two
set_option linter.unusedVariables false
set_option linter.unusedSimpArgs false

/-! strings.Builder: WriteString onto a builder whose buffer lies in a row made from B on; every other block that was there stays -/
def Bld (B b : Nat) (p : Value) (bs : List Value) (w : World) : Prop := ∃ v, w.heap[b]? = some (.cells #[p, v] 105 (0, 0)) ∧ w.ownsRow B 5 1 v bs.length bs ∧ v.ownBlock ≠ some b
/-- Every block but b, and but those from B on, stands. -/
def Stands (B b : Nat) (w w' : World) : Prop := w.heap.size ≤ w'.heap.size ∧ w'.os = w.os ∧ w'.tape = w.tape ∧ w'.output = w.output ∧ ∀ k, k < w.heap.size → k < B → k ≠ b → w'.heap[k]? = w.heap[k]?
theorem bld_size : ∃ j, Try.prog.info? 105 = some j ∧ j.size = 2 := by
 have h : (Try.prog.info? 105).map (·.size) = some 2 := by kernel_rfl
 exact Option.map_eq_some_iff.1 h
theorem bld_lies : liesAt Try.prog Try.prog.depth 105 (2 / Try.prog.cellsOf 105) 0 105 1 = true := by kernel_rfl
set_option maxHeartbeats 1000000 in
theorem Bld.copy_used (b : Nat) (w : World) (h0 : w.cell? ⟨b, 0, none⟩ = some (.pointer (some ⟨b, 0, none⟩))) :
  Calls Try.prog 89 #[.pointer (some ⟨b, 0, none⟩)] w fun e w' => e = .returned (.tuple #[]) ∧ w' = w := by
 obtain ⟨j, hj, _⟩ := bld_size
 go_enter Try.func89, Try.ntmps89
 go_wp2
 rw [Lib.run_neq_ptr_same w _ Try.underlying103 hj]
 go_wp2
 go_end0
 exact ⟨rfl, rfl⟩
set_option maxHeartbeats 1000000 in
theorem Bld.copy_fresh (b : Nat) (w : World) (h0 : w.cell? ⟨b, 0, none⟩ = some (.pointer none)) (hsh : w.shape? b = some (105, 2)) (hfz : w.frozen? ⟨b, 0, none⟩ = false) :
  Calls Try.prog 89 #[.pointer (some ⟨b, 0, none⟩)] w fun e w' => e = .returned (.tuple #[]) ∧ w' = w.setCell ⟨b, 0, none⟩ (.pointer (some ⟨b, 0, none⟩)) := by
 obtain ⟨j, hj, hjs⟩ := bld_size
 go_enter Try.func89, Try.ntmps89
 go_wp2
 rw [Lib.run_to_unsafe w ⟨b, 0, none⟩ Try.underlying103 Try.underlying134 hj (by rw [hjs]; decide) hsh (Nat.zero_lt_succ 1)]; simp only [Result.andThen]; rw [Oper.upon_value]
 go_wp2
 rw [run_callFunc_extern Try.func108 (qK18) (qK18) (qK18) (e := Extern.AbiNoEscape.same) (qK18)]; rw [Lib.run_noEscape]; simp only [Result.andThen]; rw [Oper.upon_value]
 go_wp2
 rw [Lib.run_from_unsafe w ⟨b, 0, none⟩ Try.underlying134 Try.underlying103 hj hsh bld_lies]; simp only [Result.andThen]; rw [Oper.upon_value]
 go_wp2
 go_end0
 exact ⟨rfl, rfl⟩
theorem setBox {w : World} {b : Nat} {p v : Value} {t : TypeId} (hb : w.heap[b]? = some (.cells #[p, v] t (0, 0))) (q : Value) : (w.setCell ⟨b, 0, none⟩ q).heap[b]? = some (.cells #[q, v] t (0, 0)) := by simp [World.setCell, Array.getElem?_modify, hb]
theorem setBox1 {w : World} {b : Nat} {p v : Value} {t : TypeId} (hb : w.heap[b]? = some (.cells #[p, v] t (0, 0))) (q : Value) : (w.setCell ⟨b, 1, none⟩ q).heap[b]? = some (.cells #[p, q] t (0, 0)) := by simp [World.setCell, Array.getElem?_modify, hb]
theorem Stands.refl (B b : Nat) (w : World) : Stands B b w w := ⟨zn _, rfl, rfl, rfl, fun _ _ _ _ => rfl⟩
theorem Stands.trans {B b : Nat} {x y z : World} (h : Stands B b x y) (k : Stands B b y z) : Stands B b x z := ⟨Nat.le_trans h.1 k.1, k.2.1.trans h.2.1, k.2.2.1.trans h.2.2.1, k.2.2.2.1.trans h.2.2.2.1, fun i h1 h2 h3 => (k.2.2.2.2 i (Nat.lt_of_lt_of_le h1 h.1) h2 h3).trans (h.2.2.2.2 i h1 h2 h3)⟩
theorem Stands.set (B b j : Nat) (w : World) (v : Value) : Stands B b w (w.setCell ⟨b, j, none⟩ v) := ⟨by simp [World.setCell], rfl, rfl, rfl, fun k _ _ hk => Below.heap_setCell _ _ _ _ (fun e => hk (by simp [e]))⟩
theorem Stands.of_grown {B b : Nat} {w w' : World} {row : Option Nat} (hg : w.grownBy w' row) (hr : ∀ k, row = some k → B ≤ k) : Stands B b w w' := ⟨hg.size, hg.os, hg.tape, hg.output, fun k h1 h2 _ => hg.block k h1 (fun e => by have := hr k e.symm; omega)⟩
theorem Bld.copy (B b : Nat) (p : Value) (bs : List Value) (w : World) (hp : p = .pointer none ∨ p = .pointer (some ⟨b, 0, none⟩)) (h : Bld B b p bs w) :
  Calls Try.prog 89 #[.pointer (some ⟨b, 0, none⟩)] w fun e w' => e = .returned (.tuple #[]) ∧ Bld B b (.pointer (some ⟨b, 0, none⟩)) bs w' ∧ Stands B b w w' := by
 obtain ⟨v, hb, hown, hne⟩ := h
 rcases hp with rfl | rfl
 ·refine (Bld.copy_fresh b w (by rw [Lib.cell_of_heap hb]; rfl) (by simp [World.shape?, hb]) (Lib.frozen_of_heap hb 0)).mono ?_
  rintro e w' ⟨rfl, rfl⟩
  refine ⟨rfl, ⟨v, setBox hb _, ?_, hne⟩, Stands.set B b 0 w _⟩
  exact hown.kept (row := some b) ⟨rfl, rfl, rfl, by simp [World.setCell], fun k _ hk => Below.heap_setCell _ _ _ _ (fun e => hk (by simp [e]))⟩ (Or.inr hne)
 ·refine (Bld.copy_used b w (by rw [Lib.cell_of_heap hb]; rfl)).mono ?_
  rintro e w' ⟨rfl, rfl⟩
  exact ⟨rfl, ⟨v, hb, hown, hne⟩, Stands.refl _ _ _⟩
set_option maxHeartbeats 2000000 in
theorem Bld.write (B b : Nat) (p : Value) (bs : List Value) (s : ByteArray) (w : World) (hp : p = .pointer none ∨ p = .pointer (some ⟨b, 0, none⟩)) (h : Bld B b p bs w) (hlen : bs.length + s.size ≤ 140737488355328) (hBw : B ≤ w.heap.size) :
  Calls Try.prog 78 #[.pointer (some ⟨b, 0, none⟩), .string s] w fun e w' => e = .returned (.tuple #[.int .i64 s.size, .nilIface]) ∧ Bld B b (.pointer (some ⟨b, 0, none⟩)) (bs ++ Lib.strCells s) w' ∧ Stands B b w w' := by
 obtain ⟨i0, hi, hz⟩ := Option.map_eq_some_iff.1 (show (Try.prog.info? 5).map (fun i => (i.zero, i.size, i.bytes)) = some (some (.int .u8 0), 1, 1) by kernel_rfl); simp only [ya] at hz; obtain ⟨hz0, hz1, hz2⟩ := hz
 go_enter Try.func78, Try.ntmps78
 go_wp2_with (go_at_call 89; refine (Bld.copy B b p bs _ hp h).mono ?_)
 rintro e w1 ⟨rfl, h1, hs1⟩
 obtain ⟨v, hbk, hown, hne⟩ := h1
 have c0 : w1.cell? ⟨b, 0, none⟩ = some (.pointer (some ⟨b, 0, none⟩)) := by rw [Lib.cell_of_heap hbk]; rfl
 have c1 : w1.cell? ⟨b, 1, none⟩ = some v := by rw [Lib.cell_of_heap hbk]; rfl
 go_wp2_with (at_builtin; refine Lib.wpList_append_own_string _ rfl _ _ 36 9 rfl B 5 i0 Try.underlying36 Try.underlying9 hi hz0 hz1 hz2 _ _ _ rfl hown s rfl ?c3 ?c4 ?c5 ?_)
 case c3 => unfold maxLen; omega
 case c4 => omega
 case c5 => have := hs1.1; omega
 intro v' w2 hown' hgrow _; have hlt : b < w1.heap.size := (Array.getElem?_eq_some_iff.1 hbk).1
 have hb2 : w2.heap[b]? = some (.cells #[.pointer (some ⟨b, 0, none⟩), v] 105 (0, 0)) := by
  rw [hgrow.block b hlt (fun e => hne e.symm)]
  exact hbk
 have d0 : w2.cell? ⟨b, 0, none⟩ = some (.pointer (some ⟨b, 0, none⟩)) := by rw [Lib.cell_of_heap hb2]; rfl
 have d1 : w2.cell? ⟨b, 1, none⟩ = some v := by rw [Lib.cell_of_heap hb2]; rfl
 have f1 : w2.frozen? ⟨b, 1, none⟩ = false := Lib.frozen_of_heap hb2 1
 obtain ⟨ao, n', cap, rfl⟩ : ∃ ao n' cap, v' = .slice ao n' cap := by
  rcases hown'.2 with ⟨hv, _⟩ | ⟨g, cap, cur, hv, _⟩
  ·exact ⟨_, _, _, hv⟩
  ·exact ⟨_, _, _, hv⟩
 go_wp2
 go_ret2
 have hne' := Lib.ownBlock_ne hown' hb2 (by decide)
 refine ⟨rfl, ⟨_, setBox1 hb2 _, ?_, hne'⟩, hs1.trans ((Stands.of_grown hgrow (fun k hk => ?_)).trans (Stands.set B b 1 w2 _))⟩
 ·have := hown'.kept (w' := w2.setCell ⟨b, 1, none⟩ (.slice ao n' cap)) (row := some b) ⟨rfl, rfl, rfl, by simp [World.setCell], fun k _ hk => Below.heap_setCell _ _ _ _ (fun e => hk (by simp [e]))⟩ (Or.inr hne')
  simpa [Lib.strCells_length] using this
 ·exact own_base hown k hk
theorem uponIn_round {n : Nat} {P : Program} {Q : Exit → Act → World → Prop} {l : Nat} (o : Oper) (a : Act) (K : Act → World → Prop) (r : Result Next) (h : o.uponIn Fence.wide n P a K Q r) : o.uponIn (Fence.wide.inRound l) n P a K Q r := by
 cases r with
 | ok x w => cases x <;> exact h
 | halt x w => cases x <;> exact h
theorem wpOpIn_round {n : Nat} {P : Program} {ops : Array Oper} {Q : Exit → Act → World → Prop} {l : Nat} (hd : ∀ (i : Nat) (o : Oper), ops[i]? = some o → ∀ c, o.op ≠ .defer c) {i : Nat} {K : Act → World → Prop} {a : Act} {w : World} (h : wpOpIn Fence.wide n P ops Q i K a w) : wpOpIn (Fence.wide.inRound l) n P ops Q i K a w := by
 unfold wpOpIn at *
 split
 ·rename_i ho; simpa [ho] using h
 ·rename_i o ho
  simp only [ho] at h
  split
  ·rename_i hw
   simp only [hw, if_true] at h
   refine ⟨fun _ _ => trivial, ?_⟩
   have h2 := h.2; rw [Oper.semAt_eq _ _ _ (hd i o ho)] at h2 ⊢
   exact uponIn_round o a K _ h2
  ·rename_i hw
   simp only [hw] at h
   exact ⟨fun _ _ => trivial, h.2⟩
theorem wpAnyIn_round {n : Nat} {P : Program} {ops : Array Oper} {Q : Exit → Act → World → Prop} {md : Region.Mode} {l : Nat} (hd : ∀ (i : Nat) (o : Oper), ops[i]? = some o → ∀ c, o.op ≠ .defer c) : ∀ (fuel : Nat) (listed : Array Bool) (a : Act) (w : World), wpAnyIn Fence.wide n P md ops Q fuel listed a w → wpAnyIn (Fence.wide.inRound l) n P md ops Q fuel listed a w
 | 0, _, _, _, h => h
 | fuel + 1, _, _, _, h => ⟨h.1, fun i hi => wpOpIn_mono (fun a' w' h' => wpAnyIn_round hd fuel _ a' w' h') (wpOpIn_round hd (h.2 i hi))⟩
def noDefer (ops : Array Oper) : Bool := ops.all fun o => match o.op with
 | .defer _ => false
 | _ => true
theorem noDefer_spec {ops : Array Oper} (h : noDefer ops = true) : ∀ (i : Nat) (o : Oper), ops[i]? = some o → ∀ c, o.op ≠ .defer c := by
 intro i o ho c hc; have hi := (Array.getElem?_eq_some_iff.1 ho); have := Array.all_eq_true.1 h i hi.1; rw [hi.2, hc] at this
 cases this
theorem wpIn_region_round {n : Nat} {P : Program} {ops : Array Oper} {Q : Exit → Act → World → Prop} {l : Nat} {id : Nat} {a : Act} {w : World} (hm : P.follows .mixedOrders = true) (hd : noDefer ops = true)
  (h : wpAnyIn Fence.wide n P .any ops Q ops.size (Array.replicate ops.size false) a w.drew) : (Code.region id ops true).wpIn (Fence.wide.inRound l) n P Q a w :=
 wpIn_region_any hm (wpAnyIn_round (noDefer_spec hd) _ _ _ _ h)
/-- A row of bytes at block b: its first cells. -/
def RowAt (W : World) (b cols : Nat) (row : Nat → Int) : Prop := ∃ cs fz, W.heap[b]? = some (.cells cs 5 fz) ∧ cs.size ≤ fz.1 ∧ cols ≤ cs.size ∧ ∀ x, x < cols → cs[x]? = some (.int .u8 (row x))
def outerOf (n i cols : Nat) (bl cp : Nat → Nat) : List Value := (List.range n).map fun y => if y < i then .slice (some ⟨bl y, 0, none⟩) cols (cp y) else .slice none 0 0
structure Grid (B : Nat) (W : World) (go n cols i : Nat) (bl cp : Nat → Nat) (G : Nat → Nat → Int) : Prop where
 outer : W.heap[go]? = some (.cells (outerOf n i cols bl cp).toArray 36 (0, 0))
 row : ∀ y, y < i → RowAt W (bl y) cols (G y)
 ge : ∀ y, y < i → B ≤ bl y
 inj : ∀ y y', y < i → y' < i → bl y = bl y' → y = y'
theorem RowAt.same {W W' : World} {b cols : Nat} {row : Nat → Int} (h : RowAt W b cols row) (hs : W'.heap[b]? = W.heap[b]?) : RowAt W' b cols row := by
 obtain ⟨cs, fz, h1, h2⟩ := h
 exact ⟨cs, fz, hs.trans h1, h2⟩
theorem RowAt.lt {W : World} {b cols : Nat} {row : Nat → Int} (h : RowAt W b cols row) : b < W.heap.size := by
 obtain ⟨cs, fz, h1, h2⟩ := h
 exact (Array.getElem?_eq_some_iff.1 h1).1
theorem RowAt.cell {W : World} {b cols : Nat} {row : Nat → Int} (h : RowAt W b cols row) (x : Nat) (hx : x < cols) : W.cell? ⟨b, x, none⟩ = some (.int .u8 (row x)) := by
 obtain ⟨cs, fz, h1, _, _, h2⟩ := h
 simp [World.cell?, h1, h2 x hx]
theorem RowAt.frozen {W : World} {b cols : Nat} {row : Nat → Int} (h : RowAt W b cols row) (x : Nat) (hx : x < cols) : W.frozen? ⟨b, x, none⟩ = false := by
 obtain ⟨cs, fz, h1, h3, h4, h2⟩ := h
 simp [World.frozen?, h1]
 omega
theorem RowAt.put {W : World} {b cols : Nat} {row : Nat → Int} (h : RowAt W b cols row) (x : Nat) (v : Int) : RowAt (W.setCell ⟨b, x, none⟩ (.int .u8 v)) b cols (fun k => if k = x then v else row k) := by
 obtain ⟨cs, fz, h1, h3, h4, h2⟩ := h
 refine ⟨cs.setIfInBounds x (.int .u8 v), fz, ?_, by simpa using h3, by simpa using h4, fun k hk => ?_⟩
 ·simp [World.setCell, Array.getElem?_modify, h1]
 ·rw [Array.getElem?_setIfInBounds]
  by_cases hkx : x = k
  ·subst hkx
   simp
   omega
  ·simp only [zY hkx]; rw [h2 k hk]
   simp [Ne.symm hkx]
theorem RowAt.ne {W : World} {b cols : Nat} {row : Nat → Int} (h : RowAt W b cols row) {g t : Nat} {cs : Array Value} (hg : W.heap[g]? = some (.cells cs t (0, 0))) (ht : 5 ≠ t) : b ≠ g := by
 obtain ⟨cs', fz, h1, _⟩ := h
 rintro rfl
 rw [h1] at hg
 injection hg with hg
 injection hg with _ hg
 exact ht hg
theorem Grid.same {B : Nat} {W W' : World} {go n cols i : Nat} {bl cp : Nat → Nat} {G : Nat → Nat → Int} (h : Grid B W go n cols i bl cp G) (hs : ∀ k cs t fz, W.heap[k]? = some (.cells cs t fz) → (t = 36 ∨ t = 5) → (k = go ∨ ∃ y, y < i ∧ k = bl y) → W'.heap[k]? = W.heap[k]?) : Grid B W' go n cols i bl cp G :=
 ⟨(hs go _ _ _ h.outer (.inl rfl) (.inl rfl)).trans h.outer, fun y hy => (h.row y hy).same (by
  obtain ⟨cs, fz, h1, _⟩ := h.row y hy
  exact hs _ _ _ _ h1 (.inr rfl) (.inr ⟨y, hy, rfl⟩)), h.ge, h.inj⟩
theorem outer_get (n i cols : Nat) (bl cp : Nat → Nat) (y : Nat) (hy : y < n) : (outerOf n i cols bl cp)[y]? = some (if y < i then .slice (some ⟨bl y, 0, none⟩) cols (cp y) else .slice none 0 0) := by
 simp [outerOf, hy]
theorem outer_length (n i cols : Nat) (bl cp : Nat → Nat) : (outerOf n i cols bl cp).length = n := by simp [outerOf]
theorem Grid.cell {B : Nat} {W : World} {go n cols i : Nat} {bl cp : Nat → Nat} {G : Nat → Nat → Int} (h : Grid B W go n cols i bl cp G) (y : Nat) (hy : y < n) : W.cell? ⟨go, y, none⟩ = some (if y < i then .slice (some ⟨bl y, 0, none⟩) cols (cp y) else .slice none 0 0) := by
 rw [(blk_cell h.outer y)]
 simp [outer_get _ _ _ _ _ y hy]
/-- One row more. -/
theorem Grid.next {B : Nat} {W : World} {go n cols i : Nat} {bl cp : Nat → Nat} {G : Nat → Nat → Int} (h : Grid B W go n cols i bl cp G) (hi : i < n) (b c : Nat) (row : Nat → Int) (hb : B ≤ b) (hr : RowAt W b cols row) (hnew : ∀ y, y < i → bl y ≠ b) :
  Grid B (W.setCell ⟨go, i, none⟩ (.slice (some ⟨b, 0, none⟩) cols c)) go n cols (i + 1) (fun y => if y = i then b else bl y) (fun y => if y = i then c else cp y) (fun y => if y = i then row else G y) := by
 have hne : b ≠ go := hr.ne h.outer (by decide)
 refine ⟨?_, fun y hy => ?_, fun y hy => ?_, fun y y' hy hy' e => ?_⟩
 ·have e : (outerOf n (i + 1) cols (fun y => if y = i then b else bl y) (fun y => if y = i then c else cp y)).toArray = (outerOf n i cols bl cp).toArray.setIfInBounds i (.slice (some ⟨b, 0, none⟩) cols c) := by
   apply Array.ext'
   simp only [Array.toList_setIfInBounds]
   refine List.ext_getElem? (fun k => ?_)
   rw [List.getElem?_set]
   by_cases hk : k < n
   ·rw [outer_get _ _ _ _ _ k hk, outer_get _ _ _ _ _ k hk, outer_length]
    by_cases hki : k = i
    ·subst hki; simp [hi]
    ·by_cases hk2 : k < i
     ·simp [hki, Ne.symm hki, hk2, show k < i + 1 by omega]
     ·simp [Ne.symm hki, hk2, show ¬ k < i + 1 by omega]
   ·have hki : i ≠ k := by omega
    rw [List.getElem?_eq_none (by rw [outer_length]; omega)]; simp only [zY hki]; rw [List.getElem?_eq_none (by rw [outer_length]; omega)]
  rw [e]
  simp [World.setCell, Array.getElem?_modify, h.outer]
 ·by_cases hy2 : y = i
  ·subst hy2; simp only [if_true]
   exact hr.same (Below.heap_setCell _ _ _ _ hne)
  ·have hy3 : y < i := by omega
   simp only [zY hy2]
   exact (h.row y hy3).same (Below.heap_setCell _ _ _ _ ((h.row y hy3).ne h.outer (by decide)))
 ·by_cases hy2 : y = i
  ·simp [hy2, hb]
  ·simp only [zY hy2]
   exact h.ge y (by omega)
 ·by_cases hy2 : y = i
  ·by_cases hy3 : y' = i
   ·omega
   ·simp only [zX hy2, zY hy3] at e
    exact zM e.symm (hnew y' (by omega))
  ·by_cases hy3 : y' = i
   ·simp only [zY hy2, zX hy3] at e
    exact zM e (hnew y (by omega))
   ·simp only [zY hy2, zY hy3] at e
    exact h.inj y y' (by omega) (by omega) e
/-- A byte written. -/
theorem Grid.put {B : Nat} {W : World} {go n cols i : Nat} {bl cp : Nat → Nat} {G : Nat → Nat → Int} (h : Grid B W go n cols i bl cp G) (y x : Nat) (hy : y < i) (v : Int) :
  Grid B (W.setCell ⟨bl y, x, none⟩ (.int .u8 v)) go n cols i bl cp (fun y' x' => if y' = y ∧ x' = x then v else G y' x') := by
 refine ⟨?_, fun y' hy' => ?_, h.ge, h.inj⟩
 ·rw [Below.heap_setCell _ _ _ _ (Ne.symm ((h.row y hy).ne h.outer (by decide)))]
  exact h.outer
 ·by_cases hyy : y' = y
  ·subst hyy; have := (h.row y' hy).put x v
   simpa using this
  ·have := (h.row y' hy').same (Below.heap_setCell W ⟨bl y, x, none⟩ (.int .u8 v) _ (fun e => hyy (h.inj y' y hy' hy e)))
   simpa [hyy] using this
structure LS (w0 w : World) (g : Nat) (s0 : List S44) (s1 s2 s3 s4 s5 : Int) (gp gl go n cols i : Nat) (bl cp : Nat → Nat) (G : Nat → Nat → Int) (W : World) : Prop where
 b : Below w0.heap.size w0 W
 k : KeepBut w W g none
 z : w0.heap.size ≤ w.heap.size
 s : IsS79 w0 W g s0 s1 s2 s3 s4 s5
 p : W.heap[gp]? = some (.cells #[.pointer (some ⟨g, 0, none⟩)] 67 (0, 0))
 l : W.heap[gl]? = some (.cells #[.slice (some ⟨go, 0, none⟩) n n] 73 (0, 0))
 g : Grid w.heap.size W go n cols i bl cp G
 lo : w.heap.size ≤ go
theorem LS.below {w0 : World} {w : World} {g : Nat} {s0 : List S44} {s1 : Int} {s2 : Int} {s3 : Int} {s4 : Int} {s5 : Int} {gp : Nat} {gl : Nat} {go : Nat} {n : Nat} {cols : Nat} {i : Nat} {bl : Nat → Nat} {cp : Nat → Nat} {G : Nat → Nat → Int} {W : World} {W' : World} (h : LS w0 w g s0 s1 s2 s3 s4 s5 gp gl go n cols i bl cp G W) (hb : Below W.heap.size W W') : LS w0 w g s0 s1 s2 s3 s4 s5 gp gl go n cols i bl cp G W' :=
 ⟨zS h.b hb, h.k.trans (zN hb g none) (.inl rfl), h.z, IsS79.below h.s hb, zk h.p hb, zk h.l hb, h.g.same (fun k cs t fz hk _ _ => hb.block k (Array.getElem?_eq_some_iff.1 hk).1), h.lo⟩
theorem LS.cellp {w0 : World} {w : World} {g : Nat} {s0 : List S44} {s1 : Int} {s2 : Int} {s3 : Int} {s4 : Int} {s5 : Int} {gp : Nat} {gl : Nat} {go : Nat} {n : Nat} {cols : Nat} {i : Nat} {bl : Nat → Nat} {cp : Nat → Nat} {G : Nat → Nat → Int} {W : World} (h : LS w0 w g s0 s1 s2 s3 s4 s5 gp gl go n cols i bl cp G W) : W.cell? ⟨gp, 0, none⟩ = some (.pointer (some ⟨g, 0, none⟩)) := (blk_cell h.p 0).trans rfl
theorem LS.celll {w0 : World} {w : World} {g : Nat} {s0 : List S44} {s1 : Int} {s2 : Int} {s3 : Int} {s4 : Int} {s5 : Int} {gp : Nat} {gl : Nat} {go : Nat} {n : Nat} {cols : Nat} {i : Nat} {bl : Nat → Nat} {cp : Nat → Nat} {G : Nat → Nat → Int} {W : World} (h : LS w0 w g s0 s1 s2 s3 s4 s5 gp gl go n cols i bl cp G W) : W.cell? ⟨gl, 0, none⟩ = some (.slice (some ⟨go, 0, none⟩) n n) := (blk_cell h.l 0).trans rfl
theorem LS.cell4 {w0 : World} {w : World} {g : Nat} {s0 : List S44} {s1 : Int} {s2 : Int} {s3 : Int} {s4 : Int} {s5 : Int} {gp : Nat} {gl : Nat} {go : Nat} {n : Nat} {cols : Nat} {i : Nat} {bl : Nat → Nat} {cp : Nat → Nat} {G : Nat → Nat → Int} {W : World} (h : LS w0 w g s0 s1 s2 s3 s4 s5 gp gl go n cols i bl cp G W) : W.cell? ⟨g, 4, none⟩ = some (.int .i64 s4) := by
 obtain ⟨A0, c0, hb, _⟩ := h.s
 exact (blk_cell hb 4).trans rfl
theorem LS.next {w0 : World} {w : World} {g : Nat} {s0 : List S44} {s1 : Int} {s2 : Int} {s3 : Int} {s4 : Int} {s5 : Int} {gp : Nat} {gl : Nat} {go : Nat} {n : Nat} {cols : Nat} {i : Nat} {bl : Nat → Nat} {cp : Nat → Nat} {G : Nat → Nat → Int} {W : World} (h : LS w0 w g s0 s1 s2 s3 s4 s5 gp gl go n cols i bl cp G W) (hi : i < n) (b c : Nat) (row : Nat → Int) (hb : w.heap.size ≤ b) (hr : RowAt W b cols row) (hnew : ∀ y, y < i → bl y ≠ b) :
  LS w0 w g s0 s1 s2 s3 s4 s5 gp gl go n cols (i + 1) (fun y => if y = i then b else bl y) (fun y => if y = i then c else cp y) (fun y => if y = i then row else G y) (W.setCell ⟨go, i, none⟩ (.slice (some ⟨b, 0, none⟩) cols c)) :=
 ⟨zW h.b (Nat.le_trans h.z h.lo), keep_far h.k h.lo _, h.z, IsS79.far h.s (IsS79.ne_blk h.s h.g.outer (by decide)) _, by rw [Below.heap_setCell _ _ _ _ (blk_ne h.p h.g.outer (by decide))]; exact h.p, by rw [Below.heap_setCell _ _ _ _ (blk_ne h.l h.g.outer (by decide))]; exact h.l, h.g.next hi b c row hb hr hnew, h.lo⟩
theorem LS.put {w0 : World} {w : World} {g : Nat} {s0 : List S44} {s1 : Int} {s2 : Int} {s3 : Int} {s4 : Int} {s5 : Int} {gp : Nat} {gl : Nat} {go : Nat} {n : Nat} {cols : Nat} {i : Nat} {bl : Nat → Nat} {cp : Nat → Nat} {G : Nat → Nat → Int} {W : World} (h : LS w0 w g s0 s1 s2 s3 s4 s5 gp gl go n cols i bl cp G W) (y x : Nat) (hy : y < i) (v : Int) :
  LS w0 w g s0 s1 s2 s3 s4 s5 gp gl go n cols i bl cp (fun y' x' => if y' = y ∧ x' = x then v else G y' x') (W.setCell ⟨bl y, x, none⟩ (.int .u8 v)) := by
 have hr := h.g.row y hy; obtain ⟨A0, c0, hb, _⟩ := h.s
 exact ⟨zW h.b (Nat.le_trans h.z (h.g.ge y hy)), keep_far h.k (h.g.ge y hy) _, h.z, IsS79.far h.s (Ne.symm (hr.ne hb (by decide))) _, by rw [Below.heap_setCell _ _ _ _ (Ne.symm (hr.ne h.p (by decide)))]; exact h.p, by rw [Below.heap_setCell _ _ _ _ (Ne.symm (hr.ne h.l (by decide)))]; exact h.l, h.g.put y x hy v, h.lo⟩
theorem LS.grown {w0 : World} {w : World} {g : Nat} {s0 : List S44} {s1 : Int} {s2 : Int} {s3 : Int} {s4 : Int} {s5 : Int} {gp : Nat} {gl : Nat} {go : Nat} {n : Nat} {cols : Nat} {i : Nat} {bl : Nat → Nat} {cp : Nat → Nat} {G : Nat → Nat → Int} {W : World} {W' : World} (h : LS w0 w g s0 s1 s2 s3 s4 s5 gp gl go n cols i bl cp G W) {row : Option Nat} (hg : W.grownBy W' row) (hr : ∀ r, row = some r → w.heap.size ≤ r ∧ ∃ o, W.heap[r]? = some o ∧ o.isCells = false) : LS w0 w g s0 s1 s2 s3 s4 s5 gp gl go n cols i bl cp G W' := by
 have hne : ∀ (k : Nat) (cs : Array Value) (t : TypeId) (fz : Nat × Nat), W.heap[k]? = some (.cells cs t fz) → some k ≠ row := fun k cs t fz hk e => by
  obtain ⟨_, o, ho, hc⟩ := hr k e.symm; rw [hk] at ho
  cases ho
  cases hc
 obtain ⟨A0, c0, hb, _⟩ := h.s
 exact ⟨h.b.grown hg (Nat.le_trans h.z h.k.1) (fun k e => Nat.le_trans h.z (hr k e).1), h.k.trans ⟨hg.size, fun i hi _ hr' => hg.block i hi hr'⟩ (by
  cases row with
  | none => exact .inl rfl
  | some r => exact .inr ⟨r, rfl, (hr r rfl).1⟩), h.z, IsS79.grown h.s hg (hne _ _ _ _ hb), blk_grown h.p hg (hne _ _ _ _ h.p), blk_grown h.l hg (hne _ _ _ _ h.l), h.g.same (fun k cs t fz hk _ _ => hg.block k (Array.getElem?_eq_some_iff.1 hk).1 (hne _ _ _ _ hk)), h.lo⟩
/-- What the square's call may turn: the plan's own block, which holds the plan still. -/
theorem LS.kept {w0 : World} {w : World} {g : Nat} {s0 : List S44} {s1 : Int} {s2 : Int} {s3 : Int} {s4 : Int} {s5 : Int} {gp : Nat} {gl : Nat} {go : Nat} {n : Nat} {cols : Nat} {i : Nat} {bl : Nat → Nat} {cp : Nat → Nat} {G : Nat → Nat → Int} {W : World} {W' : World} (h : LS w0 w g s0 s1 s2 s3 s4 s5 gp gl go n cols i bl cp G W) (hb : Below w0.heap.size w0 W') (hs : IsS79 w0 W' g s0 s1 s2 s3 s4 s5) (hk : KeepBut W W' g none) : LS w0 w g s0 s1 s2 s3 s4 s5 gp gl go n cols i bl cp G W' := by
 obtain ⟨A0, c0, hgb, _⟩ := h.s
 have e : ∀ (k : Nat) (cs : Array Value) (t : TypeId) (fz : Nat × Nat), W.heap[k]? = some (.cells cs t fz) → t ≠ 79 → W'.heap[k]? = W.heap[k]? := fun k cs t fz h1 ht => hk.2 k (Array.getElem?_eq_some_iff.1 h1).1 (fun e => by
  subst e; rw [hgb] at h1
  injection h1 with h1
  injection h1 with _ h1
  exact ht h1.symm) (by simp)
 exact ⟨hb, h.k.trans hk (.inl rfl), h.z, hs, (e _ _ _ _ h.p (by decide)).trans h.p, (e _ _ _ _ h.l (by decide)).trans h.l, h.g.same (fun k cs t fz h1 ht _ => e _ _ _ _ h1 (by rcases ht with rfl | rfl <;> decide)), h.lo⟩
theorem LS.keepsFrom {w0 : World} {w : World} {g : Nat} {s0 : List S44} {s1 : Int} {s2 : Int} {s3 : Int} {s4 : Int} {s5 : Int} {gp : Nat} {gl : Nat} {go : Nat} {n : Nat} {cols : Nat} {i : Nat} {bl : Nat → Nat} {cp : Nat → Nat} {G : Nat → Nat → Int} {W : World} {W' : World} (h : LS w0 w g s0 s1 s2 s3 s4 s5 gp gl go n cols i bl cp G W) (hk : KeepBut W W' g none) (B : Nat) : KeepsFrom B W W' := by
 obtain ⟨A0, c0, hgb, _⟩ := h.s
 exact ⟨hk.1, fun k o _ hko hc => (hk.2 k (Array.getElem?_eq_some_iff.1 hko).1 (fun e => by
  subst e; rw [hgb] at hko
  cases hko
  cases hc) (by simp)).trans hko⟩
theorem LS.belows {w0 : World} {W : World} {W' : World} (h : Below w0.heap.size w0 W) (h' : Below w0.heap.size w0 W') (hk : W.heap.size ≤ W'.heap.size) : Below w0.heap.size W W' :=
 ⟨h'.os.trans h.os.symm, h'.tape.trans h.tape.symm, h'.output.trans h.output.symm, hk, fun i hi => (h'.block i hi).trans (h.block i hi).symm⟩
theorem bytes_below (W : World) (s : ByteArray) : Below W.heap.size W (Lib.bytesWorld W 5 s) := by
 refine ⟨?_, ?_, ?_, by rw [Lib.bytesWorld_size]; omega, fun i hi => Lib.bytesWorld_at_old W 5 s i hi⟩ <;> simp [Lib.bytesWorld, World.freeze, World.alloc, World.drew, -World.alloc_eq, -World.drew_eq]
theorem bytes_row (W : World) (s : ByteArray) (row : Nat → Int) (hr : ∀ x, x < s.size → row x = ((s.data.toList.getD x 0).toNat : Int)) : RowAt (Lib.bytesWorld W 5 s) W.heap.size s.size row := by
 refine ⟨_, _, Lib.bytesWorld_at_new W 5 s, zn _, by simp [Lib.bytesCells], fun x hx => ?_⟩
 have h := Lib.bytesWorld_cell W 5 s x hx; rw [hr x hx]; rw [← h]
 simp [World.cell?, Lib.bytesWorld_at_new]
/-- The byte that a plan shows at a place: the first mark's letter, or a dot. -/
def pl_at (X Y : S44 → Int) (l : List S44) (y x : Nat) : Int := match l.find? (fun m => decide (Y m = y) && decide (X m = x)) with
 | some m => bt m.f0 0
 | none => 46
theorem pl_at_cons (X Y : S44 → Int) (m : S44) (l : List S44) (y x : Nat) : pl_at X Y (m :: l) y x = if Y m = y ∧ X m = x then bt m.f0 0 else pl_at X Y l y x := by
 unfold pl_at
 rw [List.find?_cons]
 by_cases h1 : Y m = y <;> by_cases h2 : X m = x <;> simp [h1, h2]
theorem pl_at_put (X Y : S44 → Int) (m : S44) (l : List S44) (yn xn : Nat) (hx : X m = xn) (hy : Y m = yn) : (fun y x => if y = yn ∧ x = xn then bt m.f0 0 else pl_at X Y l y x) = pl_at X Y (m :: l) := by
 funext y x
 rw [pl_at_cons, hx, hy]
 by_cases h1 : y = yn <;> by_cases h2 : x = xn
 ·subst h1; subst h2; simp
 ·have : ¬ (xn : Int) = (x : Int) := by omega
  simp [h2, this]
 ·have : ¬ (yn : Int) = (y : Int) := by omega
  simp [h1, this]
 ·have : ¬ (yn : Int) = (y : Int) := by omega
  simp [h1, this]
/-- One round of the marks: the letter is written. -/
theorem LS.round {w0 w : World} {g : Nat} {s0 : List S44} {s1 s2 s3 s4 s5 : Int} {gp gl go n cols : Nat} {bl cp : Nat → Nat} {X Y : S44 → Int} {l : List S44} {W w1 : World} {Bs : Nat} {vb : Value} (m : S44) (xn yn : Nat)
  (h : LS w0 w g s0 s1 s2 s3 s4 s5 gp gl go n cols n bl cp (pl_at X Y l) W) (h1 : LS w0 w g s0 s1 s2 s3 s4 s5 gp gl go n cols n bl cp (pl_at X Y l) w1) (hk : KeepBut W w1 g none) (hb : Boxed W Bs 26 vb) (hy : yn < n) (hxm : X m = xn) (hym : Y m = yn) (B : Nat) :
  KeepsFrom B W (w1.setCell ⟨bl yn, xn, none⟩ (.int .u8 (bt m.f0 0))).drew ∧ (Below w0.heap.size W (w1.setCell ⟨bl yn, xn, none⟩ (.int .u8 (bt m.f0 0))).drew ∧ (w1.setCell ⟨bl yn, xn, none⟩ (.int .u8 (bt m.f0 0))).drew.heap[Bs]? = W.heap[Bs]?) ∧
   LS w0 w g s0 s1 s2 s3 s4 s5 gp gl go n cols n bl cp (pl_at X Y (m :: l)) (w1.setCell ⟨bl yn, xn, none⟩ (.int .u8 (bt m.f0 0))).drew ∧ Boxed (w1.setCell ⟨bl yn, xn, none⟩ (.int .u8 (bt m.f0 0))).drew Bs 26 vb := by
 have hf := (h1.put yn xn hy (bt m.f0 0)).below (below_drew1 (zr _ _)); rw [pl_at_put X Y m l yn xn hxm hym] at hf; have hbs : W.heap[Bs]? = some (.cells #[vb] 26 (0, 0)) := hb; obtain ⟨A0, c0, hgb, _⟩ := h.s; have e1 : w1.heap[Bs]? = some (.cells #[vb] 26 (0, 0)) := (hk.2 Bs (blk_lt hbs) (blk_ne hbs hgb (by decide)) (by simp)).trans hbs; have e2 : (w1.setCell ⟨bl yn, xn, none⟩ (.int .u8 (bt m.f0 0))).drew.heap[Bs]? = some (.cells #[vb] 26 (0, 0)) := zj e1 (p := ⟨bl yn, xn, none⟩) (Ne.symm ((h1.g.row yn hy).ne e1 (by decide))) _; have sz : W.heap.size ≤ (w1.setCell ⟨bl yn, xn, none⟩ (.int .u8 (bt m.f0 0))).drew.heap.size := Nat.le_trans hk.1 (by simp [World.setCell])
 exact ⟨(h.keepsFrom hk B).trans (((KeepsOthers.setCell w1 _ _).trans (KeepsOthers.drew _)).from B), ⟨LS.belows h.b hf.b sz, e2.trans hbs.symm⟩, hf, e2⟩
attribute [local go_sem] Oper.semAt_some
/-! slices.Backward over structs of two whole numbers: the iterator's contract; a slice in memory, read from its end -/
def bk44.at {V : S44 → Prop} (l : List S44) (hV : ∀ m, m ∈ l → V m) (d : {m : S44 // V m}) (j : Nat) : Nat × {m : S44 // V m} := (l.length - 1 - j, if h : l.length - 1 - j < l.length then ⟨l[l.length - 1 - j], hV _ (List.getElem_mem h)⟩ else d)
/-- What a round keeps: what lay below n₀, and the iterator's own box. -/
def bk44.Keep (n₀ Bs : Nat) (W W' : World) : Prop := Below n₀ W W' ∧ W'.heap[Bs]? = W.heap[Bs]?
theorem bk44.keep_t {n₀ Bs : Nat} {A B C : World} (h : bk44.Keep n₀ Bs A B) (k : bk44.Keep n₀ Bs B C) : bk44.Keep n₀ Bs A C := ⟨h.1.trans k.1, k.2.trans h.2⟩
theorem bk44.keep_b {n₀ Bs : Nat} {w : World} (hn : n₀ ≤ w.heap.size) (hb : Bs < w.heap.size) (W : World) (l : Nat) (o o' : Obj) (hl : w.heap.size ≤ l) (h : W.heap[l]? = some o) (hc : o.isCells = false) (hw : o.isWalk = false) : bk44.Keep n₀ Bs W (W.putObj l o') := ⟨belowK_b hn W l o o' hl h hc hw, World.putObj_heap_other (fun e => by omega)⟩
def bk44.upto {V : S44 → Prop} (l : List S44) (hV : ∀ m, m ∈ l → V m) (d : {m : S44 // V m}) (k : Nat) : List (Nat × {m : S44 // V m}) := (List.range k).map (bk44.at l hV d)
theorem bk44.upto_succ {V : S44 → Prop} (l : List S44) (hV : ∀ m, m ∈ l → V m) (d : {m : S44 // V m}) (k : Nat) : bk44.upto l hV d (k + 1) = bk44.upto l hV d k ++ [bk44.at l hV d k] := by simp [bk44.upto, List.range_succ]
theorem bk44.upto_length {V : S44 → Prop} (l : List S44) (hV : ∀ m, m ∈ l → V m) (d : {m : S44 // V m}) (k : Nat) : (bk44.upto l hV d k).length = k := by simp [bk44.upto]
def bk44.sn {V : S44 → Prop} (x : Nat × {m : S44 // V m}) : S44 := x.2.1
theorem bk44.all {V : S44 → Prop} (l : List S44) (hV : ∀ m, m ∈ l → V m) (d : {m : S44 // V m}) : ((bk44.upto l hV d l.length).map bk44.sn).reverse = l := by
 refine List.ext_getElem (by simp [bk44.upto]) (fun i h1 h2 => ?_)
 have hj : l.length - 1 - (l.length - 1 - i) = i := by omega
 simp [bk44.upto, bk44.at, bk44.sn, hj, h2]
set_option maxHeartbeats 4000000 in
theorem bk44.loop_in (F : Fence) (n : Nat) (h8 : F.fn 94) (hro : F.round = none) (hn : 1 ≤ n) (l Bs n₀ : Nat) (A0 : Option Addr) (c0 : Nat) (l0 : List S44) {V : S44 → Prop} (hV : ∀ m, m ∈ l0 → V m) (d : {m : S44 // V m}) (w : World) (hr0 : Kd.C k44 w A0 l0.length l0) (hn₀ : w.heap.size ≤ n₀) (J Jx : List (Nat × {m : S44 // V m}) → World → Prop)
  (hY : ∀ pre x W, J pre W → pre.length < l0.length → YieldAt F (n - 1) Try.prog l #[.int .i64 (x.1 : Int), .agg #[.string x.2.1.f0, .int .i64 x.2.1.f1, .int .i64 x.2.1.f2]] W fun e W' =>
   (e = .returned (.bool true) ∧ J (pre ++ [x]) W' ∧ bk44.Keep n₀ Bs W W') ∨ (e = .returned (.bool false) ∧ Jx (pre ++ [x]) W'))
  (W : World) (hwW : Below w.heap.size w W) (hB0 : W.cell? ⟨Bs, 0, none⟩ = some (.slice A0 l0.length c0)) (h0 : J [] W) :
  CallsIn F n Try.prog 94 #[.func (.yield l) #[] #[], .pointer (some ⟨Bs, 0, none⟩)] W fun e W' => (∃ v, e = .returned v) ∧
   ((∃ ys, ys = bk44.upto l0 hV d l0.length ∧ J ys W') ∨ (∃ pre, (∃ k, k ≤ l0.length ∧ pre = bk44.upto l0 hV d k) ∧ Jx pre W')) := by
 have hm := hr0.2.1
 refine callsIn_of_wp Try.func94 rfl h8 ?_ hro
 simp only [Try.ntmps94, List.size_toArray, List.length_cons, List.length_nil, Nat.reduceAdd, Nat.reduceSub, Array.replicate_succ, Array.replicate_zero, List.push_toArray, List.append_toArray, List.nil_append, List.cons_append]
 gi_wp2
 gi_loopw [3] (fun i wr => ∃ k : Nat, k ≤ l0.length ∧ i = .int .i64 ((l0.length : Int) - 1 - (k : Int)) ∧ J (bk44.upto l0 hV d k) wr ∧ bk44.Keep n₀ Bs W wr)
  (fun i _ => (intOf i + 1).toNat)
 case atStart => exact ⟨0, Nat.zero_le _, by simp, h0, zr _ _, rfl⟩
 case round =>
  obtain ⟨k, hk, rfl, hJs, hnx⟩ := hrel; have hBr := (World.cell?_of_block (a := ⟨Bs, 0, none⟩) hnx.2).trans hB0
  by_cases hlt : k < l0.length
  ·obtain ⟨fn, tmps, assign, body, hy, hR⟩ := hY _ (bk44.at l0 hV d k) wr hJs (by rw [bk44.upto_length]; exact hlt); obtain ⟨ad, ead, hx0, hx1, hx2⟩ := at_T44 (zC hr0 (hwW.trans (hnx.1.mono hn₀))) ((l0.length : Int) - 1 - (k : Int)) (by omega) (by omega)
   have hat : rd_T44 l0 ((l0.length : Int) - 1 - (k : Int)) = (bk44.at l0 hV d k).2.1 := by
    simp only [rd_T44, bk44.at]; rw [dif_pos (show l0.length - 1 - k < l0.length by omega), show ((l0.length : Int) - 1 - (k : Int)).toNat = l0.length - 1 - k by omega]
    simp [List.getD_eq_getElem?_getD, List.getElem?_eq_getElem (show l0.length - 1 - k < l0.length by omega)]
   have hat1 : ((bk44.at l0 hV d k).1 : Int) = (l0.length : Int) - 1 - (k : Int) := by
    simp only [bk44.at]
    omega
   have et : ((l0.length : Int) - 1 - (k : Int)).toNat = l0.length - 1 - k := by omega
   rw [hat, et] at hx0 hx1 hx2; clear et; rw [hat1] at hy; obtain ⟨x, hx⟩ : ∃ x, x = bk44.at l0 hV d k := ⟨_, rfl⟩; rw [← hx] at hx0 hx1 hx2 hy hR; have HX := za hx; clear hx hat hat1; cases ead; (try dsimp only at hy)
   gi_wp2
   refine hR.mono ?_
   rintro e W3 (⟨rfl, hJ3, hk3⟩ | ⟨rfl, hJx3⟩)
   ·gi_wp2
    go_roundw
    case rel => exact ⟨k + 1, by omega, by simp; omega, by rw [bk44.upto_succ, ← HX.1]; exact hJ3, bk44.keep_t hnx hk3⟩
    case measure => simp [intOf]; omega
   ·gi_wp2
    refine bodyPost_ret (results_none rfl _ _ _) rfl ?_
    exact ⟨⟨_, rfl⟩, .inr ⟨_, ⟨k + 1, by omega, by rw [bk44.upto_succ, ← HX.1]⟩, hJx3⟩⟩
  ·obtain rfl : k = l0.length := by omega
   gi_wp2
   go_end0
   exact ⟨⟨_, rfl⟩, .inl ⟨_, rfl, hJs⟩⟩
set_option maxHeartbeats 1000000 in
theorem bk44.maker_in (F : Fence) (n : Nat) (h6 : F.fn 81) (hro : F.round = none) (a : Option Addr) (len cap : Nat) (w : World) :
  CallsIn F n Try.prog 81 #[.slice a len cap] w fun e w' => e = .returned (.func (.func 94) #[] #[.pointer (some ⟨w.heap.size, 0, none⟩)]) ∧ w' = w.alloc (.cells #[.slice a len cap] 26) := by
 refine callsIn_of_wp Try.func81 rfl h6 ?_ hro
 simp only [Try.ntmps81, List.size_toArray, List.length_cons, List.length_nil, Nat.reduceAdd, Nat.reduceSub, Array.replicate_succ, Array.replicate_zero, List.push_toArray, List.append_toArray, List.nil_append, List.cons_append]
 gi_wp2
 go_ret
 exact ⟨rfl, rfl⟩
theorem bk44.stops (F : Fence) (n : Nat) (h8 : F.fn 94) (hro : F.round = none) (hn : 1 ≤ n) (Bs n₀ : Nat) (A0 : Option Addr) (c0 : Nat) (l0 : List S44) {V : S44 → Prop} (hV : ∀ m, m ∈ l0 → V m) (d : {m : S44 // V m}) (w W0 : World) (hr0 : Kd.C k44 w A0 l0.length l0) (hn₀ : w.heap.size ≤ n₀) (hwW : Below w.heap.size w W0) (hBn : Bs < W0.heap.size)
  (hc : W0.cell? ⟨Bs, 0, none⟩ = some (.slice A0 l0.length c0)) :
  SeqStopsK F n Try.prog 94 #[.pointer (some ⟨Bs, 0, none⟩)] (fun x : Nat × {m : S44 // V m} => #[Value.int .i64 (x.1 : Int), Value.agg #[.string x.2.1.f0, .int .i64 x.2.1.f1, .int .i64 x.2.1.f2]]) (bk44.Keep n₀ Bs) (fun ys => ys = bk44.upto l0 hV d l0.length)
   (fun pre => ∃ k, k ≤ l0.length ∧ pre = bk44.upto l0 hV d k) l0.length W0 := fun l J Jx W hW _ _ hY h0 =>
 bk44.loop_in F n h8 hro hn l Bs n₀ A0 c0 l0 hV d w hr0 hn₀ J Jx hY W (hwW.trans (hW.mono hwW.size)) ((hW.cell (p := ⟨Bs, 0, none⟩) hBn).trans hc) h0
theorem dots (cols : Nat) : (⟨(Lib.repeatL [46] cols).toArray⟩ : ByteArray).size = cols ∧ ∀ x, x < (⟨(Lib.repeatL [46] cols).toArray⟩ : ByteArray).size → (46 : Int) = (((⟨(Lib.repeatL [46] cols).toArray⟩ : ByteArray).data.toList.getD x 0).toNat : Int) := by
 have e : Lib.repeatL [46] cols = List.replicate cols 46 := by
  have := Lib.repeatL_replicate 46 1 cols
  simpa using this
 refine ⟨by simp [ByteArray.size, e], fun x hx => ?_⟩
 have hx' : x < cols := by simpa [ByteArray.size, e] using hx
 simp [e, List.getD, hx']
set_option maxHeartbeats 2000000 in
theorem impl_plan_lines.calls (g : Nat) (s0 : List S44) (s1 s2 s3 : Int) (n cols : Nat) (X Y : S44 → Int) (w0 w : World) (hI : IsS79 w0 w g s0 s1 s2 s3 cols n) (hB : Below w0.heap.size w0 w) (hn : 1 ≤ n ∧ n ≤ 20) (hc : 1 ≤ cols ∧ cols ≤ 20)
  (hm : ∀ m, m ∈ s0 → m.f0.size = 1 ∧ impl_plan_square.f s0 s1 s2 s3 cols n m.f0 m.f1 m.f2 = some (X m, Y m, s1, s2, s3, (cols : Int), (n : Int)) ∧ 0 ≤ X m ∧ X m < cols ∧ 0 ≤ Y m ∧ Y m < n) (hne0 : s0 ≠ []) :
  Calls Try.prog 52 #[.pointer (some ⟨g, 0, none⟩)] w fun e w' => ∃ (gp gl go_ : Nat) (bl cp : Nat → Nat), e = .returned (.slice (some ⟨go_, 0, none⟩) n n) ∧ LS w0 w g s0 s1 s2 s3 cols n gp gl go_ n cols n bl cp (pl_at X Y s0) w' := by
 have HMM := za hm; have HNE := za hne0; clear hm hne0; have HN := za hn; have HCL := za hc; have HZ := za hB.size; have HI := za hI; have HB := za hB; obtain ⟨A0, c0, hgb, hgg, hC0⟩ := hI; have hcz5 := cellS79_5 hgb; have hgl : g < w.heap.size := blk_lt hgb; have hng : g ≠ w.heap.size := Nat.ne_of_lt hgl
 have hmk : ∀ W : World, (Instr.makeSlice 73 (.int .i64 (n : Int)) (.int .i64 (n : Int))).run Try.prog W = .ok (.slice (some ⟨W.heap.size, 0, none⟩) n n) (W.alloc (.cells (outerOf n 0 cols (fun _ => 0) (fun _ => 0)).toArray 36 (0, 0))) := by
  intro W; obtain ⟨i0, hi, hzz⟩ := Option.map_eq_some_iff.1 (show (Try.prog.info? 36).map (fun i => (i.zero, i.size, i.bytes)) = some (some (.slice none 0 0), 1, 24) by kernel_rfl); simp only [ya] at hzz; obtain ⟨hz0, hz1, hz2⟩ := hzz; have hr := run_make (P := Try.prog) W 73 36 i0 (.slice none 0 0) Try.underlying73 hi hz0 .i64 .i64 (n : Int) (n : Int) (by omega) (by omega) (by rw [hz2]; omega) (by omega); simp only [Int.toNat_natCast] at hr; rw [hz1] at hr; rw [hr]
  congr 3
  apply Array.ext'
  simp [madeCells, outerOf, Value.cells, Nat.mod_one, Array.toList_range]
 clear hn hc hB hgg hC0
 refine (callsIn_wide (n := 5)).1 ?_
 refine callsIn_of_wp_marks Try.func52 rfl trivial ?_ rfl
 simp only [Try.ntmps52, List.size_toArray, List.length_cons, List.length_nil, Nat.reduceAdd, Nat.reduceSub, Array.replicate_succ, Array.replicate_zero, List.push_toArray, List.append_toArray, List.nil_append, List.cons_append]
 refine wpIn_wide.2 ?_
 go_wp2_with (first | fail)
 have HS : Aside0 (LS w0 w g s0 s1 s2 s3 cols n w.heap.size (w.heap.size + 1 + 1) (w.heap.size + 1) n cols 0 (fun _ => 0) (fun _ => 0) (fun _ _ => 46) (((w.alloc (.cells #[.pointer (some ⟨g, 0, none⟩)] 67)).alloc (.cells (outerOf n 0 cols (fun _ => 0) (fun _ => 0)).toArray 36)).alloc (.cells #[.slice (some ⟨w.heap.size + 1, 0, none⟩) n n] 73))) := by
  have e1 : (w.alloc (.cells #[.pointer (some ⟨g, 0, none⟩)] 67)).heap.size = w.heap.size + 1 := by simp
  have e2 : ((w.alloc (.cells #[.pointer (some ⟨g, 0, none⟩)] 67)).alloc (.cells (outerOf n 0 cols (fun _ => 0) (fun _ => 0)).toArray 36)).heap.size = w.heap.size + 1 + 1 := by simp
  have n1 := blk_new w (.cells #[.pointer (some ⟨g, 0, none⟩)] 67); have n2 := blk_new (w.alloc (.cells #[.pointer (some ⟨g, 0, none⟩)] 67)) (.cells (outerOf n 0 cols (fun _ => 0) (fun _ => 0)).toArray 36); have n3 := blk_new ((w.alloc (.cells #[.pointer (some ⟨g, 0, none⟩)] 67)).alloc (.cells (outerOf n 0 cols (fun _ => 0) (fun _ => 0)).toArray 36)) (.cells #[.slice (some ⟨w.heap.size + 1, 0, none⟩) n n] 73); rw [e1] at n2; rw [e2] at n3; have hb := zV (zV (zV (zr w.heap.size w) (.cells #[.pointer (some ⟨g, 0, none⟩)] 67)) (.cells (outerOf n 0 cols (fun _ => 0) (fun _ => 0)).toArray 36)) (.cells #[.slice (some ⟨w.heap.size + 1, 0, none⟩) n n] 73)
  exact ⟨⟨zS HB.1 hb, zN hb g none, HZ.1, IsS79.below HI.1 hb, zf (zf n1 _) _, n3, ⟨zf n2 _, fun y hy => zM hy (Nat.not_lt_zero _), fun y hy => zM hy (Nat.not_lt_zero _), fun y y' hy => zM hy (Nat.not_lt_zero _)⟩, Nat.le_succ _⟩⟩
 generalize (((w.alloc (.cells #[.pointer (some ⟨g, 0, none⟩)] 67)).alloc (.cells (outerOf n 0 cols (fun _ => 0) (fun _ => 0)).toArray 36)).alloc (.cells #[.slice (some ⟨w.heap.size + 1, 0, none⟩) n n] 73)) = W0 at HS ⊢
 obtain ⟨gp, hgp⟩ : ∃ gp, gp = w.heap.size := ⟨_, rfl⟩; obtain ⟨go_, hgo⟩ : ∃ go_, go_ = w.heap.size + 1 := ⟨_, rfl⟩; obtain ⟨gl, hgl2⟩ : ∃ gl, gl = w.heap.size + 1 + 1 := ⟨_, rfl⟩; rw [← hgl2, ← hgo] at HS ⊢; have HS' := za (by exact show LS w0 w g s0 s1 s2 s3 cols n gp gl go_ n cols 0 (fun _ => 0) (fun _ => 0) (fun _ _ => 46) W0 by rw [hgp]; exact HS.1); clear HS; rw [← hgp]; clear hgp hgo hgl2 hng hgl hcz5 hmk hgb
 go_loopg [16] n (fun kq v16 W => ∃ (i : Nat) (bl cp : Nat → Nat), v16 = .int .i64 (i : Int) ∧ Aside0 (kq + i = n) ∧ Aside0 (LS w0 w g s0 s1 s2 s3 cols n gp gl go_ n cols i bl cp (fun _ _ => 46) W))
 case atStart => exact ⟨0, _, _, rfl, ⟨by omega⟩, HS'⟩
 case round =>
  clear HS'; obtain ⟨i, bl, cp, rfl, HA, HS⟩ := hrel
  by_cases hlt : i < n
  ·have d0 : decide ((i : Int) < (n : Int)) = true := zc (by omega)
   have w1 : wrap64 ((i : Int) + 1) = ((i + 1 : Nat) : Int) := by have := HN.1; unfold wrap64; omega
   have HLT := za hlt; obtain ⟨k1, rfl⟩ : ∃ k1, gk = k1 + 1 := ⟨gk - 1, by have := HA.1; omega⟩; have c1 := HS.1.cellp; have c2 := HS.1.celll; have c3 := HS.1.cell4; have p1 : (0 : Int) ≤ (i : Int) := Int.natCast_nonneg _
   have p2 : (i : Int) < (n : Int) := by omega
   clear hlt; obtain ⟨S, hSe⟩ : ∃ S : ByteArray, S = ⟨(Lib.repeatL [46] cols).toArray⟩ := ⟨_, rfl⟩
   have hS1 : S.size = cols := by rw [hSe]; exact (dots cols).1
   have hS2 : ∀ x, x < S.size → (46 : Int) = ((S.data.toList.getD x 0).toNat : Int) := by rw [hSe]; exact (dots cols).2
   have hRep : ∀ W : World, Calls Try.prog 80 #[.string ⟨#[46]⟩, .int .i64 (cols : Int)] W fun e w' => e = .returned (.string S) ∧ Below W.heap.size W w' := fun W => by
    rw [hSe]
    exact Try.strings_Repeat ⟨#[46]⟩ cols W (by have := HCL.1; omega) (by have := HCL.1; have e : (⟨#[46]⟩ : ByteArray).size = 1 := rfl; rw [e]; omega)
   clear hSe; have hcv : ∀ W : World, (convert 9 36 (.string S)).run Try.prog W = .ok (.slice (some ⟨W.heap.size, 0, none⟩) S.size (grownCap W S.size 0 5)) (Lib.bytesWorld W 5 S) := fun W => Lib.run_convert_string_bytes W 9 36 5 S Try.underlying9 Try.underlying36 Try.underlying5; have ngp : gp ≠ go_ := blk_ne HS.1.p HS.1.g.outer (by decide); have ngl : gl ≠ go_ := blk_ne HS.1.l HS.1.g.outer (by decide); have ngg : g ≠ go_ := IsS79.ne_blk HS.1.s HS.1.g.outer (by decide); have HSS := za hS1; have HS2 := za hS2; clear hS1 hS2
   go_wp2
   refine wp_region_noPanic ?_
   go_region_with ((go_at_call 80; refine (hRep _).mono ?_; rintro e w2 ⟨rfl, hb2⟩; have HB2 := za hb2; have hLS2 := za (by exact (HS.1.below (below_drew1 (zr _ _))).below hb2); have hLS3 := za (hLS2.out.below (bytes_below _ S)); have hc5 := hLS3.out.g.cell i HLT.1; have hf5 := ze hLS3.out.g.outer i; simp only [Nat.lt_irrefl, if_false] at hc5; have e2 := hLS2.out.celll; have e3 := hLS3.out.celll; clear hb2))
   all_goals (
    refine NoPanic.normal ?_
    have hLS4 := hLS3.out.next HLT.1 w2.heap.size (grownCap w2 S.size 0 5) (fun _ => 46) (by have := HS.1.k.1; have := HB2.1.size; have e : wr.drew.heap.size = wr.heap.size := rfl; omega) (by have h := bytes_row w2 S (fun _ => 46) HS2.1; rw [HSS.1] at h; exact h) (fun y hy => by
     have h1 := RowAt.lt (HS.1.g.row y hy); have := HB2.1.size; have e : wr.drew.heap.size = wr.heap.size := rfl
     omega)
    have HL4 := za (by exact show LS w0 w g s0 s1 s2 s3 cols n gp gl go_ n cols (i + 1) (fun y => if y = i then w2.heap.size else bl y) (fun y => if y = i then grownCap w2 S.size 0 5 else cp y) (fun _ _ => 46) _ by simpa using hLS4); rw [HSS.1]; rw [HSS.1] at HL4; clear hLS4 hLS3 hLS2 HB2 hf5 hc5 e2 e3 c1 c2 c3 HS HS2 HSS hcv hRep
    go_wp2
    go_roundg k1
    case measure => omega
    case rel => exact ⟨i + 1, _, _, by rw [w1], ⟨by have := HA.1; omega⟩, HL4⟩)
  ·obtain rfl : i = n := by have := HA.1; omega
   have d0 : decide ((i : Int) < (i : Int)) = false := zu (by omega); obtain ⟨A1, cA1, hgb1, _, hC1⟩ := HS.1.s; have c1 := HS.1.cellp; have c0 := cellS79_0 hgb1; clear hgb1 hlt; have hmaker : Calls Try.prog 81 #[.slice A1 s0.length cA1] wr fun e w' => e = .returned (.func (.func 94) #[] #[.pointer (some ⟨wr.heap.size, 0, none⟩)]) ∧ w' = wr.alloc (.cells #[.slice A1 s0.length cA1] 26) := (callsIn_wide (n := 4)).1 (bk44.maker_in Fence.wide 4 trivial rfl _ _ _ _)
   go_wp2_with (first | (go_at_call 81; refine hmaker.mono ?_; rintro e w' ⟨rfl, rfl⟩))
   have HS2 := za HS.1
   refine (wpIn_wide (n := 5)).1 ?_
   gi_wp2
   have hWs : (wr.alloc (.cells #[.slice A1 s0.length cA1] 26)).heap.size = wr.heap.size + 1 := by simp
   have hB1 : Below wr.heap.size wr (wr.alloc (.cells #[.slice A1 s0.length cA1] 26)) := zV (zr _ _) _; have hbN := Boxed.new wr 26 (.slice A1 s0.length cA1); have hLS1 := HS2.1.below hB1; have hwr : w.heap.size ≤ wr.heap.size := HS2.1.k.1; have hz := HS2.1.z; obtain ⟨W0', hW0'⟩ : ∃ W0', wr.alloc (.cells #[.slice A1 s0.length cA1] 26) = W0' := ⟨_, rfl⟩; obtain ⟨Bs, hBs⟩ : ∃ Bs, wr.heap.size = Bs := ⟨_, rfl⟩; rw [hW0'] at hWs hB1 hbN hLS1 ⊢; rw [hBs] at hWs hbN hwr ⊢; clear hW0' hB1 HS HS2 c1 c0 hmaker; obtain ⟨dm⟩ : Nonempty {m : S44 // m.f0.size = 1 ∧ impl_plan_square.f s0 s1 s2 s3 cols i m.f0 m.f1 m.f2 = some (X m, Y m, s1, s2, s3, (cols : Int), (i : Int)) ∧ 0 ≤ X m ∧ X m < cols ∧ 0 ≤ Y m ∧ Y m < i} := ⟨⟨s0.head HNE.1, HMM.1 _ (List.head_mem _)⟩⟩
   refine wpIn_rangeFunc_ownH rfl (by decide) (gf := 94) (lb := #[.pointer (some ⟨Bs, 0, none⟩)]) rfl trivial (enters_of Try.func94 (qK18) rfl)
    (bk44.stops Fence.wide 4 trivial rfl (by decide) Bs w0.heap.size A1 cA1 s0 HMM.1 dm w0 W0' hC1 (zn _) hLS1.b (by omega) hbN.cell) bk44.keep_t (bk44.keep_b (by omega) (by omega)) (zr _ _) (fun _ => rfl)
    (fun (pre : List (Nat × {m : S44 // m.f0.size = 1 ∧ impl_plan_square.f s0 s1 s2 s3 cols i m.f0 m.f1 m.f2 = some (X m, Y m, s1, s2, s3, (cols : Int), (i : Int)) ∧ 0 ≤ X m ∧ X m < cols ∧ 0 ≤ Y m ∧ Y m < i})) W => LS w0 w g s0 s1 s2 s3 cols i gp gl go_ i cols i bl cp (pl_at X Y (pre.map bk44.sn).reverse) W ∧ Boxed W Bs 26 (.slice A1 s0.length cA1))
    (fun _ _ _ => False)
    (OwnFrom.and (fun s W W' row hs hg hr => hs.grown hg (fun r e => ⟨by have := (hr r e).1; omega, (hr r e).2⟩)) (Own.from (boxed_own _ _ _) _))
    (fun _ _ _ _ _ hs _ _ => hs)
    ⟨hLS1, hbN⟩
    (fun x a' W => ∃ Bx, w.heap.size ≤ Bx ∧ W.heap[Bx]? = some (.cells #[.string x.2.1.f0, .int .i64 x.2.1.f1, .int .i64 x.2.1.f2] 44 (0, 0)) ∧ a' = { tmps := #[.pointer (some ⟨g, 0, none⟩), .pointer (some ⟨gp, 0, none⟩), .slice none 0 0, .pointer (some ⟨gl, 0, none⟩), u4, undef, .pointer (some ⟨Bx, 0, none⟩), undef, undef, .pointer (some ⟨g, 0, none⟩), .pointer (some ⟨g, 0, none⟩), .pointer (some ⟨g, 5, none⟩), .int .i64 (i : Int), .slice (some ⟨go_, 0, none⟩) i i, .slice (some ⟨go_, 0, none⟩) i i, .int .i64 (i : Int), .int .i64 (i : Int), .bool false, u18, u19, u20, u21, u22, u23, u24, u25, u26, u27, u28, .pointer (some ⟨g, 0, none⟩), .pointer (some ⟨g, 0, none⟩), .pointer (some ⟨g, 0, none⟩), .slice A1 s0.length cA1, .func (.func 94) #[] #[.pointer (some ⟨Bs, 0, none⟩)], .int .i64 (x.1 : Int), .agg #[.string x.2.1.f0, .int .i64 x.2.1.f1, .int .i64 x.2.1.f2], undef, undef, undef, undef, undef, undef, undef, undef, undef, undef, undef, undef, undef, undef, undef, undef], defers := [] })
    (fun x a' _ XX YY row hs hg hr => by
     obtain ⟨Bx, h1, h2, h3⟩ := hs
     refine ⟨Bx, h1, (hg.block Bx (Array.getElem?_eq_some_iff.1 h2).1 (fun e => ?_)).trans h2, h3⟩
     obtain ⟨_, o, ho, hc⟩ := hr Bx e.symm; rw [h2] at ho
     cases ho
     cases hc)
    ?assign ?body ?done ?stop
   case assign =>
    rintro l pre x W K ⟨hL, hbs⟩ hK
    gi_wp2
    refine hK _ _ ((KeepsOthers.alloc _ _).from _) ⟨(zV (zr W.heap.size W) _).mono (by have := hL.k.1; omega), (hbs.alloc _).trans hbs.symm⟩ ⟨hL.below (zV (zr _ _) _), hbs.alloc _⟩ ⟨W.heap.size, hL.k.1, World.alloc_heap_new W _, rfl⟩
   case body =>
    rintro l pre ⟨xi, m, hm1, hsq, hx0, hx1, hy0, hy1⟩ a' W hl - ⟨hL, hbs⟩ ⟨Bx, hBx, bX, rfl⟩ hlt
    obtain ⟨xn, hxn⟩ : ∃ xn : Nat, X m = xn := ⟨(X m).toNat, by omega⟩; obtain ⟨yn, hyn⟩ : ∃ yn : Nat, Y m = yn := ⟨(Y m).toNat, by omega⟩; rw [hxn, hyn] at hsq; rw [hxn] at hx0 hx1; rw [hyn] at hy0 hy1
    have hyi : yn < i := by omega
    have hxi : xn < cols := by omega
    have HSQ := za (by exact impl_plan_square.calls g s0 s1 s2 s3 cols i m.f0 m.f1 m.f2 xn yn s1 s2 s3 cols i w0 W hL.s hL.b hsq); have cp1 := hL.cellp; have cx0 : W.cell? ⟨Bx, 0, none⟩ = some (.string m.f0) := (blk_cell bX 0).trans rfl; have cx1 : W.cell? ⟨Bx, 1, none⟩ = some (.int .i64 m.f1) := (blk_cell bX 1).trans rfl; have cx2 : W.cell? ⟨Bx, 2, none⟩ = some (.int .i64 m.f2) := (blk_cell bX 2).trans rfl; have h4 : ∀ h : 0 < m.f0.size, ((m.f0[0]'h).toNat : Int) = bt m.f0 0 := bt_at m.f0 0
    have h5 : 0 < m.f0.size := by omega
    clear hsq
    gi_wp2_with (refine ⟨trivial, ?_⟩; gi_at_call 53; refine (callsIn_wide.2 HSQ.1).mono ?_; rintro e w1 ⟨rfl, hs1, hb1, hk1⟩)
    have hL1 := hL.kept hb1 hs1 hk1; have bX1 : w1.heap[Bx]? = some (.cells #[.string m.f0, .int .i64 m.f1, .int .i64 m.f2] 44 (0, 0)) := (hk1.2 Bx (blk_lt bX) (Ne.symm (IsS79.ne_blk hL.s bX (by decide))) (by simp)).trans bX; have cl1 := hL1.celll; have cy1 := hL1.g.cell yn hyi; rw [zX hyi] at cy1; have dx0 : w1.cell? ⟨Bx, 0, none⟩ = some (.string m.f0) := (blk_cell bX1 0).trans rfl; have dr := (hL1.g.row yn hyi).cell xn hxi; have df := (hL1.g.row yn hyi).frozen xn hxi; have HL1 := za hL1; have HLW := za hL; have HBS := za hbs; have HBX := za bX1; have HK1 := za hk1; have HB1 := za hb1; have HYI := za hyi; have HXY := za (And.intro hxn hyn); have HWZ := za (And.intro hWs (And.intro hwr hz)); clear hL1 hL hbs bX1 bX hk1 hb1 HSQ cp1 cx0 cx1 cx2 hs1 hyi hxi hxn hyn hlt hbN hWs hLS1 hwr hz hC1 hl hBx HI HB HMM HNE HA d0
    refine wpIn_region_round (qK18) (qK18) ?_
    refine wpAnyIn_take (i := 1) (v := ?v1) rfl rfl (qK18) (qK18) (qK18) (fun _ _ _ h => h) ⟨zU ⟨by rfl, ?hy1⟩, fun _ => rfl⟩ ?rest1
    case hy1 => (intro w; (try go_simp); (try with_reducible rfl))
    refine wpAnyIn_take (i := 4) (v := ?v2) rfl rfl (qK18) (qK18) (qK18) (fun _ _ _ h => h) ⟨zU ⟨by rfl, ?hy2⟩, fun _ => rfl⟩ ?rest2
    case hy2 => (intro w; (try go_simp); (try with_reducible rfl))
    refine wpAnyIn_take (i := 5) (v := ?v3) rfl rfl (qK18) (qK18) (qK18) (fun _ _ _ h => h) ⟨zU ⟨by rfl, ?hy3⟩, fun _ => rfl⟩ ?rest3
    case hy3 => (intro w; (try go_simp); (try with_reducible rfl))
    refine wpAnyIn_ready (rs := [0, 6]) (qK18) (by simp) ?_
    refine AllReadyIn.cons rfl (fun K hK => ?_) (AllReadyIn.cons rfl (fun K hK => ?_) AllReadyIn.nil)
    ·go_simp
     refine hK _ _ ?_
     clear hK K
     refine wpAnyIn_take (i := 2) (v := ?v4) rfl rfl (qK18) (qK18) (qK18) (fun _ _ _ h => h) ⟨zU ⟨by rfl, ?hy4⟩, fun _ => rfl⟩ ?rest4
     case hy4 => (intro w; (try go_simp); (try with_reducible rfl))
     refine wpAnyIn_ready (rs := [3, 6]) (qK18) (by simp) ?_
     refine AllReadyIn.cons rfl (fun K hK => ?_) (AllReadyIn.cons rfl (fun K hK => ?_) AllReadyIn.nil)
     ·go_simp
      refine hK _ _ ?_
      clear hK K
      refine wpAnyIn_ready (rs := [6]) (qK18) (by simp) ?_
      refine AllReadyIn.cons rfl (fun K hK => ?_) AllReadyIn.nil
      go_simp
      refine hK _ _ ?_
      clear hK K
      refine wpAnyIn_take (i := 7) (v := ?v5) rfl rfl (qK18) (qK18) (qK18) (fun _ _ _ h => h) ⟨zU ⟨by rfl, ?hy5⟩, fun _ => rfl⟩ ?rest5
      case hy5 => (intro w; (try go_simp); (try with_reducible rfl))
      refine wpAnyIn_take (i := 8) (v := ?v6) rfl rfl (qK18) (qK18) (qK18) (fun _ _ _ h => h) ⟨zU ⟨by rfl, ?hy6⟩, fun _ => rfl⟩ ?rest6
      case hy6 => (intro w; (try go_simp); (try with_reducible rfl))
      refine wpAnyIn_ready (rs := [9]) (qK18) (by simp) ?_
      refine AllReadyIn.cons rfl (fun K hK => ?_) AllReadyIn.nil
      go_simp
      refine hK _ _ ?_
      clear hK K
      refine wpAnyIn_done (qK18) ?_ _
      have hR := LS.round m xn yn HLW.1 HL1.1 HK1.1 HBS.1 HYI.1 HXY.1.1 HXY.1.2 W0'.heap.size
      exact ⟨hR.1, hR.2.1, by rw [List.map_append, List.reverse_append]; exact hR.2.2.1, hR.2.2.2⟩
     ·go_simp
      refine hK _ _ ?_
      clear hK K
      refine wpAnyIn_take (i := 7) (v := ?v7) rfl rfl (qK18) (qK18) (qK18) (fun _ _ _ h => h) ⟨zU ⟨by rfl, ?hy7⟩, fun _ => rfl⟩ ?rest7
      case hy7 => (intro w; (try go_simp); (try with_reducible rfl))
      refine wpAnyIn_ready (rs := [3]) (qK18) (by simp) ?_
      refine AllReadyIn.cons rfl (fun K hK => ?_) AllReadyIn.nil
      go_simp
      refine hK _ _ ?_
      clear hK K
      refine wpAnyIn_take (i := 8) (v := ?v8) rfl rfl (qK18) (qK18) (qK18) (fun _ _ _ h => h) ⟨zU ⟨by rfl, ?hy8⟩, fun _ => rfl⟩ ?rest8
      case hy8 => (intro w; (try go_simp); (try with_reducible rfl))
      refine wpAnyIn_ready (rs := [9]) (qK18) (by simp) ?_
      refine AllReadyIn.cons rfl (fun K hK => ?_) AllReadyIn.nil
      go_simp
      refine hK _ _ ?_
      clear hK K
      refine wpAnyIn_done (qK18) ?_ _
      have hR := LS.round m xn yn HLW.1 HL1.1 HK1.1 HBS.1 HYI.1 HXY.1.1 HXY.1.2 W0'.heap.size
      exact ⟨hR.1, hR.2.1, by rw [List.map_append, List.reverse_append]; exact hR.2.2.1, hR.2.2.2⟩
    ·go_simp
     refine hK _ _ ?_
     clear hK K
     refine wpAnyIn_take (i := 7) (v := ?v9) rfl rfl (qK18) (qK18) (qK18) (fun _ _ _ h => h) ⟨zU ⟨by rfl, ?hy9⟩, fun _ => rfl⟩ ?rest9
     case hy9 => (intro w; (try go_simp); (try with_reducible rfl))
     refine wpAnyIn_ready (rs := [0]) (qK18) (by simp) ?_
     refine AllReadyIn.cons rfl (fun K hK => ?_) AllReadyIn.nil
     go_simp
     refine hK _ _ ?_
     clear hK K
     refine wpAnyIn_take (i := 2) (v := ?v10) rfl rfl (qK18) (qK18) (qK18) (fun _ _ _ h => h) ⟨zU ⟨by rfl, ?hy10⟩, fun _ => rfl⟩ ?rest10
     case hy10 => (intro w; (try go_simp); (try with_reducible rfl))
     refine wpAnyIn_ready (rs := [3]) (qK18) (by simp) ?_
     refine AllReadyIn.cons rfl (fun K hK => ?_) AllReadyIn.nil
     go_simp
     refine hK _ _ ?_
     clear hK K
     refine wpAnyIn_take (i := 8) (v := ?v11) rfl rfl (qK18) (qK18) (qK18) (fun _ _ _ h => h) ⟨zU ⟨by rfl, ?hy11⟩, fun _ => rfl⟩ ?rest11
     case hy11 => (intro w; (try go_simp); (try with_reducible rfl))
     refine wpAnyIn_ready (rs := [9]) (qK18) (by simp) ?_
     refine AllReadyIn.cons rfl (fun K hK => ?_) AllReadyIn.nil
     go_simp
     refine hK _ _ ?_
     clear hK K
     refine wpAnyIn_done (qK18) ?_ _
     have hR := LS.round m xn yn HLW.1 HL1.1 HK1.1 HBS.1 HYI.1 HXY.1.1 HXY.1.2 W0'.heap.size
     exact ⟨hR.1, hR.2.1, by rw [List.map_append, List.reverse_append]; exact hR.2.2.1, hR.2.2.2⟩
   case done =>
    rintro D ys W hD hys ⟨hL, hbs⟩ hK
    rw [hys, bk44.all] at hL; have hcl := hL.celll
    gi_wp2
    go_wp2
    refine ⟨by simp, .inl ⟨_, _, rfl, run_takeDeferred hK, ?_⟩⟩
    exact ⟨_, results_tmp rfl _ _ _, gp, gl, go_, bl, cp, rfl, hL.grown (grownBy_putObj' W D _) (fun r e => by cases e; exact ⟨by omega, _, hK, rfl⟩)⟩
   case stop =>
    rintro D c pre W _ _ h _
    exact h.elim


/-- A plan's line: its bytes, and the line's end. -/
def pl_line (cols : Nat) (row : Nat → Int) : List UInt8 := (List.range cols).map (fun x => UInt8.ofNat (row x).toNat) ++ [10]
def pl_lines (cols : Nat) (G : Nat → Nat → Int) (n : Nat) : List UInt8 := (List.range n).flatMap (fun y => pl_line cols (G y))
theorem pl_lines_succ (cols : Nat) (G : Nat → Nat → Int) (n : Nat) : pl_lines cols G (n + 1) = pl_lines cols G n ++ pl_line cols (G n) := by simp [pl_lines, List.range_succ]
theorem pl_lines_length (cols : Nat) (G : Nat → Nat → Int) : ∀ n, (pl_lines cols G n).length = n * (cols + 1)
 | 0 => by simp [pl_lines]
 | n + 1 => by rw [pl_lines_succ, List.length_append, pl_lines_length cols G n, pl_line, Nat.succ_mul]; simp
theorem RowAt.reads {W : World} {b cols : Nat} {row : Nat → Int} (h : RowAt W b cols row) (hc : cols ≤ 20) : ReadsInt W .u8 (some ⟨b, 0, none⟩) cols ((List.range cols).map row) := by
 refine ⟨by simp, by omega, fun _ => ⟨_, rfl, fun j hj => ?_⟩⟩
 have e : ((⟨b, 0, none⟩ : Addr).add j) = ⟨b, j, none⟩ := by simp [Addr.add, eq_comm]
 rw [e, h.cell j hj]
 simp [List.getD, hj]
theorem Grid.stands {B B2 b : Nat} {W W' : World} {go n cols i : Nat} {bl cp : Nat → Nat} {G : Nat → Nat → Int} (h : Grid B W go n cols i bl cp G) (hs : Stands B2 b W W') (hgo : go < B2) (hbl : ∀ y, y < i → bl y < B2) {cs : Array Value} (hb : W.heap[b]? = some (.cells cs 105 (0, 0))) : Grid B W' go n cols i bl cp G :=
 h.same (fun k cs' t fz hk ht hw => hs.2.2.2.2 k (Array.getElem?_eq_some_iff.1 hk).1 (by rcases hw with e | ⟨y, hy, e⟩ <;> rw [e] <;> first | exact hgo | exact hbl y hy) (fun e => by
  subst e; rw [hk] at hb
  injection hb with hb
  injection hb with _ hb
  subst hb
  rcases ht with h1 | h1 <;> cases h1))
theorem Stands.below {w0 W W' : World} {B2 b : Nat} (h : Below w0.heap.size w0 W) (hs : Stands B2 b W W') (hb : w0.heap.size ≤ b) (hB2 : w0.heap.size ≤ B2) (hW : w0.heap.size ≤ W.heap.size) : Below w0.heap.size w0 W' :=
 ⟨hs.2.1.trans h.os, hs.2.2.1.trans h.tape, hs.2.2.2.1.trans h.output, Nat.le_trans h.size hs.1, fun i hi => (hs.2.2.2.2 i (by omega) (by omega) (by omega)).trans (h.block i hi)⟩
theorem Bld.lib {B0 B b : Nat} {p : Value} {bs : List Value} {w : World} (h : Bld B b p bs w) (hp : p = .pointer none ∨ p = .pointer (some ⟨b, 0, none⟩)) (h0 : B0 ≤ b) (h1 : B0 ≤ B) : Lib.IsBuilder 105 5 B0 b bs w := by
 obtain ⟨v, hb, hown, hne⟩ := h
 rcases hp with rfl | rfl
 ·exact .inl ⟨h0, v, hb, own_weaken hown h1, hne⟩
 ·exact .inr ⟨h0, v, hb, own_weaken hown h1, hne⟩
set_option maxHeartbeats 2000000 in
theorem impl_plan_text.calls (g : Nat) (s0 : List S44) (s1 s2 s3 : Int) (n cols : Nat) (X Y : S44 → Int) (w0 w : World) (hI : IsS79 w0 w g s0 s1 s2 s3 cols n) (hB : Below w0.heap.size w0 w) (hn : 1 ≤ n ∧ n ≤ 20) (hc : 1 ≤ cols ∧ cols ≤ 20)
  (hm : ∀ m, m ∈ s0 → m.f0.size = 1 ∧ impl_plan_square.f s0 s1 s2 s3 cols n m.f0 m.f1 m.f2 = some (X m, Y m, s1, s2, s3, (cols : Int), (n : Int)) ∧ 0 ≤ X m ∧ X m < cols ∧ 0 ≤ Y m ∧ Y m < n) (hne0 : s0 ≠ []) :
  Calls Try.prog 49 #[.pointer (some ⟨g, 0, none⟩)] w fun e w' => e = .returned (.string ⟨(pl_lines cols (pl_at X Y s0) n).toArray⟩) ∧ Below w0.heap.size w0 w' := by
 have hb1 : Below w.heap.size w (w.alloc (.cells #[.pointer none, .slice none 0 0] 105)) := zV (zr _ _) _; have HC := za (by exact impl_plan_lines.calls g s0 s1 s2 s3 n cols X Y w0 (w.alloc (.cells #[.pointer none, .slice none 0 0] 105)) (IsS79.below hI hb1) (zS hB hb1) hn hc hm hne0); have hbk := blk_new w (.cells #[.pointer none, .slice none 0 0] 105); have hgb := IsS79.ne_blk (IsS79.below hI hb1) hbk (by decide); have HBK := za (And.intro hbk hgb); have HN := za hn; have HCC := za hc; have HZ := za hB.size; clear hb1 hI hB hm hn hc hne0 hbk hgb
 go_enter Try.func49, Try.ntmps49
 go_wp2_with (first | (go_at_call 52; refine HC.1.mono ?_; rintro e w1 ⟨gp, gl, go_, bl, cp, rfl, hL⟩))
 obtain ⟨b, hbe⟩ : ∃ b, b = w.heap.size := ⟨_, rfl⟩
 have hWsz : (w.alloc (.cells #[.pointer none, .slice none 0 0] 105)).heap.size = w.heap.size + 1 := by simp
 have hb1 : w1.heap[b]? = some (.cells #[.pointer none, .slice none 0 0] 105 (0, 0)) := by rw [hbe]; exact (hL.k.2 _ (by omega) (Ne.symm HBK.1.2) (by simp)).trans HBK.1.1
 have hlo : w.heap.size ≤ go_ := by have := hL.lo; omega
 have hgo : go_ < w1.heap.size := blk_lt hL.g.outer; have hbl : ∀ y, y < n → bl y < w1.heap.size := fun y hy => RowAt.lt (hL.g.row y hy)
 have hbe2 : w0.heap.size ≤ b := by rw [hbe]; exact HZ.1
 have HCTX := za (And.intro hgo (And.intro hbl (And.intro hbe2 (Nat.le_trans HZ.1 (by have := hL.k.1; omega) : w0.heap.size ≤ w1.heap.size)))); have HST : Aside0 ((Value.pointer none = .pointer none ∨ Value.pointer none = .pointer (some ⟨b, 0, none⟩)) ∧ Bld w1.heap.size b (.pointer none) (Lib.byteCells (pl_lines cols (pl_at X Y s0) 0)) w1 ∧ Grid (w.alloc (.cells #[.pointer none, .slice none 0 0] 105)).heap.size w1 go_ n cols n bl cp (pl_at X Y s0) ∧ Below w0.heap.size w0 w1 ∧ w1.heap.size ≤ w1.heap.size) := ⟨.inl rfl, ⟨_, hb1, World.ownsRow_nil _ _ _ _, by simp [Value.ownBlock]⟩, hL.g, hL.b, zn _⟩; obtain ⟨G, hG⟩ : ∃ G, pl_at X Y s0 = G := ⟨_, rfl⟩; rw [hG] at HST; rw [← hbe]; clear hL HBK hb1 hWsz hlo hgo hbl hbe2 HC hbe
 go_loopg [9] n (fun kq v9 W => ∃ (y : Nat) (p : Value), v9 = .int .i64 (y : Int) ∧ Aside0 (kq + y = n) ∧ Aside0 ((p = .pointer none ∨ p = .pointer (some ⟨b, 0, none⟩)) ∧ Bld w1.heap.size b p (Lib.byteCells (pl_lines cols G y)) W ∧ Grid (w.alloc (.cells #[.pointer none, .slice none 0 0] 105)).heap.size W go_ n cols n bl cp G ∧ Below w0.heap.size w0 W ∧ w1.heap.size ≤ W.heap.size))
 case atStart => exact ⟨0, _, rfl, ⟨by omega⟩, HST⟩
 case round =>
  clear HST; obtain ⟨y, p, rfl, HA, HS⟩ := hrel
  by_cases hlt : y < n
  ·have d0 : decide ((y : Int) < (n : Int)) = true := zc (by omega)
   have wq : wrap64 ((y : Int) + 1) = ((y + 1 : Nat) : Int) := by have := HN.1; unfold wrap64; omega
   have HLT := za hlt; obtain ⟨k1, rfl⟩ : ∃ k1, gk = k1 + 1 := ⟨gk - 1, by have := HA.1; omega⟩; have p1 : (0 : Int) ≤ (y : Int) := Int.natCast_nonneg _
   have p2 : (y : Int) < (n : Int) := by omega
   have hcy := HS.1.2.2.1.cell y hlt; rw [zX hlt] at hcy; have hcv : (convert 36 9 (.slice (some ⟨bl y, 0, none⟩) cols (cp y))).run Try.prog wr = .ok (.string (strOfNums ((List.range cols).map (G y)))) wr := string_of_reads Try.underlying36 Try.underlying5 Try.underlying9 ((HS.1.2.2.1.row y hlt).reads (by have := HCC.1; omega)); obtain ⟨L, hLe⟩ : ∃ L, strOfNums ((List.range cols).map (G y)) = L := ⟨_, rfl⟩
   have hLd : L.data.toList ++ [10] = pl_line cols (G y) := by rw [← hLe, strOfNums_data, pl_line, List.map_map]; rfl
   have hLs : L.size = cols := by rw [← hLe, strOfNums_size]; simp
   rw [hLe] at hcv; have HLL := za (And.intro hLd hLs); clear hlt hLe hLd hLs
   have nbig : ¬ (9223372036854775807 < L.size + 1) := by have := HLL.1.2; have := HCC.1; omega
   have nsz : (L ++ (⟨#[10]⟩ : ByteArray)).size = cols + 1 := by rw [ByteArray.size_append, HLL.1.2]; rfl
   have hlen : (Lib.byteCells (pl_lines cols G y)).length + (L ++ (⟨#[10]⟩ : ByteArray)).size ≤ 140737488355328 := by
    rw [nsz, Lib.byteCells_length, pl_lines_length]; have h1 : y * (cols + 1) ≤ 20 * 21 := Nat.mul_le_mul (by have := HN.1; have := HLT.1; omega) (by have := HCC.1; omega); have := HCC.1
    omega
   have HWR := za (by exact Bld.write w1.heap.size b p (Lib.byteCells (pl_lines cols G y)) (L ++ ⟨#[10]⟩) wr HS.1.1 HS.1.2.1 hlen HS.1.2.2.2.2); clear nsz hlen
   go_wp2_with (go_at_call 78; refine HWR.1.mono ?_; rintro e W2 ⟨rfl, hB2, hS2⟩)
   have hbits : Lib.byteCells (pl_lines cols G y) ++ Lib.strCells (L ++ ⟨#[10]⟩) = Lib.byteCells (pl_lines cols G (y + 1)) := by
    have e1 : (L ++ (⟨#[10]⟩ : ByteArray)).data.toList = L.data.toList ++ [10] := by simp
    rw [Lib.strCells_eq, e1, HLL.1.1, ← Lib.byteCells_append, ← pl_lines_succ]
   rw [hbits] at hB2; obtain ⟨vb, hbb, _⟩ := HS.1.2.1; have hG2 := HS.1.2.2.1.stands hS2 HCTX.1.1 HCTX.1.2.1 hbb; have hBe2 := Stands.below HS.1.2.2.2.1 hS2 HCTX.1.2.2.1 HCTX.1.2.2.2 (Nat.le_trans HCTX.1.2.2.2 HS.1.2.2.2.2); have HN2 := za (by exact And.intro (Or.inr rfl : Value.pointer (some ⟨b, 0, none⟩) = .pointer none ∨ Value.pointer (some ⟨b, 0, none⟩) = .pointer (some ⟨b, 0, none⟩)) (And.intro hB2 (And.intro hG2 (And.intro hBe2 (Nat.le_trans HS.1.2.2.2.2 hS2.1))))); clear hbits hbb hG2 hBe2 hB2 hS2 HWR HS hcv hcy nbig
   go_roundg k1
   case measure => omega
   case rel => exact ⟨y + 1, _, by rw [wq], ⟨by have := HA.1; omega⟩, HN2⟩
  ·have hyn : y = n := by have := HA.1; omega
   have d0 : decide ((y : Int) < (n : Int)) = false := zu (by omega); have d1 : decide (y < n) = false := zu (by omega); have hS := HS.1; rw [hyn] at hS; have HE := za (by exact Try.Builder_String_any w0.heap.size b (pl_lines cols G n) wr (hS.2.1.lib hS.1 HCTX.1.2.2.1 HCTX.1.2.2.2) (Nat.le_trans HCTX.1.2.2.2 hS.2.2.2.2)); have HB := za hS.2.2.2.1; clear hlt hyn hS HS
   go_wp2_with (go_at_call 79; refine HE.1.mono ?_; rintro e W2 ⟨rfl, hb2⟩)
   go_ret
   exact ⟨by rw [hG]; rfl, HB.1.trans hb2⟩


abbrev PlanT := List S44 × Int × Int × Int × Int × Int
def pl_sq (p : PlanT) (m : S44) : Option (Int × Int × Int × Int × Int × Int × Int) := impl_plan_square.f p.1 p.2.1 p.2.2.1 p.2.2.2.1 p.2.2.2.2.1 p.2.2.2.2.2 m.f0 m.f1 m.f2
def pl_X (p : PlanT) (m : S44) : Int := match pl_sq p m with
 | some r => r.1
 | none => -1
def pl_Y (p : PlanT) (m : S44) : Int := match pl_sq p m with
 | some r => r.2.1
 | none => -1
def pl_good (p : PlanT) (m : S44) : Bool := decide (m.f0.size = 1) && ((pl_sq p m).isSome && (decide (0 ≤ pl_X p m) && (decide (pl_X p m < p.2.2.2.2.1) && (decide (0 ≤ pl_Y p m) && decide (pl_Y p m < p.2.2.2.2.2)))))
theorem pl_sq_eq {p : PlanT} {m : S44} (h : (pl_sq p m).isSome = true) : pl_sq p m = some (pl_X p m, pl_Y p m, p.2.1, p.2.2.1, p.2.2.2.1, p.2.2.2.2.1, p.2.2.2.2.2) := by
 obtain ⟨r, hr⟩ := Option.isSome_iff_exists.1 h; have hr' := hr
 unfold pl_sq impl_plan_square.f at hr'
 obtain ⟨t1, _, h2⟩ := zB hr'; obtain ⟨t2, _, h3⟩ := zB h2; have h4 := zl h3; rw [hr]; simp only [pl_X, pl_Y, hr]; rw [← h4]
/-- A plan within its bounds, with each mark in a square of its own lines. -/
def pl_fit (p : PlanT) : Bool := decide (1 ≤ p.2.2.2.2.1) && (decide (p.2.2.2.2.1 ≤ 20) && (decide (1 ≤ p.2.2.2.2.2) && (decide (p.2.2.2.2.2 ≤ 20) && (decide (p.1 ≠ []) && p.1.all (pl_good p)))))
theorem pl_fit_spec {p : PlanT} (h : pl_fit p = true) : ∃ n cols : Nat, p.2.2.2.2.1 = cols ∧ p.2.2.2.2.2 = n ∧ (1 ≤ n ∧ n ≤ 20) ∧ (1 ≤ cols ∧ cols ≤ 20) ∧ p.1 ≠ [] ∧
  (∀ m, m ∈ p.1 → m.f0.size = 1 ∧ impl_plan_square.f p.1 p.2.1 p.2.2.1 p.2.2.2.1 cols n m.f0 m.f1 m.f2 = some (pl_X p m, pl_Y p m, p.2.1, p.2.2.1, p.2.2.2.1, (cols : Int), (n : Int)) ∧ 0 ≤ pl_X p m ∧ pl_X p m < cols ∧ 0 ≤ pl_Y p m ∧ pl_Y p m < n) := by
 simp only [pl_fit, Bool.and_eq_true, decide_eq_true_eq, List.all_eq_true] at h; obtain ⟨h1, h2, h3, h4, h5, h6⟩ := h
 have ec : p.2.2.2.2.1 = ((p.2.2.2.2.1.toNat : Nat) : Int) := by omega
 have en : p.2.2.2.2.2 = ((p.2.2.2.2.2.toNat : Nat) : Int) := by omega
 refine ⟨p.2.2.2.2.2.toNat, p.2.2.2.2.1.toNat, ec, en, by omega, by omega, h5, fun m hm => ?_⟩
 have h7 := h6 m hm; simp only [pl_good, Bool.and_eq_true, decide_eq_true_eq] at h7; obtain ⟨g1, g2, g3, g4, g5, g6⟩ := h7; rw [← ec, ← en]
 exact ⟨g1, pl_sq_eq g2, g3, g4, g5, g6⟩
def pl_text (p : PlanT) : ByteArray := ⟨(pl_lines p.2.2.2.2.1.toNat (pl_at (pl_X p) (pl_Y p) p.1) p.2.2.2.2.2.toNat).toArray⟩
def impl_PlanText.of : Option PlanT → Option (ByteArray × Bool)
 | none => some (⟨#[]⟩, false)
 | some p => if (decide (p.2.2.2.2.1 ≤ 20) && decide (p.2.2.2.2.2 ≤ 20)) = true then (if pl_fit p = true then some (pl_text p, true) else none) else some (⟨#[]⟩, false)
def impl_PlanText.f (k : Nat) (l0 : List S44) (a1 : Int) : Option (ByteArray × Bool) := (impl_planOf.f k l0 a1).bind fun q => impl_PlanText.of q
theorem impl_planOf.yes3 (k : Nat) (A0 : Option Addr) (c0 : Nat) (l0 : List S44) (a1 : Int) (p : PlanT) (b : Bool) (w : World) (hr0 : Kd.C k44 w A0 l0.length l0) (hc0 : l0.length ≤ c0) (h : impl_planOf.f k l0 a1 = some (some p)) (hb : (decide (p.2.2.2.2.1 ≤ 20) && decide (p.2.2.2.2.2 ≤ 20)) = b) :
  Calls Try.prog 48 #[.slice A0 l0.length c0, .int .i64 a1] w fun e w' => ∃ g_ : Nat, e = .returned (.tuple #[.pointer (some ⟨g_, 0, none⟩), .bool b]) ∧ IsS79 w w' g_ p.1 p.2.1 p.2.2.1 p.2.2.2.1 p.2.2.2.2.1 p.2.2.2.2.2 ∧ Below w.heap.size w w' := by
 obtain ⟨p1, p2, p3, p4, p5, p6⟩ := p; have := impl_planOf.yes k A0 c0 l0 a1 p1 p2 p3 p4 p5 p6 _ _ w hr0 hc0 h rfl rfl; rw [← hb]
 exact this
set_option maxHeartbeats 2000000 in
theorem impl_PlanText.calls (k : Nat) (A0 : Option Addr) (c0 : Nat) (l0 : List S44) (a1 : Int) (r1 : ByteArray) (r2 : Bool) (w : World) (hr0 : Kd.C k44 w A0 l0.length l0) (hc0 : l0.length ≤ c0) (h : impl_PlanText.f k l0 a1 = some (r1, r2)) :
  Calls Try.prog 11 #[.slice A0 l0.length c0, .int .i64 a1] w fun e w' => e = .returned (.tuple #[.string r1, .bool r2]) ∧ Below w.heap.size w w' := by
 unfold impl_PlanText.f at h
 obtain ⟨q, A1, h⟩ := zB h
 cases q with
 | none =>
  simp only [impl_PlanText.of, zZ, ya] at h; obtain ⟨rfl, rfl⟩ := h; have HC := za (by exact impl_planOf.no k A0 c0 l0 a1 w hr0 hc0 A1); clear A1 hr0 hc0
  go_enter Try.func11, Try.ntmps11
  go_wp2_with (go_at_call 48; refine HC.1.mono ?_; rintro e w1 ⟨rfl, hb⟩)
  go_ret2
  exact ⟨rfl, hb⟩
 | some p =>
  cases hb56 : (decide (p.2.2.2.2.1 ≤ 20) && decide (p.2.2.2.2.2 ≤ 20)) with
  | false =>
   simp only [impl_PlanText.of, hb56, Bool.false_eq_true, if_false, zZ, ya] at h; obtain ⟨rfl, rfl⟩ := h; have HC := za (by exact impl_planOf.yes3 k A0 c0 l0 a1 p _ w hr0 hc0 A1 hb56); clear A1 hr0 hc0 hb56
   go_enter Try.func11, Try.ntmps11
   go_wp2_with (go_at_call 48; refine HC.1.mono ?_; rintro e w1 ⟨g, rfl, hi, hb⟩)
   go_ret2
   exact ⟨rfl, hb⟩
  | true =>
   simp only [impl_PlanText.of, hb56, if_true] at h
   cases hf : pl_fit p with
   | false => rw [hf] at h; simp at h
   | true =>
    rw [hf] at h; simp only [if_true, zZ, ya] at h; obtain ⟨rfl, rfl⟩ := h; have HC := za (by exact impl_planOf.yes3 k A0 c0 l0 a1 p _ w hr0 hc0 A1 hb56); obtain ⟨n, cols, ec, en, hn, hc, hne, hm⟩ := pl_fit_spec hf
    have HT : Aside0 (∀ (g : Nat) (W : World), IsS79 w W g p.1 p.2.1 p.2.2.1 p.2.2.2.1 p.2.2.2.2.1 p.2.2.2.2.2 → Below w.heap.size w W → Calls Try.prog 49 #[.pointer (some ⟨g, 0, none⟩)] W fun e w' => e = .returned (.string (pl_text p)) ∧ Below w.heap.size w w') := ⟨fun g W hi hb => by
     have ht := impl_plan_text.calls g p.1 p.2.1 p.2.2.1 p.2.2.2.1 n cols (pl_X p) (pl_Y p) w W (by rw [← ec, ← en]; exact hi) hb hn hc hm hne
     have e1 : p.2.2.2.2.1.toNat = cols := by omega
     have e2 : p.2.2.2.2.2.toNat = n := by omega
     rw [pl_text, e1, e2]
     exact ht⟩
    obtain ⟨t, htx⟩ : ∃ t, pl_text p = t := ⟨_, rfl⟩; rw [htx] at HT ⊢; clear A1 hr0 hc0 hb56 hf ec en hn hc hne hm htx
    go_enter Try.func11, Try.ntmps11
    go_wp2_with (first | (go_at_call 48; refine HC.1.mono ?_; rintro e w1 ⟨g, rfl, hi, hb⟩) | (go_at_call 49; refine (HT.1 g w1 hi hb).mono ?_; rintro e w2 ⟨rfl, hb2⟩))
    go_ret2
    exact ⟨rfl, hb2⟩

def laws_rBig.f (l0 : List Int) : Option (Bool) := some (decide ((l0.length : Int) > 65536))
set_option maxHeartbeats 8000000 in
set_option maxRecDepth 100000 in
theorem laws_rBig.calls (A0 : Option Addr) (c0 : Nat) (l0 : List Int) (r : Bool) (w : World) (hr0 : Kd.C (Kd.int .u8) w A0 l0.length l0) (hc0 : l0.length ≤ c0) (h : laws_rBig.f l0 = some r) :
  Calls Try.prog 19 #[.slice A0 l0.length c0] w fun e w' => e = .returned (.bool r) ∧ Drawn0 w w' := by
 have HR0 := za hr0; have HC0 := za hc0; clear hr0 hc0; have H : (some (decide ((l0.length : Int) > 65536))) = some r := h; clear h; obtain rfl := zl H
 go_enter Try.func19, Try.ntmps19
 go_wp2
 go_ret
 exact ⟨(qK17), (qK35)⟩
set_option maxHeartbeats 8000000

def spec_l13Square.f (a0 : Int) (a1 : Int) : Option (Int) := if a1 = 0 then (none) else (some (wrap64 ((wrap64 (Int.tdiv (wrap64 (a0 + (wrap64 (1000 * a1)))) a1)) - 1000)))
theorem spec_l13Square.calls (a0 : Int) (a1 : Int) (r : Int) (w : World) (h : spec_l13Square.f a0 a1 = some r) :
  Calls Try.prog 51 #[.int .i64 a0, .int .i64 a1] w fun e w' => e = .returned (.int .i64 r) ∧ Drawn0 w w' := by
 have H : (if a1 = 0 then (none) else (some (wrap64 ((wrap64 (Int.tdiv (wrap64 (a0 + (wrap64 (1000 * a1)))) a1)) - 1000)))) = some r := h; clear h
 by_cases c3 : a1 = 0
 ·rw [zX c3] at H
  exact zM H (by simp)
 ·rw [zY c3] at H; have c3b0 : (a1 == 0) = false := zw c3; have c3b1 : (a1 != 0) = true := zQ c3; obtain rfl := zl H
  go_enter Try.func51, Try.ntmps51
  go_wp2
  go_ret
  exact ⟨(qK17), (qK35)⟩

def spec_l1Least.f (a0 : Int) (a1 : Int) : Option (Int) := if a0 < a1 then (some a0) else (some a1)
theorem spec_l1Least.calls (a0 : Int) (a1 : Int) (r : Int) (w : World) (h : spec_l1Least.f a0 a1 = some r) :
  Calls Try.prog 76 #[.int .i64 a0, .int .i64 a1] w fun e w' => e = .returned (.int .i64 r) ∧ Drawn0 w w' := by
 have H : (if a0 < a1 then (some a0) else (some a1)) = some r := h; clear h
 by_cases c3 : a0 < a1
 ·rw [zX c3] at H; have c3b0 : decide (a0 < a1) = true := zc c3; clear c3; obtain rfl := zl H
  go_enter Try.func76, Try.ntmps76
  go_wp2
  go_ret
  exact ⟨(qK17), (qK35)⟩
 ·rw [zY c3] at H; have c3b0 : decide (a0 < a1) = false := zu c3; clear c3; obtain rfl := zl H
  go_enter Try.func76, Try.ntmps76
  go_wp2
  go_ret
  exact ⟨(qK17), (qK35)⟩

def spec_l1Most.f (a0 : Int) (a1 : Int) : Option (Int) := if a0 > a1 then (some a0) else (some a1)
theorem spec_l1Most.calls (a0 : Int) (a1 : Int) (r : Int) (w : World) (h : spec_l1Most.f a0 a1 = some r) :
  Calls Try.prog 77 #[.int .i64 a0, .int .i64 a1] w fun e w' => e = .returned (.int .i64 r) ∧ Drawn0 w w' := by
 have H : (if a0 > a1 then (some a0) else (some a1)) = some r := h; clear h
 by_cases c3 : a0 > a1
 ·rw [zX c3] at H; have c3b0 : decide (a1 < a0) = true := zc c3; clear c3; obtain rfl := zl H
  go_enter Try.func77, Try.ntmps77
  go_wp2
  go_ret
  exact ⟨(qK17), (qK35)⟩
 ·rw [zY c3] at H; have c3b0 : decide (a1 < a0) = false := zu c3; clear c3; obtain rfl := zl H
  go_enter Try.func77, Try.ntmps77
  go_wp2
  go_ret
  exact ⟨(qK17), (qK35)⟩

def spec_l13Bounds.l0 : Nat → List (S44) → Int → Int → Int → Int → Int → Int → Option (Int × Int × Int × Int)
 | 0, _, _, _, _, _, _, _ => none
 | k + 1, x0, x1, x8, x9, x10, x11, x12 => if x12 < (x0.length : Int) then (if 0 ≤ x12 then ((spec_l13Square.f ((rd_T44 x0 x12).f1) x1).bind fun t123 => ((spec_l13Square.f ((rd_T44 x0 x12).f2) x1).bind fun t125 => ((spec_l1Least.f x8 t123).bind fun t126 => ((spec_l1Most.f x10 t123).bind fun t127 => ((spec_l1Least.f x9 t125).bind fun t128 => ((spec_l1Most.f x11 t125).bind fun t129 => (spec_l13Bounds.l0 k x0 x1 t126 t128 t127 t129 (wrap64 (x12 + 1))))))))) else (none)) else (some (x8, x10, x9, x11))
def spec_l13Bounds.f (k : Nat) (l0 : List (S44)) (a1 : Int) : Option (Int × Int × Int × Int) := if 0 < (l0.length : Int) then ((spec_l13Square.f ((rd_T44 l0 0).f1) a1).bind fun t119 => ((spec_l13Square.f ((rd_T44 l0 0).f2) a1).bind fun t121 => (spec_l13Bounds.l0 k l0 a1 t119 t121 t119 t121 1))) else (none)
theorem spec_l13Bounds.calls (k : Nat) (A0 : Option Addr) (c0 : Nat) (l0 : List (S44)) (a1 : Int) (r1 : Int) (r2 : Int) (r3 : Int) (r4 : Int) (w : World) (hr0 : Kd.C k44 w A0 l0.length l0) (hc0 : l0.length ≤ c0) (h : spec_l13Bounds.f k l0 a1 = some (r1, r2, r3, r4)) :
  Calls Try.prog 45 #[.slice A0 l0.length c0, .int .i64 a1] w fun e w' => e = .returned (.tuple #[.int .i64 r1, .int .i64 r2, .int .i64 r3, .int .i64 r4]) ∧ Drawn0 w w' := by
 have HR0 := za hr0; have HC0 := za hc0; clear hr0 hc0; have H : (if 0 < (l0.length : Int) then ((spec_l13Square.f ((rd_T44 l0 0).f1) a1).bind fun t119 => ((spec_l13Square.f ((rd_T44 l0 0).f2) a1).bind fun t121 => (spec_l13Bounds.l0 k l0 a1 t119 t121 t119 t121 1))) else (none)) = some (r1, r2, r3, r4) := h; clear h
 by_cases c3 : 0 < (l0.length : Int)
 ·rw [zX c3] at H; have c3b0 : decide (0 < (l0.length : Int)) = true := zc c3; have c3b1 : decide (0 < l0.length) = true := zc (by omega); clear c3; replace H := bindA H; obtain ⟨t119, A4, H⟩ := H; (try dsimp only at H); replace H := bindA H; obtain ⟨t121, A5, H⟩ := H; (try dsimp only at H); have H' := za H; clear H; have p118 : 0 ≤ (0 : Int) := (by omega); have q118 : 0 < (l0.length : Int) := zb (qK12); obtain ⟨ad118, e118, hx118_0, hx118_1, hx118_2⟩ := at_T44 HR0.1 0 p118 q118; cases e118; have qi118 : (0 < l0.length) = True := zv (by omega)
  (try rw [show ((0 : Int)).toNat = 0 from rfl] at hx118_0)
  (try rw [show 0 * 3 = 0 from rfl] at hx118_0)
  (try rw [Addr.add_zero'] at hx118_0)
  (try rw [show ((0 : Int)).toNat = 0 from rfl] at hx118_1)
  (try rw [show 0 * 3 = 0 from rfl] at hx118_1)
  (try rw [Addr.add_zero'] at hx118_1)
  (try rw [show ((0 : Int)).toNat = 0 from rfl] at hx118_2)
  (try rw [show 0 * 3 = 0 from rfl] at hx118_2)
  (try rw [Addr.add_zero'] at hx118_2); replace p118 := zv p118; replace q118 := zv q118
  go_enter Try.func45, Try.ntmps45
  go_wp2_with (first | (go_at_call 51; (with_reducible refine (spec_l13Square.calls ((rd_T44 l0 0).f1) a1 t119 _ A4.1).mono ?_); rintro e w' ⟨rfl, ⟨nd, rfl⟩⟩; (try first | exact ⟨rfl, _, zO _ _ _⟩ | exact ⟨rfl, _, Eq.trans (zO _ _ _) (congrArg (World.drewN _) (Nat.add_assoc _ _ _))⟩); have p120 : 0 ≤ (0 : Int) := (by omega); have q120 : 0 < (l0.length : Int) := zb (qK12); obtain ⟨ad120, e120, hx120_0, hx120_1, hx120_2⟩ := at_T44 HR0.1 0 p120 q120; obtain rfl : ad118 = ad120 := (by injection e120); have qi120 : (0 < l0.length) = True := zv (by omega); (try rw [show ((0 : Int)).toNat = 0 from rfl] at hx120_0); (try rw [show 0 * 3 = 0 from rfl] at hx120_0); (try rw [Addr.add_zero'] at hx120_0); (try rw [show ((0 : Int)).toNat = 0 from rfl] at hx120_1); (try rw [show 0 * 3 = 0 from rfl] at hx120_1); (try rw [Addr.add_zero'] at hx120_1); (try rw [show ((0 : Int)).toNat = 0 from rfl] at hx120_2); (try rw [show 0 * 3 = 0 from rfl] at hx120_2); (try rw [Addr.add_zero'] at hx120_2); replace p120 := zv p120; replace q120 := zv q120) | (go_at_call 51; (with_reducible refine (spec_l13Square.calls ((rd_T44 l0 0).f2) a1 t121 _ A5.1).mono ?_); rintro e w' ⟨rfl, ⟨nd, rfl⟩⟩; (try first | exact ⟨rfl, _, zO _ _ _⟩ | exact ⟨rfl, _, Eq.trans (zO _ _ _) (congrArg (World.drewN _) (Nat.add_assoc _ _ _))⟩)))
  repeat (go_quiet (first | (go_at_call 51; (with_reducible refine (spec_l13Square.calls ((rd_T44 l0 0).f1) a1 t119 _ A4.1).mono ?_); rintro e w' ⟨rfl, ⟨nd, rfl⟩⟩; (try first | exact ⟨rfl, _, zO _ _ _⟩ | exact ⟨rfl, _, Eq.trans (zO _ _ _) (congrArg (World.drewN _) (Nat.add_assoc _ _ _))⟩); have p120 : 0 ≤ (0 : Int) := (by omega); have q120 : 0 < (l0.length : Int) := zb (qK12); obtain ⟨ad120, e120, hx120_0, hx120_1, hx120_2⟩ := at_T44 HR0.1 0 p120 q120; obtain rfl : ad118 = ad120 := (by injection e120); have qi120 : (0 < l0.length) = True := zv (by omega); (try rw [show ((0 : Int)).toNat = 0 from rfl] at hx120_0); (try rw [show 0 * 3 = 0 from rfl] at hx120_0); (try rw [Addr.add_zero'] at hx120_0); (try rw [show ((0 : Int)).toNat = 0 from rfl] at hx120_1); (try rw [show 0 * 3 = 0 from rfl] at hx120_1); (try rw [Addr.add_zero'] at hx120_1); (try rw [show ((0 : Int)).toNat = 0 from rfl] at hx120_2); (try rw [show 0 * 3 = 0 from rfl] at hx120_2); (try rw [Addr.add_zero'] at hx120_2); replace p120 := zv p120; replace q120 := zv q120) | (go_at_call 51; (with_reducible refine (spec_l13Square.calls ((rd_T44 l0 0).f2) a1 t121 _ A5.1).mono ?_); rintro e w' ⟨rfl, ⟨nd, rfl⟩⟩; (try first | exact ⟨rfl, _, zO _ _ _⟩ | exact ⟨rfl, _, Eq.trans (zO _ _ _) (congrArg (World.drewN _) (Nat.add_assoc _ _ _))⟩))); try go_wp2_with (first | (go_at_call 51; (with_reducible refine (spec_l13Square.calls ((rd_T44 l0 0).f1) a1 t119 _ A4.1).mono ?_); rintro e w' ⟨rfl, ⟨nd, rfl⟩⟩; (try first | exact ⟨rfl, _, zO _ _ _⟩ | exact ⟨rfl, _, Eq.trans (zO _ _ _) (congrArg (World.drewN _) (Nat.add_assoc _ _ _))⟩); have p120 : 0 ≤ (0 : Int) := (by omega); have q120 : 0 < (l0.length : Int) := zb (qK12); obtain ⟨ad120, e120, hx120_0, hx120_1, hx120_2⟩ := at_T44 HR0.1 0 p120 q120; obtain rfl : ad118 = ad120 := (by injection e120); have qi120 : (0 < l0.length) = True := zv (by omega); (try rw [show ((0 : Int)).toNat = 0 from rfl] at hx120_0); (try rw [show 0 * 3 = 0 from rfl] at hx120_0); (try rw [Addr.add_zero'] at hx120_0); (try rw [show ((0 : Int)).toNat = 0 from rfl] at hx120_1); (try rw [show 0 * 3 = 0 from rfl] at hx120_1); (try rw [Addr.add_zero'] at hx120_1); (try rw [show ((0 : Int)).toNat = 0 from rfl] at hx120_2); (try rw [show 0 * 3 = 0 from rfl] at hx120_2); (try rw [Addr.add_zero'] at hx120_2); replace p120 := zv p120; replace q120 := zv q120) | (go_at_call 51; (with_reducible refine (spec_l13Square.calls ((rd_T44 l0 0).f2) a1 t121 _ A5.1).mono ?_); rintro e w' ⟨rfl, ⟨nd, rfl⟩⟩; (try first | exact ⟨rfl, _, zO _ _ _⟩ | exact ⟨rfl, _, Eq.trans (zO _ _ _) (congrArg (World.drewN _) (Nat.add_assoc _ _ _))⟩))))
  go_loopg [8, 9, 10, 11, 12] k (fun kq v8 v9 v10 v11 v12 w' => ∃ (x8_1 : Int) (x9_1 : Int) (x10_1 : Int) (x11_1 : Int) (x12_1 : Int), v8 = .int .i64 x8_1 ∧ v9 = .int .i64 x9_1 ∧ v10 = .int .i64 x10_1 ∧ v11 = .int .i64 x11_1 ∧ v12 = .int .i64 x12_1 ∧ Aside0 (spec_l13Bounds.l0 kq l0 a1 x8_1 x9_1 x10_1 x11_1 x12_1 = some (r1, r2, r3, r4)) ∧ Aside0 (kq ≤ k) ∧ Drawn0 w w')
  case atStart => exact ⟨(t119), (t121), (t119), (t121), (1), (qK17), (qK17), (qK17), (qK17), (qK17), H', ⟨zn _⟩, (qK35)⟩
  case round =>
   clear H'; (try clear qi1); (try clear c3b0); (try clear c3b1); (try clear hx118_0); (try clear hx118_1); (try clear hx118_2); (try clear hx120_0); (try clear hx120_1); (try clear hx120_2); (try clear p118); (try clear p120); (try clear q118); (try clear q120); obtain ⟨x8_1, x9_1, x10_1, x11_1, x12_1, rfl, rfl, rfl, rfl, rfl, HA, HK1, ⟨m1, rfl⟩⟩ := hrel
   cases gk with
   | zero => exact zM HA.1 (by simp [spec_l13Bounds.l0])
   | succ k1 =>
    have H := HA.1; clear HA; simp only [spec_l13Bounds.l0] at H
    by_cases c6 : x12_1 < (l0.length : Int)
    ·rw [zX c6] at H; have c6b0 : decide (x12_1 < (l0.length : Int)) = true := zc c6; clear c6
     by_cases c7 : 0 ≤ x12_1
     ·rw [zX c7] at H; have c7b0 : decide (0 ≤ x12_1) = true := zc c7; clear c7; replace H := bindA H; obtain ⟨t123, A8, H⟩ := H; (try dsimp only at H); replace H := bindA H; obtain ⟨t125, A9, H⟩ := H; (try dsimp only at H); replace H := bindA H; obtain ⟨t126, A10, H⟩ := H; (try dsimp only at H); replace H := bindA H; obtain ⟨t127, A11, H⟩ := H; (try dsimp only at H); replace H := bindA H; obtain ⟨t128, A12, H⟩ := H; (try dsimp only at H); replace H := bindA H; obtain ⟨t129, A13, H⟩ := H; (try dsimp only at H); have H' := za H; clear H; have p122 : 0 ≤ (x12_1 : Int) := zb (qK12); have q122 : x12_1 < (l0.length : Int) := zb (qK12); obtain ⟨ad122, e122, hx122_0, hx122_1, hx122_2⟩ := at_T44 HR0.1 x12_1 p122 q122; obtain rfl : ad118 = ad122 := (by injection e122); replace p122 := zv p122; replace q122 := zv q122
      go_wp2_with (first | (go_at_call 51; (with_reducible refine (spec_l13Square.calls ((rd_T44 l0 x12_1).f1) a1 t123 _ A8.1).mono ?_); rintro e w' ⟨rfl, ⟨nd, rfl⟩⟩; (try first | exact ⟨rfl, _, zO _ _ _⟩ | exact ⟨rfl, _, Eq.trans (zO _ _ _) (congrArg (World.drewN _) (Nat.add_assoc _ _ _))⟩); have p124 : 0 ≤ (x12_1 : Int) := zb (qK12); have q124 : x12_1 < (l0.length : Int) := zb (qK12); obtain ⟨ad124, e124, hx124_0, hx124_1, hx124_2⟩ := at_T44 HR0.1 x12_1 p124 q124; obtain rfl : ad118 = ad124 := (by injection e124); replace p124 := zv p124; replace q124 := zv q124) | (go_at_call 51; (with_reducible refine (spec_l13Square.calls ((rd_T44 l0 x12_1).f2) a1 t125 _ A9.1).mono ?_); rintro e w' ⟨rfl, ⟨nd, rfl⟩⟩; (try first | exact ⟨rfl, _, zO _ _ _⟩ | exact ⟨rfl, _, Eq.trans (zO _ _ _) (congrArg (World.drewN _) (Nat.add_assoc _ _ _))⟩)) | (go_at_call 76; (with_reducible refine (spec_l1Least.calls x8_1 t123 t126 _ A10.1).mono ?_); rintro e w' ⟨rfl, ⟨nd, rfl⟩⟩; (try first | exact ⟨rfl, _, zO _ _ _⟩ | exact ⟨rfl, _, Eq.trans (zO _ _ _) (congrArg (World.drewN _) (Nat.add_assoc _ _ _))⟩)) | (go_at_call 77; (with_reducible refine (spec_l1Most.calls x10_1 t123 t127 _ A11.1).mono ?_); rintro e w' ⟨rfl, ⟨nd, rfl⟩⟩; (try first | exact ⟨rfl, _, zO _ _ _⟩ | exact ⟨rfl, _, Eq.trans (zO _ _ _) (congrArg (World.drewN _) (Nat.add_assoc _ _ _))⟩)) | (go_at_call 76; (with_reducible refine (spec_l1Least.calls x9_1 t125 t128 _ A12.1).mono ?_); rintro e w' ⟨rfl, ⟨nd, rfl⟩⟩; (try first | exact ⟨rfl, _, zO _ _ _⟩ | exact ⟨rfl, _, Eq.trans (zO _ _ _) (congrArg (World.drewN _) (Nat.add_assoc _ _ _))⟩)) | (go_at_call 77; (with_reducible refine (spec_l1Most.calls x11_1 t125 t129 _ A13.1).mono ?_); rintro e w' ⟨rfl, ⟨nd, rfl⟩⟩; (try first | exact ⟨rfl, _, zO _ _ _⟩ | exact ⟨rfl, _, Eq.trans (zO _ _ _) (congrArg (World.drewN _) (Nat.add_assoc _ _ _))⟩)))
      repeat (go_quiet (first | (go_at_call 51; (with_reducible refine (spec_l13Square.calls ((rd_T44 l0 x12_1).f1) a1 t123 _ A8.1).mono ?_); rintro e w' ⟨rfl, ⟨nd, rfl⟩⟩; (try first | exact ⟨rfl, _, zO _ _ _⟩ | exact ⟨rfl, _, Eq.trans (zO _ _ _) (congrArg (World.drewN _) (Nat.add_assoc _ _ _))⟩); have p124 : 0 ≤ (x12_1 : Int) := zb (qK12); have q124 : x12_1 < (l0.length : Int) := zb (qK12); obtain ⟨ad124, e124, hx124_0, hx124_1, hx124_2⟩ := at_T44 HR0.1 x12_1 p124 q124; obtain rfl : ad118 = ad124 := (by injection e124); replace p124 := zv p124; replace q124 := zv q124) | (go_at_call 51; (with_reducible refine (spec_l13Square.calls ((rd_T44 l0 x12_1).f2) a1 t125 _ A9.1).mono ?_); rintro e w' ⟨rfl, ⟨nd, rfl⟩⟩; (try first | exact ⟨rfl, _, zO _ _ _⟩ | exact ⟨rfl, _, Eq.trans (zO _ _ _) (congrArg (World.drewN _) (Nat.add_assoc _ _ _))⟩)) | (go_at_call 76; (with_reducible refine (spec_l1Least.calls x8_1 t123 t126 _ A10.1).mono ?_); rintro e w' ⟨rfl, ⟨nd, rfl⟩⟩; (try first | exact ⟨rfl, _, zO _ _ _⟩ | exact ⟨rfl, _, Eq.trans (zO _ _ _) (congrArg (World.drewN _) (Nat.add_assoc _ _ _))⟩)) | (go_at_call 77; (with_reducible refine (spec_l1Most.calls x10_1 t123 t127 _ A11.1).mono ?_); rintro e w' ⟨rfl, ⟨nd, rfl⟩⟩; (try first | exact ⟨rfl, _, zO _ _ _⟩ | exact ⟨rfl, _, Eq.trans (zO _ _ _) (congrArg (World.drewN _) (Nat.add_assoc _ _ _))⟩)) | (go_at_call 76; (with_reducible refine (spec_l1Least.calls x9_1 t125 t128 _ A12.1).mono ?_); rintro e w' ⟨rfl, ⟨nd, rfl⟩⟩; (try first | exact ⟨rfl, _, zO _ _ _⟩ | exact ⟨rfl, _, Eq.trans (zO _ _ _) (congrArg (World.drewN _) (Nat.add_assoc _ _ _))⟩)) | (go_at_call 77; (with_reducible refine (spec_l1Most.calls x11_1 t125 t129 _ A13.1).mono ?_); rintro e w' ⟨rfl, ⟨nd, rfl⟩⟩; (try first | exact ⟨rfl, _, zO _ _ _⟩ | exact ⟨rfl, _, Eq.trans (zO _ _ _) (congrArg (World.drewN _) (Nat.add_assoc _ _ _))⟩))); try go_wp2_with (first | (go_at_call 51; (with_reducible refine (spec_l13Square.calls ((rd_T44 l0 x12_1).f1) a1 t123 _ A8.1).mono ?_); rintro e w' ⟨rfl, ⟨nd, rfl⟩⟩; (try first | exact ⟨rfl, _, zO _ _ _⟩ | exact ⟨rfl, _, Eq.trans (zO _ _ _) (congrArg (World.drewN _) (Nat.add_assoc _ _ _))⟩); have p124 : 0 ≤ (x12_1 : Int) := zb (qK12); have q124 : x12_1 < (l0.length : Int) := zb (qK12); obtain ⟨ad124, e124, hx124_0, hx124_1, hx124_2⟩ := at_T44 HR0.1 x12_1 p124 q124; obtain rfl : ad118 = ad124 := (by injection e124); replace p124 := zv p124; replace q124 := zv q124) | (go_at_call 51; (with_reducible refine (spec_l13Square.calls ((rd_T44 l0 x12_1).f2) a1 t125 _ A9.1).mono ?_); rintro e w' ⟨rfl, ⟨nd, rfl⟩⟩; (try first | exact ⟨rfl, _, zO _ _ _⟩ | exact ⟨rfl, _, Eq.trans (zO _ _ _) (congrArg (World.drewN _) (Nat.add_assoc _ _ _))⟩)) | (go_at_call 76; (with_reducible refine (spec_l1Least.calls x8_1 t123 t126 _ A10.1).mono ?_); rintro e w' ⟨rfl, ⟨nd, rfl⟩⟩; (try first | exact ⟨rfl, _, zO _ _ _⟩ | exact ⟨rfl, _, Eq.trans (zO _ _ _) (congrArg (World.drewN _) (Nat.add_assoc _ _ _))⟩)) | (go_at_call 77; (with_reducible refine (spec_l1Most.calls x10_1 t123 t127 _ A11.1).mono ?_); rintro e w' ⟨rfl, ⟨nd, rfl⟩⟩; (try first | exact ⟨rfl, _, zO _ _ _⟩ | exact ⟨rfl, _, Eq.trans (zO _ _ _) (congrArg (World.drewN _) (Nat.add_assoc _ _ _))⟩)) | (go_at_call 76; (with_reducible refine (spec_l1Least.calls x9_1 t125 t128 _ A12.1).mono ?_); rintro e w' ⟨rfl, ⟨nd, rfl⟩⟩; (try first | exact ⟨rfl, _, zO _ _ _⟩ | exact ⟨rfl, _, Eq.trans (zO _ _ _) (congrArg (World.drewN _) (Nat.add_assoc _ _ _))⟩)) | (go_at_call 77; (with_reducible refine (spec_l1Most.calls x11_1 t125 t129 _ A13.1).mono ?_); rintro e w' ⟨rfl, ⟨nd, rfl⟩⟩; (try first | exact ⟨rfl, _, zO _ _ _⟩ | exact ⟨rfl, _, Eq.trans (zO _ _ _) (congrArg (World.drewN _) (Nat.add_assoc _ _ _))⟩))))
      go_roundg k1
      case measure => have := HK1.1; omega
      case rel => exact ⟨(t126), (t128), (t127), (t129), (wrap64 (x12_1 + 1)), (qK17), (qK17), (qK17), (qK17), (qK17), H', ⟨by have := HK1.1; omega⟩, (qK35)⟩
     ·rw [zY c7] at H
      exact zM H (by simp)
    ·rw [zY c6] at H; have c6b0 : decide (x12_1 < (l0.length : Int)) = false := zu c6; clear c6; simp only [zZ, ya] at H; obtain ⟨rfl, rfl, rfl, rfl⟩ := H
     go_wp2
     repeat (go_quiet (fail); try go_wp2)
     refine bodyPost_ret (results_list (rs := [.tmp 4, .tmp 5, .tmp 6, .tmp 7]) rfl (by simp) (.tmp (.tmp (.tmp (.tmp .nil))))) rfl ?_
     exact ⟨(qK17), (qK35)⟩
 ·rw [zY c3] at H
  exact zM H (by simp)

def spec_l1In.f (a0 : Int) (a1 : Int) (a2 : Int) : Option (Bool) := if a0 ≥ a1 then (some (decide (a0 ≤ a2))) else (some false)
theorem spec_l1In.calls (a0 : Int) (a1 : Int) (a2 : Int) (r : Bool) (w : World) (h : spec_l1In.f a0 a1 a2 = some r) :
  Calls Try.prog 64 #[.int .i64 a0, .int .i64 a1, .int .i64 a2] w fun e w' => e = .returned (.bool r) ∧ Drawn0 w w' := by
 have H : (if a0 ≥ a1 then (some (decide (a0 ≤ a2))) else (some false)) = some r := h; clear h
 by_cases c4 : a0 ≥ a1
 ·rw [zX c4] at H; have c4b0 : decide (a1 ≤ a0) = true := zc c4; clear c4; obtain rfl := zl H
  go_enter Try.func64, Try.ntmps64
  go_wp2
  go_ret
  exact ⟨(qK17), (qK35)⟩
 ·rw [zY c4] at H; have c4b0 : decide (a1 ≤ a0) = false := zu c4; clear c4; obtain rfl := zl H
  go_enter Try.func64, Try.ntmps64
  go_wp2
  go_ret
  exact ⟨(qK17), (qK35)⟩

def spec_l13Letter.f (a0 : ByteArray) : Option (Bool) := if (a0.size : Int) = 1 then (if 0 < (a0.size : Int) then (if (bt a0 0) ≥ 65 then (some (decide ((bt a0 0) ≤ 90))) else (some false)) else (none)) else (some false)
theorem spec_l13Letter.calls (a0 : ByteArray) (r : Bool) (w : World) (h : spec_l13Letter.f a0 = some r) :
  Calls Try.prog 68 #[.string a0] w fun e w' => e = .returned (.bool r) ∧ Drawn0 w w' := by
 have H : (if (a0.size : Int) = 1 then (if 0 < (a0.size : Int) then (if (bt a0 0) ≥ 65 then (some (decide ((bt a0 0) ≤ 90))) else (some false)) else (none)) else (some false)) = some r := h; clear h
 by_cases c2 : (a0.size : Int) = 1
 ·rw [zX c2] at H; have c2b0 : ((a0.size : Int) == 1) = true := zP c2; have c2b1 : ((a0.size : Int) != 1) = false := zx c2; clear c2
  by_cases c3 : 0 < (a0.size : Int)
  ·rw [zX c3] at H; have c3b0 : decide (0 < (a0.size : Int)) = true := zc c3; have c3b1 : decide (0 < a0.size) = true := zc (by omega); clear c3
   by_cases c5 : (bt a0 0) ≥ 65
   ·rw [zX c5] at H; have c5b0 : decide (65 ≤ (bt a0 0)) = true := zc c5; clear c5; obtain rfl := zl H; have p4 : 0 ≤ (0 : Int) := (by omega); have q4 : 0 < a0.size := (by have : (0 : Int) < (a0.size : Int) := zb (qK12); omega); have hx4 : ∀ h : 0 < a0.size, ((a0[0]'h).toNat : Int) = bt a0 0 := bt_at a0 0; clear p4; have qi4 : (0 < (a0.size : Int)) = True := zv (zb (qK12)); replace q4 := zv q4; have p6 : 0 ≤ (0 : Int) := (by omega); have q6 : 0 < a0.size := (by have : (0 : Int) < (a0.size : Int) := zb (qK12); omega); have hx6 : ∀ h : 0 < a0.size, ((a0[0]'h).toNat : Int) = bt a0 0 := bt_at a0 0; clear p6; have qi6 : (0 < (a0.size : Int)) = True := zv (zb (qK12)); replace q6 := zv q6
    go_enter Try.func68, Try.ntmps68
    go_wp2
    go_ret
    exact ⟨(qK17), (qK35)⟩
   ·rw [zY c5] at H; have c5b0 : decide (65 ≤ (bt a0 0)) = false := zu c5; clear c5; obtain rfl := zl H; have p4 : 0 ≤ (0 : Int) := (by omega); have q4 : 0 < a0.size := (by have : (0 : Int) < (a0.size : Int) := zb (qK12); omega); have hx4 : ∀ h : 0 < a0.size, ((a0[0]'h).toNat : Int) = bt a0 0 := bt_at a0 0; clear p4; have qi4 : (0 < (a0.size : Int)) = True := zv (zb (qK12)); replace q4 := zv q4
    go_enter Try.func68, Try.ntmps68
    go_wp2
    go_ret
    exact ⟨(qK17), (qK35)⟩
  ·rw [zY c3] at H
   exact zM H (by simp)
 ·rw [zY c2] at H; have c2b0 : ((a0.size : Int) == 1) = false := zw c2; have c2b1 : ((a0.size : Int) != 1) = true := zQ c2; obtain rfl := zl H
  go_enter Try.func68, Try.ntmps68
  go_wp2
  go_ret
  exact ⟨(qK17), (qK35)⟩

end Go.Proofs.Ytckidmhkhlbkeaa.MK
