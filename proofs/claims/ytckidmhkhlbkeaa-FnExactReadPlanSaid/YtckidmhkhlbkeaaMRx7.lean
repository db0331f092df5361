-- tight2 (a walk)
import Derived.RangeFuncNested
import Derived.RangeFuncBound
import Derived.RangeFuncCalls
import Derived.RangeFuncLeaves
import Derived.RangeFuncBox
import Derived.Shelf.Abstract
import Derived.Shelf.RegionOpen
import Derived.OwnWalkIn
import Derived.TacticsInMore
import Derived.LoopNIn
import Derived.LoopIn
import Derived.Test.YtckidmhkhlbkeaaSort
import Derived.Maps.OwnIn
import Derived.Sort.OwnSortedInts
import Derived.OrdersIn
import Derived.TacticsIn
import Derived.RegionIn
import Derived.Test.YtckidmhkhlbkeaaMRx0
import Derived.Test.YtckidmhkhlbkeaaMRx1
import Derived.Test.YtckidmhkhlbkeaaMRx6
import Derived.Test.YtckidmhkhlbkeaaMRx4
namespace Go.Proofs.Ytckidmhkhlbkeaa.MR
open Go.RowKit Go.Proofs.YtckidmhkhlbkeaaW.PrintWords Go.Proofs.YtckidmhkhlbkeaaW.PrintLast Go.Proofs.YtckidmhkhlbkeaaW.PrintMore
set_option maxRecDepth 100000
theorem qR7_c0 {p : Prop} (h : p := by
  simp only [Act.put, zT, zU, zV, i64_w, i32_w]
  rfl) : p := h
theorem qR7_c1 {p : Prop} (h : p := by
  intro w'
  go_simp
  with_reducible rfl) : p := h
theorem qR7_c2 {p : Prop} (h : p := by
  show Act.put _ (some 18) _ = _
  simp only [Act.put, zT, zU, zV, i64_w, i32_w]
  rfl) : p := h
attribute [local go_sem] max2_int min2_int max_two min_two max_three min_three max_four min_four
set_option linter.unusedVariables false
set_option linter.unusedSimpArgs false

attribute [local go_sem] Oper.semAt_some
-- Where the first line of a text ends; -1: nowhere.
def ln_i (s : ByteArray) : Int := Lib.indexByte s.data.toList 10
-- The lines of a text, each with its newline.
inductive IsLns : ByteArray → List ByteArray → Prop
 | nil {s : ByteArray} : s.size = 0 → IsLns s []
 | more {s : ByteArray} {L : List ByteArray} : 0 ≤ ln_i s → ln_i s + 1 ≤ s.size → IsLns (s.extract (ln_i s + 1).toNat s.size) L → IsLns s (s.extract 0 (ln_i s + 1).toNat :: L)
 | last {s : ByteArray} : 0 < s.size → ln_i s < 0 → IsLns s [s]
set_option maxHeartbeats 4000000 in
theorem ln84.loop_in (l Bs : Nat) (s0 : ByteArray) (L0 : List ByteArray) (hL : IsLns s0 L0) (hs0 : s0.size ≤ 140737488355328) (J : List ByteArray → World → Prop) (Jx : World → Prop)
  (hY : ∀ pre x L W, L0 = pre ++ x :: L → J pre W → YieldAt Fence.wide 3 Try.prog l #[.string x] W fun e W' =>
   (e = .returned (.bool true) ∧ J (pre ++ [x]) W' ∧ W'.heap[Bs]? = W.heap[Bs]?) ∨ (e = .returned (.bool false) ∧ Jx W'))
  (hJ : ∀ pre W W', J pre W → W.grownBy W' (some Bs) → J pre W')
  (W : World) (hB0 : W.heap[Bs]? = some (.cells #[.string s0] 9 (0, 0))) (h0 : J [] W) :
  CallsIn Fence.wide 4 Try.prog 84 #[.func (.yield l) #[] #[], .pointer (some ⟨Bs, 0, none⟩)] W fun e W' => (∃ v, e = .returned v) ∧ (J L0 W' ∨ Jx W') := by
 refine callsIn_of_wp Try.func84 rfl trivial ?_ rfl
 simp only [Try.ntmps84, List.size_toArray, List.length_cons, List.length_nil, Nat.reduceAdd, Nat.reduceSub, Array.replicate_succ, Array.replicate_zero, List.push_toArray, List.append_toArray, List.nil_append, List.cons_append]
 gi_wp2
 gi_loopw [] (fun wr => ∃ (pre : List ByteArray) (s : ByteArray) (L : List ByteArray), L0 = pre ++ L ∧ IsLns s L ∧ s.size ≤ s0.size ∧ wr.heap[Bs]? = some (.cells #[.string s] 9 (0, 0)) ∧ J pre wr)
  (fun wr => (match wr.cell? ⟨Bs, 0, none⟩ with | some (.string s) => s.size | _ => 0))
 case atStart => exact ⟨[], s0, L0, rfl, hL, zn _, hB0, h0⟩
 case round =>
  obtain ⟨pre, s, L, eL, hs, hsz, hb, hj⟩ := hrel; have hc := World.cell?_of_block (a := ⟨Bs, 0, none⟩) (show wr.heap[Bs]? = wr.heap[Bs]? from rfl); have hc0 : wr.cell? ⟨Bs, 0, none⟩ = some (.string s) := (blk_cell hb 0).trans rfl; have hf0 : wr.frozen? ⟨Bs, 0, none⟩ = false := ze hb 0; have hX := Try.strings_IndexByte s 10 wr; rw [show ((10 : Int).toNat.toUInt8) = 10 from rfl] at hX; have hXi : CallsIn Fence.wide 3 Try.prog 85 #[.string s, .int .u8 10] wr fun e w' => e = .returned (.int .i64 (ln_i s)) ∧ w' = wr := callsIn_wide.2 hX; clear hc
  have hm0 : (match wr.cell? ⟨Bs, 0, none⟩ with | some (.string s) => s.size | _ => 0) = s.size := by rw [hc0]
  rw [hm0]
  cases hs with
  | nil h =>
   have d0 : decide ((0 : Int) < (s.size : Int)) = false := zs (by omega); have e0 : decide (0 < s.size) = false := zs (by omega)
   gi_wp2
   rw [List.append_nil] at eL; subst eL
   go_end0
   exact ⟨⟨_, rfl⟩, .inl hj⟩
  | last h0 h1 =>
   have d0 : decide ((0 : Int) < (s.size : Int)) = true := zc (by omega); have e0 : decide (0 < s.size) = true := zc (by omega); have d1 : decide ((0 : Int) ≤ ln_i s) = false := zs (by omega); have d2 : decide (ln_i s < (0 : Int)) = true := zc (by omega); obtain ⟨ii, hii⟩ : ∃ ii, ln_i s = ii := ⟨_, rfl⟩; rw [hii] at hXi d1 d2; have HII := za hii; clear hii; obtain ⟨fn, tmps, assign, body, hy, hR⟩ := hY pre s [] (wr.setCell ⟨Bs, 0, none⟩ (.string ⟨#[]⟩)) eL (hJ _ _ _ hj (grownBy_setCell' _ _ _))
   have hb2 : (wr.setCell ⟨Bs, 0, none⟩ (.string ⟨#[]⟩)).heap[Bs]? = some (.cells #[.string ⟨#[]⟩] 9 (0, 0)) := by simp [World.setCell, Array.getElem?_modify, hb]
   gi_wp2_with (refine ⟨trivial, ?_⟩; gi_at_call 85; refine hXi.mono ?_; rintro e w1 ⟨rfl, rfl⟩)
   refine hR.mono ?_
   rintro e W3 (⟨rfl, hJ3, hk3⟩ | ⟨rfl, hJx3⟩)
   ·gi_wp2
    go_roundw
    case rel => exact ⟨pre ++ [s], ⟨#[]⟩, [], by rw [eL, List.append_nil], .nil rfl, Nat.zero_le _, hk3.trans hb2, hJ3⟩
    case measure =>
     have : W3.cell? ⟨Bs, 0, none⟩ = some (.string ⟨#[]⟩) := (blk_cell (hk3.trans hb2) 0).trans rfl; rw [this]
     exact h0
   ·gi_wp2
    refine bodyPost_ret (results_none rfl _ _ _) rfl ?_
    exact ⟨⟨_, rfl⟩, .inr hJx3⟩
  | more h0 h1 h2 =>
   rename_i L
   have d0 : decide ((0 : Int) < (s.size : Int)) = true := zc (by omega); have e0 : decide (0 < s.size) = true := zc (by omega); have d1 : decide ((0 : Int) ≤ ln_i s) = true := zc (by omega); have d2 : decide (ln_i s < (0 : Int)) = false := zs (by omega); obtain ⟨ii, hii⟩ : ∃ ii : Nat, ln_i s + 1 = ii := ⟨(ln_i s + 1).toNat, by omega⟩; rw [hii] at h1 h2 eL; rw [Int.toNat_natCast] at eL h2
   have wi : wrap64 (ln_i s + 1) = (ii : Int) := by unfold wrap64; omega
   have hii2 : ii ≤ s.size := by omega
   obtain ⟨jj, hjj⟩ : ∃ jj, ln_i s = jj := ⟨_, rfl⟩; rw [hjj] at hXi d1 d2 wi; have HII := za (And.intro hii hjj); clear hii hjj h0 
   obtain ⟨fn, tmps, assign, body, hy, hR⟩ := hY pre (s.extract 0 ii) L (wr.setCell ⟨Bs, 0, none⟩ (.string (s.extract ii s.size))).drew eL (hJ _ _ _ hj ⟨rfl, rfl, rfl, by simp [World.setCell], fun k _ hk => by
    exact Below.heap_setCell _ _ _ _ (fun e => hk (by simp [e]))⟩)
   have hb2 : (wr.setCell ⟨Bs, 0, none⟩ (.string (s.extract ii s.size))).drew.heap[Bs]? = some (.cells #[.string (s.extract ii s.size)] 9 (0, 0)) := by
    show (wr.setCell ⟨Bs, 0, none⟩ (.string (s.extract ii s.size))).heap[Bs]? = _
    simp [World.setCell, Array.getElem?_modify, hb]
   gi_wp2_with (refine ⟨trivial, ?_⟩; gi_at_call 85; refine hXi.mono ?_; rintro e w1 ⟨rfl, rfl⟩)
   have hm : Try.prog.follows .mixedOrders = true := by kernel_rfl
   gi_region
   gi_wp2
   refine hR.mono ?_
   rintro e W3 (⟨rfl, hJ3, hk3⟩ | ⟨rfl, hJx3⟩)
   ·gi_wp2
    go_roundw
    case rel => exact ⟨pre ++ [s.extract 0 ii], s.extract ii s.size, L, by rw [eL, List.append_assoc]; rfl, h2, by rw [ByteArray.size_extract]; omega, hk3.trans hb2, hJ3⟩
    case measure =>
     have : W3.cell? ⟨Bs, 0, none⟩ = some (.string (s.extract ii s.size)) := (blk_cell (hk3.trans hb2) 0).trans rfl; rw [this]; have := HII.1; have h5 := zb d1; simp only [ByteArray.size_extract]
     omega
   ·gi_wp2
    refine bodyPost_ret (results_none rfl _ _ _) rfl ?_
    exact ⟨⟨_, rfl⟩, .inr hJx3⟩
theorem ln69.maker_in (F : Fence) (n : Nat) (h6 : F.fn 69) (hro : F.round = none) (s : ByteArray) (w : World) :
  CallsIn F n Try.prog 69 #[.string s] w fun e w' => e = .returned (.func (.func 84) #[] #[.pointer (some ⟨w.heap.size, 0, none⟩)]) ∧ w' = w.alloc (.cells #[.string s] 9) := by
 refine callsIn_of_wp Try.func69 rfl h6 ?_ hro
 simp only [Try.ntmps69, List.size_toArray, List.length_cons, List.length_nil, Nat.reduceAdd, Nat.reduceSub, Array.replicate_succ, Array.replicate_zero, List.push_toArray, List.append_toArray, List.nil_append, List.cons_append]
 gi_wp2
 refine bodyPost_ret (results_tmp rfl _ _ _) rfl ?_
 exact ⟨rfl, rfl⟩
-- How the body of a round may be left.
def lnPost (B Bs : Nat) (I : List ByteArray → World → Prop) (Ix : World → Prop) (xs : List ByteArray) (W : World) : Exit → Act → World → Prop
 | .normal, _, W' => KeepsFrom B W W' ∧ W'.heap[Bs]? = W.heap[Bs]? ∧ I xs W'
 | .ret, _, W' => KeepsFrom B W W' ∧ Ix W'
 | _, _, _ => False
theorem ln_range {g : Operand} {ps : Array Tmp} {assign body : Code} {Q : Exit → Act → World → Prop} {a : Act} {w : World} {Bs : Nat} {s0 : ByteArray} {L0 : List ByteArray}
  (hg : a.eval g = .func (.func 84) #[] #[.pointer (some ⟨Bs, 0, none⟩)]) (hps : ps.size = 1) (hL : IsLns s0 L0) (hs0 : s0.size ≤ 140737488355328) (hB : w.heap[Bs]? = some (.cells #[.string s0] 9 (0, 0)))
  (I : List ByteArray → World → Prop) (Ix : World → Prop)
  (hI : ∀ pre W W' row, I pre W → W.grownBy W' row → (∀ r, row = some r → r = Bs ∨ (w.heap.size ≤ r ∧ ∃ o : Obj, W.heap[r]? = some o ∧ o.isCells = false)) → I pre W')
  (hIx : ∀ W W' row, Ix W → W.grownBy W' row → (∀ r, row = some r → w.heap.size ≤ r ∧ ∃ o : Obj, W.heap[r]? = some o ∧ o.isCells = false) → Ix W')
  (h0 : I [] w) (a₁ : ByteArray → Act)
  (hassign : ∀ (l : Nat) (x : ByteArray) (W : World) (K : Act → World → Prop), K (a₁ x) W →
   assign.wpIn (Fence.wide.inRound l) 3 Try.prog (Exit.then K (fun _ _ _ => False)) { tmps := (ps.zip #[.string x]).foldl (fun t (p, v) => t.setIfInBounds p v) a.tmps, defers := [] } W)
  (hbody : ∀ (l : Nat) (pre : List ByteArray) (x : ByteArray) (L : List ByteArray) (W : World), L0 = pre ++ x :: L → w.heap.size ≤ l → I pre W → body.wpIn (Fence.wide.inRound l) 3 Try.prog (lnPost w.heap.size Bs I Ix (pre ++ [x]) W) (a₁ x) W)
  (hdone : ∀ (D : Nat) (W : World), w.heap.size ≤ D → I L0 W → W.heap[D]? = some (.deferred (some [])) → Q .normal { a with defers := { target := .collected D, args := #[] } :: a.defers } W)
  (hstop : ∀ (D : Nat) (W : World), w.heap.size ≤ D → Ix W → W.heap[D]? = some (.deferred (some [])) → Code.ret.wpIn Fence.wide 5 Try.prog Q { a with defers := { target := .collected D, args := #[] } :: a.defers } W) :
  (Code.rangeFunc g ps assign body).wpIn Fence.wide 5 Try.prog Q a w := by
 have hBl : Bs < w.heap.size := blk_lt hB
 refine wpIn_rangeFunc ?_
 intro fn hfn
 show ∃ _, _
 obtain ⟨rec, hrec⟩ : ∃ rec : LoopState → Option Code → Loop, rec = fun st pe => { state := st, pending := pe, fn, tmps := a.tmps, params := ps, assign, body, defers := w.heap.size } := ⟨_, rfl⟩; obtain ⟨W1, hW1⟩ : ∃ W1, (w.alloc (.deferred (some []))).alloc (.loop (rec .ready none)) = W1 := ⟨_, rfl⟩
 have hL1 : W1.heap[w.heap.size + 1]? = some (.loop (rec .ready none)) := by
  rw [← hW1]; have := World.alloc_heap_new (w.alloc (.deferred (some []))) (.loop (rec .ready none)); rwa [World.size_alloc] at this
 have hK1 : W1.heap[w.heap.size]? = some (.deferred (some [])) := by
  rw [← hW1]; exact (Below.heap_alloc _ _ _ (by simp)).trans (World.alloc_heap_new w _)
 have hIa : ∀ {pre : List ByteArray} {W : World} (o : Obj), I pre W → I pre (W.alloc o) := fun o h => hI _ _ _ none h (World.grownBy_alloc _ o none) (fun r e => by cases e)
 have hIp : ∀ {pre : List ByteArray} {W : World} {l : Nat} {o : Obj} (o' : Obj), I pre W → w.heap.size ≤ l → W.heap[l]? = some o → o.isCells = false → I pre (W.putObj l o') := fun o' h hl ho hc => hI _ _ _ (some _) h (grownBy_putObj' _ _ o') (fun r e => by cases e; exact .inr ⟨hl, _, ho, hc⟩)
 have hIxp : ∀ {W : World} {l : Nat} {o : Obj} (o' : Obj), Ix W → w.heap.size ≤ l → W.heap[l]? = some o → o.isCells = false → Ix (W.putObj l o') := fun o' h hl ho hc => hIx _ _ (some _) h (grownBy_putObj' _ _ o') (fun r e => by cases e; exact ⟨hl, _, ho, hc⟩)
 have hI1 : I [] W1 := by rw [← hW1]; exact hIa _ (hIa _ h0)
 have hB1 : W1.heap[Bs]? = some (.cells #[.string s0] 9 (0, 0)) := by
  rw [← hW1]; exact (Below.heap_alloc _ _ _ (by simp; omega)).trans ((Below.heap_alloc _ _ _ hBl).trans hB)
 refine ⟨w.heap.size + 1, [{ target := .collected w.heap.size, args := #[] }], W1, { target := .fn (.func 84) #[.pointer (some ⟨Bs, 0, none⟩)], args := #[.func (.yield (w.heap.size + 1)) #[] #[]] }, W1, 84,
  #[.func (.yield (w.heap.size + 1)) #[] #[]] ++ #[.pointer (some ⟨Bs, 0, none⟩)], W1, ?_, ?_, ?_, ?_, fun _ => by decide, ?_⟩
 ·rw [← hW1, hrec]; exact run_enterLoop_outer _ _ _ _ _
 ·simp only [resolve, hg]
  simp [go_sem]
 ·intro f' hf'; trivial
 ·have eg : ∀ args w, (callFunc 84 args).run Try.prog w = .ok (.enter 84 args) w := enters_of Try.func84 (qR8) rfl
  simp [invoke, go_sem, eg]
 ·refine (ln84.loop_in (w.heap.size + 1) Bs s0 L0 hL hs0
   (fun pre W => I pre W ∧ W.heap[w.heap.size + 1]? = some (.loop (rec .ready none)) ∧ W.heap[w.heap.size]? = some (.deferred (some [])))
   (fun W => Ix W ∧ W.heap[w.heap.size + 1]? = some (.loop (rec .done (some .ret))) ∧ W.heap[w.heap.size]? = some (.deferred (some [])))
   ?_ ?_ W1 hB1 ⟨hI1, hL1, hK1⟩).mono ?_
  ·-- one round
   rintro pre x L W eL ⟨hi, hl, hk⟩
   have hlt : w.heap.size + 1 < W.heap.size := (Array.getElem?_eq_some_iff.1 hl).1; have hy := run_yield (P := Try.prog) (args := #[.string x]) hl (by rw [hrec]; exact hps.symm); rw [hrec] at hy
   refine ⟨fn, _, assign, body, hy, roundIn_of_wpIn hfn (hassign _ x W _ ?_)⟩
   clear hy
   refine ⟨_, run_beginRound hl (by rw [hrec]), ?_⟩
   have hl2 : (W.putObj (w.heap.size + 1) (.loop { rec .ready none with state := .busy })).heap[w.heap.size + 1]? = some (.loop { rec .ready none with state := .busy }) := World.putObj_heap_same hlt
   have hk2 : (W.putObj (w.heap.size + 1) (.loop { rec .ready none with state := .busy })).heap[w.heap.size]? = some (.deferred (some [])) := (World.putObj_heap_other (by omega)).trans hk
   have hb2 : (W.putObj (w.heap.size + 1) (.loop { rec .ready none with state := .busy })).heap[Bs]? = W.heap[Bs]? := World.putObj_heap_other (by omega)
   refine wpIn_mono (hbody _ pre x L _ eL (by omega) (hIp _ hi (by omega) hl rfl)) ?_
   have fin : ∀ (jump : Option Code) (W3 : World), KeepsFrom w.heap.size (W.putObj (w.heap.size + 1) (.loop { rec .ready none with state := .busy })) W3 →
     (Instr.endRound (w.heap.size + 1) jump).run Try.prog W3 = .ok (.bool jump.isNone) (W3.putObj (w.heap.size + 1) (.loop (rec (if jump.isNone then .ready else .done) jump))) ∧
     W3.heap[w.heap.size + 1]? = some (.loop { rec .ready none with state := .busy }) ∧
     (W3.putObj (w.heap.size + 1) (.loop (rec (if jump.isNone then .ready else .done) jump))).heap[w.heap.size + 1]? = some (.loop (rec (if jump.isNone then .ready else .done) jump)) ∧
     (W3.putObj (w.heap.size + 1) (.loop (rec (if jump.isNone then .ready else .done) jump))).heap[w.heap.size]? = some (.deferred (some [])) := fun jump W3 hk3 => by
    have hl3 := hk3.same _ _ (by omega) hl2 rfl; have := run_endRound (P := Try.prog) jump hl3; rw [hrec] at this ⊢
    exact ⟨this, by rw [hrec] at hl3; exact hl3, World.putObj_heap_same (Array.getElem?_eq_some_iff.1 hl3).1, (World.putObj_heap_other (by omega)).trans (hk3.same _ _ (zn _) hk2 rfl)⟩
   rintro e a3 W3 hp
   cases e with
   | normal =>
    obtain ⟨hk3, hkb, hi3⟩ := hp; obtain ⟨hr, hl3, hl4, hk4⟩ := fin none W3 hk3
    exact ⟨_, _, hr, .inl ⟨rfl, ⟨hIp _ hi3 (by omega) hl3 rfl, hl4, hk4⟩, (World.putObj_heap_other (by omega)).trans (hkb.trans hb2)⟩⟩
   | ret =>
    obtain ⟨hk3, hi3⟩ := hp; obtain ⟨hr, hl3, hl4, hk4⟩ := fin (some .ret) W3 hk3
    exact ⟨_, _, hr, .inr ⟨rfl, hIxp _ hi3 (by omega) hl3 rfl, hl4, hk4⟩⟩
   | exit id => exact hp.elim
   | goto t => exact hp.elim
   | panic ch => exact hp.elim
   | outgrown => exact hp.elim
  ·rintro pre W W' ⟨hi, hl, hk⟩ hg'
   exact ⟨hI _ _ _ _ hi hg' (fun r e => by cases e; exact .inl rfl), (hg'.block _ (Array.getElem?_eq_some_iff.1 hl).1 (fun e => by simp at e; omega)).trans hl, (hg'.block _ (Array.getElem?_eq_some_iff.1 hk).1 (fun e => by simp at e; omega)).trans hk⟩
  ·rintro e W2 ⟨⟨v, rfl⟩, (⟨hi, hl, hk⟩ | ⟨hi, hl, hk⟩)⟩
   ·exact ⟨none, _, by have := run_endLoop (P := Try.prog) hl (by rw [hrec]; simp); rw [hrec] at this; exact this, hdone _ _ (zn _) (hIp _ hi (by omega) hl rfl) ((World.putObj_heap_other (by omega)).trans hk)⟩
   ·exact ⟨some .ret, _, by have := run_endLoop (P := Try.prog) hl (by rw [hrec]; simp); rw [hrec] at this; exact this, hstop _ _ (zn _) (hIxp _ hi (by omega) hl rfl) ((World.putObj_heap_other (by omega)).trans hk)⟩
theorem append_cells_in {F : Fence} {nn : Nat} {P : Program} {ops : Array Oper} {o : Oper} {rest : List Oper} {a : Act} {Q : Exit → Act → World → Prop} {w0 W : World} (base : Nat) (hgd : o.guard = none) (s x : Operand) (t e : TypeId) (z : Value) (size bytes : Nat)
  (ho : o.op = .call { callee := .builtin .append, args := #[s, x], argTypes := #[t, t] })
  (ht : P.underlying t = some (.slice e)) (hinfo : (P.info? e).map (fun i => (i.zero, i.size, i.bytes)) = some (some z, size, bytes)) (hz : z.cells.size = size) (hs0 : 0 < size) (hb0 : 0 < bytes)
  (v : Value) (n : Nat) (xs ys : List Value) (hs : a.eval s = v) (hx : a.eval x = .slice (some ⟨W.heap.size, 0, none⟩) 1 1) (hys : ys.length = size) (h1 : ∀ u ∈ ys, u.oneCell' = true)
  (HO : W.ownsRow base e size v n xs) (HB : Below base w0 W) (hbase : base ≤ W.heap.size) (hl : (n + 1) * bytes ≤ 140737488355328)
  (h : ∀ v1 w1, w1.ownsRow base e size v1 (n + 1) (xs ++ ys) → Below base w0 w1 → W.grownBy w1 v.ownBlock → (v1.ownBlock = v.ownBlock ∨ ∃ b, v1.ownBlock = some b ∧ W.heap.size ≤ b) → wpListIn F nn P ops Q rest (a.put o.dst v1) w1) :
  wpListIn F nn P ops Q (o :: rest) a (W.alloc (.cells ys.toArray e)) := by
 obtain ⟨i0, hi, hzz⟩ := Option.map_eq_some_iff.1 hinfo; simp only [zS] at hzz; obtain ⟨hz0, hz1, hz2⟩ := hzz; have hlen : n + 1 ≤ 140737488355328 := Nat.le_trans (Nat.le_mul_of_pos_right _ hb0) hl
 refine wpListIn_append_own_at (W.alloc (.cells ys.toArray e)) hgd s x t ho base e i0 z size bytes ht hi hz0 hz1 hz2 hz hs0 v n xs hs (HO.alloc _) ⟨W.heap.size, 0, none⟩ 1 1 ys hx (by rw [hys]; simp)
  (by simpa using World.news_of_block (cs := ys.toArray) (t := e) (fr := (0, 0)) (World.alloc_heap_new W (.cells ys.toArray e))) h1 (by simp only [maxLen]; omega) hl (by simp; omega) ?_
 intro v1 w1 hown hg _ hat
 refine h v1 w1 hown ((HB.alloc hbase _).grown hg (by simp; omega) (own_base HO)) (World.grownBy.trans (World.grownBy_alloc W _ _) hg) ?_
 rcases hat with hat | hat
 ·exact .inl hat
 ·exact .inr ⟨_, hat, by simp⟩
theorem R44_append_in {F : Fence} {nn : Nat} {ops : Array Oper} {o : Oper} {rest : List Oper} {a : Act} {Q : Exit → Act → World → Prop} {w0 W : World} (base : Nat) (hgd : o.guard = none) (s x : Operand)
  (ho : o.op = .call { callee := .builtin .append, args := #[s, x], argTypes := #[26, 26] })
  (v : Value) (xs : List S44) (p : S44) (ok : Nat → Prop) (hs : a.eval s = v) (hx : a.eval x = .slice (some ⟨W.heap.size, 0, none⟩) 1 1) (hfresh : ∀ k, W.heap.size ≤ k → ok k)
  (HO : Kd.R k44 44 W base ok v xs) (HB : Below base w0 W) (hbase : base ≤ W.heap.size) (hl : (xs.length + 1) * 32 ≤ 140737488355328)
  (h : ∀ v1 w1, Kd.R k44 44 w1 base ok v1 (xs ++ [p]) → Below base w0 w1 → W.grownBy w1 v.ownBlock → wpListIn F nn Try.prog ops Q rest (a.put o.dst v1) w1) :
  wpListIn F nn Try.prog ops Q (o :: rest) a (W.alloc (.cells #[.string p.f0, .int .i64 p.f1, .int .i64 p.f2] 44)) := by
 obtain ⟨h0, inner, hown, hr⟩ := HO; have hp := k44_mkM W base (fun _ => False) p
 refine append_cells_in base hgd s x 26 44 (.agg #[(.string ⟨#[]⟩), (.int .i64 0), (.int .i64 0)]) k44.sz 32 ho Try.underlying26 info44 rfl (by decide) (by omega) v xs.length inner [.string p.f0, .int .i64 p.f1, .int .i64 p.f2] hs hx (k44.K_len (k44.K_of_M hp)) (k44.K_one (k44.K_of_M hp)) hown HB hbase hl ?_
 intro v1 w1 hown1 hb1 hg1 hat1
 exact h v1 w1 (Kd.R_appended h0 hr hp (fun _ hk => hk.elim) hfresh hown1 hg1 hat1) hb1 hg1
def rd_upto (y : Int) (s : ByteArray) : Nat → List S44
 | 0 => []
 | i + 1 => rd_upto y s i ++ (if 65 ≤ bt s i ∧ bt s i ≤ 90 then [⟨Utf8.encode (bt s i), i, -y⟩] else [])
def rd_all (y : Int) : List ByteArray → List S44
 | [] => []
 | s :: L => rd_upto y s s.size ++ rd_all (y + 1) L
theorem rd_all_snoc (s : ByteArray) : ∀ (y : Int) (L : List ByteArray), rd_all y (L ++ [s]) = rd_all y L ++ rd_upto (y + L.length) s s.size
 | y, [] => by simp [rd_all]
 | y, x :: L => by simp [rd_all, rd_all_snoc s (y + 1) L, Int.add_assoc, Int.add_comm 1]
theorem rd_upto_len (y : Int) (s : ByteArray) : ∀ i, (rd_upto y s i).length ≤ i
 | 0 => zn _
 | i + 1 => by
  have := rd_upto_len y s i; simp only [rd_upto, List.length_append]
  split <;> simp <;> omega
theorem rd_all_len : ∀ (y : Int) (L : List ByteArray), (∀ x ∈ L, x.size ≤ 21) → (rd_all y L).length ≤ 21 * L.length
 | y, [], _ => zn _
 | y, x :: L, h => by
  have h1 := rd_all_len (y + 1) L (fun z hz => h z (List.mem_cons_of_mem _ hz)); have h2 := rd_upto_len y x x.size; have h3 := h x List.mem_cons_self; simp only [rd_all, List.length_append, List.length_cons]
  omega
theorem IsLns.le {s : ByteArray} {L : List ByteArray} (h : IsLns s L) : ∀ x ∈ L, x.size ≤ s.size := by
 induction h with
 | nil _ => intro x hx; cases hx
 | last _ _ => intro x hx; rw [List.mem_singleton] at hx; rw [hx]; exact zn _
 | more h0 h1 h2 ih =>
  intro x hx
  rcases List.mem_cons.1 hx with rfl | hx
  ·rw [ByteArray.size_extract]; omega
  ·have := ih x hx; rw [ByteArray.size_extract] at this
   omega
-- The state of the reading.
structure RSt (w : World) (B2 B3 B4 B5 Bs : Nat) (v : Value) (acc : List S44) (y : Int) (W : World) : Prop where
 b : Below w.heap.size w W
 g2 : w.heap.size ≤ B2
 l : W.heap[B4]? = some (.cells #[v] 26 (0, 0))
 y : W.heap[B5]? = some (.cells #[.int .i64 y] 3 (0, 0))
 q : W.heap[B2]? = some (.cells #[.slice none 0 0] 26 (0, 0))
 o : W.heap[B3]? = some (.cells #[.bool false] 4 (0, 0))
 s : Bs < W.heap.size
 r : Kd.R k44 44 W w.heap.size (fun k => k ≠ Bs) v acc
 n2 : B2 ≠ B4
 nB : Bs ≠ B2 ∧ Bs ≠ B3 ∧ Bs ≠ B4 ∧ Bs ≠ B5
 g3 : w.heap.size ≤ B3 ∧ w.heap.size ≤ B4 ∧ w.heap.size ≤ B5
theorem blk_type_ne {W : World} {b g : Nat} {c1 c2 : Array Value} {t1 t2 : TypeId} {z1 z2 : Nat × Nat} (h1 : W.heap[b]? = some (.cells c1 t1 z1)) (h2 : W.heap[g]? = some (.cells c2 t2 z2)) (h : t1 ≠ t2) : b ≠ g := by
 rintro rfl
 rw [h1] at h2
 injection h2 with h2
 injection h2 with _ h2
 exact h h2
theorem R_ne {W : World} {base : Nat} {ok : Nat → Prop} {v : Value} {acc : List S44} (h : Kd.R k44 44 W base ok v acc) {g : Nat} {cs : Array Value} {t : TypeId} {z : Nat × Nat} (hg : W.heap[g]? = some (.cells cs t z)) (ht : 44 ≠ t) : some g ≠ v.ownBlock := by
 obtain ⟨inner, ho⟩ := Kd.R_own h; intro e; obtain ⟨cells, hc⟩ := own_typed ho g e.symm; rw [hg] at hc
 injection hc with hc
 injection hc with _ hc
 exact ht hc.symm
theorem RSt.below {w W W' : World} {B2 B3 B4 B5 Bs : Nat} {v : Value} {acc : List S44} {y : Int} (h : RSt w B2 B3 B4 B5 Bs v acc y W) (hb : Below W.heap.size W W') : RSt w B2 B3 B4 B5 Bs v acc y W' :=
 ⟨zK h.b hb, h.g2, (hb.block _ (blk_lt h.l)).trans h.l, (hb.block _ (blk_lt h.y)).trans h.y, (hb.block _ (blk_lt h.q)).trans h.q, (hb.block _ (blk_lt h.o)).trans h.o, Nat.lt_of_lt_of_le h.s hb.size, Kd.R_below h.r hb, h.n2, h.nB, h.g3⟩
-- A step that turns one block that is none of ours.
theorem RSt.grown {w W W' : World} {B2 B3 B4 B5 Bs : Nat} {v : Value} {acc : List S44} {y : Int} (h : RSt w B2 B3 B4 B5 Bs v acc y W) {row : Option Nat} (hg : W.grownBy W' row) (hr : ∀ k, row = some k → k = Bs ∨ (w.heap.size ≤ k ∧ ∃ o : Obj, W.heap[k]? = some o ∧ o.isCells = false)) (hBs : w.heap.size ≤ Bs) : RSt w B2 B3 B4 B5 Bs v acc y W' := by
 have e : ∀ {b : Nat} {cs : Array Value} {t : TypeId}, W.heap[b]? = some (.cells cs t (0, 0)) → b ≠ Bs → W'.heap[b]? = some (.cells cs t (0, 0)) := fun {b cs t} hb hne => (hg.block b (blk_lt hb) (fun e => by
  rcases hr b e.symm with h1 | ⟨_, o, ho, hc⟩
  ·exact hne h1
  ·rw [hb] at ho; cases ho; cases hc)).trans hb
 refine ⟨h.b.grown hg (Below.size h.b) (fun k hk => ?_), h.g2, e h.l (Ne.symm h.nB.2.2.1), e h.y (Ne.symm h.nB.2.2.2), e h.q (Ne.symm h.nB.1), e h.o (Ne.symm h.nB.2.1), Nat.lt_of_lt_of_le h.s hg.size, ?_, h.n2, h.nB, h.g3⟩
 ·rcases hr k hk with h1 | h1
  ·omega
  ·exact h1.1
 ·refine zA (Kd.R_grown (Kd.R_bound h.r) hg (fun k hk e => ?_)) (fun k hk => hk.1)
  rcases hr k e.symm with h1 | ⟨_, o, ho, hc⟩
  ·exact hk.1 h1
  ·obtain ⟨_, _, _, q, _, cells, hcc⟩ := hk; rw [hcc] at ho
   cases ho
   cases hc
-- A mark more: the row has been written, then the variable.
theorem RSt.pushed {w W W1 : World} {B2 B3 B4 B5 Bs : Nat} {v v1 : Value} {acc acc1 : List S44} {y : Int} (h : RSt w B2 B3 B4 B5 Bs v acc y W) (hr : Kd.R k44 44 W1 w.heap.size (fun k => k ≠ Bs) v1 acc1) (hb : Below w.heap.size w W1) (hg : W.grownBy W1 v.ownBlock) :
  W1.frozen? ⟨B4, 0, none⟩ = false ∧ W1.cell? ⟨B4, 0, none⟩ = some v ∧ RSt w B2 B3 B4 B5 Bs v1 acc1 y (W1.setCell ⟨B4, 0, none⟩ v1) ∧ KeepsOthers W (W1.setCell ⟨B4, 0, none⟩ v1) ∧ (W1.setCell ⟨B4, 0, none⟩ v1).heap[Bs]? = W.heap[Bs]? := by
 have e : ∀ {b : Nat} {cs : Array Value} {t : TypeId}, W.heap[b]? = some (.cells cs t (0, 0)) → 44 ≠ t → W1.heap[b]? = some (.cells cs t (0, 0)) := fun {b cs t} hb' ht => (hg.block b (blk_lt hb') (fun e => R_ne h.r hb' ht e)).trans hb'; have l1 := e h.l (by decide); have y1 := e h.y (by decide); have q1 := e h.q (by decide); have o1 := e h.o (by decide); have n1 : B5 ≠ B4 := blk_type_ne y1 l1 (by decide); have n3 : B3 ≠ B4 := blk_type_ne o1 l1 (by decide); have hs : Bs < W1.heap.size := Nat.lt_of_lt_of_le h.s hg.size; have hbs : W1.heap[Bs]? = W.heap[Bs]? := hg.block Bs h.s (fun e => h.r.1 Bs e.symm rfl)
 refine ⟨ze l1 0, (blk_cell l1 0).trans rfl, ⟨zO hb h.g3.2.1, h.g2, (blk_set l1 0 v1).trans rfl, zj y1 n1 _, zj q1 h.n2 _, zj o1 n3 _, by simpa [World.setCell] using hs, ?_, h.n2, h.nB, h.g3⟩, ?_, ?_⟩
 ·refine zA (zB (Kd.R_types hr l1 (by decide)) (fun k hk => hk.2) _) (fun k hk => hk.1)
 ·have h1 : KeepsOthers W W1 := ⟨hg.size, fun k o hk ho => (hg.block k (blk_lt hk) (fun e => by
   obtain ⟨inner, hw⟩ := Kd.R_own h.r; obtain ⟨cells, hc⟩ := own_typed hw k e.symm; rw [hc] at hk
   cases hk
   cases ho)).trans hk⟩
  exact h1.trans (KeepsOthers.setCell _ _ _)
 ·exact (Below.heap_setCell _ _ _ _ h.nB.2.2.1).trans hbs
-- The row has been written anew.
theorem RSt.sorted {w W W1 : World} {B2 B3 B4 B5 Bs : Nat} {v : Value} {acc acc1 : List S44} {y : Int} (h : RSt w B2 B3 B4 B5 Bs v acc y W) (hr : Kd.R k44 44 W1 w.heap.size (fun k => k ≠ Bs) v acc1) (hg : W.grownBy W1 v.ownBlock) :
  RSt w B2 B3 B4 B5 Bs v acc1 y W1 ∧ ∀ (k : Nat) (o : Obj), W.heap[k]? = some o → o.isCells = false → W1.heap[k]? = some o := by
 have e : ∀ {b : Nat} {cs : Array Value} {t : TypeId}, W.heap[b]? = some (.cells cs t (0, 0)) → 44 ≠ t → W1.heap[b]? = some (.cells cs t (0, 0)) := fun {b cs t} hb' ht => (hg.block b (blk_lt hb') (fun e => R_ne h.r hb' ht e)).trans hb'
 refine ⟨⟨h.b.grown hg h.b.size (fun k hk => ?_), h.g2, e h.l (by decide), e h.y (by decide), e h.q (by decide), e h.o (by decide), Nat.lt_of_lt_of_le h.s hg.size, hr, h.n2, h.nB, h.g3⟩, fun k o hk ho => (hg.block k (blk_lt hk) (fun e => ?_)).trans hk⟩
 ·obtain ⟨inner, hw⟩ := Kd.R_own h.r
  exact own_base hw k hk
 ·obtain ⟨inner, hw⟩ := Kd.R_own h.r; obtain ⟨cells, hc⟩ := own_typed hw k e.symm; rw [hc] at hk
  cases hk
  cases ho
-- One line more.
theorem RSt.counted {w W : World} {B2 B3 B4 B5 Bs : Nat} {v : Value} {acc : List S44} {y : Int} (h : RSt w B2 B3 B4 B5 Bs v acc y W) (y1 : Int) :
  RSt w B2 B3 B4 B5 Bs v acc y1 (W.setCell ⟨B5, 0, none⟩ (.int .i64 y1)) ∧ (W.setCell ⟨B5, 0, none⟩ (.int .i64 y1)).heap[Bs]? = W.heap[Bs]? :=
 ⟨⟨zO h.b h.g3.2.2, h.g2, zj h.l (Ne.symm (blk_type_ne h.y h.l (by decide))) _, (blk_set h.y 0 _).trans rfl, zj h.q (Ne.symm (blk_type_ne h.y h.q (by decide))) _, zj h.o (Ne.symm (blk_type_ne h.y h.o (by decide))) _, by simpa [World.setCell] using h.s,
  zA (zB (Kd.R_types h.r h.y (by decide)) (fun k hk => hk.2) _) (fun k hk => hk.1), h.n2, h.nB, h.g3⟩, Below.heap_setCell _ _ _ _ h.nB.2.2.2⟩
-- The two results are written; then the deferred calls' block is turned.
theorem RSt.ends {w W : World} {B2 B3 B4 B5 Bs : Nat} {v : Value} {acc : List S44} {y : Int} (h : RSt w B2 B3 B4 B5 Bs v acc y W) (u : Value) (b : Bool) {D : Nat} {l : Option (List Deferred)} (hD : W.heap[D]? = some (.deferred l)) (hge : w.heap.size ≤ D) :
  W.cell? ⟨B2, 0, none⟩ = some (.slice none 0 0) ∧ W.frozen? ⟨B2, 0, none⟩ = false ∧ (W.setCell ⟨B2, 0, none⟩ u).cell? ⟨B3, 0, none⟩ = some (.bool false) ∧ (W.setCell ⟨B2, 0, none⟩ u).frozen? ⟨B3, 0, none⟩ = false ∧
  ((W.setCell ⟨B2, 0, none⟩ u).setCell ⟨B3, 0, none⟩ (.bool b)).heap[D]? = some (.deferred l) ∧ ∀ o : Obj,
   (((W.setCell ⟨B2, 0, none⟩ u).setCell ⟨B3, 0, none⟩ (.bool b)).putObj D o).heap[B2]? = some (.cells #[u] 26 (0, 0)) ∧ (((W.setCell ⟨B2, 0, none⟩ u).setCell ⟨B3, 0, none⟩ (.bool b)).putObj D o).heap[B3]? = some (.cells #[.bool b] 4 (0, 0)) ∧
   Below w.heap.size w (((W.setCell ⟨B2, 0, none⟩ u).setCell ⟨B3, 0, none⟩ (.bool b)).putObj D o) ∧ Kd.R k44 44 (((W.setCell ⟨B2, 0, none⟩ u).setCell ⟨B3, 0, none⟩ (.bool b)).putObj D o) w.heap.size (fun _ => True) v acc := by
 have d2 : D ≠ B2 := fun e => by rw [e, h.q] at hD; cases hD
 have d3 : D ≠ B3 := fun e => by rw [e, h.o] at hD; cases hD
 have n32 : B3 ≠ B2 := blk_type_ne h.o h.q (by decide); have q1 : (W.setCell ⟨B2, 0, none⟩ u).heap[B2]? = some (.cells #[u] 26 (0, 0)) := (blk_set h.q 0 u).trans rfl; have o1 : (W.setCell ⟨B2, 0, none⟩ u).heap[B3]? = some (.cells #[.bool false] 4 (0, 0)) := zj h.o n32 u; have q2 := zj q1 (p := ⟨B3, 0, none⟩) (Ne.symm n32) (.bool b); have o2 : ((W.setCell ⟨B2, 0, none⟩ u).setCell ⟨B3, 0, none⟩ (.bool b)).heap[B3]? = some (.cells #[.bool b] 4 (0, 0)) := (blk_set o1 0 _).trans rfl; have hd1 : ((W.setCell ⟨B2, 0, none⟩ u).setCell ⟨B3, 0, none⟩ (.bool b)).heap[D]? = some (.deferred l) := (Below.heap_setCell _ _ _ _ d3).trans ((Below.heap_setCell _ _ _ _ d2).trans hD); have hb2 : Below w.heap.size w ((W.setCell ⟨B2, 0, none⟩ u).setCell ⟨B3, 0, none⟩ (.bool b)) := zO (zO h.b h.g2) h.g3.1; have r1 : Kd.R k44 44 (W.setCell ⟨B2, 0, none⟩ u) w.heap.size (fun _ => True) v acc := zA (zB (Kd.R_types h.r h.q (by decide)) (fun k hk => hk.2) _) (fun k _ => trivial); have r2 : Kd.R k44 44 ((W.setCell ⟨B2, 0, none⟩ u).setCell ⟨B3, 0, none⟩ (.bool b)) w.heap.size (fun _ => True) v acc := zA (zB (Kd.R_types r1 o1 (by decide)) (fun k hk => hk.2) _) (fun k _ => trivial)
 refine ⟨(blk_cell h.q 0).trans rfl, ze h.q 0, (blk_cell o1 0).trans rfl, ze o1 0, hd1, fun o => ⟨(World.putObj_heap_other (Ne.symm d2)).trans q2, (World.putObj_heap_other (Ne.symm d3)).trans o2, hb2.grown (grownBy_putObj' _ D _) hb2.size (fun k hk => by cases hk; exact hge), ?_⟩⟩
 refine zA (Kd.R_grown (Kd.R_bound r2) (grownBy_putObj' _ D o) (fun k hk e => ?_)) (fun k _ => trivial)
 injection e with e
 obtain ⟨_, _, _, q, _, cells, hcc⟩ := hk; rw [e, hd1] at hcc
 cases hcc
theorem results_read {tmps : Array Value} {w : World} {B2 B3 : Nat} {v b : Value} (h2 : tmps.getD 2 undef = .pointer (some ⟨B2, 0, none⟩)) (h3 : tmps.getD 3 undef = .pointer (some ⟨B3, 0, none⟩))
  (g2 : w.heap[B2]? = some (.cells #[v] 26 (0, 0))) (g3 : w.heap[B3]? = some (.cells #[b] 4 (0, 0))) : (results Try.f32 tmps).run Try.prog w = .ok (.tuple #[v, b]) w := by
 have h2' : tmps[2]?.getD undef = .pointer (some ⟨B2, 0, none⟩) := by simpa using h2
 have h3' : tmps[3]?.getD undef = .pointer (some ⟨B3, 0, none⟩) := by simpa using h3
 have c2 : w.cell? ⟨B2, 0, none⟩ = some v := (blk_cell g2 0).trans rfl; have c3 : w.cell? ⟨B3, 0, none⟩ = some b := (blk_cell g3 0).trans rfl
 simp [results, h2', h3', asAddr, loadVar, go_sem, Try.isAgg26, Try.isAgg4, c2, c3]
instance instS44 : Inhabited S44 := ⟨z44⟩
def encM (m : S44) : List Value := [.string m.f0, .int .i64 m.f1, .int .i64 m.f2]
def cmpM (a b : S44) : Int := Lib.compareBytes a.f0.data.toList b.f0.data.toList
theorem cb_lt : ∀ {a b : List UInt8}, Lib.compareBytes a b < 0 ↔ a < b := by
 intro a
 induction a with
 | nil => intro b; cases b <;> simp [Lib.compareBytes]
 | cons x a ih =>
  intro b
  cases b with
  | nil => simp [Lib.compareBytes]
  | cons y b =>
   rw [List.cons_lt_cons_iff]
   unfold Lib.compareBytes
   by_cases h1 : x < y
   ·simp [h1]
   ·by_cases h2 : y < x
    ·have : x ≠ y := by rintro rfl; exact h1 h2
     simp [h1, h2, this]
    ·have : x = y := UInt8.le_antisymm (UInt8.not_lt.1 h2) (UInt8.not_lt.1 h1)
     simp [this, ih]
theorem ltM (x y : S44) : ltOf cmpM x y = decide (x.f0.data.toList < y.f0.data.toList) := by
 unfold ltOf cmpM
 exact decide_eq_decide.2 cb_lt
theorem swoM : Sort.SWO (ltOf cmpM) where
 irrefl x := by rw [ltM]; simp
 trans x y z h1 h2 := by rw [ltM] at *; simp only [decide_eq_true_eq] at *; exact List.lt_trans h1 h2
 ntrans x y z h1 h2 := by
  rw [ltM] at *; simp only [decide_eq_false_iff_not, List.not_lt] at *
  exact List.le_trans h2 h1
def rd_sort (l : List S44) : List S44 := (Sort.pdq (ltOf cmpM) l.toArray 0 l.toArray.size (Lib.bitLen l.toArray.size) true true).toList
theorem rd_sort_spec (l : List S44) : (rd_sort l).Perm l ∧ (rd_sort l).Pairwise (fun a b => ¬ (b.f0.data.toList < a.f0.data.toList)) := by
 have h := Sort.pdq_sorts (ltOf cmpM) swoM l.toArray 0 l.toArray.size (Lib.bitLen l.toArray.size) true true (Nat.zero_le _) (zn _) (zM rfl); obtain ⟨⟨h1, h2, h3⟩, h4⟩ := h
 unfold rd_sort
 generalize Sort.pdq (ltOf cmpM) l.toArray 0 l.toArray.size (Lib.bitLen l.toArray.size) true true = D at *
 refine ⟨?_, ?_⟩
 ·have e1 : D.extract 0 l.toArray.size = D := by rw [← h1]; exact Array.extract_size
  have e2 : l.toArray.extract 0 l.toArray.size = l.toArray := Array.extract_size; rw [e1, e2] at h3
  simpa using h3
 ·rw [List.pairwise_iff_getElem]; intro i j hi hj hij; have := h4 i j (Nat.zero_le _) hij (by rw [← h1]; simpa using hj); rw [ltM] at this; rw [getElem!_pos D j (by simpa using hj), getElem!_pos D i (by simpa using hi)] at this
  simpa using this
set_option maxHeartbeats 1000000 in
theorem closure71 (x y : S44) (W : World) : Calls Try.prog 71 #[.agg (encM x).toArray, .agg (encM y).toArray] W fun e w' => e = .returned (.int .i64 (cmpM x y)) ∧ ∃ q os', w' = Sort.grow (W.drewN q) os' := by
 have hcon := fun W' => Try.strings_Compare x.f0 y.f0 W'
 unfold encM
 have hc : cmpM x y = Lib.compareBytes x.f0.data.toList y.f0.data.toList := rfl; rw [← hc] at hcon; clear hc
 generalize cmpM x y = r at hcon ⊢
 go_enter Try.func71, Try.ntmps71
 go_wp2_with (go_at_call 72; refine (hcon _).mono ?_; rintro e w' ⟨rfl, rfl⟩)
 go_ret
 exact ⟨rfl, 0, _, by rw [Sort.alloc_eq_grow, Sort.alloc_eq_grow, Sort.grow_grow]; rfl⟩
theorem flat_reps (w : World) (base : Nat) (ok : Nat → Prop) (d : Array S44) : Reps (fun p cs => k44.M w base ok p cs) 3 d.toList (Sort.flatK encM 3 d).toList := by
 refine ⟨by simp, fun j p hj => ?_⟩
 obtain ⟨hl, hp⟩ := List.getElem?_eq_some_iff.1 hj
 have hl' : j < d.size := by simpa using hl
 have e : ((Sort.flatK encM 3 d).toList.drop (j * 3)).take 3 = encM p := by
  refine List.ext_getElem? (fun i => ?_)
  by_cases hi : i < 3
  ·rw [List.getElem?_take_of_lt hi, List.getElem?_drop, Array.getElem?_toList]
   have hlt : j * 3 + i < (Sort.flatK encM 3 d).size := by rw [Sort.size_flatK]; omega
   have hg := Sort.get_flatK encM 3 d (j * 3 + i) (by omega); rw [getElem!_pos (Sort.flatK encM 3 d) (j * 3 + i) hlt, show (j * 3 + i) / 3 = j by omega, show (j * 3 + i) % 3 = i by omega, getElem!_pos d j hl'] at hg; rw [Array.getElem?_eq_getElem hlt, hg]
   have hp' : d[j] = p := by rw [← hp]; simp
   rw [hp']
   have : i = 0 ∨ i = 1 ∨ i = 2 := by omega
   rcases this with rfl | rfl | rfl <;> rfl
  ·rw [List.getElem?_take_eq_none (by omega), List.getElem?_eq_none (by simp [encM]; omega)]
 rw [e]
 exact k44_mkM w base ok p
theorem heap_sortedM {w : World} {g n : Nat} {os : Array Obj} {cur : Array Value} {e : TypeId} {fr : Nat × Nat} (d : Array S44) (hb : w.heap[g]? = some (.cells cur e fr)) :
  (sortWorldK encM 3 w g 0 n d os).heap[g]? = some (.cells (Sort.putCells id 0 (Sort.flatK encM 3 d) cur) e fr) := by
 have hg : g < w.heap.size := (Array.getElem?_eq_some_iff.1 hb).1
 unfold sortWorldK Sort.putRowK
 rw [Sort.heap_grow_old _ _ (by simpa using hg)]
 simp [Sort.putRow, Sort.mapBlock, Sort.ahead, Array.getElem?_modify, hb, Sort.onCells]
theorem grownBy_sortedM {w : World} {g n : Nat} {os : Array Obj} (d : Array S44) : w.grownBy (sortWorldK encM 3 w g 0 n d os) (some g) := by
 unfold sortWorldK Sort.putRowK
 refine ⟨rfl, rfl, rfl, by simp, fun k hk hne => ?_⟩
 rw [Sort.heap_grow_old _ _ (by simpa using hk)]; have : g ≠ k := fun e => hne (by rw [e])
 simp [Sort.putRow, Sort.mapBlock, Sort.ahead, Array.getElem?_modify, this]
theorem take_putCellsM (cur F : Array Value) (h : F.size ≤ cur.size) : (Sort.putCells id 0 F cur).toList.take F.size = F.toList := by
 apply List.ext_getElem?
 intro j
 by_cases hj : j < F.size
 ·rw [List.getElem?_take_of_lt hj, Array.getElem?_toList]
  simp [Sort.putCells, hj, show j < cur.size by omega]
 ·rw [List.getElem?_take_eq_none (by omega), List.getElem?_eq_none (by simp; omega)]
theorem sort_none (p : Option Addr) (cap : Nat) (fv : Value) (w : World) : Calls Try.prog 70 #[.slice p 0 cap, fv] w fun e w' => e = .returned (.tuple #[]) ∧ w' = w := by
 exact AnyF.slices_SortFunc_none Try.sortPM p cap fv w
set_option maxHeartbeats 1000000 in
theorem sort_calls {W : World} {base : Nat} {ok : Nat → Prop} {v : Value} {acc : List S44} (HO : Kd.R k44 44 W base ok v acc) (hlen : acc.length ≤ 1000000) :
  Calls Try.prog 70 #[v, .func (.func 71) #[] #[]] W fun e w' => e = .returned (.tuple #[]) ∧ Kd.R k44 44 w' base ok v (rd_sort acc) ∧ W.grownBy w' v.ownBlock := by
 by_cases h0 : acc = []
 ·subst h0; obtain ⟨A, c, e1⟩ := zz HO; subst e1
  refine (sort_none A c (.func (.func 71) #[] #[]) W).mono ?_
  rintro e w' ⟨rfl, rfl⟩
  refine ⟨rfl, ?_, ⟨rfl, rfl, rfl, zn _, fun _ _ _ => rfl⟩⟩
  have : rd_sort [] = [] := by
   have h := (rd_sort_spec []).1
   exact List.Perm.eq_nil h
  rw [this]
  exact HO
 ·have hpos : 0 < acc.length := List.length_pos_iff.2 h0
  have hH : ∀ g c, v = .slice (some ⟨g, 0, none⟩) acc.length c → Sort.HoldsK encM 3 W g 0 acc.toArray := by
   intro g c ev t ht; subst ev; rw [Sort.size_flatK] at ht
   have ht' : t < acc.length * 3 := by simpa using ht
   have q1 : (0 : Int) ≤ ((t / 3 : Nat) : Int) := Int.natCast_nonneg _
   have q2 : ((t / 3 : Nat) : Int) < (acc.length : Int) := by omega
   obtain ⟨ce, hcl, hM, hcc, hfr⟩ := Kd.R_elem HO z44 ((t / 3 : Nat) : Int) q1 q2; obtain rfl := k44_openM hM; rw [Sort.get_flatK encM 3 acc.toArray t (by simpa using ht)]
   have e1 : acc.toArray[t / 3]! = acc.getD (t / 3) z44 := by
    rw [getElem!_pos acc.toArray (t / 3) (by simp; omega)]
    simp [List.getElem?_eq_getElem (show t / 3 < acc.length by omega)]
   have hnt : ((t / 3 : Nat) : Int).toNat = t / 3 := Int.toNat_natCast _; rw [hnt] at hcc hfr; have hsz : k44.sz = 3 := rfl; rw [hsz] at hcc hfr; have hmod : t % 3 < 3 := Nat.mod_lt _ (by omega)
   have h1 := hcc (t % 3) ((encM (acc.getD (t / 3) z44))[t % 3]!) (by
    have : t % 3 = 0 ∨ t % 3 = 1 ∨ t % 3 = 2 := by omega
    rcases this with h | h | h <;> rw [h] <;> rfl)
   have h2 := hfr (t % 3); rw [show t / 3 * 3 + t % 3 = t by omega] at h1 h2; rw [e1, Nat.zero_add]
   exact ⟨h1, h2⟩
  obtain ⟨hok, inner, hown, hr⟩ := HO; have hown' := hown; obtain ⟨hil, h1⟩ := hown
  rcases h1 with ⟨_, h1⟩ | ⟨g, cap, cur, ev, hb, hg, hc1, hc2, hc3, hc4⟩
  ·omega
  have hlen' : acc.toArray.size = acc.length := by simp
  subst ev; have hHH := hH g cap rfl; have eg : ∀ args w, (callFunc 71 args).run Try.prog w = .ok (.enter 71 args) w := enters_of Try.func71 (qR8) rfl
  have hcon := AnyQ.slices_SortFunc_eq Try.sortPM 3 Try.isAgg44 Try.sizeOf44 encM (fun _ => rfl) (fun x v hv => by simp [encM] at hv; rcases hv with rfl | rfl | rfl <;> rfl) cmpM swoM 71 #[] g 0 cap acc.toArray W eg (fun _ _ _ _ x y => closure71 x y _) hHH (blk_lt hg) (by rw [hlen']; omega)
  rw [hlen'] at hcon
  refine hcon.mono ?_
  rintro e w' ⟨rfl, n, os, rfl⟩
  have hperm := (rd_sort_spec acc).1; have hls : (rd_sort acc).length = acc.length := hperm.length_eq
  have hds : (Sort.pdq (ltOf cmpM) acc.toArray 0 acc.length (Lib.bitLen acc.length) true true).toList = rd_sort acc := by unfold rd_sort; rw [hlen']
  generalize Sort.pdq (ltOf cmpM) acc.toArray 0 acc.length (Lib.bitLen acc.length) true true = D at hds
  have hDs : D.size = acc.length := by rw [← hls, ← hds]; simp
  refine ⟨rfl, ⟨hok, (Sort.flatK encM 3 D).toList, ⟨by rw [Array.length_toList, Sort.size_flatK, hDs, hls]; rfl, .inr ⟨g, cap, _, by rw [hls], hb, heap_sortedM D hg, by omega, hc2, by simp [Sort.putCells, hc3], ?_⟩⟩, ?_⟩, grownBy_sortedM D⟩
  ·have h := take_putCellsM cur (Sort.flatK encM 3 D) (by rw [Sort.size_flatK, hDs, hc3]; exact Nat.mul_le_mul_right _ hc1); rw [Sort.size_flatK] at h; rw [hls, ← hDs]
   exact h
  ·rw [← hds]
   exact flat_reps _ _ _ D
def rd_big (L : List ByteArray) : Bool := decide (20 < L.length) || L.any (fun x => decide (21 < x.size))
theorem new_at (w : World) (o : Obj) {n : Nat} (h : n = w.heap.size) : (w.alloc o).heap[n]? = some o := by
 subst h
 exact World.alloc_heap_new w o
set_option maxHeartbeats 4000000 in
theorem impl_ReadPlan.reads (s : ByteArray) (L : List ByteArray) (k : Nat) (r1 : List S44) (r2 : Bool) (w : World) (hL : IsLns s L) (hs : s.size ≤ 1000000000) (hR1 : rd_big L = true → r1 = [] ∧ r2 = false)
  (hR2 : rd_big L = false → ∃ tx ok, impl_PlanText.f k (rd_sort (rd_all 0 L)) 1 = some (tx, ok) ∧ r2 = (ok && (tx.toList == s.toList)) ∧ (r2 = true → r1 = rd_sort (rd_all 0 L)) ∧ (r2 = false → r1 = [])) :
  Calls Try.prog 32 #[.string s] w fun e w' => ∃ v0_ : Value, e = .returned (.tuple #[v0_, .bool r2]) ∧ Kd.R k44 44 w' w.heap.size (fun _ => True) v0_ r1 ∧ Below w.heap.size w w' := by
 have HR1 := za hR1; have HR2 := za hR2; clear hR1 hR2
 refine (callsIn_wide (n := 5)).1 ?_
 refine callsIn_of_wp_marks Try.func32 rfl trivial ?_ rfl
 simp only [Try.ntmps32, List.size_toArray, List.length_cons, List.length_nil, Nat.reduceAdd, Nat.reduceSub, Array.replicate_succ, Array.replicate_zero, List.push_toArray, List.append_toArray, List.nil_append, List.cons_append]
 refine wpIn_wide.2 ?_
 have hmk : ∀ W : World, Calls Try.prog 69 #[.string s] W fun e w' => e = .returned (.func (.func 84) #[] #[.pointer (some ⟨W.heap.size, 0, none⟩)]) ∧ w' = W.alloc (.cells #[.string s] 9) := fun W => (callsIn_wide (n := 4)).1 (ln69.maker_in Fence.wide 4 trivial rfl s W)
 go_wp2_with (first | (go_at_call 69; refine (hmk _).mono ?_; rintro e w' ⟨rfl, rfl⟩))
 obtain ⟨B2, hB2⟩ : ∃ B, w.heap.size = B := ⟨_, rfl⟩
 have hS0 : RSt w w.heap.size (w.heap.size + 1) (w.heap.size + 1 + 1) (w.heap.size + 1 + 1 + 1) (w.heap.size + 1 + 1 + 1 + 1) (.slice none 0 0) [] 0 (((((w.alloc (Obj.cells #[Value.slice none 0 0] 26)).alloc (Obj.cells #[Value.bool false] 4)).alloc (Obj.cells #[Value.slice none 0 0] 26)).alloc (Obj.cells #[Value.int IntKind.i64 0] 3)).alloc (Obj.cells #[Value.string s] 9)) := by
  refine ⟨zN (zN (zN (zN (zN (zq _ _) _) _) _) _) _, zn _, ?_, ?_, ?_, ?_, by simp, Kd.R_nil _ _ _ _ _, by omega, by omega, by omega⟩
  ·exact zf (zf (new_at _ _ (by simp)) _) _
  ·exact zf (new_at _ _ (by simp)) _
  ·exact zf (zf (zf (zf (new_at _ _ (by simp)) _) _) _) _
  ·exact zf (zf (zf (new_at _ _ (by simp)) _) _) _
 have hb9 : (((((w.alloc (Obj.cells #[Value.slice none 0 0] 26)).alloc (Obj.cells #[Value.bool false] 4)).alloc (Obj.cells #[Value.slice none 0 0] 26)).alloc (Obj.cells #[Value.int IntKind.i64 0] 3)).alloc (Obj.cells #[Value.string s] 9)).heap[w.heap.size + 1 + 1 + 1 + 1]? = some (.cells #[.string s] 9 (0, 0)) := by
  have h := World.alloc_heap_new (((((w.alloc (Obj.cells #[Value.slice none 0 0] 26)).alloc (Obj.cells #[Value.bool false] 4)).alloc (Obj.cells #[Value.slice none 0 0] 26)).alloc (Obj.cells #[Value.int IntKind.i64 0] 3))) (Obj.cells #[Value.string s] 9)
  simpa using h
 have hBs0 : w.heap.size ≤ w.heap.size + 1 + 1 + 1 + 1 := by omega
 revert hS0 hb9 hBs0
 generalize (((((w.alloc (Obj.cells #[Value.slice none 0 0] 26)).alloc (Obj.cells #[Value.bool false] 4)).alloc (Obj.cells #[Value.slice none 0 0] 26)).alloc (Obj.cells #[Value.int IntKind.i64 0] 3)).alloc (Obj.cells #[Value.string s] 9)) = W0
 generalize w.heap.size + 1 + 1 + 1 + 1 = Bs
 generalize w.heap.size + 1 + 1 + 1 = B5
 generalize w.heap.size + 1 + 1 = B4
 generalize w.heap.size + 1 = B3
 rw [hB2]; intro hS0 hb9 hBs0; have HW := za (And.intro hB2 hS0.b.size); have HS0 := za hS0; have HB9 := za hb9; clear hS0 hb9 hB2 hmk
 refine (wpIn_wide (n := 5)).1 ?_
 refine ln_range (Bs := Bs) (s0 := s) (L0 := L) rfl rfl hL (by omega) HB9.1
  (fun pre W => pre.length ≤ 20 ∧ (∀ x ∈ pre, x.size ≤ 21) ∧ ∃ v, RSt w B2 B3 B4 B5 Bs v (rd_all 0 pre) pre.length W)
  (fun W => rd_big L = true ∧ Below w.heap.size w W ∧ W.heap[B2]? = some (.cells #[.slice none 0 0] 26 (0, 0)) ∧ W.heap[B3]? = some (.cells #[.bool false] 4 (0, 0)))
  ?hI ?hIx ⟨Nat.zero_le _, (fun x h => zF h List.not_mem_nil), _, HS0.1⟩
  (fun x => { tmps := #[.string s, undef, .pointer (some ⟨B2, 0, none⟩), .pointer (some ⟨B3, 0, none⟩), .pointer (some ⟨B4, 0, none⟩), .pointer (some ⟨B5, 0, none⟩), .string x, undef, undef, undef, undef, .string s, .func (.func 84) #[] #[.pointer (some ⟨Bs, 0, none⟩)], .string x, undef, undef, undef, undef, undef, undef, undef, undef, undef, undef, undef, undef, undef, undef, undef, undef, undef, undef, undef, undef, undef, undef, undef, undef, undef, undef, undef, undef, undef, undef, undef, undef, undef, undef, undef, undef, undef, undef, undef, undef, undef, undef, undef, undef, undef, undef, undef, undef], defers := [] })
  ?assign ?body ?done ?stop
 case hI =>
  rintro pre W W' row ⟨h1, h2, v, h3⟩ hg hr
  refine ⟨h1, h2, v, h3.grown hg (fun k hk => ?_) (by have := HW.1.1; omega)⟩
  rcases hr k hk with h | ⟨h, ho⟩
  ·exact .inl h
  ·exact .inr ⟨Nat.le_trans HS0.1.b.size h, ho⟩
 case hIx =>
  rintro W W' row ⟨h1, h2, h3, h4⟩ hg hr
  have e : ∀ {b : Nat} {cs : Array Value} {t : TypeId}, W.heap[b]? = some (.cells cs t (0, 0)) → W'.heap[b]? = some (.cells cs t (0, 0)) := fun {b cs t} hb => (hg.block b (blk_lt hb) (fun e => by
   obtain ⟨_, o, ho, hc⟩ := hr b e.symm; rw [hb] at ho
   cases ho
   cases hc)).trans hb
  exact ⟨h1, h2.grown hg h2.size (fun k hk => Nat.le_trans HS0.1.b.size (hr k hk).1), e h3, e h4⟩
 case assign =>
  intro l x W K hK
  gi_wp2
  exact hK
 case body =>
  rintro l pre x L1 W eL hl ⟨hp1, hp2, v, hS⟩
  have hxs : x.size ≤ 1000000000 := Nat.le_trans (hL.le x (by rw [eL]; simp)) hs
  gi_wp2
  gi_loopw [16] (fun v16 wr => ∃ i : Nat, v16 = .int .i64 (i : Int) ∧ i ≤ x.size ∧ ∃ v, RSt w B2 B3 B4 B5 Bs v (rd_all 0 pre ++ rd_upto pre.length x i) pre.length wr ∧ KeepsOthers W wr ∧ wr.heap[Bs]? = W.heap[Bs]?)
   (fun v16 _ => ((x.size : Int) - intOf v16).toNat)
  case atStart => exact ⟨0, rfl, Nat.zero_le _, v, by rw [show rd_upto pre.length x 0 = [] from rfl, List.append_nil]; exact hS, KeepsOthers.refl _, rfl⟩
  case round =>
   clear hS v; obtain ⟨i, rfl, hi, v, hS, hKO, hBsE⟩ := hrel
   by_cases hlt : i < x.size
   ·have d0 : decide ((i : Int) < (x.size : Int)) = true := zc (by omega); have d1 : decide (i < x.size) = true := zc hlt
    have h4 : ∀ h : i < x.size, ((x[i]'h).toNat : Int) = bt x (i : Int) := fun h => by simpa using bt_at x (i : Int) (by simpa using h)
    have hBi : 0 ≤ bt x (i : Int) ∧ bt x (i : Int) ≤ 255 := bt_range x (i : Int)
    have w1 : wrap64 ((i : Int) + 1) = ((i + 1 : Nat) : Int) := by have := hxs; unfold wrap64; omega
    have q1 : (0 : Int) ≤ (i : Int) := Int.natCast_nonneg _
    have q2 : (i : Int) < (x.size : Int) := by omega
    have hup : rd_upto pre.length x (i + 1) = rd_upto pre.length x i ++ (if 65 ≤ bt x (i : Int) ∧ bt x (i : Int) ≤ 90 then [⟨Utf8.encode (bt x (i : Int)), i, -(pre.length : Int)⟩] else []) := rfl; obtain ⟨c, hc⟩ : ∃ c, bt x (i : Int) = c := ⟨_, rfl⟩; rw [hc] at h4 hBi hup; have HS := za hS; have HKO := za hKO; have HBE := za hBsE; have cl : wr.cell? ⟨B4, 0, none⟩ = some v := (blk_cell hS.l 0).trans rfl; have cy : wr.cell? ⟨B5, 0, none⟩ = some (.int .i64 (pre.length : Int)) := (blk_cell hS.y 0).trans rfl; have fl : wr.frozen? ⟨B4, 0, none⟩ = false := ze hS.l 0; clear hS hKO hBsE hc
    by_cases hL1 : 65 ≤ c
    ·have e1 : decide (65 ≤ c) = true := zc hL1
     by_cases hL2 : c ≤ 90
     ·have e2 : decide (c ≤ 90) = true := zc hL2; rw [zP ⟨hL1, hL2⟩] at hup
      have HL : Aside0 (((rd_all 0 pre ++ rd_upto pre.length x i).length + 1) * 32 ≤ 140737488355328) := ⟨by
       have h1 := rd_all_len 0 pre hp2; have h2 := rd_upto_len pre.length x i; rw [List.length_append]
       omega⟩
      have HF : Aside0 (∀ k, wr.heap.size ≤ k → k ≠ Bs) := ⟨fun k hk => by have := HS.1.s; omega⟩
      gi_wp2_with (gi_at_builtin; refine R44_append_in (w0 := w) (W := wr) w.heap.size rfl (.tmp 28) (.tmp 35) rfl v (rd_all 0 pre ++ rd_upto pre.length x i) ⟨Utf8.encode c, i, -(pre.length : Int)⟩ (fun k => k ≠ Bs) ?aV ?aX HF.1 HS.1.r HS.1.b HS.1.b.size HL.1 ?_; (case aV => rfl); (case aX => rfl); intro v1 w1 ho hb hg; obtain ⟨A1, n1, c1, e1⟩ : ∃ A n c, v1 = .slice A n c := (by obtain ⟨A1, c1, e1⟩ := zz ho; exact ⟨_, _, _, e1⟩); subst e1; have hP := HS.1.pushed ho hb hg; have hfz := hP.1; have hcl := hP.2.1; have HP := za hP.2.2; clear hP)
      go_roundw
      case rel => exact ⟨i + 1, by rw [Int.natCast_add]; rfl, hlt, _, by rw [hup, ← List.append_assoc]; exact HP.1.1, HKO.1.trans HP.1.2.1, HP.1.2.2.trans HBE.1⟩
      case measure => simp [intOf]; omega
     ·have e2 : decide (c ≤ 90) = false := zs hL2; rw [zQ (fun h => hL2 h.2), List.append_nil] at hup
      gi_wp2
      go_roundw
      case rel => exact ⟨i + 1, by rw [Int.natCast_add]; rfl, hlt, _, by rw [hup]; exact HS.1, HKO.1, HBE.1⟩
      case measure => simp [intOf]; omega
    ·have e1 : decide (65 ≤ c) = false := zs hL1; rw [zQ (fun h => hL1 h.1), List.append_nil] at hup
     gi_wp2
     go_roundw
     case rel => exact ⟨i + 1, by rw [Int.natCast_add]; rfl, hlt, _, by rw [hup]; exact HS.1, HKO.1, HBE.1⟩
     case measure => simp [intOf]; omega
   ·have hi' : i = x.size := by omega
    subst hi'; have d0 : decide ((x.size : Int) < (x.size : Int)) = false := zs (by omega); have d1 : decide (x.size < x.size) = false := zs (by omega); have HS := za hS; have HKO := za hKO; have HBE := za hBsE; have cy : wr.cell? ⟨B5, 0, none⟩ = some (.int .i64 (pre.length : Int)) := (blk_cell hS.y 0).trans rfl; have fy : wr.frozen? ⟨B5, 0, none⟩ = false := ze hS.y 0; have hC := hS.counted ((pre.length : Int) + 1)
    have w1 : wrap64 ((pre.length : Int) + 1) = (pre.length : Int) + 1 := by unfold wrap64; omega
    have cy2 : (wr.setCell ⟨B5, 0, none⟩ (.int .i64 ((pre.length : Int) + 1))).cell? ⟨B5, 0, none⟩ = some (.int .i64 ((pre.length : Int) + 1)) := (blk_cell hC.1.y 0).trans rfl; have HC := za hC; clear hS hKO hBsE hC hlt
    have hpre : ((pre ++ [x]).length : Int) = (pre.length : Int) + 1 := by simp
    have hall : rd_all 0 (pre ++ [x]) = rd_all 0 pre ++ rd_upto pre.length x x.size := by rw [rd_all_snoc]; simp
    have HPR := za (And.intro hpre hall); clear hpre hall; have cq : (wr.setCell ⟨B5, 0, none⟩ (.int .i64 ((pre.length : Int) + 1))).cell? ⟨B2, 0, none⟩ = some (.slice none 0 0) := (blk_cell HC.1.1.q 0).trans rfl; have fq : (wr.setCell ⟨B5, 0, none⟩ (.int .i64 ((pre.length : Int) + 1))).frozen? ⟨B2, 0, none⟩ = false := ze HC.1.1.q 0; have ho2 := zj HC.1.1.o (p := ⟨B2, 0, none⟩) (blk_type_ne HC.1.1.o HC.1.1.q (by decide)) (.slice none 0 0); have hq2 : ((wr.setCell ⟨B5, 0, none⟩ (.int .i64 ((pre.length : Int) + 1))).setCell ⟨B2, 0, none⟩ (.slice none 0 0)).heap[B2]? = some (.cells #[.slice none 0 0] 26 (0, 0)) := (blk_set HC.1.1.q 0 _).trans rfl; have co : ((wr.setCell ⟨B5, 0, none⟩ (.int .i64 ((pre.length : Int) + 1))).setCell ⟨B2, 0, none⟩ (.slice none 0 0)).cell? ⟨B3, 0, none⟩ = some (.bool false) := (blk_cell ho2 0).trans rfl; have fo : ((wr.setCell ⟨B5, 0, none⟩ (.int .i64 ((pre.length : Int) + 1))).setCell ⟨B2, 0, none⟩ (.slice none 0 0)).frozen? ⟨B3, 0, none⟩ = false := ze ho2 0; have HX : Aside0 (KeepsFrom W0.heap.size W (((wr.setCell ⟨B5, 0, none⟩ (.int .i64 ((pre.length : Int) + 1))).setCell ⟨B2, 0, none⟩ (.slice none 0 0)).setCell ⟨B3, 0, none⟩ (.bool false)) ∧ Below w.heap.size w (((wr.setCell ⟨B5, 0, none⟩ (.int .i64 ((pre.length : Int) + 1))).setCell ⟨B2, 0, none⟩ (.slice none 0 0)).setCell ⟨B3, 0, none⟩ (.bool false)) ∧
      (((wr.setCell ⟨B5, 0, none⟩ (.int .i64 ((pre.length : Int) + 1))).setCell ⟨B2, 0, none⟩ (.slice none 0 0)).setCell ⟨B3, 0, none⟩ (.bool false)).heap[B2]? = some (.cells #[.slice none 0 0] 26 (0, 0)) ∧
      (((wr.setCell ⟨B5, 0, none⟩ (.int .i64 ((pre.length : Int) + 1))).setCell ⟨B2, 0, none⟩ (.slice none 0 0)).setCell ⟨B3, 0, none⟩ (.bool false)).heap[B3]? = some (.cells #[.bool false] 4 (0, 0))) := ⟨(HKO.1.trans ((KeepsOthers.setCell _ _ _).trans ((KeepsOthers.setCell _ _ _).trans (KeepsOthers.setCell _ _ _)))).from _,
       zO (zO HC.1.1.b HC.1.1.g2) HC.1.1.g3.1, zj hq2 (Ne.symm (blk_type_ne ho2 hq2 (by decide))) _, (blk_set ho2 0 _).trans rfl⟩
    clear ho2 hq2
    by_cases hb1 : pre.length = 20
    ·have d2 : decide ((20 : Int) < (pre.length : Int) + 1) = true := zc (by omega)
     have hbig : rd_big L = true := by
      unfold rd_big
      rw [eL]
      simp
      left
      omega
     clear hb1
     gi_wp2
     exact ⟨HX.1.1, hbig, HX.1.2⟩
    ·have d2 : decide ((20 : Int) < (pre.length : Int) + 1) = false := zs (by omega)
     by_cases hb2 : 21 < x.size
     ·have d3 : decide ((21 : Int) < (x.size : Int)) = true := zc (by omega); have d4 : decide (21 < x.size) = true := zc hb2
      have hbig : rd_big L = true := by
       unfold rd_big
       rw [eL]
       simp [hb2]
      gi_wp2
      exact ⟨HX.1.1, hbig, HX.1.2⟩
     ·have d3 : decide ((21 : Int) < (x.size : Int)) = false := zs (by omega); have d4 : decide (21 < x.size) = false := zs hb2
      gi_wp2
      refine ⟨(HKO.1.trans (KeepsOthers.setCell _ _ _)).from _, HC.1.2.trans HBE.1, ?_, ?_, v, ?_⟩
      ·simp; omega
      ·intro z hz
       rcases List.mem_append.1 hz with hz | hz
       ·exact hp2 z hz
       ·rw [List.mem_singleton.1 hz]; omega
      ·rw [HPR.1.2, HPR.1.1]
       exact HC.1.1
 case done =>
  rintro D W hD ⟨hl, hsz, v, hS⟩ hK
  have hbig : rd_big L = false := by
   unfold rd_big
   simp only [Bool.or_eq_false_iff, decide_eq_false_iff_not, List.any_eq_false, decide_eq_true_eq]
   exact ⟨by omega, fun x hx => by have := hsz x hx; omega⟩
  obtain ⟨tx, ok, hT', hr2, hr3, hr4⟩ := HR2.1 hbig; have HR3 := za hr2; have HR4 := za hr3; have HR5 := za hr4; clear hr2 hr3 hr4 HR1 HR2
  have hal : (rd_all 0 L).length ≤ 1000000 := by have := rd_all_len 0 L hsz; omega
  generalize rd_all 0 L = acc at hS hT' hal HR4
  have hls : (rd_sort acc).length = acc.length := (rd_sort_spec acc).1.length_eq; obtain ⟨A1, c1, e1⟩ := zz hS.r; rw [← hls] at e1; subst e1; have hSC := sort_calls hS.r hal; obtain ⟨n1, hn1⟩ : ∃ n, (rd_sort acc).length = n := ⟨_, rfl⟩; have HS := za hS; have HN := za hn1; have HK := za hK; have HD := za hD; have hT2 := fun (W1 : World) (hr : Kd.R k44 44 W1 w.heap.size (fun k => k ≠ Bs) (.slice A1 (rd_sort acc).length c1) (rd_sort acc)) => impl_PlanText.calls k A1 c1 (rd_sort acc) 1 tx ok W1 (Kd.R_reads' hr).2.2 (Kd.R_reads' hr).2.1 hT'; have HT2 := za hT2
  have cl : W.cell? ⟨B4, 0, none⟩ = some (.slice A1 n1 c1) := by rw [← hn1]; exact (blk_cell hS.l 0).trans rfl
  rw [hn1] at hSC; clear hS hK hD hT2 hT' hls hal hl hsz
  cases ok with
  | false =>
   have e2 : r2 = false := by rw [HR3.1]; rfl
   have e3 := HR5.1 e2; subst e2 e3
   gi_wp2
   go_wp2_with (first | (go_at_call 70; refine hSC.mono ?_; rintro e w1 ⟨rfl, hr1, hg1⟩; have hS1 := HS.1.sorted (by rw [HN.1]; exact hr1) (by rw [HN.1]; exact hg1); have HS1 := za hS1.1; have HK1 := za (hS1.2 _ _ HK.1 rfl); have cl1 : w1.cell? ⟨B4, 0, none⟩ = some (.slice A1 n1 c1) := (qR49); clear hS1 hg1 hr1) | (go_at_call 11; refine (show Calls Try.prog 11 #[.slice A1 n1 c1, .int .i64 1] w1 _ from (qR46)).mono ?_; rintro e w2 ⟨rfl, hb2⟩; have HS2 := za (HS1.1.below hb2); have HK2 := za qR50; have cl2 : w2.cell? ⟨B4, 0, none⟩ = some (.slice A1 n1 c1) := (qR48); have hE := HS2.1.ends (.slice none 0 0) false HK2.1 (Nat.le_trans HW.1.2 HD.1); have e1_ := hE.1; have e2_ := hE.2.1; have e3_ := hE.2.2.1; have e4_ := hE.2.2.2.1; have HE := za hE.2.2.2.2; clear hE hb2))
   refine ⟨by simp, .inl ⟨_, _, rfl, run_takeDeferred HE.1.1, ?_⟩⟩
   obtain ⟨x1, x2, x3, _⟩ := HE.1.2 (.deferred none)
   refine ⟨_, results_read rfl rfl x1 x2, _, rfl, Kd.R_nil _ _ _ _ _, x3⟩
  | true =>
   cases htx : (tx.toList == s.toList) with
   | true =>
    have b1 : (tx.toList != s.toList) = false := by simp [bne, htx]
    have e2 : r2 = true := by rw [HR3.1, htx]; rfl
    have e3 := HR4.1 e2; subst e2; have HX := za e3; clear e3
    gi_wp2
    go_wp2_with (first | (go_at_call 70; refine hSC.mono ?_; rintro e w1 ⟨rfl, hr1, hg1⟩; have hS1 := HS.1.sorted (by rw [HN.1]; exact hr1) (by rw [HN.1]; exact hg1); have HS1 := za hS1.1; have HK1 := za (hS1.2 _ _ HK.1 rfl); have cl1 : w1.cell? ⟨B4, 0, none⟩ = some (.slice A1 n1 c1) := (qR49); clear hS1 hg1 hr1) | (go_at_call 11; refine (show Calls Try.prog 11 #[.slice A1 n1 c1, .int .i64 1] w1 _ from (qR46)).mono ?_; rintro e w2 ⟨rfl, hb2⟩; have HS2 := za (HS1.1.below hb2); have HK2 := za qR50; have cl2 : w2.cell? ⟨B4, 0, none⟩ = some (.slice A1 n1 c1) := (qR48); have hE := HS2.1.ends (.slice A1 n1 c1) true HK2.1 (Nat.le_trans HW.1.2 HD.1); have e1_ := hE.1; have e2_ := hE.2.1; have e3_ := hE.2.2.1; have e4_ := hE.2.2.2.1; have HE := za hE.2.2.2.2; clear hE hb2))
    refine ⟨by simp, .inl ⟨_, _, rfl, run_takeDeferred HE.1.1, ?_⟩⟩
    obtain ⟨x1, x2, x3, x4⟩ := HE.1.2 (.deferred none)
    refine ⟨_, results_read rfl rfl x1 x2, _, rfl, by rw [HX.1]; have x5 := x4; rw [HN.1] at x5; exact x5, x3⟩
   | false =>
    have b1 : (tx.toList != s.toList) = true := by simp [bne, htx]
    have e2 : r2 = false := by rw [HR3.1, htx]; rfl
    have e3 := HR5.1 e2; subst e2 e3
    gi_wp2
    go_wp2_with (first | (go_at_call 70; refine hSC.mono ?_; rintro e w1 ⟨rfl, hr1, hg1⟩; have hS1 := HS.1.sorted (by rw [HN.1]; exact hr1) (by rw [HN.1]; exact hg1); have HS1 := za hS1.1; have HK1 := za (hS1.2 _ _ HK.1 rfl); have cl1 : w1.cell? ⟨B4, 0, none⟩ = some (.slice A1 n1 c1) := (qR49); clear hS1 hg1 hr1) | (go_at_call 11; refine (show Calls Try.prog 11 #[.slice A1 n1 c1, .int .i64 1] w1 _ from (qR46)).mono ?_; rintro e w2 ⟨rfl, hb2⟩; have HS2 := za (HS1.1.below hb2); have HK2 := za qR50; have cl2 : w2.cell? ⟨B4, 0, none⟩ = some (.slice A1 n1 c1) := (qR48); have hE := HS2.1.ends (.slice none 0 0) false HK2.1 (Nat.le_trans HW.1.2 HD.1); have e1_ := hE.1; have e2_ := hE.2.1; have e3_ := hE.2.2.1; have e4_ := hE.2.2.2.1; have HE := za hE.2.2.2.2; clear hE hb2))
    refine ⟨by simp, .inl ⟨_, _, rfl, run_takeDeferred HE.1.1, ?_⟩⟩
    obtain ⟨x1, x2, x3, _⟩ := HE.1.2 (.deferred none)
    refine ⟨_, results_read rfl rfl x1 x2, _, rfl, Kd.R_nil _ _ _ _ _, x3⟩
 case stop =>
  rintro D W hD ⟨h1, h2, h3, h4⟩ hK
  have ne2 : B2 ≠ D := fun e => by rw [e] at h3; rw [hK] at h3; cases h3
  have ne3 : B3 ≠ D := fun e => by rw [e] at h4; rw [hK] at h4; cases h4
  gi_wp2
  go_wp2
  refine ⟨by simp, .inl ⟨_, _, rfl, run_takeDeferred hK, ?_⟩⟩
  obtain ⟨e1, e2⟩ := HR1.1 h1; rw [e1, e2]
  refine ⟨_, results_read rfl rfl ((World.putObj_heap_other ne2).trans h3) ((World.putObj_heap_other ne3).trans h4), _, rfl, Kd.R_nil _ _ _ _ _, h2.grown (grownBy_putObj' W D _) h2.size (fun k hk => by cases hk; exact Nat.le_trans HS0.1.b.size hD)⟩
theorem ib_lt (c : UInt8) : ∀ l : List UInt8, 0 ≤ Lib.indexByte l c → Lib.indexByte l c < l.length := by
 intro l
 induction l with
 | nil => intro h; simp [Lib.indexByte] at h
 | cons b l ih =>
  intro h
  unfold Lib.indexByte at h ⊢
  by_cases h1 : (b == c) = true
  ·simp [h1]
  ·simp only [h1, Bool.false_eq_true, if_false] at h ⊢
   by_cases h2 : (Lib.indexByte l c == -1) = true
   ·simp [h2] at h
   ·simp only [h2, Bool.false_eq_true, if_false] at h ⊢; have h3 := Lib.indexByte_ge l c
    have h4 : Lib.indexByte l c ≠ -1 := by simpa using h2
    have := ih (by omega); rw [List.length_cons]
    omega
def lnsF : Nat → ByteArray → List ByteArray
 | 0, _ => []
 | n + 1, s => if s.size = 0 then [] else if 0 ≤ ln_i s then s.extract 0 (ln_i s + 1).toNat :: lnsF n (s.extract (ln_i s + 1).toNat s.size) else [s]
def lns (s : ByteArray) : List ByteArray := lnsF s.size s
theorem lnsF_is : ∀ (n : Nat) (s : ByteArray), s.size ≤ n → IsLns s (lnsF n s)
 | 0, s, h => .nil (by omega)
 | n + 1, s, h => by
  unfold lnsF
  by_cases h1 : s.size = 0
  ·rw [zP h1]; exact .nil h1
  ·rw [zQ h1]
   by_cases h2 : 0 ≤ ln_i s
   ·rw [zP h2]
    have h3 : ln_i s + 1 ≤ s.size := by
     have := ib_lt 10 s.data.toList h2
     have e : (s.data.toList.length : Int) = s.size := by simp
     unfold ln_i
     omega
    exact .more h2 h3 (lnsF_is n _ (by rw [ByteArray.size_extract]; omega))
   ·rw [zQ h2]
    exact .last (by omega) (by omega)
def impl_ReadPlan.f (k : Nat) (s0 : ByteArray) : Option (List S44 × Bool) :=
 if s0.size ≤ 1000000000 then (if rd_big (lns s0) = true then some ([], false) else (impl_PlanText.f k (rd_sort (rd_all 0 (lns s0))) 1).bind fun q => if (q.2 && (q.1.toList == s0.toList)) = true then some (rd_sort (rd_all 0 (lns s0)), true) else some ([], false)) else none
theorem impl_ReadPlan.calls (k : Nat) (s0 : ByteArray) (r1 : List S44) (r2 : Bool) (w : World) (h : impl_ReadPlan.f k s0 = some (r1, r2)) :
  Calls Try.prog 32 #[.string s0] w fun e w' => ∃ v0_ : Value, e = .returned (.tuple #[v0_, .bool r2]) ∧ Kd.R k44 44 w' w.heap.size (fun _ => True) v0_ r1 ∧ Below w.heap.size w w' := by
 unfold impl_ReadPlan.f at h
 by_cases h1 : s0.size ≤ 1000000000
 ·rw [zP h1] at h; have hL : IsLns s0 (lns s0) := lnsF_is _ _ (zn _)
  cases hb : rd_big (lns s0) with
  | true =>
   rw [zP hb] at h; simp only [zR, zS] at h; obtain ⟨rfl, rfl⟩ := h
   exact impl_ReadPlan.reads s0 (lns s0) k [] false w hL h1 (fun _ => ⟨rfl, rfl⟩) (fun h2 => by rw [hb] at h2; cases h2)
  | false =>
   rw [zQ (by rw [hb]; exact Bool.false_ne_true)] at h; obtain ⟨⟨tx, ok⟩, A1, h⟩ := zx h
   cases hq : (ok && (tx.toList == s0.toList)) with
   | true =>
    rw [zP hq] at h; simp only [zR, zS] at h; obtain ⟨rfl, rfl⟩ := h
    exact impl_ReadPlan.reads s0 (lns s0) k _ true w hL h1 (fun h2 => by rw [hb] at h2; cases h2) (fun _ => ⟨tx, ok, A1, hq.symm, (fun _ => rfl), (fun h3 => zF h3 (by decide))⟩)
   | false =>
    rw [zQ (by rw [hq]; exact Bool.false_ne_true)] at h; simp only [zR, zS] at h; obtain ⟨rfl, rfl⟩ := h
    exact impl_ReadPlan.reads s0 (lns s0) k _ false w hL h1 (fun h2 => by rw [hb] at h2; cases h2) (fun _ => ⟨tx, ok, A1, hq.symm, (fun h3 => zF h3 (by decide)), (fun _ => rfl)⟩)
 ·rw [zQ h1] at h; cases h


def laws_heldPlanMarkS.l0 : Nat → List (S44) → Int → Int → Option (Int)
 | 0, _, _, _ => none
 | k + 1, x0, x1, x5 => if x5 < (x0.length : Int) then (if 0 ≤ x5 then ((laws_markText.f k x1).bind fun t245 => (if ((rd_T44 x0 x5).f0).toList = t245.toList then (if ((rd_T44 x0 x5).f1) = (wrap64 (x1 + 1)) then (if ((rd_T44 x0 x5).f2) = (wrap64 ((wrap64 (x1 + 1)) + 1)) then (laws_heldPlanMarkS.l0 k x0 (wrap64 ((wrap64 ((wrap64 (x1 + 1)) + 1)) + 1)) (wrap64 (x5 + 1))) else (some (-1))) else (some (-1))) else (some (-1)))) else (none)) else (some x1)
def laws_heldPlanMarkS.f (k : Nat) (l0 : List (S44)) (a1 : Int) : Option (Int) := laws_heldPlanMarkS.l0 k l0 a1 0
def laws_heldPlanMarkS.T4 : Bool × List (List Nat × List Nat) := (true, [([], []), ([], []), ([0, 1], [0, 1]), ([2], [2]), ([3], [3]), ([], []), ([5], [5]), ([4, 6], [4, 6])])
def laws_heldPlanMarkS.B4 : List Nat := [0, 0, 3, 7, 15, 0, 32, 127]
theorem laws_heldPlanMarkS.tab4 : rtab .any (opsOf Try.f33 4) = laws_heldPlanMarkS.T4 := by kernel_rfl
theorem laws_heldPlanMarkS.bits4 : waitsOk laws_heldPlanMarkS.T4.2 laws_heldPlanMarkS.B4 = true := by kernel_rfl
set_option maxHeartbeats 8000000 in
theorem laws_heldPlanMarkS.calls (k : Nat) (A0 : Option Addr) (c0 : Nat) (l0 : List (S44)) (a1 : Int) (r : Int) (w : World) (hr0 : Kd.C k44 w A0 l0.length l0) (hc0 : l0.length ≤ c0) (h : laws_heldPlanMarkS.f k l0 a1 = some r) :
  Calls Try.prog 33 #[.slice A0 l0.length c0, .int .i64 a1] w fun e w' => e = .returned (.int .i64 r) ∧ Below w.heap.size w w' := by
 have HR0 := za hr0; have HC0 := za hc0; clear hr0 hc0; have HB := za (zq w.heap.size w); have H : (laws_heldPlanMarkS.l0 k l0 a1 0) = some r := h; clear h; have H' := za H; clear H
 go_enter Try.func33, Try.ntmps33
 go_wp2
 go_loopg [1, 5] k (fun kq v1 v5 w' => ∃ (x1_1 : Int) (x5_1 : Int), v1 = .int .i64 x1_1 ∧ v5 = .int .i64 x5_1 ∧ Aside0 (laws_heldPlanMarkS.l0 kq l0 x1_1 x5_1 = some r) ∧ Aside0 (kq ≤ k) ∧ Aside0 (Below w.heap.size w w'))
 case atStart => exact ⟨(a1), (0), (qR10), (qR10), H', ⟨zn _⟩, ⟨(qR0)⟩⟩
 case round =>
  clear H'; obtain ⟨x1_1, x5_1, rfl, rfl, HA, HK1, HB⟩ := hrel
  cases gk with
  | zero => exact zF HA.1 (by simp [laws_heldPlanMarkS.l0])
  | succ k1 =>
   have H := HA.1; clear HA; simp only [laws_heldPlanMarkS.l0] at H
   by_cases c3 : x5_1 < (l0.length : Int)
   ·rw [zP c3] at H; have c3b0 : decide (x5_1 < (l0.length : Int)) = true := zc c3; clear c3
    by_cases c4 : 0 ≤ x5_1
    ·rw [zP c4] at H; have c4b0 : decide (0 ≤ x5_1) = true := zc c4; clear c4; replace H := bindA H; obtain ⟨t245, A5, H⟩ := H; (try dsimp only at H)
     by_cases c6 : ((rd_T44 l0 x5_1).f0).toList = t245.toList
     ·rw [zP c6] at H; have c6b0 : (((rd_T44 l0 x5_1).f0).toList == t245.toList) = true := zH c6; have c6b1 : (((rd_T44 l0 x5_1).f0).toList != t245.toList) = false := zv c6; clear c6
      by_cases c7 : ((rd_T44 l0 x5_1).f1) = (wrap64 (x1_1 + 1))
      ·rw [zP c7] at H; have c7b0 : (((rd_T44 l0 x5_1).f1) == (wrap64 (x1_1 + 1))) = true := zH c7; have c7b1 : (((rd_T44 l0 x5_1).f1) != (wrap64 (x1_1 + 1))) = false := zv c7; clear c7
       by_cases c8 : ((rd_T44 l0 x5_1).f2) = (wrap64 ((wrap64 (x1_1 + 1)) + 1))
       ·rw [zP c8] at H; have c8b0 : (((rd_T44 l0 x5_1).f2) == (wrap64 ((wrap64 (x1_1 + 1)) + 1))) = true := zH c8; have c8b1 : (((rd_T44 l0 x5_1).f2) != (wrap64 ((wrap64 (x1_1 + 1)) + 1))) = false := zv c8; clear c8; have H' := za H; clear H
        try go_wp2
        replace HB := za (below_drew1 HB.1); have p244 : 0 ≤ (x5_1 : Int) := zb (qR6); have q244 : x5_1 < (l0.length : Int) := zb (qR6); obtain ⟨ad244, e244, hx244_0, hx244_1, hx244_2⟩ := at_T44 HR0.1 x5_1 p244 q244; have hw244_2 := hx244_2; have hw244_1 := hx244_1; have hw244_0 := hx244_0; cases e244; replace hx244_0 := (HB.1.cell (zd w _ hx244_0)).trans hx244_0; replace hx244_1 := (HB.1.cell (zd w _ hx244_1)).trans hx244_1; replace hx244_2 := (HB.1.cell (zd w _ hx244_2)).trans hx244_2; replace p244 := zt p244; replace q244 := zt q244
        refine start_ (n := 8) (S := fun w' => w'.cell? (ad244.add ((x5_1).toNat * 3)) = some (.string ((rd_T44 l0 x5_1).f0)) ∧ w'.cell? ⟨(ad244.add ((x5_1).toNat * 3)).block, (ad244.add ((x5_1).toNat * 3)).off + 1, none⟩ = some (.int .i64 ((rd_T44 l0 x5_1).f1)) ∧ w'.cell? ⟨(ad244.add ((x5_1).toNat * 3)).block, (ad244.add ((x5_1).toNat * 3)).off + 2, none⟩ = some (.int .i64 ((rd_T44 l0 x5_1).f2))) (ds := []) qRb79 (qR8) rfl rfl ⟨((HB.1.cell (zd w _ hw244_0)).trans hw244_0), ((HB.1.cell (zd w _ hw244_1)).trans hw244_1), ((HB.1.cell (zd w _ hw244_2)).trans hw244_2)⟩ (fun hHeld => ?_); refine with_tabW laws_heldPlanMarkS.tab4 laws_heldPlanMarkS.bits4 (fun HT_ HW_ => ?_)
        generalize wr.drew = w9 at HB hx244_0 hx244_1 hx244_2 hHeld ⊢
        refine pure_ (i := 0) (N := some 12) (v := ?_) (a' := ?_) qRb80 rfl rfl (qR3) (fun _ _ _ h => h) (zM ⟨by rfl, ?_⟩) ?_ ?_
        rotate_left; exact qR7_c1; rotate_left; exact qR7_c0
        refine pure_ (i := 1) (N := some 13) (v := ?_) (a' := ?_) qRb81 rfl rfl (qR3) (fun _ _ _ h => h) (zM ⟨by rfl, ?_⟩) ?_ ?_
        rotate_left; exact qR7_c1; rotate_left; exact qR7_c0
        refine pure_ (i := 2) (N := some 14) (v := ?_) (a' := ?_) qRb82 rfl rfl (qR3) (fun _ _ _ h => h) (zM ⟨by rfl, ?_⟩) ?_ ?_
        rotate_left; exact qR7_c1; rotate_left; exact qR7_c0
        refine pure_ (i := 3) (N := some 15) (v := ?_) (a' := ?_) qRb83 rfl rfl (qR3) (fun _ _ _ h => h) (zM ⟨by rfl, ?_⟩) ?_ ?_
        rotate_left; exact qR7_c1; rotate_left; exact qR7_c0
        refine pure_ (i := 5) (N := some 17) (v := ?_) (a' := ?_) qRb84 rfl rfl (qR3) (fun _ _ _ h => h) (zM ⟨by rfl, ?_⟩) ?_ ?_
        rotate_left; exact qR7_c1; rotate_left; exact qR7_c0
        refine take_ (i := 4) (N := some 16) (v := ?_) (a' := ?_) qRb85 rfl rfl (take_ofW HT_.1 HW_.1 (qR8)) (fun _ _ _ h => h) (zM ⟨by rfl, ?_⟩) hHeld ?_ ?_
        rotate_left
        ·rintro w' ⟨s0, s1, s2⟩
         go_simp
         with_reducible rfl
        rotate_left
        ·exact qR7_c0
        refine one_ (i := 6) (N := some 18) qRb86 rfl rfl (qR63) (by decide) (fun K hK => ?_)
        refine goes_ Try.func54 (qR8) rfl #[.int .i64 x1_1] (by rfl) rfl rfl (qR4) ?_
        with_reducible refine (laws_markText.calls k1 x1_1 t245 _ A5.1).mono ?_
        rintro e w10 ⟨rfl, hb⟩
        refine ⟨_, rfl, ?_⟩
        replace HB := za qR61
        (try clear hb)
        (try clear hb2)
        (try clear hk)
        (try clear hi)
        refine hK.out _ _ ⟨((HB.1.cell (zd w _ hw244_0)).trans hw244_0), ((HB.1.cell (zd w _ hw244_1)).trans hw244_1), ((HB.1.cell (zd w _ hw244_2)).trans hw244_2)⟩ (fun hHeld => ?_)
        clear hK K
        refine norm_ (a' := ?_) ?_ ?_
        rotate_left
        ·exact qR7_c2
        refine pure_ (i := 7) (N := some 19) (v := ?_) (a' := ?_) qRb87 rfl rfl (qR3) (fun _ _ _ h => h) (zM ⟨by rfl, ?_⟩) ?_ ?_
        rotate_left; exact qR7_c1; rotate_left; exact qR7_c0
        refine done_ (qR68) ?_
        have p246 : 0 ≤ (x5_1 : Int) := zb (qR6); have q246 : x5_1 < (l0.length : Int) := zb (qR6); obtain ⟨ad246, e246, hx246_0, hx246_1, hx246_2⟩ := at_T44 HR0.1 x5_1 p246 q246; obtain rfl : ad244 = ad246 := (by injection e246); replace hx246_0 := (HB.1.cell (zd w _ hx246_0)).trans hx246_0; replace hx246_1 := (HB.1.cell (zd w _ hx246_1)).trans hx246_1; replace hx246_2 := (HB.1.cell (zd w _ hx246_2)).trans hx246_2; replace p246 := zt p246; replace q246 := zt q246; have p247 : 0 ≤ (x5_1 : Int) := zb (qR6); have q247 : x5_1 < (l0.length : Int) := zb (qR6); obtain ⟨ad247, e247, hx247_0, hx247_1, hx247_2⟩ := at_T44 HR0.1 x5_1 p247 q247; obtain rfl : ad244 = ad247 := (by injection e247); replace hx247_0 := (HB.1.cell (zd w _ hx247_0)).trans hx247_0; replace hx247_1 := (HB.1.cell (zd w _ hx247_1)).trans hx247_1; replace hx247_2 := (HB.1.cell (zd w _ hx247_2)).trans hx247_2; replace p247 := zt p247; replace q247 := zt q247
        try go_wp2
        go_roundg k1
        case measure => have := HK1.1; omega
        case rel => exact ⟨(wrap64 ((wrap64 ((wrap64 (x1_1 + 1)) + 1)) + 1)), (wrap64 (x5_1 + 1)), (qR10), (qR10), H', ⟨by have := HK1.1; omega⟩, ⟨(qR0)⟩⟩
       ·rw [zQ c8] at H; have c8b0 : (((rd_T44 l0 x5_1).f2) == (wrap64 ((wrap64 (x1_1 + 1)) + 1))) = false := zu c8; have c8b1 : (((rd_T44 l0 x5_1).f2) != (wrap64 ((wrap64 (x1_1 + 1)) + 1))) = true := zI c8; obtain rfl := zl H
        try go_wp2
        replace HB := za (below_drew1 HB.1); have p244 : 0 ≤ (x5_1 : Int) := zb (qR6); have q244 : x5_1 < (l0.length : Int) := zb (qR6); obtain ⟨ad244, e244, hx244_0, hx244_1, hx244_2⟩ := at_T44 HR0.1 x5_1 p244 q244; have hw244_2 := hx244_2; have hw244_1 := hx244_1; have hw244_0 := hx244_0; cases e244; replace hx244_0 := (HB.1.cell (zd w _ hx244_0)).trans hx244_0; replace hx244_1 := (HB.1.cell (zd w _ hx244_1)).trans hx244_1; replace hx244_2 := (HB.1.cell (zd w _ hx244_2)).trans hx244_2; replace p244 := zt p244; replace q244 := zt q244
        refine start_ (n := 8) (S := fun w' => w'.cell? (ad244.add ((x5_1).toNat * 3)) = some (.string ((rd_T44 l0 x5_1).f0)) ∧ w'.cell? ⟨(ad244.add ((x5_1).toNat * 3)).block, (ad244.add ((x5_1).toNat * 3)).off + 1, none⟩ = some (.int .i64 ((rd_T44 l0 x5_1).f1)) ∧ w'.cell? ⟨(ad244.add ((x5_1).toNat * 3)).block, (ad244.add ((x5_1).toNat * 3)).off + 2, none⟩ = some (.int .i64 ((rd_T44 l0 x5_1).f2))) (ds := []) qRb79 (qR8) rfl rfl ⟨((HB.1.cell (zd w _ hw244_0)).trans hw244_0), ((HB.1.cell (zd w _ hw244_1)).trans hw244_1), ((HB.1.cell (zd w _ hw244_2)).trans hw244_2)⟩ (fun hHeld => ?_); refine with_tabW laws_heldPlanMarkS.tab4 laws_heldPlanMarkS.bits4 (fun HT_ HW_ => ?_)
        generalize wr.drew = w11 at HB hx244_0 hx244_1 hx244_2 hHeld ⊢
        refine pure_ (i := 0) (N := some 12) (v := ?_) (a' := ?_) qRb80 rfl rfl (qR3) (fun _ _ _ h => h) (zM ⟨by rfl, ?_⟩) ?_ ?_
        rotate_left; exact qR7_c1; rotate_left; exact qR7_c0
        refine pure_ (i := 1) (N := some 13) (v := ?_) (a' := ?_) qRb81 rfl rfl (qR3) (fun _ _ _ h => h) (zM ⟨by rfl, ?_⟩) ?_ ?_
        rotate_left; exact qR7_c1; rotate_left; exact qR7_c0
        refine pure_ (i := 2) (N := some 14) (v := ?_) (a' := ?_) qRb82 rfl rfl (qR3) (fun _ _ _ h => h) (zM ⟨by rfl, ?_⟩) ?_ ?_
        rotate_left; exact qR7_c1; rotate_left; exact qR7_c0
        refine pure_ (i := 3) (N := some 15) (v := ?_) (a' := ?_) qRb83 rfl rfl (qR3) (fun _ _ _ h => h) (zM ⟨by rfl, ?_⟩) ?_ ?_
        rotate_left; exact qR7_c1; rotate_left; exact qR7_c0
        refine pure_ (i := 5) (N := some 17) (v := ?_) (a' := ?_) qRb84 rfl rfl (qR3) (fun _ _ _ h => h) (zM ⟨by rfl, ?_⟩) ?_ ?_
        rotate_left; exact qR7_c1; rotate_left; exact qR7_c0
        refine take_ (i := 4) (N := some 16) (v := ?_) (a' := ?_) qRb85 rfl rfl (take_ofW HT_.1 HW_.1 (qR8)) (fun _ _ _ h => h) (zM ⟨by rfl, ?_⟩) hHeld ?_ ?_
        rotate_left
        ·rintro w' ⟨s0, s1, s2⟩
         go_simp
         with_reducible rfl
        rotate_left
        ·exact qR7_c0
        refine one_ (i := 6) (N := some 18) qRb86 rfl rfl (qR63) (by decide) (fun K hK => ?_)
        refine goes_ Try.func54 (qR8) rfl #[.int .i64 x1_1] (by rfl) rfl rfl (qR4) ?_
        with_reducible refine (laws_markText.calls k1 x1_1 t245 _ A5.1).mono ?_
        rintro e w12 ⟨rfl, hb⟩
        refine ⟨_, rfl, ?_⟩
        replace HB := za qR61
        (try clear hb)
        (try clear hb2)
        (try clear hk)
        (try clear hi)
        refine hK.out _ _ ⟨((HB.1.cell (zd w _ hw244_0)).trans hw244_0), ((HB.1.cell (zd w _ hw244_1)).trans hw244_1), ((HB.1.cell (zd w _ hw244_2)).trans hw244_2)⟩ (fun hHeld => ?_)
        clear hK K
        refine norm_ (a' := ?_) ?_ ?_
        rotate_left
        ·exact qR7_c2
        refine pure_ (i := 7) (N := some 19) (v := ?_) (a' := ?_) qRb87 rfl rfl (qR3) (fun _ _ _ h => h) (zM ⟨by rfl, ?_⟩) ?_ ?_
        rotate_left; exact qR7_c1; rotate_left; exact qR7_c0
        refine done_ (qR68) ?_
        have p246 : 0 ≤ (x5_1 : Int) := zb (qR6); have q246 : x5_1 < (l0.length : Int) := zb (qR6); obtain ⟨ad246, e246, hx246_0, hx246_1, hx246_2⟩ := at_T44 HR0.1 x5_1 p246 q246; obtain rfl : ad244 = ad246 := (by injection e246); replace hx246_0 := (HB.1.cell (zd w _ hx246_0)).trans hx246_0; replace hx246_1 := (HB.1.cell (zd w _ hx246_1)).trans hx246_1; replace hx246_2 := (HB.1.cell (zd w _ hx246_2)).trans hx246_2; replace p246 := zt p246; replace q246 := zt q246; have p247 : 0 ≤ (x5_1 : Int) := zb (qR6); have q247 : x5_1 < (l0.length : Int) := zb (qR6); obtain ⟨ad247, e247, hx247_0, hx247_1, hx247_2⟩ := at_T44 HR0.1 x5_1 p247 q247; obtain rfl : ad244 = ad247 := (by injection e247); replace hx247_0 := (HB.1.cell (zd w _ hx247_0)).trans hx247_0; replace hx247_1 := (HB.1.cell (zd w _ hx247_1)).trans hx247_1; replace hx247_2 := (HB.1.cell (zd w _ hx247_2)).trans hx247_2; replace p247 := zt p247; replace q247 := zt q247
        try go_wp2
        go_ret
        exact ⟨(qR9), (qR0)⟩
      ·rw [zQ c7] at H; have c7b0 : (((rd_T44 l0 x5_1).f1) == (wrap64 (x1_1 + 1))) = false := zu c7; have c7b1 : (((rd_T44 l0 x5_1).f1) != (wrap64 (x1_1 + 1))) = true := zI c7; obtain rfl := zl H
       try go_wp2
       replace HB := za (below_drew1 HB.1); have p244 : 0 ≤ (x5_1 : Int) := zb (qR6); have q244 : x5_1 < (l0.length : Int) := zb (qR6); obtain ⟨ad244, e244, hx244_0, hx244_1, hx244_2⟩ := at_T44 HR0.1 x5_1 p244 q244; have hw244_2 := hx244_2; have hw244_1 := hx244_1; have hw244_0 := hx244_0; cases e244; replace hx244_0 := (HB.1.cell (zd w _ hx244_0)).trans hx244_0; replace hx244_1 := (HB.1.cell (zd w _ hx244_1)).trans hx244_1; replace hx244_2 := (HB.1.cell (zd w _ hx244_2)).trans hx244_2; replace p244 := zt p244; replace q244 := zt q244
       refine start_ (n := 8) (S := fun w' => w'.cell? (ad244.add ((x5_1).toNat * 3)) = some (.string ((rd_T44 l0 x5_1).f0)) ∧ w'.cell? ⟨(ad244.add ((x5_1).toNat * 3)).block, (ad244.add ((x5_1).toNat * 3)).off + 1, none⟩ = some (.int .i64 ((rd_T44 l0 x5_1).f1)) ∧ w'.cell? ⟨(ad244.add ((x5_1).toNat * 3)).block, (ad244.add ((x5_1).toNat * 3)).off + 2, none⟩ = some (.int .i64 ((rd_T44 l0 x5_1).f2))) (ds := []) qRb79 (qR8) rfl rfl ⟨((HB.1.cell (zd w _ hw244_0)).trans hw244_0), ((HB.1.cell (zd w _ hw244_1)).trans hw244_1), ((HB.1.cell (zd w _ hw244_2)).trans hw244_2)⟩ (fun hHeld => ?_); refine with_tabW laws_heldPlanMarkS.tab4 laws_heldPlanMarkS.bits4 (fun HT_ HW_ => ?_)
       generalize wr.drew = w13 at HB hx244_0 hx244_1 hx244_2 hHeld ⊢
       refine pure_ (i := 0) (N := some 12) (v := ?_) (a' := ?_) qRb80 rfl rfl (qR3) (fun _ _ _ h => h) (zM ⟨by rfl, ?_⟩) ?_ ?_
       rotate_left; exact qR7_c1; rotate_left; exact qR7_c0
       refine pure_ (i := 1) (N := some 13) (v := ?_) (a' := ?_) qRb81 rfl rfl (qR3) (fun _ _ _ h => h) (zM ⟨by rfl, ?_⟩) ?_ ?_
       rotate_left; exact qR7_c1; rotate_left; exact qR7_c0
       refine pure_ (i := 2) (N := some 14) (v := ?_) (a' := ?_) qRb82 rfl rfl (qR3) (fun _ _ _ h => h) (zM ⟨by rfl, ?_⟩) ?_ ?_
       rotate_left; exact qR7_c1; rotate_left; exact qR7_c0
       refine pure_ (i := 3) (N := some 15) (v := ?_) (a' := ?_) qRb83 rfl rfl (qR3) (fun _ _ _ h => h) (zM ⟨by rfl, ?_⟩) ?_ ?_
       rotate_left; exact qR7_c1; rotate_left; exact qR7_c0
       refine pure_ (i := 5) (N := some 17) (v := ?_) (a' := ?_) qRb84 rfl rfl (qR3) (fun _ _ _ h => h) (zM ⟨by rfl, ?_⟩) ?_ ?_
       rotate_left; exact qR7_c1; rotate_left; exact qR7_c0
       refine take_ (i := 4) (N := some 16) (v := ?_) (a' := ?_) qRb85 rfl rfl (take_ofW HT_.1 HW_.1 (qR8)) (fun _ _ _ h => h) (zM ⟨by rfl, ?_⟩) hHeld ?_ ?_
       rotate_left
       ·rintro w' ⟨s0, s1, s2⟩
        go_simp
        with_reducible rfl
       rotate_left
       ·exact qR7_c0
       refine one_ (i := 6) (N := some 18) qRb86 rfl rfl (qR63) (by decide) (fun K hK => ?_)
       refine goes_ Try.func54 (qR8) rfl #[.int .i64 x1_1] (by rfl) rfl rfl (qR4) ?_
       with_reducible refine (laws_markText.calls k1 x1_1 t245 _ A5.1).mono ?_
       rintro e w14 ⟨rfl, hb⟩
       refine ⟨_, rfl, ?_⟩
       replace HB := za qR61
       (try clear hb)
       (try clear hb2)
       (try clear hk)
       (try clear hi)
       refine hK.out _ _ ⟨((HB.1.cell (zd w _ hw244_0)).trans hw244_0), ((HB.1.cell (zd w _ hw244_1)).trans hw244_1), ((HB.1.cell (zd w _ hw244_2)).trans hw244_2)⟩ (fun hHeld => ?_)
       clear hK K
       refine norm_ (a' := ?_) ?_ ?_
       rotate_left
       ·exact qR7_c2
       refine pure_ (i := 7) (N := some 19) (v := ?_) (a' := ?_) qRb87 rfl rfl (qR3) (fun _ _ _ h => h) (zM ⟨by rfl, ?_⟩) ?_ ?_
       rotate_left; exact qR7_c1; rotate_left; exact qR7_c0
       refine done_ (qR68) ?_
       have p246 : 0 ≤ (x5_1 : Int) := zb (qR6); have q246 : x5_1 < (l0.length : Int) := zb (qR6); obtain ⟨ad246, e246, hx246_0, hx246_1, hx246_2⟩ := at_T44 HR0.1 x5_1 p246 q246; obtain rfl : ad244 = ad246 := (by injection e246); replace hx246_0 := (HB.1.cell (zd w _ hx246_0)).trans hx246_0; replace hx246_1 := (HB.1.cell (zd w _ hx246_1)).trans hx246_1; replace hx246_2 := (HB.1.cell (zd w _ hx246_2)).trans hx246_2; replace p246 := zt p246; replace q246 := zt q246
       try go_wp2
       go_ret
       exact ⟨(qR9), (qR0)⟩
     ·rw [zQ c6] at H; have c6b0 : (((rd_T44 l0 x5_1).f0).toList == t245.toList) = false := zu c6; have c6b1 : (((rd_T44 l0 x5_1).f0).toList != t245.toList) = true := zI c6; obtain rfl := zl H
      try go_wp2
      replace HB := za (below_drew1 HB.1); have p244 : 0 ≤ (x5_1 : Int) := zb (qR6); have q244 : x5_1 < (l0.length : Int) := zb (qR6); obtain ⟨ad244, e244, hx244_0, hx244_1, hx244_2⟩ := at_T44 HR0.1 x5_1 p244 q244; have hw244_2 := hx244_2; have hw244_1 := hx244_1; have hw244_0 := hx244_0; cases e244; replace hx244_0 := (HB.1.cell (zd w _ hx244_0)).trans hx244_0; replace hx244_1 := (HB.1.cell (zd w _ hx244_1)).trans hx244_1; replace hx244_2 := (HB.1.cell (zd w _ hx244_2)).trans hx244_2; replace p244 := zt p244; replace q244 := zt q244
      refine start_ (n := 8) (S := fun w' => w'.cell? (ad244.add ((x5_1).toNat * 3)) = some (.string ((rd_T44 l0 x5_1).f0)) ∧ w'.cell? ⟨(ad244.add ((x5_1).toNat * 3)).block, (ad244.add ((x5_1).toNat * 3)).off + 1, none⟩ = some (.int .i64 ((rd_T44 l0 x5_1).f1)) ∧ w'.cell? ⟨(ad244.add ((x5_1).toNat * 3)).block, (ad244.add ((x5_1).toNat * 3)).off + 2, none⟩ = some (.int .i64 ((rd_T44 l0 x5_1).f2))) (ds := []) qRb79 (qR8) rfl rfl ⟨((HB.1.cell (zd w _ hw244_0)).trans hw244_0), ((HB.1.cell (zd w _ hw244_1)).trans hw244_1), ((HB.1.cell (zd w _ hw244_2)).trans hw244_2)⟩ (fun hHeld => ?_); refine with_tabW laws_heldPlanMarkS.tab4 laws_heldPlanMarkS.bits4 (fun HT_ HW_ => ?_)
      generalize wr.drew = w15 at HB hx244_0 hx244_1 hx244_2 hHeld ⊢
      refine pure_ (i := 0) (N := some 12) (v := ?_) (a' := ?_) qRb80 rfl rfl (qR3) (fun _ _ _ h => h) (zM ⟨by rfl, ?_⟩) ?_ ?_
      rotate_left; exact qR7_c1; rotate_left; exact qR7_c0
      refine pure_ (i := 1) (N := some 13) (v := ?_) (a' := ?_) qRb81 rfl rfl (qR3) (fun _ _ _ h => h) (zM ⟨by rfl, ?_⟩) ?_ ?_
      rotate_left; exact qR7_c1; rotate_left; exact qR7_c0
      refine pure_ (i := 2) (N := some 14) (v := ?_) (a' := ?_) qRb82 rfl rfl (qR3) (fun _ _ _ h => h) (zM ⟨by rfl, ?_⟩) ?_ ?_
      rotate_left; exact qR7_c1; rotate_left; exact qR7_c0
      refine pure_ (i := 3) (N := some 15) (v := ?_) (a' := ?_) qRb83 rfl rfl (qR3) (fun _ _ _ h => h) (zM ⟨by rfl, ?_⟩) ?_ ?_
      rotate_left; exact qR7_c1; rotate_left; exact qR7_c0
      refine pure_ (i := 5) (N := some 17) (v := ?_) (a' := ?_) qRb84 rfl rfl (qR3) (fun _ _ _ h => h) (zM ⟨by rfl, ?_⟩) ?_ ?_
      rotate_left; exact qR7_c1; rotate_left; exact qR7_c0
      refine take_ (i := 4) (N := some 16) (v := ?_) (a' := ?_) qRb85 rfl rfl (take_ofW HT_.1 HW_.1 (qR8)) (fun _ _ _ h => h) (zM ⟨by rfl, ?_⟩) hHeld ?_ ?_
      rotate_left
      ·rintro w' ⟨s0, s1, s2⟩
       go_simp
       with_reducible rfl
      rotate_left
      ·exact qR7_c0
      refine one_ (i := 6) (N := some 18) qRb86 rfl rfl (qR63) (by decide) (fun K hK => ?_)
      refine goes_ Try.func54 (qR8) rfl #[.int .i64 x1_1] (by rfl) rfl rfl (qR4) ?_
      with_reducible refine (laws_markText.calls k1 x1_1 t245 _ A5.1).mono ?_
      rintro e w16 ⟨rfl, hb⟩
      refine ⟨_, rfl, ?_⟩
      replace HB := za qR61
      (try clear hb)
      (try clear hb2)
      (try clear hk)
      (try clear hi)
      refine hK.out _ _ ⟨((HB.1.cell (zd w _ hw244_0)).trans hw244_0), ((HB.1.cell (zd w _ hw244_1)).trans hw244_1), ((HB.1.cell (zd w _ hw244_2)).trans hw244_2)⟩ (fun hHeld => ?_)
      clear hK K
      refine norm_ (a' := ?_) ?_ ?_
      rotate_left
      ·exact qR7_c2
      refine pure_ (i := 7) (N := some 19) (v := ?_) (a' := ?_) qRb87 rfl rfl (qR3) (fun _ _ _ h => h) (zM ⟨by rfl, ?_⟩) ?_ ?_
      rotate_left; exact qR7_c1; rotate_left; exact qR7_c0
      refine done_ (qR68) ?_
      try go_wp2
      go_ret
      exact ⟨(qR9), (qR0)⟩
    ·rw [zQ c4] at H
     exact zF H (by simp)
   ·rw [zQ c3] at H; have c3b0 : decide (x5_1 < (l0.length : Int)) = false := zs c3; clear c3; obtain rfl := zl H
    go_wp2
    go_ret
    exact ⟨(qR9), (qR0)⟩

mutual
def laws_FnExactReadPlan.j0 : Nat → ByteArray → List (S44) → Bool → List (S44) → Bool → Option (Bool)
 | 0, _, _, _, _, _ => none
 | k + 1, x0, x3, x4, x5, x32 => if x32 = true then (some false) else ((laws_markPlanMarkS.f k x5 1).bind fun bt257 => ((laws_heldPlanMarkS.f k bt257.2 1).bind fun t259 => (if t259 < 0 then (some false) else (if t259 = bt257.1 then ((impl_ReadPlan.f k x0).bind fun bt260 => ((laws_eqPlanMarkS.f k bt260.1 x3).bind fun t264 => (if t264 = true then (laws_FnExactReadPlan.j1 k bt257.2 bt257.1 (bt260.2 != x4)) else (laws_FnExactReadPlan.j1 k bt257.2 bt257.1 true)))) else (some false)))))
def laws_FnExactReadPlan.j1 : Nat → List (S44) → Int → Bool → Option (Bool)
 | 0, _, _, _ => none
 | k + 1, x5, x7, x57 => if x57 = true then (some false) else ((laws_heldPlanMarkS.f k x5 1).bind fun t265 => (if t265 < 0 then (some false) else (if t265 = x7 then (some true) else (some false))))
end
def laws_FnExactReadPlan.f (k : Nat) (a0 : ByteArray) : Option (Bool) := if (a0.size : Int) > 1048576 then (some true) else ((spec_ReadPlan.f k a0).bind fun bt248 => ((impl_ReadPlan.f k a0).bind fun bt252 => ((laws_eqPlanMarkS.f k bt252.1 bt248.1).bind fun t256 => (if t256 = true then (laws_FnExactReadPlan.j0 k a0 bt248.1 bt248.2 bt252.1 (bt252.2 != bt248.2)) else (laws_FnExactReadPlan.j0 k a0 bt248.1 bt248.2 bt252.1 true)))))
set_option maxHeartbeats 8000000 in
set_option maxRecDepth 100000 in
theorem laws_FnExactReadPlan.calls (k : Nat) (a0 : ByteArray) (r : Bool) (w : World) (h : laws_FnExactReadPlan.f k a0 = some r) :
  Calls Try.prog 6 #[.string a0] w fun e w' => e = .returned (.bool r) ∧ Below w.heap.size w w' := by
 have HB := za (zq w.heap.size w); have H : (if (a0.size : Int) > 1048576 then (some true) else ((spec_ReadPlan.f k a0).bind fun bt248 => ((impl_ReadPlan.f k a0).bind fun bt252 => ((laws_eqPlanMarkS.f k bt252.1 bt248.1).bind fun t256 => (if t256 = true then (laws_FnExactReadPlan.j0 k a0 bt248.1 bt248.2 bt252.1 (bt252.2 != bt248.2)) else (laws_FnExactReadPlan.j0 k a0 bt248.1 bt248.2 bt252.1 true)))))) = some r := h; clear h
 by_cases c2 : (a0.size : Int) > 1048576
 ·rw [zP c2] at H; have c2b0 : decide (1048576 < (a0.size : Int)) = true := zc c2; have c2b1 : decide (1048576 < a0.size) = true := zc (by omega); clear c2; obtain rfl := zl H
  go_enter Try.func6, Try.ntmps6
  go_wp2
  go_ret
  exact ⟨(qR9), (qR0)⟩
 ·rw [zQ c2] at H; have c2b0 : decide (1048576 < (a0.size : Int)) = false := zs c2; have c2b1 : decide (1048576 < a0.size) = false := zs (by omega); clear c2; replace H := bindA H; obtain ⟨⟨t248, t249⟩, A3, H⟩ := H; (try dsimp only at H); replace H := bindA H; obtain ⟨⟨t252, t253⟩, A4, H⟩ := H; (try dsimp only at H); have HC5 := za H; clear H
  go_enter Try.func6, Try.ntmps6
  go_upto_region 5 with (first | ((with_reducible refine zo (f := 31) rfl ?_); refine zJ (some 16) rfl rfl Try.func31 (qR8) rfl #[.string a0] rfl (qR4) ?_; (with_reducible refine (spec_ReadPlan.calls k a0 t248 t249 _ A3.1).mono ?_); rintro e w6 ⟨v250, rfl, ho0, hb⟩; refine ⟨_, rfl, ?_⟩; have HO251 := za (qR81 ho0); replace HB := za qR61; clear hb ho0) | ((with_reducible refine zo (f := 32) rfl ?_); refine zJ (some 21) rfl rfl Try.func32 (qR8) rfl #[.string a0] rfl (qR4) ?_; (with_reducible refine (impl_ReadPlan.calls k a0 t252 t253 _ A4.1).mono ?_); rintro e w7 ⟨v254, rfl, ho0, hb⟩; refine ⟨_, rfl, ?_⟩; have HO255 := za (by exact zE (Kd.R_new' ho0 (Kd.R_lt (qR1 HO251.1))) (zL (qR0))); replace HO251 := za (qR67 HO251.1 ho0); replace HB := za qR61; clear hb ho0))
  (try simp only [Act.put, zT, zU, zV])
  go_cut [32] (fun v32 wc => ∃ (kq : Nat) (x32_4 : Bool), v32 = .bool x32_4 ∧ Aside0 (laws_FnExactReadPlan.j0 kq a0 t248 t249 t252 x32_4 = some r) ∧ Aside0 (kq ≤ k) ∧ Aside0 (Kd.R k44 44 wc w.heap.size (fun k_ => some k_ ≠ (v254 : Value).ownBlock) v250 t248) ∧ Aside0 (Kd.R k44 44 wc w.heap.size (fun k_ => some k_ ≠ (v250 : Value).ownBlock) v254 t252) ∧ Aside0 (Below w.heap.size w wc))
  case first =>
   have H := HC5.1; clear HC5; replace H := bindA H; obtain ⟨t256, A8, H⟩ := H; (try dsimp only at H)
   by_cases c9 : t256 = true
   ·subst c9; rw [zP rfl] at H; have H' := za H; clear H; obtain ⟨Ao10, co10, eo10⟩ := zz HO255.1; subst eo10; obtain ⟨Ao11, co11, eo11⟩ := zz HO251.1; subst eo11
    go_wp2_with (first | ((with_reducible refine zo (f := 12) rfl ?_); refine zJ (some 26) rfl rfl Try.func12 (qR8) rfl #[.slice Ao10 t252.length co10, .slice Ao11 t248.length co11] rfl (qR4) ?_; (with_reducible refine (laws_eqPlanMarkS.calls k _ _ t252 _ _ t248 true _ ?s1 ?s2 ?s3 ?s4 A8.1).mono ?_); (case s1 => exact (qR13 HO255.1)); (case s2 => exact (qR41 HO255.1)); (case s3 => exact (qR13 HO251.1)); (case s4 => exact (qR41 HO251.1)); rintro e w12 ⟨rfl, hb⟩; refine ⟨_, rfl, ?_⟩; replace HO251 := za (qR64 HO251.1); replace HO255 := za (qR64 HO255.1); replace HB := za qR61; clear hb))
    go_meet
    case rel => exact ⟨_, ((t253 != t249)), (qR10), H', ⟨by first | omega | exact zn _⟩, ⟨(qR38 HO251.1)⟩, ⟨(qR38 HO255.1)⟩, ⟨(qR0)⟩⟩
   ·replace c9 := zm c9; subst c9; rw [zQ (show ¬ (false = true) by decide)] at H; have H' := za H; clear H; obtain ⟨Ao13, co13, eo13⟩ := zz HO255.1; subst eo13; obtain ⟨Ao14, co14, eo14⟩ := zz HO251.1; subst eo14
    go_wp2_with (first | ((with_reducible refine zo (f := 12) rfl ?_); refine zJ (some 26) rfl rfl Try.func12 (qR8) rfl #[.slice Ao13 t252.length co13, .slice Ao14 t248.length co14] rfl (qR4) ?_; (with_reducible refine (laws_eqPlanMarkS.calls k _ _ t252 _ _ t248 false _ ?s1 ?s2 ?s3 ?s4 A8.1).mono ?_); (case s1 => exact (qR13 HO255.1)); (case s2 => exact (qR41 HO255.1)); (case s3 => exact (qR13 HO251.1)); (case s4 => exact (qR41 HO251.1)); rintro e w15 ⟨rfl, hb⟩; refine ⟨_, rfl, ?_⟩; replace HO251 := za (qR64 HO251.1); replace HO255 := za (qR64 HO255.1); replace HB := za qR61; clear hb))
    go_meet
    case rel => exact ⟨_, (true), (qR10), H', ⟨by first | omega | exact zn _⟩, ⟨(qR38 HO251.1)⟩, ⟨(qR38 HO255.1)⟩, ⟨(qR0)⟩⟩
  case rest =>
   clear HC5; (try clear c2b0); (try clear c2b1); obtain ⟨kq, x32_4, rfl, HA, HJ4, HO_3, HO_5, HB⟩ := hcut
   cases kq with
   | zero => exact zF HA.1 (by simp [laws_FnExactReadPlan.j0])
   | succ kj4 =>
    have H := HA.1; clear HA; simp only [laws_FnExactReadPlan.j0] at H
    by_cases c16 : x32_4 = true
    ·subst c16; rw [zP rfl] at H; obtain rfl := zl H
     go_wp2
     go_ret
     exact ⟨(qR9), (qR0)⟩
    ·replace c16 := zm c16; subst c16; rw [zQ (show ¬ (false = true) by decide)] at H; replace H := bindA H; obtain ⟨⟨t257, t258⟩, A17, H⟩ := H; (try dsimp only at H); replace H := bindA H; obtain ⟨t259, A18, H⟩ := H; (try dsimp only at H)
     by_cases c19 : t259 < 0
     ·rw [zP c19] at H; have c19b0 : decide (t259 < 0) = true := zc c19; clear c19; obtain rfl := zl H; obtain ⟨Ao20, co20, eo20⟩ := zz HO_5.1; subst eo20
      go_wp2_with (first | ((with_reducible refine zo (f := 16) rfl ?_); refine zJ (some 35) rfl rfl Try.func16 (qR8) rfl #[.slice Ao20 t252.length co20, .int .i64 1] rfl (qR4) ?_; (with_reducible refine (laws_markPlanMarkS.calls kj4 (fun k_ => some k_ = (.slice Ao20 t252.length co20 : Value).ownBlock) (.slice Ao20 t252.length co20) t252 1 t257 t258 w _ ?s1 ?s2 A17.1).mono ?_); (case s1 => exact (qR0)); (case s2 => exact Kd.R_tight rfl HO_5.1); rintro e w21 ⟨rfl, hy0, hb, hkp⟩; refine ⟨_, rfl, ?_⟩; replace HO_3 := za (zA (ok' := fun k_ => some k_ ≠ (.slice Ao20 t252.length co20 : Value).ownBlock) (Kd.R_keptB (HO_3.1) hkp (fun k_ hk_ hs_ => (hk_) hs_)) (fun k_ hk_ => hk_.1)); replace HO_5 := za qR47; replace HB := za hb; clear hb) | ((with_reducible refine zo (f := 33) rfl ?_); refine zJ (some 38) rfl rfl Try.func33 (qR8) rfl #[.slice Ao20 t258.length co20, .int .i64 1] rfl (qR36) ?_; (with_reducible refine (laws_heldPlanMarkS.calls kj4 _ _ t258 1 t259 _ ?s1 ?s2 A18.1).mono ?_); (case s1 => exact (qR13 HO_5.1)); (case s2 => exact (qR42)); rintro e w22 ⟨rfl, hb⟩; refine ⟨_, rfl, ?_⟩; replace HO_3 := za (qR64 HO_3.1); replace HO_5 := za (qR64 HO_5.1); replace HB := za qR61; clear hb))
      go_ret
      exact ⟨(qR9), (qR0)⟩
     ·rw [zQ c19] at H; have c19b0 : decide (t259 < 0) = false := zs c19; clear c19
      by_cases c23 : t259 = t257
      ·rw [zP c23] at H; have c23b0 : (t259 == t257) = true := zH c23; have c23b1 : (t259 != t257) = false := zv c23; clear c23; replace H := bindA H; obtain ⟨⟨t260, t261⟩, A24, H⟩ := H; (try dsimp only at H); have HC25 := za H; clear H; obtain ⟨Ao26, co26, eo26⟩ := zz HO_5.1; subst eo26
       go_upto_region 16 with (first | ((with_reducible refine zo (f := 16) rfl ?_); refine zJ (some 35) rfl rfl Try.func16 (qR8) rfl #[.slice Ao26 t252.length co26, .int .i64 1] rfl (qR4) ?_; (with_reducible refine (laws_markPlanMarkS.calls kj4 (fun k_ => some k_ = (.slice Ao26 t252.length co26 : Value).ownBlock) (.slice Ao26 t252.length co26) t252 1 t257 t258 w _ ?s1 ?s2 A17.1).mono ?_); (case s1 => exact (qR0)); (case s2 => exact Kd.R_tight rfl HO_5.1); rintro e w27 ⟨rfl, hy0, hb, hkp⟩; refine ⟨_, rfl, ?_⟩; replace HO_3 := za (zA (ok' := fun k_ => some k_ ≠ (.slice Ao26 t252.length co26 : Value).ownBlock) (Kd.R_keptB (HO_3.1) hkp (fun k_ hk_ hs_ => (hk_) hs_)) (fun k_ hk_ => hk_.1)); replace HO_5 := za qR47; replace HB := za hb; clear hb) | ((with_reducible refine zo (f := 33) rfl ?_); refine zJ (some 38) rfl rfl Try.func33 (qR8) rfl #[.slice Ao26 t258.length co26, .int .i64 1] rfl (qR36) ?_; (with_reducible refine (laws_heldPlanMarkS.calls kj4 _ _ t258 1 t259 _ ?s1 ?s2 A18.1).mono ?_); (case s1 => exact (qR13 HO_5.1)); (case s2 => exact (qR42)); rintro e w28 ⟨rfl, hb⟩; refine ⟨_, rfl, ?_⟩; replace HO_3 := za (qR64 HO_3.1); replace HO_5 := za (qR64 HO_5.1); replace HB := za qR61; clear hb) | ((with_reducible refine zo (f := 32) rfl ?_); refine zJ (some 46) rfl rfl Try.func32 (qR8) rfl #[.string a0] rfl (qR4) ?_; (with_reducible refine (impl_ReadPlan.calls kj4 a0 t260 t261 _ A24.1).mono ?_); rintro e w29 ⟨v262, rfl, ho0, hb⟩; refine ⟨_, rfl, ?_⟩; have HO263 := za (by exact zE (Kd.R_new' (Kd.R_new' ho0 (Kd.R_lt (qR1 HO_3.1))) (Kd.R_lt (qR1 HO_5.1))) (zL (qR0))); replace HO_3 := za (qR67 HO_3.1 ho0); replace HO_5 := za (qR67 HO_5.1 ho0); replace HB := za qR61; clear hb ho0))
       (try simp only [Act.put, zT, zU, zV])
       go_cut [57] (fun v57 wc => ∃ (kq : Nat) (x57_24 : Bool), v57 = .bool x57_24 ∧ Aside0 (laws_FnExactReadPlan.j1 kq t258 t257 x57_24 = some r) ∧ Aside0 (kq ≤ kj4) ∧ Aside0 (Kd.R k44 44 wc w.heap.size (fun _ => True) (.slice Ao26 t252.length co26) t258) ∧ Aside0 (Below w.heap.size w wc))
       case first =>
        have H := HC25.1; clear HC25; replace H := bindA H; obtain ⟨t264, A30, H⟩ := H; (try dsimp only at H)
        by_cases c31 : t264 = true
        ·subst c31; rw [zP rfl] at H; have H' := za H; clear H; obtain ⟨Ao32, co32, eo32⟩ := zz HO263.1; subst eo32; obtain ⟨Ao33, co33, eo33⟩ := zz HO_3.1; subst eo33
         go_wp2_with (first | ((with_reducible refine zo (f := 12) rfl ?_); refine zJ (some 51) rfl rfl Try.func12 (qR8) rfl #[.slice Ao32 t260.length co32, .slice Ao33 t248.length co33] rfl (qR4) ?_; (with_reducible refine (laws_eqPlanMarkS.calls kj4 _ _ t260 _ _ t248 true _ ?s1 ?s2 ?s3 ?s4 A30.1).mono ?_); (case s1 => exact (qR13 HO263.1)); (case s2 => exact (qR41 HO263.1)); (case s3 => exact (qR13 HO_3.1)); (case s4 => exact (qR41 HO_3.1)); rintro e w34 ⟨rfl, hb⟩; refine ⟨_, rfl, ?_⟩; replace HO_3 := za (qR64 HO_3.1); replace HO_5 := za (qR64 HO_5.1); replace HO263 := za (qR64 HO263.1); replace HB := za qR61; clear hb))
         go_meet
         case rel => exact ⟨_, ((t261 != t249)), (qR10), H', ⟨by have := HJ4.1; first | omega | exact zn _⟩, ⟨(qR32 HO_5.1)⟩, ⟨(qR0)⟩⟩
        ·replace c31 := zm c31; subst c31; rw [zQ (show ¬ (false = true) by decide)] at H; have H' := za H; clear H; obtain ⟨Ao35, co35, eo35⟩ := zz HO263.1; subst eo35; obtain ⟨Ao36, co36, eo36⟩ := zz HO_3.1; subst eo36
         go_wp2_with (first | ((with_reducible refine zo (f := 12) rfl ?_); refine zJ (some 51) rfl rfl Try.func12 (qR8) rfl #[.slice Ao35 t260.length co35, .slice Ao36 t248.length co36] rfl (qR4) ?_; (with_reducible refine (laws_eqPlanMarkS.calls kj4 _ _ t260 _ _ t248 false _ ?s1 ?s2 ?s3 ?s4 A30.1).mono ?_); (case s1 => exact (qR13 HO263.1)); (case s2 => exact (qR41 HO263.1)); (case s3 => exact (qR13 HO_3.1)); (case s4 => exact (qR41 HO_3.1)); rintro e w37 ⟨rfl, hb⟩; refine ⟨_, rfl, ?_⟩; replace HO_3 := za (qR64 HO_3.1); replace HO_5 := za (qR64 HO_5.1); replace HO263 := za (qR64 HO263.1); replace HB := za qR61; clear hb))
         go_meet
         case rel => exact ⟨_, (true), (qR10), H', ⟨by have := HJ4.1; first | omega | exact zn _⟩, ⟨(qR32 HO_5.1)⟩, ⟨(qR0)⟩⟩
       case rest =>
        clear HC25; (try clear c16); (try clear c19b0); (try clear c23b0); (try clear c23b1); obtain ⟨kq, x57_24, rfl, HA, HJ24, HO_5, HB⟩ := hcut; have hl5_24 := (Kd.R_reads' HO_5.1).1; rw [hl5_24] at HO_5
        (try simp only [hl5_24])
        cases kq with
        | zero => exact zF HA.1 (by simp [laws_FnExactReadPlan.j1])
        | succ kj24 =>
         have H := HA.1; clear HA; simp only [laws_FnExactReadPlan.j1] at H
         by_cases c38 : x57_24 = true
         ·subst c38; rw [zP rfl] at H; obtain rfl := zl H
          go_wp2
          go_ret
          exact ⟨(qR9), (qR0)⟩
         ·replace c38 := zm c38; subst c38; rw [zQ (show ¬ (false = true) by decide)] at H; replace H := bindA H; obtain ⟨t265, A39, H⟩ := H; (try dsimp only at H)
          by_cases c40 : t265 < 0
          ·rw [zP c40] at H; have c40b0 : decide (t265 < 0) = true := zc c40; clear c40; obtain rfl := zl H
           go_wp2_with (first | ((with_reducible refine zo (f := 33) rfl ?_); refine zJ (some 60) rfl rfl Try.func33 (qR8) rfl #[.slice Ao26 t258.length co26, .int .i64 1] rfl (qR4) ?_; (with_reducible refine (laws_heldPlanMarkS.calls kj24 _ _ t258 1 t265 _ ?s1 ?s2 A39.1).mono ?_); (case s1 => exact (qR13 HO_5.1)); (case s2 => exact (qR41 HO_5.1)); rintro e w41 ⟨rfl, hb⟩; refine ⟨_, rfl, ?_⟩; replace HO_5 := za (qR64 HO_5.1); replace HB := za qR61; clear hb))
           go_ret
           exact ⟨(qR9), (qR0)⟩
          ·rw [zQ c40] at H; have c40b0 : decide (t265 < 0) = false := zs c40; clear c40
           by_cases c42 : t265 = t257
           ·rw [zP c42] at H; have c42b0 : (t265 == t257) = true := zH c42; have c42b1 : (t265 != t257) = false := zv c42; clear c42; obtain rfl := zl H
            go_wp2_with (first | ((with_reducible refine zo (f := 33) rfl ?_); refine zJ (some 60) rfl rfl Try.func33 (qR8) rfl #[.slice Ao26 t258.length co26, .int .i64 1] rfl (qR4) ?_; (with_reducible refine (laws_heldPlanMarkS.calls kj24 _ _ t258 1 t265 _ ?s1 ?s2 A39.1).mono ?_); (case s1 => exact (qR13 HO_5.1)); (case s2 => exact (qR41 HO_5.1)); rintro e w43 ⟨rfl, hb⟩; refine ⟨_, rfl, ?_⟩; replace HO_5 := za (qR64 HO_5.1); replace HB := za qR61; clear hb))
            go_ret
            exact ⟨(qR9), (qR0)⟩
           ·rw [zQ c42] at H; have c42b0 : (t265 == t257) = false := zu c42; have c42b1 : (t265 != t257) = true := zI c42; obtain rfl := zl H
            go_wp2_with (first | ((with_reducible refine zo (f := 33) rfl ?_); refine zJ (some 60) rfl rfl Try.func33 (qR8) rfl #[.slice Ao26 t258.length co26, .int .i64 1] rfl (qR4) ?_; (with_reducible refine (laws_heldPlanMarkS.calls kj24 _ _ t258 1 t265 _ ?s1 ?s2 A39.1).mono ?_); (case s1 => exact (qR13 HO_5.1)); (case s2 => exact (qR41 HO_5.1)); rintro e w44 ⟨rfl, hb⟩; refine ⟨_, rfl, ?_⟩; replace HO_5 := za (qR64 HO_5.1); replace HB := za qR61; clear hb))
            go_ret
            exact ⟨(qR9), (qR0)⟩
      ·rw [zQ c23] at H; have c23b0 : (t259 == t257) = false := zu c23; have c23b1 : (t259 != t257) = true := zI c23; obtain rfl := zl H; obtain ⟨Ao45, co45, eo45⟩ := zz HO_5.1; subst eo45
       go_wp2_with (first | ((with_reducible refine zo (f := 16) rfl ?_); refine zJ (some 35) rfl rfl Try.func16 (qR8) rfl #[.slice Ao45 t252.length co45, .int .i64 1] rfl (qR4) ?_; (with_reducible refine (laws_markPlanMarkS.calls kj4 (fun k_ => some k_ = (.slice Ao45 t252.length co45 : Value).ownBlock) (.slice Ao45 t252.length co45) t252 1 t257 t258 w _ ?s1 ?s2 A17.1).mono ?_); (case s1 => exact (qR0)); (case s2 => exact Kd.R_tight rfl HO_5.1); rintro e w46 ⟨rfl, hy0, hb, hkp⟩; refine ⟨_, rfl, ?_⟩; replace HO_3 := za (zA (ok' := fun k_ => some k_ ≠ (.slice Ao45 t252.length co45 : Value).ownBlock) (Kd.R_keptB (HO_3.1) hkp (fun k_ hk_ hs_ => (hk_) hs_)) (fun k_ hk_ => hk_.1)); replace HO_5 := za qR47; replace HB := za hb; clear hb) | ((with_reducible refine zo (f := 33) rfl ?_); refine zJ (some 38) rfl rfl Try.func33 (qR8) rfl #[.slice Ao45 t258.length co45, .int .i64 1] rfl (qR36) ?_; (with_reducible refine (laws_heldPlanMarkS.calls kj4 _ _ t258 1 t259 _ ?s1 ?s2 A18.1).mono ?_); (case s1 => exact (qR13 HO_5.1)); (case s2 => exact (qR42)); rintro e w47 ⟨rfl, hb⟩; refine ⟨_, rfl, ?_⟩; replace HO_3 := za (qR64 HO_3.1); replace HO_5 := za (qR64 HO_5.1); replace HB := za qR61; clear hb))
       go_ret
       exact ⟨(qR9), (qR0)⟩

end Go.Proofs.Ytckidmhkhlbkeaa.MR
