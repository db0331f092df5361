-- tight2 (a walk)
import Derived.RangeFuncNested
import Derived.RangeFuncBound
import Derived.RangeFuncCalls
import Derived.RangeFuncLeaves
import Derived.RangeFuncBox
import Derived.Shelf.Abstract
import Derived.Shelf.RegionOpen
import Derived.OwnWalkIn
import Derived.TacticsInMore
import Derived.LoopNIn
import Derived.LoopIn
import Derived.Test.YtckidmhkhlbkeaaSort
import Derived.Maps.OwnIn
import Derived.Sort.OwnSortedInts
import Derived.OrdersIn
import Derived.TacticsIn
import Derived.RegionIn
import Derived.Test.YtckidmhkhlbkeaaMKx0
import Derived.Test.YtckidmhkhlbkeaaMKx3
namespace Go.Proofs.Ytckidmhkhlbkeaa.MK
open Go.RowKit Go.Proofs.YtckidmhkhlbkeaaW.PrintWords Go.Proofs.YtckidmhkhlbkeaaW.PrintLast
set_option maxRecDepth 100000
attribute [local go_sem] max2_int min2_int max_two min_two
set_option linter.unusedVariables false
set_option linter.unusedSimpArgs false

-- NOT PRINTED: function 113 (bytealg_IndexByteString)

-- NOT PRINTED: function 96 (stringslite_IndexByte)

-- NOT PRINTED: function 85 (strings_IndexByte)

-- NOT PRINTED: function 84 (strings_Lines_1)

-- NOT PRINTED: function 69 (strings_Lines)

-- NOT PRINTED: function 97 (impl_PlanMark_97)

-- NOT PRINTED: function 114 (impl_PlanMark_114)

-- NOT PRINTED: function 98 (impl_PlanMark_98)

-- not wanted: slices.SortFunc has the library's contract


-- not wanted: slices.SortFunc has the library's contract


-- not wanted: slices.SortFunc has the library's contract


-- NOT PRINTED: function 115 (slices_nextPowerOfTwo)

-- NOT PRINTED: function 116 (slices_xorshift_Next)

-- NOT PRINTED: function 99 (impl_PlanMark_99)

-- NOT PRINTED: function 120 (impl_PlanMark_120)

-- NOT PRINTED: function 118 (impl_PlanMark_118)

-- NOT PRINTED: function 117 (impl_PlanMark_117)

-- NOT PRINTED: function 100 (impl_PlanMark_100)

-- NOT PRINTED: function 101 (impl_PlanMark_101)

-- NOT PRINTED: function 102 (impl_PlanMark_102)

-- NOT PRINTED: function 103 (impl_PlanMark_103)

-- NOT PRINTED: function 104 (impl_PlanMark_104)

-- NOT PRINTED: function 86 (impl_PlanMark_86)

-- NOT PRINTED: function 70 (impl_PlanMark_70)

-- NOT PRINTED: function 107 (bytealg_abigen_runtime_cmpstring)

-- NOT PRINTED: function 88 (bytealg_CompareString)

-- NOT PRINTED: function 72 (strings_Compare)

-- NOT PRINTED: function 71 (impl_ReadPlan_1)

attribute [local go_sem] Oper.semAt_some
-- Where the first line of a text ends; -1: nowhere.
def ln_i (s : ByteArray) : Int := Lib.indexByte s.data.toList 10
-- The lines of a text, each with its newline.
inductive IsLns : ByteArray → List ByteArray → Prop
 | nil {s : ByteArray} : s.size = 0 → IsLns s []
 | more {s : ByteArray} {L : List ByteArray} : 0 ≤ ln_i s → ln_i s + 1 ≤ s.size → IsLns (s.extract (ln_i s + 1).toNat s.size) L → IsLns s (s.extract 0 (ln_i s + 1).toNat :: L)
 | last {s : ByteArray} : 0 < s.size → ln_i s < 0 → IsLns s [s]
set_option maxHeartbeats 4000000 in
theorem ln84.loop_in (l Bs : Nat) (s0 : ByteArray) (L0 : List ByteArray) (hL : IsLns s0 L0) (hs0 : s0.size ≤ 140737488355328) (J : List ByteArray → World → Prop) (Jx : World → Prop)
  (hY : ∀ pre x L W, L0 = pre ++ x :: L → J pre W → YieldAt Fence.wide 3 Try.prog l #[.string x] W fun e W' =>
   (e = .returned (.bool true) ∧ J (pre ++ [x]) W' ∧ W'.heap[Bs]? = W.heap[Bs]?) ∨ (e = .returned (.bool false) ∧ Jx W'))
  (hJ : ∀ pre W W', J pre W → W.grownBy W' (some Bs) → J pre W')
  (W : World) (hB0 : W.heap[Bs]? = some (.cells #[.string s0] 9 (0, 0))) (h0 : J [] W) :
  CallsIn Fence.wide 4 Try.prog 84 #[.func (.yield l) #[] #[], .pointer (some ⟨Bs, 0, none⟩)] W fun e W' => (∃ v, e = .returned v) ∧ (J L0 W' ∨ Jx W') := by
 refine callsIn_of_wp Try.func84 rfl trivial ?_ rfl
 simp only [Try.ntmps84, List.size_toArray, List.length_cons, List.length_nil, Nat.reduceAdd, Nat.reduceSub, Array.replicate_succ, Array.replicate_zero, List.push_toArray, List.append_toArray, List.nil_append, List.cons_append]
 gi_wp2
 gi_loopw [] (fun wr => ∃ (pre : List ByteArray) (s : ByteArray) (L : List ByteArray), L0 = pre ++ L ∧ IsLns s L ∧ s.size ≤ s0.size ∧ wr.heap[Bs]? = some (.cells #[.string s] 9 (0, 0)) ∧ J pre wr)
  (fun wr => (match wr.cell? ⟨Bs, 0, none⟩ with | some (.string s) => s.size | _ => 0))
 case atStart => exact ⟨[], s0, L0, rfl, hL, zn _, hB0, h0⟩
 case round =>
  obtain ⟨pre, s, L, eL, hs, hsz, hb, hj⟩ := hrel; have hc := World.cell?_of_block (a := ⟨Bs, 0, none⟩) (show wr.heap[Bs]? = wr.heap[Bs]? from rfl); have hc0 : wr.cell? ⟨Bs, 0, none⟩ = some (.string s) := (blk_cell hb 0).trans rfl; have hf0 : wr.frozen? ⟨Bs, 0, none⟩ = false := ze hb 0; have hX := Try.strings_IndexByte s 10 wr; rw [show ((10 : Int).toNat.toUInt8) = 10 from rfl] at hX; have hXi : CallsIn Fence.wide 3 Try.prog 85 #[.string s, .int .u8 10] wr fun e w' => e = .returned (.int .i64 (ln_i s)) ∧ w' = wr := callsIn_wide.2 hX; clear hc
  have hm0 : (match wr.cell? ⟨Bs, 0, none⟩ with | some (.string s) => s.size | _ => 0) = s.size := by rw [hc0]
  rw [hm0]
  cases hs with
  | nil h =>
   have d0 : decide ((0 : Int) < (s.size : Int)) = false := zu (by omega); have e0 : decide (0 < s.size) = false := zu (by omega)
   gi_wp2
   rw [List.append_nil] at eL; subst eL
   go_end0
   exact ⟨⟨_, rfl⟩, .inl hj⟩
  | last h0 h1 =>
   have d0 : decide ((0 : Int) < (s.size : Int)) = true := zc (by omega); have e0 : decide (0 < s.size) = true := zc (by omega); have d1 : decide ((0 : Int) ≤ ln_i s) = false := zu (by omega); have d2 : decide (ln_i s < (0 : Int)) = true := zc (by omega); obtain ⟨ii, hii⟩ : ∃ ii, ln_i s = ii := ⟨_, rfl⟩; rw [hii] at hXi d1 d2; have HII := za hii; clear hii; obtain ⟨fn, tmps, assign, body, hy, hR⟩ := hY pre s [] (wr.setCell ⟨Bs, 0, none⟩ (.string ⟨#[]⟩)) eL (hJ _ _ _ hj (grownBy_setCell' _ _ _))
   have hb2 : (wr.setCell ⟨Bs, 0, none⟩ (.string ⟨#[]⟩)).heap[Bs]? = some (.cells #[.string ⟨#[]⟩] 9 (0, 0)) := by simp [World.setCell, Array.getElem?_modify, hb]
   gi_wp2_with (refine ⟨trivial, ?_⟩; gi_at_call 85; refine hXi.mono ?_; rintro e w1 ⟨rfl, rfl⟩)
   refine hR.mono ?_
   rintro e W3 (⟨rfl, hJ3, hk3⟩ | ⟨rfl, hJx3⟩)
   ·gi_wp2
    go_roundw
    case rel => exact ⟨pre ++ [s], ⟨#[]⟩, [], by rw [eL, List.append_nil], .nil rfl, Nat.zero_le _, hk3.trans hb2, hJ3⟩
    case measure =>
     have : W3.cell? ⟨Bs, 0, none⟩ = some (.string ⟨#[]⟩) := (blk_cell (hk3.trans hb2) 0).trans rfl; rw [this]
     exact h0
   ·gi_wp2
    refine bodyPost_ret (results_none rfl _ _ _) rfl ?_
    exact ⟨⟨_, rfl⟩, .inr hJx3⟩
  | more h0 h1 h2 =>
   rename_i L
   have d0 : decide ((0 : Int) < (s.size : Int)) = true := zc (by omega); have e0 : decide (0 < s.size) = true := zc (by omega); have d1 : decide ((0 : Int) ≤ ln_i s) = true := zc (by omega); have d2 : decide (ln_i s < (0 : Int)) = false := zu (by omega); obtain ⟨ii, hii⟩ : ∃ ii : Nat, ln_i s + 1 = ii := ⟨(ln_i s + 1).toNat, by omega⟩; rw [hii] at h1 h2 eL; rw [Int.toNat_natCast] at eL h2
   have wi : wrap64 (ln_i s + 1) = (ii : Int) := by unfold wrap64; omega
   have hii2 : ii ≤ s.size := by omega
   obtain ⟨jj, hjj⟩ : ∃ jj, ln_i s = jj := ⟨_, rfl⟩; rw [hjj] at hXi d1 d2 wi; have HII := za (And.intro hii hjj); clear hii hjj h0 
   obtain ⟨fn, tmps, assign, body, hy, hR⟩ := hY pre (s.extract 0 ii) L (wr.setCell ⟨Bs, 0, none⟩ (.string (s.extract ii s.size))).drew eL (hJ _ _ _ hj ⟨rfl, rfl, rfl, by simp [World.setCell], fun k _ hk => by
    exact Below.heap_setCell _ _ _ _ (fun e => hk (by simp [e]))⟩)
   have hb2 : (wr.setCell ⟨Bs, 0, none⟩ (.string (s.extract ii s.size))).drew.heap[Bs]? = some (.cells #[.string (s.extract ii s.size)] 9 (0, 0)) := by
    show (wr.setCell ⟨Bs, 0, none⟩ (.string (s.extract ii s.size))).heap[Bs]? = _
    simp [World.setCell, Array.getElem?_modify, hb]
   gi_wp2_with (refine ⟨trivial, ?_⟩; gi_at_call 85; refine hXi.mono ?_; rintro e w1 ⟨rfl, rfl⟩)
   have hm : Try.prog.follows .mixedOrders = true := by kernel_rfl
   gi_region
   gi_wp2
   refine hR.mono ?_
   rintro e W3 (⟨rfl, hJ3, hk3⟩ | ⟨rfl, hJx3⟩)
   ·gi_wp2
    go_roundw
    case rel => exact ⟨pre ++ [s.extract 0 ii], s.extract ii s.size, L, by rw [eL, List.append_assoc]; rfl, h2, by rw [ByteArray.size_extract]; omega, hk3.trans hb2, hJ3⟩
    case measure =>
     have : W3.cell? ⟨Bs, 0, none⟩ = some (.string (s.extract ii s.size)) := (blk_cell (hk3.trans hb2) 0).trans rfl; rw [this]; have := HII.1; have h5 := zb d1; simp only [ByteArray.size_extract]
     omega
   ·gi_wp2
    refine bodyPost_ret (results_none rfl _ _ _) rfl ?_
    exact ⟨⟨_, rfl⟩, .inr hJx3⟩
theorem ln69.maker_in (F : Fence) (n : Nat) (h6 : F.fn 69) (hro : F.round = none) (s : ByteArray) (w : World) :
  CallsIn F n Try.prog 69 #[.string s] w fun e w' => e = .returned (.func (.func 84) #[] #[.pointer (some ⟨w.heap.size, 0, none⟩)]) ∧ w' = w.alloc (.cells #[.string s] 9) := by
 refine callsIn_of_wp Try.func69 rfl h6 ?_ hro
 simp only [Try.ntmps69, List.size_toArray, List.length_cons, List.length_nil, Nat.reduceAdd, Nat.reduceSub, Array.replicate_succ, Array.replicate_zero, List.push_toArray, List.append_toArray, List.nil_append, List.cons_append]
 gi_wp2
 refine bodyPost_ret (results_tmp rfl _ _ _) rfl ?_
 exact ⟨rfl, rfl⟩
-- How the body of a round may be left.
def lnPost (B Bs : Nat) (I : List ByteArray → World → Prop) (Ix : World → Prop) (xs : List ByteArray) (W : World) : Exit → Act → World → Prop
 | .normal, _, W' => KeepsFrom B W W' ∧ W'.heap[Bs]? = W.heap[Bs]? ∧ I xs W'
 | .ret, _, W' => KeepsFrom B W W' ∧ Ix W'
 | _, _, _ => False
theorem ln_range {g : Operand} {ps : Array Tmp} {assign body : Code} {Q : Exit → Act → World → Prop} {a : Act} {w : World} {Bs : Nat} {s0 : ByteArray} {L0 : List ByteArray}
  (hg : a.eval g = .func (.func 84) #[] #[.pointer (some ⟨Bs, 0, none⟩)]) (hps : ps.size = 1) (hL : IsLns s0 L0) (hs0 : s0.size ≤ 140737488355328) (hB : w.heap[Bs]? = some (.cells #[.string s0] 9 (0, 0)))
  (I : List ByteArray → World → Prop) (Ix : World → Prop)
  (hI : ∀ pre W W' row, I pre W → W.grownBy W' row → (∀ r, row = some r → r = Bs ∨ (w.heap.size ≤ r ∧ ∃ o : Obj, W.heap[r]? = some o ∧ o.isCells = false)) → I pre W')
  (hIx : ∀ W W' row, Ix W → W.grownBy W' row → (∀ r, row = some r → w.heap.size ≤ r ∧ ∃ o : Obj, W.heap[r]? = some o ∧ o.isCells = false) → Ix W')
  (h0 : I [] w) (a₁ : ByteArray → Act)
  (hassign : ∀ (l : Nat) (x : ByteArray) (W : World) (K : Act → World → Prop), K (a₁ x) W →
   assign.wpIn (Fence.wide.inRound l) 3 Try.prog (Exit.then K (fun _ _ _ => False)) { tmps := (ps.zip #[.string x]).foldl (fun t (p, v) => t.setIfInBounds p v) a.tmps, defers := [] } W)
  (hbody : ∀ (l : Nat) (pre : List ByteArray) (x : ByteArray) (L : List ByteArray) (W : World), L0 = pre ++ x :: L → w.heap.size ≤ l → I pre W → body.wpIn (Fence.wide.inRound l) 3 Try.prog (lnPost w.heap.size Bs I Ix (pre ++ [x]) W) (a₁ x) W)
  (hdone : ∀ (D : Nat) (W : World), w.heap.size ≤ D → I L0 W → W.heap[D]? = some (.deferred (some [])) → Q .normal { a with defers := { target := .collected D, args := #[] } :: a.defers } W)
  (hstop : ∀ (D : Nat) (W : World), w.heap.size ≤ D → Ix W → W.heap[D]? = some (.deferred (some [])) → Code.ret.wpIn Fence.wide 5 Try.prog Q { a with defers := { target := .collected D, args := #[] } :: a.defers } W) :
  (Code.rangeFunc g ps assign body).wpIn Fence.wide 5 Try.prog Q a w := by
 have hBl : Bs < w.heap.size := blk_lt hB
 refine wpIn_rangeFunc ?_
 intro fn hfn
 show ∃ _, _
 obtain ⟨rec, hrec⟩ : ∃ rec : LoopState → Option Code → Loop, rec = fun st pe => { state := st, pending := pe, fn, tmps := a.tmps, params := ps, assign, body, defers := w.heap.size } := ⟨_, rfl⟩; obtain ⟨W1, hW1⟩ : ∃ W1, (w.alloc (.deferred (some []))).alloc (.loop (rec .ready none)) = W1 := ⟨_, rfl⟩
 have hL1 : W1.heap[w.heap.size + 1]? = some (.loop (rec .ready none)) := by
  rw [← hW1]; have := World.alloc_heap_new (w.alloc (.deferred (some []))) (.loop (rec .ready none)); rwa [World.size_alloc] at this
 have hK1 : W1.heap[w.heap.size]? = some (.deferred (some [])) := by
  rw [← hW1]; exact (Below.heap_alloc _ _ _ (by simp)).trans (World.alloc_heap_new w _)
 have hIa : ∀ {pre : List ByteArray} {W : World} (o : Obj), I pre W → I pre (W.alloc o) := fun o h => hI _ _ _ none h (World.grownBy_alloc _ o none) (fun r e => by cases e)
 have hIp : ∀ {pre : List ByteArray} {W : World} {l : Nat} {o : Obj} (o' : Obj), I pre W → w.heap.size ≤ l → W.heap[l]? = some o → o.isCells = false → I pre (W.putObj l o') := fun o' h hl ho hc => hI _ _ _ (some _) h (grownBy_putObj' _ _ o') (fun r e => by cases e; exact .inr ⟨hl, _, ho, hc⟩)
 have hIxp : ∀ {W : World} {l : Nat} {o : Obj} (o' : Obj), Ix W → w.heap.size ≤ l → W.heap[l]? = some o → o.isCells = false → Ix (W.putObj l o') := fun o' h hl ho hc => hIx _ _ (some _) h (grownBy_putObj' _ _ o') (fun r e => by cases e; exact ⟨hl, _, ho, hc⟩)
 have hI1 : I [] W1 := by rw [← hW1]; exact hIa _ (hIa _ h0)
 have hB1 : W1.heap[Bs]? = some (.cells #[.string s0] 9 (0, 0)) := by
  rw [← hW1]; exact (Below.heap_alloc _ _ _ (by simp; omega)).trans ((Below.heap_alloc _ _ _ hBl).trans hB)
 refine ⟨w.heap.size + 1, [{ target := .collected w.heap.size, args := #[] }], W1, { target := .fn (.func 84) #[.pointer (some ⟨Bs, 0, none⟩)], args := #[.func (.yield (w.heap.size + 1)) #[] #[]] }, W1, 84,
  #[.func (.yield (w.heap.size + 1)) #[] #[]] ++ #[.pointer (some ⟨Bs, 0, none⟩)], W1, ?_, ?_, ?_, ?_, fun _ => by decide, ?_⟩
 ·rw [← hW1, hrec]; exact run_enterLoop_outer _ _ _ _ _
 ·simp only [resolve, hg]
  simp [go_sem]
 ·intro f' hf'; trivial
 ·have eg : ∀ args w, (callFunc 84 args).run Try.prog w = .ok (.enter 84 args) w := enters_of Try.func84 (qK18) rfl
  simp [invoke, go_sem, eg]
 ·refine (ln84.loop_in (w.heap.size + 1) Bs s0 L0 hL hs0
   (fun pre W => I pre W ∧ W.heap[w.heap.size + 1]? = some (.loop (rec .ready none)) ∧ W.heap[w.heap.size]? = some (.deferred (some [])))
   (fun W => Ix W ∧ W.heap[w.heap.size + 1]? = some (.loop (rec .done (some .ret))) ∧ W.heap[w.heap.size]? = some (.deferred (some [])))
   ?_ ?_ W1 hB1 ⟨hI1, hL1, hK1⟩).mono ?_
  ·-- one round
   rintro pre x L W eL ⟨hi, hl, hk⟩
   have hlt : w.heap.size + 1 < W.heap.size := (Array.getElem?_eq_some_iff.1 hl).1; have hy := run_yield (P := Try.prog) (args := #[.string x]) hl (by rw [hrec]; exact hps.symm); rw [hrec] at hy
   refine ⟨fn, _, assign, body, hy, roundIn_of_wpIn hfn (hassign _ x W _ ?_)⟩
   clear hy
   refine ⟨_, run_beginRound hl (by rw [hrec]), ?_⟩
   have hl2 : (W.putObj (w.heap.size + 1) (.loop { rec .ready none with state := .busy })).heap[w.heap.size + 1]? = some (.loop { rec .ready none with state := .busy }) := World.putObj_heap_same hlt
   have hk2 : (W.putObj (w.heap.size + 1) (.loop { rec .ready none with state := .busy })).heap[w.heap.size]? = some (.deferred (some [])) := (World.putObj_heap_other (by omega)).trans hk
   have hb2 : (W.putObj (w.heap.size + 1) (.loop { rec .ready none with state := .busy })).heap[Bs]? = W.heap[Bs]? := World.putObj_heap_other (by omega)
   refine wpIn_mono (hbody _ pre x L _ eL (by omega) (hIp _ hi (by omega) hl rfl)) ?_
   have fin : ∀ (jump : Option Code) (W3 : World), KeepsFrom w.heap.size (W.putObj (w.heap.size + 1) (.loop { rec .ready none with state := .busy })) W3 →
     (Instr.endRound (w.heap.size + 1) jump).run Try.prog W3 = .ok (.bool jump.isNone) (W3.putObj (w.heap.size + 1) (.loop (rec (if jump.isNone then .ready else .done) jump))) ∧
     W3.heap[w.heap.size + 1]? = some (.loop { rec .ready none with state := .busy }) ∧
     (W3.putObj (w.heap.size + 1) (.loop (rec (if jump.isNone then .ready else .done) jump))).heap[w.heap.size + 1]? = some (.loop (rec (if jump.isNone then .ready else .done) jump)) ∧
     (W3.putObj (w.heap.size + 1) (.loop (rec (if jump.isNone then .ready else .done) jump))).heap[w.heap.size]? = some (.deferred (some [])) := fun jump W3 hk3 => by
    have hl3 := hk3.same _ _ (by omega) hl2 rfl; have := run_endRound (P := Try.prog) jump hl3; rw [hrec] at this ⊢
    exact ⟨this, by rw [hrec] at hl3; exact hl3, World.putObj_heap_same (Array.getElem?_eq_some_iff.1 hl3).1, (World.putObj_heap_other (by omega)).trans (hk3.same _ _ (zn _) hk2 rfl)⟩
   rintro e a3 W3 hp
   cases e with
   | normal =>
    obtain ⟨hk3, hkb, hi3⟩ := hp; obtain ⟨hr, hl3, hl4, hk4⟩ := fin none W3 hk3
    exact ⟨_, _, hr, .inl ⟨rfl, ⟨hIp _ hi3 (by omega) hl3 rfl, hl4, hk4⟩, (World.putObj_heap_other (by omega)).trans (hkb.trans hb2)⟩⟩
   | ret =>
    obtain ⟨hk3, hi3⟩ := hp; obtain ⟨hr, hl3, hl4, hk4⟩ := fin (some .ret) W3 hk3
    exact ⟨_, _, hr, .inr ⟨rfl, hIxp _ hi3 (by omega) hl3 rfl, hl4, hk4⟩⟩
   | exit id => exact hp.elim
   | goto t => exact hp.elim
   | panic ch => exact hp.elim
   | outgrown => exact hp.elim
  ·rintro pre W W' ⟨hi, hl, hk⟩ hg'
   exact ⟨hI _ _ _ _ hi hg' (fun r e => by cases e; exact .inl rfl), (hg'.block _ (Array.getElem?_eq_some_iff.1 hl).1 (fun e => by simp at e; omega)).trans hl, (hg'.block _ (Array.getElem?_eq_some_iff.1 hk).1 (fun e => by simp at e; omega)).trans hk⟩
  ·rintro e W2 ⟨⟨v, rfl⟩, (⟨hi, hl, hk⟩ | ⟨hi, hl, hk⟩)⟩
   ·exact ⟨none, _, by have := run_endLoop (P := Try.prog) hl (by rw [hrec]; simp); rw [hrec] at this; exact this, hdone _ _ (zn _) (hIp _ hi (by omega) hl rfl) ((World.putObj_heap_other (by omega)).trans hk)⟩
   ·exact ⟨some .ret, _, by have := run_endLoop (P := Try.prog) hl (by rw [hrec]; simp); rw [hrec] at this; exact this, hstop _ _ (zn _) (hIxp _ hi (by omega) hl rfl) ((World.putObj_heap_other (by omega)).trans hk)⟩
theorem append_cells_in {F : Fence} {nn : Nat} {P : Program} {ops : Array Oper} {o : Oper} {rest : List Oper} {a : Act} {Q : Exit → Act → World → Prop} {w0 W : World} (base : Nat) (hgd : o.guard = none) (s x : Operand) (t e : TypeId) (z : Value) (size bytes : Nat)
  (ho : o.op = .call { callee := .builtin .append, args := #[s, x], argTypes := #[t, t] })
  (ht : P.underlying t = some (.slice e)) (hinfo : (P.info? e).map (fun i => (i.zero, i.size, i.bytes)) = some (some z, size, bytes)) (hz : z.cells.size = size) (hs0 : 0 < size) (hb0 : 0 < bytes)
  (v : Value) (n : Nat) (xs ys : List Value) (hs : a.eval s = v) (hx : a.eval x = .slice (some ⟨W.heap.size, 0, none⟩) 1 1) (hys : ys.length = size) (h1 : ∀ u ∈ ys, u.oneCell' = true)
  (HO : W.ownsRow base e size v n xs) (HB : Below base w0 W) (hbase : base ≤ W.heap.size) (hl : (n + 1) * bytes ≤ 140737488355328)
  (h : ∀ v1 w1, w1.ownsRow base e size v1 (n + 1) (xs ++ ys) → Below base w0 w1 → W.grownBy w1 v.ownBlock → (v1.ownBlock = v.ownBlock ∨ ∃ b, v1.ownBlock = some b ∧ W.heap.size ≤ b) → wpListIn F nn P ops Q rest (a.put o.dst v1) w1) :
  wpListIn F nn P ops Q (o :: rest) a (W.alloc (.cells ys.toArray e)) := by
 obtain ⟨i0, hi, hzz⟩ := Option.map_eq_some_iff.1 hinfo; simp only [ya] at hzz; obtain ⟨hz0, hz1, hz2⟩ := hzz; have hlen : n + 1 ≤ 140737488355328 := Nat.le_trans (Nat.le_mul_of_pos_right _ hb0) hl
 refine wpListIn_append_own_at (W.alloc (.cells ys.toArray e)) hgd s x t ho base e i0 z size bytes ht hi hz0 hz1 hz2 hz hs0 v n xs hs (HO.alloc _) ⟨W.heap.size, 0, none⟩ 1 1 ys hx (by rw [hys]; simp)
  (by simpa using World.news_of_block (cs := ys.toArray) (t := e) (fr := (0, 0)) (World.alloc_heap_new W (.cells ys.toArray e))) h1 (by simp only [maxLen]; omega) hl (by simp; omega) ?_
 intro v1 w1 hown hg _ hat
 refine h v1 w1 hown ((HB.alloc hbase _).grown hg (by simp; omega) (own_base HO)) (World.grownBy.trans (World.grownBy_alloc W _ _) hg) ?_
 rcases hat with hat | hat
 ·exact .inl hat
 ·exact .inr ⟨_, hat, by simp⟩
theorem R44_append_in {F : Fence} {nn : Nat} {ops : Array Oper} {o : Oper} {rest : List Oper} {a : Act} {Q : Exit → Act → World → Prop} {w0 W : World} (base : Nat) (hgd : o.guard = none) (s x : Operand)
  (ho : o.op = .call { callee := .builtin .append, args := #[s, x], argTypes := #[26, 26] })
  (v : Value) (xs : List S44) (p : S44) (ok : Nat → Prop) (hs : a.eval s = v) (hx : a.eval x = .slice (some ⟨W.heap.size, 0, none⟩) 1 1) (hfresh : ∀ k, W.heap.size ≤ k → ok k)
  (HO : Kd.R k44 44 W base ok v xs) (HB : Below base w0 W) (hbase : base ≤ W.heap.size) (hl : (xs.length + 1) * 32 ≤ 140737488355328)
  (h : ∀ v1 w1, Kd.R k44 44 w1 base ok v1 (xs ++ [p]) → Below base w0 w1 → W.grownBy w1 v.ownBlock → wpListIn F nn Try.prog ops Q rest (a.put o.dst v1) w1) :
  wpListIn F nn Try.prog ops Q (o :: rest) a (W.alloc (.cells #[.string p.f0, .int .i64 p.f1, .int .i64 p.f2] 44)) := by
 obtain ⟨h0, inner, hown, hr⟩ := HO; have hp := k44_mkM W base (fun _ => False) p
 refine append_cells_in base hgd s x 26 44 (.agg #[(.string ⟨#[]⟩), (.int .i64 0), (.int .i64 0)]) k44.sz 32 ho Try.underlying26 info44 rfl (by decide) (by omega) v xs.length inner [.string p.f0, .int .i64 p.f1, .int .i64 p.f2] hs hx (k44.K_len (k44.K_of_M hp)) (k44.K_one (k44.K_of_M hp)) hown HB hbase hl ?_
 intro v1 w1 hown1 hb1 hg1 hat1
 exact h v1 w1 (Kd.R_appended h0 hr hp (fun _ hk => hk.elim) hfresh hown1 hg1 hat1) hb1 hg1
def rd_upto (y : Int) (s : ByteArray) : Nat → List S44
 | 0 => []
 | i + 1 => rd_upto y s i ++ (if 65 ≤ bt s i ∧ bt s i ≤ 90 then [⟨Utf8.encode (bt s i), i, -y⟩] else [])
def rd_all (y : Int) : List ByteArray → List S44
 | [] => []
 | s :: L => rd_upto y s s.size ++ rd_all (y + 1) L
theorem rd_all_snoc (s : ByteArray) : ∀ (y : Int) (L : List ByteArray), rd_all y (L ++ [s]) = rd_all y L ++ rd_upto (y + L.length) s s.size
 | y, [] => by simp [rd_all]
 | y, x :: L => by simp [rd_all, rd_all_snoc s (y + 1) L, Int.add_assoc, Int.add_comm 1]
theorem rd_upto_len (y : Int) (s : ByteArray) : ∀ i, (rd_upto y s i).length ≤ i
 | 0 => zn _
 | i + 1 => by
  have := rd_upto_len y s i; simp only [rd_upto, List.length_append]
  split <;> simp <;> omega
theorem rd_all_len : ∀ (y : Int) (L : List ByteArray), (∀ x ∈ L, x.size ≤ 21) → (rd_all y L).length ≤ 21 * L.length
 | y, [], _ => zn _
 | y, x :: L, h => by
  have h1 := rd_all_len (y + 1) L (fun z hz => h z (List.mem_cons_of_mem _ hz)); have h2 := rd_upto_len y x x.size; have h3 := h x List.mem_cons_self; simp only [rd_all, List.length_append, List.length_cons]
  omega
theorem IsLns.le {s : ByteArray} {L : List ByteArray} (h : IsLns s L) : ∀ x ∈ L, x.size ≤ s.size := by
 induction h with
 | nil _ => intro x hx; cases hx
 | last _ _ => intro x hx; rw [List.mem_singleton] at hx; rw [hx]; exact zn _
 | more h0 h1 h2 ih =>
  intro x hx
  rcases List.mem_cons.1 hx with rfl | hx
  ·rw [ByteArray.size_extract]; omega
  ·have := ih x hx; rw [ByteArray.size_extract] at this
   omega
-- The state of the reading.
structure RSt (w : World) (B2 B3 B4 B5 Bs : Nat) (v : Value) (acc : List S44) (y : Int) (W : World) : Prop where
 b : Below w.heap.size w W
 g2 : w.heap.size ≤ B2
 l : W.heap[B4]? = some (.cells #[v] 26 (0, 0))
 y : W.heap[B5]? = some (.cells #[.int .i64 y] 3 (0, 0))
 q : W.heap[B2]? = some (.cells #[.slice none 0 0] 26 (0, 0))
 o : W.heap[B3]? = some (.cells #[.bool false] 4 (0, 0))
 s : Bs < W.heap.size
 r : Kd.R k44 44 W w.heap.size (fun k => k ≠ Bs) v acc
 n2 : B2 ≠ B4
 nB : Bs ≠ B2 ∧ Bs ≠ B3 ∧ Bs ≠ B4 ∧ Bs ≠ B5
 g3 : w.heap.size ≤ B3 ∧ w.heap.size ≤ B4 ∧ w.heap.size ≤ B5
theorem blk_type_ne {W : World} {b g : Nat} {c1 c2 : Array Value} {t1 t2 : TypeId} {z1 z2 : Nat × Nat} (h1 : W.heap[b]? = some (.cells c1 t1 z1)) (h2 : W.heap[g]? = some (.cells c2 t2 z2)) (h : t1 ≠ t2) : b ≠ g := by
 rintro rfl
 rw [h1] at h2
 injection h2 with h2
 injection h2 with _ h2
 exact h h2
theorem R_ne {W : World} {base : Nat} {ok : Nat → Prop} {v : Value} {acc : List S44} (h : Kd.R k44 44 W base ok v acc) {g : Nat} {cs : Array Value} {t : TypeId} {z : Nat × Nat} (hg : W.heap[g]? = some (.cells cs t z)) (ht : 44 ≠ t) : some g ≠ v.ownBlock := by
 obtain ⟨inner, ho⟩ := Kd.R_own h; intro e; obtain ⟨cells, hc⟩ := own_typed ho g e.symm; rw [hg] at hc
 injection hc with hc
 injection hc with _ hc
 exact ht hc.symm
theorem RSt.below {w W W' : World} {B2 B3 B4 B5 Bs : Nat} {v : Value} {acc : List S44} {y : Int} (h : RSt w B2 B3 B4 B5 Bs v acc y W) (hb : Below W.heap.size W W') : RSt w B2 B3 B4 B5 Bs v acc y W' :=
 ⟨zS h.b hb, h.g2, (hb.block _ (blk_lt h.l)).trans h.l, (hb.block _ (blk_lt h.y)).trans h.y, (hb.block _ (blk_lt h.q)).trans h.q, (hb.block _ (blk_lt h.o)).trans h.o, Nat.lt_of_lt_of_le h.s hb.size, Kd.R_below h.r hb, h.n2, h.nB, h.g3⟩
-- A step that turns one block that is none of ours.
theorem RSt.grown {w W W' : World} {B2 B3 B4 B5 Bs : Nat} {v : Value} {acc : List S44} {y : Int} (h : RSt w B2 B3 B4 B5 Bs v acc y W) {row : Option Nat} (hg : W.grownBy W' row) (hr : ∀ k, row = some k → k = Bs ∨ (w.heap.size ≤ k ∧ ∃ o : Obj, W.heap[k]? = some o ∧ o.isCells = false)) (hBs : w.heap.size ≤ Bs) : RSt w B2 B3 B4 B5 Bs v acc y W' := by
 have e : ∀ {b : Nat} {cs : Array Value} {t : TypeId}, W.heap[b]? = some (.cells cs t (0, 0)) → b ≠ Bs → W'.heap[b]? = some (.cells cs t (0, 0)) := fun {b cs t} hb hne => (hg.block b (blk_lt hb) (fun e => by
  rcases hr b e.symm with h1 | ⟨_, o, ho, hc⟩
  ·exact hne h1
  ·rw [hb] at ho; cases ho; cases hc)).trans hb
 refine ⟨h.b.grown hg (Below.size h.b) (fun k hk => ?_), h.g2, e h.l (Ne.symm h.nB.2.2.1), e h.y (Ne.symm h.nB.2.2.2), e h.q (Ne.symm h.nB.1), e h.o (Ne.symm h.nB.2.1), Nat.lt_of_lt_of_le h.s hg.size, ?_, h.n2, h.nB, h.g3⟩
 ·rcases hr k hk with h1 | h1
  ·omega
  ·exact h1.1
 ·refine zF (Kd.R_grown (Kd.R_bound h.r) hg (fun k hk e => ?_)) (fun k hk => hk.1)
  rcases hr k e.symm with h1 | ⟨_, o, ho, hc⟩
  ·exact hk.1 h1
  ·obtain ⟨_, _, _, q, _, cells, hcc⟩ := hk; rw [hcc] at ho
   cases ho
   cases hc
-- A mark more: the row has been written, then the variable.
theorem RSt.pushed {w W W1 : World} {B2 B3 B4 B5 Bs : Nat} {v v1 : Value} {acc acc1 : List S44} {y : Int} (h : RSt w B2 B3 B4 B5 Bs v acc y W) (hr : Kd.R k44 44 W1 w.heap.size (fun k => k ≠ Bs) v1 acc1) (hb : Below w.heap.size w W1) (hg : W.grownBy W1 v.ownBlock) :
  W1.frozen? ⟨B4, 0, none⟩ = false ∧ W1.cell? ⟨B4, 0, none⟩ = some v ∧ RSt w B2 B3 B4 B5 Bs v1 acc1 y (W1.setCell ⟨B4, 0, none⟩ v1) ∧ KeepsOthers W (W1.setCell ⟨B4, 0, none⟩ v1) ∧ (W1.setCell ⟨B4, 0, none⟩ v1).heap[Bs]? = W.heap[Bs]? := by
 have e : ∀ {b : Nat} {cs : Array Value} {t : TypeId}, W.heap[b]? = some (.cells cs t (0, 0)) → 44 ≠ t → W1.heap[b]? = some (.cells cs t (0, 0)) := fun {b cs t} hb' ht => (hg.block b (blk_lt hb') (fun e => R_ne h.r hb' ht e)).trans hb'; have l1 := e h.l (by decide); have y1 := e h.y (by decide); have q1 := e h.q (by decide); have o1 := e h.o (by decide); have n1 : B5 ≠ B4 := blk_type_ne y1 l1 (by decide); have n3 : B3 ≠ B4 := blk_type_ne o1 l1 (by decide); have hs : Bs < W1.heap.size := Nat.lt_of_lt_of_le h.s hg.size; have hbs : W1.heap[Bs]? = W.heap[Bs]? := hg.block Bs h.s (fun e => h.r.1 Bs e.symm rfl)
 refine ⟨ze l1 0, (blk_cell l1 0).trans rfl, ⟨zW hb h.g3.2.1, h.g2, (blk_set l1 0 v1).trans rfl, zj y1 n1 _, zj q1 h.n2 _, zj o1 n3 _, by simpa [World.setCell] using hs, ?_, h.n2, h.nB, h.g3⟩, ?_, ?_⟩
 ·refine zF (zG (Kd.R_types hr l1 (by decide)) (fun k hk => hk.2) _) (fun k hk => hk.1)
 ·have h1 : KeepsOthers W W1 := ⟨hg.size, fun k o hk ho => (hg.block k (blk_lt hk) (fun e => by
   obtain ⟨inner, hw⟩ := Kd.R_own h.r; obtain ⟨cells, hc⟩ := own_typed hw k e.symm; rw [hc] at hk
   cases hk
   cases ho)).trans hk⟩
  exact h1.trans (KeepsOthers.setCell _ _ _)
 ·exact (Below.heap_setCell _ _ _ _ h.nB.2.2.1).trans hbs
-- The row has been written anew.
theorem RSt.sorted {w W W1 : World} {B2 B3 B4 B5 Bs : Nat} {v : Value} {acc acc1 : List S44} {y : Int} (h : RSt w B2 B3 B4 B5 Bs v acc y W) (hr : Kd.R k44 44 W1 w.heap.size (fun k => k ≠ Bs) v acc1) (hg : W.grownBy W1 v.ownBlock) :
  RSt w B2 B3 B4 B5 Bs v acc1 y W1 ∧ ∀ (k : Nat) (o : Obj), W.heap[k]? = some o → o.isCells = false → W1.heap[k]? = some o := by
 have e : ∀ {b : Nat} {cs : Array Value} {t : TypeId}, W.heap[b]? = some (.cells cs t (0, 0)) → 44 ≠ t → W1.heap[b]? = some (.cells cs t (0, 0)) := fun {b cs t} hb' ht => (hg.block b (blk_lt hb') (fun e => R_ne h.r hb' ht e)).trans hb'
 refine ⟨⟨h.b.grown hg h.b.size (fun k hk => ?_), h.g2, e h.l (by decide), e h.y (by decide), e h.q (by decide), e h.o (by decide), Nat.lt_of_lt_of_le h.s hg.size, hr, h.n2, h.nB, h.g3⟩, fun k o hk ho => (hg.block k (blk_lt hk) (fun e => ?_)).trans hk⟩
 ·obtain ⟨inner, hw⟩ := Kd.R_own h.r
  exact own_base hw k hk
 ·obtain ⟨inner, hw⟩ := Kd.R_own h.r; obtain ⟨cells, hc⟩ := own_typed hw k e.symm; rw [hc] at hk
  cases hk
  cases ho
-- One line more.
theorem RSt.counted {w W : World} {B2 B3 B4 B5 Bs : Nat} {v : Value} {acc : List S44} {y : Int} (h : RSt w B2 B3 B4 B5 Bs v acc y W) (y1 : Int) :
  RSt w B2 B3 B4 B5 Bs v acc y1 (W.setCell ⟨B5, 0, none⟩ (.int .i64 y1)) ∧ (W.setCell ⟨B5, 0, none⟩ (.int .i64 y1)).heap[Bs]? = W.heap[Bs]? :=
 ⟨⟨zW h.b h.g3.2.2, h.g2, zj h.l (Ne.symm (blk_type_ne h.y h.l (by decide))) _, (blk_set h.y 0 _).trans rfl, zj h.q (Ne.symm (blk_type_ne h.y h.q (by decide))) _, zj h.o (Ne.symm (blk_type_ne h.y h.o (by decide))) _, by simpa [World.setCell] using h.s,
  zF (zG (Kd.R_types h.r h.y (by decide)) (fun k hk => hk.2) _) (fun k hk => hk.1), h.n2, h.nB, h.g3⟩, Below.heap_setCell _ _ _ _ h.nB.2.2.2⟩
-- The two results are written; then the deferred calls' block is turned.
theorem RSt.ends {w W : World} {B2 B3 B4 B5 Bs : Nat} {v : Value} {acc : List S44} {y : Int} (h : RSt w B2 B3 B4 B5 Bs v acc y W) (u : Value) (b : Bool) {D : Nat} {l : Option (List Deferred)} (hD : W.heap[D]? = some (.deferred l)) (hge : w.heap.size ≤ D) :
  W.cell? ⟨B2, 0, none⟩ = some (.slice none 0 0) ∧ W.frozen? ⟨B2, 0, none⟩ = false ∧ (W.setCell ⟨B2, 0, none⟩ u).cell? ⟨B3, 0, none⟩ = some (.bool false) ∧ (W.setCell ⟨B2, 0, none⟩ u).frozen? ⟨B3, 0, none⟩ = false ∧
  ((W.setCell ⟨B2, 0, none⟩ u).setCell ⟨B3, 0, none⟩ (.bool b)).heap[D]? = some (.deferred l) ∧ ∀ o : Obj,
   (((W.setCell ⟨B2, 0, none⟩ u).setCell ⟨B3, 0, none⟩ (.bool b)).putObj D o).heap[B2]? = some (.cells #[u] 26 (0, 0)) ∧ (((W.setCell ⟨B2, 0, none⟩ u).setCell ⟨B3, 0, none⟩ (.bool b)).putObj D o).heap[B3]? = some (.cells #[.bool b] 4 (0, 0)) ∧
   Below w.heap.size w (((W.setCell ⟨B2, 0, none⟩ u).setCell ⟨B3, 0, none⟩ (.bool b)).putObj D o) ∧ Kd.R k44 44 (((W.setCell ⟨B2, 0, none⟩ u).setCell ⟨B3, 0, none⟩ (.bool b)).putObj D o) w.heap.size (fun _ => True) v acc := by
 have d2 : D ≠ B2 := fun e => by rw [e, h.q] at hD; cases hD
 have d3 : D ≠ B3 := fun e => by rw [e, h.o] at hD; cases hD
 have n32 : B3 ≠ B2 := blk_type_ne h.o h.q (by decide); have q1 : (W.setCell ⟨B2, 0, none⟩ u).heap[B2]? = some (.cells #[u] 26 (0, 0)) := (blk_set h.q 0 u).trans rfl; have o1 : (W.setCell ⟨B2, 0, none⟩ u).heap[B3]? = some (.cells #[.bool false] 4 (0, 0)) := zj h.o n32 u; have q2 := zj q1 (p := ⟨B3, 0, none⟩) (Ne.symm n32) (.bool b); have o2 : ((W.setCell ⟨B2, 0, none⟩ u).setCell ⟨B3, 0, none⟩ (.bool b)).heap[B3]? = some (.cells #[.bool b] 4 (0, 0)) := (blk_set o1 0 _).trans rfl; have hd1 : ((W.setCell ⟨B2, 0, none⟩ u).setCell ⟨B3, 0, none⟩ (.bool b)).heap[D]? = some (.deferred l) := (Below.heap_setCell _ _ _ _ d3).trans ((Below.heap_setCell _ _ _ _ d2).trans hD); have hb2 : Below w.heap.size w ((W.setCell ⟨B2, 0, none⟩ u).setCell ⟨B3, 0, none⟩ (.bool b)) := zW (zW h.b h.g2) h.g3.1; have r1 : Kd.R k44 44 (W.setCell ⟨B2, 0, none⟩ u) w.heap.size (fun _ => True) v acc := zF (zG (Kd.R_types h.r h.q (by decide)) (fun k hk => hk.2) _) (fun k _ => trivial); have r2 : Kd.R k44 44 ((W.setCell ⟨B2, 0, none⟩ u).setCell ⟨B3, 0, none⟩ (.bool b)) w.heap.size (fun _ => True) v acc := zF (zG (Kd.R_types r1 o1 (by decide)) (fun k hk => hk.2) _) (fun k _ => trivial)
 refine ⟨(blk_cell h.q 0).trans rfl, ze h.q 0, (blk_cell o1 0).trans rfl, ze o1 0, hd1, fun o => ⟨(World.putObj_heap_other (Ne.symm d2)).trans q2, (World.putObj_heap_other (Ne.symm d3)).trans o2, hb2.grown (grownBy_putObj' _ D _) hb2.size (fun k hk => by cases hk; exact hge), ?_⟩⟩
 refine zF (Kd.R_grown (Kd.R_bound r2) (grownBy_putObj' _ D o) (fun k hk e => ?_)) (fun k _ => trivial)
 injection e with e
 obtain ⟨_, _, _, q, _, cells, hcc⟩ := hk; rw [e, hd1] at hcc
 cases hcc
theorem results_read {tmps : Array Value} {w : World} {B2 B3 : Nat} {v b : Value} (h2 : tmps.getD 2 undef = .pointer (some ⟨B2, 0, none⟩)) (h3 : tmps.getD 3 undef = .pointer (some ⟨B3, 0, none⟩))
  (g2 : w.heap[B2]? = some (.cells #[v] 26 (0, 0))) (g3 : w.heap[B3]? = some (.cells #[b] 4 (0, 0))) : (results Try.f32 tmps).run Try.prog w = .ok (.tuple #[v, b]) w := by
 have h2' : tmps[2]?.getD undef = .pointer (some ⟨B2, 0, none⟩) := by simpa using h2
 have h3' : tmps[3]?.getD undef = .pointer (some ⟨B3, 0, none⟩) := by simpa using h3
 have c2 : w.cell? ⟨B2, 0, none⟩ = some v := (blk_cell g2 0).trans rfl; have c3 : w.cell? ⟨B3, 0, none⟩ = some b := (blk_cell g3 0).trans rfl
 simp [results, h2', h3', asAddr, loadVar, go_sem, Try.isAgg26, Try.isAgg4, c2, c3]
instance instS44 : Inhabited S44 := ⟨z44⟩
def encM (m : S44) : List Value := [.string m.f0, .int .i64 m.f1, .int .i64 m.f2]
def cmpM (a b : S44) : Int := Lib.compareBytes a.f0.data.toList b.f0.data.toList
theorem cb_lt : ∀ {a b : List UInt8}, Lib.compareBytes a b < 0 ↔ a < b := by
 intro a
 induction a with
 | nil => intro b; cases b <;> simp [Lib.compareBytes]
 | cons x a ih =>
  intro b
  cases b with
  | nil => simp [Lib.compareBytes]
  | cons y b =>
   rw [List.cons_lt_cons_iff]
   unfold Lib.compareBytes
   by_cases h1 : x < y
   ·simp [h1]
   ·by_cases h2 : y < x
    ·have : x ≠ y := by rintro rfl; exact h1 h2
     simp [h1, h2, this]
    ·have : x = y := UInt8.le_antisymm (UInt8.not_lt.1 h2) (UInt8.not_lt.1 h1)
     simp [this, ih]
theorem ltM (x y : S44) : ltOf cmpM x y = decide (x.f0.data.toList < y.f0.data.toList) := by
 unfold ltOf cmpM
 exact decide_eq_decide.2 cb_lt
theorem swoM : Sort.SWO (ltOf cmpM) where
 irrefl x := by rw [ltM]; simp
 trans x y z h1 h2 := by rw [ltM] at *; simp only [decide_eq_true_eq] at *; exact List.lt_trans h1 h2
 ntrans x y z h1 h2 := by
  rw [ltM] at *; simp only [decide_eq_false_iff_not, List.not_lt] at *
  exact List.le_trans h2 h1
def rd_sort (l : List S44) : List S44 := (Sort.pdq (ltOf cmpM) l.toArray 0 l.toArray.size (Lib.bitLen l.toArray.size) true true).toList
theorem rd_sort_spec (l : List S44) : (rd_sort l).Perm l ∧ (rd_sort l).Pairwise (fun a b => ¬ (b.f0.data.toList < a.f0.data.toList)) := by
 have h := Sort.pdq_sorts (ltOf cmpM) swoM l.toArray 0 l.toArray.size (Lib.bitLen l.toArray.size) true true (Nat.zero_le _) (zn _) (zU rfl); obtain ⟨⟨h1, h2, h3⟩, h4⟩ := h
 unfold rd_sort
 generalize Sort.pdq (ltOf cmpM) l.toArray 0 l.toArray.size (Lib.bitLen l.toArray.size) true true = D at *
 refine ⟨?_, ?_⟩
 ·have e1 : D.extract 0 l.toArray.size = D := by rw [← h1]; exact Array.extract_size
  have e2 : l.toArray.extract 0 l.toArray.size = l.toArray := Array.extract_size; rw [e1, e2] at h3
  simpa using h3
 ·rw [List.pairwise_iff_getElem]; intro i j hi hj hij; have := h4 i j (Nat.zero_le _) hij (by rw [← h1]; simpa using hj); rw [ltM] at this; rw [getElem!_pos D j (by simpa using hj), getElem!_pos D i (by simpa using hi)] at this
  simpa using this
set_option maxHeartbeats 1000000 in
theorem closure71 (x y : S44) (W : World) : Calls Try.prog 71 #[.agg (encM x).toArray, .agg (encM y).toArray] W fun e w' => e = .returned (.int .i64 (cmpM x y)) ∧ ∃ q os', w' = Sort.grow (W.drewN q) os' := by
 have hcon := fun W' => Try.strings_Compare x.f0 y.f0 W'
 unfold encM
 have hc : cmpM x y = Lib.compareBytes x.f0.data.toList y.f0.data.toList := rfl; rw [← hc] at hcon; clear hc
 generalize cmpM x y = r at hcon ⊢
 go_enter Try.func71, Try.ntmps71
 go_wp2_with (go_at_call 72; refine (hcon _).mono ?_; rintro e w' ⟨rfl, rfl⟩)
 go_ret
 exact ⟨rfl, 0, _, by rw [Sort.alloc_eq_grow, Sort.alloc_eq_grow, Sort.grow_grow]; rfl⟩
theorem flat_reps (w : World) (base : Nat) (ok : Nat → Prop) (d : Array S44) : Reps (fun p cs => k44.M w base ok p cs) 3 d.toList (Sort.flatK encM 3 d).toList := by
 refine ⟨by simp, fun j p hj => ?_⟩
 obtain ⟨hl, hp⟩ := List.getElem?_eq_some_iff.1 hj
 have hl' : j < d.size := by simpa using hl
 have e : ((Sort.flatK encM 3 d).toList.drop (j * 3)).take 3 = encM p := by
  refine List.ext_getElem? (fun i => ?_)
  by_cases hi : i < 3
  ·rw [List.getElem?_take_of_lt hi, List.getElem?_drop, Array.getElem?_toList]
   have hlt : j * 3 + i < (Sort.flatK encM 3 d).size := by rw [Sort.size_flatK]; omega
   have hg := Sort.get_flatK encM 3 d (j * 3 + i) (by omega); rw [getElem!_pos (Sort.flatK encM 3 d) (j * 3 + i) hlt, show (j * 3 + i) / 3 = j by omega, show (j * 3 + i) % 3 = i by omega, getElem!_pos d j hl'] at hg; rw [Array.getElem?_eq_getElem hlt, hg]
   have hp' : d[j] = p := by rw [← hp]; simp
   rw [hp']
   have : i = 0 ∨ i = 1 ∨ i = 2 := by omega
   rcases this with rfl | rfl | rfl <;> rfl
  ·rw [List.getElem?_take_eq_none (by omega), List.getElem?_eq_none (by simp [encM]; omega)]
 rw [e]
 exact k44_mkM w base ok p
theorem heap_sortedM {w : World} {g n : Nat} {os : Array Obj} {cur : Array Value} {e : TypeId} {fr : Nat × Nat} (d : Array S44) (hb : w.heap[g]? = some (.cells cur e fr)) :
  (sortWorldK encM 3 w g 0 n d os).heap[g]? = some (.cells (Sort.putCells id 0 (Sort.flatK encM 3 d) cur) e fr) := by
 have hg : g < w.heap.size := (Array.getElem?_eq_some_iff.1 hb).1
 unfold sortWorldK Sort.putRowK
 rw [Sort.heap_grow_old _ _ (by simpa using hg)]
 simp [Sort.putRow, Sort.mapBlock, Sort.ahead, Array.getElem?_modify, hb, Sort.onCells]
theorem grownBy_sortedM {w : World} {g n : Nat} {os : Array Obj} (d : Array S44) : w.grownBy (sortWorldK encM 3 w g 0 n d os) (some g) := by
 unfold sortWorldK Sort.putRowK
 refine ⟨rfl, rfl, rfl, by simp, fun k hk hne => ?_⟩
 rw [Sort.heap_grow_old _ _ (by simpa using hk)]; have : g ≠ k := fun e => hne (by rw [e])
 simp [Sort.putRow, Sort.mapBlock, Sort.ahead, Array.getElem?_modify, this]
theorem take_putCellsM (cur F : Array Value) (h : F.size ≤ cur.size) : (Sort.putCells id 0 F cur).toList.take F.size = F.toList := by
 apply List.ext_getElem?
 intro j
 by_cases hj : j < F.size
 ·rw [List.getElem?_take_of_lt hj, Array.getElem?_toList]
  simp [Sort.putCells, hj, show j < cur.size by omega]
 ·rw [List.getElem?_take_eq_none (by omega), List.getElem?_eq_none (by simp; omega)]
theorem sort_none (p : Option Addr) (cap : Nat) (fv : Value) (w : World) : Calls Try.prog 70 #[.slice p 0 cap, fv] w fun e w' => e = .returned (.tuple #[]) ∧ w' = w := by
 exact AnyF.slices_SortFunc_none Try.sortPM p cap fv w
set_option maxHeartbeats 1000000 in
theorem sort_calls {W : World} {base : Nat} {ok : Nat → Prop} {v : Value} {acc : List S44} (HO : Kd.R k44 44 W base ok v acc) (hlen : acc.length ≤ 1000000) :
  Calls Try.prog 70 #[v, .func (.func 71) #[] #[]] W fun e w' => e = .returned (.tuple #[]) ∧ Kd.R k44 44 w' base ok v (rd_sort acc) ∧ W.grownBy w' v.ownBlock := by
 by_cases h0 : acc = []
 ·subst h0; obtain ⟨A, c, e1⟩ := zE HO; subst e1
  refine (sort_none A c (.func (.func 71) #[] #[]) W).mono ?_
  rintro e w' ⟨rfl, rfl⟩
  refine ⟨rfl, ?_, ⟨rfl, rfl, rfl, zn _, fun _ _ _ => rfl⟩⟩
  have : rd_sort [] = [] := by
   have h := (rd_sort_spec []).1
   exact List.Perm.eq_nil h
  rw [this]
  exact HO
 ·have hpos : 0 < acc.length := List.length_pos_iff.2 h0
  have hH : ∀ g c, v = .slice (some ⟨g, 0, none⟩) acc.length c → Sort.HoldsK encM 3 W g 0 acc.toArray := by
   intro g c ev t ht; subst ev; rw [Sort.size_flatK] at ht
   have ht' : t < acc.length * 3 := by simpa using ht
   have q1 : (0 : Int) ≤ ((t / 3 : Nat) : Int) := Int.natCast_nonneg _
   have q2 : ((t / 3 : Nat) : Int) < (acc.length : Int) := by omega
   obtain ⟨ce, hcl, hM, hcc, hfr⟩ := Kd.R_elem HO z44 ((t / 3 : Nat) : Int) q1 q2; obtain rfl := k44_openM hM; rw [Sort.get_flatK encM 3 acc.toArray t (by simpa using ht)]
   have e1 : acc.toArray[t / 3]! = acc.getD (t / 3) z44 := by
    rw [getElem!_pos acc.toArray (t / 3) (by simp; omega)]
    simp [List.getElem?_eq_getElem (show t / 3 < acc.length by omega)]
   have hnt : ((t / 3 : Nat) : Int).toNat = t / 3 := Int.toNat_natCast _; rw [hnt] at hcc hfr; have hsz : k44.sz = 3 := rfl; rw [hsz] at hcc hfr; have hmod : t % 3 < 3 := Nat.mod_lt _ (by omega)
   have h1 := hcc (t % 3) ((encM (acc.getD (t / 3) z44))[t % 3]!) (by
    have : t % 3 = 0 ∨ t % 3 = 1 ∨ t % 3 = 2 := by omega
    rcases this with h | h | h <;> rw [h] <;> rfl)
   have h2 := hfr (t % 3); rw [show t / 3 * 3 + t % 3 = t by omega] at h1 h2; rw [e1, Nat.zero_add]
   exact ⟨h1, h2⟩
  obtain ⟨hok, inner, hown, hr⟩ := HO; have hown' := hown; obtain ⟨hil, h1⟩ := hown
  rcases h1 with ⟨_, h1⟩ | ⟨g, cap, cur, ev, hb, hg, hc1, hc2, hc3, hc4⟩
  ·omega
  have hlen' : acc.toArray.size = acc.length := by simp
  subst ev; have hHH := hH g cap rfl; have eg : ∀ args w, (callFunc 71 args).run Try.prog w = .ok (.enter 71 args) w := enters_of Try.func71 (qK18) rfl
  have hcon := AnyQ.slices_SortFunc_eq Try.sortPM 3 Try.isAgg44 Try.sizeOf44 encM (fun _ => rfl) (fun x v hv => by simp [encM] at hv; rcases hv with rfl | rfl | rfl <;> rfl) cmpM swoM 71 #[] g 0 cap acc.toArray W eg (fun _ _ _ _ x y => closure71 x y _) hHH (blk_lt hg) (by rw [hlen']; omega)
  rw [hlen'] at hcon
  refine hcon.mono ?_
  rintro e w' ⟨rfl, n, os, rfl⟩
  have hperm := (rd_sort_spec acc).1; have hls : (rd_sort acc).length = acc.length := hperm.length_eq
  have hds : (Sort.pdq (ltOf cmpM) acc.toArray 0 acc.length (Lib.bitLen acc.length) true true).toList = rd_sort acc := by unfold rd_sort; rw [hlen']
  generalize Sort.pdq (ltOf cmpM) acc.toArray 0 acc.length (Lib.bitLen acc.length) true true = D at hds
  have hDs : D.size = acc.length := by rw [← hls, ← hds]; simp
  refine ⟨rfl, ⟨hok, (Sort.flatK encM 3 D).toList, ⟨by rw [Array.length_toList, Sort.size_flatK, hDs, hls]; rfl, .inr ⟨g, cap, _, by rw [hls], hb, heap_sortedM D hg, by omega, hc2, by simp [Sort.putCells, hc3], ?_⟩⟩, ?_⟩, grownBy_sortedM D⟩
  ·have h := take_putCellsM cur (Sort.flatK encM 3 D) (by rw [Sort.size_flatK, hDs, hc3]; exact Nat.mul_le_mul_right _ hc1); rw [Sort.size_flatK] at h; rw [hls, ← hDs]
   exact h
  ·rw [← hds]
   exact flat_reps _ _ _ D
def rd_big (L : List ByteArray) : Bool := decide (20 < L.length) || L.any (fun x => decide (21 < x.size))
theorem new_at (w : World) (o : Obj) {n : Nat} (h : n = w.heap.size) : (w.alloc o).heap[n]? = some o := by
 subst h
 exact World.alloc_heap_new w o
set_option maxHeartbeats 4000000 in
theorem impl_ReadPlan.reads (s : ByteArray) (L : List ByteArray) (k : Nat) (r1 : List S44) (r2 : Bool) (w : World) (hL : IsLns s L) (hs : s.size ≤ 1000000000) (hR1 : rd_big L = true → r1 = [] ∧ r2 = false)
  (hR2 : rd_big L = false → ∃ tx ok, impl_PlanText.f k (rd_sort (rd_all 0 L)) 1 = some (tx, ok) ∧ r2 = (ok && (tx.toList == s.toList)) ∧ (r2 = true → r1 = rd_sort (rd_all 0 L)) ∧ (r2 = false → r1 = [])) :
  Calls Try.prog 32 #[.string s] w fun e w' => ∃ v0_ : Value, e = .returned (.tuple #[v0_, .bool r2]) ∧ Kd.R k44 44 w' w.heap.size (fun _ => True) v0_ r1 ∧ Below w.heap.size w w' := by
 have HR1 := za hR1; have HR2 := za hR2; clear hR1 hR2
 refine (callsIn_wide (n := 5)).1 ?_
 refine callsIn_of_wp_marks Try.func32 rfl trivial ?_ rfl
 simp only [Try.ntmps32, List.size_toArray, List.length_cons, List.length_nil, Nat.reduceAdd, Nat.reduceSub, Array.replicate_succ, Array.replicate_zero, List.push_toArray, List.append_toArray, List.nil_append, List.cons_append]
 refine wpIn_wide.2 ?_
 have hmk : ∀ W : World, Calls Try.prog 69 #[.string s] W fun e w' => e = .returned (.func (.func 84) #[] #[.pointer (some ⟨W.heap.size, 0, none⟩)]) ∧ w' = W.alloc (.cells #[.string s] 9) := fun W => (callsIn_wide (n := 4)).1 (ln69.maker_in Fence.wide 4 trivial rfl s W)
 go_wp2_with (first | (go_at_call 69; refine (hmk _).mono ?_; rintro e w' ⟨rfl, rfl⟩))
 obtain ⟨B2, hB2⟩ : ∃ B, w.heap.size = B := ⟨_, rfl⟩
 have hS0 : RSt w w.heap.size (w.heap.size + 1) (w.heap.size + 1 + 1) (w.heap.size + 1 + 1 + 1) (w.heap.size + 1 + 1 + 1 + 1) (.slice none 0 0) [] 0 (((((w.alloc (Obj.cells #[Value.slice none 0 0] 26)).alloc (Obj.cells #[Value.bool false] 4)).alloc (Obj.cells #[Value.slice none 0 0] 26)).alloc (Obj.cells #[Value.int IntKind.i64 0] 3)).alloc (Obj.cells #[Value.string s] 9)) := by
  refine ⟨zV (zV (zV (zV (zV (zr _ _) _) _) _) _) _, zn _, ?_, ?_, ?_, ?_, by simp, Kd.R_nil _ _ _ _ _, by omega, by omega, by omega⟩
  ·exact zf (zf (new_at _ _ (by simp)) _) _
  ·exact zf (new_at _ _ (by simp)) _
  ·exact zf (zf (zf (zf (new_at _ _ (by simp)) _) _) _) _
  ·exact zf (zf (zf (new_at _ _ (by simp)) _) _) _
 have hb9 : (((((w.alloc (Obj.cells #[Value.slice none 0 0] 26)).alloc (Obj.cells #[Value.bool false] 4)).alloc (Obj.cells #[Value.slice none 0 0] 26)).alloc (Obj.cells #[Value.int IntKind.i64 0] 3)).alloc (Obj.cells #[Value.string s] 9)).heap[w.heap.size + 1 + 1 + 1 + 1]? = some (.cells #[.string s] 9 (0, 0)) := by
  have h := World.alloc_heap_new (((((w.alloc (Obj.cells #[Value.slice none 0 0] 26)).alloc (Obj.cells #[Value.bool false] 4)).alloc (Obj.cells #[Value.slice none 0 0] 26)).alloc (Obj.cells #[Value.int IntKind.i64 0] 3))) (Obj.cells #[Value.string s] 9)
  simpa using h
 have hBs0 : w.heap.size ≤ w.heap.size + 1 + 1 + 1 + 1 := by omega
 revert hS0 hb9 hBs0
 generalize (((((w.alloc (Obj.cells #[Value.slice none 0 0] 26)).alloc (Obj.cells #[Value.bool false] 4)).alloc (Obj.cells #[Value.slice none 0 0] 26)).alloc (Obj.cells #[Value.int IntKind.i64 0] 3)).alloc (Obj.cells #[Value.string s] 9)) = W0
 generalize w.heap.size + 1 + 1 + 1 + 1 = Bs
 generalize w.heap.size + 1 + 1 + 1 = B5
 generalize w.heap.size + 1 + 1 = B4
 generalize w.heap.size + 1 = B3
 rw [hB2]; intro hS0 hb9 hBs0; have HW := za (And.intro hB2 hS0.b.size); have HS0 := za hS0; have HB9 := za hb9; clear hS0 hb9 hB2 hmk
 refine (wpIn_wide (n := 5)).1 ?_
 refine ln_range (Bs := Bs) (s0 := s) (L0 := L) rfl rfl hL (by omega) HB9.1
  (fun pre W => pre.length ≤ 20 ∧ (∀ x ∈ pre, x.size ≤ 21) ∧ ∃ v, RSt w B2 B3 B4 B5 Bs v (rd_all 0 pre) pre.length W)
  (fun W => rd_big L = true ∧ Below w.heap.size w W ∧ W.heap[B2]? = some (.cells #[.slice none 0 0] 26 (0, 0)) ∧ W.heap[B3]? = some (.cells #[.bool false] 4 (0, 0)))
  ?hI ?hIx ⟨Nat.zero_le _, (fun x h => zM h List.not_mem_nil), _, HS0.1⟩
  (fun x => { tmps := #[.string s, undef, .pointer (some ⟨B2, 0, none⟩), .pointer (some ⟨B3, 0, none⟩), .pointer (some ⟨B4, 0, none⟩), .pointer (some ⟨B5, 0, none⟩), .string x, undef, undef, undef, undef, .string s, .func (.func 84) #[] #[.pointer (some ⟨Bs, 0, none⟩)], .string x, undef, undef, undef, undef, undef, undef, undef, undef, undef, undef, undef, undef, undef, undef, undef, undef, undef, undef, undef, undef, undef, undef, undef, undef, undef, undef, undef, undef, undef, undef, undef, undef, undef, undef, undef, undef, undef, undef, undef, undef, undef, undef, undef, undef, undef, undef, undef, undef], defers := [] })
  ?assign ?body ?done ?stop
 case hI =>
  rintro pre W W' row ⟨h1, h2, v, h3⟩ hg hr
  refine ⟨h1, h2, v, h3.grown hg (fun k hk => ?_) (by have := HW.1.1; omega)⟩
  rcases hr k hk with h | ⟨h, ho⟩
  ·exact .inl h
  ·exact .inr ⟨Nat.le_trans HS0.1.b.size h, ho⟩
 case hIx =>
  rintro W W' row ⟨h1, h2, h3, h4⟩ hg hr
  have e : ∀ {b : Nat} {cs : Array Value} {t : TypeId}, W.heap[b]? = some (.cells cs t (0, 0)) → W'.heap[b]? = some (.cells cs t (0, 0)) := fun {b cs t} hb => (hg.block b (blk_lt hb) (fun e => by
   obtain ⟨_, o, ho, hc⟩ := hr b e.symm; rw [hb] at ho
   cases ho
   cases hc)).trans hb
  exact ⟨h1, h2.grown hg h2.size (fun k hk => Nat.le_trans HS0.1.b.size (hr k hk).1), e h3, e h4⟩
 case assign =>
  intro l x W K hK
  gi_wp2
  exact hK
 case body =>
  rintro l pre x L1 W eL hl ⟨hp1, hp2, v, hS⟩
  have hxs : x.size ≤ 1000000000 := Nat.le_trans (hL.le x (by rw [eL]; simp)) hs
  gi_wp2
  gi_loopw [16] (fun v16 wr => ∃ i : Nat, v16 = .int .i64 (i : Int) ∧ i ≤ x.size ∧ ∃ v, RSt w B2 B3 B4 B5 Bs v (rd_all 0 pre ++ rd_upto pre.length x i) pre.length wr ∧ KeepsOthers W wr ∧ wr.heap[Bs]? = W.heap[Bs]?)
   (fun v16 _ => ((x.size : Int) - intOf v16).toNat)
  case atStart => exact ⟨0, rfl, Nat.zero_le _, v, by rw [show rd_upto pre.length x 0 = [] from rfl, List.append_nil]; exact hS, KeepsOthers.refl _, rfl⟩
  case round =>
   clear hS v; obtain ⟨i, rfl, hi, v, hS, hKO, hBsE⟩ := hrel
   by_cases hlt : i < x.size
   ·have d0 : decide ((i : Int) < (x.size : Int)) = true := zc (by omega); have d1 : decide (i < x.size) = true := zc hlt
    have h4 : ∀ h : i < x.size, ((x[i]'h).toNat : Int) = bt x (i : Int) := fun h => by simpa using bt_at x (i : Int) (by simpa using h)
    have hBi : 0 ≤ bt x (i : Int) ∧ bt x (i : Int) ≤ 255 := bt_range x (i : Int)
    have w1 : wrap64 ((i : Int) + 1) = ((i + 1 : Nat) : Int) := by have := hxs; unfold wrap64; omega
    have q1 : (0 : Int) ≤ (i : Int) := Int.natCast_nonneg _
    have q2 : (i : Int) < (x.size : Int) := by omega
    have hup : rd_upto pre.length x (i + 1) = rd_upto pre.length x i ++ (if 65 ≤ bt x (i : Int) ∧ bt x (i : Int) ≤ 90 then [⟨Utf8.encode (bt x (i : Int)), i, -(pre.length : Int)⟩] else []) := rfl; obtain ⟨c, hc⟩ : ∃ c, bt x (i : Int) = c := ⟨_, rfl⟩; rw [hc] at h4 hBi hup; have HS := za hS; have HKO := za hKO; have HBE := za hBsE; have cl : wr.cell? ⟨B4, 0, none⟩ = some v := (blk_cell hS.l 0).trans rfl; have cy : wr.cell? ⟨B5, 0, none⟩ = some (.int .i64 (pre.length : Int)) := (blk_cell hS.y 0).trans rfl; have fl : wr.frozen? ⟨B4, 0, none⟩ = false := ze hS.l 0; clear hS hKO hBsE hc
    by_cases hL1 : 65 ≤ c
    ·have e1 : decide (65 ≤ c) = true := zc hL1
     by_cases hL2 : c ≤ 90
     ·have e2 : decide (c ≤ 90) = true := zc hL2; rw [zX ⟨hL1, hL2⟩] at hup
      have HL : Aside0 (((rd_all 0 pre ++ rd_upto pre.length x i).length + 1) * 32 ≤ 140737488355328) := ⟨by
       have h1 := rd_all_len 0 pre hp2; have h2 := rd_upto_len pre.length x i; rw [List.length_append]
       omega⟩
      have HF : Aside0 (∀ k, wr.heap.size ≤ k → k ≠ Bs) := ⟨fun k hk => by have := HS.1.s; omega⟩
      gi_wp2_with (gi_at_builtin; refine R44_append_in (w0 := w) (W := wr) w.heap.size rfl (.tmp 28) (.tmp 35) rfl v (rd_all 0 pre ++ rd_upto pre.length x i) ⟨Utf8.encode c, i, -(pre.length : Int)⟩ (fun k => k ≠ Bs) ?aV ?aX HF.1 HS.1.r HS.1.b HS.1.b.size HL.1 ?_; (case aV => rfl); (case aX => rfl); intro v1 w1 ho hb hg; obtain ⟨A1, n1, c1, e1⟩ : ∃ A n c, v1 = .slice A n c := (by obtain ⟨A1, c1, e1⟩ := zE ho; exact ⟨_, _, _, e1⟩); subst e1; have hP := HS.1.pushed ho hb hg; have hfz := hP.1; have hcl := hP.2.1; have HP := za hP.2.2; clear hP)
      go_roundw
      case rel => exact ⟨i + 1, by rw [Int.natCast_add]; rfl, hlt, _, by rw [hup, ← List.append_assoc]; exact HP.1.1, HKO.1.trans HP.1.2.1, HP.1.2.2.trans HBE.1⟩
      case measure => simp [intOf]; omega
     ·have e2 : decide (c ≤ 90) = false := zu hL2; rw [zY (fun h => hL2 h.2), List.append_nil] at hup
      gi_wp2
      go_roundw
      case rel => exact ⟨i + 1, by rw [Int.natCast_add]; rfl, hlt, _, by rw [hup]; exact HS.1, HKO.1, HBE.1⟩
      case measure => simp [intOf]; omega
    ·have e1 : decide (65 ≤ c) = false := zu hL1; rw [zY (fun h => hL1 h.1), List.append_nil] at hup
     gi_wp2
     go_roundw
     case rel => exact ⟨i + 1, by rw [Int.natCast_add]; rfl, hlt, _, by rw [hup]; exact HS.1, HKO.1, HBE.1⟩
     case measure => simp [intOf]; omega
   ·have hi' : i = x.size := by omega
    subst hi'; have d0 : decide ((x.size : Int) < (x.size : Int)) = false := zu (by omega); have d1 : decide (x.size < x.size) = false := zu (by omega); have HS := za hS; have HKO := za hKO; have HBE := za hBsE; have cy : wr.cell? ⟨B5, 0, none⟩ = some (.int .i64 (pre.length : Int)) := (blk_cell hS.y 0).trans rfl; have fy : wr.frozen? ⟨B5, 0, none⟩ = false := ze hS.y 0; have hC := hS.counted ((pre.length : Int) + 1)
    have w1 : wrap64 ((pre.length : Int) + 1) = (pre.length : Int) + 1 := by unfold wrap64; omega
    have cy2 : (wr.setCell ⟨B5, 0, none⟩ (.int .i64 ((pre.length : Int) + 1))).cell? ⟨B5, 0, none⟩ = some (.int .i64 ((pre.length : Int) + 1)) := (blk_cell hC.1.y 0).trans rfl; have HC := za hC; clear hS hKO hBsE hC hlt
    have hpre : ((pre ++ [x]).length : Int) = (pre.length : Int) + 1 := by simp
    have hall : rd_all 0 (pre ++ [x]) = rd_all 0 pre ++ rd_upto pre.length x x.size := by rw [rd_all_snoc]; simp
    have HPR := za (And.intro hpre hall); clear hpre hall; have cq : (wr.setCell ⟨B5, 0, none⟩ (.int .i64 ((pre.length : Int) + 1))).cell? ⟨B2, 0, none⟩ = some (.slice none 0 0) := (blk_cell HC.1.1.q 0).trans rfl; have fq : (wr.setCell ⟨B5, 0, none⟩ (.int .i64 ((pre.length : Int) + 1))).frozen? ⟨B2, 0, none⟩ = false := ze HC.1.1.q 0; have ho2 := zj HC.1.1.o (p := ⟨B2, 0, none⟩) (blk_type_ne HC.1.1.o HC.1.1.q (by decide)) (.slice none 0 0); have hq2 : ((wr.setCell ⟨B5, 0, none⟩ (.int .i64 ((pre.length : Int) + 1))).setCell ⟨B2, 0, none⟩ (.slice none 0 0)).heap[B2]? = some (.cells #[.slice none 0 0] 26 (0, 0)) := (blk_set HC.1.1.q 0 _).trans rfl; have co : ((wr.setCell ⟨B5, 0, none⟩ (.int .i64 ((pre.length : Int) + 1))).setCell ⟨B2, 0, none⟩ (.slice none 0 0)).cell? ⟨B3, 0, none⟩ = some (.bool false) := (blk_cell ho2 0).trans rfl; have fo : ((wr.setCell ⟨B5, 0, none⟩ (.int .i64 ((pre.length : Int) + 1))).setCell ⟨B2, 0, none⟩ (.slice none 0 0)).frozen? ⟨B3, 0, none⟩ = false := ze ho2 0; have HX : Aside0 (KeepsFrom W0.heap.size W (((wr.setCell ⟨B5, 0, none⟩ (.int .i64 ((pre.length : Int) + 1))).setCell ⟨B2, 0, none⟩ (.slice none 0 0)).setCell ⟨B3, 0, none⟩ (.bool false)) ∧ Below w.heap.size w (((wr.setCell ⟨B5, 0, none⟩ (.int .i64 ((pre.length : Int) + 1))).setCell ⟨B2, 0, none⟩ (.slice none 0 0)).setCell ⟨B3, 0, none⟩ (.bool false)) ∧
      (((wr.setCell ⟨B5, 0, none⟩ (.int .i64 ((pre.length : Int) + 1))).setCell ⟨B2, 0, none⟩ (.slice none 0 0)).setCell ⟨B3, 0, none⟩ (.bool false)).heap[B2]? = some (.cells #[.slice none 0 0] 26 (0, 0)) ∧
      (((wr.setCell ⟨B5, 0, none⟩ (.int .i64 ((pre.length : Int) + 1))).setCell ⟨B2, 0, none⟩ (.slice none 0 0)).setCell ⟨B3, 0, none⟩ (.bool false)).heap[B3]? = some (.cells #[.bool false] 4 (0, 0))) := ⟨(HKO.1.trans ((KeepsOthers.setCell _ _ _).trans ((KeepsOthers.setCell _ _ _).trans (KeepsOthers.setCell _ _ _)))).from _,
       zW (zW HC.1.1.b HC.1.1.g2) HC.1.1.g3.1, zj hq2 (Ne.symm (blk_type_ne ho2 hq2 (by decide))) _, (blk_set ho2 0 _).trans rfl⟩
    clear ho2 hq2
    by_cases hb1 : pre.length = 20
    ·have d2 : decide ((20 : Int) < (pre.length : Int) + 1) = true := zc (by omega)
     have hbig : rd_big L = true := by
      unfold rd_big
      rw [eL]
      simp
      left
      omega
     clear hb1
     gi_wp2
     exact ⟨HX.1.1, hbig, HX.1.2⟩
    ·have d2 : decide ((20 : Int) < (pre.length : Int) + 1) = false := zu (by omega)
     by_cases hb2 : 21 < x.size
     ·have d3 : decide ((21 : Int) < (x.size : Int)) = true := zc (by omega); have d4 : decide (21 < x.size) = true := zc hb2
      have hbig : rd_big L = true := by
       unfold rd_big
       rw [eL]
       simp [hb2]
      gi_wp2
      exact ⟨HX.1.1, hbig, HX.1.2⟩
     ·have d3 : decide ((21 : Int) < (x.size : Int)) = false := zu (by omega); have d4 : decide (21 < x.size) = false := zu hb2
      gi_wp2
      refine ⟨(HKO.1.trans (KeepsOthers.setCell _ _ _)).from _, HC.1.2.trans HBE.1, ?_, ?_, v, ?_⟩
      ·simp; omega
      ·intro z hz
       rcases List.mem_append.1 hz with hz | hz
       ·exact hp2 z hz
       ·rw [List.mem_singleton.1 hz]; omega
      ·rw [HPR.1.2, HPR.1.1]
       exact HC.1.1
 case done =>
  rintro D W hD ⟨hl, hsz, v, hS⟩ hK
  have hbig : rd_big L = false := by
   unfold rd_big
   simp only [Bool.or_eq_false_iff, decide_eq_false_iff_not, List.any_eq_false, decide_eq_true_eq]
   exact ⟨by omega, fun x hx => by have := hsz x hx; omega⟩
  obtain ⟨tx, ok, hT', hr2, hr3, hr4⟩ := HR2.1 hbig; have HR3 := za hr2; have HR4 := za hr3; have HR5 := za hr4; clear hr2 hr3 hr4 HR1 HR2
  have hal : (rd_all 0 L).length ≤ 1000000 := by have := rd_all_len 0 L hsz; omega
  generalize rd_all 0 L = acc at hS hT' hal HR4
  have hls : (rd_sort acc).length = acc.length := (rd_sort_spec acc).1.length_eq; obtain ⟨A1, c1, e1⟩ := zE hS.r; rw [← hls] at e1; subst e1; have hSC := sort_calls hS.r hal; obtain ⟨n1, hn1⟩ : ∃ n, (rd_sort acc).length = n := ⟨_, rfl⟩; have HS := za hS; have HN := za hn1; have HK := za hK; have HD := za hD; have hT2 := fun (W1 : World) (hr : Kd.R k44 44 W1 w.heap.size (fun k => k ≠ Bs) (.slice A1 (rd_sort acc).length c1) (rd_sort acc)) => impl_PlanText.calls k A1 c1 (rd_sort acc) 1 tx ok W1 (zD hr).2.2 (zD hr).2.1 hT'; have HT2 := za hT2
  have cl : W.cell? ⟨B4, 0, none⟩ = some (.slice A1 n1 c1) := by rw [← hn1]; exact (blk_cell hS.l 0).trans rfl
  rw [hn1] at hSC; clear hS hK hD hT2 hT' hls hal hl hsz
  cases ok with
  | false =>
   have e2 : r2 = false := by rw [HR3.1]; rfl
   have e3 := HR5.1 e2; subst e2 e3
   gi_wp2
   go_wp2_with (first | (go_at_call 70; refine hSC.mono ?_; rintro e w1 ⟨rfl, hr1, hg1⟩; have hS1 := HS.1.sorted (by rw [HN.1]; exact hr1) (by rw [HN.1]; exact hg1); have HS1 := za hS1.1; have HK1 := za (hS1.2 _ _ HK.1 rfl); have cl1 : w1.cell? ⟨B4, 0, none⟩ = some (.slice A1 n1 c1) := (qK69); clear hS1 hg1 hr1) | (go_at_call 11; refine (show Calls Try.prog 11 #[.slice A1 n1 c1, .int .i64 1] w1 _ from (qK67)).mono ?_; rintro e w2 ⟨rfl, hb2⟩; have HS2 := za (HS1.1.below hb2); have HK2 := za qK70; have cl2 : w2.cell? ⟨B4, 0, none⟩ = some (.slice A1 n1 c1) := (qK68); have hE := HS2.1.ends (.slice none 0 0) false HK2.1 (Nat.le_trans HW.1.2 HD.1); have e1_ := hE.1; have e2_ := hE.2.1; have e3_ := hE.2.2.1; have e4_ := hE.2.2.2.1; have HE := za hE.2.2.2.2; clear hE hb2))
   refine ⟨by simp, .inl ⟨_, _, rfl, run_takeDeferred HE.1.1, ?_⟩⟩
   obtain ⟨x1, x2, x3, _⟩ := HE.1.2 (.deferred none)
   refine ⟨_, results_read rfl rfl x1 x2, _, rfl, Kd.R_nil _ _ _ _ _, x3⟩
  | true =>
   cases htx : (tx.toList == s.toList) with
   | true =>
    have b1 : (tx.toList != s.toList) = false := by simp [bne, htx]
    have e2 : r2 = true := by rw [HR3.1, htx]; rfl
    have e3 := HR4.1 e2; subst e2; have HX := za e3; clear e3
    gi_wp2
    go_wp2_with (first | (go_at_call 70; refine hSC.mono ?_; rintro e w1 ⟨rfl, hr1, hg1⟩; have hS1 := HS.1.sorted (by rw [HN.1]; exact hr1) (by rw [HN.1]; exact hg1); have HS1 := za hS1.1; have HK1 := za (hS1.2 _ _ HK.1 rfl); have cl1 : w1.cell? ⟨B4, 0, none⟩ = some (.slice A1 n1 c1) := (qK69); clear hS1 hg1 hr1) | (go_at_call 11; refine (show Calls Try.prog 11 #[.slice A1 n1 c1, .int .i64 1] w1 _ from (qK67)).mono ?_; rintro e w2 ⟨rfl, hb2⟩; have HS2 := za (HS1.1.below hb2); have HK2 := za qK70; have cl2 : w2.cell? ⟨B4, 0, none⟩ = some (.slice A1 n1 c1) := (qK68); have hE := HS2.1.ends (.slice A1 n1 c1) true HK2.1 (Nat.le_trans HW.1.2 HD.1); have e1_ := hE.1; have e2_ := hE.2.1; have e3_ := hE.2.2.1; have e4_ := hE.2.2.2.1; have HE := za hE.2.2.2.2; clear hE hb2))
    refine ⟨by simp, .inl ⟨_, _, rfl, run_takeDeferred HE.1.1, ?_⟩⟩
    obtain ⟨x1, x2, x3, x4⟩ := HE.1.2 (.deferred none)
    refine ⟨_, results_read rfl rfl x1 x2, _, rfl, by rw [HX.1]; have x5 := x4; rw [HN.1] at x5; exact x5, x3⟩
   | false =>
    have b1 : (tx.toList != s.toList) = true := by simp [bne, htx]
    have e2 : r2 = false := by rw [HR3.1, htx]; rfl
    have e3 := HR5.1 e2; subst e2 e3
    gi_wp2
    go_wp2_with (first | (go_at_call 70; refine hSC.mono ?_; rintro e w1 ⟨rfl, hr1, hg1⟩; have hS1 := HS.1.sorted (by rw [HN.1]; exact hr1) (by rw [HN.1]; exact hg1); have HS1 := za hS1.1; have HK1 := za (hS1.2 _ _ HK.1 rfl); have cl1 : w1.cell? ⟨B4, 0, none⟩ = some (.slice A1 n1 c1) := (qK69); clear hS1 hg1 hr1) | (go_at_call 11; refine (show Calls Try.prog 11 #[.slice A1 n1 c1, .int .i64 1] w1 _ from (qK67)).mono ?_; rintro e w2 ⟨rfl, hb2⟩; have HS2 := za (HS1.1.below hb2); have HK2 := za qK70; have cl2 : w2.cell? ⟨B4, 0, none⟩ = some (.slice A1 n1 c1) := (qK68); have hE := HS2.1.ends (.slice none 0 0) false HK2.1 (Nat.le_trans HW.1.2 HD.1); have e1_ := hE.1; have e2_ := hE.2.1; have e3_ := hE.2.2.1; have e4_ := hE.2.2.2.1; have HE := za hE.2.2.2.2; clear hE hb2))
    refine ⟨by simp, .inl ⟨_, _, rfl, run_takeDeferred HE.1.1, ?_⟩⟩
    obtain ⟨x1, x2, x3, _⟩ := HE.1.2 (.deferred none)
    refine ⟨_, results_read rfl rfl x1 x2, _, rfl, Kd.R_nil _ _ _ _ _, x3⟩
 case stop =>
  rintro D W hD ⟨h1, h2, h3, h4⟩ hK
  have ne2 : B2 ≠ D := fun e => by rw [e] at h3; rw [hK] at h3; cases h3
  have ne3 : B3 ≠ D := fun e => by rw [e] at h4; rw [hK] at h4; cases h4
  gi_wp2
  go_wp2
  refine ⟨by simp, .inl ⟨_, _, rfl, run_takeDeferred hK, ?_⟩⟩
  obtain ⟨e1, e2⟩ := HR1.1 h1; rw [e1, e2]
  refine ⟨_, results_read rfl rfl ((World.putObj_heap_other ne2).trans h3) ((World.putObj_heap_other ne3).trans h4), _, rfl, Kd.R_nil _ _ _ _ _, h2.grown (grownBy_putObj' W D _) h2.size (fun k hk => by cases hk; exact Nat.le_trans HS0.1.b.size hD)⟩
theorem ib_lt (c : UInt8) : ∀ l : List UInt8, 0 ≤ Lib.indexByte l c → Lib.indexByte l c < l.length := by
 intro l
 induction l with
 | nil => intro h; simp [Lib.indexByte] at h
 | cons b l ih =>
  intro h
  unfold Lib.indexByte at h ⊢
  by_cases h1 : (b == c) = true
  ·simp [h1]
  ·simp only [h1, Bool.false_eq_true, if_false] at h ⊢
   by_cases h2 : (Lib.indexByte l c == -1) = true
   ·simp [h2] at h
   ·simp only [h2, Bool.false_eq_true, if_false] at h ⊢; have h3 := Lib.indexByte_ge l c
    have h4 : Lib.indexByte l c ≠ -1 := by simpa using h2
    have := ih (by omega); rw [List.length_cons]
    omega
def lnsF : Nat → ByteArray → List ByteArray
 | 0, _ => []
 | n + 1, s => if s.size = 0 then [] else if 0 ≤ ln_i s then s.extract 0 (ln_i s + 1).toNat :: lnsF n (s.extract (ln_i s + 1).toNat s.size) else [s]
def lns (s : ByteArray) : List ByteArray := lnsF s.size s
theorem lnsF_is : ∀ (n : Nat) (s : ByteArray), s.size ≤ n → IsLns s (lnsF n s)
 | 0, s, h => .nil (by omega)
 | n + 1, s, h => by
  unfold lnsF
  by_cases h1 : s.size = 0
  ·rw [zX h1]; exact .nil h1
  ·rw [zY h1]
   by_cases h2 : 0 ≤ ln_i s
   ·rw [zX h2]
    have h3 : ln_i s + 1 ≤ s.size := by
     have := ib_lt 10 s.data.toList h2
     have e : (s.data.toList.length : Int) = s.size := by simp
     unfold ln_i
     omega
    exact .more h2 h3 (lnsF_is n _ (by rw [ByteArray.size_extract]; omega))
   ·rw [zY h2]
    exact .last (by omega) (by omega)
def impl_ReadPlan.f (k : Nat) (s0 : ByteArray) : Option (List S44 × Bool) :=
 if s0.size ≤ 1000000000 then (if rd_big (lns s0) = true then some ([], false) else (impl_PlanText.f k (rd_sort (rd_all 0 (lns s0))) 1).bind fun q => if (q.2 && (q.1.toList == s0.toList)) = true then some (rd_sort (rd_all 0 (lns s0)), true) else some ([], false)) else none
theorem impl_ReadPlan.calls (k : Nat) (s0 : ByteArray) (r1 : List S44) (r2 : Bool) (w : World) (h : impl_ReadPlan.f k s0 = some (r1, r2)) :
  Calls Try.prog 32 #[.string s0] w fun e w' => ∃ v0_ : Value, e = .returned (.tuple #[v0_, .bool r2]) ∧ Kd.R k44 44 w' w.heap.size (fun _ => True) v0_ r1 ∧ Below w.heap.size w w' := by
 unfold impl_ReadPlan.f at h
 by_cases h1 : s0.size ≤ 1000000000
 ·rw [zX h1] at h; have hL : IsLns s0 (lns s0) := lnsF_is _ _ (zn _)
  cases hb : rd_big (lns s0) with
  | true =>
   rw [zX hb] at h; simp only [zZ, ya] at h; obtain ⟨rfl, rfl⟩ := h
   exact impl_ReadPlan.reads s0 (lns s0) k [] false w hL h1 (fun _ => ⟨rfl, rfl⟩) (fun h2 => by rw [hb] at h2; cases h2)
  | false =>
   rw [zY (by rw [hb]; exact Bool.false_ne_true)] at h; obtain ⟨⟨tx, ok⟩, A1, h⟩ := zB h
   cases hq : (ok && (tx.toList == s0.toList)) with
   | true =>
    rw [zX hq] at h; simp only [zZ, ya] at h; obtain ⟨rfl, rfl⟩ := h
    exact impl_ReadPlan.reads s0 (lns s0) k _ true w hL h1 (fun h2 => by rw [hb] at h2; cases h2) (fun _ => ⟨tx, ok, A1, hq.symm, (fun _ => rfl), (fun h3 => zM h3 (by decide))⟩)
   | false =>
    rw [zY (by rw [hq]; exact Bool.false_ne_true)] at h; simp only [zZ, ya] at h; obtain ⟨rfl, rfl⟩ := h
    exact impl_ReadPlan.reads s0 (lns s0) k _ false w hL h1 (fun h2 => by rw [hb] at h2; cases h2) (fun _ => ⟨tx, ok, A1, hq.symm, (fun h3 => zM h3 (by decide)), (fun _ => rfl)⟩)
 ·rw [zY h1] at h; cases h
set_option maxHeartbeats 8000000

/-- A state of type 85 at block g of W; what its slices lead to came in by w0. -/
def IsS85 (w0 W : World) (g : Nat) (f0 : List Int) (f1 : Int) (f2 : Int) : Prop := ∃ A0 c0, W.heap[g]? = some (.cells #[.slice A0 f0.length c0, .int .i64 f1, .int .u64 f2] 85 (0, 0)) ∧ w0.heap.size ≤ g ∧ Kd.C (Kd.int .u8) w0 A0 f0.length f0
theorem IsS85.grown {w0 W : World} {g : Nat} {f0 : List Int} {f1 : Int} {f2 : Int} {W1 : World} {row : Option Nat} (h : IsS85 w0 W g f0 f1 f2) (hw : W.grownBy W1 row) (hne : some g ≠ row) : IsS85 w0 W1 g f0 f1 f2 := by
 obtain ⟨A0, c0, hb, hg, hr0⟩ := h
 exact ⟨A0, c0, blk_grown hb hw hne, hg, hr0⟩
theorem IsS85.below {w0 W : World} {g : Nat} {f0 : List Int} {f1 : Int} {f2 : Int} {W1 : World} (h : IsS85 w0 W g f0 f1 f2) (hw : Below W.heap.size W W1) : IsS85 w0 W1 g f0 f1 f2 := h.grown (grown_of_below hw none) (by simp)
theorem IsS85.alloc {w0 W : World} {g : Nat} {f0 : List Int} {f1 : Int} {f2 : Int} (h : IsS85 w0 W g f0 f1 f2) (o : Obj) : IsS85 w0 (W.alloc o) g f0 f1 f2 := h.below (zV (zr _ _) o)
theorem IsS85.drewN {w0 W : World} {g : Nat} {f0 : List Int} {f1 : Int} {f2 : Int} (h : IsS85 w0 W g f0 f1 f2) (m : Nat) : IsS85 w0 (W.drewN m) g f0 f1 f2 := h
theorem IsS85.drew {w0 W : World} {g : Nat} {f0 : List Int} {f1 : Int} {f2 : Int} (h : IsS85 w0 W g f0 f1 f2) : IsS85 w0 W.drew g f0 f1 f2 := h
theorem IsS85.apart {w0 W : World} {g : Nat} {f0 : List Int} {f1 : Int} {f2 : Int} {α : Type} {d : Kd α} {e : Nat} {base : Nat} {ok : Nat → Prop} {v : Value} {xs : List α} (h : IsS85 w0 W g f0 f1 f2) (ho : d.R e W base ok v xs) (ht : ∀ q, q ∈ e :: d.E → q ≠ 85) : d.R e W base (fun k => ok k ∧ k ≠ g) v xs := by
 obtain ⟨A0, c0, hb, hg, hr0⟩ := h
 exact Kd.R_types ho hb ht
theorem IsS85.own_ne {w0 W : World} {g : Nat} {f0 : List Int} {f1 : Int} {f2 : Int} {α : Type} {d : Kd α} {e : Nat} {base : Nat} {ok : Nat → Prop} {v : Value} {xs : List α} (h : IsS85 w0 W g f0 f1 f2) (ho : d.R e W base ok v xs) (ht : e ≠ 85) : some g ≠ v.ownBlock := by
 obtain ⟨A0, c0, hb, hg, hr0⟩ := h
 exact Kd.R_ne ho hb ht
theorem IsS85.lt {w0 W : World} {g : Nat} {f0 : List Int} {f1 : Int} {f2 : Int} (h : IsS85 w0 W g f0 f1 f2) : g < W.heap.size := by
 obtain ⟨A0, c0, hb, hg, hr0⟩ := h
 exact blk_lt hb
theorem IsS85.ge {w0 W : World} {g : Nat} {f0 : List Int} {f1 : Int} {f2 : Int} (h : IsS85 w0 W g f0 f1 f2) : w0.heap.size ≤ g := by
 obtain ⟨A0, c0, hb, hg, hr0⟩ := h
 exact hg
theorem IsS85.far {w0 W : World} {g : Nat} {f0 : List Int} {f1 : Int} {f2 : Int} {p : Addr} (h : IsS85 w0 W g f0 f1 f2) (hne : g ≠ p.block) (u : Value) : IsS85 w0 (W.setCell p u) g f0 f1 f2 := by
 obtain ⟨A0, c0, hb, hg, hr0⟩ := h
 exact ⟨A0, c0, zj hb hne u, hg, hr0⟩
theorem cellS85_0 {W : World} {g : Nat} {A0 : Option Addr} {c0 : Nat} {f0 : List Int} {f1 : Int} {f2 : Int} (h : W.heap[g]? = some (.cells #[.slice A0 f0.length c0, .int .i64 f1, .int .u64 f2] 85 (0, 0))) : W.cell? ⟨g, 0, none⟩ = some (.slice A0 f0.length c0) := (blk_cell h 0).trans rfl
theorem cellS85_1 {W : World} {g : Nat} {A0 : Option Addr} {c0 : Nat} {f0 : List Int} {f1 : Int} {f2 : Int} (h : W.heap[g]? = some (.cells #[.slice A0 f0.length c0, .int .i64 f1, .int .u64 f2] 85 (0, 0))) : W.cell? ⟨g, 1, none⟩ = some (.int .i64 f1) := (blk_cell h 1).trans rfl
theorem IsS85.set_1 {w0 W : World} {g : Nat} {f0 : List Int} {f1 : Int} {f2 : Int} (h : IsS85 w0 W g f0 f1 f2) (x : Int) : IsS85 w0 (W.setCell ⟨g, 1, none⟩ (.int .i64 x)) g f0 x f2 := by
 obtain ⟨A0, c0, hb, hg, hr0⟩ := h
 exact ⟨A0, c0, by simpa using blk_set hb 1 (.int .i64 x), hg, hr0⟩
theorem cellS85_2 {W : World} {g : Nat} {A0 : Option Addr} {c0 : Nat} {f0 : List Int} {f1 : Int} {f2 : Int} (h : W.heap[g]? = some (.cells #[.slice A0 f0.length c0, .int .i64 f1, .int .u64 f2] 85 (0, 0))) : W.cell? ⟨g, 2, none⟩ = some (.int .u64 f2) := (blk_cell h 2).trans rfl
theorem IsS85.set_2 {w0 W : World} {g : Nat} {f0 : List Int} {f1 : Int} {f2 : Int} (h : IsS85 w0 W g f0 f1 f2) (x : Int) : IsS85 w0 (W.setCell ⟨g, 2, none⟩ (.int .u64 x)) g f0 f1 x := by
 obtain ⟨A0, c0, hb, hg, hr0⟩ := h
 exact ⟨A0, c0, by simpa using blk_set hb 2 (.int .u64 x), hg, hr0⟩
def spec_l1Cur_next.f (s0_0 : List Int) (s0_1 : Int) (s0_2 : Int) : Option (Int × Int × Int) := if s0_1 < (s0_0.length : Int) then (if 0 ≤ s0_1 then (if (wrap64 (s0_1 + 1)) ≤ (s0_0.length : Int) then (some (wrap64 (rd s0_0 s0_1), wrap64 (s0_1 + 1), IntKind.u64.wrap ((IntKind.u64.wrap ((IntKind.u64.wrap (s0_2 * 6364136223846793005)) + (IntKind.u64.wrap (wrap64 (rd s0_0 s0_1))))) + 933933))) else (some (wrap64 (Go.bits .and .u64 ((IntKind.u64.wrap ((IntKind.u64.wrap ((IntKind.u64.wrap (s0_2 * 6364136223846793005)) + (IntKind.u64.wrap (wrap64 (rd s0_0 s0_1))))) + 933933)) / 1099511627776) 255), wrap64 (s0_1 + 1), IntKind.u64.wrap ((IntKind.u64.wrap ((IntKind.u64.wrap (s0_2 * 6364136223846793005)) + (IntKind.u64.wrap (wrap64 (rd s0_0 s0_1))))) + 933933)))) else (none)) else (if (wrap64 (s0_1 + 1)) ≤ (s0_0.length : Int) then (some (0, wrap64 (s0_1 + 1), IntKind.u64.wrap ((IntKind.u64.wrap (IntKind.u64.wrap (s0_2 * 6364136223846793005))) + 933933))) else (some (wrap64 (Go.bits .and .u64 ((IntKind.u64.wrap ((IntKind.u64.wrap (IntKind.u64.wrap (s0_2 * 6364136223846793005))) + 933933)) / 1099511627776) 255), wrap64 (s0_1 + 1), IntKind.u64.wrap ((IntKind.u64.wrap (IntKind.u64.wrap (s0_2 * 6364136223846793005))) + 933933))))
theorem spec_l1Cur_next.calls (g : Nat) (s0_0 : List Int) (s0_1 : Int) (s0_2 : Int) (r1 : Int) (r2 : Int) (r3 : Int) (w0 w : World) (hI : IsS85 w0 w g s0_0 s0_1 s0_2) (hB : Below w0.heap.size w0 w) (h : spec_l1Cur_next.f s0_0 s0_1 s0_2 = some (r1, r2, r3)) :
  Calls Try.prog 83 #[.pointer (some ⟨g, 0, none⟩)] w fun e w' => e = .returned (.int .i64 r1) ∧ IsS85 w0 w' g s0_0 r2 r3 ∧ Below w0.heap.size w0 w' ∧ KeepBut w w' g none := by
 have HI0 := za hI; have HK := za (KeepBut.refl w g none); have HL := za hB.size; clear hI; have HW0 := za hB.size; have HB := za hB; clear hB; have H : (if s0_1 < (s0_0.length : Int) then (if 0 ≤ s0_1 then (if (wrap64 (s0_1 + 1)) ≤ (s0_0.length : Int) then (some (wrap64 (rd s0_0 s0_1), wrap64 (s0_1 + 1), IntKind.u64.wrap ((IntKind.u64.wrap ((IntKind.u64.wrap (s0_2 * 6364136223846793005)) + (IntKind.u64.wrap (wrap64 (rd s0_0 s0_1))))) + 933933))) else (some (wrap64 (Go.bits .and .u64 ((IntKind.u64.wrap ((IntKind.u64.wrap ((IntKind.u64.wrap (s0_2 * 6364136223846793005)) + (IntKind.u64.wrap (wrap64 (rd s0_0 s0_1))))) + 933933)) / 1099511627776) 255), wrap64 (s0_1 + 1), IntKind.u64.wrap ((IntKind.u64.wrap ((IntKind.u64.wrap (s0_2 * 6364136223846793005)) + (IntKind.u64.wrap (wrap64 (rd s0_0 s0_1))))) + 933933)))) else (none)) else (if (wrap64 (s0_1 + 1)) ≤ (s0_0.length : Int) then (some (0, wrap64 (s0_1 + 1), IntKind.u64.wrap ((IntKind.u64.wrap (IntKind.u64.wrap (s0_2 * 6364136223846793005))) + 933933))) else (some (wrap64 (Go.bits .and .u64 ((IntKind.u64.wrap ((IntKind.u64.wrap (IntKind.u64.wrap (s0_2 * 6364136223846793005))) + 933933)) / 1099511627776) 255), wrap64 (s0_1 + 1), IntKind.u64.wrap ((IntKind.u64.wrap (IntKind.u64.wrap (s0_2 * 6364136223846793005))) + 933933))))) = some (r1, r2, r3) := h; clear h
 by_cases c2 : s0_1 < (s0_0.length : Int)
 ·rw [zX c2] at H; have c2b0 : decide (s0_1 < (s0_0.length : Int)) = true := zc c2; clear c2
  by_cases c3 : 0 ≤ s0_1
  ·rw [zX c3] at H; have c3b0 : decide (0 ≤ s0_1) = true := zc c3; clear c3
   by_cases c4 : (wrap64 (s0_1 + 1)) ≤ (s0_0.length : Int)
   ·rw [zX c4] at H; have c4b0 : decide ((wrap64 (s0_1 + 1)) ≤ (s0_0.length : Int)) = true := zc c4; clear c4; simp only [zZ, ya] at H; obtain ⟨rfl, rfl, rfl⟩ := H; obtain ⟨ASz5_0, cSz5_0, HGz5, hgz5, HSz5_0⟩ := HI0.1; have hcz5_0 := cellS85_0 HGz5; have hcz5_1 := cellS85_1 HGz5; have hcz5_2 := cellS85_2 HGz5; have hfz5_1 := ze HGz5 1; have hfz5_2 := ze HGz5 2; clear HGz5 hgz5; have p232 : 0 ≤ (s0_1 : Int) := zb (qK12); have q232 : s0_1 < (s0_0.length : Int) := zb (qK12); obtain ⟨ad232, e232, hx232_0⟩ := Kd.at_int HSz5_0 s0_1 p232 q232; cases e232; replace hx232_0 := pw_cell_below HB.1 hx232_0; replace p232 := zv p232; replace q232 := zv q232
    go_enter Try.func83, Try.ntmps83
    go_wp2
    repeat (go_quiet (fail); try go_wp2)
    go_ret
    exact ⟨(qK15), (qK1), (qK4), (qK3)⟩
   ·rw [zY c4] at H; have c4b0 : decide ((wrap64 (s0_1 + 1)) ≤ (s0_0.length : Int)) = false := zu c4; clear c4; simp only [zZ, ya] at H; obtain ⟨rfl, rfl, rfl⟩ := H; obtain ⟨ASz6_0, cSz6_0, HGz6, hgz6, HSz6_0⟩ := HI0.1; have hcz6_0 := cellS85_0 HGz6; have hcz6_1 := cellS85_1 HGz6; have hcz6_2 := cellS85_2 HGz6; have hfz6_1 := ze HGz6 1; have hfz6_2 := ze HGz6 2; clear HGz6 hgz6; have p232 : 0 ≤ (s0_1 : Int) := zb (qK12); have q232 : s0_1 < (s0_0.length : Int) := zb (qK12); obtain ⟨ad232, e232, hx232_0⟩ := Kd.at_int HSz6_0 s0_1 p232 q232; cases e232; replace hx232_0 := pw_cell_below HB.1 hx232_0; replace p232 := zv p232; replace q232 := zv q232
    go_enter Try.func83, Try.ntmps83
    go_wp2
    repeat (go_quiet (fail); try go_wp2)
    go_ret
    exact ⟨(qK15), (qK1), (qK4), (qK3)⟩
  ·rw [zY c3] at H
   exact zM H (by simp)
 ·rw [zY c2] at H; have c2b0 : decide (s0_1 < (s0_0.length : Int)) = false := zu c2; clear c2
  by_cases c7 : (wrap64 (s0_1 + 1)) ≤ (s0_0.length : Int)
  ·rw [zX c7] at H; have c7b0 : decide ((wrap64 (s0_1 + 1)) ≤ (s0_0.length : Int)) = true := zc c7; clear c7; simp only [zZ, ya] at H; obtain ⟨rfl, rfl, rfl⟩ := H; obtain ⟨ASz8_0, cSz8_0, HGz8, hgz8, HSz8_0⟩ := HI0.1; have hcz8_0 := cellS85_0 HGz8; have hcz8_1 := cellS85_1 HGz8; have hcz8_2 := cellS85_2 HGz8; have hfz8_1 := ze HGz8 1; have hfz8_2 := ze HGz8 2; clear HGz8 hgz8
   go_enter Try.func83, Try.ntmps83
   go_wp2
   repeat (go_quiet (fail); try go_wp2)
   go_ret
   exact ⟨(qK15), (qK1), (qK4), (qK3)⟩
  ·rw [zY c7] at H; have c7b0 : decide ((wrap64 (s0_1 + 1)) ≤ (s0_0.length : Int)) = false := zu c7; clear c7; simp only [zZ, ya] at H; obtain ⟨rfl, rfl, rfl⟩ := H; obtain ⟨ASz9_0, cSz9_0, HGz9, hgz9, HSz9_0⟩ := HI0.1; have hcz9_0 := cellS85_0 HGz9; have hcz9_1 := cellS85_1 HGz9; have hcz9_2 := cellS85_2 HGz9; have hfz9_1 := ze HGz9 1; have hfz9_2 := ze HGz9 2; clear HGz9 hgz9
   go_enter Try.func83, Try.ntmps83
   go_wp2
   repeat (go_quiet (fail); try go_wp2)
   go_ret
   exact ⟨(qK15), (qK1), (qK4), (qK3)⟩

def spec_l1Cur_pick.f (s0_0 : List Int) (s0_1 : Int) (s0_2 : Int) (a1 : Int) : Option (Int × Int × Int) := if a1 ≤ 1 then (some (0, s0_1, s0_2)) else ((spec_l1Cur_next.f s0_0 s0_1 s0_2).bind fun bt233 => (if a1 > 200 then ((spec_l1Cur_next.f s0_0 bt233.2.1 bt233.2.2).bind fun bt236 => (if a1 = 0 then (none) else (some (Int.tmod (wrap64 ((wrap64 (bt233.1 * 256)) + bt236.1)) a1, bt236.2.1, bt236.2.2)))) else (if a1 = 0 then (none) else (some (Int.tmod bt233.1 a1, bt233.2.1, bt233.2.2)))))
theorem spec_l1Cur_pick.calls (g : Nat) (s0_0 : List Int) (s0_1 : Int) (s0_2 : Int) (a1 : Int) (r1 : Int) (r2 : Int) (r3 : Int) (w0 w : World) (hI : IsS85 w0 w g s0_0 s0_1 s0_2) (hB : Below w0.heap.size w0 w) (h : spec_l1Cur_pick.f s0_0 s0_1 s0_2 a1 = some (r1, r2, r3)) :
  Calls Try.prog 60 #[.pointer (some ⟨g, 0, none⟩), .int .i64 a1] w fun e w' => e = .returned (.int .i64 r1) ∧ IsS85 w0 w' g s0_0 r2 r3 ∧ Below w0.heap.size w0 w' ∧ KeepBut w w' g none := by
 have HI0 := za hI; have HK := za (KeepBut.refl w g none); have HL := za hB.size; clear hI; have HW0 := za hB.size; have HB := za hB; clear hB; have H : (if a1 ≤ 1 then (some (0, s0_1, s0_2)) else ((spec_l1Cur_next.f s0_0 s0_1 s0_2).bind fun bt233 => (if a1 > 200 then ((spec_l1Cur_next.f s0_0 bt233.2.1 bt233.2.2).bind fun bt236 => (if a1 = 0 then (none) else (some (Int.tmod (wrap64 ((wrap64 (bt233.1 * 256)) + bt236.1)) a1, bt236.2.1, bt236.2.2)))) else (if a1 = 0 then (none) else (some (Int.tmod bt233.1 a1, bt233.2.1, bt233.2.2)))))) = some (r1, r2, r3) := h; clear h
 by_cases c3 : a1 ≤ 1
 ·rw [zX c3] at H; have c3b0 : decide (a1 ≤ 1) = true := zc c3; clear c3; simp only [zZ, ya] at H; obtain ⟨rfl, rfl, rfl⟩ := H
  go_enter Try.func60, Try.ntmps60
  go_wp2
  go_ret
  exact ⟨(qK15), (qK1), (qK4), (qK3)⟩
 ·rw [zY c3] at H; have c3b0 : decide (a1 ≤ 1) = false := zu c3; clear c3; replace H := bindA H; obtain ⟨⟨t233, t234, t235⟩, A4, H⟩ := H; (try dsimp only at H)
  by_cases c5 : a1 > 200
  ·rw [zX c5] at H; have c5b0 : decide (200 < a1) = true := zc c5; clear c5; replace H := bindA H; obtain ⟨⟨t236, t237, t238⟩, A6, H⟩ := H; (try dsimp only at H)
   by_cases c7 : a1 = 0
   ·rw [zX c7] at H
    exact zM H (by simp)
   ·rw [zY c7] at H; have c7b0 : (a1 == 0) = false := zw c7; have c7b1 : (a1 != 0) = true := zQ c7; simp only [zZ, ya] at H; obtain ⟨rfl, rfl, rfl⟩ := H
    go_enter Try.func60, Try.ntmps60
    go_wp2_with (first | ((with_reducible refine zo (f := 83) rfl ?_); refine zR (some 9) rfl rfl Try.func83 (qK18) rfl #[.pointer (some ⟨g, 0, none⟩)] rfl (qK5) ?_; (with_reducible refine (spec_l1Cur_next.calls g s0_0 s0_1 s0_2 t233 t234 t235 w0 _ ?s1 ?s2 A4.1).mono ?_); (case s1 => exact (qK1)); (case s2 => exact (qK4)); rintro e w8 ⟨rfl, hi, hb, hk⟩; refine ⟨_, rfl, ?_⟩; replace HK := za qK84; replace HB := za hb; replace HI0 := za hi; clear hb hk hi) | ((with_reducible refine zo (f := 83) rfl ?_); refine zR (some 15) rfl rfl Try.func83 (qK18) rfl #[.pointer (some ⟨g, 0, none⟩)] rfl (qK5) ?_; (with_reducible refine (spec_l1Cur_next.calls g s0_0 t234 t235 t236 t237 t238 w0 _ ?s1 ?s2 A6.1).mono ?_); (case s1 => exact (qK1)); (case s2 => exact (qK4)); rintro e w9 ⟨rfl, hi, hb, hk⟩; refine ⟨_, rfl, ?_⟩; replace HK := za qK84; replace HB := za hb; replace HI0 := za hi; clear hb hk hi))
    go_ret
    exact ⟨(qK15), (qK1), (qK4), (qK3)⟩
  ·rw [zY c5] at H; have c5b0 : decide (200 < a1) = false := zu c5; clear c5
   by_cases c10 : a1 = 0
   ·rw [zX c10] at H
    exact zM H (by simp)
   ·rw [zY c10] at H; have c10b0 : (a1 == 0) = false := zw c10; have c10b1 : (a1 != 0) = true := zQ c10; simp only [zZ, ya] at H; obtain ⟨rfl, rfl, rfl⟩ := H
    go_enter Try.func60, Try.ntmps60
    go_wp2_with (first | ((with_reducible refine zo (f := 83) rfl ?_); refine zR (some 9) rfl rfl Try.func83 (qK18) rfl #[.pointer (some ⟨g, 0, none⟩)] rfl (qK5) ?_; (with_reducible refine (spec_l1Cur_next.calls g s0_0 s0_1 s0_2 t233 t234 t235 w0 _ ?s1 ?s2 A4.1).mono ?_); (case s1 => exact (qK1)); (case s2 => exact (qK4)); rintro e w11 ⟨rfl, hi, hb, hk⟩; refine ⟨_, rfl, ?_⟩; replace HK := za qK84; replace HB := za hb; replace HI0 := za hi; clear hb hk hi))
    go_ret
    exact ⟨(qK15), (qK1), (qK4), (qK3)⟩

def spec_l1Cur_among.f (s0_0 : List Int) (s0_1 : Int) (s0_2 : Int) (l1 : List Int) : Option (Int × Int × Int) := (spec_l1Cur_pick.f s0_0 s0_1 s0_2 (l1.length : Int)).bind fun bt239 => (if 0 ≤ bt239.1 then (if bt239.1 < (l1.length : Int) then (some (rd l1 bt239.1, bt239.2.1, bt239.2.2)) else (none)) else (none))
theorem spec_l1Cur_among.calls (g : Nat) (s0_0 : List Int) (s0_1 : Int) (s0_2 : Int) (A1 : Option Addr) (c1 : Nat) (l1 : List Int) (r1 : Int) (r2 : Int) (r3 : Int) (w0 w : World) (hI : IsS85 w0 w g s0_0 s0_1 s0_2) (hB : Below w0.heap.size w0 w) (hr1 : Kd.C (Kd.int .i64) w A1 l1.length l1) (hc1 : l1.length ≤ c1) (hf1 : ∀ ad, A1 = some ad → 0 < l1.length → ad.block ≠ g) (h : spec_l1Cur_among.f s0_0 s0_1 s0_2 l1 = some (r1, r2, r3)) :
  Calls Try.prog 59 #[.pointer (some ⟨g, 0, none⟩), .slice A1 l1.length c1] w fun e w' => e = .returned (.int .i64 r1) ∧ IsS85 w0 w' g s0_0 r2 r3 ∧ Below w0.heap.size w0 w' ∧ KeepBut w w' g none := by
 have HR1 := za hr1; have HC1 := za hc1; clear hr1 hc1; have HI0 := za hI; have HK := za (KeepBut.refl w g none); have HL := za hB.size; clear hI; have HW0 := za hB.size; have HB := za hB; clear hB; have H : ((spec_l1Cur_pick.f s0_0 s0_1 s0_2 (l1.length : Int)).bind fun bt239 => (if 0 ≤ bt239.1 then (if bt239.1 < (l1.length : Int) then (some (rd l1 bt239.1, bt239.2.1, bt239.2.2)) else (none)) else (none))) = some (r1, r2, r3) := h; clear h; replace H := bindA H; obtain ⟨⟨t239, t240, t241⟩, A3, H⟩ := H; (try dsimp only at H)
 by_cases c4 : 0 ≤ t239
 ·rw [zX c4] at H; have c4b0 : decide (0 ≤ t239) = true := zc c4; clear c4
  by_cases c5 : t239 < (l1.length : Int)
  ·rw [zX c5] at H; have c5b0 : decide (t239 < (l1.length : Int)) = true := zc c5; clear c5; simp only [zZ, ya] at H; obtain ⟨rfl, rfl, rfl⟩ := H
   go_enter Try.func59, Try.ntmps59
   go_wp2_with (first | ((with_reducible refine zo (f := 60) rfl ?_); refine zR (some 9) rfl rfl Try.func60 (qK18) rfl #[.pointer (some ⟨g, 0, none⟩), .int .i64 (l1.length : Int)] rfl (qK5) ?_; (with_reducible refine (spec_l1Cur_pick.calls g s0_0 s0_1 s0_2 (l1.length : Int) t239 t240 t241 w0 _ ?s1 ?s2 A3.1).mono ?_); (case s1 => exact (qK1)); (case s2 => exact (qK4)); rintro e w6 ⟨rfl, hi, hb, hk⟩; refine ⟨_, rfl, ?_⟩; replace HK := za qK84; replace HB := za hb; replace HI0 := za hi; clear hb hk hi; have p242 : 0 ≤ (t239 : Int) := zb (qK12); have q242 : t239 < (l1.length : Int) := zb (qK12); obtain ⟨ad242, e242, hx242_0⟩ := Kd.at_int HR1.1 t239 p242 q242; cases e242; replace hx242_0 := keep_cell HK.1 hx242_0 (by first | (rw [add_block]; exact hf1 _ rfl (by omega)) | exact hf1 _ rfl (by omega) | exact hf1 ad242 rfl (by omega)); replace p242 := zv p242; replace q242 := zv q242))
   go_ret
   exact ⟨(qK15), (qK1), (qK4), (qK3)⟩
  ·rw [zY c5] at H
   exact zM H (by simp)
 ·rw [zY c4] at H
  exact zM H (by simp)

def spec_l1Cur_of.f (s0_0 : List Int) (s0_1 : Int) (s0_2 : Int) (l1 : List ByteArray) : Option (ByteArray × Int × Int) := (spec_l1Cur_pick.f s0_0 s0_1 s0_2 (l1.length : Int)).bind fun bt243 => (if 0 ≤ bt243.1 then (if bt243.1 < (l1.length : Int) then (some (rdOf ByteArray.empty l1 bt243.1, bt243.2.1, bt243.2.2)) else (none)) else (none))
theorem spec_l1Cur_of.calls (g : Nat) (s0_0 : List Int) (s0_1 : Int) (s0_2 : Int) (A1 : Option Addr) (c1 : Nat) (l1 : List ByteArray) (r1 : ByteArray) (r2 : Int) (r3 : Int) (w0 w : World) (hI : IsS85 w0 w g s0_0 s0_1 s0_2) (hB : Below w0.heap.size w0 w) (hr1 : Kd.C Kd.string w A1 l1.length l1) (hc1 : l1.length ≤ c1) (hf1 : ∀ ad, A1 = some ad → 0 < l1.length → ad.block ≠ g) (h : spec_l1Cur_of.f s0_0 s0_1 s0_2 l1 = some (r1, r2, r3)) :
  Calls Try.prog 66 #[.pointer (some ⟨g, 0, none⟩), .slice A1 l1.length c1] w fun e w' => e = .returned (.string r1) ∧ IsS85 w0 w' g s0_0 r2 r3 ∧ Below w0.heap.size w0 w' ∧ KeepBut w w' g none := by
 have HR1 := za hr1; have HC1 := za hc1; clear hr1 hc1; have HI0 := za hI; have HK := za (KeepBut.refl w g none); have HL := za hB.size; clear hI; have HW0 := za hB.size; have HB := za hB; clear hB; have H : ((spec_l1Cur_pick.f s0_0 s0_1 s0_2 (l1.length : Int)).bind fun bt243 => (if 0 ≤ bt243.1 then (if bt243.1 < (l1.length : Int) then (some (rdOf ByteArray.empty l1 bt243.1, bt243.2.1, bt243.2.2)) else (none)) else (none))) = some (r1, r2, r3) := h; clear h; replace H := bindA H; obtain ⟨⟨t243, t244, t245⟩, A3, H⟩ := H; (try dsimp only at H)
 by_cases c4 : 0 ≤ t243
 ·rw [zX c4] at H; have c4b0 : decide (0 ≤ t243) = true := zc c4; clear c4
  by_cases c5 : t243 < (l1.length : Int)
  ·rw [zX c5] at H; have c5b0 : decide (t243 < (l1.length : Int)) = true := zc c5; clear c5; simp only [zZ, ya] at H; obtain ⟨rfl, rfl, rfl⟩ := H
   go_enter Try.func66, Try.ntmps66
   go_wp2_with (first | ((with_reducible refine zo (f := 60) rfl ?_); refine zR (some 9) rfl rfl Try.func60 (qK18) rfl #[.pointer (some ⟨g, 0, none⟩), .int .i64 (l1.length : Int)] rfl (qK5) ?_; (with_reducible refine (spec_l1Cur_pick.calls g s0_0 s0_1 s0_2 (l1.length : Int) t243 t244 t245 w0 _ ?s1 ?s2 A3.1).mono ?_); (case s1 => exact (qK1)); (case s2 => exact (qK4)); rintro e w6 ⟨rfl, hi, hb, hk⟩; refine ⟨_, rfl, ?_⟩; replace HK := za qK84; replace HB := za hb; replace HI0 := za hi; clear hb hk hi; have p246 : 0 ≤ (t243 : Int) := zb (qK12); have q246 : t243 < (l1.length : Int) := zb (qK12); obtain ⟨ad246, e246, hx246_0⟩ := Kd.at_string HR1.1 t243 p246 q246; cases e246; replace hx246_0 := keep_cell HK.1 hx246_0 (by first | (rw [add_block]; exact hf1 _ rfl (by omega)) | exact hf1 _ rfl (by omega) | exact hf1 ad246 rfl (by omega)); replace p246 := zv p246; replace q246 := zv q246))
   go_ret
   exact ⟨(qK15), (qK1), (qK4), (qK3)⟩
  ·rw [zY c5] at H
   exact zM H (by simp)
 ·rw [zY c4] at H
  exact zM H (by simp)

end Go.Proofs.Ytckidmhkhlbkeaa.MK
