-- Written by a program of this session (wip/drv.py, wip/tight2.py). -- tight2
import Derived.RangeFuncNested
import Derived.RangeFuncBound
import Derived.RangeFuncCalls
import Derived.RangeFuncLeaves
import Derived.RangeFuncBox
import Derived.Shelf.Abstract
import Derived.Shelf.RegionOpen
import Derived.OwnWalkIn
import Derived.TacticsInMore
import Derived.LoopNIn
import Derived.LoopIn
import Derived.Test.YtmbpdegkkdcjnaaDoorMWx0
import Derived.Test.YtmbpdegkkdcjnaaDoorMWx1
import Derived.Test.YtmbpdegkkdcjnaaDoorMWx3
namespace Go.Proofs.YtmbpdegkkdcjnaaDoor.MW
open Go.RowKit Go.Proofs.YtmbpdegkkdcjnaaDoorW.PrintWords Go.Proofs.YtmbpdegkkdcjnaaDoorW.PrintLast Go.Proofs.YtmbpdegkkdcjnaaDoorW.PrintMore
set_option maxRecDepth 100000
attribute [local go_sem] max2_int min2_int max_two min_two max_three min_three max_four min_four   -- for this text's walks alone
set_option linter.unusedVariables false
set_option linter.unusedSimpArgs false

attribute [local go_sem high] eqA44
/-! ### impl_ReverseWay: function 14 (by hand: wip/inj) -/
open Go.Shelf
/-! slices.Backward over structs of two whole numbers: the iterator's contract; a slice in memory, read from its end -/
attribute [local go_sem] Oper.semAt_some
def impl_ReverseWay.back.at (l : List S44) (j : Nat) : Nat × S44 := (l.length - 1 - j, l.getD (l.length - 1 - j) z44)
/-- What a round keeps: what lay below n₀, and the iterator's own box. -/
def impl_ReverseWay.back.Keep (n₀ Bs : Nat) (W W' : World) : Prop := Below n₀ W W' ∧ W'.heap[Bs]? = W.heap[Bs]?
theorem impl_ReverseWay.back.keep_t {n₀ Bs : Nat} {A B C : World} (h : impl_ReverseWay.back.Keep n₀ Bs A B) (k : impl_ReverseWay.back.Keep n₀ Bs B C) : impl_ReverseWay.back.Keep n₀ Bs A C := ⟨h.1.trans k.1, k.2.trans h.2⟩
theorem impl_ReverseWay.back.keep_b {n₀ Bs : Nat} {w : World} (hn : n₀ ≤ w.heap.size) (hb : Bs < w.heap.size) (W : World) (l : Nat) (o o' : Obj) (hl : w.heap.size ≤ l) (h : W.heap[l]? = some o) (hc : o.isCells = false) (hw : o.isWalk = false) : impl_ReverseWay.back.Keep n₀ Bs W (W.putObj l o') := ⟨belowK_b hn W l o o' hl h hc hw, World.putObj_heap_other (fun e => by omega)⟩
def impl_ReverseWay.back.upto (l : List S44) (k : Nat) : List (Nat × S44) := (List.range k).map (impl_ReverseWay.back.at l)
theorem impl_ReverseWay.back.upto_succ (l : List S44) (k : Nat) : impl_ReverseWay.back.upto l (k + 1) = impl_ReverseWay.back.upto l k ++ [impl_ReverseWay.back.at l k] := by simp [impl_ReverseWay.back.upto, List.range_succ]
theorem impl_ReverseWay.back.upto_length (l : List S44) (k : Nat) : (impl_ReverseWay.back.upto l k).length = k := by simp [impl_ReverseWay.back.upto]
set_option maxHeartbeats 4000000 in
theorem impl_ReverseWay.back.loop_in (F : Fence) (n : Nat) (h8 : F.fn 41) (hro : F.round = none) (hn : 1 ≤ n) (l Bs n₀ : Nat) (A0 : Option Addr) (c0 : Nat) (l0 : List S44) (w : World) (hr0 : Kd.C k44 w A0 l0.length l0) (hn₀ : w.heap.size ≤ n₀) (J Jx : List (Nat × S44) → World → Prop)
  (hY : ∀ pre x W, J pre W → pre.length < l0.length → YieldAt F (n - 1) Tryd.prog l #[.int .i64 (x.1 : Int), .agg #[.int .i64 x.2.f0, .int .i64 x.2.f1]] W fun e W' =>
   (e = .returned (.bool true) ∧ J (pre ++ [x]) W' ∧ impl_ReverseWay.back.Keep n₀ Bs W W') ∨ (e = .returned (.bool false) ∧ Jx (pre ++ [x]) W'))
  (W : World) (hwW : Below w.heap.size w W) (hB0 : W.cell? ⟨Bs, 0, none⟩ = some (.slice A0 l0.length c0)) (h0 : J [] W) :
  CallsIn F n Tryd.prog 41 #[.func (.yield l) #[] #[], .pointer (some ⟨Bs, 0, none⟩)] W fun e W' => (∃ v, e = .returned v) ∧
   ((∃ ys, ys = impl_ReverseWay.back.upto l0 l0.length ∧ J ys W') ∨ (∃ pre, (∃ k, k ≤ l0.length ∧ pre = impl_ReverseWay.back.upto l0 k) ∧ Jx pre W')) := by
 have hm := hr0.2.1
 refine callsIn_of_wp Tryd.func41 rfl h8 ?_ hro
 simp only [Tryd.ntmps41, List.size_toArray, List.length_cons, List.length_nil, Nat.reduceAdd, Nat.reduceSub, Array.replicate_succ, Array.replicate_zero, List.push_toArray, List.append_toArray, List.nil_append, List.cons_append]
 gi_wp2
 gi_loopw [3] (fun i wr => ∃ k : Nat, k ≤ l0.length ∧ i = .int .i64 ((l0.length : Int) - 1 - (k : Int)) ∧ J (impl_ReverseWay.back.upto l0 k) wr ∧ impl_ReverseWay.back.Keep n₀ Bs W wr)
  (fun i _ => (intOf i + 1).toNat)
 case atStart => exact ⟨0, Nat.zero_le _, by simp, h0, Below.refl _ _, rfl⟩
 case round =>
  obtain ⟨k, hk, rfl, hJs, hnx⟩ := hrel
  have hBr := (World.cell?_of_block (a := ⟨Bs, 0, none⟩) hnx.2).trans hB0
  by_cases hlt : k < l0.length
  ·obtain ⟨fn, tmps, assign, body, hy, hR⟩ := hY _ (impl_ReverseWay.back.at l0 k) wr hJs (by rw [impl_ReverseWay.back.upto_length]; exact hlt)
   obtain ⟨ad, ead, hx0, hx1⟩ := at_T44 (Kd.C_below hr0 (hwW.trans (hnx.1.mono hn₀))) ((l0.length : Int) - 1 - (k : Int)) (by omega) (by omega)
   have hat : rd_T44 l0 ((l0.length : Int) - 1 - (k : Int)) = (impl_ReverseWay.back.at l0 k).2 := by
    simp only [rd_T44, impl_ReverseWay.back.at]
    congr 1
    omega
   have hat1 : ((impl_ReverseWay.back.at l0 k).1 : Int) = (l0.length : Int) - 1 - (k : Int) := by
    simp only [impl_ReverseWay.back.at]
    omega
   have et : ((l0.length : Int) - 1 - (k : Int)).toNat = l0.length - 1 - k := by omega
   rw [hat, et] at hx0 hx1
   clear et
   rw [hat1] at hy
   obtain ⟨x, hx⟩ : ∃ x, x = impl_ReverseWay.back.at l0 k := ⟨_, rfl⟩
   rw [← hx] at hx0 hx1 hy hR
   have HX := Aside0.mk hx; clear hx hat hat1
   cases ead
   try dsimp only at hy
   gi_wp2
   refine hR.mono ?_
   rintro e W3 (⟨rfl, hJ3, hk3⟩ | ⟨rfl, hJx3⟩)
   ·gi_wp2
    go_roundw
    case rel => exact ⟨k + 1, by omega, by simp; omega, by rw [impl_ReverseWay.back.upto_succ, ← HX.out]; exact hJ3, impl_ReverseWay.back.keep_t hnx hk3⟩
    case measure => simp [intOf]; omega
   ·gi_wp2
    refine bodyPost_ret (results_none rfl _ _ _) rfl ?_
    exact ⟨⟨_, rfl⟩, .inr ⟨_, ⟨k + 1, by omega, by rw [impl_ReverseWay.back.upto_succ, ← HX.out]⟩, hJx3⟩⟩
  ·obtain rfl : k = l0.length := by omega
   gi_wp2
   go_end0
   exact ⟨⟨_, rfl⟩, .inl ⟨_, rfl, hJs⟩⟩
set_option maxHeartbeats 1000000 in
theorem impl_ReverseWay.back.maker_in (F : Fence) (n : Nat) (h6 : F.fn 28) (hro : F.round = none) (a : Option Addr) (len cap : Nat) (w : World) :
  CallsIn F n Tryd.prog 28 #[.slice a len cap] w fun e w' => e = .returned (.func (.func 41) #[] #[.pointer (some ⟨w.heap.size, 0, none⟩)]) ∧ w' = w.alloc (.cells #[.slice a len cap] 24) := by
 refine callsIn_of_wp Tryd.func28 rfl h6 ?_ hro
 simp only [Tryd.ntmps28, List.size_toArray, List.length_cons, List.length_nil, Nat.reduceAdd, Nat.reduceSub, Array.replicate_succ, Array.replicate_zero, List.push_toArray, List.append_toArray, List.nil_append, List.cons_append]
 gi_wp2
 go_ret
 exact ⟨rfl, rfl⟩
theorem impl_ReverseWay.back.stops (F : Fence) (n : Nat) (h8 : F.fn 41) (hro : F.round = none) (hn : 1 ≤ n) (Bs n₀ : Nat) (A0 : Option Addr) (c0 : Nat) (l0 : List S44) (w W0 : World) (hr0 : Kd.C k44 w A0 l0.length l0) (hn₀ : w.heap.size ≤ n₀) (hwW : Below w.heap.size w W0) (hBn : Bs < W0.heap.size)
  (hc : W0.cell? ⟨Bs, 0, none⟩ = some (.slice A0 l0.length c0)) :
  SeqStopsK F n Tryd.prog 41 #[.pointer (some ⟨Bs, 0, none⟩)] (fun x : Nat × S44 => #[Value.int .i64 (x.1 : Int), Value.agg #[.int .i64 x.2.f0, .int .i64 x.2.f1]]) (impl_ReverseWay.back.Keep n₀ Bs) (fun ys => ys = impl_ReverseWay.back.upto l0 l0.length)
   (fun pre => ∃ k, k ≤ l0.length ∧ pre = impl_ReverseWay.back.upto l0 k) l0.length W0 := fun l J Jx W hW _ _ hY h0 =>
 impl_ReverseWay.back.loop_in F n h8 hro hn l Bs n₀ A0 c0 l0 w hr0 hn₀ J Jx hY W (hwW.trans (hW.mono hwW.size)) ((hW.cell (p := ⟨Bs, 0, none⟩) hBn).trans hc) h0
def impl_ReverseWay.rev (l0 : List S44) : List S44 := l0.reverse.map (fun x => ⟨x.f0, wrap64 (-x.f1)⟩)
def impl_ReverseWay.f (k : Nat) (l0 : List S44) : Option (List S44 × Bool) := (impl_IsWay.f k l0).bind fun t => if t = true then (if l0.length ≤ 1048576 then some (impl_ReverseWay.rev l0, true) else none) else some ([], false)
theorem impl_ReverseWay.mono : ∀ a0 k, LeO (impl_ReverseWay.f k a0) (impl_ReverseWay.f (k + 1) a0) := by
 intro a0 k
 unfold impl_ReverseWay.f
 have m0 := @impl_IsWay.mono
 exact qmono
/-- The collected runs, told by what has come. -/
def impl_ReverseWay.got (pre : List (Nat × S44)) : List S44 := pre.map (fun x => ⟨x.2.f0, wrap64 (-x.2.f1)⟩)
def impl_ReverseWay.flat (l : List S44) : List Value := l.flatMap (fun x => [.int .i64 x.f0, .int .i64 x.f1])
theorem impl_ReverseWay.got_all (l0 : List S44) : impl_ReverseWay.got (impl_ReverseWay.back.upto l0 l0.length) = impl_ReverseWay.rev l0 := by
 refine List.ext_getElem (by simp [impl_ReverseWay.got, impl_ReverseWay.rev, impl_ReverseWay.back.upto]) (fun i h1 h2 => ?_)
 have hi : i < l0.length := by simpa [impl_ReverseWay.rev] using h2
 have hj : l0.length - 1 - i < l0.length := by omega
 simp [impl_ReverseWay.got, impl_ReverseWay.rev, impl_ReverseWay.back.upto, impl_ReverseWay.back.at, List.getElem?_eq_getElem hj]
theorem impl_ReverseWay.two_new (W : World) (c0 c1 : Value) (t : Nat) : ∀ j u, [c0, c1][j]? = some u → (W.alloc (.cells #[c0, c1] t)).cell? (Addr.add ⟨W.heap.size, 0, none⟩ j) = some u := by
 intro j u h
 have hn := World.alloc_heap_new W (.cells #[c0, c1] t)
 rcases j with _ | _ | j
 ·simp at h; subst h; exact (blk_cell hn 0).trans rfl
 ·simp at h; subst h; exact (blk_cell hn 1).trans rfl
 ·simp at h
theorem impl_ReverseWay.reps (d : World) (base : Nat) (ok : Nat → Prop) (l : List S44) : Reps (k44.M d base ok) 2 l (impl_ReverseWay.flat l) := by
 induction l with
 | nil => exact Reps.none _ _
 | cons x t ih => exact Reps.c2 (k44_mkM _ _ _ x) ih
set_option maxHeartbeats 8000000 in
theorem impl_ReverseWay.calls (k : Nat) (A0 : Option Addr) (c0 : Nat) (l0 : List S44) (r1 : List S44) (r2 : Bool) (w : World) (hr0 : Kd.C k44 w A0 l0.length l0) (hc0 : l0.length ≤ c0) (h : impl_ReverseWay.f k l0 = some (r1, r2)) :
  Calls Tryd.prog 14 #[.slice A0 l0.length c0] w fun e w' => ∃ v0_ : Value, e = .returned (.tuple #[v0_, .bool r2]) ∧ Kd.R k44 44 w' w.heap.size (fun _ => True) v0_ r1 ∧ Below w.heap.size w w' := by
 obtain ⟨t, ht, h⟩ := Option.bind_eq_some_iff.mp h
 have HW := Aside0.mk (impl_IsWay.calls k A0 c0 l0 t w hr0 hc0 ht)
 cases t with
 | false =>
  simp only [Bool.false_eq_true, if_false, Option.some.injEq, Prod.mk.injEq] at h
  obtain ⟨rfl, rfl⟩ := h; clear ht
  go_enter Tryd.func14, Tryd.ntmps14
  go_wp2_with (go_at_call 9; refine HW.out.mono ?_; rintro e w1 ⟨rfl, hb⟩; have HB := Aside0.mk hb; clear hb)
  go_ret2
  exact ⟨_, rfl, Kd.R_nil _ _ _ _ _, HB.out⟩
 | true =>
  rw [if_pos rfl] at h
  by_cases hbig : l0.length ≤ 1048576
  case neg => rw [if_neg hbig] at h; cases h
  rw [if_pos hbig] at h
  simp only [Option.some.injEq, Prod.mk.injEq] at h
  obtain ⟨rfl, rfl⟩ := h; clear ht
  refine (callsIn_wide (n := 5)).1 ?_
  obtain ⟨i0, hi, hzz⟩ := Option.map_eq_some_iff.1 info44
  simp only [Prod.mk.injEq] at hzz
  obtain ⟨hz0, hz1, hz2⟩ := hzz
  refine callsIn_of_wp_marks Tryd.func14 rfl trivial ?_ rfl
  simp only [Tryd.ntmps14, List.size_toArray, List.length_cons, List.length_nil, Nat.reduceAdd, Nat.reduceSub, Array.replicate_succ, Array.replicate_zero, List.push_toArray, List.append_toArray, List.nil_append, List.cons_append]
  gi_wp2_with (first | (refine ⟨trivial, ?_⟩; gi_at_call 9; refine (callsIn_wide.2 HW.out).mono ?_; rintro e w1 ⟨rfl, hb⟩; have HB := Aside0.mk hb; clear hb) | (refine ⟨trivial, ?_⟩; gi_at_call 28; refine (impl_ReverseWay.back.maker_in Fence.wide 4 trivial rfl _ _ _ _).mono ?_; rintro e w' ⟨rfl, rfl⟩))
  have bO := (Boxed.new w1 24 (.slice none 0 0)).alloc (.cells #[.slice A0 l0.length c0] 24)
  have bN := Boxed.new (w1.alloc (.cells #[.slice none 0 0] 24)) 24 (.slice A0 l0.length c0)
  rw [World.size_alloc] at bN
  have hB0 : Below w1.heap.size w1 ((w1.alloc (.cells #[.slice none 0 0] 24)).alloc (.cells #[.slice A0 l0.length c0] 24)) := ((Below.refl _ w1).alloc (Nat.le_refl _) _).alloc (by simp) _
  have hsz : ((w1.alloc (.cells #[.slice none 0 0] 24)).alloc (.cells #[.slice A0 l0.length c0] 24)).heap.size = w1.heap.size + 2 := by simp
  obtain ⟨W0, hW0⟩ : ∃ W0, (w1.alloc (.cells #[.slice none 0 0] 24)).alloc (.cells #[.slice A0 l0.length c0] 24) = W0 := ⟨_, rfl⟩
  rw [hW0] at bO bN hB0 hsz ⊢
  clear hW0
  have hws := HB.out.size
  refine wpIn_rangeFunc_ownH rfl (by decide) (gf := 41) (lb := #[.pointer (some ⟨w1.heap.size + 1, 0, none⟩)]) rfl trivial (enters_of Tryd.func41 (by kernel_rfl) rfl)
   (impl_ReverseWay.back.stops Fence.wide 4 trivial rfl (by decide) (w1.heap.size + 1) w1.heap.size A0 c0 l0 w W0 hr0 hws (HB.out.trans (hB0.mono hws)) (by omega) bN.cell) impl_ReverseWay.back.keep_t (impl_ReverseWay.back.keep_b (by omega) (by omega)) (Below.refl _ _) (fun _ => rfl)
   (fun pre W => ((∃ v, Boxed W w1.heap.size 24 v ∧ W.ownsRow w1.heap.size 44 2 v (impl_ReverseWay.got pre).length (impl_ReverseWay.flat (impl_ReverseWay.got pre)) ∧ True) ∧ Boxed W (w1.heap.size + 1) 24 (.slice A0 l0.length c0)) ∧ Below w1.heap.size w1 W)
   (fun _ _ _ => False)
   (OwnFrom.and (OwnFrom.and (Own.from (holdsRow_own w1.heap.size w1.heap.size 24 44 2 (fun pre => (impl_ReverseWay.got pre).length) (fun pre => impl_ReverseWay.flat (impl_ReverseWay.got pre)) (fun _ _ => True)) _) (Own.from (boxed_own _ _ _) _)) (ownFrom_below (Nat.le_refl _) (by omega)))
   (fun _ _ _ _ _ hs _ _ => hs)
   ⟨⟨⟨_, bO, World.ownsRow_nil _ _ _ _, trivial⟩, bN⟩, hB0⟩
   (fun x a' W => ∃ Bx, w1.heap.size + 1 < Bx ∧ W.heap[Bx]? = some (.cells #[.int .i64 x.2.f0, .int .i64 x.2.f1] 44 (0, 0)) ∧ a' = { tmps := #[.slice A0 l0.length c0, undef, .slice none 0 0, .bool false, .pointer (some ⟨w1.heap.size, 0, none⟩), undef, .pointer (some ⟨Bx, 0, none⟩), .slice A0 l0.length c0, .bool true, .bool false, .slice A0 l0.length c0, .func (.func 41) #[] #[.pointer (some ⟨w1.heap.size + 1, 0, none⟩)], .int .i64 (x.1 : Int), .agg #[.int .i64 x.2.f0, .int .i64 x.2.f1], undef, undef, undef, undef, undef, undef, undef, undef, undef, undef], defers := [] })
   (fun x a' _ X Y row hs hg hr => by
    obtain ⟨Bx, h1, h2, h3⟩ := hs
    refine ⟨Bx, h1, (hg.block Bx (Array.getElem?_eq_some_iff.1 h2).1 (fun e => ?_)).trans h2, h3⟩
    obtain ⟨_, o, ho, hc⟩ := hr Bx e.symm
    rw [h2] at ho
    cases ho
    cases hc)
   ?assign ?body ?done ?stop
  case assign =>
   rintro l pre x W K ⟨⟨⟨v, hv, hrow, -⟩, hbs⟩, hB⟩ hK
   have hlo := hv.lt
   have hlb := hbs.lt
   have hnv : some W.heap.size ≠ v.ownBlock := fun e => Nat.lt_irrefl _ (own_lt hrow _ e.symm)
   gi_wp2
   exact hK _ _ ((KeepsOthers.alloc _ _).from _) ⟨(Below.refl w1.heap.size W).alloc hB.size _, (hbs.alloc _).trans hbs.symm⟩ ⟨⟨⟨v, hv.alloc _, hrow.alloc _, trivial⟩, hbs.alloc _⟩, hB.alloc hB.size _⟩ ⟨W.heap.size, hlb, World.alloc_heap_new W _, rfl⟩
  case body =>
   rintro l pre x a' W hl ⟨r, hr⟩ ⟨⟨⟨v, hv, hrow, -⟩, hbs⟩, hB⟩ ⟨Bx, hBx, bX, rfl⟩ hlt
   have hc := hv.cell
   have cx0 : W.cell? ⟨Bx, 0, none⟩ = some (.int .i64 x.2.f0) := (blk_cell bX 0).trans rfl
   have cx1 : W.cell? ⟨Bx, 1, none⟩ = some (.int .i64 x.2.f1) := (blk_cell bX 1).trans rfl
   have hgl : (impl_ReverseWay.got pre).length = pre.length := by simp [impl_ReverseWay.got]
   have hgs : impl_ReverseWay.got (pre ++ [x]) = impl_ReverseWay.got pre ++ [⟨x.2.f0, wrap64 (-x.2.f1)⟩] := by simp [impl_ReverseWay.got]
   have hfs : impl_ReverseWay.flat (impl_ReverseWay.got (pre ++ [x])) = impl_ReverseWay.flat (impl_ReverseWay.got pre) ++ [.int .i64 x.2.f0, .int .i64 (wrap64 (-x.2.f1))] := by rw [hgs]; simp [impl_ReverseWay.flat]
   have HGS := Aside0.mk hgs; have HFS := Aside0.mk hfs; clear hgs hfs
   gi_wp2_with (gi_at_builtin; refine wpListIn_append_own _ rfl _ _ 24 rfl w1.heap.size 44 i0 (.agg #[.int .i64 0, .int .i64 0]) 2 16 Tryd.underlying24 hi hz0 hz1 hz2 rfl (by decide) _ _ _ rfl (hrow.alloc _) ⟨W.heap.size, 0, none⟩ 1 1 [.int .i64 x.2.f0, .int .i64 (wrap64 (-x.2.f1))] rfl rfl (impl_ReverseWay.two_new _ _ _ _) (by simp [Value.oneCell']) (by simp only [maxLen]; omega) (by omega) (by have := hB.size; simp; omega) ?_; intro v' w2 hown' hgrow _; obtain ⟨g', cap', rfl⟩ := ownsRow_succ hown'; obtain ⟨hv1, hv2, hr2, hk2, hb2⟩ := hv.appended (by decide) hrow hB.size (Nat.le_refl _) hown' hgrow; have hc1 := hv1.cell; have hf1 := hv1.frozen)
   have hbs1 : Boxed (w2.setCell ⟨w1.heap.size, 0, none⟩ (.slice (some ⟨g', 0, none⟩) (pre.length + 1) cap')) (w1.heap.size + 1) 24 (.slice A0 l0.length c0) := ((hbs.alloc _).kept hgrow (hbs.not_row (by decide) hrow)).other (by omega) _
   rw [hgl] at hv2 hr2 hk2 hb2
   refine ⟨hk2.from _, ⟨hb2, hbs1.trans hbs.symm⟩, ⟨⟨_, hv2, ?_, trivial⟩, hbs1⟩, hB.trans hb2⟩
   rw [HFS.out, HGS.out, List.length_append, List.length_singleton, hgl]
   exact hr2
  case done =>
   rintro D ys W hD rfl ⟨⟨⟨v, hv, hrow, -⟩, hbs⟩, hB⟩ hK
   have hc := hv.cell
   gi_wp2
   refine ⟨by simp, .inl ⟨_, _, rfl, run_takeDeferred hK, ?_⟩⟩
   refine ⟨_, results_tmp2 rfl _ _ _, v, rfl, ⟨fun _ _ => trivial, impl_ReverseWay.flat (impl_ReverseWay.rev l0), ?_, impl_ReverseWay.reps _ _ _ _⟩, ?_⟩
   ·have h := own_weaken (ownsRow_putObj hrow (.deferred none) hK rfl) hws
    rw [impl_ReverseWay.got_all] at h
    exact h
   ·exact HB.out.trans ((hB.trans (belowK_b (w := w1) (Nat.le_refl _) W D _ _ (by omega) hK rfl rfl)).mono hws)
  case stop =>
   rintro D c pre W _ _ h _
   exact h.elim


/-! ### laws_rRuns: function 15 -/
def laws_rRuns.l0 : Nat → List (S44) → List (S44) → Int → Option (Bool)
 | 0, _, _, _ => none
 | k + 1, x0, x1, x5 => if x5 < (x0.length : Int) then (if 0 ≤ x5 then (if x5 < (x1.length : Int) then (if (!(((rd_T44 x0 x5).f0) == ((rd_T44 x1 x5).f0)) || (!(((rd_T44 x0 x5).f1) == ((rd_T44 x1 x5).f1)))) = true then (some false) else (laws_rRuns.l0 k x0 x1 (wrap64 (x5 + 1)))) else (none)) else (none)) else (some true)
def laws_rRuns.f (k : Nat) (l0 : List (S44)) (l1 : List (S44)) : Option (Bool) := if (l0.length : Int) = (l1.length : Int) then (laws_rRuns.l0 k l0 l1 0) else (some false)
theorem laws_rRuns.mono_l : ∀ k, (∀ y0 y1 y2, LeO (laws_rRuns.l0 k y0 y1 y2) (laws_rRuns.l0 (k + 1) y0 y1 y2))
 | 0 => fun _ _ _ r h => by simp [laws_rRuns.l0] at h
 | k + 1 => by
  have ih0 := laws_rRuns.mono_l k
  ·intro y0 y1 y2
   unfold laws_rRuns.l0
   exact qmono
theorem laws_rRuns.mono : ∀ a0 a1 k, LeO (laws_rRuns.f k a0 a1) (laws_rRuns.f (k + 1) a0 a1) := by
 intro a0 a1 k
 have ih0 := laws_rRuns.mono_l k
 unfold laws_rRuns.f
 exact qmono
set_option maxHeartbeats 8000000 in
theorem laws_rRuns.calls (k : Nat) (A0 : Option Addr) (c0 : Nat) (l0 : List (S44)) (A1 : Option Addr) (c1 : Nat) (l1 : List (S44)) (r : Bool) (w : World) (hr0 : Kd.C k44 w A0 l0.length l0) (hc0 : l0.length ≤ c0) (hr1 : Kd.C k44 w A1 l1.length l1) (hc1 : l1.length ≤ c1) (h : laws_rRuns.f k l0 l1 = some r) :
  Calls Tryd.prog 15 #[.slice A0 l0.length c0, .slice A1 l1.length c1] w fun e w' => e = .returned (.bool r) ∧ Drawn0 w w' := by
 have hu44 := Tryd.underlying44
 have HR0 := Aside0.mk hr0; have HC0 := Aside0.mk hc0; clear hr0 hc0; have HR1 := Aside0.mk hr1; have HC1 := Aside0.mk hc1; clear hr1 hc1
 have H : (if (l0.length : Int) = (l1.length : Int) then (laws_rRuns.l0 k l0 l1 0) else (some false)) = some r := h
 clear h
 by_cases c3 : (l0.length : Int) = (l1.length : Int)
 ·rw [if_pos c3] at H
  have c3b0 : ((l0.length : Int) == (l1.length : Int)) = true := beq_iff_eq.mpr c3
  have c3b1 : ((l0.length : Int) != (l1.length : Int)) = false := bne_eq_false_iff_eq.mpr c3
  have c3b2 : (l0.length == l1.length) = true := by first | simpa using c3 | (simp at c3 ⊢; omega)
  clear c3
  have H' := Aside0.mk H
  clear H
  go_enter Tryd.func15, Tryd.ntmps15
  go_wp2
  repeat (go_quiet (fail); try go_wp2)
  go_loopg [5] k (fun kq v5 w' => ∃ (x5_1 : Int), v5 = .int .i64 x5_1 ∧ Aside0 (laws_rRuns.l0 kq l0 l1 x5_1 = some r) ∧ Aside0 (kq ≤ k) ∧ Drawn0 w w')
  case atStart => exact ⟨(0), (qW14), H', ⟨Nat.le_refl _⟩, (qW32)⟩
  case round =>
   clear H'
   try clear c1
   try clear p2
   try clear c3
   try clear c3b0
   try clear c3b1
   try clear c3b2
   obtain ⟨x5_1, rfl, HA, HK1, ⟨m1, rfl⟩⟩ := hrel
   cases gk with
   | zero => exact absurd HA.out (by simp [laws_rRuns.l0])
   | succ k1 =>
    have H := HA.out
    clear HA
    simp only [laws_rRuns.l0] at H
    by_cases c4 : x5_1 < (l0.length : Int)
    ·rw [if_pos c4] at H
     have c4b0 : decide (x5_1 < (l0.length : Int)) = true := decide_eq_true c4
     clear c4
     by_cases c5 : 0 ≤ x5_1
     ·rw [if_pos c5] at H
      have c5b0 : decide (0 ≤ x5_1) = true := decide_eq_true c5
      clear c5
      by_cases c6 : x5_1 < (l1.length : Int)
      ·rw [if_pos c6] at H
       have c6b0 : decide (x5_1 < (l1.length : Int)) = true := decide_eq_true c6
       clear c6
       by_cases c7 : (!(((rd_T44 l0 x5_1).f0) == ((rd_T44 l1 x5_1).f0)) || (!(((rd_T44 l0 x5_1).f1) == ((rd_T44 l1 x5_1).f1)))) = true
       ·rw [if_pos c7] at H
        have c7b0 : (!(((rd_T44 l0 x5_1).f0) == ((rd_T44 l1 x5_1).f0)) || (!(((rd_T44 l0 x5_1).f1) == ((rd_T44 l1 x5_1).f1)))) = true := c7
        clear c7; obtain rfl := Option.some.inj H
        have p247 : 0 ≤ (x5_1 : Int) := of_decide_eq_true (qW13)
        have q247 : x5_1 < (l0.length : Int) := of_decide_eq_true (qW13)
        obtain ⟨ad247, e247, hx247_0, hx247_1⟩ := at_T44 HR0.out x5_1 p247 q247
        cases e247
        replace p247 := eq_true p247
        replace q247 := eq_true q247
        have p248 : 0 ≤ (x5_1 : Int) := of_decide_eq_true (qW13)
        have q248 : x5_1 < (l1.length : Int) := of_decide_eq_true (qW13)
        obtain ⟨ad248, e248, hx248_0, hx248_1⟩ := at_T44 HR1.out x5_1 p248 q248
        cases e248
        replace p248 := eq_true p248
        replace q248 := eq_true q248
        go_wp2
        repeat (go_quiet (fail); try go_wp2)
        go_ret
        exact ⟨(qW14), (qW32)⟩
       ·rw [if_neg c7] at H
        have c7b0 : (!(((rd_T44 l0 x5_1).f0) == ((rd_T44 l1 x5_1).f0)) || (!(((rd_T44 l0 x5_1).f1) == ((rd_T44 l1 x5_1).f1)))) = false := by simpa using c7
        clear c7
        have H' := Aside0.mk H
        clear H
        have p247 : 0 ≤ (x5_1 : Int) := of_decide_eq_true (qW13)
        have q247 : x5_1 < (l0.length : Int) := of_decide_eq_true (qW13)
        obtain ⟨ad247, e247, hx247_0, hx247_1⟩ := at_T44 HR0.out x5_1 p247 q247
        cases e247
        replace p247 := eq_true p247
        replace q247 := eq_true q247
        have p248 : 0 ≤ (x5_1 : Int) := of_decide_eq_true (qW13)
        have q248 : x5_1 < (l1.length : Int) := of_decide_eq_true (qW13)
        obtain ⟨ad248, e248, hx248_0, hx248_1⟩ := at_T44 HR1.out x5_1 p248 q248
        cases e248
        replace p248 := eq_true p248
        replace q248 := eq_true q248
        go_wp2
        repeat (go_quiet (fail); try go_wp2)
        go_roundg k1
        case measure => have := HK1.out; omega
        case rel => exact ⟨(wrap64 (x5_1 + 1)), (qW14), H', ⟨by have := HK1.out; omega⟩, (qW32)⟩
      ·rw [if_neg c6] at H
       exact absurd H (by simp)
     ·rw [if_neg c5] at H
      exact absurd H (by simp)
    ·rw [if_neg c4] at H
     have c4b0 : decide (x5_1 < (l0.length : Int)) = false := decide_eq_false c4
     clear c4; obtain rfl := Option.some.inj H
     go_wp2
     repeat (go_quiet (fail); try go_wp2)
     go_ret
     exact ⟨(qW14), (qW32)⟩
 ·rw [if_neg c3] at H
  have c3b0 : ((l0.length : Int) == (l1.length : Int)) = false := beq_eq_false_iff_ne.mpr c3
  have c3b1 : ((l0.length : Int) != (l1.length : Int)) = true := bne_iff_ne.mpr c3
  have c3b2 : (l0.length == l1.length) = false := by first | simpa using c3 | (simp at c3 ⊢; omega)
  obtain rfl := Option.some.inj H
  go_enter Tryd.func15, Tryd.ntmps15
  go_wp2
  repeat (go_quiet (fail); try go_wp2)
  go_ret
  exact ⟨(qW14), (qW32)⟩

end Go.Proofs.YtmbpdegkkdcjnaaDoor.MW
