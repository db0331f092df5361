-- Written by a program of this session (wip/drv.py, wip/tight2.py). -- tight2
import Derived.Test.YtoljdjgndogegaaMRx0
import Derived.Test.YtoljdjgndogegaaMRx5
import Derived.Test.YtoljdjgndogegaaMRx6
namespace Go.Proofs.Ytoljdjgndogegaa.MR
open Go.RowKit Go.Proofs.YtoljdjgndogegaaW.PrintWords Go.Proofs.YtoljdjgndogegaaW.PrintLast
set_option maxHeartbeats 8000000
set_option maxRecDepth 100000
attribute [local go_sem] max2_int min2_int max_two min_two   -- for this text's walks alone
set_option linter.unusedVariables false
set_option linter.unusedSimpArgs false

/-! ### laws_vInts: function 9 -/
def laws_vInts.l0 : Nat → List Int → List Int → Int → Option (Bool)
 | 0, _, _, _ => none
 | k + 1, x0, x1, x5 => if x5 < (x0.length : Int) then (if 0 ≤ x5 then (if x5 < (x1.length : Int) then (if (rd x0 x5) = (rd x1 x5) then (laws_vInts.l0 k x0 x1 (wrap64 (x5 + 1))) else (some false)) else (none)) else (none)) else (some true)
def laws_vInts.f (k : Nat) (l0 : List Int) (l1 : List Int) : Option (Bool) := if (l0.length : Int) = (l1.length : Int) then (laws_vInts.l0 k l0 l1 0) else (some false)
theorem laws_vInts.mono_l : ∀ k, (∀ y0 y1 y2, LeO (laws_vInts.l0 k y0 y1 y2) (laws_vInts.l0 (k + 1) y0 y1 y2))
 | 0 => fun _ _ _ r h => by simp [laws_vInts.l0] at h
 | k + 1 => by
  have ih0 := laws_vInts.mono_l k
  ·intro y0 y1 y2
   unfold laws_vInts.l0
   exact qmono
theorem laws_vInts.mono : ∀ a0 a1 k, LeO (laws_vInts.f k a0 a1) (laws_vInts.f (k + 1) a0 a1) := by
 intro a0 a1 k; have ih0 := laws_vInts.mono_l k
 unfold laws_vInts.f
 exact qmono
theorem laws_vInts.calls (k : Nat) (A0 : Option Addr) (c0 : Nat) (l0 : List Int) (A1 : Option Addr) (c1 : Nat) (l1 : List Int) (r : Bool) (w : World) (hr0 : Kd.C (Kd.int .i64) w A0 l0.length l0) (hc0 : l0.length ≤ c0) (hr1 : Kd.C (Kd.int .i64) w A1 l1.length l1) (hc1 : l1.length ≤ c1) (h : laws_vInts.f k l0 l1 = some r) :
  Calls Try.prog 9 #[.slice A0 l0.length c0, .slice A1 l1.length c1] w fun e w' => e = .returned (.bool r) ∧ Drawn0 w w' := by
 have HR0 := Aside0.mk hr0; have HC0 := Aside0.mk hc0; clear hr0 hc0; have HR1 := Aside0.mk hr1; have HC1 := Aside0.mk hc1; clear hr1 hc1; have H : (if (l0.length : Int) = (l1.length : Int) then (laws_vInts.l0 k l0 l1 0) else (some false)) = some r := h; clear h
 by_cases c3 : (l0.length : Int) = (l1.length : Int)
 ·rw [if_pos c3] at H; have c3b0 : ((l0.length : Int) == (l1.length : Int)) = true := beq_iff_eq.mpr c3; have c3b1 : ((l0.length : Int) != (l1.length : Int)) = false := bne_eq_false_iff_eq.mpr c3
  have c3b2 : (l0.length == l1.length) = true := by first | simpa using c3 | (simp at c3 ⊢; omega)
  clear c3; have H' := Aside0.mk H; clear H
  go_enter Try.func9, Try.ntmps9
  go_wp2
  repeat (go_quiet (fail); try go_wp2)
  go_loopg [5] k (fun kq v5 w' => ∃ (x5_1 : Int), v5 = .int .i64 x5_1 ∧ Aside0 (laws_vInts.l0 kq l0 l1 x5_1 = some r) ∧ Aside0 (kq ≤ k) ∧ Drawn0 w w')
  case atStart => exact ⟨(0), (qR12), H', ⟨Nat.le_refl _⟩, (qR26)⟩
  case round =>
   clear H'; (try clear c1); (try clear p2); (try clear c3); (try clear c3b0); (try clear c3b1); (try clear c3b2); obtain ⟨x5_1, rfl, HA, HK1, ⟨m1, rfl⟩⟩ := hrel
   cases gk with
   | zero => exact absurd HA.out (by simp [laws_vInts.l0])
   | succ k1 =>
    have H := HA.out; clear HA; simp only [laws_vInts.l0] at H
    by_cases c4 : x5_1 < (l0.length : Int)
    ·rw [if_pos c4] at H; have c4b0 : decide (x5_1 < (l0.length : Int)) = true := decide_eq_true c4; clear c4
     by_cases c5 : 0 ≤ x5_1
     ·rw [if_pos c5] at H; have c5b0 : decide (0 ≤ x5_1) = true := decide_eq_true c5; clear c5
      by_cases c6 : x5_1 < (l1.length : Int)
      ·rw [if_pos c6] at H; have c6b0 : decide (x5_1 < (l1.length : Int)) = true := decide_eq_true c6; clear c6
       by_cases c7 : (rd l0 x5_1) = (rd l1 x5_1)
       ·rw [if_pos c7] at H; have c7b0 : ((rd l0 x5_1) == (rd l1 x5_1)) = true := beq_iff_eq.mpr c7; have c7b1 : ((rd l0 x5_1) != (rd l1 x5_1)) = false := bne_eq_false_iff_eq.mpr c7; clear c7; have H' := Aside0.mk H; clear H; have p509 : 0 ≤ (x5_1 : Int) := of_decide_eq_true (qR8); have q509 : x5_1 < (l0.length : Int) := of_decide_eq_true (qR8); obtain ⟨ad509, e509, hx509_0⟩ := Kd.at_int HR0.out x5_1 p509 q509; cases e509; replace p509 := eq_true p509; replace q509 := eq_true q509; have p510 : 0 ≤ (x5_1 : Int) := of_decide_eq_true (qR8); have q510 : x5_1 < (l1.length : Int) := of_decide_eq_true (qR8); obtain ⟨ad510, e510, hx510_0⟩ := Kd.at_int HR1.out x5_1 p510 q510; cases e510; replace p510 := eq_true p510; replace q510 := eq_true q510
        go_wp2
        repeat (go_quiet (fail); try go_wp2)
        go_roundg k1
        case measure => have := HK1.out; omega
        case rel => exact ⟨(wrap64 (x5_1 + 1)), (qR12), H', ⟨by have := HK1.out; omega⟩, (qR26)⟩
       ·rw [if_neg c7] at H; have c7b0 : ((rd l0 x5_1) == (rd l1 x5_1)) = false := beq_eq_false_iff_ne.mpr c7; have c7b1 : ((rd l0 x5_1) != (rd l1 x5_1)) = true := bne_iff_ne.mpr c7; obtain rfl := Option.some.inj H; have p509 : 0 ≤ (x5_1 : Int) := of_decide_eq_true (qR8); have q509 : x5_1 < (l0.length : Int) := of_decide_eq_true (qR8); obtain ⟨ad509, e509, hx509_0⟩ := Kd.at_int HR0.out x5_1 p509 q509; cases e509; replace p509 := eq_true p509; replace q509 := eq_true q509; have p510 : 0 ≤ (x5_1 : Int) := of_decide_eq_true (qR8); have q510 : x5_1 < (l1.length : Int) := of_decide_eq_true (qR8); obtain ⟨ad510, e510, hx510_0⟩ := Kd.at_int HR1.out x5_1 p510 q510; cases e510; replace p510 := eq_true p510; replace q510 := eq_true q510
        go_wp2
        repeat (go_quiet (fail); try go_wp2)
        go_ret
        exact ⟨(qR12), (qR26)⟩
      ·rw [if_neg c6] at H
       exact absurd H (by simp)
     ·rw [if_neg c5] at H
      exact absurd H (by simp)
    ·rw [if_neg c4] at H; have c4b0 : decide (x5_1 < (l0.length : Int)) = false := decide_eq_false c4; clear c4; obtain rfl := Option.some.inj H
     go_wp2
     repeat (go_quiet (fail); try go_wp2)
     go_ret
     exact ⟨(qR12), (qR26)⟩
 ·rw [if_neg c3] at H; have c3b0 : ((l0.length : Int) == (l1.length : Int)) = false := beq_eq_false_iff_ne.mpr c3; have c3b1 : ((l0.length : Int) != (l1.length : Int)) = true := bne_iff_ne.mpr c3
  have c3b2 : (l0.length == l1.length) = false := by first | simpa using c3 | (simp at c3 ⊢; omega)
  obtain rfl := Option.some.inj H
  go_enter Try.func9, Try.ntmps9
  go_wp2
  repeat (go_quiet (fail); try go_wp2)
  go_ret
  exact ⟨(qR12), (qR26)⟩

/-! ### spec_AreWidths: function 11 -/
def spec_AreWidths.f (k : Nat) (l0 : List (S58)) (l1 : List Int) : Option (Bool) := (spec_l15Good.f k l0 l1).bind fun t511 => (some t511)
theorem spec_AreWidths.mono : ∀ a0 a1 k, LeO (spec_AreWidths.f k a0 a1) (spec_AreWidths.f (k + 1) a0 a1) := by
 intro a0 a1 k
 unfold spec_AreWidths.f
 have m0 := @spec_l15Good.mono
 exact qmono
theorem spec_AreWidths.calls (k : Nat) (A0 : Option Addr) (c0 : Nat) (l0 : List (S58)) (A1 : Option Addr) (c1 : Nat) (l1 : List Int) (r : Bool) (w : World) (hr0 : Kd.C k58 w A0 l0.length l0) (hc0 : l0.length ≤ c0) (hr1 : Kd.C (Kd.int .i64) w A1 l1.length l1) (hc1 : l1.length ≤ c1) (h : spec_AreWidths.f k l0 l1 = some r) :
  Calls Try.prog 11 #[.slice A0 l0.length c0, .slice A1 l1.length c1] w fun e w' => e = .returned (.bool r) ∧ Below w.heap.size w w' := by
 have HR0 := Aside0.mk hr0; have HC0 := Aside0.mk hc0; clear hr0 hc0; have HR1 := Aside0.mk hr1; have HC1 := Aside0.mk hc1; clear hr1 hc1; have HB := Aside0.mk (Below.refl w.heap.size w); have H : ((spec_l15Good.f k l0 l1).bind fun t511 => (some t511)) = some r := h; clear h; replace H := Option.bind_eq_some_iff.mp H; obtain ⟨t511, A30, H⟩ := H; replace H : (some t511) = some r := H; have A3 := Aside0.mk A30; clear A30; obtain rfl := Option.some.inj H
 go_enter Try.func11, Try.ntmps11
 go_wp2_with (first | ((with_reducible refine gate_callee (f := 45) rfl ?_); refine goesL_ (some 7) rfl rfl Try.func45 (by kernel_rfl) rfl #[.slice A0 l0.length c0, .slice A1 l1.length c1] rfl (qR2) ?_; (with_reducible refine (spec_l15Good.calls k _ _ l0 _ _ l1 t511 _ ?s1 ?s2 ?s3 ?s4 A3.out).mono ?_); (case s1 => exact (qR11 HR0.out)); (case s2 => exact HC0.out); (case s3 => exact (qR11 HR1.out)); (case s4 => exact HC1.out); rintro e w4 ⟨rfl, hb⟩; refine ⟨_, rfl, ?_⟩; replace HB := Aside0.mk (qR62); clear hb))
 go_ret
 exact ⟨(qR10), (qR0)⟩

/-! ### impl_reach: function 62 (by hand: wip/inj) -/
def arrOf (B : List Bool) : Array Value := (B.map Value.bool).toArray
def reachStep (l0 : List S58) (l1 : List Int) (width : Int) (i : Nat) (B : List Bool) : List Bool :=
 if (decide (width ≤ l1.getD i 0) && (B.getD (l0.getD i z58).f0.toNat false != B.getD (l0.getD i z58).f1.toNat false)) = true then (B.set (l0.getD i z58).f0.toNat true).set (l0.getD i z58).f1.toNat true else B
def reachPass (l0 : List S58) (l1 : List Int) (width : Int) : Nat → Nat → List Bool → List Bool
 | 0, _, B => B
 | d + 1, i, B => reachPass l0 l1 width d (i + 1) (reachStep l0 l1 width i B)
def reachAll (l0 : List S58) (l1 : List Int) (width : Int) : Nat → List Bool → List Bool
 | 0, B => B
 | m + 1, B => reachAll l0 l1 width m (reachPass l0 l1 width l0.length 0 B)
def reachOk (l0 : List S58) (l1 : List Int) (from_ : Int) : Bool := decide (l0.length ≤ l1.length) && (decide (0 ≤ from_ ∧ from_ ≤ 7) && l0.all (fun x => decide (0 ≤ x.f0 ∧ x.f0 ≤ 7) && decide (0 ≤ x.f1 ∧ x.f1 ≤ 7)))
def impl_reach.f (l0 : List S58) (l1 : List Int) (a2 a3 : Int) : Option (List Bool) := if reachOk l0 l1 a2 = true then some (reachAll l0 l1 a3 l0.length ((List.replicate 8 false).set a2.toNat true)) else none
theorem arrOf_set (B : List Bool) (i : Nat) (v : Bool) : (arrOf B).setIfInBounds i (.bool v) = arrOf (B.set i v) := by
 unfold arrOf
 rw [List.setIfInBounds_toArray, List.map_set]
theorem arrOf_get {B : List Bool} {i : Nat} (h : i < B.length) : (arrOf B)[i]? = some (.bool (B.getD i false)) := by
 simp [arrOf, List.getD_eq_getElem?_getD, List.getElem?_eq_getElem h]
theorem reachStep_length (l0 : List S58) (l1 : List Int) (width : Int) (i : Nat) (B : List Bool) : (reachStep l0 l1 width i B).length = B.length := by
 unfold reachStep
 split <;> simp
theorem reachPass_length (l0 : List S58) (l1 : List Int) (width : Int) : ∀ d i B, (reachPass l0 l1 width d i B).length = B.length
 | 0, _, _ => rfl
 | d + 1, i, B => by
  simp only [reachPass]; rw [reachPass_length l0 l1 width d (i + 1), reachStep_length]
theorem reach_yes {l0 : List S58} {l1 : List Int} {a3 y : Int} {B : List Bool} (h0 : 0 ≤ y) (hl : y < l0.length) (hm : l0.length ≤ 9223372036854775807) (hw : rd l1 y ≥ a3) (hst : B.getD (rd_T58 l0 y).f0.toNat false ≠ B.getD (rd_T58 l0 y).f1.toNat false) (k : Nat) :
  reachPass l0 l1 a3 (k + 1) y.toNat B = reachPass l0 l1 a3 k (wrap64 (y + 1)).toNat ((B.set (rd_T58 l0 y).f0.toNat true).set (rd_T58 l0 y).f1.toNat true) := by
 have e : (wrap64 (y + 1)).toNat = y.toNat + 1 := by unfold wrap64; omega
 rw [e]
 show reachPass l0 l1 a3 k (y.toNat + 1) (reachStep l0 l1 a3 y.toNat B) = _
 congr 1
 unfold reachStep
 rw [if_pos]
 ·rfl
 ·rw [Bool.and_eq_true]
  exact ⟨decide_eq_true hw, bne_iff_ne.2 hst⟩
theorem reach_no {l0 : List S58} {l1 : List Int} {a3 y : Int} {B : List Bool} (h0 : 0 ≤ y) (hl : y < l0.length) (hm : l0.length ≤ 9223372036854775807) (hn : ¬ (rd l1 y ≥ a3 ∧ B.getD (rd_T58 l0 y).f0.toNat false ≠ B.getD (rd_T58 l0 y).f1.toNat false)) (k : Nat) :
  reachPass l0 l1 a3 (k + 1) y.toNat B = reachPass l0 l1 a3 k (wrap64 (y + 1)).toNat B := by
 have e : (wrap64 (y + 1)).toNat = y.toNat + 1 := by unfold wrap64; omega
 rw [e]
 show reachPass l0 l1 a3 k (y.toNat + 1) (reachStep l0 l1 a3 y.toNat B) = _
 congr 1
 unfold reachStep
 rw [if_neg]; intro h; rw [Bool.and_eq_true] at h
 exact hn ⟨of_decide_eq_true h.1, bne_iff_ne.1 h.2⟩
theorem impl_reach.calls (A0 : Option Addr) (c0 : Nat) (l0 : List S58) (A1 : Option Addr) (c1 : Nat) (l1 : List Int) (a2 a3 : Int) (r : List Bool) (w : World) (hr0 : Kd.C k58 w A0 l0.length l0) (hc0 : l0.length ≤ c0) (hr1 : Kd.C (Kd.int .i64) w A1 l1.length l1) (hc1 : l1.length ≤ c1) (h : impl_reach.f l0 l1 a2 a3 = some r) :
  Calls Try.prog 62 #[.slice A0 l0.length c0, .slice A1 l1.length c1, .int .i64 a2, .int .i64 a3] w fun e w' => e = .returned (.agg (arrOf r)) ∧ Below w.heap.size w w' := by
 have huL := Try.underlying58; have hu84 := Try.underlying74; have hu4 := Try.underlying4
 unfold impl_reach.f at h
 by_cases hok : reachOk l0 l1 a2 = true
 case neg => rw [if_neg hok] at h; cases h
 rw [if_pos hok] at h; have hr := Option.some.inj h; clear h; simp only [reachOk, Bool.and_eq_true, decide_eq_true_eq, List.all_eq_true] at hok; obtain ⟨hlen, ⟨hf0, hf7⟩, hall⟩ := hok
 have HALL : Aside0 (∀ i, i < l0.length → (0 ≤ (l0.getD i z58).f0 ∧ (l0.getD i z58).f0 ≤ 7) ∧ (0 ≤ (l0.getD i z58).f1 ∧ (l0.getD i z58).f1 ≤ 7)) := ⟨fun i hi => by
  have := hall _ (List.getElem_mem hi)
  simpa [List.getD_eq_getElem?_getD, List.getElem?_eq_getElem hi] using this⟩
 clear hall; have HLEN := Aside0.mk hlen; have HR0 := Aside0.mk hr0; have HR1 := Aside0.mk hr1; have HM := Aside0.mk hr0.2.1; obtain ⟨B0, hB0⟩ : ∃ B0 : List Bool, B0 = (List.replicate 8 false).set a2.toNat true := ⟨_, rfl⟩; rw [← hB0] at hr; have HRES := Aside0.mk hr
 have HB0 : Aside0 (B0.length = 8 ∧ ([.bool false, .bool false, .bool false, .bool false, .bool false, .bool false, .bool false, .bool false].set a2.toNat (.bool true) : List Value).toArray = arrOf B0) := ⟨by rw [hB0]; simp, by
  rw [hB0]
  unfold arrOf
  rw [List.map_set]
  rfl⟩
 clear hr hlen hr0 hr1 hc0 hc1 hB0; have p0 := eq_true hf0
 have q0 : a2 < 8 := by omega
 have hf7' := Aside0.mk hf7; clear hf7
 go_enter Try.func62, Try.ntmps62
 go_wp2
  
 rw [HB0.out.2]
 go_loopg [16] l0.length (fun kq v16 w' => ∃ (x : Int) (B : List Bool), v16 = .int .i64 x ∧ Aside0 (0 ≤ x ∧ kq + x.toNat = l0.length ∧ B.length = 8 ∧ reachAll l0 l1 a3 kq B = r) ∧ Aside0 (w'.heap[w.heap.size + 1]? = some (.cells (arrOf B) 74 (0, 0))) ∧ Aside0 (w'.heap[w.heap.size]? = some (.cells #[.bool false, .bool false, .bool false, .bool false, .bool false, .bool false, .bool false, .bool false] 74 (0, 0))) ∧ Aside0 (Below w.heap.size w w'))
 case atStart =>
  refine ⟨0, B0, rfl, ⟨by omega, by simp, HB0.out.1, HRES.out⟩, ⟨?_⟩, ⟨?_⟩, ⟨?_⟩⟩
  ·exact heap_alloc2_new _ _ _
  ·exact blk_alloc (blk_new w _) _
  ·exact below_alloc (below_alloc (Below.refl _ _) _) _
 case round =>
  obtain ⟨x, B, rfl, HA, HK1, HK0, HB⟩ := hrel
  by_cases hlt : x < (l0.length : Int)
  ·have c0 : decide (x < (l0.length : Int)) = true := decide_eq_true hlt; have HLT := Aside0.mk hlt; clear hlt; obtain ⟨k1, rfl⟩ : ∃ k1, gk = k1 + 1 := ⟨gk - 1, by have := HA.out; have := HLT.out; omega⟩; obtain ⟨wo, rfl⟩ : ∃ wo : World, wo = wr := ⟨_, rfl⟩
   go_wp2
   go_loopg [20] l0.length (fun kq v20 w' => ∃ (y : Int) (B' : List Bool), v20 = .int .i64 y ∧ Aside0 (0 ≤ y ∧ kq + y.toNat = l0.length ∧ B'.length = 8 ∧ reachPass l0 l1 a3 kq y.toNat B' = reachPass l0 l1 a3 l0.length 0 B) ∧ Aside0 (w'.heap[w.heap.size + 1]? = some (.cells (arrOf B') 74 (0, 0))) ∧ Aside0 (w'.heap[w.heap.size]? = some (.cells #[.bool false, .bool false, .bool false, .bool false, .bool false, .bool false, .bool false, .bool false] 74 (0, 0))) ∧ Aside0 (Below w.heap.size w w'))
   case atStart => exact ⟨0, B, rfl, ⟨by omega, by simp, HA.out.2.2.1, rfl⟩, HK1, HK0, HB⟩
   case round =>
    obtain ⟨y, B', rfl, HA2, HK1', HK0', HB'⟩ := hrel
    by_cases hlt2 : y < (l0.length : Int)
    ·have d0 : decide (y < (l0.length : Int)) = true := decide_eq_true hlt2; have HLT2 := Aside0.mk hlt2; obtain ⟨ad, e, hx0, hx1, hx2, hx3, hx4⟩ := at_T58 (Kd.C_below HR0.out HB'.out) y HA2.out.1 hlt2; cases e; obtain ⟨ad1, e1, hy⟩ := Kd.at_int (Kd.C_below HR1.out HB'.out) y HA2.out.1 (by have := HLEN.out; omega); cases e1
     have hq1 : y < (l1.length : Int) := by have := HLEN.out; omega
     have py := eq_true HA2.out.1; have qy := eq_true hlt2; have qy1 := eq_true hq1; clear hlt2 hq1; obtain ⟨k2, rfl⟩ : ∃ k2, gk = k2 + 1 := ⟨gk - 1, by have := HA2.out; have := HLT2.out; omega⟩; have HXB := Aside0.mk (HALL.out y.toNat (by have := HA2.out; have := HLT2.out; omega)); obtain ⟨a, ha⟩ : ∃ a : Int, a = (rd_T58 l0 y).f0 := ⟨_, rfl⟩; obtain ⟨b, hb⟩ : ∃ b : Int, b = (rd_T58 l0 y).f1 := ⟨_, rfl⟩; rw [← ha] at hx0; rw [← hb] at hx1; have HAB : Aside0 ((0 ≤ a ∧ a ≤ 7) ∧ (0 ≤ b ∧ b ≤ 7)) := ⟨by rw [ha, hb]; exact HXB.out⟩; have NA := Aside0.mk ha; have NB := Aside0.mk hb; clear ha hb; have pa := eq_true HAB.out.1.1; have pb := eq_true HAB.out.2.1; have qa : (a < 8) = True := eq_true (by have := HAB.out; omega); have qb : (b < 8) = True := eq_true (by have := HAB.out; omega)
     by_cases hw : rd l1 y ≥ a3
     ·have w0 : decide (rd l1 y ≥ a3) = true := decide_eq_true hw; have w1 : decide (a3 ≤ rd l1 y) = true := decide_eq_true hw; have HW := Aside0.mk hw; clear hw; have ha7 : wr.cell? ⟨w.heap.size + 1, a.toNat, none⟩ = some (.bool (B'.getD a.toNat false)) := (blk_cell HK1'.out _).trans (arrOf_get (by have := HAB.out; have := HA2.out; omega)); have hb7 : wr.cell? ⟨w.heap.size + 1, b.toNat, none⟩ = some (.bool (B'.getD b.toNat false)) := (blk_cell HK1'.out _).trans (arrOf_get (by have := HAB.out; have := HA2.out; omega)); have hgl : w.heap.size + 1 < wr.heap.size := blk_lt HK1'.out; obtain ⟨s, hs⟩ : ∃ s : Bool, s = B'.getD a.toNat false := ⟨_, rfl⟩; obtain ⟨t, ht⟩ : ∃ t : Bool, t = B'.getD b.toNat false := ⟨_, rfl⟩; rw [← hs] at ha7; rw [← ht] at hb7; have NS := Aside0.mk hs; have NT := Aside0.mk ht; clear hs ht; have AL : ∀ (o : Obj) (p : Addr) (v : Value), wr.cell? p = some v → (wr.alloc o).cell? p = some v := fun o p v h => ((below_alloc (Below.refl wr.heap.size wr) o).cell (World.block_lt_of_cell? wr _ h)).trans h; have hy' := AL (.cells #[.int .i64 a, .int .i64 b, .int .i64 (rd_T58 l0 y).f2, .int .i64 (rd_T58 l0 y).f3, .int .i64 (rd_T58 l0 y).f4] 58 (0, 0)) _ _ hy; have ha8 := AL (.cells #[.int .i64 a, .int .i64 b, .int .i64 (rd_T58 l0 y).f2, .int .i64 (rd_T58 l0 y).f3, .int .i64 (rd_T58 l0 y).f4] 58 (0, 0)) _ _ ha7; have hb8 := AL (.cells #[.int .i64 a, .int .i64 b, .int .i64 (rd_T58 l0 y).f2, .int .i64 (rd_T58 l0 y).f3, .int .i64 (rd_T58 l0 y).f4] 58 (0, 0)) _ _ hb7; clear AL
      by_cases hst : s = t
      ·have NST := Aside0.mk hst; subst hst
       go_wp2
       go_quiet (fail)
       go_wp2
       go_roundg k2
       case measure => omega
       case rel => exact ⟨wrap64 (y + 1), B', rfl, ⟨by have := HA2.out; have := HLT2.out; have := HM.out; unfold wrap64; omega, by have := HA2.out; have := HLT2.out; have := HM.out; unfold wrap64; omega, HA2.out.2.2.1, by rw [← HA2.out.2.2.2, reach_no HA2.out.1 HLT2.out HM.out (fun h => h.2 (by rw [← NA.out, ← NB.out, ← NS.out, ← NT.out]))]⟩, ⟨blk_drewN (blk_alloc HK1'.out _) _⟩, ⟨blk_drewN (blk_alloc HK0'.out _) _⟩, ⟨pw_below_drewN (below_alloc HB'.out _) _⟩⟩
      ·have hst' : (s != t) = true := bne_iff_ne.2 hst; have NST := Aside0.mk hst; clear hst
       have hst2 : (s == t) = false := by simpa using hst'
       have hne : ¬ a.toNat = b.toNat := fun h => NST.out (by rw [NS.out, NT.out, h]); have hne' : ¬ b.toNat = a.toNat := fun h => hne h.symm; have hfa : (wr.alloc (.cells #[.int .i64 a, .int .i64 b, .int .i64 (rd_T58 l0 y).f2, .int .i64 (rd_T58 l0 y).f3, .int .i64 (rd_T58 l0 y).f4] 58 (0, 0))).frozen? ⟨w.heap.size + 1, a.toNat, none⟩ = false := blk_frozen (blk_alloc HK1'.out _) _; have hfb : (wr.alloc (.cells #[.int .i64 a, .int .i64 b, .int .i64 (rd_T58 l0 y).f2, .int .i64 (rd_T58 l0 y).f3, .int .i64 (rd_T58 l0 y).f4] 58 (0, 0))).frozen? ⟨w.heap.size + 1, b.toNat, none⟩ = false := blk_frozen (blk_alloc HK1'.out _) _
       go_wp2
       go_quiet (fail)
       go_wp2
              
       go_region
       all_goals go_wp2
       all_goals go_roundg k2
       all_goals first | (show _ < _; omega) | exact ⟨wrap64 (y + 1), (B'.set a.toNat true).set b.toNat true, rfl, ⟨by have := HA2.out; have := HLT2.out; have := HM.out; unfold wrap64; omega, by have := HA2.out; have := HLT2.out; have := HM.out; unfold wrap64; omega, by simpa using HA2.out.2.2.1, by rw [← HA2.out.2.2.2, reach_yes HA2.out.1 HLT2.out HM.out (by have := HW.out; omega) (fun h => NST.out (by rw [NS.out, NT.out, NA.out, NB.out, h])), NA.out, NB.out]⟩, ⟨by rw [← arrOf_set, ← arrOf_set]; exact blk_set (blk_set (blk_drewN (blk_alloc HK1'.out _) _) _ _) _ _⟩, ⟨blk_far (p := ⟨w.heap.size + 1, b.toNat, none⟩) (blk_far (p := ⟨w.heap.size + 1, a.toNat, none⟩) (blk_drewN (blk_alloc HK0'.out _) _) (Nat.ne_of_lt (Nat.lt_succ_self _)) _) (Nat.ne_of_lt (Nat.lt_succ_self _)) _⟩, ⟨((pw_below_drewN (below_alloc HB'.out _) _).setCell (p := ⟨w.heap.size + 1, a.toNat, none⟩) (Nat.le_succ _) _).setCell (p := ⟨w.heap.size + 1, b.toNat, none⟩) (Nat.le_succ _) _⟩⟩
     ·have w0 : decide (rd l1 y ≥ a3) = false := decide_eq_false hw; have w1 : decide (a3 ≤ rd l1 y) = false := decide_eq_false hw; have HW := Aside0.mk hw; clear hw; have AL : ∀ (o : Obj) (p : Addr) (v : Value), wr.cell? p = some v → (wr.alloc o).cell? p = some v := fun o p v h => ((below_alloc (Below.refl wr.heap.size wr) o).cell (World.block_lt_of_cell? wr _ h)).trans h; have hy' := AL (.cells #[.int .i64 a, .int .i64 b, .int .i64 (rd_T58 l0 y).f2, .int .i64 (rd_T58 l0 y).f3, .int .i64 (rd_T58 l0 y).f4] 58 (0, 0)) _ _ hy; clear AL
      go_wp2
      go_quiet (fail)
      go_wp2
      go_roundg k2
      case measure => omega
      case rel => exact ⟨wrap64 (y + 1), B', rfl, ⟨by have := HA2.out; have := HLT2.out; have := HM.out; unfold wrap64; omega, by have := HA2.out; have := HLT2.out; have := HM.out; unfold wrap64; omega, HA2.out.2.2.1, by rw [← HA2.out.2.2.2, reach_no HA2.out.1 HLT2.out HM.out (fun h => absurd h.1 (by have := HW.out; omega))]⟩, ⟨blk_drewN (blk_alloc HK1'.out _) _⟩, ⟨blk_drewN (blk_alloc HK0'.out _) _⟩, ⟨pw_below_drewN (below_alloc HB'.out _) _⟩⟩
    ·have d0 : decide (y < (l0.length : Int)) = false := decide_eq_false hlt2; have HLT2 := Aside0.mk hlt2; clear hlt2
     go_wp2
          
     go_roundg k1
     case measure => omega
     case rel =>
      obtain rfl : gk = 0 := by have := HA2.out; have := HLT2.out; omega
      refine ⟨wrap64 (x + 1), B', rfl, ⟨by have := HA.out; have := HLT.out; have := HM.out; unfold wrap64; omega, by have := HA.out; have := HLT.out; have := HM.out; unfold wrap64; omega, HA2.out.2.2.1, ?_⟩, HK1', HK0', HB'⟩
      rw [← HA.out.2.2.2]
      show _ = reachAll l0 l1 a3 k1 (reachPass l0 l1 a3 l0.length 0 B)
      rw [← HA2.out.2.2.2]
      rfl
  ·have d0 : decide (x < (l0.length : Int)) = false := decide_eq_false hlt; have HLT := Aside0.mk hlt; clear hlt
   obtain rfl : gk = 0 := by have := HA.out; have := HLT.out; omega
   obtain rfl : B = r := HA.out.2.2.2
   obtain ⟨b0, b1, b2, b3, b4, b5, b6, b7, hb8⟩ : ∃ b0 b1 b2 b3 b4 b5 b6 b7, B = [b0, b1, b2, b3, b4, b5, b6, b7] := by
    have h8 := HA.out.2.2.1
    match B, h8 with
    | [b0, b1, b2, b3, b4, b5, b6, b7], _ => exact ⟨_, _, _, _, _, _, _, _, rfl⟩
   have HK1c : Aside0 (wr.heap[w.heap.size + 1]? = some (.cells #[.bool b0, .bool b1, .bool b2, .bool b3, .bool b4, .bool b5, .bool b6, .bool b7] 74 (0, 0))) := ⟨HK1.out.trans (by rw [hb8]; rfl)⟩; have HEND : Aside0 (arrOf B = #[.bool b0, .bool b1, .bool b2, .bool b3, .bool b4, .bool b5, .bool b6, .bool b7]) := ⟨by rw [hb8]; rfl⟩; clear hb8; have e0 : wr.cell? ⟨w.heap.size + 1, 0, none⟩ = some (.bool b0) := (blk_cell HK1c.out 0).trans rfl; have e1 : wr.cell? ⟨w.heap.size + 1, 1, none⟩ = some (.bool b1) := (blk_cell HK1c.out 1).trans rfl; have e2 : wr.cell? ⟨w.heap.size + 1, 2, none⟩ = some (.bool b2) := (blk_cell HK1c.out 2).trans rfl; have e3 : wr.cell? ⟨w.heap.size + 1, 3, none⟩ = some (.bool b3) := (blk_cell HK1c.out 3).trans rfl; have e4 : wr.cell? ⟨w.heap.size + 1, 4, none⟩ = some (.bool b4) := (blk_cell HK1c.out 4).trans rfl; have e5 : wr.cell? ⟨w.heap.size + 1, 5, none⟩ = some (.bool b5) := (blk_cell HK1c.out 5).trans rfl; have e6 : wr.cell? ⟨w.heap.size + 1, 6, none⟩ = some (.bool b6) := (blk_cell HK1c.out 6).trans rfl; have e7 : wr.cell? ⟨w.heap.size + 1, 7, none⟩ = some (.bool b7) := (blk_cell HK1c.out 7).trans rfl; have f0 : wr.cell? ⟨w.heap.size, 0, none⟩ = some (.bool false) := (blk_cell HK0.out 0).trans rfl; have f1 : wr.cell? ⟨w.heap.size, 1, none⟩ = some (.bool false) := (blk_cell HK0.out 1).trans rfl; have f2 : wr.cell? ⟨w.heap.size, 2, none⟩ = some (.bool false) := (blk_cell HK0.out 2).trans rfl; have f3 : wr.cell? ⟨w.heap.size, 3, none⟩ = some (.bool false) := (blk_cell HK0.out 3).trans rfl
   have f4 : wr.cell? ⟨w.heap.size, 4, none⟩ = some (.bool false) := (blk_cell HK0.out 4).trans rfl; have f5 : wr.cell? ⟨w.heap.size, 5, none⟩ = some (.bool false) := (blk_cell HK0.out 5).trans rfl; have f6 : wr.cell? ⟨w.heap.size, 6, none⟩ = some (.bool false) := (blk_cell HK0.out 6).trans rfl; have f7 : wr.cell? ⟨w.heap.size, 7, none⟩ = some (.bool false) := (blk_cell HK0.out 7).trans rfl; have g0 : wr.frozen? ⟨w.heap.size, 0, none⟩ = false := blk_frozen HK0.out 0; have g1 : wr.frozen? ⟨w.heap.size, 1, none⟩ = false := blk_frozen HK0.out 1; have g2 : wr.frozen? ⟨w.heap.size, 2, none⟩ = false := blk_frozen HK0.out 2; have g3 : wr.frozen? ⟨w.heap.size, 3, none⟩ = false := blk_frozen HK0.out 3; have g4 : wr.frozen? ⟨w.heap.size, 4, none⟩ = false := blk_frozen HK0.out 4; have g5 : wr.frozen? ⟨w.heap.size, 5, none⟩ = false := blk_frozen HK0.out 5; have g6 : wr.frozen? ⟨w.heap.size, 6, none⟩ = false := blk_frozen HK0.out 6; have g7 : wr.frozen? ⟨w.heap.size, 7, none⟩ = false := blk_frozen HK0.out 7
   go_wp2
   refine bodyPost_ret (results_cell_row rfl _ _ w.heap.size 74 #[.bool b0, .bool b1, .bool b2, .bool b3, .bool b4, .bool b5, .bool b6, .bool b7] (0, 0) _ rfl ((blk_set (blk_set (blk_set (blk_set (blk_set (blk_set (blk_set (blk_set HK0.out 0 (.bool b0)) 1 (.bool b1)) 2 (.bool b2)) 3 (.bool b3)) 4 (.bool b4)) 5 (.bool b5)) 6 (.bool b6)) 7 (.bool b7)).trans rfl) hu84 rfl (by kernel_rfl)) rfl ?_
   exact ⟨by rw [HEND.out], ((((((((HB.out).setCell (p := ⟨w.heap.size, 0, none⟩) (Nat.le_refl _) _).setCell (p := ⟨w.heap.size, 1, none⟩) (Nat.le_refl _) _).setCell (p := ⟨w.heap.size, 2, none⟩) (Nat.le_refl _) _).setCell (p := ⟨w.heap.size, 3, none⟩) (Nat.le_refl _) _).setCell (p := ⟨w.heap.size, 4, none⟩) (Nat.le_refl _) _).setCell (p := ⟨w.heap.size, 5, none⟩) (Nat.le_refl _) _).setCell (p := ⟨w.heap.size, 6, none⟩) (Nat.le_refl _) _).setCell (p := ⟨w.heap.size, 7, none⟩) (Nat.le_refl _) _⟩
theorem reachAll_length (l0 : List S58) (l1 : List Int) (width : Int) : ∀ m B, (reachAll l0 l1 width m B).length = B.length
 | 0, _ => rfl
 | m + 1, B => by
  simp only [reachAll]; rw [reachAll_length l0 l1 width m, reachPass_length]
theorem run_indexA_0 (b0 b1 b2 b3 b4 b5 b6 b7 : Bool) (w : World) : (Instr.index 74 (.agg #[.bool b0, .bool b1, .bool b2, .bool b3, .bool b4, .bool b5, .bool b6, .bool b7]) (.int .i64 0)).run Try.prog w = .ok (.bool b0) w := by kernel_rfl
theorem run_indexA_1 (b0 b1 b2 b3 b4 b5 b6 b7 : Bool) (w : World) : (Instr.index 74 (.agg #[.bool b0, .bool b1, .bool b2, .bool b3, .bool b4, .bool b5, .bool b6, .bool b7]) (.int .i64 1)).run Try.prog w = .ok (.bool b1) w := by kernel_rfl
theorem run_indexA_2 (b0 b1 b2 b3 b4 b5 b6 b7 : Bool) (w : World) : (Instr.index 74 (.agg #[.bool b0, .bool b1, .bool b2, .bool b3, .bool b4, .bool b5, .bool b6, .bool b7]) (.int .i64 2)).run Try.prog w = .ok (.bool b2) w := by kernel_rfl
theorem run_indexA_3 (b0 b1 b2 b3 b4 b5 b6 b7 : Bool) (w : World) : (Instr.index 74 (.agg #[.bool b0, .bool b1, .bool b2, .bool b3, .bool b4, .bool b5, .bool b6, .bool b7]) (.int .i64 3)).run Try.prog w = .ok (.bool b3) w := by kernel_rfl
theorem run_indexA_4 (b0 b1 b2 b3 b4 b5 b6 b7 : Bool) (w : World) : (Instr.index 74 (.agg #[.bool b0, .bool b1, .bool b2, .bool b3, .bool b4, .bool b5, .bool b6, .bool b7]) (.int .i64 4)).run Try.prog w = .ok (.bool b4) w := by kernel_rfl
theorem run_indexA_5 (b0 b1 b2 b3 b4 b5 b6 b7 : Bool) (w : World) : (Instr.index 74 (.agg #[.bool b0, .bool b1, .bool b2, .bool b3, .bool b4, .bool b5, .bool b6, .bool b7]) (.int .i64 5)).run Try.prog w = .ok (.bool b5) w := by kernel_rfl
theorem run_indexA_6 (b0 b1 b2 b3 b4 b5 b6 b7 : Bool) (w : World) : (Instr.index 74 (.agg #[.bool b0, .bool b1, .bool b2, .bool b3, .bool b4, .bool b5, .bool b6, .bool b7]) (.int .i64 6)).run Try.prog w = .ok (.bool b6) w := by kernel_rfl
theorem run_indexA_7 (b0 b1 b2 b3 b4 b5 b6 b7 : Bool) (w : World) : (Instr.index 74 (.agg #[.bool b0, .bool b1, .bool b2, .bool b3, .bool b4, .bool b5, .bool b6, .bool b7]) (.int .i64 7)).run Try.prog w = .ok (.bool b7) w := by kernel_rfl
theorem run_indexA (B : List Bool) (h8 : B.length = 8) (i : Int) (h0 : 0 ≤ i) (h7 : i ≤ 7) (w : World) : (Instr.index 74 (.agg (arrOf B)) (.int .i64 i)).run Try.prog w = .ok (.bool (B.getD i.toNat false)) w := by
 match B, h8 with
 | [b0, b1, b2, b3, b4, b5, b6, b7], _ =>
  have h : i = 0 ∨ i = 1 ∨ i = 2 ∨ i = 3 ∨ i = 4 ∨ i = 5 ∨ i = 6 ∨ i = 7 := by omega
  rcases h with rfl | rfl | rfl | rfl | rfl | rfl | rfl | rfl
  ·exact run_indexA_0 b0 b1 b2 b3 b4 b5 b6 b7 w
  ·exact run_indexA_1 b0 b1 b2 b3 b4 b5 b6 b7 w
  ·exact run_indexA_2 b0 b1 b2 b3 b4 b5 b6 b7 w
  ·exact run_indexA_3 b0 b1 b2 b3 b4 b5 b6 b7 w
  ·exact run_indexA_4 b0 b1 b2 b3 b4 b5 b6 b7 w
  ·exact run_indexA_5 b0 b1 b2 b3 b4 b5 b6 b7 w
  ·exact run_indexA_6 b0 b1 b2 b3 b4 b5 b6 b7 w
  ·exact run_indexA_7 b0 b1 b2 b3 b4 b5 b6 b7 w
def reachOf (l0 : List S58) (l1 : List Int) (from_ width : Int) : List Bool := reachAll l0 l1 width l0.length ((List.replicate 8 false).set from_.toNat true)
theorem reachOf_length (l0 : List S58) (l1 : List Int) (from_ width : Int) : (reachOf l0 l1 from_ width).length = 8 := by
 unfold reachOf
 rw [reachAll_length]
 simp
def memFrom (B : List Bool) : Nat → Nat → List Int → List Int
 | 0, _, acc => acc
 | d + 1, i, acc => memFrom B d (i + 1) (if B.getD i false = true then acc ++ [(i : Int)] else acc)
/-- The stations that hang together with one. -/
def hangOf (l0 : List S58) (a : Int) : List Bool := reachOf l0 (List.replicate l0.length 0) a 0
def hangOk (l0 : List S58) (a : Int) : Bool := reachOk l0 (List.replicate l0.length 0) a && decide (l0.length ≤ 12)


/-! ### impl_greatest: function 46 (by hand: wip/inj) -/
def greatestDown (l0 : List S58) (l1 : List Int) (from_ to_ : Int) : Nat → Int
 | 0 => -1
 | k + 1 => if (reachOf l0 l1 from_ (k : Int)).getD to_.toNat false = true then (k : Int) else greatestDown l0 l1 from_ to_ k
def impl_greatest.f (l0 : List S58) (l1 : List Int) (a2 a3 : Int) : Option Int := if reachOk l0 l1 a2 = true ∧ 0 ≤ a3 ∧ a3 ≤ 7 then some (greatestDown l0 l1 a2 a3 201) else none
theorem impl_greatest.calls (A0 : Option Addr) (c0 : Nat) (l0 : List S58) (A1 : Option Addr) (c1 : Nat) (l1 : List Int) (a2 a3 : Int) (r : Int) (w : World) (hr0 : Kd.C k58 w A0 l0.length l0) (hc0 : l0.length ≤ c0) (hr1 : Kd.C (Kd.int .i64) w A1 l1.length l1) (hc1 : l1.length ≤ c1) (h : impl_greatest.f l0 l1 a2 a3 = some r) :
  Calls Try.prog 46 #[.slice A0 l0.length c0, .slice A1 l1.length c1, .int .i64 a2, .int .i64 a3] w fun e w' => e = .returned (.int .i64 r) ∧ Below w.heap.size w w' := by
 unfold impl_greatest.f at h
 by_cases hok : reachOk l0 l1 a2 = true ∧ 0 ≤ a3 ∧ a3 ≤ 7
 case neg => rw [if_neg hok] at h; cases h
 rw [if_pos hok] at h; have hr := Option.some.inj h; clear h; have HOK := Aside0.mk hok; have HR0 := Aside0.mk hr0; have HR1 := Aside0.mk hr1; have HC0 := Aside0.mk hc0; have HC1 := Aside0.mk hc1; have HRES := Aside0.mk hr; have HM0 := Aside0.mk hr0.2.1; have HM1 := Aside0.mk hr1.2.1; clear hr hr0 hr1 hc0 hc1 hok; have HCALL : Aside0 (∀ (x : Int) (W : World), Below w.heap.size w W → Calls Try.prog 62 #[.slice A0 l0.length c0, .slice A1 l1.length c1, .int .i64 a2, .int .i64 x] W fun e w' => e = .returned (.agg (arrOf (reachOf l0 l1 a2 x))) ∧ Below W.heap.size W w') := ⟨fun x W hb => impl_reach.calls A0 c0 l0 A1 c1 l1 a2 x _ W (Kd.C_below HR0.out hb) HC0.out (Kd.C_below HR1.out hb) HC1.out (by unfold impl_reach.f; rw [if_pos HOK.out.1]; rfl)⟩
 go_enter Try.func46, Try.ntmps46
 go_wp2
 go_loopg [9] 201 (fun kq v9 w' => ∃ x : Int, v9 = .int .i64 x ∧ Aside0 (-1 ≤ x ∧ x ≤ 200 ∧ (kq : Int) = x + 1 ∧ greatestDown l0 l1 a2 a3 kq = r) ∧ Aside0 (Below w.heap.size w w'))
 case atStart => exact ⟨200, rfl, ⟨by omega, by omega, by omega, HRES.out⟩, ⟨Below.refl _ _⟩⟩
 case round =>
  obtain ⟨x, rfl, HA, HB⟩ := hrel
  by_cases hlt : 0 ≤ x
  ·have d0 : decide (x ≥ 0) = true := decide_eq_true hlt; have d1 : decide (0 ≤ x) = true := decide_eq_true hlt; have HLT := Aside0.mk hlt; clear hlt; obtain ⟨k1, rfl⟩ : ∃ k1, gk = k1 + 1 := ⟨gk - 1, by have := HA.out; have := HLT.out; omega⟩
   have hx : x = (k1 : Int) := by have := HA.out; omega
   have hidx := fun w => run_indexA (reachOf l0 l1 a2 x) (reachOf_length _ _ _ _) a3 HOK.out.2.1 HOK.out.2.2 w
   cases ht : (reachOf l0 l1 a2 x).getD a3.toNat false with
   | true =>
    rw [ht] at hidx; have HT := Aside0.mk ht; have HX := Aside0.mk hx; clear ht hx
    go_wp2_with (go_at_call 62; refine (HCALL.out _ _ HB.out).mono ?_; rintro e w1 ⟨rfl, hb⟩)
    go_ret
    refine ⟨?_, HB.out.trans (hb.mono HB.out.size)⟩
    rw [← HA.out.2.2.2]
    show _ = Ending.returned (Value.int .i64 (if (reachOf l0 l1 a2 (k1 : Int)).getD a3.toNat false = true then (k1 : Int) else _))
    rw [← HX.out, if_pos HT.out]
    rfl
   | false =>
    rw [ht] at hidx; have HT := Aside0.mk ht; have HX := Aside0.mk hx; clear ht hx
    go_wp2_with (go_at_call 62; refine (HCALL.out _ _ HB.out).mono ?_; rintro e w1 ⟨rfl, hb⟩)
    go_roundg k1
    case measure => omega
    case rel =>
     refine ⟨wrap64 (x - 1), rfl, ⟨by have := HA.out; have := HLT.out; unfold wrap64; omega, by have := HA.out; have := HLT.out; unfold wrap64; omega, by have := HA.out; have := HLT.out; unfold wrap64; omega, ?_⟩, ⟨HB.out.trans (hb.mono HB.out.size)⟩⟩
     rw [← HA.out.2.2.2]
     show _ = (if (reachOf l0 l1 a2 (k1 : Int)).getD a3.toNat false = true then (k1 : Int) else greatestDown l0 l1 a2 a3 k1)
     rw [← HX.out, if_neg (by rw [HT.out]; decide)]
  ·have d0 : decide (x ≥ 0) = false := decide_eq_false hlt; have d1 : decide (0 ≤ x) = false := decide_eq_false hlt; have HLT := Aside0.mk hlt; clear hlt
   obtain rfl : gk = 0 := by have := HA.out; have := HLT.out; omega
   go_wp2
   go_ret
   exact ⟨by rw [← HA.out.2.2.2]; rfl, HB.out⟩


/-! ### impl_GreatestWidth: function 12 -/
def impl_GreatestWidth.f (k : Nat) (l0 : List (S58)) (l1 : List Int) (a2 : Int) (a3 : Int) : Option (Int × Bool) := (impl_areEnds.f k l0 l1 a2 a3).bind fun t512 => (if t512 = true then ((impl_greatest.f l0 l1 a2 a3).bind fun t513 => (some (t513, true))) else (some (0, false)))
theorem impl_GreatestWidth.mono : ∀ a0 a1 a2 a3 k, LeO (impl_GreatestWidth.f k a0 a1 a2 a3) (impl_GreatestWidth.f (k + 1) a0 a1 a2 a3) := by
 intro a0 a1 a2 a3 k
 unfold impl_GreatestWidth.f
 have m0 := @impl_areEnds.mono
 exact qmono
theorem impl_GreatestWidth.calls (k : Nat) (A0 : Option Addr) (c0 : Nat) (l0 : List (S58)) (A1 : Option Addr) (c1 : Nat) (l1 : List Int) (a2 : Int) (a3 : Int) (r1 : Int) (r2 : Bool) (w : World) (hr0 : Kd.C k58 w A0 l0.length l0) (hc0 : l0.length ≤ c0) (hr1 : Kd.C (Kd.int .i64) w A1 l1.length l1) (hc1 : l1.length ≤ c1) (h : impl_GreatestWidth.f k l0 l1 a2 a3 = some (r1, r2)) :
  Calls Try.prog 12 #[.slice A0 l0.length c0, .slice A1 l1.length c1, .int .i64 a2, .int .i64 a3] w fun e w' => e = .returned (.tuple #[.int .i64 r1, .bool r2]) ∧ Below w.heap.size w w' := by
 have HR0 := Aside0.mk hr0; have HC0 := Aside0.mk hc0; clear hr0 hc0; have HR1 := Aside0.mk hr1; have HC1 := Aside0.mk hc1; clear hr1 hc1; have HB := Aside0.mk (Below.refl w.heap.size w); have H : ((impl_areEnds.f k l0 l1 a2 a3).bind fun t512 => (if t512 = true then ((impl_greatest.f l0 l1 a2 a3).bind fun t513 => (some (t513, true))) else (some (0, false)))) = some (r1, r2) := h; clear h; replace H := bindA H; obtain ⟨t512, A5, H⟩ := H; (try dsimp only at H)
 by_cases c6 : t512 = true
 ·subst c6; rw [if_pos rfl] at H; replace H := Option.bind_eq_some_iff.mp H; obtain ⟨t513, A70, H⟩ := H; replace H : (some (t513, true)) = some (r1, r2) := H; have A7 := Aside0.mk A70; clear A70; simp only [Option.some.injEq, Prod.mk.injEq] at H; obtain ⟨rfl, rfl⟩ := H
  go_enter Try.func12, Try.ntmps12
  go_wp2_with (first | ((with_reducible refine gate_callee (f := 33) rfl ?_); refine goesL_ (some 14) rfl rfl Try.func33 (by kernel_rfl) rfl #[.slice A0 l0.length c0, .slice A1 l1.length c1, .int .i64 a2, .int .i64 a3] rfl (qR2) ?_; (with_reducible refine (impl_areEnds.calls k _ _ l0 _ _ l1 a2 a3 true _ ?s1 ?s2 ?s3 ?s4 A5.out).mono ?_); (case s1 => exact (qR11 HR0.out)); (case s2 => exact HC0.out); (case s3 => exact (qR11 HR1.out)); (case s4 => exact HC1.out); rintro e w8 ⟨rfl, hb⟩; refine ⟨_, rfl, ?_⟩; replace HB := Aside0.mk (qR62); clear hb) | ((with_reducible refine gate_callee (f := 46) rfl ?_); refine goesL_ (some 20) rfl rfl Try.func46 (by kernel_rfl) rfl #[.slice A0 l0.length c0, .slice A1 l1.length c1, .int .i64 a2, .int .i64 a3] rfl (qR2) ?_; (with_reducible refine (impl_greatest.calls _ _ l0 _ _ l1 a2 a3 t513 _ ?s1 ?s2 ?s3 ?s4 A7.out).mono ?_); (case s1 => exact (qR14 HR0.out)); (case s2 => exact HC0.out); (case s3 => exact (qR14 HR1.out)); (case s4 => exact HC1.out); rintro e w9 ⟨rfl, hb⟩; refine ⟨_, rfl, ?_⟩; replace HB := Aside0.mk (qR62); clear hb))
  go_ret2
  exact ⟨(qR10), (qR0)⟩
 ·replace c6 := Bool.eq_false_iff.mpr c6; subst c6; rw [if_neg (show ¬ (false = true) by decide)] at H; simp only [Option.some.injEq, Prod.mk.injEq] at H; obtain ⟨rfl, rfl⟩ := H
  go_enter Try.func12, Try.ntmps12
  go_wp2_with (first | ((with_reducible refine gate_callee (f := 33) rfl ?_); refine goesL_ (some 14) rfl rfl Try.func33 (by kernel_rfl) rfl #[.slice A0 l0.length c0, .slice A1 l1.length c1, .int .i64 a2, .int .i64 a3] rfl (qR2) ?_; (with_reducible refine (impl_areEnds.calls k _ _ l0 _ _ l1 a2 a3 false _ ?s1 ?s2 ?s3 ?s4 A5.out).mono ?_); (case s1 => exact (qR11 HR0.out)); (case s2 => exact HC0.out); (case s3 => exact (qR11 HR1.out)); (case s4 => exact HC1.out); rintro e w10 ⟨rfl, hb⟩; refine ⟨_, rfl, ?_⟩; replace HB := Aside0.mk (qR62); clear hb))
  go_ret2
  exact ⟨(qR10), (qR0)⟩

end Go.Proofs.Ytoljdjgndogegaa.MR
