-- Written by a program of this session (wip/drv.py) out of Lean's own print of the loaded program; hand-proved parts from wip/inj.
import Derived.Test.YtdlbciobndpgnaaMTx0
import Derived.Test.YtdlbciobndpgnaaMTx4
namespace Go.Proofs.Ytdlbciobndpgnaa.MT
open Go.RowKit Go.Proofs.YtdlbciobndpgnaaW.PrintWords Go.Proofs.YtdlbciobndpgnaaW.PrintLast Go.Proofs.YtdlbciobndpgnaaW.PrintMore
attribute [local go_sem] max2_int min2_int max_two min_two max_three min_three max_four min_four   -- for this text's walks alone
set_option linter.unusedVariables false
set_option linter.unusedSimpArgs false

/-! ### impl_reach: function 63 (by hand: wip/inj) -/
def arrOf (B : List Bool) : Array Value := (B.map Value.bool).toArray
def reachStep (l0 : List S65) (l1 : List Int) (width : Int) (i : Nat) (B : List Bool) : List Bool :=
  if (decide (width ≤ l1.getD i 0) && (B.getD (l0.getD i z65).f0.toNat false != B.getD (l0.getD i z65).f1.toNat false)) = true then (B.set (l0.getD i z65).f0.toNat true).set (l0.getD i z65).f1.toNat true else B
def reachPass (l0 : List S65) (l1 : List Int) (width : Int) : Nat → Nat → List Bool → List Bool
  | 0, _, B => B
  | d + 1, i, B => reachPass l0 l1 width d (i + 1) (reachStep l0 l1 width i B)
def reachAll (l0 : List S65) (l1 : List Int) (width : Int) : Nat → List Bool → List Bool
  | 0, B => B
  | m + 1, B => reachAll l0 l1 width m (reachPass l0 l1 width l0.length 0 B)
def reachOk (l0 : List S65) (l1 : List Int) (from_ : Int) : Bool := decide (l0.length ≤ l1.length) && (decide (0 ≤ from_ ∧ from_ ≤ 7) && l0.all (fun x => decide (0 ≤ x.f0 ∧ x.f0 ≤ 7) && decide (0 ≤ x.f1 ∧ x.f1 ≤ 7)))
def impl_reach.f (l0 : List S65) (l1 : List Int) (a2 a3 : Int) : Option (List Bool) := if reachOk l0 l1 a2 = true then some (reachAll l0 l1 a3 l0.length ((List.replicate 8 false).set a2.toNat true)) else none
theorem arrOf_set (B : List Bool) (i : Nat) (v : Bool) : (arrOf B).setIfInBounds i (.bool v) = arrOf (B.set i v) := by
  unfold arrOf
  rw [List.setIfInBounds_toArray, List.map_set]
theorem arrOf_get {B : List Bool} {i : Nat} (h : i < B.length) : (arrOf B)[i]? = some (.bool (B.getD i false)) := by
  simp [arrOf, List.getD_eq_getElem?_getD, List.getElem?_eq_getElem h]
theorem reachStep_length (l0 : List S65) (l1 : List Int) (width : Int) (i : Nat) (B : List Bool) : (reachStep l0 l1 width i B).length = B.length := by
  unfold reachStep
  split <;> simp
theorem reachPass_length (l0 : List S65) (l1 : List Int) (width : Int) : ∀ d i B, (reachPass l0 l1 width d i B).length = B.length
  | 0, _, _ => rfl
  | d + 1, i, B => by
    simp only [reachPass]
    rw [reachPass_length l0 l1 width d (i + 1), reachStep_length]
theorem reach_yes {l0 : List S65} {l1 : List Int} {a3 y : Int} {B : List Bool} (h0 : 0 ≤ y) (hl : y < l0.length) (hm : l0.length ≤ 9223372036854775807) (hw : rd l1 y ≥ a3) (hst : B.getD (rd_T65 l0 y).f0.toNat false ≠ B.getD (rd_T65 l0 y).f1.toNat false) (k : Nat) :
    reachPass l0 l1 a3 (k + 1) y.toNat B = reachPass l0 l1 a3 k (wrap64 (y + 1)).toNat ((B.set (rd_T65 l0 y).f0.toNat true).set (rd_T65 l0 y).f1.toNat true) := by
  have e : (wrap64 (y + 1)).toNat = y.toNat + 1 := by unfold wrap64; omega
  rw [e]
  show reachPass l0 l1 a3 k (y.toNat + 1) (reachStep l0 l1 a3 y.toNat B) = _
  congr 1
  unfold reachStep
  rw [if_pos]
  · rfl
  · rw [Bool.and_eq_true]
    exact ⟨decide_eq_true hw, bne_iff_ne.2 hst⟩
theorem reach_no {l0 : List S65} {l1 : List Int} {a3 y : Int} {B : List Bool} (h0 : 0 ≤ y) (hl : y < l0.length) (hm : l0.length ≤ 9223372036854775807) (hn : ¬ (rd l1 y ≥ a3 ∧ B.getD (rd_T65 l0 y).f0.toNat false ≠ B.getD (rd_T65 l0 y).f1.toNat false)) (k : Nat) :
    reachPass l0 l1 a3 (k + 1) y.toNat B = reachPass l0 l1 a3 k (wrap64 (y + 1)).toNat B := by
  have e : (wrap64 (y + 1)).toNat = y.toNat + 1 := by unfold wrap64; omega
  rw [e]
  show reachPass l0 l1 a3 k (y.toNat + 1) (reachStep l0 l1 a3 y.toNat B) = _
  congr 1
  unfold reachStep
  rw [if_neg]
  intro h
  rw [Bool.and_eq_true] at h
  exact hn ⟨of_decide_eq_true h.1, bne_iff_ne.1 h.2⟩
set_option maxHeartbeats 8000000 in
set_option maxRecDepth 100000 in
theorem impl_reach.calls (A0 : Option Addr) (c0 : Nat) (l0 : List S65) (A1 : Option Addr) (c1 : Nat) (l1 : List Int) (a2 a3 : Int) (r : List Bool) (w : World) (hr0 : Kd.C k65 w A0 l0.length l0) (hc0 : l0.length ≤ c0) (hr1 : Kd.C (Kd.int .i64) w A1 l1.length l1) (hc1 : l1.length ≤ c1) (h : impl_reach.f l0 l1 a2 a3 = some r) :
    Calls Try.prog 63 #[.slice A0 l0.length c0, .slice A1 l1.length c1, .int .i64 a2, .int .i64 a3] w fun e w' => e = .returned (.agg (arrOf r)) ∧ Below w.heap.size w w' := by
  have huL := Try.underlying65
  have hu84 := Try.underlying86
  have hu4 := Try.underlying4
  unfold impl_reach.f at h
  by_cases hok : reachOk l0 l1 a2 = true
  case neg => rw [if_neg hok] at h; cases h
  rw [if_pos hok] at h
  have hr := Option.some.inj h
  clear h
  simp only [reachOk, Bool.and_eq_true, decide_eq_true_eq, List.all_eq_true] at hok
  obtain ⟨hlen, ⟨hf0, hf7⟩, hall⟩ := hok
  have HALL : Aside0 (∀ i, i < l0.length → (0 ≤ (l0.getD i z65).f0 ∧ (l0.getD i z65).f0 ≤ 7) ∧ (0 ≤ (l0.getD i z65).f1 ∧ (l0.getD i z65).f1 ≤ 7)) := ⟨fun i hi => by
    have := hall _ (List.getElem_mem hi)
    simpa [List.getD_eq_getElem?_getD, List.getElem?_eq_getElem hi] using this⟩
  clear hall
  have HLEN := Aside0.mk hlen
  have HR0 := Aside0.mk hr0
  have HR1 := Aside0.mk hr1
  have HM := Aside0.mk hr0.2.1
  obtain ⟨B0, hB0⟩ : ∃ B0 : List Bool, B0 = (List.replicate 8 false).set a2.toNat true := ⟨_, rfl⟩
  rw [← hB0] at hr
  have HRES := Aside0.mk hr
  have HB0 : Aside0 (B0.length = 8 ∧ ([.bool false, .bool false, .bool false, .bool false, .bool false, .bool false, .bool false, .bool false].set a2.toNat (.bool true) : List Value).toArray = arrOf B0) := ⟨by rw [hB0]; simp, by
    rw [hB0]
    unfold arrOf
    rw [List.map_set]
    rfl⟩
  clear hr hlen hr0 hr1 hc0 hc1 hB0
  have p0 := eq_true hf0
  have q0 : a2 < 8 := by omega
  have hf7' := Aside0.mk hf7
  clear hf7
  go_enter Try.func63, Try.ntmps63
  go_wp2
  
  rw [HB0.out.2]
  go_loopg [16] l0.length (fun kq v16 w' => ∃ (x : Int) (B : List Bool), v16 = .int .i64 x ∧ Aside0 (0 ≤ x ∧ kq + x.toNat = l0.length ∧ B.length = 8 ∧ reachAll l0 l1 a3 kq B = r) ∧ Aside0 (w'.heap[w.heap.size + 1]? = some (.cells (arrOf B) 86 (0, 0))) ∧ Aside0 (w'.heap[w.heap.size]? = some (.cells #[.bool false, .bool false, .bool false, .bool false, .bool false, .bool false, .bool false, .bool false] 86 (0, 0))) ∧ Aside0 (Below w.heap.size w w'))
  case atStart =>
    refine ⟨0, B0, rfl, ⟨by omega, by simp, HB0.out.1, HRES.out⟩, ⟨?_⟩, ⟨?_⟩, ⟨?_⟩⟩
    · exact heap_alloc2_new _ _ _
    · exact blk_alloc (blk_new w _) _
    · exact below_alloc (below_alloc (Below.refl _ _) _) _
  case round =>
    obtain ⟨x, B, rfl, HA, HK1, HK0, HB⟩ := hrel
    by_cases hlt : x < (l0.length : Int)
    · have c0 : decide (x < (l0.length : Int)) = true := decide_eq_true hlt
      have HLT := Aside0.mk hlt
      clear hlt
      obtain ⟨k1, rfl⟩ : ∃ k1, gk = k1 + 1 := ⟨gk - 1, by have := HA.out; have := HLT.out; omega⟩
      obtain ⟨wo, rfl⟩ : ∃ wo : World, wo = wr := ⟨_, rfl⟩
      go_wp2
      go_loopg [20] l0.length (fun kq v20 w' => ∃ (y : Int) (B' : List Bool), v20 = .int .i64 y ∧ Aside0 (0 ≤ y ∧ kq + y.toNat = l0.length ∧ B'.length = 8 ∧ reachPass l0 l1 a3 kq y.toNat B' = reachPass l0 l1 a3 l0.length 0 B) ∧ Aside0 (w'.heap[w.heap.size + 1]? = some (.cells (arrOf B') 86 (0, 0))) ∧ Aside0 (w'.heap[w.heap.size]? = some (.cells #[.bool false, .bool false, .bool false, .bool false, .bool false, .bool false, .bool false, .bool false] 86 (0, 0))) ∧ Aside0 (Below w.heap.size w w'))
      case atStart => exact ⟨0, B, rfl, ⟨by omega, by simp, HA.out.2.2.1, rfl⟩, HK1, HK0, HB⟩
      case round =>
        obtain ⟨y, B', rfl, HA2, HK1', HK0', HB'⟩ := hrel
        by_cases hlt2 : y < (l0.length : Int)
        · have d0 : decide (y < (l0.length : Int)) = true := decide_eq_true hlt2
          have HLT2 := Aside0.mk hlt2
          obtain ⟨ad, e, hx0, hx1, hx2, hx3, hx4⟩ := at_T65 (Kd.C_below HR0.out HB'.out) y HA2.out.1 hlt2
          cases e
          obtain ⟨ad1, e1, hy⟩ := Kd.at_int (Kd.C_below HR1.out HB'.out) y HA2.out.1 (by have := HLEN.out; omega)
          cases e1
          have hq1 : y < (l1.length : Int) := by have := HLEN.out; omega
          have py := eq_true HA2.out.1
          have qy := eq_true hlt2
          have qy1 := eq_true hq1
          clear hlt2 hq1
          obtain ⟨k2, rfl⟩ : ∃ k2, gk = k2 + 1 := ⟨gk - 1, by have := HA2.out; have := HLT2.out; omega⟩
          have HXB := Aside0.mk (HALL.out y.toNat (by have := HA2.out; have := HLT2.out; omega))
          obtain ⟨a, ha⟩ : ∃ a : Int, a = (rd_T65 l0 y).f0 := ⟨_, rfl⟩
          obtain ⟨b, hb⟩ : ∃ b : Int, b = (rd_T65 l0 y).f1 := ⟨_, rfl⟩
          rw [← ha] at hx0
          rw [← hb] at hx1
          have HAB : Aside0 ((0 ≤ a ∧ a ≤ 7) ∧ (0 ≤ b ∧ b ≤ 7)) := ⟨by rw [ha, hb]; exact HXB.out⟩
          have NA := Aside0.mk ha
          have NB := Aside0.mk hb
          clear ha hb
          have pa := eq_true HAB.out.1.1
          have pb := eq_true HAB.out.2.1
          have qa : (a < 8) = True := eq_true (by have := HAB.out; omega)
          have qb : (b < 8) = True := eq_true (by have := HAB.out; omega)
          by_cases hw : rd l1 y ≥ a3
          · have w0 : decide (rd l1 y ≥ a3) = true := decide_eq_true hw
            have w1 : decide (a3 ≤ rd l1 y) = true := decide_eq_true hw
            have HW := Aside0.mk hw
            clear hw
            have ha7 : wr.cell? ⟨w.heap.size + 1, a.toNat, none⟩ = some (.bool (B'.getD a.toNat false)) := (blk_cell HK1'.out _).trans (arrOf_get (by have := HAB.out; have := HA2.out; omega))
            have hb7 : wr.cell? ⟨w.heap.size + 1, b.toNat, none⟩ = some (.bool (B'.getD b.toNat false)) := (blk_cell HK1'.out _).trans (arrOf_get (by have := HAB.out; have := HA2.out; omega))
            have hgl : w.heap.size + 1 < wr.heap.size := blk_lt HK1'.out
            obtain ⟨s, hs⟩ : ∃ s : Bool, s = B'.getD a.toNat false := ⟨_, rfl⟩
            obtain ⟨t, ht⟩ : ∃ t : Bool, t = B'.getD b.toNat false := ⟨_, rfl⟩
            rw [← hs] at ha7
            rw [← ht] at hb7
            have NS := Aside0.mk hs
            have NT := Aside0.mk ht
            clear hs ht
            have AL : ∀ (o : Obj) (p : Addr) (v : Value), wr.cell? p = some v → (wr.alloc o).cell? p = some v := fun o p v h => ((below_alloc (Below.refl wr.heap.size wr) o).cell (World.block_lt_of_cell? wr _ h)).trans h
            have hy' := AL (.cells #[.int .i64 a, .int .i64 b, .int .i64 (rd_T65 l0 y).f2, .int .i64 (rd_T65 l0 y).f3, .int .i64 (rd_T65 l0 y).f4] 65 (0, 0)) _ _ hy
            have ha8 := AL (.cells #[.int .i64 a, .int .i64 b, .int .i64 (rd_T65 l0 y).f2, .int .i64 (rd_T65 l0 y).f3, .int .i64 (rd_T65 l0 y).f4] 65 (0, 0)) _ _ ha7
            have hb8 := AL (.cells #[.int .i64 a, .int .i64 b, .int .i64 (rd_T65 l0 y).f2, .int .i64 (rd_T65 l0 y).f3, .int .i64 (rd_T65 l0 y).f4] 65 (0, 0)) _ _ hb7
            clear AL
            by_cases hst : s = t
            · have NST := Aside0.mk hst
              subst hst
              go_wp2
              go_quiet (fail)
              go_wp2
              go_roundg k2
              case measure => omega
              case rel => exact ⟨wrap64 (y + 1), B', rfl, ⟨by have := HA2.out; have := HLT2.out; have := HM.out; unfold wrap64; omega, by have := HA2.out; have := HLT2.out; have := HM.out; unfold wrap64; omega, HA2.out.2.2.1, by rw [← HA2.out.2.2.2, reach_no HA2.out.1 HLT2.out HM.out (fun h => h.2 (by rw [← NA.out, ← NB.out, ← NS.out, ← NT.out]))]⟩, ⟨blk_drewN (blk_alloc HK1'.out _) _⟩, ⟨blk_drewN (blk_alloc HK0'.out _) _⟩, ⟨pw_below_drewN (below_alloc HB'.out _) _⟩⟩
            · have hst' : (s != t) = true := bne_iff_ne.2 hst
              have NST := Aside0.mk hst
              clear hst
              have hst2 : (s == t) = false := by simpa using hst'
              have hne : ¬ a.toNat = b.toNat := fun h => NST.out (by rw [NS.out, NT.out, h])
              have hne' : ¬ b.toNat = a.toNat := fun h => hne h.symm
              have hfa : (wr.alloc (.cells #[.int .i64 a, .int .i64 b, .int .i64 (rd_T65 l0 y).f2, .int .i64 (rd_T65 l0 y).f3, .int .i64 (rd_T65 l0 y).f4] 65 (0, 0))).frozen? ⟨w.heap.size + 1, a.toNat, none⟩ = false := blk_frozen (blk_alloc HK1'.out _) _
              have hfb : (wr.alloc (.cells #[.int .i64 a, .int .i64 b, .int .i64 (rd_T65 l0 y).f2, .int .i64 (rd_T65 l0 y).f3, .int .i64 (rd_T65 l0 y).f4] 65 (0, 0))).frozen? ⟨w.heap.size + 1, b.toNat, none⟩ = false := blk_frozen (blk_alloc HK1'.out _) _
              go_wp2
              go_quiet (fail)
              go_wp2
              
              go_region
              all_goals go_wp2
              all_goals go_roundg k2
              all_goals first | (show _ < _; omega) | exact ⟨wrap64 (y + 1), (B'.set a.toNat true).set b.toNat true, rfl, ⟨by have := HA2.out; have := HLT2.out; have := HM.out; unfold wrap64; omega, by have := HA2.out; have := HLT2.out; have := HM.out; unfold wrap64; omega, by simpa using HA2.out.2.2.1, by rw [← HA2.out.2.2.2, reach_yes HA2.out.1 HLT2.out HM.out (by have := HW.out; omega) (fun h => NST.out (by rw [NS.out, NT.out, NA.out, NB.out, h])), NA.out, NB.out]⟩, ⟨by rw [← arrOf_set, ← arrOf_set]; exact blk_set (blk_set (blk_drewN (blk_alloc HK1'.out _) _) _ _) _ _⟩, ⟨blk_far (p := ⟨w.heap.size + 1, b.toNat, none⟩) (blk_far (p := ⟨w.heap.size + 1, a.toNat, none⟩) (blk_drewN (blk_alloc HK0'.out _) _) (Nat.ne_of_lt (Nat.lt_succ_self _)) _) (Nat.ne_of_lt (Nat.lt_succ_self _)) _⟩, ⟨((pw_below_drewN (below_alloc HB'.out _) _).setCell (p := ⟨w.heap.size + 1, a.toNat, none⟩) (Nat.le_succ _) _).setCell (p := ⟨w.heap.size + 1, b.toNat, none⟩) (Nat.le_succ _) _⟩⟩
          · have w0 : decide (rd l1 y ≥ a3) = false := decide_eq_false hw
            have w1 : decide (a3 ≤ rd l1 y) = false := decide_eq_false hw
            have HW := Aside0.mk hw
            clear hw
            have AL : ∀ (o : Obj) (p : Addr) (v : Value), wr.cell? p = some v → (wr.alloc o).cell? p = some v := fun o p v h => ((below_alloc (Below.refl wr.heap.size wr) o).cell (World.block_lt_of_cell? wr _ h)).trans h
            have hy' := AL (.cells #[.int .i64 a, .int .i64 b, .int .i64 (rd_T65 l0 y).f2, .int .i64 (rd_T65 l0 y).f3, .int .i64 (rd_T65 l0 y).f4] 65 (0, 0)) _ _ hy
            clear AL
            go_wp2
            go_quiet (fail)
            go_wp2
            go_roundg k2
            case measure => omega
            case rel => exact ⟨wrap64 (y + 1), B', rfl, ⟨by have := HA2.out; have := HLT2.out; have := HM.out; unfold wrap64; omega, by have := HA2.out; have := HLT2.out; have := HM.out; unfold wrap64; omega, HA2.out.2.2.1, by rw [← HA2.out.2.2.2, reach_no HA2.out.1 HLT2.out HM.out (fun h => absurd h.1 (by have := HW.out; omega))]⟩, ⟨blk_drewN (blk_alloc HK1'.out _) _⟩, ⟨blk_drewN (blk_alloc HK0'.out _) _⟩, ⟨pw_below_drewN (below_alloc HB'.out _) _⟩⟩
        · have d0 : decide (y < (l0.length : Int)) = false := decide_eq_false hlt2
          have HLT2 := Aside0.mk hlt2
          clear hlt2
          go_wp2
          
          go_roundg k1
          case measure => omega
          case rel =>
            obtain rfl : gk = 0 := by have := HA2.out; have := HLT2.out; omega
            refine ⟨wrap64 (x + 1), B', rfl, ⟨by have := HA.out; have := HLT.out; have := HM.out; unfold wrap64; omega, by have := HA.out; have := HLT.out; have := HM.out; unfold wrap64; omega, HA2.out.2.2.1, ?_⟩, HK1', HK0', HB'⟩
            rw [← HA.out.2.2.2]
            show _ = reachAll l0 l1 a3 k1 (reachPass l0 l1 a3 l0.length 0 B)
            rw [← HA2.out.2.2.2]
            rfl
    · have d0 : decide (x < (l0.length : Int)) = false := decide_eq_false hlt
      have HLT := Aside0.mk hlt
      clear hlt
      obtain rfl : gk = 0 := by have := HA.out; have := HLT.out; omega
      obtain rfl : B = r := HA.out.2.2.2
      obtain ⟨b0, b1, b2, b3, b4, b5, b6, b7, hb8⟩ : ∃ b0 b1 b2 b3 b4 b5 b6 b7, B = [b0, b1, b2, b3, b4, b5, b6, b7] := by
        have h8 := HA.out.2.2.1
        match B, h8 with
        | [b0, b1, b2, b3, b4, b5, b6, b7], _ => exact ⟨_, _, _, _, _, _, _, _, rfl⟩
      have HK1c : Aside0 (wr.heap[w.heap.size + 1]? = some (.cells #[.bool b0, .bool b1, .bool b2, .bool b3, .bool b4, .bool b5, .bool b6, .bool b7] 86 (0, 0))) := ⟨HK1.out.trans (by rw [hb8]; rfl)⟩
      have HEND : Aside0 (arrOf B = #[.bool b0, .bool b1, .bool b2, .bool b3, .bool b4, .bool b5, .bool b6, .bool b7]) := ⟨by rw [hb8]; rfl⟩
      clear hb8
      have e0 : wr.cell? ⟨w.heap.size + 1, 0, none⟩ = some (.bool b0) := (blk_cell HK1c.out 0).trans rfl
      have e1 : wr.cell? ⟨w.heap.size + 1, 1, none⟩ = some (.bool b1) := (blk_cell HK1c.out 1).trans rfl
      have e2 : wr.cell? ⟨w.heap.size + 1, 2, none⟩ = some (.bool b2) := (blk_cell HK1c.out 2).trans rfl
      have e3 : wr.cell? ⟨w.heap.size + 1, 3, none⟩ = some (.bool b3) := (blk_cell HK1c.out 3).trans rfl
      have e4 : wr.cell? ⟨w.heap.size + 1, 4, none⟩ = some (.bool b4) := (blk_cell HK1c.out 4).trans rfl
      have e5 : wr.cell? ⟨w.heap.size + 1, 5, none⟩ = some (.bool b5) := (blk_cell HK1c.out 5).trans rfl
      have e6 : wr.cell? ⟨w.heap.size + 1, 6, none⟩ = some (.bool b6) := (blk_cell HK1c.out 6).trans rfl
      have e7 : wr.cell? ⟨w.heap.size + 1, 7, none⟩ = some (.bool b7) := (blk_cell HK1c.out 7).trans rfl
      have f0 : wr.cell? ⟨w.heap.size, 0, none⟩ = some (.bool false) := (blk_cell HK0.out 0).trans rfl
      have f1 : wr.cell? ⟨w.heap.size, 1, none⟩ = some (.bool false) := (blk_cell HK0.out 1).trans rfl
      have f2 : wr.cell? ⟨w.heap.size, 2, none⟩ = some (.bool false) := (blk_cell HK0.out 2).trans rfl
      have f3 : wr.cell? ⟨w.heap.size, 3, none⟩ = some (.bool false) := (blk_cell HK0.out 3).trans rfl
      have f4 : wr.cell? ⟨w.heap.size, 4, none⟩ = some (.bool false) := (blk_cell HK0.out 4).trans rfl
      have f5 : wr.cell? ⟨w.heap.size, 5, none⟩ = some (.bool false) := (blk_cell HK0.out 5).trans rfl
      have f6 : wr.cell? ⟨w.heap.size, 6, none⟩ = some (.bool false) := (blk_cell HK0.out 6).trans rfl
      have f7 : wr.cell? ⟨w.heap.size, 7, none⟩ = some (.bool false) := (blk_cell HK0.out 7).trans rfl
      have g0 : wr.frozen? ⟨w.heap.size, 0, none⟩ = false := blk_frozen HK0.out 0
      have g1 : wr.frozen? ⟨w.heap.size, 1, none⟩ = false := blk_frozen HK0.out 1
      have g2 : wr.frozen? ⟨w.heap.size, 2, none⟩ = false := blk_frozen HK0.out 2
      have g3 : wr.frozen? ⟨w.heap.size, 3, none⟩ = false := blk_frozen HK0.out 3
      have g4 : wr.frozen? ⟨w.heap.size, 4, none⟩ = false := blk_frozen HK0.out 4
      have g5 : wr.frozen? ⟨w.heap.size, 5, none⟩ = false := blk_frozen HK0.out 5
      have g6 : wr.frozen? ⟨w.heap.size, 6, none⟩ = false := blk_frozen HK0.out 6
      have g7 : wr.frozen? ⟨w.heap.size, 7, none⟩ = false := blk_frozen HK0.out 7
      go_wp2
      refine bodyPost_ret (results_cell_row rfl _ _ w.heap.size 86 #[.bool b0, .bool b1, .bool b2, .bool b3, .bool b4, .bool b5, .bool b6, .bool b7] (0, 0) _ rfl ((blk_set (blk_set (blk_set (blk_set (blk_set (blk_set (blk_set (blk_set HK0.out 0 (.bool b0)) 1 (.bool b1)) 2 (.bool b2)) 3 (.bool b3)) 4 (.bool b4)) 5 (.bool b5)) 6 (.bool b6)) 7 (.bool b7)).trans rfl) hu84 rfl (by kernel_rfl)) rfl ?_
      exact ⟨by rw [HEND.out], ((((((((HB.out).setCell (p := ⟨w.heap.size, 0, none⟩) (Nat.le_refl _) _).setCell (p := ⟨w.heap.size, 1, none⟩) (Nat.le_refl _) _).setCell (p := ⟨w.heap.size, 2, none⟩) (Nat.le_refl _) _).setCell (p := ⟨w.heap.size, 3, none⟩) (Nat.le_refl _) _).setCell (p := ⟨w.heap.size, 4, none⟩) (Nat.le_refl _) _).setCell (p := ⟨w.heap.size, 5, none⟩) (Nat.le_refl _) _).setCell (p := ⟨w.heap.size, 6, none⟩) (Nat.le_refl _) _).setCell (p := ⟨w.heap.size, 7, none⟩) (Nat.le_refl _) _⟩
theorem reachAll_length (l0 : List S65) (l1 : List Int) (width : Int) : ∀ m B, (reachAll l0 l1 width m B).length = B.length
  | 0, _ => rfl
  | m + 1, B => by
    simp only [reachAll]
    rw [reachAll_length l0 l1 width m, reachPass_length]
theorem run_indexA_0 (b0 b1 b2 b3 b4 b5 b6 b7 : Bool) (w : World) : (Instr.index 86 (.agg #[.bool b0, .bool b1, .bool b2, .bool b3, .bool b4, .bool b5, .bool b6, .bool b7]) (.int .i64 0)).run Try.prog w = .ok (.bool b0) w := by kernel_rfl
theorem run_indexA_1 (b0 b1 b2 b3 b4 b5 b6 b7 : Bool) (w : World) : (Instr.index 86 (.agg #[.bool b0, .bool b1, .bool b2, .bool b3, .bool b4, .bool b5, .bool b6, .bool b7]) (.int .i64 1)).run Try.prog w = .ok (.bool b1) w := by kernel_rfl
theorem run_indexA_2 (b0 b1 b2 b3 b4 b5 b6 b7 : Bool) (w : World) : (Instr.index 86 (.agg #[.bool b0, .bool b1, .bool b2, .bool b3, .bool b4, .bool b5, .bool b6, .bool b7]) (.int .i64 2)).run Try.prog w = .ok (.bool b2) w := by kernel_rfl
theorem run_indexA_3 (b0 b1 b2 b3 b4 b5 b6 b7 : Bool) (w : World) : (Instr.index 86 (.agg #[.bool b0, .bool b1, .bool b2, .bool b3, .bool b4, .bool b5, .bool b6, .bool b7]) (.int .i64 3)).run Try.prog w = .ok (.bool b3) w := by kernel_rfl
theorem run_indexA_4 (b0 b1 b2 b3 b4 b5 b6 b7 : Bool) (w : World) : (Instr.index 86 (.agg #[.bool b0, .bool b1, .bool b2, .bool b3, .bool b4, .bool b5, .bool b6, .bool b7]) (.int .i64 4)).run Try.prog w = .ok (.bool b4) w := by kernel_rfl
theorem run_indexA_5 (b0 b1 b2 b3 b4 b5 b6 b7 : Bool) (w : World) : (Instr.index 86 (.agg #[.bool b0, .bool b1, .bool b2, .bool b3, .bool b4, .bool b5, .bool b6, .bool b7]) (.int .i64 5)).run Try.prog w = .ok (.bool b5) w := by kernel_rfl
theorem run_indexA_6 (b0 b1 b2 b3 b4 b5 b6 b7 : Bool) (w : World) : (Instr.index 86 (.agg #[.bool b0, .bool b1, .bool b2, .bool b3, .bool b4, .bool b5, .bool b6, .bool b7]) (.int .i64 6)).run Try.prog w = .ok (.bool b6) w := by kernel_rfl
theorem run_indexA_7 (b0 b1 b2 b3 b4 b5 b6 b7 : Bool) (w : World) : (Instr.index 86 (.agg #[.bool b0, .bool b1, .bool b2, .bool b3, .bool b4, .bool b5, .bool b6, .bool b7]) (.int .i64 7)).run Try.prog w = .ok (.bool b7) w := by kernel_rfl
theorem run_indexA (B : List Bool) (h8 : B.length = 8) (i : Int) (h0 : 0 ≤ i) (h7 : i ≤ 7) (w : World) : (Instr.index 86 (.agg (arrOf B)) (.int .i64 i)).run Try.prog w = .ok (.bool (B.getD i.toNat false)) w := by
  match B, h8 with
  | [b0, b1, b2, b3, b4, b5, b6, b7], _ =>
    have h : i = 0 ∨ i = 1 ∨ i = 2 ∨ i = 3 ∨ i = 4 ∨ i = 5 ∨ i = 6 ∨ i = 7 := by omega
    rcases h with rfl | rfl | rfl | rfl | rfl | rfl | rfl | rfl
    · exact run_indexA_0 b0 b1 b2 b3 b4 b5 b6 b7 w
    · exact run_indexA_1 b0 b1 b2 b3 b4 b5 b6 b7 w
    · exact run_indexA_2 b0 b1 b2 b3 b4 b5 b6 b7 w
    · exact run_indexA_3 b0 b1 b2 b3 b4 b5 b6 b7 w
    · exact run_indexA_4 b0 b1 b2 b3 b4 b5 b6 b7 w
    · exact run_indexA_5 b0 b1 b2 b3 b4 b5 b6 b7 w
    · exact run_indexA_6 b0 b1 b2 b3 b4 b5 b6 b7 w
    · exact run_indexA_7 b0 b1 b2 b3 b4 b5 b6 b7 w
def reachOf (l0 : List S65) (l1 : List Int) (from_ width : Int) : List Bool := reachAll l0 l1 width l0.length ((List.replicate 8 false).set from_.toNat true)
theorem reachOf_length (l0 : List S65) (l1 : List Int) (from_ width : Int) : (reachOf l0 l1 from_ width).length = 8 := by
  unfold reachOf
  rw [reachAll_length]
  simp
def memFrom (B : List Bool) : Nat → Nat → List Int → List Int
  | 0, _, acc => acc
  | d + 1, i, acc => memFrom B d (i + 1) (if B.getD i false = true then acc ++ [(i : Int)] else acc)
/-- The stations that hang together with one. -/
def hangOf (l0 : List S65) (a : Int) : List Bool := reachOf l0 (List.replicate l0.length 0) a 0
def hangOk (l0 : List S65) (a : Int) : Bool := reachOk l0 (List.replicate l0.length 0) a && decide (l0.length ≤ 12)


/-! ### impl_together: function 40 (by hand: wip/inj) -/
def impl_together.f (l0 : List S65) (a1 a2 : Int) : Option Bool := if hangOk l0 a1 = true ∧ 0 ≤ a2 ∧ a2 ≤ 7 then some ((hangOf l0 a1).getD a2.toNat false) else none
set_option maxHeartbeats 8000000 in
set_option maxRecDepth 100000 in
theorem impl_together.calls (A0 : Option Addr) (c0 : Nat) (l0 : List S65) (a1 a2 : Int) (r : Bool) (w : World) (hr0 : Kd.C k65 w A0 l0.length l0) (hc0 : l0.length ≤ c0) (h : impl_together.f l0 a1 a2 = some r) :
    Calls Try.prog 40 #[.slice A0 l0.length c0, .int .i64 a1, .int .i64 a2] w fun e w' => e = .returned (.bool r) ∧ Below w.heap.size w w' := by
  unfold impl_together.f at h
  by_cases hok : hangOk l0 a1 = true ∧ 0 ≤ a2 ∧ a2 ≤ 7
  case neg => rw [if_neg hok] at h; cases h
  rw [if_pos hok] at h
  have hr := Option.some.inj h
  clear h
  obtain ⟨hok, h0, h7⟩ := hok
  simp only [hangOk, Bool.and_eq_true, decide_eq_true_eq] at hok
  have HOK := Aside0.mk hok
  have HR0 := Aside0.mk hr0
  have HC0 := Aside0.mk hc0
  have HM0 := Aside0.mk hr0.2.1
  have H12 : Aside0 (0 ≤ (l0.length : Int) ∧ (l0.length : Int).toNat * 8 ≤ 281474976710656) := ⟨by have := hok.2; omega⟩
  have hidx := fun w => run_indexA (hangOf l0 a1) (reachOf_length _ _ _ _) a2 h0 h7 w
  rw [hr] at hidx
  clear hr hr0 hc0 hok h0 h7
  have HCALL : Aside0 (∀ (A1 : Option Addr) (c1 : Nat) (W : World), Below w.heap.size w W → Kd.C (Kd.int .i64) W A1 l0.length (List.replicate l0.length 0) → l0.length ≤ c1 → Calls Try.prog 63 #[.slice A0 l0.length c0, .slice A1 l0.length c1, .int .i64 a1, .int .i64 0] W fun e w' => e = .returned (.agg (arrOf (hangOf l0 a1))) ∧ Below W.heap.size W w') := ⟨fun A1 c1 W hb hC hc => by
    have := impl_reach.calls A0 c0 l0 A1 c1 (List.replicate l0.length 0) a1 0 (hangOf l0 a1) W (Kd.C_below HR0.out hb) HC0.out (by rw [List.length_replicate]; exact hC) (by rw [List.length_replicate]; exact hc) (by unfold impl_reach.f; rw [if_pos HOK.out.1]; rfl)
    rwa [List.length_replicate] at this⟩
  go_enter Try.func40, Try.ntmps40
  go_wp2_with (first | ((with_reducible refine gate_dst (N := 10) rfl ?_); refine Kd.R_make (Kd.int .i64) _ 3 rfl (N := 10) rfl 23 _ _ rfl (l0.length : Int) rfl rfl Try.underlying23 (.int .i64 0) 8 info3 rfl (by decide) (by omega) 0 (ok := fun _ => True) (okp := fun _ => True) rfl (fun _ hk => hk) trivial H12.out.1 H12.out.2 (Below.refl _ _) (Nat.le_refl _) ?_; intro v430 w12 ho13 hb hg_ hnew_; clear hg_ hnew_; obtain ⟨A1, c1, hv, hc1, hC⟩ := Kd.R_reads ho13; rw [hv]; clear hv ho13; rw [Int.toNat_natCast, List.length_replicate] at hC hc1; rw [Int.toNat_natCast, List.length_replicate]; have HB := Aside0.mk hb; have HC1 := Aside0.mk hC; have HCC1 := Aside0.mk hc1; clear hb hC hc1) | (go_at_call 63; refine (HCALL.out _ _ _ HB.out HC1.out HCC1.out).mono ?_; rintro e w1 ⟨rfl, hb⟩))
  go_ret
  exact ⟨rfl, HB.out.trans (hb.mono HB.out.size)⟩


/-! ### impl_ThroughTrips: function 9 -/
mutual
def impl_ThroughTrips.l0 : Nat → List (S65) → List Int → List (S55) → List Int → Int → Int → Option ((List (S55)) × Bool)
  | 0, _, _, _, _, _, _ => none
  | k + 1, x0, x1, x6, x15, x16, x17 => if x17 < x16 then (if 0 ≤ x17 then (if x17 < (x15.length : Int) then (if 0 ≤ (wrap64 (x17 + 1)) then (if (wrap64 (x17 + 1)) ≤ (x1.length : Int) then (impl_ThroughTrips.l1 k x0 x1 x6 (rd x15 x17) x15 x16 x17 (x1.drop ((wrap64 (x17 + 1)) : Int).toNat) ((x1.drop ((wrap64 (x17 + 1)) : Int).toNat).length : Int) 0) else (none)) else (none)) else (none)) else (none)) else (some (x6, true))
def impl_ThroughTrips.l1 : Nat → List (S65) → List Int → List (S55) → Int → List Int → Int → Int → List Int → Int → Int → Option ((List (S55)) × Bool)
  | 0, _, _, _, _, _, _, _, _, _, _ => none
  | k + 1, x0, x1, x6, x8, x15, x16, x17, x25, x26, x27 => if x27 < x26 then (if 0 ≤ x27 then (if x27 < (x25.length : Int) then ((impl_together.f x0 x8 (rd x25 x27)).bind fun t220 => (if t220 = true then (if x6.length < 8796093022208 then (impl_ThroughTrips.l1 k x0 x1 (x6 ++ [(⟨x8, rd x25 x27⟩ : S55)]) x8 x15 x16 x17 x25 x26 (wrap64 (x27 + 1))) else (none)) else (impl_ThroughTrips.l1 k x0 x1 x6 x8 x15 x16 x17 x25 x26 (wrap64 (x27 + 1))))) else (none)) else (none)) else (impl_ThroughTrips.l0 k x0 x1 x6 x15 x16 (wrap64 (x17 + 1)))
end
def impl_ThroughTrips.f (k : Nat) (l0 : List (S65)) (l1 : List Int) : Option ((List (S55)) × Bool) := (impl_areEntrances.f k l0 l1).bind fun t216 => (if t216 = true then (impl_ThroughTrips.l0 k l0 l1 ([] : List (S55)) l1 (l1.length : Int) 0) else (some (([] : List (S55)), false)))
theorem impl_ThroughTrips.mono_l : ∀ k, (∀ y0 y1 y2 y3 y4 y5, LeO (impl_ThroughTrips.l0 k y0 y1 y2 y3 y4 y5) (impl_ThroughTrips.l0 (k + 1) y0 y1 y2 y3 y4 y5)) ∧ (∀ y0 y1 y2 y3 y4 y5 y6 y7 y8 y9, LeO (impl_ThroughTrips.l1 k y0 y1 y2 y3 y4 y5 y6 y7 y8 y9) (impl_ThroughTrips.l1 (k + 1) y0 y1 y2 y3 y4 y5 y6 y7 y8 y9))
  | 0 => ⟨fun _ _ _ _ _ _ r h => by simp [impl_ThroughTrips.l0] at h, fun _ _ _ _ _ _ _ _ _ _ r h => by simp [impl_ThroughTrips.l1] at h⟩
  | k + 1 => by
    obtain ⟨ih0, ih1⟩ := impl_ThroughTrips.mono_l k
    refine ⟨?_, ?_⟩
    · intro y0 y1 y2 y3 y4 y5
      unfold impl_ThroughTrips.l0
      repeat' first
      | (with_reducible exact ih0 _ _ _ _ _ _)
      | (with_reducible exact ih1 _ _ _ _ _ _ _ _ _ _)
      | (with_reducible exact impl_areEntrances.mono _ _ _)
      | (with_reducible exact LeO.refl _)
      | (with_reducible exact LeO.none _)
      | (with_reducible refine LeO.ite ?_ ?_)
      | (with_reducible refine LeO.bind ?_ (fun _ => ?_))
      | exact ih0 _ _ _ _ _ _
      | exact ih1 _ _ _ _ _ _ _ _ _ _
      | exact impl_areEntrances.mono _ _ _
      | exact LeO.none _
      | refine LeO.ite ?_ ?_
      | refine LeO.bind ?_ (fun _ => ?_)
    · intro y0 y1 y2 y3 y4 y5 y6 y7 y8 y9
      unfold impl_ThroughTrips.l1
      repeat' first
      | (with_reducible exact ih0 _ _ _ _ _ _)
      | (with_reducible exact ih1 _ _ _ _ _ _ _ _ _ _)
      | (with_reducible exact impl_areEntrances.mono _ _ _)
      | (with_reducible exact LeO.refl _)
      | (with_reducible exact LeO.none _)
      | (with_reducible refine LeO.ite ?_ ?_)
      | (with_reducible refine LeO.bind ?_ (fun _ => ?_))
      | exact ih0 _ _ _ _ _ _
      | exact ih1 _ _ _ _ _ _ _ _ _ _
      | exact impl_areEntrances.mono _ _ _
      | exact LeO.none _
      | refine LeO.ite ?_ ?_
      | refine LeO.bind ?_ (fun _ => ?_)
theorem impl_ThroughTrips.mono : ∀ a0 a1 k, LeO (impl_ThroughTrips.f k a0 a1) (impl_ThroughTrips.f (k + 1) a0 a1) := by
  intro a0 a1 k
  obtain ⟨ih0, ih1⟩ := impl_ThroughTrips.mono_l k
  unfold impl_ThroughTrips.f
  repeat' first
      | (with_reducible exact ih0 _ _ _ _ _ _)
      | (with_reducible exact ih1 _ _ _ _ _ _ _ _ _ _)
      | (with_reducible exact impl_areEntrances.mono _ _ _)
      | (with_reducible exact LeO.refl _)
      | (with_reducible exact LeO.none _)
      | (with_reducible refine LeO.ite ?_ ?_)
      | (with_reducible refine LeO.bind ?_ (fun _ => ?_))
      | exact ih0 _ _ _ _ _ _
      | exact ih1 _ _ _ _ _ _ _ _ _ _
      | exact impl_areEntrances.mono _ _ _
      | exact LeO.none _
      | refine LeO.ite ?_ ?_
      | refine LeO.bind ?_ (fun _ => ?_)
set_option maxHeartbeats 8000000 in
set_option maxRecDepth 100000 in
theorem impl_ThroughTrips.calls (k : Nat) (A0 : Option Addr) (c0 : Nat) (l0 : List (S65)) (A1 : Option Addr) (c1 : Nat) (l1 : List Int) (r1 : List (S55)) (r2 : Bool) (w : World) (hr0 : Kd.C k65 w A0 l0.length l0) (hc0 : l0.length ≤ c0) (hr1 : Kd.C (Kd.int .i64) w A1 l1.length l1) (hc1 : l1.length ≤ c1) (h : impl_ThroughTrips.f k l0 l1 = some (r1, r2)) :
    Calls Try.prog 9 #[.slice A0 l0.length c0, .slice A1 l1.length c1] w fun e w' => ∃ v0_ : Value, e = .returned (.tuple #[v0_, .bool r2]) ∧ Kd.R k55 55 w' w.heap.size (fun _ => True) v0_ r1 ∧ Below w.heap.size w w' := by
  have hu55 := Try.underlying55
  have HR0 := Aside0.mk hr0
  have HC0 := Aside0.mk hc0
  clear hr0 hc0
  have HR1 := Aside0.mk hr1
  have HC1 := Aside0.mk hc1
  clear hr1 hc1
  have HB := Aside0.mk (Below.refl w.heap.size w)
  have H : ((impl_areEntrances.f k l0 l1).bind fun t216 => (if t216 = true then (impl_ThroughTrips.l0 k l0 l1 ([] : List (S55)) l1 (l1.length : Int) 0) else (some (([] : List (S55)), false)))) = some (r1, r2) := h
  clear h
  replace H := Option.bind_eq_some_iff.mp H
  obtain ⟨t216, A30, H⟩ := H
  replace H : (if t216 = true then (impl_ThroughTrips.l0 k l0 l1 ([] : List (S55)) l1 (l1.length : Int) 0) else (some (([] : List (S55)), false))) = some (r1, r2) := H
  have A3 := Aside0.mk A30
  clear A30
  by_cases c4 : t216 = true
  · subst c4
    have H1 : (impl_ThroughTrips.l0 k l0 l1 ([] : List (S55)) l1 (l1.length : Int) 0) = some (r1, r2) := by rw [if_pos rfl] at H; exact H
    clear H
    have H := H1
    clear H1
    have H' := Aside0.mk H
    clear H
    go_enter Try.func9, Try.ntmps9
    go_wp2_with (first | ((with_reducible refine gate_callee (f := 39) rfl ?_); refine goesL_ (some 13) rfl rfl Try.func39 (by kernel_rfl) rfl #[.slice A0 l0.length c0, .slice A1 l1.length c1] rfl (by (try simp only [List.map_toArray, List.map_cons, List.map_nil]); first | done | rfl | (simp only [List.length_drop, List.length_take]; rfl)) ?_; (with_reducible refine (impl_areEntrances.calls k _ _ l0 _ _ l1 true _ ?side1 ?side2 ?side3 ?side4 A3.out).mono ?_); (case side1 => repeat (first | exact HR0.out | (with_reducible refine Kd.C_alloc ?_ _) | (with_reducible refine Kd.C_drewN ?_ _) | (with_reducible refine Kd.C_drew ?_))); (case side2 => exact HC0.out); (case side3 => repeat (first | exact HR1.out | (with_reducible refine Kd.C_alloc ?_ _) | (with_reducible refine Kd.C_drewN ?_ _) | (with_reducible refine Kd.C_drew ?_))); (case side4 => exact HC1.out); rintro e w5 ⟨rfl, hb⟩; refine ⟨_, rfl, ?_⟩; have n0_ := Aside0.mk (below_step (by repeat (first | (with_reducible first | exact HB.out | apply below_alloc | apply pw_below_drewN | apply below_drew1) | exact HB.out)) hb); clear HB; have HB := n0_; clear n0_; (try clear hb); (try clear hb2); (try clear hk); (try clear hi)))
    go_loopg [6, 17] k (fun kq v6 v17 w' => ∃ (x6_1 : List (S55)) (x17_1 : Int), v17 = .int .i64 x17_1 ∧ Aside0 (impl_ThroughTrips.l0 kq l0 l1 x6_1 l1 (l1.length : Int) x17_1 = some (r1, r2)) ∧ Aside0 (kq ≤ k) ∧ Aside0 (Kd.R k55 55 w' w.heap.size (fun _ => True) v6 x6_1) ∧ Aside0 (Below w.heap.size w w'))
    case atStart => exact ⟨(([] : List (S55))), (0), (by first | rfl | (simp; done) | (simp [*]; done)), H', ⟨Nat.le_refl _⟩, ⟨by first | exact Kd.R_nil _ _ _ _ _ | exact Kd.N_nil _ _ _ _ _ | exact Kd.V_nil _ _ _ _ _ | exact Kd.Q_nil _ _ _ _ _ | exact Kd.S_nil _ _ _ _ _⟩, ⟨by repeat (first | (with_reducible first | exact HB.out | apply below_alloc | apply pw_below_drewN | apply below_drew1) | exact HB.out)⟩⟩
    case round =>
      clear H'
      try clear c1
      try clear p2
      try clear c3
      try clear c4
      obtain ⟨x6_1, x17_1, rfl, HA, HK1, HO_6, HB⟩ := hrel
      cases gk with
      | zero => exact absurd HA.out (by simp [impl_ThroughTrips.l0])
      | succ k1 =>
        have H := HA.out
        clear HA
        simp only [impl_ThroughTrips.l0] at H
        by_cases c6 : x17_1 < (l1.length : Int)
        · rw [if_pos c6] at H
          have c6b0 : decide (x17_1 < (l1.length : Int)) = true := decide_eq_true c6
          clear c6
          by_cases c7 : 0 ≤ x17_1
          · rw [if_pos c7] at H
            have c7b0 : decide (0 ≤ x17_1) = true := decide_eq_true c7
            clear c7
            by_cases c8 : x17_1 < (l1.length : Int)
            · rw [if_pos c8] at H
              have c8b0 : decide (x17_1 < (l1.length : Int)) = true := decide_eq_true c8
              clear c8
              obtain ⟨ji9, hji9⟩ : ∃ j_ : Int, (wrap64 (x17_1 + 1)) = j_ := ⟨_, rfl⟩
              replace H : (if 0 ≤ (ji9) then (if (ji9) ≤ (l1.length : Int) then (impl_ThroughTrips.l1 k1 l0 l1 x6_1 (rd l1 x17_1) l1 (l1.length : Int) x17_1 (l1.drop ((ji9) : Int).toNat) ((l1.drop ((ji9) : Int).toNat).length : Int) 0) else (none)) else (none)) = some (r1, r2) := by first | (rw [hji9] at H; exact H) | (simp only [hji9] at H ⊢; exact H)
              have hji9w : (IntKind.i64.wrap (x17_1 + 1)) = ji9 := (i64_w _).trans hji9
              by_cases c10 : 0 ≤ (ji9)
              · rw [if_pos c10] at H
                have c10b0 := eq_true c10
                have c10b1 : decide (0 ≤ (ji9)) = true := decide_eq_true c10
                clear c10
                by_cases c11 : (ji9) ≤ (l1.length : Int)
                · rw [if_pos c11] at H
                  have c11b0 := eq_true c11
                  have c11b1 : decide ((ji9) ≤ (l1.length : Int)) = true := decide_eq_true c11
                  clear c11
                  have H' := Aside0.mk H
                  clear H
                  have p217 : 0 ≤ (x17_1 : Int) := of_decide_eq_true (by first | (with_reducible assumption) | assumption)
                  have q217 : x17_1 < (l1.length : Int) := of_decide_eq_true (by first | (with_reducible assumption) | assumption)
                  obtain ⟨ad217, e217, hx217_0⟩ := Kd.at_int HR1.out x17_1 p217 q217
                  cases e217
                  replace hx217_0 := (HB.out.cell (World.block_lt_of_cell? w _ hx217_0)).trans hx217_0
                  replace p217 := eq_true p217
                  replace q217 := eq_true q217
                  obtain ⟨i012, hi012, _, hsz12, _⟩ := info_parts info3
                  obtain ⟨A12, hcut12, hA12, hC12⟩ := print_drop_of (P := Try.prog) (Value.int .i64) 0 23 3 .i64 Try.underlying23 hi012 hsz12 (some ad217) c1 l1 (ji9) (of_decide_eq_true (by first | (with_reducible assumption) | assumption)) (of_decide_eq_true (by first | (with_reducible assumption) | assumption)) HC1.out
                  have HR218 := Aside0.mk (Kd.C_of_reads (h1 := fun _ => rfl) (hA12 _ (Kd.reads_of_C HR1.out)))
                  have HC218 := Aside0.mk hC12
                  clear hA12 hC12 hi012 hsz12
                  go_wp2
                  go_loopg [6, 27] k1 (fun kq v6 v27 w' => ∃ (x6_2 : List (S55)) (x27_2 : Int), v27 = .int .i64 x27_2 ∧ Aside0 (impl_ThroughTrips.l1 kq l0 l1 x6_2 (rd l1 x17_1) l1 (l1.length : Int) x17_1 (l1.drop ((ji9) : Int).toNat) ((l1.drop ((ji9) : Int).toNat).length : Int) x27_2 = some (r1, r2)) ∧ Aside0 (kq ≤ k1) ∧ Aside0 (Kd.R k55 55 w' w.heap.size (fun _ => True) v6 x6_2) ∧ Aside0 (Below w.heap.size w w'))
                  case atStart => exact ⟨(x6_1), (0), (by first | rfl | (simp; done) | (simp [*]; done)), H', ⟨Nat.le_refl _⟩, ⟨by (with_reducible repeat (first | apply Kd.R_alloc | apply Kd.R_drewN | apply Kd.R_drew)); exact HO_6.out⟩, ⟨by repeat (first | (with_reducible first | exact HB.out | apply below_alloc | apply pw_below_drewN | apply below_drew1) | exact HB.out)⟩⟩
                  case round =>
                    clear H'
                    try clear c1
                    try clear p2
                    try clear q2
                    try clear hx2
                    try clear c3
                    try clear c4
                    try clear c6
                    try clear c6b0
                    try clear p6
                    try clear c7
                    try clear c7b0
                    try clear c8
                    try clear c8b0
                    try clear c9
                    try clear c10
                    try clear c10b0
                    try clear c10b1
                    try clear c11
                    try clear c11b0
                    try clear c11b1
                    try clear hx217_0
                    try clear p2
                    try clear p217
                    try clear q217
                    obtain ⟨x6_2, x27_2, rfl, HA, HK2, HO_6, HB⟩ := hrel
                    cases gk with
                    | zero => exact absurd HA.out (by simp [impl_ThroughTrips.l1])
                    | succ k2 =>
                      have H := HA.out
                      clear HA
                      simp only [impl_ThroughTrips.l1] at H
                      by_cases c13 : x27_2 < ((l1.drop ((ji9) : Int).toNat).length : Int)
                      · rw [if_pos c13] at H
                        have c13b0 : decide (x27_2 < ((l1.drop ((ji9) : Int).toNat).length : Int)) = true := decide_eq_true c13
                        have c13b0d : decide (x27_2 < ((l1.length - (ji9 : Int).toNat : Nat) : Int)) = true := by have h_ := c13b0; rw [List.length_drop] at h_; exact h_
                        have c13b0q : ((x27_2 : Int) < ((l1.length - (ji9 : Int).toNat : Nat) : Int)) = True := eq_true (of_decide_eq_true c13b0d)
                        clear c13
                        by_cases c14 : 0 ≤ x27_2
                        · rw [if_pos c14] at H
                          have c14b0 : decide (0 ≤ x27_2) = true := decide_eq_true c14
                          clear c14
                          by_cases c15 : x27_2 < ((l1.drop ((ji9) : Int).toNat).length : Int)
                          · rw [if_pos c15] at H
                            have c15b0 : decide (x27_2 < ((l1.drop ((ji9) : Int).toNat).length : Int)) = true := decide_eq_true c15
                            have c15b0d : decide (x27_2 < ((l1.length - (ji9 : Int).toNat : Nat) : Int)) = true := by have h_ := c15b0; rw [List.length_drop] at h_; exact h_
                            have c15b0q : ((x27_2 : Int) < ((l1.length - (ji9 : Int).toNat : Nat) : Int)) = True := eq_true (of_decide_eq_true c15b0d)
                            clear c15
                            replace H := Option.bind_eq_some_iff.mp H
                            obtain ⟨t220, A160, H⟩ := H
                            replace H : (if t220 = true then (if x6_2.length < 8796093022208 then (impl_ThroughTrips.l1 k2 l0 l1 (x6_2 ++ [(⟨(rd l1 x17_1), rd (l1.drop ((ji9) : Int).toNat) x27_2⟩ : S55)]) (rd l1 x17_1) l1 (l1.length : Int) x17_1 (l1.drop ((ji9) : Int).toNat) ((l1.drop ((ji9) : Int).toNat).length : Int) (wrap64 (x27_2 + 1))) else (none)) else (impl_ThroughTrips.l1 k2 l0 l1 x6_2 (rd l1 x17_1) l1 (l1.length : Int) x17_1 (l1.drop ((ji9) : Int).toNat) ((l1.drop ((ji9) : Int).toNat).length : Int) (wrap64 (x27_2 + 1)))) = some (r1, r2) := H
                            have A16 := Aside0.mk A160
                            clear A160
                            by_cases c17 : t220 = true
                            · subst c17
                              have H1 : (if x6_2.length < 8796093022208 then (impl_ThroughTrips.l1 k2 l0 l1 (x6_2 ++ [(⟨(rd l1 x17_1), rd (l1.drop ((ji9) : Int).toNat) x27_2⟩ : S55)]) (rd l1 x17_1) l1 (l1.length : Int) x17_1 (l1.drop ((ji9) : Int).toNat) ((l1.drop ((ji9) : Int).toNat).length : Int) (wrap64 (x27_2 + 1))) else (none)) = some (r1, r2) := by rw [if_pos rfl] at H; exact H
                              clear H
                              have H := H1
                              clear H1
                              by_cases c18 : x6_2.length < 8796093022208
                              · rw [if_pos c18] at H
                                have LMc18 := Aside0.mk c18
                                clear c18
                                obtain ⟨y221, hy221⟩ : ∃ y_ : List (S55), y_ = (x6_2 ++ [(⟨(rd l1 x17_1), rd (l1.drop ((ji9) : Int).toNat) x27_2⟩ : S55)]) := ⟨_, rfl⟩
                                replace H : (impl_ThroughTrips.l1 k2 l0 l1 y221 (rd l1 x17_1) l1 (l1.length : Int) x17_1 (l1.drop ((ji9) : Int).toNat) ((l1.drop ((ji9) : Int).toNat).length : Int) (wrap64 (x27_2 + 1))) = some (r1, r2) := by first | (rw [hy221]; with_reducible exact H) | (have H2_ := (Option.bind_some _ _).symm.trans H; rw [hy221]; with_reducible exact H2_) | (have H2_ := (Option.bind_some _ _).symm.trans H; with_reducible exact H2_) | with_reducible exact H | (rw [hy221]; exact H) | exact H
                                have Ny221 := Aside0.mk hy221
                                clear hy221
                                have H' := Aside0.mk H
                                clear H
                                have p219 : 0 ≤ (x27_2 : Int) := of_decide_eq_true (by first | (with_reducible assumption) | assumption)
                                have q219 : x27_2 < ((l1.drop ((ji9) : Int).toNat).length : Int) := of_decide_eq_true (by first | (with_reducible assumption) | assumption)
                                obtain ⟨ad219, e219, hx219_0⟩ := Kd.at_int HR218.out x27_2 p219 q219
                                cases e219
                                replace hx219_0 := (HB.out.cell (World.block_lt_of_cell? w _ hx219_0)).trans hx219_0
                                replace p219 := eq_true p219
                                replace q219 := eq_true q219
                                go_wp2_with (first | ((with_reducible refine gate_callee (f := 40) rfl ?_); refine goesL_ (some 34) rfl rfl Try.func40 (by kernel_rfl) rfl #[.slice A0 l0.length c0, .int .i64 (rd l1 x17_1), .int .i64 (rd (l1.drop ((ji9) : Int).toNat) x27_2)] rfl (by (try simp only [List.map_toArray, List.map_cons, List.map_nil]); first | done | (simp only [hji9]; rfl) | rfl | (simp only [List.length_drop, List.length_take]; rfl)) ?_; (with_reducible refine (impl_together.calls _ _ l0 (rd l1 x17_1) (rd (l1.drop ((ji9) : Int).toNat) x27_2) true _ ?side1 ?side2 A16.out).mono ?_); (case side1 => repeat (first | exact (Kd.C_below HR0.out HB.out) | (with_reducible refine Kd.C_alloc ?_ _) | (with_reducible refine Kd.C_drewN ?_ _) | (with_reducible refine Kd.C_drew ?_))); (case side2 => exact HC0.out); rintro e w19 ⟨rfl, hb⟩; refine ⟨_, rfl, ?_⟩; have n0_ := Aside0.mk (Kd.R_below (by (with_reducible repeat (first | apply Kd.R_alloc | apply Kd.R_drewN | apply Kd.R_drew)); exact HO_6.out) hb); have n1_ := Aside0.mk (below_step (by repeat (first | (with_reducible first | exact HB.out | apply below_alloc | apply pw_below_drewN | apply below_drew1) | exact HB.out)) hb); clear HO_6; clear HB; have HO_6 := n0_; have HB := n1_; clear n0_ n1_; (try clear hb); (try clear hb2); (try clear hk); (try clear hi)) | ((with_reducible refine gate_builtin (b := .append) (xs := #[.tmp 35, .tmp 39]) rfl ?_); at_builtin; refine Kd.R_append k55 (w0 := w) w.heap.size rfl (.tmp 35) (.tmp 39) 25 55 (.agg #[(.int .i64 0), (.int .i64 0)]) 16 rfl Try.underlying25 info55 rfl (by decide) (by omega) u6 x6_2 (⟨(rd l1 x17_1), rd (l1.drop ((ji9) : Int).toNat) x27_2⟩ : S55) [.int .i64 (rd l1 x17_1), .int .i64 (rd (l1.drop ((ji9) : Int).toNat) x27_2)] (fun _ => True) (fun _ => False) rfl rfl ?aP (fun _ hk => hk.elim) ?aF ?aO ?aB ?aS ?aL ?_; (case aP => exact k55_mkM _ _ _ (⟨(rd l1 x17_1), rd (l1.drop ((ji9) : Int).toNat) x27_2⟩ : S55)); (case aB => exact (by repeat (first | (with_reducible first | exact HB.out | apply below_alloc | apply pw_below_drewN | apply below_drew1) | exact HB.out))); (case aF => exact (fun _ _ => trivial)); (case aO => exact (by (with_reducible repeat (first | apply Kd.R_alloc | apply Kd.R_drewN | apply Kd.R_drew)); exact HO_6.out)); (case aS => exact (below_size (by repeat (first | (with_reducible first | exact HB.out | apply below_alloc | apply pw_below_drewN | apply below_drew1) | exact HB.out)))); (case aL => have := LMc18.out; omega); intro v222 w20 ho hb hg hat; rw [← Ny221.out] at ho; have n0_ := Aside0.mk (hb); have n1_ := Aside0.mk (ho); clear HB; clear HO_6; have HB := n0_; have HO223 := n1_; clear n0_ n1_; clear ho hb hg hat))
                                go_roundg k2
                                case measure => have := HK1.out; have := HK2.out; omega
                                case rel => exact ⟨(y221), (wrap64 (x27_2 + 1)), (by first | rfl | (simp; done) | (simp [*]; done)), H', ⟨by have := HK1.out; have := HK2.out; omega⟩, ⟨by (with_reducible repeat (first | apply Kd.R_alloc | apply Kd.R_drewN | apply Kd.R_drew)); exact HO223.out⟩, ⟨by repeat (first | (with_reducible first | exact HB.out | apply below_alloc | apply pw_below_drewN | apply below_drew1) | exact HB.out)⟩⟩
                              · rw [if_neg c18] at H
                                exact absurd H (by simp)
                            · replace c17 := Bool.eq_false_iff.mpr c17
                              subst c17
                              have H1 : (impl_ThroughTrips.l1 k2 l0 l1 x6_2 (rd l1 x17_1) l1 (l1.length : Int) x17_1 (l1.drop ((ji9) : Int).toNat) ((l1.drop ((ji9) : Int).toNat).length : Int) (wrap64 (x27_2 + 1))) = some (r1, r2) := by rw [if_neg (show ¬ (false = true) by decide)] at H; exact H
                              clear H
                              have H := H1
                              clear H1
                              have H' := Aside0.mk H
                              clear H
                              have p219 : 0 ≤ (x27_2 : Int) := of_decide_eq_true (by first | (with_reducible assumption) | assumption)
                              have q219 : x27_2 < ((l1.drop ((ji9) : Int).toNat).length : Int) := of_decide_eq_true (by first | (with_reducible assumption) | assumption)
                              obtain ⟨ad219, e219, hx219_0⟩ := Kd.at_int HR218.out x27_2 p219 q219
                              cases e219
                              replace hx219_0 := (HB.out.cell (World.block_lt_of_cell? w _ hx219_0)).trans hx219_0
                              replace p219 := eq_true p219
                              replace q219 := eq_true q219
                              go_wp2_with (first | ((with_reducible refine gate_callee (f := 40) rfl ?_); refine goesL_ (some 34) rfl rfl Try.func40 (by kernel_rfl) rfl #[.slice A0 l0.length c0, .int .i64 (rd l1 x17_1), .int .i64 (rd (l1.drop ((ji9) : Int).toNat) x27_2)] rfl (by (try simp only [List.map_toArray, List.map_cons, List.map_nil]); first | done | (simp only [hji9]; rfl) | rfl | (simp only [List.length_drop, List.length_take]; rfl)) ?_; (with_reducible refine (impl_together.calls _ _ l0 (rd l1 x17_1) (rd (l1.drop ((ji9) : Int).toNat) x27_2) false _ ?side1 ?side2 A16.out).mono ?_); (case side1 => repeat (first | exact (Kd.C_below HR0.out HB.out) | (with_reducible refine Kd.C_alloc ?_ _) | (with_reducible refine Kd.C_drewN ?_ _) | (with_reducible refine Kd.C_drew ?_))); (case side2 => exact HC0.out); rintro e w21 ⟨rfl, hb⟩; refine ⟨_, rfl, ?_⟩; have n0_ := Aside0.mk (Kd.R_below (by (with_reducible repeat (first | apply Kd.R_alloc | apply Kd.R_drewN | apply Kd.R_drew)); exact HO_6.out) hb); have n1_ := Aside0.mk (below_step (by repeat (first | (with_reducible first | exact HB.out | apply below_alloc | apply pw_below_drewN | apply below_drew1) | exact HB.out)) hb); clear HO_6; clear HB; have HO_6 := n0_; have HB := n1_; clear n0_ n1_; (try clear hb); (try clear hb2); (try clear hk); (try clear hi)))
                              go_roundg k2
                              case measure => have := HK1.out; have := HK2.out; omega
                              case rel => exact ⟨(x6_2), (wrap64 (x27_2 + 1)), (by first | rfl | (simp; done) | (simp [*]; done)), H', ⟨by have := HK1.out; have := HK2.out; omega⟩, ⟨by (with_reducible repeat (first | apply Kd.R_alloc | apply Kd.R_drewN | apply Kd.R_drew)); exact HO_6.out⟩, ⟨by repeat (first | (with_reducible first | exact HB.out | apply below_alloc | apply pw_below_drewN | apply below_drew1) | exact HB.out)⟩⟩
                          · rw [if_neg c15] at H
                            exact absurd H (by simp)
                        · rw [if_neg c14] at H
                          exact absurd H (by simp)
                      · rw [if_neg c13] at H
                        have c13b0 : decide (x27_2 < ((l1.drop ((ji9) : Int).toNat).length : Int)) = false := decide_eq_false c13
                        have c13b0d : decide (x27_2 < ((l1.length - (ji9 : Int).toNat : Nat) : Int)) = false := by have h_ := c13b0; rw [List.length_drop] at h_; exact h_
                        clear c13
                        have H' := Aside0.mk H
                        clear H
                        go_wp2
                        go_roundg k2
                        case measure => have := HK1.out; have := HK2.out; omega
                        case rel => exact ⟨(x6_2), (wrap64 (x17_1 + 1)), (by first | rfl | (simp; done) | (simp [*]; done)), H', ⟨by have := HK1.out; have := HK2.out; omega⟩, ⟨by (with_reducible repeat (first | apply Kd.R_alloc | apply Kd.R_drewN | apply Kd.R_drew)); exact HO_6.out⟩, ⟨by repeat (first | (with_reducible first | exact HB.out | apply below_alloc | apply pw_below_drewN | apply below_drew1) | exact HB.out)⟩⟩
                · rw [if_neg c11] at H
                  exact absurd H (by simp)
              · rw [if_neg c10] at H
                exact absurd H (by simp)
            · rw [if_neg c8] at H
              exact absurd H (by simp)
          · rw [if_neg c7] at H
            exact absurd H (by simp)
        · rw [if_neg c6] at H
          have c6b0 : decide (x17_1 < (l1.length : Int)) = false := decide_eq_false c6
          clear c6
          simp only [Option.some.injEq, Prod.mk.injEq] at H
          obtain ⟨rfl, rfl⟩ := H
          go_wp2
          go_ret2
          exact ⟨_, by first | rfl | (simp [errW_none, errW_some] <;> rfl) | (simp [*, errW_none, errW_some] <;> rfl), by (with_reducible repeat (first | apply Kd.R_alloc | apply Kd.R_drewN | apply Kd.R_drew)); exact HO_6.out, by repeat (first | (with_reducible first | exact HB.out | apply below_alloc | apply pw_below_drewN | apply below_drew1) | exact HB.out)⟩
  · replace c4 := Bool.eq_false_iff.mpr c4
    subst c4
    have H1 : (some (([] : List (S55)), false)) = some (r1, r2) := by rw [if_neg (show ¬ (false = true) by decide)] at H; exact H
    clear H
    have H := H1
    clear H1
    simp only [Option.some.injEq, Prod.mk.injEq] at H
    obtain ⟨rfl, rfl⟩ := H
    go_enter Try.func9, Try.ntmps9
    go_wp2_with (first | ((with_reducible refine gate_callee (f := 39) rfl ?_); refine goesL_ (some 13) rfl rfl Try.func39 (by kernel_rfl) rfl #[.slice A0 l0.length c0, .slice A1 l1.length c1] rfl (by (try simp only [List.map_toArray, List.map_cons, List.map_nil]); first | done | rfl | (simp only [List.length_drop, List.length_take]; rfl)) ?_; (with_reducible refine (impl_areEntrances.calls k _ _ l0 _ _ l1 false _ ?side1 ?side2 ?side3 ?side4 A3.out).mono ?_); (case side1 => repeat (first | exact HR0.out | (with_reducible refine Kd.C_alloc ?_ _) | (with_reducible refine Kd.C_drewN ?_ _) | (with_reducible refine Kd.C_drew ?_))); (case side2 => exact HC0.out); (case side3 => repeat (first | exact HR1.out | (with_reducible refine Kd.C_alloc ?_ _) | (with_reducible refine Kd.C_drewN ?_ _) | (with_reducible refine Kd.C_drew ?_))); (case side4 => exact HC1.out); rintro e w22 ⟨rfl, hb⟩; refine ⟨_, rfl, ?_⟩; have n0_ := Aside0.mk (below_step (by repeat (first | (with_reducible first | exact HB.out | apply below_alloc | apply pw_below_drewN | apply below_drew1) | exact HB.out)) hb); clear HB; have HB := n0_; clear n0_; (try clear hb); (try clear hb2); (try clear hk); (try clear hi)))
    go_ret2
    exact ⟨_, by first | rfl | (simp [errW_none, errW_some] <;> rfl) | (simp [*, errW_none, errW_some] <;> rfl), by first | exact Kd.R_nil _ _ _ _ _ | exact Kd.N_nil _ _ _ _ _ | exact Kd.V_nil _ _ _ _ _ | exact Kd.Q_nil _ _ _ _ _ | exact Kd.S_nil _ _ _ _ _, by repeat (first | (with_reducible first | exact HB.out | apply below_alloc | apply pw_below_drewN | apply below_drew1) | exact HB.out)⟩

/-! ### laws_eqIntA2: function 41 (by hand: wip/inj) -/
def laws_eqIntA2.f (a0_0 : Int) (a0_1 : Int) (a1_0 : Int) (a1_1 : Int) : Option Bool := some (decide (a0_0 = a1_0 ∧ a0_1 = a1_1))
set_option maxHeartbeats 8000000 in
set_option maxRecDepth 100000 in
theorem laws_eqIntA2.calls (a0_0 : Int) (a0_1 : Int) (a1_0 : Int) (a1_1 : Int) (r : Bool) (w : World) (h : laws_eqIntA2.f a0_0 a0_1 a1_0 a1_1 = some r) :
    Calls Try.prog 41 #[.agg #[.int .i64 a0_0, .int .i64 a0_1], .agg #[.int .i64 a1_0, .int .i64 a1_1]] w fun e w' => e = .returned (.bool r) ∧ Below w.heap.size w w' := by
  have hu55 := Try.underlying55
  have HB := Aside0.mk (Below.refl w.heap.size w)
  have HRES := Aside0.mk (Option.some.inj h)
  clear h
  go_enter Try.func41, Try.ntmps41
  go_wp2_with (first | ((with_reducible refine gate_dst (N := 2) rfl ?_); refine box_event ?hg (N := 2) ?hd (cs := #[.int .i64 a0_0, .int .i64 a0_1]) (t := 55) ?hr ?_; (case hd => rfl); (case hg => rfl); (case hr => first | (go_simp; done) | (go_simp; rfl)); intro gb1 hg w8 hbox hb; have n0_ := Aside0.mk (below_step (by repeat (first | (with_reducible first | exact HB.out | apply below_alloc | apply pw_below_drewN | apply below_drew1) | exact HB.out)) hb); have n1_ := Aside0.mk (hbox); have n2_ := Aside0.mk ((by rw [hg]; exact (below_size (by repeat (first | (with_reducible first | exact HB.out | apply below_alloc | apply pw_below_drewN | apply below_drew1) | exact HB.out))) : w.heap.size ≤ gb1)); clear HB; have HB := n0_; have BK1 := n1_; have GE1 := n2_; clear n0_ n1_ n2_; clear hb hbox hg) | ((with_reducible refine gate_dst (N := 3) rfl ?_); refine box_event ?hg (N := 3) ?hd (cs := #[.int .i64 a1_0, .int .i64 a1_1]) (t := 55) ?hr ?_; (case hd => rfl); (case hg => rfl); (case hr => first | (go_simp; done) | (go_simp; rfl)); intro gb2 hg w9 hbox hb; have n0_ := Aside0.mk (blk_below (g := gb1) (o := .cells #[.int .i64 a0_0, .int .i64 a0_1] 55 (0, 0)) (by (with_reducible repeat (first | refine blk_drewN ?_ _ | refine blk_drew ?_ | refine blk_alloc ?_ _)); exact BK1.out) hb); have n1_ := Aside0.mk (below_step (by repeat (first | (with_reducible first | exact HB.out | apply below_alloc | apply pw_below_drewN | apply below_drew1) | exact HB.out)) hb); have n2_ := Aside0.mk (hbox); clear BK1; clear HB; have BK1 := n0_; have HB := n1_; have BK2 := n2_; clear n0_ n1_ n2_; clear hb hbox hg))
  go_loopg [5] 2 (fun kq v5 w' => ∃ (j : Nat), v5 = .int .i64 (j : Int) ∧ Aside0 (kq + j = 2 ∧ (1 ≤ j → a0_0 = a1_0) ∧ (2 ≤ j → a0_1 = a1_1)) ∧ Aside0 (w'.heap[gb1]? = some (.cells #[.int .i64 a0_0, .int .i64 a0_1] 55 (0, 0))) ∧ Aside0 (w'.heap[gb2]? = some (.cells #[.int .i64 a1_0, .int .i64 a1_1] 55 (0, 0))) ∧ Aside0 (Below w.heap.size w w'))
  case atStart => exact ⟨0, rfl, ⟨by omega, by omega, by omega⟩, ⟨by (with_reducible repeat (first | refine blk_drewN ?_ _ | refine blk_drew ?_ | refine blk_alloc ?_ _)); exact BK1.out⟩, ⟨by (with_reducible repeat (first | refine blk_drewN ?_ _ | refine blk_drew ?_ | refine blk_alloc ?_ _)); exact BK2.out⟩, ⟨by repeat (first | exact HB.out | apply pw_below_drewN | apply below_drew1)⟩⟩
  case round =>
    clear BK1 BK2 HB
    obtain ⟨j, rfl, HJ, BK1, BK2, HB⟩ := hrel
    have hcz1_0 : wr.cell? ⟨gb1, 0, none⟩ = some (.int .i64 a0_0) := (blk_cell BK1.out 0).trans rfl
    have hcz1_1 : wr.cell? ⟨gb1, 1, none⟩ = some (.int .i64 a0_1) := (blk_cell BK1.out 1).trans rfl
    have hcz2_0 : wr.cell? ⟨gb2, 0, none⟩ = some (.int .i64 a1_0) := (blk_cell BK2.out 0).trans rfl
    have hcz2_1 : wr.cell? ⟨gb2, 1, none⟩ = some (.int .i64 a1_1) := (blk_cell BK2.out 1).trans rfl
    have hfz1_0 := blk_frozen BK1.out 0
    have hfz1_1 := blk_frozen BK1.out 1
    have hfz2_0 := blk_frozen BK2.out 0
    have hfz2_1 := blk_frozen BK2.out 1
    obtain (rfl | rfl | rfl) : j = 0 ∨ j = 1 ∨ j = 2 := by have := HJ.out.1; omega
    · obtain ⟨k2, rfl⟩ : ∃ k2, gk = k2 + 1 := ⟨gk - 1, by have := HJ.out.1; omega⟩
      by_cases hq : a0_0 = a1_0
      · have d1 : (a0_0 == a1_0) = true := beq_iff_eq.2 hq
        have d2 : (a0_0 != a1_0) = false := bne_eq_false_iff_eq.2 hq
        have HQ := Aside0.mk hq
        clear hq
        go_wp2
        repeat (go_quiet (fail); try go_wp2)
        go_roundg k2
        case measure => omega
        case rel => exact ⟨1, rfl, ⟨by have := HJ.out.1; omega, fun _ => HQ.out, by omega⟩, ⟨by (with_reducible repeat (first | refine blk_drewN ?_ _ | refine blk_drew ?_ | refine blk_alloc ?_ _)); exact BK1.out⟩, ⟨by (with_reducible repeat (first | refine blk_drewN ?_ _ | refine blk_drew ?_ | refine blk_alloc ?_ _)); exact BK2.out⟩, ⟨by repeat (first | exact HB.out | apply pw_below_drewN | apply below_drew1)⟩⟩
      · have d1 : (a0_0 == a1_0) = false := beq_eq_false_iff_ne.2 hq
        have d2 : (a0_0 != a1_0) = true := bne_iff_ne.2 hq
        have HQ := Aside0.mk hq
        clear hq
        go_wp2
        repeat (go_quiet (fail); try go_wp2)
        go_ret
        exact ⟨by rw [← HRES.out, decide_eq_false (fun h_ => HQ.out h_.1)]; rfl, by repeat (first | exact HB.out | apply pw_below_drewN | apply below_drew1)⟩
    · obtain ⟨k2, rfl⟩ : ∃ k2, gk = k2 + 1 := ⟨gk - 1, by have := HJ.out.1; omega⟩
      by_cases hq : a0_1 = a1_1
      · have d1 : (a0_1 == a1_1) = true := beq_iff_eq.2 hq
        have d2 : (a0_1 != a1_1) = false := bne_eq_false_iff_eq.2 hq
        have HQ := Aside0.mk hq
        clear hq
        go_wp2
        repeat (go_quiet (fail); try go_wp2)
        go_roundg k2
        case measure => omega
        case rel => exact ⟨2, rfl, ⟨by have := HJ.out.1; omega, fun _ => HJ.out.2.1 (by omega), fun _ => HQ.out⟩, ⟨by (with_reducible repeat (first | refine blk_drewN ?_ _ | refine blk_drew ?_ | refine blk_alloc ?_ _)); exact BK1.out⟩, ⟨by (with_reducible repeat (first | refine blk_drewN ?_ _ | refine blk_drew ?_ | refine blk_alloc ?_ _)); exact BK2.out⟩, ⟨by repeat (first | exact HB.out | apply pw_below_drewN | apply below_drew1)⟩⟩
      · have d1 : (a0_1 == a1_1) = false := beq_eq_false_iff_ne.2 hq
        have d2 : (a0_1 != a1_1) = true := bne_iff_ne.2 hq
        have HQ := Aside0.mk hq
        clear hq
        go_wp2
        repeat (go_quiet (fail); try go_wp2)
        go_ret
        exact ⟨by rw [← HRES.out, decide_eq_false (fun h_ => HQ.out h_.2)]; rfl, by repeat (first | exact HB.out | apply pw_below_drewN | apply below_drew1)⟩
    · have HE : Aside0 (r = true) := ⟨by rw [← HRES.out, decide_eq_true (And.intro (HJ.out.2.1 (by omega)) (HJ.out.2.2 (by omega)))]⟩
      go_wp2
      go_ret
      exact ⟨by rw [HE.out]; rfl, by repeat (first | exact HB.out | apply pw_below_drewN | apply below_drew1)⟩


end Go.Proofs.Ytdlbciobndpgnaa.MT
