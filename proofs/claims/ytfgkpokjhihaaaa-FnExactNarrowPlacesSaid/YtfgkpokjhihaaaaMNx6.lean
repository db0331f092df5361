-- Written by a program of this session (wip/drv.py) out of Lean's own print of the loaded program; hand-proved parts from wip/inj.
import Derived.Test.YtfgkpokjhihaaaaMNx0
import Derived.Test.YtfgkpokjhihaaaaMNx5
namespace Go.Proofs.Ytfgkpokjhihaaaa.MN
open Go.RowKit Go.Proofs.YtfgkpokjhihaaaaW.PrintWords Go.Proofs.YtfgkpokjhihaaaaW.PrintLast Go.Proofs.YtfgkpokjhihaaaaW.PrintMore
attribute [local go_sem] max2_int min2_int max_two min_two max_three min_three max_four min_four   -- for this text's walks alone
set_option linter.unusedVariables false
set_option linter.unusedSimpArgs false

/-! ### impl_reach: function 74 (by hand: wip/inj) -/
def arrOf (B : List Bool) : Array Value := (B.map Value.bool).toArray
def reachStep (l0 : List S66) (l1 : List Int) (width : Int) (i : Nat) (B : List Bool) : List Bool :=
  if (decide (width ≤ l1.getD i 0) && (B.getD (l0.getD i z66).f0.toNat false != B.getD (l0.getD i z66).f1.toNat false)) = true then (B.set (l0.getD i z66).f0.toNat true).set (l0.getD i z66).f1.toNat true else B
def reachPass (l0 : List S66) (l1 : List Int) (width : Int) : Nat → Nat → List Bool → List Bool
  | 0, _, B => B
  | d + 1, i, B => reachPass l0 l1 width d (i + 1) (reachStep l0 l1 width i B)
def reachAll (l0 : List S66) (l1 : List Int) (width : Int) : Nat → List Bool → List Bool
  | 0, B => B
  | m + 1, B => reachAll l0 l1 width m (reachPass l0 l1 width l0.length 0 B)
def reachOk (l0 : List S66) (l1 : List Int) (from_ : Int) : Bool := decide (l0.length ≤ l1.length) && (decide (0 ≤ from_ ∧ from_ ≤ 7) && l0.all (fun x => decide (0 ≤ x.f0 ∧ x.f0 ≤ 7) && decide (0 ≤ x.f1 ∧ x.f1 ≤ 7)))
def impl_reach.f (l0 : List S66) (l1 : List Int) (a2 a3 : Int) : Option (List Bool) := if reachOk l0 l1 a2 = true then some (reachAll l0 l1 a3 l0.length ((List.replicate 8 false).set a2.toNat true)) else none
theorem arrOf_set (B : List Bool) (i : Nat) (v : Bool) : (arrOf B).setIfInBounds i (.bool v) = arrOf (B.set i v) := by
  unfold arrOf
  rw [List.setIfInBounds_toArray, List.map_set]
theorem arrOf_get {B : List Bool} {i : Nat} (h : i < B.length) : (arrOf B)[i]? = some (.bool (B.getD i false)) := by
  simp [arrOf, List.getD_eq_getElem?_getD, List.getElem?_eq_getElem h]
theorem reachStep_length (l0 : List S66) (l1 : List Int) (width : Int) (i : Nat) (B : List Bool) : (reachStep l0 l1 width i B).length = B.length := by
  unfold reachStep
  split <;> simp
theorem reachPass_length (l0 : List S66) (l1 : List Int) (width : Int) : ∀ d i B, (reachPass l0 l1 width d i B).length = B.length
  | 0, _, _ => rfl
  | d + 1, i, B => by
    simp only [reachPass]
    rw [reachPass_length l0 l1 width d (i + 1), reachStep_length]
theorem reach_yes {l0 : List S66} {l1 : List Int} {a3 y : Int} {B : List Bool} (h0 : 0 ≤ y) (hl : y < l0.length) (hm : l0.length ≤ 9223372036854775807) (hw : rd l1 y ≥ a3) (hst : B.getD (rd_T66 l0 y).f0.toNat false ≠ B.getD (rd_T66 l0 y).f1.toNat false) (k : Nat) :
    reachPass l0 l1 a3 (k + 1) y.toNat B = reachPass l0 l1 a3 k (wrap64 (y + 1)).toNat ((B.set (rd_T66 l0 y).f0.toNat true).set (rd_T66 l0 y).f1.toNat true) := by
  have e : (wrap64 (y + 1)).toNat = y.toNat + 1 := by unfold wrap64; omega
  rw [e]
  show reachPass l0 l1 a3 k (y.toNat + 1) (reachStep l0 l1 a3 y.toNat B) = _
  congr 1
  unfold reachStep
  rw [if_pos]
  · rfl
  · rw [Bool.and_eq_true]
    exact ⟨decide_eq_true hw, bne_iff_ne.2 hst⟩
theorem reach_no {l0 : List S66} {l1 : List Int} {a3 y : Int} {B : List Bool} (h0 : 0 ≤ y) (hl : y < l0.length) (hm : l0.length ≤ 9223372036854775807) (hn : ¬ (rd l1 y ≥ a3 ∧ B.getD (rd_T66 l0 y).f0.toNat false ≠ B.getD (rd_T66 l0 y).f1.toNat false)) (k : Nat) :
    reachPass l0 l1 a3 (k + 1) y.toNat B = reachPass l0 l1 a3 k (wrap64 (y + 1)).toNat B := by
  have e : (wrap64 (y + 1)).toNat = y.toNat + 1 := by unfold wrap64; omega
  rw [e]
  show reachPass l0 l1 a3 k (y.toNat + 1) (reachStep l0 l1 a3 y.toNat B) = _
  congr 1
  unfold reachStep
  rw [if_neg]
  intro h
  rw [Bool.and_eq_true] at h
  exact hn ⟨of_decide_eq_true h.1, bne_iff_ne.1 h.2⟩
set_option maxHeartbeats 8000000 in
set_option maxRecDepth 100000 in
theorem impl_reach.calls (A0 : Option Addr) (c0 : Nat) (l0 : List S66) (A1 : Option Addr) (c1 : Nat) (l1 : List Int) (a2 a3 : Int) (r : List Bool) (w : World) (hr0 : Kd.C k66 w A0 l0.length l0) (hc0 : l0.length ≤ c0) (hr1 : Kd.C (Kd.int .i64) w A1 l1.length l1) (hc1 : l1.length ≤ c1) (h : impl_reach.f l0 l1 a2 a3 = some r) :
    Calls Try.prog 74 #[.slice A0 l0.length c0, .slice A1 l1.length c1, .int .i64 a2, .int .i64 a3] w fun e w' => e = .returned (.agg (arrOf r)) ∧ Below w.heap.size w w' := by
  have huL := Try.underlying66
  have hu84 := Try.underlying85
  have hu4 := Try.underlying4
  unfold impl_reach.f at h
  by_cases hok : reachOk l0 l1 a2 = true
  case neg => rw [if_neg hok] at h; cases h
  rw [if_pos hok] at h
  have hr := Option.some.inj h
  clear h
  simp only [reachOk, Bool.and_eq_true, decide_eq_true_eq, List.all_eq_true] at hok
  obtain ⟨hlen, ⟨hf0, hf7⟩, hall⟩ := hok
  have HALL : Aside0 (∀ i, i < l0.length → (0 ≤ (l0.getD i z66).f0 ∧ (l0.getD i z66).f0 ≤ 7) ∧ (0 ≤ (l0.getD i z66).f1 ∧ (l0.getD i z66).f1 ≤ 7)) := ⟨fun i hi => by
    have := hall _ (List.getElem_mem hi)
    simpa [List.getD_eq_getElem?_getD, List.getElem?_eq_getElem hi] using this⟩
  clear hall
  have HLEN := Aside0.mk hlen
  have HR0 := Aside0.mk hr0
  have HR1 := Aside0.mk hr1
  have HM := Aside0.mk hr0.2.1
  obtain ⟨B0, hB0⟩ : ∃ B0 : List Bool, B0 = (List.replicate 8 false).set a2.toNat true := ⟨_, rfl⟩
  rw [← hB0] at hr
  have HRES := Aside0.mk hr
  have HB0 : Aside0 (B0.length = 8 ∧ ([.bool false, .bool false, .bool false, .bool false, .bool false, .bool false, .bool false, .bool false].set a2.toNat (.bool true) : List Value).toArray = arrOf B0) := ⟨by rw [hB0]; simp, by
    rw [hB0]
    unfold arrOf
    rw [List.map_set]
    rfl⟩
  clear hr hlen hr0 hr1 hc0 hc1 hB0
  have p0 := eq_true hf0
  have q0 : a2 < 8 := by omega
  have hf7' := Aside0.mk hf7
  clear hf7
  go_enter Try.func74, Try.ntmps74
  go_wp2
  
  rw [HB0.out.2]
  go_loopg [16] l0.length (fun kq v16 w' => ∃ (x : Int) (B : List Bool), v16 = .int .i64 x ∧ Aside0 (0 ≤ x ∧ kq + x.toNat = l0.length ∧ B.length = 8 ∧ reachAll l0 l1 a3 kq B = r) ∧ Aside0 (w'.heap[w.heap.size + 1]? = some (.cells (arrOf B) 85 (0, 0))) ∧ Aside0 (w'.heap[w.heap.size]? = some (.cells #[.bool false, .bool false, .bool false, .bool false, .bool false, .bool false, .bool false, .bool false] 85 (0, 0))) ∧ Aside0 (Below w.heap.size w w'))
  case atStart =>
    refine ⟨0, B0, rfl, ⟨by omega, by simp, HB0.out.1, HRES.out⟩, ⟨?_⟩, ⟨?_⟩, ⟨?_⟩⟩
    · exact heap_alloc2_new _ _ _
    · exact blk_alloc (blk_new w _) _
    · exact below_alloc (below_alloc (Below.refl _ _) _) _
  case round =>
    obtain ⟨x, B, rfl, HA, HK1, HK0, HB⟩ := hrel
    by_cases hlt : x < (l0.length : Int)
    · have c0 : decide (x < (l0.length : Int)) = true := decide_eq_true hlt
      have HLT := Aside0.mk hlt
      clear hlt
      obtain ⟨k1, rfl⟩ : ∃ k1, gk = k1 + 1 := ⟨gk - 1, by have := HA.out; have := HLT.out; omega⟩
      obtain ⟨wo, rfl⟩ : ∃ wo : World, wo = wr := ⟨_, rfl⟩
      go_wp2
      go_loopg [20] l0.length (fun kq v20 w' => ∃ (y : Int) (B' : List Bool), v20 = .int .i64 y ∧ Aside0 (0 ≤ y ∧ kq + y.toNat = l0.length ∧ B'.length = 8 ∧ reachPass l0 l1 a3 kq y.toNat B' = reachPass l0 l1 a3 l0.length 0 B) ∧ Aside0 (w'.heap[w.heap.size + 1]? = some (.cells (arrOf B') 85 (0, 0))) ∧ Aside0 (w'.heap[w.heap.size]? = some (.cells #[.bool false, .bool false, .bool false, .bool false, .bool false, .bool false, .bool false, .bool false] 85 (0, 0))) ∧ Aside0 (Below w.heap.size w w'))
      case atStart => exact ⟨0, B, rfl, ⟨by omega, by simp, HA.out.2.2.1, rfl⟩, HK1, HK0, HB⟩
      case round =>
        obtain ⟨y, B', rfl, HA2, HK1', HK0', HB'⟩ := hrel
        by_cases hlt2 : y < (l0.length : Int)
        · have d0 : decide (y < (l0.length : Int)) = true := decide_eq_true hlt2
          have HLT2 := Aside0.mk hlt2
          obtain ⟨ad, e, hx0, hx1, hx2, hx3, hx4⟩ := at_T66 (Kd.C_below HR0.out HB'.out) y HA2.out.1 hlt2
          cases e
          obtain ⟨ad1, e1, hy⟩ := Kd.at_int (Kd.C_below HR1.out HB'.out) y HA2.out.1 (by have := HLEN.out; omega)
          cases e1
          have hq1 : y < (l1.length : Int) := by have := HLEN.out; omega
          have py := eq_true HA2.out.1
          have qy := eq_true hlt2
          have qy1 := eq_true hq1
          clear hlt2 hq1
          obtain ⟨k2, rfl⟩ : ∃ k2, gk = k2 + 1 := ⟨gk - 1, by have := HA2.out; have := HLT2.out; omega⟩
          have HXB := Aside0.mk (HALL.out y.toNat (by have := HA2.out; have := HLT2.out; omega))
          obtain ⟨a, ha⟩ : ∃ a : Int, a = (rd_T66 l0 y).f0 := ⟨_, rfl⟩
          obtain ⟨b, hb⟩ : ∃ b : Int, b = (rd_T66 l0 y).f1 := ⟨_, rfl⟩
          rw [← ha] at hx0
          rw [← hb] at hx1
          have HAB : Aside0 ((0 ≤ a ∧ a ≤ 7) ∧ (0 ≤ b ∧ b ≤ 7)) := ⟨by rw [ha, hb]; exact HXB.out⟩
          have NA := Aside0.mk ha
          have NB := Aside0.mk hb
          clear ha hb
          have pa := eq_true HAB.out.1.1
          have pb := eq_true HAB.out.2.1
          have qa : (a < 8) = True := eq_true (by have := HAB.out; omega)
          have qb : (b < 8) = True := eq_true (by have := HAB.out; omega)
          by_cases hw : rd l1 y ≥ a3
          · have w0 : decide (rd l1 y ≥ a3) = true := decide_eq_true hw
            have w1 : decide (a3 ≤ rd l1 y) = true := decide_eq_true hw
            have HW := Aside0.mk hw
            clear hw
            have ha7 : wr.cell? ⟨w.heap.size + 1, a.toNat, none⟩ = some (.bool (B'.getD a.toNat false)) := (blk_cell HK1'.out _).trans (arrOf_get (by have := HAB.out; have := HA2.out; omega))
            have hb7 : wr.cell? ⟨w.heap.size + 1, b.toNat, none⟩ = some (.bool (B'.getD b.toNat false)) := (blk_cell HK1'.out _).trans (arrOf_get (by have := HAB.out; have := HA2.out; omega))
            have hgl : w.heap.size + 1 < wr.heap.size := blk_lt HK1'.out
            obtain ⟨s, hs⟩ : ∃ s : Bool, s = B'.getD a.toNat false := ⟨_, rfl⟩
            obtain ⟨t, ht⟩ : ∃ t : Bool, t = B'.getD b.toNat false := ⟨_, rfl⟩
            rw [← hs] at ha7
            rw [← ht] at hb7
            have NS := Aside0.mk hs
            have NT := Aside0.mk ht
            clear hs ht
            have AL : ∀ (o : Obj) (p : Addr) (v : Value), wr.cell? p = some v → (wr.alloc o).cell? p = some v := fun o p v h => ((below_alloc (Below.refl wr.heap.size wr) o).cell (World.block_lt_of_cell? wr _ h)).trans h
            have hy' := AL (.cells #[.int .i64 a, .int .i64 b, .int .i64 (rd_T66 l0 y).f2, .int .i64 (rd_T66 l0 y).f3, .int .i64 (rd_T66 l0 y).f4] 66 (0, 0)) _ _ hy
            have ha8 := AL (.cells #[.int .i64 a, .int .i64 b, .int .i64 (rd_T66 l0 y).f2, .int .i64 (rd_T66 l0 y).f3, .int .i64 (rd_T66 l0 y).f4] 66 (0, 0)) _ _ ha7
            have hb8 := AL (.cells #[.int .i64 a, .int .i64 b, .int .i64 (rd_T66 l0 y).f2, .int .i64 (rd_T66 l0 y).f3, .int .i64 (rd_T66 l0 y).f4] 66 (0, 0)) _ _ hb7
            clear AL
            by_cases hst : s = t
            · have NST := Aside0.mk hst
              subst hst
              go_wp2
              go_quiet (fail)
              go_wp2
              go_roundg k2
              case measure => omega
              case rel => exact ⟨wrap64 (y + 1), B', rfl, ⟨by have := HA2.out; have := HLT2.out; have := HM.out; unfold wrap64; omega, by have := HA2.out; have := HLT2.out; have := HM.out; unfold wrap64; omega, HA2.out.2.2.1, by rw [← HA2.out.2.2.2, reach_no HA2.out.1 HLT2.out HM.out (fun h => h.2 (by rw [← NA.out, ← NB.out, ← NS.out, ← NT.out]))]⟩, ⟨blk_drewN (blk_alloc HK1'.out _) _⟩, ⟨blk_drewN (blk_alloc HK0'.out _) _⟩, ⟨pw_below_drewN (below_alloc HB'.out _) _⟩⟩
            · have hst' : (s != t) = true := bne_iff_ne.2 hst
              have NST := Aside0.mk hst
              clear hst
              have hst2 : (s == t) = false := by simpa using hst'
              have hne : ¬ a.toNat = b.toNat := fun h => NST.out (by rw [NS.out, NT.out, h])
              have hne' : ¬ b.toNat = a.toNat := fun h => hne h.symm
              have hfa : (wr.alloc (.cells #[.int .i64 a, .int .i64 b, .int .i64 (rd_T66 l0 y).f2, .int .i64 (rd_T66 l0 y).f3, .int .i64 (rd_T66 l0 y).f4] 66 (0, 0))).frozen? ⟨w.heap.size + 1, a.toNat, none⟩ = false := blk_frozen (blk_alloc HK1'.out _) _
              have hfb : (wr.alloc (.cells #[.int .i64 a, .int .i64 b, .int .i64 (rd_T66 l0 y).f2, .int .i64 (rd_T66 l0 y).f3, .int .i64 (rd_T66 l0 y).f4] 66 (0, 0))).frozen? ⟨w.heap.size + 1, b.toNat, none⟩ = false := blk_frozen (blk_alloc HK1'.out _) _
              go_wp2
              go_quiet (fail)
              go_wp2
              
              go_region
              all_goals go_wp2
              all_goals go_roundg k2
              all_goals first | (show _ < _; omega) | exact ⟨wrap64 (y + 1), (B'.set a.toNat true).set b.toNat true, rfl, ⟨by have := HA2.out; have := HLT2.out; have := HM.out; unfold wrap64; omega, by have := HA2.out; have := HLT2.out; have := HM.out; unfold wrap64; omega, by simpa using HA2.out.2.2.1, by rw [← HA2.out.2.2.2, reach_yes HA2.out.1 HLT2.out HM.out (by have := HW.out; omega) (fun h => NST.out (by rw [NS.out, NT.out, NA.out, NB.out, h])), NA.out, NB.out]⟩, ⟨by rw [← arrOf_set, ← arrOf_set]; exact blk_set (blk_set (blk_drewN (blk_alloc HK1'.out _) _) _ _) _ _⟩, ⟨blk_far (p := ⟨w.heap.size + 1, b.toNat, none⟩) (blk_far (p := ⟨w.heap.size + 1, a.toNat, none⟩) (blk_drewN (blk_alloc HK0'.out _) _) (Nat.ne_of_lt (Nat.lt_succ_self _)) _) (Nat.ne_of_lt (Nat.lt_succ_self _)) _⟩, ⟨((pw_below_drewN (below_alloc HB'.out _) _).setCell (p := ⟨w.heap.size + 1, a.toNat, none⟩) (Nat.le_succ _) _).setCell (p := ⟨w.heap.size + 1, b.toNat, none⟩) (Nat.le_succ _) _⟩⟩
          · have w0 : decide (rd l1 y ≥ a3) = false := decide_eq_false hw
            have w1 : decide (a3 ≤ rd l1 y) = false := decide_eq_false hw
            have HW := Aside0.mk hw
            clear hw
            have AL : ∀ (o : Obj) (p : Addr) (v : Value), wr.cell? p = some v → (wr.alloc o).cell? p = some v := fun o p v h => ((below_alloc (Below.refl wr.heap.size wr) o).cell (World.block_lt_of_cell? wr _ h)).trans h
            have hy' := AL (.cells #[.int .i64 a, .int .i64 b, .int .i64 (rd_T66 l0 y).f2, .int .i64 (rd_T66 l0 y).f3, .int .i64 (rd_T66 l0 y).f4] 66 (0, 0)) _ _ hy
            clear AL
            go_wp2
            go_quiet (fail)
            go_wp2
            go_roundg k2
            case measure => omega
            case rel => exact ⟨wrap64 (y + 1), B', rfl, ⟨by have := HA2.out; have := HLT2.out; have := HM.out; unfold wrap64; omega, by have := HA2.out; have := HLT2.out; have := HM.out; unfold wrap64; omega, HA2.out.2.2.1, by rw [← HA2.out.2.2.2, reach_no HA2.out.1 HLT2.out HM.out (fun h => absurd h.1 (by have := HW.out; omega))]⟩, ⟨blk_drewN (blk_alloc HK1'.out _) _⟩, ⟨blk_drewN (blk_alloc HK0'.out _) _⟩, ⟨pw_below_drewN (below_alloc HB'.out _) _⟩⟩
        · have d0 : decide (y < (l0.length : Int)) = false := decide_eq_false hlt2
          have HLT2 := Aside0.mk hlt2
          clear hlt2
          go_wp2
          
          go_roundg k1
          case measure => omega
          case rel =>
            obtain rfl : gk = 0 := by have := HA2.out; have := HLT2.out; omega
            refine ⟨wrap64 (x + 1), B', rfl, ⟨by have := HA.out; have := HLT.out; have := HM.out; unfold wrap64; omega, by have := HA.out; have := HLT.out; have := HM.out; unfold wrap64; omega, HA2.out.2.2.1, ?_⟩, HK1', HK0', HB'⟩
            rw [← HA.out.2.2.2]
            show _ = reachAll l0 l1 a3 k1 (reachPass l0 l1 a3 l0.length 0 B)
            rw [← HA2.out.2.2.2]
            rfl
    · have d0 : decide (x < (l0.length : Int)) = false := decide_eq_false hlt
      have HLT := Aside0.mk hlt
      clear hlt
      obtain rfl : gk = 0 := by have := HA.out; have := HLT.out; omega
      obtain rfl : B = r := HA.out.2.2.2
      obtain ⟨b0, b1, b2, b3, b4, b5, b6, b7, hb8⟩ : ∃ b0 b1 b2 b3 b4 b5 b6 b7, B = [b0, b1, b2, b3, b4, b5, b6, b7] := by
        have h8 := HA.out.2.2.1
        match B, h8 with
        | [b0, b1, b2, b3, b4, b5, b6, b7], _ => exact ⟨_, _, _, _, _, _, _, _, rfl⟩
      have HK1c : Aside0 (wr.heap[w.heap.size + 1]? = some (.cells #[.bool b0, .bool b1, .bool b2, .bool b3, .bool b4, .bool b5, .bool b6, .bool b7] 85 (0, 0))) := ⟨HK1.out.trans (by rw [hb8]; rfl)⟩
      have HEND : Aside0 (arrOf B = #[.bool b0, .bool b1, .bool b2, .bool b3, .bool b4, .bool b5, .bool b6, .bool b7]) := ⟨by rw [hb8]; rfl⟩
      clear hb8
      have e0 : wr.cell? ⟨w.heap.size + 1, 0, none⟩ = some (.bool b0) := (blk_cell HK1c.out 0).trans rfl
      have e1 : wr.cell? ⟨w.heap.size + 1, 1, none⟩ = some (.bool b1) := (blk_cell HK1c.out 1).trans rfl
      have e2 : wr.cell? ⟨w.heap.size + 1, 2, none⟩ = some (.bool b2) := (blk_cell HK1c.out 2).trans rfl
      have e3 : wr.cell? ⟨w.heap.size + 1, 3, none⟩ = some (.bool b3) := (blk_cell HK1c.out 3).trans rfl
      have e4 : wr.cell? ⟨w.heap.size + 1, 4, none⟩ = some (.bool b4) := (blk_cell HK1c.out 4).trans rfl
      have e5 : wr.cell? ⟨w.heap.size + 1, 5, none⟩ = some (.bool b5) := (blk_cell HK1c.out 5).trans rfl
      have e6 : wr.cell? ⟨w.heap.size + 1, 6, none⟩ = some (.bool b6) := (blk_cell HK1c.out 6).trans rfl
      have e7 : wr.cell? ⟨w.heap.size + 1, 7, none⟩ = some (.bool b7) := (blk_cell HK1c.out 7).trans rfl
      have f0 : wr.cell? ⟨w.heap.size, 0, none⟩ = some (.bool false) := (blk_cell HK0.out 0).trans rfl
      have f1 : wr.cell? ⟨w.heap.size, 1, none⟩ = some (.bool false) := (blk_cell HK0.out 1).trans rfl
      have f2 : wr.cell? ⟨w.heap.size, 2, none⟩ = some (.bool false) := (blk_cell HK0.out 2).trans rfl
      have f3 : wr.cell? ⟨w.heap.size, 3, none⟩ = some (.bool false) := (blk_cell HK0.out 3).trans rfl
      have f4 : wr.cell? ⟨w.heap.size, 4, none⟩ = some (.bool false) := (blk_cell HK0.out 4).trans rfl
      have f5 : wr.cell? ⟨w.heap.size, 5, none⟩ = some (.bool false) := (blk_cell HK0.out 5).trans rfl
      have f6 : wr.cell? ⟨w.heap.size, 6, none⟩ = some (.bool false) := (blk_cell HK0.out 6).trans rfl
      have f7 : wr.cell? ⟨w.heap.size, 7, none⟩ = some (.bool false) := (blk_cell HK0.out 7).trans rfl
      have g0 : wr.frozen? ⟨w.heap.size, 0, none⟩ = false := blk_frozen HK0.out 0
      have g1 : wr.frozen? ⟨w.heap.size, 1, none⟩ = false := blk_frozen HK0.out 1
      have g2 : wr.frozen? ⟨w.heap.size, 2, none⟩ = false := blk_frozen HK0.out 2
      have g3 : wr.frozen? ⟨w.heap.size, 3, none⟩ = false := blk_frozen HK0.out 3
      have g4 : wr.frozen? ⟨w.heap.size, 4, none⟩ = false := blk_frozen HK0.out 4
      have g5 : wr.frozen? ⟨w.heap.size, 5, none⟩ = false := blk_frozen HK0.out 5
      have g6 : wr.frozen? ⟨w.heap.size, 6, none⟩ = false := blk_frozen HK0.out 6
      have g7 : wr.frozen? ⟨w.heap.size, 7, none⟩ = false := blk_frozen HK0.out 7
      go_wp2
      refine bodyPost_ret (results_cell_row rfl _ _ w.heap.size 85 #[.bool b0, .bool b1, .bool b2, .bool b3, .bool b4, .bool b5, .bool b6, .bool b7] (0, 0) _ rfl ((blk_set (blk_set (blk_set (blk_set (blk_set (blk_set (blk_set (blk_set HK0.out 0 (.bool b0)) 1 (.bool b1)) 2 (.bool b2)) 3 (.bool b3)) 4 (.bool b4)) 5 (.bool b5)) 6 (.bool b6)) 7 (.bool b7)).trans rfl) hu84 rfl (by kernel_rfl)) rfl ?_
      exact ⟨by rw [HEND.out], ((((((((HB.out).setCell (p := ⟨w.heap.size, 0, none⟩) (Nat.le_refl _) _).setCell (p := ⟨w.heap.size, 1, none⟩) (Nat.le_refl _) _).setCell (p := ⟨w.heap.size, 2, none⟩) (Nat.le_refl _) _).setCell (p := ⟨w.heap.size, 3, none⟩) (Nat.le_refl _) _).setCell (p := ⟨w.heap.size, 4, none⟩) (Nat.le_refl _) _).setCell (p := ⟨w.heap.size, 5, none⟩) (Nat.le_refl _) _).setCell (p := ⟨w.heap.size, 6, none⟩) (Nat.le_refl _) _).setCell (p := ⟨w.heap.size, 7, none⟩) (Nat.le_refl _) _⟩
theorem reachAll_length (l0 : List S66) (l1 : List Int) (width : Int) : ∀ m B, (reachAll l0 l1 width m B).length = B.length
  | 0, _ => rfl
  | m + 1, B => by
    simp only [reachAll]
    rw [reachAll_length l0 l1 width m, reachPass_length]
theorem run_indexA_0 (b0 b1 b2 b3 b4 b5 b6 b7 : Bool) (w : World) : (Instr.index 85 (.agg #[.bool b0, .bool b1, .bool b2, .bool b3, .bool b4, .bool b5, .bool b6, .bool b7]) (.int .i64 0)).run Try.prog w = .ok (.bool b0) w := by kernel_rfl
theorem run_indexA_1 (b0 b1 b2 b3 b4 b5 b6 b7 : Bool) (w : World) : (Instr.index 85 (.agg #[.bool b0, .bool b1, .bool b2, .bool b3, .bool b4, .bool b5, .bool b6, .bool b7]) (.int .i64 1)).run Try.prog w = .ok (.bool b1) w := by kernel_rfl
theorem run_indexA_2 (b0 b1 b2 b3 b4 b5 b6 b7 : Bool) (w : World) : (Instr.index 85 (.agg #[.bool b0, .bool b1, .bool b2, .bool b3, .bool b4, .bool b5, .bool b6, .bool b7]) (.int .i64 2)).run Try.prog w = .ok (.bool b2) w := by kernel_rfl
theorem run_indexA_3 (b0 b1 b2 b3 b4 b5 b6 b7 : Bool) (w : World) : (Instr.index 85 (.agg #[.bool b0, .bool b1, .bool b2, .bool b3, .bool b4, .bool b5, .bool b6, .bool b7]) (.int .i64 3)).run Try.prog w = .ok (.bool b3) w := by kernel_rfl
theorem run_indexA_4 (b0 b1 b2 b3 b4 b5 b6 b7 : Bool) (w : World) : (Instr.index 85 (.agg #[.bool b0, .bool b1, .bool b2, .bool b3, .bool b4, .bool b5, .bool b6, .bool b7]) (.int .i64 4)).run Try.prog w = .ok (.bool b4) w := by kernel_rfl
theorem run_indexA_5 (b0 b1 b2 b3 b4 b5 b6 b7 : Bool) (w : World) : (Instr.index 85 (.agg #[.bool b0, .bool b1, .bool b2, .bool b3, .bool b4, .bool b5, .bool b6, .bool b7]) (.int .i64 5)).run Try.prog w = .ok (.bool b5) w := by kernel_rfl
theorem run_indexA_6 (b0 b1 b2 b3 b4 b5 b6 b7 : Bool) (w : World) : (Instr.index 85 (.agg #[.bool b0, .bool b1, .bool b2, .bool b3, .bool b4, .bool b5, .bool b6, .bool b7]) (.int .i64 6)).run Try.prog w = .ok (.bool b6) w := by kernel_rfl
theorem run_indexA_7 (b0 b1 b2 b3 b4 b5 b6 b7 : Bool) (w : World) : (Instr.index 85 (.agg #[.bool b0, .bool b1, .bool b2, .bool b3, .bool b4, .bool b5, .bool b6, .bool b7]) (.int .i64 7)).run Try.prog w = .ok (.bool b7) w := by kernel_rfl
theorem run_indexA (B : List Bool) (h8 : B.length = 8) (i : Int) (h0 : 0 ≤ i) (h7 : i ≤ 7) (w : World) : (Instr.index 85 (.agg (arrOf B)) (.int .i64 i)).run Try.prog w = .ok (.bool (B.getD i.toNat false)) w := by
  match B, h8 with
  | [b0, b1, b2, b3, b4, b5, b6, b7], _ =>
    have h : i = 0 ∨ i = 1 ∨ i = 2 ∨ i = 3 ∨ i = 4 ∨ i = 5 ∨ i = 6 ∨ i = 7 := by omega
    rcases h with rfl | rfl | rfl | rfl | rfl | rfl | rfl | rfl
    · exact run_indexA_0 b0 b1 b2 b3 b4 b5 b6 b7 w
    · exact run_indexA_1 b0 b1 b2 b3 b4 b5 b6 b7 w
    · exact run_indexA_2 b0 b1 b2 b3 b4 b5 b6 b7 w
    · exact run_indexA_3 b0 b1 b2 b3 b4 b5 b6 b7 w
    · exact run_indexA_4 b0 b1 b2 b3 b4 b5 b6 b7 w
    · exact run_indexA_5 b0 b1 b2 b3 b4 b5 b6 b7 w
    · exact run_indexA_6 b0 b1 b2 b3 b4 b5 b6 b7 w
    · exact run_indexA_7 b0 b1 b2 b3 b4 b5 b6 b7 w
def reachOf (l0 : List S66) (l1 : List Int) (from_ width : Int) : List Bool := reachAll l0 l1 width l0.length ((List.replicate 8 false).set from_.toNat true)
theorem reachOf_length (l0 : List S66) (l1 : List Int) (from_ width : Int) : (reachOf l0 l1 from_ width).length = 8 := by
  unfold reachOf
  rw [reachAll_length]
  simp
def memFrom (B : List Bool) : Nat → Nat → List Int → List Int
  | 0, _, acc => acc
  | d + 1, i, acc => memFrom B d (i + 1) (if B.getD i false = true then acc ++ [(i : Int)] else acc)
/-- The stations that hang together with one. -/
def hangOf (l0 : List S66) (a : Int) : List Bool := reachOf l0 (List.replicate l0.length 0) a 0
def hangOk (l0 : List S66) (a : Int) : Bool := reachOk l0 (List.replicate l0.length 0) a && decide (l0.length ≤ 12)


/-! ### impl_greatest: function 56 (by hand: wip/inj) -/
def greatestDown (l0 : List S66) (l1 : List Int) (from_ to_ : Int) : Nat → Int
  | 0 => -1
  | k + 1 => if (reachOf l0 l1 from_ (k : Int)).getD to_.toNat false = true then (k : Int) else greatestDown l0 l1 from_ to_ k
def impl_greatest.f (l0 : List S66) (l1 : List Int) (a2 a3 : Int) : Option Int := if reachOk l0 l1 a2 = true ∧ 0 ≤ a3 ∧ a3 ≤ 7 then some (greatestDown l0 l1 a2 a3 201) else none
set_option maxHeartbeats 8000000 in
set_option maxRecDepth 100000 in
theorem impl_greatest.calls (A0 : Option Addr) (c0 : Nat) (l0 : List S66) (A1 : Option Addr) (c1 : Nat) (l1 : List Int) (a2 a3 : Int) (r : Int) (w : World) (hr0 : Kd.C k66 w A0 l0.length l0) (hc0 : l0.length ≤ c0) (hr1 : Kd.C (Kd.int .i64) w A1 l1.length l1) (hc1 : l1.length ≤ c1) (h : impl_greatest.f l0 l1 a2 a3 = some r) :
    Calls Try.prog 56 #[.slice A0 l0.length c0, .slice A1 l1.length c1, .int .i64 a2, .int .i64 a3] w fun e w' => e = .returned (.int .i64 r) ∧ Below w.heap.size w w' := by
  unfold impl_greatest.f at h
  by_cases hok : reachOk l0 l1 a2 = true ∧ 0 ≤ a3 ∧ a3 ≤ 7
  case neg => rw [if_neg hok] at h; cases h
  rw [if_pos hok] at h
  have hr := Option.some.inj h
  clear h
  have HOK := Aside0.mk hok
  have HR0 := Aside0.mk hr0
  have HR1 := Aside0.mk hr1
  have HC0 := Aside0.mk hc0
  have HC1 := Aside0.mk hc1
  have HRES := Aside0.mk hr
  have HM0 := Aside0.mk hr0.2.1
  have HM1 := Aside0.mk hr1.2.1
  clear hr hr0 hr1 hc0 hc1 hok
  have HCALL : Aside0 (∀ (x : Int) (W : World), Below w.heap.size w W → Calls Try.prog 74 #[.slice A0 l0.length c0, .slice A1 l1.length c1, .int .i64 a2, .int .i64 x] W fun e w' => e = .returned (.agg (arrOf (reachOf l0 l1 a2 x))) ∧ Below W.heap.size W w') := ⟨fun x W hb => impl_reach.calls A0 c0 l0 A1 c1 l1 a2 x _ W (Kd.C_below HR0.out hb) HC0.out (Kd.C_below HR1.out hb) HC1.out (by unfold impl_reach.f; rw [if_pos HOK.out.1]; rfl)⟩
  go_enter Try.func56, Try.ntmps56
  go_wp2
  go_loopg [9] 201 (fun kq v9 w' => ∃ x : Int, v9 = .int .i64 x ∧ Aside0 (-1 ≤ x ∧ x ≤ 200 ∧ (kq : Int) = x + 1 ∧ greatestDown l0 l1 a2 a3 kq = r) ∧ Aside0 (Below w.heap.size w w'))
  case atStart => exact ⟨200, rfl, ⟨by omega, by omega, by omega, HRES.out⟩, ⟨Below.refl _ _⟩⟩
  case round =>
    obtain ⟨x, rfl, HA, HB⟩ := hrel
    by_cases hlt : 0 ≤ x
    · have d0 : decide (x ≥ 0) = true := decide_eq_true hlt
      have d1 : decide (0 ≤ x) = true := decide_eq_true hlt
      have HLT := Aside0.mk hlt
      clear hlt
      obtain ⟨k1, rfl⟩ : ∃ k1, gk = k1 + 1 := ⟨gk - 1, by have := HA.out; have := HLT.out; omega⟩
      have hx : x = (k1 : Int) := by have := HA.out; omega
      have hidx := fun w => run_indexA (reachOf l0 l1 a2 x) (reachOf_length _ _ _ _) a3 HOK.out.2.1 HOK.out.2.2 w
      cases ht : (reachOf l0 l1 a2 x).getD a3.toNat false with
      | true =>
        rw [ht] at hidx
        have HT := Aside0.mk ht
        have HX := Aside0.mk hx
        clear ht hx
        go_wp2_with (go_at_call 74; refine (HCALL.out _ _ HB.out).mono ?_; rintro e w1 ⟨rfl, hb⟩)
        go_ret
        refine ⟨?_, HB.out.trans (hb.mono HB.out.size)⟩
        rw [← HA.out.2.2.2]
        show _ = Ending.returned (Value.int .i64 (if (reachOf l0 l1 a2 (k1 : Int)).getD a3.toNat false = true then (k1 : Int) else _))
        rw [← HX.out, if_pos HT.out]
        rfl
      | false =>
        rw [ht] at hidx
        have HT := Aside0.mk ht
        have HX := Aside0.mk hx
        clear ht hx
        go_wp2_with (go_at_call 74; refine (HCALL.out _ _ HB.out).mono ?_; rintro e w1 ⟨rfl, hb⟩)
        go_roundg k1
        case measure => omega
        case rel =>
          refine ⟨wrap64 (x - 1), rfl, ⟨by have := HA.out; have := HLT.out; unfold wrap64; omega, by have := HA.out; have := HLT.out; unfold wrap64; omega, by have := HA.out; have := HLT.out; unfold wrap64; omega, ?_⟩, ⟨HB.out.trans (hb.mono HB.out.size)⟩⟩
          rw [← HA.out.2.2.2]
          show _ = (if (reachOf l0 l1 a2 (k1 : Int)).getD a3.toNat false = true then (k1 : Int) else greatestDown l0 l1 a2 a3 k1)
          rw [← HX.out, if_neg (by rw [HT.out]; decide)]
    · have d0 : decide (x ≥ 0) = false := decide_eq_false hlt
      have d1 : decide (0 ≤ x) = false := decide_eq_false hlt
      have HLT := Aside0.mk hlt
      clear hlt
      obtain rfl : gk = 0 := by have := HA.out; have := HLT.out; omega
      go_wp2
      go_ret
      exact ⟨by rw [← HA.out.2.2.2]; rfl, HB.out⟩


/-! ### slices_Delete_int_int: function 65 (by hand: wip/inj) -/
theorem slices_Delete_int_int_clear {α : Type} {P : Program} (d : Kd α) {W : World} (base : Nat) (t e : TypeId) (z : Value) (bytes : Nat) (ht : P.underlying t = some (.slice e)) (hinfo : (P.info? e).map (fun i => (i.zero, i.size, i.bytes)) = some (some z, d.sz, bytes)) (hzs : z.cells.size = d.sz) (hone : ∀ u ∈ z.cells.toList, u.oneCell' = true)
    {g n c : Nat} {xs : List α} {ok : Nat → Prop} (HO : Kd.R d e W base ok (.slice (some ⟨g, 0, none⟩) n c) xs) (hc : n + 1 ≤ c) :
    ∃ w1, (∀ ty cc, (Builtin.clear_ #[t] ty #[.slice (some ⟨g, n * d.sz, none⟩) 1 cc]).run P W = .ok (.tuple #[]) w1) ∧ Kd.R d e w1 base ok (.slice (some ⟨g, 0, none⟩) n c) xs ∧ W.grownBy w1 (some g) := by
  obtain ⟨hn, hnc, _⟩ := Kd.R_reads' HO
  obtain ⟨hok, inner, hown, hr⟩ := HO
  have hin : inner.length = n * d.sz := by rw [hr.1, hn]
  rcases hown.2 with ⟨hv, _⟩ | ⟨g', cap', cur, hv, hb, hh, hle, hcm, hcs, htake⟩
  · cases hv
  injection hv with ha _ hc'
  injection ha with ha
  injection ha with hg
  subst hg; subst hc'
  rw [← hn] at htake hle
  obtain ⟨i0, hi, hiz⟩ := Option.map_eq_some_iff.1 hinfo
  simp only [Prod.mk.injEq] at hiz
  obtain ⟨hz0, hs0, _⟩ := hiz
  obtain ⟨vs, hvs⟩ : ∃ vs, vs = z.cells.toList := ⟨_, rfl⟩
  have hvl : vs.length = d.sz := by rw [hvs, Array.length_toList, hzs]
  have hfit : n * d.sz + vs.length ≤ cur.size := by rw [hvl, hcs, ← Nat.succ_mul]; exact Nat.mul_le_mul_right _ hc
  have hzc : (Builtin.zeroCells z.cells 1).toList = vs := by
    rw [hvs]
    simp [Builtin.zeroCells]
    apply List.ext_getElem
    · simp
    · intro i h1 h2
      simp at h1 h2
      simp only [List.getElem_map, List.getElem_range, Nat.mod_eq_of_lt h1, Array.getElem_toList]
      exact getElem!_pos _ _ _
  have hst := run_storeCells_cells (P := P) g (n * d.sz) vs 0 W (fun j hj => by rw [cell_of_row W g _ cur e (0, 0) hh]; simp; omega) (fun j _ => blk_frozen hh _) (by intro v hv; rw [hvs] at hv; exact hone v hv)
  rw [Nat.add_zero] at hst
  obtain ⟨cur', h3, h4, h5⟩ := setCells_row vs (n * d.sz) W cur hh hfit
  obtain ⟨s1, s2, s3, s4⟩ := setCells_same g vs (n * d.sz) W
  have hfar : ∀ k', k' ≠ g → (W.setCells g (n * d.sz) vs).heap[k']? = W.heap[k']? := fun k' hk' => setCells_far vs _ k' hk'
  refine ⟨W.setCells g (n * d.sz) vs, ?_, ⟨hok, inner, ⟨hown.1, .inr ⟨g, c, cur', by rw [← hn], hb, h3, by rw [← hn]; exact hle, hcm, by rw [h4, hcs], ?_⟩⟩, hr.imp_ ?_⟩, ⟨s1, s2, s3, by rw [s4]; exact Nat.le_refl _, fun k' _ hk' => hfar k' (fun he => hk' (by rw [he]))⟩⟩
  · intro ty cc
    simp [Builtin.clear_, run_underlying ht, zeroValue, typeInfo, hi, hz0, hzc, hst]
  · rw [← hn, h5, List.append_assoc, List.take_append_of_le_length (by rw [List.length_take, Array.length_toList]; omega), List.take_take, Nat.min_self]
    exact htake
  · exact fun p q hp => d.M_move (fun k' hk' => hfar k' (fun he => hk'.2 (by rw [he]; simp [Value.ownBlock]))) hp
theorem slices_Delete_int_int_law {P : Program} {ops : Array Oper} {o : Oper} {a : Act} {Q : Exit → Act → World → Prop} {Kc : Act → World → Prop} {E : Prop} {α : Type} (d : Kd α) {w0 W : World} (base : Nat) (hg : o.guard = none) (s x : Operand) (t e : TypeId) (ho : o.op = .call { callee := .builtin .append, args := #[s, x], argTypes := #[t, t] })
    (ht : P.underlying t = some (.slice e)) (hinfo : (P.info? e).map (·.size) = some d.sz) {g n c k m c2 : Nat} {A : Option Addr} {xs : List α} {ok : Nat → Prop}
    (hs : a.eval s = .slice (some ⟨g, 0, none⟩) k c) (hx : a.eval x = .slice A m c2) (hA : A = if c = k + 1 then some ⟨g, 0, none⟩ else (some (⟨g, 0, none⟩ : Addr)).map (·.add ((k + 1) * d.sz))) (hm : m = n - (k + 1))
    (HO : Kd.R d e W base ok (.slice (some ⟨g, 0, none⟩) n c) xs) (hk : k < n) (HB : Below base w0 W) (hbase : base ≤ W.heap.size)
    (h : ∀ w1, Kd.R d e w1 base ok (.slice (some ⟨g, 0, none⟩) (n - 1) c) (xs.eraseIdx k) → Below base w0 w1 → W.grownBy w1 (some g) → Kc (a.put o.dst (.slice (some ⟨g, 0, none⟩) (n - 1) c)) w1) :
    if Region.wanted o (yielded ops a.tmps) = true then Oper.wp P o a W Kc Q else E := by
  have hw : Region.wanted o (yielded ops a.tmps) = true := by simp [Region.wanted, hg]
  have := Kd.R_delete_step (P := P) (Q := Q) (Kc := Kc) (ops := ops) d base hw s x t e ho ht hinfo hs hx hA hm HO hk HB hbase h
  rw [if_pos hw] at this ⊢
  exact this
def slices_Delete_int_int.f (l0 : List (Int)) (a1 a2 : Int) : Option (List (Int)) := if 0 ≤ a1 ∧ a1 < (l0.length : Int) ∧ a2 = a1 + 1 then some (l0.eraseIdx a1.toNat) else none
set_option maxHeartbeats 8000000 in
set_option maxRecDepth 100000 in
theorem slices_Delete_int_int.calls (P0_ : Nat → Prop) (u9000_ : Value) (l0 : List (Int)) (a1 a2 : Int) (r : List (Int)) (w0 w : World) (hB : Below w0.heap.size w0 w) (ho0 : Kd.R (Kd.int .i64) 3 w w0.heap.size P0_ u9000_ l0) (h : slices_Delete_int_int.f l0 a1 a2 = some r) :
    Calls Try.prog 65 #[u9000_, .int .i64 a1, .int .i64 a2] w fun e w' => ∃ v0_ : Value, e = .returned v0_ ∧ Kd.R (Kd.int .i64) 3 w' w0.heap.size (fun k_ => (P0_ k_ ∨ w.heap.size ≤ k_)) v0_ r ∧ Below w0.heap.size w0 w' ∧ Kept w w' (fun k_ => P0_ k_) := by
  unfold slices_Delete_int_int.f at h
  by_cases hc : 0 ≤ a1 ∧ a1 < (l0.length : Int) ∧ a2 = a1 + 1
  case neg => rw [if_neg hc] at h; cases h
  rw [if_pos hc] at h
  obtain rfl := Option.some.inj h
  obtain ⟨h1, h2, rfl⟩ := hc
  obtain ⟨k, rfl⟩ : ∃ k : Nat, a1 = (k : Int) := ⟨a1.toNat, by omega⟩
  obtain ⟨j, hj, hj'⟩ : ∃ j : Nat, (k : Int) + 1 = (j : Int) ∧ j = k + 1 := ⟨k + 1, by omega, rfl⟩
  rw [hj, Int.toNat_natCast]
  obtain ⟨m, hm⟩ : ∃ m, l0.length = m + 1 := ⟨l0.length - 1, by omega⟩
  have hkl : k < l0.length := by omega
  obtain ⟨g, c, rfl, hgb, hgl, cells, hcells⟩ := Kd.R_form ho0 (by omega)
  obtain ⟨_, hnc, _⟩ := Kd.R_reads' ho0
  have hcm : c ≤ 9223372036854775807 := by
    obtain ⟨_, inner, hown, _⟩ := ho0
    rcases hown.2 with ⟨hv, _⟩ | ⟨g', cap', cur, hv, _, _, _, hcm, _⟩
    · cases hv
    · injection hv with _ _ hc'
      subst hc'
      exact hcm
  rw [hm] at ho0 hnc hkl ⊢
  have HO := Aside0.mk (show Kd.R (Kd.int .i64) 3 w w0.heap.size (fun k_ => (P0_ k_ ∨ w.heap.size ≤ k_)) (.slice (some ⟨g, 0, none⟩) (m + 1) c) l0 from Kd.R_mono ho0 (fun k_ hk => (.inl hk)))
  have HP0 : Aside0 (P0_ g) := ⟨ho0.1 g (by simp [Value.ownBlock])⟩
  have HK := Aside0.mk (Kept.refl w (fun k_ => P0_ k_))
  have HB := Aside0.mk hB
  have HM := Aside0.mk hm
  have HJ := Aside0.mk hj'
  have HKL := Aside0.mk hkl
  have HGB := Aside0.mk hgb
  have HGL := Aside0.mk hgl
  have HBL := Aside0.mk (below_size hB)
  have hij : k ≤ j := by omega
  have hlt : k < j := by omega
  have heq : ¬ k = j := by omega
  have hjm : j ≤ m + 1 := by omega
  have hjc : j ≤ c := by omega
  have hkc : k ≤ c := by omega
  have hmc : m ≤ c := by omega
  have hmc1 : m < c := by omega
  have hcne : ¬ c = m := by omega
  have hkm : k ≤ m := by omega
  have hjz : (j : Int) ≤ (m : Int) + 1 := by omega
  have hkz : (k : Int) ≤ (m : Int) + 1 := by omega
  have hmz : (m : Int) ≤ (m : Int) + 1 := by omega
  clear ho0 h1 h2 hj hj' hkl hcells hgb hgl hB hm
  have hinfoS : Aside0 ((Try.prog.info? 3).map (·.size) = some (Kd.sz (Kd.int .i64))) := ⟨by have := info3; rw [Option.map_eq_some_iff] at this ⊢; obtain ⟨i0, hi, hz⟩ := this; exact ⟨i0, hi, by simp only [Prod.mk.injEq] at hz; exact hz.2.1⟩⟩
  rcases Decidable.em (c = j) with hcj | hcj
  all_goals try subst hcj
  all_goals go_enter Try.func65, Try.ntmps65
  all_goals go_wp2_with fail
  all_goals go_region_law (apply slices_Delete_int_int_law (Kd.int .i64) (w0 := w0) (base := w0.heap.size) (s := .tmp 22) (x := .tmp 25) (t := 25) (e := 3) (k := k) (n := m + 1) (hg := rfl) (ho := rfl) (ht := Try.underlying25) (hinfo := hinfoS.out) (hk := HKL.out); (case HO => (with_reducible repeat (first | apply Kd.R_alloc | apply Kd.R_drewN | apply Kd.R_drew)); exact HO.out); (case HB => repeat (first | (with_reducible exact HB.out) | apply pw_below_drewN | apply below_drew1 | exact HB.out)); (case hbase => exact HBL.out); (case hs => first | rfl | (simp [Act.eval, Act.put]; done)); (case hx => first | rfl | (simp [Act.eval, Act.put]; rfl)); (case hA => first | exact (if_pos HJ.out).symm | (rw [if_neg (fun h_ => hcj (h_.trans HJ.out.symm)), Option.map_some, add_at, ← HJ.out, show Kd.sz (Kd.int .i64) = 1 from rfl]; first | rfl | (simp; done))); (case hm => first | (rw [← HJ.out]; done) | (have hj_ := HJ.out; omega)); intro w1 ho hb hg; have n0_ := Aside0.mk ho; have n1_ := Aside0.mk hb; have n2_ : Aside0 (Kept w w1 (fun k_ => P0_ k_)) := ⟨Kept.of_grown (S := (fun k_ => P0_ k_)) hg (by first | exact HK.out | exact Kept.drew HK.out | exact (HK.out)) (fun k_ e_ => by cases e_; exact .inl HP0.out)⟩; obtain ⟨w2, hcl0, ho2, hg2⟩ := slices_Delete_int_int_clear (P := Try.prog) (Kd.int .i64) w0.heap.size 25 3 _ _ Try.underlying25 info3 rfl (by simp [Value.cells, Value.oneCell']) n0_.out (show m + 1 - 1 + 1 ≤ c by omega); have hcl : ∀ ty cc, (Builtin.clear_ #[25] ty #[.slice (some ⟨g, m, none⟩) 1 cc]).run Try.prog w1 = .ok (.tuple #[]) w2 := (fun ty cc => by have h_ := hcl0 ty cc; simpa [show Kd.sz (Kd.int .i64) = 1 from rfl] using h_); have m0_ := Aside0.mk (show Kd.R (Kd.int .i64) 3 w2 w0.heap.size (fun k_ => (P0_ k_ ∨ w.heap.size ≤ k_)) (.slice (some ⟨g, 0, none⟩) m c) (l0.eraseIdx k) from ho2); have m1_ := Aside0.mk (Below.grown n1_.out hg2 (Nat.le_trans HBL.out (by exact hg.size)) (fun k_ hk_ => by cases hk_; exact HGB.out)); have m2_ : Aside0 (Kept w w2 (fun k_ => P0_ k_)) := ⟨Kept.of_grown (S := (fun k_ => P0_ k_)) hg2 n2_.out (fun k_ e_ => by cases e_; exact .inl HP0.out)⟩; clear HO HB HK n0_ n1_ n2_ ho hb hg hcl0 ho2 hg2; have HO := m0_; have HB := m1_; have HK := m2_; clear m0_ m1_ m2_)
  all_goals go_wp2
  all_goals go_ret
  all_goals exact ⟨_, rfl, HO.out, HB.out, HK.out⟩


/-! ### impl_Leg_90: function 90 (by hand: wip/inj) -/
theorem impl_Leg_90_clear {α : Type} {P : Program} (d : Kd α) {W : World} (base : Nat) (t e : TypeId) (z : Value) (bytes : Nat) (ht : P.underlying t = some (.slice e)) (hinfo : (P.info? e).map (fun i => (i.zero, i.size, i.bytes)) = some (some z, d.sz, bytes)) (hzs : z.cells.size = d.sz) (hone : ∀ u ∈ z.cells.toList, u.oneCell' = true)
    {g n c : Nat} {xs : List α} {ok : Nat → Prop} (HO : Kd.R d e W base ok (.slice (some ⟨g, 0, none⟩) n c) xs) (hc : n + 1 ≤ c) :
    ∃ w1, (∀ ty cc, (Builtin.clear_ #[t] ty #[.slice (some ⟨g, n * d.sz, none⟩) 1 cc]).run P W = .ok (.tuple #[]) w1) ∧ Kd.R d e w1 base ok (.slice (some ⟨g, 0, none⟩) n c) xs ∧ W.grownBy w1 (some g) := by
  obtain ⟨hn, hnc, _⟩ := Kd.R_reads' HO
  obtain ⟨hok, inner, hown, hr⟩ := HO
  have hin : inner.length = n * d.sz := by rw [hr.1, hn]
  rcases hown.2 with ⟨hv, _⟩ | ⟨g', cap', cur, hv, hb, hh, hle, hcm, hcs, htake⟩
  · cases hv
  injection hv with ha _ hc'
  injection ha with ha
  injection ha with hg
  subst hg; subst hc'
  rw [← hn] at htake hle
  obtain ⟨i0, hi, hiz⟩ := Option.map_eq_some_iff.1 hinfo
  simp only [Prod.mk.injEq] at hiz
  obtain ⟨hz0, hs0, _⟩ := hiz
  obtain ⟨vs, hvs⟩ : ∃ vs, vs = z.cells.toList := ⟨_, rfl⟩
  have hvl : vs.length = d.sz := by rw [hvs, Array.length_toList, hzs]
  have hfit : n * d.sz + vs.length ≤ cur.size := by rw [hvl, hcs, ← Nat.succ_mul]; exact Nat.mul_le_mul_right _ hc
  have hzc : (Builtin.zeroCells z.cells 1).toList = vs := by
    rw [hvs]
    simp [Builtin.zeroCells]
    apply List.ext_getElem
    · simp
    · intro i h1 h2
      simp at h1 h2
      simp only [List.getElem_map, List.getElem_range, Nat.mod_eq_of_lt h1, Array.getElem_toList]
      exact getElem!_pos _ _ _
  have hst := run_storeCells_cells (P := P) g (n * d.sz) vs 0 W (fun j hj => by rw [cell_of_row W g _ cur e (0, 0) hh]; simp; omega) (fun j _ => blk_frozen hh _) (by intro v hv; rw [hvs] at hv; exact hone v hv)
  rw [Nat.add_zero] at hst
  obtain ⟨cur', h3, h4, h5⟩ := setCells_row vs (n * d.sz) W cur hh hfit
  obtain ⟨s1, s2, s3, s4⟩ := setCells_same g vs (n * d.sz) W
  have hfar : ∀ k', k' ≠ g → (W.setCells g (n * d.sz) vs).heap[k']? = W.heap[k']? := fun k' hk' => setCells_far vs _ k' hk'
  refine ⟨W.setCells g (n * d.sz) vs, ?_, ⟨hok, inner, ⟨hown.1, .inr ⟨g, c, cur', by rw [← hn], hb, h3, by rw [← hn]; exact hle, hcm, by rw [h4, hcs], ?_⟩⟩, hr.imp_ ?_⟩, ⟨s1, s2, s3, by rw [s4]; exact Nat.le_refl _, fun k' _ hk' => hfar k' (fun he => hk' (by rw [he]))⟩⟩
  · intro ty cc
    simp [Builtin.clear_, run_underlying ht, zeroValue, typeInfo, hi, hz0, hzc, hst]
  · rw [← hn, h5, List.append_assoc, List.take_append_of_le_length (by rw [List.length_take, Array.length_toList]; omega), List.take_take, Nat.min_self]
    exact htake
  · exact fun p q hp => d.M_move (fun k' hk' => hfar k' (fun he => hk'.2 (by rw [he]; simp [Value.ownBlock]))) hp
theorem impl_Leg_90_law {P : Program} {ops : Array Oper} {o : Oper} {a : Act} {Q : Exit → Act → World → Prop} {Kc : Act → World → Prop} {E : Prop} {α : Type} (d : Kd α) {w0 W : World} (base : Nat) (hg : o.guard = none) (s x : Operand) (t e : TypeId) (ho : o.op = .call { callee := .builtin .append, args := #[s, x], argTypes := #[t, t] })
    (ht : P.underlying t = some (.slice e)) (hinfo : (P.info? e).map (·.size) = some d.sz) {g n c k m c2 : Nat} {A : Option Addr} {xs : List α} {ok : Nat → Prop}
    (hs : a.eval s = .slice (some ⟨g, 0, none⟩) k c) (hx : a.eval x = .slice A m c2) (hA : A = if c = k + 1 then some ⟨g, 0, none⟩ else (some (⟨g, 0, none⟩ : Addr)).map (·.add ((k + 1) * d.sz))) (hm : m = n - (k + 1))
    (HO : Kd.R d e W base ok (.slice (some ⟨g, 0, none⟩) n c) xs) (hk : k < n) (HB : Below base w0 W) (hbase : base ≤ W.heap.size)
    (h : ∀ w1, Kd.R d e w1 base ok (.slice (some ⟨g, 0, none⟩) (n - 1) c) (xs.eraseIdx k) → Below base w0 w1 → W.grownBy w1 (some g) → Kc (a.put o.dst (.slice (some ⟨g, 0, none⟩) (n - 1) c)) w1) :
    if Region.wanted o (yielded ops a.tmps) = true then Oper.wp P o a W Kc Q else E := by
  have hw : Region.wanted o (yielded ops a.tmps) = true := by simp [Region.wanted, hg]
  have := Kd.R_delete_step (P := P) (Q := Q) (Kc := Kc) (ops := ops) d base hw s x t e ho ht hinfo hs hx hA hm HO hk HB hbase h
  rw [if_pos hw] at this ⊢
  exact this
def impl_Leg_90.f (l0 : List (S66)) (a1 a2 : Int) : Option (List (S66)) := if 0 ≤ a1 ∧ a1 < (l0.length : Int) ∧ a2 = a1 + 1 then some (l0.eraseIdx a1.toNat) else none
set_option maxHeartbeats 8000000 in
set_option maxRecDepth 100000 in
theorem impl_Leg_90.calls (P0_ : Nat → Prop) (u9000_ : Value) (l0 : List (S66)) (a1 a2 : Int) (r : List (S66)) (w0 w : World) (hB : Below w0.heap.size w0 w) (ho0 : Kd.R k66 66 w w0.heap.size P0_ u9000_ l0) (h : impl_Leg_90.f l0 a1 a2 = some r) :
    Calls Try.prog 90 #[u9000_, .int .i64 a1, .int .i64 a2] w fun e w' => ∃ v0_ : Value, e = .returned v0_ ∧ Kd.R k66 66 w' w0.heap.size (fun k_ => (P0_ k_ ∨ w.heap.size ≤ k_)) v0_ r ∧ Below w0.heap.size w0 w' ∧ Kept w w' (fun k_ => P0_ k_) := by
  unfold impl_Leg_90.f at h
  by_cases hc : 0 ≤ a1 ∧ a1 < (l0.length : Int) ∧ a2 = a1 + 1
  case neg => rw [if_neg hc] at h; cases h
  rw [if_pos hc] at h
  obtain rfl := Option.some.inj h
  obtain ⟨h1, h2, rfl⟩ := hc
  obtain ⟨k, rfl⟩ : ∃ k : Nat, a1 = (k : Int) := ⟨a1.toNat, by omega⟩
  obtain ⟨j, hj, hj'⟩ : ∃ j : Nat, (k : Int) + 1 = (j : Int) ∧ j = k + 1 := ⟨k + 1, by omega, rfl⟩
  rw [hj, Int.toNat_natCast]
  obtain ⟨m, hm⟩ : ∃ m, l0.length = m + 1 := ⟨l0.length - 1, by omega⟩
  have hkl : k < l0.length := by omega
  obtain ⟨g, c, rfl, hgb, hgl, cells, hcells⟩ := Kd.R_form ho0 (by omega)
  obtain ⟨_, hnc, _⟩ := Kd.R_reads' ho0
  have hcm : c ≤ 9223372036854775807 := by
    obtain ⟨_, inner, hown, _⟩ := ho0
    rcases hown.2 with ⟨hv, _⟩ | ⟨g', cap', cur, hv, _, _, _, hcm, _⟩
    · cases hv
    · injection hv with _ _ hc'
      subst hc'
      exact hcm
  rw [hm] at ho0 hnc hkl ⊢
  have HO := Aside0.mk (show Kd.R k66 66 w w0.heap.size (fun k_ => (P0_ k_ ∨ w.heap.size ≤ k_)) (.slice (some ⟨g, 0, none⟩) (m + 1) c) l0 from Kd.R_mono ho0 (fun k_ hk => (.inl hk)))
  have HP0 : Aside0 (P0_ g) := ⟨ho0.1 g (by simp [Value.ownBlock])⟩
  have HK := Aside0.mk (Kept.refl w (fun k_ => P0_ k_))
  have HB := Aside0.mk hB
  have HM := Aside0.mk hm
  have HJ := Aside0.mk hj'
  have HKL := Aside0.mk hkl
  have HGB := Aside0.mk hgb
  have HGL := Aside0.mk hgl
  have HBL := Aside0.mk (below_size hB)
  have hij : k ≤ j := by omega
  have hlt : k < j := by omega
  have heq : ¬ k = j := by omega
  have hjm : j ≤ m + 1 := by omega
  have hjc : j ≤ c := by omega
  have hkc : k ≤ c := by omega
  have hmc : m ≤ c := by omega
  have hmc1 : m < c := by omega
  have hcne : ¬ c = m := by omega
  have hkm : k ≤ m := by omega
  have hjz : (j : Int) ≤ (m : Int) + 1 := by omega
  have hkz : (k : Int) ≤ (m : Int) + 1 := by omega
  have hmz : (m : Int) ≤ (m : Int) + 1 := by omega
  clear ho0 h1 h2 hj hj' hkl hcells hgb hgl hB hm
  have hinfoS : Aside0 ((Try.prog.info? 66).map (·.size) = some (Kd.sz k66)) := ⟨by have := info66; rw [Option.map_eq_some_iff] at this ⊢; obtain ⟨i0, hi, hz⟩ := this; exact ⟨i0, hi, by simp only [Prod.mk.injEq] at hz; exact hz.2.1⟩⟩
  rcases Decidable.em (c = j) with hcj | hcj
  all_goals try subst hcj
  all_goals go_enter Try.func90, Try.ntmps90
  all_goals go_wp2_with fail
  all_goals go_region_law (apply impl_Leg_90_law k66 (w0 := w0) (base := w0.heap.size) (s := .tmp 22) (x := .tmp 25) (t := 24) (e := 66) (k := k) (n := m + 1) (hg := rfl) (ho := rfl) (ht := Try.underlying24) (hinfo := hinfoS.out) (hk := HKL.out); (case HO => (with_reducible repeat (first | apply Kd.R_alloc | apply Kd.R_drewN | apply Kd.R_drew)); exact HO.out); (case HB => repeat (first | (with_reducible exact HB.out) | apply pw_below_drewN | apply below_drew1 | exact HB.out)); (case hbase => exact HBL.out); (case hs => first | rfl | (simp [Act.eval, Act.put]; done)); (case hx => first | rfl | (simp [Act.eval, Act.put]; rfl)); (case hA => first | exact (if_pos HJ.out).symm | (rw [if_neg (fun h_ => hcj (h_.trans HJ.out.symm)), Option.map_some, add_at, ← HJ.out, show Kd.sz k66 = 5 from rfl]; first | rfl | (simp; done))); (case hm => first | (rw [← HJ.out]; done) | (have hj_ := HJ.out; omega)); intro w1 ho hb hg; have n0_ := Aside0.mk ho; have n1_ := Aside0.mk hb; have n2_ : Aside0 (Kept w w1 (fun k_ => P0_ k_)) := ⟨Kept.of_grown (S := (fun k_ => P0_ k_)) hg (by first | exact HK.out | exact Kept.drew HK.out | exact (HK.out)) (fun k_ e_ => by cases e_; exact .inl HP0.out)⟩; obtain ⟨w2, hcl0, ho2, hg2⟩ := impl_Leg_90_clear (P := Try.prog) k66 w0.heap.size 24 66 _ _ Try.underlying24 info66 rfl (by simp [Value.cells, Value.oneCell']) n0_.out (show m + 1 - 1 + 1 ≤ c by omega); have hcl : ∀ ty cc, (Builtin.clear_ #[24] ty #[.slice (some ⟨g, m * 5, none⟩) 1 cc]).run Try.prog w1 = .ok (.tuple #[]) w2 := (fun ty cc => by have h_ := hcl0 ty cc; simpa [show Kd.sz k66 = 5 from rfl] using h_); have m0_ := Aside0.mk (show Kd.R k66 66 w2 w0.heap.size (fun k_ => (P0_ k_ ∨ w.heap.size ≤ k_)) (.slice (some ⟨g, 0, none⟩) m c) (l0.eraseIdx k) from ho2); have m1_ := Aside0.mk (Below.grown n1_.out hg2 (Nat.le_trans HBL.out (by exact hg.size)) (fun k_ hk_ => by cases hk_; exact HGB.out)); have m2_ : Aside0 (Kept w w2 (fun k_ => P0_ k_)) := ⟨Kept.of_grown (S := (fun k_ => P0_ k_)) hg2 n2_.out (fun k_ e_ => by cases e_; exact .inl HP0.out)⟩; clear HO HB HK n0_ n1_ n2_ ho hb hg hcl0 ho2 hg2; have HO := m0_; have HB := m1_; have HK := m2_; clear m0_ m1_ m2_)
  all_goals go_wp2
  all_goals go_ret
  all_goals exact ⟨_, rfl, HO.out, HB.out, HK.out⟩


/-! ### impl_Leg_91: function 91 (by hand: wip/inj) -/
def impl_Leg_91.f (l0 : List (S66)) : Option (List (S66)) := if l0.length * 40 ≤ 140737488355328 then some l0 else none
set_option maxHeartbeats 8000000 in
set_option maxRecDepth 100000 in
theorem impl_Leg_91.calls (A0 : Option Addr) (c0 : Nat) (l0 : List (S66)) (r : List (S66)) (w : World) (hr0 : Kd.C k66 w A0 l0.length l0) (hc0 : l0.length ≤ c0) (h : impl_Leg_91.f l0 = some r) :
    Calls Try.prog 91 #[.slice A0 l0.length c0] w fun e w' => ∃ v0_ : Value, e = .returned v0_ ∧ Kd.R k66 66 w' w.heap.size (fun _ => True) v0_ r ∧ Below w.heap.size w w' := by
  unfold impl_Leg_91.f at h
  by_cases hl : l0.length * 40 ≤ 140737488355328
  case neg => rw [if_neg hl] at h; cases h
  rw [if_pos hl] at h
  obtain rfl := Option.some.inj h
  have HL := Aside0.mk hl
  have HR0 := Aside0.mk hr0
  have HC0 := Aside0.mk hc0
  clear h hl
  have HB := Aside0.mk (Below.refl w.heap.size w)
  have qeq : ∀ (w : World) (a : Option Addr) (n c n' c' : Nat), (binOp .eql 24 (.slice a n c) (.slice none n' c')).run Try.prog w = .ok (.bool a.isNone) w := fun w a n c n' c' => by
    have hh : ∀ d : Nat, (Op.equalIn (d + 1) 24 (.slice a n c) (.slice none n' c')).run Try.prog w = .ok a.isNone w := fun d => by
      cases a <;> simp [Op.equalIn, run_underlying Try.underlying24]
    simp only [binOp]
    simp [Op.equal, Op.maxDepth, hh 9999]
  cases A0 with
  | none =>
    have h0 : l0.length = 0 := by
      rcases Nat.eq_zero_or_pos l0.length with h0 | h0
      · exact h0
      · obtain ⟨ad, e, _⟩ := hr0.2.2 h0
        cases e
    obtain rfl := List.length_eq_zero_iff.1 h0
    clear hr0 hc0 h0
    go_enter Try.func91, Try.ntmps91
    go_wp2
    go_ret
    exact ⟨_, rfl, Kd.R_nil _ _ _ _ _, by repeat (first | apply pw_below_drewN | apply below_drew1 | exact Below.refl _ _)⟩
  | some ad =>
    clear hr0 hc0
    go_enter Try.func91, Try.ntmps91
    go_wp2_with (first | ((with_reducible refine gate_dst (N := 5) rfl ?_); refine Kd.R_lit k66 _ 66 ?hg (N := 5) ?hd (xs := ([] : List (S66))) (inner := []) (ok := fun _ => True) (okp := fun _ => True) ?hr ?hp (fun _ hk => hk) trivial (Below.refl _ _) (Nat.le_refl _) (by simp) ?_; (case hd => rfl); (case hg => rfl); (case hr => first | (go_simp; done) | (go_simp; rfl)); (case hp => exact (Reps.none _ _)); intro v244 w7 ho8 hb hg_ hnew_; clear hg_ hnew_; have n0_ := Aside0.mk (Kd.R_lower ho8 (below_size (by repeat (first | (with_reducible exact HB.out) | apply pw_below_drewN | apply below_drew1 | exact HB.out)))); have n1_ := Aside0.mk (below_step (by repeat (first | (with_reducible exact HB.out) | apply pw_below_drewN | apply below_drew1 | exact HB.out)) hb); clear HB; have HO := n0_; have HB := n1_; clear n0_ n1_; clear hb ho8) | ((with_reducible refine gate_builtin (b := .append) (xs := #[.tmp 5, .tmp 6]) rfl ?_); at_builtin; refine Kd.R_append_rows k66 (w0 := w) w.heap.size rfl (.tmp 5) (.tmp 6) 24 66 ((.agg #[(.int .i64 0), (.int .i64 0), (.int .i64 0), (.int .i64 0), (.int .i64 0)])) 40 rfl Try.underlying24 info66 rfl (by decide) (by decide) _ ([] : List (S66)) l0 _ _ _ (fun _ => True) (fun _ => False) rfl rfl ?aO ?aR (fun _ _ h => h) (fun _ h => h.elim) ?aF ?aB ?aS ?aL ?_; (case aR => repeat (first | exact (Kd.C_below HR0.out HB.out) | (with_reducible refine Kd.C_alloc ?_ _) | (with_reducible refine Kd.C_drewN ?_ _) | (with_reducible refine Kd.C_drew ?_))); (case aB => exact (by repeat (first | (with_reducible exact HB.out) | apply pw_below_drewN | apply below_drew1 | exact HB.out))); (case aF => exact (fun _ _ => trivial)); (case aO => exact (by (with_reducible repeat (first | apply Kd.R_alloc | apply Kd.R_drewN | apply Kd.R_drew)); exact HO.out)); (case aS => exact (below_size (by repeat (first | (with_reducible exact HB.out) | apply pw_below_drewN | apply below_drew1 | exact HB.out)))); (case aL => have hL := HL.out; rw [List.length_nil, Nat.zero_add]; exact hL); intro v247 w9 ho hb hg hat; rw [List.nil_append] at ho; have n0_ := Aside0.mk hb; have n1_ := Aside0.mk ho; clear HB HO; have HB := n0_; have HO := n1_; clear n0_ n1_; clear ho hb hg hat))
    go_ret
    exact ⟨_, rfl, HO.out, by repeat (first | (with_reducible exact HB.out) | apply pw_below_drewN | apply below_drew1 | exact HB.out)⟩


/-! ### impl_leaving: function 66 -/
def impl_leaving.f (l0 : List (S66)) (a1 : Int) : Option ((List (S66))) := (impl_Leg_91.f l0).bind fun t248 => ((impl_Leg_90.f t248 a1 (wrap64 (a1 + 1))).bind fun t251 => (some t251))
set_option maxHeartbeats 8000000 in
set_option maxRecDepth 100000 in
theorem impl_leaving.calls (A0 : Option Addr) (c0 : Nat) (l0 : List (S66)) (a1 : Int) (r : List (S66)) (w : World) (hr0 : Kd.C k66 w A0 l0.length l0) (hc0 : l0.length ≤ c0) (h : impl_leaving.f l0 a1 = some r) :
    Calls Try.prog 66 #[.slice A0 l0.length c0, .int .i64 a1] w fun e w' => ∃ v0_ : Value, e = .returned (v0_) ∧ Kd.R k66 66 w' w.heap.size (fun _ => True) v0_ r ∧ Below w.heap.size w w' := by
  have HR0 := Aside0.mk hr0
  have HC0 := Aside0.mk hc0
  clear hr0 hc0
  have HB := Aside0.mk (Below.refl w.heap.size w)
  have H : ((impl_Leg_91.f l0).bind fun t248 => ((impl_Leg_90.f t248 a1 (wrap64 (a1 + 1))).bind fun t251 => (some t251))) = some r := h
  clear h
  replace H := Option.bind_eq_some_iff.mp H
  obtain ⟨t248, A30, H⟩ := H
  replace H : ((impl_Leg_90.f t248 a1 (wrap64 (a1 + 1))).bind fun t251 => (some t251)) = some r := H
  have A3 := Aside0.mk A30
  clear A30
  replace H := Option.bind_eq_some_iff.mp H
  obtain ⟨t251, A40, H⟩ := H
  replace H : (some t251) = some r := H
  have A4 := Aside0.mk A40
  clear A40
  obtain rfl := Option.some.inj H
  go_enter Try.func66, Try.ntmps66
  go_wp2_with (first | ((with_reducible refine gate_callee (f := 91) rfl ?_); refine goesL_ (some 6) rfl rfl Try.func91 (by kernel_rfl) rfl #[.slice A0 l0.length c0] rfl (by (try simp only [List.map_toArray, List.map_cons, List.map_nil]); first | done | rfl | (simp only [List.length_drop, List.length_take]; rfl)) ?_; (with_reducible refine (impl_Leg_91.calls _ _ l0 t248 _ ?side1 ?side2 A3.out).mono ?_); (case side1 => repeat (first | exact HR0.out | (with_reducible refine Kd.C_alloc ?_ _) | (with_reducible refine Kd.C_drewN ?_ _) | (with_reducible refine Kd.C_drew ?_))); (case side2 => exact HC0.out); rintro e w5 ⟨v249, rfl, ho0, hb⟩; refine ⟨_, rfl, ?_⟩; have n0_ := Aside0.mk (Kd.R_lower ho0 (below_size (by repeat (first | (with_reducible first | exact HB.out | apply below_alloc | apply pw_below_drewN | apply below_drew1) | exact HB.out)))); have n1_ := Aside0.mk (below_step (by repeat (first | (with_reducible first | exact HB.out | apply below_alloc | apply pw_below_drewN | apply below_drew1) | exact HB.out)) hb); clear HB; have HO250 := n0_; have HB := n1_; clear n0_ n1_; (try clear hb); (try clear hb2); (try clear hk); (try clear hi); (try clear ho0); obtain ⟨Ao6, co6, eo6⟩ := Kd.R_slice HO250.out; subst eo6) | ((with_reducible refine gate_callee (f := 90) rfl ?_); refine goesL_ (some 10) rfl rfl Try.func90 (by kernel_rfl) rfl #[.slice Ao6 t248.length co6, .int .i64 a1, .int .i64 (wrap64 (a1 + 1))] rfl (by (try simp only [List.map_toArray, List.map_cons, List.map_nil]); first | done | rfl | (simp only [List.length_drop, List.length_take]; rfl)) ?_; (with_reducible refine (impl_Leg_90.calls (fun k_ => some k_ = (.slice Ao6 t248.length co6 : Value).ownBlock) (.slice Ao6 t248.length co6) t248 a1 (wrap64 (a1 + 1)) t251 w _ ?side1 ?side2 A4.out).mono ?_); (case side1 => repeat (first | (with_reducible first | exact HB.out | apply below_alloc | apply pw_below_drewN | apply below_drew1) | exact HB.out)); (case side2 => exact Kd.R_tight rfl HO250.out); rintro e w7 ⟨v252, rfl, ho0, hb, hkp⟩; refine ⟨_, rfl, ?_⟩; have n0_ := Aside0.mk (Kd.R_mono (ok' := fun k_ => True) ho0 (fun k_ hk_ => trivial)); have n1_ := Aside0.mk (hb); clear HB; clear HO250; have HO253 := n0_; have HB := n1_; clear n0_ n1_; (try clear hb); (try clear hkp); (try clear ho0)))
  go_ret
  exact ⟨_, by first | rfl | (simp [errW_none, errW_some] <;> rfl) | (simp [*, errW_none, errW_some] <;> rfl), by (with_reducible repeat (first | apply Kd.R_alloc | apply Kd.R_drewN | apply Kd.R_drew)); exact HO253.out, by repeat (first | (with_reducible first | exact HB.out | apply below_alloc | apply pw_below_drewN | apply below_drew1) | exact HB.out)⟩

/-! ### impl_NarrowPlaces: function 25 -/
def impl_NarrowPlaces.l0 : Nat → List (S66) → List Int → Int → Int → Int → List Int → Int → Int → Option (List Int × Bool)
  | 0, _, _, _, _, _, _, _, _ => none
  | k + 1, x0, x1, x2, x3, x10, x11, x28, x29 => if x29 < x28 then ((slices_Clone_int_int.f x1).bind fun t256 => ((slices_Delete_int_int.f t256 x29 (wrap64 (x29 + 1))).bind fun t259 => (if 0 ≤ x29 then (if x29 < (x1.length : Int) then (if (rd x1 x29) = x10 then ((impl_leaving.f x0 x29).bind fun t263 => ((impl_greatest.f t263 t259 x2 x3).bind fun t266 => (if t266 < x10 then (if x11.length < 17592186044416 then (impl_NarrowPlaces.l0 k x0 x1 x2 x3 x10 (x11 ++ [x29]) x28 (wrap64 (x29 + 1))) else (none)) else (impl_NarrowPlaces.l0 k x0 x1 x2 x3 x10 x11 x28 (wrap64 (x29 + 1)))))) else (impl_NarrowPlaces.l0 k x0 x1 x2 x3 x10 x11 x28 (wrap64 (x29 + 1)))) else (none)) else (none)))) else (some (x11, true))
def impl_NarrowPlaces.f (k : Nat) (l0 : List (S66)) (l1 : List Int) (a2 : Int) (a3 : Int) : Option (List Int × Bool) := (impl_areEnds.f k l0 l1 a2 a3).bind fun t254 => (if t254 = true then ((impl_greatest.f l0 l1 a2 a3).bind fun t255 => (if t255 = (-1) then (some (([] : List Int), false)) else (impl_NarrowPlaces.l0 k l0 l1 a2 a3 t255 ([] : List Int) (l0.length : Int) 0))) else (some (([] : List Int), false)))
theorem impl_NarrowPlaces.mono_l : ∀ k, (∀ y0 y1 y2 y3 y4 y5 y6 y7, LeO (impl_NarrowPlaces.l0 k y0 y1 y2 y3 y4 y5 y6 y7) (impl_NarrowPlaces.l0 (k + 1) y0 y1 y2 y3 y4 y5 y6 y7))
  | 0 => fun _ _ _ _ _ _ _ _ r h => by simp [impl_NarrowPlaces.l0] at h
  | k + 1 => by
    have ih0 := impl_NarrowPlaces.mono_l k
    · intro y0 y1 y2 y3 y4 y5 y6 y7
      unfold impl_NarrowPlaces.l0
      repeat' first
      | (with_reducible exact ih0 _ _ _ _ _ _ _ _)
      | (with_reducible exact impl_areEnds.mono _ _ _ _ _)
      | (with_reducible exact LeO.refl _)
      | (with_reducible exact LeO.none _)
      | (with_reducible refine LeO.ite ?_ ?_)
      | (with_reducible refine LeO.bind ?_ (fun _ => ?_))
      | exact ih0 _ _ _ _ _ _ _ _
      | exact impl_areEnds.mono _ _ _ _ _
      | exact LeO.none _
      | refine LeO.ite ?_ ?_
      | refine LeO.bind ?_ (fun _ => ?_)
theorem impl_NarrowPlaces.mono : ∀ a0 a1 a2 a3 k, LeO (impl_NarrowPlaces.f k a0 a1 a2 a3) (impl_NarrowPlaces.f (k + 1) a0 a1 a2 a3) := by
  intro a0 a1 a2 a3 k
  have ih0 := impl_NarrowPlaces.mono_l k
  unfold impl_NarrowPlaces.f
  repeat' first
      | (with_reducible exact ih0 _ _ _ _ _ _ _ _)
      | (with_reducible exact impl_areEnds.mono _ _ _ _ _)
      | (with_reducible exact LeO.refl _)
      | (with_reducible exact LeO.none _)
      | (with_reducible refine LeO.ite ?_ ?_)
      | (with_reducible refine LeO.bind ?_ (fun _ => ?_))
      | exact ih0 _ _ _ _ _ _ _ _
      | exact impl_areEnds.mono _ _ _ _ _
      | exact LeO.none _
      | refine LeO.ite ?_ ?_
      | refine LeO.bind ?_ (fun _ => ?_)
set_option maxHeartbeats 8000000 in
set_option maxRecDepth 100000 in
theorem impl_NarrowPlaces.calls (k : Nat) (A0 : Option Addr) (c0 : Nat) (l0 : List (S66)) (A1 : Option Addr) (c1 : Nat) (l1 : List Int) (a2 : Int) (a3 : Int) (r1 : List Int) (r2 : Bool) (w : World) (hr0 : Kd.C k66 w A0 l0.length l0) (hc0 : l0.length ≤ c0) (hr1 : Kd.C (Kd.int .i64) w A1 l1.length l1) (hc1 : l1.length ≤ c1) (h : impl_NarrowPlaces.f k l0 l1 a2 a3 = some (r1, r2)) :
    Calls Try.prog 25 #[.slice A0 l0.length c0, .slice A1 l1.length c1, .int .i64 a2, .int .i64 a3] w fun e w' => ∃ v0_ : Value, e = .returned (.tuple #[v0_, .bool r2]) ∧ Kd.R (Kd.int .i64) 3 w' w.heap.size (fun _ => True) v0_ r1 ∧ Below w.heap.size w w' := by
  have HR0 := Aside0.mk hr0
  have HC0 := Aside0.mk hc0
  clear hr0 hc0
  have HR1 := Aside0.mk hr1
  have HC1 := Aside0.mk hc1
  clear hr1 hc1
  have HB := Aside0.mk (Below.refl w.heap.size w)
  have H : ((impl_areEnds.f k l0 l1 a2 a3).bind fun t254 => (if t254 = true then ((impl_greatest.f l0 l1 a2 a3).bind fun t255 => (if t255 = (-1) then (some (([] : List Int), false)) else (impl_NarrowPlaces.l0 k l0 l1 a2 a3 t255 ([] : List Int) (l0.length : Int) 0))) else (some (([] : List Int), false)))) = some (r1, r2) := h
  clear h
  replace H := Option.bind_eq_some_iff.mp H
  obtain ⟨t254, A50, H⟩ := H
  replace H : (if t254 = true then ((impl_greatest.f l0 l1 a2 a3).bind fun t255 => (if t255 = (-1) then (some (([] : List Int), false)) else (impl_NarrowPlaces.l0 k l0 l1 a2 a3 t255 ([] : List Int) (l0.length : Int) 0))) else (some (([] : List Int), false))) = some (r1, r2) := H
  have A5 := Aside0.mk A50
  clear A50
  by_cases c6 : t254 = true
  · subst c6
    have H1 : ((impl_greatest.f l0 l1 a2 a3).bind fun t255 => (if t255 = (-1) then (some (([] : List Int), false)) else (impl_NarrowPlaces.l0 k l0 l1 a2 a3 t255 ([] : List Int) (l0.length : Int) 0))) = some (r1, r2) := by rw [if_pos rfl] at H; exact H
    clear H
    have H := H1
    clear H1
    replace H := Option.bind_eq_some_iff.mp H
    obtain ⟨t255, A70, H⟩ := H
    replace H : (if t255 = (-1) then (some (([] : List Int), false)) else (impl_NarrowPlaces.l0 k l0 l1 a2 a3 t255 ([] : List Int) (l0.length : Int) 0)) = some (r1, r2) := H
    have A7 := Aside0.mk A70
    clear A70
    by_cases c8 : t255 = (-1)
    · rw [if_pos c8] at H
      have c8b0 : (t255 == (-1)) = true := beq_iff_eq.mpr c8
      have c8b1 : (t255 != (-1)) = false := bne_eq_false_iff_eq.mpr c8
      clear c8
      simp only [Option.some.injEq, Prod.mk.injEq] at H
      obtain ⟨rfl, rfl⟩ := H
      go_enter Try.func25, Try.ntmps25
      go_wp2_with (first | ((with_reducible refine gate_callee (f := 43) rfl ?_); refine goesL_ (some 18) rfl rfl Try.func43 (by kernel_rfl) rfl #[.slice A0 l0.length c0, .slice A1 l1.length c1, .int .i64 a2, .int .i64 a3] rfl (by (try simp only [List.map_toArray, List.map_cons, List.map_nil]); first | done | rfl | (simp only [List.length_drop, List.length_take]; rfl)) ?_; (with_reducible refine (impl_areEnds.calls k _ _ l0 _ _ l1 a2 a3 true _ ?side1 ?side2 ?side3 ?side4 A5.out).mono ?_); (case side1 => repeat (first | exact HR0.out | (with_reducible refine Kd.C_alloc ?_ _) | (with_reducible refine Kd.C_drewN ?_ _) | (with_reducible refine Kd.C_drew ?_))); (case side2 => exact HC0.out); (case side3 => repeat (first | exact HR1.out | (with_reducible refine Kd.C_alloc ?_ _) | (with_reducible refine Kd.C_drewN ?_ _) | (with_reducible refine Kd.C_drew ?_))); (case side4 => exact HC1.out); rintro e w9 ⟨rfl, hb⟩; refine ⟨_, rfl, ?_⟩; have n0_ := Aside0.mk (below_step (by repeat (first | (with_reducible first | exact HB.out | apply below_alloc | apply pw_below_drewN | apply below_drew1) | exact HB.out)) hb); clear HB; have HB := n0_; clear n0_; (try clear hb); (try clear hb2); (try clear hk); (try clear hi)) | ((with_reducible refine gate_callee (f := 56) rfl ?_); refine goesL_ (some 24) rfl rfl Try.func56 (by kernel_rfl) rfl #[.slice A0 l0.length c0, .slice A1 l1.length c1, .int .i64 a2, .int .i64 a3] rfl (by (try simp only [List.map_toArray, List.map_cons, List.map_nil]); first | done | rfl | (simp only [List.length_drop, List.length_take]; rfl)) ?_; (with_reducible refine (impl_greatest.calls _ _ l0 _ _ l1 a2 a3 t255 _ ?side1 ?side2 ?side3 ?side4 A7.out).mono ?_); (case side1 => repeat (first | exact (Kd.C_below HR0.out HB.out) | (with_reducible refine Kd.C_alloc ?_ _) | (with_reducible refine Kd.C_drewN ?_ _) | (with_reducible refine Kd.C_drew ?_))); (case side2 => exact HC0.out); (case side3 => repeat (first | exact (Kd.C_below HR1.out HB.out) | (with_reducible refine Kd.C_alloc ?_ _) | (with_reducible refine Kd.C_drewN ?_ _) | (with_reducible refine Kd.C_drew ?_))); (case side4 => exact HC1.out); rintro e w10 ⟨rfl, hb⟩; refine ⟨_, rfl, ?_⟩; have n0_ := Aside0.mk (below_step (by repeat (first | (with_reducible first | exact HB.out | apply below_alloc | apply pw_below_drewN | apply below_drew1) | exact HB.out)) hb); clear HB; have HB := n0_; clear n0_; (try clear hb); (try clear hb2); (try clear hk); (try clear hi)))
      go_ret2
      exact ⟨_, by first | rfl | (simp [errW_none, errW_some] <;> rfl) | (simp [*, errW_none, errW_some] <;> rfl), by first | exact Kd.R_nil _ _ _ _ _ | exact Kd.N_nil _ _ _ _ _ | exact Kd.V_nil _ _ _ _ _ | exact Kd.Q_nil _ _ _ _ _ | exact Kd.S_nil _ _ _ _ _, by repeat (first | (with_reducible first | exact HB.out | apply below_alloc | apply pw_below_drewN | apply below_drew1) | exact HB.out)⟩
    · rw [if_neg c8] at H
      have c8b0 : (t255 == (-1)) = false := beq_eq_false_iff_ne.mpr c8
      have c8b1 : (t255 != (-1)) = true := bne_iff_ne.mpr c8
      have H' := Aside0.mk H
      clear H
      go_enter Try.func25, Try.ntmps25
      go_wp2_with (first | ((with_reducible refine gate_callee (f := 43) rfl ?_); refine goesL_ (some 18) rfl rfl Try.func43 (by kernel_rfl) rfl #[.slice A0 l0.length c0, .slice A1 l1.length c1, .int .i64 a2, .int .i64 a3] rfl (by (try simp only [List.map_toArray, List.map_cons, List.map_nil]); first | done | rfl | (simp only [List.length_drop, List.length_take]; rfl)) ?_; (with_reducible refine (impl_areEnds.calls k _ _ l0 _ _ l1 a2 a3 true _ ?side1 ?side2 ?side3 ?side4 A5.out).mono ?_); (case side1 => repeat (first | exact HR0.out | (with_reducible refine Kd.C_alloc ?_ _) | (with_reducible refine Kd.C_drewN ?_ _) | (with_reducible refine Kd.C_drew ?_))); (case side2 => exact HC0.out); (case side3 => repeat (first | exact HR1.out | (with_reducible refine Kd.C_alloc ?_ _) | (with_reducible refine Kd.C_drewN ?_ _) | (with_reducible refine Kd.C_drew ?_))); (case side4 => exact HC1.out); rintro e w11 ⟨rfl, hb⟩; refine ⟨_, rfl, ?_⟩; have n0_ := Aside0.mk (below_step (by repeat (first | (with_reducible first | exact HB.out | apply below_alloc | apply pw_below_drewN | apply below_drew1) | exact HB.out)) hb); clear HB; have HB := n0_; clear n0_; (try clear hb); (try clear hb2); (try clear hk); (try clear hi)) | ((with_reducible refine gate_callee (f := 56) rfl ?_); refine goesL_ (some 24) rfl rfl Try.func56 (by kernel_rfl) rfl #[.slice A0 l0.length c0, .slice A1 l1.length c1, .int .i64 a2, .int .i64 a3] rfl (by (try simp only [List.map_toArray, List.map_cons, List.map_nil]); first | done | rfl | (simp only [List.length_drop, List.length_take]; rfl)) ?_; (with_reducible refine (impl_greatest.calls _ _ l0 _ _ l1 a2 a3 t255 _ ?side1 ?side2 ?side3 ?side4 A7.out).mono ?_); (case side1 => repeat (first | exact (Kd.C_below HR0.out HB.out) | (with_reducible refine Kd.C_alloc ?_ _) | (with_reducible refine Kd.C_drewN ?_ _) | (with_reducible refine Kd.C_drew ?_))); (case side2 => exact HC0.out); (case side3 => repeat (first | exact (Kd.C_below HR1.out HB.out) | (with_reducible refine Kd.C_alloc ?_ _) | (with_reducible refine Kd.C_drewN ?_ _) | (with_reducible refine Kd.C_drew ?_))); (case side4 => exact HC1.out); rintro e w12 ⟨rfl, hb⟩; refine ⟨_, rfl, ?_⟩; have n0_ := Aside0.mk (below_step (by repeat (first | (with_reducible first | exact HB.out | apply below_alloc | apply pw_below_drewN | apply below_drew1) | exact HB.out)) hb); clear HB; have HB := n0_; clear n0_; (try clear hb); (try clear hb2); (try clear hk); (try clear hi)))
      go_loopg [11, 29] k (fun kq v11 v29 w' => ∃ (x11_1 : List Int) (x29_1 : Int), v29 = .int .i64 x29_1 ∧ Aside0 (impl_NarrowPlaces.l0 kq l0 l1 a2 a3 t255 x11_1 (l0.length : Int) x29_1 = some (r1, r2)) ∧ Aside0 (kq ≤ k) ∧ Aside0 (Kd.R (Kd.int .i64) 3 w' w.heap.size (fun _ => True) v11 x11_1) ∧ Aside0 (Below w.heap.size w w'))
      case atStart => exact ⟨(([] : List Int)), (0), (by first | rfl | (simp; done) | (simp [*]; done)), H', ⟨Nat.le_refl _⟩, ⟨by first | exact Kd.R_nil _ _ _ _ _ | exact Kd.N_nil _ _ _ _ _ | exact Kd.V_nil _ _ _ _ _ | exact Kd.Q_nil _ _ _ _ _ | exact Kd.S_nil _ _ _ _ _⟩, ⟨by repeat (first | (with_reducible first | exact HB.out | apply below_alloc | apply pw_below_drewN | apply below_drew1) | exact HB.out)⟩⟩
      case round =>
        clear H'
        try clear c1
        try clear c2
        try clear p2
        try clear c4
        try clear c5
        try clear c6
        try clear c8
        try clear c8b0
        try clear c8b1
        obtain ⟨x11_1, x29_1, rfl, HA, HK1, HO_11, HB⟩ := hrel
        cases gk with
        | zero => exact absurd HA.out (by simp [impl_NarrowPlaces.l0])
        | succ k1 =>
          have H := HA.out
          clear HA
          simp only [impl_NarrowPlaces.l0] at H
          by_cases c13 : x29_1 < (l0.length : Int)
          · rw [if_pos c13] at H
            have c13b0 : decide (x29_1 < (l0.length : Int)) = true := decide_eq_true c13
            clear c13
            replace H := Option.bind_eq_some_iff.mp H
            obtain ⟨t256, A140, H⟩ := H
            replace H : ((slices_Delete_int_int.f t256 x29_1 (wrap64 (x29_1 + 1))).bind fun t259 => (if 0 ≤ x29_1 then (if x29_1 < (l1.length : Int) then (if (rd l1 x29_1) = t255 then ((impl_leaving.f l0 x29_1).bind fun t263 => ((impl_greatest.f t263 t259 a2 a3).bind fun t266 => (if t266 < t255 then (if x11_1.length < 17592186044416 then (impl_NarrowPlaces.l0 k1 l0 l1 a2 a3 t255 (x11_1 ++ [x29_1]) (l0.length : Int) (wrap64 (x29_1 + 1))) else (none)) else (impl_NarrowPlaces.l0 k1 l0 l1 a2 a3 t255 x11_1 (l0.length : Int) (wrap64 (x29_1 + 1)))))) else (impl_NarrowPlaces.l0 k1 l0 l1 a2 a3 t255 x11_1 (l0.length : Int) (wrap64 (x29_1 + 1)))) else (none)) else (none))) = some (r1, r2) := H
            have A14 := Aside0.mk A140
            clear A140
            replace H := Option.bind_eq_some_iff.mp H
            obtain ⟨t259, A150, H⟩ := H
            replace H : (if 0 ≤ x29_1 then (if x29_1 < (l1.length : Int) then (if (rd l1 x29_1) = t255 then ((impl_leaving.f l0 x29_1).bind fun t263 => ((impl_greatest.f t263 t259 a2 a3).bind fun t266 => (if t266 < t255 then (if x11_1.length < 17592186044416 then (impl_NarrowPlaces.l0 k1 l0 l1 a2 a3 t255 (x11_1 ++ [x29_1]) (l0.length : Int) (wrap64 (x29_1 + 1))) else (none)) else (impl_NarrowPlaces.l0 k1 l0 l1 a2 a3 t255 x11_1 (l0.length : Int) (wrap64 (x29_1 + 1)))))) else (impl_NarrowPlaces.l0 k1 l0 l1 a2 a3 t255 x11_1 (l0.length : Int) (wrap64 (x29_1 + 1)))) else (none)) else (none)) = some (r1, r2) := H
            have A15 := Aside0.mk A150
            clear A150
            by_cases c16 : 0 ≤ x29_1
            · rw [if_pos c16] at H
              have c16b0 : decide (0 ≤ x29_1) = true := decide_eq_true c16
              clear c16
              by_cases c17 : x29_1 < (l1.length : Int)
              · rw [if_pos c17] at H
                have c17b0 : decide (x29_1 < (l1.length : Int)) = true := decide_eq_true c17
                clear c17
                by_cases c18 : (rd l1 x29_1) = t255
                · rw [if_pos c18] at H
                  have c18b0 : ((rd l1 x29_1) == t255) = true := beq_iff_eq.mpr c18
                  have c18b1 : ((rd l1 x29_1) != t255) = false := bne_eq_false_iff_eq.mpr c18
                  clear c18
                  replace H := Option.bind_eq_some_iff.mp H
                  obtain ⟨t263, A190, H⟩ := H
                  replace H : ((impl_greatest.f t263 t259 a2 a3).bind fun t266 => (if t266 < t255 then (if x11_1.length < 17592186044416 then (impl_NarrowPlaces.l0 k1 l0 l1 a2 a3 t255 (x11_1 ++ [x29_1]) (l0.length : Int) (wrap64 (x29_1 + 1))) else (none)) else (impl_NarrowPlaces.l0 k1 l0 l1 a2 a3 t255 x11_1 (l0.length : Int) (wrap64 (x29_1 + 1))))) = some (r1, r2) := H
                  have A19 := Aside0.mk A190
                  clear A190
                  replace H := Option.bind_eq_some_iff.mp H
                  obtain ⟨t266, A200, H⟩ := H
                  replace H : (if t266 < t255 then (if x11_1.length < 17592186044416 then (impl_NarrowPlaces.l0 k1 l0 l1 a2 a3 t255 (x11_1 ++ [x29_1]) (l0.length : Int) (wrap64 (x29_1 + 1))) else (none)) else (impl_NarrowPlaces.l0 k1 l0 l1 a2 a3 t255 x11_1 (l0.length : Int) (wrap64 (x29_1 + 1)))) = some (r1, r2) := H
                  have A20 := Aside0.mk A200
                  clear A200
                  by_cases c21 : t266 < t255
                  · rw [if_pos c21] at H
                    have c21b0 : decide (t266 < t255) = true := decide_eq_true c21
                    clear c21
                    by_cases c22 : x11_1.length < 17592186044416
                    · rw [if_pos c22] at H
                      have LMc22 := Aside0.mk c22
                      clear c22
                      obtain ⟨y267, hy267⟩ : ∃ y_ : List Int, y_ = (x11_1 ++ [x29_1]) := ⟨_, rfl⟩
                      replace H : (impl_NarrowPlaces.l0 k1 l0 l1 a2 a3 t255 y267 (l0.length : Int) (wrap64 (x29_1 + 1))) = some (r1, r2) := by first | (rw [hy267]; with_reducible exact H) | (have H2_ := (Option.bind_some _ _).symm.trans H; rw [hy267]; with_reducible exact H2_) | (have H2_ := (Option.bind_some _ _).symm.trans H; with_reducible exact H2_) | with_reducible exact H | (rw [hy267]; exact H) | exact H
                      have Ny267 := Aside0.mk hy267
                      clear hy267
                      have H' := Aside0.mk H
                      clear H
                      go_wp2_with (first | ((with_reducible refine gate_callee (f := 46) rfl ?_); refine goesL_ (some 33) rfl rfl Try.func46 (by kernel_rfl) rfl #[.slice A1 l1.length c1] rfl (by (try simp only [List.map_toArray, List.map_cons, List.map_nil]); first | done | rfl | (simp only [List.length_drop, List.length_take]; rfl)) ?_; (with_reducible refine (slices_Clone_int_int.calls _ _ l1 t256 _ ?side1 ?side2 A14.out).mono ?_); (case side1 => repeat (first | exact (Kd.C_below HR1.out HB.out) | (with_reducible refine Kd.C_alloc ?_ _) | (with_reducible refine Kd.C_drewN ?_ _) | (with_reducible refine Kd.C_drew ?_))); (case side2 => exact HC1.out); rintro e w23 ⟨v257, rfl, ho0, hb⟩; refine ⟨_, rfl, ?_⟩; have n0_ := Aside0.mk (Kd.R_elder' (by (with_reducible repeat (first | apply Kd.R_alloc | apply Kd.R_drewN | apply Kd.R_drew)); exact HO_11.out) (Kd.R_base ho0) hb); have n1_ := Aside0.mk (Kd.R_lower (Kd.R_new' ho0 (Kd.R_lt (by (with_reducible repeat (first | apply Kd.R_alloc | apply Kd.R_drewN | apply Kd.R_drew)); exact HO_11.out))) (below_size (by repeat (first | (with_reducible first | exact HB.out | apply below_alloc | apply pw_below_drewN | apply below_drew1) | exact HB.out)))); have n2_ := Aside0.mk (below_step (by repeat (first | (with_reducible first | exact HB.out | apply below_alloc | apply pw_below_drewN | apply below_drew1) | exact HB.out)) hb); clear HO_11; clear HB; have HO_11 := n0_; have HO258 := n1_; have HB := n2_; clear n0_ n1_ n2_; (try clear hb); (try clear hb2); (try clear hk); (try clear hi); (try clear ho0); obtain ⟨Ao24, co24, eo24⟩ := Kd.R_slice HO258.out; subst eo24) | ((with_reducible refine gate_callee (f := 65) rfl ?_); refine goesL_ (some 37) rfl rfl Try.func65 (by kernel_rfl) rfl #[.slice Ao24 t256.length co24, .int .i64 x29_1, .int .i64 (wrap64 (x29_1 + 1))] rfl (by (try simp only [List.map_toArray, List.map_cons, List.map_nil]); first | done | rfl | (simp only [List.length_drop, List.length_take]; rfl)) ?_; (with_reducible refine (slices_Delete_int_int.calls (fun k_ => some k_ = (.slice Ao24 t256.length co24 : Value).ownBlock) (.slice Ao24 t256.length co24) t256 x29_1 (wrap64 (x29_1 + 1)) t259 w _ ?side1 ?side2 A15.out).mono ?_); (case side1 => repeat (first | (with_reducible first | exact HB.out | apply below_alloc | apply pw_below_drewN | apply below_drew1) | exact HB.out)); (case side2 => exact Kd.R_tight rfl HO258.out); rintro e w25 ⟨v260, rfl, ho0, hb, hkp⟩; refine ⟨_, rfl, ?_⟩; have n0_ := Aside0.mk (Kd.R_mono (ok' := fun k_ => some k_ ≠ (v260 : Value).ownBlock) (Kd.R_keptB (HO_11.out) hkp (fun k_ hk_ hs_ => (hk_.2) hs_)) (fun k_ hk_ => fun e_ => Or.elim (ho0.1 k_ e_.symm) (fun hs_ => hk_.2.1 hs_) (fun hn_ => Nat.not_le.2 hk_.2.2 hn_))); have n1_ := Aside0.mk (Kd.R_mono (ok' := fun k_ => some k_ ≠ (u11 : Value).ownBlock) ho0 (fun k_ hk_ => Or.elim hk_ (fun hs_ => fun e_ => (((HO_11.out).1 k_ e_.symm).2) hs_) (fun hn_ => (Kd.fresh' (Kd.R_lt (by (with_reducible repeat (first | apply Kd.R_alloc | apply Kd.R_drewN | apply Kd.R_drew)); exact HO_11.out)) k_ hn_)))); have n2_ := Aside0.mk (hb); clear HO_11; clear HB; clear HO258; have HO_11 := n0_; have HO261 := n1_; have HB := n2_; clear n0_ n1_ n2_; (try clear hb); (try clear hkp); (try clear ho0); have p262 : 0 ≤ (x29_1 : Int) := of_decide_eq_true (by first | (with_reducible assumption) | assumption); have q262 : x29_1 < (l1.length : Int) := of_decide_eq_true (by first | (with_reducible assumption) | assumption); obtain ⟨ad262, e262, hx262_0⟩ := Kd.at_int HR1.out x29_1 p262 q262; cases e262; replace hx262_0 := (HB.out.cell (World.block_lt_of_cell? w _ hx262_0)).trans hx262_0; replace p262 := eq_true p262; replace q262 := eq_true q262) | (go_at_call 66; (with_reducible refine (impl_leaving.calls _ _ l0 x29_1 t263 _ ?side1 ?side2 A19.out).mono ?_); (case side1 => repeat (first | exact (Kd.C_below HR0.out HB.out) | (with_reducible refine Kd.C_alloc ?_ _) | (with_reducible refine Kd.C_drewN ?_ _) | (with_reducible refine Kd.C_drew ?_))); (case side2 => exact HC0.out); rintro e w26 ⟨v264, rfl, ho0, hb⟩; have n0_ := Aside0.mk (Kd.R_below (by (with_reducible repeat (first | apply Kd.R_alloc | apply Kd.R_drewN | apply Kd.R_drew)); exact HO_11.out) hb); have n1_ := Aside0.mk (Kd.R_below (by (with_reducible repeat (first | apply Kd.R_alloc | apply Kd.R_drewN | apply Kd.R_drew)); exact HO261.out) hb); have n2_ := Aside0.mk (Kd.R_lower ho0 (below_size (by repeat (first | (with_reducible first | exact HB.out | apply below_alloc | apply pw_below_drewN | apply below_drew1) | exact HB.out)))); have n3_ := Aside0.mk (below_step (by repeat (first | (with_reducible first | exact HB.out | apply below_alloc | apply pw_below_drewN | apply below_drew1) | exact HB.out)) hb); clear HO_11; clear HO261; clear HB; have HO_11 := n0_; have HO261 := n1_; have HO265 := n2_; have HB := n3_; clear n0_ n1_ n2_ n3_; (try clear hb); (try clear hb2); (try clear hk); (try clear hi); (try clear ho0); obtain ⟨Ao27, co27, eo27⟩ := Kd.R_slice HO265.out; subst eo27; obtain ⟨Ao28, co28, eo28⟩ := Kd.R_slice HO261.out; subst eo28) | (go_at_call 56; (with_reducible refine (impl_greatest.calls _ _ t263 _ _ t259 a2 a3 t266 _ ?side1 ?side2 ?side3 ?side4 A20.out).mono ?_); (case side1 => repeat (first | exact (Kd.R_reads' HO265.out).2.2 | (with_reducible refine Kd.C_alloc ?_ _) | (with_reducible refine Kd.C_drewN ?_ _) | (with_reducible refine Kd.C_drew ?_))); (case side2 => exact (Kd.R_reads' HO265.out).2.1); (case side3 => repeat (first | exact (Kd.R_reads' HO261.out).2.2 | (with_reducible refine Kd.C_alloc ?_ _) | (with_reducible refine Kd.C_drewN ?_ _) | (with_reducible refine Kd.C_drew ?_))); (case side4 => exact (Kd.R_reads' HO261.out).2.1); rintro e w29 ⟨rfl, hb⟩; have n0_ := Aside0.mk (Kd.R_below (by (with_reducible repeat (first | apply Kd.R_alloc | apply Kd.R_drewN | apply Kd.R_drew)); exact HO_11.out) hb); have n1_ := Aside0.mk (Kd.R_below (by (with_reducible repeat (first | apply Kd.R_alloc | apply Kd.R_drewN | apply Kd.R_drew)); exact HO261.out) hb); have n2_ := Aside0.mk (Kd.R_below (by (with_reducible repeat (first | apply Kd.R_alloc | apply Kd.R_drewN | apply Kd.R_drew)); exact HO265.out) hb); have n3_ := Aside0.mk (below_step (by repeat (first | (with_reducible first | exact HB.out | apply below_alloc | apply pw_below_drewN | apply below_drew1) | exact HB.out)) hb); clear HO_11; clear HO261; clear HO265; clear HB; have HO_11 := n0_; have HO261 := n1_; have HO265 := n2_; have HB := n3_; clear n0_ n1_ n2_ n3_; (try clear hb); (try clear hb2); (try clear hk); (try clear hi)) | ((with_reducible refine gate_builtin (b := .append) (xs := #[.tmp 55, .tmp 57]) rfl ?_); at_builtin; refine Kd.R_append (Kd.int .i64) (w0 := w) w.heap.size rfl (.tmp 55) (.tmp 57) 25 3 (.int .i64 0) 8 rfl Try.underlying25 info3 rfl (by decide) (by omega) u11 x11_1 x29_1 [.int .i64 x29_1] (fun k_ => some k_ ≠ (.slice Ao28 t259.length co28 : Value).ownBlock) (fun _ => False) rfl rfl ?aP (fun _ hk => hk.elim) ?aF ?aO ?aB ?aS ?aL ?_; (case aP => exact rfl); (case aB => exact (by repeat (first | (with_reducible first | exact HB.out | apply below_alloc | apply pw_below_drewN | apply below_drew1) | exact HB.out))); (case aF => exact (fun k_ hk => Kd.fresh' (Kd.R_lt (by (with_reducible repeat (first | apply Kd.R_alloc | apply Kd.R_drewN | apply Kd.R_drew)); exact HO261.out)) k_ hk)); (case aO => exact (by (with_reducible repeat (first | apply Kd.R_alloc | apply Kd.R_drewN | apply Kd.R_drew)); exact HO_11.out)); (case aS => exact (below_size (by repeat (first | (with_reducible first | exact HB.out | apply below_alloc | apply pw_below_drewN | apply below_drew1) | exact HB.out)))); (case aL => have := LMc22.out; omega); intro v268 w30 ho hb hg hat; rw [← Ny267.out] at ho; have n0_ := Aside0.mk (Kd.R_after (ok := (fun _ => True)) (by (with_reducible repeat (first | apply Kd.R_alloc | apply Kd.R_drewN | apply Kd.R_drew)); exact Kd.R_mono HO261.out (fun _ hk => ⟨trivial, hk⟩)) hg hat); have n1_ := Aside0.mk (Kd.R_over' (by (with_reducible repeat (first | apply Kd.R_alloc | apply Kd.R_drewN | apply Kd.R_drew)); exact HO265.out) (Kd.R_typed (by (with_reducible repeat (first | apply Kd.R_alloc | apply Kd.R_drewN | apply Kd.R_drew)); exact HO_11.out)) (by decide) hg); have n2_ := Aside0.mk (hb); have n3_ := Aside0.mk (ho); clear HO261; clear HO265; clear HB; clear HO_11; have HO261 := n0_; have HO265 := n1_; have HB := n2_; have HO269 := n3_; clear n0_ n1_ n2_ n3_; clear ho hb hg hat))
                      go_roundg k1
                      case measure => have := HK1.out; omega
                      case rel => exact ⟨(y267), (wrap64 (x29_1 + 1)), (by first | rfl | (simp; done) | (simp [*]; done)), H', ⟨by have := HK1.out; omega⟩, ⟨by (with_reducible repeat (first | apply Kd.R_alloc | apply Kd.R_drewN | apply Kd.R_drew)); exact Kd.R_mono HO269.out (fun _ hk => trivial)⟩, ⟨by repeat (first | (with_reducible first | exact HB.out | apply below_alloc | apply pw_below_drewN | apply below_drew1) | exact HB.out)⟩⟩
                    · rw [if_neg c22] at H
                      exact absurd H (by simp)
                  · rw [if_neg c21] at H
                    have c21b0 : decide (t266 < t255) = false := decide_eq_false c21
                    clear c21
                    have H' := Aside0.mk H
                    clear H
                    go_wp2_with (first | ((with_reducible refine gate_callee (f := 46) rfl ?_); refine goesL_ (some 33) rfl rfl Try.func46 (by kernel_rfl) rfl #[.slice A1 l1.length c1] rfl (by (try simp only [List.map_toArray, List.map_cons, List.map_nil]); first | done | rfl | (simp only [List.length_drop, List.length_take]; rfl)) ?_; (with_reducible refine (slices_Clone_int_int.calls _ _ l1 t256 _ ?side1 ?side2 A14.out).mono ?_); (case side1 => repeat (first | exact (Kd.C_below HR1.out HB.out) | (with_reducible refine Kd.C_alloc ?_ _) | (with_reducible refine Kd.C_drewN ?_ _) | (with_reducible refine Kd.C_drew ?_))); (case side2 => exact HC1.out); rintro e w31 ⟨v257, rfl, ho0, hb⟩; refine ⟨_, rfl, ?_⟩; have n0_ := Aside0.mk (Kd.R_elder' (by (with_reducible repeat (first | apply Kd.R_alloc | apply Kd.R_drewN | apply Kd.R_drew)); exact HO_11.out) (Kd.R_base ho0) hb); have n1_ := Aside0.mk (Kd.R_lower (Kd.R_new' ho0 (Kd.R_lt (by (with_reducible repeat (first | apply Kd.R_alloc | apply Kd.R_drewN | apply Kd.R_drew)); exact HO_11.out))) (below_size (by repeat (first | (with_reducible first | exact HB.out | apply below_alloc | apply pw_below_drewN | apply below_drew1) | exact HB.out)))); have n2_ := Aside0.mk (below_step (by repeat (first | (with_reducible first | exact HB.out | apply below_alloc | apply pw_below_drewN | apply below_drew1) | exact HB.out)) hb); clear HO_11; clear HB; have HO_11 := n0_; have HO258 := n1_; have HB := n2_; clear n0_ n1_ n2_; (try clear hb); (try clear hb2); (try clear hk); (try clear hi); (try clear ho0); obtain ⟨Ao32, co32, eo32⟩ := Kd.R_slice HO258.out; subst eo32) | ((with_reducible refine gate_callee (f := 65) rfl ?_); refine goesL_ (some 37) rfl rfl Try.func65 (by kernel_rfl) rfl #[.slice Ao32 t256.length co32, .int .i64 x29_1, .int .i64 (wrap64 (x29_1 + 1))] rfl (by (try simp only [List.map_toArray, List.map_cons, List.map_nil]); first | done | rfl | (simp only [List.length_drop, List.length_take]; rfl)) ?_; (with_reducible refine (slices_Delete_int_int.calls (fun k_ => some k_ = (.slice Ao32 t256.length co32 : Value).ownBlock) (.slice Ao32 t256.length co32) t256 x29_1 (wrap64 (x29_1 + 1)) t259 w _ ?side1 ?side2 A15.out).mono ?_); (case side1 => repeat (first | (with_reducible first | exact HB.out | apply below_alloc | apply pw_below_drewN | apply below_drew1) | exact HB.out)); (case side2 => exact Kd.R_tight rfl HO258.out); rintro e w33 ⟨v260, rfl, ho0, hb, hkp⟩; refine ⟨_, rfl, ?_⟩; have n0_ := Aside0.mk (Kd.R_mono (ok' := fun k_ => some k_ ≠ (v260 : Value).ownBlock) (Kd.R_keptB (HO_11.out) hkp (fun k_ hk_ hs_ => (hk_.2) hs_)) (fun k_ hk_ => fun e_ => Or.elim (ho0.1 k_ e_.symm) (fun hs_ => hk_.2.1 hs_) (fun hn_ => Nat.not_le.2 hk_.2.2 hn_))); have n1_ := Aside0.mk (Kd.R_mono (ok' := fun k_ => some k_ ≠ (u11 : Value).ownBlock) ho0 (fun k_ hk_ => Or.elim hk_ (fun hs_ => fun e_ => (((HO_11.out).1 k_ e_.symm).2) hs_) (fun hn_ => (Kd.fresh' (Kd.R_lt (by (with_reducible repeat (first | apply Kd.R_alloc | apply Kd.R_drewN | apply Kd.R_drew)); exact HO_11.out)) k_ hn_)))); have n2_ := Aside0.mk (hb); clear HO_11; clear HB; clear HO258; have HO_11 := n0_; have HO261 := n1_; have HB := n2_; clear n0_ n1_ n2_; (try clear hb); (try clear hkp); (try clear ho0); have p262 : 0 ≤ (x29_1 : Int) := of_decide_eq_true (by first | (with_reducible assumption) | assumption); have q262 : x29_1 < (l1.length : Int) := of_decide_eq_true (by first | (with_reducible assumption) | assumption); obtain ⟨ad262, e262, hx262_0⟩ := Kd.at_int HR1.out x29_1 p262 q262; cases e262; replace hx262_0 := (HB.out.cell (World.block_lt_of_cell? w _ hx262_0)).trans hx262_0; replace p262 := eq_true p262; replace q262 := eq_true q262) | (go_at_call 66; (with_reducible refine (impl_leaving.calls _ _ l0 x29_1 t263 _ ?side1 ?side2 A19.out).mono ?_); (case side1 => repeat (first | exact (Kd.C_below HR0.out HB.out) | (with_reducible refine Kd.C_alloc ?_ _) | (with_reducible refine Kd.C_drewN ?_ _) | (with_reducible refine Kd.C_drew ?_))); (case side2 => exact HC0.out); rintro e w34 ⟨v264, rfl, ho0, hb⟩; have n0_ := Aside0.mk (Kd.R_below (by (with_reducible repeat (first | apply Kd.R_alloc | apply Kd.R_drewN | apply Kd.R_drew)); exact HO_11.out) hb); have n1_ := Aside0.mk (Kd.R_below (by (with_reducible repeat (first | apply Kd.R_alloc | apply Kd.R_drewN | apply Kd.R_drew)); exact HO261.out) hb); have n2_ := Aside0.mk (Kd.R_lower ho0 (below_size (by repeat (first | (with_reducible first | exact HB.out | apply below_alloc | apply pw_below_drewN | apply below_drew1) | exact HB.out)))); have n3_ := Aside0.mk (below_step (by repeat (first | (with_reducible first | exact HB.out | apply below_alloc | apply pw_below_drewN | apply below_drew1) | exact HB.out)) hb); clear HO_11; clear HO261; clear HB; have HO_11 := n0_; have HO261 := n1_; have HO265 := n2_; have HB := n3_; clear n0_ n1_ n2_ n3_; (try clear hb); (try clear hb2); (try clear hk); (try clear hi); (try clear ho0); obtain ⟨Ao35, co35, eo35⟩ := Kd.R_slice HO265.out; subst eo35; obtain ⟨Ao36, co36, eo36⟩ := Kd.R_slice HO261.out; subst eo36) | (go_at_call 56; (with_reducible refine (impl_greatest.calls _ _ t263 _ _ t259 a2 a3 t266 _ ?side1 ?side2 ?side3 ?side4 A20.out).mono ?_); (case side1 => repeat (first | exact (Kd.R_reads' HO265.out).2.2 | (with_reducible refine Kd.C_alloc ?_ _) | (with_reducible refine Kd.C_drewN ?_ _) | (with_reducible refine Kd.C_drew ?_))); (case side2 => exact (Kd.R_reads' HO265.out).2.1); (case side3 => repeat (first | exact (Kd.R_reads' HO261.out).2.2 | (with_reducible refine Kd.C_alloc ?_ _) | (with_reducible refine Kd.C_drewN ?_ _) | (with_reducible refine Kd.C_drew ?_))); (case side4 => exact (Kd.R_reads' HO261.out).2.1); rintro e w37 ⟨rfl, hb⟩; have n0_ := Aside0.mk (Kd.R_below (by (with_reducible repeat (first | apply Kd.R_alloc | apply Kd.R_drewN | apply Kd.R_drew)); exact HO_11.out) hb); have n1_ := Aside0.mk (Kd.R_below (by (with_reducible repeat (first | apply Kd.R_alloc | apply Kd.R_drewN | apply Kd.R_drew)); exact HO261.out) hb); have n2_ := Aside0.mk (Kd.R_below (by (with_reducible repeat (first | apply Kd.R_alloc | apply Kd.R_drewN | apply Kd.R_drew)); exact HO265.out) hb); have n3_ := Aside0.mk (below_step (by repeat (first | (with_reducible first | exact HB.out | apply below_alloc | apply pw_below_drewN | apply below_drew1) | exact HB.out)) hb); clear HO_11; clear HO261; clear HO265; clear HB; have HO_11 := n0_; have HO261 := n1_; have HO265 := n2_; have HB := n3_; clear n0_ n1_ n2_ n3_; (try clear hb); (try clear hb2); (try clear hk); (try clear hi)))
                    go_roundg k1
                    case measure => have := HK1.out; omega
                    case rel => exact ⟨(x11_1), (wrap64 (x29_1 + 1)), (by first | rfl | (simp; done) | (simp [*]; done)), H', ⟨by have := HK1.out; omega⟩, ⟨by (with_reducible repeat (first | apply Kd.R_alloc | apply Kd.R_drewN | apply Kd.R_drew)); exact Kd.R_mono HO_11.out (fun _ hk => trivial)⟩, ⟨by repeat (first | (with_reducible first | exact HB.out | apply below_alloc | apply pw_below_drewN | apply below_drew1) | exact HB.out)⟩⟩
                · rw [if_neg c18] at H
                  have c18b0 : ((rd l1 x29_1) == t255) = false := beq_eq_false_iff_ne.mpr c18
                  have c18b1 : ((rd l1 x29_1) != t255) = true := bne_iff_ne.mpr c18
                  have H' := Aside0.mk H
                  clear H
                  go_wp2_with (first | ((with_reducible refine gate_callee (f := 46) rfl ?_); refine goesL_ (some 33) rfl rfl Try.func46 (by kernel_rfl) rfl #[.slice A1 l1.length c1] rfl (by (try simp only [List.map_toArray, List.map_cons, List.map_nil]); first | done | rfl | (simp only [List.length_drop, List.length_take]; rfl)) ?_; (with_reducible refine (slices_Clone_int_int.calls _ _ l1 t256 _ ?side1 ?side2 A14.out).mono ?_); (case side1 => repeat (first | exact (Kd.C_below HR1.out HB.out) | (with_reducible refine Kd.C_alloc ?_ _) | (with_reducible refine Kd.C_drewN ?_ _) | (with_reducible refine Kd.C_drew ?_))); (case side2 => exact HC1.out); rintro e w38 ⟨v257, rfl, ho0, hb⟩; refine ⟨_, rfl, ?_⟩; have n0_ := Aside0.mk (Kd.R_elder' (by (with_reducible repeat (first | apply Kd.R_alloc | apply Kd.R_drewN | apply Kd.R_drew)); exact HO_11.out) (Kd.R_base ho0) hb); have n1_ := Aside0.mk (Kd.R_lower (Kd.R_new' ho0 (Kd.R_lt (by (with_reducible repeat (first | apply Kd.R_alloc | apply Kd.R_drewN | apply Kd.R_drew)); exact HO_11.out))) (below_size (by repeat (first | (with_reducible first | exact HB.out | apply below_alloc | apply pw_below_drewN | apply below_drew1) | exact HB.out)))); have n2_ := Aside0.mk (below_step (by repeat (first | (with_reducible first | exact HB.out | apply below_alloc | apply pw_below_drewN | apply below_drew1) | exact HB.out)) hb); clear HO_11; clear HB; have HO_11 := n0_; have HO258 := n1_; have HB := n2_; clear n0_ n1_ n2_; (try clear hb); (try clear hb2); (try clear hk); (try clear hi); (try clear ho0); obtain ⟨Ao39, co39, eo39⟩ := Kd.R_slice HO258.out; subst eo39) | ((with_reducible refine gate_callee (f := 65) rfl ?_); refine goesL_ (some 37) rfl rfl Try.func65 (by kernel_rfl) rfl #[.slice Ao39 t256.length co39, .int .i64 x29_1, .int .i64 (wrap64 (x29_1 + 1))] rfl (by (try simp only [List.map_toArray, List.map_cons, List.map_nil]); first | done | rfl | (simp only [List.length_drop, List.length_take]; rfl)) ?_; (with_reducible refine (slices_Delete_int_int.calls (fun k_ => some k_ = (.slice Ao39 t256.length co39 : Value).ownBlock) (.slice Ao39 t256.length co39) t256 x29_1 (wrap64 (x29_1 + 1)) t259 w _ ?side1 ?side2 A15.out).mono ?_); (case side1 => repeat (first | (with_reducible first | exact HB.out | apply below_alloc | apply pw_below_drewN | apply below_drew1) | exact HB.out)); (case side2 => exact Kd.R_tight rfl HO258.out); rintro e w40 ⟨v260, rfl, ho0, hb, hkp⟩; refine ⟨_, rfl, ?_⟩; have n0_ := Aside0.mk (Kd.R_mono (ok' := fun k_ => some k_ ≠ (v260 : Value).ownBlock) (Kd.R_keptB (HO_11.out) hkp (fun k_ hk_ hs_ => (hk_.2) hs_)) (fun k_ hk_ => fun e_ => Or.elim (ho0.1 k_ e_.symm) (fun hs_ => hk_.2.1 hs_) (fun hn_ => Nat.not_le.2 hk_.2.2 hn_))); have n1_ := Aside0.mk (Kd.R_mono (ok' := fun k_ => some k_ ≠ (u11 : Value).ownBlock) ho0 (fun k_ hk_ => Or.elim hk_ (fun hs_ => fun e_ => (((HO_11.out).1 k_ e_.symm).2) hs_) (fun hn_ => (Kd.fresh' (Kd.R_lt (by (with_reducible repeat (first | apply Kd.R_alloc | apply Kd.R_drewN | apply Kd.R_drew)); exact HO_11.out)) k_ hn_)))); have n2_ := Aside0.mk (hb); clear HO_11; clear HB; clear HO258; have HO_11 := n0_; have HO261 := n1_; have HB := n2_; clear n0_ n1_ n2_; (try clear hb); (try clear hkp); (try clear ho0); have p262 : 0 ≤ (x29_1 : Int) := of_decide_eq_true (by first | (with_reducible assumption) | assumption); have q262 : x29_1 < (l1.length : Int) := of_decide_eq_true (by first | (with_reducible assumption) | assumption); obtain ⟨ad262, e262, hx262_0⟩ := Kd.at_int HR1.out x29_1 p262 q262; cases e262; replace hx262_0 := (HB.out.cell (World.block_lt_of_cell? w _ hx262_0)).trans hx262_0; replace p262 := eq_true p262; replace q262 := eq_true q262))
                  go_roundg k1
                  case measure => have := HK1.out; omega
                  case rel => exact ⟨(x11_1), (wrap64 (x29_1 + 1)), (by first | rfl | (simp; done) | (simp [*]; done)), H', ⟨by have := HK1.out; omega⟩, ⟨by (with_reducible repeat (first | apply Kd.R_alloc | apply Kd.R_drewN | apply Kd.R_drew)); exact Kd.R_mono HO_11.out (fun _ hk => trivial)⟩, ⟨by repeat (first | (with_reducible first | exact HB.out | apply below_alloc | apply pw_below_drewN | apply below_drew1) | exact HB.out)⟩⟩
              · rw [if_neg c17] at H
                exact absurd H (by simp)
            · rw [if_neg c16] at H
              exact absurd H (by simp)
          · rw [if_neg c13] at H
            have c13b0 : decide (x29_1 < (l0.length : Int)) = false := decide_eq_false c13
            clear c13
            simp only [Option.some.injEq, Prod.mk.injEq] at H
            obtain ⟨rfl, rfl⟩ := H
            go_wp2
            go_ret2
            exact ⟨_, by first | rfl | (simp [errW_none, errW_some] <;> rfl) | (simp [*, errW_none, errW_some] <;> rfl), by (with_reducible repeat (first | apply Kd.R_alloc | apply Kd.R_drewN | apply Kd.R_drew)); exact HO_11.out, by repeat (first | (with_reducible first | exact HB.out | apply below_alloc | apply pw_below_drewN | apply below_drew1) | exact HB.out)⟩
  · replace c6 := Bool.eq_false_iff.mpr c6
    subst c6
    have H1 : (some (([] : List Int), false)) = some (r1, r2) := by rw [if_neg (show ¬ (false = true) by decide)] at H; exact H
    clear H
    have H := H1
    clear H1
    simp only [Option.some.injEq, Prod.mk.injEq] at H
    obtain ⟨rfl, rfl⟩ := H
    go_enter Try.func25, Try.ntmps25
    go_wp2_with (first | ((with_reducible refine gate_callee (f := 43) rfl ?_); refine goesL_ (some 18) rfl rfl Try.func43 (by kernel_rfl) rfl #[.slice A0 l0.length c0, .slice A1 l1.length c1, .int .i64 a2, .int .i64 a3] rfl (by (try simp only [List.map_toArray, List.map_cons, List.map_nil]); first | done | rfl | (simp only [List.length_drop, List.length_take]; rfl)) ?_; (with_reducible refine (impl_areEnds.calls k _ _ l0 _ _ l1 a2 a3 false _ ?side1 ?side2 ?side3 ?side4 A5.out).mono ?_); (case side1 => repeat (first | exact HR0.out | (with_reducible refine Kd.C_alloc ?_ _) | (with_reducible refine Kd.C_drewN ?_ _) | (with_reducible refine Kd.C_drew ?_))); (case side2 => exact HC0.out); (case side3 => repeat (first | exact HR1.out | (with_reducible refine Kd.C_alloc ?_ _) | (with_reducible refine Kd.C_drewN ?_ _) | (with_reducible refine Kd.C_drew ?_))); (case side4 => exact HC1.out); rintro e w41 ⟨rfl, hb⟩; refine ⟨_, rfl, ?_⟩; have n0_ := Aside0.mk (below_step (by repeat (first | (with_reducible first | exact HB.out | apply below_alloc | apply pw_below_drewN | apply below_drew1) | exact HB.out)) hb); clear HB; have HB := n0_; clear n0_; (try clear hb); (try clear hb2); (try clear hk); (try clear hi)))
    go_ret2
    exact ⟨_, by first | rfl | (simp [errW_none, errW_some] <;> rfl) | (simp [*, errW_none, errW_some] <;> rfl), by first | exact Kd.R_nil _ _ _ _ _ | exact Kd.N_nil _ _ _ _ _ | exact Kd.V_nil _ _ _ _ _ | exact Kd.Q_nil _ _ _ _ _ | exact Kd.S_nil _ _ _ _ _, by repeat (first | (with_reducible first | exact HB.out | apply below_alloc | apply pw_below_drewN | apply below_drew1) | exact HB.out)⟩

end Go.Proofs.Ytfgkpokjhihaaaa.MN
